/- part -/
import Derived.Test.YtgdcjlldafmomaaGreatBase
noncomputable section
namespace Go.Proofs.YtgdcjlldafmomaaGreat
open Go.Ax
def f35(a0:Int):Option ib:=
 some (0,4,a0,())
def s1:SS:=⟨5,45,[tP 2 18],[(18,bV bu)],[]⟩
def Yu:aW:=aF G [.cell 2 72] 35 [vI] [] 45 s1 [] (.bH (u1 f35))
theorem Yv:hS Yu:=
 cO (hR []) hz aJ Tryz.call35 Tryz.func35
def f17:Option bO:=
 aG (U:=ZG×ZB) (some (.brk ([[120]],[([115],[120],0,1,[([115,101,108,102],(3,0,4095,[],(-1:Int),([]:ZG),()),Ty.aD Lq,()),([97],(1,0,9,[],(-1:Int),([]:ZG),()),Ty.aD Lq,()),([98],(1,0,9,[],(-1:Int),([]:ZG),()),Ty.aD Lq,())],([]:List jj),())]))) fun⟨a,b⟩=>Option.bind (f35 (1:Int)) fun y2=>Option.bind (f35 (2:Int)) fun y3=>Option.bind (f35 (1:Int)) fun y4=>some (((a,([]:Zr),b,([]:Zm),([]:ZC),([]:ZA),()),[(0:Int)],()),[(y2,7,(2,10,()),10,0,()),(y3,8,(2,10,()),10,1,()),(y4,6,(5,6,()),20,0,())],())
def s2:SS:=⟨35,75,[tP 0 16,tP 2 18],[(16,.var fp (.cons (.cons (.cons .bA (.cons .bA (.cons .bA (.cons .bA (.cons .bA (.cons .bA .nil)))))) (.cons .bA .nil)) (.cons .bA .nil))),(18,.var gS (.cons (.own 22) (.cons .bA (.cons (.own 31) (.cons .bA (.cons .bA (.cons .bA .nil))))))),(22,.row 9 16 .str),(31,.row 103 96 bJ)],[]⟩
def s3:SS:=⟨35,75,[tP 0 16],[(16,bV fp)],[]⟩
def Yw:aW:=aF G [.cell 0 35] 17 [] [] 75 s3 [] (.bH (fun _=>f17))
theorem Yx:hS Yw:=
 cO ⟨[(2,⟨[],[(9,14,bJ)],[],none,[],[],[]⟩),hE 5 [cA 0,cA 0,cA 0]],[(3,s2)],[],[],[],[]⟩ (hq Yv hz) aJ Tryz.call17 Tryz.func17
def ER:Nat→Int×Ze×Int×Int×mX→Option (cW mX Bool):=aK fun abG ⟨d,c,b,a,e⟩=>if(decide (a<b))=true then(if 0≤a then(if a<(List.length c:Int) then(if(decide ((nth (.int .i64) c a)≤d))=true then(cn (some false)) else(abG (nth (.int .i64) c a,c,b,aZ (a+1),e))) else none) else none) else(some (.brk e))
def f20(a0:mX):Zl:=
 aG (U:=mX) (ER (Int.toNat (List.length a0.2.2.2.2.2.2.2.1:Int)+1) ((-1:Int),a0.2.2.2.2.2.2.2.1,(List.length a0.2.2.2.2.2.2.2.1:Int),0,a0)) fun v1=>some (decide ((List.length v1.2.2.2.2.2.2.2.1:Int)=(List.length v1.2.2.2.2.2.2.2.2.1:Int)))
def s4:SS:=⟨25,65,[tP 1 17],[(17,bV ji)],[]⟩
def s5:SS:=⟨25,65,[tP 1 17,tI 3,(7,.val (.slice 8 (.int .i64))),tI 8,tI 9],[(17,bV ji)],[]⟩
def s6:SS:=⟨25,65,[(2,vB)],[],[]⟩
def Yy:aW:=aF G [.tmp 2] 20 [.val ji] [] 65 s6 [] (.bH (u1 f20))
theorem Xo:hS Yy:=
 cO ⟨[],[(9,s4)],[],[(3,⟨s5,fun u2=>Int.toNat u2.2.2.1+1⟩)],[],[]⟩ hz aJ Tryz.call20 Tryz.func20
def wO(a0:cQ)(a1:Int):Zl:=
 some (decide (a0.2.1=a1))
def s7:SS:=⟨8,48,[(3,vB)],[],[]⟩
def HI:aW:=aF G [.tmp 3] 109 [.val bD,.bN (.int .i64)] [] 48 s7 [] (.bH (u2 wO))
theorem HJ:hS HI:=
 cO (hR []) hz aJ Tryz.call109 Tryz.func109
def Ay:Nat→Zm×Int×ZY→Option (cW Unit Int):=aK fun abG ⟨c,d,b,a⟩=>if(decide (a<b))=true then(if 0≤a then(if a<(List.length c:Int) then(Option.bind (wO (nth bD c a) d) fun y4=>if y4=true then(cn (some a)) else(abG (c,d,b,aZ (a+1)))) else none) else none) else(some (.brk ()))
def wP(a0:Zm)(a1:Int):ZM:=
 aG (U:=Unit) (Ay (Int.toNat (List.length a0:Int)+1) (a0,a1,(List.length a0:Int),0)) fun _=>some (-1:Int)
def s8:SS:=⟨19,59,[],[],[]⟩
def s9:SS:=⟨19,59,[(0,.val (.slice 96 bD)),(1,.func 109 .nil (.cons (.bN (.int .i64)) .nil)),tI 7,tI 8],[],[]⟩
def Yz:SS:=⟨19,59,[tI 4],[],[]⟩
def HK:aW:=aF G [.tmp 4] 161 [.val (.slice 96 bD),.func 109 .nil (.cons (.bN (.int .i64)) .nil)] [] 59 Yz [] (.bH (u2 wP))
theorem HL:hS HK:=
 cO ⟨[hA 4 0],[(7,s8)],[],[(2,⟨s9,fun u2=>Int.toNat u2.2.2.1+1⟩)],[],[]⟩ (hq HJ hz) aJ Tryz.call161 Tryz.func161
def rR(a0:Zm)(a1:Int):Zl:=
 Option.bind (wP a0 a1) fun y1=>some (decide ((0:Int)≤y1))
def YA:SS:=⟨9,49,[(4,vB)],[],[]⟩
def HM:aW:=aF G [.tmp 4] 108 [.val (.slice 96 bD),.func 109 .nil (.cons (.bN (.int .i64)) .nil)] [] 49 YA [] (.bH (u2 rR))
theorem HN:hS HM:=
 cO (hR [hA 1 0]) (hq HL hz) aJ Tryz.call108 Tryz.func108
def f66(a0:cY)(a1:Int):ZM:=
 Option.bind (α:=Bool) (if(decide ((0:Int)≤a1))=true then(if(decide (a1<(List.length a0.2.2.1:Int)))=true then(Option.bind (rR a0.2.2.2.1 a1) fun y1=>some y1) else(some false)) else(some false)) fun v2=>if v2=true then(some (1:Int)) else(some (0:Int))
def Tg:SS:=⟨20,60,[tI 4],[],[]⟩
def YB:aW:=aF G [.tmp 4] 66 [.val gS,vI] [] 60 Tg [] (.bH (u2 f66))
theorem YD:hS YB:=
 cO (hR [hD 1 19 [cA 0]]) (hq HN hz) aJ Tryz.call66 Tryz.func66
def f182(a0:Zg):Option Zg:=
 some a0
def YE:SS:=⟨4,44,[(2,.val .str)],[],[]⟩
def Th:aW:=aF G [.tmp 2] 182 [.val .str] [] 44 YE [] (.bH (u1 f182))
theorem Ti:hS Th:=
 cO (hR []) hz aJ Tryz.call182 Tryz.func182
def Az:Nat→Bool×ZG×Int×Int×Zo→ZX:=aK fun abG ⟨e,c,b,a,d⟩=>if(decide (a<b))=true then(if 0≤a then(if a<(List.length c:Int) then(Option.bind (f182 (nth .str c a)) fun y4=>if(cJ .str y4 d)=true then(abG (true,c,b,aZ (a+1),d)) else(Option.bind (f182 (nth .str c a)) fun y5=>if List.length d+1≤aE then(abG (e,c,b,aZ (a+1),bE .str y5 a d)) else none)) else none) else none) else(some (.brk (e,d)))
def wQ(a0:ZG):Option (Za×Bool):=
 aG (U:=Bool×Zo) (Az (Int.toNat (List.length a0:Int)+1) (false,a0,(List.length a0:Int),0,([]:Zo))) fun⟨b,a⟩=>some (some a,b)
def YF:SS:=⟨37,77,[(4,.mp 28),(5,vB)],[(28,.map .str (.int .i64))],[]⟩
def YG:SS:=⟨37,77,[(1,.func 182 .nil .nil),(4,.mp 28),(5,vB),(13,.val (.slice 16 .str)),tI 14,tI 15],[(28,.map .str (.int .i64))],[]⟩
def YH:SS:=⟨37,77,[(4,vM),(5,vB)],[],[]⟩
def HO:aW:=aF G [.tmp 4,.tmp 5] 181 [.val (.slice 16 .str),.func 182 .nil .nil] [] 77 YH [] (.bH (u1 wQ))
theorem HP:hS HO:=
 cO ⟨[hA 5 0,hA 8 0],[(10,YF)],[],[(3,⟨YG,fun u2=>Int.toNat u2.2.2.1+1⟩)],[],[]⟩ (hq Ti hz) aJ Tryz.call181 Tryz.func181
def f184(a0:gU):Option Zg:=
 some a0.1
def YI:SS:=⟨5,45,[(2,.val .str)],[],[]⟩
def Tj:aW:=aF G [.tmp 2] 184 [.val aS] [] 45 YI [] (.bH (u1 f184))
theorem Tk:hS Tj:=
 cO (hR []) hz aJ Tryz.call184 Tryz.func184
def AA:Nat→Bool×Zr×Int×Int×Zo→ZX:=aK fun abG ⟨e,c,b,a,d⟩=>if(decide (a<b))=true then(if 0≤a then(if a<(List.length c:Int) then(Option.bind (f184 (nth aS c a)) fun y4=>if(cJ .str y4 d)=true then(abG (true,c,b,aZ (a+1),d)) else(Option.bind (f184 (nth aS c a)) fun y5=>if List.length d+1≤aE then(abG (e,c,b,aZ (a+1),bE .str y5 a d)) else none)) else none) else none) else(some (.brk (e,d)))
def wR(a0:Zr):Option (Za×Bool):=
 aG (U:=Bool×Zo) (AA (Int.toNat (List.length a0:Int)+1) (false,a0,(List.length a0:Int),0,([]:Zo))) fun⟨b,a⟩=>some (some a,b)
def YJ:SS:=⟨37,77,[(4,.mp 28),(5,vB)],[(28,.map .str (.int .i64))],[]⟩
def YK:SS:=⟨37,77,[(1,.func 184 .nil .nil),(4,.mp 28),(5,vB),(13,.val (.slice 56 aS)),tI 14,tI 15],[(28,.map .str (.int .i64))],[]⟩
def YL:SS:=⟨37,77,[(4,vM),(5,vB)],[],[]⟩
def HQ:aW:=aF G [.tmp 4,.tmp 5] 183 [.val (.slice 56 aS),.func 184 .nil .nil] [] 77 YL [] (.bH (u1 wR))
theorem HR:hS HQ:=
 cO ⟨[hA 5 0,hA 8 0],[(10,YJ)],[],[(3,⟨YK,fun u2=>Int.toNat u2.2.2.1+1⟩)],[],[]⟩ (hq Tk hz) aJ Tryz.call183 Tryz.func183
def f186(a0:ll):Option Zg:=
 some a0.1
def YM:SS:=⟨5,45,[(2,.val .str)],[],[]⟩
def Tl:aW:=aF G [.tmp 2] 186 [.val bJ] [] 45 YM [] (.bH (u1 f186))
theorem Tm:hS Tl:=
 cO (hR []) hz aJ Tryz.call186 Tryz.func186
def AB:Nat→Bool×ZB×Int×Int×Zo→ZX:=aK fun abG ⟨e,c,b,a,d⟩=>if(decide (a<b))=true then(if 0≤a then(if a<(List.length c:Int) then(Option.bind (f186 (nth bJ c a)) fun y4=>if(cJ .str y4 d)=true then(abG (true,c,b,aZ (a+1),d)) else(Option.bind (f186 (nth bJ c a)) fun y5=>if List.length d+1≤aE then(abG (e,c,b,aZ (a+1),bE .str y5 a d)) else none)) else none) else none) else(some (.brk (e,d)))
def wS(a0:ZB):Option (Za×Bool):=
 aG (U:=Bool×Zo) (AB (Int.toNat (List.length a0:Int)+1) (false,a0,(List.length a0:Int),0,([]:Zo))) fun⟨b,a⟩=>some (some a,b)
def YN:SS:=⟨37,77,[(4,.mp 28),(5,vB)],[(28,.map .str (.int .i64))],[]⟩
def YO:SS:=⟨37,77,[(1,.func 186 .nil .nil),(4,.mp 28),(5,vB),(13,.val (.slice 96 bJ)),tI 14,tI 15],[(28,.map .str (.int .i64))],[]⟩
def YP:SS:=⟨37,77,[(4,vM),(5,vB)],[],[]⟩
def HS:aW:=aF G [.tmp 4,.tmp 5] 185 [.val (.slice 96 bJ),.func 186 .nil .nil] [] 77 YP [] (.bH (u1 wS))
theorem HT:hS HS:=
 cO ⟨[hA 5 0,hA 8 0],[(10,YN)],[],[(3,⟨YO,fun u2=>Int.toNat u2.2.2.1+1⟩)],[],[]⟩ (hq Tm hz) aJ Tryz.call185 Tryz.func185
def f188(a0:nj):Option Zg:=
 some a0.1
def YQ:SS:=⟨5,45,[(2,.val .str)],[],[]⟩
def Tn:aW:=aF G [.tmp 2] 188 [.val du] [] 45 YQ [] (.bH (u1 f188))
theorem To:hS Tn:=
 cO (hR []) hz aJ Tryz.call188 Tryz.func188
def AD:Nat→Bool×ZA×Int×Int×Zo→ZX:=aK fun abG ⟨e,c,b,a,d⟩=>if(decide (a<b))=true then(if 0≤a then(if a<(List.length c:Int) then(Option.bind (f188 (nth du c a)) fun y4=>if(cJ .str y4 d)=true then(abG (true,c,b,aZ (a+1),d)) else(Option.bind (f188 (nth du c a)) fun y5=>if List.length d+1≤aE then(abG (e,c,b,aZ (a+1),bE .str y5 a d)) else none)) else none) else none) else(some (.brk (e,d)))
def wT(a0:ZA):Option (Za×Bool):=
 aG (U:=Bool×Zo) (AD (Int.toNat (List.length a0:Int)+1) (false,a0,(List.length a0:Int),0,([]:Zo))) fun⟨b,a⟩=>some (some a,b)
def YR:SS:=⟨37,77,[(4,.mp 28),(5,vB)],[(28,.map .str (.int .i64))],[]⟩
def YS:SS:=⟨37,77,[(1,.func 188 .nil .nil),(4,.mp 28),(5,vB),(13,.val (.slice 48 du)),tI 14,tI 15],[(28,.map .str (.int .i64))],[]⟩
def YT:SS:=⟨37,77,[(4,vM),(5,vB)],[],[]⟩
def HU:aW:=aF G [.tmp 4,.tmp 5] 187 [.val (.slice 48 du),.func 188 .nil .nil] [] 77 YT [] (.bH (u1 wT))
theorem HV:hS HU:=
 cO ⟨[hA 5 0,hA 8 0],[(10,YR)],[],[(3,⟨YS,fun u2=>Int.toNat u2.2.2.1+1⟩)],[],[]⟩ (hq To hz) aJ Tryz.call187 Tryz.func187
def f190(a0:MO):Option Zg:=
 some a0.1
def YU:SS:=⟨5,45,[(2,.val .str)],[],[]⟩
def Tq:aW:=aF G [.tmp 2] 190 [.val eo] [] 45 YU [] (.bH (u1 f190))
theorem Tr:hS Tq:=
 cO (hR []) hz aJ Tryz.call190 Tryz.func190
def AE:Nat→Bool×ZD×Int×Int×Zo→ZX:=aK fun abG ⟨e,c,b,a,d⟩=>if(decide (a<b))=true then(if 0≤a then(if a<(List.length c:Int) then(Option.bind (f190 (nth eo c a)) fun y4=>if(cJ .str y4 d)=true then(abG (true,c,b,aZ (a+1),d)) else(Option.bind (f190 (nth eo c a)) fun y5=>if List.length d+1≤aE then(abG (e,c,b,aZ (a+1),bE .str y5 a d)) else none)) else none) else none) else(some (.brk (e,d)))
def wU(a0:ZD):Option (Za×Bool):=
 aG (U:=Bool×Zo) (AE (Int.toNat (List.length a0:Int)+1) (false,a0,(List.length a0:Int),0,([]:Zo))) fun⟨b,a⟩=>some (some a,b)
def YV:SS:=⟨37,77,[(4,.mp 28),(5,vB)],[(28,.map .str (.int .i64))],[]⟩
def YW:SS:=⟨37,77,[(1,.func 190 .nil .nil),(4,.mp 28),(5,vB),(13,.val (.slice 120 eo)),tI 14,tI 15],[(28,.map .str (.int .i64))],[]⟩
def YX:SS:=⟨37,77,[(4,vM),(5,vB)],[],[]⟩
def HX:aW:=aF G [.tmp 4,.tmp 5] 189 [.val (.slice 120 eo),.func 190 .nil .nil] [] 77 YX [] (.bH (u1 wU))
theorem HY:hS HX:=
 cO ⟨[hA 5 0,hA 8 0],[(10,YV)],[],[(3,⟨YW,fun u2=>Int.toNat u2.2.2.1+1⟩)],[],[]⟩ (hq Tr hz) aJ Tryz.call189 Tryz.func189
def f192(a0:xI):Option Zg:=
 some a0.1
def YY:SS:=⟨5,45,[(2,.val .str)],[],[]⟩
def Ts:aW:=aF G [.tmp 2] 192 [.val aL] [] 45 YY [] (.bH (u1 f192))
theorem Tt:hS Ts:=
 cO (hR []) hz aJ Tryz.call192 Tryz.func192
def AF:Nat→Bool×Zv×Int×Int×Zo→ZX:=aK fun abG ⟨e,c,b,a,d⟩=>if(decide (a<b))=true then(if 0≤a then(if a<(List.length c:Int) then(Option.bind (f192 (nth aL c a)) fun y4=>if(cJ .str y4 d)=true then(abG (true,c,b,aZ (a+1),d)) else(Option.bind (f192 (nth aL c a)) fun y5=>if List.length d+1≤aE then(abG (e,c,b,aZ (a+1),bE .str y5 a d)) else none)) else none) else none) else(some (.brk (e,d)))
def wV(a0:Zv):Option (Za×Bool):=
 aG (U:=Bool×Zo) (AF (Int.toNat (List.length a0:Int)+1) (false,a0,(List.length a0:Int),0,([]:Zo))) fun⟨b,a⟩=>some (some a,b)
def YZ:SS:=⟨37,77,[(4,.mp 28),(5,vB)],[(28,.map .str (.int .i64))],[]⟩
def Y0:SS:=⟨37,77,[(1,.func 192 .nil .nil),(4,.mp 28),(5,vB),(13,.val (.slice 96 aL)),tI 14,tI 15],[(28,.map .str (.int .i64))],[]⟩
def Y1:SS:=⟨37,77,[(4,vM),(5,vB)],[],[]⟩
def HZ:aW:=aF G [.tmp 4,.tmp 5] 191 [.val (.slice 96 aL),.func 192 .nil .nil] [] 77 Y1 [] (.bH (u1 wV))
theorem H3:hS HZ:=
 cO ⟨[hA 5 0,hA 8 0],[(10,YZ)],[],[(3,⟨Y0,fun u2=>Int.toNat u2.2.2.1+1⟩)],[],[]⟩ (hq Tt hz) aJ Tryz.call191 Tryz.func191
def j6:Nat→Bool×ZB×Int×Int×cY×I0→Option (cW (Bool×cY×I0) (Bool×I0)):=aK fun rec10 ⟨g,e,d,c,h,i,j,k,f⟩=>if(decide (c<d))=true then(if 0≤c then(if c<(List.length e:Int) then(Option.bind (wU (nth bJ e c).2.2.2.2.1) fun⟨a,b⟩=>if(List.length f+List.length [a])*8≤aE then(Option.bind (α:=Bool) (if g=true then(some true) else(some b)) fun v12=>rec10 (v12,e,d,aZ (c+1),h,i,j,k,f++[a])) else none) else none) else none) else(some (.brk (g,h,i,j,k,f)))
def j7:Nat→Bool×Zm×Int×Int×I0→Option (cW (Bool×I0) (Bool×I0)):=aK fun rec15 ⟨e,d,c,b,f,g,h,i⟩=>if(decide (b<c))=true then(if 0≤b then(if b<(List.length d:Int) then(Option.bind (wV (nth bD d b).2.2.1) fun⟨_,a⟩=>Option.bind (α:=Bool) (if e=true then(some true) else(some a)) fun v17=>rec15 (v17,d,c,aZ (b+1),f,g,h,i)) else none) else none) else(some (.brk (e,f,g,h,i)))
def rS(a0:cY):Option (Bool×I0):=
 Option.bind (wQ a0.1) fun⟨b,a⟩=>Option.bind (wR a0.2.1) fun⟨d,c⟩=>Option.bind (α:=Bool) (if a=true then(some true) else(some c)) fun v3=>Option.bind (wS a0.2.2.1) fun⟨f,e⟩=>Option.bind (α:=Bool) (if v3=true then(some true) else(some e)) fun v5=>Option.bind (wT a0.2.2.2.2.2.1) fun⟨_,g⟩=>Option.bind (α:=Bool) (if v5=true then(some true) else(some g)) fun v7=>aG (U:=Bool×cY×I0) (j6 (Int.toNat (List.length a0.2.2.1:Int)+1) (v7,a0.2.2.1,(List.length a0.2.2.1:Int),0,a0,b,d,f,([]:Zu))) fun⟨i,h,j,k,l,m⟩=>aG (U:=Bool×I0) (j7 (Int.toNat (List.length h.2.2.2.1:Int)+1) (i,h.2.2.2.1,(List.length h.2.2.2.1:Int),0,j,k,l,m)) fun⟨n,o,p,q,r⟩=>some (n,o,p,q,r)
def Y2:SS:=⟨108,148,[tP 1 17,tP 2 30,(3,vB)],[(17,bV gS),(30,rB 125),(125,.row 240 8 (.map .str (.int .i64)))],[]⟩
def Xp:SS:=⟨108,148,[tP 2 30,(3,vB)],[(30,rB 125),(125,.row 240 8 (.map .str (.int .i64)))],[]⟩
def Y3:SS:=⟨108,148,[tP 1 17,tP 2 30,(3,vB),(61,.val (.slice 96 bJ)),tI 62,tI 63],[(17,bV gS),(30,rB 124),(124,.row 240 8 (.map .str (.int .i64)))],[]⟩
def Y4:SS:=⟨108,148,[tP 2 30,(3,vB),(89,.val (.slice 96 bD)),tI 90,tI 91],[(30,rB 125),(125,.row 240 8 (.map .str (.int .i64)))],[]⟩
def BZ:aW:=aF G [.tmp 2,.tmp 3] 118 [.val gS] [] 148 Xp [30,125] (.bH (u1 rS))
theorem H4:hS BZ:=
 cO ⟨[hA 3 0,hA 4 1,hD 5 3 [],hA 6 2,hD 7 3 [],hA 8 3,hD 9 3 [],hA 13 4,hD 15 3 [],hA 20 5,hD 21 3 []],[(17,Y2),(23,Xp)],[],[(11,⟨Y3,fun u9=>Int.toNat u9.2.2.1+1⟩),(18,⟨Y4,fun NW=>Int.toNat NW.2.2.1+1⟩)],[],[]⟩ (hq HP (hq HR (hq HT (hq HV (hq HY (hq H3 hz)))))) aJ Tryz.call118 Tryz.func118
def wW(a0:ZG):Option ZG:=
 if(List.length ([]:ZG)+List.length a0)*16≤aE then some a0 else none
def Y5:SS:=⟨8,48,[(2,.own 23)],[(23,.row 9 16 .str)],[]⟩
def B0:aW:=aF G [.tmp 2] 120 [.val (.slice 16 .str)] [] 48 Y5 [23] (.bH (u1 wW))
theorem H5:hS B0:=
 aW.jw tied (H:=⟨[],[],[],[],[],[]⟩) (hold (l:=[]) trivial) rfl (.tmp 0) 3 4 22 22 9 16 .str (fun d=>d.1) (fun d=>⟨(.val (.slice 16 .str) d.1)::.bot::.bA::List.replicate 5 .bot,List.replicate 48 none,[]⟩) Tryz.call120 Tryz.func120 rfl rfl rfl rfl rfl rfl rfl rfl rfl rfl (by kernel_rfl) (fun _=>by kernel_rfl) (fun _=>by kernel_rfl) (fun _=>rfl) (fun _=>by kernel_rfl) (fun _ _=>by kernel_rfl) (fun d h=>by obtain⟨x,y⟩:=d;cases(h:x= []);kernel_rfl) (fun _=>by kernel_rfl)
def wX(a0:Zr):Option Zr:=
 if(List.length ([]:Zr)+List.length a0)*56≤aE then some a0 else none
def Y6:SS:=⟨8,48,[(2,.own 23)],[(23,.row 180 56 aS)],[]⟩
def B1:aW:=aF G [.tmp 2] 121 [.val (.slice 56 aS)] [] 48 Y6 [23] (.bH (u1 wX))
theorem H6:hS B1:=
 aW.jw tied (H:=⟨[],[],[],[],[],[]⟩) (hold (l:=[]) trivial) rfl (.tmp 0) 3 4 23 23 180 56 aS (fun d=>d.1) (fun d=>⟨(.val (.slice 56 aS) d.1)::.bot::.bA::List.replicate 5 .bot,List.replicate 48 none,[]⟩) Tryz.call121 Tryz.func121 rfl rfl rfl rfl rfl rfl rfl rfl rfl rfl (by kernel_rfl) (fun _=>by kernel_rfl) (fun _=>by kernel_rfl) (fun _=>rfl) (fun _=>by kernel_rfl) (fun _ _=>by kernel_rfl) (fun d h=>by obtain⟨x,y⟩:=d;cases(h:x= []);kernel_rfl) (fun _=>by kernel_rfl)
def wY(a0:ZB):Option ZB:=
 if(List.length ([]:ZB)+List.length a0)*96≤aE then some a0 else none
def Y7:SS:=⟨8,48,[(2,.own 23)],[(23,.row 103 96 bJ)],[]⟩
def B2:aW:=aF G [.tmp 2] 122 [.val (.slice 96 bJ)] [] 48 Y7 [23] (.bH (u1 wY))
theorem H7:hS B2:=
 aW.jw tied (H:=⟨[],[],[],[],[],[]⟩) (hold (l:=[]) trivial) rfl (.tmp 0) 3 4 24 24 103 96 bJ (fun d=>d.1) (fun d=>⟨(.val (.slice 96 bJ) d.1)::.bot::.bA::List.replicate 5 .bot,List.replicate 48 none,[]⟩) Tryz.call122 Tryz.func122 rfl rfl rfl rfl rfl rfl rfl rfl rfl rfl (by kernel_rfl) (fun _=>by kernel_rfl) (fun _=>by kernel_rfl) (fun _=>rfl) (fun _=>by kernel_rfl) (fun _ _=>by kernel_rfl) (fun d h=>by obtain⟨x,y⟩:=d;cases(h:x= []);kernel_rfl) (fun _=>by kernel_rfl)
def wZ(a0:Zm):Option Zm:=
 if(List.length ([]:Zm)+List.length a0)*96≤aE then some a0 else none
def Y8:SS:=⟨8,48,[(2,.own 23)],[(23,.row 114 96 bD)],[]⟩
def B3:aW:=aF G [.tmp 2] 123 [.val (.slice 96 bD)] [] 48 Y8 [23] (.bH (u1 wZ))
theorem H8:hS B3:=
 aW.jw tied (H:=⟨[],[],[],[],[],[]⟩) (hold (l:=[]) trivial) rfl (.tmp 0) 3 4 25 25 114 96 bD (fun d=>d.1) (fun d=>⟨(.val (.slice 96 bD) d.1)::.bot::.bA::List.replicate 5 .bot,List.replicate 48 none,[]⟩) Tryz.call123 Tryz.func123 rfl rfl rfl rfl rfl rfl rfl rfl rfl rfl (by kernel_rfl) (fun _=>by kernel_rfl) (fun _=>by kernel_rfl) (fun _=>rfl) (fun _=>by kernel_rfl) (fun _ _=>by kernel_rfl) (fun d h=>by obtain⟨x,y⟩:=d;cases(h:x= []);kernel_rfl) (fun _=>by kernel_rfl)
def w6(a0:ZC):Option ZC:=
 if(List.length ([]:ZC)+List.length a0)*72≤aE then some a0 else none
def Y9:SS:=⟨8,48,[(2,.own 23)],[(23,.row 195 72 eZ)],[]⟩
def B4:aW:=aF G [.tmp 2] 124 [.val (.slice 72 eZ)] [] 48 Y9 [23] (.bH (u1 w6))
theorem H9:hS B4:=
 aW.jw tied (H:=⟨[],[],[],[],[],[]⟩) (hold (l:=[]) trivial) rfl (.tmp 0) 3 4 26 26 195 72 eZ (fun d=>d.1) (fun d=>⟨(.val (.slice 72 eZ) d.1)::.bot::.bA::List.replicate 5 .bot,List.replicate 48 none,[]⟩) Tryz.call124 Tryz.func124 rfl rfl rfl rfl rfl rfl rfl rfl rfl rfl (by kernel_rfl) (fun _=>by kernel_rfl) (fun _=>by kernel_rfl) (fun _=>rfl) (fun _=>by kernel_rfl) (fun _ _=>by kernel_rfl) (fun d h=>by obtain⟨x,y⟩:=d;cases(h:x= []);kernel_rfl) (fun _=>by kernel_rfl)
def w7(a0:ZA):Option ZA:=
 if(List.length ([]:ZA)+List.length a0)*48≤aE then some a0 else none
def Z0:SS:=⟨8,48,[(2,.own 23)],[(23,.row 188 48 du)],[]⟩
def B5:aW:=aF G [.tmp 2] 125 [.val (.slice 48 du)] [] 48 Z0 [23] (.bH (u1 w7))
theorem Ia:hS B5:=
 aW.jw tied (H:=⟨[],[],[],[],[],[]⟩) (hold (l:=[]) trivial) rfl (.tmp 0) 3 4 27 27 188 48 du (fun d=>d.1) (fun d=>⟨(.val (.slice 48 du) d.1)::.bot::.bA::List.replicate 5 .bot,List.replicate 48 none,[]⟩) Tryz.call125 Tryz.func125 rfl rfl rfl rfl rfl rfl rfl rfl rfl rfl (by kernel_rfl) (fun _=>by kernel_rfl) (fun _=>by kernel_rfl) (fun _=>rfl) (fun _=>by kernel_rfl) (fun _ _=>by kernel_rfl) (fun d h=>by obtain⟨x,y⟩:=d;cases(h:x= []);kernel_rfl) (fun _=>by kernel_rfl)
def f193(a0:Za)(a1:Zg):Option (Sum ZS Int):=
 if(!(cJ .str a1 (bU a0)))=true then(some (.inl ((),()))) else(some (.inr (bz .str (.int .i64) a1 (bU a0))))
def Z1:SS:=⟨18,58,[tI 4],[],[]⟩
def uB:aW:=aF G [.tmp 4] 193 [vM,.val .str] [] 58 Z1 [] (.kr (.iface 229 (.val .unit)) (u2 f193))
theorem w8:hS uB:=
 aW.D0 tied (H:=⟨[],[],[],[],[],[]⟩) (hold (l:=[]) trivial) aJ rfl Tryz.call193 Tryz.func193 rfl rfl rfl rfl (fun _=>by kernel_rfl) (fun _=>by kernel_rfl)
def tk:Nat→Int×Int×Ls→Option (cW Ls (Sum ZS Ls)):=aK fun abG ⟨t,s,v,w,x,u,y⟩=>if(decide (s<t))=true then(if 0≤s then(if s<(List.length u:Int) then(if(decide ((nth aS u s).2.1= []))=true then(abG (t,aZ (s+1),v,w,x,List.set (List.set u (Int.toNat s) ((nth aS u s).1,(nth aS u s).2.1,(nth aS u s).2.2.1,s,(nth aS u s).2.2.2.2)) (Int.toNat s) ((nth aS (List.set u (Int.toNat s) ((nth aS u s).1,(nth aS u s).2.1,(nth aS u s).2.2.1,s,(nth aS u s).2.2.2.2)) s).1,(nth aS (List.set u (Int.toNat s) ((nth aS u s).1,(nth aS u s).2.1,(nth aS u s).2.2.1,s,(nth aS u s).2.2.2.2)) s).2.1,(nth aS (List.set u (Int.toNat s) ((nth aS u s).1,(nth aS u s).2.1,(nth aS u s).2.2.1,s,(nth aS u s).2.2.2.2)) s).2.2.1,(nth aS (List.set u (Int.toNat s) ((nth aS u s).1,(nth aS u s).2.1,(nth aS u s).2.2.1,s,(nth aS u s).2.2.2.2)) s).2.2.2.1,1,(nth aS (List.set u (Int.toNat s) ((nth aS u s).1,(nth aS u s).2.1,(nth aS u s).2.2.1,s,(nth aS u s).2.2.2.2)) s).2.2.2.2.2),y)) else(eO (f193 w (nth aS u s).2.1) (fun p8=>cn (some (.inl (p8.1,())))) fun y4=>aG (U:=Nat×Int×Int×Int×Ls) (if(decide (s≤y4))=true then(cn (cn (some (.inl ((),()))))) else(some (.brk (Int.toNat s,y4,t,s,v,w,x,u,y)))) fun⟨c,a,d,e,f,g,h,b,i⟩=>aG (U:=Nat×Int×Int×Int×Ls) (if 0≤a then(if a<(List.length b:Int) then(some (.brk (c,a,d,e,f,g,h,List.set (List.set b c ((List.getD b c (Ty.aD aS)).1,(List.getD b c (Ty.aD aS)).2.1,(List.getD b c (Ty.aD aS)).2.2.1,(nth aS b a).2.2.2.1,(List.getD b c (Ty.aD aS)).2.2.2.2)) c ((List.getD (List.set b c ((List.getD b c (Ty.aD aS)).1,(List.getD b c (Ty.aD aS)).2.1,(List.getD b c (Ty.aD aS)).2.2.1,(nth aS b a).2.2.2.1,(List.getD b c (Ty.aD aS)).2.2.2.2)) c (Ty.aD aS)).1,(List.getD (List.set b c ((List.getD b c (Ty.aD aS)).1,(List.getD b c (Ty.aD aS)).2.1,(List.getD b c (Ty.aD aS)).2.2.1,(nth aS b a).2.2.2.1,(List.getD b c (Ty.aD aS)).2.2.2.2)) c (Ty.aD aS)).2.1,(List.getD (List.set b c ((List.getD b c (Ty.aD aS)).1,(List.getD b c (Ty.aD aS)).2.1,(List.getD b c (Ty.aD aS)).2.2.1,(nth aS b a).2.2.2.1,(List.getD b c (Ty.aD aS)).2.2.2.2)) c (Ty.aD aS)).2.2.1,(List.getD (List.set b c ((List.getD b c (Ty.aD aS)).1,(List.getD b c (Ty.aD aS)).2.1,(List.getD b c (Ty.aD aS)).2.2.1,(nth aS b a).2.2.2.1,(List.getD b c (Ty.aD aS)).2.2.2.2)) c (Ty.aD aS)).2.2.2.1,0,(List.getD (List.set b c ((List.getD b c (Ty.aD aS)).1,(List.getD b c (Ty.aD aS)).2.1,(List.getD b c (Ty.aD aS)).2.2.1,(nth aS b a).2.2.2.1,(List.getD b c (Ty.aD aS)).2.2.2.2)) c (Ty.aD aS)).2.2.2.2.2),i))) else none) else none) fun⟨k,l,m,n,o,p,q,j,r⟩=>Option.bind (α:=Bool) (if(decide ((2:Int)≤(List.getD j k (Ty.aD aS)).2.2.1))=true then(if(decide ((List.getD j k (Ty.aD aS)).2.2.1≤(1000:Int)))=true then(if 0≤l then(if l<(List.length j:Int) then(some (decide ((aZ ((List.getD j k (Ty.aD aS)).2.2.1*(nth aS j l).2.2.2.2.1))≤(1099511627776:Int)))) else none) else none) else(some false)) else(some false)) fun v7=>if v7=true then(if 0≤l then(if l<(List.length j:Int) then(abG (m,aZ (n+1),o,p,q,List.set j k ((List.getD j k (Ty.aD aS)).1,(List.getD j k (Ty.aD aS)).2.1,(List.getD j k (Ty.aD aS)).2.2.1,(List.getD j k (Ty.aD aS)).2.2.2.1,aZ ((List.getD j k (Ty.aD aS)).2.2.1*(nth aS j l).2.2.2.2.1),(List.getD j k (Ty.aD aS)).2.2.2.2.2),r)) else none) else none) else(abG (m,aZ (n+1),o,p,q,j,r)))) else none) else none) else(some (.brk (v,w,x,u,y)))
def rT(a0:Za)(a1:Za)(a2:Za)(a3:Zr)(a4:Zu):Option (Sum ZS Ls):=
 aG (U:=Ls) (tk (Int.toNat (List.length a3:Int)+1) ((List.length a3:Int),0,a0,a1,a2,a3,a4)) fun⟨a,b,c,d,e⟩=>some (.inr (a,b,c,d,e))
def Xq:SS:=⟨91,131,[tP 0 0,(1,.own 1),(5,.ptr 1 [.idx]),tI 6,tI 8,tI 9],[(0,rB 2),(1,.row 180 56 aS),(2,.row 240 8 (.map .str (.int .i64)))],[]⟩
def Xr:SS:=⟨91,131,[],[(0,rB 2),(1,.row 180 56 aS),(2,.row 240 8 (.map .str (.int .i64)))],[]⟩
def Z2:SS:=⟨91,131,[tP 0 0,(1,.own 1),tI 8,tI 9],[(0,rB 2),(1,.row 180 56 aS),(2,.row 240 8 (.map .str (.int .i64)))],[]⟩
def B6:aW:=aF G [] 126 [pP 0,.own 1] [(0,rB 2),(1,.row 180 56 aS),(2,.row 240 8 (.map .str (.int .i64)))] 131 Xr [0,1,2] (.kr (.iface 229 (.val .unit)) (u5 rT))
theorem Ib:hS B6:=
 aW.D0 tied (H:=⟨[hA 6 0,hD 10 76 []],[(9,Xq),(10,Xq)],[(0,Xr)],[(1,⟨Z2,fun u2=>Int.toNat u2.1+1⟩)],[],[]⟩) (hold (l:=[uB]) ⟨w8,trivial⟩) aJ rfl Tryz.call126 Tryz.func126 rfl rfl rfl rfl (fun _=>by kernel_rfl) (fun _=>by kernel_rfl)
def w9(a0:ZD):Option ZD:=
 if(List.length ([]:ZD)+List.length a0)*120≤aE then some a0 else none
def Z3:SS:=⟨8,48,[(2,.own 23)],[(23,.row 99 120 eo)],[]⟩
def B7:aW:=aF G [.tmp 2] 194 [.val (.slice 120 eo)] [] 48 Z3 [23] (.bH (u1 w9))
theorem Ic:hS B7:=
 aW.jw tied (H:=⟨[],[],[],[],[],[]⟩) (hold (l:=[]) trivial) rfl (.tmp 0) 3 4 100 100 99 120 eo (fun d=>d.1) (fun d=>⟨(.val (.slice 120 eo) d.1)::.bot::.bA::List.replicate 5 .bot,List.replicate 48 none,[]⟩) Tryz.call194 Tryz.func194 rfl rfl rfl rfl rfl rfl rfl rfl rfl rfl (by kernel_rfl) (fun _=>by kernel_rfl) (fun _=>by kernel_rfl) (fun _=>rfl) (fun _=>by kernel_rfl) (fun _ _=>by kernel_rfl) (fun d h=>by obtain⟨x,y⟩:=d;cases(h:x= []);kernel_rfl) (fun _=>by kernel_rfl)
def xa(a0:List jj):Option (List jj):=
 if(List.length ([]:List jj)+List.length a0)*72≤aE then some a0 else none
def Z4:SS:=⟨8,48,[(2,.own 23)],[(23,.row 262 72 eE)],[]⟩
def B8:aW:=aF G [.tmp 2] 195 [.val (.slice 72 eE)] [] 48 Z4 [23] (.bH (u1 xa))
theorem Ie:hS B8:=
 aW.jw tied (H:=⟨[],[],[],[],[],[]⟩) (hold (l:=[]) trivial) rfl (.tmp 0) 3 4 101 101 262 72 eE (fun d=>d.1) (fun d=>⟨(.val (.slice 72 eE) d.1)::.bot::.bA::List.replicate 5 .bot,List.replicate 48 none,[]⟩) Tryz.call195 Tryz.func195 rfl rfl rfl rfl rfl rfl rfl rfl rfl rfl (by kernel_rfl) (fun _=>by kernel_rfl) (fun _=>by kernel_rfl) (fun _=>rfl) (fun _=>by kernel_rfl) (fun _ _=>by kernel_rfl) (fun d h=>by obtain⟨x,y⟩:=d;cases(h:x= []);kernel_rfl) (fun _=>by kernel_rfl)
def tn:Nat→Za×Int×Int×ZV→Option (cW (Za×ZV) (Sum ZS Zs)):=aK fun acm ⟨t,r,q,u,v,w,x,y,z,aa,ab,ac,ad,ae,s⟩=>if(decide (q<r))=true then(if 0≤q then(if q<(List.length s:Int) then(aG (U:=Za×Nat×Int×Int×ZV) (some (.brk (t,Int.toNat q,r,q,u,v,w,x,y,z,aa,ab,ac,ad,ae,List.set s (Int.toNat q) ((nth eo s q).1,((nth eo s q).2.1.1,(nth eo s q).2.1.2.1,(nth eo s q).2.1.2.2.1,(nth eo s q).2.1.2.2.2.1,(-1:Int),(nth eo s q).2.1.2.2.2.2.2),(nth eo s q).2.2)))) fun⟨d,b,e,f,g,c,h,i,j,k,l,m,n,o,p,a⟩=>Option.bind (α:=Bool) (if(decide ((List.getD a b (Ty.aD eo)).2.1.1=(1:Int)))=true then(some (!decide ((List.getD a b (Ty.aD eo)).2.1.2.2.2.1= []))) else(some false)) fun v7=>if v7=true then(eO (f193 c (List.getD a b (Ty.aD eo)).2.1.2.2.2.1) (fun p9=>cn (some (.inl (p9.1,())))) fun y8=>acm (d,e,aZ (f+1),g,c,h,i,j,k,l,m,n,o,p,List.set a b ((List.getD a b (Ty.aD eo)).1,((List.getD a b (Ty.aD eo)).2.1.1,(List.getD a b (Ty.aD eo)).2.1.2.1,(List.getD a b (Ty.aD eo)).2.1.2.2.1,(List.getD a b (Ty.aD eo)).2.1.2.2.2.1,y8,(List.getD a b (Ty.aD eo)).2.1.2.2.2.2.2),(List.getD a b (Ty.aD eo)).2.2))) else(acm (d,e,aZ (f+1),g,c,h,i,j,k,l,m,n,o,p,a))) else none) else none) else(some (.brk (t,u,v,w,x,y,z,aa,ab,ac,ad,ae,s)))
def qM:Nat→Za×Int×Int×ZG×Zw→Option (cW (Za×Zw) (cW (Za×Zw) (cW Zs (Sum ZS Zs)))):=aK fun rec17 ⟨d,f,g,c,b,a,h,i,j,k,l,m,n,o,p,q,r,s,t,u,v,w,x,e⟩=>if(decide (a<b))=true then(if 0≤a then(if a<(List.length c:Int) then(eO (f193 d (nth .str c a)) (fun p19=>cn (cn (cn (some (.inl (p19.1,())))))) fun y18=>if(List.length e+List.length [y18])*8≤aE then(rec17 (d,f,g,c,b,aZ (a+1),h,i,j,k,l,m,n,o,p,q,r,s,t,u,v,w,x,e++[y18])) else none) else none) else none) else(some (.brk (d,f,g,h,i,j,k,l,m,n,o,p,q,r,s,t,u,v,w,x,e)))
def qN:Nat→Za×Int×Int×Zs→Option (cW Zs (Sum ZS Zs)):=aK fun rec13 ⟨av,ar,aq,aw,ax,ay,az,a0,a1,a2,a3,a4,a5,a6,a7,au⟩=>if(decide (aq<ar))=true then(aG (U:=Za×Zw) (if 0≤aq then(if aq<(List.length au:Int) then(aG (U:=Za×Zw) (qM (Int.toNat (List.length (nth eE au aq).1:Int)+1) (av,ar,aq,(nth eE au aq).1,(List.length (nth eE au aq).1:Int),0,aw,ax,ay,az,a0,a1,a2,a3,a4,a5,a6,a7,au,Int.toNat aq,(nth eE au aq).1,(nth eE au aq).2.1,(nth eE au aq).2.2.2,([]:Ze))) fun⟨a,c,d,e,f,g,h,i,j,k,l,m,n,o,p,q,r,s,b,t,u⟩=>eO (f193 a b) (fun p21=>cn (cn (some (.inl (p21.1,()))))) fun y20=>some (.brk (a,c,d,e,f,g,h,i,j,k,l,m,n,o,p,q,r,s,b,(y20,t.2),u))) else none) else none) fun⟨v,w,x,y,z,aa,ab,ac,ad,ae,af,ag,ah,ai,aj,ak,al,am,an,ap,ao⟩=>rec13 (v,w,aZ (x+1),y,z,aa,ab,ac,ad,ae,af,ag,ah,ai,aj,List.set ak al (am,an,ao,ap))) else(some (.brk (aw,ax,ay,az,a0,a1,a2,a3,a4,a5,a6,a7,au)))
def rU(a0:Za)(a1:Za)(a2:Za)(a3:Za)(a4:ZB)(a5:Nat)(a6:ll)(a7:Zu):Option (Sum ZS Zs):=
 eO (f193 a1 a6.2.1) (fun p22=>some (.inl (p22.1,()))) fun y1=>Option.bind (w9 a6.2.2.2.2.1) fun y2=>aG (U:=Za×ZV) (tn (Int.toNat (List.length y2:Int)+1) (a0,(List.length y2:Int),0,a1,a2,a3,a4,a5,a6.1,a6.2.1,y1,a6.2.2.2.1,a6.2.2.2.2.2,a7,y2)) fun⟨b,c,d,e,f,g,h,i,j,k,a,l,m⟩=>Option.bind (xa a.1) fun y10=>aG (U:=Zs) (qN (Int.toNat (List.length y10:Int)+1) (b,(List.length y10:Int),0,c,d,e,f,g,h,i,j,k,a.2,l,m,y10)) fun⟨n,o,p,q,r,s,t,u,v,w,x,y,z⟩=>some (.inr (n,o,p,q,r,s,t,u,v,w,x,y,z))
def Z5:SS:=⟨132,172,[tP 0 0,(1,.ptr 1 [.cD 1]),(2,vM),(7,.ptr 45 [.idx,.cD 1]),tI 36,tI 37],[(0,rB 2),(1,.bZ 103 96 bJ (.cons (.val .str) (.cons (.val .str) (.cons vI (.cons vI (.cons (.own 45) (.val (.pair (.slice 72 eE) .unit)))))))),(2,.row 240 8 (.map .str (.int .i64))),(45,.row 99 120 eo)],[]⟩
def Z6:SS:=⟨132,172,[(1,.ptr 1 [.cD 1]),(2,vM)],[(0,rB 2),(1,.bZ 103 96 bJ (.cons (.val .str) (.cons (.val .str) (.cons vI (.cons vI (.cons (.own 45) (.val (.pair (.slice 72 eE) .unit)))))))),(2,.row 240 8 (.map .str (.int .i64))),(45,.row 99 120 eo)],[]⟩
def Z7:SS:=⟨132,172,[(1,.ptr 1 [.cD 1]),(2,vM),(9,.ptr 96 [.cD 1]),tI 87,tI 88],[(0,rB 2),(1,.bZ 103 96 bJ (.cons (.val .str) (.cons (.val .str) (.cons vI (.cons vI (.cons (.own 45) (.cons (.own 96) (.val .unit)))))))),(2,.row 240 8 (.map .str (.int .i64))),(45,.row 99 120 eo),(96,.bZ 262 72 eE (.cons (.val (.slice 16 .str)) (.cons (.val .str) (.cons (.own 149) (.val (.pair (.int .i64) .unit)))))),(149,.row 3 8 (.int .i64))],[]⟩
def Z8:SS:=⟨132,172,[(1,.ptr 1 [.cD 1]),(2,vM),tI 87,tI 88],[(0,rB 2),(1,.bZ 103 96 bJ (.cons (.val .str) (.cons (.val .str) (.cons vI (.cons vI (.cons (.own 45) (.cons (.own 96) (.val .unit)))))))),(2,.row 240 8 (.map .str (.int .i64))),(45,.row 99 120 eo),(96,.bZ 262 72 eE (.cons (.val (.slice 16 .str)) (.cons (.val .str) (.cons (.own 149) (.val (.pair (.int .i64) .unit)))))),(149,.row 3 8 (.int .i64))],[]⟩
def Xs:SS:=⟨132,172,[],[(0,rB 2),(1,.bZ 103 96 bJ (.cons (.val .str) (.cons (.val .str) (.cons vI (.cons vI (.cons (.own 45) (.cons (.own 96) (.val .unit)))))))),(2,.row 240 8 (.map .str (.int .i64))),(45,.row 99 120 eo),(96,.row 262 72 eE)],[]⟩
def Z9:SS:=⟨132,172,[tP 0 0,(1,.ptr 1 [.cD 1]),(2,vM),tI 36,tI 37],[(0,rB 2),(1,.bZ 103 96 bJ (.cons (.val .str) (.cons (.val .str) (.cons vI (.cons vI (.cons (.own 45) (.val (.pair (.slice 72 eE) .unit)))))))),(2,.row 240 8 (.map .str (.int .i64))),(45,.row 99 120 eo)],[]⟩
def s61:SS:=⟨132,172,[(1,.ptr 1 [.cD 1]),(2,vM),tI 87,tI 88],[(0,rB 2),(1,.bZ 103 96 bJ (.cons (.val .str) (.cons (.val .str) (.cons vI (.cons vI (.cons (.own 45) (.cons (.own 96) (.val .unit)))))))),(2,.row 240 8 (.map .str (.int .i64))),(45,.row 99 120 eo),(96,.row 262 72 eE)],[]⟩
def s62:SS:=⟨132,172,[(1,.ptr 1 [.cD 1]),(2,vM),(9,.ptr 96 [.cD 1]),tI 87,tI 88,(103,.val (.slice 16 .str)),tI 104,tI 105],[(0,rB 2),(1,.bZ 103 96 bJ (.cons (.val .str) (.cons (.val .str) (.cons vI (.cons vI (.cons (.own 45) (.cons (.own 96) (.val .unit)))))))),(2,.row 240 8 (.map .str (.int .i64))),(45,.row 99 120 eo),(96,.bZ 262 72 eE (.cons (.val (.slice 16 .str)) (.cons (.val .str) (.cons (.own 148) (.val (.pair (.int .i64) .unit)))))),(148,.row 3 8 (.int .i64))],[]⟩
def B9:aW:=aF G [] 127 [pP 0,.ptr 1 [.cD 1],vM] [(0,rB 2),(1,.bZ 103 96 bJ (.val bJ)),(2,.row 240 8 (.map .str (.int .i64)))] 172 Xs [0,1,2,45,96] (.kr (.iface 229 (.val .unit)) (u8 rU))
theorem Ig:hS B9:=
 aW.D0 tied (H:=⟨[hA 0 0,hE 1 [cB 1 [] [(23,45)]],hD 7 61 [],hA 8 0,hE 10 [cB 2 [] [(23,96)]],(15,⟨[],[],[],none,[(96,9)],[],[]⟩),hA 19 0,hA 21 0,(22,⟨[.freeze 149 (.slice 8 (.int .i64)),.kL 96],[],[],none,[],[],[]⟩)],[(7,Z5),(10,Z6),(21,Z7),(22,Z8)],[(2,Xs)],[(3,⟨Z9,fun u4=>Int.toNat u4.2.1+1⟩),(12,⟨s61,fun Ko=>Int.toNat Ko.2.1+1⟩),(17,⟨s62,fun u16=>Int.toNat u16.2.2.2.2.1+1⟩)],[],[]⟩) (hold (l:=[uB,B7,B8]) ⟨w8,Ic,Ie,trivial⟩) aJ rfl Tryz.call127 Tryz.func127 rfl rfl rfl rfl (fun _=>by kernel_rfl) (fun _=>by kernel_rfl)
def kF(_q0:Unit):ZM:=
 some (110:Int)
def Xt:SS:=⟨17,57,[],[(0,.var gS (.cons .bA (.cons .bA (.cons .bA (.cons .bA (.cons .bA (.cons .bA .nil))))))),(1,bI)],[]⟩
def yL:fW:=⟨119,[.ptr 0 [],.ptr 1 []],[(0,.var gS (.eW gS)),(1,.var (.int .i64) (.eW (.int .i64)))],57,.iface 229 (.val .unit),Xt,fun r=>pick [0,1] (SS.st Xt y0 r).hp,fun _=>none,fun _ q=>kF q.1⟩
theorem ES:yL.holds Tryz.prog gl:=
 fW.D0 tied (H:=⟨[],[],[],[],[],[]⟩) (hold (l:=[]) trivial) rfl Tryz.call119 Tryz.func119 rfl rfl rfl rfl rfl rfl rfl rfl rfl rfl rfl rfl (fun _=>by kernel_rfl) (fun _ _=>by kernel_rfl)
def xb(a0:Zv):Option Zv:=
 if(List.length ([]:Zv)+List.length a0)*96≤aE then some a0 else none
def s65:SS:=⟨8,48,[(2,.own 23)],[(23,.row 269 96 aL)],[]⟩
def Ca:aW:=aF G [.tmp 2] 196 [.val (.slice 96 aL)] [] 48 s65 [23] (.bH (u1 xb))
theorem Ih:hS Ca:=
 aW.jw tied (H:=⟨[],[],[],[],[],[]⟩) (hold (l:=[]) trivial) rfl (.tmp 0) 3 4 110 110 269 96 aL (fun d=>d.1) (fun d=>⟨(.val (.slice 96 aL) d.1)::.bot::.bA::List.replicate 5 .bot,List.replicate 48 none,[]⟩) Tryz.call196 Tryz.func196 rfl rfl rfl rfl rfl rfl rfl rfl rfl rfl (by kernel_rfl) (fun _=>by kernel_rfl) (fun _=>by kernel_rfl) (fun _=>rfl) (fun _=>by kernel_rfl) (fun _ _=>by kernel_rfl) (fun d h=>by obtain⟨x,y⟩:=d;cases(h:x= []);kernel_rfl) (fun _=>by kernel_rfl)
def rV(a0:Nat)(a1:Zv)(a2:Zo)(a3:Za)(a4:Za)(a5:Za)(a6:Zm)(a7:Nat)(a8:Zg)(a9:Int)(a10:Zy×Zz×Unit)(a11:Zu):Option (Sum ZS Ul):=
 aG (U:=Nat×Ul) (some (.brk (a0,List.set (List.set a1 a0 ((List.getD a1 a0 (Ty.aD aL)).1,(List.getD a1 a0 (Ty.aD aL)).2.1,(List.getD a1 a0 (Ty.aD aL)).2.2.1,((List.getD a1 a0 (Ty.aD aL)).2.2.2.1.1,(List.getD a1 a0 (Ty.aD aL)).2.2.2.1.2.1,(-1:Int),(List.getD a1 a0 (Ty.aD aL)).2.2.2.1.2.2.2),(List.getD a1 a0 (Ty.aD aL)).2.2.2.2)) a0 ((List.getD (List.set a1 a0 ((List.getD a1 a0 (Ty.aD aL)).1,(List.getD a1 a0 (Ty.aD aL)).2.1,(List.getD a1 a0 (Ty.aD aL)).2.2.1,((List.getD a1 a0 (Ty.aD aL)).2.2.2.1.1,(List.getD a1 a0 (Ty.aD aL)).2.2.2.1.2.1,(-1:Int),(List.getD a1 a0 (Ty.aD aL)).2.2.2.1.2.2.2),(List.getD a1 a0 (Ty.aD aL)).2.2.2.2)) a0 (Ty.aD aL)).1,(List.getD (List.set a1 a0 ((List.getD a1 a0 (Ty.aD aL)).1,(List.getD a1 a0 (Ty.aD aL)).2.1,(List.getD a1 a0 (Ty.aD aL)).2.2.1,((List.getD a1 a0 (Ty.aD aL)).2.2.2.1.1,(List.getD a1 a0 (Ty.aD aL)).2.2.2.1.2.1,(-1:Int),(List.getD a1 a0 (Ty.aD aL)).2.2.2.1.2.2.2),(List.getD a1 a0 (Ty.aD aL)).2.2.2.2)) a0 (Ty.aD aL)).2.1,(List.getD (List.set a1 a0 ((List.getD a1 a0 (Ty.aD aL)).1,(List.getD a1 a0 (Ty.aD aL)).2.1,(List.getD a1 a0 (Ty.aD aL)).2.2.1,((List.getD a1 a0 (Ty.aD aL)).2.2.2.1.1,(List.getD a1 a0 (Ty.aD aL)).2.2.2.1.2.1,(-1:Int),(List.getD a1 a0 (Ty.aD aL)).2.2.2.1.2.2.2),(List.getD a1 a0 (Ty.aD aL)).2.2.2.2)) a0 (Ty.aD aL)).2.2.1,((List.getD (List.set a1 a0 ((List.getD a1 a0 (Ty.aD aL)).1,(List.getD a1 a0 (Ty.aD aL)).2.1,(List.getD a1 a0 (Ty.aD aL)).2.2.1,((List.getD a1 a0 (Ty.aD aL)).2.2.2.1.1,(List.getD a1 a0 (Ty.aD aL)).2.2.2.1.2.1,(-1:Int),(List.getD a1 a0 (Ty.aD aL)).2.2.2.1.2.2.2),(List.getD a1 a0 (Ty.aD aL)).2.2.2.2)) a0 (Ty.aD aL)).2.2.2.1.1,(List.getD (List.set a1 a0 ((List.getD a1 a0 (Ty.aD aL)).1,(List.getD a1 a0 (Ty.aD aL)).2.1,(List.getD a1 a0 (Ty.aD aL)).2.2.1,((List.getD a1 a0 (Ty.aD aL)).2.2.2.1.1,(List.getD a1 a0 (Ty.aD aL)).2.2.2.1.2.1,(-1:Int),(List.getD a1 a0 (Ty.aD aL)).2.2.2.1.2.2.2),(List.getD a1 a0 (Ty.aD aL)).2.2.2.2)) a0 (Ty.aD aL)).2.2.2.1.2.1,(List.getD (List.set a1 a0 ((List.getD a1 a0 (Ty.aD aL)).1,(List.getD a1 a0 (Ty.aD aL)).2.1,(List.getD a1 a0 (Ty.aD aL)).2.2.1,((List.getD a1 a0 (Ty.aD aL)).2.2.2.1.1,(List.getD a1 a0 (Ty.aD aL)).2.2.2.1.2.1,(-1:Int),(List.getD a1 a0 (Ty.aD aL)).2.2.2.1.2.2.2),(List.getD a1 a0 (Ty.aD aL)).2.2.2.2)) a0 (Ty.aD aL)).2.2.2.1.2.2.1,0,(List.getD (List.set a1 a0 ((List.getD a1 a0 (Ty.aD aL)).1,(List.getD a1 a0 (Ty.aD aL)).2.1,(List.getD a1 a0 (Ty.aD aL)).2.2.1,((List.getD a1 a0 (Ty.aD aL)).2.2.2.1.1,(List.getD a1 a0 (Ty.aD aL)).2.2.2.1.2.1,(-1:Int),(List.getD a1 a0 (Ty.aD aL)).2.2.2.1.2.2.2),(List.getD a1 a0 (Ty.aD aL)).2.2.2.2)) a0 (Ty.aD aL)).2.2.2.1.2.2.2.2),(List.getD (List.set a1 a0 ((List.getD a1 a0 (Ty.aD aL)).1,(List.getD a1 a0 (Ty.aD aL)).2.1,(List.getD a1 a0 (Ty.aD aL)).2.2.1,((List.getD a1 a0 (Ty.aD aL)).2.2.2.1.1,(List.getD a1 a0 (Ty.aD aL)).2.2.2.1.2.1,(-1:Int),(List.getD a1 a0 (Ty.aD aL)).2.2.2.1.2.2.2),(List.getD a1 a0 (Ty.aD aL)).2.2.2.2)) a0 (Ty.aD aL)).2.2.2.2),a2,a3,a4,a5,a6,a7,a8,a9,a10,a11))) fun⟨b,a,c,d,e,f,g,h,i,j,k,l⟩=>if(!decide ((List.getD a b (Ty.aD aL)).2.2.2.1.1= []))=true then(aG (U:=Nat×Ul) (eO (f193 (some c) (List.getD a b (Ty.aD aL)).2.2.2.1.1) (fun p4=>cn (some (.inl (p4.1,())))) fun y3=>some (.brk (b,List.set a b ((List.getD a b (Ty.aD aL)).1,(List.getD a b (Ty.aD aL)).2.1,(List.getD a b (Ty.aD aL)).2.2.1,((List.getD a b (Ty.aD aL)).2.2.2.1.1,(List.getD a b (Ty.aD aL)).2.2.2.1.2.1,y3,(List.getD a b (Ty.aD aL)).2.2.2.1.2.2.2),(List.getD a b (Ty.aD aL)).2.2.2.2),c,d,e,f,g,h,i,j,k,l))) fun⟨n,m,p,q,r,s,t,u,v,w,x,o⟩=>if 0≤(List.getD m n (Ty.aD aL)).2.2.2.1.2.2.1 then(if(List.getD m n (Ty.aD aL)).2.2.2.1.2.2.1<(List.length m:Int) then(if 0≤(nth aL m (List.getD m n (Ty.aD aL)).2.2.2.1.2.2.1).2.2.1 then(if(nth aL m (List.getD m n (Ty.aD aL)).2.2.2.1.2.2.1).2.2.1<(List.length o:Int) then(eO (f193 (nth (.map .str (.int .i64)) o (nth aL m (List.getD m n (Ty.aD aL)).2.2.2.1.2.2.1).2.2.1) (List.getD m n (Ty.aD aL)).2.2.2.1.2.1) (fun p6=>some (.inl (p6.1,()))) fun y5=>some (.inr (List.set m n ((List.getD m n (Ty.aD aL)).1,(List.getD m n (Ty.aD aL)).2.1,(List.getD m n (Ty.aD aL)).2.2.1,((List.getD m n (Ty.aD aL)).2.2.2.1.1,(List.getD m n (Ty.aD aL)).2.2.2.1.2.1,(List.getD m n (Ty.aD aL)).2.2.2.1.2.2.1,y5,(List.getD m n (Ty.aD aL)).2.2.2.1.2.2.2.2),(List.getD m n (Ty.aD aL)).2.2.2.2),p,q,r,s,t,u,v,w,x,o))) else none) else none) else none) else none) else(some (.inr (a,c,d,e,f,g,h,i,j,k,l)))
def s66:SS:=⟨50,90,[(0,.ptr 0 [.idx,.cD 3]),tP 1 1,tP 2 2,tP 3 3],[(0,.row 269 96 aL),(1,.var (.map .str (.int .i64)) (.mp 4)),(2,.var (.aR .ptr) (pP 5)),(3,.var (.aR .ptr) (.ptr 6 [.cD 1])),(4,.map .str (.int .i64)),(5,rB 7),(6,.bZ 114 96 bD (.cons (.val .str) (.cons vI (.cons (.own 0) (.val (.pair (.slice 120 aQ) (.pair (.slice 80 aY) .unit))))))),(7,.row 240 8 (.map .str (.int .i64)))],[]⟩
def s67:SS:=⟨50,90,[(0,.ptr 0 [.idx,.cD 3]),tP 2 2,tP 3 3],[(0,.row 269 96 aL),(1,.var (.map .str (.int .i64)) (.mp 4)),(2,.var (.aR .ptr) (pP 5)),(3,.var (.aR .ptr) (.ptr 6 [.cD 1])),(4,.map .str (.int .i64)),(5,rB 7),(6,.bZ 114 96 bD (.cons (.val .str) (.cons vI (.cons (.own 0) (.val (.pair (.slice 120 aQ) (.pair (.slice 80 aY) .unit))))))),(7,.row 240 8 (.map .str (.int .i64)))],[]⟩
def s68:SS:=⟨50,90,[],[(0,.row 269 96 aL),(1,.var (.map .str (.int .i64)) (.mp 4)),(2,.var (.aR .ptr) (pP 5)),(3,.var (.aR .ptr) (.ptr 6 [.cD 1])),(4,.map .str (.int .i64)),(5,rB 7),(6,.bZ 114 96 bD (.cons (.val .str) (.cons vI (.cons (.own 0) (.val (.pair (.slice 120 aQ) (.pair (.slice 80 aY) .unit))))))),(7,.row 240 8 (.map .str (.int .i64)))],[]⟩
def Cb:aW:=aF G [] 197 [.ptr 0 [.idx,.cD 3],pP 1,pP 2,pP 3] [(0,.row 269 96 aL),(1,.var (.map .str (.int .i64)) (.mp 4)),(2,.var (.aR .ptr) (pP 5)),(3,.var (.aR .ptr) (.ptr 6 [.cD 1])),(4,.map .str (.int .i64)),(5,rB 7),(6,.bZ 114 96 bD (.cons (.val .str) (.cons vI (.cons (.own 0) (.val (.pair (.slice 120 aQ) (.pair (.slice 80 aY) .unit))))))),(7,.row 240 8 (.map .str (.int .i64)))] 90 s68 [0,1,2,3,4,5,6,7] (.kr (.iface 229 (.val .unit)) (Ko rV))
theorem Ii:hS Cb:=
 aW.D0 tied (H:=⟨[hA 2 0,hA 3 0],[(1,s66),(3,s67)],[],[],[],[]⟩) (hold (l:=[uB]) ⟨w8,trivial⟩) aJ rfl Tryz.call197 Tryz.func197 rfl rfl rfl rfl (fun _=>by kernel_rfl) (fun _=>by kernel_rfl)
def xc(a0:Zy):Option Zy:=
 if(List.length ([]:Zy)+List.length a0)*120≤aE then some a0 else none
def s70:SS:=⟨8,48,[(2,.own 23)],[(23,.row 253 120 aQ)],[]⟩
def Cc:aW:=aF G [.tmp 2] 198 [.val (.slice 120 aQ)] [] 48 s70 [23] (.bH (u1 xc))
theorem Ij:hS Cc:=
 aW.jw tied (H:=⟨[],[],[],[],[],[]⟩) (hold (l:=[]) trivial) rfl (.tmp 0) 3 4 111 111 253 120 aQ (fun d=>d.1) (fun d=>⟨(.val (.slice 120 aQ) d.1)::.bot::.bA::List.replicate 5 .bot,List.replicate 48 none,[]⟩) Tryz.call198 Tryz.func198 rfl rfl rfl rfl rfl rfl rfl rfl rfl rfl (by kernel_rfl) (fun _=>by kernel_rfl) (fun _=>by kernel_rfl) (fun _=>rfl) (fun _=>by kernel_rfl) (fun _ _=>by kernel_rfl) (fun d h=>by obtain⟨x,y⟩:=d;cases(h:x= []);kernel_rfl) (fun _=>by kernel_rfl)
end Go.Proofs.YtgdcjlldafmomaaGreat
