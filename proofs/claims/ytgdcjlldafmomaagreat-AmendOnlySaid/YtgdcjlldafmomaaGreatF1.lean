/- Made by program (dec6.py): walks -/
import Derived.Test.YtgdcjlldafmomaaGreatBase
noncomputable section
namespace Go.Proofs.YtgdcjlldafmomaaGreat
open Go.Ax
def f35(a0:Int):Option fQ:=
 some (0,4,a0,())
def s1:SS:=⟨5,45,[tP 2 18],[(18,bV bE)],[]⟩
def WW:aT:=aD G [.cell 2 72] 35 [vI] [] 45 s1 [] (.bx (u1 f35))
theorem WY:hS WW:=
 cO (hR []) hz aF Tryz.call35 Tryz.func35
def f17:Option bL:=
 aE (U:=ZH×ZA) (some (.brk ([[120]],[([115],[120],0,1,[([115,101,108,102],(3,0,4095,[],(-1:Int),([]:ZH),()),Ty.aB JO,()),([97],(1,0,9,[],(-1:Int),([]:ZH),()),Ty.aB JO,()),([98],(1,0,9,[],(-1:Int),([]:ZH),()),Ty.aB JO,())],([]:List gB),())]))) fun⟨a,b⟩=>Option.bind (f35 (1:Int)) fun y2=>Option.bind (f35 (2:Int)) fun y3=>Option.bind (f35 (1:Int)) fun y4=>some (((a,([]:Zq),b,([]:Zm),([]:ZE),([]:Zz),()),[(0:Int)],()),[(y2,7,(2,10,()),10,0,()),(y3,8,(2,10,()),10,1,()),(y4,6,(5,6,()),20,0,())],())
def s2:SS:=⟨35,75,[tP 0 16,tP 2 18],[(16,.var dF (.cons (.cons (.cons .aX (.cons .aX (.cons .aX (.cons .aX (.cons .aX (.cons .aX .nil)))))) (.cons .aX .nil)) (.cons .aX .nil))),(18,.var fe (.cons (.own 22) (.cons .aX (.cons (.own 31) (.cons .aX (.cons .aX (.cons .aX .nil))))))),(22,.row 9 16 .str),(31,.row 103 96 bB)],[]⟩
def s3:SS:=⟨35,75,[tP 0 16],[(16,bV dF)],[]⟩
def WZ:aT:=aD G [.cell 0 35] 17 [] [] 75 s3 [] (.bx (fun _=>f17))
theorem W0:hS WZ:=
 cO ⟨[(2,⟨[],[(9,14,bB)],[],none,[],[],[]⟩),hE 5 [cA 0,cA 0,cA 0]],[(3,s2)],[],[],[],[]⟩ (hq WY hz) aF Tryz.call17 Tryz.func17
def Db:Nat→Int×Zf×Int×Int×jJ→Option (cz jJ Bool):=aH fun Z9 ⟨d,c,b,a,e⟩=>if(decide (a<b))=true then(if 0≤a then(if a<(List.length c:Int) then(if(decide ((nth (.int .i64) c a)≤d))=true then(bP (some false)) else(Z9 (nth (.int .i64) c a,c,b,aV (a+1),e))) else none) else none) else(some (.brk e))
def f20(a0:jJ):Zk:=
 aE (U:=jJ) (Db (Int.toNat (List.length a0.2.2.2.2.2.2.2.1:Int)+1) ((-1:Int),a0.2.2.2.2.2.2.2.1,(List.length a0.2.2.2.2.2.2.2.1:Int),0,a0)) fun v1=>some (decide ((List.length v1.2.2.2.2.2.2.2.1:Int)=(List.length v1.2.2.2.2.2.2.2.2.1:Int)))
def s4:SS:=⟨25,65,[tP 1 17],[(17,bV fg)],[]⟩
def s5:SS:=⟨25,65,[tP 1 17,tI 3,(7,.val (.slice 8 (.int .i64))),tI 8,tI 9],[(17,bV fg)],[]⟩
def s6:SS:=⟨25,65,[(2,vB)],[],[]⟩
def W1:aT:=aD G [.tmp 2] 20 [.val fg] [] 65 s6 [] (.bx (u1 f20))
theorem VI:hS W1:=
 cO ⟨[],[(9,s4)],[],[(3,⟨s5,fun u2=>Int.toNat u2.2.2.1+1⟩)],[],[]⟩ hz aF Tryz.call20 Tryz.func20
def tY(a0:cF)(a1:Int):Zk:=
 some (decide (a0.2.1=a1))
def s7:SS:=⟨8,48,[(3,vB)],[],[]⟩
def F0:aT:=aD G [.tmp 3] 109 [.val bu,.bD (.int .i64)] [] 48 s7 [] (.bx (u2 tY))
theorem F1:hS F0:=
 cO (hR []) hz aF Tryz.call109 Tryz.func109
def yh:Nat→Zm×Int×ZY→Option (cz Unit Int):=aH fun Z9 ⟨c,d,b,a⟩=>if(decide (a<b))=true then(if 0≤a then(if a<(List.length c:Int) then(Option.bind (tY (nth bu c a) d) fun y4=>if y4=true then(bP (some a)) else(Z9 (c,d,b,aV (a+1)))) else none) else none) else(some (.brk ()))
def tZ(a0:Zm)(a1:Int):ZM:=
 aE (U:=Unit) (yh (Int.toNat (List.length a0:Int)+1) (a0,a1,(List.length a0:Int),0)) fun _v1=>some (-1:Int)
def s8:SS:=⟨19,59,[],[],[]⟩
def s9:SS:=⟨19,59,[(0,.val (.slice 96 bu)),(1,.func 109 .nil (.cons (.bD (.int .i64)) .nil)),tI 7,tI 8],[],[]⟩
def W2:SS:=⟨19,59,[tI 4],[],[]⟩
def F2:aT:=aD G [.tmp 4] 161 [.val (.slice 96 bu),.func 109 .nil (.cons (.bD (.int .i64)) .nil)] [] 59 W2 [] (.bx (u2 tZ))
theorem F3:hS F2:=
 cO ⟨[hA 4 0],[(7,s8)],[],[(2,⟨s9,fun u2=>Int.toNat u2.2.2.1+1⟩)],[],[]⟩ (hq F1 hz) aF Tryz.call161 Tryz.func161
def oX(a0:Zm)(a1:Int):Zk:=
 Option.bind (tZ a0 a1) fun y1=>some (decide ((0:Int)≤y1))
def W3:SS:=⟨9,49,[(4,vB)],[],[]⟩
def F4:aT:=aD G [.tmp 4] 108 [.val (.slice 96 bu),.func 109 .nil (.cons (.bD (.int .i64)) .nil)] [] 49 W3 [] (.bx (u2 oX))
theorem F5:hS F4:=
 cO (hR [hA 1 0]) (hq F3 hz) aF Tryz.call108 Tryz.func108
def f66(a0:cK)(a1:Int):ZM:=
 Option.bind (α:=Bool) (if(decide ((0:Int)≤a1))=true then(if(decide (a1<(List.length a0.2.2.1:Int)))=true then(Option.bind (oX a0.2.2.2.1 a1) fun y1=>some y1) else(some false)) else(some false)) fun v2=>if v2=true then(some (1:Int)) else(some (0:Int))
def Rr:SS:=⟨20,60,[tI 4],[],[]⟩
def W4:aT:=aD G [.tmp 4] 66 [.val fe,vI] [] 60 Rr [] (.bx (u2 f66))
theorem W5:hS W4:=
 cO (hR [hD 1 19 [cA 0]]) (hq F5 hz) aF Tryz.call66 Tryz.func66
def f182(a0:Zg):Option Zg:=
 some a0
def W6:SS:=⟨4,44,[(2,.val .str)],[],[]⟩
def Rs:aT:=aD G [.tmp 2] 182 [.val .str] [] 44 W6 [] (.bx (u1 f182))
theorem Rt:hS Rs:=
 cO (hR []) hz aF Tryz.call182 Tryz.func182
def yi:Nat→Bool×ZH×Int×Int×Zo→ZX:=aH fun Z9 ⟨e,c,b,a,d⟩=>if(decide (a<b))=true then(if 0≤a then(if a<(List.length c:Int) then(Option.bind (f182 (nth .str c a)) fun y4=>if(cp .str y4 d)=true then(Z9 (true,c,b,aV (a+1),d)) else(Option.bind (f182 (nth .str c a)) fun y5=>if List.length d+1≤aC then(Z9 (e,c,b,aV (a+1),bz .str y5 a d)) else none)) else none) else none) else(some (.brk (e,d)))
def ua(a0:ZH):Option (Za×Bool):=
 aE (U:=Bool×Zo) (yi (Int.toNat (List.length a0:Int)+1) (false,a0,(List.length a0:Int),0,([]:Zo))) fun⟨b,a⟩=>some (some a,b)
def W7:SS:=⟨37,77,[(4,.mp 28),(5,vB)],[(28,.map .str (.int .i64))],[]⟩
def W8:SS:=⟨37,77,[(1,.func 182 .nil .nil),(4,.mp 28),(5,vB),(13,.val (.slice 16 .str)),tI 14,tI 15],[(28,.map .str (.int .i64))],[]⟩
def W9:SS:=⟨37,77,[(4,vM),(5,vB)],[],[]⟩
def F6:aT:=aD G [.tmp 4,.tmp 5] 181 [.val (.slice 16 .str),.func 182 .nil .nil] [] 77 W9 [] (.bx (u1 ua))
theorem F7:hS F6:=
 cO ⟨[hA 5 0,hA 8 0],[(10,W7)],[],[(3,⟨W8,fun u2=>Int.toNat u2.2.2.1+1⟩)],[],[]⟩ (hq Rt hz) aF Tryz.call181 Tryz.func181
def f184(a0:fm):Option Zg:=
 some a0.1
def Xa:SS:=⟨5,45,[(2,.val .str)],[],[]⟩
def Ru:aT:=aD G [.tmp 2] 184 [.val aO] [] 45 Xa [] (.bx (u1 f184))
theorem Rv:hS Ru:=
 cO (hR []) hz aF Tryz.call184 Tryz.func184
def yk:Nat→Bool×Zq×Int×Int×Zo→ZX:=aH fun Z9 ⟨e,c,b,a,d⟩=>if(decide (a<b))=true then(if 0≤a then(if a<(List.length c:Int) then(Option.bind (f184 (nth aO c a)) fun y4=>if(cp .str y4 d)=true then(Z9 (true,c,b,aV (a+1),d)) else(Option.bind (f184 (nth aO c a)) fun y5=>if List.length d+1≤aC then(Z9 (e,c,b,aV (a+1),bz .str y5 a d)) else none)) else none) else none) else(some (.brk (e,d)))
def ub(a0:Zq):Option (Za×Bool):=
 aE (U:=Bool×Zo) (yk (Int.toNat (List.length a0:Int)+1) (false,a0,(List.length a0:Int),0,([]:Zo))) fun⟨b,a⟩=>some (some a,b)
def Xb:SS:=⟨37,77,[(4,.mp 28),(5,vB)],[(28,.map .str (.int .i64))],[]⟩
def Xc:SS:=⟨37,77,[(1,.func 184 .nil .nil),(4,.mp 28),(5,vB),(13,.val (.slice 56 aO)),tI 14,tI 15],[(28,.map .str (.int .i64))],[]⟩
def Xd:SS:=⟨37,77,[(4,vM),(5,vB)],[],[]⟩
def F8:aT:=aD G [.tmp 4,.tmp 5] 183 [.val (.slice 56 aO),.func 184 .nil .nil] [] 77 Xd [] (.bx (u1 ub))
theorem F9:hS F8:=
 cO ⟨[hA 5 0,hA 8 0],[(10,Xb)],[],[(3,⟨Xc,fun u2=>Int.toNat u2.2.2.1+1⟩)],[],[]⟩ (hq Rv hz) aF Tryz.call183 Tryz.func183
def f186(a0:jt):Option Zg:=
 some a0.1
def Xe:SS:=⟨5,45,[(2,.val .str)],[],[]⟩
def Rw:aT:=aD G [.tmp 2] 186 [.val bB] [] 45 Xe [] (.bx (u1 f186))
theorem Rx:hS Rw:=
 cO (hR []) hz aF Tryz.call186 Tryz.func186
def yl:Nat→Bool×ZA×Int×Int×Zo→ZX:=aH fun Z9 ⟨e,c,b,a,d⟩=>if(decide (a<b))=true then(if 0≤a then(if a<(List.length c:Int) then(Option.bind (f186 (nth bB c a)) fun y4=>if(cp .str y4 d)=true then(Z9 (true,c,b,aV (a+1),d)) else(Option.bind (f186 (nth bB c a)) fun y5=>if List.length d+1≤aC then(Z9 (e,c,b,aV (a+1),bz .str y5 a d)) else none)) else none) else none) else(some (.brk (e,d)))
def uc(a0:ZA):Option (Za×Bool):=
 aE (U:=Bool×Zo) (yl (Int.toNat (List.length a0:Int)+1) (false,a0,(List.length a0:Int),0,([]:Zo))) fun⟨b,a⟩=>some (some a,b)
def Xf:SS:=⟨37,77,[(4,.mp 28),(5,vB)],[(28,.map .str (.int .i64))],[]⟩
def Xg:SS:=⟨37,77,[(1,.func 186 .nil .nil),(4,.mp 28),(5,vB),(13,.val (.slice 96 bB)),tI 14,tI 15],[(28,.map .str (.int .i64))],[]⟩
def Xh:SS:=⟨37,77,[(4,vM),(5,vB)],[],[]⟩
def Ga:aT:=aD G [.tmp 4,.tmp 5] 185 [.val (.slice 96 bB),.func 186 .nil .nil] [] 77 Xh [] (.bx (u1 uc))
theorem Gb:hS Ga:=
 cO ⟨[hA 5 0,hA 8 0],[(10,Xf)],[],[(3,⟨Xg,fun u2=>Int.toNat u2.2.2.1+1⟩)],[],[]⟩ (hq Rx hz) aF Tryz.call185 Tryz.func185
def f188(a0:kY):Option Zg:=
 some a0.1
def Xi:SS:=⟨5,45,[(2,.val .str)],[],[]⟩
def Ry:aT:=aD G [.tmp 2] 188 [.val cQ] [] 45 Xi [] (.bx (u1 f188))
theorem Rz:hS Ry:=
 cO (hR []) hz aF Tryz.call188 Tryz.func188
def ym:Nat→Bool×Zz×Int×Int×Zo→ZX:=aH fun Z9 ⟨e,c,b,a,d⟩=>if(decide (a<b))=true then(if 0≤a then(if a<(List.length c:Int) then(Option.bind (f188 (nth cQ c a)) fun y4=>if(cp .str y4 d)=true then(Z9 (true,c,b,aV (a+1),d)) else(Option.bind (f188 (nth cQ c a)) fun y5=>if List.length d+1≤aC then(Z9 (e,c,b,aV (a+1),bz .str y5 a d)) else none)) else none) else none) else(some (.brk (e,d)))
def ud(a0:Zz):Option (Za×Bool):=
 aE (U:=Bool×Zo) (ym (Int.toNat (List.length a0:Int)+1) (false,a0,(List.length a0:Int),0,([]:Zo))) fun⟨b,a⟩=>some (some a,b)
def Xj:SS:=⟨37,77,[(4,.mp 28),(5,vB)],[(28,.map .str (.int .i64))],[]⟩
def Xk:SS:=⟨37,77,[(1,.func 188 .nil .nil),(4,.mp 28),(5,vB),(13,.val (.slice 48 cQ)),tI 14,tI 15],[(28,.map .str (.int .i64))],[]⟩
def Xl:SS:=⟨37,77,[(4,vM),(5,vB)],[],[]⟩
def Gc:aT:=aD G [.tmp 4,.tmp 5] 187 [.val (.slice 48 cQ),.func 188 .nil .nil] [] 77 Xl [] (.bx (u1 ud))
theorem Gd:hS Gc:=
 cO ⟨[hA 5 0,hA 8 0],[(10,Xj)],[],[(3,⟨Xk,fun u2=>Int.toNat u2.2.2.1+1⟩)],[],[]⟩ (hq Rz hz) aF Tryz.call187 Tryz.func187
def f190(a0:Lb):Option Zg:=
 some a0.1
def Xm:SS:=⟨5,45,[(2,.val .str)],[],[]⟩
def RA:aT:=aD G [.tmp 2] 190 [.val du] [] 45 Xm [] (.bx (u1 f190))
theorem RE:hS RA:=
 cO (hR []) hz aF Tryz.call190 Tryz.func190
def yn:Nat→Bool×ZF×Int×Int×Zo→ZX:=aH fun Z9 ⟨e,c,b,a,d⟩=>if(decide (a<b))=true then(if 0≤a then(if a<(List.length c:Int) then(Option.bind (f190 (nth du c a)) fun y4=>if(cp .str y4 d)=true then(Z9 (true,c,b,aV (a+1),d)) else(Option.bind (f190 (nth du c a)) fun y5=>if List.length d+1≤aC then(Z9 (e,c,b,aV (a+1),bz .str y5 a d)) else none)) else none) else none) else(some (.brk (e,d)))
def ue(a0:ZF):Option (Za×Bool):=
 aE (U:=Bool×Zo) (yn (Int.toNat (List.length a0:Int)+1) (false,a0,(List.length a0:Int),0,([]:Zo))) fun⟨b,a⟩=>some (some a,b)
def Xn:SS:=⟨37,77,[(4,.mp 28),(5,vB)],[(28,.map .str (.int .i64))],[]⟩
def Xo:SS:=⟨37,77,[(1,.func 190 .nil .nil),(4,.mp 28),(5,vB),(13,.val (.slice 120 du)),tI 14,tI 15],[(28,.map .str (.int .i64))],[]⟩
def Xp:SS:=⟨37,77,[(4,vM),(5,vB)],[],[]⟩
def Ge:aT:=aD G [.tmp 4,.tmp 5] 189 [.val (.slice 120 du),.func 190 .nil .nil] [] 77 Xp [] (.bx (u1 ue))
theorem Gf:hS Ge:=
 cO ⟨[hA 5 0,hA 8 0],[(10,Xn)],[],[(3,⟨Xo,fun u2=>Int.toNat u2.2.2.1+1⟩)],[],[]⟩ (hq RE hz) aF Tryz.call189 Tryz.func189
def f192(a0:rV):Option Zg:=
 some a0.1
def Xq:SS:=⟨5,45,[(2,.val .str)],[],[]⟩
def RI:aT:=aD G [.tmp 2] 192 [.val aK] [] 45 Xq [] (.bx (u1 f192))
theorem RJ:hS RI:=
 cO (hR []) hz aF Tryz.call192 Tryz.func192
def yo:Nat→Bool×Zv×Int×Int×Zo→ZX:=aH fun Z9 ⟨e,c,b,a,d⟩=>if(decide (a<b))=true then(if 0≤a then(if a<(List.length c:Int) then(Option.bind (f192 (nth aK c a)) fun y4=>if(cp .str y4 d)=true then(Z9 (true,c,b,aV (a+1),d)) else(Option.bind (f192 (nth aK c a)) fun y5=>if List.length d+1≤aC then(Z9 (e,c,b,aV (a+1),bz .str y5 a d)) else none)) else none) else none) else(some (.brk (e,d)))
def uf(a0:Zv):Option (Za×Bool):=
 aE (U:=Bool×Zo) (yo (Int.toNat (List.length a0:Int)+1) (false,a0,(List.length a0:Int),0,([]:Zo))) fun⟨b,a⟩=>some (some a,b)
def Xr:SS:=⟨37,77,[(4,.mp 28),(5,vB)],[(28,.map .str (.int .i64))],[]⟩
def Xs:SS:=⟨37,77,[(1,.func 192 .nil .nil),(4,.mp 28),(5,vB),(13,.val (.slice 96 aK)),tI 14,tI 15],[(28,.map .str (.int .i64))],[]⟩
def Xt:SS:=⟨37,77,[(4,vM),(5,vB)],[],[]⟩
def Gg:aT:=aD G [.tmp 4,.tmp 5] 191 [.val (.slice 96 aK),.func 192 .nil .nil] [] 77 Xt [] (.bx (u1 uf))
theorem Gi:hS Gg:=
 cO ⟨[hA 5 0,hA 8 0],[(10,Xr)],[],[(3,⟨Xs,fun u2=>Int.toNat u2.2.2.1+1⟩)],[],[]⟩ (hq RJ hz) aF Tryz.call191 Tryz.func191
def iv:Nat→Bool×ZA×Int×Int×cK×Ha→Option (cz (Bool×cK×Ha) (Bool×Ha)):=aH fun rec10 ⟨g,e,d,c,h,i,j,k,f⟩=>if(decide (c<d))=true then(if 0≤c then(if c<(List.length e:Int) then(Option.bind (ue (nth bB e c).2.2.2.2.1) fun⟨a,b⟩=>if(List.length f+List.length [a])*8≤aC then(Option.bind (α:=Bool) (if g=true then(some true) else(some b)) fun v12=>rec10 (v12,e,d,aV (c+1),h,i,j,k,f++[a])) else none) else none) else none) else(some (.brk (g,h,i,j,k,f)))
def iw:Nat→Bool×Zm×Int×Int×Ha→Option (cz (Bool×Ha) (Bool×Ha)):=aH fun rec15 ⟨e,d,c,b,f,g,h,i⟩=>if(decide (b<c))=true then(if 0≤b then(if b<(List.length d:Int) then(Option.bind (uf (nth bu d b).2.2.1) fun⟨_,a⟩=>Option.bind (α:=Bool) (if e=true then(some true) else(some a)) fun v17=>rec15 (v17,d,c,aV (b+1),f,g,h,i)) else none) else none) else(some (.brk (e,f,g,h,i)))
def oY(a0:cK):Option (Bool×Ha):=
 Option.bind (ua a0.1) fun⟨b,a⟩=>Option.bind (ub a0.2.1) fun⟨d,c⟩=>Option.bind (α:=Bool) (if a=true then(some true) else(some c)) fun v3=>Option.bind (uc a0.2.2.1) fun⟨f,e⟩=>Option.bind (α:=Bool) (if v3=true then(some true) else(some e)) fun v5=>Option.bind (ud a0.2.2.2.2.2.1) fun⟨_,g⟩=>Option.bind (α:=Bool) (if v5=true then(some true) else(some g)) fun v7=>aE (U:=Bool×cK×Ha) (iv (Int.toNat (List.length a0.2.2.1:Int)+1) (v7,a0.2.2.1,(List.length a0.2.2.1:Int),0,a0,b,d,f,([]:Zu))) fun⟨i,h,j,k,l,m⟩=>aE (U:=Bool×Ha) (iw (Int.toNat (List.length h.2.2.2.1:Int)+1) (i,h.2.2.2.1,(List.length h.2.2.2.1:Int),0,j,k,l,m)) fun⟨n,o,p,q,r⟩=>some (n,o,p,q,r)
def Xu:SS:=⟨108,148,[tP 1 17,tP 2 30,(3,vB)],[(17,bV fe),(30,rB 125),(125,.row 240 8 (.map .str (.int .i64)))],[]⟩
def VJ:SS:=⟨108,148,[tP 2 30,(3,vB)],[(30,rB 125),(125,.row 240 8 (.map .str (.int .i64)))],[]⟩
def Xv:SS:=⟨108,148,[tP 1 17,tP 2 30,(3,vB),(61,.val (.slice 96 bB)),tI 62,tI 63],[(17,bV fe),(30,rB 124),(124,.row 240 8 (.map .str (.int .i64)))],[]⟩
def Xw:SS:=⟨108,148,[tP 2 30,(3,vB),(89,.val (.slice 96 bu)),tI 90,tI 91],[(30,rB 125),(125,.row 240 8 (.map .str (.int .i64)))],[]⟩
def z8:aT:=aD G [.tmp 2,.tmp 3] 118 [.val fe] [] 148 VJ [30,125] (.bx (u1 oY))
theorem Gj:hS z8:=
 cO ⟨[hA 3 0,hA 4 1,hD 5 3 [],hA 6 2,hD 7 3 [],hA 8 3,hD 9 3 [],hA 13 4,hD 15 3 [],hA 20 5,hD 21 3 []],[(17,Xu),(23,VJ)],[],[(11,⟨Xv,fun u9=>Int.toNat u9.2.2.1+1⟩),(18,⟨Xw,fun Mh=>Int.toNat Mh.2.2.1+1⟩)],[],[]⟩ (hq F7 (hq F9 (hq Gb (hq Gd (hq Gf (hq Gi hz)))))) aF Tryz.call118 Tryz.func118
def ug(a0:ZH):Option ZH:=
 if(List.length ([]:ZH)+List.length a0)*16≤aC then some a0 else none
def Xx:SS:=⟨8,48,[(2,.own 23)],[(23,.row 9 16 .str)],[]⟩
def Aa:aT:=aD G [.tmp 2] 120 [.val (.slice 16 .str)] [] 48 Xx [23] (.bx (u1 ug))
theorem Gk:hS Aa:=
 aT.gL tied (H:=⟨[],[],[],[],[],[]⟩) (hold (l:=[]) trivial) rfl (.tmp 0) 3 4 22 22 9 16 .str (fun d=>d.1) (fun d=>⟨(.val (.slice 16 .str) d.1)::.bot::.aX::List.replicate 5 .bot,List.replicate 48 none,[]⟩) Tryz.call120 Tryz.func120 rfl rfl rfl rfl rfl rfl rfl rfl rfl rfl (by kernel_rfl) (fun _=>by kernel_rfl) (fun _=>by kernel_rfl) (fun _=>rfl) (fun _=>by kernel_rfl) (fun _ _=>by kernel_rfl) (fun d h=>by obtain⟨x,y⟩:=d;cases(h:x= []);kernel_rfl) (fun _=>by kernel_rfl)
def uh(a0:Zq):Option Zq:=
 if(List.length ([]:Zq)+List.length a0)*56≤aC then some a0 else none
def Xy:SS:=⟨8,48,[(2,.own 23)],[(23,.row 180 56 aO)],[]⟩
def Ab:aT:=aD G [.tmp 2] 121 [.val (.slice 56 aO)] [] 48 Xy [23] (.bx (u1 uh))
theorem Gl:hS Ab:=
 aT.gL tied (H:=⟨[],[],[],[],[],[]⟩) (hold (l:=[]) trivial) rfl (.tmp 0) 3 4 23 23 180 56 aO (fun d=>d.1) (fun d=>⟨(.val (.slice 56 aO) d.1)::.bot::.aX::List.replicate 5 .bot,List.replicate 48 none,[]⟩) Tryz.call121 Tryz.func121 rfl rfl rfl rfl rfl rfl rfl rfl rfl rfl (by kernel_rfl) (fun _=>by kernel_rfl) (fun _=>by kernel_rfl) (fun _=>rfl) (fun _=>by kernel_rfl) (fun _ _=>by kernel_rfl) (fun d h=>by obtain⟨x,y⟩:=d;cases(h:x= []);kernel_rfl) (fun _=>by kernel_rfl)
def ui(a0:ZA):Option ZA:=
 if(List.length ([]:ZA)+List.length a0)*96≤aC then some a0 else none
def Xz:SS:=⟨8,48,[(2,.own 23)],[(23,.row 103 96 bB)],[]⟩
def Ac:aT:=aD G [.tmp 2] 122 [.val (.slice 96 bB)] [] 48 Xz [23] (.bx (u1 ui))
theorem Gm:hS Ac:=
 aT.gL tied (H:=⟨[],[],[],[],[],[]⟩) (hold (l:=[]) trivial) rfl (.tmp 0) 3 4 24 24 103 96 bB (fun d=>d.1) (fun d=>⟨(.val (.slice 96 bB) d.1)::.bot::.aX::List.replicate 5 .bot,List.replicate 48 none,[]⟩) Tryz.call122 Tryz.func122 rfl rfl rfl rfl rfl rfl rfl rfl rfl rfl (by kernel_rfl) (fun _=>by kernel_rfl) (fun _=>by kernel_rfl) (fun _=>rfl) (fun _=>by kernel_rfl) (fun _ _=>by kernel_rfl) (fun d h=>by obtain⟨x,y⟩:=d;cases(h:x= []);kernel_rfl) (fun _=>by kernel_rfl)
def uj(a0:Zm):Option Zm:=
 if(List.length ([]:Zm)+List.length a0)*96≤aC then some a0 else none
def XA:SS:=⟨8,48,[(2,.own 23)],[(23,.row 114 96 bu)],[]⟩
def Ad:aT:=aD G [.tmp 2] 123 [.val (.slice 96 bu)] [] 48 XA [23] (.bx (u1 uj))
theorem Gn:hS Ad:=
 aT.gL tied (H:=⟨[],[],[],[],[],[]⟩) (hold (l:=[]) trivial) rfl (.tmp 0) 3 4 25 25 114 96 bu (fun d=>d.1) (fun d=>⟨(.val (.slice 96 bu) d.1)::.bot::.aX::List.replicate 5 .bot,List.replicate 48 none,[]⟩) Tryz.call123 Tryz.func123 rfl rfl rfl rfl rfl rfl rfl rfl rfl rfl (by kernel_rfl) (fun _=>by kernel_rfl) (fun _=>by kernel_rfl) (fun _=>rfl) (fun _=>by kernel_rfl) (fun _ _=>by kernel_rfl) (fun d h=>by obtain⟨x,y⟩:=d;cases(h:x= []);kernel_rfl) (fun _=>by kernel_rfl)
def uk(a0:ZE):Option ZE:=
 if(List.length ([]:ZE)+List.length a0)*72≤aC then some a0 else none
def XB:SS:=⟨8,48,[(2,.own 23)],[(23,.row 195 72 dR)],[]⟩
def Ae:aT:=aD G [.tmp 2] 124 [.val (.slice 72 dR)] [] 48 XB [23] (.bx (u1 uk))
theorem Gp:hS Ae:=
 aT.gL tied (H:=⟨[],[],[],[],[],[]⟩) (hold (l:=[]) trivial) rfl (.tmp 0) 3 4 26 26 195 72 dR (fun d=>d.1) (fun d=>⟨(.val (.slice 72 dR) d.1)::.bot::.aX::List.replicate 5 .bot,List.replicate 48 none,[]⟩) Tryz.call124 Tryz.func124 rfl rfl rfl rfl rfl rfl rfl rfl rfl rfl (by kernel_rfl) (fun _=>by kernel_rfl) (fun _=>by kernel_rfl) (fun _=>rfl) (fun _=>by kernel_rfl) (fun _ _=>by kernel_rfl) (fun d h=>by obtain⟨x,y⟩:=d;cases(h:x= []);kernel_rfl) (fun _=>by kernel_rfl)
def um(a0:Zz):Option Zz:=
 if(List.length ([]:Zz)+List.length a0)*48≤aC then some a0 else none
def XC:SS:=⟨8,48,[(2,.own 23)],[(23,.row 188 48 cQ)],[]⟩
def Af:aT:=aD G [.tmp 2] 125 [.val (.slice 48 cQ)] [] 48 XC [23] (.bx (u1 um))
theorem Gq:hS Af:=
 aT.gL tied (H:=⟨[],[],[],[],[],[]⟩) (hold (l:=[]) trivial) rfl (.tmp 0) 3 4 27 27 188 48 cQ (fun d=>d.1) (fun d=>⟨(.val (.slice 48 cQ) d.1)::.bot::.aX::List.replicate 5 .bot,List.replicate 48 none,[]⟩) Tryz.call125 Tryz.func125 rfl rfl rfl rfl rfl rfl rfl rfl rfl rfl (by kernel_rfl) (fun _=>by kernel_rfl) (fun _=>by kernel_rfl) (fun _=>rfl) (fun _=>by kernel_rfl) (fun _ _=>by kernel_rfl) (fun d h=>by obtain⟨x,y⟩:=d;cases(h:x= []);kernel_rfl) (fun _=>by kernel_rfl)
def f193(a0:Za)(a1:Zg):Option (Sum ZS Int):=
 if(!(cp .str a1 (bT a0)))=true then(some (.inl ((),()))) else(some (.inr (bJ .str (.int .i64) a1 (bT a0))))
def XD:SS:=⟨18,58,[tI 4],[],[]⟩
def rQ:aT:=aD G [.tmp 4] 193 [vM,.val .str] [] 58 XD [] (.iH (.iface 229 (.val .unit)) (u2 f193))
theorem uq:hS rQ:=
 aT.Cb tied (H:=⟨[],[],[],[],[],[]⟩) (hold (l:=[]) trivial) aF rfl Tryz.call193 Tryz.func193 rfl rfl rfl rfl (fun _=>by kernel_rfl) (fun _=>by kernel_rfl)
def qq:Nat→Int×Int×JQ→Option (cz JQ (Sum ZS JQ)):=aH fun Z9 ⟨t,s,v,w,x,u,y⟩=>if(decide (s<t))=true then(if 0≤s then(if s<(List.length u:Int) then(if(decide ((nth aO u s).2.1= []))=true then(Z9 (t,aV (s+1),v,w,x,List.set (List.set u (Int.toNat s) ((nth aO u s).1,(nth aO u s).2.1,(nth aO u s).2.2.1,s,(nth aO u s).2.2.2.2)) (Int.toNat s) ((nth aO (List.set u (Int.toNat s) ((nth aO u s).1,(nth aO u s).2.1,(nth aO u s).2.2.1,s,(nth aO u s).2.2.2.2)) s).1,(nth aO (List.set u (Int.toNat s) ((nth aO u s).1,(nth aO u s).2.1,(nth aO u s).2.2.1,s,(nth aO u s).2.2.2.2)) s).2.1,(nth aO (List.set u (Int.toNat s) ((nth aO u s).1,(nth aO u s).2.1,(nth aO u s).2.2.1,s,(nth aO u s).2.2.2.2)) s).2.2.1,(nth aO (List.set u (Int.toNat s) ((nth aO u s).1,(nth aO u s).2.1,(nth aO u s).2.2.1,s,(nth aO u s).2.2.2.2)) s).2.2.2.1,1,(nth aO (List.set u (Int.toNat s) ((nth aO u s).1,(nth aO u s).2.1,(nth aO u s).2.2.1,s,(nth aO u s).2.2.2.2)) s).2.2.2.2.2),y)) else(dG (f193 w (nth aO u s).2.1) (fun p8=>bP (some (.inl (p8.1,())))) fun y4=>aE (U:=Nat×Int×Int×Int×JQ) (if(decide (s≤y4))=true then(bP (bP (some (.inl ((),()))))) else(some (.brk (Int.toNat s,y4,t,s,v,w,x,u,y)))) fun⟨c,a,d,e,f,g,h,b,i⟩=>aE (U:=Nat×Int×Int×Int×JQ) (if 0≤a then(if a<(List.length b:Int) then(some (.brk (c,a,d,e,f,g,h,List.set (List.set b c ((List.getD b c (Ty.aB aO)).1,(List.getD b c (Ty.aB aO)).2.1,(List.getD b c (Ty.aB aO)).2.2.1,(nth aO b a).2.2.2.1,(List.getD b c (Ty.aB aO)).2.2.2.2)) c ((List.getD (List.set b c ((List.getD b c (Ty.aB aO)).1,(List.getD b c (Ty.aB aO)).2.1,(List.getD b c (Ty.aB aO)).2.2.1,(nth aO b a).2.2.2.1,(List.getD b c (Ty.aB aO)).2.2.2.2)) c (Ty.aB aO)).1,(List.getD (List.set b c ((List.getD b c (Ty.aB aO)).1,(List.getD b c (Ty.aB aO)).2.1,(List.getD b c (Ty.aB aO)).2.2.1,(nth aO b a).2.2.2.1,(List.getD b c (Ty.aB aO)).2.2.2.2)) c (Ty.aB aO)).2.1,(List.getD (List.set b c ((List.getD b c (Ty.aB aO)).1,(List.getD b c (Ty.aB aO)).2.1,(List.getD b c (Ty.aB aO)).2.2.1,(nth aO b a).2.2.2.1,(List.getD b c (Ty.aB aO)).2.2.2.2)) c (Ty.aB aO)).2.2.1,(List.getD (List.set b c ((List.getD b c (Ty.aB aO)).1,(List.getD b c (Ty.aB aO)).2.1,(List.getD b c (Ty.aB aO)).2.2.1,(nth aO b a).2.2.2.1,(List.getD b c (Ty.aB aO)).2.2.2.2)) c (Ty.aB aO)).2.2.2.1,0,(List.getD (List.set b c ((List.getD b c (Ty.aB aO)).1,(List.getD b c (Ty.aB aO)).2.1,(List.getD b c (Ty.aB aO)).2.2.1,(nth aO b a).2.2.2.1,(List.getD b c (Ty.aB aO)).2.2.2.2)) c (Ty.aB aO)).2.2.2.2.2),i))) else none) else none) fun⟨k,l,m,n,o,p,q,j,r⟩=>Option.bind (α:=Bool) (if(decide ((2:Int)≤(List.getD j k (Ty.aB aO)).2.2.1))=true then(if(decide ((List.getD j k (Ty.aB aO)).2.2.1≤(1000:Int)))=true then(if 0≤l then(if l<(List.length j:Int) then(some (decide ((aV ((List.getD j k (Ty.aB aO)).2.2.1*(nth aO j l).2.2.2.2.1))≤(1099511627776:Int)))) else none) else none) else(some false)) else(some false)) fun v7=>if v7=true then(if 0≤l then(if l<(List.length j:Int) then(Z9 (m,aV (n+1),o,p,q,List.set j k ((List.getD j k (Ty.aB aO)).1,(List.getD j k (Ty.aB aO)).2.1,(List.getD j k (Ty.aB aO)).2.2.1,(List.getD j k (Ty.aB aO)).2.2.2.1,aV ((List.getD j k (Ty.aB aO)).2.2.1*(nth aO j l).2.2.2.2.1),(List.getD j k (Ty.aB aO)).2.2.2.2.2),r)) else none) else none) else(Z9 (m,aV (n+1),o,p,q,j,r)))) else none) else none) else(some (.brk (v,w,x,u,y)))
def oZ(a0:Za)(a1:Za)(a2:Za)(a3:Zq)(a4:Zu):Option (Sum ZS JQ):=
 aE (U:=JQ) (qq (Int.toNat (List.length a3:Int)+1) ((List.length a3:Int),0,a0,a1,a2,a3,a4)) fun⟨a,b,c,d,e⟩=>some (.inr (a,b,c,d,e))
def VK:SS:=⟨91,131,[tP 0 0,(1,.own 1),(5,.ptr 1 [.idx]),tI 6,tI 8,tI 9],[(0,rB 2),(1,.row 180 56 aO),(2,.row 240 8 (.map .str (.int .i64)))],[]⟩
def VL:SS:=⟨91,131,[],[(0,rB 2),(1,.row 180 56 aO),(2,.row 240 8 (.map .str (.int .i64)))],[]⟩
def XE:SS:=⟨91,131,[tP 0 0,(1,.own 1),tI 8,tI 9],[(0,rB 2),(1,.row 180 56 aO),(2,.row 240 8 (.map .str (.int .i64)))],[]⟩
def Ag:aT:=aD G [] 126 [pP 0,.own 1] [(0,rB 2),(1,.row 180 56 aO),(2,.row 240 8 (.map .str (.int .i64)))] 131 VL [0,1,2] (.iH (.iface 229 (.val .unit)) (u5 oZ))
theorem Gr:hS Ag:=
 aT.Cb tied (H:=⟨[hA 6 0,hD 10 76 []],[(9,VK),(10,VK)],[(0,VL)],[(1,⟨XE,fun u2=>Int.toNat u2.1+1⟩)],[],[]⟩) (hold (l:=[rQ]) ⟨uq,trivial⟩) aF rfl Tryz.call126 Tryz.func126 rfl rfl rfl rfl (fun _=>by kernel_rfl) (fun _=>by kernel_rfl)
def ur(a0:ZF):Option ZF:=
 if(List.length ([]:ZF)+List.length a0)*120≤aC then some a0 else none
def XF:SS:=⟨8,48,[(2,.own 23)],[(23,.row 99 120 du)],[]⟩
def Ah:aT:=aD G [.tmp 2] 194 [.val (.slice 120 du)] [] 48 XF [23] (.bx (u1 ur))
theorem Gs:hS Ah:=
 aT.gL tied (H:=⟨[],[],[],[],[],[]⟩) (hold (l:=[]) trivial) rfl (.tmp 0) 3 4 100 100 99 120 du (fun d=>d.1) (fun d=>⟨(.val (.slice 120 du) d.1)::.bot::.aX::List.replicate 5 .bot,List.replicate 48 none,[]⟩) Tryz.call194 Tryz.func194 rfl rfl rfl rfl rfl rfl rfl rfl rfl rfl (by kernel_rfl) (fun _=>by kernel_rfl) (fun _=>by kernel_rfl) (fun _=>rfl) (fun _=>by kernel_rfl) (fun _ _=>by kernel_rfl) (fun d h=>by obtain⟨x,y⟩:=d;cases(h:x= []);kernel_rfl) (fun _=>by kernel_rfl)
def uu(a0:List gB):Option (List gB):=
 if(List.length ([]:List gB)+List.length a0)*72≤aC then some a0 else none
def XG:SS:=⟨8,48,[(2,.own 23)],[(23,.row 262 72 dy)],[]⟩
def Ai:aT:=aD G [.tmp 2] 195 [.val (.slice 72 dy)] [] 48 XG [23] (.bx (u1 uu))
theorem Gt:hS Ai:=
 aT.gL tied (H:=⟨[],[],[],[],[],[]⟩) (hold (l:=[]) trivial) rfl (.tmp 0) 3 4 101 101 262 72 dy (fun d=>d.1) (fun d=>⟨(.val (.slice 72 dy) d.1)::.bot::.aX::List.replicate 5 .bot,List.replicate 48 none,[]⟩) Tryz.call195 Tryz.func195 rfl rfl rfl rfl rfl rfl rfl rfl rfl rfl (by kernel_rfl) (fun _=>by kernel_rfl) (fun _=>by kernel_rfl) (fun _=>rfl) (fun _=>by kernel_rfl) (fun _ _=>by kernel_rfl) (fun d h=>by obtain⟨x,y⟩:=d;cases(h:x= []);kernel_rfl) (fun _=>by kernel_rfl)
def qt:Nat→Za×Int×Int×ZV→Option (cz (Za×ZV) (Sum ZS Zr)):=aH fun aaI ⟨t,r,q,u,v,w,x,y,z,aa,ab,ac,ad,ae,s⟩=>if(decide (q<r))=true then(if 0≤q then(if q<(List.length s:Int) then(aE (U:=Za×Nat×Int×Int×ZV) (some (.brk (t,Int.toNat q,r,q,u,v,w,x,y,z,aa,ab,ac,ad,ae,List.set s (Int.toNat q) ((nth du s q).1,((nth du s q).2.1.1,(nth du s q).2.1.2.1,(nth du s q).2.1.2.2.1,(nth du s q).2.1.2.2.2.1,(-1:Int),(nth du s q).2.1.2.2.2.2.2),(nth du s q).2.2)))) fun⟨d,b,e,f,g,c,h,i,j,k,l,m,n,o,p,a⟩=>Option.bind (α:=Bool) (if(decide ((List.getD a b (Ty.aB du)).2.1.1=(1:Int)))=true then(some (!decide ((List.getD a b (Ty.aB du)).2.1.2.2.2.1= []))) else(some false)) fun v7=>if v7=true then(dG (f193 c (List.getD a b (Ty.aB du)).2.1.2.2.2.1) (fun p9=>bP (some (.inl (p9.1,())))) fun y8=>aaI (d,e,aV (f+1),g,c,h,i,j,k,l,m,n,o,p,List.set a b ((List.getD a b (Ty.aB du)).1,((List.getD a b (Ty.aB du)).2.1.1,(List.getD a b (Ty.aB du)).2.1.2.1,(List.getD a b (Ty.aB du)).2.1.2.2.1,(List.getD a b (Ty.aB du)).2.1.2.2.2.1,y8,(List.getD a b (Ty.aB du)).2.1.2.2.2.2.2),(List.getD a b (Ty.aB du)).2.2))) else(aaI (d,e,aV (f+1),g,c,h,i,j,k,l,m,n,o,p,a))) else none) else none) else(some (.brk (t,u,v,w,x,y,z,aa,ab,ac,ad,ae,s)))
def nZ:Nat→Za×Int×Int×ZH×Zw→Option (cz (Za×Zw) (cz (Za×Zw) (cz Zr (Sum ZS Zr)))):=aH fun rec17 ⟨d,f,g,c,b,a,h,i,j,k,l,m,n,o,p,q,r,s,t,u,v,w,x,e⟩=>if(decide (a<b))=true then(if 0≤a then(if a<(List.length c:Int) then(dG (f193 d (nth .str c a)) (fun p19=>bP (bP (bP (some (.inl (p19.1,())))))) fun y18=>if(List.length e+List.length [y18])*8≤aC then(rec17 (d,f,g,c,b,aV (a+1),h,i,j,k,l,m,n,o,p,q,r,s,t,u,v,w,x,e++[y18])) else none) else none) else none) else(some (.brk (d,f,g,h,i,j,k,l,m,n,o,p,q,r,s,t,u,v,w,x,e)))
def oc:Nat→Za×Int×Int×Zr→Option (cz Zr (Sum ZS Zr)):=aH fun rec13 ⟨av,ar,aq,aw,ax,ay,az,a0,a1,a2,a3,a4,a5,a6,a7,au⟩=>if(decide (aq<ar))=true then(aE (U:=Za×Zw) (if 0≤aq then(if aq<(List.length au:Int) then(aE (U:=Za×Zw) (nZ (Int.toNat (List.length (nth dy au aq).1:Int)+1) (av,ar,aq,(nth dy au aq).1,(List.length (nth dy au aq).1:Int),0,aw,ax,ay,az,a0,a1,a2,a3,a4,a5,a6,a7,au,Int.toNat aq,(nth dy au aq).1,(nth dy au aq).2.1,(nth dy au aq).2.2.2,([]:Zf))) fun⟨a,c,d,e,f,g,h,i,j,k,l,m,n,o,p,q,r,s,b,t,u⟩=>dG (f193 a b) (fun p21=>bP (bP (some (.inl (p21.1,()))))) fun y20=>some (.brk (a,c,d,e,f,g,h,i,j,k,l,m,n,o,p,q,r,s,b,(y20,t.2),u))) else none) else none) fun⟨v,w,x,y,z,aa,ab,ac,ad,ae,af,ag,ah,ai,aj,ak,al,am,an,ap,ao⟩=>rec13 (v,w,aV (x+1),y,z,aa,ab,ac,ad,ae,af,ag,ah,ai,aj,List.set ak al (am,an,ao,ap))) else(some (.brk (aw,ax,ay,az,a0,a1,a2,a3,a4,a5,a6,a7,au)))
def o9(a0:Za)(a1:Za)(a2:Za)(a3:Za)(a4:ZA)(a5:Nat)(a6:jt)(a7:Zu):Option (Sum ZS Zr):=
 dG (f193 a1 a6.2.1) (fun p22=>some (.inl (p22.1,()))) fun y1=>Option.bind (ur a6.2.2.2.2.1) fun y2=>aE (U:=Za×ZV) (qt (Int.toNat (List.length y2:Int)+1) (a0,(List.length y2:Int),0,a1,a2,a3,a4,a5,a6.1,a6.2.1,y1,a6.2.2.2.1,a6.2.2.2.2.2,a7,y2)) fun⟨b,c,d,e,f,g,h,i,j,k,a,l,m⟩=>Option.bind (uu a.1) fun y10=>aE (U:=Zr) (oc (Int.toNat (List.length y10:Int)+1) (b,(List.length y10:Int),0,c,d,e,f,g,h,i,j,k,a.2,l,m,y10)) fun⟨n,o,p,q,r,s,t,u,v,w,x,y,z⟩=>some (.inr (n,o,p,q,r,s,t,u,v,w,x,y,z))
def XH:SS:=⟨132,172,[tP 0 0,(1,.ptr 1 [.bZ 1]),(2,vM),(7,.ptr 45 [.idx,.bZ 1]),tI 36,tI 37],[(0,rB 2),(1,.bN 103 96 bB (.cons (.val .str) (.cons (.val .str) (.cons vI (.cons vI (.cons (.own 45) (.val (.pair (.slice 72 dy) .unit)))))))),(2,.row 240 8 (.map .str (.int .i64))),(45,.row 99 120 du)],[]⟩
def XI:SS:=⟨132,172,[(1,.ptr 1 [.bZ 1]),(2,vM)],[(0,rB 2),(1,.bN 103 96 bB (.cons (.val .str) (.cons (.val .str) (.cons vI (.cons vI (.cons (.own 45) (.val (.pair (.slice 72 dy) .unit)))))))),(2,.row 240 8 (.map .str (.int .i64))),(45,.row 99 120 du)],[]⟩
def XJ:SS:=⟨132,172,[(1,.ptr 1 [.bZ 1]),(2,vM),(9,.ptr 96 [.bZ 1]),tI 87,tI 88],[(0,rB 2),(1,.bN 103 96 bB (.cons (.val .str) (.cons (.val .str) (.cons vI (.cons vI (.cons (.own 45) (.cons (.own 96) (.val .unit)))))))),(2,.row 240 8 (.map .str (.int .i64))),(45,.row 99 120 du),(96,.bN 262 72 dy (.cons (.val (.slice 16 .str)) (.cons (.val .str) (.cons (.own 149) (.val (.pair (.int .i64) .unit)))))),(149,.row 3 8 (.int .i64))],[]⟩
def XK:SS:=⟨132,172,[(1,.ptr 1 [.bZ 1]),(2,vM),tI 87,tI 88],[(0,rB 2),(1,.bN 103 96 bB (.cons (.val .str) (.cons (.val .str) (.cons vI (.cons vI (.cons (.own 45) (.cons (.own 96) (.val .unit)))))))),(2,.row 240 8 (.map .str (.int .i64))),(45,.row 99 120 du),(96,.bN 262 72 dy (.cons (.val (.slice 16 .str)) (.cons (.val .str) (.cons (.own 149) (.val (.pair (.int .i64) .unit)))))),(149,.row 3 8 (.int .i64))],[]⟩
def VM:SS:=⟨132,172,[],[(0,rB 2),(1,.bN 103 96 bB (.cons (.val .str) (.cons (.val .str) (.cons vI (.cons vI (.cons (.own 45) (.cons (.own 96) (.val .unit)))))))),(2,.row 240 8 (.map .str (.int .i64))),(45,.row 99 120 du),(96,.row 262 72 dy)],[]⟩
def XL:SS:=⟨132,172,[tP 0 0,(1,.ptr 1 [.bZ 1]),(2,vM),tI 36,tI 37],[(0,rB 2),(1,.bN 103 96 bB (.cons (.val .str) (.cons (.val .str) (.cons vI (.cons vI (.cons (.own 45) (.val (.pair (.slice 72 dy) .unit)))))))),(2,.row 240 8 (.map .str (.int .i64))),(45,.row 99 120 du)],[]⟩
def XM:SS:=⟨132,172,[(1,.ptr 1 [.bZ 1]),(2,vM),tI 87,tI 88],[(0,rB 2),(1,.bN 103 96 bB (.cons (.val .str) (.cons (.val .str) (.cons vI (.cons vI (.cons (.own 45) (.cons (.own 96) (.val .unit)))))))),(2,.row 240 8 (.map .str (.int .i64))),(45,.row 99 120 du),(96,.row 262 72 dy)],[]⟩
def XN:SS:=⟨132,172,[(1,.ptr 1 [.bZ 1]),(2,vM),(9,.ptr 96 [.bZ 1]),tI 87,tI 88,(103,.val (.slice 16 .str)),tI 104,tI 105],[(0,rB 2),(1,.bN 103 96 bB (.cons (.val .str) (.cons (.val .str) (.cons vI (.cons vI (.cons (.own 45) (.cons (.own 96) (.val .unit)))))))),(2,.row 240 8 (.map .str (.int .i64))),(45,.row 99 120 du),(96,.bN 262 72 dy (.cons (.val (.slice 16 .str)) (.cons (.val .str) (.cons (.own 148) (.val (.pair (.int .i64) .unit)))))),(148,.row 3 8 (.int .i64))],[]⟩
def Aj:aT:=aD G [] 127 [pP 0,.ptr 1 [.bZ 1],vM] [(0,rB 2),(1,.bN 103 96 bB (.val bB)),(2,.row 240 8 (.map .str (.int .i64)))] 172 VM [0,1,2,45,96] (.iH (.iface 229 (.val .unit)) (u8 o9))
theorem Gu:hS Aj:=
 aT.Cb tied (H:=⟨[hA 0 0,hE 1 [cB 1 [] [(23,45)]],hD 7 61 [],hA 8 0,hE 10 [cB 2 [] [(23,96)]],(15,⟨[],[],[],none,[(96,9)],[],[]⟩),hA 19 0,hA 21 0,(22,⟨[.freeze 149 (.slice 8 (.int .i64)),.iU 96],[],[],none,[],[],[]⟩)],[(7,XH),(10,XI),(21,XJ),(22,XK)],[(2,VM)],[(3,⟨XL,fun u4=>Int.toNat u4.2.1+1⟩),(12,⟨XM,fun IJ=>Int.toNat IJ.2.1+1⟩),(17,⟨XN,fun u16=>Int.toNat u16.2.2.2.2.1+1⟩)],[],[]⟩) (hold (l:=[rQ,Ah,Ai]) ⟨uq,Gs,Gt,trivial⟩) aF rfl Tryz.call127 Tryz.func127 rfl rfl rfl rfl (fun _=>by kernel_rfl) (fun _=>by kernel_rfl)
def iO(_q0:Unit):ZM:=
 some (110:Int)
def VN:SS:=⟨17,57,[],[(0,.var fe (.cons .aX (.cons .aX (.cons .aX (.cons .aX (.cons .aX (.cons .aX .nil))))))),(1,bI)],[]⟩
def wC:eF:=⟨119,[.ptr 0 [],.ptr 1 []],[(0,.var fe (.dP fe)),(1,.var (.int .i64) (.dP (.int .i64)))],57,.iface 229 (.val .unit),VN,fun r=>pick [0,1] (SS.st VN y0 r).hp,fun _=>none,fun _ q=>iO q.1⟩
theorem Dc:wC.holds Tryz.prog gl:=
 eF.Cb tied (H:=⟨[],[],[],[],[],[]⟩) (hold (l:=[]) trivial) rfl Tryz.call119 Tryz.func119 rfl rfl rfl rfl rfl rfl rfl rfl rfl rfl rfl rfl (fun _=>by kernel_rfl) (fun _ _=>by kernel_rfl)
def uv(a0:Zv):Option Zv:=
 if(List.length ([]:Zv)+List.length a0)*96≤aC then some a0 else none
def XO:SS:=⟨8,48,[(2,.own 23)],[(23,.row 269 96 aK)],[]⟩
def Ak:aT:=aD G [.tmp 2] 196 [.val (.slice 96 aK)] [] 48 XO [23] (.bx (u1 uv))
theorem Gv:hS Ak:=
 aT.gL tied (H:=⟨[],[],[],[],[],[]⟩) (hold (l:=[]) trivial) rfl (.tmp 0) 3 4 110 110 269 96 aK (fun d=>d.1) (fun d=>⟨(.val (.slice 96 aK) d.1)::.bot::.aX::List.replicate 5 .bot,List.replicate 48 none,[]⟩) Tryz.call196 Tryz.func196 rfl rfl rfl rfl rfl rfl rfl rfl rfl rfl (by kernel_rfl) (fun _=>by kernel_rfl) (fun _=>by kernel_rfl) (fun _=>rfl) (fun _=>by kernel_rfl) (fun _ _=>by kernel_rfl) (fun d h=>by obtain⟨x,y⟩:=d;cases(h:x= []);kernel_rfl) (fun _=>by kernel_rfl)
def pa(a0:Nat)(a1:Zv)(a2:Zo)(a3:Za)(a4:Za)(a5:Za)(a6:Zm)(a7:Nat)(a8:Zg)(a9:Int)(a10:Zx×Zy×Unit)(a11:Zu):Option (Sum ZS SJ):=
 aE (U:=Nat×SJ) (some (.brk (a0,List.set (List.set a1 a0 ((List.getD a1 a0 (Ty.aB aK)).1,(List.getD a1 a0 (Ty.aB aK)).2.1,(List.getD a1 a0 (Ty.aB aK)).2.2.1,((List.getD a1 a0 (Ty.aB aK)).2.2.2.1.1,(List.getD a1 a0 (Ty.aB aK)).2.2.2.1.2.1,(-1:Int),(List.getD a1 a0 (Ty.aB aK)).2.2.2.1.2.2.2),(List.getD a1 a0 (Ty.aB aK)).2.2.2.2)) a0 ((List.getD (List.set a1 a0 ((List.getD a1 a0 (Ty.aB aK)).1,(List.getD a1 a0 (Ty.aB aK)).2.1,(List.getD a1 a0 (Ty.aB aK)).2.2.1,((List.getD a1 a0 (Ty.aB aK)).2.2.2.1.1,(List.getD a1 a0 (Ty.aB aK)).2.2.2.1.2.1,(-1:Int),(List.getD a1 a0 (Ty.aB aK)).2.2.2.1.2.2.2),(List.getD a1 a0 (Ty.aB aK)).2.2.2.2)) a0 (Ty.aB aK)).1,(List.getD (List.set a1 a0 ((List.getD a1 a0 (Ty.aB aK)).1,(List.getD a1 a0 (Ty.aB aK)).2.1,(List.getD a1 a0 (Ty.aB aK)).2.2.1,((List.getD a1 a0 (Ty.aB aK)).2.2.2.1.1,(List.getD a1 a0 (Ty.aB aK)).2.2.2.1.2.1,(-1:Int),(List.getD a1 a0 (Ty.aB aK)).2.2.2.1.2.2.2),(List.getD a1 a0 (Ty.aB aK)).2.2.2.2)) a0 (Ty.aB aK)).2.1,(List.getD (List.set a1 a0 ((List.getD a1 a0 (Ty.aB aK)).1,(List.getD a1 a0 (Ty.aB aK)).2.1,(List.getD a1 a0 (Ty.aB aK)).2.2.1,((List.getD a1 a0 (Ty.aB aK)).2.2.2.1.1,(List.getD a1 a0 (Ty.aB aK)).2.2.2.1.2.1,(-1:Int),(List.getD a1 a0 (Ty.aB aK)).2.2.2.1.2.2.2),(List.getD a1 a0 (Ty.aB aK)).2.2.2.2)) a0 (Ty.aB aK)).2.2.1,((List.getD (List.set a1 a0 ((List.getD a1 a0 (Ty.aB aK)).1,(List.getD a1 a0 (Ty.aB aK)).2.1,(List.getD a1 a0 (Ty.aB aK)).2.2.1,((List.getD a1 a0 (Ty.aB aK)).2.2.2.1.1,(List.getD a1 a0 (Ty.aB aK)).2.2.2.1.2.1,(-1:Int),(List.getD a1 a0 (Ty.aB aK)).2.2.2.1.2.2.2),(List.getD a1 a0 (Ty.aB aK)).2.2.2.2)) a0 (Ty.aB aK)).2.2.2.1.1,(List.getD (List.set a1 a0 ((List.getD a1 a0 (Ty.aB aK)).1,(List.getD a1 a0 (Ty.aB aK)).2.1,(List.getD a1 a0 (Ty.aB aK)).2.2.1,((List.getD a1 a0 (Ty.aB aK)).2.2.2.1.1,(List.getD a1 a0 (Ty.aB aK)).2.2.2.1.2.1,(-1:Int),(List.getD a1 a0 (Ty.aB aK)).2.2.2.1.2.2.2),(List.getD a1 a0 (Ty.aB aK)).2.2.2.2)) a0 (Ty.aB aK)).2.2.2.1.2.1,(List.getD (List.set a1 a0 ((List.getD a1 a0 (Ty.aB aK)).1,(List.getD a1 a0 (Ty.aB aK)).2.1,(List.getD a1 a0 (Ty.aB aK)).2.2.1,((List.getD a1 a0 (Ty.aB aK)).2.2.2.1.1,(List.getD a1 a0 (Ty.aB aK)).2.2.2.1.2.1,(-1:Int),(List.getD a1 a0 (Ty.aB aK)).2.2.2.1.2.2.2),(List.getD a1 a0 (Ty.aB aK)).2.2.2.2)) a0 (Ty.aB aK)).2.2.2.1.2.2.1,0,(List.getD (List.set a1 a0 ((List.getD a1 a0 (Ty.aB aK)).1,(List.getD a1 a0 (Ty.aB aK)).2.1,(List.getD a1 a0 (Ty.aB aK)).2.2.1,((List.getD a1 a0 (Ty.aB aK)).2.2.2.1.1,(List.getD a1 a0 (Ty.aB aK)).2.2.2.1.2.1,(-1:Int),(List.getD a1 a0 (Ty.aB aK)).2.2.2.1.2.2.2),(List.getD a1 a0 (Ty.aB aK)).2.2.2.2)) a0 (Ty.aB aK)).2.2.2.1.2.2.2.2),(List.getD (List.set a1 a0 ((List.getD a1 a0 (Ty.aB aK)).1,(List.getD a1 a0 (Ty.aB aK)).2.1,(List.getD a1 a0 (Ty.aB aK)).2.2.1,((List.getD a1 a0 (Ty.aB aK)).2.2.2.1.1,(List.getD a1 a0 (Ty.aB aK)).2.2.2.1.2.1,(-1:Int),(List.getD a1 a0 (Ty.aB aK)).2.2.2.1.2.2.2),(List.getD a1 a0 (Ty.aB aK)).2.2.2.2)) a0 (Ty.aB aK)).2.2.2.2),a2,a3,a4,a5,a6,a7,a8,a9,a10,a11))) fun⟨b,a,c,d,e,f,g,h,i,j,k,l⟩=>if(!decide ((List.getD a b (Ty.aB aK)).2.2.2.1.1= []))=true then(aE (U:=Nat×SJ) (dG (f193 (some c) (List.getD a b (Ty.aB aK)).2.2.2.1.1) (fun p4=>bP (some (.inl (p4.1,())))) fun y3=>some (.brk (b,List.set a b ((List.getD a b (Ty.aB aK)).1,(List.getD a b (Ty.aB aK)).2.1,(List.getD a b (Ty.aB aK)).2.2.1,((List.getD a b (Ty.aB aK)).2.2.2.1.1,(List.getD a b (Ty.aB aK)).2.2.2.1.2.1,y3,(List.getD a b (Ty.aB aK)).2.2.2.1.2.2.2),(List.getD a b (Ty.aB aK)).2.2.2.2),c,d,e,f,g,h,i,j,k,l))) fun⟨n,m,p,q,r,s,t,u,v,w,x,o⟩=>if 0≤(List.getD m n (Ty.aB aK)).2.2.2.1.2.2.1 then(if(List.getD m n (Ty.aB aK)).2.2.2.1.2.2.1<(List.length m:Int) then(if 0≤(nth aK m (List.getD m n (Ty.aB aK)).2.2.2.1.2.2.1).2.2.1 then(if(nth aK m (List.getD m n (Ty.aB aK)).2.2.2.1.2.2.1).2.2.1<(List.length o:Int) then(dG (f193 (nth (.map .str (.int .i64)) o (nth aK m (List.getD m n (Ty.aB aK)).2.2.2.1.2.2.1).2.2.1) (List.getD m n (Ty.aB aK)).2.2.2.1.2.1) (fun p6=>some (.inl (p6.1,()))) fun y5=>some (.inr (List.set m n ((List.getD m n (Ty.aB aK)).1,(List.getD m n (Ty.aB aK)).2.1,(List.getD m n (Ty.aB aK)).2.2.1,((List.getD m n (Ty.aB aK)).2.2.2.1.1,(List.getD m n (Ty.aB aK)).2.2.2.1.2.1,(List.getD m n (Ty.aB aK)).2.2.2.1.2.2.1,y5,(List.getD m n (Ty.aB aK)).2.2.2.1.2.2.2.2),(List.getD m n (Ty.aB aK)).2.2.2.2),p,q,r,s,t,u,v,w,x,o))) else none) else none) else none) else none) else(some (.inr (a,c,d,e,f,g,h,i,j,k,l)))
def XP:SS:=⟨50,90,[(0,.ptr 0 [.idx,.bZ 3]),tP 1 1,tP 2 2,tP 3 3],[(0,.row 269 96 aK),(1,.var (.map .str (.int .i64)) (.mp 4)),(2,.var (.aN .ptr) (pP 5)),(3,.var (.aN .ptr) (.ptr 6 [.bZ 1])),(4,.map .str (.int .i64)),(5,rB 7),(6,.bN 114 96 bu (.cons (.val .str) (.cons vI (.cons (.own 0) (.val (.pair (.slice 120 aM) (.pair (.slice 80 aW) .unit))))))),(7,.row 240 8 (.map .str (.int .i64)))],[]⟩
def XQ:SS:=⟨50,90,[(0,.ptr 0 [.idx,.bZ 3]),tP 2 2,tP 3 3],[(0,.row 269 96 aK),(1,.var (.map .str (.int .i64)) (.mp 4)),(2,.var (.aN .ptr) (pP 5)),(3,.var (.aN .ptr) (.ptr 6 [.bZ 1])),(4,.map .str (.int .i64)),(5,rB 7),(6,.bN 114 96 bu (.cons (.val .str) (.cons vI (.cons (.own 0) (.val (.pair (.slice 120 aM) (.pair (.slice 80 aW) .unit))))))),(7,.row 240 8 (.map .str (.int .i64)))],[]⟩
def XR:SS:=⟨50,90,[],[(0,.row 269 96 aK),(1,.var (.map .str (.int .i64)) (.mp 4)),(2,.var (.aN .ptr) (pP 5)),(3,.var (.aN .ptr) (.ptr 6 [.bZ 1])),(4,.map .str (.int .i64)),(5,rB 7),(6,.bN 114 96 bu (.cons (.val .str) (.cons vI (.cons (.own 0) (.val (.pair (.slice 120 aM) (.pair (.slice 80 aW) .unit))))))),(7,.row 240 8 (.map .str (.int .i64)))],[]⟩
def Al:aT:=aD G [] 197 [.ptr 0 [.idx,.bZ 3],pP 1,pP 2,pP 3] [(0,.row 269 96 aK),(1,.var (.map .str (.int .i64)) (.mp 4)),(2,.var (.aN .ptr) (pP 5)),(3,.var (.aN .ptr) (.ptr 6 [.bZ 1])),(4,.map .str (.int .i64)),(5,rB 7),(6,.bN 114 96 bu (.cons (.val .str) (.cons vI (.cons (.own 0) (.val (.pair (.slice 120 aM) (.pair (.slice 80 aW) .unit))))))),(7,.row 240 8 (.map .str (.int .i64)))] 90 XR [0,1,2,3,4,5,6,7] (.iH (.iface 229 (.val .unit)) (IJ pa))
theorem Gw:hS Al:=
 aT.Cb tied (H:=⟨[hA 2 0,hA 3 0],[(1,XP),(3,XQ)],[],[],[],[]⟩) (hold (l:=[rQ]) ⟨uq,trivial⟩) aF rfl Tryz.call197 Tryz.func197 rfl rfl rfl rfl (fun _=>by kernel_rfl) (fun _=>by kernel_rfl)
def uw(a0:Zx):Option Zx:=
 if(List.length ([]:Zx)+List.length a0)*120≤aC then some a0 else none
def XS:SS:=⟨8,48,[(2,.own 23)],[(23,.row 253 120 aM)],[]⟩
def Am:aT:=aD G [.tmp 2] 198 [.val (.slice 120 aM)] [] 48 XS [23] (.bx (u1 uw))
theorem Gx:hS Am:=
 aT.gL tied (H:=⟨[],[],[],[],[],[]⟩) (hold (l:=[]) trivial) rfl (.tmp 0) 3 4 111 111 253 120 aM (fun d=>d.1) (fun d=>⟨(.val (.slice 120 aM) d.1)::.bot::.aX::List.replicate 5 .bot,List.replicate 48 none,[]⟩) Tryz.call198 Tryz.func198 rfl rfl rfl rfl rfl rfl rfl rfl rfl rfl (by kernel_rfl) (fun _=>by kernel_rfl) (fun _=>by kernel_rfl) (fun _=>rfl) (fun _=>by kernel_rfl) (fun _ _=>by kernel_rfl) (fun d h=>by obtain⟨x,y⟩:=d;cases(h:x= []);kernel_rfl) (fun _=>by kernel_rfl)
end Go.Proofs.YtgdcjlldafmomaaGreat
