/- part -/
import Derived.Test.YtgdcjlldafmomaaGreatUN
noncomputable section
namespace Go.Proofs.YtgdcjlldafmomaaGreat
open Go.Ax
def f182(a0:Zg):Option Zg:=
 some a0
def YW:SS:=⟨4,44,[(2,.val .str)],[],[]⟩
def Rf:aW:=aF G [.tmp 2] 182 [.val .str] [] 44 YW [] (.bE (u1 f182))
theorem Rg:hS Rf:=
 cO (hR []) hz aI Tryz.call182 Tryz.func182
def Au:Nat→Bool×ZF×Int×Int×Zo→ZW:=aK fun acK ⟨e,c,b,a,d⟩=>if(decide (a<b))=true then(if 0≤a then(if a<(List.length c:Int) then(Option.bind (f182 (nth .str c a)) fun y4=>if(ck .str y4 d)=true then(acK (true,c,b,aZ (a+1),d)) else(Option.bind (f182 (nth .str c a)) fun y5=>if List.length d+1≤aE then(acK (e,c,b,aZ (a+1),bB .str y5 a d)) else none)) else none) else none) else(some (.brk (e,d)))
def wj(a0:ZF):Option (Za×Bool):=
 aG (U:=Bool×Zo) (Au (Int.toNat (List.length a0:Int)+1) (false,a0,(List.length a0:Int),0,([]:Zo))) fun⟨b,a⟩=>some (some a,b)
def YX:SS:=⟨37,77,[(4,.mp 28),(5,vB)],[(28,.map .str (.int .i64))],[]⟩
def YY:SS:=⟨37,77,[(1,.func 182 .nil .nil),(4,.mp 28),(5,vB),(13,.val (.slice 16 .str)),tI 14,tI 15],[(28,.map .str (.int .i64))],[]⟩
def YZ:SS:=⟨37,77,[(4,vM),(5,vB)],[],[]⟩
def Hp:aW:=aF G [.tmp 4,.tmp 5] 181 [.val (.slice 16 .str),.func 182 .nil .nil] [] 77 YZ [] (.bE (u1 wj))
theorem Hq:hS Hp:=
 cO ⟨[hA 5 0,hA 8 0],[(10,YX)],[],[(3,⟨YY,fun u2=>Int.toNat u2.2.2.1+1⟩)],[],[]⟩ (hq Rg hz) aI Tryz.call181 Tryz.func181
def f184(a0:gO):Option Zg:=
 some a0.1
def Y0:SS:=⟨5,45,[(2,.val .str)],[],[]⟩
def Rh:aW:=aF G [.tmp 2] 184 [.val aS] [] 45 Y0 [] (.bE (u1 f184))
theorem Rj:hS Rh:=
 cO (hR []) hz aI Tryz.call184 Tryz.func184
def Av:Nat→Bool×Zq×Int×Int×Zo→ZW:=aK fun acK ⟨e,c,b,a,d⟩=>if(decide (a<b))=true then(if 0≤a then(if a<(List.length c:Int) then(Option.bind (f184 (nth aS c a)) fun y4=>if(ck .str y4 d)=true then(acK (true,c,b,aZ (a+1),d)) else(Option.bind (f184 (nth aS c a)) fun y5=>if List.length d+1≤aE then(acK (e,c,b,aZ (a+1),bB .str y5 a d)) else none)) else none) else none) else(some (.brk (e,d)))
def wm(a0:Zq):Option (Za×Bool):=
 aG (U:=Bool×Zo) (Av (Int.toNat (List.length a0:Int)+1) (false,a0,(List.length a0:Int),0,([]:Zo))) fun⟨b,a⟩=>some (some a,b)
def Y1:SS:=⟨37,77,[(4,.mp 28),(5,vB)],[(28,.map .str (.int .i64))],[]⟩
def Y2:SS:=⟨37,77,[(1,.func 184 .nil .nil),(4,.mp 28),(5,vB),(13,.val (.slice 56 aS)),tI 14,tI 15],[(28,.map .str (.int .i64))],[]⟩
def Y3:SS:=⟨37,77,[(4,vM),(5,vB)],[],[]⟩
def Hr:aW:=aF G [.tmp 4,.tmp 5] 183 [.val (.slice 56 aS),.func 184 .nil .nil] [] 77 Y3 [] (.bE (u1 wm))
theorem Ht:hS Hr:=
 cO ⟨[hA 5 0,hA 8 0],[(10,Y1)],[],[(3,⟨Y2,fun u2=>Int.toNat u2.2.2.1+1⟩)],[],[]⟩ (hq Rj hz) aI Tryz.call183 Tryz.func183
def f186(a0:kX):Option Zg:=
 some a0.1
def Y4:SS:=⟨5,45,[(2,.val .str)],[],[]⟩
def Rk:aW:=aF G [.tmp 2] 186 [.val bG] [] 45 Y4 [] (.bE (u1 f186))
theorem Rl:hS Rk:=
 cO (hR []) hz aI Tryz.call186 Tryz.func186
def Aw:Nat→Bool×ZA×Int×Int×Zo→ZW:=aK fun acK ⟨e,c,b,a,d⟩=>if(decide (a<b))=true then(if 0≤a then(if a<(List.length c:Int) then(Option.bind (f186 (nth bG c a)) fun y4=>if(ck .str y4 d)=true then(acK (true,c,b,aZ (a+1),d)) else(Option.bind (f186 (nth bG c a)) fun y5=>if List.length d+1≤aE then(acK (e,c,b,aZ (a+1),bB .str y5 a d)) else none)) else none) else none) else(some (.brk (e,d)))
def wo(a0:ZA):Option (Za×Bool):=
 aG (U:=Bool×Zo) (Aw (Int.toNat (List.length a0:Int)+1) (false,a0,(List.length a0:Int),0,([]:Zo))) fun⟨b,a⟩=>some (some a,b)
def Y5:SS:=⟨37,77,[(4,.mp 28),(5,vB)],[(28,.map .str (.int .i64))],[]⟩
def Y6:SS:=⟨37,77,[(1,.func 186 .nil .nil),(4,.mp 28),(5,vB),(13,.val (.slice 96 bG)),tI 14,tI 15],[(28,.map .str (.int .i64))],[]⟩
def Y7:SS:=⟨37,77,[(4,vM),(5,vB)],[],[]⟩
def Hu:aW:=aF G [.tmp 4,.tmp 5] 185 [.val (.slice 96 bG),.func 186 .nil .nil] [] 77 Y7 [] (.bE (u1 wo))
theorem Hv:hS Hu:=
 cO ⟨[hA 5 0,hA 8 0],[(10,Y5)],[],[(3,⟨Y6,fun u2=>Int.toNat u2.2.2.1+1⟩)],[],[]⟩ (hq Rl hz) aI Tryz.call185 Tryz.func185
def f188(a0:mU):Option Zg:=
 some a0.1
def Y8:SS:=⟨5,45,[(2,.val .str)],[],[]⟩
def Rm:aW:=aF G [.tmp 2] 188 [.val dk] [] 45 Y8 [] (.bE (u1 f188))
theorem Ro:hS Rm:=
 cO (hR []) hz aI Tryz.call188 Tryz.func188
def Ay:Nat→Bool×Zz×Int×Int×Zo→ZW:=aK fun acK ⟨e,c,b,a,d⟩=>if(decide (a<b))=true then(if 0≤a then(if a<(List.length c:Int) then(Option.bind (f188 (nth dk c a)) fun y4=>if(ck .str y4 d)=true then(acK (true,c,b,aZ (a+1),d)) else(Option.bind (f188 (nth dk c a)) fun y5=>if List.length d+1≤aE then(acK (e,c,b,aZ (a+1),bB .str y5 a d)) else none)) else none) else none) else(some (.brk (e,d)))
def wq(a0:Zz):Option (Za×Bool):=
 aG (U:=Bool×Zo) (Ay (Int.toNat (List.length a0:Int)+1) (false,a0,(List.length a0:Int),0,([]:Zo))) fun⟨b,a⟩=>some (some a,b)
def Y9:SS:=⟨37,77,[(4,.mp 28),(5,vB)],[(28,.map .str (.int .i64))],[]⟩
def Z0:SS:=⟨37,77,[(1,.func 188 .nil .nil),(4,.mp 28),(5,vB),(13,.val (.slice 48 dk)),tI 14,tI 15],[(28,.map .str (.int .i64))],[]⟩
def Z1:SS:=⟨37,77,[(4,vM),(5,vB)],[],[]⟩
def Hw:aW:=aF G [.tmp 4,.tmp 5] 187 [.val (.slice 48 dk),.func 188 .nil .nil] [] 77 Z1 [] (.bE (u1 wq))
theorem Hx:hS Hw:=
 cO ⟨[hA 5 0,hA 8 0],[(10,Y9)],[],[(3,⟨Z0,fun u2=>Int.toNat u2.2.2.1+1⟩)],[],[]⟩ (hq Ro hz) aI Tryz.call187 Tryz.func187
def f190(a0:NQ):Option Zg:=
 some a0.1
def Z2:SS:=⟨5,45,[(2,.val .str)],[],[]⟩
def Rp:aW:=aF G [.tmp 2] 190 [.val dY] [] 45 Z2 [] (.bE (u1 f190))
theorem Rq:hS Rp:=
 cO (hR []) hz aI Tryz.call190 Tryz.func190
def Az:Nat→Bool×ZD×Int×Int×Zo→ZW:=aK fun acK ⟨e,c,b,a,d⟩=>if(decide (a<b))=true then(if 0≤a then(if a<(List.length c:Int) then(Option.bind (f190 (nth dY c a)) fun y4=>if(ck .str y4 d)=true then(acK (true,c,b,aZ (a+1),d)) else(Option.bind (f190 (nth dY c a)) fun y5=>if List.length d+1≤aE then(acK (e,c,b,aZ (a+1),bB .str y5 a d)) else none)) else none) else none) else(some (.brk (e,d)))
def wu(a0:ZD):Option (Za×Bool):=
 aG (U:=Bool×Zo) (Az (Int.toNat (List.length a0:Int)+1) (false,a0,(List.length a0:Int),0,([]:Zo))) fun⟨b,a⟩=>some (some a,b)
def Z3:SS:=⟨37,77,[(4,.mp 28),(5,vB)],[(28,.map .str (.int .i64))],[]⟩
def Z4:SS:=⟨37,77,[(1,.func 190 .nil .nil),(4,.mp 28),(5,vB),(13,.val (.slice 120 dY)),tI 14,tI 15],[(28,.map .str (.int .i64))],[]⟩
def Z5:SS:=⟨37,77,[(4,vM),(5,vB)],[],[]⟩
def Hy:aW:=aF G [.tmp 4,.tmp 5] 189 [.val (.slice 120 dY),.func 190 .nil .nil] [] 77 Z5 [] (.bE (u1 wu))
theorem Hz:hS Hy:=
 cO ⟨[hA 5 0,hA 8 0],[(10,Z3)],[],[(3,⟨Z4,fun u2=>Int.toNat u2.2.2.1+1⟩)],[],[]⟩ (hq Rq hz) aI Tryz.call189 Tryz.func189
def f192(a0:xw):Option Zg:=
 some a0.1
def Z6:SS:=⟨5,45,[(2,.val .str)],[],[]⟩
def Rr:aW:=aF G [.tmp 2] 192 [.val aL] [] 45 Z6 [] (.bE (u1 f192))
theorem Rt:hS Rr:=
 cO (hR []) hz aI Tryz.call192 Tryz.func192
def AA:Nat→Bool×Zv×Int×Int×Zo→ZW:=aK fun acK ⟨e,c,b,a,d⟩=>if(decide (a<b))=true then(if 0≤a then(if a<(List.length c:Int) then(Option.bind (f192 (nth aL c a)) fun y4=>if(ck .str y4 d)=true then(acK (true,c,b,aZ (a+1),d)) else(Option.bind (f192 (nth aL c a)) fun y5=>if List.length d+1≤aE then(acK (e,c,b,aZ (a+1),bB .str y5 a d)) else none)) else none) else none) else(some (.brk (e,d)))
def wv(a0:Zv):Option (Za×Bool):=
 aG (U:=Bool×Zo) (AA (Int.toNat (List.length a0:Int)+1) (false,a0,(List.length a0:Int),0,([]:Zo))) fun⟨b,a⟩=>some (some a,b)
def Z7:SS:=⟨37,77,[(4,.mp 28),(5,vB)],[(28,.map .str (.int .i64))],[]⟩
def Z8:SS:=⟨37,77,[(1,.func 192 .nil .nil),(4,.mp 28),(5,vB),(13,.val (.slice 96 aL)),tI 14,tI 15],[(28,.map .str (.int .i64))],[]⟩
def Z9:SS:=⟨37,77,[(4,vM),(5,vB)],[],[]⟩
def HA:aW:=aF G [.tmp 4,.tmp 5] 191 [.val (.slice 96 aL),.func 192 .nil .nil] [] 77 Z9 [] (.bE (u1 wv))
theorem HC:hS HA:=
 cO ⟨[hA 5 0,hA 8 0],[(10,Z7)],[],[(3,⟨Z8,fun u2=>Int.toNat u2.2.2.1+1⟩)],[],[]⟩ (hq Rt hz) aI Tryz.call191 Tryz.func191
def jH:Nat→Bool×ZA×Int×Int×cz×IZ→Option (cQ (Bool×cz×IZ) (Bool×IZ)):=aK fun rec10 ⟨g,e,d,c,h,i,j,k,f⟩=>if(decide (c<d))=true then(if 0≤c then(if c<(List.length e:Int) then(Option.bind (wu (nth bG e c).2.2.2.2.1) fun⟨a,b⟩=>if(List.length f+List.length [a])*8≤aE then(Option.bind (α:=Bool) (if g=true then(some true) else(some b)) fun v12=>rec10 (v12,e,d,aZ (c+1),h,i,j,k,f++[a])) else none) else none) else none) else(some (.brk (g,h,i,j,k,f)))
def jI:Nat→Bool×Zn×Int×Int×IZ→Option (cQ (Bool×IZ) (Bool×IZ)):=aK fun rec15 ⟨e,d,c,b,f,g,h,i⟩=>if(decide (b<c))=true then(if 0≤b then(if b<(List.length d:Int) then(Option.bind (wv (nth bz d b).2.2.1) fun⟨_,a⟩=>Option.bind (α:=Bool) (if e=true then(some true) else(some a)) fun v17=>rec15 (v17,d,c,aZ (b+1),f,g,h,i)) else none) else none) else(some (.brk (e,f,g,h,i)))
def rG(a0:cz):Option (Bool×IZ):=
 Option.bind (wj a0.1) fun⟨b,a⟩=>Option.bind (wm a0.2.1) fun⟨d,c⟩=>Option.bind (α:=Bool) (if a=true then(some true) else(some c)) fun v3=>Option.bind (wo a0.2.2.1) fun⟨f,e⟩=>Option.bind (α:=Bool) (if v3=true then(some true) else(some e)) fun v5=>Option.bind (wq a0.2.2.2.2.2.1) fun⟨_,g⟩=>Option.bind (α:=Bool) (if v5=true then(some true) else(some g)) fun v7=>aG (U:=Bool×cz×IZ) (jH (Int.toNat (List.length a0.2.2.1:Int)+1) (v7,a0.2.2.1,(List.length a0.2.2.1:Int),0,a0,b,d,f,([]:Zu))) fun⟨i,h,j,k,l,m⟩=>aG (U:=Bool×IZ) (jI (Int.toNat (List.length h.2.2.2.1:Int)+1) (i,h.2.2.2.1,(List.length h.2.2.2.1:Int),0,j,k,l,m)) fun⟨n,o,p,q,r⟩=>some (n,o,p,q,r)
def s88:SS:=⟨108,148,[tP 1 17,tP 2 30,(3,vB)],[(17,bV gE),(30,rB 125),(125,.row 240 8 (.map .str (.int .i64)))],[]⟩
def X2:SS:=⟨108,148,[tP 2 30,(3,vB)],[(30,rB 125),(125,.row 240 8 (.map .str (.int .i64)))],[]⟩
def s90:SS:=⟨108,148,[tP 1 17,tP 2 30,(3,vB),(61,.val (.slice 96 bG)),tI 62,tI 63],[(17,bV gE),(30,rB 124),(124,.row 240 8 (.map .str (.int .i64)))],[]⟩
def s91:SS:=⟨108,148,[tP 2 30,(3,vB),(89,.val (.slice 96 bz)),tI 90,tI 91],[(30,rB 125),(125,.row 240 8 (.map .str (.int .i64)))],[]⟩
def Co:aW:=aF G [.tmp 2,.tmp 3] 118 [.val gE] [] 148 X2 [30,125] (.bE (u1 rG))
theorem HD:hS Co:=
 cO ⟨[hA 3 0,hA 4 1,hD 5 3 [],hA 6 2,hD 7 3 [],hA 8 3,hD 9 3 [],hA 13 4,hD 15 3 [],hA 20 5,hD 21 3 []],[(17,s88),(23,X2)],[],[(11,⟨s90,fun u9=>Int.toNat u9.2.2.1+1⟩),(18,⟨s91,fun Pk=>Int.toNat Pk.2.2.1+1⟩)],[],[]⟩ (hq Hq (hq Ht (hq Hv (hq Hx (hq Hz (hq HC hz)))))) aI Tryz.call118 Tryz.func118
def wz(a0:ZF):Option ZF:=
 if(List.length ([]:ZF)+List.length a0)*16≤aE then some a0 else none
def s92:SS:=⟨8,48,[(2,.own 23)],[(23,.row 9 16 .str)],[]⟩
def Cp:aW:=aF G [.tmp 2] 120 [.val (.slice 16 .str)] [] 48 s92 [23] (.bE (u1 wz))
theorem HE:hS Cp:=
 aW.jT tied (H:=⟨[],[],[],[],[],[]⟩) (hold (l:=[]) trivial) rfl (.tmp 0) 3 4 22 22 9 16 .str (fun d=>d.1) (fun d=>⟨(.val (.slice 16 .str) d.1)::.bot::.bA::List.replicate 5 .bot,List.replicate 48 none,[]⟩) Tryz.call120 Tryz.func120 rfl rfl rfl rfl rfl rfl rfl rfl rfl rfl (by kernel_rfl) (fun _=>by kernel_rfl) (fun _=>by kernel_rfl) (fun _=>rfl) (fun _=>by kernel_rfl) (fun _ _=>by kernel_rfl) (fun d h=>by obtain⟨x,y⟩:=d;cases(h:x= []);kernel_rfl) (fun _=>by kernel_rfl)
def wC(a0:Zq):Option Zq:=
 if(List.length ([]:Zq)+List.length a0)*56≤aE then some a0 else none
def s93:SS:=⟨8,48,[(2,.own 23)],[(23,.row 180 56 aS)],[]⟩
def Cq:aW:=aF G [.tmp 2] 121 [.val (.slice 56 aS)] [] 48 s93 [23] (.bE (u1 wC))
theorem HF:hS Cq:=
 aW.jT tied (H:=⟨[],[],[],[],[],[]⟩) (hold (l:=[]) trivial) rfl (.tmp 0) 3 4 23 23 180 56 aS (fun d=>d.1) (fun d=>⟨(.val (.slice 56 aS) d.1)::.bot::.bA::List.replicate 5 .bot,List.replicate 48 none,[]⟩) Tryz.call121 Tryz.func121 rfl rfl rfl rfl rfl rfl rfl rfl rfl rfl (by kernel_rfl) (fun _=>by kernel_rfl) (fun _=>by kernel_rfl) (fun _=>rfl) (fun _=>by kernel_rfl) (fun _ _=>by kernel_rfl) (fun d h=>by obtain⟨x,y⟩:=d;cases(h:x= []);kernel_rfl) (fun _=>by kernel_rfl)
def wD(a0:ZA):Option ZA:=
 if(List.length ([]:ZA)+List.length a0)*96≤aE then some a0 else none
def s94:SS:=⟨8,48,[(2,.own 23)],[(23,.row 103 96 bG)],[]⟩
def Cr:aW:=aF G [.tmp 2] 122 [.val (.slice 96 bG)] [] 48 s94 [23] (.bE (u1 wD))
theorem HG:hS Cr:=
 aW.jT tied (H:=⟨[],[],[],[],[],[]⟩) (hold (l:=[]) trivial) rfl (.tmp 0) 3 4 24 24 103 96 bG (fun d=>d.1) (fun d=>⟨(.val (.slice 96 bG) d.1)::.bot::.bA::List.replicate 5 .bot,List.replicate 48 none,[]⟩) Tryz.call122 Tryz.func122 rfl rfl rfl rfl rfl rfl rfl rfl rfl rfl (by kernel_rfl) (fun _=>by kernel_rfl) (fun _=>by kernel_rfl) (fun _=>rfl) (fun _=>by kernel_rfl) (fun _ _=>by kernel_rfl) (fun d h=>by obtain⟨x,y⟩:=d;cases(h:x= []);kernel_rfl) (fun _=>by kernel_rfl)
def wE(a0:Zn):Option Zn:=
 if(List.length ([]:Zn)+List.length a0)*96≤aE then some a0 else none
def s95:SS:=⟨8,48,[(2,.own 23)],[(23,.row 114 96 bz)],[]⟩
def Cs:aW:=aF G [.tmp 2] 123 [.val (.slice 96 bz)] [] 48 s95 [23] (.bE (u1 wE))
theorem HH:hS Cs:=
 aW.jT tied (H:=⟨[],[],[],[],[],[]⟩) (hold (l:=[]) trivial) rfl (.tmp 0) 3 4 25 25 114 96 bz (fun d=>d.1) (fun d=>⟨(.val (.slice 96 bz) d.1)::.bot::.bA::List.replicate 5 .bot,List.replicate 48 none,[]⟩) Tryz.call123 Tryz.func123 rfl rfl rfl rfl rfl rfl rfl rfl rfl rfl (by kernel_rfl) (fun _=>by kernel_rfl) (fun _=>by kernel_rfl) (fun _=>rfl) (fun _=>by kernel_rfl) (fun _ _=>by kernel_rfl) (fun d h=>by obtain⟨x,y⟩:=d;cases(h:x= []);kernel_rfl) (fun _=>by kernel_rfl)
def wG(a0:ZC):Option ZC:=
 if(List.length ([]:ZC)+List.length a0)*72≤aE then some a0 else none
def s96:SS:=⟨8,48,[(2,.own 23)],[(23,.row 195 72 fa)],[]⟩
def Ct:aW:=aF G [.tmp 2] 124 [.val (.slice 72 fa)] [] 48 s96 [23] (.bE (u1 wG))
theorem HI:hS Ct:=
 aW.jT tied (H:=⟨[],[],[],[],[],[]⟩) (hold (l:=[]) trivial) rfl (.tmp 0) 3 4 26 26 195 72 fa (fun d=>d.1) (fun d=>⟨(.val (.slice 72 fa) d.1)::.bot::.bA::List.replicate 5 .bot,List.replicate 48 none,[]⟩) Tryz.call124 Tryz.func124 rfl rfl rfl rfl rfl rfl rfl rfl rfl rfl (by kernel_rfl) (fun _=>by kernel_rfl) (fun _=>by kernel_rfl) (fun _=>rfl) (fun _=>by kernel_rfl) (fun _ _=>by kernel_rfl) (fun d h=>by obtain⟨x,y⟩:=d;cases(h:x= []);kernel_rfl) (fun _=>by kernel_rfl)
def wH(a0:Zz):Option Zz:=
 if(List.length ([]:Zz)+List.length a0)*48≤aE then some a0 else none
def s97:SS:=⟨8,48,[(2,.own 23)],[(23,.row 188 48 dk)],[]⟩
def Cu:aW:=aF G [.tmp 2] 125 [.val (.slice 48 dk)] [] 48 s97 [23] (.bE (u1 wH))
theorem HJ:hS Cu:=
 aW.jT tied (H:=⟨[],[],[],[],[],[]⟩) (hold (l:=[]) trivial) rfl (.tmp 0) 3 4 27 27 188 48 dk (fun d=>d.1) (fun d=>⟨(.val (.slice 48 dk) d.1)::.bot::.bA::List.replicate 5 .bot,List.replicate 48 none,[]⟩) Tryz.call125 Tryz.func125 rfl rfl rfl rfl rfl rfl rfl rfl rfl rfl (by kernel_rfl) (fun _=>by kernel_rfl) (fun _=>by kernel_rfl) (fun _=>rfl) (fun _=>by kernel_rfl) (fun _ _=>by kernel_rfl) (fun d h=>by obtain⟨x,y⟩:=d;cases(h:x= []);kernel_rfl) (fun _=>by kernel_rfl)
def f193(a0:Za)(a1:Zg):Option (Sum ZQ Int):=
 if(!(ck .str a1 (bM a0)))=true then(some (.inl ((),()))) else(some (.inr (bw .str (.int .i64) a1 (bM a0))))
def s98:SS:=⟨18,58,[tI 4],[],[]⟩
def uD:aW:=aF G [.tmp 4] 193 [vM,.val .str] [] 58 s98 [] (.j8 (.iface 229 (.val .unit)) (u2 f193))
theorem wI:hS uD:=
 aW.ED tied (H:=⟨[],[],[],[],[],[]⟩) (hold (l:=[]) trivial) aI rfl Tryz.call193 Tryz.func193 rfl rfl rfl rfl (fun _=>by kernel_rfl) (fun _=>by kernel_rfl)
def sC:Nat→Int×Int×Ma→Option (cQ Ma (Sum ZQ Ma)):=aK fun acK ⟨t,s,v,w,x,u,y⟩=>if(decide (s<t))=true then(if 0≤s then(if s<(List.length u:Int) then(if(decide ((nth aS u s).2.1= []))=true then(acK (t,aZ (s+1),v,w,x,List.set (List.set u (Int.toNat s) ((nth aS u s).1,(nth aS u s).2.1,(nth aS u s).2.2.1,s,(nth aS u s).2.2.2.2)) (Int.toNat s) ((nth aS (List.set u (Int.toNat s) ((nth aS u s).1,(nth aS u s).2.1,(nth aS u s).2.2.1,s,(nth aS u s).2.2.2.2)) s).1,(nth aS (List.set u (Int.toNat s) ((nth aS u s).1,(nth aS u s).2.1,(nth aS u s).2.2.1,s,(nth aS u s).2.2.2.2)) s).2.1,(nth aS (List.set u (Int.toNat s) ((nth aS u s).1,(nth aS u s).2.1,(nth aS u s).2.2.1,s,(nth aS u s).2.2.2.2)) s).2.2.1,(nth aS (List.set u (Int.toNat s) ((nth aS u s).1,(nth aS u s).2.1,(nth aS u s).2.2.1,s,(nth aS u s).2.2.2.2)) s).2.2.2.1,1,(nth aS (List.set u (Int.toNat s) ((nth aS u s).1,(nth aS u s).2.1,(nth aS u s).2.2.1,s,(nth aS u s).2.2.2.2)) s).2.2.2.2.2),y)) else(eK (f193 w (nth aS u s).2.1) (fun p8=>bZ (some (.inl (p8.1,())))) fun y4=>aG (U:=Nat×Int×Int×Int×Ma) (if(decide (s≤y4))=true then(bZ (bZ (some (.inl ((),()))))) else(some (.brk (Int.toNat s,y4,t,s,v,w,x,u,y)))) fun⟨c,a,d,e,f,g,h,b,i⟩=>aG (U:=Nat×Int×Int×Int×Ma) (if 0≤a then(if a<(List.length b:Int) then(some (.brk (c,a,d,e,f,g,h,List.set (List.set b c ((List.getD b c (Ty.aD aS)).1,(List.getD b c (Ty.aD aS)).2.1,(List.getD b c (Ty.aD aS)).2.2.1,(nth aS b a).2.2.2.1,(List.getD b c (Ty.aD aS)).2.2.2.2)) c ((List.getD (List.set b c ((List.getD b c (Ty.aD aS)).1,(List.getD b c (Ty.aD aS)).2.1,(List.getD b c (Ty.aD aS)).2.2.1,(nth aS b a).2.2.2.1,(List.getD b c (Ty.aD aS)).2.2.2.2)) c (Ty.aD aS)).1,(List.getD (List.set b c ((List.getD b c (Ty.aD aS)).1,(List.getD b c (Ty.aD aS)).2.1,(List.getD b c (Ty.aD aS)).2.2.1,(nth aS b a).2.2.2.1,(List.getD b c (Ty.aD aS)).2.2.2.2)) c (Ty.aD aS)).2.1,(List.getD (List.set b c ((List.getD b c (Ty.aD aS)).1,(List.getD b c (Ty.aD aS)).2.1,(List.getD b c (Ty.aD aS)).2.2.1,(nth aS b a).2.2.2.1,(List.getD b c (Ty.aD aS)).2.2.2.2)) c (Ty.aD aS)).2.2.1,(List.getD (List.set b c ((List.getD b c (Ty.aD aS)).1,(List.getD b c (Ty.aD aS)).2.1,(List.getD b c (Ty.aD aS)).2.2.1,(nth aS b a).2.2.2.1,(List.getD b c (Ty.aD aS)).2.2.2.2)) c (Ty.aD aS)).2.2.2.1,0,(List.getD (List.set b c ((List.getD b c (Ty.aD aS)).1,(List.getD b c (Ty.aD aS)).2.1,(List.getD b c (Ty.aD aS)).2.2.1,(nth aS b a).2.2.2.1,(List.getD b c (Ty.aD aS)).2.2.2.2)) c (Ty.aD aS)).2.2.2.2.2),i))) else none) else none) fun⟨k,l,m,n,o,p,q,j,r⟩=>Option.bind (α:=Bool) (if(decide ((2:Int)≤(List.getD j k (Ty.aD aS)).2.2.1))=true then(if(decide ((List.getD j k (Ty.aD aS)).2.2.1≤(1000:Int)))=true then(if 0≤l then(if l<(List.length j:Int) then(some (decide ((aZ ((List.getD j k (Ty.aD aS)).2.2.1*(nth aS j l).2.2.2.2.1))≤(1099511627776:Int)))) else none) else none) else(some false)) else(some false)) fun v7=>if v7=true then(if 0≤l then(if l<(List.length j:Int) then(acK (m,aZ (n+1),o,p,q,List.set j k ((List.getD j k (Ty.aD aS)).1,(List.getD j k (Ty.aD aS)).2.1,(List.getD j k (Ty.aD aS)).2.2.1,(List.getD j k (Ty.aD aS)).2.2.2.1,aZ ((List.getD j k (Ty.aD aS)).2.2.1*(nth aS j l).2.2.2.2.1),(List.getD j k (Ty.aD aS)).2.2.2.2.2),r)) else none) else none) else(acK (m,aZ (n+1),o,p,q,j,r)))) else none) else none) else(some (.brk (v,w,x,u,y)))
def rH(a0:Za)(a1:Za)(a2:Za)(a3:Zq)(a4:Zu):Option (Sum ZQ Ma):=
 aG (U:=Ma) (sC (Int.toNat (List.length a3:Int)+1) ((List.length a3:Int),0,a0,a1,a2,a3,a4)) fun⟨a,b,c,d,e⟩=>some (.inr (a,b,c,d,e))
def X3:SS:=⟨91,131,[tP 0 0,(1,.own 1),(5,.ptr 1 [.idx]),tI 6,tI 8,tI 9],[(0,rB 2),(1,.row 180 56 aS),(2,.row 240 8 (.map .str (.int .i64)))],[]⟩
def N0:SS:=⟨91,131,[],[(0,rB 2),(1,.row 180 56 aS),(2,.row 240 8 (.map .str (.int .i64)))],[]⟩
def Rv:SS:=⟨91,131,[tP 0 0,(1,.own 1),tI 8,tI 9],[(0,rB 2),(1,.row 180 56 aS),(2,.row 240 8 (.map .str (.int .i64)))],[]⟩
def Cv:aW:=aF G [] 126 [pP 0,.own 1] [(0,rB 2),(1,.row 180 56 aS),(2,.row 240 8 (.map .str (.int .i64)))] 131 N0 [0,1,2] (.j8 (.iface 229 (.val .unit)) (u5 rH))
theorem HK:hS Cv:=
 aW.ED tied (H:=⟨[hA 6 0,hD 10 76 []],[(9,X3),(10,X3)],[(0,N0)],[(1,⟨Rv,fun u2=>Int.toNat u2.1+1⟩)],[],[]⟩) (hold (l:=[uD]) ⟨wI,trivial⟩) aI rfl Tryz.call126 Tryz.func126 rfl rfl rfl rfl (fun _=>by kernel_rfl) (fun _=>by kernel_rfl)
def wJ(a0:ZD):Option ZD:=
 if(List.length ([]:ZD)+List.length a0)*120≤aE then some a0 else none
def Rw:SS:=⟨8,48,[(2,.own 23)],[(23,.row 99 120 dY)],[]⟩
def Cw:aW:=aF G [.tmp 2] 194 [.val (.slice 120 dY)] [] 48 Rw [23] (.bE (u1 wJ))
theorem HL:hS Cw:=
 aW.jT tied (H:=⟨[],[],[],[],[],[]⟩) (hold (l:=[]) trivial) rfl (.tmp 0) 3 4 100 100 99 120 dY (fun d=>d.1) (fun d=>⟨(.val (.slice 120 dY) d.1)::.bot::.bA::List.replicate 5 .bot,List.replicate 48 none,[]⟩) Tryz.call194 Tryz.func194 rfl rfl rfl rfl rfl rfl rfl rfl rfl rfl (by kernel_rfl) (fun _=>by kernel_rfl) (fun _=>by kernel_rfl) (fun _=>rfl) (fun _=>by kernel_rfl) (fun _ _=>by kernel_rfl) (fun d h=>by obtain⟨x,y⟩:=d;cases(h:x= []);kernel_rfl) (fun _=>by kernel_rfl)
def wK(a0:List ja):Option (List ja):=
 if(List.length ([]:List ja)+List.length a0)*72≤aE then some a0 else none
def Rx:SS:=⟨8,48,[(2,.own 23)],[(23,.row 262 72 ew)],[]⟩
def Cy:aW:=aF G [.tmp 2] 195 [.val (.slice 72 ew)] [] 48 Rx [23] (.bE (u1 wK))
theorem HM:hS Cy:=
 aW.jT tied (H:=⟨[],[],[],[],[],[]⟩) (hold (l:=[]) trivial) rfl (.tmp 0) 3 4 101 101 262 72 ew (fun d=>d.1) (fun d=>⟨(.val (.slice 72 ew) d.1)::.bot::.bA::List.replicate 5 .bot,List.replicate 48 none,[]⟩) Tryz.call195 Tryz.func195 rfl rfl rfl rfl rfl rfl rfl rfl rfl rfl (by kernel_rfl) (fun _=>by kernel_rfl) (fun _=>by kernel_rfl) (fun _=>rfl) (fun _=>by kernel_rfl) (fun _ _=>by kernel_rfl) (fun d h=>by obtain⟨x,y⟩:=d;cases(h:x= []);kernel_rfl) (fun _=>by kernel_rfl)
def sD:Nat→Za×Int×Int×ZU→Option (cQ (Za×ZU) (Sum ZQ Zr)):=aK fun adl ⟨t,r,q,u,v,w,x,y,z,aa,ab,ac,ad,ae,s⟩=>if(decide (q<r))=true then(if 0≤q then(if q<(List.length s:Int) then(aG (U:=Za×Nat×Int×Int×ZU) (some (.brk (t,Int.toNat q,r,q,u,v,w,x,y,z,aa,ab,ac,ad,ae,List.set s (Int.toNat q) ((nth dY s q).1,((nth dY s q).2.1.1,(nth dY s q).2.1.2.1,(nth dY s q).2.1.2.2.1,(nth dY s q).2.1.2.2.2.1,(-1:Int),(nth dY s q).2.1.2.2.2.2.2),(nth dY s q).2.2)))) fun⟨d,b,e,f,g,c,h,i,j,k,l,m,n,o,p,a⟩=>Option.bind (α:=Bool) (if(decide ((List.getD a b (Ty.aD dY)).2.1.1=(1:Int)))=true then(some (!decide ((List.getD a b (Ty.aD dY)).2.1.2.2.2.1= []))) else(some false)) fun v7=>if v7=true then(eK (f193 c (List.getD a b (Ty.aD dY)).2.1.2.2.2.1) (fun p9=>bZ (some (.inl (p9.1,())))) fun y8=>adl (d,e,aZ (f+1),g,c,h,i,j,k,l,m,n,o,p,List.set a b ((List.getD a b (Ty.aD dY)).1,((List.getD a b (Ty.aD dY)).2.1.1,(List.getD a b (Ty.aD dY)).2.1.2.1,(List.getD a b (Ty.aD dY)).2.1.2.2.1,(List.getD a b (Ty.aD dY)).2.1.2.2.2.1,y8,(List.getD a b (Ty.aD dY)).2.1.2.2.2.2.2),(List.getD a b (Ty.aD dY)).2.2))) else(adl (d,e,aZ (f+1),g,c,h,i,j,k,l,m,n,o,p,a))) else none) else none) else(some (.brk (t,u,v,w,x,y,z,aa,ab,ac,ad,ae,s)))
def qz:Nat→Za×Int×Int×ZF×Zw→Option (cQ (Za×Zw) (cQ (Za×Zw) (cQ Zr (Sum ZQ Zr)))):=aK fun rec17 ⟨d,f,g,c,b,a,h,i,j,k,l,m,n,o,p,q,r,s,t,u,v,w,x,e⟩=>if(decide (a<b))=true then(if 0≤a then(if a<(List.length c:Int) then(eK (f193 d (nth .str c a)) (fun p19=>bZ (bZ (bZ (some (.inl (p19.1,())))))) fun y18=>if(List.length e+List.length [y18])*8≤aE then(rec17 (d,f,g,c,b,aZ (a+1),h,i,j,k,l,m,n,o,p,q,r,s,t,u,v,w,x,e++[y18])) else none) else none) else none) else(some (.brk (d,f,g,h,i,j,k,l,m,n,o,p,q,r,s,t,u,v,w,x,e)))
def qA:Nat→Za×Int×Int×Zr→Option (cQ Zr (Sum ZQ Zr)):=aK fun rec13 ⟨av,ar,aq,aw,ax,ay,az,a0,a1,a2,a3,a4,a5,a6,a7,au⟩=>if(decide (aq<ar))=true then(aG (U:=Za×Zw) (if 0≤aq then(if aq<(List.length au:Int) then(aG (U:=Za×Zw) (qz (Int.toNat (List.length (nth ew au aq).1:Int)+1) (av,ar,aq,(nth ew au aq).1,(List.length (nth ew au aq).1:Int),0,aw,ax,ay,az,a0,a1,a2,a3,a4,a5,a6,a7,au,Int.toNat aq,(nth ew au aq).1,(nth ew au aq).2.1,(nth ew au aq).2.2.2,([]:Ze))) fun⟨a,c,d,e,f,g,h,i,j,k,l,m,n,o,p,q,r,s,b,t,u⟩=>eK (f193 a b) (fun p21=>bZ (bZ (some (.inl (p21.1,()))))) fun y20=>some (.brk (a,c,d,e,f,g,h,i,j,k,l,m,n,o,p,q,r,s,b,(y20,t.2),u))) else none) else none) fun⟨v,w,x,y,z,aa,ab,ac,ad,ae,af,ag,ah,ai,aj,ak,al,am,an,ap,ao⟩=>rec13 (v,w,aZ (x+1),y,z,aa,ab,ac,ad,ae,af,ag,ah,ai,aj,List.set ak al (am,an,ao,ap))) else(some (.brk (aw,ax,ay,az,a0,a1,a2,a3,a4,a5,a6,a7,au)))
def rI(a0:Za)(a1:Za)(a2:Za)(a3:Za)(a4:ZA)(a5:Nat)(a6:kX)(a7:Zu):Option (Sum ZQ Zr):=
 eK (f193 a1 a6.2.1) (fun p22=>some (.inl (p22.1,()))) fun y1=>Option.bind (wJ a6.2.2.2.2.1) fun y2=>aG (U:=Za×ZU) (sD (Int.toNat (List.length y2:Int)+1) (a0,(List.length y2:Int),0,a1,a2,a3,a4,a5,a6.1,a6.2.1,y1,a6.2.2.2.1,a6.2.2.2.2.2,a7,y2)) fun⟨b,c,d,e,f,g,h,i,j,k,a,l,m⟩=>Option.bind (wK a.1) fun y10=>aG (U:=Zr) (qA (Int.toNat (List.length y10:Int)+1) (b,(List.length y10:Int),0,c,d,e,f,g,h,i,j,k,a.2,l,m,y10)) fun⟨n,o,p,q,r,s,t,u,v,w,x,y,z⟩=>some (.inr (n,o,p,q,r,s,t,u,v,w,x,y,z))
def Ry:SS:=⟨132,172,[tP 0 0,(1,.ptr 1 [.cw 1]),(2,vM),(7,.ptr 45 [.idx,.cw 1]),tI 36,tI 37],[(0,rB 2),(1,.bU 103 96 bG (.cons (.val .str) (.cons (.val .str) (.cons vI (.cons vI (.cons (.own 45) (.val (.pair (.slice 72 ew) .unit)))))))),(2,.row 240 8 (.map .str (.int .i64))),(45,.row 99 120 dY)],[]⟩
def Rz:SS:=⟨132,172,[(1,.ptr 1 [.cw 1]),(2,vM)],[(0,rB 2),(1,.bU 103 96 bG (.cons (.val .str) (.cons (.val .str) (.cons vI (.cons vI (.cons (.own 45) (.val (.pair (.slice 72 ew) .unit)))))))),(2,.row 240 8 (.map .str (.int .i64))),(45,.row 99 120 dY)],[]⟩
def RA:SS:=⟨132,172,[(1,.ptr 1 [.cw 1]),(2,vM),(9,.ptr 96 [.cw 1]),tI 87,tI 88],[(0,rB 2),(1,.bU 103 96 bG (.cons (.val .str) (.cons (.val .str) (.cons vI (.cons vI (.cons (.own 45) (.cons (.own 96) (.val .unit)))))))),(2,.row 240 8 (.map .str (.int .i64))),(45,.row 99 120 dY),(96,.bU 262 72 ew (.cons (.val (.slice 16 .str)) (.cons (.val .str) (.cons (.own 149) (.val (.pair (.int .i64) .unit)))))),(149,.row 3 8 (.int .i64))],[]⟩
def RE:SS:=⟨132,172,[(1,.ptr 1 [.cw 1]),(2,vM),tI 87,tI 88],[(0,rB 2),(1,.bU 103 96 bG (.cons (.val .str) (.cons (.val .str) (.cons vI (.cons vI (.cons (.own 45) (.cons (.own 96) (.val .unit)))))))),(2,.row 240 8 (.map .str (.int .i64))),(45,.row 99 120 dY),(96,.bU 262 72 ew (.cons (.val (.slice 16 .str)) (.cons (.val .str) (.cons (.own 149) (.val (.pair (.int .i64) .unit)))))),(149,.row 3 8 (.int .i64))],[]⟩
def N1:SS:=⟨132,172,[],[(0,rB 2),(1,.bU 103 96 bG (.cons (.val .str) (.cons (.val .str) (.cons vI (.cons vI (.cons (.own 45) (.cons (.own 96) (.val .unit)))))))),(2,.row 240 8 (.map .str (.int .i64))),(45,.row 99 120 dY),(96,.row 262 72 ew)],[]⟩
def RI:SS:=⟨132,172,[tP 0 0,(1,.ptr 1 [.cw 1]),(2,vM),tI 36,tI 37],[(0,rB 2),(1,.bU 103 96 bG (.cons (.val .str) (.cons (.val .str) (.cons vI (.cons vI (.cons (.own 45) (.val (.pair (.slice 72 ew) .unit)))))))),(2,.row 240 8 (.map .str (.int .i64))),(45,.row 99 120 dY)],[]⟩
def RJ:SS:=⟨132,172,[(1,.ptr 1 [.cw 1]),(2,vM),tI 87,tI 88],[(0,rB 2),(1,.bU 103 96 bG (.cons (.val .str) (.cons (.val .str) (.cons vI (.cons vI (.cons (.own 45) (.cons (.own 96) (.val .unit)))))))),(2,.row 240 8 (.map .str (.int .i64))),(45,.row 99 120 dY),(96,.row 262 72 ew)],[]⟩
def RL:SS:=⟨132,172,[(1,.ptr 1 [.cw 1]),(2,vM),(9,.ptr 96 [.cw 1]),tI 87,tI 88,(103,.val (.slice 16 .str)),tI 104,tI 105],[(0,rB 2),(1,.bU 103 96 bG (.cons (.val .str) (.cons (.val .str) (.cons vI (.cons vI (.cons (.own 45) (.cons (.own 96) (.val .unit)))))))),(2,.row 240 8 (.map .str (.int .i64))),(45,.row 99 120 dY),(96,.bU 262 72 ew (.cons (.val (.slice 16 .str)) (.cons (.val .str) (.cons (.own 148) (.val (.pair (.int .i64) .unit)))))),(148,.row 3 8 (.int .i64))],[]⟩
def Cz:aW:=aF G [] 127 [pP 0,.ptr 1 [.cw 1],vM] [(0,rB 2),(1,.bU 103 96 bG (.val bG)),(2,.row 240 8 (.map .str (.int .i64)))] 172 N1 [0,1,2,45,96] (.j8 (.iface 229 (.val .unit)) (u8 rI))
theorem HN:hS Cz:=
 aW.ED tied (H:=⟨[hA 0 0,hE 1 [cB 1 [] [(23,45)]],hD 7 61 [],hA 8 0,hE 10 [cB 2 [] [(23,96)]],(15,⟨[],[],[],none,[(96,9)],[],[]⟩),hA 19 0,hA 21 0,(22,⟨[.freeze 149 (.slice 8 (.int .i64)),.ky 96],[],[],none,[],[],[]⟩)],[(7,Ry),(10,Rz),(21,RA),(22,RE)],[(2,N1)],[(3,⟨RI,fun u4=>Int.toNat u4.2.1+1⟩),(12,⟨RJ,fun Lc=>Int.toNat Lc.2.1+1⟩),(17,⟨RL,fun u16=>Int.toNat u16.2.2.2.2.1+1⟩)],[],[]⟩) (hold (l:=[uD,Cw,Cy]) ⟨wI,HL,HM,trivial⟩) aI rfl Tryz.call127 Tryz.func127 rfl rfl rfl rfl (fun _=>by kernel_rfl) (fun _=>by kernel_rfl)
def kc(_q0:Unit):ZM:=
 some (110:Int)
def N2:SS:=⟨17,57,[],[(0,.var gE (.cons .bA (.cons .bA (.cons .bA (.cons .bA (.cons .bA (.cons .bA .nil))))))),(1,bI)],[]⟩
def yF:fU:=⟨119,[.ptr 0 [],.ptr 1 []],[(0,.var gE (.eU gE)),(1,.var (.int .i64) (.eU (.int .i64)))],57,.iface 229 (.val .unit),N2,fun r=>pick [0,1] (SS.st N2 y0 r).hp,fun _=>none,fun _ q=>kc q.1⟩
theorem EO:yF.holds Tryz.prog gl:=
 fU.ED tied (H:=⟨[],[],[],[],[],[]⟩) (hold (l:=[]) trivial) rfl Tryz.call119 Tryz.func119 rfl rfl rfl rfl rfl rfl rfl rfl rfl rfl rfl rfl (fun _=>by kernel_rfl) (fun _ _=>by kernel_rfl)
def wL(a0:Zv):Option Zv:=
 if(List.length ([]:Zv)+List.length a0)*96≤aE then some a0 else none
def RN:SS:=⟨8,48,[(2,.own 23)],[(23,.row 269 96 aL)],[]⟩
def CA:aW:=aF G [.tmp 2] 196 [.val (.slice 96 aL)] [] 48 RN [23] (.bE (u1 wL))
theorem HO:hS CA:=
 aW.jT tied (H:=⟨[],[],[],[],[],[]⟩) (hold (l:=[]) trivial) rfl (.tmp 0) 3 4 110 110 269 96 aL (fun d=>d.1) (fun d=>⟨(.val (.slice 96 aL) d.1)::.bot::.bA::List.replicate 5 .bot,List.replicate 48 none,[]⟩) Tryz.call196 Tryz.func196 rfl rfl rfl rfl rfl rfl rfl rfl rfl rfl (by kernel_rfl) (fun _=>by kernel_rfl) (fun _=>by kernel_rfl) (fun _=>rfl) (fun _=>by kernel_rfl) (fun _ _=>by kernel_rfl) (fun d h=>by obtain⟨x,y⟩:=d;cases(h:x= []);kernel_rfl) (fun _=>by kernel_rfl)
def rJ(a0:Nat)(a1:Zv)(a2:Zo)(a3:Za)(a4:Za)(a5:Za)(a6:Zn)(a7:Nat)(a8:Zg)(a9:Int)(a10:Zx×Zy×Unit)(a11:Zu):Option (Sum ZQ Tv):=
 aG (U:=Nat×Tv) (some (.brk (a0,List.set (List.set a1 a0 ((List.getD a1 a0 (Ty.aD aL)).1,(List.getD a1 a0 (Ty.aD aL)).2.1,(List.getD a1 a0 (Ty.aD aL)).2.2.1,((List.getD a1 a0 (Ty.aD aL)).2.2.2.1.1,(List.getD a1 a0 (Ty.aD aL)).2.2.2.1.2.1,(-1:Int),(List.getD a1 a0 (Ty.aD aL)).2.2.2.1.2.2.2),(List.getD a1 a0 (Ty.aD aL)).2.2.2.2)) a0 ((List.getD (List.set a1 a0 ((List.getD a1 a0 (Ty.aD aL)).1,(List.getD a1 a0 (Ty.aD aL)).2.1,(List.getD a1 a0 (Ty.aD aL)).2.2.1,((List.getD a1 a0 (Ty.aD aL)).2.2.2.1.1,(List.getD a1 a0 (Ty.aD aL)).2.2.2.1.2.1,(-1:Int),(List.getD a1 a0 (Ty.aD aL)).2.2.2.1.2.2.2),(List.getD a1 a0 (Ty.aD aL)).2.2.2.2)) a0 (Ty.aD aL)).1,(List.getD (List.set a1 a0 ((List.getD a1 a0 (Ty.aD aL)).1,(List.getD a1 a0 (Ty.aD aL)).2.1,(List.getD a1 a0 (Ty.aD aL)).2.2.1,((List.getD a1 a0 (Ty.aD aL)).2.2.2.1.1,(List.getD a1 a0 (Ty.aD aL)).2.2.2.1.2.1,(-1:Int),(List.getD a1 a0 (Ty.aD aL)).2.2.2.1.2.2.2),(List.getD a1 a0 (Ty.aD aL)).2.2.2.2)) a0 (Ty.aD aL)).2.1,(List.getD (List.set a1 a0 ((List.getD a1 a0 (Ty.aD aL)).1,(List.getD a1 a0 (Ty.aD aL)).2.1,(List.getD a1 a0 (Ty.aD aL)).2.2.1,((List.getD a1 a0 (Ty.aD aL)).2.2.2.1.1,(List.getD a1 a0 (Ty.aD aL)).2.2.2.1.2.1,(-1:Int),(List.getD a1 a0 (Ty.aD aL)).2.2.2.1.2.2.2),(List.getD a1 a0 (Ty.aD aL)).2.2.2.2)) a0 (Ty.aD aL)).2.2.1,((List.getD (List.set a1 a0 ((List.getD a1 a0 (Ty.aD aL)).1,(List.getD a1 a0 (Ty.aD aL)).2.1,(List.getD a1 a0 (Ty.aD aL)).2.2.1,((List.getD a1 a0 (Ty.aD aL)).2.2.2.1.1,(List.getD a1 a0 (Ty.aD aL)).2.2.2.1.2.1,(-1:Int),(List.getD a1 a0 (Ty.aD aL)).2.2.2.1.2.2.2),(List.getD a1 a0 (Ty.aD aL)).2.2.2.2)) a0 (Ty.aD aL)).2.2.2.1.1,(List.getD (List.set a1 a0 ((List.getD a1 a0 (Ty.aD aL)).1,(List.getD a1 a0 (Ty.aD aL)).2.1,(List.getD a1 a0 (Ty.aD aL)).2.2.1,((List.getD a1 a0 (Ty.aD aL)).2.2.2.1.1,(List.getD a1 a0 (Ty.aD aL)).2.2.2.1.2.1,(-1:Int),(List.getD a1 a0 (Ty.aD aL)).2.2.2.1.2.2.2),(List.getD a1 a0 (Ty.aD aL)).2.2.2.2)) a0 (Ty.aD aL)).2.2.2.1.2.1,(List.getD (List.set a1 a0 ((List.getD a1 a0 (Ty.aD aL)).1,(List.getD a1 a0 (Ty.aD aL)).2.1,(List.getD a1 a0 (Ty.aD aL)).2.2.1,((List.getD a1 a0 (Ty.aD aL)).2.2.2.1.1,(List.getD a1 a0 (Ty.aD aL)).2.2.2.1.2.1,(-1:Int),(List.getD a1 a0 (Ty.aD aL)).2.2.2.1.2.2.2),(List.getD a1 a0 (Ty.aD aL)).2.2.2.2)) a0 (Ty.aD aL)).2.2.2.1.2.2.1,0,(List.getD (List.set a1 a0 ((List.getD a1 a0 (Ty.aD aL)).1,(List.getD a1 a0 (Ty.aD aL)).2.1,(List.getD a1 a0 (Ty.aD aL)).2.2.1,((List.getD a1 a0 (Ty.aD aL)).2.2.2.1.1,(List.getD a1 a0 (Ty.aD aL)).2.2.2.1.2.1,(-1:Int),(List.getD a1 a0 (Ty.aD aL)).2.2.2.1.2.2.2),(List.getD a1 a0 (Ty.aD aL)).2.2.2.2)) a0 (Ty.aD aL)).2.2.2.1.2.2.2.2),(List.getD (List.set a1 a0 ((List.getD a1 a0 (Ty.aD aL)).1,(List.getD a1 a0 (Ty.aD aL)).2.1,(List.getD a1 a0 (Ty.aD aL)).2.2.1,((List.getD a1 a0 (Ty.aD aL)).2.2.2.1.1,(List.getD a1 a0 (Ty.aD aL)).2.2.2.1.2.1,(-1:Int),(List.getD a1 a0 (Ty.aD aL)).2.2.2.1.2.2.2),(List.getD a1 a0 (Ty.aD aL)).2.2.2.2)) a0 (Ty.aD aL)).2.2.2.2),a2,a3,a4,a5,a6,a7,a8,a9,a10,a11))) fun⟨b,a,c,d,e,f,g,h,i,j,k,l⟩=>if(!decide ((List.getD a b (Ty.aD aL)).2.2.2.1.1= []))=true then(aG (U:=Nat×Tv) (eK (f193 (some c) (List.getD a b (Ty.aD aL)).2.2.2.1.1) (fun p4=>bZ (some (.inl (p4.1,())))) fun y3=>some (.brk (b,List.set a b ((List.getD a b (Ty.aD aL)).1,(List.getD a b (Ty.aD aL)).2.1,(List.getD a b (Ty.aD aL)).2.2.1,((List.getD a b (Ty.aD aL)).2.2.2.1.1,(List.getD a b (Ty.aD aL)).2.2.2.1.2.1,y3,(List.getD a b (Ty.aD aL)).2.2.2.1.2.2.2),(List.getD a b (Ty.aD aL)).2.2.2.2),c,d,e,f,g,h,i,j,k,l))) fun⟨n,m,p,q,r,s,t,u,v,w,x,o⟩=>if 0≤(List.getD m n (Ty.aD aL)).2.2.2.1.2.2.1 then(if(List.getD m n (Ty.aD aL)).2.2.2.1.2.2.1<(List.length m:Int) then(if 0≤(nth aL m (List.getD m n (Ty.aD aL)).2.2.2.1.2.2.1).2.2.1 then(if(nth aL m (List.getD m n (Ty.aD aL)).2.2.2.1.2.2.1).2.2.1<(List.length o:Int) then(eK (f193 (nth (.map .str (.int .i64)) o (nth aL m (List.getD m n (Ty.aD aL)).2.2.2.1.2.2.1).2.2.1) (List.getD m n (Ty.aD aL)).2.2.2.1.2.1) (fun p6=>some (.inl (p6.1,()))) fun y5=>some (.inr (List.set m n ((List.getD m n (Ty.aD aL)).1,(List.getD m n (Ty.aD aL)).2.1,(List.getD m n (Ty.aD aL)).2.2.1,((List.getD m n (Ty.aD aL)).2.2.2.1.1,(List.getD m n (Ty.aD aL)).2.2.2.1.2.1,(List.getD m n (Ty.aD aL)).2.2.2.1.2.2.1,y5,(List.getD m n (Ty.aD aL)).2.2.2.1.2.2.2.2),(List.getD m n (Ty.aD aL)).2.2.2.2),p,q,r,s,t,u,v,w,x,o))) else none) else none) else none) else none) else(some (.inr (a,c,d,e,f,g,h,i,j,k,l)))
def RQ:SS:=⟨50,90,[(0,.ptr 0 [.idx,.cw 3]),tP 1 1,tP 2 2,tP 3 3],[(0,.row 269 96 aL),(1,.var (.map .str (.int .i64)) (.mp 4)),(2,.var (.aR .ptr) (pP 5)),(3,.var (.aR .ptr) (.ptr 6 [.cw 1])),(4,.map .str (.int .i64)),(5,rB 7),(6,.bU 114 96 bz (.cons (.val .str) (.cons vI (.cons (.own 0) (.val (.pair (.slice 120 aP) (.pair (.slice 80 aX) .unit))))))),(7,.row 240 8 (.map .str (.int .i64)))],[]⟩
def RR:SS:=⟨50,90,[(0,.ptr 0 [.idx,.cw 3]),tP 2 2,tP 3 3],[(0,.row 269 96 aL),(1,.var (.map .str (.int .i64)) (.mp 4)),(2,.var (.aR .ptr) (pP 5)),(3,.var (.aR .ptr) (.ptr 6 [.cw 1])),(4,.map .str (.int .i64)),(5,rB 7),(6,.bU 114 96 bz (.cons (.val .str) (.cons vI (.cons (.own 0) (.val (.pair (.slice 120 aP) (.pair (.slice 80 aX) .unit))))))),(7,.row 240 8 (.map .str (.int .i64)))],[]⟩
def RS:SS:=⟨50,90,[],[(0,.row 269 96 aL),(1,.var (.map .str (.int .i64)) (.mp 4)),(2,.var (.aR .ptr) (pP 5)),(3,.var (.aR .ptr) (.ptr 6 [.cw 1])),(4,.map .str (.int .i64)),(5,rB 7),(6,.bU 114 96 bz (.cons (.val .str) (.cons vI (.cons (.own 0) (.val (.pair (.slice 120 aP) (.pair (.slice 80 aX) .unit))))))),(7,.row 240 8 (.map .str (.int .i64)))],[]⟩
def CB:aW:=aF G [] 197 [.ptr 0 [.idx,.cw 3],pP 1,pP 2,pP 3] [(0,.row 269 96 aL),(1,.var (.map .str (.int .i64)) (.mp 4)),(2,.var (.aR .ptr) (pP 5)),(3,.var (.aR .ptr) (.ptr 6 [.cw 1])),(4,.map .str (.int .i64)),(5,rB 7),(6,.bU 114 96 bz (.cons (.val .str) (.cons vI (.cons (.own 0) (.val (.pair (.slice 120 aP) (.pair (.slice 80 aX) .unit))))))),(7,.row 240 8 (.map .str (.int .i64)))] 90 RS [0,1,2,3,4,5,6,7] (.j8 (.iface 229 (.val .unit)) (Lc rJ))
theorem HP:hS CB:=
 aW.ED tied (H:=⟨[hA 2 0,hA 3 0],[(1,RQ),(3,RR)],[],[],[],[]⟩) (hold (l:=[uD]) ⟨wI,trivial⟩) aI rfl Tryz.call197 Tryz.func197 rfl rfl rfl rfl (fun _=>by kernel_rfl) (fun _=>by kernel_rfl)
def wM(a0:Zx):Option Zx:=
 if(List.length ([]:Zx)+List.length a0)*120≤aE then some a0 else none
def RU:SS:=⟨8,48,[(2,.own 23)],[(23,.row 253 120 aP)],[]⟩
def CC:aW:=aF G [.tmp 2] 198 [.val (.slice 120 aP)] [] 48 RU [23] (.bE (u1 wM))
theorem HQ:hS CC:=
 aW.jT tied (H:=⟨[],[],[],[],[],[]⟩) (hold (l:=[]) trivial) rfl (.tmp 0) 3 4 111 111 253 120 aP (fun d=>d.1) (fun d=>⟨(.val (.slice 120 aP) d.1)::.bot::.bA::List.replicate 5 .bot,List.replicate 48 none,[]⟩) Tryz.call198 Tryz.func198 rfl rfl rfl rfl rfl rfl rfl rfl rfl rfl (by kernel_rfl) (fun _=>by kernel_rfl) (fun _=>by kernel_rfl) (fun _=>rfl) (fun _=>by kernel_rfl) (fun _ _=>by kernel_rfl) (fun d h=>by obtain⟨x,y⟩:=d;cases(h:x= []);kernel_rfl) (fun _=>by kernel_rfl)
def rK(a0:Nat)(a1:Zx)(a2:Zo)(a3:Za)(a4:Za)(a5:Za)(a6:Zn)(a7:Nat)(a8:Zg)(a9:Int)(a10:Zy×Unit)(a11:Zu)(a12:Zv):Option (Sum ZQ ZH):=
 aG (U:=Nat×ZH) (some (.brk (a0,List.set (List.set a1 a0 ((List.getD a1 a0 (Ty.aD aP)).1,((List.getD a1 a0 (Ty.aD aP)).2.1.1,(List.getD a1 a0 (Ty.aD aP)).2.1.2.1,(-1:Int),(List.getD a1 a0 (Ty.aD aP)).2.1.2.2.2),(List.getD a1 a0 (Ty.aD aP)).2.2)) a0 ((List.getD (List.set a1 a0 ((List.getD a1 a0 (Ty.aD aP)).1,((List.getD a1 a0 (Ty.aD aP)).2.1.1,(List.getD a1 a0 (Ty.aD aP)).2.1.2.1,(-1:Int),(List.getD a1 a0 (Ty.aD aP)).2.1.2.2.2),(List.getD a1 a0 (Ty.aD aP)).2.2)) a0 (Ty.aD aP)).1,((List.getD (List.set a1 a0 ((List.getD a1 a0 (Ty.aD aP)).1,((List.getD a1 a0 (Ty.aD aP)).2.1.1,(List.getD a1 a0 (Ty.aD aP)).2.1.2.1,(-1:Int),(List.getD a1 a0 (Ty.aD aP)).2.1.2.2.2),(List.getD a1 a0 (Ty.aD aP)).2.2)) a0 (Ty.aD aP)).2.1.1,(List.getD (List.set a1 a0 ((List.getD a1 a0 (Ty.aD aP)).1,((List.getD a1 a0 (Ty.aD aP)).2.1.1,(List.getD a1 a0 (Ty.aD aP)).2.1.2.1,(-1:Int),(List.getD a1 a0 (Ty.aD aP)).2.1.2.2.2),(List.getD a1 a0 (Ty.aD aP)).2.2)) a0 (Ty.aD aP)).2.1.2.1,(List.getD (List.set a1 a0 ((List.getD a1 a0 (Ty.aD aP)).1,((List.getD a1 a0 (Ty.aD aP)).2.1.1,(List.getD a1 a0 (Ty.aD aP)).2.1.2.1,(-1:Int),(List.getD a1 a0 (Ty.aD aP)).2.1.2.2.2),(List.getD a1 a0 (Ty.aD aP)).2.2)) a0 (Ty.aD aP)).2.1.2.2.1,0,(List.getD (List.set a1 a0 ((List.getD a1 a0 (Ty.aD aP)).1,((List.getD a1 a0 (Ty.aD aP)).2.1.1,(List.getD a1 a0 (Ty.aD aP)).2.1.2.1,(-1:Int),(List.getD a1 a0 (Ty.aD aP)).2.1.2.2.2),(List.getD a1 a0 (Ty.aD aP)).2.2)) a0 (Ty.aD aP)).2.1.2.2.2.2),(List.getD (List.set a1 a0 ((List.getD a1 a0 (Ty.aD aP)).1,((List.getD a1 a0 (Ty.aD aP)).2.1.1,(List.getD a1 a0 (Ty.aD aP)).2.1.2.1,(-1:Int),(List.getD a1 a0 (Ty.aD aP)).2.1.2.2.2),(List.getD a1 a0 (Ty.aD aP)).2.2)) a0 (Ty.aD aP)).2.2),a2,a3,a4,a5,a6,a7,a8,a9,a10,a11,a12))) fun⟨b,a,c,d,e,f,g,h,i,j,k,l,m⟩=>if(!decide ((List.getD a b (Ty.aD aP)).2.1.1= []))=true then(aG (U:=Nat×ZH) (eK (f193 (some c) (List.getD a b (Ty.aD aP)).2.1.1) (fun p4=>bZ (some (.inl (p4.1,())))) fun y3=>some (.brk (b,List.set a b ((List.getD a b (Ty.aD aP)).1,((List.getD a b (Ty.aD aP)).2.1.1,(List.getD a b (Ty.aD aP)).2.1.2.1,y3,(List.getD a b (Ty.aD aP)).2.1.2.2.2),(List.getD a b (Ty.aD aP)).2.2),c,d,e,f,g,h,i,j,k,l,m))) fun⟨o,n,r,s,t,u,v,w,x,y,z,q,p⟩=>if 0≤(List.getD n o (Ty.aD aP)).2.1.2.2.1 then(if(List.getD n o (Ty.aD aP)).2.1.2.2.1<(List.length p:Int) then(if 0≤(nth aL p (List.getD n o (Ty.aD aP)).2.1.2.2.1).2.2.1 then(if(nth aL p (List.getD n o (Ty.aD aP)).2.1.2.2.1).2.2.1<(List.length q:Int) then(eK (f193 (nth (.map .str (.int .i64)) q (nth aL p (List.getD n o (Ty.aD aP)).2.1.2.2.1).2.2.1) (List.getD n o (Ty.aD aP)).2.1.2.1) (fun p6=>some (.inl (p6.1,()))) fun y5=>some (.inr (List.set n o ((List.getD n o (Ty.aD aP)).1,((List.getD n o (Ty.aD aP)).2.1.1,(List.getD n o (Ty.aD aP)).2.1.2.1,(List.getD n o (Ty.aD aP)).2.1.2.2.1,y5,(List.getD n o (Ty.aD aP)).2.1.2.2.2.2),(List.getD n o (Ty.aD aP)).2.2),r,s,t,u,v,w,x,y,z,q,p))) else none) else none) else none) else none) else(some (.inr (a,c,d,e,f,g,h,i,j,k,l,m)))
def RW:SS:=⟨50,90,[(0,.ptr 0 [.idx,.cw 1]),tP 1 1,tP 2 2,tP 3 3],[(0,.row 253 120 aP),(1,.var (.map .str (.int .i64)) (.mp 4)),(2,.var (.aR .ptr) (pP 5)),(3,.var (.aR .ptr) (.ptr 6 [.cw 1])),(4,.map .str (.int .i64)),(5,rB 7),(6,.bU 114 96 bz (.cons (.val .str) (.cons vI (.cons (.own 8) (.cons (.own 0) (.val (.pair (.slice 80 aX) .unit))))))),(7,.row 240 8 (.map .str (.int .i64))),(8,.row 269 96 aL)],[]⟩
def RX:SS:=⟨50,90,[(0,.ptr 0 [.idx,.cw 1]),tP 2 2,tP 3 3],[(0,.row 253 120 aP),(1,.var (.map .str (.int .i64)) (.mp 4)),(2,.var (.aR .ptr) (pP 5)),(3,.var (.aR .ptr) (.ptr 6 [.cw 1])),(4,.map .str (.int .i64)),(5,rB 7),(6,.bU 114 96 bz (.cons (.val .str) (.cons vI (.cons (.own 8) (.cons (.own 0) (.val (.pair (.slice 80 aX) .unit))))))),(7,.row 240 8 (.map .str (.int .i64))),(8,.row 269 96 aL)],[]⟩
def N3:SS:=⟨50,90,[],[(0,.row 253 120 aP),(1,.var (.map .str (.int .i64)) (.mp 4)),(2,.var (.aR .ptr) (pP 5)),(3,.var (.aR .ptr) (.ptr 6 [.cw 1])),(4,.map .str (.int .i64)),(5,rB 7),(6,.bU 114 96 bz (.cons (.val .str) (.cons vI (.cons (.own 8) (.cons (.own 0) (.val (.pair (.slice 80 aX) .unit))))))),(7,.row 240 8 (.map .str (.int .i64))),(8,.row 269 96 aL)],[]⟩
def CD:aW:=aF G [] 197 [.ptr 0 [.idx,.cw 1],pP 1,pP 2,pP 3] [(0,.row 253 120 aP),(1,.var (.map .str (.int .i64)) (.mp 4)),(2,.var (.aR .ptr) (pP 5)),(3,.var (.aR .ptr) (.ptr 6 [.cw 1])),(4,.map .str (.int .i64)),(5,rB 7),(6,.bU 114 96 bz (.cons (.val .str) (.cons vI (.cons (.own 8) (.cons (.own 0) (.val (.pair (.slice 80 aX) .unit))))))),(7,.row 240 8 (.map .str (.int .i64))),(8,.row 269 96 aL)] 90 N3 [0,1,2,3,4,5,6,7,8] (.j8 (.iface 229 (.val .unit)) (Hf rK))
theorem HR:hS CD:=
 aW.ED tied (H:=⟨[hA 2 0,hA 3 0],[(1,RW),(3,RX)],[],[],[],[]⟩) (hold (l:=[uD]) ⟨wI,trivial⟩) aI rfl Tryz.call197 Tryz.func197 rfl rfl rfl rfl (fun _=>by kernel_rfl) (fun _=>by kernel_rfl)
end Go.Proofs.YtgdcjlldafmomaaGreat
