/- part -/
import Derived.Test.YtaghhonjcdokjaaGreatDoorF2
noncomputable section
namespace Go.Proofs.YtaghhonjcdokjaaGreatDoor
open Go.Ax
def f183(a0:Zd):Option Zd:=
 some a0
def adZ:SS:=⟨4,44,[(2,.val .str)],[],[]⟩
def ad0:aX:=aE G [.tmp 2] 183 [.val .str] [] 44 adZ [] (.bC (u1 f183))
theorem ad1:hS ad0:=
 cO (hR []) hz aH Tryz.call183 Tryz.func183
def Ef:Nat→Bool×Zn×Int×Int×Zp→ZZ:=aM fun ahA ⟨e,c,b,a,d⟩=>if(decide (a<b))=true then(if 0≤a then(if a<(List.length c:Int) then(Option.bind (f183 (nth .str c a)) fun y4=>if(de .str y4 d)=true then(ahA (true,c,b,bB (a+1),d)) else(Option.bind (f183 (nth .str c a)) fun y5=>if List.length d+1≤aG then(ahA (e,c,b,bB (a+1),bF .str y5 a d)) else none)) else none) else none) else(some (.brk (e,d)))
def zZ(a0:Zn):Option (Za×Bool):=
 aI (U:=Bool×Zp) (Ef (Int.toNat (List.length a0:Int)+1) (false,a0,(List.length a0:Int),0,([]:Zp))) fun⟨b,a⟩=>some (some a,b)
def ad2:SS:=⟨37,77,[(4,.mp 28),(5,vB)],[(28,.map .str (.int .i64))],[]⟩
def ad3:SS:=⟨37,77,[(1,.func 183 .nil .nil),(4,.mp 28),(5,vB),(13,.val (.slice 16 .str)),tI 14,tI 15],[(28,.map .str (.int .i64))],[]⟩
def ad4:SS:=⟨37,77,[(4,vM),(5,vB)],[],[]⟩
def OV:aX:=aE G [.tmp 4,.tmp 5] 182 [.val (.slice 16 .str),.func 183 .nil .nil] [] 77 ad4 [] (.bC (u1 zZ))
theorem OW:hS OV:=
 cO ⟨[hA 5 0,hA 8 0],[(10,ad2)],[],[(3,⟨ad3,fun u2=>Int.toNat u2.2.2.1+1⟩)],[],[]⟩ (hq ad1 hz) aH Tryz.call182 Tryz.func182
def f185(a0:gv):Option Zd:=
 some a0.1
def ad5:SS:=⟨5,45,[(2,.val .str)],[],[]⟩
def ad6:aX:=aE G [.tmp 2] 185 [.val aS] [] 45 ad5 [] (.bC (u1 f185))
theorem ad7:hS ad6:=
 cO (hR []) hz aH Tryz.call185 Tryz.func185
def Eg:Nat→Bool×Zq×Int×Int×Zp→ZZ:=aM fun ahA ⟨e,c,b,a,d⟩=>if(decide (a<b))=true then(if 0≤a then(if a<(List.length c:Int) then(Option.bind (f185 (nth aS c a)) fun y4=>if(de .str y4 d)=true then(ahA (true,c,b,bB (a+1),d)) else(Option.bind (f185 (nth aS c a)) fun y5=>if List.length d+1≤aG then(ahA (e,c,b,bB (a+1),bF .str y5 a d)) else none)) else none) else none) else(some (.brk (e,d)))
def z8(a0:Zq):Option (Za×Bool):=
 aI (U:=Bool×Zp) (Eg (Int.toNat (List.length a0:Int)+1) (false,a0,(List.length a0:Int),0,([]:Zp))) fun⟨b,a⟩=>some (some a,b)
def ad8:SS:=⟨37,77,[(4,.mp 28),(5,vB)],[(28,.map .str (.int .i64))],[]⟩
def ad9:SS:=⟨37,77,[(1,.func 185 .nil .nil),(4,.mp 28),(5,vB),(13,.val (.slice 56 aS)),tI 14,tI 15],[(28,.map .str (.int .i64))],[]⟩
def aea:SS:=⟨37,77,[(4,vM),(5,vB)],[],[]⟩
def OX:aX:=aE G [.tmp 4,.tmp 5] 184 [.val (.slice 56 aS),.func 185 .nil .nil] [] 77 aea [] (.bC (u1 z8))
theorem OY:hS OX:=
 cO ⟨[hA 5 0,hA 8 0],[(10,ad8)],[],[(3,⟨ad9,fun u2=>Int.toNat u2.2.2.1+1⟩)],[],[]⟩ (hq ad7 hz) aH Tryz.call184 Tryz.func184
def f187(a0:lu):Option Zd:=
 some a0.1
def aeb:SS:=⟨5,45,[(2,.val .str)],[],[]⟩
def aec:aX:=aE G [.tmp 2] 187 [.val aU] [] 45 aeb [] (.bC (u1 f187))
theorem aed:hS aec:=
 cO (hR []) hz aH Tryz.call187 Tryz.func187
def Eh:Nat→Bool×Zj×Int×Int×Zp→ZZ:=aM fun ahA ⟨e,c,b,a,d⟩=>if(decide (a<b))=true then(if 0≤a then(if a<(List.length c:Int) then(Option.bind (f187 (nth aU c a)) fun y4=>if(de .str y4 d)=true then(ahA (true,c,b,bB (a+1),d)) else(Option.bind (f187 (nth aU c a)) fun y5=>if List.length d+1≤aG then(ahA (e,c,b,bB (a+1),bF .str y5 a d)) else none)) else none) else none) else(some (.brk (e,d)))
def Aa(a0:Zj):Option (Za×Bool):=
 aI (U:=Bool×Zp) (Eh (Int.toNat (List.length a0:Int)+1) (false,a0,(List.length a0:Int),0,([]:Zp))) fun⟨b,a⟩=>some (some a,b)
def aee:SS:=⟨37,77,[(4,.mp 28),(5,vB)],[(28,.map .str (.int .i64))],[]⟩
def aef:SS:=⟨37,77,[(1,.func 187 .nil .nil),(4,.mp 28),(5,vB),(13,.val (.slice 96 aU)),tI 14,tI 15],[(28,.map .str (.int .i64))],[]⟩
def aeg:SS:=⟨37,77,[(4,vM),(5,vB)],[],[]⟩
def OZ:aX:=aE G [.tmp 4,.tmp 5] 186 [.val (.slice 96 aU),.func 187 .nil .nil] [] 77 aeg [] (.bC (u1 Aa))
theorem O0:hS OZ:=
 cO ⟨[hA 5 0,hA 8 0],[(10,aee)],[],[(3,⟨aef,fun u2=>Int.toNat u2.2.2.1+1⟩)],[],[]⟩ (hq aed hz) aH Tryz.call186 Tryz.func186
def f189(a0:nU):Option Zd:=
 some a0.1
def aeh:SS:=⟨5,45,[(2,.val .str)],[],[]⟩
def aei:aX:=aE G [.tmp 2] 189 [.val dv] [] 45 aeh [] (.bC (u1 f189))
theorem aej:hS aei:=
 cO (hR []) hz aH Tryz.call189 Tryz.func189
def Ei:Nat→Bool×Zv×Int×Int×Zp→ZZ:=aM fun ahA ⟨e,c,b,a,d⟩=>if(decide (a<b))=true then(if 0≤a then(if a<(List.length c:Int) then(Option.bind (f189 (nth dv c a)) fun y4=>if(de .str y4 d)=true then(ahA (true,c,b,bB (a+1),d)) else(Option.bind (f189 (nth dv c a)) fun y5=>if List.length d+1≤aG then(ahA (e,c,b,bB (a+1),bF .str y5 a d)) else none)) else none) else none) else(some (.brk (e,d)))
def Ab(a0:Zv):Option (Za×Bool):=
 aI (U:=Bool×Zp) (Ei (Int.toNat (List.length a0:Int)+1) (false,a0,(List.length a0:Int),0,([]:Zp))) fun⟨b,a⟩=>some (some a,b)
def aek:SS:=⟨37,77,[(4,.mp 28),(5,vB)],[(28,.map .str (.int .i64))],[]⟩
def ael:SS:=⟨37,77,[(1,.func 189 .nil .nil),(4,.mp 28),(5,vB),(13,.val (.slice 48 dv)),tI 14,tI 15],[(28,.map .str (.int .i64))],[]⟩
def aem:SS:=⟨37,77,[(4,vM),(5,vB)],[],[]⟩
def O3:aX:=aE G [.tmp 4,.tmp 5] 188 [.val (.slice 48 dv),.func 189 .nil .nil] [] 77 aem [] (.bC (u1 Ab))
theorem O4:hS O3:=
 cO ⟨[hA 5 0,hA 8 0],[(10,aek)],[],[(3,⟨ael,fun u2=>Int.toNat u2.2.2.1+1⟩)],[],[]⟩ (hq aej hz) aH Tryz.call188 Tryz.func188
def f191(a0:Cy):Option Zd:=
 some a0.1
def aen:SS:=⟨5,45,[(2,.val .str)],[],[]⟩
def aeo:aX:=aE G [.tmp 2] 191 [.val bO] [] 45 aen [] (.bC (u1 f191))
theorem aep:hS aeo:=
 cO (hR []) hz aH Tryz.call191 Tryz.func191
def Ej:Nat→Bool×ZA×Int×Int×Zp→ZZ:=aM fun ahA ⟨e,c,b,a,d⟩=>if(decide (a<b))=true then(if 0≤a then(if a<(List.length c:Int) then(Option.bind (f191 (nth bO c a)) fun y4=>if(de .str y4 d)=true then(ahA (true,c,b,bB (a+1),d)) else(Option.bind (f191 (nth bO c a)) fun y5=>if List.length d+1≤aG then(ahA (e,c,b,bB (a+1),bF .str y5 a d)) else none)) else none) else none) else(some (.brk (e,d)))
def Ac(a0:ZA):Option (Za×Bool):=
 aI (U:=Bool×Zp) (Ej (Int.toNat (List.length a0:Int)+1) (false,a0,(List.length a0:Int),0,([]:Zp))) fun⟨b,a⟩=>some (some a,b)
def aeq:SS:=⟨37,77,[(4,.mp 28),(5,vB)],[(28,.map .str (.int .i64))],[]⟩
def aer:SS:=⟨37,77,[(1,.func 191 .nil .nil),(4,.mp 28),(5,vB),(13,.val (.slice 120 bO)),tI 14,tI 15],[(28,.map .str (.int .i64))],[]⟩
def aes:SS:=⟨37,77,[(4,vM),(5,vB)],[],[]⟩
def O5:aX:=aE G [.tmp 4,.tmp 5] 190 [.val (.slice 120 bO),.func 191 .nil .nil] [] 77 aes [] (.bC (u1 Ac))
theorem O6:hS O5:=
 cO ⟨[hA 5 0,hA 8 0],[(10,aeq)],[],[(3,⟨aer,fun u2=>Int.toNat u2.2.2.1+1⟩)],[],[]⟩ (hq aep hz) aH Tryz.call190 Tryz.func190
def f193(a0:sP):Option Zd:=
 some a0.1
def aet:SS:=⟨5,45,[(2,.val .str)],[],[]⟩
def aeu:aX:=aE G [.tmp 2] 193 [.val aL] [] 45 aet [] (.bC (u1 f193))
theorem aev:hS aeu:=
 cO (hR []) hz aH Tryz.call193 Tryz.func193
def Ek:Nat→Bool×Zw×Int×Int×Zp→ZZ:=aM fun ahA ⟨e,c,b,a,d⟩=>if(decide (a<b))=true then(if 0≤a then(if a<(List.length c:Int) then(Option.bind (f193 (nth aL c a)) fun y4=>if(de .str y4 d)=true then(ahA (true,c,b,bB (a+1),d)) else(Option.bind (f193 (nth aL c a)) fun y5=>if List.length d+1≤aG then(ahA (e,c,b,bB (a+1),bF .str y5 a d)) else none)) else none) else none) else(some (.brk (e,d)))
def Ad(a0:Zw):Option (Za×Bool):=
 aI (U:=Bool×Zp) (Ek (Int.toNat (List.length a0:Int)+1) (false,a0,(List.length a0:Int),0,([]:Zp))) fun⟨b,a⟩=>some (some a,b)
def aew:SS:=⟨37,77,[(4,.mp 28),(5,vB)],[(28,.map .str (.int .i64))],[]⟩
def aex:SS:=⟨37,77,[(1,.func 193 .nil .nil),(4,.mp 28),(5,vB),(13,.val (.slice 96 aL)),tI 14,tI 15],[(28,.map .str (.int .i64))],[]⟩
def aey:SS:=⟨37,77,[(4,vM),(5,vB)],[],[]⟩
def O7:aX:=aE G [.tmp 4,.tmp 5] 192 [.val (.slice 96 aL),.func 193 .nil .nil] [] 77 aey [] (.bC (u1 Ad))
theorem O8:hS O7:=
 cO ⟨[hA 5 0,hA 8 0],[(10,aew)],[],[(3,⟨aex,fun u2=>Int.toNat u2.2.2.1+1⟩)],[],[]⟩ (hq aev hz) aH Tryz.call192 Tryz.func192
def lT:Nat→Bool×Zj×Int×Int×cH×Lk→Option (cV (Bool×cH×Lk) (Bool×Lk)):=aM fun rec10 ⟨g,e,d,c,h,i,j,k,f⟩=>if(decide (c<d))=true then(if 0≤c then(if c<(List.length e:Int) then(Option.bind (Ac (nth aU e c).2.2.2.2.1) fun⟨a,b⟩=>if(List.length f+List.length [a])*8≤aG then(Option.bind (α:=Bool) (if g=true then(some true) else(some b)) fun v12=>rec10 (v12,e,d,bB (c+1),h,i,j,k,f++[a])) else none) else none) else none) else(some (.brk (g,h,i,j,k,f)))
def lU:Nat→Bool×Zi×Int×Int×Lk→Option (cV (Bool×Lk) (Bool×Lk)):=aM fun rec15 ⟨e,d,c,b,f,g,h,i⟩=>if(decide (b<c))=true then(if 0≤b then(if b<(List.length d:Int) then(Option.bind (Ad (nth bQ d b).2.2.1) fun⟨_,a⟩=>Option.bind (α:=Bool) (if e=true then(some true) else(some a)) fun v17=>rec15 (v17,d,c,bB (b+1),f,g,h,i)) else none) else none) else(some (.brk (e,f,g,h,i)))
def Ae(a0:cH):Option (Bool×Lk):=
 Option.bind (zZ a0.1) fun⟨b,a⟩=>Option.bind (z8 a0.2.1) fun⟨d,c⟩=>Option.bind (α:=Bool) (if a=true then(some true) else(some c)) fun v3=>Option.bind (Aa a0.2.2.1) fun⟨f,e⟩=>Option.bind (α:=Bool) (if v3=true then(some true) else(some e)) fun v5=>Option.bind (Ab a0.2.2.2.2.2.1) fun⟨_,g⟩=>Option.bind (α:=Bool) (if v5=true then(some true) else(some g)) fun v7=>aI (U:=Bool×cH×Lk) (lT (Int.toNat (List.length a0.2.2.1:Int)+1) (v7,a0.2.2.1,(List.length a0.2.2.1:Int),0,a0,b,d,f,([]:Zt))) fun⟨i,h,j,k,l,m⟩=>aI (U:=Bool×Lk) (lU (Int.toNat (List.length h.2.2.2.1:Int)+1) (i,h.2.2.2.1,(List.length h.2.2.2.1:Int),0,j,k,l,m)) fun⟨n,o,p,q,r⟩=>some (n,o,p,q,r)
def aez:SS:=⟨108,148,[tP 1 17,tP 2 30,(3,vB)],[(17,bV fW),(30,rB 125),(125,.row 207 8 (.map .str (.int .i64)))],[]⟩
def U0:SS:=⟨108,148,[tP 2 30,(3,vB)],[(30,rB 125),(125,.row 207 8 (.map .str (.int .i64)))],[]⟩
def aeA:SS:=⟨108,148,[tP 1 17,tP 2 30,(3,vB),(61,.val (.slice 96 aU)),tI 62,tI 63],[(17,bV fW),(30,rB 124),(124,.row 207 8 (.map .str (.int .i64)))],[]⟩
def aeB:SS:=⟨108,148,[tP 2 30,(3,vB),(89,.val (.slice 96 bQ)),tI 90,tI 91],[(30,rB 125),(125,.row 207 8 (.map .str (.int .i64)))],[]⟩
def KB:aX:=aE G [.tmp 2,.tmp 3] 90 [.val fW] [] 148 U0 [30,125] (.bC (u1 Ae))
theorem Sw:hS KB:=
 cO ⟨[hA 3 0,hA 4 1,hD 5 3 [],hA 6 2,hD 7 3 [],hA 8 3,hD 9 3 [],hA 13 4,hD 15 3 [],hA 20 5,hD 21 3 []],[(17,aez),(23,U0)],[],[(11,⟨aeA,fun u9=>Int.toNat u9.2.2.1+1⟩),(18,⟨aeB,fun Tu=>Int.toNat Tu.2.2.1+1⟩)],[],[]⟩ (hq OW (hq OY (hq O0 (hq O4 (hq O6 (hq O8 hz)))))) aH Tryz.call90 Tryz.func90
def El(a0:Zn):Option Zn:=
 if(List.length ([]:Zn)+List.length a0)*16≤aG then some a0 else none
def aeC:SS:=⟨8,48,[(2,.own 23)],[(23,.row 9 16 .str)],[]⟩
def KC:aX:=aE G [.tmp 2] 92 [.val (.slice 16 .str)] [] 48 aeC [23] (.bC (u1 El))
theorem Sx:hS KC:=
 aX.kK tied (H:=⟨[],[],[],[],[],[]⟩) (hold (l:=[]) trivial) rfl (.tmp 0) 3 4 22 22 9 16 .str (fun d=>d.1) (fun d=>⟨(.val (.slice 16 .str) d.1)::.bot::.aF::List.replicate 5 .bot,List.replicate 48 none,[]⟩) Tryz.call92 Tryz.func92 rfl rfl rfl rfl rfl rfl rfl rfl rfl rfl (by kernel_rfl) (fun _=>by kernel_rfl) (fun _=>by kernel_rfl) (fun _=>rfl) (fun _=>by kernel_rfl) (fun _ _=>by kernel_rfl) (fun d h=>by obtain⟨x,y⟩:=d;cases(h:x= []);kernel_rfl) (fun _=>by kernel_rfl)
def Em(a0:Zq):Option Zq:=
 if(List.length ([]:Zq)+List.length a0)*56≤aG then some a0 else none
def aeD:SS:=⟨8,48,[(2,.own 23)],[(23,.row 135 56 aS)],[]⟩
def KD:aX:=aE G [.tmp 2] 93 [.val (.slice 56 aS)] [] 48 aeD [23] (.bC (u1 Em))
theorem Sy:hS KD:=
 aX.kK tied (H:=⟨[],[],[],[],[],[]⟩) (hold (l:=[]) trivial) rfl (.tmp 0) 3 4 23 23 135 56 aS (fun d=>d.1) (fun d=>⟨(.val (.slice 56 aS) d.1)::.bot::.aF::List.replicate 5 .bot,List.replicate 48 none,[]⟩) Tryz.call93 Tryz.func93 rfl rfl rfl rfl rfl rfl rfl rfl rfl rfl (by kernel_rfl) (fun _=>by kernel_rfl) (fun _=>by kernel_rfl) (fun _=>rfl) (fun _=>by kernel_rfl) (fun _ _=>by kernel_rfl) (fun d h=>by obtain⟨x,y⟩:=d;cases(h:x= []);kernel_rfl) (fun _=>by kernel_rfl)
def En(a0:Zj):Option Zj:=
 if(List.length ([]:Zj)+List.length a0)*96≤aG then some a0 else none
def aeE:SS:=⟨8,48,[(2,.own 23)],[(23,.row 141 96 aU)],[]⟩
def KE:aX:=aE G [.tmp 2] 94 [.val (.slice 96 aU)] [] 48 aeE [23] (.bC (u1 En))
theorem Sz:hS KE:=
 aX.kK tied (H:=⟨[],[],[],[],[],[]⟩) (hold (l:=[]) trivial) rfl (.tmp 0) 3 4 24 24 141 96 aU (fun d=>d.1) (fun d=>⟨(.val (.slice 96 aU) d.1)::.bot::.aF::List.replicate 5 .bot,List.replicate 48 none,[]⟩) Tryz.call94 Tryz.func94 rfl rfl rfl rfl rfl rfl rfl rfl rfl rfl (by kernel_rfl) (fun _=>by kernel_rfl) (fun _=>by kernel_rfl) (fun _=>rfl) (fun _=>by kernel_rfl) (fun _ _=>by kernel_rfl) (fun d h=>by obtain⟨x,y⟩:=d;cases(h:x= []);kernel_rfl) (fun _=>by kernel_rfl)
def Eo(a0:Zi):Option Zi:=
 if(List.length ([]:Zi)+List.length a0)*96≤aG then some a0 else none
def aeF:SS:=⟨8,48,[(2,.own 23)],[(23,.row 69 96 bQ)],[]⟩
def KF:aX:=aE G [.tmp 2] 95 [.val (.slice 96 bQ)] [] 48 aeF [23] (.bC (u1 Eo))
theorem SC:hS KF:=
 aX.kK tied (H:=⟨[],[],[],[],[],[]⟩) (hold (l:=[]) trivial) rfl (.tmp 0) 3 4 25 25 69 96 bQ (fun d=>d.1) (fun d=>⟨(.val (.slice 96 bQ) d.1)::.bot::.aF::List.replicate 5 .bot,List.replicate 48 none,[]⟩) Tryz.call95 Tryz.func95 rfl rfl rfl rfl rfl rfl rfl rfl rfl rfl (by kernel_rfl) (fun _=>by kernel_rfl) (fun _=>by kernel_rfl) (fun _=>rfl) (fun _=>by kernel_rfl) (fun _ _=>by kernel_rfl) (fun d h=>by obtain⟨x,y⟩:=d;cases(h:x= []);kernel_rfl) (fun _=>by kernel_rfl)
def Ep(a0:ZC):Option ZC:=
 if(List.length ([]:ZC)+List.length a0)*72≤aG then some a0 else none
def aeG:SS:=⟨8,48,[(2,.own 23)],[(23,.row 154 72 fA)],[]⟩
def KG:aX:=aE G [.tmp 2] 96 [.val (.slice 72 fA)] [] 48 aeG [23] (.bC (u1 Ep))
theorem SD:hS KG:=
 aX.kK tied (H:=⟨[],[],[],[],[],[]⟩) (hold (l:=[]) trivial) rfl (.tmp 0) 3 4 26 26 154 72 fA (fun d=>d.1) (fun d=>⟨(.val (.slice 72 fA) d.1)::.bot::.aF::List.replicate 5 .bot,List.replicate 48 none,[]⟩) Tryz.call96 Tryz.func96 rfl rfl rfl rfl rfl rfl rfl rfl rfl rfl (by kernel_rfl) (fun _=>by kernel_rfl) (fun _=>by kernel_rfl) (fun _=>rfl) (fun _=>by kernel_rfl) (fun _ _=>by kernel_rfl) (fun d h=>by obtain⟨x,y⟩:=d;cases(h:x= []);kernel_rfl) (fun _=>by kernel_rfl)
def Er(a0:Zv):Option Zv:=
 if(List.length ([]:Zv)+List.length a0)*48≤aG then some a0 else none
def aeH:SS:=⟨8,48,[(2,.own 23)],[(23,.row 147 48 dv)],[]⟩
def KH:aX:=aE G [.tmp 2] 97 [.val (.slice 48 dv)] [] 48 aeH [23] (.bC (u1 Er))
theorem SE:hS KH:=
 aX.kK tied (H:=⟨[],[],[],[],[],[]⟩) (hold (l:=[]) trivial) rfl (.tmp 0) 3 4 27 27 147 48 dv (fun d=>d.1) (fun d=>⟨(.val (.slice 48 dv) d.1)::.bot::.aF::List.replicate 5 .bot,List.replicate 48 none,[]⟩) Tryz.call97 Tryz.func97 rfl rfl rfl rfl rfl rfl rfl rfl rfl rfl (by kernel_rfl) (fun _=>by kernel_rfl) (fun _=>by kernel_rfl) (fun _=>rfl) (fun _=>by kernel_rfl) (fun _ _=>by kernel_rfl) (fun d h=>by obtain⟨x,y⟩:=d;cases(h:x= []);kernel_rfl) (fun _=>by kernel_rfl)
def f194(a0:Za)(a1:Zd):Option (Sum ZT Int):=
 if(!(de .str a1 (bK a0)))=true then(some (.inl ((),()))) else(some (.inr (bE .str (.int .i64) a1 (bK a0))))
def aeI:SS:=⟨18,58,[tI 4],[],[]⟩
def wO:aX:=aE G [.tmp 4] 194 [vM,.val .str] [] 58 aeI [] (.j4 (.iface 196 (.val .unit)) (u2 f194))
theorem Af:hS wO:=
 aX.B1 tied (H:=⟨[],[],[],[],[],[]⟩) (hold (l:=[]) trivial) aH rfl Tryz.call194 Tryz.func194 rfl rfl rfl rfl (fun _=>by kernel_rfl) (fun _=>by kernel_rfl)
def xV:Nat→Int×Int×Qe→Option (cV Qe (Sum ZT Qe)):=aM fun ahA ⟨t,s,v,w,x,u,y⟩=>if(decide (s<t))=true then(if 0≤s then(if s<(List.length u:Int) then(if(decide ((nth aS u s).2.1= []))=true then(ahA (t,bB (s+1),v,w,x,List.set (List.set u (Int.toNat s) ((nth aS u s).1,(nth aS u s).2.1,(nth aS u s).2.2.1,s,(nth aS u s).2.2.2.2)) (Int.toNat s) ((nth aS (List.set u (Int.toNat s) ((nth aS u s).1,(nth aS u s).2.1,(nth aS u s).2.2.1,s,(nth aS u s).2.2.2.2)) s).1,(nth aS (List.set u (Int.toNat s) ((nth aS u s).1,(nth aS u s).2.1,(nth aS u s).2.2.1,s,(nth aS u s).2.2.2.2)) s).2.1,(nth aS (List.set u (Int.toNat s) ((nth aS u s).1,(nth aS u s).2.1,(nth aS u s).2.2.1,s,(nth aS u s).2.2.2.2)) s).2.2.1,(nth aS (List.set u (Int.toNat s) ((nth aS u s).1,(nth aS u s).2.1,(nth aS u s).2.2.1,s,(nth aS u s).2.2.2.2)) s).2.2.2.1,1,(nth aS (List.set u (Int.toNat s) ((nth aS u s).1,(nth aS u s).2.1,(nth aS u s).2.2.1,s,(nth aS u s).2.2.2.2)) s).2.2.2.2.2),y)) else(dV (f194 w (nth aS u s).2.1) (fun p8=>cw (some (.inl (p8.1,())))) fun y4=>aI (U:=Nat×Int×Int×Int×Qe) (if(decide (s≤y4))=true then(cw (cw (some (.inl ((),()))))) else(some (.brk (Int.toNat s,y4,t,s,v,w,x,u,y)))) fun⟨c,a,d,e,f,g,h,b,i⟩=>aI (U:=Nat×Int×Int×Int×Qe) (if 0≤a then(if a<(List.length b:Int) then(some (.brk (c,a,d,e,f,g,h,List.set (List.set b c ((List.getD b c (Ty.aC aS)).1,(List.getD b c (Ty.aC aS)).2.1,(List.getD b c (Ty.aC aS)).2.2.1,(nth aS b a).2.2.2.1,(List.getD b c (Ty.aC aS)).2.2.2.2)) c ((List.getD (List.set b c ((List.getD b c (Ty.aC aS)).1,(List.getD b c (Ty.aC aS)).2.1,(List.getD b c (Ty.aC aS)).2.2.1,(nth aS b a).2.2.2.1,(List.getD b c (Ty.aC aS)).2.2.2.2)) c (Ty.aC aS)).1,(List.getD (List.set b c ((List.getD b c (Ty.aC aS)).1,(List.getD b c (Ty.aC aS)).2.1,(List.getD b c (Ty.aC aS)).2.2.1,(nth aS b a).2.2.2.1,(List.getD b c (Ty.aC aS)).2.2.2.2)) c (Ty.aC aS)).2.1,(List.getD (List.set b c ((List.getD b c (Ty.aC aS)).1,(List.getD b c (Ty.aC aS)).2.1,(List.getD b c (Ty.aC aS)).2.2.1,(nth aS b a).2.2.2.1,(List.getD b c (Ty.aC aS)).2.2.2.2)) c (Ty.aC aS)).2.2.1,(List.getD (List.set b c ((List.getD b c (Ty.aC aS)).1,(List.getD b c (Ty.aC aS)).2.1,(List.getD b c (Ty.aC aS)).2.2.1,(nth aS b a).2.2.2.1,(List.getD b c (Ty.aC aS)).2.2.2.2)) c (Ty.aC aS)).2.2.2.1,0,(List.getD (List.set b c ((List.getD b c (Ty.aC aS)).1,(List.getD b c (Ty.aC aS)).2.1,(List.getD b c (Ty.aC aS)).2.2.1,(nth aS b a).2.2.2.1,(List.getD b c (Ty.aC aS)).2.2.2.2)) c (Ty.aC aS)).2.2.2.2.2),i))) else none) else none) fun⟨k,l,m,n,o,p,q,j,r⟩=>Option.bind (α:=Bool) (if(decide ((2:Int)≤(List.getD j k (Ty.aC aS)).2.2.1))=true then(if(decide ((List.getD j k (Ty.aC aS)).2.2.1≤(1000:Int)))=true then(if 0≤l then(if l<(List.length j:Int) then(some (decide ((bB ((List.getD j k (Ty.aC aS)).2.2.1*(nth aS j l).2.2.2.2.1))≤(1099511627776:Int)))) else none) else none) else(some false)) else(some false)) fun v7=>if v7=true then(if 0≤l then(if l<(List.length j:Int) then(ahA (m,bB (n+1),o,p,q,List.set j k ((List.getD j k (Ty.aC aS)).1,(List.getD j k (Ty.aC aS)).2.1,(List.getD j k (Ty.aC aS)).2.2.1,(List.getD j k (Ty.aC aS)).2.2.2.1,bB ((List.getD j k (Ty.aC aS)).2.2.1*(nth aS j l).2.2.2.2.1),(List.getD j k (Ty.aC aS)).2.2.2.2.2),r)) else none) else none) else(ahA (m,bB (n+1),o,p,q,j,r)))) else none) else none) else(some (.brk (v,w,x,u,y)))
def Ag(a0:Za)(a1:Za)(a2:Za)(a3:Zq)(a4:Zt):Option (Sum ZT Qe):=
 aI (U:=Qe) (xV (Int.toNat (List.length a3:Int)+1) ((List.length a3:Int),0,a0,a1,a2,a3,a4)) fun⟨a,b,c,d,e⟩=>some (.inr (a,b,c,d,e))
def U1:SS:=⟨91,131,[tP 0 0,(1,.own 1),(5,.ptr 1 [.idx]),tI 6,tI 8,tI 9],[(0,rB 2),(1,.row 135 56 aS),(2,.row 207 8 (.map .str (.int .i64)))],[]⟩
def U2:SS:=⟨91,131,[],[(0,rB 2),(1,.row 135 56 aS),(2,.row 207 8 (.map .str (.int .i64)))],[]⟩
def aeJ:SS:=⟨91,131,[tP 0 0,(1,.own 1),tI 8,tI 9],[(0,rB 2),(1,.row 135 56 aS),(2,.row 207 8 (.map .str (.int .i64)))],[]⟩
def KK:aX:=aE G [] 98 [pP 0,.own 1] [(0,rB 2),(1,.row 135 56 aS),(2,.row 207 8 (.map .str (.int .i64)))] 131 U2 [0,1,2] (.j4 (.iface 196 (.val .unit)) (u5 Ag))
theorem SF:hS KK:=
 aX.B1 tied (H:=⟨[hA 6 0,hD 10 76 []],[(9,U1),(10,U1)],[(0,U2)],[(1,⟨aeJ,fun u2=>Int.toNat u2.1+1⟩)],[],[]⟩) (hold (l:=[wO]) ⟨Af,trivial⟩) aH rfl Tryz.call98 Tryz.func98 rfl rfl rfl rfl (fun _=>by kernel_rfl) (fun _=>by kernel_rfl)
def Ah(a0:ZA):Option ZA:=
 if(List.length ([]:ZA)+List.length a0)*120≤aG then some a0 else none
def aeK:SS:=⟨8,48,[(2,.own 23)],[(23,.row 230 120 bO)],[]⟩
def Gv:aX:=aE G [.tmp 2] 195 [.val (.slice 120 bO)] [] 48 aeK [23] (.bC (u1 Ah))
theorem O9:hS Gv:=
 aX.kK tied (H:=⟨[],[],[],[],[],[]⟩) (hold (l:=[]) trivial) rfl (.tmp 0) 3 4 138 138 230 120 bO (fun d=>d.1) (fun d=>⟨(.val (.slice 120 bO) d.1)::.bot::.aF::List.replicate 5 .bot,List.replicate 48 none,[]⟩) Tryz.call195 Tryz.func195 rfl rfl rfl rfl rfl rfl rfl rfl rfl rfl (by kernel_rfl) (fun _=>by kernel_rfl) (fun _=>by kernel_rfl) (fun _=>rfl) (fun _=>by kernel_rfl) (fun _ _=>by kernel_rfl) (fun d h=>by obtain⟨x,y⟩:=d;cases(h:x= []);kernel_rfl) (fun _=>by kernel_rfl)
def Ai(a0:CA):Option CA:=
 if(List.length ([]:CA)+List.length a0)*72≤aG then some a0 else none
def aeL:SS:=⟨8,48,[(2,.own 23)],[(23,.row 235 72 eP)],[]⟩
def Gw:aX:=aE G [.tmp 2] 196 [.val (.slice 72 eP)] [] 48 aeL [23] (.bC (u1 Ai))
theorem Pa:hS Gw:=
 aX.kK tied (H:=⟨[],[],[],[],[],[]⟩) (hold (l:=[]) trivial) rfl (.tmp 0) 3 4 139 139 235 72 eP (fun d=>d.1) (fun d=>⟨(.val (.slice 72 eP) d.1)::.bot::.aF::List.replicate 5 .bot,List.replicate 48 none,[]⟩) Tryz.call196 Tryz.func196 rfl rfl rfl rfl rfl rfl rfl rfl rfl rfl (by kernel_rfl) (fun _=>by kernel_rfl) (fun _=>by kernel_rfl) (fun _=>rfl) (fun _=>by kernel_rfl) (fun _ _=>by kernel_rfl) (fun d h=>by obtain⟨x,y⟩:=d;cases(h:x= []);kernel_rfl) (fun _=>by kernel_rfl)
def xW:Nat→Za×Int×Int×ZX→Option (cV (Za×ZX) (Sum ZT ZF)):=aM fun rec5 ⟨t,r,q,u,v,w,x,y,z,aa,ab,ac,ad,ae,s⟩=>if(decide (q<r))=true then(if 0≤q then(if q<(List.length s:Int) then(aI (U:=Za×Nat×Int×Int×ZX) (some (.brk (t,Int.toNat q,r,q,u,v,w,x,y,z,aa,ab,ac,ad,ae,List.set s (Int.toNat q) ((nth bO s q).1,((nth bO s q).2.1.1,(nth bO s q).2.1.2.1,(nth bO s q).2.1.2.2.1,(nth bO s q).2.1.2.2.2.1,(-1:Int),(nth bO s q).2.1.2.2.2.2.2),(nth bO s q).2.2)))) fun⟨d,b,e,f,g,c,h,i,j,k,l,m,n,o,p,a⟩=>Option.bind (α:=Bool) (if(decide ((List.getD a b (Ty.aC bO)).2.1.1=(1:Int)))=true then(some (!decide ((List.getD a b (Ty.aC bO)).2.1.2.2.2.1= []))) else(some false)) fun v7=>if v7=true then(dV (f194 c (List.getD a b (Ty.aC bO)).2.1.2.2.2.1) (fun p9=>cw (some (.inl (p9.1,())))) fun y8=>rec5 (d,e,bB (f+1),g,c,h,i,j,k,l,m,n,o,p,List.set a b ((List.getD a b (Ty.aC bO)).1,((List.getD a b (Ty.aC bO)).2.1.1,(List.getD a b (Ty.aC bO)).2.1.2.1,(List.getD a b (Ty.aC bO)).2.1.2.2.1,(List.getD a b (Ty.aC bO)).2.1.2.2.2.1,y8,(List.getD a b (Ty.aC bO)).2.1.2.2.2.2.2),(List.getD a b (Ty.aC bO)).2.2))) else(rec5 (d,e,bB (f+1),g,c,h,i,j,k,l,m,n,o,p,a))) else none) else none) else(some (.brk (t,u,v,w,x,y,z,aa,ab,ac,ad,ae,s)))
def wj:Nat→Za×Int×Int×Zn×ZH→Option (cV (Za×ZH) (cV (Za×ZH) (cV ZF (Sum ZT ZF)))):=aM fun rec17 ⟨d,f,g,c,b,a,h,i,j,k,l,m,n,o,p,q,r,s,t,u,v,w,x,e⟩=>if(decide (a<b))=true then(if 0≤a then(if a<(List.length c:Int) then(dV (f194 d (nth .str c a)) (fun p19=>cw (cw (cw (some (.inl (p19.1,())))))) fun y18=>if(List.length e+List.length [y18])*8≤aG then(rec17 (d,f,g,c,b,bB (a+1),h,i,j,k,l,m,n,o,p,q,r,s,t,u,v,w,x,e++[y18])) else none) else none) else none) else(some (.brk (d,f,g,h,i,j,k,l,m,n,o,p,q,r,s,t,u,v,w,x,e)))
def wm:Nat→Za×Int×Int×ZF→Option (cV ZF (Sum ZT ZF)):=aM fun rec13 ⟨av,ar,aq,aw,ax,ay,az,a0,a1,a2,a3,a4,a5,a6,a7,au⟩=>if(decide (aq<ar))=true then(aI (U:=Za×ZH) (if 0≤aq then(if aq<(List.length au:Int) then(aI (U:=Za×ZH) (wj (Int.toNat (List.length (nth eP au aq).1:Int)+1) (av,ar,aq,(nth eP au aq).1,(List.length (nth eP au aq).1:Int),0,aw,ax,ay,az,a0,a1,a2,a3,a4,a5,a6,a7,au,Int.toNat aq,(nth eP au aq).1,(nth eP au aq).2.1,(nth eP au aq).2.2.2,([]:Zf))) fun⟨a,c,d,e,f,g,h,i,j,k,l,m,n,o,p,q,r,s,b,t,u⟩=>dV (f194 a b) (fun p21=>cw (cw (some (.inl (p21.1,()))))) fun y20=>some (.brk (a,c,d,e,f,g,h,i,j,k,l,m,n,o,p,q,r,s,b,(y20,t.2),u))) else none) else none) fun⟨v,w,x,y,z,aa,ab,ac,ad,ae,af,ag,ah,ai,aj,ak,al,am,an,ap,ao⟩=>rec13 (v,w,bB (x+1),y,z,aa,ab,ac,ad,ae,af,ag,ah,ai,aj,List.set ak al (am,an,ao,ap))) else(some (.brk (aw,ax,ay,az,a0,a1,a2,a3,a4,a5,a6,a7,au)))
def Aj(a0:Za)(a1:Za)(a2:Za)(a3:Za)(a4:Zj)(a5:Nat)(a6:lu)(a7:Zt):Option (Sum ZT ZF):=
 dV (f194 a1 a6.2.1) (fun p22=>some (.inl (p22.1,()))) fun y1=>Option.bind (Ah a6.2.2.2.2.1) fun y2=>aI (U:=Za×ZX) (xW (Int.toNat (List.length y2:Int)+1) (a0,(List.length y2:Int),0,a1,a2,a3,a4,a5,a6.1,a6.2.1,y1,a6.2.2.2.1,a6.2.2.2.2.2,a7,y2)) fun⟨b,c,d,e,f,g,h,i,j,k,a,l,m⟩=>Option.bind (Ai a.1) fun y10=>aI (U:=ZF) (wm (Int.toNat (List.length y10:Int)+1) (b,(List.length y10:Int),0,c,d,e,f,g,h,i,j,k,a.2,l,m,y10)) fun⟨n,o,p,q,r,s,t,u,v,w,x,y,z⟩=>some (.inr (n,o,p,q,r,s,t,u,v,w,x,y,z))
def aeM:SS:=⟨132,172,[tP 0 0,(1,.ptr 1 [.cF 1]),(2,vM),(7,.ptr 45 [.idx,.cF 1]),tI 36,tI 37],[(0,rB 2),(1,.bW 141 96 aU (.cons (.val .str) (.cons (.val .str) (.cons vI (.cons vI (.cons (.own 45) (.val (.pair (.slice 72 eP) .unit)))))))),(2,.row 207 8 (.map .str (.int .i64))),(45,.row 230 120 bO)],[]⟩
def aeN:SS:=⟨132,172,[(1,.ptr 1 [.cF 1]),(2,vM)],[(0,rB 2),(1,.bW 141 96 aU (.cons (.val .str) (.cons (.val .str) (.cons vI (.cons vI (.cons (.own 45) (.val (.pair (.slice 72 eP) .unit)))))))),(2,.row 207 8 (.map .str (.int .i64))),(45,.row 230 120 bO)],[]⟩
def aeO:SS:=⟨132,172,[(1,.ptr 1 [.cF 1]),(2,vM),(9,.ptr 96 [.cF 1]),tI 87,tI 88],[(0,rB 2),(1,.bW 141 96 aU (.cons (.val .str) (.cons (.val .str) (.cons vI (.cons vI (.cons (.own 45) (.cons (.own 96) (.val .unit)))))))),(2,.row 207 8 (.map .str (.int .i64))),(45,.row 230 120 bO),(96,.bW 235 72 eP (.cons (.val (.slice 16 .str)) (.cons (.val .str) (.cons (.own 149) (.val (.pair (.int .i64) .unit)))))),(149,.row 3 8 (.int .i64))],[]⟩
def aeP:SS:=⟨132,172,[(1,.ptr 1 [.cF 1]),(2,vM),tI 87,tI 88],[(0,rB 2),(1,.bW 141 96 aU (.cons (.val .str) (.cons (.val .str) (.cons vI (.cons vI (.cons (.own 45) (.cons (.own 96) (.val .unit)))))))),(2,.row 207 8 (.map .str (.int .i64))),(45,.row 230 120 bO),(96,.bW 235 72 eP (.cons (.val (.slice 16 .str)) (.cons (.val .str) (.cons (.own 149) (.val (.pair (.int .i64) .unit)))))),(149,.row 3 8 (.int .i64))],[]⟩
def U3:SS:=⟨132,172,[],[(0,rB 2),(1,.bW 141 96 aU (.cons (.val .str) (.cons (.val .str) (.cons vI (.cons vI (.cons (.own 45) (.cons (.own 96) (.val .unit)))))))),(2,.row 207 8 (.map .str (.int .i64))),(45,.row 230 120 bO),(96,.row 235 72 eP)],[]⟩
def aeQ:SS:=⟨132,172,[tP 0 0,(1,.ptr 1 [.cF 1]),(2,vM),tI 36,tI 37],[(0,rB 2),(1,.bW 141 96 aU (.cons (.val .str) (.cons (.val .str) (.cons vI (.cons vI (.cons (.own 45) (.val (.pair (.slice 72 eP) .unit)))))))),(2,.row 207 8 (.map .str (.int .i64))),(45,.row 230 120 bO)],[]⟩
def aeR:SS:=⟨132,172,[(1,.ptr 1 [.cF 1]),(2,vM),tI 87,tI 88],[(0,rB 2),(1,.bW 141 96 aU (.cons (.val .str) (.cons (.val .str) (.cons vI (.cons vI (.cons (.own 45) (.cons (.own 96) (.val .unit)))))))),(2,.row 207 8 (.map .str (.int .i64))),(45,.row 230 120 bO),(96,.row 235 72 eP)],[]⟩
def aeS:SS:=⟨132,172,[(1,.ptr 1 [.cF 1]),(2,vM),(9,.ptr 96 [.cF 1]),tI 87,tI 88,(103,.val (.slice 16 .str)),tI 104,tI 105],[(0,rB 2),(1,.bW 141 96 aU (.cons (.val .str) (.cons (.val .str) (.cons vI (.cons vI (.cons (.own 45) (.cons (.own 96) (.val .unit)))))))),(2,.row 207 8 (.map .str (.int .i64))),(45,.row 230 120 bO),(96,.bW 235 72 eP (.cons (.val (.slice 16 .str)) (.cons (.val .str) (.cons (.own 148) (.val (.pair (.int .i64) .unit)))))),(148,.row 3 8 (.int .i64))],[]⟩
def KL:aX:=aE G [] 99 [pP 0,.ptr 1 [.cF 1],vM] [(0,rB 2),(1,.bW 141 96 aU (.val aU)),(2,.row 207 8 (.map .str (.int .i64)))] 172 U3 [0,1,2,45,96] (.j4 (.iface 196 (.val .unit)) (u8 Aj))
theorem SG:hS KL:=
 aX.B1 tied (H:=⟨[hA 0 0,hE 1 [cB 1 [] [(23,45)]],hD 7 61 [],hA 8 0,hE 10 [cB 2 [] [(23,96)]],(15,⟨[],[],[],none,[(96,9)],[],[]⟩),hA 19 0,hA 21 0,(22,⟨[.freeze 149 (.slice 8 (.int .i64)),.kH 96],[],[],none,[],[],[]⟩)],[(7,aeM),(10,aeN),(21,aeO),(22,aeP)],[(2,U3)],[(3,⟨aeQ,fun u4=>Int.toNat u4.2.1+1⟩),(12,⟨aeR,fun Qd=>Int.toNat Qd.2.1+1⟩),(17,⟨aeS,fun u16=>Int.toNat u16.2.2.2.2.1+1⟩)],[],[]⟩) (hold (l:=[wO,Gv,Gw]) ⟨Af,O9,Pa,trivial⟩) aH rfl Tryz.call99 Tryz.func99 rfl rfl rfl rfl (fun _=>by kernel_rfl) (fun _=>by kernel_rfl)
def nS(_q0:Unit):ZU:=
 some (110:Int)
def U4:SS:=⟨17,57,[],[(0,.var fW (.cons .aF (.cons .aF (.cons .aF (.cons .aF (.cons .aF (.cons .aF .nil))))))),(1,bI)],[]⟩
def Gx:eU:=⟨91,[.ptr 0 [],.ptr 1 []],[(0,.var fW (.dU fW)),(1,.var (.int .i64) (.dU (.int .i64)))],57,.iface 196 (.val .unit),U4,fun r=>pick [0,1] (SS.st U4 y0 r).hp,fun _=>none,fun _ q=>nS q.1⟩
theorem Pb:Gx.holds Tryz.prog gl:=
 eU.B1 tied (H:=⟨[],[],[],[],[],[]⟩) (hold (l:=[]) trivial) rfl Tryz.call91 Tryz.func91 rfl rfl rfl rfl rfl rfl rfl rfl rfl rfl rfl rfl (fun _=>by kernel_rfl) (fun _ _=>by kernel_rfl)
def Ak(a0:Zw):Option Zw:=
 if(List.length ([]:Zw)+List.length a0)*96≤aG then some a0 else none
def aeT:SS:=⟨8,48,[(2,.own 23)],[(23,.row 113 96 aL)],[]⟩
def Gy:aX:=aE G [.tmp 2] 197 [.val (.slice 96 aL)] [] 48 aeT [23] (.bC (u1 Ak))
theorem Pc:hS Gy:=
 aX.kK tied (H:=⟨[],[],[],[],[],[]⟩) (hold (l:=[]) trivial) rfl (.tmp 0) 3 4 65 65 113 96 aL (fun d=>d.1) (fun d=>⟨(.val (.slice 96 aL) d.1)::.bot::.aF::List.replicate 5 .bot,List.replicate 48 none,[]⟩) Tryz.call197 Tryz.func197 rfl rfl rfl rfl rfl rfl rfl rfl rfl rfl (by kernel_rfl) (fun _=>by kernel_rfl) (fun _=>by kernel_rfl) (fun _=>rfl) (fun _=>by kernel_rfl) (fun _ _=>by kernel_rfl) (fun d h=>by obtain⟨x,y⟩:=d;cases(h:x= []);kernel_rfl) (fun _=>by kernel_rfl)
def tQ(a0:Nat)(a1:Zw)(a2:Zp)(a3:Za)(a4:Za)(a5:Za)(a6:Zi)(a7:Nat)(a8:Zd)(a9:Int)(a10:Zz×ZB×Unit)(a11:Zt):Option (Sum ZT Vx):=
 aI (U:=Nat×Vx) (some (.brk (a0,List.set (List.set a1 a0 ((List.getD a1 a0 (Ty.aC aL)).1,(List.getD a1 a0 (Ty.aC aL)).2.1,(List.getD a1 a0 (Ty.aC aL)).2.2.1,((List.getD a1 a0 (Ty.aC aL)).2.2.2.1.1,(List.getD a1 a0 (Ty.aC aL)).2.2.2.1.2.1,(-1:Int),(List.getD a1 a0 (Ty.aC aL)).2.2.2.1.2.2.2),(List.getD a1 a0 (Ty.aC aL)).2.2.2.2)) a0 ((List.getD (List.set a1 a0 ((List.getD a1 a0 (Ty.aC aL)).1,(List.getD a1 a0 (Ty.aC aL)).2.1,(List.getD a1 a0 (Ty.aC aL)).2.2.1,((List.getD a1 a0 (Ty.aC aL)).2.2.2.1.1,(List.getD a1 a0 (Ty.aC aL)).2.2.2.1.2.1,(-1:Int),(List.getD a1 a0 (Ty.aC aL)).2.2.2.1.2.2.2),(List.getD a1 a0 (Ty.aC aL)).2.2.2.2)) a0 (Ty.aC aL)).1,(List.getD (List.set a1 a0 ((List.getD a1 a0 (Ty.aC aL)).1,(List.getD a1 a0 (Ty.aC aL)).2.1,(List.getD a1 a0 (Ty.aC aL)).2.2.1,((List.getD a1 a0 (Ty.aC aL)).2.2.2.1.1,(List.getD a1 a0 (Ty.aC aL)).2.2.2.1.2.1,(-1:Int),(List.getD a1 a0 (Ty.aC aL)).2.2.2.1.2.2.2),(List.getD a1 a0 (Ty.aC aL)).2.2.2.2)) a0 (Ty.aC aL)).2.1,(List.getD (List.set a1 a0 ((List.getD a1 a0 (Ty.aC aL)).1,(List.getD a1 a0 (Ty.aC aL)).2.1,(List.getD a1 a0 (Ty.aC aL)).2.2.1,((List.getD a1 a0 (Ty.aC aL)).2.2.2.1.1,(List.getD a1 a0 (Ty.aC aL)).2.2.2.1.2.1,(-1:Int),(List.getD a1 a0 (Ty.aC aL)).2.2.2.1.2.2.2),(List.getD a1 a0 (Ty.aC aL)).2.2.2.2)) a0 (Ty.aC aL)).2.2.1,((List.getD (List.set a1 a0 ((List.getD a1 a0 (Ty.aC aL)).1,(List.getD a1 a0 (Ty.aC aL)).2.1,(List.getD a1 a0 (Ty.aC aL)).2.2.1,((List.getD a1 a0 (Ty.aC aL)).2.2.2.1.1,(List.getD a1 a0 (Ty.aC aL)).2.2.2.1.2.1,(-1:Int),(List.getD a1 a0 (Ty.aC aL)).2.2.2.1.2.2.2),(List.getD a1 a0 (Ty.aC aL)).2.2.2.2)) a0 (Ty.aC aL)).2.2.2.1.1,(List.getD (List.set a1 a0 ((List.getD a1 a0 (Ty.aC aL)).1,(List.getD a1 a0 (Ty.aC aL)).2.1,(List.getD a1 a0 (Ty.aC aL)).2.2.1,((List.getD a1 a0 (Ty.aC aL)).2.2.2.1.1,(List.getD a1 a0 (Ty.aC aL)).2.2.2.1.2.1,(-1:Int),(List.getD a1 a0 (Ty.aC aL)).2.2.2.1.2.2.2),(List.getD a1 a0 (Ty.aC aL)).2.2.2.2)) a0 (Ty.aC aL)).2.2.2.1.2.1,(List.getD (List.set a1 a0 ((List.getD a1 a0 (Ty.aC aL)).1,(List.getD a1 a0 (Ty.aC aL)).2.1,(List.getD a1 a0 (Ty.aC aL)).2.2.1,((List.getD a1 a0 (Ty.aC aL)).2.2.2.1.1,(List.getD a1 a0 (Ty.aC aL)).2.2.2.1.2.1,(-1:Int),(List.getD a1 a0 (Ty.aC aL)).2.2.2.1.2.2.2),(List.getD a1 a0 (Ty.aC aL)).2.2.2.2)) a0 (Ty.aC aL)).2.2.2.1.2.2.1,0,(List.getD (List.set a1 a0 ((List.getD a1 a0 (Ty.aC aL)).1,(List.getD a1 a0 (Ty.aC aL)).2.1,(List.getD a1 a0 (Ty.aC aL)).2.2.1,((List.getD a1 a0 (Ty.aC aL)).2.2.2.1.1,(List.getD a1 a0 (Ty.aC aL)).2.2.2.1.2.1,(-1:Int),(List.getD a1 a0 (Ty.aC aL)).2.2.2.1.2.2.2),(List.getD a1 a0 (Ty.aC aL)).2.2.2.2)) a0 (Ty.aC aL)).2.2.2.1.2.2.2.2),(List.getD (List.set a1 a0 ((List.getD a1 a0 (Ty.aC aL)).1,(List.getD a1 a0 (Ty.aC aL)).2.1,(List.getD a1 a0 (Ty.aC aL)).2.2.1,((List.getD a1 a0 (Ty.aC aL)).2.2.2.1.1,(List.getD a1 a0 (Ty.aC aL)).2.2.2.1.2.1,(-1:Int),(List.getD a1 a0 (Ty.aC aL)).2.2.2.1.2.2.2),(List.getD a1 a0 (Ty.aC aL)).2.2.2.2)) a0 (Ty.aC aL)).2.2.2.2),a2,a3,a4,a5,a6,a7,a8,a9,a10,a11))) fun⟨b,a,c,d,e,f,g,h,i,j,k,l⟩=>if(!decide ((List.getD a b (Ty.aC aL)).2.2.2.1.1= []))=true then(aI (U:=Nat×Vx) (dV (f194 (some c) (List.getD a b (Ty.aC aL)).2.2.2.1.1) (fun p4=>cw (some (.inl (p4.1,())))) fun y3=>some (.brk (b,List.set a b ((List.getD a b (Ty.aC aL)).1,(List.getD a b (Ty.aC aL)).2.1,(List.getD a b (Ty.aC aL)).2.2.1,((List.getD a b (Ty.aC aL)).2.2.2.1.1,(List.getD a b (Ty.aC aL)).2.2.2.1.2.1,y3,(List.getD a b (Ty.aC aL)).2.2.2.1.2.2.2),(List.getD a b (Ty.aC aL)).2.2.2.2),c,d,e,f,g,h,i,j,k,l))) fun⟨n,m,p,q,r,s,t,u,v,w,x,o⟩=>if 0≤(List.getD m n (Ty.aC aL)).2.2.2.1.2.2.1 then(if(List.getD m n (Ty.aC aL)).2.2.2.1.2.2.1<(List.length m:Int) then(if 0≤(nth aL m (List.getD m n (Ty.aC aL)).2.2.2.1.2.2.1).2.2.1 then(if(nth aL m (List.getD m n (Ty.aC aL)).2.2.2.1.2.2.1).2.2.1<(List.length o:Int) then(dV (f194 (nth (.map .str (.int .i64)) o (nth aL m (List.getD m n (Ty.aC aL)).2.2.2.1.2.2.1).2.2.1) (List.getD m n (Ty.aC aL)).2.2.2.1.2.1) (fun p6=>some (.inl (p6.1,()))) fun y5=>some (.inr (List.set m n ((List.getD m n (Ty.aC aL)).1,(List.getD m n (Ty.aC aL)).2.1,(List.getD m n (Ty.aC aL)).2.2.1,((List.getD m n (Ty.aC aL)).2.2.2.1.1,(List.getD m n (Ty.aC aL)).2.2.2.1.2.1,(List.getD m n (Ty.aC aL)).2.2.2.1.2.2.1,y5,(List.getD m n (Ty.aC aL)).2.2.2.1.2.2.2.2),(List.getD m n (Ty.aC aL)).2.2.2.2),p,q,r,s,t,u,v,w,x,o))) else none) else none) else none) else none) else(some (.inr (a,c,d,e,f,g,h,i,j,k,l)))
def aeU:SS:=⟨50,90,[(0,.ptr 0 [.idx,.cF 3]),tP 1 1,tP 2 2,tP 3 3],[(0,.row 113 96 aL),(1,.var (.map .str (.int .i64)) (.mp 4)),(2,.var (.aP .ptr) (pP 5)),(3,.var (.aP .ptr) (.ptr 6 [.cF 1])),(4,.map .str (.int .i64)),(5,rB 7),(6,.bW 69 96 bQ (.cons (.val .str) (.cons vI (.cons (.own 0) (.val (.pair (.slice 120 aQ) (.pair (.slice 80 aZ) .unit))))))),(7,.row 207 8 (.map .str (.int .i64)))],[]⟩
def aeV:SS:=⟨50,90,[(0,.ptr 0 [.idx,.cF 3]),tP 2 2,tP 3 3],[(0,.row 113 96 aL),(1,.var (.map .str (.int .i64)) (.mp 4)),(2,.var (.aP .ptr) (pP 5)),(3,.var (.aP .ptr) (.ptr 6 [.cF 1])),(4,.map .str (.int .i64)),(5,rB 7),(6,.bW 69 96 bQ (.cons (.val .str) (.cons vI (.cons (.own 0) (.val (.pair (.slice 120 aQ) (.pair (.slice 80 aZ) .unit))))))),(7,.row 207 8 (.map .str (.int .i64)))],[]⟩
def aeW:SS:=⟨50,90,[],[(0,.row 113 96 aL),(1,.var (.map .str (.int .i64)) (.mp 4)),(2,.var (.aP .ptr) (pP 5)),(3,.var (.aP .ptr) (.ptr 6 [.cF 1])),(4,.map .str (.int .i64)),(5,rB 7),(6,.bW 69 96 bQ (.cons (.val .str) (.cons vI (.cons (.own 0) (.val (.pair (.slice 120 aQ) (.pair (.slice 80 aZ) .unit))))))),(7,.row 207 8 (.map .str (.int .i64)))],[]⟩
def Gz:aX:=aE G [] 198 [.ptr 0 [.idx,.cF 3],pP 1,pP 2,pP 3] [(0,.row 113 96 aL),(1,.var (.map .str (.int .i64)) (.mp 4)),(2,.var (.aP .ptr) (pP 5)),(3,.var (.aP .ptr) (.ptr 6 [.cF 1])),(4,.map .str (.int .i64)),(5,rB 7),(6,.bW 69 96 bQ (.cons (.val .str) (.cons vI (.cons (.own 0) (.val (.pair (.slice 120 aQ) (.pair (.slice 80 aZ) .unit))))))),(7,.row 207 8 (.map .str (.int .i64)))] 90 aeW [0,1,2,3,4,5,6,7] (.j4 (.iface 196 (.val .unit)) (Qd tQ))
theorem Pd:hS Gz:=
 aX.B1 tied (H:=⟨[hA 2 0,hA 3 0],[(1,aeU),(3,aeV)],[],[],[],[]⟩) (hold (l:=[wO]) ⟨Af,trivial⟩) aH rfl Tryz.call198 Tryz.func198 rfl rfl rfl rfl (fun _=>by kernel_rfl) (fun _=>by kernel_rfl)
def Al(a0:Zz):Option Zz:=
 if(List.length ([]:Zz)+List.length a0)*120≤aG then some a0 else none
def aeX:SS:=⟨8,48,[(2,.own 23)],[(23,.row 218 120 aQ)],[]⟩
def GA:aX:=aE G [.tmp 2] 199 [.val (.slice 120 aQ)] [] 48 aeX [23] (.bC (u1 Al))
theorem Pe:hS GA:=
 aX.kK tied (H:=⟨[],[],[],[],[],[]⟩) (hold (l:=[]) trivial) rfl (.tmp 0) 3 4 66 66 218 120 aQ (fun d=>d.1) (fun d=>⟨(.val (.slice 120 aQ) d.1)::.bot::.aF::List.replicate 5 .bot,List.replicate 48 none,[]⟩) Tryz.call199 Tryz.func199 rfl rfl rfl rfl rfl rfl rfl rfl rfl rfl (by kernel_rfl) (fun _=>by kernel_rfl) (fun _=>by kernel_rfl) (fun _=>rfl) (fun _=>by kernel_rfl) (fun _ _=>by kernel_rfl) (fun d h=>by obtain⟨x,y⟩:=d;cases(h:x= []);kernel_rfl) (fun _=>by kernel_rfl)
def tR(a0:Nat)(a1:Zz)(a2:Zp)(a3:Za)(a4:Za)(a5:Za)(a6:Zi)(a7:Nat)(a8:Zd)(a9:Int)(a10:ZB×Unit)(a11:Zt)(a12:Zw):Option (Sum ZT ZM):=
 aI (U:=Nat×ZM) (some (.brk (a0,List.set (List.set a1 a0 ((List.getD a1 a0 (Ty.aC aQ)).1,((List.getD a1 a0 (Ty.aC aQ)).2.1.1,(List.getD a1 a0 (Ty.aC aQ)).2.1.2.1,(-1:Int),(List.getD a1 a0 (Ty.aC aQ)).2.1.2.2.2),(List.getD a1 a0 (Ty.aC aQ)).2.2)) a0 ((List.getD (List.set a1 a0 ((List.getD a1 a0 (Ty.aC aQ)).1,((List.getD a1 a0 (Ty.aC aQ)).2.1.1,(List.getD a1 a0 (Ty.aC aQ)).2.1.2.1,(-1:Int),(List.getD a1 a0 (Ty.aC aQ)).2.1.2.2.2),(List.getD a1 a0 (Ty.aC aQ)).2.2)) a0 (Ty.aC aQ)).1,((List.getD (List.set a1 a0 ((List.getD a1 a0 (Ty.aC aQ)).1,((List.getD a1 a0 (Ty.aC aQ)).2.1.1,(List.getD a1 a0 (Ty.aC aQ)).2.1.2.1,(-1:Int),(List.getD a1 a0 (Ty.aC aQ)).2.1.2.2.2),(List.getD a1 a0 (Ty.aC aQ)).2.2)) a0 (Ty.aC aQ)).2.1.1,(List.getD (List.set a1 a0 ((List.getD a1 a0 (Ty.aC aQ)).1,((List.getD a1 a0 (Ty.aC aQ)).2.1.1,(List.getD a1 a0 (Ty.aC aQ)).2.1.2.1,(-1:Int),(List.getD a1 a0 (Ty.aC aQ)).2.1.2.2.2),(List.getD a1 a0 (Ty.aC aQ)).2.2)) a0 (Ty.aC aQ)).2.1.2.1,(List.getD (List.set a1 a0 ((List.getD a1 a0 (Ty.aC aQ)).1,((List.getD a1 a0 (Ty.aC aQ)).2.1.1,(List.getD a1 a0 (Ty.aC aQ)).2.1.2.1,(-1:Int),(List.getD a1 a0 (Ty.aC aQ)).2.1.2.2.2),(List.getD a1 a0 (Ty.aC aQ)).2.2)) a0 (Ty.aC aQ)).2.1.2.2.1,0,(List.getD (List.set a1 a0 ((List.getD a1 a0 (Ty.aC aQ)).1,((List.getD a1 a0 (Ty.aC aQ)).2.1.1,(List.getD a1 a0 (Ty.aC aQ)).2.1.2.1,(-1:Int),(List.getD a1 a0 (Ty.aC aQ)).2.1.2.2.2),(List.getD a1 a0 (Ty.aC aQ)).2.2)) a0 (Ty.aC aQ)).2.1.2.2.2.2),(List.getD (List.set a1 a0 ((List.getD a1 a0 (Ty.aC aQ)).1,((List.getD a1 a0 (Ty.aC aQ)).2.1.1,(List.getD a1 a0 (Ty.aC aQ)).2.1.2.1,(-1:Int),(List.getD a1 a0 (Ty.aC aQ)).2.1.2.2.2),(List.getD a1 a0 (Ty.aC aQ)).2.2)) a0 (Ty.aC aQ)).2.2),a2,a3,a4,a5,a6,a7,a8,a9,a10,a11,a12))) fun⟨b,a,c,d,e,f,g,h,i,j,k,l,m⟩=>if(!decide ((List.getD a b (Ty.aC aQ)).2.1.1= []))=true then(aI (U:=Nat×ZM) (dV (f194 (some c) (List.getD a b (Ty.aC aQ)).2.1.1) (fun p4=>cw (some (.inl (p4.1,())))) fun y3=>some (.brk (b,List.set a b ((List.getD a b (Ty.aC aQ)).1,((List.getD a b (Ty.aC aQ)).2.1.1,(List.getD a b (Ty.aC aQ)).2.1.2.1,y3,(List.getD a b (Ty.aC aQ)).2.1.2.2.2),(List.getD a b (Ty.aC aQ)).2.2),c,d,e,f,g,h,i,j,k,l,m))) fun⟨o,n,r,s,t,u,v,w,x,y,z,q,p⟩=>if 0≤(List.getD n o (Ty.aC aQ)).2.1.2.2.1 then(if(List.getD n o (Ty.aC aQ)).2.1.2.2.1<(List.length p:Int) then(if 0≤(nth aL p (List.getD n o (Ty.aC aQ)).2.1.2.2.1).2.2.1 then(if(nth aL p (List.getD n o (Ty.aC aQ)).2.1.2.2.1).2.2.1<(List.length q:Int) then(dV (f194 (nth (.map .str (.int .i64)) q (nth aL p (List.getD n o (Ty.aC aQ)).2.1.2.2.1).2.2.1) (List.getD n o (Ty.aC aQ)).2.1.2.1) (fun p6=>some (.inl (p6.1,()))) fun y5=>some (.inr (List.set n o ((List.getD n o (Ty.aC aQ)).1,((List.getD n o (Ty.aC aQ)).2.1.1,(List.getD n o (Ty.aC aQ)).2.1.2.1,(List.getD n o (Ty.aC aQ)).2.1.2.2.1,y5,(List.getD n o (Ty.aC aQ)).2.1.2.2.2.2),(List.getD n o (Ty.aC aQ)).2.2),r,s,t,u,v,w,x,y,z,q,p))) else none) else none) else none) else none) else(some (.inr (a,c,d,e,f,g,h,i,j,k,l,m)))
def aeY:SS:=⟨50,90,[(0,.ptr 0 [.idx,.cF 1]),tP 1 1,tP 2 2,tP 3 3],[(0,.row 218 120 aQ),(1,.var (.map .str (.int .i64)) (.mp 4)),(2,.var (.aP .ptr) (pP 5)),(3,.var (.aP .ptr) (.ptr 6 [.cF 1])),(4,.map .str (.int .i64)),(5,rB 7),(6,.bW 69 96 bQ (.cons (.val .str) (.cons vI (.cons (.own 8) (.cons (.own 0) (.val (.pair (.slice 80 aZ) .unit))))))),(7,.row 207 8 (.map .str (.int .i64))),(8,.row 113 96 aL)],[]⟩
def aeZ:SS:=⟨50,90,[(0,.ptr 0 [.idx,.cF 1]),tP 2 2,tP 3 3],[(0,.row 218 120 aQ),(1,.var (.map .str (.int .i64)) (.mp 4)),(2,.var (.aP .ptr) (pP 5)),(3,.var (.aP .ptr) (.ptr 6 [.cF 1])),(4,.map .str (.int .i64)),(5,rB 7),(6,.bW 69 96 bQ (.cons (.val .str) (.cons vI (.cons (.own 8) (.cons (.own 0) (.val (.pair (.slice 80 aZ) .unit))))))),(7,.row 207 8 (.map .str (.int .i64))),(8,.row 113 96 aL)],[]⟩
def U5:SS:=⟨50,90,[],[(0,.row 218 120 aQ),(1,.var (.map .str (.int .i64)) (.mp 4)),(2,.var (.aP .ptr) (pP 5)),(3,.var (.aP .ptr) (.ptr 6 [.cF 1])),(4,.map .str (.int .i64)),(5,rB 7),(6,.bW 69 96 bQ (.cons (.val .str) (.cons vI (.cons (.own 8) (.cons (.own 0) (.val (.pair (.slice 80 aZ) .unit))))))),(7,.row 207 8 (.map .str (.int .i64))),(8,.row 113 96 aL)],[]⟩
def GB:aX:=aE G [] 198 [.ptr 0 [.idx,.cF 1],pP 1,pP 2,pP 3] [(0,.row 218 120 aQ),(1,.var (.map .str (.int .i64)) (.mp 4)),(2,.var (.aP .ptr) (pP 5)),(3,.var (.aP .ptr) (.ptr 6 [.cF 1])),(4,.map .str (.int .i64)),(5,rB 7),(6,.bW 69 96 bQ (.cons (.val .str) (.cons vI (.cons (.own 8) (.cons (.own 0) (.val (.pair (.slice 80 aZ) .unit))))))),(7,.row 207 8 (.map .str (.int .i64))),(8,.row 113 96 aL)] 90 U5 [0,1,2,3,4,5,6,7,8] (.j4 (.iface 196 (.val .unit)) (KN tR))
theorem Pf:hS GB:=
 aX.B1 tied (H:=⟨[hA 2 0,hA 3 0],[(1,aeY),(3,aeZ)],[],[],[],[]⟩) (hold (l:=[wO]) ⟨Af,trivial⟩) aH rfl Tryz.call198 Tryz.func198 rfl rfl rfl rfl (fun _=>by kernel_rfl) (fun _=>by kernel_rfl)
end Go.Proofs.YtaghhonjcdokjaaGreatDoor
