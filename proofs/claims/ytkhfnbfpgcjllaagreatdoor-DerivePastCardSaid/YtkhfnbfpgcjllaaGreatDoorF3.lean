/- part -/
import Derived.Test.YtkhfnbfpgcjllaaGreatDoorF2
noncomputable section
namespace Go.Proofs.YtkhfnbfpgcjllaaGreatDoor
open Go.Ax
def Sd(a0:Zf):Option Zf:=
 some a0
def ahu:SS:=⟨4,44,[(2,.val .str)],[],[]⟩
def ahv:bG:=aG G [.tmp 2] 198 [.val .str] [] 44 ahu [] (.bY (u1 Sd))
theorem ahw:hS ahv:=
 cO (hR []) hz aJ Tryz.call198 Tryz.func198
def Ij:Nat→Bool×Zs×Int×Int×Zw→XP:=aL fun aoK ⟨e,c,b,a,d⟩=>if(decide (a<b))=true then(if 0≤a then(if a<(List.length c:Int) then(Option.bind (Sd (nth .str c a)) fun y4=>if(ek .str y4 d)=true then(aoK (true,c,b,aV (a+1),d)) else(Option.bind (Sd (nth .str c a)) fun y5=>if List.length d+1≤aF then(aoK (e,c,b,aV (a+1),bJ .str y5 a d)) else none)) else none) else none) else(some (.aX (e,d)))
def Dh(a0:Zs):Option (Za×Bool):=
 aI (U:=Bool×Zw) (Ij (Int.toNat (List.length a0:Int)+1) (false,a0,(List.length a0:Int),0,([]:Zw))) fun⟨b,a⟩=>some (some a,b)
def ahx:SS:=⟨37,77,[(4,.mp 28),(5,vB)],[(28,.map .str (.int .i64))],[]⟩
def ahy:SS:=⟨37,77,[(1,.func 198 .nil .nil),(4,.mp 28),(5,vB),(13,.val (.slice 16 .str)),tI 14,tI 15],[(28,.map .str (.int .i64))],[]⟩
def ahz:SS:=⟨37,77,[(4,vM),(5,vB)],[],[]⟩
def Se:bG:=aG G [.tmp 4,.tmp 5] 197 [.val (.slice 16 .str),.func 198 .nil .nil] [] 77 ahz [] (.bY (u1 Dh))
theorem Sf:hS Se:=
 cO ⟨[hA 5 0,hA 8 0],[(10,ahx)],[],[(3,⟨ahy,fun u2=>Int.toNat u2.2.2.1+1⟩)],[],[]⟩ (hq ahw hz) aJ Tryz.call197 Tryz.func197
def Sg(a0:gJ):Option Zf:=
 some a0.1
def ahA:SS:=⟨5,45,[(2,.val .str)],[],[]⟩
def ahB:bG:=aG G [.tmp 2] 200 [.val aZ] [] 45 ahA [] (.bY (u1 Sg))
theorem ahC:hS ahB:=
 cO (hR []) hz aJ Tryz.call200 Tryz.func200
def Ik:Nat→Bool×Zv×Int×Int×Zw→XP:=aL fun aoK ⟨e,c,b,a,d⟩=>if(decide (a<b))=true then(if 0≤a then(if a<(List.length c:Int) then(Option.bind (Sg (nth aZ c a)) fun y4=>if(ek .str y4 d)=true then(aoK (true,c,b,aV (a+1),d)) else(Option.bind (Sg (nth aZ c a)) fun y5=>if List.length d+1≤aF then(aoK (e,c,b,aV (a+1),bJ .str y5 a d)) else none)) else none) else none) else(some (.aX (e,d)))
def Di(a0:Zv):Option (Za×Bool):=
 aI (U:=Bool×Zw) (Ik (Int.toNat (List.length a0:Int)+1) (false,a0,(List.length a0:Int),0,([]:Zw))) fun⟨b,a⟩=>some (some a,b)
def ahD:SS:=⟨37,77,[(4,.mp 28),(5,vB)],[(28,.map .str (.int .i64))],[]⟩
def ahE:SS:=⟨37,77,[(1,.func 200 .nil .nil),(4,.mp 28),(5,vB),(13,.val (.slice 56 aZ)),tI 14,tI 15],[(28,.map .str (.int .i64))],[]⟩
def ahF:SS:=⟨37,77,[(4,vM),(5,vB)],[],[]⟩
def Si:bG:=aG G [.tmp 4,.tmp 5] 199 [.val (.slice 56 aZ),.func 200 .nil .nil] [] 77 ahF [] (.bY (u1 Di))
theorem Sj:hS Si:=
 cO ⟨[hA 5 0,hA 8 0],[(10,ahD)],[],[(3,⟨ahE,fun u2=>Int.toNat u2.2.2.1+1⟩)],[],[]⟩ (hq ahC hz) aJ Tryz.call199 Tryz.func199
def Sk(a0:pQ):Option Zf:=
 some a0.1
def ahG:SS:=⟨5,45,[(2,.val .str)],[],[]⟩
def ahH:bG:=aG G [.tmp 2] 202 [.val aR] [] 45 ahG [] (.bY (u1 Sk))
theorem ahI:hS ahH:=
 cO (hR []) hz aJ Tryz.call202 Tryz.func202
def Il:Nat→Bool×Zn×Int×Int×Zw→XP:=aL fun aoK ⟨e,c,b,a,d⟩=>if(decide (a<b))=true then(if 0≤a then(if a<(List.length c:Int) then(Option.bind (Sk (nth aR c a)) fun y4=>if(ek .str y4 d)=true then(aoK (true,c,b,aV (a+1),d)) else(Option.bind (Sk (nth aR c a)) fun y5=>if List.length d+1≤aF then(aoK (e,c,b,aV (a+1),bJ .str y5 a d)) else none)) else none) else none) else(some (.aX (e,d)))
def Dj(a0:Zn):Option (Za×Bool):=
 aI (U:=Bool×Zw) (Il (Int.toNat (List.length a0:Int)+1) (false,a0,(List.length a0:Int),0,([]:Zw))) fun⟨b,a⟩=>some (some a,b)
def ahJ:SS:=⟨37,77,[(4,.mp 28),(5,vB)],[(28,.map .str (.int .i64))],[]⟩
def ahK:SS:=⟨37,77,[(1,.func 202 .nil .nil),(4,.mp 28),(5,vB),(13,.val (.slice 96 aR)),tI 14,tI 15],[(28,.map .str (.int .i64))],[]⟩
def ahL:SS:=⟨37,77,[(4,vM),(5,vB)],[],[]⟩
def Sl:bG:=aG G [.tmp 4,.tmp 5] 201 [.val (.slice 96 aR),.func 202 .nil .nil] [] 77 ahL [] (.bY (u1 Dj))
theorem Sm:hS Sl:=
 cO ⟨[hA 5 0,hA 8 0],[(10,ahJ)],[],[(3,⟨ahK,fun u2=>Int.toNat u2.2.2.1+1⟩)],[],[]⟩ (hq ahI hz) aJ Tryz.call201 Tryz.func201
def Sn(a0:sY):Option Zf:=
 some a0.1
def ahM:SS:=⟨5,45,[(2,.val .str)],[],[]⟩
def ahN:bG:=aG G [.tmp 2] 204 [.val fj] [] 45 ahM [] (.bY (u1 Sn))
theorem ahO:hS ahN:=
 cO (hR []) hz aJ Tryz.call204 Tryz.func204
def Im:Nat→Bool×Zy×Int×Int×Zw→XP:=aL fun aoK ⟨e,c,b,a,d⟩=>if(decide (a<b))=true then(if 0≤a then(if a<(List.length c:Int) then(Option.bind (Sn (nth fj c a)) fun y4=>if(ek .str y4 d)=true then(aoK (true,c,b,aV (a+1),d)) else(Option.bind (Sn (nth fj c a)) fun y5=>if List.length d+1≤aF then(aoK (e,c,b,aV (a+1),bJ .str y5 a d)) else none)) else none) else none) else(some (.aX (e,d)))
def Dl(a0:Zy):Option (Za×Bool):=
 aI (U:=Bool×Zw) (Im (Int.toNat (List.length a0:Int)+1) (false,a0,(List.length a0:Int),0,([]:Zw))) fun⟨b,a⟩=>some (some a,b)
def ahP:SS:=⟨37,77,[(4,.mp 28),(5,vB)],[(28,.map .str (.int .i64))],[]⟩
def ahQ:SS:=⟨37,77,[(1,.func 204 .nil .nil),(4,.mp 28),(5,vB),(13,.val (.slice 48 fj)),tI 14,tI 15],[(28,.map .str (.int .i64))],[]⟩
def ahR:SS:=⟨37,77,[(4,vM),(5,vB)],[],[]⟩
def So:bG:=aG G [.tmp 4,.tmp 5] 203 [.val (.slice 48 fj),.func 204 .nil .nil] [] 77 ahR [] (.bY (u1 Dl))
theorem Sp:hS So:=
 cO ⟨[hA 5 0,hA 8 0],[(10,ahP)],[],[(3,⟨ahQ,fun u2=>Int.toNat u2.2.2.1+1⟩)],[],[]⟩ (hq ahO hz) aJ Tryz.call203 Tryz.func203
def Sq(a0:H9):Option Zf:=
 some a0.1
def ahS:SS:=⟨5,45,[(2,.val .str)],[],[]⟩
def ahT:bG:=aG G [.tmp 2] 206 [.val cM] [] 45 ahS [] (.bY (u1 Sq))
theorem ahU:hS ahT:=
 cO (hR []) hz aJ Tryz.call206 Tryz.func206
def Io:Nat→Bool×ZE×Int×Int×Zw→XP:=aL fun aoK ⟨e,c,b,a,d⟩=>if(decide (a<b))=true then(if 0≤a then(if a<(List.length c:Int) then(Option.bind (Sq (nth cM c a)) fun y4=>if(ek .str y4 d)=true then(aoK (true,c,b,aV (a+1),d)) else(Option.bind (Sq (nth cM c a)) fun y5=>if List.length d+1≤aF then(aoK (e,c,b,aV (a+1),bJ .str y5 a d)) else none)) else none) else none) else(some (.aX (e,d)))
def Dm(a0:ZE):Option (Za×Bool):=
 aI (U:=Bool×Zw) (Io (Int.toNat (List.length a0:Int)+1) (false,a0,(List.length a0:Int),0,([]:Zw))) fun⟨b,a⟩=>some (some a,b)
def ahV:SS:=⟨37,77,[(4,.mp 28),(5,vB)],[(28,.map .str (.int .i64))],[]⟩
def ahW:SS:=⟨37,77,[(1,.func 206 .nil .nil),(4,.mp 28),(5,vB),(13,.val (.slice 120 cM)),tI 14,tI 15],[(28,.map .str (.int .i64))],[]⟩
def ahX:SS:=⟨37,77,[(4,vM),(5,vB)],[],[]⟩
def Sr:bG:=aG G [.tmp 4,.tmp 5] 205 [.val (.slice 120 cM),.func 206 .nil .nil] [] 77 ahX [] (.bY (u1 Dm))
theorem Ss:hS Sr:=
 cO ⟨[hA 5 0,hA 8 0],[(10,ahV)],[],[(3,⟨ahW,fun u2=>Int.toNat u2.2.2.1+1⟩)],[],[]⟩ (hq ahU hz) aJ Tryz.call205 Tryz.func205
def Su(a0:Ia):Option Zf:=
 some a0.1
def ahY:SS:=⟨5,45,[(2,.val .str)],[],[]⟩
def ahZ:bG:=aG G [.tmp 2] 208 [.val bE] [] 45 ahY [] (.bY (u1 Su))
theorem ah0:hS ahZ:=
 cO (hR []) hz aJ Tryz.call208 Tryz.func208
def Ip:Nat→Bool×ZA×Int×Int×Zw→XP:=aL fun aoK ⟨e,c,b,a,d⟩=>if(decide (a<b))=true then(if 0≤a then(if a<(List.length c:Int) then(Option.bind (Su (nth bE c a)) fun y4=>if(ek .str y4 d)=true then(aoK (true,c,b,aV (a+1),d)) else(Option.bind (Su (nth bE c a)) fun y5=>if List.length d+1≤aF then(aoK (e,c,b,aV (a+1),bJ .str y5 a d)) else none)) else none) else none) else(some (.aX (e,d)))
def Dn(a0:ZA):Option (Za×Bool):=
 aI (U:=Bool×Zw) (Ip (Int.toNat (List.length a0:Int)+1) (false,a0,(List.length a0:Int),0,([]:Zw))) fun⟨b,a⟩=>some (some a,b)
def ah1:SS:=⟨37,77,[(4,.mp 28),(5,vB)],[(28,.map .str (.int .i64))],[]⟩
def ah2:SS:=⟨37,77,[(1,.func 208 .nil .nil),(4,.mp 28),(5,vB),(13,.val (.slice 96 bE)),tI 14,tI 15],[(28,.map .str (.int .i64))],[]⟩
def ah3:SS:=⟨37,77,[(4,vM),(5,vB)],[],[]⟩
def Sv:bG:=aG G [.tmp 4,.tmp 5] 207 [.val (.slice 96 bE),.func 208 .nil .nil] [] 77 ah3 [] (.bY (u1 Dn))
theorem Sw:hS Sv:=
 cO ⟨[hA 5 0,hA 8 0],[(10,ah1)],[],[(3,⟨ah2,fun u2=>Int.toNat u2.2.2.1+1⟩)],[],[]⟩ (hq ah0 hz) aJ Tryz.call207 Tryz.func207
def n8:Nat→Bool×Zn×Int×Int×bD×R3→Option (dR (Bool×bD×R3) (Bool×R3)):=aL fun rec10 ⟨g,e,d,c,h,i,j,k,f⟩=>if(decide (c<d))=true then(if 0≤c then(if c<(List.length e:Int) then(Option.bind (Dm (nth aR e c).2.2.2.2.1) fun⟨a,b⟩=>if(List.length f+List.length [a])*8≤aF then(Option.bind (α:=Bool) (if g=true then(some true) else(some b)) fun v12=>rec10 (v12,e,d,aV (c+1),h,i,j,k,f++[a])) else none) else none) else none) else(some (.aX (g,h,i,j,k,f)))
def n9:Nat→Bool×Zl×Int×Int×R3→Option (dR (Bool×R3) (Bool×R3)):=aL fun rec15 ⟨e,d,c,b,f,g,h,i⟩=>if(decide (b<c))=true then(if 0≤b then(if b<(List.length d:Int) then(Option.bind (Dn (nth bW d b).2.2.1) fun⟨_,a⟩=>Option.bind (α:=Bool) (if e=true then(some true) else(some a)) fun v17=>rec15 (v17,d,c,aV (b+1),f,g,h,i)) else none) else none) else(some (.aX (e,f,g,h,i)))
def yg(a0:bD):Option (Bool×R3):=
 Option.bind (Dh a0.1) fun⟨b,a⟩=>Option.bind (Di a0.2.1) fun⟨d,c⟩=>Option.bind (α:=Bool) (if a=true then(some true) else(some c)) fun v3=>Option.bind (Dj a0.2.2.1) fun⟨f,e⟩=>Option.bind (α:=Bool) (if v3=true then(some true) else(some e)) fun v5=>Option.bind (Dl a0.2.2.2.2.2.1) fun⟨_,g⟩=>Option.bind (α:=Bool) (if v5=true then(some true) else(some g)) fun v7=>aI (U:=Bool×bD×R3) (n8 (Int.toNat (List.length a0.2.2.1:Int)+1) (v7,a0.2.2.1,(List.length a0.2.2.1:Int),0,a0,b,d,f,([]:Zx))) fun⟨i,h,j,k,l,m⟩=>aI (U:=Bool×R3) (n9 (Int.toNat (List.length h.2.2.2.1:Int)+1) (i,h.2.2.2.1,(List.length h.2.2.2.1:Int),0,j,k,l,m)) fun⟨n,o,p,q,r⟩=>some (n,o,p,q,r)
def ah4:SS:=⟨108,148,[tP 1 17,tP 2 30,(3,vB)],[(17,bV eN),(30,rB 125),(125,.row 252 8 (.map .str (.int .i64)))],[]⟩
def aar:SS:=⟨108,148,[tP 2 30,(3,vB)],[(30,rB 125),(125,.row 252 8 (.map .str (.int .i64)))],[]⟩
def ah5:SS:=⟨108,148,[tP 1 17,tP 2 30,(3,vB),(61,.val (.slice 96 aR)),tI 62,tI 63],[(17,bV eN),(30,rB 124),(124,.row 252 8 (.map .str (.int .i64)))],[]⟩
def ah6:SS:=⟨108,148,[tP 2 30,(3,vB),(89,.val (.slice 96 bW)),tI 90,tI 91],[(30,rB 125),(125,.row 252 8 (.map .str (.int .i64)))],[]⟩
def JW:bG:=aG G [.tmp 2,.tmp 3] 120 [.val eN] [] 148 aar [30,125] (.bY (u1 yg))
theorem Sx:hS JW:=
 cO ⟨[hA 3 0,hA 4 1,hD 5 3 [],hA 6 2,hD 7 3 [],hA 8 3,hD 9 3 [],hA 13 4,hD 15 3 [],hA 20 5,hD 21 3 []],[(17,ah4),(23,aar)],[],[(11,⟨ah5,fun u9=>Int.toNat u9.2.2.1+1⟩),(18,⟨ah6,fun Ws=>Int.toNat Ws.2.2.1+1⟩)],[],[]⟩ (hq Sf (hq Sj (hq Sm (hq Sp (hq Ss (hq Sw hz)))))) aJ Tryz.call120 Tryz.func120
def Dp(a0:Zs):Option Zs:=
 if(List.length ([]:Zs)+List.length a0)*16≤aF then some a0 else none
def ah7:SS:=⟨8,48,[(2,.own 23)],[(23,.row 9 16 .str)],[]⟩
def JX:bG:=aG G [.tmp 2] 122 [.val (.slice 16 .str)] [] 48 ah7 [23] (.bY (u1 Dp))
theorem Sy:hS JX:=
 bG.oU tied (H:=⟨[],[],[],[],[],[]⟩) (hold (l:=[]) trivial) rfl (.tmp 0) 3 4 22 22 9 16 .str (fun d=>d.1) (fun d=>⟨(.val (.slice 16 .str) d.1)::.bot::.aM::List.replicate 5 .bot,List.replicate 48 none,[]⟩) Tryz.call122 Tryz.func122 rfl rfl rfl rfl rfl rfl rfl rfl rfl rfl (by kernel_rfl) (fun _=>by kernel_rfl) (fun _=>by kernel_rfl) (fun _=>rfl) (fun _=>by kernel_rfl) (fun _ _=>by kernel_rfl) (fun d h=>by obtain⟨x,y⟩:=d;cases(h:x= []);kernel_rfl) (fun _=>by kernel_rfl)
def Dq(a0:Zv):Option Zv:=
 if(List.length ([]:Zv)+List.length a0)*56≤aF then some a0 else none
def ah8:SS:=⟨8,48,[(2,.own 23)],[(23,.row 157 56 aZ)],[]⟩
def JY:bG:=aG G [.tmp 2] 123 [.val (.slice 56 aZ)] [] 48 ah8 [23] (.bY (u1 Dq))
theorem Sz:hS JY:=
 bG.oU tied (H:=⟨[],[],[],[],[],[]⟩) (hold (l:=[]) trivial) rfl (.tmp 0) 3 4 23 23 157 56 aZ (fun d=>d.1) (fun d=>⟨(.val (.slice 56 aZ) d.1)::.bot::.aM::List.replicate 5 .bot,List.replicate 48 none,[]⟩) Tryz.call123 Tryz.func123 rfl rfl rfl rfl rfl rfl rfl rfl rfl rfl (by kernel_rfl) (fun _=>by kernel_rfl) (fun _=>by kernel_rfl) (fun _=>rfl) (fun _=>by kernel_rfl) (fun _ _=>by kernel_rfl) (fun d h=>by obtain⟨x,y⟩:=d;cases(h:x= []);kernel_rfl) (fun _=>by kernel_rfl)
def Dr(a0:Zn):Option Zn:=
 if(List.length ([]:Zn)+List.length a0)*96≤aF then some a0 else none
def ah9:SS:=⟨8,48,[(2,.own 23)],[(23,.row 113 96 aR)],[]⟩
def JZ:bG:=aG G [.tmp 2] 124 [.val (.slice 96 aR)] [] 48 ah9 [23] (.bY (u1 Dr))
theorem SC:hS JZ:=
 bG.oU tied (H:=⟨[],[],[],[],[],[]⟩) (hold (l:=[]) trivial) rfl (.tmp 0) 3 4 24 24 113 96 aR (fun d=>d.1) (fun d=>⟨(.val (.slice 96 aR) d.1)::.bot::.aM::List.replicate 5 .bot,List.replicate 48 none,[]⟩) Tryz.call124 Tryz.func124 rfl rfl rfl rfl rfl rfl rfl rfl rfl rfl (by kernel_rfl) (fun _=>by kernel_rfl) (fun _=>by kernel_rfl) (fun _=>rfl) (fun _=>by kernel_rfl) (fun _ _=>by kernel_rfl) (fun d h=>by obtain⟨x,y⟩:=d;cases(h:x= []);kernel_rfl) (fun _=>by kernel_rfl)
def Ds(a0:Zl):Option Zl:=
 if(List.length ([]:Zl)+List.length a0)*96≤aF then some a0 else none
def aia:SS:=⟨8,48,[(2,.own 23)],[(23,.row 51 96 bW)],[]⟩
def J0:bG:=aG G [.tmp 2] 125 [.val (.slice 96 bW)] [] 48 aia [23] (.bY (u1 Ds))
theorem SD:hS J0:=
 bG.oU tied (H:=⟨[],[],[],[],[],[]⟩) (hold (l:=[]) trivial) rfl (.tmp 0) 3 4 25 25 51 96 bW (fun d=>d.1) (fun d=>⟨(.val (.slice 96 bW) d.1)::.bot::.aM::List.replicate 5 .bot,List.replicate 48 none,[]⟩) Tryz.call125 Tryz.func125 rfl rfl rfl rfl rfl rfl rfl rfl rfl rfl (by kernel_rfl) (fun _=>by kernel_rfl) (fun _=>by kernel_rfl) (fun _=>rfl) (fun _=>by kernel_rfl) (fun _ _=>by kernel_rfl) (fun d h=>by obtain⟨x,y⟩:=d;cases(h:x= []);kernel_rfl) (fun _=>by kernel_rfl)
def Dt(a0:ZB):Option ZB:=
 if(List.length ([]:ZB)+List.length a0)*72≤aF then some a0 else none
def aib:SS:=⟨8,48,[(2,.own 23)],[(23,.row 198 72 iN)],[]⟩
def J1:bG:=aG G [.tmp 2] 126 [.val (.slice 72 iN)] [] 48 aib [23] (.bY (u1 Dt))
theorem SE:hS J1:=
 bG.oU tied (H:=⟨[],[],[],[],[],[]⟩) (hold (l:=[]) trivial) rfl (.tmp 0) 3 4 26 26 198 72 iN (fun d=>d.1) (fun d=>⟨(.val (.slice 72 iN) d.1)::.bot::.aM::List.replicate 5 .bot,List.replicate 48 none,[]⟩) Tryz.call126 Tryz.func126 rfl rfl rfl rfl rfl rfl rfl rfl rfl rfl (by kernel_rfl) (fun _=>by kernel_rfl) (fun _=>by kernel_rfl) (fun _=>rfl) (fun _=>by kernel_rfl) (fun _ _=>by kernel_rfl) (fun d h=>by obtain⟨x,y⟩:=d;cases(h:x= []);kernel_rfl) (fun _=>by kernel_rfl)
def Du(a0:Zy):Option Zy:=
 if(List.length ([]:Zy)+List.length a0)*48≤aF then some a0 else none
def aic:SS:=⟨8,48,[(2,.own 23)],[(23,.row 191 48 fj)],[]⟩
def J2:bG:=aG G [.tmp 2] 127 [.val (.slice 48 fj)] [] 48 aic [23] (.bY (u1 Du))
theorem SF:hS J2:=
 bG.oU tied (H:=⟨[],[],[],[],[],[]⟩) (hold (l:=[]) trivial) rfl (.tmp 0) 3 4 27 27 191 48 fj (fun d=>d.1) (fun d=>⟨(.val (.slice 48 fj) d.1)::.bot::.aM::List.replicate 5 .bot,List.replicate 48 none,[]⟩) Tryz.call127 Tryz.func127 rfl rfl rfl rfl rfl rfl rfl rfl rfl rfl (by kernel_rfl) (fun _=>by kernel_rfl) (fun _=>by kernel_rfl) (fun _=>rfl) (fun _=>by kernel_rfl) (fun _ _=>by kernel_rfl) (fun d h=>by obtain⟨x,y⟩:=d;cases(h:x= []);kernel_rfl) (fun _=>by kernel_rfl)
def lh(a0:Za)(a1:Zf):Option (Sum ZV Int):=
 if(!(ek .str a1 (bC a0)))=true then(some (.inl ((),()))) else(some (.inr (aO .str (.int .i64) a1 (bC a0))))
def aid:SS:=⟨18,58,[tI 4],[],[]⟩
def A6:bG:=aG G [.tmp 4] 209 [vM,.val .str] [] 58 aid [] (.nZ (.iface 241 (.val .unit)) (u2 lh))
theorem Dv:hS A6:=
 bG.GD tied (H:=⟨[],[],[],[],[],[]⟩) (hold (l:=[]) trivial) aJ rfl Tryz.call209 Tryz.func209 rfl rfl rfl rfl (fun _=>by kernel_rfl) (fun _=>by kernel_rfl)
def zS:Nat→Int×Int×Wt→Option (dR Wt (Sum ZV Wt)):=aL fun aoK ⟨t,s,v,w,x,u,y⟩=>if(decide (s<t))=true then(if 0≤s then(if s<(List.length u:Int) then(if(decide ((nth aZ u s).2.1= []))=true then(aoK (t,aV (s+1),v,w,x,List.set (List.set u (Int.toNat s) ((nth aZ u s).1,(nth aZ u s).2.1,(nth aZ u s).2.2.1,s,(nth aZ u s).2.2.2.2)) (Int.toNat s) ((nth aZ (List.set u (Int.toNat s) ((nth aZ u s).1,(nth aZ u s).2.1,(nth aZ u s).2.2.1,s,(nth aZ u s).2.2.2.2)) s).1,(nth aZ (List.set u (Int.toNat s) ((nth aZ u s).1,(nth aZ u s).2.1,(nth aZ u s).2.2.1,s,(nth aZ u s).2.2.2.2)) s).2.1,(nth aZ (List.set u (Int.toNat s) ((nth aZ u s).1,(nth aZ u s).2.1,(nth aZ u s).2.2.1,s,(nth aZ u s).2.2.2.2)) s).2.2.1,(nth aZ (List.set u (Int.toNat s) ((nth aZ u s).1,(nth aZ u s).2.1,(nth aZ u s).2.2.1,s,(nth aZ u s).2.2.2.2)) s).2.2.2.1,1,(nth aZ (List.set u (Int.toNat s) ((nth aZ u s).1,(nth aZ u s).2.1,(nth aZ u s).2.2.1,s,(nth aZ u s).2.2.2.2)) s).2.2.2.2.2),y)) else(gQ (lh w (nth aZ u s).2.1) (fun p8=>cU (some (.inl (p8.1,())))) fun y4=>aI (U:=Nat×Int×Int×Int×Wt) (if(decide (s≤y4))=true then(cU (cU (some (.inl ((),()))))) else(some (.aX (Int.toNat s,y4,t,s,v,w,x,u,y)))) fun⟨c,a,d,e,f,g,h,b,i⟩=>aI (U:=Nat×Int×Int×Int×Wt) (if 0≤a then(if a<(List.length b:Int) then(some (.aX (c,a,d,e,f,g,h,List.set (List.set b c ((List.getD b c (Ty.aH aZ)).1,(List.getD b c (Ty.aH aZ)).2.1,(List.getD b c (Ty.aH aZ)).2.2.1,(nth aZ b a).2.2.2.1,(List.getD b c (Ty.aH aZ)).2.2.2.2)) c ((List.getD (List.set b c ((List.getD b c (Ty.aH aZ)).1,(List.getD b c (Ty.aH aZ)).2.1,(List.getD b c (Ty.aH aZ)).2.2.1,(nth aZ b a).2.2.2.1,(List.getD b c (Ty.aH aZ)).2.2.2.2)) c (Ty.aH aZ)).1,(List.getD (List.set b c ((List.getD b c (Ty.aH aZ)).1,(List.getD b c (Ty.aH aZ)).2.1,(List.getD b c (Ty.aH aZ)).2.2.1,(nth aZ b a).2.2.2.1,(List.getD b c (Ty.aH aZ)).2.2.2.2)) c (Ty.aH aZ)).2.1,(List.getD (List.set b c ((List.getD b c (Ty.aH aZ)).1,(List.getD b c (Ty.aH aZ)).2.1,(List.getD b c (Ty.aH aZ)).2.2.1,(nth aZ b a).2.2.2.1,(List.getD b c (Ty.aH aZ)).2.2.2.2)) c (Ty.aH aZ)).2.2.1,(List.getD (List.set b c ((List.getD b c (Ty.aH aZ)).1,(List.getD b c (Ty.aH aZ)).2.1,(List.getD b c (Ty.aH aZ)).2.2.1,(nth aZ b a).2.2.2.1,(List.getD b c (Ty.aH aZ)).2.2.2.2)) c (Ty.aH aZ)).2.2.2.1,0,(List.getD (List.set b c ((List.getD b c (Ty.aH aZ)).1,(List.getD b c (Ty.aH aZ)).2.1,(List.getD b c (Ty.aH aZ)).2.2.1,(nth aZ b a).2.2.2.1,(List.getD b c (Ty.aH aZ)).2.2.2.2)) c (Ty.aH aZ)).2.2.2.2.2),i))) else none) else none) fun⟨k,l,m,n,o,p,q,j,r⟩=>Option.bind (α:=Bool) (if(decide ((2:Int)≤(List.getD j k (Ty.aH aZ)).2.2.1))=true then(if(decide ((List.getD j k (Ty.aH aZ)).2.2.1≤(1000:Int)))=true then(if 0≤l then(if l<(List.length j:Int) then(some (decide ((aV ((List.getD j k (Ty.aH aZ)).2.2.1*(nth aZ j l).2.2.2.2.1))≤(1099511627776:Int)))) else none) else none) else(some false)) else(some false)) fun v7=>if v7=true then(if 0≤l then(if l<(List.length j:Int) then(aoK (m,aV (n+1),o,p,q,List.set j k ((List.getD j k (Ty.aH aZ)).1,(List.getD j k (Ty.aH aZ)).2.1,(List.getD j k (Ty.aH aZ)).2.2.1,(List.getD j k (Ty.aH aZ)).2.2.2.1,aV ((List.getD j k (Ty.aH aZ)).2.2.1*(nth aZ j l).2.2.2.2.1),(List.getD j k (Ty.aH aZ)).2.2.2.2.2),r)) else none) else none) else(aoK (m,aV (n+1),o,p,q,j,r)))) else none) else none) else(some (.aX (v,w,x,u,y)))
def yh(a0:Za)(a1:Za)(a2:Za)(a3:Zv)(a4:Zx):Option (Sum ZV Wt):=
 aI (U:=Wt) (zS (Int.toNat (List.length a3:Int)+1) ((List.length a3:Int),0,a0,a1,a2,a3,a4)) fun⟨a,b,c,d,e⟩=>some (.inr (a,b,c,d,e))
def aas:SS:=⟨91,131,[tP 0 0,(1,.own 1),(5,.ptr 1 [.idx]),tI 6,tI 8,tI 9],[(0,rB 2),(1,.row 157 56 aZ),(2,.row 252 8 (.map .str (.int .i64)))],[]⟩
def aat:SS:=⟨91,131,[],[(0,rB 2),(1,.row 157 56 aZ),(2,.row 252 8 (.map .str (.int .i64)))],[]⟩
def aie:SS:=⟨91,131,[tP 0 0,(1,.own 1),tI 8,tI 9],[(0,rB 2),(1,.row 157 56 aZ),(2,.row 252 8 (.map .str (.int .i64)))],[]⟩
def J3:bG:=aG G [] 128 [pP 0,.own 1] [(0,rB 2),(1,.row 157 56 aZ),(2,.row 252 8 (.map .str (.int .i64)))] 131 aat [0,1,2] (.nZ (.iface 241 (.val .unit)) (u5 yh))
theorem SG:hS J3:=
 bG.GD tied (H:=⟨[hA 6 0,hD 10 76 []],[(9,aas),(10,aas)],[(0,aat)],[(1,⟨aie,fun u2=>Int.toNat u2.1+1⟩)],[],[]⟩) (hold (l:=[A6]) ⟨Dv,trivial⟩) aJ rfl Tryz.call128 Tryz.func128 rfl rfl rfl rfl (fun _=>by kernel_rfl) (fun _=>by kernel_rfl)
def Dw(a0:ZE):Option ZE:=
 if(List.length ([]:ZE)+List.length a0)*120≤aF then some a0 else none
def aif:SS:=⟨8,48,[(2,.own 23)],[(23,.row 146 120 cM)],[]⟩
def J4:bG:=aG G [.tmp 2] 210 [.val (.slice 120 cM)] [] 48 aif [23] (.bY (u1 Dw))
theorem SH:hS J4:=
 bG.oU tied (H:=⟨[],[],[],[],[],[]⟩) (hold (l:=[]) trivial) rfl (.tmp 0) 3 4 110 110 146 120 cM (fun d=>d.1) (fun d=>⟨(.val (.slice 120 cM) d.1)::.bot::.aM::List.replicate 5 .bot,List.replicate 48 none,[]⟩) Tryz.call210 Tryz.func210 rfl rfl rfl rfl rfl rfl rfl rfl rfl rfl (by kernel_rfl) (fun _=>by kernel_rfl) (fun _=>by kernel_rfl) (fun _=>rfl) (fun _=>by kernel_rfl) (fun _ _=>by kernel_rfl) (fun d h=>by obtain⟨x,y⟩:=d;cases(h:x= []);kernel_rfl) (fun _=>by kernel_rfl)
def Dx(a0:Ic):Option Ic:=
 if(List.length ([]:Ic)+List.length a0)*72≤aF then some a0 else none
def aih:SS:=⟨8,48,[(2,.own 23)],[(23,.row 271 72 iD)],[]⟩
def J5:bG:=aG G [.tmp 2] 211 [.val (.slice 72 iD)] [] 48 aih [23] (.bY (u1 Dx))
theorem SI:hS J5:=
 bG.oU tied (H:=⟨[],[],[],[],[],[]⟩) (hold (l:=[]) trivial) rfl (.tmp 0) 3 4 111 111 271 72 iD (fun d=>d.1) (fun d=>⟨(.val (.slice 72 iD) d.1)::.bot::.aM::List.replicate 5 .bot,List.replicate 48 none,[]⟩) Tryz.call211 Tryz.func211 rfl rfl rfl rfl rfl rfl rfl rfl rfl rfl (by kernel_rfl) (fun _=>by kernel_rfl) (fun _=>by kernel_rfl) (fun _=>rfl) (fun _=>by kernel_rfl) (fun _ _=>by kernel_rfl) (fun d h=>by obtain⟨x,y⟩:=d;cases(h:x= []);kernel_rfl) (fun _=>by kernel_rfl)
def zT:Nat→Za×Int×Int×Zab→Option (dR (Za×Zab) (Sum ZV ZG)):=aL fun apm ⟨t,r,q,u,v,w,x,y,z,aa,ab,ac,ad,ae,s⟩=>if(decide (q<r))=true then(if 0≤q then(if q<(List.length s:Int) then(aI (U:=Za×Nat×Int×Int×Zab) (some (.aX (t,Int.toNat q,r,q,u,v,w,x,y,z,aa,ab,ac,ad,ae,List.set s (Int.toNat q) ((nth cM s q).1,((nth cM s q).2.1.1,(nth cM s q).2.1.2.1,(nth cM s q).2.1.2.2.1,(nth cM s q).2.1.2.2.2.1,(-1:Int),(nth cM s q).2.1.2.2.2.2.2),(nth cM s q).2.2)))) fun⟨d,b,e,f,g,c,h,i,j,k,l,m,n,o,p,a⟩=>Option.bind (α:=Bool) (if(decide ((List.getD a b (Ty.aH cM)).2.1.1=(1:Int)))=true then(some (!decide ((List.getD a b (Ty.aH cM)).2.1.2.2.2.1= []))) else(some false)) fun v7=>if v7=true then(gQ (lh c (List.getD a b (Ty.aH cM)).2.1.2.2.2.1) (fun p9=>cU (some (.inl (p9.1,())))) fun y8=>apm (d,e,aV (f+1),g,c,h,i,j,k,l,m,n,o,p,List.set a b ((List.getD a b (Ty.aH cM)).1,((List.getD a b (Ty.aH cM)).2.1.1,(List.getD a b (Ty.aH cM)).2.1.2.1,(List.getD a b (Ty.aH cM)).2.1.2.2.1,(List.getD a b (Ty.aH cM)).2.1.2.2.2.1,y8,(List.getD a b (Ty.aH cM)).2.1.2.2.2.2.2),(List.getD a b (Ty.aH cM)).2.2))) else(apm (d,e,aV (f+1),g,c,h,i,j,k,l,m,n,o,p,a))) else none) else none) else(some (.aX (t,u,v,w,x,y,z,aa,ab,ac,ad,ae,s)))
def xj:Nat→Za×Int×Int×Zs×ZI→Option (dR (Za×ZI) (dR (Za×ZI) (dR ZG (Sum ZV ZG)))):=aL fun rec17 ⟨d,f,g,c,b,a,h,i,j,k,l,m,n,o,p,q,r,s,t,u,v,w,x,e⟩=>if(decide (a<b))=true then(if 0≤a then(if a<(List.length c:Int) then(gQ (lh d (nth .str c a)) (fun p19=>cU (cU (cU (some (.inl (p19.1,())))))) fun y18=>if(List.length e+List.length [y18])*8≤aF then(rec17 (d,f,g,c,b,aV (a+1),h,i,j,k,l,m,n,o,p,q,r,s,t,u,v,w,x,e++[y18])) else none) else none) else none) else(some (.aX (d,f,g,h,i,j,k,l,m,n,o,p,q,r,s,t,u,v,w,x,e)))
def xl:Nat→Za×Int×Int×ZG→Option (dR ZG (Sum ZV ZG)):=aL fun rec13 ⟨av,ar,aq,aw,ax,ay,az,a0,a1,a2,a3,a4,a5,a6,a7,au⟩=>if(decide (aq<ar))=true then(aI (U:=Za×ZI) (if 0≤aq then(if aq<(List.length au:Int) then(aI (U:=Za×ZI) (xj (Int.toNat (List.length (nth iD au aq).1:Int)+1) (av,ar,aq,(nth iD au aq).1,(List.length (nth iD au aq).1:Int),0,aw,ax,ay,az,a0,a1,a2,a3,a4,a5,a6,a7,au,Int.toNat aq,(nth iD au aq).1,(nth iD au aq).2.1,(nth iD au aq).2.2.2,([]:Zd))) fun⟨a,c,d,e,f,g,h,i,j,k,l,m,n,o,p,q,r,s,b,t,u⟩=>gQ (lh a b) (fun p21=>cU (cU (some (.inl (p21.1,()))))) fun y20=>some (.aX (a,c,d,e,f,g,h,i,j,k,l,m,n,o,p,q,r,s,b,(y20,t.2),u))) else none) else none) fun⟨v,w,x,y,z,aa,ab,ac,ad,ae,af,ag,ah,ai,aj,ak,al,am,an,ap,ao⟩=>rec13 (v,w,aV (x+1),y,z,aa,ab,ac,ad,ae,af,ag,ah,ai,aj,List.set ak al (am,an,ao,ap))) else(some (.aX (aw,ax,ay,az,a0,a1,a2,a3,a4,a5,a6,a7,au)))
def yi(a0:Za)(a1:Za)(a2:Za)(a3:Za)(a4:Zn)(a5:Nat)(a6:pQ)(a7:Zx):Option (Sum ZV ZG):=
 gQ (lh a1 a6.2.1) (fun p22=>some (.inl (p22.1,()))) fun y1=>Option.bind (Dw a6.2.2.2.2.1) fun y2=>aI (U:=Za×Zab) (zT (Int.toNat (List.length y2:Int)+1) (a0,(List.length y2:Int),0,a1,a2,a3,a4,a5,a6.1,a6.2.1,y1,a6.2.2.2.1,a6.2.2.2.2.2,a7,y2)) fun⟨b,c,d,e,f,g,h,i,j,k,a,l,m⟩=>Option.bind (Dx a.1) fun y10=>aI (U:=ZG) (xl (Int.toNat (List.length y10:Int)+1) (b,(List.length y10:Int),0,c,d,e,f,g,h,i,j,k,a.2,l,m,y10)) fun⟨n,o,p,q,r,s,t,u,v,w,x,y,z⟩=>some (.inr (n,o,p,q,r,s,t,u,v,w,x,y,z))
def aii:SS:=⟨132,172,[tP 0 0,(1,.ptr 1 [.dX 1]),(2,vM),(7,.ptr 45 [.idx,.dX 1]),tI 36,tI 37],[(0,rB 2),(1,.dA 113 96 aR (.cons (.val .str) (.cons (.val .str) (.cons vI (.cons vI (.cons (.own 45) (.val (.pair (.slice 72 iD) .unit)))))))),(2,.row 252 8 (.map .str (.int .i64))),(45,.row 146 120 cM)],[]⟩
def aij:SS:=⟨132,172,[(1,.ptr 1 [.dX 1]),(2,vM)],[(0,rB 2),(1,.dA 113 96 aR (.cons (.val .str) (.cons (.val .str) (.cons vI (.cons vI (.cons (.own 45) (.val (.pair (.slice 72 iD) .unit)))))))),(2,.row 252 8 (.map .str (.int .i64))),(45,.row 146 120 cM)],[]⟩
def aik:SS:=⟨132,172,[(1,.ptr 1 [.dX 1]),(2,vM),(9,.ptr 96 [.dX 1]),tI 87,tI 88],[(0,rB 2),(1,.dA 113 96 aR (.cons (.val .str) (.cons (.val .str) (.cons vI (.cons vI (.cons (.own 45) (.cons (.own 96) (.val .unit)))))))),(2,.row 252 8 (.map .str (.int .i64))),(45,.row 146 120 cM),(96,.dA 271 72 iD (.cons (.val (.slice 16 .str)) (.cons (.val .str) (.cons (.own 149) (.val (.pair (.int .i64) .unit)))))),(149,.row 3 8 (.int .i64))],[]⟩
def ail:SS:=⟨132,172,[(1,.ptr 1 [.dX 1]),(2,vM),tI 87,tI 88],[(0,rB 2),(1,.dA 113 96 aR (.cons (.val .str) (.cons (.val .str) (.cons vI (.cons vI (.cons (.own 45) (.cons (.own 96) (.val .unit)))))))),(2,.row 252 8 (.map .str (.int .i64))),(45,.row 146 120 cM),(96,.dA 271 72 iD (.cons (.val (.slice 16 .str)) (.cons (.val .str) (.cons (.own 149) (.val (.pair (.int .i64) .unit)))))),(149,.row 3 8 (.int .i64))],[]⟩
def aau:SS:=⟨132,172,[],[(0,rB 2),(1,.dA 113 96 aR (.cons (.val .str) (.cons (.val .str) (.cons vI (.cons vI (.cons (.own 45) (.cons (.own 96) (.val .unit)))))))),(2,.row 252 8 (.map .str (.int .i64))),(45,.row 146 120 cM),(96,.row 271 72 iD)],[]⟩
def aim:SS:=⟨132,172,[tP 0 0,(1,.ptr 1 [.dX 1]),(2,vM),tI 36,tI 37],[(0,rB 2),(1,.dA 113 96 aR (.cons (.val .str) (.cons (.val .str) (.cons vI (.cons vI (.cons (.own 45) (.val (.pair (.slice 72 iD) .unit)))))))),(2,.row 252 8 (.map .str (.int .i64))),(45,.row 146 120 cM)],[]⟩
def ain:SS:=⟨132,172,[(1,.ptr 1 [.dX 1]),(2,vM),tI 87,tI 88],[(0,rB 2),(1,.dA 113 96 aR (.cons (.val .str) (.cons (.val .str) (.cons vI (.cons vI (.cons (.own 45) (.cons (.own 96) (.val .unit)))))))),(2,.row 252 8 (.map .str (.int .i64))),(45,.row 146 120 cM),(96,.row 271 72 iD)],[]⟩
def aio:SS:=⟨132,172,[(1,.ptr 1 [.dX 1]),(2,vM),(9,.ptr 96 [.dX 1]),tI 87,tI 88,(103,.val (.slice 16 .str)),tI 104,tI 105],[(0,rB 2),(1,.dA 113 96 aR (.cons (.val .str) (.cons (.val .str) (.cons vI (.cons vI (.cons (.own 45) (.cons (.own 96) (.val .unit)))))))),(2,.row 252 8 (.map .str (.int .i64))),(45,.row 146 120 cM),(96,.dA 271 72 iD (.cons (.val (.slice 16 .str)) (.cons (.val .str) (.cons (.own 148) (.val (.pair (.int .i64) .unit)))))),(148,.row 3 8 (.int .i64))],[]⟩
def J6:bG:=aG G [] 129 [pP 0,.ptr 1 [.dX 1],vM] [(0,rB 2),(1,.dA 113 96 aR (.val aR)),(2,.row 252 8 (.map .str (.int .i64)))] 172 aau [0,1,2,45,96] (.nZ (.iface 241 (.val .unit)) (u8 yi))
theorem SK:hS J6:=
 bG.GD tied (H:=⟨[hA 0 0,hE 1 [cB 1 [] [(23,45)]],hD 7 61 [],hA 8 0,hE 10 [cB 2 [] [(23,96)]],(15,⟨[],[],[],none,[(96,9)],[],[]⟩),hA 19 0,hA 21 0,(22,⟨[.freeze 149 (.slice 8 (.int .i64)),.oH 96],[],[],none,[],[],[]⟩)],[(7,aii),(10,aij),(21,aik),(22,ail)],[(2,aau)],[(3,⟨aim,fun u4=>Int.toNat u4.2.1+1⟩),(12,⟨ain,fun Wr=>Int.toNat Wr.2.1+1⟩),(17,⟨aio,fun u16=>Int.toNat u16.2.2.2.2.1+1⟩)],[],[]⟩) (hold (l:=[A6,J4,J5]) ⟨Dv,SH,SI,trivial⟩) aJ rfl Tryz.call129 Tryz.func129 rfl rfl rfl rfl (fun _=>by kernel_rfl) (fun _=>by kernel_rfl)
def oG(_q0:Unit):ZW:=
 some (110:Int)
def aav:SS:=⟨17,57,[],[(0,.var eN (.cons .aM (.cons .aM (.cons .aM (.cons .aM (.cons .aM (.cons .aM .nil))))))),(1,bI)],[]⟩
def Fs:iP:=⟨121,[.ptr 0 [],.ptr 1 []],[(0,.var eN (.gM eN)),(1,.var (.int .i64) (.gM (.int .i64)))],57,.iface 241 (.val .unit),aav,fun r=>pick [0,1] (SS.st aav y0 r).hp,fun _=>none,fun _ q=>oG q.1⟩
theorem NH:Fs.holds Tryz.prog gl:=
 iP.GD tied (H:=⟨[],[],[],[],[],[]⟩) (hold (l:=[]) trivial) rfl Tryz.call121 Tryz.func121 rfl rfl rfl rfl rfl rfl rfl rfl rfl rfl rfl rfl (fun _=>by kernel_rfl) (fun _ _=>by kernel_rfl)
def Dy(a0:ZA):Option ZA:=
 if(List.length ([]:ZA)+List.length a0)*96≤aF then some a0 else none
def aip:SS:=⟨8,48,[(2,.own 23)],[(23,.row 61 96 bE)],[]⟩
def J7:bG:=aG G [.tmp 2] 212 [.val (.slice 96 bE)] [] 48 aip [23] (.bY (u1 Dy))
theorem SL:hS J7:=
 bG.oU tied (H:=⟨[],[],[],[],[],[]⟩) (hold (l:=[]) trivial) rfl (.tmp 0) 3 4 47 47 61 96 bE (fun d=>d.1) (fun d=>⟨(.val (.slice 96 bE) d.1)::.bot::.aM::List.replicate 5 .bot,List.replicate 48 none,[]⟩) Tryz.call212 Tryz.func212 rfl rfl rfl rfl rfl rfl rfl rfl rfl rfl (by kernel_rfl) (fun _=>by kernel_rfl) (fun _=>by kernel_rfl) (fun _=>rfl) (fun _=>by kernel_rfl) (fun _ _=>by kernel_rfl) (fun d h=>by obtain⟨x,y⟩:=d;cases(h:x= []);kernel_rfl) (fun _=>by kernel_rfl)
def yk(a0:Nat)(a1:ZA)(a2:Zw)(a3:Za)(a4:Za)(a5:Za)(a6:Zl)(a7:Nat)(a8:Zf)(a9:Int)(a10:ZC×ZD×Unit)(a11:Zx):Option (Sum ZV Zaw):=
 aI (U:=Nat×Zaw) (some (.aX (a0,List.set (List.set a1 a0 ((List.getD a1 a0 (Ty.aH bE)).1,(List.getD a1 a0 (Ty.aH bE)).2.1,(List.getD a1 a0 (Ty.aH bE)).2.2.1,((List.getD a1 a0 (Ty.aH bE)).2.2.2.1.1,(List.getD a1 a0 (Ty.aH bE)).2.2.2.1.2.1,(-1:Int),(List.getD a1 a0 (Ty.aH bE)).2.2.2.1.2.2.2),(List.getD a1 a0 (Ty.aH bE)).2.2.2.2)) a0 ((List.getD (List.set a1 a0 ((List.getD a1 a0 (Ty.aH bE)).1,(List.getD a1 a0 (Ty.aH bE)).2.1,(List.getD a1 a0 (Ty.aH bE)).2.2.1,((List.getD a1 a0 (Ty.aH bE)).2.2.2.1.1,(List.getD a1 a0 (Ty.aH bE)).2.2.2.1.2.1,(-1:Int),(List.getD a1 a0 (Ty.aH bE)).2.2.2.1.2.2.2),(List.getD a1 a0 (Ty.aH bE)).2.2.2.2)) a0 (Ty.aH bE)).1,(List.getD (List.set a1 a0 ((List.getD a1 a0 (Ty.aH bE)).1,(List.getD a1 a0 (Ty.aH bE)).2.1,(List.getD a1 a0 (Ty.aH bE)).2.2.1,((List.getD a1 a0 (Ty.aH bE)).2.2.2.1.1,(List.getD a1 a0 (Ty.aH bE)).2.2.2.1.2.1,(-1:Int),(List.getD a1 a0 (Ty.aH bE)).2.2.2.1.2.2.2),(List.getD a1 a0 (Ty.aH bE)).2.2.2.2)) a0 (Ty.aH bE)).2.1,(List.getD (List.set a1 a0 ((List.getD a1 a0 (Ty.aH bE)).1,(List.getD a1 a0 (Ty.aH bE)).2.1,(List.getD a1 a0 (Ty.aH bE)).2.2.1,((List.getD a1 a0 (Ty.aH bE)).2.2.2.1.1,(List.getD a1 a0 (Ty.aH bE)).2.2.2.1.2.1,(-1:Int),(List.getD a1 a0 (Ty.aH bE)).2.2.2.1.2.2.2),(List.getD a1 a0 (Ty.aH bE)).2.2.2.2)) a0 (Ty.aH bE)).2.2.1,((List.getD (List.set a1 a0 ((List.getD a1 a0 (Ty.aH bE)).1,(List.getD a1 a0 (Ty.aH bE)).2.1,(List.getD a1 a0 (Ty.aH bE)).2.2.1,((List.getD a1 a0 (Ty.aH bE)).2.2.2.1.1,(List.getD a1 a0 (Ty.aH bE)).2.2.2.1.2.1,(-1:Int),(List.getD a1 a0 (Ty.aH bE)).2.2.2.1.2.2.2),(List.getD a1 a0 (Ty.aH bE)).2.2.2.2)) a0 (Ty.aH bE)).2.2.2.1.1,(List.getD (List.set a1 a0 ((List.getD a1 a0 (Ty.aH bE)).1,(List.getD a1 a0 (Ty.aH bE)).2.1,(List.getD a1 a0 (Ty.aH bE)).2.2.1,((List.getD a1 a0 (Ty.aH bE)).2.2.2.1.1,(List.getD a1 a0 (Ty.aH bE)).2.2.2.1.2.1,(-1:Int),(List.getD a1 a0 (Ty.aH bE)).2.2.2.1.2.2.2),(List.getD a1 a0 (Ty.aH bE)).2.2.2.2)) a0 (Ty.aH bE)).2.2.2.1.2.1,(List.getD (List.set a1 a0 ((List.getD a1 a0 (Ty.aH bE)).1,(List.getD a1 a0 (Ty.aH bE)).2.1,(List.getD a1 a0 (Ty.aH bE)).2.2.1,((List.getD a1 a0 (Ty.aH bE)).2.2.2.1.1,(List.getD a1 a0 (Ty.aH bE)).2.2.2.1.2.1,(-1:Int),(List.getD a1 a0 (Ty.aH bE)).2.2.2.1.2.2.2),(List.getD a1 a0 (Ty.aH bE)).2.2.2.2)) a0 (Ty.aH bE)).2.2.2.1.2.2.1,0,(List.getD (List.set a1 a0 ((List.getD a1 a0 (Ty.aH bE)).1,(List.getD a1 a0 (Ty.aH bE)).2.1,(List.getD a1 a0 (Ty.aH bE)).2.2.1,((List.getD a1 a0 (Ty.aH bE)).2.2.2.1.1,(List.getD a1 a0 (Ty.aH bE)).2.2.2.1.2.1,(-1:Int),(List.getD a1 a0 (Ty.aH bE)).2.2.2.1.2.2.2),(List.getD a1 a0 (Ty.aH bE)).2.2.2.2)) a0 (Ty.aH bE)).2.2.2.1.2.2.2.2),(List.getD (List.set a1 a0 ((List.getD a1 a0 (Ty.aH bE)).1,(List.getD a1 a0 (Ty.aH bE)).2.1,(List.getD a1 a0 (Ty.aH bE)).2.2.1,((List.getD a1 a0 (Ty.aH bE)).2.2.2.1.1,(List.getD a1 a0 (Ty.aH bE)).2.2.2.1.2.1,(-1:Int),(List.getD a1 a0 (Ty.aH bE)).2.2.2.1.2.2.2),(List.getD a1 a0 (Ty.aH bE)).2.2.2.2)) a0 (Ty.aH bE)).2.2.2.2),a2,a3,a4,a5,a6,a7,a8,a9,a10,a11))) fun⟨b,a,c,d,e,f,g,h,i,j,k,l⟩=>if(!decide ((List.getD a b (Ty.aH bE)).2.2.2.1.1= []))=true then(aI (U:=Nat×Zaw) (gQ (lh (some c) (List.getD a b (Ty.aH bE)).2.2.2.1.1) (fun p4=>cU (some (.inl (p4.1,())))) fun y3=>some (.aX (b,List.set a b ((List.getD a b (Ty.aH bE)).1,(List.getD a b (Ty.aH bE)).2.1,(List.getD a b (Ty.aH bE)).2.2.1,((List.getD a b (Ty.aH bE)).2.2.2.1.1,(List.getD a b (Ty.aH bE)).2.2.2.1.2.1,y3,(List.getD a b (Ty.aH bE)).2.2.2.1.2.2.2),(List.getD a b (Ty.aH bE)).2.2.2.2),c,d,e,f,g,h,i,j,k,l))) fun⟨n,m,p,q,r,s,t,u,v,w,x,o⟩=>if 0≤(List.getD m n (Ty.aH bE)).2.2.2.1.2.2.1 then(if(List.getD m n (Ty.aH bE)).2.2.2.1.2.2.1<(List.length m:Int) then(if 0≤(nth bE m (List.getD m n (Ty.aH bE)).2.2.2.1.2.2.1).2.2.1 then(if(nth bE m (List.getD m n (Ty.aH bE)).2.2.2.1.2.2.1).2.2.1<(List.length o:Int) then(gQ (lh (nth (.map .str (.int .i64)) o (nth bE m (List.getD m n (Ty.aH bE)).2.2.2.1.2.2.1).2.2.1) (List.getD m n (Ty.aH bE)).2.2.2.1.2.1) (fun p6=>some (.inl (p6.1,()))) fun y5=>some (.inr (List.set m n ((List.getD m n (Ty.aH bE)).1,(List.getD m n (Ty.aH bE)).2.1,(List.getD m n (Ty.aH bE)).2.2.1,((List.getD m n (Ty.aH bE)).2.2.2.1.1,(List.getD m n (Ty.aH bE)).2.2.2.1.2.1,(List.getD m n (Ty.aH bE)).2.2.2.1.2.2.1,y5,(List.getD m n (Ty.aH bE)).2.2.2.1.2.2.2.2),(List.getD m n (Ty.aH bE)).2.2.2.2),p,q,r,s,t,u,v,w,x,o))) else none) else none) else none) else none) else(some (.inr (a,c,d,e,f,g,h,i,j,k,l)))
def aiq:SS:=⟨50,90,[(0,.ptr 0 [.idx,.dX 3]),tP 1 1,tP 2 2,tP 3 3],[(0,.row 61 96 bE),(1,.var (.map .str (.int .i64)) (.mp 4)),(2,.var (.aW .ptr) (pP 5)),(3,.var (.aW .ptr) (.ptr 6 [.dX 1])),(4,.map .str (.int .i64)),(5,rB 7),(6,.dA 51 96 bW (.cons (.val .str) (.cons vI (.cons (.own 0) (.val (.pair (.slice 120 cF) (.pair (.slice 80 dE) .unit))))))),(7,.row 252 8 (.map .str (.int .i64)))],[]⟩
def air:SS:=⟨50,90,[(0,.ptr 0 [.idx,.dX 3]),tP 2 2,tP 3 3],[(0,.row 61 96 bE),(1,.var (.map .str (.int .i64)) (.mp 4)),(2,.var (.aW .ptr) (pP 5)),(3,.var (.aW .ptr) (.ptr 6 [.dX 1])),(4,.map .str (.int .i64)),(5,rB 7),(6,.dA 51 96 bW (.cons (.val .str) (.cons vI (.cons (.own 0) (.val (.pair (.slice 120 cF) (.pair (.slice 80 dE) .unit))))))),(7,.row 252 8 (.map .str (.int .i64)))],[]⟩
def ais:SS:=⟨50,90,[],[(0,.row 61 96 bE),(1,.var (.map .str (.int .i64)) (.mp 4)),(2,.var (.aW .ptr) (pP 5)),(3,.var (.aW .ptr) (.ptr 6 [.dX 1])),(4,.map .str (.int .i64)),(5,rB 7),(6,.dA 51 96 bW (.cons (.val .str) (.cons vI (.cons (.own 0) (.val (.pair (.slice 120 cF) (.pair (.slice 80 dE) .unit))))))),(7,.row 252 8 (.map .str (.int .i64)))],[]⟩
def J8:bG:=aG G [] 213 [.ptr 0 [.idx,.dX 3],pP 1,pP 2,pP 3] [(0,.row 61 96 bE),(1,.var (.map .str (.int .i64)) (.mp 4)),(2,.var (.aW .ptr) (pP 5)),(3,.var (.aW .ptr) (.ptr 6 [.dX 1])),(4,.map .str (.int .i64)),(5,rB 7),(6,.dA 51 96 bW (.cons (.val .str) (.cons vI (.cons (.own 0) (.val (.pair (.slice 120 cF) (.pair (.slice 80 dE) .unit))))))),(7,.row 252 8 (.map .str (.int .i64)))] 90 ais [0,1,2,3,4,5,6,7] (.nZ (.iface 241 (.val .unit)) (Wr yk))
theorem SN:hS J8:=
 bG.GD tied (H:=⟨[hA 2 0,hA 3 0],[(1,aiq),(3,air)],[],[],[],[]⟩) (hold (l:=[A6]) ⟨Dv,trivial⟩) aJ rfl Tryz.call213 Tryz.func213 rfl rfl rfl rfl (fun _=>by kernel_rfl) (fun _=>by kernel_rfl)
def Dz(a0:ZC):Option ZC:=
 if(List.length ([]:ZC)+List.length a0)*120≤aF then some a0 else none
def ait:SS:=⟨8,48,[(2,.own 23)],[(23,.row 67 120 cF)],[]⟩
def J9:bG:=aG G [.tmp 2] 214 [.val (.slice 120 cF)] [] 48 ait [23] (.bY (u1 Dz))
theorem SO:hS J9:=
 bG.oU tied (H:=⟨[],[],[],[],[],[]⟩) (hold (l:=[]) trivial) rfl (.tmp 0) 3 4 48 48 67 120 cF (fun d=>d.1) (fun d=>⟨(.val (.slice 120 cF) d.1)::.bot::.aM::List.replicate 5 .bot,List.replicate 48 none,[]⟩) Tryz.call214 Tryz.func214 rfl rfl rfl rfl rfl rfl rfl rfl rfl rfl (by kernel_rfl) (fun _=>by kernel_rfl) (fun _=>by kernel_rfl) (fun _=>rfl) (fun _=>by kernel_rfl) (fun _ _=>by kernel_rfl) (fun d h=>by obtain⟨x,y⟩:=d;cases(h:x= []);kernel_rfl) (fun _=>by kernel_rfl)
def yl(a0:Nat)(a1:ZC)(a2:Zw)(a3:Za)(a4:Za)(a5:Za)(a6:Zl)(a7:Nat)(a8:Zf)(a9:Int)(a10:ZD×Unit)(a11:Zx)(a12:ZA):Option (Sum ZV ZO):=
 aI (U:=Nat×ZO) (some (.aX (a0,List.set (List.set a1 a0 ((List.getD a1 a0 (Ty.aH cF)).1,((List.getD a1 a0 (Ty.aH cF)).2.1.1,(List.getD a1 a0 (Ty.aH cF)).2.1.2.1,(-1:Int),(List.getD a1 a0 (Ty.aH cF)).2.1.2.2.2),(List.getD a1 a0 (Ty.aH cF)).2.2)) a0 ((List.getD (List.set a1 a0 ((List.getD a1 a0 (Ty.aH cF)).1,((List.getD a1 a0 (Ty.aH cF)).2.1.1,(List.getD a1 a0 (Ty.aH cF)).2.1.2.1,(-1:Int),(List.getD a1 a0 (Ty.aH cF)).2.1.2.2.2),(List.getD a1 a0 (Ty.aH cF)).2.2)) a0 (Ty.aH cF)).1,((List.getD (List.set a1 a0 ((List.getD a1 a0 (Ty.aH cF)).1,((List.getD a1 a0 (Ty.aH cF)).2.1.1,(List.getD a1 a0 (Ty.aH cF)).2.1.2.1,(-1:Int),(List.getD a1 a0 (Ty.aH cF)).2.1.2.2.2),(List.getD a1 a0 (Ty.aH cF)).2.2)) a0 (Ty.aH cF)).2.1.1,(List.getD (List.set a1 a0 ((List.getD a1 a0 (Ty.aH cF)).1,((List.getD a1 a0 (Ty.aH cF)).2.1.1,(List.getD a1 a0 (Ty.aH cF)).2.1.2.1,(-1:Int),(List.getD a1 a0 (Ty.aH cF)).2.1.2.2.2),(List.getD a1 a0 (Ty.aH cF)).2.2)) a0 (Ty.aH cF)).2.1.2.1,(List.getD (List.set a1 a0 ((List.getD a1 a0 (Ty.aH cF)).1,((List.getD a1 a0 (Ty.aH cF)).2.1.1,(List.getD a1 a0 (Ty.aH cF)).2.1.2.1,(-1:Int),(List.getD a1 a0 (Ty.aH cF)).2.1.2.2.2),(List.getD a1 a0 (Ty.aH cF)).2.2)) a0 (Ty.aH cF)).2.1.2.2.1,0,(List.getD (List.set a1 a0 ((List.getD a1 a0 (Ty.aH cF)).1,((List.getD a1 a0 (Ty.aH cF)).2.1.1,(List.getD a1 a0 (Ty.aH cF)).2.1.2.1,(-1:Int),(List.getD a1 a0 (Ty.aH cF)).2.1.2.2.2),(List.getD a1 a0 (Ty.aH cF)).2.2)) a0 (Ty.aH cF)).2.1.2.2.2.2),(List.getD (List.set a1 a0 ((List.getD a1 a0 (Ty.aH cF)).1,((List.getD a1 a0 (Ty.aH cF)).2.1.1,(List.getD a1 a0 (Ty.aH cF)).2.1.2.1,(-1:Int),(List.getD a1 a0 (Ty.aH cF)).2.1.2.2.2),(List.getD a1 a0 (Ty.aH cF)).2.2)) a0 (Ty.aH cF)).2.2),a2,a3,a4,a5,a6,a7,a8,a9,a10,a11,a12))) fun⟨b,a,c,d,e,f,g,h,i,j,k,l,m⟩=>if(!decide ((List.getD a b (Ty.aH cF)).2.1.1= []))=true then(aI (U:=Nat×ZO) (gQ (lh (some c) (List.getD a b (Ty.aH cF)).2.1.1) (fun p4=>cU (some (.inl (p4.1,())))) fun y3=>some (.aX (b,List.set a b ((List.getD a b (Ty.aH cF)).1,((List.getD a b (Ty.aH cF)).2.1.1,(List.getD a b (Ty.aH cF)).2.1.2.1,y3,(List.getD a b (Ty.aH cF)).2.1.2.2.2),(List.getD a b (Ty.aH cF)).2.2),c,d,e,f,g,h,i,j,k,l,m))) fun⟨o,n,r,s,t,u,v,w,x,y,z,q,p⟩=>if 0≤(List.getD n o (Ty.aH cF)).2.1.2.2.1 then(if(List.getD n o (Ty.aH cF)).2.1.2.2.1<(List.length p:Int) then(if 0≤(nth bE p (List.getD n o (Ty.aH cF)).2.1.2.2.1).2.2.1 then(if(nth bE p (List.getD n o (Ty.aH cF)).2.1.2.2.1).2.2.1<(List.length q:Int) then(gQ (lh (nth (.map .str (.int .i64)) q (nth bE p (List.getD n o (Ty.aH cF)).2.1.2.2.1).2.2.1) (List.getD n o (Ty.aH cF)).2.1.2.1) (fun p6=>some (.inl (p6.1,()))) fun y5=>some (.inr (List.set n o ((List.getD n o (Ty.aH cF)).1,((List.getD n o (Ty.aH cF)).2.1.1,(List.getD n o (Ty.aH cF)).2.1.2.1,(List.getD n o (Ty.aH cF)).2.1.2.2.1,y5,(List.getD n o (Ty.aH cF)).2.1.2.2.2.2),(List.getD n o (Ty.aH cF)).2.2),r,s,t,u,v,w,x,y,z,q,p))) else none) else none) else none) else none) else(some (.inr (a,c,d,e,f,g,h,i,j,k,l,m)))
def aiu:SS:=⟨50,90,[(0,.ptr 0 [.idx,.dX 1]),tP 1 1,tP 2 2,tP 3 3],[(0,.row 67 120 cF),(1,.var (.map .str (.int .i64)) (.mp 4)),(2,.var (.aW .ptr) (pP 5)),(3,.var (.aW .ptr) (.ptr 6 [.dX 1])),(4,.map .str (.int .i64)),(5,rB 7),(6,.dA 51 96 bW (.cons (.val .str) (.cons vI (.cons (.own 8) (.cons (.own 0) (.val (.pair (.slice 80 dE) .unit))))))),(7,.row 252 8 (.map .str (.int .i64))),(8,.row 61 96 bE)],[]⟩
def aiv:SS:=⟨50,90,[(0,.ptr 0 [.idx,.dX 1]),tP 2 2,tP 3 3],[(0,.row 67 120 cF),(1,.var (.map .str (.int .i64)) (.mp 4)),(2,.var (.aW .ptr) (pP 5)),(3,.var (.aW .ptr) (.ptr 6 [.dX 1])),(4,.map .str (.int .i64)),(5,rB 7),(6,.dA 51 96 bW (.cons (.val .str) (.cons vI (.cons (.own 8) (.cons (.own 0) (.val (.pair (.slice 80 dE) .unit))))))),(7,.row 252 8 (.map .str (.int .i64))),(8,.row 61 96 bE)],[]⟩
def aaw:SS:=⟨50,90,[],[(0,.row 67 120 cF),(1,.var (.map .str (.int .i64)) (.mp 4)),(2,.var (.aW .ptr) (pP 5)),(3,.var (.aW .ptr) (.ptr 6 [.dX 1])),(4,.map .str (.int .i64)),(5,rB 7),(6,.dA 51 96 bW (.cons (.val .str) (.cons vI (.cons (.own 8) (.cons (.own 0) (.val (.pair (.slice 80 dE) .unit))))))),(7,.row 252 8 (.map .str (.int .i64))),(8,.row 61 96 bE)],[]⟩
def Ka:bG:=aG G [] 213 [.ptr 0 [.idx,.dX 1],pP 1,pP 2,pP 3] [(0,.row 67 120 cF),(1,.var (.map .str (.int .i64)) (.mp 4)),(2,.var (.aW .ptr) (pP 5)),(3,.var (.aW .ptr) (.ptr 6 [.dX 1])),(4,.map .str (.int .i64)),(5,rB 7),(6,.dA 51 96 bW (.cons (.val .str) (.cons vI (.cons (.own 8) (.cons (.own 0) (.val (.pair (.slice 80 dE) .unit))))))),(7,.row 252 8 (.map .str (.int .i64))),(8,.row 61 96 bE)] 90 aaw [0,1,2,3,4,5,6,7,8] (.nZ (.iface 241 (.val .unit)) (LU yl))
theorem SP:hS Ka:=
 bG.GD tied (H:=⟨[hA 2 0,hA 3 0],[(1,aiu),(3,aiv)],[],[],[],[]⟩) (hold (l:=[A6]) ⟨Dv,trivial⟩) aJ rfl Tryz.call213 Tryz.func213 rfl rfl rfl rfl (fun _=>by kernel_rfl) (fun _=>by kernel_rfl)
end Go.Proofs.YtkhfnbfpgcjllaaGreatDoor
