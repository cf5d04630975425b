/- part -/
import Derived.Test.YtkhfnbfpgcjllaaGreatDoorF2
noncomputable section
namespace Go.Proofs.YtkhfnbfpgcjllaaGreatDoor
open Go.Ax
def Sj(a0:Zf):Option Zf:=
 some a0
def ahA:SS:=⟨4,44,[(2,.val .str)],[],[]⟩
def ahB:bH:=aI G [.tmp 2] 198 [.val .str] [] 44 ahA [] (.bZ (u1 Sj))
theorem ahC:hS ahB:=
 cO (hR []) hz aJ Tryz.call198 Tryz.func198
def Io:Nat→Bool×Zs×Int×Int×Zx→XT:=aL fun aoP ⟨e,c,b,a,d⟩=>if(decide (a<b))=true then(if 0≤a then(if a<(List.length c:Int) then(Option.bind (Sj (nth .str c a)) fun y4=>if(ep .str y4 d)=true then(aoP (true,c,b,aQ (a+1),d)) else(Option.bind (Sj (nth .str c a)) fun y5=>if List.length d+1≤aF then(aoP (e,c,b,aQ (a+1),bK .str y5 a d)) else none)) else none) else none) else(some (.aS (e,d)))
def Dp(a0:Zs):Option (Za×Bool):=
 aG (U:=Bool×Zx) (Io (Int.toNat (List.length a0:Int)+1) (false,a0,(List.length a0:Int),0,([]:Zx))) fun⟨b,a⟩=>some (some a,b)
def ahD:SS:=⟨37,77,[(4,.mp 28),(5,vB)],[(28,.map .str (.int .i64))],[]⟩
def ahE:SS:=⟨37,77,[(1,.func 198 .nil .nil),(4,.mp 28),(5,vB),(13,.val (.slice 16 .str)),tI 14,tI 15],[(28,.map .str (.int .i64))],[]⟩
def ahF:SS:=⟨37,77,[(4,vM),(5,vB)],[],[]⟩
def Sk:bH:=aI G [.tmp 4,.tmp 5] 197 [.val (.slice 16 .str),.func 198 .nil .nil] [] 77 ahF [] (.bZ (u1 Dp))
theorem Sl:hS Sk:=
 cO ⟨[hA 5 0,hA 8 0],[(10,ahD)],[],[(3,⟨ahE,fun u2=>Int.toNat u2.2.2.1+1⟩)],[],[]⟩ (hq ahC hz) aJ Tryz.call197 Tryz.func197
def Sm(a0:gQ):Option Zf:=
 some a0.1
def ahG:SS:=⟨5,45,[(2,.val .str)],[],[]⟩
def ahH:bH:=aI G [.tmp 2] 200 [.val bB] [] 45 ahG [] (.bZ (u1 Sm))
theorem ahI:hS ahH:=
 cO (hR []) hz aJ Tryz.call200 Tryz.func200
def Ip:Nat→Bool×Zw×Int×Int×Zx→XT:=aL fun aoP ⟨e,c,b,a,d⟩=>if(decide (a<b))=true then(if 0≤a then(if a<(List.length c:Int) then(Option.bind (Sm (nth bB c a)) fun y4=>if(ep .str y4 d)=true then(aoP (true,c,b,aQ (a+1),d)) else(Option.bind (Sm (nth bB c a)) fun y5=>if List.length d+1≤aF then(aoP (e,c,b,aQ (a+1),bK .str y5 a d)) else none)) else none) else none) else(some (.aS (e,d)))
def Dq(a0:Zw):Option (Za×Bool):=
 aG (U:=Bool×Zx) (Ip (Int.toNat (List.length a0:Int)+1) (false,a0,(List.length a0:Int),0,([]:Zx))) fun⟨b,a⟩=>some (some a,b)
def ahJ:SS:=⟨37,77,[(4,.mp 28),(5,vB)],[(28,.map .str (.int .i64))],[]⟩
def ahK:SS:=⟨37,77,[(1,.func 200 .nil .nil),(4,.mp 28),(5,vB),(13,.val (.slice 56 bB)),tI 14,tI 15],[(28,.map .str (.int .i64))],[]⟩
def ahL:SS:=⟨37,77,[(4,vM),(5,vB)],[],[]⟩
def Sn:bH:=aI G [.tmp 4,.tmp 5] 199 [.val (.slice 56 bB),.func 200 .nil .nil] [] 77 ahL [] (.bZ (u1 Dq))
theorem So:hS Sn:=
 cO ⟨[hA 5 0,hA 8 0],[(10,ahJ)],[],[(3,⟨ahK,fun u2=>Int.toNat u2.2.2.1+1⟩)],[],[]⟩ (hq ahI hz) aJ Tryz.call199 Tryz.func199
def Sp(a0:qd):Option Zf:=
 some a0.1
def ahM:SS:=⟨5,45,[(2,.val .str)],[],[]⟩
def ahN:bH:=aI G [.tmp 2] 202 [.val aU] [] 45 ahM [] (.bZ (u1 Sp))
theorem ahO:hS ahN:=
 cO (hR []) hz aJ Tryz.call202 Tryz.func202
def Iq:Nat→Bool×Zn×Int×Int×Zx→XT:=aL fun aoP ⟨e,c,b,a,d⟩=>if(decide (a<b))=true then(if 0≤a then(if a<(List.length c:Int) then(Option.bind (Sp (nth aU c a)) fun y4=>if(ep .str y4 d)=true then(aoP (true,c,b,aQ (a+1),d)) else(Option.bind (Sp (nth aU c a)) fun y5=>if List.length d+1≤aF then(aoP (e,c,b,aQ (a+1),bK .str y5 a d)) else none)) else none) else none) else(some (.aS (e,d)))
def Dr(a0:Zn):Option (Za×Bool):=
 aG (U:=Bool×Zx) (Iq (Int.toNat (List.length a0:Int)+1) (false,a0,(List.length a0:Int),0,([]:Zx))) fun⟨b,a⟩=>some (some a,b)
def ahP:SS:=⟨37,77,[(4,.mp 28),(5,vB)],[(28,.map .str (.int .i64))],[]⟩
def ahQ:SS:=⟨37,77,[(1,.func 202 .nil .nil),(4,.mp 28),(5,vB),(13,.val (.slice 96 aU)),tI 14,tI 15],[(28,.map .str (.int .i64))],[]⟩
def ahR:SS:=⟨37,77,[(4,vM),(5,vB)],[],[]⟩
def Sq:bH:=aI G [.tmp 4,.tmp 5] 201 [.val (.slice 96 aU),.func 202 .nil .nil] [] 77 ahR [] (.bZ (u1 Dr))
theorem Sr:hS Sq:=
 cO ⟨[hA 5 0,hA 8 0],[(10,ahP)],[],[(3,⟨ahQ,fun u2=>Int.toNat u2.2.2.1+1⟩)],[],[]⟩ (hq ahO hz) aJ Tryz.call201 Tryz.func201
def Ss(a0:tq):Option Zf:=
 some a0.1
def ahS:SS:=⟨5,45,[(2,.val .str)],[],[]⟩
def ahT:bH:=aI G [.tmp 2] 204 [.val fv] [] 45 ahS [] (.bZ (u1 Ss))
theorem ahU:hS ahT:=
 cO (hR []) hz aJ Tryz.call204 Tryz.func204
def Ir:Nat→Bool×Zz×Int×Int×Zx→XT:=aL fun aoP ⟨e,c,b,a,d⟩=>if(decide (a<b))=true then(if 0≤a then(if a<(List.length c:Int) then(Option.bind (Ss (nth fv c a)) fun y4=>if(ep .str y4 d)=true then(aoP (true,c,b,aQ (a+1),d)) else(Option.bind (Ss (nth fv c a)) fun y5=>if List.length d+1≤aF then(aoP (e,c,b,aQ (a+1),bK .str y5 a d)) else none)) else none) else none) else(some (.aS (e,d)))
def Ds(a0:Zz):Option (Za×Bool):=
 aG (U:=Bool×Zx) (Ir (Int.toNat (List.length a0:Int)+1) (false,a0,(List.length a0:Int),0,([]:Zx))) fun⟨b,a⟩=>some (some a,b)
def ahV:SS:=⟨37,77,[(4,.mp 28),(5,vB)],[(28,.map .str (.int .i64))],[]⟩
def ahW:SS:=⟨37,77,[(1,.func 204 .nil .nil),(4,.mp 28),(5,vB),(13,.val (.slice 48 fv)),tI 14,tI 15],[(28,.map .str (.int .i64))],[]⟩
def ahX:SS:=⟨37,77,[(4,vM),(5,vB)],[],[]⟩
def Su:bH:=aI G [.tmp 4,.tmp 5] 203 [.val (.slice 48 fv),.func 204 .nil .nil] [] 77 ahX [] (.bZ (u1 Ds))
theorem Sv:hS Su:=
 cO ⟨[hA 5 0,hA 8 0],[(10,ahV)],[],[(3,⟨ahW,fun u2=>Int.toNat u2.2.2.1+1⟩)],[],[]⟩ (hq ahU hz) aJ Tryz.call203 Tryz.func203
def Sw(a0:Ig):Option Zf:=
 some a0.1
def ahY:SS:=⟨5,45,[(2,.val .str)],[],[]⟩
def ahZ:bH:=aI G [.tmp 2] 206 [.val cS] [] 45 ahY [] (.bZ (u1 Sw))
theorem ah0:hS ahZ:=
 cO (hR []) hz aJ Tryz.call206 Tryz.func206
def Is:Nat→Bool×ZG×Int×Int×Zx→XT:=aL fun aoP ⟨e,c,b,a,d⟩=>if(decide (a<b))=true then(if 0≤a then(if a<(List.length c:Int) then(Option.bind (Sw (nth cS c a)) fun y4=>if(ep .str y4 d)=true then(aoP (true,c,b,aQ (a+1),d)) else(Option.bind (Sw (nth cS c a)) fun y5=>if List.length d+1≤aF then(aoP (e,c,b,aQ (a+1),bK .str y5 a d)) else none)) else none) else none) else(some (.aS (e,d)))
def Dt(a0:ZG):Option (Za×Bool):=
 aG (U:=Bool×Zx) (Is (Int.toNat (List.length a0:Int)+1) (false,a0,(List.length a0:Int),0,([]:Zx))) fun⟨b,a⟩=>some (some a,b)
def ah1:SS:=⟨37,77,[(4,.mp 28),(5,vB)],[(28,.map .str (.int .i64))],[]⟩
def ah2:SS:=⟨37,77,[(1,.func 206 .nil .nil),(4,.mp 28),(5,vB),(13,.val (.slice 120 cS)),tI 14,tI 15],[(28,.map .str (.int .i64))],[]⟩
def ah3:SS:=⟨37,77,[(4,vM),(5,vB)],[],[]⟩
def Sx:bH:=aI G [.tmp 4,.tmp 5] 205 [.val (.slice 120 cS),.func 206 .nil .nil] [] 77 ah3 [] (.bZ (u1 Dt))
theorem Sy:hS Sx:=
 cO ⟨[hA 5 0,hA 8 0],[(10,ah1)],[],[(3,⟨ah2,fun u2=>Int.toNat u2.2.2.1+1⟩)],[],[]⟩ (hq ah0 hz) aJ Tryz.call205 Tryz.func205
def Sz(a0:Ih):Option Zf:=
 some a0.1
def ah4:SS:=⟨5,45,[(2,.val .str)],[],[]⟩
def ah5:bH:=aI G [.tmp 2] 208 [.val bG] [] 45 ah4 [] (.bZ (u1 Sz))
theorem ah6:hS ah5:=
 cO (hR []) hz aJ Tryz.call208 Tryz.func208
def It:Nat→Bool×ZB×Int×Int×Zx→XT:=aL fun aoP ⟨e,c,b,a,d⟩=>if(decide (a<b))=true then(if 0≤a then(if a<(List.length c:Int) then(Option.bind (Sz (nth bG c a)) fun y4=>if(ep .str y4 d)=true then(aoP (true,c,b,aQ (a+1),d)) else(Option.bind (Sz (nth bG c a)) fun y5=>if List.length d+1≤aF then(aoP (e,c,b,aQ (a+1),bK .str y5 a d)) else none)) else none) else none) else(some (.aS (e,d)))
def Du(a0:ZB):Option (Za×Bool):=
 aG (U:=Bool×Zx) (It (Int.toNat (List.length a0:Int)+1) (false,a0,(List.length a0:Int),0,([]:Zx))) fun⟨b,a⟩=>some (some a,b)
def ah7:SS:=⟨37,77,[(4,.mp 28),(5,vB)],[(28,.map .str (.int .i64))],[]⟩
def ah8:SS:=⟨37,77,[(1,.func 208 .nil .nil),(4,.mp 28),(5,vB),(13,.val (.slice 96 bG)),tI 14,tI 15],[(28,.map .str (.int .i64))],[]⟩
def ah9:SS:=⟨37,77,[(4,vM),(5,vB)],[],[]⟩
def SC:bH:=aI G [.tmp 4,.tmp 5] 207 [.val (.slice 96 bG),.func 208 .nil .nil] [] 77 ah9 [] (.bZ (u1 Du))
theorem SD:hS SC:=
 cO ⟨[hA 5 0,hA 8 0],[(10,ah7)],[],[(3,⟨ah8,fun u2=>Int.toNat u2.2.2.1+1⟩)],[],[]⟩ (hq ah6 hz) aJ Tryz.call207 Tryz.func207
def oq:Nat→Bool×Zn×Int×Int×bF×R8→Option (dN (Bool×bF×R8) (Bool×R8)):=aL fun rec10 ⟨g,e,d,c,h,i,j,k,f⟩=>if(decide (c<d))=true then(if 0≤c then(if c<(List.length e:Int) then(Option.bind (Dt (nth aU e c).2.2.2.2.1) fun⟨a,b⟩=>if(List.length f+List.length [a])*8≤aF then(Option.bind (α:=Bool) (if g=true then(some true) else(some b)) fun v12=>rec10 (v12,e,d,aQ (c+1),h,i,j,k,f++[a])) else none) else none) else none) else(some (.aS (g,h,i,j,k,f)))
def ot:Nat→Bool×Zl×Int×Int×R8→Option (dN (Bool×R8) (Bool×R8)):=aL fun rec15 ⟨e,d,c,b,f,g,h,i⟩=>if(decide (b<c))=true then(if 0≤b then(if b<(List.length d:Int) then(Option.bind (Du (nth bX d b).2.2.1) fun⟨_,a⟩=>Option.bind (α:=Bool) (if e=true then(some true) else(some a)) fun v17=>rec15 (v17,d,c,aQ (b+1),f,g,h,i)) else none) else none) else(some (.aS (e,f,g,h,i)))
def yq(a0:bF):Option (Bool×R8):=
 Option.bind (Dp a0.1) fun⟨b,a⟩=>Option.bind (Dq a0.2.1) fun⟨d,c⟩=>Option.bind (α:=Bool) (if a=true then(some true) else(some c)) fun v3=>Option.bind (Dr a0.2.2.1) fun⟨f,e⟩=>Option.bind (α:=Bool) (if v3=true then(some true) else(some e)) fun v5=>Option.bind (Ds a0.2.2.2.2.2.1) fun⟨_,g⟩=>Option.bind (α:=Bool) (if v5=true then(some true) else(some g)) fun v7=>aG (U:=Bool×bF×R8) (oq (Int.toNat (List.length a0.2.2.1:Int)+1) (v7,a0.2.2.1,(List.length a0.2.2.1:Int),0,a0,b,d,f,([]:Zy))) fun⟨i,h,j,k,l,m⟩=>aG (U:=Bool×R8) (ot (Int.toNat (List.length h.2.2.2.1:Int)+1) (i,h.2.2.2.1,(List.length h.2.2.2.1:Int),0,j,k,l,m)) fun⟨n,o,p,q,r⟩=>some (n,o,p,q,r)
def aia:SS:=⟨108,148,[tP 1 17,tP 2 30,(3,vB)],[(17,bV eR),(30,rB 125),(125,.row 252 8 (.map .str (.int .i64)))],[]⟩
def aaw:SS:=⟨108,148,[tP 2 30,(3,vB)],[(30,rB 125),(125,.row 252 8 (.map .str (.int .i64)))],[]⟩
def aib:SS:=⟨108,148,[tP 1 17,tP 2 30,(3,vB),(61,.val (.slice 96 aU)),tI 62,tI 63],[(17,bV eR),(30,rB 124),(124,.row 252 8 (.map .str (.int .i64)))],[]⟩
def aic:SS:=⟨108,148,[tP 2 30,(3,vB),(89,.val (.slice 96 bX)),tI 90,tI 91],[(30,rB 125),(125,.row 252 8 (.map .str (.int .i64)))],[]⟩
def J0:bH:=aI G [.tmp 2,.tmp 3] 120 [.val eR] [] 148 aaw [30,125] (.bZ (u1 yq))
theorem SE:hS J0:=
 cO ⟨[hA 3 0,hA 4 1,hD 5 3 [],hA 6 2,hD 7 3 [],hA 8 3,hD 9 3 [],hA 13 4,hD 15 3 [],hA 20 5,hD 21 3 []],[(17,aia),(23,aaw)],[],[(11,⟨aib,fun u9=>Int.toNat u9.2.2.1+1⟩),(18,⟨aic,fun Wx=>Int.toNat Wx.2.2.1+1⟩)],[],[]⟩ (hq Sl (hq So (hq Sr (hq Sv (hq Sy (hq SD hz)))))) aJ Tryz.call120 Tryz.func120
def Dv(a0:Zs):Option Zs:=
 if(List.length ([]:Zs)+List.length a0)*16≤aF then some a0 else none
def aid:SS:=⟨8,48,[(2,.own 23)],[(23,.row 9 16 .str)],[]⟩
def J1:bH:=aI G [.tmp 2] 122 [.val (.slice 16 .str)] [] 48 aid [23] (.bZ (u1 Dv))
theorem SF:hS J1:=
 bH.pg tied (H:=⟨[],[],[],[],[],[]⟩) (hold (l:=[]) trivial) rfl (.tmp 0) 3 4 22 22 9 16 .str (fun d=>d.1) (fun d=>⟨(.val (.slice 16 .str) d.1)::.bot::.aM::List.replicate 5 .bot,List.replicate 48 none,[]⟩) Tryz.call122 Tryz.func122 rfl rfl rfl rfl rfl rfl rfl rfl rfl rfl (by kernel_rfl) (fun _=>by kernel_rfl) (fun _=>by kernel_rfl) (fun _=>rfl) (fun _=>by kernel_rfl) (fun _ _=>by kernel_rfl) (fun d h=>by obtain⟨x,y⟩:=d;cases(h:x= []);kernel_rfl) (fun _=>by kernel_rfl)
def Dw(a0:Zw):Option Zw:=
 if(List.length ([]:Zw)+List.length a0)*56≤aF then some a0 else none
def aie:SS:=⟨8,48,[(2,.own 23)],[(23,.row 157 56 bB)],[]⟩
def J2:bH:=aI G [.tmp 2] 123 [.val (.slice 56 bB)] [] 48 aie [23] (.bZ (u1 Dw))
theorem SG:hS J2:=
 bH.pg tied (H:=⟨[],[],[],[],[],[]⟩) (hold (l:=[]) trivial) rfl (.tmp 0) 3 4 23 23 157 56 bB (fun d=>d.1) (fun d=>⟨(.val (.slice 56 bB) d.1)::.bot::.aM::List.replicate 5 .bot,List.replicate 48 none,[]⟩) Tryz.call123 Tryz.func123 rfl rfl rfl rfl rfl rfl rfl rfl rfl rfl (by kernel_rfl) (fun _=>by kernel_rfl) (fun _=>by kernel_rfl) (fun _=>rfl) (fun _=>by kernel_rfl) (fun _ _=>by kernel_rfl) (fun d h=>by obtain⟨x,y⟩:=d;cases(h:x= []);kernel_rfl) (fun _=>by kernel_rfl)
def Dx(a0:Zn):Option Zn:=
 if(List.length ([]:Zn)+List.length a0)*96≤aF then some a0 else none
def aif:SS:=⟨8,48,[(2,.own 23)],[(23,.row 113 96 aU)],[]⟩
def J3:bH:=aI G [.tmp 2] 124 [.val (.slice 96 aU)] [] 48 aif [23] (.bZ (u1 Dx))
theorem SH:hS J3:=
 bH.pg tied (H:=⟨[],[],[],[],[],[]⟩) (hold (l:=[]) trivial) rfl (.tmp 0) 3 4 24 24 113 96 aU (fun d=>d.1) (fun d=>⟨(.val (.slice 96 aU) d.1)::.bot::.aM::List.replicate 5 .bot,List.replicate 48 none,[]⟩) Tryz.call124 Tryz.func124 rfl rfl rfl rfl rfl rfl rfl rfl rfl rfl (by kernel_rfl) (fun _=>by kernel_rfl) (fun _=>by kernel_rfl) (fun _=>rfl) (fun _=>by kernel_rfl) (fun _ _=>by kernel_rfl) (fun d h=>by obtain⟨x,y⟩:=d;cases(h:x= []);kernel_rfl) (fun _=>by kernel_rfl)
def Dy(a0:Zl):Option Zl:=
 if(List.length ([]:Zl)+List.length a0)*96≤aF then some a0 else none
def aih:SS:=⟨8,48,[(2,.own 23)],[(23,.row 51 96 bX)],[]⟩
def J4:bH:=aI G [.tmp 2] 125 [.val (.slice 96 bX)] [] 48 aih [23] (.bZ (u1 Dy))
theorem SI:hS J4:=
 bH.pg tied (H:=⟨[],[],[],[],[],[]⟩) (hold (l:=[]) trivial) rfl (.tmp 0) 3 4 25 25 51 96 bX (fun d=>d.1) (fun d=>⟨(.val (.slice 96 bX) d.1)::.bot::.aM::List.replicate 5 .bot,List.replicate 48 none,[]⟩) Tryz.call125 Tryz.func125 rfl rfl rfl rfl rfl rfl rfl rfl rfl rfl (by kernel_rfl) (fun _=>by kernel_rfl) (fun _=>by kernel_rfl) (fun _=>rfl) (fun _=>by kernel_rfl) (fun _ _=>by kernel_rfl) (fun d h=>by obtain⟨x,y⟩:=d;cases(h:x= []);kernel_rfl) (fun _=>by kernel_rfl)
def Dz(a0:ZC):Option ZC:=
 if(List.length ([]:ZC)+List.length a0)*72≤aF then some a0 else none
def aii:SS:=⟨8,48,[(2,.own 23)],[(23,.row 198 72 iU)],[]⟩
def J5:bH:=aI G [.tmp 2] 126 [.val (.slice 72 iU)] [] 48 aii [23] (.bZ (u1 Dz))
theorem SK:hS J5:=
 bH.pg tied (H:=⟨[],[],[],[],[],[]⟩) (hold (l:=[]) trivial) rfl (.tmp 0) 3 4 26 26 198 72 iU (fun d=>d.1) (fun d=>⟨(.val (.slice 72 iU) d.1)::.bot::.aM::List.replicate 5 .bot,List.replicate 48 none,[]⟩) Tryz.call126 Tryz.func126 rfl rfl rfl rfl rfl rfl rfl rfl rfl rfl (by kernel_rfl) (fun _=>by kernel_rfl) (fun _=>by kernel_rfl) (fun _=>rfl) (fun _=>by kernel_rfl) (fun _ _=>by kernel_rfl) (fun d h=>by obtain⟨x,y⟩:=d;cases(h:x= []);kernel_rfl) (fun _=>by kernel_rfl)
def DA(a0:Zz):Option Zz:=
 if(List.length ([]:Zz)+List.length a0)*48≤aF then some a0 else none
def aij:SS:=⟨8,48,[(2,.own 23)],[(23,.row 191 48 fv)],[]⟩
def J6:bH:=aI G [.tmp 2] 127 [.val (.slice 48 fv)] [] 48 aij [23] (.bZ (u1 DA))
theorem SL:hS J6:=
 bH.pg tied (H:=⟨[],[],[],[],[],[]⟩) (hold (l:=[]) trivial) rfl (.tmp 0) 3 4 27 27 191 48 fv (fun d=>d.1) (fun d=>⟨(.val (.slice 48 fv) d.1)::.bot::.aM::List.replicate 5 .bot,List.replicate 48 none,[]⟩) Tryz.call127 Tryz.func127 rfl rfl rfl rfl rfl rfl rfl rfl rfl rfl (by kernel_rfl) (fun _=>by kernel_rfl) (fun _=>by kernel_rfl) (fun _=>rfl) (fun _=>by kernel_rfl) (fun _ _=>by kernel_rfl) (fun d h=>by obtain⟨x,y⟩:=d;cases(h:x= []);kernel_rfl) (fun _=>by kernel_rfl)
def lz(a0:Za)(a1:Zf):Option (Sum ZZ Int):=
 if(!(ep .str a1 (bA a0)))=true then(some (.inl ((),()))) else(some (.inr (aO .str (.int .i64) a1 (bA a0))))
def aik:SS:=⟨18,58,[tI 4],[],[]⟩
def Be:bH:=aI G [.tmp 4] 209 [vM,.val .str] [] 58 aik [] (.oi (.iface 241 (.val .unit)) (u2 lz))
theorem DB:hS Be:=
 bH.GL tied (H:=⟨[],[],[],[],[],[]⟩) (hold (l:=[]) trivial) aJ rfl Tryz.call209 Tryz.func209 rfl rfl rfl rfl (fun _=>by kernel_rfl) (fun _=>by kernel_rfl)
def zY:Nat→Int×Int×Wy→Option (dN Wy (Sum ZZ Wy)):=aL fun aoP ⟨t,s,v,w,x,u,y⟩=>if(decide (s<t))=true then(if 0≤s then(if s<(List.length u:Int) then(if(decide ((nth bB u s).2.1= []))=true then(aoP (t,aQ (s+1),v,w,x,List.set (List.set u (Int.toNat s) ((nth bB u s).1,(nth bB u s).2.1,(nth bB u s).2.2.1,s,(nth bB u s).2.2.2.2)) (Int.toNat s) ((nth bB (List.set u (Int.toNat s) ((nth bB u s).1,(nth bB u s).2.1,(nth bB u s).2.2.1,s,(nth bB u s).2.2.2.2)) s).1,(nth bB (List.set u (Int.toNat s) ((nth bB u s).1,(nth bB u s).2.1,(nth bB u s).2.2.1,s,(nth bB u s).2.2.2.2)) s).2.1,(nth bB (List.set u (Int.toNat s) ((nth bB u s).1,(nth bB u s).2.1,(nth bB u s).2.2.1,s,(nth bB u s).2.2.2.2)) s).2.2.1,(nth bB (List.set u (Int.toNat s) ((nth bB u s).1,(nth bB u s).2.1,(nth bB u s).2.2.1,s,(nth bB u s).2.2.2.2)) s).2.2.2.1,1,(nth bB (List.set u (Int.toNat s) ((nth bB u s).1,(nth bB u s).2.1,(nth bB u s).2.2.1,s,(nth bB u s).2.2.2.2)) s).2.2.2.2.2),y)) else(gX (lz w (nth bB u s).2.1) (fun p8=>cN (some (.inl (p8.1,())))) fun y4=>aG (U:=Nat×Int×Int×Int×Wy) (if(decide (s≤y4))=true then(cN (cN (some (.inl ((),()))))) else(some (.aS (Int.toNat s,y4,t,s,v,w,x,u,y)))) fun⟨c,a,d,e,f,g,h,b,i⟩=>aG (U:=Nat×Int×Int×Int×Wy) (if 0≤a then(if a<(List.length b:Int) then(some (.aS (c,a,d,e,f,g,h,List.set (List.set b c ((List.getD b c (Ty.aH bB)).1,(List.getD b c (Ty.aH bB)).2.1,(List.getD b c (Ty.aH bB)).2.2.1,(nth bB b a).2.2.2.1,(List.getD b c (Ty.aH bB)).2.2.2.2)) c ((List.getD (List.set b c ((List.getD b c (Ty.aH bB)).1,(List.getD b c (Ty.aH bB)).2.1,(List.getD b c (Ty.aH bB)).2.2.1,(nth bB b a).2.2.2.1,(List.getD b c (Ty.aH bB)).2.2.2.2)) c (Ty.aH bB)).1,(List.getD (List.set b c ((List.getD b c (Ty.aH bB)).1,(List.getD b c (Ty.aH bB)).2.1,(List.getD b c (Ty.aH bB)).2.2.1,(nth bB b a).2.2.2.1,(List.getD b c (Ty.aH bB)).2.2.2.2)) c (Ty.aH bB)).2.1,(List.getD (List.set b c ((List.getD b c (Ty.aH bB)).1,(List.getD b c (Ty.aH bB)).2.1,(List.getD b c (Ty.aH bB)).2.2.1,(nth bB b a).2.2.2.1,(List.getD b c (Ty.aH bB)).2.2.2.2)) c (Ty.aH bB)).2.2.1,(List.getD (List.set b c ((List.getD b c (Ty.aH bB)).1,(List.getD b c (Ty.aH bB)).2.1,(List.getD b c (Ty.aH bB)).2.2.1,(nth bB b a).2.2.2.1,(List.getD b c (Ty.aH bB)).2.2.2.2)) c (Ty.aH bB)).2.2.2.1,0,(List.getD (List.set b c ((List.getD b c (Ty.aH bB)).1,(List.getD b c (Ty.aH bB)).2.1,(List.getD b c (Ty.aH bB)).2.2.1,(nth bB b a).2.2.2.1,(List.getD b c (Ty.aH bB)).2.2.2.2)) c (Ty.aH bB)).2.2.2.2.2),i))) else none) else none) fun⟨k,l,m,n,o,p,q,j,r⟩=>Option.bind (α:=Bool) (if(decide ((2:Int)≤(List.getD j k (Ty.aH bB)).2.2.1))=true then(if(decide ((List.getD j k (Ty.aH bB)).2.2.1≤(1000:Int)))=true then(if 0≤l then(if l<(List.length j:Int) then(some (decide ((aQ ((List.getD j k (Ty.aH bB)).2.2.1*(nth bB j l).2.2.2.2.1))≤(1099511627776:Int)))) else none) else none) else(some false)) else(some false)) fun v7=>if v7=true then(if 0≤l then(if l<(List.length j:Int) then(aoP (m,aQ (n+1),o,p,q,List.set j k ((List.getD j k (Ty.aH bB)).1,(List.getD j k (Ty.aH bB)).2.1,(List.getD j k (Ty.aH bB)).2.2.1,(List.getD j k (Ty.aH bB)).2.2.2.1,aQ ((List.getD j k (Ty.aH bB)).2.2.1*(nth bB j l).2.2.2.2.1),(List.getD j k (Ty.aH bB)).2.2.2.2.2),r)) else none) else none) else(aoP (m,aQ (n+1),o,p,q,j,r)))) else none) else none) else(some (.aS (v,w,x,u,y)))
def yr(a0:Za)(a1:Za)(a2:Za)(a3:Zw)(a4:Zy):Option (Sum ZZ Wy):=
 aG (U:=Wy) (zY (Int.toNat (List.length a3:Int)+1) ((List.length a3:Int),0,a0,a1,a2,a3,a4)) fun⟨a,b,c,d,e⟩=>some (.inr (a,b,c,d,e))
def aax:SS:=⟨91,131,[tP 0 0,(1,.own 1),(5,.ptr 1 [.idx]),tI 6,tI 8,tI 9],[(0,rB 2),(1,.row 157 56 bB),(2,.row 252 8 (.map .str (.int .i64)))],[]⟩
def aay:SS:=⟨91,131,[],[(0,rB 2),(1,.row 157 56 bB),(2,.row 252 8 (.map .str (.int .i64)))],[]⟩
def ail:SS:=⟨91,131,[tP 0 0,(1,.own 1),tI 8,tI 9],[(0,rB 2),(1,.row 157 56 bB),(2,.row 252 8 (.map .str (.int .i64)))],[]⟩
def J7:bH:=aI G [] 128 [pP 0,.own 1] [(0,rB 2),(1,.row 157 56 bB),(2,.row 252 8 (.map .str (.int .i64)))] 131 aay [0,1,2] (.oi (.iface 241 (.val .unit)) (u5 yr))
theorem SN:hS J7:=
 bH.GL tied (H:=⟨[hA 6 0,hD 10 76 []],[(9,aax),(10,aax)],[(0,aay)],[(1,⟨ail,fun u2=>Int.toNat u2.1+1⟩)],[],[]⟩) (hold (l:=[Be]) ⟨DB,trivial⟩) aJ rfl Tryz.call128 Tryz.func128 rfl rfl rfl rfl (fun _=>by kernel_rfl) (fun _=>by kernel_rfl)
def DD(a0:ZG):Option ZG:=
 if(List.length ([]:ZG)+List.length a0)*120≤aF then some a0 else none
def aim:SS:=⟨8,48,[(2,.own 23)],[(23,.row 146 120 cS)],[]⟩
def J8:bH:=aI G [.tmp 2] 210 [.val (.slice 120 cS)] [] 48 aim [23] (.bZ (u1 DD))
theorem SO:hS J8:=
 bH.pg tied (H:=⟨[],[],[],[],[],[]⟩) (hold (l:=[]) trivial) rfl (.tmp 0) 3 4 110 110 146 120 cS (fun d=>d.1) (fun d=>⟨(.val (.slice 120 cS) d.1)::.bot::.aM::List.replicate 5 .bot,List.replicate 48 none,[]⟩) Tryz.call210 Tryz.func210 rfl rfl rfl rfl rfl rfl rfl rfl rfl rfl (by kernel_rfl) (fun _=>by kernel_rfl) (fun _=>by kernel_rfl) (fun _=>rfl) (fun _=>by kernel_rfl) (fun _ _=>by kernel_rfl) (fun d h=>by obtain⟨x,y⟩:=d;cases(h:x= []);kernel_rfl) (fun _=>by kernel_rfl)
def DE(a0:Ij):Option Ij:=
 if(List.length ([]:Ij)+List.length a0)*72≤aF then some a0 else none
def ain:SS:=⟨8,48,[(2,.own 23)],[(23,.row 271 72 iJ)],[]⟩
def J9:bH:=aI G [.tmp 2] 211 [.val (.slice 72 iJ)] [] 48 ain [23] (.bZ (u1 DE))
theorem SP:hS J9:=
 bH.pg tied (H:=⟨[],[],[],[],[],[]⟩) (hold (l:=[]) trivial) rfl (.tmp 0) 3 4 111 111 271 72 iJ (fun d=>d.1) (fun d=>⟨(.val (.slice 72 iJ) d.1)::.bot::.aM::List.replicate 5 .bot,List.replicate 48 none,[]⟩) Tryz.call211 Tryz.func211 rfl rfl rfl rfl rfl rfl rfl rfl rfl rfl (by kernel_rfl) (fun _=>by kernel_rfl) (fun _=>by kernel_rfl) (fun _=>rfl) (fun _=>by kernel_rfl) (fun _ _=>by kernel_rfl) (fun d h=>by obtain⟨x,y⟩:=d;cases(h:x= []);kernel_rfl) (fun _=>by kernel_rfl)
def zZ:Nat→Za×Int×Int×Zaf→Option (dN (Za×Zaf) (Sum ZZ ZI)):=aL fun apq ⟨t,r,q,u,v,w,x,y,z,aa,ab,ac,ad,ae,s⟩=>if(decide (q<r))=true then(if 0≤q then(if q<(List.length s:Int) then(aG (U:=Za×Nat×Int×Int×Zaf) (some (.aS (t,Int.toNat q,r,q,u,v,w,x,y,z,aa,ab,ac,ad,ae,List.set s (Int.toNat q) ((nth cS s q).1,((nth cS s q).2.1.1,(nth cS s q).2.1.2.1,(nth cS s q).2.1.2.2.1,(nth cS s q).2.1.2.2.2.1,(-1:Int),(nth cS s q).2.1.2.2.2.2.2),(nth cS s q).2.2)))) fun⟨d,b,e,f,g,c,h,i,j,k,l,m,n,o,p,a⟩=>Option.bind (α:=Bool) (if(decide ((List.getD a b (Ty.aH cS)).2.1.1=(1:Int)))=true then(some (!decide ((List.getD a b (Ty.aH cS)).2.1.2.2.2.1= []))) else(some false)) fun v7=>if v7=true then(gX (lz c (List.getD a b (Ty.aH cS)).2.1.2.2.2.1) (fun p9=>cN (some (.inl (p9.1,())))) fun y8=>apq (d,e,aQ (f+1),g,c,h,i,j,k,l,m,n,o,p,List.set a b ((List.getD a b (Ty.aH cS)).1,((List.getD a b (Ty.aH cS)).2.1.1,(List.getD a b (Ty.aH cS)).2.1.2.1,(List.getD a b (Ty.aH cS)).2.1.2.2.1,(List.getD a b (Ty.aH cS)).2.1.2.2.2.1,y8,(List.getD a b (Ty.aH cS)).2.1.2.2.2.2.2),(List.getD a b (Ty.aH cS)).2.2))) else(apq (d,e,aQ (f+1),g,c,h,i,j,k,l,m,n,o,p,a))) else none) else none) else(some (.aS (t,u,v,w,x,y,z,aa,ab,ac,ad,ae,s)))
def xx:Nat→Za×Int×Int×Zs×ZJ→Option (dN (Za×ZJ) (dN (Za×ZJ) (dN ZI (Sum ZZ ZI)))):=aL fun rec17 ⟨d,f,g,c,b,a,h,i,j,k,l,m,n,o,p,q,r,s,t,u,v,w,x,e⟩=>if(decide (a<b))=true then(if 0≤a then(if a<(List.length c:Int) then(gX (lz d (nth .str c a)) (fun p19=>cN (cN (cN (some (.inl (p19.1,())))))) fun y18=>if(List.length e+List.length [y18])*8≤aF then(rec17 (d,f,g,c,b,aQ (a+1),h,i,j,k,l,m,n,o,p,q,r,s,t,u,v,w,x,e++[y18])) else none) else none) else none) else(some (.aS (d,f,g,h,i,j,k,l,m,n,o,p,q,r,s,t,u,v,w,x,e)))
def xy:Nat→Za×Int×Int×ZI→Option (dN ZI (Sum ZZ ZI)):=aL fun rec13 ⟨av,ar,aq,aw,ax,ay,az,a0,a1,a2,a3,a4,a5,a6,a7,au⟩=>if(decide (aq<ar))=true then(aG (U:=Za×ZJ) (if 0≤aq then(if aq<(List.length au:Int) then(aG (U:=Za×ZJ) (xx (Int.toNat (List.length (nth iJ au aq).1:Int)+1) (av,ar,aq,(nth iJ au aq).1,(List.length (nth iJ au aq).1:Int),0,aw,ax,ay,az,a0,a1,a2,a3,a4,a5,a6,a7,au,Int.toNat aq,(nth iJ au aq).1,(nth iJ au aq).2.1,(nth iJ au aq).2.2.2,([]:Zd))) fun⟨a,c,d,e,f,g,h,i,j,k,l,m,n,o,p,q,r,s,b,t,u⟩=>gX (lz a b) (fun p21=>cN (cN (some (.inl (p21.1,()))))) fun y20=>some (.aS (a,c,d,e,f,g,h,i,j,k,l,m,n,o,p,q,r,s,b,(y20,t.2),u))) else none) else none) fun⟨v,w,x,y,z,aa,ab,ac,ad,ae,af,ag,ah,ai,aj,ak,al,am,an,ap,ao⟩=>rec13 (v,w,aQ (x+1),y,z,aa,ab,ac,ad,ae,af,ag,ah,ai,aj,List.set ak al (am,an,ao,ap))) else(some (.aS (aw,ax,ay,az,a0,a1,a2,a3,a4,a5,a6,a7,au)))
def yu(a0:Za)(a1:Za)(a2:Za)(a3:Za)(a4:Zn)(a5:Nat)(a6:qd)(a7:Zy):Option (Sum ZZ ZI):=
 gX (lz a1 a6.2.1) (fun p22=>some (.inl (p22.1,()))) fun y1=>Option.bind (DD a6.2.2.2.2.1) fun y2=>aG (U:=Za×Zaf) (zZ (Int.toNat (List.length y2:Int)+1) (a0,(List.length y2:Int),0,a1,a2,a3,a4,a5,a6.1,a6.2.1,y1,a6.2.2.2.1,a6.2.2.2.2.2,a7,y2)) fun⟨b,c,d,e,f,g,h,i,j,k,a,l,m⟩=>Option.bind (DE a.1) fun y10=>aG (U:=ZI) (xy (Int.toNat (List.length y10:Int)+1) (b,(List.length y10:Int),0,c,d,e,f,g,h,i,j,k,a.2,l,m,y10)) fun⟨n,o,p,q,r,s,t,u,v,w,x,y,z⟩=>some (.inr (n,o,p,q,r,s,t,u,v,w,x,y,z))
def aio:SS:=⟨132,172,[tP 0 0,(1,.ptr 1 [.d6 1]),(2,vM),(7,.ptr 45 [.idx,.d6 1]),tI 36,tI 37],[(0,rB 2),(1,.dB 113 96 aU (.cons (.val .str) (.cons (.val .str) (.cons vI (.cons vI (.cons (.own 45) (.val (.pair (.slice 72 iJ) .unit)))))))),(2,.row 252 8 (.map .str (.int .i64))),(45,.row 146 120 cS)],[]⟩
def aip:SS:=⟨132,172,[(1,.ptr 1 [.d6 1]),(2,vM)],[(0,rB 2),(1,.dB 113 96 aU (.cons (.val .str) (.cons (.val .str) (.cons vI (.cons vI (.cons (.own 45) (.val (.pair (.slice 72 iJ) .unit)))))))),(2,.row 252 8 (.map .str (.int .i64))),(45,.row 146 120 cS)],[]⟩
def aiq:SS:=⟨132,172,[(1,.ptr 1 [.d6 1]),(2,vM),(9,.ptr 96 [.d6 1]),tI 87,tI 88],[(0,rB 2),(1,.dB 113 96 aU (.cons (.val .str) (.cons (.val .str) (.cons vI (.cons vI (.cons (.own 45) (.cons (.own 96) (.val .unit)))))))),(2,.row 252 8 (.map .str (.int .i64))),(45,.row 146 120 cS),(96,.dB 271 72 iJ (.cons (.val (.slice 16 .str)) (.cons (.val .str) (.cons (.own 149) (.val (.pair (.int .i64) .unit)))))),(149,.row 3 8 (.int .i64))],[]⟩
def air:SS:=⟨132,172,[(1,.ptr 1 [.d6 1]),(2,vM),tI 87,tI 88],[(0,rB 2),(1,.dB 113 96 aU (.cons (.val .str) (.cons (.val .str) (.cons vI (.cons vI (.cons (.own 45) (.cons (.own 96) (.val .unit)))))))),(2,.row 252 8 (.map .str (.int .i64))),(45,.row 146 120 cS),(96,.dB 271 72 iJ (.cons (.val (.slice 16 .str)) (.cons (.val .str) (.cons (.own 149) (.val (.pair (.int .i64) .unit)))))),(149,.row 3 8 (.int .i64))],[]⟩
def aaz:SS:=⟨132,172,[],[(0,rB 2),(1,.dB 113 96 aU (.cons (.val .str) (.cons (.val .str) (.cons vI (.cons vI (.cons (.own 45) (.cons (.own 96) (.val .unit)))))))),(2,.row 252 8 (.map .str (.int .i64))),(45,.row 146 120 cS),(96,.row 271 72 iJ)],[]⟩
def ais:SS:=⟨132,172,[tP 0 0,(1,.ptr 1 [.d6 1]),(2,vM),tI 36,tI 37],[(0,rB 2),(1,.dB 113 96 aU (.cons (.val .str) (.cons (.val .str) (.cons vI (.cons vI (.cons (.own 45) (.val (.pair (.slice 72 iJ) .unit)))))))),(2,.row 252 8 (.map .str (.int .i64))),(45,.row 146 120 cS)],[]⟩
def ait:SS:=⟨132,172,[(1,.ptr 1 [.d6 1]),(2,vM),tI 87,tI 88],[(0,rB 2),(1,.dB 113 96 aU (.cons (.val .str) (.cons (.val .str) (.cons vI (.cons vI (.cons (.own 45) (.cons (.own 96) (.val .unit)))))))),(2,.row 252 8 (.map .str (.int .i64))),(45,.row 146 120 cS),(96,.row 271 72 iJ)],[]⟩
def aiu:SS:=⟨132,172,[(1,.ptr 1 [.d6 1]),(2,vM),(9,.ptr 96 [.d6 1]),tI 87,tI 88,(103,.val (.slice 16 .str)),tI 104,tI 105],[(0,rB 2),(1,.dB 113 96 aU (.cons (.val .str) (.cons (.val .str) (.cons vI (.cons vI (.cons (.own 45) (.cons (.own 96) (.val .unit)))))))),(2,.row 252 8 (.map .str (.int .i64))),(45,.row 146 120 cS),(96,.dB 271 72 iJ (.cons (.val (.slice 16 .str)) (.cons (.val .str) (.cons (.own 148) (.val (.pair (.int .i64) .unit)))))),(148,.row 3 8 (.int .i64))],[]⟩
def Ka:bH:=aI G [] 129 [pP 0,.ptr 1 [.d6 1],vM] [(0,rB 2),(1,.dB 113 96 aU (.val aU)),(2,.row 252 8 (.map .str (.int .i64)))] 172 aaz [0,1,2,45,96] (.oi (.iface 241 (.val .unit)) (u8 yu))
theorem SQ:hS Ka:=
 bH.GL tied (H:=⟨[hA 0 0,hE 1 [cB 1 [] [(23,45)]],hD 7 61 [],hA 8 0,hE 10 [cB 2 [] [(23,96)]],(15,⟨[],[],[],none,[(96,9)],[],[]⟩),hA 19 0,hA 21 0,(22,⟨[.freeze 149 (.slice 8 (.int .i64)),.oR 96],[],[],none,[],[],[]⟩)],[(7,aio),(10,aip),(21,aiq),(22,air)],[(2,aaz)],[(3,⟨ais,fun u4=>Int.toNat u4.2.1+1⟩),(12,⟨ait,fun Ww=>Int.toNat Ww.2.1+1⟩),(17,⟨aiu,fun u16=>Int.toNat u16.2.2.2.2.1+1⟩)],[],[]⟩) (hold (l:=[Be,J8,J9]) ⟨DB,SO,SP,trivial⟩) aJ rfl Tryz.call129 Tryz.func129 rfl rfl rfl rfl (fun _=>by kernel_rfl) (fun _=>by kernel_rfl)
def oQ(_q0:Unit):Dm:=
 some (110:Int)
def aaA:SS:=⟨17,57,[],[(0,.var eR (.cons .aM (.cons .aM (.cons .aM (.cons .aM (.cons .aM (.cons .aM .nil))))))),(1,bI)],[]⟩
def Fz:iV:=⟨121,[.ptr 0 [],.ptr 1 []],[(0,.var eR (.gU eR)),(1,.var (.int .i64) (.gU (.int .i64)))],57,.iface 241 (.val .unit),aaA,fun r=>pick [0,1] (SS.st aaA y0 r).hp,fun _=>none,fun _ q=>oQ q.1⟩
theorem NL:Fz.holds Tryz.prog gl:=
 iV.GL tied (H:=⟨[],[],[],[],[],[]⟩) (hold (l:=[]) trivial) rfl Tryz.call121 Tryz.func121 rfl rfl rfl rfl rfl rfl rfl rfl rfl rfl rfl rfl (fun _=>by kernel_rfl) (fun _ _=>by kernel_rfl)
def DF(a0:ZB):Option ZB:=
 if(List.length ([]:ZB)+List.length a0)*96≤aF then some a0 else none
def aiv:SS:=⟨8,48,[(2,.own 23)],[(23,.row 61 96 bG)],[]⟩
def Kb:bH:=aI G [.tmp 2] 212 [.val (.slice 96 bG)] [] 48 aiv [23] (.bZ (u1 DF))
theorem SR:hS Kb:=
 bH.pg tied (H:=⟨[],[],[],[],[],[]⟩) (hold (l:=[]) trivial) rfl (.tmp 0) 3 4 47 47 61 96 bG (fun d=>d.1) (fun d=>⟨(.val (.slice 96 bG) d.1)::.bot::.aM::List.replicate 5 .bot,List.replicate 48 none,[]⟩) Tryz.call212 Tryz.func212 rfl rfl rfl rfl rfl rfl rfl rfl rfl rfl (by kernel_rfl) (fun _=>by kernel_rfl) (fun _=>by kernel_rfl) (fun _=>rfl) (fun _=>by kernel_rfl) (fun _ _=>by kernel_rfl) (fun d h=>by obtain⟨x,y⟩:=d;cases(h:x= []);kernel_rfl) (fun _=>by kernel_rfl)
def yv(a0:Nat)(a1:ZB)(a2:Zx)(a3:Za)(a4:Za)(a5:Za)(a6:Zl)(a7:Nat)(a8:Zf)(a9:Int)(a10:ZE×ZF×Unit)(a11:Zy):Option (Sum ZZ ZaB):=
 aG (U:=Nat×ZaB) (some (.aS (a0,List.set (List.set a1 a0 ((List.getD a1 a0 (Ty.aH bG)).1,(List.getD a1 a0 (Ty.aH bG)).2.1,(List.getD a1 a0 (Ty.aH bG)).2.2.1,((List.getD a1 a0 (Ty.aH bG)).2.2.2.1.1,(List.getD a1 a0 (Ty.aH bG)).2.2.2.1.2.1,(-1:Int),(List.getD a1 a0 (Ty.aH bG)).2.2.2.1.2.2.2),(List.getD a1 a0 (Ty.aH bG)).2.2.2.2)) a0 ((List.getD (List.set a1 a0 ((List.getD a1 a0 (Ty.aH bG)).1,(List.getD a1 a0 (Ty.aH bG)).2.1,(List.getD a1 a0 (Ty.aH bG)).2.2.1,((List.getD a1 a0 (Ty.aH bG)).2.2.2.1.1,(List.getD a1 a0 (Ty.aH bG)).2.2.2.1.2.1,(-1:Int),(List.getD a1 a0 (Ty.aH bG)).2.2.2.1.2.2.2),(List.getD a1 a0 (Ty.aH bG)).2.2.2.2)) a0 (Ty.aH bG)).1,(List.getD (List.set a1 a0 ((List.getD a1 a0 (Ty.aH bG)).1,(List.getD a1 a0 (Ty.aH bG)).2.1,(List.getD a1 a0 (Ty.aH bG)).2.2.1,((List.getD a1 a0 (Ty.aH bG)).2.2.2.1.1,(List.getD a1 a0 (Ty.aH bG)).2.2.2.1.2.1,(-1:Int),(List.getD a1 a0 (Ty.aH bG)).2.2.2.1.2.2.2),(List.getD a1 a0 (Ty.aH bG)).2.2.2.2)) a0 (Ty.aH bG)).2.1,(List.getD (List.set a1 a0 ((List.getD a1 a0 (Ty.aH bG)).1,(List.getD a1 a0 (Ty.aH bG)).2.1,(List.getD a1 a0 (Ty.aH bG)).2.2.1,((List.getD a1 a0 (Ty.aH bG)).2.2.2.1.1,(List.getD a1 a0 (Ty.aH bG)).2.2.2.1.2.1,(-1:Int),(List.getD a1 a0 (Ty.aH bG)).2.2.2.1.2.2.2),(List.getD a1 a0 (Ty.aH bG)).2.2.2.2)) a0 (Ty.aH bG)).2.2.1,((List.getD (List.set a1 a0 ((List.getD a1 a0 (Ty.aH bG)).1,(List.getD a1 a0 (Ty.aH bG)).2.1,(List.getD a1 a0 (Ty.aH bG)).2.2.1,((List.getD a1 a0 (Ty.aH bG)).2.2.2.1.1,(List.getD a1 a0 (Ty.aH bG)).2.2.2.1.2.1,(-1:Int),(List.getD a1 a0 (Ty.aH bG)).2.2.2.1.2.2.2),(List.getD a1 a0 (Ty.aH bG)).2.2.2.2)) a0 (Ty.aH bG)).2.2.2.1.1,(List.getD (List.set a1 a0 ((List.getD a1 a0 (Ty.aH bG)).1,(List.getD a1 a0 (Ty.aH bG)).2.1,(List.getD a1 a0 (Ty.aH bG)).2.2.1,((List.getD a1 a0 (Ty.aH bG)).2.2.2.1.1,(List.getD a1 a0 (Ty.aH bG)).2.2.2.1.2.1,(-1:Int),(List.getD a1 a0 (Ty.aH bG)).2.2.2.1.2.2.2),(List.getD a1 a0 (Ty.aH bG)).2.2.2.2)) a0 (Ty.aH bG)).2.2.2.1.2.1,(List.getD (List.set a1 a0 ((List.getD a1 a0 (Ty.aH bG)).1,(List.getD a1 a0 (Ty.aH bG)).2.1,(List.getD a1 a0 (Ty.aH bG)).2.2.1,((List.getD a1 a0 (Ty.aH bG)).2.2.2.1.1,(List.getD a1 a0 (Ty.aH bG)).2.2.2.1.2.1,(-1:Int),(List.getD a1 a0 (Ty.aH bG)).2.2.2.1.2.2.2),(List.getD a1 a0 (Ty.aH bG)).2.2.2.2)) a0 (Ty.aH bG)).2.2.2.1.2.2.1,0,(List.getD (List.set a1 a0 ((List.getD a1 a0 (Ty.aH bG)).1,(List.getD a1 a0 (Ty.aH bG)).2.1,(List.getD a1 a0 (Ty.aH bG)).2.2.1,((List.getD a1 a0 (Ty.aH bG)).2.2.2.1.1,(List.getD a1 a0 (Ty.aH bG)).2.2.2.1.2.1,(-1:Int),(List.getD a1 a0 (Ty.aH bG)).2.2.2.1.2.2.2),(List.getD a1 a0 (Ty.aH bG)).2.2.2.2)) a0 (Ty.aH bG)).2.2.2.1.2.2.2.2),(List.getD (List.set a1 a0 ((List.getD a1 a0 (Ty.aH bG)).1,(List.getD a1 a0 (Ty.aH bG)).2.1,(List.getD a1 a0 (Ty.aH bG)).2.2.1,((List.getD a1 a0 (Ty.aH bG)).2.2.2.1.1,(List.getD a1 a0 (Ty.aH bG)).2.2.2.1.2.1,(-1:Int),(List.getD a1 a0 (Ty.aH bG)).2.2.2.1.2.2.2),(List.getD a1 a0 (Ty.aH bG)).2.2.2.2)) a0 (Ty.aH bG)).2.2.2.2),a2,a3,a4,a5,a6,a7,a8,a9,a10,a11))) fun⟨b,a,c,d,e,f,g,h,i,j,k,l⟩=>if(!decide ((List.getD a b (Ty.aH bG)).2.2.2.1.1= []))=true then(aG (U:=Nat×ZaB) (gX (lz (some c) (List.getD a b (Ty.aH bG)).2.2.2.1.1) (fun p4=>cN (some (.inl (p4.1,())))) fun y3=>some (.aS (b,List.set a b ((List.getD a b (Ty.aH bG)).1,(List.getD a b (Ty.aH bG)).2.1,(List.getD a b (Ty.aH bG)).2.2.1,((List.getD a b (Ty.aH bG)).2.2.2.1.1,(List.getD a b (Ty.aH bG)).2.2.2.1.2.1,y3,(List.getD a b (Ty.aH bG)).2.2.2.1.2.2.2),(List.getD a b (Ty.aH bG)).2.2.2.2),c,d,e,f,g,h,i,j,k,l))) fun⟨n,m,p,q,r,s,t,u,v,w,x,o⟩=>if 0≤(List.getD m n (Ty.aH bG)).2.2.2.1.2.2.1 then(if(List.getD m n (Ty.aH bG)).2.2.2.1.2.2.1<(List.length m:Int) then(if 0≤(nth bG m (List.getD m n (Ty.aH bG)).2.2.2.1.2.2.1).2.2.1 then(if(nth bG m (List.getD m n (Ty.aH bG)).2.2.2.1.2.2.1).2.2.1<(List.length o:Int) then(gX (lz (nth (.map .str (.int .i64)) o (nth bG m (List.getD m n (Ty.aH bG)).2.2.2.1.2.2.1).2.2.1) (List.getD m n (Ty.aH bG)).2.2.2.1.2.1) (fun p6=>some (.inl (p6.1,()))) fun y5=>some (.inr (List.set m n ((List.getD m n (Ty.aH bG)).1,(List.getD m n (Ty.aH bG)).2.1,(List.getD m n (Ty.aH bG)).2.2.1,((List.getD m n (Ty.aH bG)).2.2.2.1.1,(List.getD m n (Ty.aH bG)).2.2.2.1.2.1,(List.getD m n (Ty.aH bG)).2.2.2.1.2.2.1,y5,(List.getD m n (Ty.aH bG)).2.2.2.1.2.2.2.2),(List.getD m n (Ty.aH bG)).2.2.2.2),p,q,r,s,t,u,v,w,x,o))) else none) else none) else none) else none) else(some (.inr (a,c,d,e,f,g,h,i,j,k,l)))
def aiw:SS:=⟨50,90,[(0,.ptr 0 [.idx,.d6 3]),tP 1 1,tP 2 2,tP 3 3],[(0,.row 61 96 bG),(1,.var (.map .str (.int .i64)) (.mp 4)),(2,.var (.aY .ptr) (pP 5)),(3,.var (.aY .ptr) (.ptr 6 [.d6 1])),(4,.map .str (.int .i64)),(5,rB 7),(6,.dB 51 96 bX (.cons (.val .str) (.cons vI (.cons (.own 0) (.val (.pair (.slice 120 cH) (.pair (.slice 80 dF) .unit))))))),(7,.row 252 8 (.map .str (.int .i64)))],[]⟩
def aix:SS:=⟨50,90,[(0,.ptr 0 [.idx,.d6 3]),tP 2 2,tP 3 3],[(0,.row 61 96 bG),(1,.var (.map .str (.int .i64)) (.mp 4)),(2,.var (.aY .ptr) (pP 5)),(3,.var (.aY .ptr) (.ptr 6 [.d6 1])),(4,.map .str (.int .i64)),(5,rB 7),(6,.dB 51 96 bX (.cons (.val .str) (.cons vI (.cons (.own 0) (.val (.pair (.slice 120 cH) (.pair (.slice 80 dF) .unit))))))),(7,.row 252 8 (.map .str (.int .i64)))],[]⟩
def aiy:SS:=⟨50,90,[],[(0,.row 61 96 bG),(1,.var (.map .str (.int .i64)) (.mp 4)),(2,.var (.aY .ptr) (pP 5)),(3,.var (.aY .ptr) (.ptr 6 [.d6 1])),(4,.map .str (.int .i64)),(5,rB 7),(6,.dB 51 96 bX (.cons (.val .str) (.cons vI (.cons (.own 0) (.val (.pair (.slice 120 cH) (.pair (.slice 80 dF) .unit))))))),(7,.row 252 8 (.map .str (.int .i64)))],[]⟩
def Kc:bH:=aI G [] 213 [.ptr 0 [.idx,.d6 3],pP 1,pP 2,pP 3] [(0,.row 61 96 bG),(1,.var (.map .str (.int .i64)) (.mp 4)),(2,.var (.aY .ptr) (pP 5)),(3,.var (.aY .ptr) (.ptr 6 [.d6 1])),(4,.map .str (.int .i64)),(5,rB 7),(6,.dB 51 96 bX (.cons (.val .str) (.cons vI (.cons (.own 0) (.val (.pair (.slice 120 cH) (.pair (.slice 80 dF) .unit))))))),(7,.row 252 8 (.map .str (.int .i64)))] 90 aiy [0,1,2,3,4,5,6,7] (.oi (.iface 241 (.val .unit)) (Ww yv))
theorem SU:hS Kc:=
 bH.GL tied (H:=⟨[hA 2 0,hA 3 0],[(1,aiw),(3,aix)],[],[],[],[]⟩) (hold (l:=[Be]) ⟨DB,trivial⟩) aJ rfl Tryz.call213 Tryz.func213 rfl rfl rfl rfl (fun _=>by kernel_rfl) (fun _=>by kernel_rfl)
def DG(a0:ZE):Option ZE:=
 if(List.length ([]:ZE)+List.length a0)*120≤aF then some a0 else none
def aiz:SS:=⟨8,48,[(2,.own 23)],[(23,.row 67 120 cH)],[]⟩
def Kd:bH:=aI G [.tmp 2] 214 [.val (.slice 120 cH)] [] 48 aiz [23] (.bZ (u1 DG))
theorem SX:hS Kd:=
 bH.pg tied (H:=⟨[],[],[],[],[],[]⟩) (hold (l:=[]) trivial) rfl (.tmp 0) 3 4 48 48 67 120 cH (fun d=>d.1) (fun d=>⟨(.val (.slice 120 cH) d.1)::.bot::.aM::List.replicate 5 .bot,List.replicate 48 none,[]⟩) Tryz.call214 Tryz.func214 rfl rfl rfl rfl rfl rfl rfl rfl rfl rfl (by kernel_rfl) (fun _=>by kernel_rfl) (fun _=>by kernel_rfl) (fun _=>rfl) (fun _=>by kernel_rfl) (fun _ _=>by kernel_rfl) (fun d h=>by obtain⟨x,y⟩:=d;cases(h:x= []);kernel_rfl) (fun _=>by kernel_rfl)
def yw(a0:Nat)(a1:ZE)(a2:Zx)(a3:Za)(a4:Za)(a5:Za)(a6:Zl)(a7:Nat)(a8:Zf)(a9:Int)(a10:ZF×Unit)(a11:Zy)(a12:ZB):Option (Sum ZZ ZQ):=
 aG (U:=Nat×ZQ) (some (.aS (a0,List.set (List.set a1 a0 ((List.getD a1 a0 (Ty.aH cH)).1,((List.getD a1 a0 (Ty.aH cH)).2.1.1,(List.getD a1 a0 (Ty.aH cH)).2.1.2.1,(-1:Int),(List.getD a1 a0 (Ty.aH cH)).2.1.2.2.2),(List.getD a1 a0 (Ty.aH cH)).2.2)) a0 ((List.getD (List.set a1 a0 ((List.getD a1 a0 (Ty.aH cH)).1,((List.getD a1 a0 (Ty.aH cH)).2.1.1,(List.getD a1 a0 (Ty.aH cH)).2.1.2.1,(-1:Int),(List.getD a1 a0 (Ty.aH cH)).2.1.2.2.2),(List.getD a1 a0 (Ty.aH cH)).2.2)) a0 (Ty.aH cH)).1,((List.getD (List.set a1 a0 ((List.getD a1 a0 (Ty.aH cH)).1,((List.getD a1 a0 (Ty.aH cH)).2.1.1,(List.getD a1 a0 (Ty.aH cH)).2.1.2.1,(-1:Int),(List.getD a1 a0 (Ty.aH cH)).2.1.2.2.2),(List.getD a1 a0 (Ty.aH cH)).2.2)) a0 (Ty.aH cH)).2.1.1,(List.getD (List.set a1 a0 ((List.getD a1 a0 (Ty.aH cH)).1,((List.getD a1 a0 (Ty.aH cH)).2.1.1,(List.getD a1 a0 (Ty.aH cH)).2.1.2.1,(-1:Int),(List.getD a1 a0 (Ty.aH cH)).2.1.2.2.2),(List.getD a1 a0 (Ty.aH cH)).2.2)) a0 (Ty.aH cH)).2.1.2.1,(List.getD (List.set a1 a0 ((List.getD a1 a0 (Ty.aH cH)).1,((List.getD a1 a0 (Ty.aH cH)).2.1.1,(List.getD a1 a0 (Ty.aH cH)).2.1.2.1,(-1:Int),(List.getD a1 a0 (Ty.aH cH)).2.1.2.2.2),(List.getD a1 a0 (Ty.aH cH)).2.2)) a0 (Ty.aH cH)).2.1.2.2.1,0,(List.getD (List.set a1 a0 ((List.getD a1 a0 (Ty.aH cH)).1,((List.getD a1 a0 (Ty.aH cH)).2.1.1,(List.getD a1 a0 (Ty.aH cH)).2.1.2.1,(-1:Int),(List.getD a1 a0 (Ty.aH cH)).2.1.2.2.2),(List.getD a1 a0 (Ty.aH cH)).2.2)) a0 (Ty.aH cH)).2.1.2.2.2.2),(List.getD (List.set a1 a0 ((List.getD a1 a0 (Ty.aH cH)).1,((List.getD a1 a0 (Ty.aH cH)).2.1.1,(List.getD a1 a0 (Ty.aH cH)).2.1.2.1,(-1:Int),(List.getD a1 a0 (Ty.aH cH)).2.1.2.2.2),(List.getD a1 a0 (Ty.aH cH)).2.2)) a0 (Ty.aH cH)).2.2),a2,a3,a4,a5,a6,a7,a8,a9,a10,a11,a12))) fun⟨b,a,c,d,e,f,g,h,i,j,k,l,m⟩=>if(!decide ((List.getD a b (Ty.aH cH)).2.1.1= []))=true then(aG (U:=Nat×ZQ) (gX (lz (some c) (List.getD a b (Ty.aH cH)).2.1.1) (fun p4=>cN (some (.inl (p4.1,())))) fun y3=>some (.aS (b,List.set a b ((List.getD a b (Ty.aH cH)).1,((List.getD a b (Ty.aH cH)).2.1.1,(List.getD a b (Ty.aH cH)).2.1.2.1,y3,(List.getD a b (Ty.aH cH)).2.1.2.2.2),(List.getD a b (Ty.aH cH)).2.2),c,d,e,f,g,h,i,j,k,l,m))) fun⟨o,n,r,s,t,u,v,w,x,y,z,q,p⟩=>if 0≤(List.getD n o (Ty.aH cH)).2.1.2.2.1 then(if(List.getD n o (Ty.aH cH)).2.1.2.2.1<(List.length p:Int) then(if 0≤(nth bG p (List.getD n o (Ty.aH cH)).2.1.2.2.1).2.2.1 then(if(nth bG p (List.getD n o (Ty.aH cH)).2.1.2.2.1).2.2.1<(List.length q:Int) then(gX (lz (nth (.map .str (.int .i64)) q (nth bG p (List.getD n o (Ty.aH cH)).2.1.2.2.1).2.2.1) (List.getD n o (Ty.aH cH)).2.1.2.1) (fun p6=>some (.inl (p6.1,()))) fun y5=>some (.inr (List.set n o ((List.getD n o (Ty.aH cH)).1,((List.getD n o (Ty.aH cH)).2.1.1,(List.getD n o (Ty.aH cH)).2.1.2.1,(List.getD n o (Ty.aH cH)).2.1.2.2.1,y5,(List.getD n o (Ty.aH cH)).2.1.2.2.2.2),(List.getD n o (Ty.aH cH)).2.2),r,s,t,u,v,w,x,y,z,q,p))) else none) else none) else none) else none) else(some (.inr (a,c,d,e,f,g,h,i,j,k,l,m)))
def aiA:SS:=⟨50,90,[(0,.ptr 0 [.idx,.d6 1]),tP 1 1,tP 2 2,tP 3 3],[(0,.row 67 120 cH),(1,.var (.map .str (.int .i64)) (.mp 4)),(2,.var (.aY .ptr) (pP 5)),(3,.var (.aY .ptr) (.ptr 6 [.d6 1])),(4,.map .str (.int .i64)),(5,rB 7),(6,.dB 51 96 bX (.cons (.val .str) (.cons vI (.cons (.own 8) (.cons (.own 0) (.val (.pair (.slice 80 dF) .unit))))))),(7,.row 252 8 (.map .str (.int .i64))),(8,.row 61 96 bG)],[]⟩
def aiB:SS:=⟨50,90,[(0,.ptr 0 [.idx,.d6 1]),tP 2 2,tP 3 3],[(0,.row 67 120 cH),(1,.var (.map .str (.int .i64)) (.mp 4)),(2,.var (.aY .ptr) (pP 5)),(3,.var (.aY .ptr) (.ptr 6 [.d6 1])),(4,.map .str (.int .i64)),(5,rB 7),(6,.dB 51 96 bX (.cons (.val .str) (.cons vI (.cons (.own 8) (.cons (.own 0) (.val (.pair (.slice 80 dF) .unit))))))),(7,.row 252 8 (.map .str (.int .i64))),(8,.row 61 96 bG)],[]⟩
def aaB:SS:=⟨50,90,[],[(0,.row 67 120 cH),(1,.var (.map .str (.int .i64)) (.mp 4)),(2,.var (.aY .ptr) (pP 5)),(3,.var (.aY .ptr) (.ptr 6 [.d6 1])),(4,.map .str (.int .i64)),(5,rB 7),(6,.dB 51 96 bX (.cons (.val .str) (.cons vI (.cons (.own 8) (.cons (.own 0) (.val (.pair (.slice 80 dF) .unit))))))),(7,.row 252 8 (.map .str (.int .i64))),(8,.row 61 96 bG)],[]⟩
def Ke:bH:=aI G [] 213 [.ptr 0 [.idx,.d6 1],pP 1,pP 2,pP 3] [(0,.row 67 120 cH),(1,.var (.map .str (.int .i64)) (.mp 4)),(2,.var (.aY .ptr) (pP 5)),(3,.var (.aY .ptr) (.ptr 6 [.d6 1])),(4,.map .str (.int .i64)),(5,rB 7),(6,.dB 51 96 bX (.cons (.val .str) (.cons vI (.cons (.own 8) (.cons (.own 0) (.val (.pair (.slice 80 dF) .unit))))))),(7,.row 252 8 (.map .str (.int .i64))),(8,.row 61 96 bG)] 90 aaB [0,1,2,3,4,5,6,7,8] (.oi (.iface 241 (.val .unit)) (L0 yw))
theorem SY:hS Ke:=
 bH.GL tied (H:=⟨[hA 2 0,hA 3 0],[(1,aiA),(3,aiB)],[],[],[],[]⟩) (hold (l:=[Be]) ⟨DB,trivial⟩) aJ rfl Tryz.call213 Tryz.func213 rfl rfl rfl rfl (fun _=>by kernel_rfl) (fun _=>by kernel_rfl)
end Go.Proofs.YtkhfnbfpgcjllaaGreatDoor
