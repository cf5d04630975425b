/- Made by program (dec6.py): walks -/
import Derived.Test.YtadeibjelmcdgaaGreatUN
noncomputable section
namespace Go.Proofs.YtadeibjelmcdgaaGreat
open Go.Ax
def f167(a0:List UInt8):Option (List UInt8):=
 some a0
def P3:SS:=⟨4,44,[(2,(.val .str))],[],[]⟩
def Iq:aH:=aB G [.tmp 2] 167 [(.val .str)] [] 44 P3 [] (.bE (fun d=>f167 d.1))
theorem Lc:Iq.holds Tryz.prog gl:=
 aH.of tied (H:=⟨[],[],[],[],[],[]⟩) (hold (l:=[]) trivial) aE rfl Tryz.call167 Tryz.func167 rfl rfl rfl rfl (fun _=>by kernel_rfl) (fun _=>by kernel_rfl)
def uj:Nat→(Bool×(List (List UInt8))×Int×Int×(List ((List UInt8)×Int)))→Option (ct (Bool×(List ((List UInt8)×Int))) ((Option (List ((List UInt8)×Int)))×Bool)):=aL fun Rt ⟨e,c,b,a,d⟩=>if(decide (a<b))=true then(if 0≤a then(if a<(List.length c:Int) then(Option.bind (f167 (nth .str c a)) fun y4=>if(dh .str y4 d)=true then none else(Option.bind (f167 (nth .str c a)) fun y5=>if List.length d+1≤aF then(Rt (e,c,b,bM (a+(1:Int)),cj .str y5 a d)) else none)) else none) else none) else(some (.brk (e,d)))
def wm(a0:List (List UInt8)):Option ((Option (List ((List UInt8)×Int)))×Bool):=
 aG (U:=Bool×(List ((List UInt8)×Int))) (uj (Int.toNat (List.length a0:Int)+1) (false,a0,(List.length a0:Int),(0:Int),([]:List ((List UInt8)×Int)))) fun⟨b,a⟩=>some (some a,b)
def P4:SS:=⟨37,77,[(4,(.mp 28)),(5,(.val .bool))],[(28,(.map .str (.int .i64)))],[]⟩
def P5:SS:=⟨37,77,[(1,(.func 167 .nil .nil)),(4,(.mp 28)),(5,(.val .bool)),(13,(.val (.slice 16 .str))),(14,(.val (.int .i64))),(15,(.val (.int .i64)))],[(28,(.map .str (.int .i64)))],[]⟩
def P6:SS:=⟨37,77,[(4,(.val (.map .str (.int .i64)))),(5,(.val .bool))],[],[]⟩
def wo:aH:=aB G [.tmp 4,.tmp 5] 166 [(.val (.slice 16 .str)),(.func 167 .nil .nil)] [] 77 P6 [] (.bE (fun d=>wm d.1))
theorem DB:wo.holds Tryz.prog gl:=
 aH.of tied (H:=⟨[(5,⟨[],[],[⟨[0],[],[],[],[]⟩],none,[],[],[]⟩),(7,⟨[],[],[],none,[(0,9999)],[],[]⟩),(8,⟨[],[],[⟨[0],[],[],[],[]⟩],none,[],[],[]⟩)],[(10,P4)],[],[(3,⟨P5,fun u2=>Int.toNat u2.2.2.1+1⟩)],[],[]⟩) (hold (l:=[Iq]) ⟨Lc,trivial⟩) aE rfl Tryz.call166 Tryz.func166 rfl rfl rfl rfl (fun _=>by kernel_rfl) (fun _=>by kernel_rfl)
def uk:Nat→(Bool×(List cU)×Int×Int×(List ((List UInt8)×Int)))→Option (ct (Bool×(List ((List UInt8)×Int))) ((Option (List ((List UInt8)×Int)))×Bool)):=aL fun _Rt ⟨c,_,b,a,d⟩=>if(decide (a<b))=true then none else(some (.brk (c,d)))
def wq(a0:List cU):Option ((Option (List ((List UInt8)×Int)))×Bool):=
 aG (U:=Bool×(List ((List UInt8)×Int))) (uk (Int.toNat (List.length a0:Int)+1) (false,a0,(List.length a0:Int),(0:Int),([]:List ((List UInt8)×Int)))) fun⟨b,a⟩=>some (some a,b)
def P7:SS:=⟨37,77,[(4,(.mp 28)),(5,(.val .bool))],[(28,(.map .str (.int .i64)))],[]⟩
def P8:SS:=⟨37,77,[(1,(.func 169 .nil .nil)),(4,(.mp 28)),(5,(.val .bool)),(13,(.val (.slice 56 cY))),(14,(.val (.int .i64))),(15,(.val (.int .i64)))],[(28,(.map .str (.int .i64)))],[]⟩
def P9:SS:=⟨37,77,[(4,(.val (.map .str (.int .i64)))),(5,(.val .bool))],[],[]⟩
def wu:aH:=aB G [.tmp 4,.tmp 5] 168 [(.val (.slice 56 cY)),(.func 169 .nil .nil)] [] 77 P9 [] (.bE (fun d=>wq d.1))
theorem DC:wu.holds Tryz.prog gl:=
 aH.of tied (H:=⟨[(4,⟨[],[],[],none,[(0,9999)],[],[]⟩)],[(10,P7)],[],[(3,⟨P8,fun u2=>Int.toNat u2.2.2.1+1⟩)],[],[]⟩) (hold (l:=[]) trivial) aE rfl Tryz.call168 Tryz.func168 rfl rfl rfl rfl (fun _=>by kernel_rfl) (fun _=>by kernel_rfl)
def f171(a0:eP):Option (List UInt8):=
 some a0.1
def Qa:SS:=⟨5,45,[(2,(.val .str))],[],[]⟩
def Ir:aH:=aB G [.tmp 2] 171 [(.val db)] [] 45 Qa [] (.bE (fun d=>f171 d.1))
theorem Ld:Ir.holds Tryz.prog gl:=
 aH.of tied (H:=⟨[],[],[],[],[],[]⟩) (hold (l:=[]) trivial) aE rfl Tryz.call171 Tryz.func171 rfl rfl rfl rfl (fun _=>by kernel_rfl) (fun _=>by kernel_rfl)
def um:Nat→(Bool×(List eP)×Int×Int×(List ((List UInt8)×Int)))→Option (ct (Bool×(List ((List UInt8)×Int))) ((Option (List ((List UInt8)×Int)))×Bool)):=aL fun Rt ⟨e,c,b,a,d⟩=>if(decide (a<b))=true then(if 0≤a then(if a<(List.length c:Int) then(Option.bind (f171 (nth db c a)) fun y4=>if(dh .str y4 d)=true then none else(Option.bind (f171 (nth db c a)) fun y5=>if List.length d+1≤aF then(Rt (e,c,b,bM (a+(1:Int)),cj .str y5 a d)) else none)) else none) else none) else(some (.brk (e,d)))
def wv(a0:List eP):Option ((Option (List ((List UInt8)×Int)))×Bool):=
 aG (U:=Bool×(List ((List UInt8)×Int))) (um (Int.toNat (List.length a0:Int)+1) (false,a0,(List.length a0:Int),(0:Int),([]:List ((List UInt8)×Int)))) fun⟨b,a⟩=>some (some a,b)
def Qb:SS:=⟨37,77,[(4,(.mp 28)),(5,(.val .bool))],[(28,(.map .str (.int .i64)))],[]⟩
def Qc:SS:=⟨37,77,[(1,(.func 171 .nil .nil)),(4,(.mp 28)),(5,(.val .bool)),(13,(.val (.slice 96 db))),(14,(.val (.int .i64))),(15,(.val (.int .i64)))],[(28,(.map .str (.int .i64)))],[]⟩
def Qd:SS:=⟨37,77,[(4,(.val (.map .str (.int .i64)))),(5,(.val .bool))],[],[]⟩
def wx:aH:=aB G [.tmp 4,.tmp 5] 170 [(.val (.slice 96 db)),(.func 171 .nil .nil)] [] 77 Qd [] (.bE (fun d=>wv d.1))
theorem DD:wx.holds Tryz.prog gl:=
 aH.of tied (H:=⟨[(5,⟨[],[],[⟨[0],[],[],[],[]⟩],none,[],[],[]⟩),(7,⟨[],[],[],none,[(0,9999)],[],[]⟩),(8,⟨[],[],[⟨[0],[],[],[],[]⟩],none,[],[],[]⟩)],[(10,Qb)],[],[(3,⟨Qc,fun u2=>Int.toNat u2.2.2.1+1⟩)],[],[]⟩) (hold (l:=[Ir]) ⟨Ld,trivial⟩) aE rfl Tryz.call170 Tryz.func170 rfl rfl rfl rfl (fun _=>by kernel_rfl) (fun _=>by kernel_rfl)
def uq:Nat→(Bool×(List dz)×Int×Int×(List ((List UInt8)×Int)))→Option (ct (Bool×(List ((List UInt8)×Int))) ((Option (List ((List UInt8)×Int)))×Bool)):=aL fun _Rt ⟨c,_,b,a,d⟩=>if(decide (a<b))=true then none else(some (.brk (c,d)))
def wy(a0:List dz):Option ((Option (List ((List UInt8)×Int)))×Bool):=
 aG (U:=Bool×(List ((List UInt8)×Int))) (uq (Int.toNat (List.length a0:Int)+1) (false,a0,(List.length a0:Int),(0:Int),([]:List ((List UInt8)×Int)))) fun⟨b,a⟩=>some (some a,b)
def Qe:SS:=⟨37,77,[(4,(.mp 28)),(5,(.val .bool))],[(28,(.map .str (.int .i64)))],[]⟩
def Qf:SS:=⟨37,77,[(1,(.func 173 .nil .nil)),(4,(.mp 28)),(5,(.val .bool)),(13,(.val (.slice 48 ef))),(14,(.val (.int .i64))),(15,(.val (.int .i64)))],[(28,(.map .str (.int .i64)))],[]⟩
def Qg:SS:=⟨37,77,[(4,(.val (.map .str (.int .i64)))),(5,(.val .bool))],[],[]⟩
def wz:aH:=aB G [.tmp 4,.tmp 5] 172 [(.val (.slice 48 ef)),(.func 173 .nil .nil)] [] 77 Qg [] (.bE (fun d=>wy d.1))
theorem DE:wz.holds Tryz.prog gl:=
 aH.of tied (H:=⟨[(4,⟨[],[],[],none,[(0,9999)],[],[]⟩)],[(10,Qe)],[],[(3,⟨Qf,fun u2=>Int.toNat u2.2.2.1+1⟩)],[],[]⟩) (hold (l:=[]) trivial) aE rfl Tryz.call172 Tryz.func172 rfl rfl rfl rfl (fun _=>by kernel_rfl) (fun _=>by kernel_rfl)
def f175(a0:lk):Option (List UInt8):=
 some a0.1
def Qh:SS:=⟨5,45,[(2,(.val .str))],[],[]⟩
def Is:aH:=aB G [.tmp 2] 175 [(.val gn)] [] 45 Qh [] (.bE (fun d=>f175 d.1))
theorem Le:Is.holds Tryz.prog gl:=
 aH.of tied (H:=⟨[],[],[],[],[],[]⟩) (hold (l:=[]) trivial) aE rfl Tryz.call175 Tryz.func175 rfl rfl rfl rfl (fun _=>by kernel_rfl) (fun _=>by kernel_rfl)
def ur:Nat→(Bool×(List lk)×Int×Int×(List ((List UInt8)×Int)))→Option (ct (Bool×(List ((List UInt8)×Int))) ((Option (List ((List UInt8)×Int)))×Bool)):=aL fun Rt ⟨e,c,b,a,d⟩=>if(decide (a<b))=true then(if 0≤a then(if a<(List.length c:Int) then(Option.bind (f175 (nth gn c a)) fun y4=>if(dh .str y4 d)=true then none else(Option.bind (f175 (nth gn c a)) fun y5=>if List.length d+1≤aF then(Rt (e,c,b,bM (a+(1:Int)),cj .str y5 a d)) else none)) else none) else none) else(some (.brk (e,d)))
def wC(a0:List lk):Option ((Option (List ((List UInt8)×Int)))×Bool):=
 aG (U:=Bool×(List ((List UInt8)×Int))) (ur (Int.toNat (List.length a0:Int)+1) (false,a0,(List.length a0:Int),(0:Int),([]:List ((List UInt8)×Int)))) fun⟨b,a⟩=>some (some a,b)
def Qi:SS:=⟨37,77,[(4,(.mp 28)),(5,(.val .bool))],[(28,(.map .str (.int .i64)))],[]⟩
def Qj:SS:=⟨37,77,[(1,(.func 175 .nil .nil)),(4,(.mp 28)),(5,(.val .bool)),(13,(.val (.slice 120 gn))),(14,(.val (.int .i64))),(15,(.val (.int .i64)))],[(28,(.map .str (.int .i64)))],[]⟩
def Qk:SS:=⟨37,77,[(4,(.val (.map .str (.int .i64)))),(5,(.val .bool))],[],[]⟩
def wD:aH:=aB G [.tmp 4,.tmp 5] 174 [(.val (.slice 120 gn)),(.func 175 .nil .nil)] [] 77 Qk [] (.bE (fun d=>wC d.1))
theorem DF:wD.holds Tryz.prog gl:=
 aH.of tied (H:=⟨[(5,⟨[],[],[⟨[0],[],[],[],[]⟩],none,[],[],[]⟩),(7,⟨[],[],[],none,[(0,9999)],[],[]⟩),(8,⟨[],[],[⟨[0],[],[],[],[]⟩],none,[],[],[]⟩)],[(10,Qi)],[],[(3,⟨Qj,fun u2=>Int.toNat u2.2.2.1+1⟩)],[],[]⟩) (hold (l:=[Is]) ⟨Le,trivial⟩) aE rfl Tryz.call174 Tryz.func174 rfl rfl rfl rfl (fun _=>by kernel_rfl) (fun _=>by kernel_rfl)
def sk:Nat→(Bool×(List eP)×Int×Int×dr×(Option (List ((List UInt8)×Int)))×(Option (List ((List UInt8)×Int)))×(Option (List ((List UInt8)×Int)))×(List (Option (List ((List UInt8)×Int)))))→Option (ct (Bool×dr×(Option (List ((List UInt8)×Int)))×(Option (List ((List UInt8)×Int)))×(Option (List ((List UInt8)×Int)))×(List (Option (List ((List UInt8)×Int))))) (Bool×(Option (List ((List UInt8)×Int)))×(Option (List ((List UInt8)×Int)))×(Option (List ((List UInt8)×Int)))×(List (Option (List ((List UInt8)×Int)))))):=aL fun rec10 ⟨g,e,d,c,h,i,j,k,f⟩=>if(decide (c<d))=true then(if 0≤c then(if c<(List.length e:Int) then(Option.bind (wC ((((((nth db e c).2).2).2).2).1)) fun⟨a,b⟩=>if(List.length f+List.length [a])*8≤aF then(Option.bind (α:=Bool) (if g=true then(some true) else(some b)) fun v12=>rec10 (v12,e,d,bM (c+(1:Int)),h,i,j,k,f++[a])) else none) else none) else none) else(some (.brk (g,h,i,j,k,f)))
def sm:Nat→(Bool×(List ix)×Int×Int×(Option (List ((List UInt8)×Int)))×(Option (List ((List UInt8)×Int)))×(Option (List ((List UInt8)×Int)))×(List (Option (List ((List UInt8)×Int)))))→Option (ct (Bool×(Option (List ((List UInt8)×Int)))×(Option (List ((List UInt8)×Int)))×(Option (List ((List UInt8)×Int)))×(List (Option (List ((List UInt8)×Int))))) (Bool×(Option (List ((List UInt8)×Int)))×(Option (List ((List UInt8)×Int)))×(Option (List ((List UInt8)×Int)))×(List (Option (List ((List UInt8)×Int)))))):=aL fun _rec15 ⟨c,_,b,a,d,e,f,g⟩=>if(decide (a<b))=true then none else(some (.brk (c,d,e,f,g)))
def wE(a0:dr):Option (Bool×(Option (List ((List UInt8)×Int)))×(Option (List ((List UInt8)×Int)))×(Option (List ((List UInt8)×Int)))×(List (Option (List ((List UInt8)×Int))))):=
 Option.bind (wm a0.1) fun⟨b,a⟩=>Option.bind (wq a0.2.1) fun⟨d,c⟩=>Option.bind (α:=Bool) (if a=true then(some true) else(some c)) fun v3=>Option.bind (wv a0.2.2.1) fun⟨f,e⟩=>Option.bind (α:=Bool) (if v3=true then(some true) else(some e)) fun v5=>Option.bind (wy a0.2.2.2.2.2.1) fun⟨_,g⟩=>Option.bind (α:=Bool) (if v5=true then(some true) else(some g)) fun v7=>aG (U:=Bool×dr×(Option (List ((List UInt8)×Int)))×(Option (List ((List UInt8)×Int)))×(Option (List ((List UInt8)×Int)))×(List (Option (List ((List UInt8)×Int))))) (sk (Int.toNat (List.length a0.2.2.1:Int)+1) (v7,a0.2.2.1,(List.length a0.2.2.1:Int),(0:Int),a0,b,d,f,([]:List (Option (List ((List UInt8)×Int)))))) fun⟨i,h,j,k,l,m⟩=>aG (U:=Bool×(Option (List ((List UInt8)×Int)))×(Option (List ((List UInt8)×Int)))×(Option (List ((List UInt8)×Int)))×(List (Option (List ((List UInt8)×Int))))) (sm (Int.toNat (List.length h.2.2.2.1:Int)+1) (i,h.2.2.2.1,(List.length h.2.2.2.1:Int),(0:Int),j,k,l,m)) fun⟨n,o,p,q,r⟩=>some (n,o,p,q,r)
def Ql:SS:=⟨108,148,[(1,(.ptr 17 [])),(2,(.ptr 30 [])),(3,(.val .bool))],[(17,(.var dq (.val dq))),(30,(.var gE (.cons (.val (.map .str (.int .i64))) (.cons (.val (.map .str (.int .i64))) (.cons (.val (.map .str (.int .i64))) (.cons (.own 125) .nil)))))),(125,(.row 232 8 (.map .str (.int .i64))))],[]⟩
def Oh:SS:=⟨108,148,[(2,(.ptr 30 [])),(3,(.val .bool))],[(30,(.var gE (.cons (.val (.map .str (.int .i64))) (.cons (.val (.map .str (.int .i64))) (.cons (.val (.map .str (.int .i64))) (.cons (.own 125) .nil)))))),(125,(.row 232 8 (.map .str (.int .i64))))],[]⟩
def Qm:SS:=⟨108,148,[(1,(.ptr 17 [])),(2,(.ptr 30 [])),(3,(.val .bool)),(61,(.val (.slice 96 db))),(62,(.val (.int .i64))),(63,(.val (.int .i64)))],[(17,(.var dq (.val dq))),(30,(.var gE (.cons (.val (.map .str (.int .i64))) (.cons (.val (.map .str (.int .i64))) (.cons (.val (.map .str (.int .i64))) (.cons (.own 124) .nil)))))),(124,(.row 232 8 (.map .str (.int .i64))))],[]⟩
def Qn:SS:=⟨108,148,[(2,(.ptr 30 [])),(3,(.val .bool)),(89,(.val (.slice 96 fm))),(90,(.val (.int .i64))),(91,(.val (.int .i64)))],[(30,(.var gE (.cons (.val (.map .str (.int .i64))) (.cons (.val (.map .str (.int .i64))) (.cons (.val (.map .str (.int .i64))) (.cons (.own 125) .nil)))))),(125,(.row 232 8 (.map .str (.int .i64))))],[]⟩
def wG:aH:=aB G [.tmp 2,.tmp 3] 115 [(.val dq)] [] 148 Oh [30,125] (.bE (fun d=>wE d.1))
theorem DG:wG.holds Tryz.prog gl:=
 aH.of tied (H:=⟨[(3,⟨[],[],[⟨[0],[],[],[],[]⟩],none,[],[],[]⟩),(4,⟨[],[],[⟨[1],[],[],[],[]⟩],none,[],[],[]⟩),(5,⟨[],[],[],some [(3,.bool)],[],[],[]⟩),(6,⟨[],[],[⟨[2],[],[],[],[]⟩],none,[],[],[]⟩),(7,⟨[],[],[],some [(3,.bool)],[],[],[]⟩),(8,⟨[],[],[⟨[3],[],[],[],[]⟩],none,[],[],[]⟩),(9,⟨[],[],[],some [(3,.bool)],[],[],[]⟩),(13,⟨[],[],[⟨[4],[],[],[],[]⟩],none,[],[],[]⟩),(15,⟨[],[],[],some [(3,.bool)],[],[],[]⟩),(19,⟨[],[],[],none,[(0,9999)],[],[]⟩)],[(17,Ql),(23,Oh)],[],[(11,⟨Qm,fun u9=>Int.toNat u9.2.2.1+1⟩),(18,⟨Qn,fun u14=>Int.toNat u14.2.2.1+1⟩)],[],[]⟩) (hold (l:=[wo,wu,wx,wz,wD]) ⟨DB,DC,DD,DE,DF,trivial⟩) aE rfl Tryz.call115 Tryz.func115 rfl rfl rfl rfl (fun _=>by kernel_rfl) (fun _=>by kernel_rfl)
def wH(a0:List (List UInt8)):Option (List (List UInt8)):=
 if(List.length ([]:List (List UInt8))+List.length a0)*16≤aF then some a0 else none
def Qo:SS:=⟨8,48,[(2,(.own 23))],[(23,(.row 9 16 .str))],[]⟩
def wI:aH:=aB G [.tmp 2] 117 [(.val (.slice 16 .str))] [] 48 Qo [23] (.bE (fun d=>wH d.1))
theorem DH:wI.holds Tryz.prog gl:=
 aH.jI tied (H:=⟨[],[],[],[],[],[]⟩) (hold (l:=[]) trivial) rfl (.tmp 0) 3 4 22 22 9 16 .str (fun d=>d.1) (fun d=>⟨(.val (.slice 16 .str) d.1)::.bot::.aS::List.replicate 5 .bot,List.replicate 48 none,[]⟩) Tryz.call117 Tryz.func117 rfl rfl rfl rfl rfl rfl rfl rfl rfl rfl (by kernel_rfl) (fun _=>by kernel_rfl) (fun _=>by kernel_rfl) (fun _=>rfl) (fun _=>by kernel_rfl) (fun _ _=>by kernel_rfl) (fun d h=>by obtain⟨x,y⟩:=d;cases(h:x= []);kernel_rfl) (fun _=>by kernel_rfl)
def wJ(a0:List cU):Option (List cU):=
 if(List.length ([]:List cU)+List.length a0)*56≤aF then some a0 else none
def Qp:SS:=⟨8,48,[(2,(.own 23))],[(23,(.row 170 56 cY))],[]⟩
def wK:aH:=aB G [.tmp 2] 118 [(.val (.slice 56 cY))] [] 48 Qp [23] (.bE (fun d=>wJ d.1))
theorem DI:wK.holds Tryz.prog gl:=
 aH.jI tied (H:=⟨[],[],[],[],[],[]⟩) (hold (l:=[]) trivial) rfl (.tmp 0) 3 4 23 23 170 56 cY (fun d=>d.1) (fun d=>⟨(.val (.slice 56 cY) d.1)::.bot::.aS::List.replicate 5 .bot,List.replicate 48 none,[]⟩) Tryz.call118 Tryz.func118 rfl rfl rfl rfl rfl rfl rfl rfl rfl rfl (by kernel_rfl) (fun _=>by kernel_rfl) (fun _=>by kernel_rfl) (fun _=>rfl) (fun _=>by kernel_rfl) (fun _ _=>by kernel_rfl) (fun d h=>by obtain⟨x,y⟩:=d;cases(h:x= []);kernel_rfl) (fun _=>by kernel_rfl)
def wL(a0:List eP):Option (List eP):=
 if(List.length ([]:List eP)+List.length a0)*96≤aF then some a0 else none
def Qq:SS:=⟨8,48,[(2,(.own 23))],[(23,(.row 91 96 db))],[]⟩
def wM:aH:=aB G [.tmp 2] 119 [(.val (.slice 96 db))] [] 48 Qq [23] (.bE (fun d=>wL d.1))
theorem DJ:wM.holds Tryz.prog gl:=
 aH.jI tied (H:=⟨[],[],[],[],[],[]⟩) (hold (l:=[]) trivial) rfl (.tmp 0) 3 4 24 24 91 96 db (fun d=>d.1) (fun d=>⟨(.val (.slice 96 db) d.1)::.bot::.aS::List.replicate 5 .bot,List.replicate 48 none,[]⟩) Tryz.call119 Tryz.func119 rfl rfl rfl rfl rfl rfl rfl rfl rfl rfl (by kernel_rfl) (fun _=>by kernel_rfl) (fun _=>by kernel_rfl) (fun _=>rfl) (fun _=>by kernel_rfl) (fun _ _=>by kernel_rfl) (fun d h=>by obtain⟨x,y⟩:=d;cases(h:x= []);kernel_rfl) (fun _=>by kernel_rfl)
def wN(a0:List ix):Option (List ix):=
 if(List.length ([]:List ix)+List.length a0)*96≤aF then some a0 else none
def Qr:SS:=⟨8,48,[(2,(.own 23))],[(23,(.row 73 96 fm))],[]⟩
def wO:aH:=aB G [.tmp 2] 120 [(.val (.slice 96 fm))] [] 48 Qr [23] (.bE (fun d=>wN d.1))
theorem DK:wO.holds Tryz.prog gl:=
 aH.jI tied (H:=⟨[],[],[],[],[],[]⟩) (hold (l:=[]) trivial) rfl (.tmp 0) 3 4 25 25 73 96 fm (fun d=>d.1) (fun d=>⟨(.val (.slice 96 fm) d.1)::.bot::.aS::List.replicate 5 .bot,List.replicate 48 none,[]⟩) Tryz.call120 Tryz.func120 rfl rfl rfl rfl rfl rfl rfl rfl rfl rfl (by kernel_rfl) (fun _=>by kernel_rfl) (fun _=>by kernel_rfl) (fun _=>rfl) (fun _=>by kernel_rfl) (fun _ _=>by kernel_rfl) (fun d h=>by obtain⟨x,y⟩:=d;cases(h:x= []);kernel_rfl) (fun _=>by kernel_rfl)
def wP(a0:List eW):Option (List eW):=
 if(List.length ([]:List eW)+List.length a0)*72≤aF then some a0 else none
def Qs:SS:=⟨8,48,[(2,(.own 23))],[(23,(.row 185 72 fR))],[]⟩
def wQ:aH:=aB G [.tmp 2] 121 [(.val (.slice 72 fR))] [] 48 Qs [23] (.bE (fun d=>wP d.1))
theorem DL:wQ.holds Tryz.prog gl:=
 aH.jI tied (H:=⟨[],[],[],[],[],[]⟩) (hold (l:=[]) trivial) rfl (.tmp 0) 3 4 26 26 185 72 fR (fun d=>d.1) (fun d=>⟨(.val (.slice 72 fR) d.1)::.bot::.aS::List.replicate 5 .bot,List.replicate 48 none,[]⟩) Tryz.call121 Tryz.func121 rfl rfl rfl rfl rfl rfl rfl rfl rfl rfl (by kernel_rfl) (fun _=>by kernel_rfl) (fun _=>by kernel_rfl) (fun _=>rfl) (fun _=>by kernel_rfl) (fun _ _=>by kernel_rfl) (fun d h=>by obtain⟨x,y⟩:=d;cases(h:x= []);kernel_rfl) (fun _=>by kernel_rfl)
def wR(a0:List dz):Option (List dz):=
 if(List.length ([]:List dz)+List.length a0)*48≤aF then some a0 else none
def Qt:SS:=⟨8,48,[(2,(.own 23))],[(23,(.row 178 48 ef))],[]⟩
def wS:aH:=aB G [.tmp 2] 122 [(.val (.slice 48 ef))] [] 48 Qt [23] (.bE (fun d=>wR d.1))
theorem DM:wS.holds Tryz.prog gl:=
 aH.jI tied (H:=⟨[],[],[],[],[],[]⟩) (hold (l:=[]) trivial) rfl (.tmp 0) 3 4 27 27 178 48 ef (fun d=>d.1) (fun d=>⟨(.val (.slice 48 ef) d.1)::.bot::.aS::List.replicate 5 .bot,List.replicate 48 none,[]⟩) Tryz.call122 Tryz.func122 rfl rfl rfl rfl rfl rfl rfl rfl rfl rfl (by kernel_rfl) (fun _=>by kernel_rfl) (fun _=>by kernel_rfl) (fun _=>rfl) (fun _=>by kernel_rfl) (fun _ _=>by kernel_rfl) (fun d h=>by obtain⟨x,y⟩:=d;cases(h:x= []);kernel_rfl) (fun _=>by kernel_rfl)
def uu:Nat→(Int×Int×(Option (List ((List UInt8)×Int)))×(Option (List ((List UInt8)×Int)))×(Option (List ((List UInt8)×Int)))×(List cU)×(List (Option (List ((List UInt8)×Int)))))→Option (ct ((Option (List ((List UInt8)×Int)))×(Option (List ((List UInt8)×Int)))×(Option (List ((List UInt8)×Int)))×(List cU)×(List (Option (List ((List UInt8)×Int))))) ((Option (List ((List UInt8)×Int)))×(Option (List ((List UInt8)×Int)))×(Option (List ((List UInt8)×Int)))×(List cU)×(List (Option (List ((List UInt8)×Int)))))):=aL fun _Rt ⟨b,a,c,d,e,f,g⟩=>if(decide (a<b))=true then none else(some (.brk (c,d,e,f,g)))
def wT(a0:Option (List ((List UInt8)×Int)))(a1:Option (List ((List UInt8)×Int)))(a2:Option (List ((List UInt8)×Int)))(a3:List cU)(a4:List (Option (List ((List UInt8)×Int)))):Option ((Option (List ((List UInt8)×Int)))×(Option (List ((List UInt8)×Int)))×(Option (List ((List UInt8)×Int)))×(List cU)×(List (Option (List ((List UInt8)×Int))))):=
 aG (U:=(Option (List ((List UInt8)×Int)))×(Option (List ((List UInt8)×Int)))×(Option (List ((List UInt8)×Int)))×(List cU)×(List (Option (List ((List UInt8)×Int))))) (uu (Int.toNat (List.length a3:Int)+1) ((List.length a3:Int),(0:Int),a0,a1,a2,a3,a4)) fun⟨a,b,c,d,e⟩=>some (a,b,c,d,e)
def Oi:SS:=⟨91,131,[],[(0,(.var gE (.cons (.val (.map .str (.int .i64))) (.cons (.val (.map .str (.int .i64))) (.cons (.val (.map .str (.int .i64))) (.cons (.own 2) .nil)))))),(1,(.row 170 56 cY)),(2,(.row 232 8 (.map .str (.int .i64))))],[]⟩
def Qu:SS:=⟨91,131,[(0,(.ptr 0 [])),(1,(.own 1)),(8,(.val (.int .i64))),(9,(.val (.int .i64)))],[(0,(.var gE (.cons (.val (.map .str (.int .i64))) (.cons (.val (.map .str (.int .i64))) (.cons (.val (.map .str (.int .i64))) (.cons (.own 2) .nil)))))),(1,(.row 170 56 cY)),(2,(.row 232 8 (.map .str (.int .i64))))],[]⟩
def wU:aH:=aB G [] 123 [(.ptr 0 []),(.own 1)] [(0,(.var gE (.cons (.val (.map .str (.int .i64))) (.cons (.val (.map .str (.int .i64))) (.cons (.val (.map .str (.int .i64))) (.cons (.own 2) .nil)))))),(1,(.row 170 56 cY)),(2,(.row 232 8 (.map .str (.int .i64))))] 131 Oi [0,1,2] (.bE (fun d=>wT d.1 d.2.1 d.2.2.1 d.2.2.2.1 d.2.2.2.2.1))
theorem DN:wU.holds Tryz.prog gl:=
 aH.of tied (H:=⟨[(2,⟨[],[],[],none,[(0,9999)],[],[]⟩)],[],[(0,Oi)],[(1,⟨Qu,fun u2=>Int.toNat u2.1+1⟩)],[],[]⟩) (hold (l:=[]) trivial) aE rfl Tryz.call123 Tryz.func123 rfl rfl rfl rfl (fun _=>by kernel_rfl) (fun _=>by kernel_rfl)
def f178(a0:Option (List ((List UInt8)×Int)))(a1:List UInt8):Option (Sum (Unit×Unit) Int):=
 if(!(dh .str a1 (ew a0)))=true then(some (.inl ((),()))) else(some (.inr (cI .str (.int .i64) a1 (ew a0))))
def Qv:SS:=⟨18,58,[(4,(.val (.int .i64)))],[],[]⟩
def It:aH:=aB G [.tmp 4] 178 [(.val (.map .str (.int .i64))),(.val .str)] [] 58 Qv [] (.je (.iface 221 (.val .unit)) (fun d=>f178 d.1 d.2.1))
theorem Lf:It.holds Tryz.prog gl:=
 aH.JH tied (H:=⟨[],[],[],[],[],[]⟩) (hold (l:=[]) trivial) aE rfl Tryz.call178 Tryz.func178 rfl rfl rfl rfl (fun _=>by kernel_rfl) (fun _=>by kernel_rfl)
def wV(a0:List lk):Option (List lk):=
 if(List.length ([]:List lk)+List.length a0)*120≤aF then some a0 else none
def Qw:SS:=⟨8,48,[(2,(.own 23))],[(23,(.row 99 120 gn))],[]⟩
def wW:aH:=aB G [.tmp 2] 179 [(.val (.slice 120 gn))] [] 48 Qw [23] (.bE (fun d=>wV d.1))
theorem DO:wW.holds Tryz.prog gl:=
 aH.jI tied (H:=⟨[],[],[],[],[],[]⟩) (hold (l:=[]) trivial) rfl (.tmp 0) 3 4 88 88 99 120 gn (fun d=>d.1) (fun d=>⟨(.val (.slice 120 gn) d.1)::.bot::.aS::List.replicate 5 .bot,List.replicate 48 none,[]⟩) Tryz.call179 Tryz.func179 rfl rfl rfl rfl rfl rfl rfl rfl rfl rfl (by kernel_rfl) (fun _=>by kernel_rfl) (fun _=>by kernel_rfl) (fun _=>rfl) (fun _=>by kernel_rfl) (fun _ _=>by kernel_rfl) (fun d h=>by obtain⟨x,y⟩:=d;cases(h:x= []);kernel_rfl) (fun _=>by kernel_rfl)
def f180(a0:List gF):Option (List gF):=
 if(List.length ([]:List gF)+List.length a0)*72≤aF then some a0 else none
def Qx:SS:=⟨8,48,[(2,(.val (.slice 72 iF)))],[],[]⟩
def Iu:aH:=aB G [.tmp 2] 180 [(.val (.slice 72 iF))] [] 48 Qx [] (.bE (fun d=>f180 d.1))
theorem Lg:Iu.holds Tryz.prog gl:=
 aH.jI tied (H:=⟨[],[],[],[],[],[]⟩) (hold (l:=[]) trivial) rfl (.tmp 0) 3 4 89 89 254 72 iF (fun d=>d.1) (fun d=>⟨(.val (.slice 72 iF) d.1)::.bot::.aS::List.replicate 5 .bot,List.replicate 48 none,[]⟩) Tryz.call180 Tryz.func180 rfl rfl rfl rfl rfl rfl rfl rfl rfl rfl (by kernel_rfl) (fun _=>by kernel_rfl) (fun _=>by kernel_rfl) (fun _=>rfl) (fun _=>by kernel_rfl) (fun _ _=>by kernel_rfl) (fun d h=>by obtain⟨x,y⟩:=d;cases(h:x= []);kernel_rfl) (fun _=>by kernel_rfl)
def uv:Nat→((Option (List ((List UInt8)×Int)))×Int×Int×(Option (List ((List UInt8)×Int)))×(Option (List ((List UInt8)×Int)))×(Option (List ((List UInt8)×Int)))×(List eP)×Nat×(List UInt8)×(List UInt8)×Int×Int×((List gF)×Unit)×(List (Option (List ((List UInt8)×Int))))×(List lk))→Option (ct ((Option (List ((List UInt8)×Int)))×(Option (List ((List UInt8)×Int)))×(Option (List ((List UInt8)×Int)))×(Option (List ((List UInt8)×Int)))×(List eP)×Nat×(List UInt8)×(List UInt8)×Int×Int×((List gF)×Unit)×(List (Option (List ((List UInt8)×Int))))×(List lk)) (Sum (Unit×Unit) ((Option (List ((List UInt8)×Int)))×(Option (List ((List UInt8)×Int)))×(Option (List ((List UInt8)×Int)))×(List eP)×Nat×(List UInt8)×(List UInt8)×Int×Int×((List gF)×Unit)×(List (Option (List ((List UInt8)×Int))))×(List lk)))):=aL fun rec5 ⟨t,r,q,u,v,w,x,y,z,aa,ab,ac,ad,ae,s⟩=>if(decide (q<r))=true then(if 0≤q then(if q<(List.length s:Int) then(aG (U:=(Option (List ((List UInt8)×Int)))×Nat×Int×Int×(Option (List ((List UInt8)×Int)))×(Option (List ((List UInt8)×Int)))×(Option (List ((List UInt8)×Int)))×(List eP)×Nat×(List UInt8)×(List UInt8)×Int×Int×((List gF)×Unit)×(List (Option (List ((List UInt8)×Int))))×(List lk)) (some (.brk (t,Int.toNat q,r,q,u,v,w,x,y,z,aa,ab,ac,ad,ae,List.set s (Int.toNat q) ((nth gn s q).1,(((((nth gn s q).2).1).1,(((((nth gn s q).2).1).2).1,((((((nth gn s q).2).1).2).2).1,(((((((nth gn s q).2).1).2).2).2).1,((-1:Int),(((((((nth gn s q).2).1).2).2).2).2).2))))),((nth gn s q).2).2))))) fun⟨c,b,d,e,f,g,h,i,j,k,l,m,n,o,p,a⟩=>Option.bind (α:=Bool) (if(decide (((((List.getD a b (Ty.bL gn)).2).1).1)=(1:Int)))=true then(some (!decide ((((((((List.getD a b (Ty.bL gn)).2).1).2).2).2).1)= []))) else(some false)) fun v7=>if v7=true then none else(rec5 (c,d,bM (e+(1:Int)),f,g,h,i,j,k,l,m,n,o,p,a))) else none) else none) else(some (.brk (t,u,v,w,x,y,z,aa,ab,ac,ad,ae,s)))
def sn:Nat→((Option (List ((List UInt8)×Int)))×Int×Int×(Option (List ((List UInt8)×Int)))×(Option (List ((List UInt8)×Int)))×(Option (List ((List UInt8)×Int)))×(List eP)×Nat×(List UInt8)×(List UInt8)×Int×Int×((List gF)×Unit)×(List (Option (List ((List UInt8)×Int))))×(List lk))→Option (ct ((Option (List ((List UInt8)×Int)))×(Option (List ((List UInt8)×Int)))×(Option (List ((List UInt8)×Int)))×(List eP)×Nat×(List UInt8)×(List UInt8)×Int×Int×((List gF)×Unit)×(List (Option (List ((List UInt8)×Int))))×(List lk)) (Sum (Unit×Unit) ((Option (List ((List UInt8)×Int)))×(Option (List ((List UInt8)×Int)))×(Option (List ((List UInt8)×Int)))×(List eP)×Nat×(List UInt8)×(List UInt8)×Int×Int×((List gF)×Unit)×(List (Option (List ((List UInt8)×Int))))×(List lk)))):=aL fun _rec11 ⟨_,b,a,c,d,e,f,g,h,i,j,k,l,m,n⟩=>if(decide (a<b))=true then none else(some (.brk (c,d,e,f,g,h,i,j,k,l,m,n)))
def wX(a0:Option (List ((List UInt8)×Int)))(a1:Option (List ((List UInt8)×Int)))(a2:Option (List ((List UInt8)×Int)))(a3:Option (List ((List UInt8)×Int)))(a4:List eP)(a5:Nat)(a6:eP)(a7:List (Option (List ((List UInt8)×Int)))):Option (Sum (Unit×Unit) ((Option (List ((List UInt8)×Int)))×(Option (List ((List UInt8)×Int)))×(Option (List ((List UInt8)×Int)))×(List eP)×Nat×(List UInt8)×(List UInt8)×Int×Int×((List gF)×Unit)×(List (Option (List ((List UInt8)×Int))))×(List lk))):=
 BT (f178 a1 a6.2.1) (fun p12=>some (.inl (p12.1,()))) fun y1=>Option.bind (wV a6.2.2.2.2.1) fun y2=>aG (U:=(Option (List ((List UInt8)×Int)))×(Option (List ((List UInt8)×Int)))×(Option (List ((List UInt8)×Int)))×(Option (List ((List UInt8)×Int)))×(List eP)×Nat×(List UInt8)×(List UInt8)×Int×Int×((List gF)×Unit)×(List (Option (List ((List UInt8)×Int))))×(List lk)) (uv (Int.toNat (List.length y2:Int)+1) (a0,(List.length y2:Int),(0:Int),a1,a2,a3,a4,a5,a6.1,a6.2.1,y1,a6.2.2.2.1,a6.2.2.2.2.2,a7,y2)) fun⟨b,c,d,e,f,g,h,i,j,k,a,l,m⟩=>Option.bind (f180 a.1) fun y8=>aG (U:=(Option (List ((List UInt8)×Int)))×(Option (List ((List UInt8)×Int)))×(Option (List ((List UInt8)×Int)))×(List eP)×Nat×(List UInt8)×(List UInt8)×Int×Int×((List gF)×Unit)×(List (Option (List ((List UInt8)×Int))))×(List lk)) (sn (Int.toNat (List.length y8:Int)+1) (b,(List.length y8:Int),(0:Int),c,d,e,f,g,h,i,j,k,(y8,a.2),l,m)) fun⟨n,o,p,q,r,s,t,u,v,w,x,y⟩=>some (.inr (n,o,p,q,r,s,t,u,v,w,x,y))
def Qy:SS:=⟨132,172,[(0,(.ptr 0 [])),(1,(.ptr 1 [.cB 1])),(2,(.val (.map .str (.int .i64)))),(7,(.ptr 45 [.idx,.cB 1])),(36,(.val (.int .i64))),(37,(.val (.int .i64)))],[(0,(.var gE (.cons (.val (.map .str (.int .i64))) (.cons (.val (.map .str (.int .i64))) (.cons (.val (.map .str (.int .i64))) (.cons (.own 2) .nil)))))),(1,(.cu 91 96 db (.cons (.val .str) (.cons (.val .str) (.cons (.val (.int .i64)) (.cons (.val (.int .i64)) (.cons (.own 45) (.val (.pair (.slice 72 iF) .unit))))))))),(2,(.row 232 8 (.map .str (.int .i64)))),(45,(.row 99 120 gn))],[]⟩
def Qz:SS:=⟨132,172,[(1,(.ptr 1 [.cB 1])),(2,(.val (.map .str (.int .i64))))],[(0,(.var gE (.cons (.val (.map .str (.int .i64))) (.cons (.val (.map .str (.int .i64))) (.cons (.val (.map .str (.int .i64))) (.cons (.own 2) .nil)))))),(1,(.cu 91 96 db (.cons (.val .str) (.cons (.val .str) (.cons (.val (.int .i64)) (.cons (.val (.int .i64)) (.cons (.own 45) (.val (.pair (.slice 72 iF) .unit))))))))),(2,(.row 232 8 (.map .str (.int .i64)))),(45,(.row 99 120 gn))],[]⟩
def Iv:SS:=⟨132,172,[],[(0,(.var gE (.cons (.val (.map .str (.int .i64))) (.cons (.val (.map .str (.int .i64))) (.cons (.val (.map .str (.int .i64))) (.cons (.own 2) .nil)))))),(1,(.cu 91 96 db (.cons (.val .str) (.cons (.val .str) (.cons (.val (.int .i64)) (.cons (.val (.int .i64)) (.cons (.own 45) (.val (.pair (.slice 72 iF) .unit))))))))),(2,(.row 232 8 (.map .str (.int .i64)))),(45,(.row 99 120 gn))],[]⟩
def Lh:SS:=⟨132,172,[(0,(.ptr 0 [])),(1,(.ptr 1 [.cB 1])),(2,(.val (.map .str (.int .i64)))),(36,(.val (.int .i64))),(37,(.val (.int .i64)))],[(0,(.var gE (.cons (.val (.map .str (.int .i64))) (.cons (.val (.map .str (.int .i64))) (.cons (.val (.map .str (.int .i64))) (.cons (.own 2) .nil)))))),(1,(.cu 91 96 db (.cons (.val .str) (.cons (.val .str) (.cons (.val (.int .i64)) (.cons (.val (.int .i64)) (.cons (.own 45) (.val (.pair (.slice 72 iF) .unit))))))))),(2,(.row 232 8 (.map .str (.int .i64)))),(45,(.row 99 120 gn))],[]⟩
def Li:SS:=⟨132,172,[(1,(.ptr 1 [.cB 1])),(2,(.val (.map .str (.int .i64)))),(87,(.val (.int .i64))),(88,(.val (.int .i64)))],[(0,(.var gE (.cons (.val (.map .str (.int .i64))) (.cons (.val (.map .str (.int .i64))) (.cons (.val (.map .str (.int .i64))) (.cons (.own 2) .nil)))))),(1,(.cu 91 96 db (.cons (.val .str) (.cons (.val .str) (.cons (.val (.int .i64)) (.cons (.val (.int .i64)) (.cons (.own 45) (.val (.pair (.slice 72 iF) .unit))))))))),(2,(.row 232 8 (.map .str (.int .i64)))),(45,(.row 99 120 gn))],[]⟩
def wY:aH:=aB G [] 124 [(.ptr 0 []),(.ptr 1 [.cB 1]),(.val (.map .str (.int .i64)))] [(0,(.var gE (.cons (.val (.map .str (.int .i64))) (.cons (.val (.map .str (.int .i64))) (.cons (.val (.map .str (.int .i64))) (.cons (.own 2) .nil)))))),(1,(.cu 91 96 db (.val db))),(2,(.row 232 8 (.map .str (.int .i64))))] 172 Iv [0,1,2,45] (.je (.iface 221 (.val .unit)) (fun d=>wX d.1 d.2.1 d.2.2.1 d.2.2.2.1 d.2.2.2.2.1 d.2.2.2.2.2.1 d.2.2.2.2.2.2.1 d.2.2.2.2.2.2.2.1))
theorem DP:wY.holds Tryz.prog gl:=
 aH.JH tied (H:=⟨[(0,⟨[],[],[⟨[0],[],[],[],[]⟩],none,[],[],[]⟩),(1,⟨[],[],[⟨[1],[],[(23,45)],[],[]⟩],none,[],[],[]⟩),(7,⟨[],[],[],some [(61,.bool)],[],[],[]⟩),(8,⟨[],[],[],none,[(0,9999)],[],[]⟩),(10,⟨[],[],[⟨[2],[],[],[],[]⟩],none,[],[],[]⟩),(13,⟨[],[],[],none,[(0,9999)],[],[]⟩)],[(7,Qy),(10,Qz)],[(2,Iv)],[(3,⟨Lh,fun u4=>Int.toNat u4.2.1+1⟩),(12,⟨Li,fun u10=>Int.toNat u10.2.1+1⟩)],[],[]⟩) (hold (l:=[It,wW,Iu]) ⟨Lf,DO,Lg,trivial⟩) aE rfl Tryz.call124 Tryz.func124 rfl rfl rfl rfl (fun _=>by kernel_rfl) (fun _=>by kernel_rfl)
def so(_q0:Unit):Option Int:=
 some (110:Int)
def Iw:SS:=⟨17,57,[],[(0,(.var dq (.cons .aS (.cons .aS (.cons .aS (.cons .aS (.cons .aS (.cons .aS .nil)))))))),(1,(.var (.int .i64) (.val (.int .i64))))],[]⟩
def sq:dO:=⟨116,[(.ptr 0 []),(.ptr 1 [])],[(0,(.var dq (.di dq))),(1,(.var (.int .i64) (.di (.int .i64))))],57,(.iface 221 (.val .unit)),Iw,fun r=>pick [0,1] (SS.st Iw y0 r).hp,fun _=>none,fun _ q=>so q.1⟩
theorem Bg:sq.holds Tryz.prog gl:=
 dO.JH tied (H:=⟨[],[],[],[],[],[]⟩) (hold (l:=[]) trivial) rfl Tryz.call116 Tryz.func116 rfl rfl rfl rfl rfl rfl rfl rfl rfl rfl rfl rfl (fun _=>by kernel_rfl) (fun _ _=>by kernel_rfl)
def sr(a0:dr)(a1:Int):Option (dr×Int):=
 some (a0,a1)
def Iy:SS:=⟨17,57,[],[(0,(.var dq (.val dq))),(1,(.var (.int .i64) (.val (.int .i64))))],[]⟩
def su:dO:=⟨116,[(.ptr 0 []),(.ptr 1 [])],[(0,(.var dq (.val dq))),(1,(.var (.int .i64) (.val (.int .i64))))],57,.eI,Iy,fun r=>pick [0,1] (SS.st Iy y0 r).hp,fun d=>sr d.1 d.2.1,fun _ _=>none⟩
theorem Bh:su.holds Tryz.prog gl:=
 dO.Rh tied (H:=⟨[],[],[],[],[],[]⟩) (hold (l:=[]) trivial) rfl Tryz.call116 Tryz.func116 rfl rfl rfl rfl rfl rfl rfl rfl rfl rfl rfl rfl (fun _=>by kernel_rfl) (fun _=>by kernel_rfl)
def Gn:Nat→(Int×Int×Int×(Option (List ((List UInt8)×Int)))×(Option (List ((List UInt8)×Int)))×(Option (List ((List UInt8)×Int)))×(List (List UInt8))×(List cU)×(List eP)×(List ix)×(List eW)×(List dz)×(List (Option (List ((List UInt8)×Int)))))→Option (ct (Int×(Option (List ((List UInt8)×Int)))×(Option (List ((List UInt8)×Int)))×(Option (List ((List UInt8)×Int)))×(List (List UInt8))×(List cU)×(List eP)×(List ix)×(List eW)×(List dz)×(List (Option (List ((List UInt8)×Int))))) (dr×Int)):=aL fun rec11 ⟨n,m,t,q,r,s,u,v,o,w,x,y,p⟩=>if(decide (m<n))=true then(if 0≤m then(if m<(List.length o:Int) then(if 0≤m then(if Int.toNat m=(Int.toNat m) then(if 0≤m then(if m<(List.length p:Int) then(BT (wX (nth (.map .str (.int .i64)) p m) q r s o (Int.toNat m) (nth db o m) p) (fun p13=>ei (Option.bind (so p13.1) fun y14=>some ((([]:List (List UInt8)),(([]:List cU),(([]:List eP),(([]:List ix),(([]:List eW),(([]:List dz),())))))),y14))) fun⟨a,b,c,d,e,f,g,h,i,k,l,j⟩=>rec11 (n,bM (m+(1:Int)),t,a,b,c,u,v,List.set d e (f,(g,(h,(i,(j,k))))),w,x,y,l)) else none) else none) else none) else none) else none) else none) else(some (.brk (t,q,r,s,u,v,o,w,x,y,p)))
def DQ:Nat→(Int×Int×Int×(Option (List ((List UInt8)×Int)))×(Option (List ((List UInt8)×Int)))×(Option (List ((List UInt8)×Int)))×(List (List UInt8))×(List cU)×(List eP)×(List ix)×(List eW)×(List dz)×(List (Option (List ((List UInt8)×Int)))))→Option (ct (Int×(Option (List ((List UInt8)×Int)))×(Option (List ((List UInt8)×Int)))×(Option (List ((List UInt8)×Int)))×(List (List UInt8))×(List cU)×(List eP)×(List ix)×(List eW)×(List dz)×(List (Option (List ((List UInt8)×Int))))) (dr×Int)):=aL fun _rec17 ⟨b,a,c,d,e,f,g,h,i,j,k,l,m⟩=>if(decide (a<b))=true then none else(some (.brk (c,d,e,f,g,h,i,j,k,l,m)))
def DR:Nat→(Int×Int×Int×(Option (List ((List UInt8)×Int)))×(Option (List ((List UInt8)×Int)))×(Option (List ((List UInt8)×Int)))×(List (List UInt8))×(List cU)×(List eP)×(List ix)×(List eW)×(List dz)×(List (Option (List ((List UInt8)×Int)))))→Option (ct (Int×(Option (List ((List UInt8)×Int)))×(Option (List ((List UInt8)×Int)))×(Option (List ((List UInt8)×Int)))×(List (List UInt8))×(List cU)×(List eP)×(List ix)×(List eW)×(List dz)×(List (Option (List ((List UInt8)×Int))))) (dr×Int)):=aL fun _rec20 ⟨b,a,c,d,e,f,g,h,i,j,k,l,m⟩=>if(decide (a<b))=true then none else(some (.brk (c,d,e,f,g,h,i,j,k,l,m)))
def DT:Nat→(Int×Int×Int×(Option (List ((List UInt8)×Int)))×(Option (List ((List UInt8)×Int)))×(Option (List ((List UInt8)×Int)))×(List (List UInt8))×(List cU)×(List eP)×(List ix)×(List eW)×(List dz)×(List (Option (List ((List UInt8)×Int)))))→Option (ct (Int×(List (List UInt8))×(List cU)×(List eP)×(List ix)×(List eW)×(List dz)) (dr×Int)):=aL fun _rec23 ⟨b,a,c,_,_,_,d,e,f,g,h,i,_⟩=>if(decide (a<b))=true then none else(some (.brk (c,d,e,f,g,h,i)))
def f71(a0:dr):Option (dr×Int):=
 Option.bind (wE a0) fun⟨a,b,c,d,e⟩=>if a=true then none else(Option.bind (wH a0.1) fun y2=>Option.bind (wJ a0.2.1) fun y3=>Option.bind (wL a0.2.2.1) fun y4=>Option.bind (wN a0.2.2.2.1) fun y5=>Option.bind (wP a0.2.2.2.2.1) fun y6=>Option.bind (wR a0.2.2.2.2.2.1) fun y7=>Option.bind (wT b c d y3 e) fun⟨f,g,h,i,j⟩=>aG (U:=Int×(Option (List ((List UInt8)×Int)))×(Option (List ((List UInt8)×Int)))×(Option (List ((List UInt8)×Int)))×(List (List UInt8))×(List cU)×(List eP)×(List ix)×(List eW)×(List dz)×(List (Option (List ((List UInt8)×Int))))) (Gn (Int.toNat (List.length y4:Int)+1) ((List.length y4:Int),(0:Int),(0:Int),f,g,h,y2,i,y4,y5,y6,y7,j)) fun⟨l,m,n,o,p,q,r,k,s,t,u⟩=>aG (U:=Int×(Option (List ((List UInt8)×Int)))×(Option (List ((List UInt8)×Int)))×(Option (List ((List UInt8)×Int)))×(List (List UInt8))×(List cU)×(List eP)×(List ix)×(List eW)×(List dz)×(List (Option (List ((List UInt8)×Int))))) (DQ (Int.toNat (List.length k:Int)+1) ((List.length k:Int),(0:Int),l,m,n,o,p,q,r,k,s,t,u)) fun⟨w,x,y,z,aa,ab,ac,ad,v,ae,af⟩=>aG (U:=Int×(Option (List ((List UInt8)×Int)))×(Option (List ((List UInt8)×Int)))×(Option (List ((List UInt8)×Int)))×(List (List UInt8))×(List cU)×(List eP)×(List ix)×(List eW)×(List dz)×(List (Option (List ((List UInt8)×Int))))) (DR (Int.toNat (List.length v:Int)+1) ((List.length v:Int),(0:Int),w,x,y,z,aa,ab,ac,ad,v,ae,af)) fun⟨ah,ai,aj,ak,al,am,an,ao,ap,ag,aq⟩=>aG (U:=Int×(List (List UInt8))×(List cU)×(List eP)×(List ix)×(List eW)×(List dz)) (DT (Int.toNat (List.length ag:Int)+1) ((List.length ag:Int),(0:Int),ah,ai,aj,ak,al,am,an,ao,ap,ag,aq)) fun⟨_,ar,au,av,aw,ax,ay⟩=>Option.bind (sr (ar,(au,(av,(aw,(ax,(ay,())))))) (0:Int)) fun⟨az,a1⟩=>some (az,a1))
def Gp:SS:=⟨101,141,[(2,(.ptr 18 [])),(3,(.ptr 19 [])),(4,(.ptr 28 []))],[(18,(.var dq (.cons (.own 36) (.cons (.own 39) (.cons (.own 42) (.cons (.own 45) (.cons (.own 48) (.cons (.own 51) .nil)))))))),(19,(.var (.int .i64) (.val (.int .i64)))),(28,(.var gE (.cons (.val (.map .str (.int .i64))) (.cons (.val (.map .str (.int .i64))) (.cons (.val (.map .str (.int .i64))) (.cons (.own 117) .nil)))))),(36,(.row 9 16 .str)),(39,(.row 170 56 cY)),(42,(.row 91 96 db)),(45,(.row 73 96 fm)),(48,(.row 185 72 fR)),(51,(.row 178 48 ef)),(117,(.row 232 8 (.map .str (.int .i64))))],[(.func 116 .nil (.cons (.ptr 18 []) (.cons (.ptr 19 []) .nil)))]⟩
def Lj:SS:=⟨101,141,[(2,(.ptr 18 [])),(3,(.ptr 19 []))],[(18,(.var dq (.cons (.own 36) (.cons (.own 39) (.cons (.own 42) (.cons (.own 45) (.cons (.own 48) (.cons (.own 51) .nil)))))))),(19,(.var (.int .i64) (.val (.int .i64)))),(36,(.row 9 16 .str)),(39,(.row 170 56 cY)),(42,(.row 91 96 db)),(45,(.row 73 96 fm)),(48,(.row 185 72 fR)),(51,(.row 178 48 ef))],[(.func 116 .nil (.cons (.ptr 18 []) (.cons (.ptr 19 []) .nil)))]⟩
def Lk:SS:=⟨101,141,[(2,(.ptr 18 [])),(3,(.ptr 19 [])),(4,(.ptr 28 [])),(43,(.val (.int .i64))),(44,(.val (.int .i64)))],[(18,(.var dq (.cons (.own 36) (.cons (.own 39) (.cons (.own 42) (.cons (.own 45) (.cons (.own 48) (.cons (.own 51) .nil)))))))),(19,(.var (.int .i64) (.val (.int .i64)))),(28,(.var gE (.cons (.val (.map .str (.int .i64))) (.cons (.val (.map .str (.int .i64))) (.cons (.val (.map .str (.int .i64))) (.cons (.own 117) .nil)))))),(36,(.row 9 16 .str)),(39,(.row 170 56 cY)),(42,(.row 91 96 db)),(45,(.row 73 96 fm)),(48,(.row 185 72 fR)),(51,(.row 178 48 ef)),(117,(.row 232 8 (.map .str (.int .i64))))],[(.func 116 .nil (.cons (.ptr 18 []) (.cons (.ptr 19 []) .nil)))]⟩
def Ll:SS:=⟨101,141,[(2,(.ptr 18 [])),(3,(.ptr 19 [])),(4,(.ptr 28 [])),(63,(.val (.int .i64))),(64,(.val (.int .i64)))],[(18,(.var dq (.cons (.own 36) (.cons (.own 39) (.cons (.own 42) (.cons (.own 45) (.cons (.own 48) (.cons (.own 51) .nil)))))))),(19,(.var (.int .i64) (.val (.int .i64)))),(28,(.var gE (.cons (.val (.map .str (.int .i64))) (.cons (.val (.map .str (.int .i64))) (.cons (.val (.map .str (.int .i64))) (.cons (.own 117) .nil)))))),(36,(.row 9 16 .str)),(39,(.row 170 56 cY)),(42,(.row 91 96 db)),(45,(.row 73 96 fm)),(48,(.row 185 72 fR)),(51,(.row 178 48 ef)),(117,(.row 232 8 (.map .str (.int .i64))))],[(.func 116 .nil (.cons (.ptr 18 []) (.cons (.ptr 19 []) .nil)))]⟩
def Lm:SS:=⟨101,141,[(2,(.ptr 18 [])),(3,(.ptr 19 [])),(4,(.ptr 28 [])),(76,(.val (.int .i64))),(77,(.val (.int .i64)))],[(18,(.var dq (.cons (.own 36) (.cons (.own 39) (.cons (.own 42) (.cons (.own 45) (.cons (.own 48) (.cons (.own 51) .nil)))))))),(19,(.var (.int .i64) (.val (.int .i64)))),(28,(.var gE (.cons (.val (.map .str (.int .i64))) (.cons (.val (.map .str (.int .i64))) (.cons (.val (.map .str (.int .i64))) (.cons (.own 117) .nil)))))),(36,(.row 9 16 .str)),(39,(.row 170 56 cY)),(42,(.row 91 96 db)),(45,(.row 73 96 fm)),(48,(.row 185 72 fR)),(51,(.row 178 48 ef)),(117,(.row 232 8 (.map .str (.int .i64))))],[(.func 116 .nil (.cons (.ptr 18 []) (.cons (.ptr 19 []) .nil)))]⟩
def Ln:SS:=⟨101,141,[(2,(.ptr 18 [])),(3,(.ptr 19 [])),(4,(.ptr 28 [])),(89,(.val (.int .i64))),(90,(.val (.int .i64)))],[(18,(.var dq (.cons (.own 36) (.cons (.own 39) (.cons (.own 42) (.cons (.own 45) (.cons (.own 48) (.cons (.own 51) .nil)))))))),(19,(.var (.int .i64) (.val (.int .i64)))),(28,(.var gE (.cons (.val (.map .str (.int .i64))) (.cons (.val (.map .str (.int .i64))) (.cons (.val (.map .str (.int .i64))) (.cons (.own 117) .nil)))))),(36,(.row 9 16 .str)),(39,(.row 170 56 cY)),(42,(.row 91 96 db)),(45,(.row 73 96 fm)),(48,(.row 185 72 fR)),(51,(.row 178 48 ef)),(117,(.row 232 8 (.map .str (.int .i64))))],[(.func 116 .nil (.cons (.ptr 18 []) (.cons (.ptr 19 []) .nil)))]⟩
def Lo:SS:=⟨101,141,[(2,(.ptr 18 [])),(3,(.ptr 19 []))],[(18,(.var dq (.val dq))),(19,(.var (.int .i64) (.val (.int .i64))))],[]⟩
def Oj:aH:=aB G [.cell 2 29,.cell 3 49] 71 [(.val dq)] [] 141 Lo [] (.bE (fun d=>f71 d.1))
theorem QA:Oj.holds Tryz.prog gl:=
 aH.Ri tied (H:=⟨[(1,⟨[],[],[⟨[0],[],[(30,28),(125,117)],[],[]⟩],none,[],[],[]⟩),(3,⟨[],[],[],none,[(0,9999)],[],[]⟩),(5,⟨[],[],[⟨[1],[],[(23,36)],[],[]⟩,⟨[2],[],[(23,39)],[],[]⟩,⟨[3],[],[(23,42)],[],[]⟩,⟨[4],[],[(23,45)],[],[]⟩,⟨[5],[],[(23,48)],[],[]⟩,⟨[6],[],[(23,51)],[],[]⟩],none,[],[],[]⟩),(6,⟨[],[],[⟨[7],[(0,28),(1,39),(2,117)],[],[],[]⟩],none,[],[],[]⟩),(10,⟨[],[],[⟨[8],[(0,28),(1,42),(2,117)],[(45,75)],[],[]⟩],none,[(42,6)],[],[]⟩),(11,⟨[.freeze 75 (.slice 120 gn),.kE 42],[],[],none,[],[],[]⟩),(14,⟨[],[],[],none,[(0,9999)],[],[]⟩),(19,⟨[],[],[],none,[(0,9999)],[],[]⟩),(24,⟨[],[],[],none,[(0,9999)],[],[]⟩),(27,⟨[.freeze 36 (.slice 16 .str),.freeze 39 (.slice 56 cY),.freeze 42 (.slice 96 db),.freeze 45 (.slice 96 fm),.freeze 48 (.slice 72 fR),.freeze 51 (.slice 48 ef),.uf 18],[],[],none,[],[],[]⟩)],[(12,Gp),(17,Gp),(22,Gp),(27,Lj)],[],[(8,⟨Lk,fun u10=>Int.toNat u10.1+1⟩),(13,⟨Ll,fun u16=>Int.toNat u16.1+1⟩),(18,⟨Lm,fun u19=>Int.toNat u19.1+1⟩),(23,⟨Ln,fun u22=>Int.toNat u22.1+1⟩)],[],[]⟩) (hold (l:=[wG,wI,wK,wM,wO,wQ,wS,wU,wY]) ⟨DG,DH,DI,DJ,DK,DL,DM,DN,DP,trivial⟩) (C:=su) Bh (ps:=[(0,18),(1,19)]) (D:=sq) Bg (qs:=[(0,18),(1,19)]) (jk:=[18,19]) rfl Tryz.call71 Tryz.func71 rfl rfl rfl rfl (fun _=>by kernel_rfl) (fun _=>by kernel_rfl)
def Gq:Nat→((List (List UInt8))×(List (List UInt8))×Int×Int)→Option (ct Unit Bool):=aL fun Rt ⟨c,d,b,a⟩=>if(decide (a<b))=true then(if 0≤a then(if a<(List.length c:Int) then(if 0≤a then(if a<(List.length d:Int) then(if(!decide ((nth .str c a)=(nth .str d a)))=true then none else(Rt (c,d,b,bM (a+(1:Int))))) else none) else none) else none) else none) else(some (.brk ()))
def f89(a0:List (List UInt8))(a1:List (List UInt8)):Option Bool:=
 if(!decide ((List.length a0:Int)=(List.length a1:Int)))=true then none else(aG (U:=Unit) (Gq (Int.toNat (List.length a0:Int)+1) (a0,a1,(List.length a0:Int),(0:Int))) fun _v1=>some true)
def Iz:SS:=⟨26,66,[],[],[]⟩
def Lp:SS:=⟨26,66,[(0,(.val (.slice 16 .str))),(1,(.val (.slice 16 .str))),(12,(.val (.int .i64))),(13,(.val (.int .i64)))],[],[]⟩
def IA:SS:=⟨26,66,[(4,(.val .bool))],[],[]⟩
def Lq:aH:=aB G [.tmp 4] 89 [(.val (.slice 16 .str)),(.val (.slice 16 .str))] [] 66 IA [] (.bE (fun d=>f89 d.1 d.2.1))
theorem Ol:Lq.holds Tryz.prog gl:=
 aH.of tied (H:=⟨[(2,⟨[],[],[],none,[(0,9999)],[],[]⟩),(7,⟨[],[],[],none,[(0,9999)],[],[]⟩)],[(9,Iz)],[],[(4,⟨Lp,fun u2=>Int.toNat u2.2.2.1+1⟩)],[],[]⟩) (hold (l:=[]) trivial) aE rfl Tryz.call89 Tryz.func89 rfl rfl rfl rfl (fun _=>by kernel_rfl) (fun _=>by kernel_rfl)
def Gr:Nat→((List cU)×(List cU)×Int×Int)→Option (ct Unit Bool):=aL fun _Rt ⟨_,_,b,a⟩=>if(decide (a<b))=true then none else(some (.brk ()))
def f90(a0:List cU)(a1:List cU):Option Bool:=
 if(!decide ((List.length a0:Int)=(List.length a1:Int)))=true then none else(aG (U:=Unit) (Gr (Int.toNat (List.length a0:Int)+1) (a0,a1,(List.length a0:Int),(0:Int))) fun _v1=>some true)
def Lr:SS:=⟨26,66,[(0,(.val (.slice 56 cY))),(1,(.val (.slice 56 cY))),(12,(.val (.int .i64))),(13,(.val (.int .i64)))],[],[]⟩
def Om:aH:=aB G [.tmp 4] 90 [(.val (.slice 56 cY)),(.val (.slice 56 cY))] [] 66 IA [] (.bE (fun d=>f90 d.1 d.2.1))
theorem QB:Om.holds Tryz.prog gl:=
 aH.of tied (H:=⟨[(2,⟨[],[],[],none,[(0,9999)],[],[]⟩),(5,⟨[],[],[],none,[(0,9999)],[],[]⟩)],[(9,Iz)],[],[(4,⟨Lr,fun u2=>Int.toNat u2.2.2.1+1⟩)],[],[]⟩) (hold (l:=[]) trivial) aE rfl Tryz.call90 Tryz.func90 rfl rfl rfl rfl (fun _=>by kernel_rfl) (fun _=>by kernel_rfl)
def f151(a0:lk)(a1:lk):Option Bool:=
 Option.bind (α:=Bool) (if(decide (a0.1=a1.1))=true then(if(aO GJ a0.2.2.1 a1.2.2.1)=true then(if(decide (a0.2.1.1=a1.2.1.1))=true then(if(decide (a0.2.1.2.1=a1.2.1.2.1))=true then(if(decide (a0.2.1.2.2.1=a1.2.1.2.2.1))=true then(if(decide (a0.2.1.2.2.2.1=a1.2.1.2.2.2.1))=true then(if(decide (a0.2.1.2.2.2.2.1=a1.2.1.2.2.2.2.1))=true then(Option.bind (f89 a0.2.1.2.2.2.2.2.1 a1.2.1.2.2.2.2.2.1) fun y1=>some y1) else(some false)) else(some false)) else(some false)) else(some false)) else(some false)) else(some false)) else(some false)) fun v2=>some v2
def Ls:SS:=⟨65,105,[(4,(.val .bool))],[],[]⟩
def IB:aH:=aB G [.tmp 4] 151 [(.val gn),(.val gn)] [] 105 Ls [] (.bE (fun d=>f151 d.1 d.2.1))
theorem Lt:IB.holds Tryz.prog gl:=
 aH.of tied (H:=⟨[(2,⟨[],[],[⟨[0],[],[],[],[]⟩],some [(4,.bool)],[],[],[]⟩)],[],[],[],[],[]⟩) (hold (l:=[Lq]) ⟨Ol,trivial⟩) aE rfl Tryz.call151 Tryz.func151 rfl rfl rfl rfl (fun _=>by kernel_rfl) (fun _=>by kernel_rfl)
def uw:Nat→((List lk)×(List lk)×Int×Int)→Option (ct Unit Bool):=aL fun Rt ⟨d,c,b,a⟩=>if(decide (a<b))=true then(if 0≤a then(if a<(List.length c:Int) then(if 0≤a then(if a<(List.length d:Int) then(Option.bind (f151 (nth gn c a) (nth gn d a)) fun y4=>if(!y4)=true then none else(Rt (d,c,b,bM (a+(1:Int))))) else none) else none) else none) else none) else(some (.brk ()))
def wZ(a0:List lk)(a1:List lk):Option Bool:=
 if(!decide ((List.length a0:Int)=(List.length a1:Int)))=true then none else(aG (U:=Unit) (uw (Int.toNat (List.length a0:Int)+1) (a1,a0,(List.length a0:Int),(0:Int))) fun _v1=>some true)
def ID:SS:=⟨32,72,[],[],[]⟩
def Lu:SS:=⟨32,72,[(1,(.val (.slice 120 gn))),(2,(.func 151 .nil .nil)),(15,(.val (.slice 120 gn))),(16,(.val (.int .i64))),(17,(.val (.int .i64)))],[],[]⟩
def IE:SS:=⟨32,72,[(6,(.val .bool))],[],[]⟩
def w6:aH:=aB G [.tmp 6] 150 [(.val (.slice 120 gn)),(.val (.slice 120 gn)),(.func 151 .nil .nil)] [] 72 IE [] (.bE (fun d=>wZ d.1 d.2.1))
theorem DU:w6.holds Tryz.prog gl:=
 aH.of tied (H:=⟨[(2,⟨[],[],[],none,[(0,9999)],[],[]⟩),(7,⟨[],[],[⟨[0],[],[],[],[]⟩],none,[],[],[]⟩),(8,⟨[],[],[],none,[(0,9999)],[],[]⟩)],[(10,ID)],[],[(4,⟨Lu,fun u2=>Int.toNat u2.2.2.1+1⟩)],[],[]⟩) (hold (l:=[IB]) ⟨Lt,trivial⟩) aE rfl Tryz.call150 Tryz.func150 rfl rfl rfl rfl (fun _=>by kernel_rfl) (fun _=>by kernel_rfl)
def ux:Nat→((List gF)×(List gF)×Int×Int)→Option (ct Unit Bool):=aL fun _Rt ⟨_,_,b,a⟩=>if(decide (a<b))=true then none else(some (.brk ()))
def w7(a0:List gF)(a1:List gF):Option Bool:=
 if(!decide ((List.length a0:Int)=(List.length a1:Int)))=true then none else(aG (U:=Unit) (ux (Int.toNat (List.length a0:Int)+1) (a1,a0,(List.length a0:Int),(0:Int))) fun _v1=>some true)
def Lv:SS:=⟨32,72,[(1,(.val (.slice 72 iF))),(2,(.func 153 .nil .nil)),(15,(.val (.slice 72 iF))),(16,(.val (.int .i64))),(17,(.val (.int .i64)))],[],[]⟩
def w8:aH:=aB G [.tmp 6] 152 [(.val (.slice 72 iF)),(.val (.slice 72 iF)),(.func 153 .nil .nil)] [] 72 IE [] (.bE (fun d=>w7 d.1 d.2.1))
theorem DV:w8.holds Tryz.prog gl:=
 aH.of tied (H:=⟨[(2,⟨[],[],[],none,[(0,9999)],[],[]⟩),(5,⟨[],[],[],none,[(0,9999)],[],[]⟩)],[(10,ID)],[],[(4,⟨Lv,fun u2=>Int.toNat u2.2.2.1+1⟩)],[],[]⟩) (hold (l:=[]) trivial) aE rfl Tryz.call152 Tryz.func152 rfl rfl rfl rfl (fun _=>by kernel_rfl) (fun _=>by kernel_rfl)
def f92(a0:eP)(a1:eP):Option Bool:=
 Option.bind (α:=Bool) (if(decide (a0.1=a1.1))=true then(if(decide (a0.2.1=a1.2.1))=true then(if(decide (a0.2.2.1=a1.2.2.1))=true then(if(decide (a0.2.2.2.1=a1.2.2.2.1))=true then(Option.bind (wZ a0.2.2.2.2.1 a1.2.2.2.2.1) fun y1=>if y1=true then(Option.bind (w7 a0.2.2.2.2.2.1 a1.2.2.2.2.2.1) fun y2=>some y2) else(some false)) else(some false)) else(some false)) else(some false)) else(some false)) fun v3=>some v3
def Lw:SS:=⟨45,85,[(4,(.val .bool))],[],[]⟩
def On:aH:=aB G [.tmp 4] 92 [(.val db),(.val db)] [] 85 Lw [] (.bE (fun d=>f92 d.1 d.2.1))
theorem QC:On.holds Tryz.prog gl:=
 aH.of tied (H:=⟨[(1,⟨[],[],[⟨[0],[],[],[],[]⟩,⟨[1],[],[],[],[]⟩],some [(4,.bool)],[],[],[]⟩)],[],[],[],[],[]⟩) (hold (l:=[w6,w8]) ⟨DU,DV,trivial⟩) aE rfl Tryz.call92 Tryz.func92 rfl rfl rfl rfl (fun _=>by kernel_rfl) (fun _=>by kernel_rfl)
def zj:Nat→((List eP)×(List eP)×Int×Int)→Option (ct Unit Bool):=aL fun Rt ⟨d,c,b,a⟩=>if(decide (a<b))=true then(if 0≤a then(if a<(List.length c:Int) then(if 0≤a then(if a<(List.length d:Int) then(Option.bind (f92 (nth db c a) (nth db d a)) fun y4=>if(!y4)=true then none else(Rt (d,c,b,bM (a+(1:Int))))) else none) else none) else none) else none) else(some (.brk ()))
def Bi(a0:List eP)(a1:List eP):Option Bool:=
 if(!decide ((List.length a0:Int)=(List.length a1:Int)))=true then none else(aG (U:=Unit) (zj (Int.toNat (List.length a0:Int)+1) (a1,a0,(List.length a0:Int),(0:Int))) fun _v1=>some true)
def DW:SS:=⟨32,72,[],[],[]⟩
def Lx:SS:=⟨32,72,[(1,(.val (.slice 96 db))),(2,(.func 92 .nil .nil)),(15,(.val (.slice 96 db))),(16,(.val (.int .i64))),(17,(.val (.int .i64)))],[],[]⟩
def DX:SS:=⟨32,72,[(6,(.val .bool))],[],[]⟩
def Bj:aH:=aB G [.tmp 6] 91 [(.val (.slice 96 db)),(.val (.slice 96 db)),(.func 92 .nil .nil)] [] 72 DX [] (.bE (fun d=>Bi d.1 d.2.1))
theorem Gs:Bj.holds Tryz.prog gl:=
 aH.of tied (H:=⟨[(2,⟨[],[],[],none,[(0,9999)],[],[]⟩),(7,⟨[],[],[⟨[0],[],[],[],[]⟩],none,[],[],[]⟩),(8,⟨[],[],[],none,[(0,9999)],[],[]⟩)],[(10,DW)],[],[(4,⟨Lx,fun u2=>Int.toNat u2.2.2.1+1⟩)],[],[]⟩) (hold (l:=[On]) ⟨QC,trivial⟩) aE rfl Tryz.call91 Tryz.func91 rfl rfl rfl rfl (fun _=>by kernel_rfl) (fun _=>by kernel_rfl)
def zl:Nat→((List ix)×(List ix)×Int×Int)→Option (ct Unit Bool):=aL fun _Rt ⟨_,_,b,a⟩=>if(decide (a<b))=true then none else(some (.brk ()))
def Bk(a0:List ix)(a1:List ix):Option Bool:=
 if(!decide ((List.length a0:Int)=(List.length a1:Int)))=true then none else(aG (U:=Unit) (zl (Int.toNat (List.length a0:Int)+1) (a1,a0,(List.length a0:Int),(0:Int))) fun _v1=>some true)
def Ly:SS:=⟨32,72,[(1,(.val (.slice 96 fm))),(2,(.func 94 .nil .nil)),(15,(.val (.slice 96 fm))),(16,(.val (.int .i64))),(17,(.val (.int .i64)))],[],[]⟩
def Bl:aH:=aB G [.tmp 6] 93 [(.val (.slice 96 fm)),(.val (.slice 96 fm)),(.func 94 .nil .nil)] [] 72 DX [] (.bE (fun d=>Bk d.1 d.2.1))
theorem Gt:Bl.holds Tryz.prog gl:=
 aH.of tied (H:=⟨[(2,⟨[],[],[],none,[(0,9999)],[],[]⟩),(5,⟨[],[],[],none,[(0,9999)],[],[]⟩)],[(10,DW)],[],[(4,⟨Ly,fun u2=>Int.toNat u2.2.2.1+1⟩)],[],[]⟩) (hold (l:=[]) trivial) aE rfl Tryz.call93 Tryz.func93 rfl rfl rfl rfl (fun _=>by kernel_rfl) (fun _=>by kernel_rfl)
def zm:Nat→((List eW)×(List eW)×Int×Int)→Option (ct Unit Bool):=aL fun _Rt ⟨_,_,b,a⟩=>if(decide (a<b))=true then none else(some (.brk ()))
def Bm(a0:List eW)(a1:List eW):Option Bool:=
 if(!decide ((List.length a0:Int)=(List.length a1:Int)))=true then none else(aG (U:=Unit) (zm (Int.toNat (List.length a0:Int)+1) (a1,a0,(List.length a0:Int),(0:Int))) fun _v1=>some true)
def Lz:SS:=⟨32,72,[(1,(.val (.slice 72 fR))),(2,(.func 96 .nil .nil)),(15,(.val (.slice 72 fR))),(16,(.val (.int .i64))),(17,(.val (.int .i64)))],[],[]⟩
def Bn:aH:=aB G [.tmp 6] 95 [(.val (.slice 72 fR)),(.val (.slice 72 fR)),(.func 96 .nil .nil)] [] 72 DX [] (.bE (fun d=>Bm d.1 d.2.1))
theorem Gu:Bn.holds Tryz.prog gl:=
 aH.of tied (H:=⟨[(2,⟨[],[],[],none,[(0,9999)],[],[]⟩),(5,⟨[],[],[],none,[(0,9999)],[],[]⟩)],[(10,DW)],[],[(4,⟨Lz,fun u2=>Int.toNat u2.2.2.1+1⟩)],[],[]⟩) (hold (l:=[]) trivial) aE rfl Tryz.call95 Tryz.func95 rfl rfl rfl rfl (fun _=>by kernel_rfl) (fun _=>by kernel_rfl)
def zn:Nat→((List dz)×(List dz)×Int×Int)→Option (ct Unit Bool):=aL fun _Rt ⟨_,_,b,a⟩=>if(decide (a<b))=true then none else(some (.brk ()))
def Bo(a0:List dz)(a1:List dz):Option Bool:=
 if(!decide ((List.length a0:Int)=(List.length a1:Int)))=true then none else(aG (U:=Unit) (zn (Int.toNat (List.length a0:Int)+1) (a1,a0,(List.length a0:Int),(0:Int))) fun _v1=>some true)
def LA:SS:=⟨32,72,[(1,(.val (.slice 48 ef))),(2,(.func 98 .nil .nil)),(15,(.val (.slice 48 ef))),(16,(.val (.int .i64))),(17,(.val (.int .i64)))],[],[]⟩
def Bp:aH:=aB G [.tmp 6] 97 [(.val (.slice 48 ef)),(.val (.slice 48 ef)),(.func 98 .nil .nil)] [] 72 DX [] (.bE (fun d=>Bo d.1 d.2.1))
theorem Gv:Bp.holds Tryz.prog gl:=
 aH.of tied (H:=⟨[(2,⟨[],[],[],none,[(0,9999)],[],[]⟩),(5,⟨[],[],[],none,[(0,9999)],[],[]⟩)],[(10,DW)],[],[(4,⟨LA,fun u2=>Int.toNat u2.2.2.1+1⟩)],[],[]⟩) (hold (l:=[]) trivial) aE rfl Tryz.call97 Tryz.func97 rfl rfl rfl rfl (fun _=>by kernel_rfl) (fun _=>by kernel_rfl)
def f54(a0:dr)(a1:dr):Option Bool:=
 Option.bind (α:=Bool) (Option.bind (f89 a0.1 a1.1) fun y1=>if y1=true then(Option.bind (f90 a0.2.1 a1.2.1) fun y2=>if y2=true then(Option.bind (Bi a0.2.2.1 a1.2.2.1) fun y3=>if y3=true then(Option.bind (Bk a0.2.2.2.1 a1.2.2.2.1) fun y4=>if y4=true then(Option.bind (Bm a0.2.2.2.2.1 a1.2.2.2.2.1) fun y5=>if y5=true then(Option.bind (Bo a0.2.2.2.2.2.1 a1.2.2.2.2.2.1) fun y6=>some y6) else(some false)) else(some false)) else(some false)) else(some false)) else(some false)) fun v7=>some v7
def LB:SS:=⟨45,85,[(4,(.val .bool))],[],[]⟩
def LC:aH:=aB G [.tmp 4] 54 [(.val dq),(.val dq)] [] 85 LB [] (.bE (fun d=>f54 d.1 d.2.1))
theorem Oo:LC.holds Tryz.prog gl:=
 aH.of tied (H:=⟨[(1,⟨[],[],[⟨[0],[],[],[],[]⟩,⟨[1],[],[],[],[]⟩,⟨[2],[],[],[],[]⟩,⟨[3],[],[],[],[]⟩,⟨[4],[],[],[],[]⟩,⟨[5],[],[],[],[]⟩],some [(4,.bool)],[],[],[]⟩)],[],[],[],[],[]⟩) (hold (l:=[Lq,Om,Bj,Bl,Bn,Bp]) ⟨Ol,QB,Gs,Gt,Gu,Gv,trivial⟩) aE rfl Tryz.call54 Tryz.func54 rfl rfl rfl rfl (fun _=>by kernel_rfl) (fun _=>by kernel_rfl)
def f48(a0:dr):Option Int:=
 Option.bind (f71 a0) fun⟨b,a⟩=>if(!decide (a=(0:Int)))=true then none else(Option.bind (f54 b a0) fun y2=>if(!y2)=true then none else(some (0:Int)))
def LD:SS:=⟨16,56,[(2,(.val (.int .i64)))],[],[]⟩
def Oq:aH:=aB G [.tmp 2] 48 [(.val dq)] [] 56 LD [] (.bE (fun d=>f48 d.1))
theorem QD:Oq.holds Tryz.prog gl:=
 aH.of tied (H:=⟨[(1,⟨[],[],[⟨[0],[],[],[],[]⟩],none,[],[],[]⟩),(3,⟨[],[],[],none,[(0,9999)],[],[]⟩),(4,⟨[],[],[⟨[1],[],[],[],[]⟩],none,[],[],[]⟩),(5,⟨[],[],[],none,[(0,9999)],[],[]⟩)],[],[],[],[],[]⟩) (hold (l:=[Oj,LC]) ⟨QA,Oo,trivial⟩) aE rfl Tryz.call48 Tryz.func48 rfl rfl rfl rfl (fun _=>by kernel_rfl) (fun _=>by kernel_rfl)
def uy:Nat→((List dz)×Int×Int)→Option (ct Unit Int):=aL fun _Rt ⟨_,b,a⟩=>if(decide (a<b))=true then none else(some (.brk ()))
def w9(a0:List dz):Option Int:=
 aG (U:=Unit) (uy (Int.toNat (List.length a0:Int)+1) (a0,(List.length a0:Int),(0:Int))) fun _v1=>some (-1:Int)
def LF:SS:=⟨19,59,[],[],[]⟩
def LG:SS:=⟨19,59,[(0,(.val (.slice 48 ef))),(1,(.func 129 .nil .nil)),(7,(.val (.int .i64))),(8,(.val (.int .i64)))],[],[]⟩
def LI:SS:=⟨19,59,[(4,(.val (.int .i64)))],[],[]⟩
def xa:aH:=aB G [.tmp 4] 187 [(.val (.slice 48 ef)),(.func 129 .nil .nil)] [] 59 LI [] (.bE (fun d=>w9 d.1))
theorem DY:xa.holds Tryz.prog gl:=
 aH.of tied (H:=⟨[(3,⟨[],[],[],none,[(0,9999)],[],[]⟩)],[(7,LF)],[],[(2,⟨LG,fun u2=>Int.toNat u2.2.1+1⟩)],[],[]⟩) (hold (l:=[]) trivial) aE rfl Tryz.call187 Tryz.func187 rfl rfl rfl rfl (fun _=>by kernel_rfl) (fun _=>by kernel_rfl)
def xb(a0:List dz):Option Bool:=
 Option.bind (w9 a0) fun y1=>some (decide ((0:Int)≤y1))
def Bq:SS:=⟨9,49,[(4,(.val .bool))],[],[]⟩
def xc:aH:=aB G [.tmp 4] 128 [(.val (.slice 48 ef)),(.func 129 .nil .nil)] [] 49 Bq [] (.bE (fun d=>xb d.1))
theorem DZ:xc.holds Tryz.prog gl:=
 aH.of tied (H:=⟨[(1,⟨[],[],[⟨[0],[],[],[],[]⟩],none,[],[],[]⟩)],[],[],[],[],[]⟩) (hold (l:=[xa]) ⟨DY,trivial⟩) aE rfl Tryz.call128 Tryz.func128 rfl rfl rfl rfl (fun _=>by kernel_rfl) (fun _=>by kernel_rfl)
def f72(a0:cq):Option Bool:=
 Option.bind (α:=Bool) (if(decide ((8:Int)<(List.length a0.1.1:Int)))=true then(some true) else(if(decide ((64:Int)<(List.length a0.1.2.1:Int)))=true then(some true) else(if(decide ((16:Int)<(List.length a0.1.2.2.1:Int)))=true then(some true) else(if(decide ((16:Int)<(List.length a0.1.2.2.2.1:Int)))=true then(some true) else(if(decide ((16:Int)<(List.length a0.1.2.2.2.2.1:Int)))=true then(some true) else(some (decide ((8:Int)<(List.length a0.1.2.2.2.2.2.1:Int))))))))) fun v1=>if v1=true then none else(Option.bind (xb a0.1.2.2.2.2.2.1) fun y2=>some (!y2))
def LJ:SS:=⟨48,88,[(2,(.val .bool))],[],[]⟩
def Ot:aH:=aB G [.tmp 2] 72 [(.val cA)] [] 88 LJ [] (.bE (fun d=>f72 d.1))
theorem QE:Ot.holds Tryz.prog gl:=
 aH.of tied (H:=⟨[(1,⟨[],[],[],some [(42,.bool)],[],[],[]⟩),(2,⟨[],[],[],none,[(0,9999)],[],[]⟩),(3,⟨[],[],[⟨[0],[],[],[],[]⟩],none,[],[],[]⟩)],[],[],[],[],[]⟩) (hold (l:=[xc]) ⟨DZ,trivial⟩) aE rfl Tryz.call72 Tryz.func72 rfl rfl rfl rfl (fun _=>by kernel_rfl) (fun _=>by kernel_rfl)
def uz:Nat→((List cU)×Int×Int×cq)→Option (ct cq (Int×cq)):=aL fun _Rt ⟨_,b,a,c⟩=>if(decide (a<b))=true then none else(some (.brk c))
def xd(a0:List cU)(a1:cq):Option (Int×cq):=
 aG (U:=cq) (uz (Int.toNat (List.length a0:Int)+1) (a0,(List.length a0:Int),(0:Int),a1)) fun v1=>some ((-1:Int),v1)
def LK:SS:=⟨19,59,[],[(0,(.var (.aK .func) (.ck 76 cA)))],[]⟩
def LL:SS:=⟨19,59,[(0,(.val (.slice 56 cY))),(1,(.func 135 .nil (.cons (.ptr 0 []) .nil))),(7,(.val (.int .i64))),(8,(.val (.int .i64)))],[(0,(.var (.aK .func) (.ck 76 cA)))],[]⟩
def LM:SS:=⟨19,59,[(4,(.val (.int .i64)))],[(0,(.var (.aK .func) (.ck 76 cA)))],[]⟩
def xe:aH:=aB G [.tmp 4] 191 [(.val (.slice 56 cY)),(.func 135 .nil (.cons (.ptr 0 []) .nil))] [(0,(.var (.aK .func) (.ck 76 cA)))] 59 LM [0] (.bE (fun d=>xd d.1 d.2.1))
theorem D0:xe.holds Tryz.prog gl:=
 aH.of tied (H:=⟨[(3,⟨[],[],[],none,[(0,9999)],[],[]⟩)],[(7,LK)],[],[(2,⟨LL,fun u2=>Int.toNat u2.2.1+1⟩)],[],[]⟩) (hold (l:=[]) trivial) aE rfl Tryz.call191 Tryz.func191 rfl rfl rfl rfl (fun _=>by kernel_rfl) (fun _=>by kernel_rfl)
def xf(a0:List cU)(a1:cq):Option (Bool×cq):=
 Option.bind (xd a0 a1) fun⟨a,b⟩=>some (decide ((0:Int)≤a),b)
def LN:SS:=⟨9,49,[(4,(.val .bool))],[(0,(.var (.aK .func) (.ck 76 cA)))],[]⟩
def xg:aH:=aB G [.tmp 4] 134 [(.val (.slice 56 cY)),(.func 135 .nil (.cons (.ptr 0 []) .nil))] [(0,(.var (.aK .func) (.ck 76 cA)))] 49 LN [0] (.bE (fun d=>xf d.1 d.2.1))
theorem D1:xg.holds Tryz.prog gl:=
 aH.of tied (H:=⟨[(1,⟨[],[],[⟨[0],[(0,0)],[],[],[]⟩],none,[],[],[]⟩)],[],[],[],[],[]⟩) (hold (l:=[xe]) ⟨D0,trivial⟩) aE rfl Tryz.call134 Tryz.func134 rfl rfl rfl rfl (fun _=>by kernel_rfl) (fun _=>by kernel_rfl)
def Br(a0:List cU)(a1:cq):Option Bool:=
 Option.bind (xf a0 a1) fun⟨a,_⟩=>some (!a)
def Bs:aH:=aB G [.tmp 4] 75 [(.val (.slice 56 cY)),(.ck 76 cA)] [] 49 Bq [] (.bE (fun d=>Br d.1 d.2.1))
theorem Gw:Bs.holds Tryz.prog gl:=
 aH.of tied (H:=⟨[(1,⟨[],[],[⟨[0],[(0,19)],[],[],[]⟩],none,[],[],[]⟩)],[],[],[],[],[]⟩) (hold (l:=[xg]) ⟨D1,trivial⟩) aE rfl Tryz.call75 Tryz.func75 rfl rfl rfl rfl (fun _=>by kernel_rfl) (fun _=>by kernel_rfl)
def Gx:Nat→((List lk)×Int×Int×OB×Int×cq)→Option (ct ((List lk)×Int×Int×cq) (ct Unit Bool)):=aL fun rec9 ⟨c,d,e,b,a,f⟩=>if(decide (a<(4:Int)))=true then(if 0≤a then(if a<(4:Int) then(Option.bind (α:=Bool) (if(decide ((nth (.int .i64) b a)<(0:Int)))=true then(some true) else(some (decide ((9:Int)<(nth (.int .i64) b a))))) fun v10=>if v10=true then none else(rec9 (c,d,e,b,bM (a+(1:Int)),f))) else none) else none) else(some (.brk (c,d,e,f)))
def Gy:Nat→((List lk)×Int×Int×cq)→Option (ct Unit Bool):=aL fun rec5 ⟨g,f,e,h⟩=>if(decide (e<f))=true then(aG (U:=(List lk)×Int×Int×cq) (if 0≤e then(if e<(List.length g:Int) then(Option.bind (f46 h (((nth gn g e).2).1)) fun y7=>if(!y7)=true then none else(Gx (Int.toNat (4:Int)+1) (g,f,e,(((nth gn g e).2).2).1,(0:Int),h))) else none) else none) fun⟨a,b,c,d⟩=>rec5 (a,b,bM (c+(1:Int)),d)) else(some (.brk ()))
def f78(a0:cq)(a1:eP):Option Bool:=
 aG (U:=cq×eP) (Option.bind (α:=Bool) (if(decide (a1.2.2.1<(0:Int)))=true then(some true) else(if(decide ((List.length a0.1.1:Int)≤a1.2.2.1))=true then(some true) else(if(decide (a1.2.2.2.1<(1:Int)))=true then(some true) else(if(decide ((255:Int)<a1.2.2.2.1))=true then(some true) else(if(decide ((List.length a1.2.2.2.2.1:Int)<(1:Int)))=true then(some true) else(if(decide ((12:Int)<(List.length a1.2.2.2.2.1:Int)))=true then(some true) else(if(0:Int)<(List.length a1.2.2.2.2.1:Int) then(some (!decide (((((nth gn a1.2.2.2.2.1 (0:Int)).2).1).1)=(3:Int)))) else none))))))) fun v2=>if v2=true then none else(some (.brk (a0,a1)))) fun⟨b,a⟩=>aG (U:=Unit) (Gy (Int.toNat (List.length a.2.2.2.2.1:Int)+1) (a.2.2.2.2.1,(List.length a.2.2.2.2.1:Int),(0:Int),b)) fun _v3=>some true
def LO:SS:=⟨77,117,[(2,(.ptr 18 [])),(3,(.ptr 19 []))],[(18,(.var cA (.val cA))),(19,(.var db (.val db)))],[]⟩
def IF:SS:=⟨77,117,[(2,(.ptr 18 [])),(53,(.val (.slice 120 gn))),(54,(.val (.int .i64))),(55,(.val (.int .i64)))],[(18,(.var cA (.val cA)))],[]⟩
def LP:SS:=⟨77,117,[],[],[]⟩
def LQ:SS:=⟨77,117,[(2,(.ptr 18 [])),(53,(.val (.slice 120 gn))),(54,(.val (.int .i64))),(55,(.val (.int .i64))),(65,(.val GJ)),(66,(.val (.int .i64)))],[(18,(.var cA (.val cA)))],[]⟩
def LR:SS:=⟨77,117,[(4,(.val .bool))],[],[]⟩
def Ou:aH:=aB G [.tmp 4] 78 [(.val cA),(.val db)] [] 117 LR [] (.bE (fun d=>f78 d.1 d.2.1))
theorem QF:Ou.holds Tryz.prog gl:=
 aH.of tied (H:=⟨[(1,⟨[],[],[],some [(51,.bool)],[],[],[]⟩),(2,⟨[],[],[],none,[(0,9999)],[],[]⟩),(6,⟨[],[],[⟨[0],[],[],[],[]⟩],none,[],[],[]⟩),(7,⟨[],[],[],none,[(0,9999)],[],[]⟩),(11,⟨[],[],[],some [(74,.bool)],[],[],[]⟩),(12,⟨[],[],[],none,[(0,9999)],[],[]⟩)],[(3,LO),(14,IF),(15,LP)],[],[(4,⟨IF,fun u4=>Int.toNat u4.2.1+1⟩),(9,⟨LQ,fun _=>Int.toNat (4:Int)+1⟩)],[],[]⟩) (hold (l:=[K3]) ⟨Oa,trivial⟩) aE rfl Tryz.call78 Tryz.func78 rfl rfl rfl rfl (fun _=>by kernel_rfl) (fun _=>by kernel_rfl)
def xh(a0:eP)(a1:cq):Option (Bool×cq):=
 Option.bind (f78 a1 a0) fun y1=>some (!y1,a1)
def LS:SS:=⟨8,48,[(3,(.val .bool))],[(0,(.var (.aK .func) (.ck 78 cA)))],[]⟩
def xi:aH:=aB G [.tmp 3] 137 [(.val db),(.ptr 0 [])] [(0,(.var (.aK .func) (.ck 78 cA)))] 48 LS [0] (.bE (fun d=>xh d.1 d.2.1))
theorem D2:xi.holds Tryz.prog gl:=
 aH.of tied (H:=⟨[(1,⟨[],[],[⟨[0],[],[],[],[]⟩],none,[],[],[]⟩)],[],[],[],[],[]⟩) (hold (l:=[Ou]) ⟨QF,trivial⟩) aE rfl Tryz.call137 Tryz.func137 rfl rfl rfl rfl (fun _=>by kernel_rfl) (fun _=>by kernel_rfl)
def uA:Nat→((List eP)×Int×Int×cq)→Option (ct cq (Int×cq)):=aL fun Rt ⟨e,d,c,f⟩=>if(decide (c<d))=true then(if 0≤c then(if c<(List.length e:Int) then(Option.bind (xh (nth db e c) f) fun⟨a,b⟩=>if a=true then none else(Rt (e,d,bM (c+(1:Int)),b))) else none) else none) else(some (.brk f))
def xj(a0:List eP)(a1:cq):Option (Int×cq):=
 aG (U:=cq) (uA (Int.toNat (List.length a0:Int)+1) (a0,(List.length a0:Int),(0:Int),a1)) fun v1=>some ((-1:Int),v1)
def LU:SS:=⟨19,59,[],[(0,(.var (.aK .func) (.ck 78 cA)))],[]⟩
def LV:SS:=⟨19,59,[(0,(.val (.slice 96 db))),(1,(.func 137 .nil (.cons (.ptr 0 []) .nil))),(7,(.val (.int .i64))),(8,(.val (.int .i64)))],[(0,(.var (.aK .func) (.ck 78 cA)))],[]⟩
def LW:SS:=⟨19,59,[(4,(.val (.int .i64)))],[(0,(.var (.aK .func) (.ck 78 cA)))],[]⟩
def xl:aH:=aB G [.tmp 4] 192 [(.val (.slice 96 db)),(.func 137 .nil (.cons (.ptr 0 []) .nil))] [(0,(.var (.aK .func) (.ck 78 cA)))] 59 LW [0] (.bE (fun d=>xj d.1 d.2.1))
theorem D3:xl.holds Tryz.prog gl:=
 aH.of tied (H:=⟨[(4,⟨[],[],[⟨[0],[(0,0)],[],[],[]⟩],none,[],[],[]⟩),(5,⟨[],[],[],none,[(0,9999)],[],[]⟩)],[(7,LU)],[],[(2,⟨LV,fun u2=>Int.toNat u2.2.1+1⟩)],[],[]⟩) (hold (l:=[xi]) ⟨D2,trivial⟩) aE rfl Tryz.call192 Tryz.func192 rfl rfl rfl rfl (fun _=>by kernel_rfl) (fun _=>by kernel_rfl)
def xm(a0:List eP)(a1:cq):Option (Bool×cq):=
 Option.bind (xj a0 a1) fun⟨a,b⟩=>some (decide ((0:Int)≤a),b)
def LX:SS:=⟨9,49,[(4,(.val .bool))],[(0,(.var (.aK .func) (.ck 78 cA)))],[]⟩
def xn:aH:=aB G [.tmp 4] 136 [(.val (.slice 96 db)),(.func 137 .nil (.cons (.ptr 0 []) .nil))] [(0,(.var (.aK .func) (.ck 78 cA)))] 49 LX [0] (.bE (fun d=>xm d.1 d.2.1))
theorem D4:xn.holds Tryz.prog gl:=
 aH.of tied (H:=⟨[(1,⟨[],[],[⟨[0],[(0,0)],[],[],[]⟩],none,[],[],[]⟩)],[],[],[],[],[]⟩) (hold (l:=[xl]) ⟨D3,trivial⟩) aE rfl Tryz.call136 Tryz.func136 rfl rfl rfl rfl (fun _=>by kernel_rfl) (fun _=>by kernel_rfl)
def Bt(a0:List eP)(a1:cq):Option Bool:=
 Option.bind (xm a0 a1) fun⟨a,_⟩=>some (!a)
def Bu:aH:=aB G [.tmp 4] 77 [(.val (.slice 96 db)),(.ck 78 cA)] [] 49 Bq [] (.bE (fun d=>Bt d.1 d.2.1))
theorem Gz:Bu.holds Tryz.prog gl:=
 aH.of tied (H:=⟨[(1,⟨[],[],[⟨[0],[(0,19)],[],[],[]⟩],none,[],[],[]⟩)],[],[],[],[],[]⟩) (hold (l:=[xn]) ⟨D4,trivial⟩) aE rfl Tryz.call77 Tryz.func77 rfl rfl rfl rfl (fun _=>by kernel_rfl) (fun _=>by kernel_rfl)
def xo(_a0:ix)(_a1:cq):Option (Bool×cq):=
 none
def LY:SS:=⟨8,48,[(3,(.val .bool))],[(0,(.var (.aK .func) (.func 73 .nil (.cons (.aZ cA) .nil))))],[]⟩
def xp:aH:=aB G [.tmp 3] 138 [(.val fm),(.ptr 0 [])] [(0,(.var (.aK .func) (.func 73 .nil (.cons (.aZ cA) .nil))))] 48 LY [0] (.bE (fun d=>xo d.1 d.2.1))
theorem D5:xp.holds Tryz.prog gl:=
 aH.of tied (H:=⟨[(0,⟨[],[],[],none,[(0,9999)],[],[]⟩)],[],[],[],[],[]⟩) (hold (l:=[]) trivial) aE rfl Tryz.call138 Tryz.func138 rfl rfl rfl rfl (fun _=>by kernel_rfl) (fun _=>by kernel_rfl)
def uB:Nat→((List ix)×Int×Int×cq)→Option (ct cq (Int×cq)):=aL fun Rt ⟨e,d,c,f⟩=>if(decide (c<d))=true then(if 0≤c then(if c<(List.length e:Int) then(Option.bind (xo (nth fm e c) f) fun⟨a,b⟩=>if a=true then(ei (some (c,b))) else(Rt (e,d,bM (c+(1:Int)),b))) else none) else none) else(some (.brk f))
def xq(a0:List ix)(a1:cq):Option (Int×cq):=
 aG (U:=cq) (uB (Int.toNat (List.length a0:Int)+1) (a0,(List.length a0:Int),(0:Int),a1)) fun v1=>some ((-1:Int),v1)
def LZ:SS:=⟨19,59,[],[(0,(.var (.aK .func) (.func 73 .nil (.cons (.aZ cA) .nil))))],[]⟩
def L0:SS:=⟨19,59,[(0,(.val (.slice 96 fm))),(1,(.func 138 .nil (.cons (.ptr 0 []) .nil))),(7,(.val (.int .i64))),(8,(.val (.int .i64)))],[(0,(.var (.aK .func) (.func 73 .nil (.cons (.aZ cA) .nil))))],[]⟩
def L1:SS:=⟨19,59,[(4,(.val (.int .i64)))],[(0,(.var (.aK .func) (.func 73 .nil (.cons (.aZ cA) .nil))))],[]⟩
def xr:aH:=aB G [.tmp 4] 165 [(.val (.slice 96 fm)),(.func 138 .nil (.cons (.ptr 0 []) .nil))] [(0,(.var (.aK .func) (.func 73 .nil (.cons (.aZ cA) .nil))))] 59 L1 [0] (.bE (fun d=>xq d.1 d.2.1))
theorem D6:xr.holds Tryz.prog gl:=
 aH.of tied (H:=⟨[(4,⟨[],[],[⟨[0],[(0,0)],[],[],[]⟩],none,[],[],[]⟩)],[(7,LZ)],[],[(2,⟨L0,fun u2=>Int.toNat u2.2.1+1⟩)],[],[]⟩) (hold (l:=[xp]) ⟨D5,trivial⟩) aE rfl Tryz.call165 Tryz.func165 rfl rfl rfl rfl (fun _=>by kernel_rfl) (fun _=>by kernel_rfl)
def xu(a0:List ix)(a1:cq):Option (Bool×cq):=
 Option.bind (xq a0 a1) fun⟨a,b⟩=>some (decide ((0:Int)≤a),b)
def L2:SS:=⟨9,49,[(4,(.val .bool))],[(0,(.var (.aK .func) (.func 73 .nil (.cons (.aZ cA) .nil))))],[]⟩
def xw:aH:=aB G [.tmp 4] 108 [(.val (.slice 96 fm)),(.func 138 .nil (.cons (.ptr 0 []) .nil))] [(0,(.var (.aK .func) (.func 73 .nil (.cons (.aZ cA) .nil))))] 49 L2 [0] (.bE (fun d=>xu d.1 d.2.1))
theorem D7:xw.holds Tryz.prog gl:=
 aH.of tied (H:=⟨[(1,⟨[],[],[⟨[0],[(0,0)],[],[],[]⟩],none,[],[],[]⟩)],[],[],[],[],[]⟩) (hold (l:=[xr]) ⟨D6,trivial⟩) aE rfl Tryz.call108 Tryz.func108 rfl rfl rfl rfl (fun _=>by kernel_rfl) (fun _=>by kernel_rfl)
def Bv(a0:List ix)(a1:cq):Option Bool:=
 Option.bind (xu a0 a1) fun⟨a,_⟩=>some (!a)
def Bw:aH:=aB G [.tmp 4] 79 [(.val (.slice 96 fm)),(.func 73 .nil (.cons (.aZ cA) .nil))] [] 49 Bq [] (.bE (fun d=>Bv d.1 d.2.1))
theorem GA:Bw.holds Tryz.prog gl:=
 aH.of tied (H:=⟨[(1,⟨[],[],[⟨[0],[(0,19)],[],[],[]⟩],none,[],[],[]⟩)],[],[],[],[],[]⟩) (hold (l:=[xw]) ⟨D7,trivial⟩) aE rfl Tryz.call79 Tryz.func79 rfl rfl rfl rfl (fun _=>by kernel_rfl) (fun _=>by kernel_rfl)
def uC:Nat→((List dz)×Int×Int×cq)→Option (ct cq (Int×cq)):=aL fun _Rt ⟨_,b,a,c⟩=>if(decide (a<b))=true then none else(some (.brk c))
def xx(a0:List dz)(a1:cq):Option (Int×cq):=
 aG (U:=cq) (uC (Int.toNat (List.length a0:Int)+1) (a0,(List.length a0:Int),(0:Int),a1)) fun v1=>some ((-1:Int),v1)
def L3:SS:=⟨19,59,[],[(0,(.var (.aK .func) (.ck 81 cA)))],[]⟩
def L4:SS:=⟨19,59,[(0,(.val (.slice 48 ef))),(1,(.func 139 .nil (.cons (.ptr 0 []) .nil))),(7,(.val (.int .i64))),(8,(.val (.int .i64)))],[(0,(.var (.aK .func) (.ck 81 cA)))],[]⟩
def L5:SS:=⟨19,59,[(4,(.val (.int .i64)))],[(0,(.var (.aK .func) (.ck 81 cA)))],[]⟩
def xy:aH:=aB G [.tmp 4] 187 [(.val (.slice 48 ef)),(.func 139 .nil (.cons (.ptr 0 []) .nil))] [(0,(.var (.aK .func) (.ck 81 cA)))] 59 L5 [0] (.bE (fun d=>xx d.1 d.2.1))
theorem D8:xy.holds Tryz.prog gl:=
 aH.of tied (H:=⟨[(3,⟨[],[],[],none,[(0,9999)],[],[]⟩)],[(7,L3)],[],[(2,⟨L4,fun u2=>Int.toNat u2.2.1+1⟩)],[],[]⟩) (hold (l:=[]) trivial) aE rfl Tryz.call187 Tryz.func187 rfl rfl rfl rfl (fun _=>by kernel_rfl) (fun _=>by kernel_rfl)
def xz(a0:List dz)(a1:cq):Option (Bool×cq):=
 Option.bind (xx a0 a1) fun⟨a,b⟩=>some (decide ((0:Int)≤a),b)
def L7:SS:=⟨9,49,[(4,(.val .bool))],[(0,(.var (.aK .func) (.ck 81 cA)))],[]⟩
def xA:aH:=aB G [.tmp 4] 128 [(.val (.slice 48 ef)),(.func 139 .nil (.cons (.ptr 0 []) .nil))] [(0,(.var (.aK .func) (.ck 81 cA)))] 49 L7 [0] (.bE (fun d=>xz d.1 d.2.1))
theorem D9:xA.holds Tryz.prog gl:=
 aH.of tied (H:=⟨[(1,⟨[],[],[⟨[0],[(0,0)],[],[],[]⟩],none,[],[],[]⟩)],[],[],[],[],[]⟩) (hold (l:=[xy]) ⟨D8,trivial⟩) aE rfl Tryz.call128 Tryz.func128 rfl rfl rfl rfl (fun _=>by kernel_rfl) (fun _=>by kernel_rfl)
def Bx(a0:List dz)(a1:cq):Option Bool:=
 Option.bind (xz a0 a1) fun⟨a,_⟩=>some (!a)
def By:aH:=aB G [.tmp 4] 80 [(.val (.slice 48 ef)),(.ck 81 cA)] [] 49 Bq [] (.bE (fun d=>Bx d.1 d.2.1))
theorem GB:By.holds Tryz.prog gl:=
 aH.of tied (H:=⟨[(1,⟨[],[],[⟨[0],[(0,19)],[],[],[]⟩],none,[],[],[]⟩)],[],[],[],[],[]⟩) (hold (l:=[xA]) ⟨D9,trivial⟩) aE rfl Tryz.call80 Tryz.func80 rfl rfl rfl rfl (fun _=>by kernel_rfl) (fun _=>by kernel_rfl)
def f49(a0:dr):Option Int:=
 Option.bind (f72 (a0,())) fun y1=>if(!y1)=true then none else(Option.bind (α:=Bool) (Option.bind (Br a0.2.1 (a0,())) fun y2=>if(!y2)=true then(some true) else(Option.bind (Bt a0.2.2.1 (a0,())) fun y3=>if(!y3)=true then(some true) else(Option.bind (Bv a0.2.2.2.1 (a0,())) fun y4=>if(!y4)=true then(some true) else(Option.bind (Bx a0.2.2.2.2.2.1 (a0,())) fun y5=>some (!y5))))) fun v6=>if v6=true then none else(some (0:Int)))
def L8:SS:=⟨40,80,[(2,(.val (.int .i64)))],[],[]⟩
def L9:aH:=aB G [.tmp 2] 49 [(.val dq)] [] 80 L8 [] (.bE (fun d=>f49 d.1))
theorem Ov:L9.holds Tryz.prog gl:=
 aH.of tied (H:=⟨[(2,⟨[],[],[⟨[0],[],[],[],[]⟩],none,[],[],[]⟩),(3,⟨[],[],[],none,[(0,9999)],[],[]⟩),(5,⟨[],[],[⟨[1],[],[],[],[]⟩,⟨[2],[],[],[],[]⟩,⟨[3],[],[],[],[]⟩,⟨[4],[],[],[],[]⟩],some [(39,.bool)],[],[],[]⟩),(6,⟨[],[],[],none,[(0,9999)],[],[]⟩)],[],[],[],[],[]⟩) (hold (l:=[Ot,Bs,Bu,Bw,By]) ⟨QE,Gw,Gz,GA,GB,trivial⟩) aE rfl Tryz.call49 Tryz.func49 rfl rfl rfl rfl (fun _=>by kernel_rfl) (fun _=>by kernel_rfl)
def GC:Nat→((List gF)×Int×Int×eP)→Option (ct Unit Int):=aL fun _rec5 ⟨_,b,a,_⟩=>if(decide (a<b))=true then none else(some (.brk ()))
def f82(a0:eP):Option Int:=
 aG (U:=eP) (Option.bind (α:=Bool) (if(decide ((List.length a0.2.2.2.2.1:Int)<(1:Int)))=true then(some true) else(if(decide ((12:Int)<(List.length a0.2.2.2.2.1:Int)))=true then(some true) else(some (decide ((12:Int)<(List.length a0.2.2.2.2.2.1:Int)))))) fun v2=>if v2=true then none else(some (.brk a0))) fun v1=>aG (U:=Unit) (GC (Int.toNat (List.length v1.2.2.2.2.2.1:Int)+1) (v1.2.2.2.2.2.1,(List.length v1.2.2.2.2.2.1:Int),(0:Int),v1)) fun _v3=>some (0:Int)
def Ma:SS:=⟨35,75,[(1,(.ptr 17 []))],[(17,(.var db (.val db)))],[]⟩
def Mb:SS:=⟨35,75,[],[],[]⟩
def Mc:SS:=⟨35,75,[(1,(.ptr 17 [])),(22,(.val (.slice 72 iF))),(23,(.val (.int .i64))),(24,(.val (.int .i64)))],[(17,(.var db (.val db)))],[]⟩
def Md:SS:=⟨35,75,[(2,(.val (.int .i64)))],[],[]⟩
def Ow:aH:=aB G [.tmp 2] 82 [(.val db)] [] 75 Md [] (.bE (fun d=>f82 d.1))
theorem QG:Ow.holds Tryz.prog gl:=
 aH.of tied (H:=⟨[(1,⟨[],[],[],some [(20,.bool)],[],[],[]⟩),(2,⟨[],[],[],none,[(0,9999)],[],[]⟩),(5,⟨[],[],[],none,[(0,9999)],[],[]⟩)],[(3,Ma),(9,Mb)],[],[(4,⟨Mc,fun u4=>Int.toNat u4.2.1+1⟩)],[],[]⟩) (hold (l:=[]) trivial) aE rfl Tryz.call82 Tryz.func82 rfl rfl rfl rfl (fun _=>by kernel_rfl) (fun _=>by kernel_rfl)
def GD:Nat→((List eP)×Int×Int)→Option (ct Unit Int):=aL fun Rt ⟨c,b,a⟩=>if(decide (a<b))=true then(if 0≤a then(if a<(List.length c:Int) then(Option.bind (f82 (nth db c a)) fun y4=>if(!decide (y4=(0:Int)))=true then none else(Rt (c,b,bM (a+(1:Int))))) else none) else none) else(some (.brk ()))
def f50(a0:dr):Option Int:=
 aG (U:=Unit) (GD (Int.toNat (List.length a0.2.2.1:Int)+1) (a0.2.2.1,(List.length a0.2.2.1:Int),(0:Int))) fun _v1=>some (0:Int)
def Me:SS:=⟨19,59,[],[],[]⟩
def Mf:SS:=⟨19,59,[(7,(.val (.slice 96 db))),(8,(.val (.int .i64))),(9,(.val (.int .i64)))],[],[]⟩
def Mg:SS:=⟨19,59,[(2,(.val (.int .i64)))],[],[]⟩
def Ox:aH:=aB G [.tmp 2] 50 [(.val dq)] [] 59 Mg [] (.bE (fun d=>f50 d.1))
theorem QH:Ox.holds Tryz.prog gl:=
 aH.of tied (H:=⟨[(4,⟨[],[],[⟨[0],[],[],[],[]⟩],none,[],[],[]⟩),(6,⟨[],[],[],none,[(0,9999)],[],[]⟩)],[(8,Me)],[],[(2,⟨Mf,fun u2=>Int.toNat u2.2.1+1⟩)],[],[]⟩) (hold (l:=[Ow]) ⟨QG,trivial⟩) aE rfl Tryz.call50 Tryz.func50 rfl rfl rfl rfl (fun _=>by kernel_rfl) (fun _=>by kernel_rfl)
def GF:Nat→((List ix)×Int×Int×Int×(List (Int×(Option (List (Int×Bool))))))→Option (ct (Int×(List (Int×(Option (List (Int×Bool)))))) (Int×jx)):=aL fun _Rt ⟨_,b,a,c,d⟩=>if(decide (a<b))=true then none else(some (.brk (c,d)))
def f86(a0:dr):Option (Int×jx):=
 aG (U:=Int×(List (Int×(Option (List (Int×Bool)))))) (GF (Int.toNat (List.length a0.2.2.2.1:Int)+1) (a0.2.2.2.1,(List.length a0.2.2.2.1:Int),(0:Int),(List.length a0.2.2.1:Int),([]:List (Int×(Option (List (Int×Bool))))))) fun⟨a,b⟩=>some ((0:Int),(a,(some b,())))
def Mh:SS:=⟨60,100,[(2,(.ptr 18 []))],[(18,(.var gD (.cons (.val (.int .i64)) (.cons (.mp 27) .nil)))),(27,(.pmap (.int .i64) (.map (.int .i64) .bool) 0))],[]⟩
def Mi:SS:=⟨60,100,[(2,(.ptr 18 [])),(14,(.val (.slice 96 fm))),(15,(.val (.int .i64))),(16,(.val (.int .i64)))],[(18,(.var gD (.cons (.val (.int .i64)) (.cons (.mp 27) .nil)))),(27,(.pmap (.int .i64) (.map (.int .i64) .bool) 0))],[]⟩
def Mj:SS:=⟨60,100,[(2,(.ptr 18 [])),(3,(.val (.int .i64)))],[(18,(.var gD (.val gD)))],[]⟩
def Oy:aH:=aB G [.cell 2 189,.tmp 3] 86 [(.val dq)] [] 100 Mj [] (.bE (fun d=>f86 d.1))
theorem QI:Oy.holds Tryz.prog gl:=
 aH.of tied (H:=⟨[(2,⟨[.Cs 27 0],[],[],none,[],[],[]⟩),(4,⟨[],[],[],none,[(0,9999)],[],[]⟩),(17,⟨[.zO 27],[],[],none,[],[],[]⟩)],[(17,Mh)],[],[(3,⟨Mi,fun u2=>Int.toNat u2.2.1+1⟩)],[],[]⟩) (hold (l:=[]) trivial) aE rfl Tryz.call86 Tryz.func86 rfl rfl rfl rfl (fun _=>by kernel_rfl) (fun _=>by kernel_rfl)
def Bz(a0:jx):Option jx:=
 some a0
def Mk:SS:=⟨4,44,[(2,(.func 145 .nil (.cons (.ptr 17 []) .nil)))],[(17,(.var gD (.val gD)))],[]⟩
def BA:aH:=aB G [.tmp 2] 88 [(.val gD)] [] 44 Mk [17] (.bE (fun d=>Bz d.1))
theorem GG:BA.holds Tryz.prog gl:=
 aH.of tied (H:=⟨[],[],[],[],[],[]⟩) (hold (l:=[]) trivial) aE rfl Tryz.call88 Tryz.func88 rfl rfl rfl rfl (fun _=>by kernel_rfl) (fun _=>by kernel_rfl)
def Ea:Nat→(Int×Int×Int×jx×(List (List Int))×(List (Int×Bool)))→Option (ct (Int×Int×jx×(List (List Int))) (ct (List (List Int)) (List (List Int)))):=aL fun _rec6 ⟨_,b,c,d,e,a⟩=>if List.isEmpty a=true then(some (.brk (b,c,d,e))) else zJ a fun _x7 _l8=>none
def Eb:Nat→(Int×Int×jx×(List (List Int)))→Option (ct (List (List Int)) (List (List Int))):=aL fun Rt ⟨f,e,g,h⟩=>if(decide (e<f))=true then(aG (U:=Int×Int×jx×(List (List Int))) (Ea (List.length (ew (cI (.int .i64) (.map (.int .i64) .bool) e (ew g.2.1)))+1) (e,f,e,g,h,ew (cI (.int .i64) (.map (.int .i64) .bool) e (ew g.2.1)))) fun⟨a,b,c,d⟩=>Rt (a,bM (b+(1:Int)),c,d)) else(some (.brk h))
def f146(a0:jx):Option (List (List Int)):=
 if 0≤a0.1 then(if a0.1≤a0.1 then(if a0.1*(24:Int)≤(aF:Int) then(aG (U:=List (List Int)) (Eb (Int.toNat a0.1+1) (a0.1,(0:Int),a0,List.replicate (Int.toNat a0.1) [])) fun v1=>some v1) else none) else none) else none
def IG:SS:=⟨35,75,[(1,(.ptr 17 [])),(3,(.own 24)),(10,(.val (.int .i64))),(11,(.val (.int .i64)))],[(17,(.var gD (.val gD))),(24,(.bQ 30 24 (.slice 8 (.int .i64)) 3))],[]⟩
def Ml:SS:=⟨35,75,[(3,(.own 24))],[(24,(.bQ 30 24 (.slice 8 (.int .i64)) 3))],[]⟩
def Mm:SS:=⟨35,75,[(1,(.ptr 17 [])),(3,(.own 24)),(4,(.val (.int .i64))),(10,(.val (.int .i64))),(11,(.val (.int .i64))),(18,(.ptr 34 []))],[(17,(.var gD (.val gD))),(24,(.bQ 30 24 (.slice 8 (.int .i64)) 3)),(34,(.iG (.int .i64) .bool))],[]⟩
def Mn:SS:=⟨35,75,[(2,(.val (.slice 24 (.slice 8 (.int .i64)))))],[],[]⟩
def IH:aH:=aB G [.tmp 2] 146 [(.val gD)] [] 75 Mn [] (.bE (fun d=>f146 d.1))
theorem Mo:IH.holds Tryz.prog gl:=
 aH.of tied (H:=⟨[(7,⟨[],[],[],none,[(0,9999)],[],[]⟩),(10,⟨[.zO 24],[],[],none,[],[],[]⟩)],[(9,IG),(10,Ml)],[],[(3,⟨IG,fun u2=>Int.toNat u2.1+1⟩),(6,⟨Mm,fun u5=>List.length u5.2.2.2.2.2+1⟩)],[],[]⟩) (hold (l:=[]) trivial) aE rfl Tryz.call146 Tryz.func146 rfl rfl rfl rfl (fun _=>by kernel_rfl) (fun _=>by kernel_rfl)
def qF(a0:List Int):Option (Int×(List Int)):=
 some ((List.length a0:Int),a0)
def Mp:SS:=⟨5,45,[(2,(.val (.int .i64)))],[(0,(.row 3 8 (.int .i64)))],[]⟩
def qG:aH:=aB G [.tmp 2] 148 [(.own 0)] [(0,(.row 3 8 (.int .i64)))] 45 Mp [0] (.bE (fun d=>qF d.1))
theorem xB:qG.holds Tryz.prog gl:=
 aH.of tied (H:=⟨[],[],[],[],[],[]⟩) (hold (l:=[]) trivial) aE rfl Tryz.call148 Tryz.func148 rfl rfl rfl rfl (fun _=>by kernel_rfl) (fun _=>by kernel_rfl)
def xC(_a0:Int)(_a1:Int)(_a2:List Int):Option (Bool×(List Int)):=
 none
def Mq:SS:=⟨16,56,[(6,(.val .bool))],[(0,(.row 3 8 (.int .i64)))],[]⟩
def xD:aH:=aB G [.tmp 6] 240 [(.own 0),(.val (.int .i64)),(.val (.int .i64))] [(0,(.row 3 8 (.int .i64)))] 56 Mq [0] (.bE (fun d=>xC d.1 d.2.1 d.2.2.1))
theorem Ec:xD.holds Tryz.prog gl:=
 aH.of tied (H:=⟨[(0,⟨[],[],[],none,[(0,9999)],[],[]⟩)],[],[],[],[],[]⟩) (hold (l:=[]) trivial) aE rfl Tryz.call240 Tryz.func240 rfl rfl rfl rfl (fun _=>by kernel_rfl) (fun _=>by kernel_rfl)
def uD:Nat→(Int×(List Int))→Option (ct (List Int) (List Int)):=aL fun _Rt ⟨c,d⟩=>if(decide ((bM (Int.tdiv (bM (c -(1:Int))) (2:Int)))=c))=true then(some (.brk d)) else(Option.bind (xC c (bM (Int.tdiv (bM (c -(1:Int))) (2:Int))) d) fun⟨a,b⟩=>if(!a)=true then(some (.brk b)) else none)
def xE(a0:Int)(a1:List Int):Option (List Int):=
 aG (U:=List Int) (uD dQ (a0,a1)) fun v1=>some v1
def II:SS:=⟨23,63,[],[(0,(.var fo (.cons (.own 1) .nil))),(1,(.row 3 8 (.int .i64)))],[]⟩
def Mr:SS:=⟨23,63,[(0,(.iface 265 (.ptr 0 []))),(1,(.val (.int .i64)))],[(0,(.var fo (.cons (.own 1) .nil))),(1,(.row 3 8 (.int .i64)))],[]⟩
def xF:aH:=aB G [] 194 [(.iface 265 (.ptr 0 [])),(.val (.int .i64))] [(0,(.var fo (.cons (.own 1) .nil))),(1,(.row 3 8 (.int .i64)))] 63 II [0,1] (.bE (fun d=>xE d.1 d.2.1))
theorem Ed:xF.holds Tryz.prog gl:=
 aH.of tied (H:=⟨[(1,⟨[],[],[⟨[0],[(0,1)],[],[],[]⟩],none,[],[],[]⟩),(2,⟨[],[],[],none,[(0,9999)],[],[]⟩)],[],[(0,II)],[(0,⟨Mr,fun _=>dQ⟩)],[],[]⟩) (hold (l:=[xD]) ⟨Ec,trivial⟩) aE rfl Tryz.call194 Tryz.func194 rfl rfl rfl rfl (fun _=>by kernel_rfl) (fun _=>by kernel_rfl)
def xG(a0:Int)(a1:List Int):Option (List Int):=
 if(List.length a1+List.length [a0])*8≤aF then(some (a1++[a0])) else none
def Ms:SS:=⟨22,62,[],[(0,(.var fo (.cons (.own 35) .nil))),(35,(.row 3 8 (.int .i64)))],[]⟩
def xH:aH:=aB G [] 242 [(.ptr 0 []),(.iface 3 (.val (.int .i64)))] [(0,(.var fo (.cons (.own 1) .nil))),(1,(.row 3 8 (.int .i64)))] 62 Ms [0,35] (.bE (fun d=>xG d.1 d.2.1))
theorem Ee:xH.holds Tryz.prog gl:=
 aH.of tied (H:=⟨[],[],[],[],[],[]⟩) (hold (l:=[]) trivial) aE rfl Tryz.call242 Tryz.func242 rfl rfl rfl rfl (fun _=>by kernel_rfl) (fun _=>by kernel_rfl)
def xI(a0:Int)(a1:List Int):Option (List Int):=
 Option.bind (xG a0 a1) fun y1=>Option.bind (qF y1) fun⟨a,b⟩=>Option.bind (xE (bM (a -(1:Int))) b) fun y3=>some y3
def Mt:SS:=⟨12,52,[],[(0,(.var fo (.cons (.own 22) .nil))),(22,(.row 3 8 (.int .i64)))],[]⟩
def xJ:aH:=aB G [] 147 [(.iface 265 (.ptr 0 [])),(.iface 3 (.val (.int .i64)))] [(0,(.var fo (.cons (.own 1) .nil))),(1,(.row 3 8 (.int .i64)))] 52 Mt [0,22] (.bE (fun d=>xI d.1 d.2.1))
theorem Ef:xJ.holds Tryz.prog gl:=
 aH.of tied (H:=⟨[(0,⟨[],[],[⟨[0],[(0,0),(1,1)],[(35,22)],[],[]⟩],none,[],[],[]⟩),(1,⟨[],[],[⟨[1],[(0,22)],[],[],[]⟩,⟨[2],[(0,0),(1,22)],[],[],[]⟩],none,[],[],[]⟩)],[],[],[],[],[]⟩) (hold (l:=[xH,qG,xF]) ⟨Ee,xB,Ed,trivial⟩) aE rfl Tryz.call147 Tryz.func147 rfl rfl rfl rfl (fun _=>by kernel_rfl) (fun _=>by kernel_rfl)
def f148(a0:List Int):Option Int:=
 some (List.length a0:Int)
def Mu:SS:=⟨5,45,[(2,(.val (.int .i64)))],[],[]⟩
def IJ:aH:=aB G [.tmp 2] 148 [(.val (.slice 8 (.int .i64)))] [] 45 Mu [] (.bE (fun d=>f148 d.1))
theorem Mv:IJ.holds Tryz.prog gl:=
 aH.of tied (H:=⟨[],[],[],[],[],[]⟩) (hold (l:=[]) trivial) aE rfl Tryz.call148 Tryz.func148 rfl rfl rfl rfl (fun _=>by kernel_rfl) (fun _=>by kernel_rfl)
def xK(a0:Int)(a1:Int)(a2:List Int):Option (List Int):=
 if 0≤a1 then(if a1<(List.length a2:Int) then(if 0≤a0 then(if a0<(List.length a2:Int) then(if 0≤a0 then(if a0<(List.length a2:Int) then(if 0≤a1 then(if a1<(List.length (List.set a2 (Int.toNat a0) (nth (.int .i64) a2 a1)):Int) then(some (List.set (List.set a2 (Int.toNat a0) (nth (.int .i64) a2 a1)) (Int.toNat a1) (nth (.int .i64) a2 a0))) else none) else none) else none) else none) else none) else none) else none) else none
def Mw:SS:=⟨20,60,[],[(0,(.row 3 8 (.int .i64)))],[]⟩
def xL:aH:=aB G [] 244 [(.own 0),(.val (.int .i64)),(.val (.int .i64))] [(0,(.row 3 8 (.int .i64)))] 60 Mw [0] (.bE (fun d=>xK d.1 d.2.1 d.2.2.1))
theorem Eg:xL.holds Tryz.prog gl:=
 aH.of tied (H:=⟨[],[],[],[],[],[]⟩) (hold (l:=[]) trivial) aE rfl Tryz.call244 Tryz.func244 rfl rfl rfl rfl (fun _=>by kernel_rfl) (fun _=>by kernel_rfl)
def uE:Nat→(Int×Int×Int×(List Int))→Option (ct (Int×Int×(List Int)) (Bool×(List Int))):=aL fun _Rt ⟨c,a,b,d⟩=>aG (U:=Int×Int×Int×Int×(List Int)) (Option.bind (α:=Bool) (if(decide (a≤(bM ((bM ((2:Int)*b))+(1:Int)))))=true then(some true) else(some (decide ((bM ((bM ((2:Int)*b))+(1:Int)))<(0:Int))))) fun v5=>if v5=true then(ei (some (.brk (c,b,d)))) else(some (.brk (c,a,b,bM ((bM ((2:Int)*b))+(1:Int)),d)))) fun⟨_,_,_,_,_⟩=>none
def xM(a0:Int)(a1:Int)(a2:List Int):Option (Bool×(List Int)):=
 aG (U:=Int×Int×(List Int)) (uE dQ (a0,a1,a0,a2)) fun⟨a,b,c⟩=>some (decide (a<b),c)
def Mx:SS:=⟨48,88,[(0,(.iface 265 (.ptr 0 []))),(1,(.val (.int .i64))),(2,(.val (.int .i64))),(7,(.val (.int .i64))),(8,(.val (.int .i64)))],[(0,(.var fo (.cons (.own 1) .nil))),(1,(.row 3 8 (.int .i64)))],[]⟩
def My:SS:=⟨48,88,[(1,(.val (.int .i64))),(7,(.val (.int .i64)))],[(0,(.var fo (.cons (.own 1) .nil))),(1,(.row 3 8 (.int .i64)))],[]⟩
def Mz:SS:=⟨48,88,[(0,(.iface 265 (.ptr 0 []))),(1,(.val (.int .i64))),(2,(.val (.int .i64))),(7,(.val (.int .i64)))],[(0,(.var fo (.cons (.own 1) .nil))),(1,(.row 3 8 (.int .i64)))],[]⟩
def MA:SS:=⟨48,88,[(6,(.val .bool))],[(0,(.var fo (.cons (.own 1) .nil))),(1,(.row 3 8 (.int .i64)))],[]⟩
def xN:aH:=aB G [.tmp 6] 195 [(.iface 265 (.ptr 0 [])),(.val (.int .i64)),(.val (.int .i64))] [(0,(.var fo (.cons (.own 1) .nil))),(1,(.row 3 8 (.int .i64)))] 88 MA [0,1] (.bE (fun d=>xM d.1 d.2.1 d.2.2.1))
theorem Eh:xN.holds Tryz.prog gl:=
 aH.of tied (H:=⟨[(3,⟨[],[],[],some [(21,.bool)],[],[],[]⟩),(4,⟨[],[],[],none,[(0,9999)],[],[]⟩)],[(4,Mx),(11,My)],[],[(2,⟨Mz,fun _=>dQ⟩)],[],[]⟩) (hold (l:=[]) trivial) aE rfl Tryz.call195 Tryz.func195 rfl rfl rfl rfl (fun _=>by kernel_rfl) (fun _=>by kernel_rfl)
def xO(a0:List Int):Option (Int×(List Int)):=
 if 0≤(bM ((List.length a0:Int) -(1:Int))) then(if(bM ((List.length a0:Int) -(1:Int)))<(List.length a0:Int) then(if 0≤(bM ((List.length a0:Int) -(1:Int))) then(if(bM ((List.length a0:Int) -(1:Int)))≤(List.length a0:Int) then(some (nth (.int .i64) a0 (bM ((List.length a0:Int) -(1:Int))),List.take ((Int.toNat (bM ((List.length a0:Int) -(1:Int)))) -0) a0)) else none) else none) else none) else none
def MB:SS:=⟨32,72,[(2,(.iface 3 (.val (.int .i64))))],[(0,(.var fo (.cons (.own 48) .nil))),(48,(.row 3 8 (.int .i64)))],[]⟩
def xP:aH:=aB G [.tmp 2] 241 [(.ptr 0 [])] [(0,(.var fo (.cons (.own 1) .nil))),(1,(.row 3 8 (.int .i64)))] 72 MB [0,48] (.bE (fun d=>xO d.1))
theorem Ei:xP.holds Tryz.prog gl:=
 aH.of tied (H:=⟨[(2,⟨[],[],[],none,[],[],[.kV 0 [.cB 0] 48]⟩)],[],[],[],[],[]⟩) (hold (l:=[]) trivial) aE rfl Tryz.call241 Tryz.func241 rfl rfl rfl rfl (fun _=>by kernel_rfl) (fun _=>by kernel_rfl)
def qH(a0:List Int):Option (Int×(List Int)):=
 Option.bind (qF a0) fun⟨a,b⟩=>Option.bind (xK (0:Int) (bM (a -(1:Int))) b) fun y2=>Option.bind (xM (0:Int) (bM (a -(1:Int))) y2) fun⟨_,c⟩=>Option.bind (xO c) fun⟨d,e⟩=>some (d,e)
def MC:SS:=⟨15,55,[(2,(.iface 3 (.val (.int .i64))))],[(0,(.var fo (.cons (.own 30) .nil))),(30,(.row 3 8 (.int .i64)))],[]⟩
def xQ:aH:=aB G [.tmp 2] 149 [(.iface 265 (.ptr 0 []))] [(0,(.var fo (.cons (.own 1) .nil))),(1,(.row 3 8 (.int .i64)))] 55 MC [0,30] (.bE (fun d=>qH d.1))
theorem Ej:xQ.holds Tryz.prog gl:=
 aH.of tied (H:=⟨[(1,⟨[],[],[⟨[0],[(0,1)],[],[],[]⟩],none,[],[],[]⟩),(2,⟨[],[],[⟨[1],[(0,1)],[],[],[]⟩],none,[],[],[]⟩),(3,⟨[],[],[⟨[2],[(0,0),(1,1)],[],[],[]⟩],none,[],[],[]⟩),(4,⟨[],[],[⟨[3],[(0,0),(1,1)],[(48,30)],[],[]⟩],none,[],[],[]⟩)],[],[],[],[],[]⟩) (hold (l:=[qG,xL,xN,xP]) ⟨xB,Eg,Eh,Ei,trivial⟩) aE rfl Tryz.call149 Tryz.func149 rfl rfl rfl rfl (fun _=>by kernel_rfl) (fun _=>by kernel_rfl)
def j0(_l_:Nat)(_Y_:Int×YC×Nat×Nat×(List Int)×Unit→Option (Bool×YC×Nat×Nat×(List Int))):Nat→(Nat×jx×(List (List Int))×Int×Int×YC×Nat×Nat×(List Int)×(List Int)×(List Int))→Option (ct (Nat×(List (List Int))×YC×Nat×Nat×(List Int)×(List Int)×(List Int)) (YC×Nat×Nat×(List Int))):=aL fun rec4 ⟨f,d,g,b,a,h,i,j,k,c,e⟩=>if(decide (a<b))=true then(if 0≤a then(if a<(List.length c:Int) then(if 0≤a then(if a<(List.length (List.set c (Int.toNat a) (List.length (ew (cI (.int .i64) (.map (.int .i64) .bool) a (ew d.2.1))):Int)):Int) then(if(decide ((nth (.int .i64) (List.set c (Int.toNat a) (List.length (ew (cI (.int .i64) (.map (.int .i64) .bool) a (ew d.2.1))):Int)) a)=(0:Int)))=true then(Option.bind (xI a e) fun y5=>rec4 (f,d,g,b,bM (a+(1:Int)),h,i,j,k,List.set c (Int.toNat a) (List.length (ew (cI (.int .i64) (.map (.int .i64) .bool) a (ew d.2.1))):Int),y5)) else(rec4 (f,d,g,b,bM (a+(1:Int)),h,i,j,k,List.set c (Int.toNat a) (List.length (ew (cI (.int .i64) (.map (.int .i64) .bool) a (ew d.2.1))):Int),e))) else none) else none) else none) else none) else(some (.brk (f,g,h,i,j,k,c,e)))
def lR(_l_:Nat)(_Y_:Int×YC×Nat×Nat×(List Int)×Unit→Option (Bool×YC×Nat×Nat×(List Int))):Nat→(Nat×(List (List Int))×(List Int)×Int×Int×YC×Nat×Nat×(List Int)×(List Int)×(List Int))→Option (ct (Nat×(List (List Int))×YC×Nat×Nat×(List Int)×(List Int)×(List Int)) (ct (YC×Nat×Nat×(List Int)) (YC×Nat×Nat×(List Int)))):=aL fun _rec15 ⟨c,d,_,b,a,e,f,g,h,i,j⟩=>if(decide (a<b))=true then none else(some (.brk (c,d,e,f,g,h,i,j)))
def fH(l_:Nat)(Y_:Int×YC×Nat×Nat×(List Int)×Unit→Option (Bool×YC×Nat×Nat×(List Int))):Nat→(Nat×(List (List Int))×YC×Nat×Nat×(List Int)×(List Int)×(List Int))→Option (ct (YC×Nat×Nat×(List Int)) (YC×Nat×Nat×(List Int))):=aL fun rec8 ⟨z,ae,aa,ab,ac,af,y,ad⟩=>Option.bind (f148 y) fun y9=>if(decide ((0:Int)<y9))=true then(aG (U:=Nat×(List (List Int))×YC×Nat×Nat×(List Int)×(List Int)×(List Int)) (Option.bind (qH y) fun⟨a,b⟩=>aG (U:=Nat×(List (List Int))×Int×YC×Nat×Nat×(List Int)×(List Int)×(List Int)) (if z=l_ then(Option.bind (Y_ (a,aa,ab,ac,ad,())) fun⟨c,d,e,f,g⟩=>if(!c)=true then(ei (ei (ei (some (d,e,f,g))))) else(some (.brk (z,ae,a,d,e,f,af,b,g)))) else none) fun⟨j,i,h,k,l,m,n,o,p⟩=>if 0≤h then(if h<(List.length i:Int) then(lR l_ Y_ (Int.toNat (List.length (nth (.slice 8 (.int .i64)) i h):Int)+1) (j,i,nth (.slice 8 (.int .i64)) i h,(List.length (nth (.slice 8 (.int .i64)) i h):Int),(0:Int),k,l,m,n,o,p)) else none) else none) fun⟨q,r,s,t,u,v,w,x⟩=>rec8 (q,r,s,t,u,v,w,x)) else(some (.brk (aa,ab,ac,ad)))
def hN(l_:Nat)(Y_:Int×YC×Nat×Nat×(List Int)×Unit→Option (Bool×YC×Nat×Nat×(List Int)))(a0:Nat)(a1:jx)(a2:YC)(a3:Nat)(a4:Nat)(a5:List Int):Option (YC×Nat×Nat×(List Int)):=
 Option.bind (f146 a1) fun y1=>if 0≤a1.1 then(if a1.1≤a1.1 then(if a1.1*(8:Int)≤(aF:Int) then(aG (U:=Nat×(List (List Int))×YC×Nat×Nat×(List Int)×(List Int)×(List Int)) (j0 l_ Y_ (Int.toNat a1.1+1) (a0,a1,y1,a1.1,(0:Int),a2,a3,a4,a5,List.replicate (Int.toNat a1.1) (0:Int),([]:List Int))) fun⟨a,b,c,d,e,h,f,g⟩=>aG (U:=YC×Nat×Nat×(List Int)) (fH l_ Y_ dQ (a,b,c,d,e,f,g,h)) fun⟨i,j,k,l⟩=>some (i,j,k,l)) else none) else none) else none
def MD:SS:=⟨89,129,[(0,.pN),(3,(.val (.slice 24 (.slice 8 (.int .i64))))),(4,(.own 31)),(5,(.ptr 33 []))],[(0,.lp),(1,(.tv (.slice 8 (.int .i64)) (.own 2))),(2,(.row 3 8 (.int .i64))),(31,(.row 3 8 (.int .i64))),(33,(.var fo (.cons (.own 106) .nil))),(106,(.row 3 8 (.int .i64)))],[]⟩
def ME:SS:=⟨89,129,[(0,.pN),(3,(.val (.slice 24 (.slice 8 (.int .i64))))),(4,(.own 31)),(5,(.ptr 33 [])),(7,(.val (.int .i64)))],[(0,.lp),(1,(.tv (.slice 8 (.int .i64)) (.own 107))),(31,(.row 3 8 (.int .i64))),(33,(.var fo (.cons (.own 67) .nil))),(67,(.row 3 8 (.int .i64))),(107,(.row 3 8 (.int .i64)))],[]⟩
def MF:SS:=⟨89,129,[],[(0,.lp),(1,(.tv (.slice 8 (.int .i64)) (.own 110))),(110,(.row 3 8 (.int .i64)))],[]⟩
def MG:SS:=⟨89,129,[(0,.pN),(3,(.val (.slice 24 (.slice 8 (.int .i64))))),(4,(.own 31)),(5,(.ptr 33 []))],[(0,.lp),(1,(.tv (.slice 8 (.int .i64)) (.own 107))),(31,(.row 3 8 (.int .i64))),(33,(.var fo (.cons (.own 67) .nil))),(67,(.row 3 8 (.int .i64))),(107,(.row 3 8 (.int .i64)))],[]⟩
def MH:SS:=⟨89,129,[(0,.pN),(1,(.aZ gD)),(3,(.val (.slice 24 (.slice 8 (.int .i64))))),(4,(.own 31)),(5,(.ptr 33 [])),(19,(.val (.int .i64))),(20,(.val (.int .i64)))],[(0,.lp),(1,(.tv (.slice 8 (.int .i64)) (.own 2))),(2,(.row 3 8 (.int .i64))),(31,(.row 3 8 (.int .i64))),(33,(.var fo (.cons (.own 105) .nil))),(105,(.row 3 8 (.int .i64)))],[]⟩
def MI:SS:=⟨89,129,[(0,.pN),(3,(.val (.slice 24 (.slice 8 (.int .i64))))),(4,(.own 31)),(5,(.ptr 33 []))],[(0,.lp),(1,(.tv (.slice 8 (.int .i64)) (.own 109))),(31,(.row 3 8 (.int .i64))),(33,(.var fo (.cons (.own 108) .nil))),(108,(.row 3 8 (.int .i64))),(109,(.row 3 8 (.int .i64)))],[]⟩
def MJ:SS:=⟨89,129,[(0,.pN),(3,(.val (.slice 24 (.slice 8 (.int .i64))))),(4,(.own 31)),(5,(.ptr 33 [])),(66,(.val (.slice 8 (.int .i64)))),(67,(.val (.int .i64))),(68,(.val (.int .i64)))],[(0,.lp),(1,(.tv (.slice 8 (.int .i64)) (.own 107))),(31,(.row 3 8 (.int .i64))),(33,(.var fo (.cons (.own 67) .nil))),(67,(.row 3 8 (.int .i64))),(107,(.row 3 8 (.int .i64)))],[]⟩
def MK:SS:=⟨89,129,[],[(0,.lp),(1,(.tv (.slice 8 (.int .i64)) (.own 111))),(111,(.row 3 8 (.int .i64)))],[]⟩
def qI:IC:=⟨[(.val (.int .i64))],[(0,.lp),(1,(.tv (.slice 8 (.int .i64)) (.own 2))),(2,(.row 3 8 (.int .i64)))],53,0,[(1,(.tv (.slice 8 (.int .i64)) (.own 27))),(27,(.row 3 8 (.int .i64)))],fun l f=>aB G [] 145 [.pN,(.aZ gD)] [(0,.lp),(1,(.tv (.slice 8 (.int .i64)) (.own 2))),(2,(.row 3 8 (.int .i64)))] 129 MK [0,1,111] (.bE (fun d=>hN l f d.1 d.2.1 d.2.2.1 d.2.2.2.1 d.2.2.2.2.1 d.2.2.2.2.2.1))⟩
theorem Ek:qI.holds Tryz.prog gl:=fun B hB l f hY=>
 aH.of tied (H:=⟨[(0,⟨[],[],[⟨[1],[],[],[],[]⟩],none,[],[],[]⟩),(7,⟨[],[],[⟨[2],[(0,33),(1,105)],[(22,56)],[],[]⟩],none,[],[],[]⟩),(9,⟨[],[],[⟨[3],[],[],[],[]⟩],none,[],[],[]⟩),(10,⟨[],[],[⟨[4],[(0,33),(1,108)],[(30,67)],[],[]⟩],none,[],[],[]⟩),(11,⟨[],[],[⟨[0],[(0,0),(1,1),(2,109)],[(27,107)],[],[]⟩],none,[],[],[]⟩),(14,⟨[],[],[],none,[(0,9999)],[],[]⟩)],[(9,MD),(12,ME)],[(2,MF),(3,MG)],[(3,⟨MH,fun u3=>Int.toNat u3.2.2.2.1+1⟩),(9,⟨MI,fun _=>dQ⟩),(13,⟨MJ,fun u14=>Int.toNat u14.2.2.2.1+1⟩)],[],[]⟩) (hold (l:=[IC.Y qI l f,IH,xJ,IJ,xQ]) ⟨hY,Mo.up rfl (fun _ _=>trivial),Ef.up rfl (fun _ _=>trivial),Mv.up rfl (fun _ _=>trivial),Ej.up rfl (fun _ _=>trivial),trivial⟩) aE rfl Tryz.call145 Tryz.func145 rfl rfl rfl rfl (fun _=>by kernel_rfl) (fun _=>by kernel_rfl)
def hT(y_:YC)(b3_0:Int)(yt:YC)(yj:Nat)(g1:Nat)(c3_0:List Int):Option (Bool×YC×Nat×Nat×(List Int)):=
 zN yt y_ (if yj=0 then(if g1=y_.gs 1 then(Option.bind (α:=Nat×Nat×(List Int)) (if(List.length c3_0+List.length [b3_0])*8≤aF then(some (0,y_.gs 1,c3_0++[b3_0])) else none) fun r_=>if r_.2.1=y_.gs 1 then(some (Nat.beq r_.1 0,y_,r_.1,r_.2.1,r_.2.2)) else none) else none) else none)
def qJ(a0:jx):Option (List Int):=
 aG (U:=List Int) (oq fun y2=>Option.bind (hN y2.l (fun d=>hT y2 d.1 d.2.1 d.2.2.1 d.2.2.2.1 d.2.2.2.2.1) y2.l a0 y2 0 (y2.gs 1) ([]:List Int)) fun⟨a,b,_,c⟩=>zN a y2 (if b=0 then(some (.brk c)) else none)) fun v1=>some v1
def ML:SS:=⟨13,53,[(2,(.ptr 18 []))],[(18,(.var (.slice 8 (.int .i64)) (.own 32))),(30,.nR),(32,(.row 3 8 (.int .i64)))],[(.mp 30)]⟩
def MM:SS:=⟨13,53,[(2,(.ptr 18 [])),(4,.aS),(6,(.func 145 .nil (.cons (.aZ gD) .nil)))],[(18,(.var (.slice 8 (.int .i64)) (.own 29))),(29,(.row 3 8 (.int .i64)))],[]⟩
def MN:SS:=⟨13,53,[],[(1,(.var (.slice 8 (.int .i64)) (.own 27))),(27,(.row 3 8 (.int .i64)))],[]⟩
def MO:SS:=⟨13,53,[(4,(.val (.slice 8 (.int .i64))))],[],[]⟩
def xR:aH:=aB G [.tmp 4] 144 [.aS,(.func 145 .nil (.cons (.aZ gD) .nil))] [] 53 MO [] (.bE (fun d=>qJ d.1))
theorem El:xR.holds Tryz.prog gl:=
 aH.of tied (H:=⟨[],[(4,ML)],[],[],[],[(3,⟨0,30,31,[(1,(.slice 8 (.int .i64)))],[(18,1)],[],[(0,31),(1,18),(2,29)],[(111,32)],MM,MN⟩)]⟩) (hold (l:=[]) trivial) (pE (L:=[qI]) ⟨Ek,trivial⟩) rfl Tryz.call144 Tryz.func144 rfl rfl rfl rfl (fun _=>by kernel_rfl) (fun _=>by kernel_rfl)
def qK(a0:jx):Option (List Int):=
 Option.bind (qJ a0) fun y1=>some y1
def IK:SS:=⟨5,45,[(2,(.val (.slice 8 (.int .i64))))],[],[]⟩
def GH:aH:=aB G [.tmp 2] 87 [(.func 145 .nil (.cons (.aZ gD) .nil))] [] 45 IK [] (.bE (fun d=>qK d.1))
theorem GI:GH.holds Tryz.prog gl:=
 aH.of tied (H:=⟨[(1,⟨[],[],[⟨[0],[],[],[],[]⟩],none,[],[],[]⟩)],[],[],[],[],[]⟩) (hold (l:=[xR]) ⟨El,trivial⟩) aE rfl Tryz.call87 Tryz.func87 rfl rfl rfl rfl (fun _=>by kernel_rfl) (fun _=>by kernel_rfl)
end Go.Proofs.YtadeibjelmcdgaaGreat
