/- Made by program (dec6.py): walks -/
import Derived.Test.YtadeibjelmcdgaaGreatBase
noncomputable section
namespace Go.Proofs.YtadeibjelmcdgaaGreat
open Go.Ax
def f30(a0:Int):Option aW:=
 some ((0:Int),((4:Int),(a0,())))
def s1:SS:=⟨5,45,[(2,(.ptr 18 []))],[(18,(.var bC (.val bC)))],[]⟩
def OC:aH:=aB G [.cell 2 39] 30 [(.val (.int .i64))] [] 45 s1 [] (.bE (fun d=>f30 d.1))
theorem QJ:OC.holds Tryz.prog gl:=
 aH.of tied (H:=⟨[],[],[],[],[],[]⟩) (hold (l:=[]) trivial) aE rfl Tryz.call30 Tryz.func30 rfl rfl rfl rfl (fun _=>by kernel_rfl) (fun _=>by kernel_rfl)
def f12:Option bH:=
 aG (U:=(List (List UInt8))×(List eP)) (some (.brk ([[120]],[([115],([120],((0:Int),((1:Int),([([115,101,108,102],(((3:Int),((0:Int),((4095:Int),([],((-1:Int),(([]:List (List UInt8)),())))))),(Ty.bL GJ,()))),([97],(((1:Int),((0:Int),((9:Int),([],((-1:Int),(([]:List (List UInt8)),())))))),(Ty.bL GJ,()))),([98],(((1:Int),((0:Int),((9:Int),([],((-1:Int),(([]:List (List UInt8)),())))))),(Ty.bL GJ,())))],(([]:List gF),()))))))]))) fun⟨a,b⟩=>Option.bind (f30 (1:Int)) fun y2=>Option.bind (f30 (2:Int)) fun y3=>Option.bind (f30 (1:Int)) fun y4=>some (((a,(([]:List cU),(b,(([]:List ix),(([]:List eW),(([]:List dz),())))))),([(0:Int)],())),([(y2,((7:Int),(((2:Int),((10:Int),())),((10:Int),((0:Int),()))))),(y3,((8:Int),(((2:Int),((10:Int),())),((10:Int),((1:Int),()))))),(y4,((6:Int),(((5:Int),((6:Int),())),((20:Int),((0:Int),())))))],()))
def s2:SS:=⟨35,75,[(0,(.ptr 16 [])),(2,(.ptr 18 []))],[(16,(.var bS (.cons (.cons (.cons .aS (.cons .aS (.cons .aS (.cons .aS (.cons .aS (.cons .aS .nil)))))) (.cons .aS .nil)) (.cons .aS .nil)))),(18,(.var dq (.cons (.own 22) (.cons .aS (.cons (.own 31) (.cons .aS (.cons .aS (.cons .aS .nil)))))))),(22,(.row 9 16 .str)),(31,(.row 91 96 db))],[]⟩
def s3:SS:=⟨35,75,[(0,(.ptr 16 []))],[(16,(.var bS (.val bS)))],[]⟩
def OD:aH:=aB G [.cell 0 35] 12 [] [] 75 s3 [] (.bE (fun _=>f12))
theorem Jz:OD.holds Tryz.prog gl:=
 aH.of tied (H:=⟨[(2,⟨[],[(9,14,db)],[],none,[],[],[]⟩),(5,⟨[],[],[⟨[0],[],[],[],[]⟩,⟨[0],[],[],[],[]⟩,⟨[0],[],[],[],[]⟩],none,[],[],[]⟩)],[(3,s2)],[],[],[],[]⟩) (hold (l:=[OC]) ⟨QJ,trivial⟩) aE rfl Tryz.call12 Tryz.func12 rfl rfl rfl rfl (fun _=>by kernel_rfl) (fun _=>by kernel_rfl)
def qL:Nat→(Int×(List Int)×Int×Int×eY)→Option (ct eY Bool):=aL fun Rt ⟨d,c,b,a,e⟩=>if(decide (a<b))=true then(if 0≤a then(if a<(List.length c:Int) then(if(decide ((nth (.int .i64) c a)≤d))=true then(ei (some false)) else(Rt (nth (.int .i64) c a,c,b,bM (a+(1:Int)),e))) else none) else none) else(some (.brk e))
def f23(a0:eY):Option Bool:=
 aG (U:=eY) (qL (Int.toNat (List.length a0.2.2.2.2.2.2.2.1:Int)+1) ((-1:Int),a0.2.2.2.2.2.2.2.1,(List.length a0.2.2.2.2.2.2.2.1:Int),(0:Int),a0)) fun v1=>some (decide ((List.length v1.2.2.2.2.2.2.2.1:Int)=(List.length v1.2.2.2.2.2.2.2.2.1:Int)))
def s4:SS:=⟨25,65,[(1,(.ptr 17 []))],[(17,(.var ep (.val ep)))],[]⟩
def s5:SS:=⟨25,65,[(1,(.ptr 17 [])),(3,(.val (.int .i64))),(7,(.val (.slice 8 (.int .i64)))),(8,(.val (.int .i64))),(9,(.val (.int .i64)))],[(17,(.var ep (.val ep)))],[]⟩
def s6:SS:=⟨25,65,[(2,(.val .bool))],[],[]⟩
def MU:aH:=aB G [.tmp 2] 23 [(.val ep)] [] 65 s6 [] (.bE (fun d=>f23 d.1))
theorem OE:MU.holds Tryz.prog gl:=
 aH.of tied (H:=⟨[],[(9,s4)],[],[(3,⟨s5,fun u2=>Int.toNat u2.2.2.1+1⟩)],[],[]⟩) (hold (l:=[]) trivial) aE rfl Tryz.call23 Tryz.func23 rfl rfl rfl rfl (fun _=>by kernel_rfl) (fun _=>by kernel_rfl)
def qM(a0:ix)(a1:Int):Option Bool:=
 some (decide (a0.2.1=a1))
def s7:SS:=⟨8,48,[(3,(.val .bool))],[],[]⟩
def xT:aH:=aB G [.tmp 3] 109 [(.val fm),(.aZ (.int .i64))] [] 48 s7 [] (.bE (fun d=>qM d.1 d.2.1))
theorem Er:xT.holds Tryz.prog gl:=
 aH.of tied (H:=⟨[],[],[],[],[],[]⟩) (hold (l:=[]) trivial) aE rfl Tryz.call109 Tryz.func109 rfl rfl rfl rfl (fun _=>by kernel_rfl) (fun _=>by kernel_rfl)
def nO:Nat→((List ix)×Int×Int×Int)→Option (ct Unit Int):=aL fun Rt ⟨c,d,b,a⟩=>if(decide (a<b))=true then(if 0≤a then(if a<(List.length c:Int) then(Option.bind (qM (nth fm c a) d) fun y4=>if y4=true then(ei (some a)) else(Rt (c,d,b,bM (a+(1:Int))))) else none) else none) else(some (.brk ()))
def qN(a0:List ix)(a1:Int):Option Int:=
 aG (U:=Unit) (nO (Int.toNat (List.length a0:Int)+1) (a0,a1,(List.length a0:Int),(0:Int))) fun _v1=>some (-1:Int)
def s8:SS:=⟨19,59,[],[],[]⟩
def s9:SS:=⟨19,59,[(0,(.val (.slice 96 fm))),(1,(.func 109 .nil (.cons (.aZ (.int .i64)) .nil))),(7,(.val (.int .i64))),(8,(.val (.int .i64)))],[],[]⟩
def QK:SS:=⟨19,59,[(4,(.val (.int .i64)))],[],[]⟩
def xU:aH:=aB G [.tmp 4] 165 [(.val (.slice 96 fm)),(.func 109 .nil (.cons (.aZ (.int .i64)) .nil))] [] 59 QK [] (.bE (fun d=>qN d.1 d.2.1))
theorem Es:xU.holds Tryz.prog gl:=
 aH.of tied (H:=⟨[(4,⟨[],[],[⟨[0],[],[],[],[]⟩],none,[],[],[]⟩)],[(7,s8)],[],[(2,⟨s9,fun u2=>Int.toNat u2.2.2.1+1⟩)],[],[]⟩) (hold (l:=[xT]) ⟨Er,trivial⟩) aE rfl Tryz.call165 Tryz.func165 rfl rfl rfl rfl (fun _=>by kernel_rfl) (fun _=>by kernel_rfl)
def mB(a0:List ix)(a1:Int):Option Bool:=
 Option.bind (qN a0 a1) fun y1=>some (decide ((0:Int)≤y1))
def QL:SS:=⟨9,49,[(4,(.val .bool))],[],[]⟩
def xV:aH:=aB G [.tmp 4] 108 [(.val (.slice 96 fm)),(.func 109 .nil (.cons (.aZ (.int .i64)) .nil))] [] 49 QL [] (.bE (fun d=>mB d.1 d.2.1))
theorem Et:xV.holds Tryz.prog gl:=
 aH.of tied (H:=⟨[(1,⟨[],[],[⟨[0],[],[],[],[]⟩],none,[],[],[]⟩)],[],[],[],[],[]⟩) (hold (l:=[xU]) ⟨Es,trivial⟩) aE rfl Tryz.call108 Tryz.func108 rfl rfl rfl rfl (fun _=>by kernel_rfl) (fun _=>by kernel_rfl)
def f68(a0:dr)(a1:Int):Option Int:=
 Option.bind (α:=Bool) (if(decide ((0:Int)≤a1))=true then(if(decide (a1<(List.length a0.2.2.1:Int)))=true then(Option.bind (mB a0.2.2.2.1 a1) fun y1=>some y1) else(some false)) else(some false)) fun v2=>if v2=true then(some (1:Int)) else(some (0:Int))
def OF:SS:=⟨20,60,[(4,(.val (.int .i64)))],[],[]⟩
def OG:aH:=aB G [.tmp 4] 68 [(.val dq),(.val (.int .i64))] [] 60 OF [] (.bE (fun d=>f68 d.1 d.2.1))
theorem QM:OG.holds Tryz.prog gl:=
 aH.of tied (H:=⟨[(1,⟨[],[],[⟨[0],[],[],[],[]⟩],some [(19,.bool)],[],[],[]⟩)],[],[],[],[],[]⟩) (hold (l:=[xV]) ⟨Et,trivial⟩) aE rfl Tryz.call68 Tryz.func68 rfl rfl rfl rfl (fun _=>by kernel_rfl) (fun _=>by kernel_rfl)
def f66(_a0:bH)(_a1:Int)(_a2:Int)(_a3:Int)(_a4:Int)(_a5:Int):Option ((List aT)×Bool×tj):=
 none
def QN:SS:=⟨27,67,[(12,(.ptr 28 [])),(13,(.val (.slice 40 bw))),(14,(.val .bool))],[(28,(.var po (.val po)))],[]⟩
def OH:aH:=aB G [.cell 12 56,.tmp 13,.tmp 14] 66 [(.val bS),(.val (.int .i64)),(.val (.int .i64)),(.val (.int .i64)),(.val (.int .i64)),(.val (.int .i64))] [] 67 QN [] (.bE (fun d=>f66 d.1 d.2.1 d.2.2.1 d.2.2.2.1 d.2.2.2.2.1 d.2.2.2.2.2.1))
theorem QO:OH.holds Tryz.prog gl:=
 aH.of tied (H:=⟨[(0,⟨[],[],[],none,[(0,9999)],[],[]⟩)],[],[],[],[],[]⟩) (hold (l:=[]) trivial) aE rfl Tryz.call66 Tryz.func66 rfl rfl rfl rfl (fun _=>by kernel_rfl) (fun _=>by kernel_rfl)
def uF:Nat→(Int×(List ix)×Int×Int×(List (Int×Bool)))→Option (ct (Int×(List (Int×Bool))) Bool):=aL fun rec5 ⟨e,c,b,a,d⟩=>if(decide (a<b))=true then(if 0≤a then(if a<(List.length c:Int) then(if List.length d+1≤aF then(rec5 (e,c,b,bM (a+(1:Int)),cj (.int .i64) (((nth fm c a).2).1) true d)) else none) else none) else none) else(some (.brk (e,d)))
def f25(a0:dr)(a1:Int):Option Bool:=
 aG (U:=Int×dr) (Option.bind (α:=Bool) (if(decide (a1<(0:Int)))=true then(some true) else(if(decide ((List.length a0.2.2.1:Int)≤a1))=true then(some true) else(if 0≤a1 then(if a1<(List.length a0.2.2.1:Int) then(some (decide ((List.length ((((((nth db a0.2.2.1 a1).2).2).2).2).1):Int)<(2:Int)))) else none) else none))) fun v2=>if v2=true then(ei (some false)) else(some (.brk (a1,a0)))) fun⟨b,a⟩=>aG (U:=Int×(List (Int×Bool))) (uF (Int.toNat (List.length a.2.2.2.1:Int)+1) (b,a.2.2.2.1,(List.length a.2.2.2.1:Int),(0:Int),([]:List (Int×Bool)))) fun⟨c,d⟩=>some (!(cI (.int .i64) .bool c d))
def QP:SS:=⟨43,83,[(1,(.val (.int .i64))),(2,(.ptr 18 []))],[(18,(.var dq (.val dq)))],[]⟩
def QQ:SS:=⟨43,83,[(1,(.val (.int .i64))),(5,(.mp 43))],[(43,(.map (.int .i64) .bool))],[]⟩
def QR:SS:=⟨43,83,[(1,(.val (.int .i64))),(5,(.mp 43)),(29,(.val (.slice 96 fm))),(30,(.val (.int .i64))),(31,(.val (.int .i64)))],[(43,(.map (.int .i64) .bool))],[]⟩
def QS:SS:=⟨43,83,[(4,(.val .bool))],[],[]⟩
def OI:aH:=aB G [.tmp 4] 25 [(.val dq),(.val (.int .i64))] [] 83 QS [] (.bE (fun d=>f25 d.1 d.2.1))
theorem QT:OI.holds Tryz.prog gl:=
 aH.of tied (H:=⟨[(1,⟨[],[],[],some [(26,.bool)],[],[],[]⟩)],[(3,QP),(9,QQ)],[],[(5,⟨QR,fun u4=>Int.toNat u4.2.2.1+1⟩)],[],[]⟩) (hold (l:=[]) trivial) aE rfl Tryz.call25 Tryz.func25 rfl rfl rfl rfl (fun _=>by kernel_rfl) (fun _=>by kernel_rfl)
def f17(a0:Int)(a1:Int):Option Bool:=
 Option.bind (α:=Bool) (if(decide ((0:Int)≤a0))=true then(if(decide (a0<(4096:Int)))=true then(if(decide ((0:Int)≤a1))=true then(some (decide (a1<(4:Int)))) else(some false)) else(some false)) else(some false)) fun v1=>some v1
def QU:SS:=⟨19,59,[(4,(.val .bool))],[],[]⟩
def MV:aH:=aB G [.tmp 4] 17 [(.val (.int .i64)),(.val (.int .i64))] [] 59 QU [] (.bE (fun d=>f17 d.1 d.2.1))
theorem OJ:MV.holds Tryz.prog gl:=
 aH.of tied (H:=⟨[(1,⟨[],[],[],some [(4,.bool)],[],[],[]⟩)],[],[],[],[],[]⟩) (hold (l:=[]) trivial) aE rfl Tryz.call17 Tryz.func17 rfl rfl rfl rfl (fun _=>by kernel_rfl) (fun _=>by kernel_rfl)
def f18(a0:Int)(a1:Int)(a2:Int)(a3:Int):Option aW:=
 some (a0,(a1,(bM ((bM ((16:Int)*a2))+a3),())))
def QV:SS:=⟨16,56,[(8,(.ptr 24 []))],[(24,(.var bC (.val bC)))],[]⟩
def MW:aH:=aB G [.cell 8 39] 18 [(.val (.int .i64)),(.val (.int .i64)),(.val (.int .i64)),(.val (.int .i64))] [] 56 QV [] (.bE (fun d=>f18 d.1 d.2.1 d.2.2.1 d.2.2.2.1))
theorem OL:MW.holds Tryz.prog gl:=
 aH.of tied (H:=⟨[],[],[],[],[],[]⟩) (hold (l:=[]) trivial) aE rfl Tryz.call18 Tryz.func18 rfl rfl rfl rfl (fun _=>by kernel_rfl) (fun _=>by kernel_rfl)
def nP(a0:List aM)(a1:aW)(a2:Int):Option ((List aM)×aW×Int):=
 some (a0,a1,a2)
def QW:SS:=⟨8,48,[(6,(.func 69 .nil (.cons (.ptr 19 []) (.cons (.ptr 20 []) (.cons (.ptr 21 []) .nil)))))],[(19,(.var (.slice 64 aP) (.val (.slice 64 aP)))),(20,(.var bC (.val bC))),(21,(.var (.int .i64) (.val (.int .i64))))],[]⟩
def uG:aH:=aB G [.tmp 6] 44 [(.val (.slice 64 aP)),(.val bC),(.val (.int .i64))] [] 48 QW [19,20,21] (.bE (fun d=>nP d.1 d.2.1 d.2.2.1))
theorem BC:uG.holds Tryz.prog gl:=
 aH.of tied (H:=⟨[],[],[],[],[],[]⟩) (hold (l:=[]) trivial) aE rfl Tryz.call44 Tryz.func44 rfl rfl rfl rfl (fun _=>by kernel_rfl) (fun _=>by kernel_rfl)
def f65(a0:Int):Option Bool:=
 some (!decide (a0=a0))
def QX:SS:=⟨6,46,[(2,(.val .bool))],[],[]⟩
def OM:aH:=aB G [.tmp 2] 65 [(.val (.int .i64))] [] 46 QX [] (.bE (fun d=>f65 d.1))
theorem QY:OM.holds Tryz.prog gl:=
 aH.of tied (H:=⟨[],[],[],[],[],[]⟩) (hold (l:=[]) trivial) aE rfl Tryz.call65 Tryz.func65 rfl rfl rfl rfl (fun _=>by kernel_rfl) (fun _=>by kernel_rfl)
def f42(a0:Int)(a1:Int):Option Int:=
 Option.bind (f65 a0) fun y1=>Option.bind (f65 a1) fun y2=>if y1=true then(if y2=true then(some (0:Int)) else(some (-1:Int))) else(if y2=true then(some (1:Int)) else(if(decide (a0<a1))=true then(some (-1:Int)) else(if(decide (a1<a0))=true then(some (1:Int)) else(some (0:Int)))))
def ON:aH:=aB G [.tmp 4] 42 [(.val (.int .i64)),(.val (.int .i64))] [] 60 OF [] (.bE (fun d=>f42 d.1 d.2.1))
theorem QZ:ON.holds Tryz.prog gl:=
 aH.of tied (H:=⟨[(1,⟨[],[],[⟨[0],[],[],[],[]⟩],none,[],[],[]⟩),(2,⟨[],[],[⟨[0],[],[],[],[]⟩],none,[],[],[]⟩)],[],[],[],[],[]⟩) (hold (l:=[OM]) ⟨QY,trivial⟩) aE rfl Tryz.call42 Tryz.func42 rfl rfl rfl rfl (fun _=>by kernel_rfl) (fun _=>by kernel_rfl)
def uH:Nat→(Int×(List Int)×Int×Int)→Option (ct Int Int):=aL fun Rt ⟨d,c,b,a⟩=>if(decide (a<b))=true then(if 0≤a then(if a<(List.length c:Int) then(if(!decide ((nth (.int .i64) c a)=d))=true then(ei (some (nth (.int .i64) c a))) else(Rt (d,c,b,bM (a+(1:Int))))) else none) else none) else(some (.brk d))
def f41(a0:List Int):Option Int:=
 aG (U:=Int) (uH (Int.toNat (List.length a0:Int)+1) ((0:Int),a0,(List.length a0:Int),(0:Int))) fun v1=>some v1
def Q0:SS:=⟨18,58,[(3,(.val (.int .i64)))],[],[]⟩
def Q1:SS:=⟨18,58,[(3,(.val (.int .i64))),(6,(.val (.slice 8 (.int .i64)))),(7,(.val (.int .i64))),(8,(.val (.int .i64)))],[],[]⟩
def Q2:SS:=⟨18,58,[(2,(.val (.int .i64)))],[],[]⟩
def OO:aH:=aB G [.tmp 2] 41 [(.val (.slice 8 (.int .i64)))] [] 58 Q2 [] (.bE (fun d=>f41 d.1))
theorem Q3:OO.holds Tryz.prog gl:=
 aH.of tied (H:=⟨[],[(8,Q0)],[],[(3,⟨Q1,fun u2=>Int.toNat u2.2.2.1+1⟩)],[],[]⟩) (hold (l:=[]) trivial) aE rfl Tryz.call41 Tryz.func41 rfl rfl rfl rfl (fun _=>by kernel_rfl) (fun _=>by kernel_rfl)
def f21(a0:aM)(a1:aM):Option Int:=
 Option.bind (f42 a0.2.2.2.1 a1.2.2.2.1) fun y1=>Option.bind (f42 a0.2.2.2.2.1 a1.2.2.2.2.1) fun y2=>Option.bind (f41 [y1,y2]) fun y3=>some y3
def Q4:SS:=⟨17,57,[(4,(.val (.int .i64)))],[],[]⟩
def IQ:aH:=aB G [.tmp 4] 21 [(.val aP),(.val aP)] [] 57 Q4 [] (.bE (fun d=>f21 d.1 d.2.1))
theorem JA:IQ.holds Tryz.prog gl:=
 aH.of tied (H:=⟨[(1,⟨[],[],[⟨[0],[],[],[],[]⟩,⟨[0],[],[],[],[]⟩,⟨[1],[],[],[],[]⟩],none,[],[],[]⟩)],[],[],[],[],[]⟩) (hold (l:=[ON,OO]) ⟨QZ,Q3,trivial⟩) aE rfl Tryz.call21 Tryz.func21 rfl rfl rfl rfl (fun _=>by kernel_rfl) (fun _=>by kernel_rfl)
def ll(l_:Nat)(Y_:aM×YC×Nat×Nat×Int×Nat×aM×Nat×Bool×Unit→Option (Bool×YC×Nat×Nat×Int×Nat×aM×Nat×Bool)):Nat→(Nat×(List aM)×Int×Int×YC×Nat×Nat×Int×Nat×aM×Nat×Bool×(List aM)×aW×Int)→Option (ct (YC×Nat×Nat×Int×Nat×aM×Nat×Bool×(List aM)×aW×Int) (YC×Nat×Nat×Int×Nat×aM×Nat×Bool×(List aM)×aW×Int)):=aL fun Rt ⟨o,l,k,j,p,q,r,s,t,u,v,w,x,m,n⟩=>if(decide (j<k))=true then(if 0≤j then(if j<(List.length l:Int) then(if(aO bC ((nth aP l j).1) m)=true then(if(decide ((((((nth aP l j).2).2).2).1)≤n))=true then(if o=l_ then(Option.bind (Y_ (nth aP l j,p,q,r,s,t,u,v,w,())) fun⟨a,b,c,d,e,f,g,h,i⟩=>if(!a)=true then(ei (some (b,c,d,e,f,g,h,i,x,m,n))) else(Rt (o,l,k,bM (j+(1:Int)),b,c,d,e,f,g,h,i,x,m,n))) else none) else(Rt (o,l,k,bM (j+(1:Int)),p,q,r,s,t,u,v,w,x,m,n))) else(Rt (o,l,k,bM (j+(1:Int)),p,q,r,s,t,u,v,w,x,m,n))) else none) else none) else(some (.brk (p,q,r,s,t,u,v,w,x,m,n)))
def uI(l_:Nat)(Y_:aM×YC×Nat×Nat×Int×Nat×aM×Nat×Bool×Unit→Option (Bool×YC×Nat×Nat×Int×Nat×aM×Nat×Bool))(a0:Nat)(a1:YC)(a2:Nat)(a3:Nat)(a4:Int)(a5:Nat)(a6:aM)(a7:Nat)(a8:Bool)(a9:List aM)(R9:aW)(a11:Int):Option (YC×Nat×Nat×Int×Nat×aM×Nat×Bool×(List aM)×aW×Int):=
 aG (U:=YC×Nat×Nat×Int×Nat×aM×Nat×Bool×(List aM)×aW×Int) (ll l_ Y_ (Int.toNat (List.length a9:Int)+1) (a0,a9,(List.length a9:Int),(0:Int),a1,a2,a3,a4,a5,a6,a7,a8,a9,R9,a11)) fun⟨a,b,c,d,e,f,g,h,i,j,k⟩=>some (a,b,c,d,e,f,g,h,i,j,k)
def OP:SS:=⟨30,70,[],[(0,.lp),(1,(.tv (.int .i64) (.val (.int .i64)))),(2,(.tv aP (.val aP))),(3,(.tv .bool (.val .bool))),(4,(.var (.slice 64 aP) (.val (.slice 64 aP)))),(5,(.var bC (.val bC))),(6,(.var (.int .i64) (.val (.int .i64))))],[]⟩
def Q5:SS:=⟨30,70,[(0,.pN),(2,(.ptr 5 [])),(3,(.ptr 6 [])),(7,(.val (.slice 64 aP))),(8,(.val (.int .i64))),(9,(.val (.int .i64)))],[(0,.lp),(1,(.tv (.int .i64) (.val (.int .i64)))),(2,(.tv aP (.val aP))),(3,(.tv .bool (.val .bool))),(4,(.var (.slice 64 aP) (.val (.slice 64 aP)))),(5,(.var bC (.val bC))),(6,(.var (.int .i64) (.val (.int .i64))))],[]⟩
def uJ:IC:=⟨[(.val aP)],[(0,.lp),(1,(.tv (.int .i64) (.val (.int .i64)))),(2,(.tv aP (.val aP))),(3,(.tv .bool (.val .bool)))],90,0,[(1,(.tv (.int .i64) (.val (.int .i64)))),(2,(.tv aP (.val aP))),(3,(.tv .bool (.val .bool)))],fun l f=>aB G [] 69 [.pN,(.ptr 4 []),(.ptr 5 []),(.ptr 6 [])] [(0,.lp),(1,(.tv (.int .i64) (.val (.int .i64)))),(2,(.tv aP (.val aP))),(3,(.tv .bool (.val .bool))),(4,(.var (.slice 64 aP) (.val (.slice 64 aP)))),(5,(.var bC (.val bC))),(6,(.var (.int .i64) (.val (.int .i64))))] 70 OP [0,1,2,3,4,5,6] (.bE (fun d=>uI l f d.1 d.2.1 d.2.2.1 d.2.2.2.1 d.2.2.2.2.1 d.2.2.2.2.2.1 d.2.2.2.2.2.2.1 d.2.2.2.2.2.2.2.1 d.2.2.2.2.2.2.2.2.1 d.2.2.2.2.2.2.2.2.2.1 d.2.2.2.2.2.2.2.2.2.2.1 d.2.2.2.2.2.2.2.2.2.2.2.1))⟩
theorem GK:uJ.holds Tryz.prog gl:=fun B hB l f hY=>
 aH.of tied (H:=⟨[(3,⟨[],[],[⟨[0],[(0,0),(1,1),(2,2),(3,3)],[],[],[]⟩],none,[],[],[]⟩)],[],[(0,OP)],[(1,⟨Q5,fun u2=>Int.toNat u2.2.2.1+1⟩)],[],[]⟩) (hold (l:=[IC.Y uJ l f]) ⟨hY,trivial⟩) aE rfl Tryz.call69 Tryz.func69 rfl rfl rfl rfl (fun _=>by kernel_rfl) (fun _=>by kernel_rfl)
def qO(y_:YC)(b5_0:aM)(yt:YC)(yj:Nat)(g1:Nat)(c5_0:Int)(g2:Nat)(c5_1:aM)(g3:Nat)(c5_2:Bool):Option (Bool×YC×Nat×Nat×Int×Nat×aM×Nat×Bool):=
 zN yt y_ (if yj=0 then(if g1=y_.gs 1 then(if g2=y_.gs 2 then(if g3=y_.gs 3 then(Option.bind (α:=Nat×Nat×Int×Nat×aM×Nat×Bool) (Option.bind (α:=Bool) (if(decide (b5_0.2.2.1.1≤c5_0))=true then(if(decide (c5_0<b5_0.2.2.1.2.1))=true then(if(!c5_2)=true then(some true) else(Option.bind (f21 c5_1 b5_0) fun y3=>some (decide (y3≤(0:Int))))) else(some false)) else(some false)) fun v4=>if v4=true then(some (0,y_.gs 1,c5_0,y_.gs 2,b5_0,y_.gs 3,true)) else(some (0,y_.gs 1,c5_0,y_.gs 2,c5_1,y_.gs 3,c5_2))) fun r_=>if r_.2.1=y_.gs 1 then(if r_.2.2.2.1=y_.gs 2 then(if r_.2.2.2.2.2.1=y_.gs 3 then(some (Nat.beq r_.1 0,y_,r_.1,r_.2.1,r_.2.2.1,r_.2.2.2.1,r_.2.2.2.2.1,r_.2.2.2.2.2.1,r_.2.2.2.2.2.2)) else none) else none) else none) else none) else none) else none) else none)
def f27(a0:List aM)(a1:aW)(a2:Int)(a3:Int):Option (Int×Bool):=
 aG (U:=aM×Bool) (Option.bind (nP a0 a1 a3) fun⟨a,b,c⟩=>oq fun y5=>Option.bind (uI y5.l (fun d=>qO y5 d.1 d.2.1 d.2.2.1 d.2.2.2.1 d.2.2.2.2.1 d.2.2.2.2.2.1 d.2.2.2.2.2.2.1 d.2.2.2.2.2.2.2.1 d.2.2.2.2.2.2.2.2.1) y5.l y5 0 (y5.gs 1) a2 (y5.gs 2) (((0:Int),((0:Int),((0:Int),()))),((0:Int),(((0:Int),((0:Int),())),((0:Int),((0:Int),()))))) (y5.gs 3) false a b c) fun⟨e,f,_,_,_,g,_,h,_,_,_⟩=>zN e y5 (if f=0 then(some (.brk (g,h))) else none)) fun⟨j,i⟩=>Option.bind (α:=Bool) (if(!i)=true then(some true) else(some (decide (j.2.1<(0:Int))))) fun v7=>if v7=true then(some ((0:Int),false)) else(some (j.2.1,true))
def Q6:SS:=⟨50,90,[(10,(.ptr 26 [])),(11,(.ptr 27 []))],[(26,(.var aP (.val aP))),(27,(.var .bool (.val .bool))),(68,.nR)],[(.mp 68)]⟩
def Q7:SS:=⟨50,90,[(6,(.ptr 22 [])),(8,(.val (.int .i64))),(9,(.val .bool)),(10,(.ptr 26 [])),(11,(.ptr 27 [])),(16,(.func 69 .nil (.cons (.ptr 32 []) (.cons (.ptr 66 []) (.cons (.ptr 67 []) .nil)))))],[(22,(.var (.int .i64) (.val (.int .i64)))),(26,(.var aP (.val aP))),(27,(.var .bool (.val .bool))),(32,(.var (.slice 64 aP) (.val (.slice 64 aP)))),(66,(.var bC (.val bC))),(67,(.var (.int .i64) (.val (.int .i64))))],[]⟩
def Q8:SS:=⟨50,90,[],[(1,(.var (.int .i64) (.val (.int .i64)))),(2,(.var aP (.val aP))),(3,(.var .bool (.val .bool)))],[]⟩
def OQ:SS:=⟨50,90,[(8,(.val (.int .i64))),(9,(.val .bool))],[],[]⟩
def Q9:aH:=aB G [.tmp 8,.tmp 9] 27 [(.val (.slice 64 aP)),(.val bC),(.val (.int .i64)),(.val (.int .i64))] [] 90 OQ [] (.bE (fun d=>f27 d.1 d.2.1 d.2.2.1 d.2.2.2.1))
theorem Ra:Q9.holds Tryz.prog gl:=
 aH.of tied (H:=⟨[(3,⟨[],[],[⟨[0],[],[(19,32),(20,66),(21,67)],[],[]⟩],none,[],[],[]⟩),(5,⟨[],[],[⟨[1],[],[],[],[]⟩],some [(39,.bool)],[],[],[]⟩),(7,⟨[],[],[],some [(47,.bool)],[],[],[]⟩)],[(7,Q6)],[],[],[],[(5,⟨0,68,69,[(1,(.int .i64)),(2,aP),(3,.bool)],[(22,1),(26,2),(27,3)],[],[(0,69),(1,22),(2,26),(3,27),(4,32),(5,66),(6,67)],[],Q7,Q8⟩)]⟩) (hold (l:=[uG,IQ]) ⟨BC,JA,trivial⟩) (pE (L:=[uJ]) ⟨GK,trivial⟩) rfl Tryz.call27 Tryz.func27 rfl rfl rfl rfl (fun _=>by kernel_rfl) (fun _=>by kernel_rfl)
end Go.Proofs.YtadeibjelmcdgaaGreat
