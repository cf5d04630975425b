/- Made by program (dec6.py): walks -/
import Derived.Test.YtadeibjelmcdgaaGreatUO
import Derived.Test.YtadeibjelmcdgaaGreatY1
noncomputable section
namespace Go.Proofs.YtadeibjelmcdgaaGreat
open Go.Ax
def f53(a0:dr):Option ((List Int)×Bool×Int):=
 Option.bind (f86 a0) fun⟨a,b⟩=>if(!decide (a=(0:Int)))=true then none else(Option.bind (Bz b) fun y2=>Option.bind (mA y2) fun y3=>if(decide ((List.length y3:Int)<b.1))=true then none else(some (y3,true,(0:Int))))
def Kx:SS:=⟨23,63,[(2,(.val (.slice 8 (.int .i64)))),(3,(.val .bool)),(4,(.val (.int .i64)))],[],[]⟩
def Jv:aH:=aB G [.tmp 2,.tmp 3,.tmp 4] 53 [(.val dq)] [] 63 Kx [] (.bE (fun d=>f53 d.1))
theorem Ky:Jv.holds Tryz.prog gl:=
 aH.of tied (H:=⟨[(1,⟨[],[],[⟨[0],[],[],[],[]⟩],none,[],[],[]⟩),(3,⟨[],[],[],none,[(0,9999)],[],[]⟩),(4,⟨[],[(2,15,(.aK .func))],[⟨[1],[],[(17,31)],[],[]⟩,⟨[2],[],[],[],[]⟩],none,[],[],[]⟩),(6,⟨[],[],[],none,[(0,9999)],[],[]⟩)],[],[],[],[],[]⟩) (hold (l:=[Oy,BA,wj]) ⟨QI,GG,DA,trivial⟩) aE rfl Tryz.call53 Tryz.func53 rfl rfl rfl rfl (fun _=>by kernel_rfl) (fun _=>by kernel_rfl)
def f83(a0:dr):Option Int:=
 Option.bind (f49 a0) fun y1=>if(!decide (y1=(0:Int)))=true then none else(Option.bind (f53 a0) fun⟨_,b,a⟩=>if(!decide (a=(0:Int)))=true then none else(if(!b)=true then none else(some (0:Int))))
def Kz:SS:=⟨22,62,[(2,(.val (.int .i64)))],[],[]⟩
def N1:aH:=aB G [.tmp 2] 83 [(.val dq)] [] 62 Kz [] (.bE (fun d=>f83 d.1))
theorem Pd:N1.holds Tryz.prog gl:=
 aH.of tied (H:=⟨[(1,⟨[],[],[⟨[0],[],[],[],[]⟩],none,[],[],[]⟩),(3,⟨[],[],[],none,[(0,9999)],[],[]⟩),(4,⟨[],[],[⟨[1],[],[],[],[]⟩],none,[],[],[]⟩),(6,⟨[],[],[],none,[(0,9999)],[],[]⟩),(8,⟨[],[],[],none,[(0,9999)],[],[]⟩)],[],[],[],[],[]⟩) (hold (l:=[L9,Jv]) ⟨Ov,Ky,trivial⟩) aE rfl Tryz.call83 Tryz.func83 rfl rfl rfl rfl (fun _=>by kernel_rfl) (fun _=>by kernel_rfl)
def yO:Nat→((List Int)×Int×(List Int)×Int×Int×(List (Int×Bool)))→Option (ct ((List Int)×Int×(List (Int×Bool))) (Bool×(List (Int×Bool)))):=aL fun Rt ⟨e,f,c,b,a,d⟩=>if(decide (a<b))=true then(if 0≤a then(if a<(List.length c:Int) then(if(cI (.int .i64) .bool (nth (.int .i64) c a) d)=true then none else(if List.length d+1≤aF then(Rt (e,f,c,b,bM (a+(1:Int)),cj (.int .i64) (nth (.int .i64) c a) true d)) else none)) else none) else none) else(some (.brk (e,f,d)))
def Ay(a0:List Int)(a1:Int)(a2:List (Int×Bool)):Option (Bool×(List (Int×Bool))):=
 aG (U:=(List Int)×Int×(List (Int×Bool))) (yO (Int.toNat (List.length a0:Int)+1) (a0,a1,a0,(List.length a0:Int),(0:Int),a2)) fun⟨a,b,c⟩=>some (decide ((List.length a:Int)=b),c)
def KA:SS:=⟨25,65,[(1,(.val (.slice 8 (.int .i64)))),(2,(.val (.int .i64)))],[(0,(.map (.int .i64) .bool))],[]⟩
def KB:SS:=⟨25,65,[(0,(.mp 0)),(1,(.val (.slice 8 (.int .i64)))),(2,(.val (.int .i64))),(9,(.val (.slice 8 (.int .i64)))),(10,(.val (.int .i64))),(11,(.val (.int .i64)))],[(0,(.map (.int .i64) .bool))],[]⟩
def KC:SS:=⟨25,65,[(6,(.val .bool))],[(0,(.map (.int .i64) .bool))],[]⟩
def Az:aH:=aB G [.tmp 6] 84 [(.mp 0),(.val (.slice 8 (.int .i64))),(.val (.int .i64))] [(0,(.map (.int .i64) .bool))] 65 KC [0] (.bE (fun d=>Ay d.1 d.2.1 d.2.2.1))
theorem FX:Az.holds Tryz.prog gl:=
 aH.of tied (H:=⟨[(5,⟨[],[],[],none,[(0,9999)],[],[]⟩)],[(8,KA)],[],[(2,⟨KB,fun u2=>Int.toNat u2.2.2.2.1+1⟩)],[],[]⟩) (hold (l:=[]) trivial) aE rfl Tryz.call84 Tryz.func84 rfl rfl rfl rfl (fun _=>by kernel_rfl) (fun _=>by kernel_rfl)
def f51(a0:dr):Option Int:=
 Option.bind (f83 a0) fun y1=>if(!decide (y1=(0:Int)))=true then none else(Option.bind (f53 a0) fun⟨c,b,a⟩=>if(!decide (a=(0:Int)))=true then none else(if(!b)=true then none else(Option.bind (Ay c (List.length a0.2.2.1:Int) ([]:List (Int×Bool))) fun⟨d,_⟩=>if(!d)=true then none else(some (0:Int)))))
def KD:SS:=⟨31,71,[(2,(.val (.int .i64)))],[],[]⟩
def N2:aH:=aB G [.tmp 2] 51 [(.val dq)] [] 71 KD [] (.bE (fun d=>f51 d.1))
theorem Pe:N2.holds Tryz.prog gl:=
 aH.of tied (H:=⟨[(1,⟨[],[],[⟨[0],[],[],[],[]⟩],none,[],[],[]⟩),(3,⟨[],[],[],none,[(0,9999)],[],[]⟩),(4,⟨[],[],[⟨[1],[],[],[],[]⟩],none,[],[],[]⟩),(6,⟨[],[],[],none,[(0,9999)],[],[]⟩),(7,⟨[],[],[⟨[2],[(0,39)],[],[],[]⟩],none,[],[],[]⟩),(8,⟨[],[],[],none,[(0,9999)],[],[]⟩)],[],[],[],[],[]⟩) (hold (l:=[N1,Jv,Az]) ⟨Pd,Ky,FX,trivial⟩) aE rfl Tryz.call51 Tryz.func51 rfl rfl rfl rfl (fun _=>by kernel_rfl) (fun _=>by kernel_rfl)
def FY:Nat→((List eW)×Int×Int×dr)→Option (ct Unit Int):=aL fun _Rt ⟨_,b,a,_⟩=>if(decide (a<b))=true then none else(some (.brk ()))
def f52(a0:dr):Option Int:=
 aG (U:=Unit) (FY (Int.toNat (List.length a0.2.2.2.2.1:Int)+1) (a0.2.2.2.2.1,(List.length a0.2.2.2.2.1:Int),(0:Int),a0)) fun _v1=>some (0:Int)
def KE:SS:=⟨17,57,[],[],[]⟩
def KF:SS:=⟨17,57,[(1,(.ptr 17 [])),(6,(.val (.slice 72 fR))),(7,(.val (.int .i64))),(8,(.val (.int .i64)))],[(17,(.var dq (.val dq)))],[]⟩
def KG:SS:=⟨17,57,[(2,(.val (.int .i64)))],[],[]⟩
def N3:aH:=aB G [.tmp 2] 52 [(.val dq)] [] 57 KG [] (.bE (fun d=>f52 d.1))
theorem Pf:N3.holds Tryz.prog gl:=
 aH.of tied (H:=⟨[(3,⟨[],[],[],none,[(0,9999)],[],[]⟩)],[(7,KE)],[],[(2,⟨KF,fun u2=>Int.toNat u2.2.1+1⟩)],[],[]⟩) (hold (l:=[]) trivial) aE rfl Tryz.call52 Tryz.func52 rfl rfl rfl rfl (fun _=>by kernel_rfl) (fun _=>by kernel_rfl)
def f32(a0:dr):Option (Int×BB):=
 aG (U:=dr) (Option.bind (f48 a0) fun y2=>if(!decide (y2=(0:Int)))=true then none else(Option.bind (f49 a0) fun y3=>if(!decide (y3=(0:Int)))=true then none else(Option.bind (f50 a0) fun y4=>if(!decide (y4=(0:Int)))=true then none else(Option.bind (f51 a0) fun y5=>if(!decide (y5=(0:Int)))=true then none else(Option.bind (f52 a0) fun y6=>if(!decide (y6=(0:Int)))=true then none else(some (.brk a0))))))) fun v1=>Option.bind (f53 v1) fun⟨b,_,a⟩=>if(!decide (a=(0:Int)))=true then none else(some ((0:Int),(v1,(b,()))))
def KH:SS:=⟨36,76,[(1,(.ptr 17 [])),(2,(.ptr 18 []))],[(17,(.var dq (.val dq))),(18,(.var zM (.cons (.cons .aS (.cons .aS (.cons .aS (.cons .aS (.cons .aS (.cons .aS .nil)))))) (.cons .aS .nil))))],[]⟩
def KI:SS:=⟨36,76,[(2,(.ptr 18 [])),(3,(.val (.int .i64)))],[(18,(.var zM (.val zM)))],[]⟩
def N4:aH:=aB G [.cell 2 32,.tmp 3] 32 [(.val dq)] [] 76 KI [] (.bE (fun d=>f32 d.1))
theorem Pg:N4.holds Tryz.prog gl:=
 aH.of tied (H:=⟨[(5,⟨[],[],[⟨[4,3,2,1,0],[],[],[],[]⟩],none,[],[],[]⟩),(7,⟨[],[],[],none,[(0,9999)],[],[]⟩),(9,⟨[],[],[⟨[5],[],[],[],[]⟩],none,[],[],[]⟩),(11,⟨[],[],[],none,[(0,9999)],[],[]⟩)],[(9,KH)],[],[],[(3,12)],[]⟩) (hold (l:=[Oq,L9,Ox,N2,N3,Jv]) ⟨QD,Ov,QH,Pe,Pf,Ky,trivial⟩) aE rfl Tryz.call32 Tryz.func32 rfl rfl rfl rfl (fun _=>by kernel_rfl) (fun _=>by kernel_rfl)
def FZ:Nat→((List Int)×(List Int)×Int×Int)→Option (ct Unit Bool):=aL fun Rt ⟨c,d,b,a⟩=>if(decide (a<b))=true then(if 0≤a then(if a<(List.length c:Int) then(if 0≤a then(if a<(List.length d:Int) then(if(!decide ((nth (.int .i64) c a)=(nth (.int .i64) d a)))=true then none else(Rt (c,d,b,bM (a+(1:Int))))) else none) else none) else none) else none) else(some (.brk ()))
def f55(a0:List Int)(a1:List Int):Option Bool:=
 if(!decide ((List.length a0:Int)=(List.length a1:Int)))=true then none else(aG (U:=Unit) (FZ (Int.toNat (List.length a0:Int)+1) (a0,a1,(List.length a0:Int),(0:Int))) fun _v1=>some true)
def KJ:SS:=⟨26,66,[],[],[]⟩
def KK:SS:=⟨26,66,[(0,(.val (.slice 8 (.int .i64)))),(1,(.val (.slice 8 (.int .i64)))),(12,(.val (.int .i64))),(13,(.val (.int .i64)))],[],[]⟩
def KL:SS:=⟨26,66,[(4,(.val .bool))],[],[]⟩
def N5:aH:=aB G [.tmp 4] 55 [(.val (.slice 8 (.int .i64))),(.val (.slice 8 (.int .i64)))] [] 66 KL [] (.bE (fun d=>f55 d.1 d.2.1))
theorem Ph:N5.holds Tryz.prog gl:=
 aH.of tied (H:=⟨[(2,⟨[],[],[],none,[(0,9999)],[],[]⟩),(7,⟨[],[],[],none,[(0,9999)],[],[]⟩)],[(9,KJ)],[],[(4,⟨KK,fun u2=>Int.toNat u2.2.2.1+1⟩)],[],[]⟩) (hold (l:=[]) trivial) aE rfl Tryz.call55 Tryz.func55 rfl rfl rfl rfl (fun _=>by kernel_rfl) (fun _=>by kernel_rfl)
def f33(a0:BB)(a1:BB):Option Bool:=
 Option.bind (α:=Bool) (Option.bind (f54 a0.1 a1.1) fun y1=>if y1=true then(Option.bind (f55 a0.2.1 a1.2.1) fun y2=>some y2) else(some false)) fun v3=>some v3
def KM:SS:=⟨17,57,[(4,(.val .bool))],[],[]⟩
def N6:aH:=aB G [.tmp 4] 33 [(.val zM),(.val zM)] [] 57 KM [] (.bE (fun d=>f33 d.1 d.2.1))
theorem Pj:N6.holds Tryz.prog gl:=
 aH.of tied (H:=⟨[(1,⟨[],[],[⟨[0],[],[],[],[]⟩,⟨[1],[],[],[],[]⟩],some [(4,.bool)],[],[],[]⟩)],[],[],[],[],[]⟩) (hold (l:=[LC,N5]) ⟨Oo,Ph,trivial⟩) aE rfl Tryz.call33 Tryz.func33 rfl rfl rfl rfl (fun _=>by kernel_rfl) (fun _=>by kernel_rfl)
def f14(a0:BB):Option Int:=
 Option.bind (f32 a0.1) fun⟨a,b⟩=>Option.bind (α:=Bool) (if(!decide (a=(0:Int)))=true then(some true) else(Option.bind (f33 b a0) fun y2=>some (!y2))) fun v3=>if v3=true then none else(some (0:Int))
def KN:SS:=⟨18,58,[(2,(.val (.int .i64)))],[],[]⟩
def KO:aH:=aB G [.tmp 2] 14 [(.val zM)] [] 58 KN [] (.bE (fun d=>f14 d.1))
theorem N7:KO.holds Tryz.prog gl:=
 aH.of tied (H:=⟨[(1,⟨[],[],[⟨[0],[],[],[],[]⟩],none,[],[],[]⟩),(2,⟨[],[],[⟨[1],[],[],[],[]⟩],some [(17,.bool)],[],[],[]⟩),(3,⟨[],[],[],none,[(0,9999)],[],[]⟩)],[],[],[],[],[]⟩) (hold (l:=[N4,N6]) ⟨Pg,Pj,trivial⟩) aE rfl Tryz.call14 Tryz.func14 rfl rfl rfl rfl (fun _=>by kernel_rfl) (fun _=>by kernel_rfl)
def AA(a0:Int)(a1:Int)(a2:IP):Option (IP×bH×(Option (List (aW×(List aM))))×Int×Int×Bool×(Option (List (Int×Bool)))×Unit×(List (aW×bJ))×(List (aT×Bool))×(List aT)):=
 some (a2,a2.1,a2.2.1,a0,a1,a2.2.2.2.2.1,a2.2.2.2.2.2.1,a2.2.2.2.2.2.2.2.2.2,([]:List (aW×bJ)),([]:List (aT×Bool)),([]:List aT))
def KQ:SS:=⟨20,60,[(6,(.ptr 23 []))],[(0,(.var cF (.val cF))),(23,(.var cF (.cons (.val bS) (.cons (.val (.map bC (.slice 64 aP))) (.cons (.val (.int .i64)) (.cons (.val (.int .i64)) (.cons (.val .bool) (.cons (.val (.map (.int .i64) .bool)) (.cons (.mp 32) (.cons (.mp 33) (.cons (.own 36) (.val .unit)))))))))))),(32,(.map bC cE)),(33,(.map bw .bool)),(36,(.row 83 40 bw))],[]⟩
def AB:aH:=aB G [.tmp 6] 36 [(.ptr 0 []),(.val (.int .i64)),(.val (.int .i64))] [(0,(.var cF (.val cF)))] 60 KQ [0,23,32,33,36] (.bE (fun d=>AA d.1 d.2.1 d.2.2.1))
theorem F0:AB.holds Tryz.prog gl:=
 aH.of tied (H:=⟨[(3,⟨[.oC 23 [.cB 8] 36 83 40 bw],[],[],none,[],[],[]⟩)],[],[],[],[],[]⟩) (hold (l:=[]) trivial) aE rfl Tryz.call36 Tryz.func36 rfl rfl rfl rfl (fun _=>by kernel_rfl) (fun _=>by kernel_rfl)
def yP:Nat→(Int×Int×(List aM)×Int×Int×bH×(List (aW×(List aM)))×(List (Int×Bool))×bH×Int×Int×Bool)→Option (ct (Int×Int×bH×(List (aW×(List aM)))×(List (Int×Bool))×bH×Int×Int×Bool) (bH×(Option (List (aW×(List aM))))×Int×Int×Bool×(Option (List (Int×Bool)))×Unit×(List (aW×bJ))×(List (aT×Bool))×(List aT))):=aL fun Rt ⟨e,f,c,b,a,g,d,h,i,j,k,l⟩=>if(decide (a<b))=true then(if 0≤a then(if a<(List.length c:Int) then(if aO bC ((nth aP c a).1) ((nth aP c a).1)=true then(if List.length d+1≤aF then(if(List.length (cI bC (.slice 64 aP) ((nth aP c a).1) d)+List.length [nth aP c a])*64≤aF then(Rt (e,f,c,b,bM (a+(1:Int)),g,cj bC ((nth aP c a).1) ((cI bC (.slice 64 aP) ((nth aP c a).1) d)++[nth aP c a]) (cj bC ((nth aP c a).1) (Ty.bL (.slice 64 aP)) d),h,i,j,k,l)) else none) else none) else none) else none) else none) else(some (.brk (e,f,g,d,h,i,j,k,l)))
def yQ:Nat→(Int×Int×(List ix)×Int×Int×(List (aW×(List aM)))×(List (Int×Bool))×bH×Int×Int×Bool)→Option (ct (Int×Int×(List (aW×(List aM)))×(List (Int×Bool))×bH×Int×Int×Bool) (bH×(Option (List (aW×(List aM))))×Int×Int×Bool×(Option (List (Int×Bool)))×Unit×(List (aW×bJ))×(List (aT×Bool))×(List aT))):=aL fun _rec6 ⟨c,d,_,b,a,e,f,g,h,i,j⟩=>if(decide (a<b))=true then none else(some (.brk (c,d,e,f,g,h,i,j)))
def AD(a0:bH)(a1:Int)(a2:Int)(a3:Bool):Option (bH×(Option (List (aW×(List aM))))×Int×Int×Bool×(Option (List (Int×Bool)))×Unit×(List (aW×bJ))×(List (aT×Bool))×(List aT)):=
 aG (U:=Int×Int×bH×(List (aW×(List aM)))×(List (Int×Bool))×bH×Int×Int×Bool) (yP (Int.toNat (List.length a0.2.1:Int)+1) (a1,a2,a0.2.1,(List.length a0.2.1:Int),(0:Int),a0,([]:List (aW×(List aM))),([]:List (Int×Bool)),a0,(0:Int),(0:Int),a3)) fun⟨b,c,a,d,e,f,g,h,i⟩=>aG (U:=Int×Int×(List (aW×(List aM)))×(List (Int×Bool))×bH×Int×Int×Bool) (yQ (Int.toNat (List.length a.1.1.2.2.2.1:Int)+1) (b,c,a.1.1.2.2.2.1,(List.length a.1.1.2.2.2.1:Int),(0:Int),d,e,f,g,h,i)) fun⟨j,k,m,q,l,n,o,p⟩=>Option.bind (AA j k (l,(some m,(n,(o,(p,(some q,((none:Option (List (aW×bJ))),((none:Option (List (aT×Bool))),(([]:List aT),())))))))))) fun⟨_,r,s,t,u,v,w,x,y,z,aa⟩=>some (r,s,t,u,v,w,x,y,z,aa)
def KR:SS:=⟨60,100,[(1,(.val (.int .i64))),(2,(.val (.int .i64))),(4,(.ptr 20 [])),(9,(.ptr 35 []))],[(20,(.var bS (.val bS))),(31,(.pmap bC (.slice 64 aP) 43)),(33,(.map (.int .i64) .bool)),(35,(.var cF (.cons (.val bS) (.cons (.mp 31) (.cons (.val (.int .i64)) (.cons (.val (.int .i64)) (.cons (.val .bool) (.cons (.mp 33) (.cons .cO (.cons .cO (.cons .aS .nil)))))))))))],[]⟩
def KT:SS:=⟨60,100,[(1,(.val (.int .i64))),(2,(.val (.int .i64))),(9,(.ptr 35 []))],[(31,(.map bC (.slice 64 aP))),(33,(.map (.int .i64) .bool)),(35,(.var cF (.cons (.val bS) (.cons (.mp 31) (.cons (.val (.int .i64)) (.cons (.val (.int .i64)) (.cons (.val .bool) (.cons (.mp 33) (.cons .cO (.cons .cO (.cons .aS .nil)))))))))))],[]⟩
def KU:SS:=⟨60,100,[(1,(.val (.int .i64))),(2,(.val (.int .i64))),(4,(.ptr 20 [])),(9,(.ptr 35 [])),(21,(.val (.slice 64 aP))),(22,(.val (.int .i64))),(23,(.val (.int .i64)))],[(20,(.var bS (.val bS))),(31,(.pmap bC (.slice 64 aP) 43)),(33,(.map (.int .i64) .bool)),(35,(.var cF (.cons (.val bS) (.cons (.mp 31) (.cons (.val (.int .i64)) (.cons (.val (.int .i64)) (.cons (.val .bool) (.cons (.mp 33) (.cons .cO (.cons .cO (.cons .aS .nil)))))))))))],[]⟩
def KV:SS:=⟨60,100,[(1,(.val (.int .i64))),(2,(.val (.int .i64))),(9,(.ptr 35 [])),(43,(.val (.slice 96 fm))),(44,(.val (.int .i64))),(45,(.val (.int .i64)))],[(31,(.map bC (.slice 64 aP))),(33,(.map (.int .i64) .bool)),(35,(.var cF (.cons (.val bS) (.cons (.mp 31) (.cons (.val (.int .i64)) (.cons (.val (.int .i64)) (.cons (.val .bool) (.cons (.mp 33) (.cons .cO (.cons .cO (.cons .aS .nil)))))))))))],[]⟩
def KW:SS:=⟨60,100,[(8,(.ptr 75 []))],[(75,(.var cF (.cons (.val bS) (.cons (.val (.map bC (.slice 64 aP))) (.cons (.val (.int .i64)) (.cons (.val (.int .i64)) (.cons (.val .bool) (.cons (.val (.map (.int .i64) .bool)) (.cons (.mp 76) (.cons (.mp 77) (.cons (.own 78) (.val .unit)))))))))))),(76,(.map bC cE)),(77,(.map bw .bool)),(78,(.row 83 40 bw))],[]⟩
def AE:aH:=aB G [.tmp 8] 34 [(.val bS),(.val (.int .i64)),(.val (.int .i64)),(.val .bool)] [] 100 KW [75,76,77,78] (.bE (fun d=>AD d.1 d.2.1 d.2.2.1 d.2.2.2.1))
theorem F1:AE.holds Tryz.prog gl:=
 aH.of tied (H:=⟨[(2,⟨[.Cs 31 43],[],[],none,[],[],[]⟩),(5,⟨[],[],[],none,[],[.map 2 31 76 (.c 11 [.cB 0]),.dc 31],[.mP 31,.jJ 31]⟩),(7,⟨[.zO 31],[],[],none,[],[],[]⟩),(9,⟨[],[],[],none,[(0,9999)],[],[]⟩),(12,⟨[.freeze 31 (.map bC (.slice 64 aP)),.freeze 33 (.map (.int .i64) .bool),.uf 35],[],[⟨[0],[(0,35)],[(23,75),(32,76),(33,77),(36,78)],[],[]⟩],none,[],[],[]⟩)],[(7,KR),(12,KT)],[],[(3,⟨KU,fun u2=>Int.toNat u2.2.2.2.1+1⟩),(8,⟨KV,fun u5=>Int.toNat u5.2.2.2.1+1⟩)],[],[]⟩) (hold (l:=[AB]) ⟨F0,trivial⟩) aE rfl Tryz.call34 Tryz.func34 rfl rfl rfl rfl (fun _=>by kernel_rfl) (fun _=>by kernel_rfl)
def AF(a0:List (Int×Bool)):Option (List (Int×Bool)):=
 some a0
def KX:SS:=⟨4,44,[(2,(.func 100 .nil (.cons (.ptr 17 []) .nil)))],[(0,(.map (.int .i64) .bool)),(17,(.var (.map (.int .i64) .bool) (.mp 0)))],[]⟩
def AG:aH:=aB G [.tmp 2] 57 [(.mp 0)] [(0,(.map (.int .i64) .bool))] 44 KX [0,17] (.bE (fun d=>AF d.1))
theorem F2:AG.holds Tryz.prog gl:=
 aH.of tied (H:=⟨[],[],[],[],[],[]⟩) (hold (l:=[]) trivial) aE rfl Tryz.call57 Tryz.func57 rfl rfl rfl rfl (fun _=>by kernel_rfl) (fun _=>by kernel_rfl)
def tE(a0:List (Int×Bool)):Option ((List (Int×Bool))×(List Int)):=
 Option.map (fun r=>(a0,r)) (sU a0)
def H6:SS:=⟨9,49,[(2,(.own 23))],[(0,(.var (.map (.int .i64) .bool) (.mp 1))),(1,(.map (.int .i64) .bool)),(23,(.row 3 8 (.int .i64)))],[]⟩
def F3:aH:=aB G [.tmp 2] 56 [(.func 100 .nil (.cons (.ptr 0 []) .nil))] [(0,(.var (.map (.int .i64) .bool) (.mp 1))),(1,(.map (.int .i64) .bool))] 49 H6 [0,1,23] (.bE (fun d=>tE d.1))
theorem F4:F3.holds Tryz.prog gl:=
 ⟨fun d y h=>by
  obtain⟨r,hr,rfl⟩:=Option.map_eq_some_iff.1 (show Option.map _ (sU d.1)=some y from h)
  exact cast (by kernel_rfl) (EL (tv:=(.map (.int .i64) .bool)) Jd EO Hd (show¬gl.md from fun h=>h) Tryz.call56 Tryz.call99 Tryz.call100 (by exact hr) 49 23 (by decide) (by decide) (by decide)),fun _ _ h=>h.elim⟩
end Go.Proofs.YtadeibjelmcdgaaGreat
