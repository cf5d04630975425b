/- Made by program (dec.py): walks -/
import Derived.Test.YtjabllhapfphoaaGreatDoorE1
namespace Go.Proofs.YtjabllhapfphoaaGreatDoor
open Go.Abs
def jB(a0:cI):Nat→Int→(List AB)→Option (List AB)
 |0,_,_=>none
 |n1+1,u1_0,u1_1=>if(decide (u1_0<(List.length a0.2.2.2.2.1:Int)))=true then(if 0≤u1_0∧u1_0<(List.length a0.2.2.2.2.1:Int) then(Option.bind (f30 (((((((nth a8 a0.2.2.2.2.1 u1_0).2).2).2).2).2).1)) fun y3=>Option.bind (f30 ((((((((nth a8 a0.2.2.2.2.1 u1_0).2).2).2).2).2).2).1)) fun y5=>if(List.length u1_1+List.length [((nth a8 a0.2.2.2.2.1 u1_0).1,(((nth a8 a0.2.2.2.2.1 u1_0).2).1,((((nth a8 a0.2.2.2.2.1 u1_0).2).2).1,(((((nth a8 a0.2.2.2.2.1 u1_0).2).2).2).1,(y3,(y5,(((((((((nth a8 a0.2.2.2.2.1 u1_0).2).2).2).2).2).2).2).1,())))))))])*88≤az then(jB a0 n1 (aP (u1_0+(1:Int))) (u1_1++[((nth a8 a0.2.2.2.2.1 u1_0).1,(((nth a8 a0.2.2.2.2.1 u1_0).2).1,((((nth a8 a0.2.2.2.2.1 u1_0).2).2).1,(((((nth a8 a0.2.2.2.2.1 u1_0).2).2).2).1,(y3,(y5,(((((((((nth a8 a0.2.2.2.2.1 u1_0).2).2).2).2).2).2).2).1,())))))))])) else none) else none) else(some u1_1)
def f10(a0:cI):Option AD:=
 Option.bind (jB a0 (List.length a0.2.2.2.2.1+1) (0:Int) ([]:List AB)) fun(o1:List AB)=>some (a0.1,(a0.2.1,(a0.2.2.1,(a0.2.2.2.1,(o1,())))))
set_option maxRecDepth 100000 in
theorem pn(a0:cI)(r:AD)(h:f10 a0=some r):Fc Tryz.prog gl 10 [(.val aI a0)] (aj (List.replicate 85 none) []) (.ret (.val ej r)) (aq 85 []):=by
 refine Fc.of Tryz.call10 (bz.aD tied Tryz.func10 rfl rfl (σ0:=ar 45 85 [(0,(.val aI a0))] []) (by kernel_rfl) ?_)
 unfold f10 at h
 refine aa.af tied [] [] [] [] (by kernel_rfl) trivial ?_
 refine aa.af tied [] [] [] [] (by kernel_rfl) trivial ?_
 obtain⟨o1,h1,h⟩:=bind_some h
 refine aa.ba (fun σ'=>σ'=ar 45 85 [(2,(.ptr 18 []))] [(18,some (.var ej (.cons (.val (.int .i64) a0.1) (.cons (.val (.int .i64) a0.2.1) (.cons (.val ao a0.2.2.1) (.cons (.val ao a0.2.2.2.1) (.cons (.own 62) .nil))))))),(62,some (.row 73 88 dc o1))]) ?_ ?_
 ·refine aa.af tied [] [] [] [] (by kernel_rfl) trivial ?_
  refine aa.block ?_
  refine aa.aB (fun n σ=>∃(u1_0:Int)(u1_1:List AB),jB a0 n u1_0 u1_1=some o1∧σ=ar 45 85 [(2,(.ptr 18 [])),(15,(.val (.slice 176 a8) a0.2.2.2.2.1)),(16,(.val (.int .i64) (List.length a0.2.2.2.2.1:Int))),(17,(.val (.int .i64) u1_0))] [(18,some (.var ej (.cons (.val (.int .i64) a0.1) (.cons (.val (.int .i64) a0.2.1) (.cons (.val ao a0.2.2.1) (.cons (.val ao a0.2.2.2.1) (.cons (.own 61) .nil))))))),(61,some (.row 73 88 dc u1_1))]) [.an [2,15,16,17] [18],.rk 18 [.fc 4] 61 73 88 dc] (by kernel_rfl) ⟨_,_,h1,rfl⟩ ?_
  rintro n1 _ ⟨u1_0,u1_1,h3,rfl⟩
  cases n1 with
  |zero=>exact absurd h3 (by simp[jB])
  |
   succ n1=>
   unfold jB at h3
   refine aa.af tied [] [] [] [] (by kernel_rfl) trivial ?_
   refine aa.seq ?_
   rcases ae h3 with⟨hc8,h3⟩|⟨hc8,h3⟩
   ·refine aa.aE (b:=decide (u1_0<(List.length a0.2.2.2.2.1:Int))) (by kernel_rfl) hc8 ?_
    refine aa.skip ?_
    change aa _ _ _ _ _
    refine aa.seq ?_
    refine aa.block ?_
    obtain⟨hv2,h3⟩:=ah h3
    refine aa.af tied [] [] [] [0≤u1_0,u1_0<(List.length a0.2.2.2.2.1:Int)] (by kernel_rfl) ⟨hv2.1,hv2.2,trivial⟩ ?_
    obtain⟨y3,hy4,h3⟩:=bind_some h3
    obtain⟨y5,hy6,h3⟩:=bind_some h3
    obtain⟨hv7,h3⟩:=ah h3
    refine aa.gk tied [⟨(.val (.slice 8 (.int .i64)) y3),[],[],[],48⟩,⟨(.val (.slice 8 (.int .i64)) y5),[],[],[],48⟩] [] [] [Fc Tryz.prog gl 30 [(.val (.slice 8 (.int .i64)) (((((((nth a8 a0.2.2.2.2.1 u1_0).2).2).2).2).2).1))] (aj (List.replicate 48 none) []) (.ret (.val (.slice 8 (.int .i64)) y3)) (aq 48 []),Fc Tryz.prog gl 30 [(.val (.slice 8 (.int .i64)) ((((((((nth a8 a0.2.2.2.2.1 u1_0).2).2).2).2).2).2).1))] (aj (List.replicate 48 none) []) (.ret (.val (.slice 8 (.int .i64)) y5)) (aq 48 []),(List.length u1_1+List.length [((nth a8 a0.2.2.2.2.1 u1_0).1,(((nth a8 a0.2.2.2.2.1 u1_0).2).1,((((nth a8 a0.2.2.2.2.1 u1_0).2).2).1,(((((nth a8 a0.2.2.2.2.1 u1_0).2).2).2).1,(y3,(y5,(((((((((nth a8 a0.2.2.2.2.1 u1_0).2).2).2).2).2).2).2).1,())))))))])*88≤az] (by kernel_rfl) ⟨IM _ _ hy4,IM _ _ hy6,hv7,trivial⟩ ?_
    refine bN ?_
    change aa _ _ _ _ _
    refine aa.br tied [] [] [] [] (by kernel_rfl) trivial ?_
    exact aB.mk [.an [2,15,16,17] [18,57],.iN 57 61] (by kernel_rfl) ⟨_,_,h3,rfl⟩
   ·refine aa.aF (b:=decide (u1_0<(List.length a0.2.2.2.2.1:Int))) (by kernel_rfl) hc8 ?_
    refine aa.exit ?_
    refine tE ?_
    refine lE ?_
    refine bE ?_
    obtain rfl:=Option.some.inj h3
    exact jQ.mk [.an [2] [18,61],.iN 61 62] (by kernel_rfl) rfl
 ·rintro _ rfl
  refine aa.af tied [] [] [] [] (by kernel_rfl) trivial ?_
  refine aa.ret ?_
  obtain rfl:=Option.some.inj h
  exact(au [.freeze 62 (.slice 88 dc)] [some ej] (cq 85 []) (by kernel_rfl)).1
def jC(a0:cI):Nat→Int→(List AB)→Option (List AB)
 |0,_,_=>none
 |n1+1,u1_0,u1_1=>if(decide (u1_0<(List.length a0.2.2.2.2.1:Int)))=true then(if 0≤u1_0∧u1_0<(List.length a0.2.2.2.2.1:Int) then(if(List.length u1_1+List.length [((nth a8 a0.2.2.2.2.1 u1_0).1,(((nth a8 a0.2.2.2.2.1 u1_0).2).1,((((nth a8 a0.2.2.2.2.1 u1_0).2).2).1,(((((nth a8 a0.2.2.2.2.1 u1_0).2).2).2).1,(((((((nth a8 a0.2.2.2.2.1 u1_0).2).2).2).2).2).1,((((((((nth a8 a0.2.2.2.2.1 u1_0).2).2).2).2).2).2).1,(((((((((nth a8 a0.2.2.2.2.1 u1_0).2).2).2).2).2).2).2).1,())))))))])*88≤az then(jC a0 n1 (aP (u1_0+(1:Int))) (u1_1++[((nth a8 a0.2.2.2.2.1 u1_0).1,(((nth a8 a0.2.2.2.2.1 u1_0).2).1,((((nth a8 a0.2.2.2.2.1 u1_0).2).2).1,(((((nth a8 a0.2.2.2.2.1 u1_0).2).2).2).1,(((((((nth a8 a0.2.2.2.2.1 u1_0).2).2).2).2).2).1,((((((((nth a8 a0.2.2.2.2.1 u1_0).2).2).2).2).2).2).1,(((((((((nth a8 a0.2.2.2.2.1 u1_0).2).2).2).2).2).2).2).1,())))))))])) else none) else none) else(some u1_1)
def f11(a0:cI):Option AD:=
 Option.bind (jC a0 (bX) (0:Int) ([]:List AB)) fun(o1:List AB)=>some (a0.1,(a0.2.1,(a0.2.2.1,(a0.2.2.2.1,(o1,())))))
set_option maxRecDepth 100000 in
theorem po(a0:cI)(r:AD)(h:f11 a0=some r):Fc Tryz.prog gl 11 [(.val aI a0)] (aj (List.replicate 88 none) []) (.ret (.val ej r)) (aq 88 []):=by
 refine Fc.of Tryz.call11 (bz.aD tied Tryz.func11 rfl rfl (σ0:=ar 48 88 [(0,(.val aI a0))] []) (by kernel_rfl) ?_)
 unfold f11 at h
 refine aa.af tied [] [] [] [] (by kernel_rfl) trivial ?_
 refine aa.af tied [] [] [] [] (by kernel_rfl) trivial ?_
 obtain⟨o1,h1,h⟩:=bind_some h
 refine aa.ba (fun σ'=>σ'=ar 48 88 [(2,(.ptr 18 [])),(3,(.ptr 19 []))] [(18,some (.var ej (.cons (.val (.int .i64) (0:Int)) (.cons (.val (.int .i64) (0:Int)) (.cons (.val ao (Ty.aS ao)) (.cons (.val ao (Ty.aS ao)) (.cons .cZ .nil))))))),(19,some (.var ej (.cons (.val (.int .i64) a0.1) (.cons (.val (.int .i64) a0.2.1) (.cons (.val ao a0.2.2.1) (.cons (.val ao a0.2.2.2.1) (.cons (.own 65) .nil))))))),(65,some (.row 73 88 dc o1))]) ?_ ?_
 ·refine aa.af tied [] [] [] [] (by kernel_rfl) trivial ?_
  refine aa.block ?_
  refine aa.aB (fun n σ=>∃(u1_0:Int)(u1_1:List AB),jC a0 n u1_0 u1_1=some o1∧σ=ar 48 88 [(1,(.ptr 17 [])),(2,(.ptr 18 [])),(3,(.ptr 19 [])),(4,(.val (.int .i64) u1_0))] [(17,some (.var aI (.val aI a0))),(18,some (.var ej (.cons (.val (.int .i64) (0:Int)) (.cons (.val (.int .i64) (0:Int)) (.cons (.val ao (Ty.aS ao)) (.cons (.val ao (Ty.aS ao)) (.cons .cZ .nil))))))),(19,some (.var ej (.cons (.val (.int .i64) a0.1) (.cons (.val (.int .i64) a0.2.1) (.cons (.val ao a0.2.2.1) (.cons (.val ao a0.2.2.2.1) (.cons (.own 64) .nil))))))),(64,some (.row 73 88 dc u1_1))]) [.an [1,2,3,4] [17,18,19],.rk 19 [.fc 4] 64 73 88 dc] (by kernel_rfl) ⟨_,_,h1,rfl⟩ ?_
  rintro n1 _ ⟨u1_0,u1_1,h3,rfl⟩
  cases n1 with
  |zero=>exact absurd h3 (by simp[jC])
  |
   succ n1=>
   unfold jC at h3
   refine aa.seq ?_
   refine aa.af tied [] [] [] [] (by kernel_rfl) trivial ?_
   rcases ae h3 with⟨hc4,h3⟩|⟨hc4,h3⟩
   ·refine aa.aE (b:=decide (u1_0<(List.length a0.2.2.2.2.1:Int))) (by kernel_rfl) hc4 ?_
    refine aa.skip ?_
    change aa _ _ _ _ _
    refine aa.seq ?_
    refine aa.block ?_
    obtain⟨hv2,h3⟩:=ah h3
    refine aa.af tied [] [] [] [0≤u1_0,u1_0<(List.length a0.2.2.2.2.1:Int)] (by kernel_rfl) ⟨hv2.1,hv2.2,trivial⟩ ?_
    obtain⟨hv3,h3⟩:=ah h3
    refine aa.br tied [] [] [] [(List.length u1_1+List.length [((nth a8 a0.2.2.2.2.1 u1_0).1,(((nth a8 a0.2.2.2.2.1 u1_0).2).1,((((nth a8 a0.2.2.2.2.1 u1_0).2).2).1,(((((nth a8 a0.2.2.2.2.1 u1_0).2).2).2).1,(((((((nth a8 a0.2.2.2.2.1 u1_0).2).2).2).2).2).1,((((((((nth a8 a0.2.2.2.2.1 u1_0).2).2).2).2).2).2).1,(((((((((nth a8 a0.2.2.2.2.1 u1_0).2).2).2).2).2).2).2).1,())))))))])*88≤az] (by kernel_rfl) ⟨hv3,trivial⟩ ?_
    refine bN ?_
    change aa _ _ _ _ _
    refine aa.br tied [] [] [] [] (by kernel_rfl) trivial ?_
    exact aB.mk [.an [1,2,3,4] [17,18,19,61],.iN 61 64] (by kernel_rfl) ⟨_,_,h3,rfl⟩
   ·refine aa.aF (b:=decide (u1_0<(List.length a0.2.2.2.2.1:Int))) (by kernel_rfl) hc4 ?_
    refine aa.exit ?_
    refine tE ?_
    refine lE ?_
    refine bE ?_
    obtain rfl:=Option.some.inj h3
    exact jQ.mk [.an [2,3] [18,19,64],.iN 64 65] (by kernel_rfl) rfl
 ·rintro _ rfl
  refine aa.af tied [] [] [] [] (by kernel_rfl) trivial ?_
  refine aa.ret ?_
  obtain rfl:=Option.some.inj h
  exact(au [.freeze 65 (.slice 88 dc)] [some ej] (cq 88 []) (by kernel_rfl)).1
def ku(a0:List Int)(a1:List Int):Nat→Int→Option (c6 Unit Bool)
 |0,_=>none
 |n1+1,u1_0=>if(decide (u1_0<(List.length a0:Int)))=true then(if 0≤u1_0∧u1_0<(List.length a0:Int) then(if u1_0<(List.length a1:Int) then(if(!decide ((nth (.int .i64) a0 u1_0)=(nth (.int .i64) a1 u1_0)))=true then(some (.ret false)) else(ku a0 a1 n1 (aP (u1_0+(1:Int))))) else none) else none) else(some (.bh ()))
def f29(a0:List Int)(a1:List Int):Option Bool:=
 if(!decide ((List.length a0:Int)=(List.length a1:Int)))=true then(some false) else(Option.bind (ku a0 a1 (bX) (0:Int)) fun(o1:c6 Unit Bool)=>match o1 with| .bh _v6=>(some true)| .ret r7=>(some r7))
set_option maxRecDepth 100000 in
theorem GM(a0:List Int)(a1:List Int)(r:Bool)(h:f29 a0 a1=some r):Fc Tryz.prog gl 29 [(.val (.slice 8 (.int .i64)) a0),(.val (.slice 8 (.int .i64)) a1)] (aj (List.replicate 66 none) []) (.ret (.val .bool r)) (aq 66 []):=by
 refine Fc.of Tryz.call29 (bz.aD tied Tryz.func29 rfl rfl (σ0:=ar 26 66 [(0,(.val (.slice 8 (.int .i64)) a0)),(1,(.val (.slice 8 (.int .i64)) a1))] []) (by kernel_rfl) ?_)
 unfold f29 at h
 refine aa.af tied [] [] [] [] (by kernel_rfl) trivial ?_
 refine aa.seq ?_
 refine aa.af tied [] [] [] [] (by kernel_rfl) trivial ?_
 rcases ae h with⟨hc8,h⟩|⟨hc8,h⟩
 ·refine aa.aE (b:= !decide ((List.length a0:Int)=(List.length a1:Int))) (by kernel_rfl) hc8 ?_
  refine aa.af tied [] [] [] [] (by kernel_rfl) trivial ?_
  refine aa.ret ?_
  obtain rfl:=Option.some.inj h
  exact(au [] [some .bool] (cq 66 []) (by kernel_rfl)).1
 ·refine aa.aF (b:= !decide ((List.length a0:Int)=(List.length a1:Int))) (by kernel_rfl) hc8 ?_
  refine aa.skip ?_
  change aa _ _ _ _ _
  obtain⟨o1,h1,h⟩:=bind_some h
  refine aa.ba (fun σ'=>∃v6,o1= .bh v6∧σ'=ar 26 66 [] []) ?_ ?_
  ·refine aa.af tied [] [] [] [] (by kernel_rfl) trivial ?_
   refine aa.block ?_
   refine aa.aB (fun n σ=>∃(u1_0:Int),ku a0 a1 n u1_0=some o1∧σ=ar 26 66 [(0,(.val (.slice 8 (.int .i64)) a0)),(1,(.val (.slice 8 (.int .i64)) a1)),(5,(.val (.int .i64) u1_0))] []) [.an [0,1,5] []] (by kernel_rfl) ⟨_,h1,rfl⟩ ?_
   rintro n1 _ ⟨u1_0,h3,rfl⟩
   cases n1 with
   |zero=>exact absurd h3 (by simp[ku])
   |
    succ n1=>
    unfold ku at h3
    refine aa.seq ?_
    refine aa.af tied [] [] [] [] (by kernel_rfl) trivial ?_
    rcases ae h3 with⟨hc5,h3⟩|⟨hc5,h3⟩
    ·refine aa.aE (b:=decide (u1_0<(List.length a0:Int))) (by kernel_rfl) hc5 ?_
     refine aa.skip ?_
     change aa _ _ _ _ _
     refine aa.seq ?_
     refine aa.block ?_
     obtain⟨hv2,h3⟩:=ah h3
     obtain⟨hv3,h3⟩:=ah h3
     refine aa.gn tied [] [] [] [0≤u1_0,u1_0<(List.length a0:Int),0≤u1_0,u1_0<(List.length a1:Int)] (by kernel_rfl) ⟨hv2.1,hv2.2,hv2.1,hv3,trivial⟩ ?_
     rcases ae h3 with⟨hc4,h3⟩|⟨hc4,h3⟩
     ·refine aa.aE (b:= !decide ((nth (.int .i64) a0 u1_0)=(nth (.int .i64) a1 u1_0))) (by kernel_rfl) hc4 ?_
      refine aa.af tied [] [] [] [] (by kernel_rfl) trivial ?_
      refine aa.ret ?_
      obtain rfl:=Option.some.inj h3
      dsimp only at h
      obtain rfl:=Option.some.inj h
      exact(au [] [some .bool] (cq 66 []) (by kernel_rfl)).1
     ·refine aa.aF (b:= !decide ((nth (.int .i64) a0 u1_0)=(nth (.int .i64) a1 u1_0))) (by kernel_rfl) hc4 ?_
      refine aa.skip ?_
      refine bN ?_
      change aa _ _ _ _ _
      refine aa.br tied [] [] [] [] (by kernel_rfl) trivial ?_
      exact aB.mk [.an [0,1,5] []] (by kernel_rfl) ⟨_,h3,rfl⟩
    ·refine aa.aF (b:=decide (u1_0<(List.length a0:Int))) (by kernel_rfl) hc5 ?_
     refine aa.exit ?_
     refine tE ?_
     refine lE ?_
     refine bE ?_
     obtain rfl:=Option.some.inj h3
     exact jQ.mk [.an [] []] (by kernel_rfl) ⟨_,rfl,rfl⟩
  ·rintro _ ⟨v6,rfl,rfl⟩
   dsimp only at h
   refine aa.af tied [] [] [] [] (by kernel_rfl) trivial ?_
   refine aa.ret ?_
   obtain rfl:=Option.some.inj h
   exact(au [] [some .bool] (cq 66 []) (by kernel_rfl)).1
def oI(a0:AD)(a1:AD):Nat→Int→Option (c6 Unit Bool)
 |0,_=>none
 |n1+1,u1_0=>if(decide (u1_0<(List.length a0.2.2.2.2.1:Int)))=true then(Option.bind (if 0≤u1_0∧u1_0<(List.length a0.2.2.2.2.1:Int) then(if u1_0<(List.length a1.2.2.2.2.1:Int) then(Option.bind (if(!decide (((nth dc a0.2.2.2.2.1 u1_0).1)=((nth dc a1.2.2.2.2.1 u1_0).1)))=true then(some true) else(if(!decide ((((nth dc a0.2.2.2.2.1 u1_0).2).1)=(((nth dc a1.2.2.2.2.1 u1_0).2).1)))=true then(some true) else(if(!decide (((((nth dc a0.2.2.2.2.1 u1_0).2).2).1)=((((nth dc a1.2.2.2.2.1 u1_0).2).2).1)))=true then(some true) else(if(!decide ((((((nth dc a0.2.2.2.2.1 u1_0).2).2).2).1)=(((((nth dc a1.2.2.2.2.1 u1_0).2).2).2).1)))=true then(some true) else(if(!decide (((((((((nth dc a0.2.2.2.2.1 u1_0).2).2).2).2).2).2).1)=((((((((nth dc a1.2.2.2.2.1 u1_0).2).2).2).2).2).2).1)))=true then(some true) else(Option.bind (f29 ((((((nth dc a0.2.2.2.2.1 u1_0).2).2).2).2).1) ((((((nth dc a1.2.2.2.2.1 u1_0).2).2).2).2).1)) fun y19=>if(!y19)=true then(some true) else(Option.bind (f29 (((((((nth dc a0.2.2.2.2.1 u1_0).2).2).2).2).2).1) (((((((nth dc a1.2.2.2.2.1 u1_0).2).2).2).2).2).1)) fun y22=>some (!y22)))))))) fun(o13:Bool)=>if o13=true then(some (.ret false)) else(some (.bh ()))) else none) else none) fun(o10:c6 Unit Bool)=>match o10 with| .bh _v25=>(oI a0 a1 n1 (aP (u1_0+(1:Int))))| .ret r26=>(some (.ret r26))) else(some (.bh ()))
def f9(a0:AD)(a1:AD):Option Bool:=
 Option.bind (Option.bind (if(!decide (a0.1=a1.1))=true then(some true) else(if(!decide (a0.2.1=a1.2.1))=true then(some true) else(if(!av ao a0.2.2.1 a1.2.2.1)=true then(some true) else(if(!av ao a0.2.2.2.1 a1.2.2.2.1)=true then(some true) else(some (!decide ((List.length a0.2.2.2.2.1:Int)=(List.length a1.2.2.2.2.1:Int)))))))) fun(o2:Bool)=>if o2=true then(some (.ret false)) else(some (.bh ()))) fun(o1:c6 Unit Bool)=>match o1 with| .bh _v8=>(Option.bind (oI a0 a1 (bX) (0:Int)) fun(o9:c6 Unit Bool)=>match o9 with| .bh _v28=>(some true)| .ret r29=>(some r29))| .ret r30=>(some r30)
set_option maxRecDepth 100000 in
theorem x9(
 a0:AD) (a1:AD) (r:Bool) (h:f9 a0 a1=some r):Fc Tryz.prog gl 9 [(.val ej a0),(.val ej a1)] (aj (List.replicate 149 none) []) (.ret (.val .bool r)) (aq 149 []):=by
 refine Fc.of Tryz.call9 (bz.aD tied Tryz.func9 rfl rfl (σ0:=ar 109 149 [(0,(.val ej a0)),(1,(.val ej a1))] []) (by kernel_rfl) ?_)
 unfold f9 at h
 refine aa.af tied [] [] [] [] (by kernel_rfl) trivial ?_
 obtain⟨o1,h1,h⟩:=bind_some h
 refine aa.ba (fun σ'=>∃v8,o1= .bh v8∧σ'=ar 109 149 [(2,(.ptr 18 [])),(3,(.ptr 19 []))] [(18,some (.var ej (.val ej a0))),(19,some (.var ej (.val ej a1)))]) ?_ ?_
 ·obtain⟨o2,h3,h1⟩:=bind_some h1
  refine aa.ba (fun σ'=>σ'=ar 109 149 [(2,(.ptr 18 [])),(3,(.ptr 19 [])),(42,(.val .bool o2))] [(18,some (.var ej (.val ej a0))),(19,some (.var ej (.val ej a1)))]) ?_ ?_
  ·rcases ae h3 with⟨hg3,h3⟩|⟨hg3,h3⟩
   ·refine aa.br tied [] [true,true,true,true] [] [(!decide (a0.1=a1.1))=true,true=true,true=true,true=true] (by kernel_rfl) ⟨hg3,rfl,rfl,rfl,trivial⟩ ?_
    obtain rfl:=Option.some.inj h3
    exact jQ.mk [.an [2,3,42] [18,19]] (by kernel_rfl) rfl
   ·rcases ae h3 with⟨hg4,h3⟩|⟨hg4,h3⟩
    ·refine aa.br tied [] [false,true,true,true] [] [(!decide (a0.1=a1.1))=false,(!decide (a0.2.1=a1.2.1))=true,true=true,true=true] (by kernel_rfl) ⟨hg3,hg4,rfl,rfl,trivial⟩ ?_
     obtain rfl:=Option.some.inj h3
     exact jQ.mk [.an [2,3,42] [18,19]] (by kernel_rfl) rfl
    ·rcases ae h3 with⟨hg5,h3⟩|⟨hg5,h3⟩
     ·refine aa.br tied [] [false,false,true,true] [] [(!decide (a0.1=a1.1))=false,(!decide (a0.2.1=a1.2.1))=false,bG Tryz.prog G 40 28 ao=true,Tryz.prog.eqGuardType Tryz.prog.depth 28=false,(!av ao a0.2.2.1 a1.2.2.1)=true,true=true] (by kernel_rfl) ⟨hg3,hg4,bn,bx,hg5,rfl,trivial⟩ ?_
      obtain rfl:=Option.some.inj h3
      exact jQ.mk [.an [2,3,42] [18,19]] (by kernel_rfl) rfl
     ·rcases ae h3 with⟨hg6,h3⟩|⟨hg6,h3⟩
      ·refine aa.br tied [] [false,false,false,true] [] [(!decide (a0.1=a1.1))=false,(!decide (a0.2.1=a1.2.1))=false,bG Tryz.prog G 40 28 ao=true,Tryz.prog.eqGuardType Tryz.prog.depth 28=false,(!av ao a0.2.2.1 a1.2.2.1)=false,bG Tryz.prog G 40 28 ao=true,Tryz.prog.eqGuardType Tryz.prog.depth 28=false,(!av ao a0.2.2.2.1 a1.2.2.2.1)=true] (by kernel_rfl) ⟨hg3,hg4,bn,bx,hg5,bn,bx,hg6,trivial⟩ ?_
       obtain rfl:=Option.some.inj h3
       exact jQ.mk [.an [2,3,42] [18,19]] (by kernel_rfl) rfl
      ·refine aa.br tied [] [false,false,false,false] [] [(!decide (a0.1=a1.1))=false,(!decide (a0.2.1=a1.2.1))=false,bG Tryz.prog G 40 28 ao=true,Tryz.prog.eqGuardType Tryz.prog.depth 28=false,(!av ao a0.2.2.1 a1.2.2.1)=false,bG Tryz.prog G 40 28 ao=true,Tryz.prog.eqGuardType Tryz.prog.depth 28=false,(!av ao a0.2.2.2.1 a1.2.2.2.1)=false] (by kernel_rfl) ⟨hg3,hg4,bn,bx,hg5,bn,bx,hg6,trivial⟩ ?_
       obtain rfl:=Option.some.inj h3
       exact jQ.mk [.an [2,3,42] [18,19]] (by kernel_rfl) rfl
  ·rintro _ rfl
   rcases ae h1 with⟨hc7,h1⟩|⟨hc7,h1⟩
   ·refine aa.aE (b:=o2) (by kernel_rfl) hc7 ?_
    refine aa.af tied [] [] [] [] (by kernel_rfl) trivial ?_
    refine aa.ret ?_
    obtain rfl:=Option.some.inj h1
    dsimp only at h
    obtain rfl:=Option.some.inj h
    exact(au [] [some .bool] (cq 149 []) (by kernel_rfl)).1
   ·refine aa.aF (b:=o2) (by kernel_rfl) hc7 ?_
    refine aa.skip ?_
    obtain rfl:=Option.some.inj h1
    exact jQ.mk [.an [2,3] [18,19]] (by kernel_rfl) ⟨_,rfl,rfl⟩
 ·rintro _ ⟨v8,rfl,rfl⟩
  dsimp only at h
  obtain⟨o9,h4,h⟩:=bind_some h
  refine aa.ba (fun σ'=>∃v28,o9= .bh v28∧σ'=ar 109 149 [] []) ?_ ?_
  ·refine aa.af tied [] [] [] [] (by kernel_rfl) trivial ?_
   refine aa.block ?_
   refine aa.aB (fun n σ=>∃(u1_0:Int),oI a0 a1 n u1_0=some o9∧σ=ar 109 149 [(2,(.ptr 18 [])),(3,(.ptr 19 [])),(5,(.val (.int .i64) u1_0))] [(18,some (.var ej (.val ej a0))),(19,some (.var ej (.val ej a1)))]) [.an [2,3,5] [18,19]] (by kernel_rfl) ⟨_,h4,rfl⟩ ?_
   rintro n1 _ ⟨u1_0,h9,rfl⟩
   cases n1 with
   |zero=>exact absurd h9 (by simp[oI])
   |
    succ n1=>
    unfold oI at h9
    refine aa.seq ?_
    refine aa.af tied [] [] [] [] (by kernel_rfl) trivial ?_
    rcases ae h9 with⟨hc27,h9⟩|⟨hc27,h9⟩
    ·refine aa.aE (b:=decide (u1_0<(List.length a0.2.2.2.2.1:Int))) (by kernel_rfl) hc27 ?_
     refine aa.skip ?_
     change aa _ _ _ _ _
     obtain⟨o10,h10,h9⟩:=bind_some h9
     refine aa.ba (fun σ'=>∃v25,o10= .bh v25∧σ'=ar 109 149 [(2,(.ptr 18 [])),(3,(.ptr 19 [])),(5,(.val (.int .i64) u1_0))] [(18,some (.var ej (.val ej a0))),(19,some (.var ej (.val ej a1)))]) ?_ ?_
     ·refine aa.block ?_
      obtain⟨hv11,h10⟩:=ah h10
      refine aa.af tied [] [] [] [0≤u1_0,u1_0<(List.length a0.2.2.2.2.1:Int)] (by kernel_rfl) ⟨hv11.1,hv11.2,trivial⟩ ?_
      obtain⟨hv12,h10⟩:=ah h10
      refine aa.af tied [] [] [] [0≤u1_0,u1_0<(List.length a1.2.2.2.2.1:Int)] (by kernel_rfl) ⟨hv11.1,hv12,trivial⟩ ?_
      obtain⟨o13,h12,h10⟩:=bind_some h10
      refine aa.ba (fun σ'=>σ'=ar 109 149 [(2,(.ptr 18 [])),(3,(.ptr 19 [])),(5,(.val (.int .i64) u1_0)),(108,(.val .bool o13))] [(18,some (.var ej (.val ej a0))),(19,some (.var ej (.val ej a1)))]) ?_ ?_
      ·rcases ae h12 with⟨hg14,h12⟩|⟨hg14,h12⟩
       ·refine aa.br tied [] [true,true,true,true,true,true] [] [(!decide (((nth dc a0.2.2.2.2.1 u1_0).1)=((nth dc a1.2.2.2.2.1 u1_0).1)))=true,true=true,true=true,true=true,true=true,true=true] (by kernel_rfl) ⟨hg14,rfl,rfl,rfl,rfl,rfl,trivial⟩ ?_
        obtain rfl:=Option.some.inj h12
        exact jQ.mk [.an [2,3,5,108] [18,19]] (by kernel_rfl) rfl
       ·rcases ae h12 with⟨hg15,h12⟩|⟨hg15,h12⟩
        ·refine aa.br tied [] [false,true,true,true,true,true] [] [(!decide (((nth dc a0.2.2.2.2.1 u1_0).1)=((nth dc a1.2.2.2.2.1 u1_0).1)))=false,(!decide ((((nth dc a0.2.2.2.2.1 u1_0).2).1)=(((nth dc a1.2.2.2.2.1 u1_0).2).1)))=true,true=true,true=true,true=true,true=true] (by kernel_rfl) ⟨hg14,hg15,rfl,rfl,rfl,rfl,trivial⟩ ?_
         obtain rfl:=Option.some.inj h12
         exact jQ.mk [.an [2,3,5,108] [18,19]] (by kernel_rfl) rfl
        ·rcases ae h12 with⟨hg16,h12⟩|⟨hg16,h12⟩
         ·refine aa.br tied [] [false,false,true,true,true,true] [] [(!decide (((nth dc a0.2.2.2.2.1 u1_0).1)=((nth dc a1.2.2.2.2.1 u1_0).1)))=false,(!decide ((((nth dc a0.2.2.2.2.1 u1_0).2).1)=(((nth dc a1.2.2.2.2.1 u1_0).2).1)))=false,(!decide (((((nth dc a0.2.2.2.2.1 u1_0).2).2).1)=((((nth dc a1.2.2.2.2.1 u1_0).2).2).1)))=true,true=true,true=true,true=true] (by kernel_rfl) ⟨hg14,hg15,hg16,rfl,rfl,rfl,trivial⟩ ?_
          obtain rfl:=Option.some.inj h12
          exact jQ.mk [.an [2,3,5,108] [18,19]] (by kernel_rfl) rfl
         ·rcases ae h12 with⟨hg17,h12⟩|⟨hg17,h12⟩
          ·refine aa.br tied [] [false,false,false,true,true,true] [] [(!decide (((nth dc a0.2.2.2.2.1 u1_0).1)=((nth dc a1.2.2.2.2.1 u1_0).1)))=false,(!decide ((((nth dc a0.2.2.2.2.1 u1_0).2).1)=(((nth dc a1.2.2.2.2.1 u1_0).2).1)))=false,(!decide (((((nth dc a0.2.2.2.2.1 u1_0).2).2).1)=((((nth dc a1.2.2.2.2.1 u1_0).2).2).1)))=false,(!decide ((((((nth dc a0.2.2.2.2.1 u1_0).2).2).2).1)=(((((nth dc a1.2.2.2.2.1 u1_0).2).2).2).1)))=true,true=true,true=true] (by kernel_rfl) ⟨hg14,hg15,hg16,hg17,rfl,rfl,trivial⟩ ?_
           obtain rfl:=Option.some.inj h12
           exact jQ.mk [.an [2,3,5,108] [18,19]] (by kernel_rfl) rfl
          ·rcases ae h12 with⟨hg18,h12⟩|⟨hg18,h12⟩
           ·refine aa.br tied [] [false,false,false,false,true,true] [] [(!decide (((nth dc a0.2.2.2.2.1 u1_0).1)=((nth dc a1.2.2.2.2.1 u1_0).1)))=false,(!decide ((((nth dc a0.2.2.2.2.1 u1_0).2).1)=(((nth dc a1.2.2.2.2.1 u1_0).2).1)))=false,(!decide (((((nth dc a0.2.2.2.2.1 u1_0).2).2).1)=((((nth dc a1.2.2.2.2.1 u1_0).2).2).1)))=false,(!decide ((((((nth dc a0.2.2.2.2.1 u1_0).2).2).2).1)=(((((nth dc a1.2.2.2.2.1 u1_0).2).2).2).1)))=false,(!decide (((((((((nth dc a0.2.2.2.2.1 u1_0).2).2).2).2).2).2).1)=((((((((nth dc a1.2.2.2.2.1 u1_0).2).2).2).2).2).2).1)))=true,true=true] (by kernel_rfl) ⟨hg14,hg15,hg16,hg17,hg18,rfl,trivial⟩ ?_
            obtain rfl:=Option.some.inj h12
            exact jQ.mk [.an [2,3,5,108] [18,19]] (by kernel_rfl) rfl
           ·obtain⟨y19,hy20,h12⟩:=bind_some h12
            rcases ae h12 with⟨hg21,h12⟩|⟨hg21,h12⟩
            ·refine aa.br tied [⟨(.val .bool y19),[],[],[],66⟩] [false,false,false,false,false,true] [] [(!decide (((nth dc a0.2.2.2.2.1 u1_0).1)=((nth dc a1.2.2.2.2.1 u1_0).1)))=false,(!decide ((((nth dc a0.2.2.2.2.1 u1_0).2).1)=(((nth dc a1.2.2.2.2.1 u1_0).2).1)))=false,(!decide (((((nth dc a0.2.2.2.2.1 u1_0).2).2).1)=((((nth dc a1.2.2.2.2.1 u1_0).2).2).1)))=false,(!decide ((((((nth dc a0.2.2.2.2.1 u1_0).2).2).2).1)=(((((nth dc a1.2.2.2.2.1 u1_0).2).2).2).1)))=false,(!decide (((((((((nth dc a0.2.2.2.2.1 u1_0).2).2).2).2).2).2).1)=((((((((nth dc a1.2.2.2.2.1 u1_0).2).2).2).2).2).2).1)))=false,Fc Tryz.prog gl 29 [(.val (.slice 8 (.int .i64)) ((((((nth dc a0.2.2.2.2.1 u1_0).2).2).2).2).1)),(.val (.slice 8 (.int .i64)) ((((((nth dc a1.2.2.2.2.1 u1_0).2).2).2).2).1))] (aj (List.replicate 66 none) []) (.ret (.val .bool y19)) (aq 66 []),(!y19)=true] (by kernel_rfl) ⟨hg14,hg15,hg16,hg17,hg18,GM _ _ _ hy20,hg21,trivial⟩ ?_
             obtain rfl:=Option.some.inj h12
             exact jQ.mk [.an [2,3,5,108] [18,19]] (by kernel_rfl) rfl
            ·obtain⟨y22,hy23,h12⟩:=bind_some h12
             refine aa.br tied [⟨(.val .bool y19),[],[],[],66⟩,⟨(.val .bool y22),[],[],[],66⟩] [false,false,false,false,false,false] [] [(!decide (((nth dc a0.2.2.2.2.1 u1_0).1)=((nth dc a1.2.2.2.2.1 u1_0).1)))=false,(!decide ((((nth dc a0.2.2.2.2.1 u1_0).2).1)=(((nth dc a1.2.2.2.2.1 u1_0).2).1)))=false,(!decide (((((nth dc a0.2.2.2.2.1 u1_0).2).2).1)=((((nth dc a1.2.2.2.2.1 u1_0).2).2).1)))=false,(!decide ((((((nth dc a0.2.2.2.2.1 u1_0).2).2).2).1)=(((((nth dc a1.2.2.2.2.1 u1_0).2).2).2).1)))=false,(!decide (((((((((nth dc a0.2.2.2.2.1 u1_0).2).2).2).2).2).2).1)=((((((((nth dc a1.2.2.2.2.1 u1_0).2).2).2).2).2).2).1)))=false,Fc Tryz.prog gl 29 [(.val (.slice 8 (.int .i64)) ((((((nth dc a0.2.2.2.2.1 u1_0).2).2).2).2).1)),(.val (.slice 8 (.int .i64)) ((((((nth dc a1.2.2.2.2.1 u1_0).2).2).2).2).1))] (aj (List.replicate 66 none) []) (.ret (.val .bool y19)) (aq 66 []),(!y19)=false,Fc Tryz.prog gl 29 [(.val (.slice 8 (.int .i64)) (((((((nth dc a0.2.2.2.2.1 u1_0).2).2).2).2).2).1)),(.val (.slice 8 (.int .i64)) (((((((nth dc a1.2.2.2.2.1 u1_0).2).2).2).2).2).1))] (aj (List.replicate 66 none) []) (.ret (.val .bool y22)) (aq 66 [])] (by kernel_rfl) ⟨hg14,hg15,hg16,hg17,hg18,GM _ _ _ hy20,hg21,GM _ _ _ hy23,trivial⟩ ?_
             obtain rfl:=Option.some.inj h12
             exact jQ.mk [.an [2,3,5,108] [18,19]] (by kernel_rfl) rfl
      ·rintro _ rfl
       rcases ae h10 with⟨hc24,h10⟩|⟨hc24,h10⟩
       ·refine aa.aE (b:=o13) (by kernel_rfl) hc24 ?_
        refine aa.af tied [] [] [] [] (by kernel_rfl) trivial ?_
        refine aa.ret ?_
        obtain rfl:=Option.some.inj h10
        dsimp only at h9
        obtain rfl:=Option.some.inj h9
        dsimp only at h
        obtain rfl:=Option.some.inj h
        exact(au [] [some .bool] (cq 149 []) (by kernel_rfl)).1
       ·refine aa.aF (b:=o13) (by kernel_rfl) hc24 ?_
        refine aa.skip ?_
        refine bN ?_
        obtain rfl:=Option.some.inj h10
        exact jQ.mk [.an [2,3,5] [18,19]] (by kernel_rfl) ⟨_,rfl,rfl⟩
     ·rintro _ ⟨v25,rfl,rfl⟩
      dsimp only at h9
      refine aa.br tied [] [] [] [] (by kernel_rfl) trivial ?_
      exact aB.mk [.an [2,3,5] [18,19]] (by kernel_rfl) ⟨_,h9,rfl⟩
    ·refine aa.aF (b:=decide (u1_0<(List.length a0.2.2.2.2.1:Int))) (by kernel_rfl) hc27 ?_
     refine aa.exit ?_
     refine tE ?_
     refine lE ?_
     refine bE ?_
     obtain rfl:=Option.some.inj h9
     exact jQ.mk [.an [] []] (by kernel_rfl) ⟨_,rfl,rfl⟩
  ·rintro _ ⟨v28,rfl,rfl⟩
   dsimp only at h
   refine aa.af tied [] [] [] [] (by kernel_rfl) trivial ?_
   refine aa.ret ?_
   obtain rfl:=Option.some.inj h
   exact(au [] [some .bool] (cq 149 []) (by kernel_rfl)).1
def kv(a0:List aU)(a1:List aU):Nat→Int→Option (c6 Unit Bool)
 |0,_=>none
 |n1+1,u1_0=>if(decide (u1_0<(List.length a0:Int)))=true then(if 0≤u1_0∧u1_0<(List.length a0:Int) then(if u1_0<(List.length a1:Int) then(if(!av ao (nth ao a0 u1_0) (nth ao a1 u1_0))=true then(some (.ret false)) else(kv a0 a1 n1 (aP (u1_0+(1:Int))))) else none) else none) else(some (.bh ()))
def f31(a0:List aU)(a1:List aU):Option Bool:=
 if(!decide ((List.length a0:Int)=(List.length a1:Int)))=true then(some false) else(Option.bind (kv a0 a1 (bX) (0:Int)) fun(o1:c6 Unit Bool)=>match o1 with| .bh _v6=>(some true)| .ret r7=>(some r7))
set_option maxRecDepth 100000 in
theorem H6(a0:List aU)(a1:List aU)(r:Bool)(h:f31 a0 a1=some r):Fc Tryz.prog gl 31 [(.val (.slice 32 ao) a0),(.val (.slice 32 ao) a1)] (aj (List.replicate 66 none) []) (.ret (.val .bool r)) (aq 66 []):=by
 refine Fc.of Tryz.call31 (bz.aD tied Tryz.func31 rfl rfl (σ0:=ar 26 66 [(0,(.val (.slice 32 ao) a0)),(1,(.val (.slice 32 ao) a1))] []) (by kernel_rfl) ?_)
 unfold f31 at h
 refine aa.af tied [] [] [] [] (by kernel_rfl) trivial ?_
 refine aa.seq ?_
 refine aa.af tied [] [] [] [] (by kernel_rfl) trivial ?_
 rcases ae h with⟨hc8,h⟩|⟨hc8,h⟩
 ·refine aa.aE (b:= !decide ((List.length a0:Int)=(List.length a1:Int))) (by kernel_rfl) hc8 ?_
  refine aa.af tied [] [] [] [] (by kernel_rfl) trivial ?_
  refine aa.ret ?_
  obtain rfl:=Option.some.inj h
  exact(au [] [some .bool] (cq 66 []) (by kernel_rfl)).1
 ·refine aa.aF (b:= !decide ((List.length a0:Int)=(List.length a1:Int))) (by kernel_rfl) hc8 ?_
  refine aa.skip ?_
  change aa _ _ _ _ _
  obtain⟨o1,h1,h⟩:=bind_some h
  refine aa.ba (fun σ'=>∃v6,o1= .bh v6∧σ'=ar 26 66 [] []) ?_ ?_
  ·refine aa.af tied [] [] [] [] (by kernel_rfl) trivial ?_
   refine aa.block ?_
   refine aa.aB (fun n σ=>∃(u1_0:Int),kv a0 a1 n u1_0=some o1∧σ=ar 26 66 [(0,(.val (.slice 32 ao) a0)),(1,(.val (.slice 32 ao) a1)),(5,(.val (.int .i64) u1_0))] []) [.an [0,1,5] []] (by kernel_rfl) ⟨_,h1,rfl⟩ ?_
   rintro n1 _ ⟨u1_0,h3,rfl⟩
   cases n1 with
   |zero=>exact absurd h3 (by simp[kv])
   |
    succ n1=>
    unfold kv at h3
    refine aa.seq ?_
    refine aa.af tied [] [] [] [] (by kernel_rfl) trivial ?_
    rcases ae h3 with⟨hc5,h3⟩|⟨hc5,h3⟩
    ·refine aa.aE (b:=decide (u1_0<(List.length a0:Int))) (by kernel_rfl) hc5 ?_
     refine aa.skip ?_
     change aa _ _ _ _ _
     refine aa.seq ?_
     refine aa.block ?_
     obtain⟨hv2,h3⟩:=ah h3
     obtain⟨hv3,h3⟩:=ah h3
     refine aa.gn tied [] [] [] [0≤u1_0,u1_0<(List.length a0:Int),0≤u1_0,u1_0<(List.length a1:Int),bG Tryz.prog G 40 28 ao=true,Tryz.prog.eqGuardType Tryz.prog.depth 28=false] (by kernel_rfl) ⟨hv2.1,hv2.2,hv2.1,hv3,bn,bx,trivial⟩ ?_
     rcases ae h3 with⟨hc4,h3⟩|⟨hc4,h3⟩
     ·refine aa.aE (b:= !av ao (nth ao a0 u1_0) (nth ao a1 u1_0)) (by kernel_rfl) hc4 ?_
      refine aa.af tied [] [] [] [] (by kernel_rfl) trivial ?_
      refine aa.ret ?_
      obtain rfl:=Option.some.inj h3
      dsimp only at h
      obtain rfl:=Option.some.inj h
      exact(au [] [some .bool] (cq 66 []) (by kernel_rfl)).1
     ·refine aa.aF (b:= !av ao (nth ao a0 u1_0) (nth ao a1 u1_0)) (by kernel_rfl) hc4 ?_
      refine aa.skip ?_
      refine bN ?_
      change aa _ _ _ _ _
      refine aa.br tied [] [] [] [] (by kernel_rfl) trivial ?_
      exact aB.mk [.an [0,1,5] []] (by kernel_rfl) ⟨_,h3,rfl⟩
    ·refine aa.aF (b:=decide (u1_0<(List.length a0:Int))) (by kernel_rfl) hc5 ?_
     refine aa.exit ?_
     refine tE ?_
     refine lE ?_
     refine bE ?_
     obtain rfl:=Option.some.inj h3
     exact jQ.mk [.an [] []] (by kernel_rfl) ⟨_,rfl,rfl⟩
  ·rintro _ ⟨v6,rfl,rfl⟩
   dsimp only at h
   refine aa.af tied [] [] [] [] (by kernel_rfl) trivial ?_
   refine aa.ret ?_
   obtain rfl:=Option.some.inj h
   exact(au [] [some .bool] (cq 66 []) (by kernel_rfl)).1
def kx(a0:List eu)(a1:List eu):Nat→Int→Option (c6 Unit Bool)
 |0,_=>none
 |n1+1,u1_0=>if(decide (u1_0<(List.length a0:Int)))=true then(Option.bind (Option.bind (if 0≤u1_0∧u1_0<(List.length a0:Int) then(if u1_0<(List.length a1:Int) then(if(!av ao ((nth cn a0 u1_0).1) ((nth cn a1 u1_0).1))=true then(some true) else(Option.bind (f31 (((nth cn a0 u1_0).2).1) (((nth cn a1 u1_0).2).1)) fun y7=>some (!y7))) else none) else none) fun(o3:Bool)=>if o3=true then(some (.ret false)) else(some (.bh ()))) fun(o2:c6 Unit Bool)=>match o2 with| .bh _v10=>(kx a0 a1 n1 (aP (u1_0+(1:Int))))| .ret r11=>(some (.ret r11))) else(some (.bh ()))
def f12(a0:List eu)(a1:List eu):Option Bool:=
 if(!decide ((List.length a0:Int)=(List.length a1:Int)))=true then(some false) else(Option.bind (kx a0 a1 (bX) (0:Int)) fun(o1:c6 Unit Bool)=>match o1 with| .bh _v13=>(some true)| .ret r14=>(some r14))
set_option maxRecDepth 100000 in
theorem oJ(a0:List eu)(a1:List eu)(r:Bool)(h:f12 a0 a1=some r):Fc Tryz.prog gl 12 [(.val (.slice 56 cn) a0),(.val (.slice 56 cn) a1)] (aj (List.replicate 82 none) []) (.ret (.val .bool r)) (aq 82 []):=by
 refine Fc.of Tryz.call12 (bz.aD tied Tryz.func12 rfl rfl (σ0:=ar 42 82 [(0,(.val (.slice 56 cn) a0)),(1,(.val (.slice 56 cn) a1))] []) (by kernel_rfl) ?_)
 unfold f12 at h
 refine aa.af tied [] [] [] [] (by kernel_rfl) trivial ?_
 refine aa.seq ?_
 refine aa.af tied [] [] [] [] (by kernel_rfl) trivial ?_
 rcases ae h with⟨hc15,h⟩|⟨hc15,h⟩
 ·refine aa.aE (b:= !decide ((List.length a0:Int)=(List.length a1:Int))) (by kernel_rfl) hc15 ?_
  refine aa.af tied [] [] [] [] (by kernel_rfl) trivial ?_
  refine aa.ret ?_
  obtain rfl:=Option.some.inj h
  exact(au [] [some .bool] (cq 82 []) (by kernel_rfl)).1
 ·refine aa.aF (b:= !decide ((List.length a0:Int)=(List.length a1:Int))) (by kernel_rfl) hc15 ?_
  refine aa.skip ?_
  change aa _ _ _ _ _
  obtain⟨o1,h1,h⟩:=bind_some h
  refine aa.ba (fun σ'=>∃v13,o1= .bh v13∧σ'=ar 42 82 [] []) ?_ ?_
  ·refine aa.af tied [] [] [] [] (by kernel_rfl) trivial ?_
   refine aa.block ?_
   refine aa.aB (fun n σ=>∃(u1_0:Int),kx a0 a1 n u1_0=some o1∧σ=ar 42 82 [(0,(.val (.slice 56 cn) a0)),(1,(.val (.slice 56 cn) a1)),(5,(.val (.int .i64) u1_0))] []) [.an [0,1,5] []] (by kernel_rfl) ⟨_,h1,rfl⟩ ?_
   rintro n1 _ ⟨u1_0,h6,rfl⟩
   cases n1 with
   |zero=>exact absurd h6 (by simp[kx])
   |
    succ n1=>
    unfold kx at h6
    refine aa.seq ?_
    refine aa.af tied [] [] [] [] (by kernel_rfl) trivial ?_
    rcases ae h6 with⟨hc12,h6⟩|⟨hc12,h6⟩
    ·refine aa.aE (b:=decide (u1_0<(List.length a0:Int))) (by kernel_rfl) hc12 ?_
     refine aa.skip ?_
     change aa _ _ _ _ _
     obtain⟨o2,h7,h6⟩:=bind_some h6
     refine aa.ba (fun σ'=>∃v10,o2= .bh v10∧σ'=ar 42 82 [(0,(.val (.slice 56 cn) a0)),(1,(.val (.slice 56 cn) a1)),(5,(.val (.int .i64) u1_0))] []) ?_ ?_
     ·refine aa.block ?_
      obtain⟨o3,h9,h7⟩:=bind_some h7
      refine aa.ba (fun σ'=>σ'=ar 42 82 [(0,(.val (.slice 56 cn) a0)),(1,(.val (.slice 56 cn) a1)),(5,(.val (.int .i64) u1_0)),(41,(.val .bool o3))] []) ?_ ?_
      ·obtain⟨hv4,h9⟩:=ah h9
       obtain⟨hv5,h9⟩:=ah h9
       rcases ae h9 with⟨hg6,h9⟩|⟨hg6,h9⟩
       ·refine aa.gk tied [] [true] [] [0≤u1_0,u1_0<(List.length a0:Int),0≤u1_0,u1_0<(List.length a1:Int),bG Tryz.prog G 40 28 ao=true,Tryz.prog.eqGuardType Tryz.prog.depth 28=false,(!av ao ((nth cn a0 u1_0).1) ((nth cn a1 u1_0).1))=true] (by kernel_rfl) ⟨hv4.1,hv4.2,hv4.1,hv5,bn,bx,hg6,trivial⟩ ?_
        obtain rfl:=Option.some.inj h9
        exact jQ.mk [.an [0,1,5,41] []] (by kernel_rfl) rfl
       ·obtain⟨y7,hy8,h9⟩:=bind_some h9
        refine aa.gk tied [⟨(.val .bool y7),[],[],[],66⟩] [false] [] [0≤u1_0,u1_0<(List.length a0:Int),0≤u1_0,u1_0<(List.length a1:Int),bG Tryz.prog G 40 28 ao=true,Tryz.prog.eqGuardType Tryz.prog.depth 28=false,(!av ao ((nth cn a0 u1_0).1) ((nth cn a1 u1_0).1))=false,0≤u1_0,u1_0<(List.length a0:Int),0≤u1_0,u1_0<(List.length a1:Int),Fc Tryz.prog gl 31 [(.val (.slice 32 ao) (((nth cn a0 u1_0).2).1)),(.val (.slice 32 ao) (((nth cn a1 u1_0).2).1))] (aj (List.replicate 66 none) []) (.ret (.val .bool y7)) (aq 66 [])] (by kernel_rfl) ⟨hv4.1,hv4.2,hv4.1,hv5,bn,bx,hg6,hv4.1,hv4.2,hv4.1,hv5,H6 _ _ _ hy8,trivial⟩ ?_
        obtain rfl:=Option.some.inj h9
        exact jQ.mk [.an [0,1,5,41] []] (by kernel_rfl) rfl
      ·rintro _ rfl
       rcases ae h7 with⟨hc9,h7⟩|⟨hc9,h7⟩
       ·refine aa.aE (b:=o3) (by kernel_rfl) hc9 ?_
        refine aa.af tied [] [] [] [] (by kernel_rfl) trivial ?_
        refine aa.ret ?_
        obtain rfl:=Option.some.inj h7
        dsimp only at h6
        obtain rfl:=Option.some.inj h6
        dsimp only at h
        obtain rfl:=Option.some.inj h
        exact(au [] [some .bool] (cq 82 []) (by kernel_rfl)).1
       ·refine aa.aF (b:=o3) (by kernel_rfl) hc9 ?_
        refine aa.skip ?_
        refine bN ?_
        obtain rfl:=Option.some.inj h7
        exact jQ.mk [.an [0,1,5] []] (by kernel_rfl) ⟨_,rfl,rfl⟩
     ·rintro _ ⟨v10,rfl,rfl⟩
      dsimp only at h6
      refine aa.br tied [] [] [] [] (by kernel_rfl) trivial ?_
      exact aB.mk [.an [0,1,5] []] (by kernel_rfl) ⟨_,h6,rfl⟩
    ·refine aa.aF (b:=decide (u1_0<(List.length a0:Int))) (by kernel_rfl) hc12 ?_
     refine aa.exit ?_
     refine tE ?_
     refine lE ?_
     refine bE ?_
     obtain rfl:=Option.some.inj h6
     exact jQ.mk [.an [] []] (by kernel_rfl) ⟨_,rfl,rfl⟩
  ·rintro _ ⟨v13,rfl,rfl⟩
   dsimp only at h
   refine aa.af tied [] [] [] [] (by kernel_rfl) trivial ?_
   refine aa.ret ?_
   obtain rfl:=Option.some.inj h
   exact(au [] [some .bool] (cq 82 []) (by kernel_rfl)).1
def ky(a0:List Int)(a1:List Int):Nat→Int→Option (c6 Unit Bool)
 |0,_=>none
 |n1+1,u1_0=>if(decide (u1_0<(List.length a0:Int)))=true then(if 0≤u1_0∧u1_0<(List.length a0:Int) then(if u1_0<(List.length a1:Int) then(if(!decide ((nth (.int .i64) a0 u1_0)=(nth (.int .i64) a1 u1_0)))=true then(some (.ret false)) else(ky a0 a1 n1 (aP (u1_0+(1:Int))))) else none) else none) else(some (.bh ()))
def f65(a0:List Int)(a1:List Int):Option Bool:=
 if(!decide ((List.length a0:Int)=(List.length a1:Int)))=true then(some false) else(Option.bind (ky a0 a1 (List.length a0+1) (0:Int)) fun(o1:c6 Unit Bool)=>match o1 with| .bh _v6=>(some true)| .ret r7=>(some r7))
set_option maxRecDepth 100000 in
theorem DL(a0:List Int)(a1:List Int)(r:Bool)(h:f65 a0 a1=some r):Fc Tryz.prog gl 65 [(.val (.slice 8 (.int .i64)) a0),(.val (.slice 8 (.int .i64)) a1)] (aj (List.replicate 66 none) []) (.ret (.val .bool r)) (aq 66 []):=by
 refine Fc.of Tryz.call65 (bz.aD tied Tryz.func65 rfl rfl (σ0:=ar 26 66 [(0,(.val (.slice 8 (.int .i64)) a0)),(1,(.val (.slice 8 (.int .i64)) a1))] []) (by kernel_rfl) ?_)
 unfold f65 at h
 refine aa.af tied [] [] [] [] (by kernel_rfl) trivial ?_
 refine aa.seq ?_
 refine aa.af tied [] [] [] [] (by kernel_rfl) trivial ?_
 rcases ae h with⟨hc8,h⟩|⟨hc8,h⟩
 ·refine aa.aE (b:= !decide ((List.length a0:Int)=(List.length a1:Int))) (by kernel_rfl) hc8 ?_
  refine aa.af tied [] [] [] [] (by kernel_rfl) trivial ?_
  refine aa.ret ?_
  obtain rfl:=Option.some.inj h
  exact(au [] [some .bool] (cq 66 []) (by kernel_rfl)).1
 ·refine aa.aF (b:= !decide ((List.length a0:Int)=(List.length a1:Int))) (by kernel_rfl) hc8 ?_
  refine aa.skip ?_
  change aa _ _ _ _ _
  obtain⟨o1,h1,h⟩:=bind_some h
  refine aa.ba (fun σ'=>∃v6,o1= .bh v6∧σ'=ar 26 66 [] []) ?_ ?_
  ·refine aa.af tied [] [] [] [] (by kernel_rfl) trivial ?_
   refine aa.block ?_
   refine aa.aB (fun n σ=>∃(u1_0:Int),ky a0 a1 n u1_0=some o1∧σ=ar 26 66 [(0,(.val (.slice 8 (.int .i64)) a0)),(1,(.val (.slice 8 (.int .i64)) a1)),(12,(.val (.int .i64) (List.length a0:Int))),(13,(.val (.int .i64) u1_0))] []) [.an [0,1,12,13] []] (by kernel_rfl) ⟨_,h1,rfl⟩ ?_
   rintro n1 _ ⟨u1_0,h3,rfl⟩
   cases n1 with
   |zero=>exact absurd h3 (by simp[ky])
   |
    succ n1=>
    unfold ky at h3
    refine aa.af tied [] [] [] [] (by kernel_rfl) trivial ?_
    refine aa.seq ?_
    rcases ae h3 with⟨hc5,h3⟩|⟨hc5,h3⟩
    ·refine aa.aE (b:=decide (u1_0<(List.length a0:Int))) (by kernel_rfl) hc5 ?_
     refine aa.skip ?_
     change aa _ _ _ _ _
     refine aa.seq ?_
     refine aa.block ?_
     refine aa.af tied [] [] [] [] (by kernel_rfl) trivial ?_
     obtain⟨hv2,h3⟩:=ah h3
     obtain⟨hv3,h3⟩:=ah h3
     refine aa.gn tied [] [] [] [0≤u1_0,u1_0<(List.length a0:Int),0≤u1_0,u1_0<(List.length a1:Int)] (by kernel_rfl) ⟨hv2.1,hv2.2,hv2.1,hv3,trivial⟩ ?_
     rcases ae h3 with⟨hc4,h3⟩|⟨hc4,h3⟩
     ·refine aa.aE (b:= !decide ((nth (.int .i64) a0 u1_0)=(nth (.int .i64) a1 u1_0))) (by kernel_rfl) hc4 ?_
      refine aa.af tied [] [] [] [] (by kernel_rfl) trivial ?_
      refine aa.ret ?_
      obtain rfl:=Option.some.inj h3
      dsimp only at h
      obtain rfl:=Option.some.inj h
      exact(au [] [some .bool] (cq 66 []) (by kernel_rfl)).1
     ·refine aa.aF (b:= !decide ((nth (.int .i64) a0 u1_0)=(nth (.int .i64) a1 u1_0))) (by kernel_rfl) hc4 ?_
      refine aa.skip ?_
      refine bN ?_
      change aa _ _ _ _ _
      refine aa.br tied [] [] [] [] (by kernel_rfl) trivial ?_
      exact aB.mk [.an [0,1,12,13] []] (by kernel_rfl) ⟨_,h3,rfl⟩
    ·refine aa.aF (b:=decide (u1_0<(List.length a0:Int))) (by kernel_rfl) hc5 ?_
     refine aa.exit ?_
     refine tE ?_
     refine lE ?_
     refine bE ?_
     obtain rfl:=Option.some.inj h3
     exact jQ.mk [.an [] []] (by kernel_rfl) ⟨_,rfl,rfl⟩
  ·rintro _ ⟨v6,rfl,rfl⟩
   dsimp only at h
   refine aa.af tied [] [] [] [] (by kernel_rfl) trivial ?_
   refine aa.ret ?_
   obtain rfl:=Option.some.inj h
   exact(au [] [some .bool] (cq 66 []) (by kernel_rfl)).1
def kz(a0:List aU)(a1:List aU):Nat→Int→Option (c6 Unit Bool)
 |0,_=>none
 |n1+1,u1_0=>if(decide (u1_0<(List.length a0:Int)))=true then(if 0≤u1_0∧u1_0<(List.length a0:Int) then(if u1_0<(List.length a1:Int) then(if(!av ao (nth ao a0 u1_0) (nth ao a1 u1_0))=true then(some (.ret false)) else(kz a0 a1 n1 (aP (u1_0+(1:Int))))) else none) else none) else(some (.bh ()))
def f36(a0:List aU)(a1:List aU):Option Bool:=
 if(!decide ((List.length a0:Int)=(List.length a1:Int)))=true then(some false) else(Option.bind (kz a0 a1 (List.length a0+1) (0:Int)) fun(o1:c6 Unit Bool)=>match o1 with| .bh _v6=>(some true)| .ret r7=>(some r7))
set_option maxRecDepth 100000 in
theorem IP(a0:List aU)(a1:List aU)(r:Bool)(h:f36 a0 a1=some r):Fc Tryz.prog gl 36 [(.val (.slice 32 ao) a0),(.val (.slice 32 ao) a1)] (aj (List.replicate 66 none) []) (.ret (.val .bool r)) (aq 66 []):=by
 refine Fc.of Tryz.call36 (bz.aD tied Tryz.func36 rfl rfl (σ0:=ar 26 66 [(0,(.val (.slice 32 ao) a0)),(1,(.val (.slice 32 ao) a1))] []) (by kernel_rfl) ?_)
 unfold f36 at h
 refine aa.af tied [] [] [] [] (by kernel_rfl) trivial ?_
 refine aa.seq ?_
 refine aa.af tied [] [] [] [] (by kernel_rfl) trivial ?_
 rcases ae h with⟨hc8,h⟩|⟨hc8,h⟩
 ·refine aa.aE (b:= !decide ((List.length a0:Int)=(List.length a1:Int))) (by kernel_rfl) hc8 ?_
  refine aa.af tied [] [] [] [] (by kernel_rfl) trivial ?_
  refine aa.ret ?_
  obtain rfl:=Option.some.inj h
  exact(au [] [some .bool] (cq 66 []) (by kernel_rfl)).1
 ·refine aa.aF (b:= !decide ((List.length a0:Int)=(List.length a1:Int))) (by kernel_rfl) hc8 ?_
  refine aa.skip ?_
  change aa _ _ _ _ _
  obtain⟨o1,h1,h⟩:=bind_some h
  refine aa.ba (fun σ'=>∃v6,o1= .bh v6∧σ'=ar 26 66 [] []) ?_ ?_
  ·refine aa.af tied [] [] [] [] (by kernel_rfl) trivial ?_
   refine aa.block ?_
   refine aa.aB (fun n σ=>∃(u1_0:Int),kz a0 a1 n u1_0=some o1∧σ=ar 26 66 [(0,(.val (.slice 32 ao) a0)),(1,(.val (.slice 32 ao) a1)),(12,(.val (.int .i64) (List.length a0:Int))),(13,(.val (.int .i64) u1_0))] []) [.an [0,1,12,13] []] (by kernel_rfl) ⟨_,h1,rfl⟩ ?_
   rintro n1 _ ⟨u1_0,h3,rfl⟩
   cases n1 with
   |zero=>exact absurd h3 (by simp[kz])
   |
    succ n1=>
    unfold kz at h3
    refine aa.af tied [] [] [] [] (by kernel_rfl) trivial ?_
    refine aa.seq ?_
    rcases ae h3 with⟨hc5,h3⟩|⟨hc5,h3⟩
    ·refine aa.aE (b:=decide (u1_0<(List.length a0:Int))) (by kernel_rfl) hc5 ?_
     refine aa.skip ?_
     change aa _ _ _ _ _
     refine aa.seq ?_
     refine aa.block ?_
     refine aa.af tied [] [] [] [] (by kernel_rfl) trivial ?_
     obtain⟨hv2,h3⟩:=ah h3
     obtain⟨hv3,h3⟩:=ah h3
     refine aa.gn tied [] [] [] [0≤u1_0,u1_0<(List.length a0:Int),0≤u1_0,u1_0<(List.length a1:Int),bG Tryz.prog G 40 28 ao=true,Tryz.prog.eqGuardType Tryz.prog.depth 28=false] (by kernel_rfl) ⟨hv2.1,hv2.2,hv2.1,hv3,bn,bx,trivial⟩ ?_
     rcases ae h3 with⟨hc4,h3⟩|⟨hc4,h3⟩
     ·refine aa.aE (b:= !av ao (nth ao a0 u1_0) (nth ao a1 u1_0)) (by kernel_rfl) hc4 ?_
      refine aa.af tied [] [] [] [] (by kernel_rfl) trivial ?_
      refine aa.ret ?_
      obtain rfl:=Option.some.inj h3
      dsimp only at h
      obtain rfl:=Option.some.inj h
      exact(au [] [some .bool] (cq 66 []) (by kernel_rfl)).1
     ·refine aa.aF (b:= !av ao (nth ao a0 u1_0) (nth ao a1 u1_0)) (by kernel_rfl) hc4 ?_
      refine aa.skip ?_
      refine bN ?_
      change aa _ _ _ _ _
      refine aa.br tied [] [] [] [] (by kernel_rfl) trivial ?_
      exact aB.mk [.an [0,1,12,13] []] (by kernel_rfl) ⟨_,h3,rfl⟩
    ·refine aa.aF (b:=decide (u1_0<(List.length a0:Int))) (by kernel_rfl) hc5 ?_
     refine aa.exit ?_
     refine tE ?_
     refine lE ?_
     refine bE ?_
     obtain rfl:=Option.some.inj h3
     exact jQ.mk [.an [] []] (by kernel_rfl) ⟨_,rfl,rfl⟩
  ·rintro _ ⟨v6,rfl,rfl⟩
   dsimp only at h
   refine aa.af tied [] [] [] [] (by kernel_rfl) trivial ?_
   refine aa.ret ?_
   obtain rfl:=Option.some.inj h
   exact(au [] [some .bool] (cq 66 []) (by kernel_rfl)).1
def f67(a0:lZ)(a1:lZ):Option Bool:=
 Option.bind (if(decide (a0.1=a1.1))=true then(Option.bind (f36 a0.2.1 a1.2.1) fun y3=>if y3=true then(Option.bind (f36 a0.2.2.1 a1.2.2.1) fun y6=>some y6) else(some false)) else(some false)) fun(o1:Bool)=>some o1
set_option maxRecDepth 100000 in
theorem Lj(a0:lZ)(a1:lZ)(r:Bool)(h:f67 a0 a1=some r):Fc Tryz.prog gl 67 [(.val fw a0),(.val fw a1)] (aj (List.replicate 64 none) []) (.ret (.val .bool r)) (aq 64 []):=by
 refine Fc.of Tryz.call67 (bz.aD tied Tryz.func67 rfl rfl (σ0:=ar 24 64 [(0,(.val fw a0)),(1,(.val fw a1))] []) (by kernel_rfl) ?_)
 unfold f67 at h
 refine aa.af tied [] [] [] [] (by kernel_rfl) trivial ?_
 obtain⟨o1,h1,h⟩:=bind_some h
 refine aa.ba (fun σ'=>σ'=ar 24 64 [(4,(.val .bool o1))] []) ?_ ?_
 ·rcases ae h1 with⟨hg2,h1⟩|⟨hg2,h1⟩
  ·obtain⟨y3,hy4,h1⟩:=bind_some h1
   rcases ae h1 with⟨hg5,h1⟩|⟨hg5,h1⟩
   ·obtain⟨y6,hy7,h1⟩:=bind_some h1
    refine aa.br tied [⟨(.val .bool y3),[],[],[],66⟩,⟨(.val .bool y6),[],[],[],66⟩] [true,true] [] [(decide (a0.1=a1.1))=true,Fc Tryz.prog gl 36 [(.val (.slice 32 ao) a0.2.1),(.val (.slice 32 ao) a1.2.1)] (aj (List.replicate 66 none) []) (.ret (.val .bool y3)) (aq 66 []),y3=true,Fc Tryz.prog gl 36 [(.val (.slice 32 ao) a0.2.2.1),(.val (.slice 32 ao) a1.2.2.1)] (aj (List.replicate 66 none) []) (.ret (.val .bool y6)) (aq 66 [])] (by kernel_rfl) ⟨hg2,IP _ _ _ hy4,hg5,IP _ _ _ hy7,trivial⟩ ?_
    obtain rfl:=Option.some.inj h1
    exact jQ.mk [.an [4] []] (by kernel_rfl) rfl
   ·refine aa.br tied [⟨(.val .bool y3),[],[],[],66⟩] [true,false] [] [(decide (a0.1=a1.1))=true,Fc Tryz.prog gl 36 [(.val (.slice 32 ao) a0.2.1),(.val (.slice 32 ao) a1.2.1)] (aj (List.replicate 66 none) []) (.ret (.val .bool y3)) (aq 66 []),y3=false] (by kernel_rfl) ⟨hg2,IP _ _ _ hy4,hg5,trivial⟩ ?_
    obtain rfl:=Option.some.inj h1
    exact jQ.mk [.an [4] []] (by kernel_rfl) rfl
  ·refine aa.br tied [] [false,false] [] [(decide (a0.1=a1.1))=false,false=false] (by kernel_rfl) ⟨hg2,rfl,trivial⟩ ?_
   obtain rfl:=Option.some.inj h1
   exact jQ.mk [.an [4] []] (by kernel_rfl) rfl
 ·rintro _ rfl
  refine aa.ret ?_
  obtain rfl:=Option.some.inj h
  exact(au [] [some .bool] (cq 64 []) (by kernel_rfl)).1
def eW(a0:List lZ)(a1:List lZ):Nat→Int→Option (c6 Unit Bool)
 |0,_=>none
 |n1+1,u1_0=>if(decide (u1_0<(List.length a0:Int)))=true then(if 0≤u1_0∧u1_0<(List.length a0:Int) then(if u1_0<(List.length a1:Int) then(Option.bind (f67 (nth fw a0 u1_0) (nth fw a1 u1_0)) fun y4=>if(!y4)=true then(some (.ret false)) else(eW a0 a1 n1 (aP (u1_0+(1:Int))))) else none) else none) else(some (.bh ()))
def qe(a0:List lZ)(a1:List lZ):Option Bool:=
 if(!decide ((List.length a0:Int)=(List.length a1:Int)))=true then(some false) else(Option.bind (eW a0 a1 (List.length a0+1) (0:Int)) fun(o1:c6 Unit Bool)=>match o1 with| .bh _v8=>(some true)| .ret r9=>(some r9))
set_option maxRecDepth 100000 in
theorem F4(a0:List lZ)(a1:List lZ)(r:Bool)(h:qe a0 a1=some r):Fc Tryz.prog gl 66 [(.val (.slice 56 fw) a0),(.val (.slice 56 fw) a1),(.func (.func 67) .nil .nil)] (aj (List.replicate 72 none) []) (.ret (.val .bool r)) (aq 72 []):=by
 refine Fc.of Tryz.call66 (bz.aD tied Tryz.func66 rfl rfl (σ0:=ar 32 72 [(0,(.val (.slice 56 fw) a0)),(1,(.val (.slice 56 fw) a1)),(2,(.func (.func 67) .nil .nil))] []) (by kernel_rfl) ?_)
 unfold qe at h
 refine aa.af tied [] [] [] [] (by kernel_rfl) trivial ?_
 refine aa.seq ?_
 refine aa.af tied [] [] [] [] (by kernel_rfl) trivial ?_
 rcases ae h with⟨hc10,h⟩|⟨hc10,h⟩
 ·refine aa.aE (b:= !decide ((List.length a0:Int)=(List.length a1:Int))) (by kernel_rfl) hc10 ?_
  refine aa.af tied [] [] [] [] (by kernel_rfl) trivial ?_
  refine aa.ret ?_
  obtain rfl:=Option.some.inj h
  exact(au [] [some .bool] (cq 72 []) (by kernel_rfl)).1
 ·refine aa.aF (b:= !decide ((List.length a0:Int)=(List.length a1:Int))) (by kernel_rfl) hc10 ?_
  refine aa.skip ?_
  change aa _ _ _ _ _
  obtain⟨o1,h1,h⟩:=bind_some h
  refine aa.ba (fun σ'=>∃v8,o1= .bh v8∧σ'=ar 32 72 [] []) ?_ ?_
  ·refine aa.af tied [] [] [] [] (by kernel_rfl) trivial ?_
   refine aa.block ?_
   refine aa.aB (fun n σ=>∃(u1_0:Int),eW a0 a1 n u1_0=some o1∧σ=ar 32 72 [(1,(.val (.slice 56 fw) a1)),(2,(.func (.func 67) .nil .nil)),(15,(.val (.slice 56 fw) a0)),(16,(.val (.int .i64) (List.length a0:Int))),(17,(.val (.int .i64) u1_0))] []) [.an [1,2,15,16,17] []] (by kernel_rfl) ⟨_,h1,rfl⟩ ?_
   rintro n1 _ ⟨u1_0,h3,rfl⟩
   cases n1 with
   |zero=>exact absurd h3 (by simp[eW])
   |
    succ n1=>
    unfold eW at h3
    refine aa.af tied [] [] [] [] (by kernel_rfl) trivial ?_
    refine aa.seq ?_
    rcases ae h3 with⟨hc7,h3⟩|⟨hc7,h3⟩
    ·refine aa.aE (b:=decide (u1_0<(List.length a0:Int))) (by kernel_rfl) hc7 ?_
     refine aa.skip ?_
     change aa _ _ _ _ _
     refine aa.seq ?_
     refine aa.block ?_
     obtain⟨hv2,h3⟩:=ah h3
     refine aa.af tied [] [] [] [0≤u1_0,u1_0<(List.length a0:Int)] (by kernel_rfl) ⟨hv2.1,hv2.2,trivial⟩ ?_
     obtain⟨hv3,h3⟩:=ah h3
     refine aa.af tied [] [] [] [0≤u1_0,u1_0<(List.length a1:Int)] (by kernel_rfl) ⟨hv2.1,hv3,trivial⟩ ?_
     obtain⟨y4,hy5,h3⟩:=bind_some h3
     refine aa.af tied [⟨(.val .bool y4),[],[],[],64⟩] [] [] [Fc Tryz.prog gl 67 [(.val fw (nth fw a0 u1_0)),(.val fw (nth fw a1 u1_0))] (aj (List.replicate 64 none) []) (.ret (.val .bool y4)) (aq 64 [])] (by kernel_rfl) ⟨Lj _ _ _ hy5,trivial⟩ ?_
     rcases ae h3 with⟨hc6,h3⟩|⟨hc6,h3⟩
     ·refine aa.aE (b:= !y4) (by kernel_rfl) hc6 ?_
      refine aa.af tied [] [] [] [] (by kernel_rfl) trivial ?_
      refine aa.ret ?_
      obtain rfl:=Option.some.inj h3
      dsimp only at h
      obtain rfl:=Option.some.inj h
      exact(au [] [some .bool] (cq 72 []) (by kernel_rfl)).1
     ·refine aa.aF (b:= !y4) (by kernel_rfl) hc6 ?_
      refine aa.skip ?_
      refine bN ?_
      change aa _ _ _ _ _
      refine aa.br tied [] [] [] [] (by kernel_rfl) trivial ?_
      exact aB.mk [.an [1,2,15,16,17] []] (by kernel_rfl) ⟨_,h3,rfl⟩
    ·refine aa.aF (b:=decide (u1_0<(List.length a0:Int))) (by kernel_rfl) hc7 ?_
     refine aa.exit ?_
     refine tE ?_
     refine lE ?_
     refine bE ?_
     obtain rfl:=Option.some.inj h3
     exact jQ.mk [.an [] []] (by kernel_rfl) ⟨_,rfl,rfl⟩
  ·rintro _ ⟨v8,rfl,rfl⟩
   dsimp only at h
   refine aa.af tied [] [] [] [] (by kernel_rfl) trivial ?_
   refine aa.ret ?_
   obtain rfl:=Option.some.inj h
   exact(au [] [some .bool] (cq 72 []) (by kernel_rfl)).1
end Go.Proofs.YtjabllhapfphoaaGreatDoor
