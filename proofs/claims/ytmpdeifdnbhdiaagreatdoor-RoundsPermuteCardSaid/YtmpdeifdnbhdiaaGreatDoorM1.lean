/- Made by program (dec.py): walks -/
import Derived.Test.YtmpdeifdnbhdiaaGreatDoorY1
import Derived.Test.YtmpdeifdnbhdiaaGreatDoorH2
namespace Go.Proofs.YtmpdeifdnbhdiaaGreatDoor
open Go.Abs
def wX(a0:List (Int×Int)):Option (List (Int×Int)):=
 some a0
set_option maxRecDepth 100000 in
theorem Fw(a0:List (Int×Int))(r:List (Int×Int))(h:wX a0=some r):Fc Tryz.prog gl 25 [(.mp 0)] (aq (List.replicate 44 none) [(0,some (.map (.int .i64) (.int .i64) a0))]) (.ret (.func (.func 50) .nil (.cons (.ptr 17 []) .nil))) (aN 44 [(0,(.map (.int .i64) (.int .i64) r)),(17,(.var (.av .map) (.mp 0)))]):=by
 refine Fc.of Tryz.call25 (dq.aU tied Tryz.func25 rfl rfl (σ0:=az 4 44 [(0,(.mp 0))] [(0,some (.map (.int .i64) (.int .i64) a0))]) (by kernel_rfl) ?_)
 unfold wX at h
 refine ab.ak tied [] [] [] [] (by kernel_rfl) trivial ?_
 refine ab.ak tied [] [] [] [] (by kernel_rfl) trivial ?_
 refine ab.ret ?_
 obtain rfl:=Option.some.inj h
 exact(aG [.ar [2] [0,17]] [none] (fo 44 [0,17]) (by kernel_rfl)).1
def Bn(a0:List (Int×Int)):Option (List Int):=rQ a0
set_option maxRecDepth 100000 in
theorem Fx(a0:List (Int×Int))(r:List Int)(h:Bn a0=some r):Fc Tryz.prog gl 24 [(.func (.func 50) .nil (.cons (.ptr 0 []) .nil))] (aq (List.replicate 49 none) [(0,some (.var (.av .map) (.mp 1))),(1,some (.map (.int .i64) (.int .i64) a0))]) (.ret (.own 23)) (aN 49 [(0,(.var (.av .map) (.mp 1))),(1,(.map (.int .i64) (.int .i64) a0)),(23,(.row 3 8 (.int .i64) r))]):=
 DB Gp sortedA EG (fun h=>h) Tryz.call24 Tryz.call49 Tryz.call50 (by exact h) 49 23 (by decide) (by decide) (by decide)
def iP(a0:List Jp):Nat→Int→(List (Int×Int))→Option (List (Int×Int))
 |0,_,_=>none
 |n1+1,u1_0,u1_1=>if(decide (u1_0<(List.length a0:Int)))=true then(if 0≤u1_0∧u1_0<(List.length a0:Int) then(if List.length u1_1+1≤aO then(iP a0 n1 (ao (u1_0+(1:Int))) (eU (.int .i64) ((nth Bk a0 u1_0).1) (ao ((fR (.int .i64) (.int .i64) ((nth Bk a0 u1_0).1) u1_1)+(1:Int))) u1_1)) else none) else none) else(some u1_1)
def fW(y5:List (Int×Int))(y7:List Int):Nat→Int→(List Int)→Option (List Int)
 |0,_,_=>none
 |n2+1,u2_0,u2_1=>if(decide (u2_0<(List.length y7:Int)))=true then(if 0≤u2_0∧u2_0<(List.length y7:Int) then(if(List.length u2_1+List.length [fR (.int .i64) (.int .i64) (nth (.int .i64) y7 u2_0) y5])*8≤aO then(fW y5 y7 n2 (ao (u2_0+(1:Int))) (u2_1++[fR (.int .i64) (.int .i64) (nth (.int .i64) y7 u2_0) y5])) else none) else none) else(some u2_1)
def ye(a0:List Jp):Option ((List Int)×(List Int)):=
 Option.bind (iP a0 (List.length a0+1) (0:Int) ([]:List (Int×Int))) fun(o1:List (Int×Int))=>Option.bind (wX o1) fun y5=>Option.bind (Bn y5) fun y7=>Option.bind (fW y5 y7 (List.length y7+1) (0:Int) ([]:List Int)) fun(o9:List Int)=>some (y7,o9)
set_option maxRecDepth 100000 in
theorem HF(a0:List Jp)(r:(List Int)×(List Int))(h:ye a0=some r):Fc Tryz.prog gl 8 [(.val (.slice 72 Bk) a0)] (aq (List.replicate 80 none) []) (.ret (.bJ (.cons (.own 40) (.cons (.own 57) .nil)))) (aN 80 [(40,(.row 3 8 (.int .i64) r.1)),(57,(.row 3 8 (.int .i64) r.2))]):=by
 refine Fc.of Tryz.call8 (dq.aU tied Tryz.func8 rfl rfl (σ0:=az 40 80 [(0,(.val (.slice 72 Bk) a0))] []) (by kernel_rfl) ?_)
 unfold ye at h
 refine ab.ak tied [] [] [] [] (by kernel_rfl) trivial ?_
 refine ab.ak tied [] [] [] [] (by kernel_rfl) trivial ?_
 obtain⟨o1,h1,h⟩:=bind_some h
 refine ab.bV (fun σ'=>σ'=az 40 80 [(3,.dR),(4,(.mp 25))] [(25,some (.map (.int .i64) (.int .i64) o1))]) ?_ ?_
 ·refine ab.ak tied [] [] [] [] (by kernel_rfl) trivial ?_
  refine ab.block ?_
  refine ab.aM (fun n σ=>∃(u1_0:Int)(u1_1:List (Int×Int)),iP a0 n u1_0 u1_1=some o1∧σ=az 40 80 [(3,.dR),(4,(.mp 25)),(10,(.val (.slice 72 Bk) a0)),(11,(.val (.int .i64) (List.length a0:Int))),(12,(.val (.int .i64) u1_0))] [(25,some (.map (.int .i64) (.int .i64) u1_1))]) [.ar [3,4,10,11,12] [25]] (by kernel_rfl) ⟨_,_,h1,rfl⟩ ?_
  rintro n1 _ ⟨u1_0,u1_1,h3,rfl⟩
  cases n1 with
  |zero=>exact absurd h3 (by simp[iP])
  |
   succ n1=>
   unfold iP at h3
   refine ab.ak tied [] [] [] [] (by kernel_rfl) trivial ?_
   refine ab.seq ?_
   rcases aj h3 with⟨hc4,h3⟩|⟨hc4,h3⟩
   ·refine ab.aI (b:=decide (u1_0<(List.length a0:Int))) (by kernel_rfl) hc4 ?_
    refine ab.skip ?_
    change ab _ _ _ _ _
    refine ab.seq ?_
    refine ab.block ?_
    obtain⟨hv2,h3⟩:=ai h3
    refine ab.ak tied [] [] [] [0≤u1_0,u1_0<(List.length a0:Int)] (by kernel_rfl) ⟨hv2.1,hv2.2,trivial⟩ ?_
    obtain⟨hv3,h3⟩:=ai h3
    refine ab.eI tied [] [] [] [gr Tryz.prog G 40 3 (.int .i64)=true,gr Tryz.prog G 40 3 (.int .i64)=true,List.length u1_1+1≤aO] (by kernel_rfl) ⟨ui,ui,hv3,trivial⟩ ?_
    refine bN ?_
    change ab _ _ _ _ _
    refine ab.eI tied [] [] [] [] (by kernel_rfl) trivial ?_
    exact aM.mk [.ar [3,4,10,11,12] [25]] (by kernel_rfl) ⟨_,_,h3,rfl⟩
   ·refine ab.aH (b:=decide (u1_0<(List.length a0:Int))) (by kernel_rfl) hc4 ?_
    refine ab.exit ?_
    refine tE ?_
    refine lE ?_
    refine bE ?_
    obtain rfl:=Option.some.inj h3
    exact jQ.mk [.ar [3,4] [25]] (by kernel_rfl) rfl
 ·rintro _ rfl
  obtain⟨y5,hy6,h⟩:=bind_some h
  obtain⟨y7,hy8,h⟩:=bind_some h
  refine ab.ak tied [⟨(.func (.func 50) .nil (.cons (.ptr 17 []) .nil)),[(0,25)],[(17,39)],[(0,(.map (.int .i64) (.int .i64) y5)),(17,(.var (.av .map) (.mp 0)))],44⟩,⟨(.own 23),[(0,39),(1,25)],[(23,40)],[(0,(.var (.av .map) (.mp 1))),(1,(.map (.int .i64) (.int .i64) y5)),(23,(.row 3 8 (.int .i64) y7))],49⟩] [] [] [Fc Tryz.prog gl 25 [(.mp 0)] (aq (List.replicate 44 none) [(0,some (.map (.int .i64) (.int .i64) o1))]) (.ret (.func (.func 50) .nil (.cons (.ptr 17 []) .nil))) (aN 44 [(0,(.map (.int .i64) (.int .i64) y5)),(17,(.var (.av .map) (.mp 0)))]),Fc Tryz.prog gl 24 [(.func (.func 50) .nil (.cons (.ptr 0 []) .nil))] (aq (List.replicate 49 none) [(0,some (.var (.av .map) (.mp 1))),(1,some (.map (.int .i64) (.int .i64) y5))]) (.ret (.own 23)) (aN 49 [(0,(.var (.av .map) (.mp 1))),(1,(.map (.int .i64) (.int .i64) y5)),(23,(.row 3 8 (.int .i64) y7))])] (by kernel_rfl) ⟨Fw _ _ hy6,Fx _ _ hy8,trivial⟩ ?_
  obtain⟨o9,h4,h⟩:=bind_some h
  refine ab.bV (fun σ'=>σ'=az 40 80 [(2,(.own 40)),(3,(.own 57))] [(40,some (.row 3 8 (.int .i64) y7)),(57,some (.row 3 8 (.int .i64) o9))]) ?_ ?_
  ·refine ab.ak tied [] [] [] [] (by kernel_rfl) trivial ?_
   refine ab.block ?_
   refine ab.aM (fun n σ=>∃(u2_0:Int)(u2_1:List Int),fW y5 y7 n u2_0 u2_1=some o9∧σ=az 40 80 [(2,(.own 40)),(3,(.own 56)),(4,(.mp 25)),(25,(.own 40)),(26,(.val (.int .i64) (List.length y7:Int))),(27,(.val (.int .i64) u2_0))] [(25,some (.map (.int .i64) (.int .i64) y5)),(40,some (.row 3 8 (.int .i64) y7)),(56,some (.row 3 8 (.int .i64) u2_1))]) [.ar [2,3,4,25,26,27] [25,40],.qc 3 56 3 8 (.int .i64)] (by kernel_rfl) ⟨_,_,h4,rfl⟩ ?_
   rintro n2 _ ⟨u2_0,u2_1,h6,rfl⟩
   cases n2 with
   |zero=>exact absurd h6 (by simp[fW])
   |
    succ n2=>
    unfold fW at h6
    refine ab.ak tied [] [] [] [] (by kernel_rfl) trivial ?_
    refine ab.seq ?_
    rcases aj h6 with⟨hc12,h6⟩|⟨hc12,h6⟩
    ·refine ab.aI (b:=decide (u2_0<(List.length y7:Int))) (by kernel_rfl) hc12 ?_
     refine ab.skip ?_
     change ab _ _ _ _ _
     refine ab.seq ?_
     refine ab.block ?_
     obtain⟨hv10,h6⟩:=ai h6
     refine ab.ak tied [] [] [] [0≤u2_0,u2_0<(List.length y7:Int)] (by kernel_rfl) ⟨hv10.1,hv10.2,trivial⟩ ?_
     obtain⟨hv11,h6⟩:=ai h6
     refine ab.eI tied [] [] [] [gr Tryz.prog G 40 3 (.int .i64)=true,(List.length u2_1+List.length [fR (.int .i64) (.int .i64) (nth (.int .i64) y7 u2_0) y5])*8≤aO] (by kernel_rfl) ⟨ui,hv11,trivial⟩ ?_
     refine bN ?_
     change ab _ _ _ _ _
     refine ab.eI tied [] [] [] [] (by kernel_rfl) trivial ?_
     exact aM.mk [.ar [2,3,4,25,26,27] [25,40,52],.D7 52 56] (by kernel_rfl) ⟨_,_,h6,rfl⟩
    ·refine ab.aH (b:=decide (u2_0<(List.length y7:Int))) (by kernel_rfl) hc12 ?_
     refine ab.exit ?_
     refine tE ?_
     refine lE ?_
     refine bE ?_
     obtain rfl:=Option.some.inj h6
     exact jQ.mk [.ar [2,3] [40,56],.D7 56 57] (by kernel_rfl) rfl
  ·rintro _ rfl
   refine ab.ak tied [] [] [] [] (by kernel_rfl) trivial ?_
   refine ab.ret ?_
   obtain rfl:=Option.some.inj h
   exact(aG [.ar [2,3] [40,57]] [none,none] (fo 80 [40,57]) (by kernel_rfl)).1
end Go.Proofs.YtmpdeifdnbhdiaaGreatDoor
