/- Made by program (dec.py): walks -/
import Derived.Test.YtmpdeifdnbhdiaaGreatDoorY1
import Derived.Test.YtmpdeifdnbhdiaaGreatDoorH2
set_option maxRecDepth 100000
namespace Go.Proofs.YtmpdeifdnbhdiaaGreatDoor
open Go.Abs
def qV(a0:List (Int×Int)):Option (List (Int×Int)):=
 some a0
abbrev yu(a0:List (Int×Int))(r:List (Int×Int)):Prop:=Fc Tryz.prog gl 25 [(.mp 0)] (aA (List.replicate 44 none) [(0,some (.map (.int .i64) (.int .i64) a0))]) (.ret (.func (.func 50) .nil (.cons (.ptr 17 []) .nil))) (bz 44 [(0,(.map (.int .i64) (.int .i64) r)),(17,(.var (.au .map) (.mp 0)))])
theorem C2(a0:List (Int×Int))(r:List (Int×Int))(h:qV a0=some r):yu a0 r:=by
 refine Fc.of Tryz.call25 (bW.aG tied Tryz.func25 rfl rfl (σ0:=ao 4 44 [(0,(.mp 0))] [(0,some (.map (.int .i64) (.int .i64) a0))]) (by kernel_rfl) ?_)
 unfold qV at h
 refine aF ?_
 refine aF ?_
 refine ai.ret ?_
 obtain rfl:=Option.some.inj h
 exact(av [.ak [2] [0,17]] [none] (cL 44 [0,17]) (by kernel_rfl)).1
def uP(a0:List (Int×Int)):Option (List Int):=rk a0
theorem C3(a0:List (Int×Int))(r:List Int)(h:uP a0=some r):Fc Tryz.prog gl 24 [(.func (.func 50) .nil (.cons (.ptr 0 []) .nil))] (aA (List.replicate 49 none) [(0,some (.var (.au .map) (.mp 1))),(1,some (.map (.int .i64) (.int .i64) a0))]) (.ret (.own 23)) (bz 49 [(0,(.var (.au .map) (.mp 1))),(1,(.map (.int .i64) (.int .i64) a0)),(23,(.row 3 8 (.int .i64) r))]):=
 FF KO Em Ja (fun h=>h) Tryz.call24 Tryz.call49 Tryz.call50 (by exact h) 49 23 (by decide) (by decide) (by decide)
def jk(a0:List cY):Nat→Int→(List (Int×Int))→Option (List (Int×Int))
 |0,_,_=>none
 |n1+1,RS,RU=>if(decide (RS<(List.length a0:Int)))=true then(if 0≤RS∧RS<(List.length a0:Int) then(if List.length RU+1≤az then(jk a0 n1 (al (RS+(1:Int))) (eo (.int .i64) ((nth aY a0 RS).1) (al ((fO (.int .i64) (.int .i64) ((nth aY a0 RS).1) RU)+(1:Int))) RU)) else none) else none) else(some RU)
def gD(y5:List (Int×Int))(y7:List Int):Nat→Int→(List Int)→Option (List Int)
 |0,_,_=>none
 |n2+1,RW,R4=>if(decide (RW<(List.length y7:Int)))=true then(if 0≤RW∧RW<(List.length y7:Int) then(if(List.length R4+List.length [fO (.int .i64) (.int .i64) (nth (.int .i64) y7 RW) y5])*8≤az then(gD y5 y7 n2 (al (RW+(1:Int))) (R4++[fO (.int .i64) (.int .i64) (nth (.int .i64) y7 RW) y5])) else none) else none) else(some R4)
def zO(a0:List cY):Option ((List Int)×(List Int)):=
 Option.bind (jk a0 (List.length a0+1) (0:Int) ([]:List (Int×Int))) fun(o1:List (Int×Int))=>Option.bind (qV o1) fun y5=>Option.bind (uP y5) fun y7=>Option.bind (gD y5 y7 (List.length y7+1) (0:Int) ([]:List Int)) fun(o9:List Int)=>some (y7,o9)
abbrev Nr(a0:List cY)(r:(List Int)×(List Int)):Prop:=Fc Tryz.prog gl 8 [(.val (.slice 72 aY) a0)] (aA (List.replicate 80 none) []) (.ret (.bU (.cons (.own 40) (.cons (.own 57) .nil)))) (bz 80 [(40,(.row 3 8 (.int .i64) r.1)),(57,(.row 3 8 (.int .i64) r.2))])
theorem Ns(a0:List cY)(r:(List Int)×(List Int))(h:zO a0=some r):Nr a0 r:=by
 refine Fc.of Tryz.call8 (bW.aG tied Tryz.func8 rfl rfl (σ0:=ao 40 80 [(0,(.val (.slice 72 aY) a0))] []) (by kernel_rfl) ?_)
 unfold zO at h
 refine aF ?_
 refine aF ?_
 obtain⟨o1,h1,h⟩:=bind_some h
 refine ai.aZ (fun σ'=>σ'=ao 40 80 [(3,.dS),(4,(.mp 25))] [(25,some (.map (.int .i64) (.int .i64) o1))]) ?_ ?_
 ·refine aF ?_
  refine ai.block ?_
  refine ai.aV (fun n σ=>∃(RS:Int)(RU:List (Int×Int)),jk a0 n RS RU=some o1∧σ=ao 40 80 [(3,.dS),(4,(.mp 25)),(10,(.val (.slice 72 aY) a0)),(11,(.val (.int .i64) (List.length a0:Int))),(12,(.val (.int .i64) RS))] [(25,some (.map (.int .i64) (.int .i64) RU))]) [.ak [3,4,10,11,12] [25]] (by kernel_rfl) ⟨_,_,h1,rfl⟩ ?_
  rintro n1 _ ⟨RS,RU,h3,rfl⟩
  cases n1 with
  |zero=>exact absurd h3 (by simp[jk])
  |
   succ n1=>
   unfold jk at h3
   refine aF ?_
   refine ai.seq ?_
   rcases ae h3 with⟨hc4,h3⟩|⟨hc4,h3⟩
   ·refine cg hc4 ?_
    refine zk ?_
    refine ai.seq ?_
    refine ai.block ?_
    obtain⟨Sx,h3⟩:=ab h3
    refine cH [] [] [] [0≤RS,RS<(List.length a0:Int)] ⟨Sx.1,Sx.2,trivial⟩ ?_
    obtain⟨hv3,h3⟩:=ab h3
    refine kc [] [] [] [fH Tryz.prog G 40 3 (.int .i64)=true,fH Tryz.prog G 40 3 (.int .i64)=true,List.length RU+1≤az] ⟨sy,sy,hv3,trivial⟩ ?_
    refine bN ?_
    change ai _ _ _ _ _
    refine fS ?_
    exact gI [.ak [3,4,10,11,12] [25]] ⟨_,_,h3,rfl⟩
   ·refine cq hc4 ?_
    refine ai.exit ?_
    refine ze ?_
    obtain rfl:=Option.some.inj h3
    exact bx [.ak [3,4] [25]] rfl
 ·rintro _ rfl
  obtain⟨y5,hy6,h⟩:=bind_some h
  obtain⟨y7,hy8,h⟩:=bind_some h
  refine cH [⟨(.func (.func 50) .nil (.cons (.ptr 17 []) .nil)),[(0,25)],[(17,39)],[(0,(.map (.int .i64) (.int .i64) y5)),(17,(.var (.au .map) (.mp 0)))],44⟩,⟨(.own 23),[(0,39),(1,25)],[(23,40)],[(0,(.var (.au .map) (.mp 1))),(1,(.map (.int .i64) (.int .i64) y5)),(23,(.row 3 8 (.int .i64) y7))],49⟩] [] [] [yu o1 y5,Fc Tryz.prog gl 24 [(.func (.func 50) .nil (.cons (.ptr 0 []) .nil))] (aA (List.replicate 49 none) [(0,some (.var (.au .map) (.mp 1))),(1,some (.map (.int .i64) (.int .i64) y5))]) (.ret (.own 23)) (bz 49 [(0,(.var (.au .map) (.mp 1))),(1,(.map (.int .i64) (.int .i64) y5)),(23,(.row 3 8 (.int .i64) y7))])] ⟨C2 _ _ hy6,C3 _ _ hy8,trivial⟩ ?_
  obtain⟨o9,h4,h⟩:=bind_some h
  refine ai.aZ (fun σ'=>σ'=ao 40 80 [(2,(.own 40)),(3,(.own 57))] [(40,some (.row 3 8 (.int .i64) y7)),(57,some (.row 3 8 (.int .i64) o9))]) ?_ ?_
  ·refine aF ?_
   refine ai.block ?_
   refine ai.aV (fun n σ=>∃(RW:Int)(R4:List Int),gD y5 y7 n RW R4=some o9∧σ=ao 40 80 [(2,(.own 40)),(3,(.own 56)),(4,(.mp 25)),(25,(.own 40)),(26,(.val (.int .i64) (List.length y7:Int))),(27,(.val (.int .i64) RW))] [(25,some (.map (.int .i64) (.int .i64) y5)),(40,some (.row 3 8 (.int .i64) y7)),(56,some (.row 3 8 (.int .i64) R4))]) [.ak [2,3,4,25,26,27] [25,40],.ld 3 56 3 8 (.int .i64)] (by kernel_rfl) ⟨_,_,h4,rfl⟩ ?_
   rintro n2 _ ⟨RW,R4,h6,rfl⟩
   cases n2 with
   |zero=>exact absurd h6 (by simp[gD])
   |
    succ n2=>
    unfold gD at h6
    refine aF ?_
    refine ai.seq ?_
    rcases ae h6 with⟨SP,h6⟩|⟨SP,h6⟩
    ·refine cg SP ?_
     refine zk ?_
     refine ai.seq ?_
     refine ai.block ?_
     obtain⟨Sv,h6⟩:=ab h6
     refine cH [] [] [] [0≤RW,RW<(List.length y7:Int)] ⟨Sv.1,Sv.2,trivial⟩ ?_
     obtain⟨SS,h6⟩:=ab h6
     refine kc [] [] [] [fH Tryz.prog G 40 3 (.int .i64)=true,(List.length R4+List.length [fO (.int .i64) (.int .i64) (nth (.int .i64) y7 RW) y5])*8≤az] ⟨sy,SS,trivial⟩ ?_
     refine bN ?_
     change ai _ _ _ _ _
     refine fS ?_
     exact gI [.ak [2,3,4,25,26,27] [25,40,52],.oP 52 56] ⟨_,_,h6,rfl⟩
    ·refine cq SP ?_
     refine ai.exit ?_
     refine ze ?_
     obtain rfl:=Option.some.inj h6
     exact bx [.ak [2,3] [40,56],.oP 56 57] rfl
  ·rintro _ rfl
   refine aF ?_
   refine ai.ret ?_
   obtain rfl:=Option.some.inj h
   exact(av [.ak [2,3] [40,57]] [none,none] (cL 80 [40,57]) (by kernel_rfl)).1
end Go.Proofs.YtmpdeifdnbhdiaaGreatDoor
