/- Made by program (dec.py): walks -/
import Derived.Test.YtnhfefbbdfmniaaDoorF3
namespace Go.Proofs.YtnhfefbbdfmniaaDoor
open Go.Abs

/-- testamur.testamurref19.Same -/
def f42 (a0 : D48) (a1 : D48) : Option Bool :=
  Option.bind (if (decide (a0.1 = a1.1)) = true then (if (decide (a0.2.1 = a1.2.1)) = true then (if (decide (a0.2.2.1 = a1.2.2.1)) = true then (if (decide (a0.2.2.2.1 = a1.2.2.2.1)) = true then (if (eqDen T44 a0.2.2.2.2.1 a1.2.2.2.2.1) = true then (Option.bind (f51 a0.2.2.2.2.2.1 a1.2.2.2.2.2.1) fun y7 => if y7 = true then (Option.bind (f43 a0.2.2.2.2.2.2.1 a1.2.2.2.2.2.2.1) fun y10 => if y10 = true then (Option.bind (f52 a0.2.2.2.2.2.2.2.1 a1.2.2.2.2.2.2.2.1) fun y13 => some y13) else (some false)) else (some false)) else (some false)) else (some false)) else (some false)) else (some false)) else (some false)) fun (o1 : Bool) => some o1

set_option maxRecDepth 100000 in
theorem x42 (a0 : D48) (a1 : D48) (r : Bool) (h : f42 a0 a1 = some r) : Fc Tryd.prog gl 42 [(.val T48 a0), (.val T48 a1)] (hset (List.replicate 99 none) []) (.ret (.val .bool r)) (outH 99 []) := by
  refine Fc.of Tryd.call42 (FnEx.of_runF tied Tryd.func42 rfl rfl (σ0 := mkSt 59 99 [(0, (.val T48 a0)), (1, (.val T48 a1))] []) (by kernel_rfl) ?_)
  unfold f42 at h
  refine Run.sreg tied [] [] [] [] (by kernel_rfl) trivial ?_
  obtain ⟨o1, h1, h⟩ := bind_some h
  refine Run.seqJ (fun σ' => σ' = mkSt 59 99 [(4, (.val .bool o1))] []) ?_ ?_
  · rcases ite_some h1 with ⟨hg2, h1⟩ | ⟨hg2, h1⟩
    · rcases ite_some h1 with ⟨hg3, h1⟩ | ⟨hg3, h1⟩
      · rcases ite_some h1 with ⟨hg4, h1⟩ | ⟨hg4, h1⟩
        · rcases ite_some h1 with ⟨hg5, h1⟩ | ⟨hg5, h1⟩
          · rcases ite_some h1 with ⟨hg6, h1⟩ | ⟨hg6, h1⟩
            · obtain ⟨y7, hy8, h1⟩ := bind_some h1
              rcases ite_some h1 with ⟨hg9, h1⟩ | ⟨hg9, h1⟩
              · obtain ⟨y10, hy11, h1⟩ := bind_some h1
                rcases ite_some h1 with ⟨hg12, h1⟩ | ⟨hg12, h1⟩
                · obtain ⟨y13, hy14, h1⟩ := bind_some h1
                  refine Run.reg tied [⟨(.val .bool y7), [], [], [], 66⟩, ⟨(.val .bool y10), [], [], [], 66⟩, ⟨(.val .bool y13), [], [], [], 67⟩] [true, true, true, true, true, true, true] [] [(decide (a0.1 = a1.1)) = true, (decide (a0.2.1 = a1.2.1)) = true, (decide (a0.2.2.1 = a1.2.2.1)) = true, (decide (a0.2.2.2.1 = a1.2.2.2.1)) = true, eqOK Tryd.prog G 40 44 T44 = true, Tryd.prog.eqGuardType Tryd.prog.depth 44 = false, (eqDen T44 a0.2.2.2.2.1 a1.2.2.2.2.1) = true, Fc Tryd.prog gl 51 [(.val (.slice 8 (.int .i64)) a0.2.2.2.2.2.1), (.val (.slice 8 (.int .i64)) a1.2.2.2.2.2.1)] (hset (List.replicate 66 none) []) (.ret (.val .bool y7)) (outH 66 []), y7 = true, Fc Tryd.prog gl 43 [(.val (.slice 32 T44) a0.2.2.2.2.2.2.1), (.val (.slice 32 T44) a1.2.2.2.2.2.2.1)] (hset (List.replicate 66 none) []) (.ret (.val .bool y10)) (outH 66 []), y10 = true, Fc Tryd.prog gl 52 [(.val (.slice 56 T81) a0.2.2.2.2.2.2.2.1), (.val (.slice 56 T81) a1.2.2.2.2.2.2.2.1)] (hset (List.replicate 67 none) []) (.ret (.val .bool y13)) (outH 67 [])] (by kernel_rfl) ⟨hg2, hg3, hg4, hg5, fact1, fact2, hg6, x51 _ _ _ hy8, hg9, x43 _ _ _ hy11, hg12, x52 _ _ _ hy14, trivial⟩ ?_
                  obtain rfl := Option.some.inj h1
                  exact jQ.mk [.keep [4] []] (by kernel_rfl) rfl
                · refine Run.reg tied [⟨(.val .bool y7), [], [], [], 66⟩, ⟨(.val .bool y10), [], [], [], 66⟩] [true, true, true, true, true, true, false] [] [(decide (a0.1 = a1.1)) = true, (decide (a0.2.1 = a1.2.1)) = true, (decide (a0.2.2.1 = a1.2.2.1)) = true, (decide (a0.2.2.2.1 = a1.2.2.2.1)) = true, eqOK Tryd.prog G 40 44 T44 = true, Tryd.prog.eqGuardType Tryd.prog.depth 44 = false, (eqDen T44 a0.2.2.2.2.1 a1.2.2.2.2.1) = true, Fc Tryd.prog gl 51 [(.val (.slice 8 (.int .i64)) a0.2.2.2.2.2.1), (.val (.slice 8 (.int .i64)) a1.2.2.2.2.2.1)] (hset (List.replicate 66 none) []) (.ret (.val .bool y7)) (outH 66 []), y7 = true, Fc Tryd.prog gl 43 [(.val (.slice 32 T44) a0.2.2.2.2.2.2.1), (.val (.slice 32 T44) a1.2.2.2.2.2.2.1)] (hset (List.replicate 66 none) []) (.ret (.val .bool y10)) (outH 66 []), y10 = false] (by kernel_rfl) ⟨hg2, hg3, hg4, hg5, fact1, fact2, hg6, x51 _ _ _ hy8, hg9, x43 _ _ _ hy11, hg12, trivial⟩ ?_
                  obtain rfl := Option.some.inj h1
                  exact jQ.mk [.keep [4] []] (by kernel_rfl) rfl
              · refine Run.reg tied [⟨(.val .bool y7), [], [], [], 66⟩] [true, true, true, true, true, false, false] [] [(decide (a0.1 = a1.1)) = true, (decide (a0.2.1 = a1.2.1)) = true, (decide (a0.2.2.1 = a1.2.2.1)) = true, (decide (a0.2.2.2.1 = a1.2.2.2.1)) = true, eqOK Tryd.prog G 40 44 T44 = true, Tryd.prog.eqGuardType Tryd.prog.depth 44 = false, (eqDen T44 a0.2.2.2.2.1 a1.2.2.2.2.1) = true, Fc Tryd.prog gl 51 [(.val (.slice 8 (.int .i64)) a0.2.2.2.2.2.1), (.val (.slice 8 (.int .i64)) a1.2.2.2.2.2.1)] (hset (List.replicate 66 none) []) (.ret (.val .bool y7)) (outH 66 []), y7 = false, false = false] (by kernel_rfl) ⟨hg2, hg3, hg4, hg5, fact1, fact2, hg6, x51 _ _ _ hy8, hg9, rfl, trivial⟩ ?_
                obtain rfl := Option.some.inj h1
                exact jQ.mk [.keep [4] []] (by kernel_rfl) rfl
            · refine Run.reg tied [] [true, true, true, true, false, false, false] [] [(decide (a0.1 = a1.1)) = true, (decide (a0.2.1 = a1.2.1)) = true, (decide (a0.2.2.1 = a1.2.2.1)) = true, (decide (a0.2.2.2.1 = a1.2.2.2.1)) = true, eqOK Tryd.prog G 40 44 T44 = true, Tryd.prog.eqGuardType Tryd.prog.depth 44 = false, (eqDen T44 a0.2.2.2.2.1 a1.2.2.2.2.1) = false, false = false, false = false] (by kernel_rfl) ⟨hg2, hg3, hg4, hg5, fact1, fact2, hg6, rfl, rfl, trivial⟩ ?_
              obtain rfl := Option.some.inj h1
              exact jQ.mk [.keep [4] []] (by kernel_rfl) rfl
          · refine Run.reg tied [] [true, true, true, false, false, false, false] [] [(decide (a0.1 = a1.1)) = true, (decide (a0.2.1 = a1.2.1)) = true, (decide (a0.2.2.1 = a1.2.2.1)) = true, (decide (a0.2.2.2.1 = a1.2.2.2.1)) = false, false = false, false = false, false = false] (by kernel_rfl) ⟨hg2, hg3, hg4, hg5, rfl, rfl, rfl, trivial⟩ ?_
            obtain rfl := Option.some.inj h1
            exact jQ.mk [.keep [4] []] (by kernel_rfl) rfl
        · refine Run.reg tied [] [true, true, false, false, false, false, false] [] [(decide (a0.1 = a1.1)) = true, (decide (a0.2.1 = a1.2.1)) = true, (decide (a0.2.2.1 = a1.2.2.1)) = false, false = false, false = false, false = false, false = false] (by kernel_rfl) ⟨hg2, hg3, hg4, rfl, rfl, rfl, rfl, trivial⟩ ?_
          obtain rfl := Option.some.inj h1
          exact jQ.mk [.keep [4] []] (by kernel_rfl) rfl
      · refine Run.reg tied [] [true, false, false, false, false, false, false] [] [(decide (a0.1 = a1.1)) = true, (decide (a0.2.1 = a1.2.1)) = false, false = false, false = false, false = false, false = false, false = false] (by kernel_rfl) ⟨hg2, hg3, rfl, rfl, rfl, rfl, rfl, trivial⟩ ?_
        obtain rfl := Option.some.inj h1
        exact jQ.mk [.keep [4] []] (by kernel_rfl) rfl
    · refine Run.reg tied [] [false, false, false, false, false, false, false] [] [(decide (a0.1 = a1.1)) = false, false = false, false = false, false = false, false = false, false = false, false = false] (by kernel_rfl) ⟨hg2, rfl, rfl, rfl, rfl, rfl, rfl, trivial⟩ ?_
      obtain rfl := Option.some.inj h1
      exact jQ.mk [.keep [4] []] (by kernel_rfl) rfl
  · rintro _ rfl
    refine Run.ret ?_
    obtain rfl := Option.some.inj h
    exact (fQ_fin [] [some .bool] (msk 99 []) (by kernel_rfl)).1

/-- testamur.testamurref41.SameHeld -/
def f25 (a0 : D55) (a1 : D55) : Option Bool :=
  Option.bind (Option.bind (f42 a0.1 a1.1) fun y2 => if y2 = true then (if (eqDen T44 a0.2.1.1 a1.2.1.1) = true then (Option.bind (f43 a0.2.1.2.1 a1.2.1.2.1) fun y6 => if y6 = true then (if (decide (a0.2.2.1 = a1.2.2.1)) = true then (some (decide (a0.2.2.2.1 = a1.2.2.2.1))) else (some false)) else (some false)) else (some false)) else (some false)) fun (o1 : Bool) => some o1

set_option maxRecDepth 100000 in
theorem x25 (a0 : D55) (a1 : D55) (r : Bool) (h : f25 a0 a1 = some r) : Fc Tryd.prog gl 25 [(.val T55 a0), (.val T55 a1)] (hset (List.replicate 82 none) []) (.ret (.val .bool r)) (outH 82 []) := by
  refine Fc.of Tryd.call25 (FnEx.of_runF tied Tryd.func25 rfl rfl (σ0 := mkSt 42 82 [(0, (.val T55 a0)), (1, (.val T55 a1))] []) (by kernel_rfl) ?_)
  unfold f25 at h
  refine Run.sreg tied [] [] [] [] (by kernel_rfl) trivial ?_
  obtain ⟨o1, h1, h⟩ := bind_some h
  refine Run.seqJ (fun σ' => σ' = mkSt 42 82 [(4, (.val .bool o1))] []) ?_ ?_
  · obtain ⟨y2, hy3, h1⟩ := bind_some h1
    rcases ite_some h1 with ⟨hg4, h1⟩ | ⟨hg4, h1⟩
    · rcases ite_some h1 with ⟨hg5, h1⟩ | ⟨hg5, h1⟩
      · obtain ⟨y6, hy7, h1⟩ := bind_some h1
        rcases ite_some h1 with ⟨hg8, h1⟩ | ⟨hg8, h1⟩
        · rcases ite_some h1 with ⟨hg9, h1⟩ | ⟨hg9, h1⟩
          · refine Run.reg tied [⟨(.val .bool y2), [], [], [], 99⟩, ⟨(.val .bool y6), [], [], [], 66⟩] [true, true, true, true] [] [Fc Tryd.prog gl 42 [(.val T48 a0.1), (.val T48 a1.1)] (hset (List.replicate 99 none) []) (.ret (.val .bool y2)) (outH 99 []), y2 = true, eqOK Tryd.prog G 40 44 T44 = true, Tryd.prog.eqGuardType Tryd.prog.depth 44 = false, (eqDen T44 a0.2.1.1 a1.2.1.1) = true, Fc Tryd.prog gl 43 [(.val (.slice 32 T44) a0.2.1.2.1), (.val (.slice 32 T44) a1.2.1.2.1)] (hset (List.replicate 66 none) []) (.ret (.val .bool y6)) (outH 66 []), y6 = true, (decide (a0.2.2.1 = a1.2.2.1)) = true] (by kernel_rfl) ⟨x42 _ _ _ hy3, hg4, fact1, fact2, hg5, x43 _ _ _ hy7, hg8, hg9, trivial⟩ ?_
            obtain rfl := Option.some.inj h1
            exact jQ.mk [.keep [4] []] (by kernel_rfl) rfl
          · refine Run.reg tied [⟨(.val .bool y2), [], [], [], 99⟩, ⟨(.val .bool y6), [], [], [], 66⟩] [true, true, true, false] [] [Fc Tryd.prog gl 42 [(.val T48 a0.1), (.val T48 a1.1)] (hset (List.replicate 99 none) []) (.ret (.val .bool y2)) (outH 99 []), y2 = true, eqOK Tryd.prog G 40 44 T44 = true, Tryd.prog.eqGuardType Tryd.prog.depth 44 = false, (eqDen T44 a0.2.1.1 a1.2.1.1) = true, Fc Tryd.prog gl 43 [(.val (.slice 32 T44) a0.2.1.2.1), (.val (.slice 32 T44) a1.2.1.2.1)] (hset (List.replicate 66 none) []) (.ret (.val .bool y6)) (outH 66 []), y6 = true, (decide (a0.2.2.1 = a1.2.2.1)) = false] (by kernel_rfl) ⟨x42 _ _ _ hy3, hg4, fact1, fact2, hg5, x43 _ _ _ hy7, hg8, hg9, trivial⟩ ?_
            obtain rfl := Option.some.inj h1
            exact jQ.mk [.keep [4] []] (by kernel_rfl) rfl
        · refine Run.reg tied [⟨(.val .bool y2), [], [], [], 99⟩, ⟨(.val .bool y6), [], [], [], 66⟩] [true, true, false, false] [] [Fc Tryd.prog gl 42 [(.val T48 a0.1), (.val T48 a1.1)] (hset (List.replicate 99 none) []) (.ret (.val .bool y2)) (outH 99 []), y2 = true, eqOK Tryd.prog G 40 44 T44 = true, Tryd.prog.eqGuardType Tryd.prog.depth 44 = false, (eqDen T44 a0.2.1.1 a1.2.1.1) = true, Fc Tryd.prog gl 43 [(.val (.slice 32 T44) a0.2.1.2.1), (.val (.slice 32 T44) a1.2.1.2.1)] (hset (List.replicate 66 none) []) (.ret (.val .bool y6)) (outH 66 []), y6 = false, false = false] (by kernel_rfl) ⟨x42 _ _ _ hy3, hg4, fact1, fact2, hg5, x43 _ _ _ hy7, hg8, rfl, trivial⟩ ?_
          obtain rfl := Option.some.inj h1
          exact jQ.mk [.keep [4] []] (by kernel_rfl) rfl
      · refine Run.reg tied [⟨(.val .bool y2), [], [], [], 99⟩] [true, false, false, false] [] [Fc Tryd.prog gl 42 [(.val T48 a0.1), (.val T48 a1.1)] (hset (List.replicate 99 none) []) (.ret (.val .bool y2)) (outH 99 []), y2 = true, eqOK Tryd.prog G 40 44 T44 = true, Tryd.prog.eqGuardType Tryd.prog.depth 44 = false, (eqDen T44 a0.2.1.1 a1.2.1.1) = false, false = false, false = false] (by kernel_rfl) ⟨x42 _ _ _ hy3, hg4, fact1, fact2, hg5, rfl, rfl, trivial⟩ ?_
        obtain rfl := Option.some.inj h1
        exact jQ.mk [.keep [4] []] (by kernel_rfl) rfl
    · refine Run.reg tied [⟨(.val .bool y2), [], [], [], 99⟩] [false, false, false, false] [] [Fc Tryd.prog gl 42 [(.val T48 a0.1), (.val T48 a1.1)] (hset (List.replicate 99 none) []) (.ret (.val .bool y2)) (outH 99 []), y2 = false, false = false, false = false, false = false] (by kernel_rfl) ⟨x42 _ _ _ hy3, hg4, rfl, rfl, rfl, trivial⟩ ?_
      obtain rfl := Option.some.inj h1
      exact jQ.mk [.keep [4] []] (by kernel_rfl) rfl
  · rintro _ rfl
    refine Run.ret ?_
    obtain rfl := Option.some.inj h
    exact (fQ_fin [] [some .bool] (msk 82 []) (by kernel_rfl)).1

/-- testamur.testamurref41.Same -/
def f15_l1 (a0 : D23) (a1 : D23) : Nat → Int → Option (Ctl Unit Bool)
  | 0, _ => none
  | n1 + 1, u1_0 => if (decide (u1_0 < (List.length a0.2.2.1 : Int))) = true then (if 0 ≤ u1_0 ∧ u1_0 < (List.length a0.2.2.1 : Int) then (if u1_0 < (List.length a1.2.2.1 : Int) then (Option.bind (f25 (nth T55 a0.2.2.1 u1_0) (nth T55 a1.2.2.1 u1_0)) fun y10 => if (!y10) = true then (some (.ret false)) else (f15_l1 a0 a1 n1 (w64 (u1_0 + (1 : Int))))) else none) else none) else (some (.brk ()))

def f15 (a0 : D23) (a1 : D23) : Option Bool :=
  Option.bind (Option.bind (if (!decide (a0.1 = a1.1)) = true then (some true) else (if (!decide (a0.2.1 = a1.2.1)) = true then (some true) else (some (!decide ((List.length a0.2.2.1 : Int) = (List.length a1.2.2.1 : Int)))))) fun (o2 : Bool) => if o2 = true then (some (.ret false)) else (some (.brk ()))) fun (o1 : Ctl Unit Bool) => match o1 with | .brk _v6 => (Option.bind (f15_l1 a0 a1 (big) (0 : Int)) fun (o7 : Ctl Unit Bool) => match o7 with | .brk _v14 => (some true) | .ret r15 => (some r15)) | .ret r16 => (some r16)

set_option maxRecDepth 100000 in
theorem x15 (a0 : D23) (a1 : D23) (r : Bool) (h : f15 a0 a1 = some r) : Fc Tryd.prog gl 15 [(.val T23 a0), (.val T23 a1)] (hset (List.replicate 86 none) []) (.ret (.val .bool r)) (outH 86 []) := by
  refine Fc.of Tryd.call15 (FnEx.of_runF tied Tryd.func15 rfl rfl (σ0 := mkSt 46 86 [(0, (.val T23 a0)), (1, (.val T23 a1))] []) (by kernel_rfl) ?_)
  unfold f15 at h
  refine Run.sreg tied [] [] [] [] (by kernel_rfl) trivial ?_
  obtain ⟨o1, h1, h⟩ := bind_some h
  refine Run.seqJ (fun σ' => ∃ v6, o1 = .brk v6 ∧ σ' = mkSt 46 86 [(2, (.ptr 18 [])), (3, (.ptr 19 []))] [(18, some (.var T23 (.val T23 a0))), (19, some (.var T23 (.val T23 a1)))]) ?_ ?_
  · obtain ⟨o2, h3, h1⟩ := bind_some h1
    refine Run.seqJ (fun σ' => σ' = mkSt 46 86 [(2, (.ptr 18 [])), (3, (.ptr 19 [])), (26, (.val .bool o2))] [(18, some (.var T23 (.val T23 a0))), (19, some (.var T23 (.val T23 a1)))]) ?_ ?_
    · rcases ite_some h3 with ⟨hg3, h3⟩ | ⟨hg3, h3⟩
      · refine Run.reg tied [] [true, true] [] [(!decide (a0.1 = a1.1)) = true, true = true] (by kernel_rfl) ⟨hg3, rfl, trivial⟩ ?_
        obtain rfl := Option.some.inj h3
        exact jQ.mk [.keep [2, 3, 26] [18, 19]] (by kernel_rfl) rfl
      · rcases ite_some h3 with ⟨hg4, h3⟩ | ⟨hg4, h3⟩
        · refine Run.reg tied [] [false, true] [] [(!decide (a0.1 = a1.1)) = false, (!decide (a0.2.1 = a1.2.1)) = true] (by kernel_rfl) ⟨hg3, hg4, trivial⟩ ?_
          obtain rfl := Option.some.inj h3
          exact jQ.mk [.keep [2, 3, 26] [18, 19]] (by kernel_rfl) rfl
        · refine Run.reg tied [] [false, false] [] [(!decide (a0.1 = a1.1)) = false, (!decide (a0.2.1 = a1.2.1)) = false] (by kernel_rfl) ⟨hg3, hg4, trivial⟩ ?_
          obtain rfl := Option.some.inj h3
          exact jQ.mk [.keep [2, 3, 26] [18, 19]] (by kernel_rfl) rfl
    · rintro _ rfl
      rcases ite_some h1 with ⟨hc5, h1⟩ | ⟨hc5, h1⟩
      · refine Run.condT (b := o2) (by kernel_rfl) hc5 ?_
        refine Run.sreg tied [] [] [] [] (by kernel_rfl) trivial ?_
        refine Run.ret ?_
        obtain rfl := Option.some.inj h1
        dsimp only at h
        obtain rfl := Option.some.inj h
        exact (fQ_fin [] [some .bool] (msk 86 []) (by kernel_rfl)).1
      · refine Run.condF (b := o2) (by kernel_rfl) hc5 ?_
        refine Run.skip ?_
        obtain rfl := Option.some.inj h1
        exact jQ.mk [.keep [2, 3] [18, 19]] (by kernel_rfl) ⟨_, rfl, rfl⟩
  · rintro _ ⟨v6, rfl, rfl⟩
    dsimp only at h
    obtain ⟨o7, h4, h⟩ := bind_some h
    refine Run.seqJ (fun σ' => ∃ v14, o7 = .brk v14 ∧ σ' = mkSt 46 86 [] []) ?_ ?_
    · refine Run.sreg tied [] [] [] [] (by kernel_rfl) trivial ?_
      refine Run.block ?_
      refine Run.loopJ (fun n σ => ∃ (u1_0 : Int), f15_l1 a0 a1 n u1_0 = some o7 ∧ σ = mkSt 46 86 [(2, (.ptr 18 [])), (3, (.ptr 19 [])), (5, (.val (.int .i64) u1_0))] [(18, some (.var T23 (.val T23 a0))), (19, some (.var T23 (.val T23 a1)))]) [.keep [2, 3, 5] [18, 19]] (by kernel_rfl) ⟨_, h4, rfl⟩ ?_
      rintro n1 _ ⟨u1_0, h6, rfl⟩
      cases n1 with
      | zero => exact absurd h6 (by simp [f15_l1])
      | succ n1 =>
        unfold f15_l1 at h6
        refine Run.seq ?_
        refine Run.sreg tied [] [] [] [] (by kernel_rfl) trivial ?_
        rcases ite_some h6 with ⟨hc13, h6⟩ | ⟨hc13, h6⟩
        · refine Run.condT (b := decide (u1_0 < (List.length a0.2.2.1 : Int))) (by kernel_rfl) hc13 ?_
          refine Run.skip ?_
          change Run _ _ _ _ _
          refine Run.seq ?_
          refine Run.block ?_
          obtain ⟨hv8, h6⟩ := ite_none h6
          obtain ⟨hv9, h6⟩ := ite_none h6
          obtain ⟨y10, hy11, h6⟩ := bind_some h6
          refine Run.sregA tied [⟨(.val .bool y10), [], [], [], 82⟩] [] [] [0 ≤ u1_0, u1_0 < (List.length a0.2.2.1 : Int), 0 ≤ u1_0, u1_0 < (List.length a1.2.2.1 : Int), Fc Tryd.prog gl 25 [(.val T55 (nth T55 a0.2.2.1 u1_0)), (.val T55 (nth T55 a1.2.2.1 u1_0))] (hset (List.replicate 82 none) []) (.ret (.val .bool y10)) (outH 82 [])] (by kernel_rfl) ⟨hv8.1, hv8.2, hv8.1, hv9, x25 _ _ _ hy11, trivial⟩ ?_
          rcases ite_some h6 with ⟨hc12, h6⟩ | ⟨hc12, h6⟩
          · refine Run.condT (b := !y10) (by kernel_rfl) hc12 ?_
            refine Run.sreg tied [] [] [] [] (by kernel_rfl) trivial ?_
            refine Run.ret ?_
            obtain rfl := Option.some.inj h6
            dsimp only at h
            obtain rfl := Option.some.inj h
            exact (fQ_fin [] [some .bool] (msk 86 []) (by kernel_rfl)).1
          · refine Run.condF (b := !y10) (by kernel_rfl) hc12 ?_
            refine Run.skip ?_
            refine bN ?_
            change Run _ _ _ _ _
            refine Run.reg tied [] [] [] [] (by kernel_rfl) trivial ?_
            exact loopJ.mk [.keep [2, 3, 5] [18, 19]] (by kernel_rfl) ⟨_, h6, rfl⟩
        · refine Run.condF (b := decide (u1_0 < (List.length a0.2.2.1 : Int))) (by kernel_rfl) hc13 ?_
          refine Run.exit ?_
          refine tE ?_
          refine lE ?_
          refine bE ?_
          obtain rfl := Option.some.inj h6
          exact jQ.mk [.keep [] []] (by kernel_rfl) ⟨_, rfl, rfl⟩
    · rintro _ ⟨v14, rfl, rfl⟩
      dsimp only at h
      refine Run.sreg tied [] [] [] [] (by kernel_rfl) trivial ?_
      refine Run.ret ?_
      obtain rfl := Option.some.inj h
      exact (fQ_fin [] [some .bool] (msk 86 []) (by kernel_rfl)).1

/-- testamur.testamurref41.SameClaims -/
def f18_l1 (a0 : List D57) (a1 : List D57) : Nat → Int → Option (Ctl Unit Bool)
  | 0, _ => none
  | n1 + 1, u1_0 => if (decide (u1_0 < (List.length a0 : Int))) = true then (Option.bind (Option.bind (if 0 ≤ u1_0 ∧ u1_0 < (List.length a0 : Int) then (if u1_0 < (List.length a1 : Int) then (if (!decide (((nth T57 a0 u1_0).1) = ((nth T57 a1 u1_0).1))) = true then (some true) else (Option.bind (f34 (((nth T57 a0 u1_0).2).1) (((nth T57 a1 u1_0).2).1)) fun y7 => if (!y7) = true then (some true) else (Option.bind (f34 ((((nth T57 a0 u1_0).2).2).1) ((((nth T57 a1 u1_0).2).2).1)) fun y10 => some (!y10)))) else none) else none) fun (o3 : Bool) => if o3 = true then (some (.ret false)) else (some (.brk ()))) fun (o2 : Ctl Unit Bool) => match o2 with | .brk _v13 => (f18_l1 a0 a1 n1 (w64 (u1_0 + (1 : Int)))) | .ret r14 => (some (.ret r14))) else (some (.brk ()))

def f18 (a0 : List D57) (a1 : List D57) : Option Bool :=
  if (!decide ((List.length a0 : Int) = (List.length a1 : Int))) = true then (some false) else (Option.bind (f18_l1 a0 a1 (big) (0 : Int)) fun (o1 : Ctl Unit Bool) => match o1 with | .brk _v16 => (some true) | .ret r17 => (some r17))

set_option maxRecDepth 100000 in
theorem x18 (a0 : List D57) (a1 : List D57) (r : Bool) (h : f18 a0 a1 = some r) : Fc Tryd.prog gl 18 [(.val (.slice 56 T57) a0), (.val (.slice 56 T57) a1)] (hset (List.replicate 96 none) []) (.ret (.val .bool r)) (outH 96 []) := by
  refine Fc.of Tryd.call18 (FnEx.of_runF tied Tryd.func18 rfl rfl (σ0 := mkSt 56 96 [(0, (.val (.slice 56 T57) a0)), (1, (.val (.slice 56 T57) a1))] []) (by kernel_rfl) ?_)
  unfold f18 at h
  refine Run.sreg tied [] [] [] [] (by kernel_rfl) trivial ?_
  refine Run.seq ?_
  refine Run.sreg tied [] [] [] [] (by kernel_rfl) trivial ?_
  rcases ite_some h with ⟨hc18, h⟩ | ⟨hc18, h⟩
  · refine Run.condT (b := !decide ((List.length a0 : Int) = (List.length a1 : Int))) (by kernel_rfl) hc18 ?_
    refine Run.sreg tied [] [] [] [] (by kernel_rfl) trivial ?_
    refine Run.ret ?_
    obtain rfl := Option.some.inj h
    exact (fQ_fin [] [some .bool] (msk 96 []) (by kernel_rfl)).1
  · refine Run.condF (b := !decide ((List.length a0 : Int) = (List.length a1 : Int))) (by kernel_rfl) hc18 ?_
    refine Run.skip ?_
    change Run _ _ _ _ _
    obtain ⟨o1, h1, h⟩ := bind_some h
    refine Run.seqJ (fun σ' => ∃ v16, o1 = .brk v16 ∧ σ' = mkSt 56 96 [] []) ?_ ?_
    · refine Run.sreg tied [] [] [] [] (by kernel_rfl) trivial ?_
      refine Run.block ?_
      refine Run.loopJ (fun n σ => ∃ (u1_0 : Int), f18_l1 a0 a1 n u1_0 = some o1 ∧ σ = mkSt 56 96 [(0, (.val (.slice 56 T57) a0)), (1, (.val (.slice 56 T57) a1)), (5, (.val (.int .i64) u1_0))] []) [.keep [0, 1, 5] []] (by kernel_rfl) ⟨_, h1, rfl⟩ ?_
      rintro n1 _ ⟨u1_0, h6, rfl⟩
      cases n1 with
      | zero => exact absurd h6 (by simp [f18_l1])
      | succ n1 =>
        unfold f18_l1 at h6
        refine Run.seq ?_
        refine Run.sreg tied [] [] [] [] (by kernel_rfl) trivial ?_
        rcases ite_some h6 with ⟨hc15, h6⟩ | ⟨hc15, h6⟩
        · refine Run.condT (b := decide (u1_0 < (List.length a0 : Int))) (by kernel_rfl) hc15 ?_
          refine Run.skip ?_
          change Run _ _ _ _ _
          obtain ⟨o2, h7, h6⟩ := bind_some h6
          refine Run.seqJ (fun σ' => ∃ v13, o2 = .brk v13 ∧ σ' = mkSt 56 96 [(0, (.val (.slice 56 T57) a0)), (1, (.val (.slice 56 T57) a1)), (5, (.val (.int .i64) u1_0))] []) ?_ ?_
          · refine Run.block ?_
            obtain ⟨o3, h9, h7⟩ := bind_some h7
            refine Run.seqJ (fun σ' => σ' = mkSt 56 96 [(0, (.val (.slice 56 T57) a0)), (1, (.val (.slice 56 T57) a1)), (5, (.val (.int .i64) u1_0)), (55, (.val .bool o3))] []) ?_ ?_
            · obtain ⟨hv4, h9⟩ := ite_none h9
              obtain ⟨hv5, h9⟩ := ite_none h9
              rcases ite_some h9 with ⟨hg6, h9⟩ | ⟨hg6, h9⟩
              · refine Run.regA tied [] [true, true] [] [0 ≤ u1_0, u1_0 < (List.length a0 : Int), 0 ≤ u1_0, u1_0 < (List.length a1 : Int), (!decide (((nth T57 a0 u1_0).1) = ((nth T57 a1 u1_0).1))) = true, true = true] (by kernel_rfl) ⟨hv4.1, hv4.2, hv4.1, hv5, hg6, rfl, trivial⟩ ?_
                obtain rfl := Option.some.inj h9
                exact jQ.mk [.keep [0, 1, 5, 55] []] (by kernel_rfl) rfl
              · obtain ⟨y7, hy8, h9⟩ := bind_some h9
                rcases ite_some h9 with ⟨hg9, h9⟩ | ⟨hg9, h9⟩
                · refine Run.regA tied [⟨(.val .bool y7), [], [], [], 66⟩] [false, true] [] [0 ≤ u1_0, u1_0 < (List.length a0 : Int), 0 ≤ u1_0, u1_0 < (List.length a1 : Int), (!decide (((nth T57 a0 u1_0).1) = ((nth T57 a1 u1_0).1))) = false, 0 ≤ u1_0, u1_0 < (List.length a0 : Int), 0 ≤ u1_0, u1_0 < (List.length a1 : Int), Fc Tryd.prog gl 34 [(.val (.slice 8 (.int .i64)) (((nth T57 a0 u1_0).2).1)), (.val (.slice 8 (.int .i64)) (((nth T57 a1 u1_0).2).1))] (hset (List.replicate 66 none) []) (.ret (.val .bool y7)) (outH 66 []), (!y7) = true] (by kernel_rfl) ⟨hv4.1, hv4.2, hv4.1, hv5, hg6, hv4.1, hv4.2, hv4.1, hv5, x34 _ _ _ hy8, hg9, trivial⟩ ?_
                  obtain rfl := Option.some.inj h9
                  exact jQ.mk [.keep [0, 1, 5, 55] []] (by kernel_rfl) rfl
                · obtain ⟨y10, hy11, h9⟩ := bind_some h9
                  refine Run.regA tied [⟨(.val .bool y7), [], [], [], 66⟩, ⟨(.val .bool y10), [], [], [], 66⟩] [false, false] [] [0 ≤ u1_0, u1_0 < (List.length a0 : Int), 0 ≤ u1_0, u1_0 < (List.length a1 : Int), (!decide (((nth T57 a0 u1_0).1) = ((nth T57 a1 u1_0).1))) = false, 0 ≤ u1_0, u1_0 < (List.length a0 : Int), 0 ≤ u1_0, u1_0 < (List.length a1 : Int), Fc Tryd.prog gl 34 [(.val (.slice 8 (.int .i64)) (((nth T57 a0 u1_0).2).1)), (.val (.slice 8 (.int .i64)) (((nth T57 a1 u1_0).2).1))] (hset (List.replicate 66 none) []) (.ret (.val .bool y7)) (outH 66 []), (!y7) = false, 0 ≤ u1_0, u1_0 < (List.length a0 : Int), 0 ≤ u1_0, u1_0 < (List.length a1 : Int), Fc Tryd.prog gl 34 [(.val (.slice 8 (.int .i64)) ((((nth T57 a0 u1_0).2).2).1)), (.val (.slice 8 (.int .i64)) ((((nth T57 a1 u1_0).2).2).1))] (hset (List.replicate 66 none) []) (.ret (.val .bool y10)) (outH 66 [])] (by kernel_rfl) ⟨hv4.1, hv4.2, hv4.1, hv5, hg6, hv4.1, hv4.2, hv4.1, hv5, x34 _ _ _ hy8, hg9, hv4.1, hv4.2, hv4.1, hv5, x34 _ _ _ hy11, trivial⟩ ?_
                  obtain rfl := Option.some.inj h9
                  exact jQ.mk [.keep [0, 1, 5, 55] []] (by kernel_rfl) rfl
            · rintro _ rfl
              rcases ite_some h7 with ⟨hc12, h7⟩ | ⟨hc12, h7⟩
              · refine Run.condT (b := o3) (by kernel_rfl) hc12 ?_
                refine Run.sreg tied [] [] [] [] (by kernel_rfl) trivial ?_
                refine Run.ret ?_
                obtain rfl := Option.some.inj h7
                dsimp only at h6
                obtain rfl := Option.some.inj h6
                dsimp only at h
                obtain rfl := Option.some.inj h
                exact (fQ_fin [] [some .bool] (msk 96 []) (by kernel_rfl)).1
              · refine Run.condF (b := o3) (by kernel_rfl) hc12 ?_
                refine Run.skip ?_
                refine bN ?_
                obtain rfl := Option.some.inj h7
                exact jQ.mk [.keep [0, 1, 5] []] (by kernel_rfl) ⟨_, rfl, rfl⟩
          · rintro _ ⟨v13, rfl, rfl⟩
            dsimp only at h6
            refine Run.reg tied [] [] [] [] (by kernel_rfl) trivial ?_
            exact loopJ.mk [.keep [0, 1, 5] []] (by kernel_rfl) ⟨_, h6, rfl⟩
        · refine Run.condF (b := decide (u1_0 < (List.length a0 : Int))) (by kernel_rfl) hc15 ?_
          refine Run.exit ?_
          refine tE ?_
          refine lE ?_
          refine bE ?_
          obtain rfl := Option.some.inj h6
          exact jQ.mk [.keep [] []] (by kernel_rfl) ⟨_, rfl, rfl⟩
    · rintro _ ⟨v16, rfl, rfl⟩
      dsimp only at h
      refine Run.sreg tied [] [] [] [] (by kernel_rfl) trivial ?_
      refine Run.ret ?_
      obtain rfl := Option.some.inj h
      exact (fQ_fin [] [some .bool] (msk 96 []) (by kernel_rfl)).1

/-- testamur.testamurref41.Left -/
def f21_l1 (a0 : D23) (a1 : Int) : Nat → Int → Int → Option Int
  | 0, _, _ => none
  | n1 + 1, u1_0, u1_1 => if (decide (u1_1 < (List.length a0.2.2.1 : Int))) = true then (Option.bind (Option.bind (if 0 ≤ u1_1 ∧ u1_1 < (List.length a0.2.2.1 : Int) then (if (decide ((((((nth T55 a0.2.2.1 u1_1).2).2).2).1) = (0 : Int))) = true then (some (decide ((((((nth T55 a0.2.2.1 u1_1).1).2).2).1) = a1))) else (some false)) else none) fun (o3 : Bool) => if o3 = true then (some (w64 (u1_0 + (1 : Int)))) else (some u1_0)) fun (o2 : Int) => f21_l1 a0 a1 n1 o2 (w64 (u1_1 + (1 : Int)))) else (some u1_0)

def f21 (a0 : D23) (a1 : Int) : Option Int :=
  Option.bind (f21_l1 a0 a1 (big) (0 : Int) (0 : Int)) fun (o1 : Int) => some o1

set_option maxRecDepth 100000 in
theorem x21 (a0 : D23) (a1 : Int) (r : Int) (h : f21 a0 a1 = some r) : Fc Tryd.prog gl 21 [(.val T23 a0), (.val (.int .i64) a1)] (hset (List.replicate 75 none) []) (.ret (.val (.int .i64) r)) (outH 75 []) := by
  refine Fc.of Tryd.call21 (FnEx.of_runF tied Tryd.func21 rfl rfl (σ0 := mkSt 35 75 [(0, (.val T23 a0)), (1, (.val (.int .i64) a1))] []) (by kernel_rfl) ?_)
  unfold f21 at h
  refine Run.sreg tied [] [] [] [] (by kernel_rfl) trivial ?_
  refine Run.sreg tied [] [] [] [] (by kernel_rfl) trivial ?_
  obtain ⟨o1, h1, h⟩ := bind_some h
  refine Run.seqJ (fun σ' => σ' = mkSt 35 75 [(5, (.val (.int .i64) o1))] []) ?_ ?_
  · refine Run.sreg tied [] [] [] [] (by kernel_rfl) trivial ?_
    refine Run.block ?_
    refine Run.loopJ (fun n σ => ∃ (u1_0 : Int) (u1_1 : Int), f21_l1 a0 a1 n u1_0 u1_1 = some o1 ∧ σ = mkSt 35 75 [(1, (.val (.int .i64) a1)), (2, (.ptr 18 [])), (5, (.val (.int .i64) u1_0)), (6, (.val (.int .i64) u1_1))] [(18, some (.var T23 (.val T23 a0)))]) [.keep [1, 2, 5, 6] [18]] (by kernel_rfl) ⟨_, _, h1, rfl⟩ ?_
    rintro n1 _ ⟨u1_0, u1_1, h6, rfl⟩
    cases n1 with
    | zero => exact absurd h6 (by simp [f21_l1])
    | succ n1 =>
      unfold f21_l1 at h6
      refine Run.seq ?_
      refine Run.sreg tied [] [] [] [] (by kernel_rfl) trivial ?_
      rcases ite_some h6 with ⟨hc7, h6⟩ | ⟨hc7, h6⟩
      · refine Run.condT (b := decide (u1_1 < (List.length a0.2.2.1 : Int))) (by kernel_rfl) hc7 ?_
        refine Run.skip ?_
        change Run _ _ _ _ _
        obtain ⟨o2, h7, h6⟩ := bind_some h6
        refine Run.seqJ (fun σ' => σ' = mkSt 35 75 [(1, (.val (.int .i64) a1)), (2, (.ptr 18 [])), (5, (.val (.int .i64) o2)), (6, (.val (.int .i64) u1_1))] [(18, some (.var T23 (.val T23 a0)))]) ?_ ?_
        · refine Run.block ?_
          obtain ⟨o3, h9, h7⟩ := bind_some h7
          refine Run.seqJ (fun σ' => σ' = mkSt 35 75 [(1, (.val (.int .i64) a1)), (2, (.ptr 18 [])), (5, (.val (.int .i64) u1_0)), (6, (.val (.int .i64) u1_1)), (31, (.val .bool o3))] [(18, some (.var T23 (.val T23 a0)))]) ?_ ?_
          · obtain ⟨hv4, h9⟩ := ite_none h9
            rcases ite_some h9 with ⟨hg5, h9⟩ | ⟨hg5, h9⟩
            · refine Run.reg tied [] [true] [] [0 ≤ u1_1, u1_1 < (List.length a0.2.2.1 : Int), (decide ((((((nth T55 a0.2.2.1 u1_1).2).2).2).1) = (0 : Int))) = true, 0 ≤ u1_1, u1_1 < (List.length a0.2.2.1 : Int)] (by kernel_rfl) ⟨hv4.1, hv4.2, hg5, hv4.1, hv4.2, trivial⟩ ?_
              obtain rfl := Option.some.inj h9
              exact jQ.mk [.keep [1, 2, 5, 6, 31] [18]] (by kernel_rfl) rfl
            · refine Run.reg tied [] [false] [] [0 ≤ u1_1, u1_1 < (List.length a0.2.2.1 : Int), (decide ((((((nth T55 a0.2.2.1 u1_1).2).2).2).1) = (0 : Int))) = false] (by kernel_rfl) ⟨hv4.1, hv4.2, hg5, trivial⟩ ?_
              obtain rfl := Option.some.inj h9
              exact jQ.mk [.keep [1, 2, 5, 6, 31] [18]] (by kernel_rfl) rfl
          · rintro _ rfl
            rcases ite_some h7 with ⟨hc6, h7⟩ | ⟨hc6, h7⟩
            · refine Run.condT (b := o3) (by kernel_rfl) hc6 ?_
              refine Run.reg tied [] [] [] [] (by kernel_rfl) trivial ?_
              refine bN ?_
              obtain rfl := Option.some.inj h7
              exact jQ.mk [.keep [1, 2, 5, 6] [18]] (by kernel_rfl) rfl
            · refine Run.condF (b := o3) (by kernel_rfl) hc6 ?_
              refine Run.skip ?_
              refine bN ?_
              obtain rfl := Option.some.inj h7
              exact jQ.mk [.keep [1, 2, 5, 6] [18]] (by kernel_rfl) rfl
        · rintro _ rfl
          refine Run.reg tied [] [] [] [] (by kernel_rfl) trivial ?_
          exact loopJ.mk [.keep [1, 2, 5, 6] [18]] (by kernel_rfl) ⟨_, _, h6, rfl⟩
      · refine Run.condF (b := decide (u1_1 < (List.length a0.2.2.1 : Int))) (by kernel_rfl) hc7 ?_
        refine Run.exit ?_
        refine tE ?_
        refine lE ?_
        refine bE ?_
        obtain rfl := Option.some.inj h6
        exact jQ.mk [.keep [5] []] (by kernel_rfl) rfl
  · rintro _ rfl
    refine Run.sreg tied [] [] [] [] (by kernel_rfl) trivial ?_
    refine Run.ret ?_
    obtain rfl := Option.some.inj h
    exact (fQ_fin [] [some (.int .i64)] (msk 75 []) (by kernel_rfl)).1

/-- testamur.testamurlaw41.WalletSpec -/
def f3 (a0 : D23) (a1 : Int) (a2 : Int) (a3 : Int) : Option Bool :=
  Option.bind (f7) fun y1 => if (!y1) = true then (some false) else (Option.bind (f8 a0) fun y3 => if (!y3) = true then (some true) else (Option.bind (f9 a1) fun y5 => Option.bind (f10 a1) fun y7 => Option.bind (f11 a0 a2) fun y9 => Option.bind (f12 a0 a2) fun y11 => Option.bind (f13 a0 a3) fun y13 => Option.bind (f14 a0 a3) fun y15 => Option.bind (Option.bind (f15 y5.1 y7.1) fun y18 => if y18 = true then (if (decide (y5.2 = y7.2)) = true then (Option.bind (f16 a0) fun y22 => Option.bind (f17 a0) fun y24 => if (decide (y22 = y24)) = true then (Option.bind (f18 y9.1 y11.1) fun y27 => if y27 = true then (Option.bind (f19 y9.2 y11.2) fun y30 => if y30 = true then (Option.bind (f20 a0 a3) fun y33 => Option.bind (f21 a0 a3) fun y35 => if (decide (y33 = y35)) = true then (Option.bind (f15 y13.1 y15.1) fun y38 => if y38 = true then (some (decide (y13.2 = y15.2))) else (some false)) else (some false)) else (some false)) else (some false)) else (some false)) else (some false)) else (some false)) fun (o17 : Bool) => some o17))

set_option maxRecDepth 100000 in
theorem x3 (a0 : D23) (a1 : Int) (a2 : Int) (a3 : Int) (r : Bool) (h : f3 a0 a1 a2 a3 = some r) : Fc Tryd.prog gl 3 [(.val T23 a0), (.val (.int .i64) a1), (.val (.int .i64) a2), (.val (.int .i64) a3)] (hset (List.replicate 144 none) []) (.ret (.val .bool r)) (outH 144 []) := by
  refine Fc.of Tryd.call3 (FnEx.of_runF tied Tryd.func3 rfl rfl (σ0 := mkSt 104 144 [(0, (.val T23 a0)), (1, (.val (.int .i64) a1)), (2, (.val (.int .i64) a2)), (3, (.val (.int .i64) a3))] []) (by kernel_rfl) ?_)
  unfold f3 at h
  refine Run.sreg tied [] [] [] [] (by kernel_rfl) trivial ?_
  refine Run.seq ?_
  obtain ⟨y1, hy2, h⟩ := bind_some h
  refine Run.sreg tied [⟨(.val .bool y1), [], [], [], 295⟩] [] [] [Fc Tryd.prog gl 7 [] (hset (List.replicate 295 none) []) (.ret (.val .bool y1)) (outH 295 [])] (by kernel_rfl) ⟨x7  _ hy2, trivial⟩ ?_
  rcases ite_some h with ⟨hc42, h⟩ | ⟨hc42, h⟩
  · refine Run.condT (b := !y1) (by kernel_rfl) hc42 ?_
    refine Run.sreg tied [] [] [] [] (by kernel_rfl) trivial ?_
    refine Run.ret ?_
    obtain rfl := Option.some.inj h
    exact (fQ_fin [] [some .bool] (msk 144 []) (by kernel_rfl)).1
  · refine Run.condF (b := !y1) (by kernel_rfl) hc42 ?_
    refine Run.skip ?_
    change Run _ _ _ _ _
    refine Run.seq ?_
    obtain ⟨y3, hy4, h⟩ := bind_some h
    refine Run.sreg tied [⟨(.val .bool y3), [], [], [], 74⟩] [] [] [Fc Tryd.prog gl 8 [(.val T23 a0)] (hset (List.replicate 74 none) []) (.ret (.val .bool y3)) (outH 74 [])] (by kernel_rfl) ⟨x8 _ _ hy4, trivial⟩ ?_
    rcases ite_some h with ⟨hc41, h⟩ | ⟨hc41, h⟩
    · refine Run.condT (b := !y3) (by kernel_rfl) hc41 ?_
      refine Run.sreg tied [] [] [] [] (by kernel_rfl) trivial ?_
      refine Run.ret ?_
      obtain rfl := Option.some.inj h
      exact (fQ_fin [] [some .bool] (msk 144 []) (by kernel_rfl)).1
    · refine Run.condF (b := !y3) (by kernel_rfl) hc41 ?_
      refine Run.skip ?_
      change Run _ _ _ _ _
      obtain ⟨y5, hy6, h⟩ := bind_some h
      refine Run.sreg tied [⟨(.tup (.cons (.val T23 y5.1) (.cons (.val (.int .i64) y5.2) .nil))), [], [], [], 53⟩] [] [] [Fc Tryd.prog gl 9 [(.val (.int .i64) a1)] (hset (List.replicate 53 none) []) (.ret (.tup (.cons (.val T23 y5.1) (.cons (.val (.int .i64) y5.2) .nil)))) (outH 53 [])] (by kernel_rfl) ⟨x9 _ _ hy6, trivial⟩ ?_
      obtain ⟨y7, hy8, h⟩ := bind_some h
      refine Run.sreg tied [⟨(.tup (.cons (.val T23 y7.1) (.cons (.val (.int .i64) y7.2) .nil))), [], [], [], 50⟩] [] [] [Fc Tryd.prog gl 10 [(.val (.int .i64) a1)] (hset (List.replicate 50 none) []) (.ret (.tup (.cons (.val T23 y7.1) (.cons (.val (.int .i64) y7.2) .nil)))) (outH 50 [])] (by kernel_rfl) ⟨x10 _ _ hy8, trivial⟩ ?_
      obtain ⟨y9, hy10, h⟩ := bind_some h
      refine Run.sreg tied [⟨(.tup (.cons (.val (.slice 56 T57) y9.1) (.cons (.val (.slice 8 (.int .i64)) y9.2) .nil))), [], [], [], 104⟩] [] [] [Fc Tryd.prog gl 11 [(.val T23 a0), (.val (.int .i64) a2)] (hset (List.replicate 104 none) []) (.ret (.tup (.cons (.val (.slice 56 T57) y9.1) (.cons (.val (.slice 8 (.int .i64)) y9.2) .nil)))) (outH 104 [])] (by kernel_rfl) ⟨x11 _ _ _ hy10, trivial⟩ ?_
      obtain ⟨y11, hy12, h⟩ := bind_some h
      refine Run.sreg tied [⟨(.tup (.cons (.val (.slice 56 T57) y11.1) (.cons (.val (.slice 8 (.int .i64)) y11.2) .nil))), [], [], [], 142⟩] [] [] [Fc Tryd.prog gl 12 [(.val T23 a0), (.val (.int .i64) a2)] (hset (List.replicate 142 none) []) (.ret (.tup (.cons (.val (.slice 56 T57) y11.1) (.cons (.val (.slice 8 (.int .i64)) y11.2) .nil)))) (outH 142 [])] (by kernel_rfl) ⟨x12 _ _ _ hy12, trivial⟩ ?_
      obtain ⟨y13, hy14, h⟩ := bind_some h
      refine Run.sreg tied [⟨(.tup (.cons (.val T23 y13.1) (.cons (.val (.int .i64) y13.2) .nil))), [], [], [], 74⟩] [] [] [Fc Tryd.prog gl 13 [(.val T23 a0), (.val (.int .i64) a3)] (hset (List.replicate 74 none) []) (.ret (.tup (.cons (.val T23 y13.1) (.cons (.val (.int .i64) y13.2) .nil)))) (outH 74 [])] (by kernel_rfl) ⟨x13 _ _ _ hy14, trivial⟩ ?_
      obtain ⟨y15, hy16, h⟩ := bind_some h
      refine Run.sreg tied [⟨(.tup (.cons (.val T23 y15.1) (.cons (.val (.int .i64) y15.2) .nil))), [], [], [], 96⟩] [] [] [Fc Tryd.prog gl 14 [(.val T23 a0), (.val (.int .i64) a3)] (hset (List.replicate 96 none) []) (.ret (.tup (.cons (.val T23 y15.1) (.cons (.val (.int .i64) y15.2) .nil)))) (outH 96 [])] (by kernel_rfl) ⟨x14 _ _ _ hy16, trivial⟩ ?_
      obtain ⟨o17, h1, h⟩ := bind_some h
      refine Run.seqJ (fun σ' => σ' = mkSt 104 144 [(8, (.val .bool o17))] []) ?_ ?_
      · obtain ⟨y18, hy19, h1⟩ := bind_some h1
        rcases ite_some h1 with ⟨hg20, h1⟩ | ⟨hg20, h1⟩
        · rcases ite_some h1 with ⟨hg21, h1⟩ | ⟨hg21, h1⟩
          · obtain ⟨y22, hy23, h1⟩ := bind_some h1
            obtain ⟨y24, hy25, h1⟩ := bind_some h1
            rcases ite_some h1 with ⟨hg26, h1⟩ | ⟨hg26, h1⟩
            · obtain ⟨y27, hy28, h1⟩ := bind_some h1
              rcases ite_some h1 with ⟨hg29, h1⟩ | ⟨hg29, h1⟩
              · obtain ⟨y30, hy31, h1⟩ := bind_some h1
                rcases ite_some h1 with ⟨hg32, h1⟩ | ⟨hg32, h1⟩
                · obtain ⟨y33, hy34, h1⟩ := bind_some h1
                  obtain ⟨y35, hy36, h1⟩ := bind_some h1
                  rcases ite_some h1 with ⟨hg37, h1⟩ | ⟨hg37, h1⟩
                  · obtain ⟨y38, hy39, h1⟩ := bind_some h1
                    rcases ite_some h1 with ⟨hg40, h1⟩ | ⟨hg40, h1⟩
                    · refine Run.regA tied [⟨(.val .bool y18), [], [], [], 86⟩, ⟨(.val (.int .i64) y22), [], [], [], 99⟩, ⟨(.val (.int .i64) y24), [], [], [], 71⟩, ⟨(.val .bool y27), [], [], [], 96⟩, ⟨(.val .bool y30), [], [], [], 48⟩, ⟨(.val (.int .i64) y33), [], [], [], 51⟩, ⟨(.val (.int .i64) y35), [], [], [], 75⟩, ⟨(.val .bool y38), [], [], [], 86⟩] [true, true, true, true, true, true, true] [] [Fc Tryd.prog gl 15 [(.val T23 y5.1), (.val T23 y7.1)] (hset (List.replicate 86 none) []) (.ret (.val .bool y18)) (outH 86 []), y18 = true, (decide (y5.2 = y7.2)) = true, Fc Tryd.prog gl 16 [(.val T23 a0)] (hset (List.replicate 99 none) []) (.ret (.val (.int .i64) y22)) (outH 99 []), Fc Tryd.prog gl 17 [(.val T23 a0)] (hset (List.replicate 71 none) []) (.ret (.val (.int .i64) y24)) (outH 71 []), (decide (y22 = y24)) = true, Fc Tryd.prog gl 18 [(.val (.slice 56 T57) y9.1), (.val (.slice 56 T57) y11.1)] (hset (List.replicate 96 none) []) (.ret (.val .bool y27)) (outH 96 []), y27 = true, Fc Tryd.prog gl 19 [(.val (.slice 8 (.int .i64)) y9.2), (.val (.slice 8 (.int .i64)) y11.2)] (hset (List.replicate 48 none) []) (.ret (.val .bool y30)) (outH 48 []), y30 = true, Fc Tryd.prog gl 20 [(.val T23 a0), (.val (.int .i64) a3)] (hset (List.replicate 51 none) []) (.ret (.val (.int .i64) y33)) (outH 51 []), Fc Tryd.prog gl 21 [(.val T23 a0), (.val (.int .i64) a3)] (hset (List.replicate 75 none) []) (.ret (.val (.int .i64) y35)) (outH 75 []), (decide (y33 = y35)) = true, Fc Tryd.prog gl 15 [(.val T23 y13.1), (.val T23 y15.1)] (hset (List.replicate 86 none) []) (.ret (.val .bool y38)) (outH 86 []), y38 = true] (by kernel_rfl) ⟨x15 _ _ _ hy19, hg20, hg21, x16 _ _ hy23, x17 _ _ hy25, hg26, x18 _ _ _ hy28, hg29, x19 _ _ _ hy31, hg32, x20 _ _ _ hy34, x21 _ _ _ hy36, hg37, x15 _ _ _ hy39, hg40, trivial⟩ ?_
                      obtain rfl := Option.some.inj h1
                      exact jQ.mk [.keep [8] []] (by kernel_rfl) rfl
                    · refine Run.regA tied [⟨(.val .bool y18), [], [], [], 86⟩, ⟨(.val (.int .i64) y22), [], [], [], 99⟩, ⟨(.val (.int .i64) y24), [], [], [], 71⟩, ⟨(.val .bool y27), [], [], [], 96⟩, ⟨(.val .bool y30), [], [], [], 48⟩, ⟨(.val (.int .i64) y33), [], [], [], 51⟩, ⟨(.val (.int .i64) y35), [], [], [], 75⟩, ⟨(.val .bool y38), [], [], [], 86⟩] [true, true, true, true, true, true, false] [] [Fc Tryd.prog gl 15 [(.val T23 y5.1), (.val T23 y7.1)] (hset (List.replicate 86 none) []) (.ret (.val .bool y18)) (outH 86 []), y18 = true, (decide (y5.2 = y7.2)) = true, Fc Tryd.prog gl 16 [(.val T23 a0)] (hset (List.replicate 99 none) []) (.ret (.val (.int .i64) y22)) (outH 99 []), Fc Tryd.prog gl 17 [(.val T23 a0)] (hset (List.replicate 71 none) []) (.ret (.val (.int .i64) y24)) (outH 71 []), (decide (y22 = y24)) = true, Fc Tryd.prog gl 18 [(.val (.slice 56 T57) y9.1), (.val (.slice 56 T57) y11.1)] (hset (List.replicate 96 none) []) (.ret (.val .bool y27)) (outH 96 []), y27 = true, Fc Tryd.prog gl 19 [(.val (.slice 8 (.int .i64)) y9.2), (.val (.slice 8 (.int .i64)) y11.2)] (hset (List.replicate 48 none) []) (.ret (.val .bool y30)) (outH 48 []), y30 = true, Fc Tryd.prog gl 20 [(.val T23 a0), (.val (.int .i64) a3)] (hset (List.replicate 51 none) []) (.ret (.val (.int .i64) y33)) (outH 51 []), Fc Tryd.prog gl 21 [(.val T23 a0), (.val (.int .i64) a3)] (hset (List.replicate 75 none) []) (.ret (.val (.int .i64) y35)) (outH 75 []), (decide (y33 = y35)) = true, Fc Tryd.prog gl 15 [(.val T23 y13.1), (.val T23 y15.1)] (hset (List.replicate 86 none) []) (.ret (.val .bool y38)) (outH 86 []), y38 = false] (by kernel_rfl) ⟨x15 _ _ _ hy19, hg20, hg21, x16 _ _ hy23, x17 _ _ hy25, hg26, x18 _ _ _ hy28, hg29, x19 _ _ _ hy31, hg32, x20 _ _ _ hy34, x21 _ _ _ hy36, hg37, x15 _ _ _ hy39, hg40, trivial⟩ ?_
                      obtain rfl := Option.some.inj h1
                      exact jQ.mk [.keep [8] []] (by kernel_rfl) rfl
                  · refine Run.regA tied [⟨(.val .bool y18), [], [], [], 86⟩, ⟨(.val (.int .i64) y22), [], [], [], 99⟩, ⟨(.val (.int .i64) y24), [], [], [], 71⟩, ⟨(.val .bool y27), [], [], [], 96⟩, ⟨(.val .bool y30), [], [], [], 48⟩, ⟨(.val (.int .i64) y33), [], [], [], 51⟩, ⟨(.val (.int .i64) y35), [], [], [], 75⟩] [true, true, true, true, true, false, false] [] [Fc Tryd.prog gl 15 [(.val T23 y5.1), (.val T23 y7.1)] (hset (List.replicate 86 none) []) (.ret (.val .bool y18)) (outH 86 []), y18 = true, (decide (y5.2 = y7.2)) = true, Fc Tryd.prog gl 16 [(.val T23 a0)] (hset (List.replicate 99 none) []) (.ret (.val (.int .i64) y22)) (outH 99 []), Fc Tryd.prog gl 17 [(.val T23 a0)] (hset (List.replicate 71 none) []) (.ret (.val (.int .i64) y24)) (outH 71 []), (decide (y22 = y24)) = true, Fc Tryd.prog gl 18 [(.val (.slice 56 T57) y9.1), (.val (.slice 56 T57) y11.1)] (hset (List.replicate 96 none) []) (.ret (.val .bool y27)) (outH 96 []), y27 = true, Fc Tryd.prog gl 19 [(.val (.slice 8 (.int .i64)) y9.2), (.val (.slice 8 (.int .i64)) y11.2)] (hset (List.replicate 48 none) []) (.ret (.val .bool y30)) (outH 48 []), y30 = true, Fc Tryd.prog gl 20 [(.val T23 a0), (.val (.int .i64) a3)] (hset (List.replicate 51 none) []) (.ret (.val (.int .i64) y33)) (outH 51 []), Fc Tryd.prog gl 21 [(.val T23 a0), (.val (.int .i64) a3)] (hset (List.replicate 75 none) []) (.ret (.val (.int .i64) y35)) (outH 75 []), (decide (y33 = y35)) = false, false = false] (by kernel_rfl) ⟨x15 _ _ _ hy19, hg20, hg21, x16 _ _ hy23, x17 _ _ hy25, hg26, x18 _ _ _ hy28, hg29, x19 _ _ _ hy31, hg32, x20 _ _ _ hy34, x21 _ _ _ hy36, hg37, rfl, trivial⟩ ?_
                    obtain rfl := Option.some.inj h1
                    exact jQ.mk [.keep [8] []] (by kernel_rfl) rfl
                · refine Run.regA tied [⟨(.val .bool y18), [], [], [], 86⟩, ⟨(.val (.int .i64) y22), [], [], [], 99⟩, ⟨(.val (.int .i64) y24), [], [], [], 71⟩, ⟨(.val .bool y27), [], [], [], 96⟩, ⟨(.val .bool y30), [], [], [], 48⟩] [true, true, true, true, false, false, false] [] [Fc Tryd.prog gl 15 [(.val T23 y5.1), (.val T23 y7.1)] (hset (List.replicate 86 none) []) (.ret (.val .bool y18)) (outH 86 []), y18 = true, (decide (y5.2 = y7.2)) = true, Fc Tryd.prog gl 16 [(.val T23 a0)] (hset (List.replicate 99 none) []) (.ret (.val (.int .i64) y22)) (outH 99 []), Fc Tryd.prog gl 17 [(.val T23 a0)] (hset (List.replicate 71 none) []) (.ret (.val (.int .i64) y24)) (outH 71 []), (decide (y22 = y24)) = true, Fc Tryd.prog gl 18 [(.val (.slice 56 T57) y9.1), (.val (.slice 56 T57) y11.1)] (hset (List.replicate 96 none) []) (.ret (.val .bool y27)) (outH 96 []), y27 = true, Fc Tryd.prog gl 19 [(.val (.slice 8 (.int .i64)) y9.2), (.val (.slice 8 (.int .i64)) y11.2)] (hset (List.replicate 48 none) []) (.ret (.val .bool y30)) (outH 48 []), y30 = false, false = false, false = false] (by kernel_rfl) ⟨x15 _ _ _ hy19, hg20, hg21, x16 _ _ hy23, x17 _ _ hy25, hg26, x18 _ _ _ hy28, hg29, x19 _ _ _ hy31, hg32, rfl, rfl, trivial⟩ ?_
                  obtain rfl := Option.some.inj h1
                  exact jQ.mk [.keep [8] []] (by kernel_rfl) rfl
              · refine Run.regA tied [⟨(.val .bool y18), [], [], [], 86⟩, ⟨(.val (.int .i64) y22), [], [], [], 99⟩, ⟨(.val (.int .i64) y24), [], [], [], 71⟩, ⟨(.val .bool y27), [], [], [], 96⟩] [true, true, true, false, false, false, false] [] [Fc Tryd.prog gl 15 [(.val T23 y5.1), (.val T23 y7.1)] (hset (List.replicate 86 none) []) (.ret (.val .bool y18)) (outH 86 []), y18 = true, (decide (y5.2 = y7.2)) = true, Fc Tryd.prog gl 16 [(.val T23 a0)] (hset (List.replicate 99 none) []) (.ret (.val (.int .i64) y22)) (outH 99 []), Fc Tryd.prog gl 17 [(.val T23 a0)] (hset (List.replicate 71 none) []) (.ret (.val (.int .i64) y24)) (outH 71 []), (decide (y22 = y24)) = true, Fc Tryd.prog gl 18 [(.val (.slice 56 T57) y9.1), (.val (.slice 56 T57) y11.1)] (hset (List.replicate 96 none) []) (.ret (.val .bool y27)) (outH 96 []), y27 = false, false = false, false = false, false = false] (by kernel_rfl) ⟨x15 _ _ _ hy19, hg20, hg21, x16 _ _ hy23, x17 _ _ hy25, hg26, x18 _ _ _ hy28, hg29, rfl, rfl, rfl, trivial⟩ ?_
                obtain rfl := Option.some.inj h1
                exact jQ.mk [.keep [8] []] (by kernel_rfl) rfl
            · refine Run.regA tied [⟨(.val .bool y18), [], [], [], 86⟩, ⟨(.val (.int .i64) y22), [], [], [], 99⟩, ⟨(.val (.int .i64) y24), [], [], [], 71⟩] [true, true, false, false, false, false, false] [] [Fc Tryd.prog gl 15 [(.val T23 y5.1), (.val T23 y7.1)] (hset (List.replicate 86 none) []) (.ret (.val .bool y18)) (outH 86 []), y18 = true, (decide (y5.2 = y7.2)) = true, Fc Tryd.prog gl 16 [(.val T23 a0)] (hset (List.replicate 99 none) []) (.ret (.val (.int .i64) y22)) (outH 99 []), Fc Tryd.prog gl 17 [(.val T23 a0)] (hset (List.replicate 71 none) []) (.ret (.val (.int .i64) y24)) (outH 71 []), (decide (y22 = y24)) = false, false = false, false = false, false = false, false = false] (by kernel_rfl) ⟨x15 _ _ _ hy19, hg20, hg21, x16 _ _ hy23, x17 _ _ hy25, hg26, rfl, rfl, rfl, rfl, trivial⟩ ?_
              obtain rfl := Option.some.inj h1
              exact jQ.mk [.keep [8] []] (by kernel_rfl) rfl
          · refine Run.regA tied [⟨(.val .bool y18), [], [], [], 86⟩] [true, false, false, false, false, false, false] [] [Fc Tryd.prog gl 15 [(.val T23 y5.1), (.val T23 y7.1)] (hset (List.replicate 86 none) []) (.ret (.val .bool y18)) (outH 86 []), y18 = true, (decide (y5.2 = y7.2)) = false, false = false, false = false, false = false, false = false, false = false] (by kernel_rfl) ⟨x15 _ _ _ hy19, hg20, hg21, rfl, rfl, rfl, rfl, rfl, trivial⟩ ?_
            obtain rfl := Option.some.inj h1
            exact jQ.mk [.keep [8] []] (by kernel_rfl) rfl
        · refine Run.regA tied [⟨(.val .bool y18), [], [], [], 86⟩] [false, false, false, false, false, false, false] [] [Fc Tryd.prog gl 15 [(.val T23 y5.1), (.val T23 y7.1)] (hset (List.replicate 86 none) []) (.ret (.val .bool y18)) (outH 86 []), y18 = false, false = false, false = false, false = false, false = false, false = false, false = false] (by kernel_rfl) ⟨x15 _ _ _ hy19, hg20, rfl, rfl, rfl, rfl, rfl, rfl, trivial⟩ ?_
          obtain rfl := Option.some.inj h1
          exact jQ.mk [.keep [8] []] (by kernel_rfl) rfl
      · rintro _ rfl
        refine Run.ret ?_
        obtain rfl := Option.some.inj h
        exact (fQ_fin [] [some .bool] (msk 144 []) (by kernel_rfl)).1

/-- testamur.testamurref41.Put -/
def f24_l1 (a0 : D23) (a1 : List D48) (a2 : List D53) (a3 : Int) : Nat → Int → (List D55) → Option (List D55)
  | 0, _, _ => none
  | n1 + 1, u1_0, u1_1 => if (decide (u1_0 < (List.length a1 : Int))) = true then (if 0 ≤ u1_0 ∧ u1_0 < (List.length a1 : Int) then (if u1_0 < (List.length a2 : Int) then (if (List.length u1_1 + List.length [(nth T48 a1 u1_0, (nth T53 a2 u1_0, (a3, ((0 : Int), ()))))]) * 208 ≤ maxB then (f24_l1 a0 a1 a2 a3 n1 (w64 (u1_0 + (1 : Int))) (u1_1 ++ [(nth T48 a1 u1_0, (nth T53 a2 u1_0, (a3, ((0 : Int), ()))))])) else none) else none) else none) else (some u1_1)

def f24 (a0 : D23) (a1 : List D48) (a2 : List D53) (a3 : Int) : Option (D23 × Int) :=
  Option.bind (Option.bind (Option.bind (f17 a0) fun y3 => if (!decide (y3 = (0 : Int))) = true then (some true) else (some (!decide ((List.length a1 : Int) = (List.length a2 : Int))))) fun (o2 : Bool) => if o2 = true then (some (.ret (((0 : Int), ((0 : Int), (([] : List D55), ()))), (410 : Int)))) else (some (.brk ()))) fun (o1 : Ctl Unit (D23 × Int)) => match o1 with | .brk _v7 => (if (List.length ([] : List D55) + List.length a0.2.2.1) * 208 ≤ maxB then (Option.bind (f24_l1 a0 a1 a2 a3 (big) (0 : Int) a0.2.2.1) fun (o9 : List D55) => Option.bind (f17 (a0.1, (a0.2.1, (o9, a0.2.2.2)))) fun y14 => if (!decide (y14 = (0 : Int))) = true then (some (((0 : Int), ((0 : Int), (([] : List D55), ()))), y14)) else (some ((a0.1, (a0.2.1, (o9, a0.2.2.2))), (0 : Int)))) else none) | .ret r17 => (some r17)

set_option maxRecDepth 100000 in
theorem x24 (a0 : D23) (a1 : List D48) (a2 : List D53) (a3 : Int) (r : D23 × Int) (h : f24 a0 a1 a2 a3 = some r) : Fc Tryd.prog gl 24 [(.val T23 a0), (.val (.slice 136 T48) a1), (.val (.slice 56 T53) a2), (.val (.int .i64) a3)] (hset (List.replicate 98 none) []) (.ret (.tup (.cons (.val T23 r.1) (.cons (.val (.int .i64) r.2) .nil)))) (outH 98 []) := by
  refine Fc.of Tryd.call24 (FnEx.of_runF tied Tryd.func24 rfl rfl (σ0 := mkSt 58 98 [(0, (.val T23 a0)), (1, (.val (.slice 136 T48) a1)), (2, (.val (.slice 56 T53) a2)), (3, (.val (.int .i64) a3))] []) (by kernel_rfl) ?_)
  unfold f24 at h
  refine Run.sreg tied [] [] [] [] (by kernel_rfl) trivial ?_
  obtain ⟨o1, h1, h⟩ := bind_some h
  refine Run.seqJ (fun σ' => ∃ v7, o1 = .brk v7 ∧ σ' = mkSt 58 98 [(1, (.val (.slice 136 T48) a1)), (2, (.val (.slice 56 T53) a2)), (3, (.val (.int .i64) a3)), (4, (.ptr 20 [])), (8, (.ptr 24 []))] [(20, some (.var T23 (.val T23 a0))), (24, some (.var T23 (.cons (.val (.int .i64) (0 : Int)) (.cons (.val (.int .i64) (0 : Int)) (.cons .nils .nil)))))]) ?_ ?_
  · obtain ⟨o2, h3, h1⟩ := bind_some h1
    refine Run.seqJ (fun σ' => σ' = mkSt 58 98 [(1, (.val (.slice 136 T48) a1)), (2, (.val (.slice 56 T53) a2)), (3, (.val (.int .i64) a3)), (4, (.ptr 20 [])), (8, (.ptr 24 [])), (22, (.val .bool o2))] [(20, some (.var T23 (.val T23 a0))), (24, some (.var T23 (.cons (.val (.int .i64) (0 : Int)) (.cons (.val (.int .i64) (0 : Int)) (.cons .nils .nil)))))]) ?_ ?_
    · obtain ⟨y3, hy4, h3⟩ := bind_some h3
      rcases ite_some h3 with ⟨hg5, h3⟩ | ⟨hg5, h3⟩
      · refine Run.reg tied [⟨(.val (.int .i64) y3), [], [], [], 71⟩] [true] [] [Fc Tryd.prog gl 17 [(.val T23 a0)] (hset (List.replicate 71 none) []) (.ret (.val (.int .i64) y3)) (outH 71 []), (!decide (y3 = (0 : Int))) = true] (by kernel_rfl) ⟨x17 _ _ hy4, hg5, trivial⟩ ?_
        obtain rfl := Option.some.inj h3
        exact jQ.mk [.keep [1, 2, 3, 4, 8, 22] [20, 24]] (by kernel_rfl) rfl
      · refine Run.reg tied [⟨(.val (.int .i64) y3), [], [], [], 71⟩] [false] [] [Fc Tryd.prog gl 17 [(.val T23 a0)] (hset (List.replicate 71 none) []) (.ret (.val (.int .i64) y3)) (outH 71 []), (!decide (y3 = (0 : Int))) = false] (by kernel_rfl) ⟨x17 _ _ hy4, hg5, trivial⟩ ?_
        obtain rfl := Option.some.inj h3
        exact jQ.mk [.keep [1, 2, 3, 4, 8, 22] [20, 24]] (by kernel_rfl) rfl
    · rintro _ rfl
      rcases ite_some h1 with ⟨hc6, h1⟩ | ⟨hc6, h1⟩
      · refine Run.condT (b := o2) (by kernel_rfl) hc6 ?_
        refine Run.sreg tied [] [] [] [] (by kernel_rfl) trivial ?_
        refine Run.ret ?_
        obtain rfl := Option.some.inj h1
        dsimp only at h
        obtain rfl := Option.some.inj h
        exact (fQ_fin [] [some T23, some (.int .i64)] (msk 98 []) (by kernel_rfl)).1
      · refine Run.condF (b := o2) (by kernel_rfl) hc6 ?_
        refine Run.skip ?_
        obtain rfl := Option.some.inj h1
        exact jQ.mk [.keep [1, 2, 3, 4, 8] [20, 24]] (by kernel_rfl) ⟨_, rfl, rfl⟩
  · rintro _ ⟨v7, rfl, rfl⟩
    dsimp only at h
    refine Run.sreg tied [] [] [] [] (by kernel_rfl) trivial ?_
    obtain ⟨hv8, h⟩ := ite_none h
    refine Run.sreg tied [] [] [] [(List.length ([] : List D55) + List.length a0.2.2.1) * 208 ≤ maxB] (by kernel_rfl) ⟨hv8, trivial⟩ ?_
    obtain ⟨o9, h4, h⟩ := bind_some h
    refine Run.seqJ (fun σ' => σ' = mkSt 58 98 [(8, (.ptr 24 [])), (10, (.ptr 26 []))] [(24, some (.var T23 (.cons (.val (.int .i64) (0 : Int)) (.cons (.val (.int .i64) (0 : Int)) (.cons .nils .nil))))), (26, some (.var T23 (.cons (.val (.int .i64) a0.1) (.cons (.val (.int .i64) a0.2.1) (.cons (.own 75) (.val .unit a0.2.2.2)))))), (75, some (.row 55 208 T55 o9))]) ?_ ?_
    · refine Run.sreg tied [] [] [] [] (by kernel_rfl) trivial ?_
      refine Run.block ?_
      refine Run.loopJ (fun n σ => ∃ (u1_0 : Int) (u1_1 : List D55), f24_l1 a0 a1 a2 a3 n u1_0 u1_1 = some o9 ∧ σ = mkSt 58 98 [(1, (.val (.slice 136 T48) a1)), (2, (.val (.slice 56 T53) a2)), (3, (.val (.int .i64) a3)), (8, (.ptr 24 [])), (10, (.ptr 26 [])), (11, (.val (.int .i64) u1_0))] [(24, some (.var T23 (.cons (.val (.int .i64) (0 : Int)) (.cons (.val (.int .i64) (0 : Int)) (.cons .nils .nil))))), (26, some (.var T23 (.cons (.val (.int .i64) a0.1) (.cons (.val (.int .i64) a0.2.1) (.cons (.own 74) (.val .unit a0.2.2.2)))))), (74, some (.row 55 208 T55 u1_1))]) [.keep [1, 2, 3, 8, 10, 11] [24, 26, 44], .ren 44 74] (by kernel_rfl) ⟨_, _, h4, rfl⟩ ?_
      rintro n1 _ ⟨u1_0, u1_1, h6, rfl⟩
      cases n1 with
      | zero => exact absurd h6 (by simp [f24_l1])
      | succ n1 =>
        unfold f24_l1 at h6
        refine Run.seq ?_
        refine Run.sreg tied [] [] [] [] (by kernel_rfl) trivial ?_
        rcases ite_some h6 with ⟨hc13, h6⟩ | ⟨hc13, h6⟩
        · refine Run.condT (b := decide (u1_0 < (List.length a1 : Int))) (by kernel_rfl) hc13 ?_
          refine Run.skip ?_
          change Run _ _ _ _ _
          refine Run.seq ?_
          refine Run.block ?_
          obtain ⟨hv10, h6⟩ := ite_none h6
          obtain ⟨hv11, h6⟩ := ite_none h6
          obtain ⟨hv12, h6⟩ := ite_none h6
          refine Run.regA tied [] [] [] [0 ≤ u1_0, u1_0 < (List.length a1 : Int), 0 ≤ u1_0, u1_0 < (List.length a2 : Int), (List.length u1_1 + List.length [(nth T48 a1 u1_0, (nth T53 a2 u1_0, (a3, ((0 : Int), ()))))]) * 208 ≤ maxB] (by kernel_rfl) ⟨hv10.1, hv10.2, hv10.1, hv11, hv12, trivial⟩ ?_
          refine bN ?_
          change Run _ _ _ _ _
          refine Run.reg tied [] [] [] [] (by kernel_rfl) trivial ?_
          exact loopJ.mk [.keep [1, 2, 3, 8, 10, 11] [24, 26, 65], .ren 65 74] (by kernel_rfl) ⟨_, _, h6, rfl⟩
        · refine Run.condF (b := decide (u1_0 < (List.length a1 : Int))) (by kernel_rfl) hc13 ?_
          refine Run.exit ?_
          refine tE ?_
          refine lE ?_
          refine bE ?_
          obtain rfl := Option.some.inj h6
          exact jQ.mk [.keep [8, 10] [24, 26, 74], .ren 74 75] (by kernel_rfl) rfl
    · rintro _ rfl
      obtain ⟨y14, hy15, h⟩ := bind_some h
      refine Run.sreg tied [⟨(.val (.int .i64) y14), [], [], [], 71⟩] [] [] [Fc Tryd.prog gl 17 [(.val T23 (a0.1, (a0.2.1, (o9, a0.2.2.2))))] (hset (List.replicate 71 none) []) (.ret (.val (.int .i64) y14)) (outH 71 [])] (by kernel_rfl) ⟨x17 _ _ hy15, trivial⟩ ?_
      refine Run.seq ?_
      refine Run.sreg tied [] [] [] [] (by kernel_rfl) trivial ?_
      rcases ite_some h with ⟨hc16, h⟩ | ⟨hc16, h⟩
      · refine Run.condT (b := !decide (y14 = (0 : Int))) (by kernel_rfl) hc16 ?_
        refine Run.sreg tied [] [] [] [] (by kernel_rfl) trivial ?_
        refine Run.ret ?_
        obtain rfl := Option.some.inj h
        exact (fQ_fin [] [some T23, some (.int .i64)] (msk 98 []) (by kernel_rfl)).1
      · refine Run.condF (b := !decide (y14 = (0 : Int))) (by kernel_rfl) hc16 ?_
        refine Run.skip ?_
        change Run _ _ _ _ _
        refine Run.sreg tied [] [] [] [] (by kernel_rfl) trivial ?_
        refine Run.ret ?_
        obtain rfl := Option.some.inj h
        exact (fQ_fin [.freeze 75 (.slice 208 T55)] [some T23, some (.int .i64)] (msk 98 []) (by kernel_rfl)).1

/-- testamur.testamurlaw41.WalletPutSpec -/
def f4_l1 (a0 : D23) (a1 : List D48) (a2 : List D53) (a3 : Int) : Nat → Int → Option (Ctl Unit Bool)
  | 0, _ => none
  | n1 + 1, u1_0 => if (decide (u1_0 < (List.length a1 : Int))) = true then (if 0 ≤ u1_0 ∧ u1_0 < (List.length a1 : Int) then (Option.bind (f22 (nth T48 a1 u1_0)) fun y13 => if (!y13) = true then (some (.ret true)) else (f4_l1 a0 a1 a2 a3 n1 (w64 (u1_0 + (1 : Int))))) else none) else (some (.brk ()))

def f4 (a0 : D23) (a1 : List D48) (a2 : List D53) (a3 : Int) : Option Bool :=
  Option.bind (f7) fun y1 => if (!y1) = true then (some false) else (Option.bind (Option.bind (Option.bind (f8 a0) fun y5 => if (!y5) = true then (some true) else (if (decide ((6 : Int) < (List.length a1 : Int))) = true then (some true) else (some (decide ((6 : Int) < (List.length a2 : Int)))))) fun (o4 : Bool) => if o4 = true then (some (.ret true)) else (some (.brk ()))) fun (o3 : Ctl Unit Bool) => match o3 with | .brk _v10 => (Option.bind (f4_l1 a0 a1 a2 a3 (List.length a1 + 1) (0 : Int)) fun (o11 : Ctl Unit Bool) => match o11 with | .brk _v17 => (Option.bind (f23 a0 a1 a2 a3) fun y18 => Option.bind (f24 a0 a1 a2 a3) fun y20 => Option.bind (Option.bind (f15 y18.1 y20.1) fun y23 => if y23 = true then (some (decide (y18.2 = y20.2))) else (some false)) fun (o22 : Bool) => some o22) | .ret r26 => (some r26)) | .ret r27 => (some r27))

set_option maxRecDepth 100000 in
theorem x4 (a0 : D23) (a1 : List D48) (a2 : List D53) (a3 : Int) (r : Bool) (h : f4 a0 a1 a2 a3 = some r) : Fc Tryd.prog gl 4 [(.val T23 a0), (.val (.slice 136 T48) a1), (.val (.slice 56 T53) a2), (.val (.int .i64) a3)] (hset (List.replicate 104 none) []) (.ret (.val .bool r)) (outH 104 []) := by
  refine Fc.of Tryd.call4 (FnEx.of_runF tied Tryd.func4 rfl rfl (σ0 := mkSt 64 104 [(0, (.val T23 a0)), (1, (.val (.slice 136 T48) a1)), (2, (.val (.slice 56 T53) a2)), (3, (.val (.int .i64) a3))] []) (by kernel_rfl) ?_)
  unfold f4 at h
  refine Run.sreg tied [] [] [] [] (by kernel_rfl) trivial ?_
  refine Run.seq ?_
  obtain ⟨y1, hy2, h⟩ := bind_some h
  refine Run.sreg tied [⟨(.val .bool y1), [], [], [], 295⟩] [] [] [Fc Tryd.prog gl 7 [] (hset (List.replicate 295 none) []) (.ret (.val .bool y1)) (outH 295 [])] (by kernel_rfl) ⟨x7  _ hy2, trivial⟩ ?_
  rcases ite_some h with ⟨hc28, h⟩ | ⟨hc28, h⟩
  · refine Run.condT (b := !y1) (by kernel_rfl) hc28 ?_
    refine Run.sreg tied [] [] [] [] (by kernel_rfl) trivial ?_
    refine Run.ret ?_
    obtain rfl := Option.some.inj h
    exact (fQ_fin [] [some .bool] (msk 104 []) (by kernel_rfl)).1
  · refine Run.condF (b := !y1) (by kernel_rfl) hc28 ?_
    refine Run.skip ?_
    change Run _ _ _ _ _
    obtain ⟨o3, h1, h⟩ := bind_some h
    refine Run.seqJ (fun σ' => ∃ v10, o3 = .brk v10 ∧ σ' = mkSt 64 104 [(1, (.val (.slice 136 T48) a1)), (2, (.val (.slice 56 T53) a2)), (3, (.val (.int .i64) a3)), (4, (.ptr 20 []))] [(20, some (.var T23 (.val T23 a0)))]) ?_ ?_
    · obtain ⟨o4, h3, h1⟩ := bind_some h1
      refine Run.seqJ (fun σ' => σ' = mkSt 64 104 [(1, (.val (.slice 136 T48) a1)), (2, (.val (.slice 56 T53) a2)), (3, (.val (.int .i64) a3)), (4, (.ptr 20 [])), (29, (.val .bool o4))] [(20, some (.var T23 (.val T23 a0)))]) ?_ ?_
      · obtain ⟨y5, hy6, h3⟩ := bind_some h3
        rcases ite_some h3 with ⟨hg7, h3⟩ | ⟨hg7, h3⟩
        · refine Run.reg tied [⟨(.val .bool y5), [], [], [], 74⟩] [true, true] [] [Fc Tryd.prog gl 8 [(.val T23 a0)] (hset (List.replicate 74 none) []) (.ret (.val .bool y5)) (outH 74 []), (!y5) = true, true = true] (by kernel_rfl) ⟨x8 _ _ hy6, hg7, rfl, trivial⟩ ?_
          obtain rfl := Option.some.inj h3
          exact jQ.mk [.keep [1, 2, 3, 4, 29] [20]] (by kernel_rfl) rfl
        · rcases ite_some h3 with ⟨hg8, h3⟩ | ⟨hg8, h3⟩
          · refine Run.reg tied [⟨(.val .bool y5), [], [], [], 74⟩] [false, true] [] [Fc Tryd.prog gl 8 [(.val T23 a0)] (hset (List.replicate 74 none) []) (.ret (.val .bool y5)) (outH 74 []), (!y5) = false, (decide ((6 : Int) < (List.length a1 : Int))) = true] (by kernel_rfl) ⟨x8 _ _ hy6, hg7, hg8, trivial⟩ ?_
            obtain rfl := Option.some.inj h3
            exact jQ.mk [.keep [1, 2, 3, 4, 29] [20]] (by kernel_rfl) rfl
          · refine Run.reg tied [⟨(.val .bool y5), [], [], [], 74⟩] [false, false] [] [Fc Tryd.prog gl 8 [(.val T23 a0)] (hset (List.replicate 74 none) []) (.ret (.val .bool y5)) (outH 74 []), (!y5) = false, (decide ((6 : Int) < (List.length a1 : Int))) = false] (by kernel_rfl) ⟨x8 _ _ hy6, hg7, hg8, trivial⟩ ?_
            obtain rfl := Option.some.inj h3
            exact jQ.mk [.keep [1, 2, 3, 4, 29] [20]] (by kernel_rfl) rfl
      · rintro _ rfl
        rcases ite_some h1 with ⟨hc9, h1⟩ | ⟨hc9, h1⟩
        · refine Run.condT (b := o4) (by kernel_rfl) hc9 ?_
          refine Run.sreg tied [] [] [] [] (by kernel_rfl) trivial ?_
          refine Run.ret ?_
          obtain rfl := Option.some.inj h1
          dsimp only at h
          obtain rfl := Option.some.inj h
          exact (fQ_fin [] [some .bool] (msk 104 []) (by kernel_rfl)).1
        · refine Run.condF (b := o4) (by kernel_rfl) hc9 ?_
          refine Run.skip ?_
          obtain rfl := Option.some.inj h1
          exact jQ.mk [.keep [1, 2, 3, 4] [20]] (by kernel_rfl) ⟨_, rfl, rfl⟩
    · rintro _ ⟨v10, rfl, rfl⟩
      dsimp only at h
      obtain ⟨o11, h4, h⟩ := bind_some h
      refine Run.seqJ (fun σ' => ∃ v17, o11 = .brk v17 ∧ σ' = mkSt 64 104 [(1, (.val (.slice 136 T48) a1)), (2, (.val (.slice 56 T53) a2)), (3, (.val (.int .i64) a3)), (4, (.ptr 20 []))] [(20, some (.var T23 (.val T23 a0)))]) ?_ ?_
      · refine Run.sreg tied [] [] [] [] (by kernel_rfl) trivial ?_
        refine Run.block ?_
        refine Run.loopJ (fun n σ => ∃ (u1_0 : Int), f4_l1 a0 a1 a2 a3 n u1_0 = some o11 ∧ σ = mkSt 64 104 [(1, (.val (.slice 136 T48) a1)), (2, (.val (.slice 56 T53) a2)), (3, (.val (.int .i64) a3)), (4, (.ptr 20 [])), (30, (.val (.slice 136 T48) a1)), (31, (.val (.int .i64) (List.length a1 : Int))), (32, (.val (.int .i64) u1_0))] [(20, some (.var T23 (.val T23 a0)))]) [.keep [1, 2, 3, 4, 30, 31, 32] [20]] (by kernel_rfl) ⟨_, h4, rfl⟩ ?_
        rintro n1 _ ⟨u1_0, h6, rfl⟩
        cases n1 with
        | zero => exact absurd h6 (by simp [f4_l1])
        | succ n1 =>
          unfold f4_l1 at h6
          refine Run.sreg tied [] [] [] [] (by kernel_rfl) trivial ?_
          refine Run.seq ?_
          rcases ite_some h6 with ⟨hc16, h6⟩ | ⟨hc16, h6⟩
          · refine Run.condT (b := decide (u1_0 < (List.length a1 : Int))) (by kernel_rfl) hc16 ?_
            refine Run.skip ?_
            change Run _ _ _ _ _
            refine Run.seq ?_
            refine Run.block ?_
            obtain ⟨hv12, h6⟩ := ite_none h6
            refine Run.sreg tied [] [] [] [0 ≤ u1_0, u1_0 < (List.length a1 : Int)] (by kernel_rfl) ⟨hv12.1, hv12.2, trivial⟩ ?_
            obtain ⟨y13, hy14, h6⟩ := bind_some h6
            refine Run.sreg tied [⟨(.val .bool y13), [], [], [], 85⟩] [] [] [Fc Tryd.prog gl 22 [(.val T48 (nth T48 a1 u1_0))] (hset (List.replicate 85 none) []) (.ret (.val .bool y13)) (outH 85 [])] (by kernel_rfl) ⟨x22 _ _ hy14, trivial⟩ ?_
            rcases ite_some h6 with ⟨hc15, h6⟩ | ⟨hc15, h6⟩
            · refine Run.condT (b := !y13) (by kernel_rfl) hc15 ?_
              refine Run.sreg tied [] [] [] [] (by kernel_rfl) trivial ?_
              refine Run.ret ?_
              obtain rfl := Option.some.inj h6
              dsimp only at h
              obtain rfl := Option.some.inj h
              exact (fQ_fin [] [some .bool] (msk 104 []) (by kernel_rfl)).1
            · refine Run.condF (b := !y13) (by kernel_rfl) hc15 ?_
              refine Run.skip ?_
              refine bN ?_
              change Run _ _ _ _ _
              refine Run.reg tied [] [] [] [] (by kernel_rfl) trivial ?_
              exact loopJ.mk [.keep [1, 2, 3, 4, 30, 31, 32] [20]] (by kernel_rfl) ⟨_, h6, rfl⟩
          · refine Run.condF (b := decide (u1_0 < (List.length a1 : Int))) (by kernel_rfl) hc16 ?_
            refine Run.exit ?_
            refine tE ?_
            refine lE ?_
            refine bE ?_
            obtain rfl := Option.some.inj h6
            exact jQ.mk [.keep [1, 2, 3, 4] [20]] (by kernel_rfl) ⟨_, rfl, rfl⟩
      · rintro _ ⟨v17, rfl, rfl⟩
        dsimp only at h
        obtain ⟨y18, hy19, h⟩ := bind_some h
        refine Run.sreg tied [⟨(.tup (.cons (.val T23 y18.1) (.cons (.val (.int .i64) y18.2) .nil))), [], [], [], 98⟩] [] [] [Fc Tryd.prog gl 23 [(.val T23 a0), (.val (.slice 136 T48) a1), (.val (.slice 56 T53) a2), (.val (.int .i64) a3)] (hset (List.replicate 98 none) []) (.ret (.tup (.cons (.val T23 y18.1) (.cons (.val (.int .i64) y18.2) .nil)))) (outH 98 [])] (by kernel_rfl) ⟨x23 _ _ _ _ _ hy19, trivial⟩ ?_
        obtain ⟨y20, hy21, h⟩ := bind_some h
        refine Run.sreg tied [⟨(.tup (.cons (.val T23 y20.1) (.cons (.val (.int .i64) y20.2) .nil))), [], [], [], 98⟩] [] [] [Fc Tryd.prog gl 24 [(.val T23 a0), (.val (.slice 136 T48) a1), (.val (.slice 56 T53) a2), (.val (.int .i64) a3)] (hset (List.replicate 98 none) []) (.ret (.tup (.cons (.val T23 y20.1) (.cons (.val (.int .i64) y20.2) .nil)))) (outH 98 [])] (by kernel_rfl) ⟨x24 _ _ _ _ _ hy21, trivial⟩ ?_
        obtain ⟨o22, h7, h⟩ := bind_some h
        refine Run.seqJ (fun σ' => σ' = mkSt 64 104 [(8, (.val .bool o22))] []) ?_ ?_
        · obtain ⟨y23, hy24, h7⟩ := bind_some h7
          rcases ite_some h7 with ⟨hg25, h7⟩ | ⟨hg25, h7⟩
          · refine Run.reg tied [⟨(.val .bool y23), [], [], [], 86⟩] [true] [] [Fc Tryd.prog gl 15 [(.val T23 y18.1), (.val T23 y20.1)] (hset (List.replicate 86 none) []) (.ret (.val .bool y23)) (outH 86 []), y23 = true] (by kernel_rfl) ⟨x15 _ _ _ hy24, hg25, trivial⟩ ?_
            obtain rfl := Option.some.inj h7
            exact jQ.mk [.keep [8] []] (by kernel_rfl) rfl
          · refine Run.reg tied [⟨(.val .bool y23), [], [], [], 86⟩] [false] [] [Fc Tryd.prog gl 15 [(.val T23 y18.1), (.val T23 y20.1)] (hset (List.replicate 86 none) []) (.ret (.val .bool y23)) (outH 86 []), y23 = false] (by kernel_rfl) ⟨x15 _ _ _ hy24, hg25, trivial⟩ ?_
            obtain rfl := Option.some.inj h7
            exact jQ.mk [.keep [8] []] (by kernel_rfl) rfl
        · rintro _ rfl
          refine Run.ret ?_
          obtain rfl := Option.some.inj h
          exact (fQ_fin [] [some .bool] (msk 104 []) (by kernel_rfl)).1

/-- testamur.testamurlaw41.WalletOffers -/
def f5_l2 (a0 : D23) (a1 : Int) (y5 : (List D57) × (List Int)) (u1_0 : Int) : Nat → Int → Option (Ctl Unit Bool)
  | 0, _ => none
  | n2 + 1, u2_0 => if (decide (u2_0 < (List.length (((nth T57 y5.1 u1_0).2).1) : Int))) = true then (if 0 ≤ u2_0 ∧ u2_0 < (List.length (((nth T57 y5.1 u1_0).2).1) : Int) then (if (!decide ((nth (.int .i64) (((nth T57 y5.1 u1_0).2).1) u2_0) = u2_0)) = true then (some (.ret false)) else (f5_l2 a0 a1 y5 u1_0 n2 (w64 (u2_0 + (1 : Int))))) else none) else (some (.brk ()))

def f5_l1 (a0 : D23) (a1 : Int) (y5 : (List D57) × (List Int)) : Nat → Int → Option (Ctl Unit Bool)
  | 0, _ => none
  | n1 + 1, u1_0 => if (decide (u1_0 < (List.length y5.2 : Int))) = true then (Option.bind (if 0 ≤ u1_0 ∧ u1_0 < (List.length y5.2 : Int) then (Option.bind (Option.bind (if (decide ((nth (.int .i64) y5.2 u1_0) < (0 : Int))) = true then (some true) else (if (decide ((List.length a0.2.2.1 : Int) ≤ (nth (.int .i64) y5.2 u1_0))) = true then (some true) else (if (decide ((0 : Int) < u1_0)) = true then (if 0 ≤ (w64 (u1_0 - (1 : Int))) ∧ (w64 (u1_0 - (1 : Int))) < (List.length y5.2 : Int) then (some (decide ((nth (.int .i64) y5.2 u1_0) ≤ (nth (.int .i64) y5.2 (w64 (u1_0 - (1 : Int))))))) else none) else (some false)))) fun (o16 : Bool) => if o16 = true then (some (.ret false)) else (some (.brk ()))) fun (o15 : Ctl Unit Bool) => match o15 with | .brk _v22 => (if 0 ≤ (nth (.int .i64) y5.2 u1_0) ∧ (nth (.int .i64) y5.2 u1_0) < (List.length a0.2.2.1 : Int) then (Option.bind (Option.bind (if (!decide (((((nth T55 a0.2.2.1 (nth (.int .i64) y5.2 u1_0)).2).2).1) = a1)) = true then (some true) else (if (!decide ((((((nth T55 a0.2.2.1 (nth (.int .i64) y5.2 u1_0)).2).2).2).1) = (0 : Int))) = true then (some true) else (if u1_0 < (List.length y5.1 : Int) then (if (!decide (((nth T57 y5.1 u1_0).1) = (((((nth T55 a0.2.2.1 (nth (.int .i64) y5.2 u1_0)).1).2).2).1))) = true then (some true) else (Option.bind (f19 ((((nth T57 y5.1 u1_0).2).2).1) ((((((((nth T55 a0.2.2.1 (nth (.int .i64) y5.2 u1_0)).1).2).2).2).2).2).1)) fun y30 => if (!y30) = true then (some true) else (some (!decide ((List.length (((nth T57 y5.1 u1_0).2).1) : Int) = (List.length ((((nth T57 y5.1 u1_0).2).2).1) : Int)))))) else none))) fun (o25 : Bool) => if o25 = true then (some (.ret false)) else (some (.brk ()))) fun (o24 : Ctl Unit Bool) => match o24 with | .brk _v34 => (if u1_0 < (List.length y5.1 : Int) then (Option.bind (f5_l2 a0 a1 y5 u1_0 (List.length (((nth T57 y5.1 u1_0).2).1) + 1) (0 : Int)) fun (o36 : Ctl Unit Bool) => match o36 with | .brk _v40 => (some (.brk ())) | .ret r41 => (some (.ret r41))) else none) | .ret r42 => (some (.ret r42))) else none) | .ret r43 => (some (.ret r43))) else none) fun (o13 : Ctl Unit Bool) => match o13 with | .brk _v44 => (f5_l1 a0 a1 y5 n1 (w64 (u1_0 + (1 : Int)))) | .ret r45 => (some (.ret r45))) else (some (.brk ()))

def f5_l4 (a0 : D23) (a1 : Int) (y5 : (List D57) × (List Int)) (u3_0 : Int) : Nat → Int → Bool → Int → Option (Int × Bool)
  | 0, _, _, _ => none
  | n4 + 1, u4_0, u4_1, u4_2 => if (decide (u4_2 < (List.length y5.1 : Int))) = true then (Option.bind (if 0 ≤ u4_2 ∧ u4_2 < (List.length y5.1 : Int) then (Option.bind (if (decide (((nth T57 y5.1 u4_2).1) = (((((nth T55 a0.2.2.1 u3_0).1).2).2).1))) = true then (Option.bind (f19 ((((nth T57 y5.1 u4_2).2).2).1) ((((((((nth T55 a0.2.2.1 u3_0).1).2).2).2).2).2).1)) fun y61 => some y61) else (some false)) fun (o59 : Bool) => if o59 = true then (if u4_2 < (List.length y5.2 : Int) then (some (w64 (u4_0 + (1 : Int)), decide ((nth (.int .i64) y5.2 u4_2) ≤ u3_0))) else none) else (some (u4_0, u4_1))) else none) fun (o57 : Int × Bool) => f5_l4 a0 a1 y5 u3_0 n4 o57.1 o57.2 (w64 (u4_2 + (1 : Int)))) else (some (u4_0, u4_1))

def f5_l3 (a0 : D23) (a1 : Int) (y5 : (List D57) × (List Int)) : Nat → Int → Option (Ctl Unit Bool)
  | 0, _ => none
  | n3 + 1, u3_0 => if (decide (u3_0 < (List.length a0.2.2.1 : Int))) = true then (Option.bind (if 0 ≤ u3_0 ∧ u3_0 < (List.length a0.2.2.1 : Int) then (Option.bind (Option.bind (if (!decide (((((nth T55 a0.2.2.1 u3_0).2).2).1) = a1)) = true then (some true) else (some (!decide ((((((nth T55 a0.2.2.1 u3_0).2).2).2).1) = (0 : Int))))) fun (o52 : Bool) => if o52 = true then (some (.ret ())) else (some (.brk ()))) fun (o51 : Ctl Unit Unit) => match o51 with | .brk _v55 => (Option.bind (f5_l4 a0 a1 y5 u3_0 (List.length y5.1 + 1) (0 : Int) false (0 : Int)) fun (o56 : Int × Bool) => Option.bind (if (decide ((1 : Int) < o56.1)) = true then (some true) else (if (decide (o56.1 = (1 : Int))) = true then (if (!o56.2) = true then (some true) else (if (decide (o56.1 = (0 : Int))) = true then (some (decide ((List.length y5.1 : Int) < (8 : Int)))) else (some false))) else (if (decide (o56.1 = (0 : Int))) = true then (some (decide ((List.length y5.1 : Int) < (8 : Int)))) else (some false)))) fun (o66 : Bool) => if o66 = true then (some (.ret false)) else (some (.brk ()))) | .ret _v73 => (some (.brk ()))) else none) fun (o49 : Ctl Unit Bool) => match o49 with | .brk _v74 => (f5_l3 a0 a1 y5 n3 (w64 (u3_0 + (1 : Int)))) | .ret r75 => (some (.ret r75))) else (some (.brk ()))

def f5 (a0 : D23) (a1 : Int) : Option Bool :=
  Option.bind (f7) fun y1 => if (!y1) = true then (some false) else (Option.bind (f8 a0) fun y3 => if (!y3) = true then (some true) else (Option.bind (f11 a0 a1) fun y5 => Option.bind (Option.bind (if (!decide ((List.length y5.1 : Int) = (List.length y5.2 : Int))) = true then (some true) else (some (decide ((8 : Int) < (List.length y5.1 : Int))))) fun (o8 : Bool) => if o8 = true then (some (.ret false)) else (some (.brk ()))) fun (o7 : Ctl Unit Bool) => match o7 with | .brk _v11 => (Option.bind (f5_l1 a0 a1 y5 (List.length y5.2 + 1) (0 : Int)) fun (o12 : Ctl Unit Bool) => match o12 with | .brk _v47 => (Option.bind (f5_l3 a0 a1 y5 (List.length a0.2.2.1 + 1) (0 : Int)) fun (o48 : Ctl Unit Bool) => match o48 with | .brk _v77 => (some true) | .ret r78 => (some r78)) | .ret r79 => (some r79)) | .ret r80 => (some r80)))

set_option maxRecDepth 100000 in
theorem x5 (a0 : D23) (a1 : Int) (r : Bool) (h : f5 a0 a1 = some r) : Fc Tryd.prog gl 5 [(.val T23 a0), (.val (.int .i64) a1)] (hset (List.replicate 243 none) []) (.ret (.val .bool r)) (outH 243 []) := by
  refine Fc.of Tryd.call5 (FnEx.of_runF tied Tryd.func5 rfl rfl (σ0 := mkSt 203 243 [(0, (.val T23 a0)), (1, (.val (.int .i64) a1))] []) (by kernel_rfl) ?_)
  unfold f5 at h
  refine Run.sreg tied [] [] [] [] (by kernel_rfl) trivial ?_
  refine Run.seq ?_
  obtain ⟨y1, hy2, h⟩ := bind_some h
  refine Run.sreg tied [⟨(.val .bool y1), [], [], [], 295⟩] [] [] [Fc Tryd.prog gl 7 [] (hset (List.replicate 295 none) []) (.ret (.val .bool y1)) (outH 295 [])] (by kernel_rfl) ⟨x7  _ hy2, trivial⟩ ?_
  rcases ite_some h with ⟨hc82, h⟩ | ⟨hc82, h⟩
  · refine Run.condT (b := !y1) (by kernel_rfl) hc82 ?_
    refine Run.sreg tied [] [] [] [] (by kernel_rfl) trivial ?_
    refine Run.ret ?_
    obtain rfl := Option.some.inj h
    exact (fQ_fin [] [some .bool] (msk 243 []) (by kernel_rfl)).1
  · refine Run.condF (b := !y1) (by kernel_rfl) hc82 ?_
    refine Run.skip ?_
    change Run _ _ _ _ _
    refine Run.seq ?_
    obtain ⟨y3, hy4, h⟩ := bind_some h
    refine Run.sreg tied [⟨(.val .bool y3), [], [], [], 74⟩] [] [] [Fc Tryd.prog gl 8 [(.val T23 a0)] (hset (List.replicate 74 none) []) (.ret (.val .bool y3)) (outH 74 [])] (by kernel_rfl) ⟨x8 _ _ hy4, trivial⟩ ?_
    rcases ite_some h with ⟨hc81, h⟩ | ⟨hc81, h⟩
    · refine Run.condT (b := !y3) (by kernel_rfl) hc81 ?_
      refine Run.sreg tied [] [] [] [] (by kernel_rfl) trivial ?_
      refine Run.ret ?_
      obtain rfl := Option.some.inj h
      exact (fQ_fin [] [some .bool] (msk 243 []) (by kernel_rfl)).1
    · refine Run.condF (b := !y3) (by kernel_rfl) hc81 ?_
      refine Run.skip ?_
      change Run _ _ _ _ _
      obtain ⟨y5, hy6, h⟩ := bind_some h
      refine Run.sreg tied [⟨(.tup (.cons (.val (.slice 56 T57) y5.1) (.cons (.val (.slice 8 (.int .i64)) y5.2) .nil))), [], [], [], 104⟩] [] [] [Fc Tryd.prog gl 11 [(.val T23 a0), (.val (.int .i64) a1)] (hset (List.replicate 104 none) []) (.ret (.tup (.cons (.val (.slice 56 T57) y5.1) (.cons (.val (.slice 8 (.int .i64)) y5.2) .nil)))) (outH 104 [])] (by kernel_rfl) ⟨x11 _ _ _ hy6, trivial⟩ ?_
      obtain ⟨o7, h1, h⟩ := bind_some h
      refine Run.seqJ (fun σ' => ∃ v11, o7 = .brk v11 ∧ σ' = mkSt 203 243 [(1, (.val (.int .i64) a1)), (2, (.ptr 18 [])), (5, (.val (.slice 56 T57) y5.1)), (6, (.val (.slice 8 (.int .i64)) y5.2))] [(18, some (.var T23 (.val T23 a0)))]) ?_ ?_
      · obtain ⟨o8, h3, h1⟩ := bind_some h1
        refine Run.seqJ (fun σ' => σ' = mkSt 203 243 [(1, (.val (.int .i64) a1)), (2, (.ptr 18 [])), (5, (.val (.slice 56 T57) y5.1)), (6, (.val (.slice 8 (.int .i64)) y5.2)), (38, (.val .bool o8))] [(18, some (.var T23 (.val T23 a0)))]) ?_ ?_
        · rcases ite_some h3 with ⟨hg9, h3⟩ | ⟨hg9, h3⟩
          · refine Run.reg tied [] [true] [] [(!decide ((List.length y5.1 : Int) = (List.length y5.2 : Int))) = true] (by kernel_rfl) ⟨hg9, trivial⟩ ?_
            obtain rfl := Option.some.inj h3
            exact jQ.mk [.keep [1, 2, 5, 6, 38] [18]] (by kernel_rfl) rfl
          · refine Run.reg tied [] [false] [] [(!decide ((List.length y5.1 : Int) = (List.length y5.2 : Int))) = false] (by kernel_rfl) ⟨hg9, trivial⟩ ?_
            obtain rfl := Option.some.inj h3
            exact jQ.mk [.keep [1, 2, 5, 6, 38] [18]] (by kernel_rfl) rfl
        · rintro _ rfl
          rcases ite_some h1 with ⟨hc10, h1⟩ | ⟨hc10, h1⟩
          · refine Run.condT (b := o8) (by kernel_rfl) hc10 ?_
            refine Run.sreg tied [] [] [] [] (by kernel_rfl) trivial ?_
            refine Run.ret ?_
            obtain rfl := Option.some.inj h1
            dsimp only at h
            obtain rfl := Option.some.inj h
            exact (fQ_fin [] [some .bool] (msk 243 []) (by kernel_rfl)).1
          · refine Run.condF (b := o8) (by kernel_rfl) hc10 ?_
            refine Run.skip ?_
            obtain rfl := Option.some.inj h1
            exact jQ.mk [.keep [1, 2, 5, 6] [18]] (by kernel_rfl) ⟨_, rfl, rfl⟩
      · rintro _ ⟨v11, rfl, rfl⟩
        dsimp only at h
        obtain ⟨o12, h4, h⟩ := bind_some h
        refine Run.seqJ (fun σ' => ∃ v47, o12 = .brk v47 ∧ σ' = mkSt 203 243 [(1, (.val (.int .i64) a1)), (2, (.ptr 18 [])), (5, (.val (.slice 56 T57) y5.1)), (6, (.val (.slice 8 (.int .i64)) y5.2))] [(18, some (.var T23 (.val T23 a0)))]) ?_ ?_
        · refine Run.sreg tied [] [] [] [] (by kernel_rfl) trivial ?_
          refine Run.block ?_
          refine Run.loopJ (fun n σ => ∃ (u1_0 : Int), f5_l1 a0 a1 y5 n u1_0 = some o12 ∧ σ = mkSt 203 243 [(1, (.val (.int .i64) a1)), (2, (.ptr 18 [])), (5, (.val (.slice 56 T57) y5.1)), (6, (.val (.slice 8 (.int .i64)) y5.2)), (39, (.val (.slice 8 (.int .i64)) y5.2)), (40, (.val (.int .i64) (List.length y5.2 : Int))), (41, (.val (.int .i64) u1_0))] [(18, some (.var T23 (.val T23 a0)))]) [.keep [1, 2, 5, 6, 39, 40, 41] [18]] (by kernel_rfl) ⟨_, h4, rfl⟩ ?_
          rintro n1 _ ⟨u1_0, h25, rfl⟩
          cases n1 with
          | zero => exact absurd h25 (by simp [f5_l1])
          | succ n1 =>
            unfold f5_l1 at h25
            refine Run.sreg tied [] [] [] [] (by kernel_rfl) trivial ?_
            refine Run.seq ?_
            rcases ite_some h25 with ⟨hc46, h25⟩ | ⟨hc46, h25⟩
            · refine Run.condT (b := decide (u1_0 < (List.length y5.2 : Int))) (by kernel_rfl) hc46 ?_
              refine Run.skip ?_
              change Run _ _ _ _ _
              obtain ⟨o13, h26, h25⟩ := bind_some h25
              refine Run.seqJ (fun σ' => ∃ v44, o13 = .brk v44 ∧ σ' = mkSt 203 243 [(1, (.val (.int .i64) a1)), (2, (.ptr 18 [])), (5, (.val (.slice 56 T57) y5.1)), (6, (.val (.slice 8 (.int .i64)) y5.2)), (39, (.val (.slice 8 (.int .i64)) y5.2)), (40, (.val (.int .i64) (List.length y5.2 : Int))), (41, (.val (.int .i64) u1_0))] [(18, some (.var T23 (.val T23 a0)))]) ?_ ?_
              · refine Run.block ?_
                obtain ⟨hv14, h26⟩ := ite_none h26
                refine Run.sreg tied [] [] [] [0 ≤ u1_0, u1_0 < (List.length y5.2 : Int)] (by kernel_rfl) ⟨hv14.1, hv14.2, trivial⟩ ?_
                obtain ⟨o15, h36, h26⟩ := bind_some h26
                refine Run.seqJ (fun σ' => ∃ v22, o15 = .brk v22 ∧ σ' = mkSt 203 243 [(1, (.val (.int .i64) a1)), (2, (.ptr 18 [])), (5, (.val (.slice 56 T57) y5.1)), (6, (.val (.slice 8 (.int .i64)) y5.2)), (7, (.val (.int .i64) u1_0)), (8, (.val (.int .i64) (nth (.int .i64) y5.2 u1_0))), (39, (.val (.slice 8 (.int .i64)) y5.2)), (40, (.val (.int .i64) (List.length y5.2 : Int))), (41, (.val (.int .i64) u1_0))] [(18, some (.var T23 (.val T23 a0)))]) ?_ ?_
                · obtain ⟨o16, h38, h36⟩ := bind_some h36
                  refine Run.seqJ (fun σ' => σ' = mkSt 203 243 [(1, (.val (.int .i64) a1)), (2, (.ptr 18 [])), (5, (.val (.slice 56 T57) y5.1)), (6, (.val (.slice 8 (.int .i64)) y5.2)), (7, (.val (.int .i64) u1_0)), (8, (.val (.int .i64) (nth (.int .i64) y5.2 u1_0))), (39, (.val (.slice 8 (.int .i64)) y5.2)), (40, (.val (.int .i64) (List.length y5.2 : Int))), (41, (.val (.int .i64) u1_0)), (67, (.val .bool o16))] [(18, some (.var T23 (.val T23 a0)))]) ?_ ?_
                  · rcases ite_some h38 with ⟨hg17, h38⟩ | ⟨hg17, h38⟩
                    · refine Run.reg tied [] [true, true, false] [] [(decide ((nth (.int .i64) y5.2 u1_0) < (0 : Int))) = true, true = true] (by kernel_rfl) ⟨hg17, rfl, trivial⟩ ?_
                      obtain rfl := Option.some.inj h38
                      exact jQ.mk [.keep [1, 2, 5, 6, 7, 8, 39, 40, 41, 67] [18]] (by kernel_rfl) rfl
                    · rcases ite_some h38 with ⟨hg18, h38⟩ | ⟨hg18, h38⟩
                      · refine Run.reg tied [] [false, true, false] [] [(decide ((nth (.int .i64) y5.2 u1_0) < (0 : Int))) = false, (decide ((List.length a0.2.2.1 : Int) ≤ (nth (.int .i64) y5.2 u1_0))) = true] (by kernel_rfl) ⟨hg17, hg18, trivial⟩ ?_
                        obtain rfl := Option.some.inj h38
                        exact jQ.mk [.keep [1, 2, 5, 6, 7, 8, 39, 40, 41, 67] [18]] (by kernel_rfl) rfl
                      · rcases ite_some h38 with ⟨hg19, h38⟩ | ⟨hg19, h38⟩
                        · obtain ⟨hv20, h38⟩ := ite_none h38
                          refine Run.reg tied [] [false, false, true] [] [(decide ((nth (.int .i64) y5.2 u1_0) < (0 : Int))) = false, (decide ((List.length a0.2.2.1 : Int) ≤ (nth (.int .i64) y5.2 u1_0))) = false, (decide ((0 : Int) < u1_0)) = true, 0 ≤ (w64 (u1_0 - (1 : Int))), (w64 (u1_0 - (1 : Int))) < (List.length y5.2 : Int)] (by kernel_rfl) ⟨hg17, hg18, hg19, hv20.1, hv20.2, trivial⟩ ?_
                          obtain rfl := Option.some.inj h38
                          exact jQ.mk [.keep [1, 2, 5, 6, 7, 8, 39, 40, 41, 67] [18]] (by kernel_rfl) rfl
                        · refine Run.reg tied [] [false, false, false] [] [(decide ((nth (.int .i64) y5.2 u1_0) < (0 : Int))) = false, (decide ((List.length a0.2.2.1 : Int) ≤ (nth (.int .i64) y5.2 u1_0))) = false, (decide ((0 : Int) < u1_0)) = false] (by kernel_rfl) ⟨hg17, hg18, hg19, trivial⟩ ?_
                          obtain rfl := Option.some.inj h38
                          exact jQ.mk [.keep [1, 2, 5, 6, 7, 8, 39, 40, 41, 67] [18]] (by kernel_rfl) rfl
                  · rintro _ rfl
                    rcases ite_some h36 with ⟨hc21, h36⟩ | ⟨hc21, h36⟩
                    · refine Run.condT (b := o16) (by kernel_rfl) hc21 ?_
                      refine Run.sreg tied [] [] [] [] (by kernel_rfl) trivial ?_
                      refine Run.ret ?_
                      obtain rfl := Option.some.inj h36
                      dsimp only at h26
                      obtain rfl := Option.some.inj h26
                      dsimp only at h25
                      obtain rfl := Option.some.inj h25
                      dsimp only at h
                      obtain rfl := Option.some.inj h
                      exact (fQ_fin [] [some .bool] (msk 243 []) (by kernel_rfl)).1
                    · refine Run.condF (b := o16) (by kernel_rfl) hc21 ?_
                      refine Run.skip ?_
                      obtain rfl := Option.some.inj h36
                      exact jQ.mk [.keep [1, 2, 5, 6, 7, 8, 39, 40, 41] [18]] (by kernel_rfl) ⟨_, rfl, rfl⟩
                · rintro _ ⟨v22, rfl, rfl⟩
                  dsimp only at h26
                  obtain ⟨hv23, h26⟩ := ite_none h26
                  refine Run.sreg tied [] [] [] [0 ≤ (nth (.int .i64) y5.2 u1_0), (nth (.int .i64) y5.2 u1_0) < (List.length a0.2.2.1 : Int)] (by kernel_rfl) ⟨hv23.1, hv23.2, trivial⟩ ?_
                  obtain ⟨o24, h39, h26⟩ := bind_some h26
                  refine Run.seqJ (fun σ' => ∃ v34, o24 = .brk v34 ∧ σ' = mkSt 203 243 [(1, (.val (.int .i64) a1)), (2, (.ptr 18 [])), (5, (.val (.slice 56 T57) y5.1)), (6, (.val (.slice 8 (.int .i64)) y5.2)), (7, (.val (.int .i64) u1_0)), (39, (.val (.slice 8 (.int .i64)) y5.2)), (40, (.val (.int .i64) (List.length y5.2 : Int))), (41, (.val (.int .i64) u1_0))] [(18, some (.var T23 (.val T23 a0)))]) ?_ ?_
                  · obtain ⟨o25, h41, h39⟩ := bind_some h39
                    refine Run.seqJ (fun σ' => σ' = mkSt 203 243 [(1, (.val (.int .i64) a1)), (2, (.ptr 18 [])), (5, (.val (.slice 56 T57) y5.1)), (6, (.val (.slice 8 (.int .i64)) y5.2)), (7, (.val (.int .i64) u1_0)), (39, (.val (.slice 8 (.int .i64)) y5.2)), (40, (.val (.int .i64) (List.length y5.2 : Int))), (41, (.val (.int .i64) u1_0)), (119, (.val .bool o25))] [(18, some (.var T23 (.val T23 a0)))]) ?_ ?_
                    · rcases ite_some h41 with ⟨hg26, h41⟩ | ⟨hg26, h41⟩
                      · refine Run.regA tied [] [true, true, true, true] [] [(!decide (((((nth T55 a0.2.2.1 (nth (.int .i64) y5.2 u1_0)).2).2).1) = a1)) = true, true = true, true = true, true = true] (by kernel_rfl) ⟨hg26, rfl, rfl, rfl, trivial⟩ ?_
                        obtain rfl := Option.some.inj h41
                        exact jQ.mk [.keep [1, 2, 5, 6, 7, 39, 40, 41, 119] [18]] (by kernel_rfl) rfl
                      · rcases ite_some h41 with ⟨hg27, h41⟩ | ⟨hg27, h41⟩
                        · refine Run.regA tied [] [false, true, true, true] [] [(!decide (((((nth T55 a0.2.2.1 (nth (.int .i64) y5.2 u1_0)).2).2).1) = a1)) = false, (!decide ((((((nth T55 a0.2.2.1 (nth (.int .i64) y5.2 u1_0)).2).2).2).1) = (0 : Int))) = true, true = true, true = true] (by kernel_rfl) ⟨hg26, hg27, rfl, rfl, trivial⟩ ?_
                          obtain rfl := Option.some.inj h41
                          exact jQ.mk [.keep [1, 2, 5, 6, 7, 39, 40, 41, 119] [18]] (by kernel_rfl) rfl
                        · obtain ⟨hv28, h41⟩ := ite_none h41
                          rcases ite_some h41 with ⟨hg29, h41⟩ | ⟨hg29, h41⟩
                          · refine Run.regA tied [] [false, false, true, true] [] [(!decide (((((nth T55 a0.2.2.1 (nth (.int .i64) y5.2 u1_0)).2).2).1) = a1)) = false, (!decide ((((((nth T55 a0.2.2.1 (nth (.int .i64) y5.2 u1_0)).2).2).2).1) = (0 : Int))) = false, 0 ≤ u1_0, u1_0 < (List.length y5.1 : Int), (!decide (((nth T57 y5.1 u1_0).1) = (((((nth T55 a0.2.2.1 (nth (.int .i64) y5.2 u1_0)).1).2).2).1))) = true, true = true] (by kernel_rfl) ⟨hg26, hg27, hv14.1, hv28, hg29, rfl, trivial⟩ ?_
                            obtain rfl := Option.some.inj h41
                            exact jQ.mk [.keep [1, 2, 5, 6, 7, 39, 40, 41, 119] [18]] (by kernel_rfl) rfl
                          · obtain ⟨y30, hy31, h41⟩ := bind_some h41
                            rcases ite_some h41 with ⟨hg32, h41⟩ | ⟨hg32, h41⟩
                            · refine Run.regA tied [⟨(.val .bool y30), [], [], [], 48⟩] [false, false, false, true] [] [(!decide (((((nth T55 a0.2.2.1 (nth (.int .i64) y5.2 u1_0)).2).2).1) = a1)) = false, (!decide ((((((nth T55 a0.2.2.1 (nth (.int .i64) y5.2 u1_0)).2).2).2).1) = (0 : Int))) = false, 0 ≤ u1_0, u1_0 < (List.length y5.1 : Int), (!decide (((nth T57 y5.1 u1_0).1) = (((((nth T55 a0.2.2.1 (nth (.int .i64) y5.2 u1_0)).1).2).2).1))) = false, 0 ≤ u1_0, u1_0 < (List.length y5.1 : Int), Fc Tryd.prog gl 19 [(.val (.slice 8 (.int .i64)) ((((nth T57 y5.1 u1_0).2).2).1)), (.val (.slice 8 (.int .i64)) ((((((((nth T55 a0.2.2.1 (nth (.int .i64) y5.2 u1_0)).1).2).2).2).2).2).1))] (hset (List.replicate 48 none) []) (.ret (.val .bool y30)) (outH 48 []), (!y30) = true] (by kernel_rfl) ⟨hg26, hg27, hv14.1, hv28, hg29, hv14.1, hv28, x19 _ _ _ hy31, hg32, trivial⟩ ?_
                              obtain rfl := Option.some.inj h41
                              exact jQ.mk [.keep [1, 2, 5, 6, 7, 39, 40, 41, 119] [18]] (by kernel_rfl) rfl
                            · refine Run.regA tied [⟨(.val .bool y30), [], [], [], 48⟩] [false, false, false, false] [] [(!decide (((((nth T55 a0.2.2.1 (nth (.int .i64) y5.2 u1_0)).2).2).1) = a1)) = false, (!decide ((((((nth T55 a0.2.2.1 (nth (.int .i64) y5.2 u1_0)).2).2).2).1) = (0 : Int))) = false, 0 ≤ u1_0, u1_0 < (List.length y5.1 : Int), (!decide (((nth T57 y5.1 u1_0).1) = (((((nth T55 a0.2.2.1 (nth (.int .i64) y5.2 u1_0)).1).2).2).1))) = false, 0 ≤ u1_0, u1_0 < (List.length y5.1 : Int), Fc Tryd.prog gl 19 [(.val (.slice 8 (.int .i64)) ((((nth T57 y5.1 u1_0).2).2).1)), (.val (.slice 8 (.int .i64)) ((((((((nth T55 a0.2.2.1 (nth (.int .i64) y5.2 u1_0)).1).2).2).2).2).2).1))] (hset (List.replicate 48 none) []) (.ret (.val .bool y30)) (outH 48 []), (!y30) = false, 0 ≤ u1_0, u1_0 < (List.length y5.1 : Int), 0 ≤ u1_0, u1_0 < (List.length y5.1 : Int)] (by kernel_rfl) ⟨hg26, hg27, hv14.1, hv28, hg29, hv14.1, hv28, x19 _ _ _ hy31, hg32, hv14.1, hv28, hv14.1, hv28, trivial⟩ ?_
                              obtain rfl := Option.some.inj h41
                              exact jQ.mk [.keep [1, 2, 5, 6, 7, 39, 40, 41, 119] [18]] (by kernel_rfl) rfl
                    · rintro _ rfl
                      rcases ite_some h39 with ⟨hc33, h39⟩ | ⟨hc33, h39⟩
                      · refine Run.condT (b := o25) (by kernel_rfl) hc33 ?_
                        refine Run.sreg tied [] [] [] [] (by kernel_rfl) trivial ?_
                        refine Run.ret ?_
                        obtain rfl := Option.some.inj h39
                        dsimp only at h26
                        obtain rfl := Option.some.inj h26
                        dsimp only at h25
                        obtain rfl := Option.some.inj h25
                        dsimp only at h
                        obtain rfl := Option.some.inj h
                        exact (fQ_fin [] [some .bool] (msk 243 []) (by kernel_rfl)).1
                      · refine Run.condF (b := o25) (by kernel_rfl) hc33 ?_
                        refine Run.skip ?_
                        obtain rfl := Option.some.inj h39
                        exact jQ.mk [.keep [1, 2, 5, 6, 7, 39, 40, 41] [18]] (by kernel_rfl) ⟨_, rfl, rfl⟩
                  · rintro _ ⟨v34, rfl, rfl⟩
                    dsimp only at h26
                    obtain ⟨hv35, h26⟩ := ite_none h26
                    refine Run.sreg tied [] [] [] [0 ≤ u1_0, u1_0 < (List.length y5.1 : Int)] (by kernel_rfl) ⟨hv14.1, hv35, trivial⟩ ?_
                    obtain ⟨o36, h42, h26⟩ := bind_some h26
                    refine Run.lastJ (fun σ' => ∃ v40, o36 = .brk v40 ∧ σ' = mkSt 203 243 [(1, (.val (.int .i64) a1)), (2, (.ptr 18 [])), (5, (.val (.slice 56 T57) y5.1)), (6, (.val (.slice 8 (.int .i64)) y5.2)), (39, (.val (.slice 8 (.int .i64)) y5.2)), (40, (.val (.int .i64) (List.length y5.2 : Int))), (41, (.val (.int .i64) u1_0))] [(18, some (.var T23 (.val T23 a0)))]) (Cl.blk (Cl.j (Cl.loop (Cl.blk (Cl.j Cl.f))))) ?_ ?_
                    · refine Run.block ?_
                      refine Run.loopJ (fun n σ => ∃ (u2_0 : Int), f5_l2 a0 a1 y5 u1_0 n u2_0 = some o36 ∧ σ = mkSt 203 243 [(1, (.val (.int .i64) a1)), (2, (.ptr 18 [])), (5, (.val (.slice 56 T57) y5.1)), (6, (.val (.slice 8 (.int .i64)) y5.2)), (39, (.val (.slice 8 (.int .i64)) y5.2)), (40, (.val (.int .i64) (List.length y5.2 : Int))), (41, (.val (.int .i64) u1_0)), (124, (.val (.slice 8 (.int .i64)) (((nth T57 y5.1 u1_0).2).1))), (125, (.val (.int .i64) (List.length (((nth T57 y5.1 u1_0).2).1) : Int))), (126, (.val (.int .i64) u2_0))] [(18, some (.var T23 (.val T23 a0)))]) [.keep [1, 2, 5, 6, 39, 40, 41, 124, 125, 126] [18]] (by kernel_rfl) ⟨_, h42, rfl⟩ ?_
                      rintro n2 _ ⟨u2_0, h44, rfl⟩
                      cases n2 with
                      | zero => exact absurd h44 (by simp [f5_l2])
                      | succ n2 =>
                        unfold f5_l2 at h44
                        refine Run.sreg tied [] [] [] [] (by kernel_rfl) trivial ?_
                        refine Run.seq ?_
                        rcases ite_some h44 with ⟨hc39, h44⟩ | ⟨hc39, h44⟩
                        · refine Run.condT (b := decide (u2_0 < (List.length (((nth T57 y5.1 u1_0).2).1) : Int))) (by kernel_rfl) hc39 ?_
                          refine Run.skip ?_
                          change Run _ _ _ _ _
                          refine Run.seq ?_
                          refine Run.block ?_
                          obtain ⟨hv37, h44⟩ := ite_none h44
                          refine Run.sreg tied [] [] [] [0 ≤ u2_0, u2_0 < (List.length (((nth T57 y5.1 u1_0).2).1) : Int)] (by kernel_rfl) ⟨hv37.1, hv37.2, trivial⟩ ?_
                          refine Run.sreg tied [] [] [] [] (by kernel_rfl) trivial ?_
                          rcases ite_some h44 with ⟨hc38, h44⟩ | ⟨hc38, h44⟩
                          · refine Run.condT (b := !decide ((nth (.int .i64) (((nth T57 y5.1 u1_0).2).1) u2_0) = u2_0)) (by kernel_rfl) hc38 ?_
                            refine Run.sreg tied [] [] [] [] (by kernel_rfl) trivial ?_
                            refine Run.ret ?_
                            obtain rfl := Option.some.inj h44
                            dsimp only at h26
                            obtain rfl := Option.some.inj h26
                            dsimp only at h25
                            obtain rfl := Option.some.inj h25
                            dsimp only at h
                            obtain rfl := Option.some.inj h
                            exact (fQ_fin [] [some .bool] (msk 243 []) (by kernel_rfl)).1
                          · refine Run.condF (b := !decide ((nth (.int .i64) (((nth T57 y5.1 u1_0).2).1) u2_0) = u2_0)) (by kernel_rfl) hc38 ?_
                            refine Run.skip ?_
                            refine bN ?_
                            change Run _ _ _ _ _
                            refine Run.reg tied [] [] [] [] (by kernel_rfl) trivial ?_
                            exact loopJ.mk [.keep [1, 2, 5, 6, 39, 40, 41, 124, 125, 126] [18]] (by kernel_rfl) ⟨_, h44, rfl⟩
                        · refine Run.condF (b := decide (u2_0 < (List.length (((nth T57 y5.1 u1_0).2).1) : Int))) (by kernel_rfl) hc39 ?_
                          refine Run.exit ?_
                          refine tE ?_
                          refine lE ?_
                          refine bE ?_
                          obtain rfl := Option.some.inj h44
                          exact jQ.mk [.keep [1, 2, 5, 6, 39, 40, 41] [18]] (by kernel_rfl) ⟨_, rfl, rfl⟩
                    · rintro _ ⟨v40, rfl, rfl⟩
                      dsimp only at h26
                      refine bN ?_
                      obtain rfl := Option.some.inj h26
                      exact jQ.mk [.keep [1, 2, 5, 6, 39, 40, 41] [18]] (by kernel_rfl) ⟨_, rfl, rfl⟩
              · rintro _ ⟨v44, rfl, rfl⟩
                dsimp only at h25
                refine Run.reg tied [] [] [] [] (by kernel_rfl) trivial ?_
                exact loopJ.mk [.keep [1, 2, 5, 6, 39, 40, 41] [18]] (by kernel_rfl) ⟨_, h25, rfl⟩
            · refine Run.condF (b := decide (u1_0 < (List.length y5.2 : Int))) (by kernel_rfl) hc46 ?_
              refine Run.exit ?_
              refine tE ?_
              refine lE ?_
              refine bE ?_
              obtain rfl := Option.some.inj h25
              exact jQ.mk [.keep [1, 2, 5, 6] [18]] (by kernel_rfl) ⟨_, rfl, rfl⟩
        · rintro _ ⟨v47, rfl, rfl⟩
          dsimp only at h
          obtain ⟨o48, h45, h⟩ := bind_some h
          refine Run.seqJ (fun σ' => ∃ v77, o48 = .brk v77 ∧ σ' = mkSt 203 243 [] []) ?_ ?_
          · refine Run.sreg tied [] [] [] [] (by kernel_rfl) trivial ?_
            refine Run.block ?_
            refine Run.loopJ (fun n σ => ∃ (u3_0 : Int), f5_l3 a0 a1 y5 n u3_0 = some o48 ∧ σ = mkSt 203 243 [(1, (.val (.int .i64) a1)), (5, (.val (.slice 56 T57) y5.1)), (6, (.val (.slice 8 (.int .i64)) y5.2)), (137, (.val (.slice 208 T55) a0.2.2.1)), (138, (.val (.int .i64) (List.length a0.2.2.1 : Int))), (139, (.val (.int .i64) u3_0))] []) [.keep [1, 5, 6, 137, 138, 139] []] (by kernel_rfl) ⟨_, h45, rfl⟩ ?_
            rintro n3 _ ⟨u3_0, h74, rfl⟩
            cases n3 with
            | zero => exact absurd h74 (by simp [f5_l3])
            | succ n3 =>
              unfold f5_l3 at h74
              refine Run.sreg tied [] [] [] [] (by kernel_rfl) trivial ?_
              refine Run.seq ?_
              rcases ite_some h74 with ⟨hc76, h74⟩ | ⟨hc76, h74⟩
              · refine Run.condT (b := decide (u3_0 < (List.length a0.2.2.1 : Int))) (by kernel_rfl) hc76 ?_
                refine Run.skip ?_
                change Run _ _ _ _ _
                obtain ⟨o49, h75, h74⟩ := bind_some h74
                refine Run.seqJ (fun σ' => ∃ v74, o49 = .brk v74 ∧ σ' = mkSt 203 243 [(1, (.val (.int .i64) a1)), (5, (.val (.slice 56 T57) y5.1)), (6, (.val (.slice 8 (.int .i64)) y5.2)), (137, (.val (.slice 208 T55) a0.2.2.1)), (138, (.val (.int .i64) (List.length a0.2.2.1 : Int))), (139, (.val (.int .i64) u3_0))] []) ?_ ?_
                · refine Run.block ?_
                  obtain ⟨hv50, h75⟩ := ite_none h75
                  refine Run.sreg tied [] [] [] [0 ≤ u3_0, u3_0 < (List.length a0.2.2.1 : Int)] (by kernel_rfl) ⟨hv50.1, hv50.2, trivial⟩ ?_
                  obtain ⟨o51, h89, h75⟩ := bind_some h75
                  refine Run.seqX (fun σ' => ∃ v55, o51 = .brk v55 ∧ σ' = mkSt 203 243 [(1, (.val (.int .i64) a1)), (5, (.val (.slice 56 T57) y5.1)), (6, (.val (.slice 8 (.int .i64)) y5.2)), (12, (.val (.int .i64) u3_0)), (13, (.ptr 29 [])), (137, (.val (.slice 208 T55) a0.2.2.1)), (138, (.val (.int .i64) (List.length a0.2.2.1 : Int))), (139, (.val (.int .i64) u3_0))] [(29, some (.var T55 (.val T55 (nth T55 a0.2.2.1 u3_0))))]) (fun i σ' => (i = 5 ∧ ∃ v73, o51 = .ret v73 ∧ σ' = mkSt 203 243 [(1, (.val (.int .i64) a1)), (5, (.val (.slice 56 T57) y5.1)), (6, (.val (.slice 8 (.int .i64)) y5.2)), (137, (.val (.slice 208 T55) a0.2.2.1)), (138, (.val (.int .i64) (List.length a0.2.2.1 : Int))), (139, (.val (.int .i64) u3_0))] [])) (Cl.blk (Cl.j (Cl.loop (Cl.blk (Cl.j Cl.f))))) ?_ ?_ ?_
                  · obtain ⟨o52, h91, h89⟩ := bind_some h89
                    refine Run.seqJ (fun σ' => σ' = mkSt 203 243 [(1, (.val (.int .i64) a1)), (5, (.val (.slice 56 T57) y5.1)), (6, (.val (.slice 8 (.int .i64)) y5.2)), (12, (.val (.int .i64) u3_0)), (13, (.ptr 29 [])), (137, (.val (.slice 208 T55) a0.2.2.1)), (138, (.val (.int .i64) (List.length a0.2.2.1 : Int))), (139, (.val (.int .i64) u3_0)), (152, (.val .bool o52))] [(29, some (.var T55 (.val T55 (nth T55 a0.2.2.1 u3_0))))]) ?_ ?_
                    · rcases ite_some h91 with ⟨hg53, h91⟩ | ⟨hg53, h91⟩
                      · refine Run.reg tied [] [true] [] [(!decide (((((nth T55 a0.2.2.1 u3_0).2).2).1) = a1)) = true] (by kernel_rfl) ⟨hg53, trivial⟩ ?_
                        obtain rfl := Option.some.inj h91
                        exact jQ.mk [.keep [1, 5, 6, 12, 13, 137, 138, 139, 152] [29]] (by kernel_rfl) rfl
                      · refine Run.reg tied [] [false] [] [(!decide (((((nth T55 a0.2.2.1 u3_0).2).2).1) = a1)) = false] (by kernel_rfl) ⟨hg53, trivial⟩ ?_
                        obtain rfl := Option.some.inj h91
                        exact jQ.mk [.keep [1, 5, 6, 12, 13, 137, 138, 139, 152] [29]] (by kernel_rfl) rfl
                    · rintro _ rfl
                      rcases ite_some h89 with ⟨hc54, h89⟩ | ⟨hc54, h89⟩
                      · refine Run.condT (b := o52) (by kernel_rfl) hc54 ?_
                        refine Run.exit ?_
                        obtain rfl := Option.some.inj h89
                        exact jxQ.ex [.keep [1, 5, 6, 137, 138, 139] []] (by kernel_rfl) ⟨rfl, _, rfl, rfl⟩
                      · refine Run.condF (b := o52) (by kernel_rfl) hc54 ?_
                        refine Run.skip ?_
                        obtain rfl := Option.some.inj h89
                        exact jxQ.mk [.keep [1, 5, 6, 12, 13, 137, 138, 139] [29]] (by kernel_rfl) ⟨_, rfl, rfl⟩
                  · rintro _ _ ⟨rfl, v73, rfl, rfl⟩
                    · dsimp only at h75
                      refine bE ?_
                      obtain rfl := Option.some.inj h75
                      exact jQ.mk [.keep [1, 5, 6, 137, 138, 139] []] (by kernel_rfl) ⟨_, rfl, rfl⟩
                  · rintro _ ⟨v55, rfl, rfl⟩
                    dsimp only at h75
                    refine Run.sreg tied [] [] [] [] (by kernel_rfl) trivial ?_
                    refine Run.sreg tied [] [] [] [] (by kernel_rfl) trivial ?_
                    obtain ⟨o56, h92, h75⟩ := bind_some h75
                    refine Run.seqJ (fun σ' => σ' = mkSt 203 243 [(1, (.val (.int .i64) a1)), (5, (.val (.slice 56 T57) y5.1)), (6, (.val (.slice 8 (.int .i64)) y5.2)), (14, (.val (.int .i64) o56.1)), (15, (.val .bool o56.2)), (137, (.val (.slice 208 T55) a0.2.2.1)), (138, (.val (.int .i64) (List.length a0.2.2.1 : Int))), (139, (.val (.int .i64) u3_0))] []) ?_ ?_
                    · refine Run.sreg tied [] [] [] [] (by kernel_rfl) trivial ?_
                      refine Run.block ?_
                      refine Run.loopJ (fun n σ => ∃ (u4_0 : Int) (u4_1 : Bool) (u4_2 : Int), f5_l4 a0 a1 y5 u3_0 n u4_0 u4_1 u4_2 = some o56 ∧ σ = mkSt 203 243 [(1, (.val (.int .i64) a1)), (5, (.val (.slice 56 T57) y5.1)), (6, (.val (.slice 8 (.int .i64)) y5.2)), (12, (.val (.int .i64) u3_0)), (13, (.ptr 29 [])), (14, (.val (.int .i64) u4_0)), (15, (.val .bool u4_1)), (137, (.val (.slice 208 T55) a0.2.2.1)), (138, (.val (.int .i64) (List.length a0.2.2.1 : Int))), (139, (.val (.int .i64) u3_0)), (153, (.val (.slice 56 T57) y5.1)), (154, (.val (.int .i64) (List.length y5.1 : Int))), (155, (.val (.int .i64) u4_2))] [(29, some (.var T55 (.val T55 (nth T55 a0.2.2.1 u3_0))))]) [.keep [1, 5, 6, 12, 13, 14, 15, 137, 138, 139, 153, 154, 155] [29]] (by kernel_rfl) ⟨_, _, _, h92, rfl⟩ ?_
                      rintro n4 _ ⟨u4_0, u4_1, u4_2, h97, rfl⟩
                      cases n4 with
                      | zero => exact absurd h97 (by simp [f5_l4])
                      | succ n4 =>
                        unfold f5_l4 at h97
                        refine Run.sreg tied [] [] [] [] (by kernel_rfl) trivial ?_
                        refine Run.seq ?_
                        rcases ite_some h97 with ⟨hc65, h97⟩ | ⟨hc65, h97⟩
                        · refine Run.condT (b := decide (u4_2 < (List.length y5.1 : Int))) (by kernel_rfl) hc65 ?_
                          refine Run.skip ?_
                          change Run _ _ _ _ _
                          obtain ⟨o57, h98, h97⟩ := bind_some h97
                          refine Run.seqJ (fun σ' => σ' = mkSt 203 243 [(1, (.val (.int .i64) a1)), (5, (.val (.slice 56 T57) y5.1)), (6, (.val (.slice 8 (.int .i64)) y5.2)), (12, (.val (.int .i64) u3_0)), (13, (.ptr 29 [])), (14, (.val (.int .i64) o57.1)), (15, (.val .bool o57.2)), (137, (.val (.slice 208 T55) a0.2.2.1)), (138, (.val (.int .i64) (List.length a0.2.2.1 : Int))), (139, (.val (.int .i64) u3_0)), (153, (.val (.slice 56 T57) y5.1)), (154, (.val (.int .i64) (List.length y5.1 : Int))), (155, (.val (.int .i64) u4_2))] [(29, some (.var T55 (.val T55 (nth T55 a0.2.2.1 u3_0))))]) ?_ ?_
                          · refine Run.block ?_
                            obtain ⟨hv58, h98⟩ := ite_none h98
                            refine Run.sreg tied [] [] [] [0 ≤ u4_2, u4_2 < (List.length y5.1 : Int)] (by kernel_rfl) ⟨hv58.1, hv58.2, trivial⟩ ?_
                            obtain ⟨o59, h100, h98⟩ := bind_some h98
                            refine Run.seqJ (fun σ' => σ' = mkSt 203 243 [(1, (.val (.int .i64) a1)), (5, (.val (.slice 56 T57) y5.1)), (6, (.val (.slice 8 (.int .i64)) y5.2)), (12, (.val (.int .i64) u3_0)), (13, (.ptr 29 [])), (14, (.val (.int .i64) u4_0)), (15, (.val .bool u4_1)), (16, (.val (.int .i64) u4_2)), (137, (.val (.slice 208 T55) a0.2.2.1)), (138, (.val (.int .i64) (List.length a0.2.2.1 : Int))), (139, (.val (.int .i64) u3_0)), (153, (.val (.slice 56 T57) y5.1)), (154, (.val (.int .i64) (List.length y5.1 : Int))), (155, (.val (.int .i64) u4_2)), (173, (.val .bool o59))] [(29, some (.var T55 (.val T55 (nth T55 a0.2.2.1 u3_0))))]) ?_ ?_
                            · rcases ite_some h100 with ⟨hg60, h100⟩ | ⟨hg60, h100⟩
                              · obtain ⟨y61, hy62, h100⟩ := bind_some h100
                                refine Run.reg tied [⟨(.val .bool y61), [], [], [], 48⟩] [true] [] [(decide (((nth T57 y5.1 u4_2).1) = (((((nth T55 a0.2.2.1 u3_0).1).2).2).1))) = true, Fc Tryd.prog gl 19 [(.val (.slice 8 (.int .i64)) ((((nth T57 y5.1 u4_2).2).2).1)), (.val (.slice 8 (.int .i64)) ((((((((nth T55 a0.2.2.1 u3_0).1).2).2).2).2).2).1))] (hset (List.replicate 48 none) []) (.ret (.val .bool y61)) (outH 48 [])] (by kernel_rfl) ⟨hg60, x19 _ _ _ hy62, trivial⟩ ?_
                                obtain rfl := Option.some.inj h100
                                exact jQ.mk [.keep [1, 5, 6, 12, 13, 14, 15, 16, 137, 138, 139, 153, 154, 155, 173] [29]] (by kernel_rfl) rfl
                              · refine Run.reg tied [] [false] [] [(decide (((nth T57 y5.1 u4_2).1) = (((((nth T55 a0.2.2.1 u3_0).1).2).2).1))) = false] (by kernel_rfl) ⟨hg60, trivial⟩ ?_
                                obtain rfl := Option.some.inj h100
                                exact jQ.mk [.keep [1, 5, 6, 12, 13, 14, 15, 16, 137, 138, 139, 153, 154, 155, 173] [29]] (by kernel_rfl) rfl
                            · rintro _ rfl
                              rcases ite_some h98 with ⟨hc64, h98⟩ | ⟨hc64, h98⟩
                              · refine Run.condT (b := o59) (by kernel_rfl) hc64 ?_
                                refine Run.sreg tied [] [] [] [] (by kernel_rfl) trivial ?_
                                obtain ⟨hv63, h98⟩ := ite_none h98
                                refine Run.reg tied [] [] [] [0 ≤ u4_2, u4_2 < (List.length y5.2 : Int)] (by kernel_rfl) ⟨hv58.1, hv63, trivial⟩ ?_
                                refine bN ?_
                                obtain rfl := Option.some.inj h98
                                exact jQ.mk [.keep [1, 5, 6, 12, 13, 14, 15, 137, 138, 139, 153, 154, 155] [29]] (by kernel_rfl) rfl
                              · refine Run.condF (b := o59) (by kernel_rfl) hc64 ?_
                                refine Run.skip ?_
                                refine bN ?_
                                obtain rfl := Option.some.inj h98
                                exact jQ.mk [.keep [1, 5, 6, 12, 13, 14, 15, 137, 138, 139, 153, 154, 155] [29]] (by kernel_rfl) rfl
                          · rintro _ rfl
                            refine Run.reg tied [] [] [] [] (by kernel_rfl) trivial ?_
                            exact loopJ.mk [.keep [1, 5, 6, 12, 13, 14, 15, 137, 138, 139, 153, 154, 155] [29]] (by kernel_rfl) ⟨_, _, _, h97, rfl⟩
                        · refine Run.condF (b := decide (u4_2 < (List.length y5.1 : Int))) (by kernel_rfl) hc65 ?_
                          refine Run.exit ?_
                          refine tE ?_
                          refine lE ?_
                          refine bE ?_
                          obtain rfl := Option.some.inj h97
                          exact jQ.mk [.keep [1, 5, 6, 14, 15, 137, 138, 139] []] (by kernel_rfl) rfl
                    · rintro _ rfl
                      obtain ⟨o66, h101, h75⟩ := bind_some h75
                      refine Run.seqJ (fun σ' => σ' = mkSt 203 243 [(1, (.val (.int .i64) a1)), (5, (.val (.slice 56 T57) y5.1)), (6, (.val (.slice 8 (.int .i64)) y5.2)), (137, (.val (.slice 208 T55) a0.2.2.1)), (138, (.val (.int .i64) (List.length a0.2.2.1 : Int))), (139, (.val (.int .i64) u3_0)), (201, (.val .bool o66))] []) ?_ ?_
                      · rcases ite_some h101 with ⟨hg67, h101⟩ | ⟨hg67, h101⟩
                        · refine Run.reg tied [] [true, false, true, false] [] [(decide ((1 : Int) < o56.1)) = true, true = true] (by kernel_rfl) ⟨hg67, rfl, trivial⟩ ?_
                          obtain rfl := Option.some.inj h101
                          exact jQ.mk [.keep [1, 5, 6, 137, 138, 139, 201] []] (by kernel_rfl) rfl
                        · rcases ite_some h101 with ⟨hg68, h101⟩ | ⟨hg68, h101⟩
                          · rcases ite_some h101 with ⟨hg69, h101⟩ | ⟨hg69, h101⟩
                            · refine Run.reg tied [] [false, true, true, false] [] [(decide ((1 : Int) < o56.1)) = false, (decide (o56.1 = (1 : Int))) = true, (!o56.2) = true] (by kernel_rfl) ⟨hg67, hg68, hg69, trivial⟩ ?_
                              obtain rfl := Option.some.inj h101
                              exact jQ.mk [.keep [1, 5, 6, 137, 138, 139, 201] []] (by kernel_rfl) rfl
                            · rcases ite_some h101 with ⟨hg70, h101⟩ | ⟨hg70, h101⟩
                              · refine Run.reg tied [] [false, true, false, true] [] [(decide ((1 : Int) < o56.1)) = false, (decide (o56.1 = (1 : Int))) = true, (!o56.2) = false, (decide (o56.1 = (0 : Int))) = true] (by kernel_rfl) ⟨hg67, hg68, hg69, hg70, trivial⟩ ?_
                                obtain rfl := Option.some.inj h101
                                exact jQ.mk [.keep [1, 5, 6, 137, 138, 139, 201] []] (by kernel_rfl) rfl
                              · refine Run.reg tied [] [false, true, false, false] [] [(decide ((1 : Int) < o56.1)) = false, (decide (o56.1 = (1 : Int))) = true, (!o56.2) = false, (decide (o56.1 = (0 : Int))) = false] (by kernel_rfl) ⟨hg67, hg68, hg69, hg70, trivial⟩ ?_
                                obtain rfl := Option.some.inj h101
                                exact jQ.mk [.keep [1, 5, 6, 137, 138, 139, 201] []] (by kernel_rfl) rfl
                          · rcases ite_some h101 with ⟨hg71, h101⟩ | ⟨hg71, h101⟩
                            · refine Run.reg tied [] [false, false, false, true] [] [(decide ((1 : Int) < o56.1)) = false, (decide (o56.1 = (1 : Int))) = false, false = false, (decide (o56.1 = (0 : Int))) = true] (by kernel_rfl) ⟨hg67, hg68, rfl, hg71, trivial⟩ ?_
                              obtain rfl := Option.some.inj h101
                              exact jQ.mk [.keep [1, 5, 6, 137, 138, 139, 201] []] (by kernel_rfl) rfl
                            · refine Run.reg tied [] [false, false, false, false] [] [(decide ((1 : Int) < o56.1)) = false, (decide (o56.1 = (1 : Int))) = false, false = false, (decide (o56.1 = (0 : Int))) = false] (by kernel_rfl) ⟨hg67, hg68, rfl, hg71, trivial⟩ ?_
                              obtain rfl := Option.some.inj h101
                              exact jQ.mk [.keep [1, 5, 6, 137, 138, 139, 201] []] (by kernel_rfl) rfl
                      · rintro _ rfl
                        rcases ite_some h75 with ⟨hc72, h75⟩ | ⟨hc72, h75⟩
                        · refine Run.condT (b := o66) (by kernel_rfl) hc72 ?_
                          refine Run.sreg tied [] [] [] [] (by kernel_rfl) trivial ?_
                          refine Run.ret ?_
                          obtain rfl := Option.some.inj h75
                          dsimp only at h74
                          obtain rfl := Option.some.inj h74
                          dsimp only at h
                          obtain rfl := Option.some.inj h
                          exact (fQ_fin [] [some .bool] (msk 243 []) (by kernel_rfl)).1
                        · refine Run.condF (b := o66) (by kernel_rfl) hc72 ?_
                          refine Run.skip ?_
                          refine bN ?_
                          obtain rfl := Option.some.inj h75
                          exact jQ.mk [.keep [1, 5, 6, 137, 138, 139] []] (by kernel_rfl) ⟨_, rfl, rfl⟩
                · rintro _ ⟨v74, rfl, rfl⟩
                  dsimp only at h74
                  refine Run.reg tied [] [] [] [] (by kernel_rfl) trivial ?_
                  exact loopJ.mk [.keep [1, 5, 6, 137, 138, 139] []] (by kernel_rfl) ⟨_, h74, rfl⟩
              · refine Run.condF (b := decide (u3_0 < (List.length a0.2.2.1 : Int))) (by kernel_rfl) hc76 ?_
                refine Run.exit ?_
                refine tE ?_
                refine lE ?_
                refine bE ?_
                obtain rfl := Option.some.inj h74
                exact jQ.mk [.keep [] []] (by kernel_rfl) ⟨_, rfl, rfl⟩
          · rintro _ ⟨v77, rfl, rfl⟩
            dsimp only at h
            refine Run.sreg tied [] [] [] [] (by kernel_rfl) trivial ?_
            refine Run.ret ?_
            obtain rfl := Option.some.inj h
            exact (fQ_fin [] [some .bool] (msk 243 []) (by kernel_rfl)).1

end Go.Proofs.YtnhfefbbdfmniaaDoor
