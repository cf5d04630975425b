/- Made by program (dec.py): walks -/
import Derived.Test.YtnhfefbbdfmniaaDoorF2
namespace Go.Proofs.YtnhfefbbdfmniaaDoor
open Go.Abs

/-- testamur.testamurref41.Offers -/
def f12_l2 (a0 : D23) (a1 : Int) (u1_0 : Int) (u1_1 : List D57) (u1_2 : List Int) : Nat → Bool → Int → Option Bool
  | 0, _, _ => none
  | n2 + 1, u2_0, u2_1 => if (decide (u2_1 < (List.length u1_1 : Int))) = true then (Option.bind (if u2_0 = true then (some true) else (if 0 ≤ u2_1 ∧ u2_1 < (List.length u1_1 : Int) then (if (decide (((nth T57 u1_1 u2_1).1) = (((((nth T55 a0.2.2.1 u1_0).1).2).2).1))) = true then (Option.bind (f34 ((((nth T57 u1_1 u2_1).2).2).1) ((((((((nth T55 a0.2.2.1 u1_0).1).2).2).2).2).2).1)) fun y16 => some y16) else (some false)) else none)) fun (o12 : Bool) => f12_l2 a0 a1 u1_0 u1_1 u1_2 n2 o12 (w64 (u2_1 + (1 : Int)))) else (some u2_0)

def f12_l3 (a0 : D23) (a1 : Int) (u1_0 : Int) (u1_1 : List D57) (u1_2 : List Int) : Nat → Int → (List Int) → Option (List Int)
  | 0, _, _ => none
  | n3 + 1, u3_0, u3_1 => if (decide (u3_0 < (List.length ((((((((nth T55 a0.2.2.1 u1_0).1).2).2).2).2).2).1) : Int))) = true then (if (List.length u3_1 + List.length [u3_0]) * 8 ≤ maxB then (f12_l3 a0 a1 u1_0 u1_1 u1_2 n3 (w64 (u3_0 + (1 : Int))) (u3_1 ++ [u3_0])) else none) else (some u3_1)

def f12_l1 (a0 : D23) (a1 : Int) : Nat → Int → (List D57) → (List Int) → Option ((List D57) × (List Int))
  | 0, _, _, _ => none
  | n1 + 1, u1_0, u1_1, u1_2 => Option.bind (Option.bind (if (decide (u1_0 < (List.length a0.2.2.1 : Int))) = true then (some (decide ((List.length u1_2 : Int) < (8 : Int)))) else (some false)) fun (o3 : Bool) => if o3 = true then (some (.brk ())) else (some (.ret ()))) fun (o2 : Ctl Unit Unit) => match o2 with | .brk _v6 => (Option.bind (if 0 ≤ u1_0 ∧ u1_0 < (List.length a0.2.2.1 : Int) then (Option.bind (if (!decide (((((nth T55 a0.2.2.1 u1_0).2).2).1) = a1)) = true then (some true) else (some (!decide ((((((nth T55 a0.2.2.1 u1_0).2).2).2).1) = (0 : Int))))) fun (o9 : Bool) => Option.bind (f12_l2 a0 a1 u1_0 u1_1 u1_2 (big) o9 (0 : Int)) fun (o11 : Bool) => if o11 = true then (some (u1_1, u1_2)) else (Option.bind (f12_l3 a0 a1 u1_0 u1_1 u1_2 (big) (0 : Int) ([] : List Int)) fun (o19 : List Int) => if (List.length u1_1 + List.length [(((((nth T55 a0.2.2.1 u1_0).1).2).2).1, (o19, ((((((((nth T55 a0.2.2.1 u1_0).1).2).2).2).2).2).1, ())))]) * 56 ≤ maxB then (if (List.length u1_2 + List.length [u1_0]) * 8 ≤ maxB then (some (u1_1 ++ [(((((nth T55 a0.2.2.1 u1_0).1).2).2).1, (o19, ((((((((nth T55 a0.2.2.1 u1_0).1).2).2).2).2).2).1, ())))], u1_2 ++ [u1_0])) else none) else none)) else none) fun (o7 : (List D57) × (List Int)) => f12_l1 a0 a1 n1 (w64 (u1_0 + (1 : Int))) o7.1 o7.2) | .ret _v25 => (some (u1_1, u1_2))

def f12 (a0 : D23) (a1 : Int) : Option ((List D57) × (List Int)) :=
  Option.bind (f12_l1 a0 a1 (big) (0 : Int) ([] : List D57) ([] : List Int)) fun (o1 : (List D57) × (List Int)) => some (o1.1, o1.2)

set_option maxRecDepth 100000 in
theorem x12 (a0 : D23) (a1 : Int) (r : (List D57) × (List Int)) (h : f12 a0 a1 = some r) : Fc Tryd.prog gl 12 [(.val T23 a0), (.val (.int .i64) a1)] (hset (List.replicate 142 none) []) (.ret (.tup (.cons (.val (.slice 56 T57) r.1) (.cons (.val (.slice 8 (.int .i64)) r.2) .nil)))) (outH 142 []) := by
  refine Fc.of Tryd.call12 (FnEx.of_runF tied Tryd.func12 rfl rfl (σ0 := mkSt 102 142 [(0, (.val T23 a0)), (1, (.val (.int .i64) a1))] []) (by kernel_rfl) ?_)
  unfold f12 at h
  refine Run.sreg tied [] [] [] [] (by kernel_rfl) trivial ?_
  refine Run.sreg tied [] [] [] [] (by kernel_rfl) trivial ?_
  refine Run.sreg tied [] [] [] [] (by kernel_rfl) trivial ?_
  obtain ⟨o1, h1, h⟩ := bind_some h
  refine Run.seqJ (fun σ' => σ' = mkSt 102 142 [(6, (.own 130)), (7, (.own 131))] [(130, some (.row 57 56 T57 o1.1)), (131, some (.row 3 8 (.int .i64) o1.2))]) ?_ ?_
  · refine Run.sreg tied [] [] [] [] (by kernel_rfl) trivial ?_
    refine Run.block ?_
    refine Run.loopJ (fun n σ => ∃ (u1_0 : Int) (u1_1 : List D57) (u1_2 : List Int), f12_l1 a0 a1 n u1_0 u1_1 u1_2 = some o1 ∧ σ = mkSt 102 142 [(1, (.val (.int .i64) a1)), (2, (.ptr 18 [])), (6, (.own 123)), (7, (.own 124)), (8, (.val (.int .i64) u1_0))] [(18, some (.var T23 (.val T23 a0))), (123, some (.row 57 56 T57 u1_1)), (124, some (.row 3 8 (.int .i64) u1_2))]) [.keep [1, 2, 6, 7, 8] [18, 30, 31], .ren 30 123, .ren 31 124] (by kernel_rfl) ⟨_, _, _, h1, rfl⟩ ?_
    rintro n1 _ ⟨u1_0, u1_1, u1_2, h25, rfl⟩
    cases n1 with
    | zero => exact absurd h25 (by simp [f12_l1])
    | succ n1 =>
      unfold f12_l1 at h25
      obtain ⟨o2, h26, h25⟩ := bind_some h25
      refine Run.seqX (fun σ' => ∃ v6, o2 = .brk v6 ∧ σ' = mkSt 102 142 [(1, (.val (.int .i64) a1)), (2, (.ptr 18 [])), (6, (.own 123)), (7, (.own 124)), (8, (.val (.int .i64) u1_0))] [(18, some (.var T23 (.val T23 a0))), (123, some (.row 57 56 T57 u1_1)), (124, some (.row 3 8 (.int .i64) u1_2))]) (fun i σ' => (i = 0 ∧ ∃ v25, o2 = .ret v25 ∧ σ' = mkSt 102 142 [(6, (.own 123)), (7, (.own 124))] [(123, some (.row 57 56 T57 u1_1)), (124, some (.row 3 8 (.int .i64) u1_2))])) (Cl.loop (Cl.blk (Cl.j Cl.f))) ?_ ?_ ?_
      · obtain ⟨o3, h28, h26⟩ := bind_some h26
        refine Run.seqJ (fun σ' => σ' = mkSt 102 142 [(1, (.val (.int .i64) a1)), (2, (.ptr 18 [])), (6, (.own 123)), (7, (.own 124)), (8, (.val (.int .i64) u1_0)), (25, (.val .bool o3))] [(18, some (.var T23 (.val T23 a0))), (123, some (.row 57 56 T57 u1_1)), (124, some (.row 3 8 (.int .i64) u1_2))]) ?_ ?_
        · rcases ite_some h28 with ⟨hg4, h28⟩ | ⟨hg4, h28⟩
          · refine Run.reg tied [] [true] [] [(decide (u1_0 < (List.length a0.2.2.1 : Int))) = true] (by kernel_rfl) ⟨hg4, trivial⟩ ?_
            obtain rfl := Option.some.inj h28
            exact jQ.mk [.keep [1, 2, 6, 7, 8, 25] [18, 123, 124]] (by kernel_rfl) rfl
          · refine Run.reg tied [] [false] [] [(decide (u1_0 < (List.length a0.2.2.1 : Int))) = false] (by kernel_rfl) ⟨hg4, trivial⟩ ?_
            obtain rfl := Option.some.inj h28
            exact jQ.mk [.keep [1, 2, 6, 7, 8, 25] [18, 123, 124]] (by kernel_rfl) rfl
        · rintro _ rfl
          rcases ite_some h26 with ⟨hc5, h26⟩ | ⟨hc5, h26⟩
          · refine Run.condT (b := o3) (by kernel_rfl) hc5 ?_
            refine Run.skip ?_
            obtain rfl := Option.some.inj h26
            exact jxQ.mk [.keep [1, 2, 6, 7, 8] [18, 123, 124]] (by kernel_rfl) ⟨_, rfl, rfl⟩
          · refine Run.condF (b := o3) (by kernel_rfl) hc5 ?_
            refine Run.exit ?_
            obtain rfl := Option.some.inj h26
            exact jxQ.ex [.keep [6, 7] [123, 124]] (by kernel_rfl) ⟨rfl, _, rfl, rfl⟩
      · rintro _ _ ⟨rfl, v25, rfl, rfl⟩
        · dsimp only at h25
          refine lE ?_
          refine bE ?_
          obtain rfl := Option.some.inj h25
          exact jQ.mk [.keep [6, 7] [123, 124], .ren 123 130, .ren 124 131] (by kernel_rfl) rfl
      · rintro _ ⟨v6, rfl, rfl⟩
        dsimp only at h25
        obtain ⟨o7, h29, h25⟩ := bind_some h25
        refine Run.seqJ (fun σ' => σ' = mkSt 102 142 [(1, (.val (.int .i64) a1)), (2, (.ptr 18 [])), (6, (.own 127)), (7, (.own 128)), (8, (.val (.int .i64) u1_0))] [(18, some (.var T23 (.val T23 a0))), (127, some (.row 57 56 T57 o7.1)), (128, some (.row 3 8 (.int .i64) o7.2))]) ?_ ?_
        · refine Run.block ?_
          obtain ⟨hv8, h29⟩ := ite_none h29
          refine Run.sreg tied [] [] [] [0 ≤ u1_0, u1_0 < (List.length a0.2.2.1 : Int)] (by kernel_rfl) ⟨hv8.1, hv8.2, trivial⟩ ?_
          obtain ⟨o9, h39, h29⟩ := bind_some h29
          refine Run.seqJ (fun σ' => σ' = mkSt 102 142 [(1, (.val (.int .i64) a1)), (2, (.ptr 18 [])), (6, (.own 123)), (7, (.own 124)), (8, (.val (.int .i64) u1_0)), (9, (.ptr 25 [])), (10, (.val .bool o9))] [(18, some (.var T23 (.val T23 a0))), (25, some (.var T55 (.val T55 (nth T55 a0.2.2.1 u1_0)))), (123, some (.row 57 56 T57 u1_1)), (124, some (.row 3 8 (.int .i64) u1_2))]) ?_ ?_
          · rcases ite_some h39 with ⟨hg10, h39⟩ | ⟨hg10, h39⟩
            · refine Run.reg tied [] [true] [] [(!decide (((((nth T55 a0.2.2.1 u1_0).2).2).1) = a1)) = true] (by kernel_rfl) ⟨hg10, trivial⟩ ?_
              obtain rfl := Option.some.inj h39
              exact jQ.mk [.keep [1, 2, 6, 7, 8, 9, 10] [18, 25, 123, 124]] (by kernel_rfl) rfl
            · refine Run.reg tied [] [false] [] [(!decide (((((nth T55 a0.2.2.1 u1_0).2).2).1) = a1)) = false] (by kernel_rfl) ⟨hg10, trivial⟩ ?_
              obtain rfl := Option.some.inj h39
              exact jQ.mk [.keep [1, 2, 6, 7, 8, 9, 10] [18, 25, 123, 124]] (by kernel_rfl) rfl
          · rintro _ rfl
            obtain ⟨o11, h40, h29⟩ := bind_some h29
            refine Run.seqJ (fun σ' => σ' = mkSt 102 142 [(1, (.val (.int .i64) a1)), (2, (.ptr 18 [])), (6, (.own 123)), (7, (.own 124)), (8, (.val (.int .i64) u1_0)), (9, (.ptr 25 [])), (10, (.val .bool o11))] [(18, some (.var T23 (.val T23 a0))), (25, some (.var T55 (.val T55 (nth T55 a0.2.2.1 u1_0)))), (123, some (.row 57 56 T57 u1_1)), (124, some (.row 3 8 (.int .i64) u1_2))]) ?_ ?_
            · refine Run.sreg tied [] [] [] [] (by kernel_rfl) trivial ?_
              refine Run.block ?_
              refine Run.loopJ (fun n σ => ∃ (u2_0 : Bool) (u2_1 : Int), f12_l2 a0 a1 u1_0 u1_1 u1_2 n u2_0 u2_1 = some o11 ∧ σ = mkSt 102 142 [(1, (.val (.int .i64) a1)), (2, (.ptr 18 [])), (6, (.own 123)), (7, (.own 124)), (8, (.val (.int .i64) u1_0)), (9, (.ptr 25 [])), (10, (.val .bool u2_0)), (11, (.val (.int .i64) u2_1))] [(18, some (.var T23 (.val T23 a0))), (25, some (.var T55 (.val T55 (nth T55 a0.2.2.1 u1_0)))), (123, some (.row 57 56 T57 u1_1)), (124, some (.row 3 8 (.int .i64) u1_2))]) [.keep [1, 2, 6, 7, 8, 9, 10, 11] [18, 25, 123, 124]] (by kernel_rfl) ⟨_, _, h40, rfl⟩ ?_
              rintro n2 _ ⟨u2_0, u2_1, h43, rfl⟩
              cases n2 with
              | zero => exact absurd h43 (by simp [f12_l2])
              | succ n2 =>
                unfold f12_l2 at h43
                refine Run.seq ?_
                refine Run.sreg tied [] [] [] [] (by kernel_rfl) trivial ?_
                rcases ite_some h43 with ⟨hc18, h43⟩ | ⟨hc18, h43⟩
                · refine Run.condT (b := decide (u2_1 < (List.length u1_1 : Int))) (by kernel_rfl) hc18 ?_
                  refine Run.skip ?_
                  change Run _ _ _ _ _
                  obtain ⟨o12, h44, h43⟩ := bind_some h43
                  refine Run.seqJ (fun σ' => σ' = mkSt 102 142 [(1, (.val (.int .i64) a1)), (2, (.ptr 18 [])), (6, (.own 123)), (7, (.own 124)), (8, (.val (.int .i64) u1_0)), (9, (.ptr 25 [])), (10, (.val .bool o12)), (11, (.val (.int .i64) u2_1))] [(18, some (.var T23 (.val T23 a0))), (25, some (.var T55 (.val T55 (nth T55 a0.2.2.1 u1_0)))), (123, some (.row 57 56 T57 u1_1)), (124, some (.row 3 8 (.int .i64) u1_2))]) ?_ ?_
                  · refine Run.block ?_
                    rcases ite_some h44 with ⟨hg13, h44⟩ | ⟨hg13, h44⟩
                    · refine Run.regA tied [] [true, false] [] [u2_0 = true] (by kernel_rfl) ⟨hg13, trivial⟩ ?_
                      refine bN ?_
                      obtain rfl := Option.some.inj h44
                      exact jQ.mk [.keep [1, 2, 6, 7, 8, 9, 10, 11] [18, 25, 123, 124]] (by kernel_rfl) rfl
                    · obtain ⟨hv14, h44⟩ := ite_none h44
                      rcases ite_some h44 with ⟨hg15, h44⟩ | ⟨hg15, h44⟩
                      · obtain ⟨y16, hy17, h44⟩ := bind_some h44
                        refine Run.regA tied [⟨(.val .bool y16), [], [], [], 66⟩] [false, true] [] [u2_0 = false, 0 ≤ u2_1, u2_1 < (List.length u1_1 : Int), (decide (((nth T57 u1_1 u2_1).1) = (((((nth T55 a0.2.2.1 u1_0).1).2).2).1))) = true, 0 ≤ u2_1, u2_1 < (List.length u1_1 : Int), Fc Tryd.prog gl 34 [(.val (.slice 8 (.int .i64)) ((((nth T57 u1_1 u2_1).2).2).1)), (.val (.slice 8 (.int .i64)) ((((((((nth T55 a0.2.2.1 u1_0).1).2).2).2).2).2).1))] (hset (List.replicate 66 none) []) (.ret (.val .bool y16)) (outH 66 [])] (by kernel_rfl) ⟨hg13, hv14.1, hv14.2, hg15, hv14.1, hv14.2, x34 _ _ _ hy17, trivial⟩ ?_
                        refine bN ?_
                        obtain rfl := Option.some.inj h44
                        exact jQ.mk [.keep [1, 2, 6, 7, 8, 9, 10, 11] [18, 25, 123, 124]] (by kernel_rfl) rfl
                      · refine Run.regA tied [] [false, false] [] [u2_0 = false, 0 ≤ u2_1, u2_1 < (List.length u1_1 : Int), (decide (((nth T57 u1_1 u2_1).1) = (((((nth T55 a0.2.2.1 u1_0).1).2).2).1))) = false] (by kernel_rfl) ⟨hg13, hv14.1, hv14.2, hg15, trivial⟩ ?_
                        refine bN ?_
                        obtain rfl := Option.some.inj h44
                        exact jQ.mk [.keep [1, 2, 6, 7, 8, 9, 10, 11] [18, 25, 123, 124]] (by kernel_rfl) rfl
                  · rintro _ rfl
                    refine Run.reg tied [] [] [] [] (by kernel_rfl) trivial ?_
                    exact loopJ.mk [.keep [1, 2, 6, 7, 8, 9, 10, 11] [18, 25, 123, 124]] (by kernel_rfl) ⟨_, _, h43, rfl⟩
                · refine Run.condF (b := decide (u2_1 < (List.length u1_1 : Int))) (by kernel_rfl) hc18 ?_
                  refine Run.exit ?_
                  refine tE ?_
                  refine lE ?_
                  refine bE ?_
                  obtain rfl := Option.some.inj h43
                  exact jQ.mk [.keep [1, 2, 6, 7, 8, 9, 10] [18, 25, 123, 124]] (by kernel_rfl) rfl
            · rintro _ rfl
              refine Run.seq ?_
              refine Run.sreg tied [] [] [] [] (by kernel_rfl) trivial ?_
              rcases ite_some h29 with ⟨hc24, h29⟩ | ⟨hc24, h29⟩
              · refine Run.condT (b := o11) (by kernel_rfl) hc24 ?_
                refine Run.exit ?_
                refine tE ?_
                refine bE ?_
                obtain rfl := Option.some.inj h29
                exact jQ.mk [.keep [1, 2, 6, 7, 8] [18, 123, 124], .ren 123 127, .ren 124 128] (by kernel_rfl) rfl
              · refine Run.condF (b := o11) (by kernel_rfl) hc24 ?_
                refine Run.skip ?_
                change Run _ _ _ _ _
                refine Run.sreg tied [] [] [] [] (by kernel_rfl) trivial ?_
                obtain ⟨o19, h45, h29⟩ := bind_some h29
                refine Run.seqJ (fun σ' => σ' = mkSt 102 142 [(1, (.val (.int .i64) a1)), (2, (.ptr 18 [])), (6, (.own 123)), (7, (.own 124)), (8, (.val (.int .i64) u1_0)), (12, (.ptr 28 []))] [(18, some (.var T23 (.val T23 a0))), (28, some (.var T57 (.cons (.val (.int .i64) (((((nth T55 a0.2.2.1 u1_0).1).2).2).1)) (.cons (.own 129) (.cons (.val (.slice 8 (.int .i64)) ((((((((nth T55 a0.2.2.1 u1_0).1).2).2).2).2).2).1)) .nil))))), (123, some (.row 57 56 T57 u1_1)), (124, some (.row 3 8 (.int .i64) u1_2)), (129, some (.row 3 8 (.int .i64) o19))]) ?_ ?_
                · refine Run.sreg tied [] [] [] [] (by kernel_rfl) trivial ?_
                  refine Run.block ?_
                  refine Run.loopJ (fun n σ => ∃ (u3_0 : Int) (u3_1 : List Int), f12_l3 a0 a1 u1_0 u1_1 u1_2 n u3_0 u3_1 = some o19 ∧ σ = mkSt 102 142 [(1, (.val (.int .i64) a1)), (2, (.ptr 18 [])), (6, (.own 123)), (7, (.own 124)), (8, (.val (.int .i64) u1_0)), (12, (.ptr 28 [])), (13, (.val (.int .i64) u3_0))] [(18, some (.var T23 (.val T23 a0))), (28, some (.var T57 (.cons (.val (.int .i64) (((((nth T55 a0.2.2.1 u1_0).1).2).2).1)) (.cons (.own 118) (.cons (.val (.slice 8 (.int .i64)) ((((((((nth T55 a0.2.2.1 u1_0).1).2).2).2).2).2).1)) .nil))))), (118, some (.row 3 8 (.int .i64) u3_1)), (123, some (.row 57 56 T57 u1_1)), (124, some (.row 3 8 (.int .i64) u1_2))]) [.keep [1, 2, 6, 7, 8, 12, 13] [18, 28, 123, 124], .ownF 28 [.fld 1] 118 3 8 (.int .i64)] (by kernel_rfl) ⟨_, _, h45, rfl⟩ ?_
                  rintro n3 _ ⟨u3_0, u3_1, h47, rfl⟩
                  cases n3 with
                  | zero => exact absurd h47 (by simp [f12_l3])
                  | succ n3 =>
                    unfold f12_l3 at h47
                    refine Run.seq ?_
                    refine Run.sreg tied [] [] [] [] (by kernel_rfl) trivial ?_
                    rcases ite_some h47 with ⟨hc21, h47⟩ | ⟨hc21, h47⟩
                    · refine Run.condT (b := decide (u3_0 < (List.length ((((((((nth T55 a0.2.2.1 u1_0).1).2).2).2).2).2).1) : Int))) (by kernel_rfl) hc21 ?_
                      refine Run.skip ?_
                      change Run _ _ _ _ _
                      refine Run.seq ?_
                      refine Run.block ?_
                      obtain ⟨hv20, h47⟩ := ite_none h47
                      refine Run.reg tied [] [] [] [(List.length u3_1 + List.length [u3_0]) * 8 ≤ maxB] (by kernel_rfl) ⟨hv20, trivial⟩ ?_
                      refine bN ?_
                      change Run _ _ _ _ _
                      refine Run.reg tied [] [] [] [] (by kernel_rfl) trivial ?_
                      exact loopJ.mk [.keep [1, 2, 6, 7, 8, 12, 13] [18, 28, 106, 123, 124], .ren 106 118] (by kernel_rfl) ⟨_, _, h47, rfl⟩
                    · refine Run.condF (b := decide (u3_0 < (List.length ((((((((nth T55 a0.2.2.1 u1_0).1).2).2).2).2).2).1) : Int))) (by kernel_rfl) hc21 ?_
                      refine Run.exit ?_
                      refine tE ?_
                      refine lE ?_
                      refine bE ?_
                      obtain rfl := Option.some.inj h47
                      exact jQ.mk [.keep [1, 2, 6, 7, 8, 12] [18, 28, 118, 123, 124], .ren 118 129] (by kernel_rfl) rfl
                · rintro _ rfl
                  refine Run.gh [.freeze 129 (.slice 8 (.int .i64))] (σ' := mkSt 102 142 [(1, (.val (.int .i64) a1)), (2, (.ptr 18 [])), (6, (.own 123)), (7, (.own 124)), (8, (.val (.int .i64) u1_0)), (12, (.ptr 28 []))] [(18, some (.var T23 (.val T23 a0))), (28, some (.var T57 (.cons (.val (.int .i64) (((((nth T55 a0.2.2.1 u1_0).1).2).2).1)) (.cons (.val (.slice 8 (.int .i64)) o19) (.cons (.val (.slice 8 (.int .i64)) ((((((((nth T55 a0.2.2.1 u1_0).1).2).2).2).2).2).1)) .nil))))), (123, some (.row 57 56 T57 u1_1)), (124, some (.row 3 8 (.int .i64) u1_2))]) (by kernel_rfl) ?_
                  obtain ⟨hv22, h29⟩ := ite_none h29
                  refine Run.sreg tied [] [] [] [(List.length u1_1 + List.length [(((((nth T55 a0.2.2.1 u1_0).1).2).2).1, (o19, ((((((((nth T55 a0.2.2.1 u1_0).1).2).2).2).2).2).1, ())))]) * 56 ≤ maxB] (by kernel_rfl) ⟨hv22, trivial⟩ ?_
                  obtain ⟨hv23, h29⟩ := ite_none h29
                  refine Run.reg tied [] [] [] [(List.length u1_2 + List.length [u1_0]) * 8 ≤ maxB] (by kernel_rfl) ⟨hv23, trivial⟩ ?_
                  refine bN ?_
                  obtain rfl := Option.some.inj h29
                  exact jQ.mk [.keep [1, 2, 6, 7, 8] [18, 111, 115], .ren 111 127, .ren 115 128] (by kernel_rfl) rfl
        · rintro _ rfl
          refine Run.reg tied [] [] [] [] (by kernel_rfl) trivial ?_
          exact loopJ.mk [.keep [1, 2, 6, 7, 8] [18, 127, 128], .ren 127 123, .ren 128 124] (by kernel_rfl) ⟨_, _, _, h25, rfl⟩
  · rintro _ rfl
    refine Run.sreg tied [] [] [] [] (by kernel_rfl) trivial ?_
    refine Run.ret ?_
    obtain rfl := Option.some.inj h
    exact (fQ_fin [.freeze 130 (.slice 56 T57), .freeze 131 (.slice 8 (.int .i64))] [some (.slice 56 T57), some (.slice 8 (.int .i64))] (msk 142 []) (by kernel_rfl)).1

/-- testamur.testamurref02.padded -/
def f70_l1 (a0 : List Int) : Nat → (List Int) → Option (List Int)
  | 0, _ => none
  | n1 + 1, u1_0 => if (!decide ((Int.tmod (List.length u1_0 : Int) (64 : Int)) = (56 : Int))) = true then (if (List.length u1_0 + List.length [(0 : Int)]) * 1 ≤ maxB then (f70_l1 a0 n1 (u1_0 ++ [(0 : Int)])) else none) else (some u1_0)

def f70_l2 (a0 : List Int) : Nat → Int → (List Int) → Option (List Int)
  | 0, _, _ => none
  | n2 + 1, u2_0, u2_1 => if (decide ((0 : Int) ≤ u2_0)) = true then (if 0 ≤ (w64 ((8 : Int) * u2_0)) then (if (List.length u2_1 + List.length [IntKind.u8.wrap (Int.fdiv (IntKind.u64.wrap ((IntKind.u64.wrap ((List.length a0 : Int))) * (8 : Int))) (2 ^ (min (Int.toNat (w64 ((8 : Int) * u2_0))) 64)))]) * 1 ≤ maxB then (f70_l2 a0 n2 (w64 (u2_0 - (1 : Int))) (u2_1 ++ [IntKind.u8.wrap (Int.fdiv (IntKind.u64.wrap ((IntKind.u64.wrap ((List.length a0 : Int))) * (8 : Int))) (2 ^ (min (Int.toNat (w64 ((8 : Int) * u2_0))) 64)))])) else none) else none) else (some u2_1)

def f70 (a0 : List Int) : Option (List Int) :=
  if (List.length ([] : List Int) + List.length a0) * 1 ≤ maxB then (if (List.length a0 + List.length [(128 : Int)]) * 1 ≤ maxB then (Option.bind (f70_l1 a0 (big) (a0 ++ [(128 : Int)])) fun (o3 : List Int) => Option.bind (f70_l2 a0 (big) (7 : Int) o3) fun (o6 : List Int) => some o6) else none) else none

set_option maxRecDepth 100000 in
theorem x70 (a0 : List Int) (r : List Int) (h : f70 a0 = some r) : Fc Tryd.prog gl 70 [(.val (.slice 1 (.int .u8)) a0)] (hset (List.replicate 75 none) []) (.ret (.val (.slice 1 (.int .u8)) r)) (outH 75 []) := by
  refine Fc.of Tryd.call70 (FnEx.of_runF tied Tryd.func70 rfl rfl (σ0 := mkSt 35 75 [(0, (.val (.slice 1 (.int .u8)) a0))] []) (by kernel_rfl) ?_)
  unfold f70 at h
  refine Run.sreg tied [] [] [] [] (by kernel_rfl) trivial ?_
  obtain ⟨hv1, h⟩ := ite_none h
  obtain ⟨hv2, h⟩ := ite_none h
  refine Run.sreg tied [] [] [] [(List.length ([] : List Int) + List.length a0) * 1 ≤ maxB, (List.length a0 + List.length [(128 : Int)]) * 1 ≤ maxB] (by kernel_rfl) ⟨hv1, hv2, trivial⟩ ?_
  obtain ⟨o3, h1, h⟩ := bind_some h
  refine Run.seqJ (fun σ' => σ' = mkSt 35 75 [(0, (.val (.slice 1 (.int .u8)) a0)), (3, (.own 52))] [(52, some (.row 5 1 (.int .u8) o3))]) ?_ ?_
  · refine Run.block ?_
    refine Run.loopJ (fun n σ => ∃ (u1_0 : List Int), f70_l1 a0 n u1_0 = some o3 ∧ σ = mkSt 35 75 [(0, (.val (.slice 1 (.int .u8)) a0)), (3, (.own 51))] [(51, some (.row 5 1 (.int .u8) u1_0))]) [.keep [0, 3] [26], .ren 26 51] (by kernel_rfl) ⟨_, h1, rfl⟩ ?_
    rintro n1 _ ⟨u1_0, h3, rfl⟩
    cases n1 with
    | zero => exact absurd h3 (by simp [f70_l1])
    | succ n1 =>
      unfold f70_l1 at h3
      refine Run.seq ?_
      refine Run.sreg tied [] [] [] [(64 : Int) ≠ 0] (by kernel_rfl) ⟨(by decide), trivial⟩ ?_
      rcases ite_some h3 with ⟨hc5, h3⟩ | ⟨hc5, h3⟩
      · refine Run.condT (b := !decide ((Int.tmod (List.length u1_0 : Int) (64 : Int)) = (56 : Int))) (by kernel_rfl) hc5 ?_
        refine Run.skip ?_
        change Run _ _ _ _ _
        refine Run.block ?_
        obtain ⟨hv4, h3⟩ := ite_none h3
        refine Run.reg tied [] [] [] [(List.length u1_0 + List.length [(0 : Int)]) * 1 ≤ maxB] (by kernel_rfl) ⟨hv4, trivial⟩ ?_
        refine bN ?_
        exact loopJ.mk [.keep [0, 3] [33], .ren 33 51] (by kernel_rfl) ⟨_, h3, rfl⟩
      · refine Run.condF (b := !decide ((Int.tmod (List.length u1_0 : Int) (64 : Int)) = (56 : Int))) (by kernel_rfl) hc5 ?_
        refine Run.exit ?_
        refine tE ?_
        refine lE ?_
        refine bE ?_
        obtain rfl := Option.some.inj h3
        exact jQ.mk [.keep [0, 3] [51], .ren 51 52] (by kernel_rfl) rfl
  · rintro _ rfl
    refine Run.sreg tied [] [] [] [] (by kernel_rfl) trivial ?_
    obtain ⟨o6, h4, h⟩ := bind_some h
    refine Run.seqJ (fun σ' => σ' = mkSt 35 75 [(3, (.own 54))] [(54, some (.row 5 1 (.int .u8) o6))]) ?_ ?_
    · refine Run.sreg tied [] [] [] [] (by kernel_rfl) trivial ?_
      refine Run.block ?_
      refine Run.loopJ (fun n σ => ∃ (u2_0 : Int) (u2_1 : List Int), f70_l2 a0 n u2_0 u2_1 = some o6 ∧ σ = mkSt 35 75 [(3, (.own 53)), (4, (.val (.int .u64) (IntKind.u64.wrap ((IntKind.u64.wrap ((List.length a0 : Int))) * (8 : Int))))), (5, (.val (.int .i64) u2_0))] [(53, some (.row 5 1 (.int .u8) u2_1))]) [.keep [3, 4, 5] [52], .ren 52 53] (by kernel_rfl) ⟨_, _, h4, rfl⟩ ?_
      rintro n2 _ ⟨u2_0, u2_1, h6, rfl⟩
      cases n2 with
      | zero => exact absurd h6 (by simp [f70_l2])
      | succ n2 =>
        unfold f70_l2 at h6
        refine Run.seq ?_
        refine Run.sreg tied [] [] [] [] (by kernel_rfl) trivial ?_
        rcases ite_some h6 with ⟨hc9, h6⟩ | ⟨hc9, h6⟩
        · refine Run.condT (b := decide ((0 : Int) ≤ u2_0)) (by kernel_rfl) hc9 ?_
          refine Run.skip ?_
          change Run _ _ _ _ _
          refine Run.seq ?_
          refine Run.block ?_
          obtain ⟨hv7, h6⟩ := ite_none h6
          obtain ⟨hv8, h6⟩ := ite_none h6
          refine Run.reg tied [] [] [] [0 ≤ (w64 ((8 : Int) * u2_0)), (List.length u2_1 + List.length [IntKind.u8.wrap (Int.fdiv (IntKind.u64.wrap ((IntKind.u64.wrap ((List.length a0 : Int))) * (8 : Int))) (2 ^ (min (Int.toNat (w64 ((8 : Int) * u2_0))) 64)))]) * 1 ≤ maxB] (by kernel_rfl) ⟨hv7, hv8, trivial⟩ ?_
          refine bN ?_
          change Run _ _ _ _ _
          refine Run.reg tied [] [] [] [] (by kernel_rfl) trivial ?_
          exact loopJ.mk [.keep [3, 4, 5] [49], .ren 49 53] (by kernel_rfl) ⟨_, _, h6, rfl⟩
        · refine Run.condF (b := decide ((0 : Int) ≤ u2_0)) (by kernel_rfl) hc9 ?_
          refine Run.exit ?_
          refine tE ?_
          refine lE ?_
          refine bE ?_
          obtain rfl := Option.some.inj h6
          exact jQ.mk [.keep [3] [53], .ren 53 54] (by kernel_rfl) rfl
    · rintro _ rfl
      refine Run.sreg tied [] [] [] [] (by kernel_rfl) trivial ?_
      refine Run.ret ?_
      obtain rfl := Option.some.inj h
      exact (fQ_fin [.freeze 54 (.slice 1 (.int .u8))] [some (.slice 1 (.int .u8))] (msk 75 []) (by kernel_rfl)).1

/-- testamur.testamurref02.word -/
def f73 (a0 : List Int) : Option Int :=
  if (0 : Int) < (List.length a0 : Int) then (if (1 : Int) < (List.length a0 : Int) then (if (2 : Int) < (List.length a0 : Int) then (if (3 : Int) < (List.length a0 : Int) then (some (evBits .or .u32 (evBits .or .u32 (evBits .or .u32 (IntKind.u32.wrap ((IntKind.u32.wrap (nth (.int .u8) a0 (0 : Int))) * 2 ^ (min (Int.toNat (24 : Int)) 32))) (IntKind.u32.wrap ((IntKind.u32.wrap (nth (.int .u8) a0 (1 : Int))) * 2 ^ (min (Int.toNat (16 : Int)) 32)))) (IntKind.u32.wrap ((IntKind.u32.wrap (nth (.int .u8) a0 (2 : Int))) * 2 ^ (min (Int.toNat (8 : Int)) 32)))) (IntKind.u32.wrap (nth (.int .u8) a0 (3 : Int))))) else none) else none) else none) else none

set_option maxRecDepth 100000 in
theorem x73 (a0 : List Int) (r : Int) (h : f73 a0 = some r) : Fc Tryd.prog gl 73 [(.val (.slice 1 (.int .u8)) a0)] (hset (List.replicate 65 none) []) (.ret (.val (.int .u32) r)) (outH 65 []) := by
  refine Fc.of Tryd.call73 (FnEx.of_runF tied Tryd.func73 rfl rfl (σ0 := mkSt 25 65 [(0, (.val (.slice 1 (.int .u8)) a0))] []) (by kernel_rfl) ?_)
  unfold f73 at h
  refine Run.sreg tied [] [] [] [] (by kernel_rfl) trivial ?_
  obtain ⟨hv1, h⟩ := ite_none h
  obtain ⟨hv2, h⟩ := ite_none h
  obtain ⟨hv3, h⟩ := ite_none h
  obtain ⟨hv4, h⟩ := ite_none h
  refine Run.sregA tied [] [] [] [0 ≤ (0 : Int), (0 : Int) < (List.length a0 : Int), 0 ≤ (24 : Int), 0 ≤ (1 : Int), (1 : Int) < (List.length a0 : Int), 0 ≤ (16 : Int), 0 ≤ (2 : Int), (2 : Int) < (List.length a0 : Int), 0 ≤ (8 : Int), 0 ≤ (3 : Int), (3 : Int) < (List.length a0 : Int)] (by kernel_rfl) ⟨(by decide), hv1, (by decide), (by decide), hv2, (by decide), (by decide), hv3, (by decide), (by decide), hv4, trivial⟩ ?_
  refine Run.ret ?_
  obtain rfl := Option.some.inj h
  exact (fQ_fin [] [some (.int .u32)] (msk 65 []) (by kernel_rfl)).1

/-- testamur.testamurref02.ror -/
def f74 (a0 : Int) (a1 : Int) : Option Int :=
  if 0 ≤ a1 then (if 0 ≤ (w64 ((32 : Int) - a1)) then (some (evBits .or .u32 (Int.fdiv a0 (2 ^ (min (Int.toNat a1) 32))) (IntKind.u32.wrap (a0 * 2 ^ (min (Int.toNat (w64 ((32 : Int) - a1))) 32))))) else none) else none

set_option maxRecDepth 100000 in
theorem x74 (a0 : Int) (a1 : Int) (r : Int) (h : f74 a0 a1 = some r) : Fc Tryd.prog gl 74 [(.val (.int .u32) a0), (.val (.int .i64) a1)] (hset (List.replicate 53 none) []) (.ret (.val (.int .u32) r)) (outH 53 []) := by
  refine Fc.of Tryd.call74 (FnEx.of_runF tied Tryd.func74 rfl rfl (σ0 := mkSt 13 53 [(0, (.val (.int .u32) a0)), (1, (.val (.int .i64) a1))] []) (by kernel_rfl) ?_)
  unfold f74 at h
  refine Run.sreg tied [] [] [] [] (by kernel_rfl) trivial ?_
  obtain ⟨hv1, h⟩ := ite_none h
  obtain ⟨hv2, h⟩ := ite_none h
  refine Run.sregA tied [] [] [] [0 ≤ a1, 0 ≤ (w64 ((32 : Int) - a1))] (by kernel_rfl) ⟨hv1, hv2, trivial⟩ ?_
  refine Run.ret ?_
  obtain rfl := Option.some.inj h
  exact (fQ_fin [] [some (.int .u32)] (msk 53 []) (by kernel_rfl)).1

/-- testamur.testamurref02.numbers -/
def f75  : Option D115 :=
  some [(1116352408 : Int), (1899447441 : Int), (3049323471 : Int), (3921009573 : Int), (961987163 : Int), (1508970993 : Int), (2453635748 : Int), (2870763221 : Int), (3624381080 : Int), (310598401 : Int), (607225278 : Int), (1426881987 : Int), (1925078388 : Int), (2162078206 : Int), (2614888103 : Int), (3248222580 : Int), (3835390401 : Int), (4022224774 : Int), (264347078 : Int), (604807628 : Int), (770255983 : Int), (1249150122 : Int), (1555081692 : Int), (1996064986 : Int), (2554220882 : Int), (2821834349 : Int), (2952996808 : Int), (3210313671 : Int), (3336571891 : Int), (3584528711 : Int), (113926993 : Int), (338241895 : Int), (666307205 : Int), (773529912 : Int), (1294757372 : Int), (1396182291 : Int), (1695183700 : Int), (1986661051 : Int), (2177026350 : Int), (2456956037 : Int), (2730485921 : Int), (2820302411 : Int), (3259730800 : Int), (3345764771 : Int), (3516065817 : Int), (3600352804 : Int), (4094571909 : Int), (275423344 : Int), (430227734 : Int), (506948616 : Int), (659060556 : Int), (883997877 : Int), (958139571 : Int), (1322822218 : Int), (1537002063 : Int), (1747873779 : Int), (1955562222 : Int), (2024104815 : Int), (2227730452 : Int), (2361852424 : Int), (2428436474 : Int), (2756734187 : Int), (3204031479 : Int), (3329325298 : Int)]

set_option maxRecDepth 100000 in
theorem x75  (r : D115) (h : f75 = some r) : Fc Tryd.prog gl 75 [] (hset (List.replicate 42 none) []) (.ret (.val T115 r)) (outH 42 []) := by
  refine Fc.of Tryd.call75 (FnEx.of_runF tied Tryd.func75 rfl rfl (σ0 := mkSt 2 42 [] []) (by kernel_rfl) ?_)
  unfold f75 at h
  refine Run.sreg tied [] [] [] [] (by kernel_rfl) trivial ?_
  refine Run.sreg tied [] [] [] [] (by kernel_rfl) trivial ?_
  refine Run.ret ?_
  obtain rfl := Option.some.inj h
  exact (fQ_fin [] [some T115] (msk 42 []) (by kernel_rfl)).1

/-- testamur.testamurref02.block -/
def f71_l1 (a0 : D106) (a1 : List Int) : Nat → Int → D115 → Option D115
  | 0, _, _ => none
  | n1 + 1, u1_0, u1_1 => if (decide (u1_0 < (16 : Int))) = true then (if 0 ≤ (w64 ((4 : Int) * u1_0)) ∧ (w64 ((4 : Int) * u1_0)) ≤ (w64 ((w64 ((4 : Int) * u1_0)) + (4 : Int))) ∧ (w64 ((w64 ((4 : Int) * u1_0)) + (4 : Int))) ≤ (List.length a1 : Int) then (Option.bind (f73 (cutList a1 (Int.toNat (w64 ((4 : Int) * u1_0))) (Int.toNat (w64 ((w64 ((4 : Int) * u1_0)) + (4 : Int)))))) fun y3 => if 0 ≤ u1_0 ∧ u1_0 < (64 : Int) then (f71_l1 a0 a1 n1 (w64 (u1_0 + (1 : Int))) (List.set u1_1 (Int.toNat u1_0) y3)) else none) else none) else (some u1_1)

def f71_l2 (a0 : D106) : Nat → Int → D115 → Option D115
  | 0, _, _ => none
  | n2 + 1, u2_0, u2_1 => if (decide (u2_0 < (64 : Int))) = true then (if 0 ≤ (w64 (u2_0 - (15 : Int))) ∧ (w64 (u2_0 - (15 : Int))) < (64 : Int) then (if 0 ≤ (w64 (u2_0 - (2 : Int))) ∧ (w64 (u2_0 - (2 : Int))) < (64 : Int) then (if 0 ≤ (w64 (u2_0 - (16 : Int))) ∧ (w64 (u2_0 - (16 : Int))) < (64 : Int) then (Option.bind (f74 (nth (.int .u32) u2_1 (w64 (u2_0 - (15 : Int)))) (7 : Int)) fun y11 => Option.bind (f74 (nth (.int .u32) u2_1 (w64 (u2_0 - (15 : Int)))) (18 : Int)) fun y13 => if 0 ≤ (w64 (u2_0 - (7 : Int))) ∧ (w64 (u2_0 - (7 : Int))) < (64 : Int) then (Option.bind (f74 (nth (.int .u32) u2_1 (w64 (u2_0 - (2 : Int)))) (17 : Int)) fun y16 => Option.bind (f74 (nth (.int .u32) u2_1 (w64 (u2_0 - (2 : Int)))) (19 : Int)) fun y18 => if 0 ≤ u2_0 ∧ u2_0 < (64 : Int) then (f71_l2 a0 n2 (w64 (u2_0 + (1 : Int))) (List.set u2_1 (Int.toNat u2_0) (IntKind.u32.wrap ((IntKind.u32.wrap ((IntKind.u32.wrap ((nth (.int .u32) u2_1 (w64 (u2_0 - (16 : Int)))) + (evBits .xor .u32 (evBits .xor .u32 y11 y13) (Int.fdiv (nth (.int .u32) u2_1 (w64 (u2_0 - (15 : Int)))) (2 ^ (min (Int.toNat (3 : Int)) 32)))))) + (nth (.int .u32) u2_1 (w64 (u2_0 - (7 : Int)))))) + (evBits .xor .u32 (evBits .xor .u32 y16 y18) (Int.fdiv (nth (.int .u32) u2_1 (w64 (u2_0 - (2 : Int)))) (2 ^ (min (Int.toNat (10 : Int)) 32)))))))) else none) else none) else none) else none) else none) else (some u2_1)

def f71_l3 (a0 : D106) (o7 : D115) (y22 : D115) : Nat → Int → Int → Int → Int → Int → Int → Int → Int → Int → Option (Int × Int × Int × Int × Int × Int × Int × Int)
  | 0, _, _, _, _, _, _, _, _, _ => none
  | n3 + 1, u3_0, u3_1, u3_2, u3_3, u3_4, u3_5, u3_6, u3_7, u3_8 => if (decide (u3_8 < (64 : Int))) = true then (Option.bind (f74 u3_4 (6 : Int)) fun y25 => Option.bind (f74 u3_4 (11 : Int)) fun y27 => Option.bind (f74 u3_4 (25 : Int)) fun y29 => if 0 ≤ u3_8 ∧ u3_8 < (64 : Int) then (Option.bind (f74 u3_0 (2 : Int)) fun y32 => Option.bind (f74 u3_0 (13 : Int)) fun y34 => Option.bind (f74 u3_0 (22 : Int)) fun y36 => f71_l3 a0 o7 y22 n3 (IntKind.u32.wrap ((IntKind.u32.wrap ((IntKind.u32.wrap ((IntKind.u32.wrap ((IntKind.u32.wrap (u3_7 + (evBits .xor .u32 (evBits .xor .u32 y25 y27) y29))) + (evBits .xor .u32 (evBits .and .u32 u3_4 u3_5) (evBits .and .u32 (evBits .xor .u32 IntKind.u32.max u3_4) u3_6)))) + (nth (.int .u32) y22 u3_8))) + (nth (.int .u32) o7 u3_8))) + (IntKind.u32.wrap ((evBits .xor .u32 (evBits .xor .u32 y32 y34) y36) + (evBits .xor .u32 (evBits .xor .u32 (evBits .and .u32 u3_0 u3_1) (evBits .and .u32 u3_0 u3_2)) (evBits .and .u32 u3_1 u3_2)))))) u3_0 u3_1 u3_2 (IntKind.u32.wrap (u3_3 + (IntKind.u32.wrap ((IntKind.u32.wrap ((IntKind.u32.wrap ((IntKind.u32.wrap (u3_7 + (evBits .xor .u32 (evBits .xor .u32 y25 y27) y29))) + (evBits .xor .u32 (evBits .and .u32 u3_4 u3_5) (evBits .and .u32 (evBits .xor .u32 IntKind.u32.max u3_4) u3_6)))) + (nth (.int .u32) y22 u3_8))) + (nth (.int .u32) o7 u3_8))))) u3_4 u3_5 u3_6 (w64 (u3_8 + (1 : Int)))) else none) else (some (u3_0, u3_1, u3_2, u3_3, u3_4, u3_5, u3_6, u3_7))

def f71 (a0 : D106) (a1 : List Int) : Option D106 :=
  Option.bind (f71_l1 a0 a1 (big) (0 : Int) (List.replicate 64 (0 : Int))) fun (o1 : D115) => Option.bind (f71_l2 a0 (big) (16 : Int) o1) fun (o7 : D115) => Option.bind (f75) fun y22 => Option.bind (f71_l3 a0 o7 y22 (big) (nth (.int .u32) a0 (0 : Int)) (nth (.int .u32) a0 (1 : Int)) (nth (.int .u32) a0 (2 : Int)) (nth (.int .u32) a0 (3 : Int)) (nth (.int .u32) a0 (4 : Int)) (nth (.int .u32) a0 (5 : Int)) (nth (.int .u32) a0 (6 : Int)) (nth (.int .u32) a0 (7 : Int)) (0 : Int)) fun (o24 : Int × Int × Int × Int × Int × Int × Int × Int) => some [IntKind.u32.wrap ((nth (.int .u32) a0 (0 : Int)) + o24.1), IntKind.u32.wrap ((nth (.int .u32) a0 (1 : Int)) + o24.2.1), IntKind.u32.wrap ((nth (.int .u32) a0 (2 : Int)) + o24.2.2.1), IntKind.u32.wrap ((nth (.int .u32) a0 (3 : Int)) + o24.2.2.2.1), IntKind.u32.wrap ((nth (.int .u32) a0 (4 : Int)) + o24.2.2.2.2.1), IntKind.u32.wrap ((nth (.int .u32) a0 (5 : Int)) + o24.2.2.2.2.2.1), IntKind.u32.wrap ((nth (.int .u32) a0 (6 : Int)) + o24.2.2.2.2.2.2.1), IntKind.u32.wrap ((nth (.int .u32) a0 (7 : Int)) + o24.2.2.2.2.2.2.2)]

set_option maxRecDepth 100000 in
theorem x71 (a0 : D106) (a1 : List Int) (r : D106) (h : f71 a0 a1 = some r) : Fc Tryd.prog gl 71 [(.val T106 a0), (.val (.slice 1 (.int .u8)) a1)] (hset (List.replicate 231 none) []) (.ret (.val T106 r)) (outH 231 []) := by
  refine Fc.of Tryd.call71 (FnEx.of_runF tied Tryd.func71 rfl rfl (σ0 := mkSt 191 231 [(0, (.val T106 a0)), (1, (.val (.slice 1 (.int .u8)) a1))] []) (by kernel_rfl) ?_)
  unfold f71 at h
  refine Run.sreg tied [] [] [] [] (by kernel_rfl) trivial ?_
  refine Run.sreg tied [] [] [] [] (by kernel_rfl) trivial ?_
  obtain ⟨o1, h1, h⟩ := bind_some h
  refine Run.seqJ (fun σ' => σ' = mkSt 191 231 [(2, (.ptr 18 [])), (4, (.ptr 20 [])), (5, (.ptr 21 []))] [(18, some (.var T106 (.val T106 a0))), (20, some (.var T106 (.val T106 (Ty.dflt T106)))), (21, some (.var T115 (.val T115 o1)))]) ?_ ?_
  · refine Run.sreg tied [] [] [] [] (by kernel_rfl) trivial ?_
    refine Run.block ?_
    refine Run.loopJ (fun n σ => ∃ (u1_0 : Int) (u1_1 : D115), f71_l1 a0 a1 n u1_0 u1_1 = some o1 ∧ σ = mkSt 191 231 [(1, (.val (.slice 1 (.int .u8)) a1)), (2, (.ptr 18 [])), (4, (.ptr 20 [])), (5, (.ptr 21 [])), (6, (.val (.int .i64) u1_0))] [(18, some (.var T106 (.val T106 a0))), (20, some (.var T106 (.val T106 (Ty.dflt T106)))), (21, some (.var T115 (.val T115 u1_1)))]) [.keep [1, 2, 4, 5, 6] [18, 20, 21]] (by kernel_rfl) ⟨_, _, h1, rfl⟩ ?_
    rintro n1 _ ⟨u1_0, u1_1, h3, rfl⟩
    cases n1 with
    | zero => exact absurd h3 (by simp [f71_l1])
    | succ n1 =>
      unfold f71_l1 at h3
      refine Run.seq ?_
      refine Run.sreg tied [] [] [] [] (by kernel_rfl) trivial ?_
      rcases ite_some h3 with ⟨hc6, h3⟩ | ⟨hc6, h3⟩
      · refine Run.condT (b := decide (u1_0 < (16 : Int))) (by kernel_rfl) hc6 ?_
        refine Run.skip ?_
        change Run _ _ _ _ _
        refine Run.seq ?_
        refine Run.block ?_
        obtain ⟨hv2, h3⟩ := ite_none h3
        obtain ⟨y3, hy4, h3⟩ := bind_some h3
        obtain ⟨hv5, h3⟩ := ite_none h3
        refine Run.reg tied [⟨(.val (.int .u32) y3), [], [], [], 65⟩] [] [] [0 ≤ (w64 ((4 : Int) * u1_0)), (w64 ((4 : Int) * u1_0)) ≤ (w64 ((w64 ((4 : Int) * u1_0)) + (4 : Int))), (w64 ((w64 ((4 : Int) * u1_0)) + (4 : Int))) ≤ (List.length a1 : Int), Fc Tryd.prog gl 73 [(.val (.slice 1 (.int .u8)) (cutList a1 (Int.toNat (w64 ((4 : Int) * u1_0))) (Int.toNat (w64 ((w64 ((4 : Int) * u1_0)) + (4 : Int))))))] (hset (List.replicate 65 none) []) (.ret (.val (.int .u32) y3)) (outH 65 []), 0 ≤ u1_0, u1_0 < (64 : Int)] (by kernel_rfl) ⟨hv2.1, hv2.2.1, hv2.2.2, x73 _ _ hy4, hv5.1, hv5.2, trivial⟩ ?_
        refine bN ?_
        change Run _ _ _ _ _
        refine Run.reg tied [] [] [] [] (by kernel_rfl) trivial ?_
        exact loopJ.mk [.keep [1, 2, 4, 5, 6] [18, 20, 21]] (by kernel_rfl) ⟨_, _, h3, rfl⟩
      · refine Run.condF (b := decide (u1_0 < (16 : Int))) (by kernel_rfl) hc6 ?_
        refine Run.exit ?_
        refine tE ?_
        refine lE ?_
        refine bE ?_
        obtain rfl := Option.some.inj h3
        exact jQ.mk [.keep [2, 4, 5] [18, 20, 21]] (by kernel_rfl) rfl
  · rintro _ rfl
    obtain ⟨o7, h4, h⟩ := bind_some h
    refine Run.seqJ (fun σ' => σ' = mkSt 191 231 [(2, (.ptr 18 [])), (4, (.ptr 20 [])), (5, (.ptr 21 []))] [(18, some (.var T106 (.val T106 a0))), (20, some (.var T106 (.val T106 (Ty.dflt T106)))), (21, some (.var T115 (.val T115 o7)))]) ?_ ?_
    · refine Run.sreg tied [] [] [] [] (by kernel_rfl) trivial ?_
      refine Run.block ?_
      refine Run.loopJ (fun n σ => ∃ (u2_0 : Int) (u2_1 : D115), f71_l2 a0 n u2_0 u2_1 = some o7 ∧ σ = mkSt 191 231 [(2, (.ptr 18 [])), (4, (.ptr 20 [])), (5, (.ptr 21 [])), (7, (.val (.int .i64) u2_0))] [(18, some (.var T106 (.val T106 a0))), (20, some (.var T106 (.val T106 (Ty.dflt T106)))), (21, some (.var T115 (.val T115 u2_1)))]) [.keep [2, 4, 5, 7] [18, 20, 21]] (by kernel_rfl) ⟨_, _, h4, rfl⟩ ?_
      rintro n2 _ ⟨u2_0, u2_1, h6, rfl⟩
      cases n2 with
      | zero => exact absurd h6 (by simp [f71_l2])
      | succ n2 =>
        unfold f71_l2 at h6
        refine Run.seq ?_
        refine Run.sreg tied [] [] [] [] (by kernel_rfl) trivial ?_
        rcases ite_some h6 with ⟨hc21, h6⟩ | ⟨hc21, h6⟩
        · refine Run.condT (b := decide (u2_0 < (64 : Int))) (by kernel_rfl) hc21 ?_
          refine Run.skip ?_
          change Run _ _ _ _ _
          refine Run.seq ?_
          refine Run.block ?_
          obtain ⟨hv8, h6⟩ := ite_none h6
          refine Run.sreg tied [] [] [] [0 ≤ (w64 (u2_0 - (15 : Int))), (w64 (u2_0 - (15 : Int))) < (64 : Int)] (by kernel_rfl) ⟨hv8.1, hv8.2, trivial⟩ ?_
          obtain ⟨hv9, h6⟩ := ite_none h6
          refine Run.sreg tied [] [] [] [0 ≤ (w64 (u2_0 - (2 : Int))), (w64 (u2_0 - (2 : Int))) < (64 : Int)] (by kernel_rfl) ⟨hv9.1, hv9.2, trivial⟩ ?_
          obtain ⟨hv10, h6⟩ := ite_none h6
          obtain ⟨y11, hy12, h6⟩ := bind_some h6
          obtain ⟨y13, hy14, h6⟩ := bind_some h6
          obtain ⟨hv15, h6⟩ := ite_none h6
          obtain ⟨y16, hy17, h6⟩ := bind_some h6
          obtain ⟨y18, hy19, h6⟩ := bind_some h6
          obtain ⟨hv20, h6⟩ := ite_none h6
          refine Run.regA tied [⟨(.val (.int .u32) y11), [], [], [], 53⟩, ⟨(.val (.int .u32) y13), [], [], [], 53⟩, ⟨(.val (.int .u32) y16), [], [], [], 53⟩, ⟨(.val (.int .u32) y18), [], [], [], 53⟩] [] [] [0 ≤ (w64 (u2_0 - (16 : Int))), (w64 (u2_0 - (16 : Int))) < (64 : Int), Fc Tryd.prog gl 74 [(.val (.int .u32) (nth (.int .u32) u2_1 (w64 (u2_0 - (15 : Int))))), (.val (.int .i64) (7 : Int))] (hset (List.replicate 53 none) []) (.ret (.val (.int .u32) y11)) (outH 53 []), Fc Tryd.prog gl 74 [(.val (.int .u32) (nth (.int .u32) u2_1 (w64 (u2_0 - (15 : Int))))), (.val (.int .i64) (18 : Int))] (hset (List.replicate 53 none) []) (.ret (.val (.int .u32) y13)) (outH 53 []), 0 ≤ (3 : Int), 0 ≤ (w64 (u2_0 - (7 : Int))), (w64 (u2_0 - (7 : Int))) < (64 : Int), Fc Tryd.prog gl 74 [(.val (.int .u32) (nth (.int .u32) u2_1 (w64 (u2_0 - (2 : Int))))), (.val (.int .i64) (17 : Int))] (hset (List.replicate 53 none) []) (.ret (.val (.int .u32) y16)) (outH 53 []), Fc Tryd.prog gl 74 [(.val (.int .u32) (nth (.int .u32) u2_1 (w64 (u2_0 - (2 : Int))))), (.val (.int .i64) (19 : Int))] (hset (List.replicate 53 none) []) (.ret (.val (.int .u32) y18)) (outH 53 []), 0 ≤ (10 : Int), 0 ≤ u2_0, u2_0 < (64 : Int)] (by kernel_rfl) ⟨hv10.1, hv10.2, x74 _ _ _ hy12, x74 _ _ _ hy14, (by decide), hv15.1, hv15.2, x74 _ _ _ hy17, x74 _ _ _ hy19, (by decide), hv20.1, hv20.2, trivial⟩ ?_
          refine bN ?_
          change Run _ _ _ _ _
          refine Run.reg tied [] [] [] [] (by kernel_rfl) trivial ?_
          exact loopJ.mk [.keep [2, 4, 5, 7] [18, 20, 21]] (by kernel_rfl) ⟨_, _, h6, rfl⟩
        · refine Run.condF (b := decide (u2_0 < (64 : Int))) (by kernel_rfl) hc21 ?_
          refine Run.exit ?_
          refine tE ?_
          refine lE ?_
          refine bE ?_
          obtain rfl := Option.some.inj h6
          exact jQ.mk [.keep [2, 4, 5] [18, 20, 21]] (by kernel_rfl) rfl
    · rintro _ rfl
      obtain ⟨y22, hy23, h⟩ := bind_some h
      refine Run.sreg tied [⟨(.val T115 y22), [], [], [], 42⟩] [] [] [Fc Tryd.prog gl 75 [] (hset (List.replicate 42 none) []) (.ret (.val T115 y22)) (outH 42 [])] (by kernel_rfl) ⟨x75  _ hy23, trivial⟩ ?_
      refine Run.sregA tied [] [] [] [0 ≤ (0 : Int), (0 : Int) < (8 : Int), 0 ≤ (1 : Int), (1 : Int) < (8 : Int), 0 ≤ (2 : Int), (2 : Int) < (8 : Int), 0 ≤ (3 : Int), (3 : Int) < (8 : Int), 0 ≤ (4 : Int), (4 : Int) < (8 : Int), 0 ≤ (5 : Int), (5 : Int) < (8 : Int), 0 ≤ (6 : Int), (6 : Int) < (8 : Int), 0 ≤ (7 : Int), (7 : Int) < (8 : Int)] (by kernel_rfl) ⟨(by decide), (by decide), (by decide), (by decide), (by decide), (by decide), (by decide), (by decide), (by decide), (by decide), (by decide), (by decide), (by decide), (by decide), (by decide), (by decide), trivial⟩ ?_
      obtain ⟨o24, h7, h⟩ := bind_some h
      refine Run.seqJ (fun σ' => σ' = mkSt 191 231 [(2, (.ptr 18 [])), (4, (.ptr 20 [])), (11, (.val (.int .u32) o24.1)), (12, (.val (.int .u32) o24.2.1)), (13, (.val (.int .u32) o24.2.2.1)), (14, (.val (.int .u32) o24.2.2.2.1)), (15, (.val (.int .u32) o24.2.2.2.2.1)), (16, (.val (.int .u32) o24.2.2.2.2.2.1)), (17, (.val (.int .u32) o24.2.2.2.2.2.2.1)), (18, (.val (.int .u32) o24.2.2.2.2.2.2.2))] [(18, some (.var T106 (.val T106 a0))), (20, some (.var T106 (.val T106 (Ty.dflt T106))))]) ?_ ?_
      · refine Run.sreg tied [] [] [] [] (by kernel_rfl) trivial ?_
        refine Run.block ?_
        refine Run.loopJ (fun n σ => ∃ (u3_0 : Int) (u3_1 : Int) (u3_2 : Int) (u3_3 : Int) (u3_4 : Int) (u3_5 : Int) (u3_6 : Int) (u3_7 : Int) (u3_8 : Int), f71_l3 a0 o7 y22 n u3_0 u3_1 u3_2 u3_3 u3_4 u3_5 u3_6 u3_7 u3_8 = some o24 ∧ σ = mkSt 191 231 [(2, (.ptr 18 [])), (4, (.ptr 20 [])), (5, (.ptr 21 [])), (10, (.ptr 26 [])), (11, (.val (.int .u32) u3_0)), (12, (.val (.int .u32) u3_1)), (13, (.val (.int .u32) u3_2)), (14, (.val (.int .u32) u3_3)), (15, (.val (.int .u32) u3_4)), (16, (.val (.int .u32) u3_5)), (17, (.val (.int .u32) u3_6)), (18, (.val (.int .u32) u3_7)), (19, (.val (.int .i64) u3_8))] [(18, some (.var T106 (.val T106 a0))), (20, some (.var T106 (.val T106 (Ty.dflt T106)))), (21, some (.var T115 (.val T115 o7))), (26, some (.var T115 (.val T115 y22)))]) [.keep [2, 4, 5, 10, 11, 12, 13, 14, 15, 16, 17, 18, 19] [18, 20, 21, 26]] (by kernel_rfl) ⟨_, _, _, _, _, _, _, _, _, h7, rfl⟩ ?_
        rintro n3 _ ⟨u3_0, u3_1, u3_2, u3_3, u3_4, u3_5, u3_6, u3_7, u3_8, h9, rfl⟩
        cases n3 with
        | zero => exact absurd h9 (by simp [f71_l3])
        | succ n3 =>
          unfold f71_l3 at h9
          refine Run.seq ?_
          refine Run.sreg tied [] [] [] [] (by kernel_rfl) trivial ?_
          rcases ite_some h9 with ⟨hc38, h9⟩ | ⟨hc38, h9⟩
          · refine Run.condT (b := decide (u3_8 < (64 : Int))) (by kernel_rfl) hc38 ?_
            refine Run.skip ?_
            change Run _ _ _ _ _
            refine Run.seq ?_
            refine Run.block ?_
            obtain ⟨y25, hy26, h9⟩ := bind_some h9
            obtain ⟨y27, hy28, h9⟩ := bind_some h9
            obtain ⟨y29, hy30, h9⟩ := bind_some h9
            obtain ⟨hv31, h9⟩ := ite_none h9
            refine Run.sregA tied [⟨(.val (.int .u32) y25), [], [], [], 53⟩, ⟨(.val (.int .u32) y27), [], [], [], 53⟩, ⟨(.val (.int .u32) y29), [], [], [], 53⟩] [] [] [Fc Tryd.prog gl 74 [(.val (.int .u32) u3_4), (.val (.int .i64) (6 : Int))] (hset (List.replicate 53 none) []) (.ret (.val (.int .u32) y25)) (outH 53 []), Fc Tryd.prog gl 74 [(.val (.int .u32) u3_4), (.val (.int .i64) (11 : Int))] (hset (List.replicate 53 none) []) (.ret (.val (.int .u32) y27)) (outH 53 []), Fc Tryd.prog gl 74 [(.val (.int .u32) u3_4), (.val (.int .i64) (25 : Int))] (hset (List.replicate 53 none) []) (.ret (.val (.int .u32) y29)) (outH 53 []), 0 ≤ u3_8, u3_8 < (64 : Int), 0 ≤ u3_8, u3_8 < (64 : Int)] (by kernel_rfl) ⟨x74 _ _ _ hy26, x74 _ _ _ hy28, x74 _ _ _ hy30, hv31.1, hv31.2, hv31.1, hv31.2, trivial⟩ ?_
            obtain ⟨y32, hy33, h9⟩ := bind_some h9
            obtain ⟨y34, hy35, h9⟩ := bind_some h9
            obtain ⟨y36, hy37, h9⟩ := bind_some h9
            refine Run.sreg tied [⟨(.val (.int .u32) y32), [], [], [], 53⟩, ⟨(.val (.int .u32) y34), [], [], [], 53⟩, ⟨(.val (.int .u32) y36), [], [], [], 53⟩] [] [] [Fc Tryd.prog gl 74 [(.val (.int .u32) u3_0), (.val (.int .i64) (2 : Int))] (hset (List.replicate 53 none) []) (.ret (.val (.int .u32) y32)) (outH 53 []), Fc Tryd.prog gl 74 [(.val (.int .u32) u3_0), (.val (.int .i64) (13 : Int))] (hset (List.replicate 53 none) []) (.ret (.val (.int .u32) y34)) (outH 53 []), Fc Tryd.prog gl 74 [(.val (.int .u32) u3_0), (.val (.int .i64) (22 : Int))] (hset (List.replicate 53 none) []) (.ret (.val (.int .u32) y36)) (outH 53 [])] (by kernel_rfl) ⟨x74 _ _ _ hy33, x74 _ _ _ hy35, x74 _ _ _ hy37, trivial⟩ ?_
            refine Run.reg tied [] [] [] [] (by kernel_rfl) trivial ?_
            refine bN ?_
            change Run _ _ _ _ _
            refine Run.reg tied [] [] [] [] (by kernel_rfl) trivial ?_
            exact loopJ.mk [.keep [2, 4, 5, 10, 11, 12, 13, 14, 15, 16, 17, 18, 19] [18, 20, 21, 26]] (by kernel_rfl) ⟨_, _, _, _, _, _, _, _, _, h9, rfl⟩
          · refine Run.condF (b := decide (u3_8 < (64 : Int))) (by kernel_rfl) hc38 ?_
            refine Run.exit ?_
            refine tE ?_
            refine lE ?_
            refine bE ?_
            obtain rfl := Option.some.inj h9
            exact jQ.mk [.keep [2, 4, 11, 12, 13, 14, 15, 16, 17, 18] [18, 20]] (by kernel_rfl) rfl
      · rintro _ rfl
        refine Run.sreg tied [] [] [] [0 ≤ (0 : Int), (0 : Int) < (8 : Int), 0 ≤ (1 : Int), (1 : Int) < (8 : Int), 0 ≤ (2 : Int), (2 : Int) < (8 : Int), 0 ≤ (3 : Int), (3 : Int) < (8 : Int), 0 ≤ (4 : Int), (4 : Int) < (8 : Int), 0 ≤ (5 : Int), (5 : Int) < (8 : Int), 0 ≤ (6 : Int), (6 : Int) < (8 : Int), 0 ≤ (7 : Int), (7 : Int) < (8 : Int)] (by kernel_rfl) ⟨(by decide), (by decide), (by decide), (by decide), (by decide), (by decide), (by decide), (by decide), (by decide), (by decide), (by decide), (by decide), (by decide), (by decide), (by decide), (by decide), trivial⟩ ?_
        refine Run.ret ?_
        obtain rfl := Option.some.inj h
        exact (fQ_fin [] [some T106] (msk 231 []) (by kernel_rfl)).1

/-- testamur.testamurref02.Sum -/
def f67_l1 (y1 : List Int) : Nat → Int → D106 → Option D106
  | 0, _, _ => none
  | n1 + 1, u1_0, u1_1 => if (decide (u1_0 < (List.length y1 : Int))) = true then (if 0 ≤ u1_0 ∧ u1_0 ≤ (w64 (u1_0 + (64 : Int))) ∧ (w64 (u1_0 + (64 : Int))) ≤ (List.length y1 : Int) then (Option.bind (f71 u1_1 (cutList y1 (Int.toNat u1_0) (Int.toNat (w64 (u1_0 + (64 : Int)))))) fun y5 => f67_l1 y1 n1 (w64 (u1_0 + (64 : Int))) y5) else none) else (some u1_1)

def f67_l2 (o3 : D106) : Nat → Int → D44 → Option D44
  | 0, _, _ => none
  | n2 + 1, u2_0, u2_1 => if (decide (u2_0 < (32 : Int))) = true then (if 0 ≤ (w64 (Int.tdiv u2_0 (4 : Int))) ∧ (w64 (Int.tdiv u2_0 (4 : Int))) < (8 : Int) then (if 0 ≤ (w64 ((24 : Int) - (w64 ((8 : Int) * (Int.tmod u2_0 (4 : Int)))))) then (if 0 ≤ u2_0 ∧ u2_0 < (32 : Int) then (f67_l2 o3 n2 (w64 (u2_0 + (1 : Int))) (List.set u2_1 (Int.toNat u2_0) (IntKind.u8.wrap (Int.fdiv (nth (.int .u32) o3 (w64 (Int.tdiv u2_0 (4 : Int)))) (2 ^ (min (Int.toNat (w64 ((24 : Int) - (w64 ((8 : Int) * (Int.tmod u2_0 (4 : Int))))))) 32)))))) else none) else none) else none) else (some u2_1)

def f67 (a0 : List Int) : Option D44 :=
  Option.bind (f70 a0) fun y1 => Option.bind (f67_l1 y1 (big) (0 : Int) [(1779033703 : Int), (3144134277 : Int), (1013904242 : Int), (2773480762 : Int), (1359893119 : Int), (2600822924 : Int), (528734635 : Int), (1541459225 : Int)]) fun (o3 : D106) => Option.bind (f67_l2 o3 (big) (0 : Int) (List.replicate 32 (0 : Int))) fun (o8 : D44) => some o8

set_option maxRecDepth 100000 in
theorem x67 (a0 : List Int) (r : D44) (h : f67 a0 = some r) : Fc Tryd.prog gl 67 [(.val (.slice 1 (.int .u8)) a0)] (hset (List.replicate 82 none) []) (.ret (.val T44 r)) (outH 82 []) := by
  refine Fc.of Tryd.call67 (FnEx.of_runF tied Tryd.func67 rfl rfl (σ0 := mkSt 42 82 [(0, (.val (.slice 1 (.int .u8)) a0))] []) (by kernel_rfl) ?_)
  unfold f67 at h
  refine Run.sreg tied [] [] [] [] (by kernel_rfl) trivial ?_
  refine Run.sreg tied [] [] [] [] (by kernel_rfl) trivial ?_
  obtain ⟨y1, hy2, h⟩ := bind_some h
  refine Run.sreg tied [⟨(.val (.slice 1 (.int .u8)) y1), [], [], [], 75⟩] [] [] [Fc Tryd.prog gl 70 [(.val (.slice 1 (.int .u8)) a0)] (hset (List.replicate 75 none) []) (.ret (.val (.slice 1 (.int .u8)) y1)) (outH 75 [])] (by kernel_rfl) ⟨x70 _ _ hy2, trivial⟩ ?_
  obtain ⟨o3, h1, h⟩ := bind_some h
  refine Run.seqJ (fun σ' => σ' = mkSt 42 82 [(2, (.ptr 18 [])), (3, (.ptr 19 []))] [(18, some (.var T44 (.val T44 (Ty.dflt T44)))), (19, some (.var T106 (.val T106 o3)))]) ?_ ?_
  · refine Run.sreg tied [] [] [] [] (by kernel_rfl) trivial ?_
    refine Run.block ?_
    refine Run.loopJ (fun n σ => ∃ (u1_0 : Int) (u1_1 : D106), f67_l1 y1 n u1_0 u1_1 = some o3 ∧ σ = mkSt 42 82 [(2, (.ptr 18 [])), (3, (.ptr 19 [])), (4, (.val (.slice 1 (.int .u8)) y1)), (5, (.val (.int .i64) u1_0))] [(18, some (.var T44 (.val T44 (Ty.dflt T44)))), (19, some (.var T106 (.val T106 u1_1)))]) [.keep [2, 3, 4, 5] [18, 19]] (by kernel_rfl) ⟨_, _, h1, rfl⟩ ?_
    rintro n1 _ ⟨u1_0, u1_1, h3, rfl⟩
    cases n1 with
    | zero => exact absurd h3 (by simp [f67_l1])
    | succ n1 =>
      unfold f67_l1 at h3
      refine Run.seq ?_
      refine Run.sreg tied [] [] [] [] (by kernel_rfl) trivial ?_
      rcases ite_some h3 with ⟨hc7, h3⟩ | ⟨hc7, h3⟩
      · refine Run.condT (b := decide (u1_0 < (List.length y1 : Int))) (by kernel_rfl) hc7 ?_
        refine Run.skip ?_
        change Run _ _ _ _ _
        refine Run.seq ?_
        refine Run.block ?_
        obtain ⟨hv4, h3⟩ := ite_none h3
        obtain ⟨y5, hy6, h3⟩ := bind_some h3
        refine Run.regA tied [⟨(.val T106 y5), [], [], [], 231⟩] [] [] [0 ≤ u1_0, u1_0 ≤ (w64 (u1_0 + (64 : Int))), (w64 (u1_0 + (64 : Int))) ≤ (List.length y1 : Int), Fc Tryd.prog gl 71 [(.val T106 u1_1), (.val (.slice 1 (.int .u8)) (cutList y1 (Int.toNat u1_0) (Int.toNat (w64 (u1_0 + (64 : Int))))))] (hset (List.replicate 231 none) []) (.ret (.val T106 y5)) (outH 231 [])] (by kernel_rfl) ⟨hv4.1, hv4.2.1, hv4.2.2, x71 _ _ _ hy6, trivial⟩ ?_
        refine bN ?_
        change Run _ _ _ _ _
        refine Run.reg tied [] [] [] [] (by kernel_rfl) trivial ?_
        exact loopJ.mk [.keep [2, 3, 4, 5] [18, 19]] (by kernel_rfl) ⟨_, _, h3, rfl⟩
      · refine Run.condF (b := decide (u1_0 < (List.length y1 : Int))) (by kernel_rfl) hc7 ?_
        refine Run.exit ?_
        refine tE ?_
        refine lE ?_
        refine bE ?_
        obtain rfl := Option.some.inj h3
        exact jQ.mk [.keep [2, 3] [18, 19]] (by kernel_rfl) rfl
  · rintro _ rfl
    refine Run.sreg tied [] [] [] [] (by kernel_rfl) trivial ?_
    obtain ⟨o8, h4, h⟩ := bind_some h
    refine Run.seqJ (fun σ' => σ' = mkSt 42 82 [(2, (.ptr 18 [])), (6, (.ptr 22 []))] [(18, some (.var T44 (.val T44 (Ty.dflt T44)))), (22, some (.var T44 (.val T44 o8)))]) ?_ ?_
    · refine Run.sreg tied [] [] [] [] (by kernel_rfl) trivial ?_
      refine Run.block ?_
      refine Run.loopJ (fun n σ => ∃ (u2_0 : Int) (u2_1 : D44), f67_l2 o3 n u2_0 u2_1 = some o8 ∧ σ = mkSt 42 82 [(2, (.ptr 18 [])), (3, (.ptr 19 [])), (6, (.ptr 22 [])), (7, (.val (.int .i64) u2_0))] [(18, some (.var T44 (.val T44 (Ty.dflt T44)))), (19, some (.var T106 (.val T106 o3))), (22, some (.var T44 (.val T44 u2_1)))]) [.keep [2, 3, 6, 7] [18, 19, 22]] (by kernel_rfl) ⟨_, _, h4, rfl⟩ ?_
      rintro n2 _ ⟨u2_0, u2_1, h6, rfl⟩
      cases n2 with
      | zero => exact absurd h6 (by simp [f67_l2])
      | succ n2 =>
        unfold f67_l2 at h6
        refine Run.seq ?_
        refine Run.sreg tied [] [] [] [] (by kernel_rfl) trivial ?_
        rcases ite_some h6 with ⟨hc12, h6⟩ | ⟨hc12, h6⟩
        · refine Run.condT (b := decide (u2_0 < (32 : Int))) (by kernel_rfl) hc12 ?_
          refine Run.skip ?_
          change Run _ _ _ _ _
          refine Run.seq ?_
          refine Run.block ?_
          obtain ⟨hv9, h6⟩ := ite_none h6
          obtain ⟨hv10, h6⟩ := ite_none h6
          obtain ⟨hv11, h6⟩ := ite_none h6
          refine Run.reg tied [] [] [] [(4 : Int) ≠ 0, 0 ≤ (w64 (Int.tdiv u2_0 (4 : Int))), (w64 (Int.tdiv u2_0 (4 : Int))) < (8 : Int), (4 : Int) ≠ 0, 0 ≤ (w64 ((24 : Int) - (w64 ((8 : Int) * (Int.tmod u2_0 (4 : Int)))))), 0 ≤ u2_0, u2_0 < (32 : Int)] (by kernel_rfl) ⟨(by decide), hv9.1, hv9.2, (by decide), hv10, hv11.1, hv11.2, trivial⟩ ?_
          refine bN ?_
          change Run _ _ _ _ _
          refine Run.reg tied [] [] [] [] (by kernel_rfl) trivial ?_
          exact loopJ.mk [.keep [2, 3, 6, 7] [18, 19, 22]] (by kernel_rfl) ⟨_, _, h6, rfl⟩
        · refine Run.condF (b := decide (u2_0 < (32 : Int))) (by kernel_rfl) hc12 ?_
          refine Run.exit ?_
          refine tE ?_
          refine lE ?_
          refine bE ?_
          obtain rfl := Option.some.inj h6
          exact jQ.mk [.keep [2, 6] [18, 22]] (by kernel_rfl) rfl
    · rintro _ rfl
      refine Run.sreg tied [] [] [] [] (by kernel_rfl) trivial ?_
      refine Run.ret ?_
      obtain rfl := Option.some.inj h
      exact (fQ_fin [] [some T44] (msk 82 []) (by kernel_rfl)).1

/-- testamur.testamurref02.Tagged -/
def f64 (a0 : List UInt8) (a1 : List Int) : Option D44 :=
  Option.bind (f67 (bytesOf a0)) fun y1 => if (List.length ([] : List Int) + List.length (List.take (32 - 0) (List.drop 0 y1))) * 1 ≤ maxB then (if (List.length (List.take (32 - 0) (List.drop 0 y1)) + List.length a1) * 1 ≤ maxB then (Option.bind (f67 ((List.take (32 - 0) (List.drop 0 y1)) ++ a1)) fun y5 => some y5) else none) else none

set_option maxRecDepth 100000 in
theorem x64 (a0 : List UInt8) (a1 : List Int) (r : D44) (h : f64 a0 a1 = some r) : Fc Tryd.prog gl 64 [(.val .str a0), (.val (.slice 1 (.int .u8)) a1)] (hset (List.replicate 55 none) []) (.ret (.val T44 r)) (outH 55 []) := by
  refine Fc.of Tryd.call64 (FnEx.of_runF tied Tryd.func64 rfl rfl (σ0 := mkSt 15 55 [(0, (.val .str a0)), (1, (.val (.slice 1 (.int .u8)) a1))] []) (by kernel_rfl) ?_)
  unfold f64 at h
  refine Run.sreg tied [] [] [] [] (by kernel_rfl) trivial ?_
  obtain ⟨y1, hy2, h⟩ := bind_some h
  refine Run.sreg tied [⟨(.val T44 y1), [], [], [], 82⟩] [] [] [Fc Tryd.prog gl 67 [(.val (.slice 1 (.int .u8)) (bytesOf a0))] (hset (List.replicate 82 none) []) (.ret (.val T44 y1)) (outH 82 [])] (by kernel_rfl) ⟨x67 _ _ hy2, trivial⟩ ?_
  obtain ⟨hv3, h⟩ := ite_none h
  obtain ⟨hv4, h⟩ := ite_none h
  obtain ⟨y5, hy6, h⟩ := bind_some h
  refine Run.sreg tied [⟨(.val T44 y5), [], [], [], 82⟩] [] [] [(List.length ([] : List Int) + List.length (List.take (32 - 0) (List.drop 0 y1))) * 1 ≤ maxB, (List.length (List.take (32 - 0) (List.drop 0 y1)) + List.length a1) * 1 ≤ maxB, Fc Tryd.prog gl 67 [(.val (.slice 1 (.int .u8)) ((List.take (32 - 0) (List.drop 0 y1)) ++ a1))] (hset (List.replicate 82 none) []) (.ret (.val T44 y5)) (outH 82 [])] (by kernel_rfl) ⟨hv3, hv4, x67 _ _ hy6, trivial⟩ ?_
  refine Run.ret ?_
  obtain rfl := Option.some.inj h
  exact (fQ_fin [] [some T44] (msk 55 []) (by kernel_rfl)).1

/-- testamur.testamurref05.First -/
def f57 (a0 : D44) (a1 : Int) : Option D44 :=
  if (List.length ([] : List Int) + List.length (List.take (32 - 0) (List.drop 0 a0))) * 1 ≤ maxB then (if (List.length (List.take (32 - 0) (List.drop 0 a0)) + List.length [IntKind.u8.wrap (a1)]) * 1 ≤ maxB then (Option.bind (f64 [99, 104, 97, 105, 110] ((List.take (32 - 0) (List.drop 0 a0)) ++ [IntKind.u8.wrap (a1)])) fun y3 => some y3) else none) else none

set_option maxRecDepth 100000 in
theorem x57 (a0 : D44) (a1 : Int) (r : D44) (h : f57 a0 a1 = some r) : Fc Tryd.prog gl 57 [(.val T44 a0), (.val (.int .i64) a1)] (hset (List.replicate 55 none) []) (.ret (.val T44 r)) (outH 55 []) := by
  refine Fc.of Tryd.call57 (FnEx.of_runF tied Tryd.func57 rfl rfl (σ0 := mkSt 15 55 [(0, (.val T44 a0)), (1, (.val (.int .i64) a1))] []) (by kernel_rfl) ?_)
  unfold f57 at h
  refine Run.sreg tied [] [] [] [] (by kernel_rfl) trivial ?_
  obtain ⟨hv1, h⟩ := ite_none h
  refine Run.sreg tied [] [] [] [(List.length ([] : List Int) + List.length (List.take (32 - 0) (List.drop 0 a0))) * 1 ≤ maxB] (by kernel_rfl) ⟨hv1, trivial⟩ ?_
  obtain ⟨hv2, h⟩ := ite_none h
  obtain ⟨y3, hy4, h⟩ := bind_some h
  refine Run.sreg tied [⟨(.val T44 y3), [], [], [], 55⟩] [] [] [(List.length (List.take (32 - 0) (List.drop 0 a0)) + List.length [IntKind.u8.wrap (a1)]) * 1 ≤ maxB, Fc Tryd.prog gl 64 [(.val .str [99, 104, 97, 105, 110]), (.val (.slice 1 (.int .u8)) ((List.take (32 - 0) (List.drop 0 a0)) ++ [IntKind.u8.wrap (a1)]))] (hset (List.replicate 55 none) []) (.ret (.val T44 y3)) (outH 55 [])] (by kernel_rfl) ⟨hv2, x64 _ _ _ hy4, trivial⟩ ?_
  refine Run.ret ?_
  obtain rfl := Option.some.inj h
  exact (fQ_fin [] [some T44] (msk 55 []) (by kernel_rfl)).1

/-- testamur.testamurref05.Step -/
def f63 (a0 : D44) : Option D44 :=
  Option.bind (f64 [115, 116, 101, 112] (List.take (32 - 0) (List.drop 0 a0))) fun y1 => some y1

set_option maxRecDepth 100000 in
theorem x63 (a0 : D44) (r : D44) (h : f63 a0 = some r) : Fc Tryd.prog gl 63 [(.val T44 a0)] (hset (List.replicate 45 none) []) (.ret (.val T44 r)) (outH 45 []) := by
  refine Fc.of Tryd.call63 (FnEx.of_runF tied Tryd.func63 rfl rfl (σ0 := mkSt 5 45 [(0, (.val T44 a0))] []) (by kernel_rfl) ?_)
  unfold f63 at h
  refine Run.sreg tied [] [] [] [] (by kernel_rfl) trivial ?_
  obtain ⟨y1, hy2, h⟩ := bind_some h
  refine Run.sreg tied [⟨(.val T44 y1), [], [], [], 55⟩] [] [] [Fc Tryd.prog gl 64 [(.val .str [115, 116, 101, 112]), (.val (.slice 1 (.int .u8)) (List.take (32 - 0) (List.drop 0 a0)))] (hset (List.replicate 55 none) []) (.ret (.val T44 y1)) (outH 55 [])] (by kernel_rfl) ⟨x64 _ _ _ hy2, trivial⟩ ?_
  refine Run.ret ?_
  obtain rfl := Option.some.inj h
  exact (fQ_fin [] [some T44] (msk 45 []) (by kernel_rfl)).1

/-- testamur.testamurref05.Steps -/
def f56_l1 (a1 : Int) : Nat → Int → D44 → Option D44
  | 0, _, _ => none
  | n1 + 1, u1_0, u1_1 => if (decide (u1_0 < a1)) = true then (Option.bind (f63 u1_1) fun y2 => f56_l1 a1 n1 (w64 (u1_0 + (1 : Int))) y2) else (some u1_1)

def f56 (a0 : D44) (a1 : Int) : Option D44 :=
  Option.bind (f56_l1 a1 (big) (0 : Int) a0) fun (o1 : D44) => some o1

set_option maxRecDepth 100000 in
theorem x56 (a0 : D44) (a1 : Int) (r : D44) (h : f56 a0 a1 = some r) : Fc Tryd.prog gl 56 [(.val T44 a0), (.val (.int .i64) a1)] (hset (List.replicate 54 none) []) (.ret (.val T44 r)) (outH 54 []) := by
  refine Fc.of Tryd.call56 (FnEx.of_runF tied Tryd.func56 rfl rfl (σ0 := mkSt 14 54 [(0, (.val T44 a0)), (1, (.val (.int .i64) a1))] []) (by kernel_rfl) ?_)
  unfold f56 at h
  refine Run.sreg tied [] [] [] [] (by kernel_rfl) trivial ?_
  obtain ⟨o1, h1, h⟩ := bind_some h
  refine Run.seqJ (fun σ' => σ' = mkSt 14 54 [(2, (.ptr 18 [])), (4, (.ptr 20 []))] [(18, some (.var T44 (.val T44 o1))), (20, some (.var T44 (.val T44 (Ty.dflt T44))))]) ?_ ?_
  · refine Run.sreg tied [] [] [] [] (by kernel_rfl) trivial ?_
    refine Run.block ?_
    refine Run.loopJ (fun n σ => ∃ (u1_0 : Int) (u1_1 : D44), f56_l1 a1 n u1_0 u1_1 = some o1 ∧ σ = mkSt 14 54 [(1, (.val (.int .i64) a1)), (2, (.ptr 18 [])), (4, (.ptr 20 [])), (5, (.val (.int .i64) u1_0))] [(18, some (.var T44 (.val T44 u1_1))), (20, some (.var T44 (.val T44 (Ty.dflt T44))))]) [.keep [1, 2, 4, 5] [18, 20]] (by kernel_rfl) ⟨_, _, h1, rfl⟩ ?_
    rintro n1 _ ⟨u1_0, u1_1, h3, rfl⟩
    cases n1 with
    | zero => exact absurd h3 (by simp [f56_l1])
    | succ n1 =>
      unfold f56_l1 at h3
      refine Run.seq ?_
      refine Run.sreg tied [] [] [] [] (by kernel_rfl) trivial ?_
      rcases ite_some h3 with ⟨hc4, h3⟩ | ⟨hc4, h3⟩
      · refine Run.condT (b := decide (u1_0 < a1)) (by kernel_rfl) hc4 ?_
        refine Run.skip ?_
        change Run _ _ _ _ _
        refine Run.seq ?_
        refine Run.block ?_
        obtain ⟨y2, hy3, h3⟩ := bind_some h3
        refine Run.reg tied [⟨(.val T44 y2), [], [], [], 45⟩] [] [] [Fc Tryd.prog gl 63 [(.val T44 u1_1)] (hset (List.replicate 45 none) []) (.ret (.val T44 y2)) (outH 45 [])] (by kernel_rfl) ⟨x63 _ _ hy3, trivial⟩ ?_
        refine bN ?_
        change Run _ _ _ _ _
        refine Run.reg tied [] [] [] [] (by kernel_rfl) trivial ?_
        exact loopJ.mk [.keep [1, 2, 4, 5] [18, 20]] (by kernel_rfl) ⟨_, _, h3, rfl⟩
      · refine Run.condF (b := decide (u1_0 < a1)) (by kernel_rfl) hc4 ?_
        refine Run.exit ?_
        refine tE ?_
        refine lE ?_
        refine bE ?_
        obtain rfl := Option.some.inj h3
        exact jQ.mk [.keep [2, 4] [18, 20]] (by kernel_rfl) rfl
  · rintro _ rfl
    refine Run.sreg tied [] [] [] [] (by kernel_rfl) trivial ?_
    refine Run.ret ?_
    obtain rfl := Option.some.inj h
    exact (fQ_fin [] [some T44] (msk 54 []) (by kernel_rfl)).1

/-- testamur.testamurref05.Key -/
def f58_l1 (a0 : List D44) : Nat → Int → (List Int) → Option (List Int)
  | 0, _, _ => none
  | n1 + 1, u1_0, u1_1 => if (decide (u1_0 < (List.length a0 : Int))) = true then (if 0 ≤ u1_0 ∧ u1_0 < (List.length a0 : Int) then (if (List.length u1_1 + List.length (cutList (nth T44 a0 u1_0) 0 32)) * 1 ≤ maxB then (f58_l1 a0 n1 (w64 (u1_0 + (1 : Int))) (u1_1 ++ (cutList (nth T44 a0 u1_0) 0 32))) else none) else none) else (some u1_1)

def f58 (a0 : List D44) : Option D44 :=
  Option.bind (f58_l1 a0 (big) (0 : Int) ([] : List Int)) fun (o1 : List Int) => Option.bind (f64 [112, 117, 98, 108, 105, 99] o1) fun y5 => some y5

set_option maxRecDepth 100000 in
theorem x58 (a0 : List D44) (r : D44) (h : f58 a0 = some r) : Fc Tryd.prog gl 58 [(.val (.slice 32 T44) a0)] (hset (List.replicate 60 none) []) (.ret (.val T44 r)) (outH 60 []) := by
  refine Fc.of Tryd.call58 (FnEx.of_runF tied Tryd.func58 rfl rfl (σ0 := mkSt 20 60 [(0, (.val (.slice 32 T44) a0))] []) (by kernel_rfl) ?_)
  unfold f58 at h
  refine Run.sreg tied [] [] [] [] (by kernel_rfl) trivial ?_
  refine Run.sreg tied [] [] [] [] (by kernel_rfl) trivial ?_
  obtain ⟨o1, h1, h⟩ := bind_some h
  refine Run.seqJ (fun σ' => σ' = mkSt 20 60 [(2, (.ptr 18 [])), (3, (.own 37))] [(18, some (.var T44 (.val T44 (Ty.dflt T44)))), (37, some (.row 5 1 (.int .u8) o1))]) ?_ ?_
  · refine Run.sreg tied [] [] [] [] (by kernel_rfl) trivial ?_
    refine Run.block ?_
    refine Run.loopJ (fun n σ => ∃ (u1_0 : Int) (u1_1 : List Int), f58_l1 a0 n u1_0 u1_1 = some o1 ∧ σ = mkSt 20 60 [(0, (.val (.slice 32 T44) a0)), (2, (.ptr 18 [])), (3, (.own 36)), (4, (.val (.int .i64) u1_0))] [(18, some (.var T44 (.val T44 (Ty.dflt T44)))), (36, some (.row 5 1 (.int .u8) u1_1))]) [.keep [0, 2, 3, 4] [18, 21], .ren 21 36] (by kernel_rfl) ⟨_, _, h1, rfl⟩ ?_
    rintro n1 _ ⟨u1_0, u1_1, h3, rfl⟩
    cases n1 with
    | zero => exact absurd h3 (by simp [f58_l1])
    | succ n1 =>
      unfold f58_l1 at h3
      refine Run.seq ?_
      refine Run.sreg tied [] [] [] [] (by kernel_rfl) trivial ?_
      rcases ite_some h3 with ⟨hc4, h3⟩ | ⟨hc4, h3⟩
      · refine Run.condT (b := decide (u1_0 < (List.length a0 : Int))) (by kernel_rfl) hc4 ?_
        refine Run.skip ?_
        change Run _ _ _ _ _
        refine Run.seq ?_
        refine Run.block ?_
        obtain ⟨hv2, h3⟩ := ite_none h3
        obtain ⟨hv3, h3⟩ := ite_none h3
        refine Run.reg tied [] [] [] [0 ≤ u1_0, u1_0 < (List.length a0 : Int), (List.length u1_1 + List.length (cutList (nth T44 a0 u1_0) 0 32)) * 1 ≤ maxB] (by kernel_rfl) ⟨hv2.1, hv2.2, hv3, trivial⟩ ?_
        refine bN ?_
        change Run _ _ _ _ _
        refine Run.reg tied [] [] [] [] (by kernel_rfl) trivial ?_
        exact loopJ.mk [.keep [0, 2, 3, 4] [18, 33], .ren 33 36] (by kernel_rfl) ⟨_, _, h3, rfl⟩
      · refine Run.condF (b := decide (u1_0 < (List.length a0 : Int))) (by kernel_rfl) hc4 ?_
        refine Run.exit ?_
        refine tE ?_
        refine lE ?_
        refine bE ?_
        obtain rfl := Option.some.inj h3
        exact jQ.mk [.keep [2, 3] [18, 36], .ren 36 37] (by kernel_rfl) rfl
  · rintro _ rfl
    obtain ⟨y5, hy6, h⟩ := bind_some h
    refine Run.sreg tied [⟨(.val T44 y5), [], [], [], 55⟩] [] [] [Fc Tryd.prog gl 64 [(.val .str [112, 117, 98, 108, 105, 99]), (.val (.slice 1 (.int .u8)) o1)] (hset (List.replicate 55 none) []) (.ret (.val T44 y5)) (outH 55 [])] (by kernel_rfl) ⟨x64 _ _ _ hy6, trivial⟩ ?_
    refine Run.ret ?_
    obtain rfl := Option.some.inj h
    exact (fQ_fin [] [some T44] (msk 60 []) (by kernel_rfl)).1

/-- testamur.testamurref05.Public -/
def f50_l1 (a0 : D44) : Nat → Int → (List D44) → Option (List D44)
  | 0, _, _ => none
  | n1 + 1, u1_0, u1_1 => if (decide (u1_0 < (19 : Int))) = true then (Option.bind (f57 a0 u1_0) fun y2 => Option.bind (f56 y2 (3 : Int)) fun y4 => if (List.length u1_1 + List.length [y4]) * 32 ≤ maxB then (f50_l1 a0 n1 (w64 (u1_0 + (1 : Int))) (u1_1 ++ [y4])) else none) else (some u1_1)

def f50 (a0 : D44) : Option D44 :=
  Option.bind (f50_l1 a0 (big) (0 : Int) ([] : List D44)) fun (o1 : List D44) => Option.bind (f58 o1) fun y8 => some y8

set_option maxRecDepth 100000 in
theorem x50 (a0 : D44) (r : D44) (h : f50 a0 = some r) : Fc Tryd.prog gl 50 [(.val T44 a0)] (hset (List.replicate 59 none) []) (.ret (.val T44 r)) (outH 59 []) := by
  refine Fc.of Tryd.call50 (FnEx.of_runF tied Tryd.func50 rfl rfl (σ0 := mkSt 19 59 [(0, (.val T44 a0))] []) (by kernel_rfl) ?_)
  unfold f50 at h
  refine Run.sreg tied [] [] [] [] (by kernel_rfl) trivial ?_
  refine Run.sreg tied [] [] [] [] (by kernel_rfl) trivial ?_
  obtain ⟨o1, h1, h⟩ := bind_some h
  refine Run.seqJ (fun σ' => σ' = mkSt 19 59 [(2, (.ptr 18 [])), (3, (.own 36))] [(18, some (.var T44 (.val T44 (Ty.dflt T44)))), (36, some (.row 44 32 T44 o1))]) ?_ ?_
  · refine Run.sreg tied [] [] [] [] (by kernel_rfl) trivial ?_
    refine Run.block ?_
    refine Run.loopJ (fun n σ => ∃ (u1_0 : Int) (u1_1 : List D44), f50_l1 a0 n u1_0 u1_1 = some o1 ∧ σ = mkSt 19 59 [(1, (.ptr 17 [])), (2, (.ptr 18 [])), (3, (.own 35)), (4, (.val (.int .i64) u1_0))] [(17, some (.var T44 (.val T44 a0))), (18, some (.var T44 (.val T44 (Ty.dflt T44)))), (35, some (.row 44 32 T44 u1_1))]) [.keep [1, 2, 3, 4] [17, 18, 21], .ren 21 35] (by kernel_rfl) ⟨_, _, h1, rfl⟩ ?_
    rintro n1 _ ⟨u1_0, u1_1, h3, rfl⟩
    cases n1 with
    | zero => exact absurd h3 (by simp [f50_l1])
    | succ n1 =>
      unfold f50_l1 at h3
      refine Run.seq ?_
      refine Run.sreg tied [] [] [] [] (by kernel_rfl) trivial ?_
      rcases ite_some h3 with ⟨hc7, h3⟩ | ⟨hc7, h3⟩
      · refine Run.condT (b := decide (u1_0 < (19 : Int))) (by kernel_rfl) hc7 ?_
        refine Run.skip ?_
        change Run _ _ _ _ _
        refine Run.seq ?_
        refine Run.block ?_
        obtain ⟨y2, hy3, h3⟩ := bind_some h3
        obtain ⟨y4, hy5, h3⟩ := bind_some h3
        obtain ⟨hv6, h3⟩ := ite_none h3
        refine Run.reg tied [⟨(.val T44 y2), [], [], [], 55⟩, ⟨(.val T44 y4), [], [], [], 54⟩] [] [] [Fc Tryd.prog gl 57 [(.val T44 a0), (.val (.int .i64) u1_0)] (hset (List.replicate 55 none) []) (.ret (.val T44 y2)) (outH 55 []), Fc Tryd.prog gl 56 [(.val T44 y2), (.val (.int .i64) (3 : Int))] (hset (List.replicate 54 none) []) (.ret (.val T44 y4)) (outH 54 []), (List.length u1_1 + List.length [y4]) * 32 ≤ maxB] (by kernel_rfl) ⟨x57 _ _ _ hy3, x56 _ _ _ hy5, hv6, trivial⟩ ?_
        refine bN ?_
        change Run _ _ _ _ _
        refine Run.reg tied [] [] [] [] (by kernel_rfl) trivial ?_
        exact loopJ.mk [.keep [1, 2, 3, 4] [17, 18, 32], .ren 32 35] (by kernel_rfl) ⟨_, _, h3, rfl⟩
      · refine Run.condF (b := decide (u1_0 < (19 : Int))) (by kernel_rfl) hc7 ?_
        refine Run.exit ?_
        refine tE ?_
        refine lE ?_
        refine bE ?_
        obtain rfl := Option.some.inj h3
        exact jQ.mk [.keep [2, 3] [18, 35], .ren 35 36] (by kernel_rfl) rfl
  · rintro _ rfl
    obtain ⟨y8, hy9, h⟩ := bind_some h
    refine Run.sreg tied [⟨(.val T44 y8), [], [], [], 60⟩] [] [] [Fc Tryd.prog gl 58 [(.val (.slice 32 T44) o1)] (hset (List.replicate 60 none) []) (.ret (.val T44 y8)) (outH 60 [])] (by kernel_rfl) ⟨x58 _ _ hy9, trivial⟩ ?_
    refine Run.ret ?_
    obtain rfl := Option.some.inj h
    exact (fQ_fin [] [some T44] (msk 59 []) (by kernel_rfl)).1

/-- testamur.testamurref02.Same -/
def f43_l1 (a0 : List D44) (a1 : List D44) : Nat → Int → Option (Ctl Unit Bool)
  | 0, _ => none
  | n1 + 1, u1_0 => if (decide (u1_0 < (List.length a0 : Int))) = true then (if 0 ≤ u1_0 ∧ u1_0 < (List.length a0 : Int) then (if u1_0 < (List.length a1 : Int) then (if (!eqDen T44 (nth T44 a0 u1_0) (nth T44 a1 u1_0)) = true then (some (.ret false)) else (f43_l1 a0 a1 n1 (w64 (u1_0 + (1 : Int))))) else none) else none) else (some (.brk ()))

def f43 (a0 : List D44) (a1 : List D44) : Option Bool :=
  if (!decide ((List.length a0 : Int) = (List.length a1 : Int))) = true then (some false) else (Option.bind (f43_l1 a0 a1 (big) (0 : Int)) fun (o1 : Ctl Unit Bool) => match o1 with | .brk _v6 => (some true) | .ret r7 => (some r7))

set_option maxRecDepth 100000 in
theorem x43 (a0 : List D44) (a1 : List D44) (r : Bool) (h : f43 a0 a1 = some r) : Fc Tryd.prog gl 43 [(.val (.slice 32 T44) a0), (.val (.slice 32 T44) a1)] (hset (List.replicate 66 none) []) (.ret (.val .bool r)) (outH 66 []) := by
  refine Fc.of Tryd.call43 (FnEx.of_runF tied Tryd.func43 rfl rfl (σ0 := mkSt 26 66 [(0, (.val (.slice 32 T44) a0)), (1, (.val (.slice 32 T44) a1))] []) (by kernel_rfl) ?_)
  unfold f43 at h
  refine Run.sreg tied [] [] [] [] (by kernel_rfl) trivial ?_
  refine Run.seq ?_
  refine Run.sreg tied [] [] [] [] (by kernel_rfl) trivial ?_
  rcases ite_some h with ⟨hc8, h⟩ | ⟨hc8, h⟩
  · refine Run.condT (b := !decide ((List.length a0 : Int) = (List.length a1 : Int))) (by kernel_rfl) hc8 ?_
    refine Run.sreg tied [] [] [] [] (by kernel_rfl) trivial ?_
    refine Run.ret ?_
    obtain rfl := Option.some.inj h
    exact (fQ_fin [] [some .bool] (msk 66 []) (by kernel_rfl)).1
  · refine Run.condF (b := !decide ((List.length a0 : Int) = (List.length a1 : Int))) (by kernel_rfl) hc8 ?_
    refine Run.skip ?_
    change Run _ _ _ _ _
    obtain ⟨o1, h1, h⟩ := bind_some h
    refine Run.seqJ (fun σ' => ∃ v6, o1 = .brk v6 ∧ σ' = mkSt 26 66 [] []) ?_ ?_
    · refine Run.sreg tied [] [] [] [] (by kernel_rfl) trivial ?_
      refine Run.block ?_
      refine Run.loopJ (fun n σ => ∃ (u1_0 : Int), f43_l1 a0 a1 n u1_0 = some o1 ∧ σ = mkSt 26 66 [(0, (.val (.slice 32 T44) a0)), (1, (.val (.slice 32 T44) a1)), (5, (.val (.int .i64) u1_0))] []) [.keep [0, 1, 5] []] (by kernel_rfl) ⟨_, h1, rfl⟩ ?_
      rintro n1 _ ⟨u1_0, h3, rfl⟩
      cases n1 with
      | zero => exact absurd h3 (by simp [f43_l1])
      | succ n1 =>
        unfold f43_l1 at h3
        refine Run.seq ?_
        refine Run.sreg tied [] [] [] [] (by kernel_rfl) trivial ?_
        rcases ite_some h3 with ⟨hc5, h3⟩ | ⟨hc5, h3⟩
        · refine Run.condT (b := decide (u1_0 < (List.length a0 : Int))) (by kernel_rfl) hc5 ?_
          refine Run.skip ?_
          change Run _ _ _ _ _
          refine Run.seq ?_
          refine Run.block ?_
          obtain ⟨hv2, h3⟩ := ite_none h3
          obtain ⟨hv3, h3⟩ := ite_none h3
          refine Run.sregA tied [] [] [] [0 ≤ u1_0, u1_0 < (List.length a0 : Int), 0 ≤ u1_0, u1_0 < (List.length a1 : Int), eqOK Tryd.prog G 40 44 T44 = true, Tryd.prog.eqGuardType Tryd.prog.depth 44 = false] (by kernel_rfl) ⟨hv2.1, hv2.2, hv2.1, hv3, fact1, fact2, trivial⟩ ?_
          rcases ite_some h3 with ⟨hc4, h3⟩ | ⟨hc4, h3⟩
          · refine Run.condT (b := !eqDen T44 (nth T44 a0 u1_0) (nth T44 a1 u1_0)) (by kernel_rfl) hc4 ?_
            refine Run.sreg tied [] [] [] [] (by kernel_rfl) trivial ?_
            refine Run.ret ?_
            obtain rfl := Option.some.inj h3
            dsimp only at h
            obtain rfl := Option.some.inj h
            exact (fQ_fin [] [some .bool] (msk 66 []) (by kernel_rfl)).1
          · refine Run.condF (b := !eqDen T44 (nth T44 a0 u1_0) (nth T44 a1 u1_0)) (by kernel_rfl) hc4 ?_
            refine Run.skip ?_
            refine bN ?_
            change Run _ _ _ _ _
            refine Run.reg tied [] [] [] [] (by kernel_rfl) trivial ?_
            exact loopJ.mk [.keep [0, 1, 5] []] (by kernel_rfl) ⟨_, h3, rfl⟩
        · refine Run.condF (b := decide (u1_0 < (List.length a0 : Int))) (by kernel_rfl) hc5 ?_
          refine Run.exit ?_
          refine tE ?_
          refine lE ?_
          refine bE ?_
          obtain rfl := Option.some.inj h3
          exact jQ.mk [.keep [] []] (by kernel_rfl) ⟨_, rfl, rfl⟩
    · rintro _ ⟨v6, rfl, rfl⟩
      dsimp only at h
      refine Run.sreg tied [] [] [] [] (by kernel_rfl) trivial ?_
      refine Run.ret ?_
      obtain rfl := Option.some.inj h
      exact (fQ_fin [] [some .bool] (msk 66 []) (by kernel_rfl)).1

/-- testamur.testamurref41.held -/
def f40_l1 (a0 : D23) (a1 : Int) : Nat → Int → Option (Ctl Unit Bool)
  | 0, _ => none
  | n1 + 1, u1_0 => if (decide (u1_0 < a1)) = true then (Option.bind (Option.bind (if 0 ≤ u1_0 ∧ u1_0 < (List.length a0.2.2.1 : Int) then (if (decide (((((nth T55 a0.2.2.1 u1_0).1).2).1) = ((((nth T55 a0.2.2.1 a1).1).2).1))) = true then (some (decide (((((((nth T55 a0.2.2.1 u1_0).1).2).2).2).1) = ((((((nth T55 a0.2.2.1 a1).1).2).2).2).1)))) else (some false)) else none) fun (o18 : Bool) => if o18 = true then (some (.ret false)) else (some (.brk ()))) fun (o17 : Ctl Unit Bool) => match o17 with | .brk _v22 => (f40_l1 a0 a1 n1 (w64 (u1_0 + (1 : Int)))) | .ret r23 => (some (.ret r23))) else (some (.brk ()))

def f40 (a0 : D23) (a1 : Int) : Option Bool :=
  if 0 ≤ a1 ∧ a1 < (List.length a0.2.2.1 : Int) then (Option.bind (Option.bind (Option.bind (f50 ((((nth T55 a0.2.2.1 a1).2).1).1)) fun y4 => if (!eqDen T44 y4 (((((((nth T55 a0.2.2.1 a1).1).2).2).2).2).1)) = true then (some true) else (if (!decide ((List.length (((((((((nth T55 a0.2.2.1 a1).1).2).2).2).2).2).2).1) : Int) = (4 : Int))) = true then (some true) else (Option.bind (f43 (((((((((nth T55 a0.2.2.1 a1).1).2).2).2).2).2).2).1) (((((nth T55 a0.2.2.1 a1).2).1).2).1)) fun y8 => if (!y8) = true then (some true) else (if (0 : Int) < (List.length a0.2.2.1 : Int) then (Option.bind (f43 (((((((((nth T55 a0.2.2.1 a1).1).2).2).2).2).2).2).1) (((((((((nth T55 a0.2.2.1 (0 : Int)).1).2).2).2).2).2).2).1)) fun y12 => some (!y12)) else none)))) fun (o3 : Bool) => if o3 = true then (some (.ret false)) else (some (.brk ()))) fun (o2 : Ctl Unit Bool) => match o2 with | .brk _v15 => (Option.bind (f40_l1 a0 a1 (big) (0 : Int)) fun (o16 : Ctl Unit Bool) => match o16 with | .brk _v25 => (Option.bind (Option.bind (f27 ((((nth T55 a0.2.2.1 a1).2).2).1) (0 : Int) (3 : Int)) fun y27 => if y27 = true then (Option.bind (f27 (((((nth T55 a0.2.2.1 a1).2).2).2).1) (0 : Int) (3 : Int)) fun y30 => some y30) else (some false)) fun (o26 : Bool) => some o26) | .ret r32 => (some r32)) | .ret r33 => (some r33)) else none

set_option maxRecDepth 100000 in
theorem x40 (a0 : D23) (a1 : Int) (r : Bool) (h : f40 a0 a1 = some r) : Fc Tryd.prog gl 40 [(.val T23 a0), (.val (.int .i64) a1)] (hset (List.replicate 127 none) []) (.ret (.val .bool r)) (outH 127 []) := by
  refine Fc.of Tryd.call40 (FnEx.of_runF tied Tryd.func40 rfl rfl (σ0 := mkSt 87 127 [(0, (.val T23 a0)), (1, (.val (.int .i64) a1))] []) (by kernel_rfl) ?_)
  unfold f40 at h
  refine Run.sreg tied [] [] [] [] (by kernel_rfl) trivial ?_
  obtain ⟨hv1, h⟩ := ite_none h
  refine Run.sreg tied [] [] [] [0 ≤ a1, a1 < (List.length a0.2.2.1 : Int)] (by kernel_rfl) ⟨hv1.1, hv1.2, trivial⟩ ?_
  obtain ⟨o2, h1, h⟩ := bind_some h
  refine Run.seqJ (fun σ' => ∃ v15, o2 = .brk v15 ∧ σ' = mkSt 87 127 [(1, (.val (.int .i64) a1)), (2, (.ptr 18 [])), (5, (.ptr 21 []))] [(18, some (.var T23 (.val T23 a0))), (21, some (.var T55 (.val T55 (nth T55 a0.2.2.1 a1))))]) ?_ ?_
  · obtain ⟨o3, h3, h1⟩ := bind_some h1
    refine Run.seqJ (fun σ' => σ' = mkSt 87 127 [(1, (.val (.int .i64) a1)), (2, (.ptr 18 [])), (5, (.ptr 21 [])), (49, (.val .bool o3))] [(18, some (.var T23 (.val T23 a0))), (21, some (.var T55 (.val T55 (nth T55 a0.2.2.1 a1))))]) ?_ ?_
    · obtain ⟨y4, hy5, h3⟩ := bind_some h3
      rcases ite_some h3 with ⟨hg6, h3⟩ | ⟨hg6, h3⟩
      · refine Run.regA tied [⟨(.val T44 y4), [], [], [], 59⟩] [true, true, true] [] [Fc Tryd.prog gl 50 [(.val T44 ((((nth T55 a0.2.2.1 a1).2).1).1))] (hset (List.replicate 59 none) []) (.ret (.val T44 y4)) (outH 59 []), eqOK Tryd.prog G 40 44 T44 = true, Tryd.prog.eqGuardType Tryd.prog.depth 44 = false, (!eqDen T44 y4 (((((((nth T55 a0.2.2.1 a1).1).2).2).2).2).1)) = true, true = true, true = true] (by kernel_rfl) ⟨x50 _ _ hy5, fact1, fact2, hg6, rfl, rfl, trivial⟩ ?_
        obtain rfl := Option.some.inj h3
        exact jQ.mk [.keep [1, 2, 5, 49] [18, 21]] (by kernel_rfl) rfl
      · rcases ite_some h3 with ⟨hg7, h3⟩ | ⟨hg7, h3⟩
        · refine Run.regA tied [⟨(.val T44 y4), [], [], [], 59⟩] [false, true, true] [] [Fc Tryd.prog gl 50 [(.val T44 ((((nth T55 a0.2.2.1 a1).2).1).1))] (hset (List.replicate 59 none) []) (.ret (.val T44 y4)) (outH 59 []), eqOK Tryd.prog G 40 44 T44 = true, Tryd.prog.eqGuardType Tryd.prog.depth 44 = false, (!eqDen T44 y4 (((((((nth T55 a0.2.2.1 a1).1).2).2).2).2).1)) = false, (!decide ((List.length (((((((((nth T55 a0.2.2.1 a1).1).2).2).2).2).2).2).1) : Int) = (4 : Int))) = true, true = true] (by kernel_rfl) ⟨x50 _ _ hy5, fact1, fact2, hg6, hg7, rfl, trivial⟩ ?_
          obtain rfl := Option.some.inj h3
          exact jQ.mk [.keep [1, 2, 5, 49] [18, 21]] (by kernel_rfl) rfl
        · obtain ⟨y8, hy9, h3⟩ := bind_some h3
          rcases ite_some h3 with ⟨hg10, h3⟩ | ⟨hg10, h3⟩
          · refine Run.regA tied [⟨(.val T44 y4), [], [], [], 59⟩, ⟨(.val .bool y8), [], [], [], 66⟩] [false, false, true] [] [Fc Tryd.prog gl 50 [(.val T44 ((((nth T55 a0.2.2.1 a1).2).1).1))] (hset (List.replicate 59 none) []) (.ret (.val T44 y4)) (outH 59 []), eqOK Tryd.prog G 40 44 T44 = true, Tryd.prog.eqGuardType Tryd.prog.depth 44 = false, (!eqDen T44 y4 (((((((nth T55 a0.2.2.1 a1).1).2).2).2).2).1)) = false, (!decide ((List.length (((((((((nth T55 a0.2.2.1 a1).1).2).2).2).2).2).2).1) : Int) = (4 : Int))) = false, Fc Tryd.prog gl 43 [(.val (.slice 32 T44) (((((((((nth T55 a0.2.2.1 a1).1).2).2).2).2).2).2).1)), (.val (.slice 32 T44) (((((nth T55 a0.2.2.1 a1).2).1).2).1))] (hset (List.replicate 66 none) []) (.ret (.val .bool y8)) (outH 66 []), (!y8) = true] (by kernel_rfl) ⟨x50 _ _ hy5, fact1, fact2, hg6, hg7, x43 _ _ _ hy9, hg10, trivial⟩ ?_
            obtain rfl := Option.some.inj h3
            exact jQ.mk [.keep [1, 2, 5, 49] [18, 21]] (by kernel_rfl) rfl
          · obtain ⟨hv11, h3⟩ := ite_none h3
            obtain ⟨y12, hy13, h3⟩ := bind_some h3
            refine Run.regA tied [⟨(.val T44 y4), [], [], [], 59⟩, ⟨(.val .bool y8), [], [], [], 66⟩, ⟨(.val .bool y12), [], [], [], 66⟩] [false, false, false] [] [Fc Tryd.prog gl 50 [(.val T44 ((((nth T55 a0.2.2.1 a1).2).1).1))] (hset (List.replicate 59 none) []) (.ret (.val T44 y4)) (outH 59 []), eqOK Tryd.prog G 40 44 T44 = true, Tryd.prog.eqGuardType Tryd.prog.depth 44 = false, (!eqDen T44 y4 (((((((nth T55 a0.2.2.1 a1).1).2).2).2).2).1)) = false, (!decide ((List.length (((((((((nth T55 a0.2.2.1 a1).1).2).2).2).2).2).2).1) : Int) = (4 : Int))) = false, Fc Tryd.prog gl 43 [(.val (.slice 32 T44) (((((((((nth T55 a0.2.2.1 a1).1).2).2).2).2).2).2).1)), (.val (.slice 32 T44) (((((nth T55 a0.2.2.1 a1).2).1).2).1))] (hset (List.replicate 66 none) []) (.ret (.val .bool y8)) (outH 66 []), (!y8) = false, 0 ≤ (0 : Int), (0 : Int) < (List.length a0.2.2.1 : Int), Fc Tryd.prog gl 43 [(.val (.slice 32 T44) (((((((((nth T55 a0.2.2.1 a1).1).2).2).2).2).2).2).1)), (.val (.slice 32 T44) (((((((((nth T55 a0.2.2.1 (0 : Int)).1).2).2).2).2).2).2).1))] (hset (List.replicate 66 none) []) (.ret (.val .bool y12)) (outH 66 [])] (by kernel_rfl) ⟨x50 _ _ hy5, fact1, fact2, hg6, hg7, x43 _ _ _ hy9, hg10, (by decide), hv11, x43 _ _ _ hy13, trivial⟩ ?_
            obtain rfl := Option.some.inj h3
            exact jQ.mk [.keep [1, 2, 5, 49] [18, 21]] (by kernel_rfl) rfl
    · rintro _ rfl
      rcases ite_some h1 with ⟨hc14, h1⟩ | ⟨hc14, h1⟩
      · refine Run.condT (b := o3) (by kernel_rfl) hc14 ?_
        refine Run.sreg tied [] [] [] [] (by kernel_rfl) trivial ?_
        refine Run.ret ?_
        obtain rfl := Option.some.inj h1
        dsimp only at h
        obtain rfl := Option.some.inj h
        exact (fQ_fin [] [some .bool] (msk 127 []) (by kernel_rfl)).1
      · refine Run.condF (b := o3) (by kernel_rfl) hc14 ?_
        refine Run.skip ?_
        obtain rfl := Option.some.inj h1
        exact jQ.mk [.keep [1, 2, 5] [18, 21]] (by kernel_rfl) ⟨_, rfl, rfl⟩
  · rintro _ ⟨v15, rfl, rfl⟩
    dsimp only at h
    obtain ⟨o16, h4, h⟩ := bind_some h
    refine Run.seqJ (fun σ' => ∃ v25, o16 = .brk v25 ∧ σ' = mkSt 87 127 [(5, (.ptr 21 []))] [(21, some (.var T55 (.val T55 (nth T55 a0.2.2.1 a1))))]) ?_ ?_
    · refine Run.sreg tied [] [] [] [] (by kernel_rfl) trivial ?_
      refine Run.block ?_
      refine Run.loopJ (fun n σ => ∃ (u1_0 : Int), f40_l1 a0 a1 n u1_0 = some o16 ∧ σ = mkSt 87 127 [(1, (.val (.int .i64) a1)), (2, (.ptr 18 [])), (5, (.ptr 21 [])), (6, (.val (.int .i64) u1_0))] [(18, some (.var T23 (.val T23 a0))), (21, some (.var T55 (.val T55 (nth T55 a0.2.2.1 a1))))]) [.keep [1, 2, 5, 6] [18, 21]] (by kernel_rfl) ⟨_, h4, rfl⟩ ?_
      rintro n1 _ ⟨u1_0, h9, rfl⟩
      cases n1 with
      | zero => exact absurd h9 (by simp [f40_l1])
      | succ n1 =>
        unfold f40_l1 at h9
        refine Run.seq ?_
        refine Run.sreg tied [] [] [] [] (by kernel_rfl) trivial ?_
        rcases ite_some h9 with ⟨hc24, h9⟩ | ⟨hc24, h9⟩
        · refine Run.condT (b := decide (u1_0 < a1)) (by kernel_rfl) hc24 ?_
          refine Run.skip ?_
          change Run _ _ _ _ _
          obtain ⟨o17, h10, h9⟩ := bind_some h9
          refine Run.seqJ (fun σ' => ∃ v22, o17 = .brk v22 ∧ σ' = mkSt 87 127 [(1, (.val (.int .i64) a1)), (2, (.ptr 18 [])), (5, (.ptr 21 [])), (6, (.val (.int .i64) u1_0))] [(18, some (.var T23 (.val T23 a0))), (21, some (.var T55 (.val T55 (nth T55 a0.2.2.1 a1))))]) ?_ ?_
          · refine Run.block ?_
            obtain ⟨o18, h12, h10⟩ := bind_some h10
            refine Run.seqJ (fun σ' => σ' = mkSt 87 127 [(1, (.val (.int .i64) a1)), (2, (.ptr 18 [])), (5, (.ptr 21 [])), (6, (.val (.int .i64) u1_0)), (78, (.val .bool o18))] [(18, some (.var T23 (.val T23 a0))), (21, some (.var T55 (.val T55 (nth T55 a0.2.2.1 a1))))]) ?_ ?_
            · obtain ⟨hv19, h12⟩ := ite_none h12
              rcases ite_some h12 with ⟨hg20, h12⟩ | ⟨hg20, h12⟩
              · refine Run.regA tied [] [true] [] [0 ≤ u1_0, u1_0 < (List.length a0.2.2.1 : Int), (decide (((((nth T55 a0.2.2.1 u1_0).1).2).1) = ((((nth T55 a0.2.2.1 a1).1).2).1))) = true, 0 ≤ u1_0, u1_0 < (List.length a0.2.2.1 : Int)] (by kernel_rfl) ⟨hv19.1, hv19.2, hg20, hv19.1, hv19.2, trivial⟩ ?_
                obtain rfl := Option.some.inj h12
                exact jQ.mk [.keep [1, 2, 5, 6, 78] [18, 21]] (by kernel_rfl) rfl
              · refine Run.regA tied [] [false] [] [0 ≤ u1_0, u1_0 < (List.length a0.2.2.1 : Int), (decide (((((nth T55 a0.2.2.1 u1_0).1).2).1) = ((((nth T55 a0.2.2.1 a1).1).2).1))) = false] (by kernel_rfl) ⟨hv19.1, hv19.2, hg20, trivial⟩ ?_
                obtain rfl := Option.some.inj h12
                exact jQ.mk [.keep [1, 2, 5, 6, 78] [18, 21]] (by kernel_rfl) rfl
            · rintro _ rfl
              rcases ite_some h10 with ⟨hc21, h10⟩ | ⟨hc21, h10⟩
              · refine Run.condT (b := o18) (by kernel_rfl) hc21 ?_
                refine Run.sreg tied [] [] [] [] (by kernel_rfl) trivial ?_
                refine Run.ret ?_
                obtain rfl := Option.some.inj h10
                dsimp only at h9
                obtain rfl := Option.some.inj h9
                dsimp only at h
                obtain rfl := Option.some.inj h
                exact (fQ_fin [] [some .bool] (msk 127 []) (by kernel_rfl)).1
              · refine Run.condF (b := o18) (by kernel_rfl) hc21 ?_
                refine Run.skip ?_
                refine bN ?_
                obtain rfl := Option.some.inj h10
                exact jQ.mk [.keep [1, 2, 5, 6] [18, 21]] (by kernel_rfl) ⟨_, rfl, rfl⟩
          · rintro _ ⟨v22, rfl, rfl⟩
            dsimp only at h9
            refine Run.reg tied [] [] [] [] (by kernel_rfl) trivial ?_
            exact loopJ.mk [.keep [1, 2, 5, 6] [18, 21]] (by kernel_rfl) ⟨_, h9, rfl⟩
        · refine Run.condF (b := decide (u1_0 < a1)) (by kernel_rfl) hc24 ?_
          refine Run.exit ?_
          refine tE ?_
          refine lE ?_
          refine bE ?_
          obtain rfl := Option.some.inj h9
          exact jQ.mk [.keep [5] [21]] (by kernel_rfl) ⟨_, rfl, rfl⟩
    · rintro _ ⟨v25, rfl, rfl⟩
      dsimp only at h
      obtain ⟨o26, h13, h⟩ := bind_some h
      refine Run.seqJ (fun σ' => σ' = mkSt 87 127 [(4, (.val .bool o26))] []) ?_ ?_
      · obtain ⟨y27, hy28, h13⟩ := bind_some h13
        rcases ite_some h13 with ⟨hg29, h13⟩ | ⟨hg29, h13⟩
        · obtain ⟨y30, hy31, h13⟩ := bind_some h13
          refine Run.reg tied [⟨(.val .bool y27), [], [], [], 55⟩, ⟨(.val .bool y30), [], [], [], 55⟩] [true] [] [Fc Tryd.prog gl 27 [(.val (.int .i64) ((((nth T55 a0.2.2.1 a1).2).2).1)), (.val (.int .i64) (0 : Int)), (.val (.int .i64) (3 : Int))] (hset (List.replicate 55 none) []) (.ret (.val .bool y27)) (outH 55 []), y27 = true, Fc Tryd.prog gl 27 [(.val (.int .i64) (((((nth T55 a0.2.2.1 a1).2).2).2).1)), (.val (.int .i64) (0 : Int)), (.val (.int .i64) (3 : Int))] (hset (List.replicate 55 none) []) (.ret (.val .bool y30)) (outH 55 [])] (by kernel_rfl) ⟨x27 _ _ _ _ hy28, hg29, x27 _ _ _ _ hy31, trivial⟩ ?_
          obtain rfl := Option.some.inj h13
          exact jQ.mk [.keep [4] []] (by kernel_rfl) rfl
        · refine Run.reg tied [⟨(.val .bool y27), [], [], [], 55⟩] [false] [] [Fc Tryd.prog gl 27 [(.val (.int .i64) ((((nth T55 a0.2.2.1 a1).2).2).1)), (.val (.int .i64) (0 : Int)), (.val (.int .i64) (3 : Int))] (hset (List.replicate 55 none) []) (.ret (.val .bool y27)) (outH 55 []), y27 = false] (by kernel_rfl) ⟨x27 _ _ _ _ hy28, hg29, trivial⟩ ?_
          obtain rfl := Option.some.inj h13
          exact jQ.mk [.keep [4] []] (by kernel_rfl) rfl
      · rintro _ rfl
        refine Run.ret ?_
        obtain rfl := Option.some.inj h
        exact (fQ_fin [] [some .bool] (msk 127 []) (by kernel_rfl)).1

/-- testamur.testamurref41.Check -/
def f17_l1 (a0 : D23) : Nat → Int → Option (Ctl Unit Int)
  | 0, _ => none
  | n1 + 1, u1_0 => if (decide (u1_0 < (List.length a0.2.2.1 : Int))) = true then (Option.bind (f40 a0 u1_0) fun y12 => if (!y12) = true then (some (.ret (410 : Int))) else (f17_l1 a0 n1 (w64 (u1_0 + (1 : Int))))) else (some (.brk ()))

def f17 (a0 : D23) : Option Int :=
  Option.bind (Option.bind (Option.bind (f27 a0.1 (0 : Int) (4095 : Int)) fun y3 => if (!y3) = true then (some true) else (Option.bind (f27 a0.2.1 (0 : Int) (4 : Int)) fun y6 => if (!y6) = true then (some true) else (some (decide ((256 : Int) < (List.length a0.2.2.1 : Int)))))) fun (o2 : Bool) => if o2 = true then (some (.ret (410 : Int))) else (some (.brk ()))) fun (o1 : Ctl Unit Int) => match o1 with | .brk _v10 => (Option.bind (f17_l1 a0 (big) (0 : Int)) fun (o11 : Ctl Unit Int) => match o11 with | .brk _v16 => (some (0 : Int)) | .ret r17 => (some r17)) | .ret r18 => (some r18)

set_option maxRecDepth 100000 in
theorem x17 (a0 : D23) (r : Int) (h : f17 a0 = some r) : Fc Tryd.prog gl 17 [(.val T23 a0)] (hset (List.replicate 71 none) []) (.ret (.val (.int .i64) r)) (outH 71 []) := by
  refine Fc.of Tryd.call17 (FnEx.of_runF tied Tryd.func17 rfl rfl (σ0 := mkSt 31 71 [(0, (.val T23 a0))] []) (by kernel_rfl) ?_)
  unfold f17 at h
  refine Run.sreg tied [] [] [] [] (by kernel_rfl) trivial ?_
  obtain ⟨o1, h1, h⟩ := bind_some h
  refine Run.seqJ (fun σ' => ∃ v10, o1 = .brk v10 ∧ σ' = mkSt 31 71 [(1, (.ptr 17 []))] [(17, some (.var T23 (.val T23 a0)))]) ?_ ?_
  · obtain ⟨o2, h3, h1⟩ := bind_some h1
    refine Run.seqJ (fun σ' => σ' = mkSt 31 71 [(1, (.ptr 17 [])), (19, (.val .bool o2))] [(17, some (.var T23 (.val T23 a0)))]) ?_ ?_
    · obtain ⟨y3, hy4, h3⟩ := bind_some h3
      rcases ite_some h3 with ⟨hg5, h3⟩ | ⟨hg5, h3⟩
      · refine Run.reg tied [⟨(.val .bool y3), [], [], [], 55⟩] [true, true] [] [Fc Tryd.prog gl 27 [(.val (.int .i64) a0.1), (.val (.int .i64) (0 : Int)), (.val (.int .i64) (4095 : Int))] (hset (List.replicate 55 none) []) (.ret (.val .bool y3)) (outH 55 []), (!y3) = true, true = true] (by kernel_rfl) ⟨x27 _ _ _ _ hy4, hg5, rfl, trivial⟩ ?_
        obtain rfl := Option.some.inj h3
        exact jQ.mk [.keep [1, 19] [17]] (by kernel_rfl) rfl
      · obtain ⟨y6, hy7, h3⟩ := bind_some h3
        rcases ite_some h3 with ⟨hg8, h3⟩ | ⟨hg8, h3⟩
        · refine Run.reg tied [⟨(.val .bool y3), [], [], [], 55⟩, ⟨(.val .bool y6), [], [], [], 55⟩] [false, true] [] [Fc Tryd.prog gl 27 [(.val (.int .i64) a0.1), (.val (.int .i64) (0 : Int)), (.val (.int .i64) (4095 : Int))] (hset (List.replicate 55 none) []) (.ret (.val .bool y3)) (outH 55 []), (!y3) = false, Fc Tryd.prog gl 27 [(.val (.int .i64) a0.2.1), (.val (.int .i64) (0 : Int)), (.val (.int .i64) (4 : Int))] (hset (List.replicate 55 none) []) (.ret (.val .bool y6)) (outH 55 []), (!y6) = true] (by kernel_rfl) ⟨x27 _ _ _ _ hy4, hg5, x27 _ _ _ _ hy7, hg8, trivial⟩ ?_
          obtain rfl := Option.some.inj h3
          exact jQ.mk [.keep [1, 19] [17]] (by kernel_rfl) rfl
        · refine Run.reg tied [⟨(.val .bool y3), [], [], [], 55⟩, ⟨(.val .bool y6), [], [], [], 55⟩] [false, false] [] [Fc Tryd.prog gl 27 [(.val (.int .i64) a0.1), (.val (.int .i64) (0 : Int)), (.val (.int .i64) (4095 : Int))] (hset (List.replicate 55 none) []) (.ret (.val .bool y3)) (outH 55 []), (!y3) = false, Fc Tryd.prog gl 27 [(.val (.int .i64) a0.2.1), (.val (.int .i64) (0 : Int)), (.val (.int .i64) (4 : Int))] (hset (List.replicate 55 none) []) (.ret (.val .bool y6)) (outH 55 []), (!y6) = false] (by kernel_rfl) ⟨x27 _ _ _ _ hy4, hg5, x27 _ _ _ _ hy7, hg8, trivial⟩ ?_
          obtain rfl := Option.some.inj h3
          exact jQ.mk [.keep [1, 19] [17]] (by kernel_rfl) rfl
    · rintro _ rfl
      rcases ite_some h1 with ⟨hc9, h1⟩ | ⟨hc9, h1⟩
      · refine Run.condT (b := o2) (by kernel_rfl) hc9 ?_
        refine Run.sreg tied [] [] [] [] (by kernel_rfl) trivial ?_
        refine Run.ret ?_
        obtain rfl := Option.some.inj h1
        dsimp only at h
        obtain rfl := Option.some.inj h
        exact (fQ_fin [] [some (.int .i64)] (msk 71 []) (by kernel_rfl)).1
      · refine Run.condF (b := o2) (by kernel_rfl) hc9 ?_
        refine Run.skip ?_
        obtain rfl := Option.some.inj h1
        exact jQ.mk [.keep [1] [17]] (by kernel_rfl) ⟨_, rfl, rfl⟩
  · rintro _ ⟨v10, rfl, rfl⟩
    dsimp only at h
    obtain ⟨o11, h4, h⟩ := bind_some h
    refine Run.seqJ (fun σ' => ∃ v16, o11 = .brk v16 ∧ σ' = mkSt 31 71 [] []) ?_ ?_
    · refine Run.sreg tied [] [] [] [] (by kernel_rfl) trivial ?_
      refine Run.block ?_
      refine Run.loopJ (fun n σ => ∃ (u1_0 : Int), f17_l1 a0 n u1_0 = some o11 ∧ σ = mkSt 31 71 [(1, (.ptr 17 [])), (3, (.val (.int .i64) u1_0))] [(17, some (.var T23 (.val T23 a0)))]) [.keep [1, 3] [17]] (by kernel_rfl) ⟨_, h4, rfl⟩ ?_
      rintro n1 _ ⟨u1_0, h6, rfl⟩
      cases n1 with
      | zero => exact absurd h6 (by simp [f17_l1])
      | succ n1 =>
        unfold f17_l1 at h6
        refine Run.seq ?_
        refine Run.sreg tied [] [] [] [] (by kernel_rfl) trivial ?_
        rcases ite_some h6 with ⟨hc15, h6⟩ | ⟨hc15, h6⟩
        · refine Run.condT (b := decide (u1_0 < (List.length a0.2.2.1 : Int))) (by kernel_rfl) hc15 ?_
          refine Run.skip ?_
          change Run _ _ _ _ _
          refine Run.seq ?_
          refine Run.block ?_
          obtain ⟨y12, hy13, h6⟩ := bind_some h6
          refine Run.sreg tied [⟨(.val .bool y12), [], [], [], 127⟩] [] [] [Fc Tryd.prog gl 40 [(.val T23 a0), (.val (.int .i64) u1_0)] (hset (List.replicate 127 none) []) (.ret (.val .bool y12)) (outH 127 [])] (by kernel_rfl) ⟨x40 _ _ _ hy13, trivial⟩ ?_
          rcases ite_some h6 with ⟨hc14, h6⟩ | ⟨hc14, h6⟩
          · refine Run.condT (b := !y12) (by kernel_rfl) hc14 ?_
            refine Run.sreg tied [] [] [] [] (by kernel_rfl) trivial ?_
            refine Run.ret ?_
            obtain rfl := Option.some.inj h6
            dsimp only at h
            obtain rfl := Option.some.inj h
            exact (fQ_fin [] [some (.int .i64)] (msk 71 []) (by kernel_rfl)).1
          · refine Run.condF (b := !y12) (by kernel_rfl) hc14 ?_
            refine Run.skip ?_
            refine bN ?_
            change Run _ _ _ _ _
            refine Run.reg tied [] [] [] [] (by kernel_rfl) trivial ?_
            exact loopJ.mk [.keep [1, 3] [17]] (by kernel_rfl) ⟨_, h6, rfl⟩
        · refine Run.condF (b := decide (u1_0 < (List.length a0.2.2.1 : Int))) (by kernel_rfl) hc15 ?_
          refine Run.exit ?_
          refine tE ?_
          refine lE ?_
          refine bE ?_
          obtain rfl := Option.some.inj h6
          exact jQ.mk [.keep [] []] (by kernel_rfl) ⟨_, rfl, rfl⟩
    · rintro _ ⟨v16, rfl, rfl⟩
      dsimp only at h
      refine Run.sreg tied [] [] [] [] (by kernel_rfl) trivial ?_
      refine Run.ret ?_
      obtain rfl := Option.some.inj h
      exact (fQ_fin [] [some (.int .i64)] (msk 71 []) (by kernel_rfl)).1

/-- testamur.testamurref41.Supersede -/
def f14_l1 (a0 : D23) (a1 : Int) : Nat → Int → (List D55) → Option (List D55)
  | 0, _, _ => none
  | n1 + 1, u1_0, u1_1 => if (decide (u1_0 < (List.length u1_1 : Int))) = true then (Option.bind (Option.bind (if 0 ≤ u1_0 ∧ u1_0 < (List.length u1_1 : Int) then (if (decide ((((((nth T55 u1_1 u1_0).2).2).2).1) = (0 : Int))) = true then (some (decide ((((((nth T55 u1_1 u1_0).1).2).2).1) = a1))) else (some false)) else none) fun (o8 : Bool) => if o8 = true then (if 0 ≤ u1_0 ∧ u1_0 < (List.length u1_1 : Int) then (some (List.set u1_1 (Int.toNat u1_0) ((nth T55 u1_1 u1_0).1, (((nth T55 u1_1 u1_0).2).1, ((((nth T55 u1_1 u1_0).2).2).1, ((2 : Int), ((((nth T55 u1_1 u1_0).2).2).2).2)))))) else none) else (some u1_1)) fun (o7 : List D55) => f14_l1 a0 a1 n1 (w64 (u1_0 + (1 : Int))) o7) else (some u1_1)

def f14 (a0 : D23) (a1 : Int) : Option (D23 × Int) :=
  Option.bind (f17 a0) fun y1 => if (!decide (y1 = (0 : Int))) = true then (some (((0 : Int), ((0 : Int), (([] : List D55), ()))), y1)) else (Option.bind (f27 a1 (0 : Int) (15 : Int)) fun y3 => if (!y3) = true then (some (((0 : Int), ((0 : Int), (([] : List D55), ()))), (1 : Int))) else (if (List.length ([] : List D55) + List.length a0.2.2.1) * 208 ≤ maxB then (Option.bind (f14_l1 a0 a1 (big) (0 : Int) a0.2.2.1) fun (o6 : List D55) => some ((a0.1, (a0.2.1, (o6, a0.2.2.2))), (0 : Int))) else none))

set_option maxRecDepth 100000 in
theorem x14 (a0 : D23) (a1 : Int) (r : D23 × Int) (h : f14 a0 a1 = some r) : Fc Tryd.prog gl 14 [(.val T23 a0), (.val (.int .i64) a1)] (hset (List.replicate 96 none) []) (.ret (.tup (.cons (.val T23 r.1) (.cons (.val (.int .i64) r.2) .nil)))) (outH 96 []) := by
  refine Fc.of Tryd.call14 (FnEx.of_runF tied Tryd.func14 rfl rfl (σ0 := mkSt 56 96 [(0, (.val T23 a0)), (1, (.val (.int .i64) a1))] []) (by kernel_rfl) ?_)
  unfold f14 at h
  refine Run.sreg tied [] [] [] [] (by kernel_rfl) trivial ?_
  obtain ⟨y1, hy2, h⟩ := bind_some h
  refine Run.sreg tied [⟨(.val (.int .i64) y1), [], [], [], 71⟩] [] [] [Fc Tryd.prog gl 17 [(.val T23 a0)] (hset (List.replicate 71 none) []) (.ret (.val (.int .i64) y1)) (outH 71 [])] (by kernel_rfl) ⟨x17 _ _ hy2, trivial⟩ ?_
  refine Run.seq ?_
  refine Run.sreg tied [] [] [] [] (by kernel_rfl) trivial ?_
  rcases ite_some h with ⟨hc15, h⟩ | ⟨hc15, h⟩
  · refine Run.condT (b := !decide (y1 = (0 : Int))) (by kernel_rfl) hc15 ?_
    refine Run.sreg tied [] [] [] [] (by kernel_rfl) trivial ?_
    refine Run.ret ?_
    obtain rfl := Option.some.inj h
    exact (fQ_fin [] [some T23, some (.int .i64)] (msk 96 []) (by kernel_rfl)).1
  · refine Run.condF (b := !decide (y1 = (0 : Int))) (by kernel_rfl) hc15 ?_
    refine Run.skip ?_
    change Run _ _ _ _ _
    refine Run.seq ?_
    obtain ⟨y3, hy4, h⟩ := bind_some h
    refine Run.sreg tied [⟨(.val .bool y3), [], [], [], 55⟩] [] [] [Fc Tryd.prog gl 27 [(.val (.int .i64) a1), (.val (.int .i64) (0 : Int)), (.val (.int .i64) (15 : Int))] (hset (List.replicate 55 none) []) (.ret (.val .bool y3)) (outH 55 [])] (by kernel_rfl) ⟨x27 _ _ _ _ hy4, trivial⟩ ?_
    rcases ite_some h with ⟨hc14, h⟩ | ⟨hc14, h⟩
    · refine Run.condT (b := !y3) (by kernel_rfl) hc14 ?_
      refine Run.sreg tied [] [] [] [] (by kernel_rfl) trivial ?_
      refine Run.ret ?_
      obtain rfl := Option.some.inj h
      exact (fQ_fin [] [some T23, some (.int .i64)] (msk 96 []) (by kernel_rfl)).1
    · refine Run.condF (b := !y3) (by kernel_rfl) hc14 ?_
      refine Run.skip ?_
      change Run _ _ _ _ _
      refine Run.sreg tied [] [] [] [] (by kernel_rfl) trivial ?_
      obtain ⟨hv5, h⟩ := ite_none h
      refine Run.sreg tied [] [] [] [(List.length ([] : List D55) + List.length a0.2.2.1) * 208 ≤ maxB] (by kernel_rfl) ⟨hv5, trivial⟩ ?_
      obtain ⟨o6, h1, h⟩ := bind_some h
      refine Run.seqJ (fun σ' => σ' = mkSt 56 96 [(4, (.ptr 20 [])), (7, (.ptr 23 []))] [(20, some (.var T23 (.cons (.val (.int .i64) (0 : Int)) (.cons (.val (.int .i64) (0 : Int)) (.cons .nils .nil))))), (23, some (.var T23 (.cons (.val (.int .i64) a0.1) (.cons (.val (.int .i64) a0.2.1) (.cons (.own 39) (.val .unit a0.2.2.2)))))), (39, some (.row 55 208 T55 o6))]) ?_ ?_
      · refine Run.sreg tied [] [] [] [] (by kernel_rfl) trivial ?_
        refine Run.block ?_
        refine Run.loopJ (fun n σ => ∃ (u1_0 : Int) (u1_1 : List D55), f14_l1 a0 a1 n u1_0 u1_1 = some o6 ∧ σ = mkSt 56 96 [(1, (.val (.int .i64) a1)), (4, (.ptr 20 [])), (7, (.ptr 23 [])), (8, (.val (.int .i64) u1_0))] [(20, some (.var T23 (.cons (.val (.int .i64) (0 : Int)) (.cons (.val (.int .i64) (0 : Int)) (.cons .nils .nil))))), (23, some (.var T23 (.cons (.val (.int .i64) a0.1) (.cons (.val (.int .i64) a0.2.1) (.cons (.own 39) (.val .unit a0.2.2.2)))))), (39, some (.row 55 208 T55 u1_1))]) [.keep [1, 4, 7, 8] [20, 23, 39]] (by kernel_rfl) ⟨_, _, h1, rfl⟩ ?_
        rintro n1 _ ⟨u1_0, u1_1, h6, rfl⟩
        cases n1 with
        | zero => exact absurd h6 (by simp [f14_l1])
        | succ n1 =>
          unfold f14_l1 at h6
          refine Run.seq ?_
          refine Run.sreg tied [] [] [] [] (by kernel_rfl) trivial ?_
          rcases ite_some h6 with ⟨hc13, h6⟩ | ⟨hc13, h6⟩
          · refine Run.condT (b := decide (u1_0 < (List.length u1_1 : Int))) (by kernel_rfl) hc13 ?_
            refine Run.skip ?_
            change Run _ _ _ _ _
            obtain ⟨o7, h7, h6⟩ := bind_some h6
            refine Run.seqJ (fun σ' => σ' = mkSt 56 96 [(1, (.val (.int .i64) a1)), (4, (.ptr 20 [])), (7, (.ptr 23 [])), (8, (.val (.int .i64) u1_0))] [(20, some (.var T23 (.cons (.val (.int .i64) (0 : Int)) (.cons (.val (.int .i64) (0 : Int)) (.cons .nils .nil))))), (23, some (.var T23 (.cons (.val (.int .i64) a0.1) (.cons (.val (.int .i64) a0.2.1) (.cons (.own 39) (.val .unit a0.2.2.2)))))), (39, some (.row 55 208 T55 o7))]) ?_ ?_
            · refine Run.block ?_
              obtain ⟨o8, h9, h7⟩ := bind_some h7
              refine Run.seqJ (fun σ' => σ' = mkSt 56 96 [(1, (.val (.int .i64) a1)), (4, (.ptr 20 [])), (7, (.ptr 23 [])), (8, (.val (.int .i64) u1_0)), (49, (.val .bool o8))] [(20, some (.var T23 (.cons (.val (.int .i64) (0 : Int)) (.cons (.val (.int .i64) (0 : Int)) (.cons .nils .nil))))), (23, some (.var T23 (.cons (.val (.int .i64) a0.1) (.cons (.val (.int .i64) a0.2.1) (.cons (.own 39) (.val .unit a0.2.2.2)))))), (39, some (.row 55 208 T55 u1_1))]) ?_ ?_
              · obtain ⟨hv9, h9⟩ := ite_none h9
                rcases ite_some h9 with ⟨hg10, h9⟩ | ⟨hg10, h9⟩
                · refine Run.reg tied [] [true] [] [0 ≤ u1_0, u1_0 < (List.length u1_1 : Int), (decide ((((((nth T55 u1_1 u1_0).2).2).2).1) = (0 : Int))) = true, 0 ≤ u1_0, u1_0 < (List.length u1_1 : Int)] (by kernel_rfl) ⟨hv9.1, hv9.2, hg10, hv9.1, hv9.2, trivial⟩ ?_
                  obtain rfl := Option.some.inj h9
                  exact jQ.mk [.keep [1, 4, 7, 8, 49] [20, 23, 39]] (by kernel_rfl) rfl
                · refine Run.reg tied [] [false] [] [0 ≤ u1_0, u1_0 < (List.length u1_1 : Int), (decide ((((((nth T55 u1_1 u1_0).2).2).2).1) = (0 : Int))) = false] (by kernel_rfl) ⟨hv9.1, hv9.2, hg10, trivial⟩ ?_
                  obtain rfl := Option.some.inj h9
                  exact jQ.mk [.keep [1, 4, 7, 8, 49] [20, 23, 39]] (by kernel_rfl) rfl
              · rintro _ rfl
                rcases ite_some h7 with ⟨hc12, h7⟩ | ⟨hc12, h7⟩
                · refine Run.condT (b := o8) (by kernel_rfl) hc12 ?_
                  obtain ⟨hv11, h7⟩ := ite_none h7
                  refine Run.reg tied [] [] [] [0 ≤ u1_0, u1_0 < (List.length u1_1 : Int)] (by kernel_rfl) ⟨hv11.1, hv11.2, trivial⟩ ?_
                  refine bN ?_
                  obtain rfl := Option.some.inj h7
                  exact jQ.mk [.keep [1, 4, 7, 8] [20, 23, 39]] (by kernel_rfl) rfl
                · refine Run.condF (b := o8) (by kernel_rfl) hc12 ?_
                  refine Run.skip ?_
                  refine bN ?_
                  obtain rfl := Option.some.inj h7
                  exact jQ.mk [.keep [1, 4, 7, 8] [20, 23, 39]] (by kernel_rfl) rfl
            · rintro _ rfl
              refine Run.reg tied [] [] [] [] (by kernel_rfl) trivial ?_
              exact loopJ.mk [.keep [1, 4, 7, 8] [20, 23, 39]] (by kernel_rfl) ⟨_, _, h6, rfl⟩
          · refine Run.condF (b := decide (u1_0 < (List.length u1_1 : Int))) (by kernel_rfl) hc13 ?_
            refine Run.exit ?_
            refine tE ?_
            refine lE ?_
            refine bE ?_
            obtain rfl := Option.some.inj h6
            exact jQ.mk [.keep [4, 7] [20, 23, 39]] (by kernel_rfl) rfl
      · rintro _ rfl
        refine Run.sreg tied [] [] [] [] (by kernel_rfl) trivial ?_
        refine Run.ret ?_
        obtain rfl := Option.some.inj h
        exact (fQ_fin [.freeze 39 (.slice 208 T55)] [some T23, some (.int .i64)] (msk 96 []) (by kernel_rfl)).1

/-- testamur.testamurref19.sameInts -/
def f51_l1 (a0 : List Int) (a1 : List Int) : Nat → Int → Option (Ctl Unit Bool)
  | 0, _ => none
  | n1 + 1, u1_0 => if (decide (u1_0 < (List.length a0 : Int))) = true then (if 0 ≤ u1_0 ∧ u1_0 < (List.length a0 : Int) then (if u1_0 < (List.length a1 : Int) then (if (!decide ((nth (.int .i64) a0 u1_0) = (nth (.int .i64) a1 u1_0))) = true then (some (.ret false)) else (f51_l1 a0 a1 n1 (w64 (u1_0 + (1 : Int))))) else none) else none) else (some (.brk ()))

def f51 (a0 : List Int) (a1 : List Int) : Option Bool :=
  if (!decide ((List.length a0 : Int) = (List.length a1 : Int))) = true then (some false) else (Option.bind (f51_l1 a0 a1 (big) (0 : Int)) fun (o1 : Ctl Unit Bool) => match o1 with | .brk _v6 => (some true) | .ret r7 => (some r7))

set_option maxRecDepth 100000 in
theorem x51 (a0 : List Int) (a1 : List Int) (r : Bool) (h : f51 a0 a1 = some r) : Fc Tryd.prog gl 51 [(.val (.slice 8 (.int .i64)) a0), (.val (.slice 8 (.int .i64)) a1)] (hset (List.replicate 66 none) []) (.ret (.val .bool r)) (outH 66 []) := by
  refine Fc.of Tryd.call51 (FnEx.of_runF tied Tryd.func51 rfl rfl (σ0 := mkSt 26 66 [(0, (.val (.slice 8 (.int .i64)) a0)), (1, (.val (.slice 8 (.int .i64)) a1))] []) (by kernel_rfl) ?_)
  unfold f51 at h
  refine Run.sreg tied [] [] [] [] (by kernel_rfl) trivial ?_
  refine Run.seq ?_
  refine Run.sreg tied [] [] [] [] (by kernel_rfl) trivial ?_
  rcases ite_some h with ⟨hc8, h⟩ | ⟨hc8, h⟩
  · refine Run.condT (b := !decide ((List.length a0 : Int) = (List.length a1 : Int))) (by kernel_rfl) hc8 ?_
    refine Run.sreg tied [] [] [] [] (by kernel_rfl) trivial ?_
    refine Run.ret ?_
    obtain rfl := Option.some.inj h
    exact (fQ_fin [] [some .bool] (msk 66 []) (by kernel_rfl)).1
  · refine Run.condF (b := !decide ((List.length a0 : Int) = (List.length a1 : Int))) (by kernel_rfl) hc8 ?_
    refine Run.skip ?_
    change Run _ _ _ _ _
    obtain ⟨o1, h1, h⟩ := bind_some h
    refine Run.seqJ (fun σ' => ∃ v6, o1 = .brk v6 ∧ σ' = mkSt 26 66 [] []) ?_ ?_
    · refine Run.sreg tied [] [] [] [] (by kernel_rfl) trivial ?_
      refine Run.block ?_
      refine Run.loopJ (fun n σ => ∃ (u1_0 : Int), f51_l1 a0 a1 n u1_0 = some o1 ∧ σ = mkSt 26 66 [(0, (.val (.slice 8 (.int .i64)) a0)), (1, (.val (.slice 8 (.int .i64)) a1)), (5, (.val (.int .i64) u1_0))] []) [.keep [0, 1, 5] []] (by kernel_rfl) ⟨_, h1, rfl⟩ ?_
      rintro n1 _ ⟨u1_0, h3, rfl⟩
      cases n1 with
      | zero => exact absurd h3 (by simp [f51_l1])
      | succ n1 =>
        unfold f51_l1 at h3
        refine Run.seq ?_
        refine Run.sreg tied [] [] [] [] (by kernel_rfl) trivial ?_
        rcases ite_some h3 with ⟨hc5, h3⟩ | ⟨hc5, h3⟩
        · refine Run.condT (b := decide (u1_0 < (List.length a0 : Int))) (by kernel_rfl) hc5 ?_
          refine Run.skip ?_
          change Run _ _ _ _ _
          refine Run.seq ?_
          refine Run.block ?_
          obtain ⟨hv2, h3⟩ := ite_none h3
          obtain ⟨hv3, h3⟩ := ite_none h3
          refine Run.sregA tied [] [] [] [0 ≤ u1_0, u1_0 < (List.length a0 : Int), 0 ≤ u1_0, u1_0 < (List.length a1 : Int)] (by kernel_rfl) ⟨hv2.1, hv2.2, hv2.1, hv3, trivial⟩ ?_
          rcases ite_some h3 with ⟨hc4, h3⟩ | ⟨hc4, h3⟩
          · refine Run.condT (b := !decide ((nth (.int .i64) a0 u1_0) = (nth (.int .i64) a1 u1_0))) (by kernel_rfl) hc4 ?_
            refine Run.sreg tied [] [] [] [] (by kernel_rfl) trivial ?_
            refine Run.ret ?_
            obtain rfl := Option.some.inj h3
            dsimp only at h
            obtain rfl := Option.some.inj h
            exact (fQ_fin [] [some .bool] (msk 66 []) (by kernel_rfl)).1
          · refine Run.condF (b := !decide ((nth (.int .i64) a0 u1_0) = (nth (.int .i64) a1 u1_0))) (by kernel_rfl) hc4 ?_
            refine Run.skip ?_
            refine bN ?_
            change Run _ _ _ _ _
            refine Run.reg tied [] [] [] [] (by kernel_rfl) trivial ?_
            exact loopJ.mk [.keep [0, 1, 5] []] (by kernel_rfl) ⟨_, h3, rfl⟩
        · refine Run.condF (b := decide (u1_0 < (List.length a0 : Int))) (by kernel_rfl) hc5 ?_
          refine Run.exit ?_
          refine tE ?_
          refine lE ?_
          refine bE ?_
          obtain rfl := Option.some.inj h3
          exact jQ.mk [.keep [] []] (by kernel_rfl) ⟨_, rfl, rfl⟩
    · rintro _ ⟨v6, rfl, rfl⟩
      dsimp only at h
      refine Run.sreg tied [] [] [] [] (by kernel_rfl) trivial ?_
      refine Run.ret ?_
      obtain rfl := Option.some.inj h
      exact (fQ_fin [] [some .bool] (msk 66 []) (by kernel_rfl)).1

/-- testamur.testamurref06.Same -/
def f59 (a0 : D81) (a1 : D81) : Option Bool :=
  Option.bind (if (decide (a0.1 = a1.1)) = true then (Option.bind (f43 a0.2.1 a1.2.1) fun y3 => if y3 = true then (Option.bind (f43 a0.2.2.1 a1.2.2.1) fun y6 => some y6) else (some false)) else (some false)) fun (o1 : Bool) => some o1

set_option maxRecDepth 100000 in
theorem x59 (a0 : D81) (a1 : D81) (r : Bool) (h : f59 a0 a1 = some r) : Fc Tryd.prog gl 59 [(.val T81 a0), (.val T81 a1)] (hset (List.replicate 64 none) []) (.ret (.val .bool r)) (outH 64 []) := by
  refine Fc.of Tryd.call59 (FnEx.of_runF tied Tryd.func59 rfl rfl (σ0 := mkSt 24 64 [(0, (.val T81 a0)), (1, (.val T81 a1))] []) (by kernel_rfl) ?_)
  unfold f59 at h
  refine Run.sreg tied [] [] [] [] (by kernel_rfl) trivial ?_
  obtain ⟨o1, h1, h⟩ := bind_some h
  refine Run.seqJ (fun σ' => σ' = mkSt 24 64 [(4, (.val .bool o1))] []) ?_ ?_
  · rcases ite_some h1 with ⟨hg2, h1⟩ | ⟨hg2, h1⟩
    · obtain ⟨y3, hy4, h1⟩ := bind_some h1
      rcases ite_some h1 with ⟨hg5, h1⟩ | ⟨hg5, h1⟩
      · obtain ⟨y6, hy7, h1⟩ := bind_some h1
        refine Run.reg tied [⟨(.val .bool y3), [], [], [], 66⟩, ⟨(.val .bool y6), [], [], [], 66⟩] [true, true] [] [(decide (a0.1 = a1.1)) = true, Fc Tryd.prog gl 43 [(.val (.slice 32 T44) a0.2.1), (.val (.slice 32 T44) a1.2.1)] (hset (List.replicate 66 none) []) (.ret (.val .bool y3)) (outH 66 []), y3 = true, Fc Tryd.prog gl 43 [(.val (.slice 32 T44) a0.2.2.1), (.val (.slice 32 T44) a1.2.2.1)] (hset (List.replicate 66 none) []) (.ret (.val .bool y6)) (outH 66 [])] (by kernel_rfl) ⟨hg2, x43 _ _ _ hy4, hg5, x43 _ _ _ hy7, trivial⟩ ?_
        obtain rfl := Option.some.inj h1
        exact jQ.mk [.keep [4] []] (by kernel_rfl) rfl
      · refine Run.reg tied [⟨(.val .bool y3), [], [], [], 66⟩] [true, false] [] [(decide (a0.1 = a1.1)) = true, Fc Tryd.prog gl 43 [(.val (.slice 32 T44) a0.2.1), (.val (.slice 32 T44) a1.2.1)] (hset (List.replicate 66 none) []) (.ret (.val .bool y3)) (outH 66 []), y3 = false] (by kernel_rfl) ⟨hg2, x43 _ _ _ hy4, hg5, trivial⟩ ?_
        obtain rfl := Option.some.inj h1
        exact jQ.mk [.keep [4] []] (by kernel_rfl) rfl
    · refine Run.reg tied [] [false, false] [] [(decide (a0.1 = a1.1)) = false, false = false] (by kernel_rfl) ⟨hg2, rfl, trivial⟩ ?_
      obtain rfl := Option.some.inj h1
      exact jQ.mk [.keep [4] []] (by kernel_rfl) rfl
  · rintro _ rfl
    refine Run.ret ?_
    obtain rfl := Option.some.inj h
    exact (fQ_fin [] [some .bool] (msk 64 []) (by kernel_rfl)).1

/-- testamur.testamurref19.sameLeaves -/
def f52_l1 (a0 : List D81) (a1 : List D81) : Nat → Int → Option (Ctl Unit Bool)
  | 0, _ => none
  | n1 + 1, u1_0 => if (decide (u1_0 < (List.length a0 : Int))) = true then (if 0 ≤ u1_0 ∧ u1_0 < (List.length a0 : Int) then (if u1_0 < (List.length a1 : Int) then (Option.bind (f59 (nth T81 a0 u1_0) (nth T81 a1 u1_0)) fun y4 => if (!y4) = true then (some (.ret false)) else (f52_l1 a0 a1 n1 (w64 (u1_0 + (1 : Int))))) else none) else none) else (some (.brk ()))

def f52 (a0 : List D81) (a1 : List D81) : Option Bool :=
  if (!decide ((List.length a0 : Int) = (List.length a1 : Int))) = true then (some false) else (Option.bind (f52_l1 a0 a1 (big) (0 : Int)) fun (o1 : Ctl Unit Bool) => match o1 with | .brk _v8 => (some true) | .ret r9 => (some r9))

set_option maxRecDepth 100000 in
theorem x52 (a0 : List D81) (a1 : List D81) (r : Bool) (h : f52 a0 a1 = some r) : Fc Tryd.prog gl 52 [(.val (.slice 56 T81) a0), (.val (.slice 56 T81) a1)] (hset (List.replicate 67 none) []) (.ret (.val .bool r)) (outH 67 []) := by
  refine Fc.of Tryd.call52 (FnEx.of_runF tied Tryd.func52 rfl rfl (σ0 := mkSt 27 67 [(0, (.val (.slice 56 T81) a0)), (1, (.val (.slice 56 T81) a1))] []) (by kernel_rfl) ?_)
  unfold f52 at h
  refine Run.sreg tied [] [] [] [] (by kernel_rfl) trivial ?_
  refine Run.seq ?_
  refine Run.sreg tied [] [] [] [] (by kernel_rfl) trivial ?_
  rcases ite_some h with ⟨hc10, h⟩ | ⟨hc10, h⟩
  · refine Run.condT (b := !decide ((List.length a0 : Int) = (List.length a1 : Int))) (by kernel_rfl) hc10 ?_
    refine Run.sreg tied [] [] [] [] (by kernel_rfl) trivial ?_
    refine Run.ret ?_
    obtain rfl := Option.some.inj h
    exact (fQ_fin [] [some .bool] (msk 67 []) (by kernel_rfl)).1
  · refine Run.condF (b := !decide ((List.length a0 : Int) = (List.length a1 : Int))) (by kernel_rfl) hc10 ?_
    refine Run.skip ?_
    change Run _ _ _ _ _
    obtain ⟨o1, h1, h⟩ := bind_some h
    refine Run.seqJ (fun σ' => ∃ v8, o1 = .brk v8 ∧ σ' = mkSt 27 67 [] []) ?_ ?_
    · refine Run.sreg tied [] [] [] [] (by kernel_rfl) trivial ?_
      refine Run.block ?_
      refine Run.loopJ (fun n σ => ∃ (u1_0 : Int), f52_l1 a0 a1 n u1_0 = some o1 ∧ σ = mkSt 27 67 [(0, (.val (.slice 56 T81) a0)), (1, (.val (.slice 56 T81) a1)), (5, (.val (.int .i64) u1_0))] []) [.keep [0, 1, 5] []] (by kernel_rfl) ⟨_, h1, rfl⟩ ?_
      rintro n1 _ ⟨u1_0, h3, rfl⟩
      cases n1 with
      | zero => exact absurd h3 (by simp [f52_l1])
      | succ n1 =>
        unfold f52_l1 at h3
        refine Run.seq ?_
        refine Run.sreg tied [] [] [] [] (by kernel_rfl) trivial ?_
        rcases ite_some h3 with ⟨hc7, h3⟩ | ⟨hc7, h3⟩
        · refine Run.condT (b := decide (u1_0 < (List.length a0 : Int))) (by kernel_rfl) hc7 ?_
          refine Run.skip ?_
          change Run _ _ _ _ _
          refine Run.seq ?_
          refine Run.block ?_
          obtain ⟨hv2, h3⟩ := ite_none h3
          obtain ⟨hv3, h3⟩ := ite_none h3
          obtain ⟨y4, hy5, h3⟩ := bind_some h3
          refine Run.sregA tied [⟨(.val .bool y4), [], [], [], 64⟩] [] [] [0 ≤ u1_0, u1_0 < (List.length a0 : Int), 0 ≤ u1_0, u1_0 < (List.length a1 : Int), Fc Tryd.prog gl 59 [(.val T81 (nth T81 a0 u1_0)), (.val T81 (nth T81 a1 u1_0))] (hset (List.replicate 64 none) []) (.ret (.val .bool y4)) (outH 64 [])] (by kernel_rfl) ⟨hv2.1, hv2.2, hv2.1, hv3, x59 _ _ _ hy5, trivial⟩ ?_
          rcases ite_some h3 with ⟨hc6, h3⟩ | ⟨hc6, h3⟩
          · refine Run.condT (b := !y4) (by kernel_rfl) hc6 ?_
            refine Run.sreg tied [] [] [] [] (by kernel_rfl) trivial ?_
            refine Run.ret ?_
            obtain rfl := Option.some.inj h3
            dsimp only at h
            obtain rfl := Option.some.inj h
            exact (fQ_fin [] [some .bool] (msk 67 []) (by kernel_rfl)).1
          · refine Run.condF (b := !y4) (by kernel_rfl) hc6 ?_
            refine Run.skip ?_
            refine bN ?_
            change Run _ _ _ _ _
            refine Run.reg tied [] [] [] [] (by kernel_rfl) trivial ?_
            exact loopJ.mk [.keep [0, 1, 5] []] (by kernel_rfl) ⟨_, h3, rfl⟩
        · refine Run.condF (b := decide (u1_0 < (List.length a0 : Int))) (by kernel_rfl) hc7 ?_
          refine Run.exit ?_
          refine tE ?_
          refine lE ?_
          refine bE ?_
          obtain rfl := Option.some.inj h3
          exact jQ.mk [.keep [] []] (by kernel_rfl) ⟨_, rfl, rfl⟩
    · rintro _ ⟨v8, rfl, rfl⟩
      dsimp only at h
      refine Run.sreg tied [] [] [] [] (by kernel_rfl) trivial ?_
      refine Run.ret ?_
      obtain rfl := Option.some.inj h
      exact (fQ_fin [] [some .bool] (msk 67 []) (by kernel_rfl)).1

end Go.Proofs.YtnhfefbbdfmniaaDoor
