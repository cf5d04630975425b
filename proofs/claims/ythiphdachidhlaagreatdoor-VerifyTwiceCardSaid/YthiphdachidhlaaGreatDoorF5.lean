/- Made by program (dec.py): walks -/
import Derived.Test.YthiphdachidhlaaGreatDoorF4
namespace Go.Proofs.YthiphdachidhlaaGreatDoor
open Go.Abs

/-- testamur.testamurlaw28.VerifyTwice -/
def f3_l2 (a0 : List D33) (y5 : Int × Int × Bool) (u1_0 : Int) (u1_1 : List (D35 × Int)) : Nat → Int → Int → Option Int
  | 0, _, _ => none
  | n2 + 1, u2_0, u2_1 => if (decide (u2_1 < (List.length ((((((nth T33 a0 u1_0).2).2).2).2).1) : Int))) = true then (Option.bind (if 0 ≤ u2_1 ∧ u2_1 < (List.length ((((((nth T33 a0 u1_0).2).2).2).2).1) : Int) then (Option.bind (if (mhas T35 (nth T35 ((((((nth T33 a0 u1_0).2).2).2).2).1) u2_1) u1_1) = true then (if (decide (u2_0 < (0 : Int))) = true then (some true) else (some (decide ((mget T35 (.int .i64) (nth T35 ((((((nth T33 a0 u1_0).2).2).2).2).1) u2_1) u1_1) < u2_0)))) else (some false)) fun (o13 : Bool) => if o13 = true then (some (mget T35 (.int .i64) (nth T35 ((((((nth T33 a0 u1_0).2).2).2).2).1) u2_1) u1_1)) else (some u2_0)) else none) fun (o11 : Int) => f3_l2 a0 y5 u1_0 u1_1 n2 o11 (w64 (u2_1 + (1 : Int)))) else (some u2_0)

def f3_l3 (a0 : List D33) (y5 : Int × Int × Bool) (u1_0 : Int) : Nat → Int → (List (D35 × Int)) → Option (List (D35 × Int))
  | 0, _, _ => none
  | n3 + 1, u3_0, u3_1 => if (decide (u3_0 < (List.length ((((((nth T33 a0 u1_0).2).2).2).2).1) : Int))) = true then (if 0 ≤ u3_0 ∧ u3_0 < (List.length ((((((nth T33 a0 u1_0).2).2).2).2).1) : Int) then (if List.length u3_1 + 1 ≤ maxB then (f3_l3 a0 y5 u1_0 n3 (w64 (u3_0 + (1 : Int))) (mset T35 (nth T35 ((((((nth T33 a0 u1_0).2).2).2).2).1) u3_0) u1_0 u3_1)) else none) else none) else (some u3_1)

def f3_l1 (a0 : List D33) (y5 : Int × Int × Bool) : Nat → Int → (List (D35 × Int)) → Option (Ctl Unit Bool)
  | 0, _, _ => none
  | n1 + 1, u1_0, u1_1 => if (decide (u1_0 < (List.length a0 : Int))) = true then (Option.bind (if 0 ≤ u1_0 ∧ u1_0 < (List.length a0 : Int) then (Option.bind (f3_l2 a0 y5 u1_0 u1_1 (List.length ((((((nth T33 a0 u1_0).2).2).2).2).1) + 1) (-1 : Int) (0 : Int)) fun (o10 : Int) => if (decide ((0 : Int) ≤ o10)) = true then (Option.bind (if y5.2.2 = true then (if (decide (y5.2.1 = u1_0)) = true then (some (decide (y5.1 = o10))) else (some false)) else (some false)) fun (o18 : Bool) => some (.ret o18)) else (Option.bind (f3_l3 a0 y5 u1_0 (List.length ((((((nth T33 a0 u1_0).2).2).2).2).1) + 1) (0 : Int) u1_1) fun (o21 : List (D35 × Int)) => some (.brk o21))) else none) fun (o8 : Ctl (List (D35 × Int)) Bool) => match o8 with | .brk v26 => (f3_l1 a0 y5 n1 (w64 (u1_0 + (1 : Int))) v26) | .ret r27 => (some (.ret r27))) else (some (.brk ()))

def f3 (a0 : List D33) : Option Bool :=
  Option.bind (f4) fun y1 => if (!y1) = true then (some false) else (Option.bind (f5 a0) fun y3 => if (!y3) = true then (some true) else (Option.bind (f6 a0) fun y5 => Option.bind (f3_l1 a0 y5 (List.length a0 + 1) (0 : Int) ([] : List (D35 × Int))) fun (o7 : Ctl Unit Bool) => match o7 with | .brk _v29 => (Option.bind (if (!y5.2.2) = true then (if (decide (y5.1 = (0 : Int))) = true then (some (decide (y5.2.1 = (0 : Int)))) else (some false)) else (some false)) fun (o30 : Bool) => some o30) | .ret r33 => (some r33)))

set_option maxRecDepth 100000 in
theorem x3 (a0 : List D33) (r : Bool) (h : f3 a0 = some r) : Fc Tryz.prog gl 3 [(.val (.slice 96 T33) a0)] (hset (List.replicate 135 none) []) (.ret (.val .bool r)) (outH 135 []) := by
  refine Fc.of Tryz.call3 (FnEx.of_runF tied Tryz.func3 rfl rfl (σ0 := mkSt 95 135 [(0, (.val (.slice 96 T33) a0))] []) (by kernel_rfl) ?_)
  unfold f3 at h
  refine Run.sreg tied [] [] [] [] (by kernel_rfl) trivial ?_
  refine Run.seq ?_
  obtain ⟨y1, hy2, h⟩ := bind_some h
  refine Run.sreg tied [⟨(.val .bool y1), [], [], [], 166⟩] [] [] [Fc Tryz.prog gl 4 [] (hset (List.replicate 166 none) []) (.ret (.val .bool y1)) (outH 166 [])] (by kernel_rfl) ⟨x4  _ hy2, trivial⟩ ?_
  rcases ite_some h with ⟨hc35, h⟩ | ⟨hc35, h⟩
  · refine Run.condT (b := !y1) (by kernel_rfl) hc35 ?_
    refine Run.sreg tied [] [] [] [] (by kernel_rfl) trivial ?_
    refine Run.ret ?_
    obtain rfl := Option.some.inj h
    exact (fQ_fin [] [some .bool] (msk 135 []) (by kernel_rfl)).1
  · refine Run.condF (b := !y1) (by kernel_rfl) hc35 ?_
    refine Run.skip ?_
    change Run _ _ _ _ _
    refine Run.seq ?_
    obtain ⟨y3, hy4, h⟩ := bind_some h
    refine Run.sreg tied [⟨(.val .bool y3), [], [], [], 69⟩] [] [] [Fc Tryz.prog gl 5 [(.val (.slice 96 T33) a0)] (hset (List.replicate 69 none) []) (.ret (.val .bool y3)) (outH 69 [])] (by kernel_rfl) ⟨x5 _ _ hy4, trivial⟩ ?_
    rcases ite_some h with ⟨hc34, h⟩ | ⟨hc34, h⟩
    · refine Run.condT (b := !y3) (by kernel_rfl) hc34 ?_
      refine Run.sreg tied [] [] [] [] (by kernel_rfl) trivial ?_
      refine Run.ret ?_
      obtain rfl := Option.some.inj h
      exact (fQ_fin [] [some .bool] (msk 135 []) (by kernel_rfl)).1
    · refine Run.condF (b := !y3) (by kernel_rfl) hc34 ?_
      refine Run.skip ?_
      change Run _ _ _ _ _
      obtain ⟨y5, hy6, h⟩ := bind_some h
      refine Run.sreg tied [⟨(.tup (.cons (.val (.int .i64) y5.1) (.cons (.val (.int .i64) y5.2.1) (.cons (.val .bool y5.2.2) .nil)))), [], [], [], 89⟩] [] [] [Fc Tryz.prog gl 6 [(.val (.slice 96 T33) a0)] (hset (List.replicate 89 none) []) (.ret (.tup (.cons (.val (.int .i64) y5.1) (.cons (.val (.int .i64) y5.2.1) (.cons (.val .bool y5.2.2) .nil))))) (outH 89 [])] (by kernel_rfl) ⟨x6 _ _ hy6, trivial⟩ ?_
      refine Run.sreg tied [] [] [] [] (by kernel_rfl) trivial ?_
      obtain ⟨o7, h1, h⟩ := bind_some h
      refine Run.seqJ (fun σ' => ∃ v29, o7 = .brk v29 ∧ σ' = mkSt 95 135 [(3, (.val (.int .i64) y5.1)), (4, (.val (.int .i64) y5.2.1)), (5, (.val .bool y5.2.2))] []) ?_ ?_
      · refine Run.sreg tied [] [] [] [] (by kernel_rfl) trivial ?_
        refine Run.block ?_
        refine Run.loopJ (fun n σ => ∃ (u1_0 : Int) (u1_1 : List (D35 × Int)), f3_l1 a0 y5 n u1_0 u1_1 = some o7 ∧ σ = mkSt 95 135 [(3, (.val (.int .i64) y5.1)), (4, (.val (.int .i64) y5.2.1)), (5, (.val .bool y5.2.2)), (6, (.mp 43)), (28, (.val (.slice 96 T33) a0)), (29, (.val (.int .i64) (List.length a0 : Int))), (30, (.val (.int .i64) u1_0))] [(43, some (.map T35 (.int .i64) u1_1))]) [.keep [3, 4, 5, 6, 28, 29, 30] [43]] (by kernel_rfl) ⟨_, _, h1, rfl⟩ ?_
        rintro n1 _ ⟨u1_0, u1_1, h30, rfl⟩
        cases n1 with
        | zero => exact absurd h30 (by simp [f3_l1])
        | succ n1 =>
          unfold f3_l1 at h30
          refine Run.sreg tied [] [] [] [] (by kernel_rfl) trivial ?_
          refine Run.seq ?_
          rcases ite_some h30 with ⟨hc28, h30⟩ | ⟨hc28, h30⟩
          · refine Run.condT (b := decide (u1_0 < (List.length a0 : Int))) (by kernel_rfl) hc28 ?_
            refine Run.skip ?_
            change Run _ _ _ _ _
            obtain ⟨o8, h31, h30⟩ := bind_some h30
            refine Run.seqJ (fun σ' => ∃ v26, o8 = .brk v26 ∧ σ' = mkSt 95 135 [(3, (.val (.int .i64) y5.1)), (4, (.val (.int .i64) y5.2.1)), (5, (.val .bool y5.2.2)), (6, (.mp 43)), (28, (.val (.slice 96 T33) a0)), (29, (.val (.int .i64) (List.length a0 : Int))), (30, (.val (.int .i64) u1_0))] [(43, some (.map T35 (.int .i64) v26))]) ?_ ?_
            · refine Run.block ?_
              obtain ⟨hv9, h31⟩ := ite_none h31
              refine Run.sreg tied [] [] [] [0 ≤ u1_0, u1_0 < (List.length a0 : Int)] (by kernel_rfl) ⟨hv9.1, hv9.2, trivial⟩ ?_
              refine Run.sreg tied [] [] [] [] (by kernel_rfl) trivial ?_
              obtain ⟨o10, h45, h31⟩ := bind_some h31
              refine Run.seqJ (fun σ' => σ' = mkSt 95 135 [(3, (.val (.int .i64) y5.1)), (4, (.val (.int .i64) y5.2.1)), (5, (.val .bool y5.2.2)), (6, (.mp 43)), (7, (.val (.int .i64) u1_0)), (8, (.ptr 24 [])), (9, (.val (.int .i64) o10)), (28, (.val (.slice 96 T33) a0)), (29, (.val (.int .i64) (List.length a0 : Int))), (30, (.val (.int .i64) u1_0))] [(24, some (.var T33 (.val T33 (nth T33 a0 u1_0)))), (43, some (.map T35 (.int .i64) u1_1))]) ?_ ?_
              · refine Run.sreg tied [] [] [] [] (by kernel_rfl) trivial ?_
                refine Run.block ?_
                refine Run.loopJ (fun n σ => ∃ (u2_0 : Int) (u2_1 : Int), f3_l2 a0 y5 u1_0 u1_1 n u2_0 u2_1 = some o10 ∧ σ = mkSt 95 135 [(3, (.val (.int .i64) y5.1)), (4, (.val (.int .i64) y5.2.1)), (5, (.val .bool y5.2.2)), (6, (.mp 43)), (7, (.val (.int .i64) u1_0)), (8, (.ptr 24 [])), (9, (.val (.int .i64) u2_0)), (28, (.val (.slice 96 T33) a0)), (29, (.val (.int .i64) (List.length a0 : Int))), (30, (.val (.int .i64) u1_0)), (36, (.val (.slice 16 T35) ((((((nth T33 a0 u1_0).2).2).2).2).1))), (37, (.val (.int .i64) (List.length ((((((nth T33 a0 u1_0).2).2).2).2).1) : Int))), (38, (.val (.int .i64) u2_1))] [(24, some (.var T33 (.val T33 (nth T33 a0 u1_0)))), (43, some (.map T35 (.int .i64) u1_1))]) [.keep [3, 4, 5, 6, 7, 8, 9, 28, 29, 30, 36, 37, 38] [24, 43]] (by kernel_rfl) ⟨_, _, h45, rfl⟩ ?_
                rintro n2 _ ⟨u2_0, u2_1, h50, rfl⟩
                cases n2 with
                | zero => exact absurd h50 (by simp [f3_l2])
                | succ n2 =>
                  unfold f3_l2 at h50
                  refine Run.sreg tied [] [] [] [] (by kernel_rfl) trivial ?_
                  refine Run.seq ?_
                  rcases ite_some h50 with ⟨hc17, h50⟩ | ⟨hc17, h50⟩
                  · refine Run.condT (b := decide (u2_1 < (List.length ((((((nth T33 a0 u1_0).2).2).2).2).1) : Int))) (by kernel_rfl) hc17 ?_
                    refine Run.skip ?_
                    change Run _ _ _ _ _
                    obtain ⟨o11, h51, h50⟩ := bind_some h50
                    refine Run.seqJ (fun σ' => σ' = mkSt 95 135 [(3, (.val (.int .i64) y5.1)), (4, (.val (.int .i64) y5.2.1)), (5, (.val .bool y5.2.2)), (6, (.mp 43)), (7, (.val (.int .i64) u1_0)), (8, (.ptr 24 [])), (9, (.val (.int .i64) o11)), (28, (.val (.slice 96 T33) a0)), (29, (.val (.int .i64) (List.length a0 : Int))), (30, (.val (.int .i64) u1_0)), (36, (.val (.slice 16 T35) ((((((nth T33 a0 u1_0).2).2).2).2).1))), (37, (.val (.int .i64) (List.length ((((((nth T33 a0 u1_0).2).2).2).2).1) : Int))), (38, (.val (.int .i64) u2_1))] [(24, some (.var T33 (.val T33 (nth T33 a0 u1_0)))), (43, some (.map T35 (.int .i64) u1_1))]) ?_ ?_
                    · refine Run.block ?_
                      obtain ⟨hv12, h51⟩ := ite_none h51
                      refine Run.sreg tied [] [] [] [0 ≤ u2_1, u2_1 < (List.length ((((((nth T33 a0 u1_0).2).2).2).2).1) : Int)] (by kernel_rfl) ⟨hv12.1, hv12.2, trivial⟩ ?_
                      refine Run.sreg tied [] [] [] [eqOK Tryz.prog G 40 35 T35 = true] (by kernel_rfl) ⟨fact0, trivial⟩ ?_
                      obtain ⟨o13, h53, h51⟩ := bind_some h51
                      refine Run.seqJ (fun σ' => σ' = mkSt 95 135 [(3, (.val (.int .i64) y5.1)), (4, (.val (.int .i64) y5.2.1)), (5, (.val .bool y5.2.2)), (6, (.mp 43)), (7, (.val (.int .i64) u1_0)), (8, (.ptr 24 [])), (9, (.val (.int .i64) u2_0)), (12, (.val (.int .i64) (mget T35 (.int .i64) (nth T35 ((((((nth T33 a0 u1_0).2).2).2).2).1) u2_1) u1_1))), (28, (.val (.slice 96 T33) a0)), (29, (.val (.int .i64) (List.length a0 : Int))), (30, (.val (.int .i64) u1_0)), (36, (.val (.slice 16 T35) ((((((nth T33 a0 u1_0).2).2).2).2).1))), (37, (.val (.int .i64) (List.length ((((((nth T33 a0 u1_0).2).2).2).2).1) : Int))), (38, (.val (.int .i64) u2_1)), (57, (.val .bool o13))] [(24, some (.var T33 (.val T33 (nth T33 a0 u1_0)))), (43, some (.map T35 (.int .i64) u1_1))]) ?_ ?_
                      · rcases ite_some h53 with ⟨hg14, h53⟩ | ⟨hg14, h53⟩
                        · rcases ite_some h53 with ⟨hg15, h53⟩ | ⟨hg15, h53⟩
                          · refine Run.reg tied [] [true, true] [] [(mhas T35 (nth T35 ((((((nth T33 a0 u1_0).2).2).2).2).1) u2_1) u1_1) = true, (decide (u2_0 < (0 : Int))) = true] (by kernel_rfl) ⟨hg14, hg15, trivial⟩ ?_
                            obtain rfl := Option.some.inj h53
                            exact jQ.mk [.keep [3, 4, 5, 6, 7, 8, 9, 12, 28, 29, 30, 36, 37, 38, 57] [24, 43]] (by kernel_rfl) rfl
                          · refine Run.reg tied [] [true, false] [] [(mhas T35 (nth T35 ((((((nth T33 a0 u1_0).2).2).2).2).1) u2_1) u1_1) = true, (decide (u2_0 < (0 : Int))) = false] (by kernel_rfl) ⟨hg14, hg15, trivial⟩ ?_
                            obtain rfl := Option.some.inj h53
                            exact jQ.mk [.keep [3, 4, 5, 6, 7, 8, 9, 12, 28, 29, 30, 36, 37, 38, 57] [24, 43]] (by kernel_rfl) rfl
                        · refine Run.reg tied [] [false, false] [] [(mhas T35 (nth T35 ((((((nth T33 a0 u1_0).2).2).2).2).1) u2_1) u1_1) = false] (by kernel_rfl) ⟨hg14, trivial⟩ ?_
                          obtain rfl := Option.some.inj h53
                          exact jQ.mk [.keep [3, 4, 5, 6, 7, 8, 9, 12, 28, 29, 30, 36, 37, 38, 57] [24, 43]] (by kernel_rfl) rfl
                      · rintro _ rfl
                        rcases ite_some h51 with ⟨hc16, h51⟩ | ⟨hc16, h51⟩
                        · refine Run.condT (b := o13) (by kernel_rfl) hc16 ?_
                          refine Run.reg tied [] [] [] [] (by kernel_rfl) trivial ?_
                          refine bN ?_
                          obtain rfl := Option.some.inj h51
                          exact jQ.mk [.keep [3, 4, 5, 6, 7, 8, 9, 28, 29, 30, 36, 37, 38] [24, 43]] (by kernel_rfl) rfl
                        · refine Run.condF (b := o13) (by kernel_rfl) hc16 ?_
                          refine Run.skip ?_
                          refine bN ?_
                          obtain rfl := Option.some.inj h51
                          exact jQ.mk [.keep [3, 4, 5, 6, 7, 8, 9, 28, 29, 30, 36, 37, 38] [24, 43]] (by kernel_rfl) rfl
                    · rintro _ rfl
                      refine Run.reg tied [] [] [] [] (by kernel_rfl) trivial ?_
                      exact loopJ.mk [.keep [3, 4, 5, 6, 7, 8, 9, 28, 29, 30, 36, 37, 38] [24, 43]] (by kernel_rfl) ⟨_, _, h50, rfl⟩
                  · refine Run.condF (b := decide (u2_1 < (List.length ((((((nth T33 a0 u1_0).2).2).2).2).1) : Int))) (by kernel_rfl) hc17 ?_
                    refine Run.exit ?_
                    refine tE ?_
                    refine lE ?_
                    refine bE ?_
                    obtain rfl := Option.some.inj h50
                    exact jQ.mk [.keep [3, 4, 5, 6, 7, 8, 9, 28, 29, 30] [24, 43]] (by kernel_rfl) rfl
              · rintro _ rfl
                refine Run.seq ?_
                refine Run.sreg tied [] [] [] [] (by kernel_rfl) trivial ?_
                rcases ite_some h31 with ⟨hc25, h31⟩ | ⟨hc25, h31⟩
                · refine Run.condT (b := decide ((0 : Int) ≤ o10)) (by kernel_rfl) hc25 ?_
                  obtain ⟨o18, h54, h31⟩ := bind_some h31
                  refine Run.seqJ (fun σ' => σ' = mkSt 95 135 [(2, (.val .bool o18))] []) ?_ ?_
                  · rcases ite_some h54 with ⟨hg19, h54⟩ | ⟨hg19, h54⟩
                    · rcases ite_some h54 with ⟨hg20, h54⟩ | ⟨hg20, h54⟩
                      · refine Run.reg tied [] [true, true] [] [y5.2.2 = true, (decide (y5.2.1 = u1_0)) = true] (by kernel_rfl) ⟨hg19, hg20, trivial⟩ ?_
                        obtain rfl := Option.some.inj h54
                        exact jQ.mk [.keep [2] []] (by kernel_rfl) rfl
                      · refine Run.reg tied [] [true, false] [] [y5.2.2 = true, (decide (y5.2.1 = u1_0)) = false] (by kernel_rfl) ⟨hg19, hg20, trivial⟩ ?_
                        obtain rfl := Option.some.inj h54
                        exact jQ.mk [.keep [2] []] (by kernel_rfl) rfl
                    · refine Run.reg tied [] [false, false] [] [y5.2.2 = false, false = false] (by kernel_rfl) ⟨hg19, rfl, trivial⟩ ?_
                      obtain rfl := Option.some.inj h54
                      exact jQ.mk [.keep [2] []] (by kernel_rfl) rfl
                  · rintro _ rfl
                    refine Run.ret ?_
                    obtain rfl := Option.some.inj h31
                    dsimp only at h30
                    obtain rfl := Option.some.inj h30
                    dsimp only at h
                    obtain rfl := Option.some.inj h
                    exact (fQ_fin [] [some .bool] (msk 135 []) (by kernel_rfl)).1
                · refine Run.condF (b := decide ((0 : Int) ≤ o10)) (by kernel_rfl) hc25 ?_
                  refine Run.skip ?_
                  change Run _ _ _ _ _
                  refine Run.sreg tied [] [] [] [] (by kernel_rfl) trivial ?_
                  obtain ⟨o21, h55, h31⟩ := bind_some h31
                  refine Run.lastJ (fun σ' => σ' = mkSt 95 135 [(3, (.val (.int .i64) y5.1)), (4, (.val (.int .i64) y5.2.1)), (5, (.val .bool y5.2.2)), (6, (.mp 43)), (28, (.val (.slice 96 T33) a0)), (29, (.val (.int .i64) (List.length a0 : Int))), (30, (.val (.int .i64) u1_0))] [(43, some (.map T35 (.int .i64) o21))]) (Cl.blk (Cl.j (Cl.loop (Cl.blk (Cl.j Cl.f))))) ?_ ?_
                  · refine Run.block ?_
                    refine Run.loopJ (fun n σ => ∃ (u3_0 : Int) (u3_1 : List (D35 × Int)), f3_l3 a0 y5 u1_0 n u3_0 u3_1 = some o21 ∧ σ = mkSt 95 135 [(3, (.val (.int .i64) y5.1)), (4, (.val (.int .i64) y5.2.1)), (5, (.val .bool y5.2.2)), (6, (.mp 43)), (7, (.val (.int .i64) u1_0)), (28, (.val (.slice 96 T33) a0)), (29, (.val (.int .i64) (List.length a0 : Int))), (30, (.val (.int .i64) u1_0)), (74, (.val (.slice 16 T35) ((((((nth T33 a0 u1_0).2).2).2).2).1))), (75, (.val (.int .i64) (List.length ((((((nth T33 a0 u1_0).2).2).2).2).1) : Int))), (76, (.val (.int .i64) u3_0))] [(43, some (.map T35 (.int .i64) u3_1))]) [.keep [3, 4, 5, 6, 7, 28, 29, 30, 74, 75, 76] [43]] (by kernel_rfl) ⟨_, _, h55, rfl⟩ ?_
                    rintro n3 _ ⟨u3_0, u3_1, h57, rfl⟩
                    cases n3 with
                    | zero => exact absurd h57 (by simp [f3_l3])
                    | succ n3 =>
                      unfold f3_l3 at h57
                      refine Run.sreg tied [] [] [] [] (by kernel_rfl) trivial ?_
                      refine Run.seq ?_
                      rcases ite_some h57 with ⟨hc24, h57⟩ | ⟨hc24, h57⟩
                      · refine Run.condT (b := decide (u3_0 < (List.length ((((((nth T33 a0 u1_0).2).2).2).2).1) : Int))) (by kernel_rfl) hc24 ?_
                        refine Run.skip ?_
                        change Run _ _ _ _ _
                        refine Run.seq ?_
                        refine Run.block ?_
                        obtain ⟨hv22, h57⟩ := ite_none h57
                        refine Run.sreg tied [] [] [] [0 ≤ u3_0, u3_0 < (List.length ((((((nth T33 a0 u1_0).2).2).2).2).1) : Int)] (by kernel_rfl) ⟨hv22.1, hv22.2, trivial⟩ ?_
                        obtain ⟨hv23, h57⟩ := ite_none h57
                        refine Run.reg tied [] [] [] [eqOK Tryz.prog G 40 35 T35 = true, List.length u3_1 + 1 ≤ maxB] (by kernel_rfl) ⟨fact0, hv23, trivial⟩ ?_
                        refine bN ?_
                        change Run _ _ _ _ _
                        refine Run.reg tied [] [] [] [] (by kernel_rfl) trivial ?_
                        exact loopJ.mk [.keep [3, 4, 5, 6, 7, 28, 29, 30, 74, 75, 76] [43]] (by kernel_rfl) ⟨_, _, h57, rfl⟩
                      · refine Run.condF (b := decide (u3_0 < (List.length ((((((nth T33 a0 u1_0).2).2).2).2).1) : Int))) (by kernel_rfl) hc24 ?_
                        refine Run.exit ?_
                        refine tE ?_
                        refine lE ?_
                        refine bE ?_
                        obtain rfl := Option.some.inj h57
                        exact jQ.mk [.keep [3, 4, 5, 6, 28, 29, 30] [43]] (by kernel_rfl) rfl
                  · rintro _ rfl
                    refine bN ?_
                    obtain rfl := Option.some.inj h31
                    exact jQ.mk [.keep [3, 4, 5, 6, 28, 29, 30] [43]] (by kernel_rfl) ⟨_, rfl, rfl⟩
            · rintro _ ⟨v26, rfl, rfl⟩
              dsimp only at h30
              refine Run.reg tied [] [] [] [] (by kernel_rfl) trivial ?_
              exact loopJ.mk [.keep [3, 4, 5, 6, 28, 29, 30] [43]] (by kernel_rfl) ⟨_, _, h30, rfl⟩
          · refine Run.condF (b := decide (u1_0 < (List.length a0 : Int))) (by kernel_rfl) hc28 ?_
            refine Run.exit ?_
            refine tE ?_
            refine lE ?_
            refine bE ?_
            obtain rfl := Option.some.inj h30
            exact jQ.mk [.keep [3, 4, 5] []] (by kernel_rfl) ⟨_, rfl, rfl⟩
      · rintro _ ⟨v29, rfl, rfl⟩
        dsimp only at h
        obtain ⟨o30, h58, h⟩ := bind_some h
        refine Run.seqJ (fun σ' => σ' = mkSt 95 135 [(2, (.val .bool o30))] []) ?_ ?_
        · rcases ite_some h58 with ⟨hg31, h58⟩ | ⟨hg31, h58⟩
          · rcases ite_some h58 with ⟨hg32, h58⟩ | ⟨hg32, h58⟩
            · refine Run.reg tied [] [true, true] [] [(!y5.2.2) = true, (decide (y5.1 = (0 : Int))) = true] (by kernel_rfl) ⟨hg31, hg32, trivial⟩ ?_
              obtain rfl := Option.some.inj h58
              exact jQ.mk [.keep [2] []] (by kernel_rfl) rfl
            · refine Run.reg tied [] [true, false] [] [(!y5.2.2) = true, (decide (y5.1 = (0 : Int))) = false] (by kernel_rfl) ⟨hg31, hg32, trivial⟩ ?_
              obtain rfl := Option.some.inj h58
              exact jQ.mk [.keep [2] []] (by kernel_rfl) rfl
          · refine Run.reg tied [] [false, false] [] [(!y5.2.2) = false, false = false] (by kernel_rfl) ⟨hg31, rfl, trivial⟩ ?_
            obtain rfl := Option.some.inj h58
            exact jQ.mk [.keep [2] []] (by kernel_rfl) rfl
        · rintro _ rfl
          refine Run.ret ?_
          obtain rfl := Option.some.inj h
          exact (fQ_fin [] [some .bool] (msk 135 []) (by kernel_rfl)).1

end Go.Proofs.YthiphdachidhlaaGreatDoor
