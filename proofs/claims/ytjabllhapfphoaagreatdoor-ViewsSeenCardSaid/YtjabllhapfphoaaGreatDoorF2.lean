/- Made by program (dec.py): walks -/
import Derived.Test.YtjabllhapfphoaaGreatDoorF1
namespace Go.Proofs.YtjabllhapfphoaaGreatDoor
open Go.Abs

/-- testamur.testamurlaw29.ViewsSeen -/
def f4_l2 (a0 : List D32) (a1 : List Int) (a2 : Int) (y10 : List D53) (y14 : List D53) (u1_0 : Int) (u1_1 : Int) (u1_2 : Int) : Nat → Bool → Int → Option Bool
  | 0, _, _ => none
  | n2 + 1, u2_0, u2_1 => if (decide (u2_1 < (List.length a1 : Int))) = true then (Option.bind (if 0 ≤ u2_1 ∧ u2_1 < (List.length a1 : Int) then (if u2_0 = true then (some true) else (some (decide ((nth (.int .i64) a1 u2_1) = ((nth T32 a0 u1_2).1))))) else none) fun (o20 : Bool) => f4_l2 a0 a1 a2 y10 y14 u1_0 u1_1 u1_2 n2 o20 (w64 (u2_1 + (1 : Int)))) else (some u2_0)

def f4_l3 (a0 : List D32) (a1 : List Int) (a2 : Int) (y10 : List D53) (y14 : List D53) (u1_2 : Int) (o19 : Bool) : Nat → Int → Int → Int → Option (Ctl (Int × Int) Bool)
  | 0, _, _, _ => none
  | n3 + 1, u3_0, u3_1, u3_2 => if (decide (u3_2 < (List.length ((((((nth T32 a0 u1_2).2).2).2).2).1) : Int))) = true then (Option.bind (if 0 ≤ u3_2 ∧ u3_2 < (List.length ((((((nth T32 a0 u1_2).2).2).2).2).1) : Int) then (Option.bind (if o19 = true then (Option.bind (Option.bind (if (decide ((List.length y10 : Int) ≤ u3_0)) = true then (some true) else (if 0 ≤ u3_0 ∧ u3_0 < (List.length y10 : Int) then (if (!decide (((nth T53 y10 u3_0).1) = ((nth T32 a0 u1_2).1))) = true then (some true) else (if (!eqDen T28 (((nth T53 y10 u3_0).2).1) ((((((((((nth T49 ((((((nth T32 a0 u1_2).2).2).2).2).1) u3_2).2).2).2).2).2).2).2).2).1)) = true then (some true) else (if (!decide ((((((nth T53 y10 u3_0).2).2).1).1) = (((nth T32 a0 u1_2).2).1))) = true then (some true) else (if (!decide (((((((nth T53 y10 u3_0).2).2).1).2).1) = (((nth T49 ((((((nth T32 a0 u1_2).2).2).2).2).1) u3_2).2).1))) = true then (some true) else (Option.bind (f18 (((((((nth T53 y10 u3_0).2).2).1).2).2).1) (((((((nth T49 ((((((nth T32 a0 u1_2).2).2).2).2).1) u3_2).2).2).2).2).2).1)) fun y36 => if (!y36) = true then (some true) else (Option.bind (f18 ((((((((nth T53 y10 u3_0).2).2).1).2).2).2).1) ((((((((nth T49 ((((((nth T32 a0 u1_2).2).2).2).2).1) u3_2).2).2).2).2).2).2).1)) fun y39 => some (!y39))))))) else none)) fun (o29 : Bool) => if o29 = true then (some (.ret false)) else (some (.brk ()))) fun (o28 : Ctl Unit Bool) => match o28 with | .brk _v42 => (some (.brk (w64 (u3_0 + (1 : Int))))) | .ret r43 => (some (.ret r43))) else (some (.brk u3_0))) fun (o27 : Ctl Int Bool) => match o27 with | .brk v45 => (Option.bind (if o19 = true then (some true) else (some (decide (((nth T32 a0 u1_2).1) = a2)))) fun (o46 : Bool) => if o46 = true then (Option.bind (Option.bind (if (decide ((List.length y14 : Int) ≤ u3_1)) = true then (some true) else (if 0 ≤ u3_1 ∧ u3_1 < (List.length y14 : Int) then (if (!decide (((nth T53 y14 u3_1).1) = ((nth T32 a0 u1_2).1))) = true then (some true) else (some (!eqDen T28 (((nth T53 y14 u3_1).2).1) ((((((((((nth T49 ((((((nth T32 a0 u1_2).2).2).2).2).1) u3_2).2).2).2).2).2).2).2).2).1)))) else none)) fun (o49 : Bool) => if o49 = true then (some (.ret false)) else (some (.brk ()))) fun (o48 : Ctl Unit Bool) => match o48 with | .brk _v54 => (some (.brk (v45, w64 (u3_1 + (1 : Int))))) | .ret r55 => (some (.ret r55))) else (some (.brk (v45, u3_1)))) | .ret r57 => (some (.ret r57))) else none) fun (o25 : Ctl (Int × Int) Bool) => match o25 with | .brk v58 => (f4_l3 a0 a1 a2 y10 y14 u1_2 o19 n3 v58.1 v58.2 (w64 (u3_2 + (1 : Int)))) | .ret r59 => (some (.ret r59))) else (some (.brk (u3_0, u3_1)))

def f4_l1 (a0 : List D32) (a1 : List Int) (a2 : Int) (y10 : List D53) (y14 : List D53) : Nat → Int → Int → Int → Option (Ctl (Int × Int) Bool)
  | 0, _, _, _ => none
  | n1 + 1, u1_0, u1_1, u1_2 => if (decide (u1_2 < (List.length a0 : Int))) = true then (Option.bind (if 0 ≤ u1_2 ∧ u1_2 < (List.length a0 : Int) then (Option.bind (f4_l2 a0 a1 a2 y10 y14 u1_0 u1_1 u1_2 (List.length a1 + 1) false (0 : Int)) fun (o19 : Bool) => Option.bind (f4_l3 a0 a1 a2 y10 y14 u1_2 o19 (List.length ((((((nth T32 a0 u1_2).2).2).2).2).1) + 1) u1_0 u1_1 (0 : Int)) fun (o24 : Ctl (Int × Int) Bool) => match o24 with | .brk v61 => (some (.brk (v61.1, v61.2))) | .ret r62 => (some (.ret r62))) else none) fun (o17 : Ctl (Int × Int) Bool) => match o17 with | .brk v63 => (f4_l1 a0 a1 a2 y10 y14 n1 v63.1 v63.2 (w64 (u1_2 + (1 : Int)))) | .ret r64 => (some (.ret r64))) else (some (.brk (u1_0, u1_1)))

def f4 (a0 : List D32) (a1 : List Int) (a2 : Int) : Option Bool :=
  Option.bind (f5) fun y1 => if (!y1) = true then (some false) else (Option.bind (Option.bind (Option.bind (f6 a0) fun y5 => if (!y5) = true then (some true) else (some (decide ((12 : Int) < (List.length a1 : Int))))) fun (o4 : Bool) => if o4 = true then (some (.ret true)) else (some (.brk ()))) fun (o3 : Ctl Unit Bool) => match o3 with | .brk _v9 => (Option.bind (f16 a0 a1) fun y10 => if (List.length ([] : List Int) + List.length a1) * 8 ≤ maxB then (if (List.length a1 + List.length [a2]) * 8 ≤ maxB then (Option.bind (f16 a0 (a1 ++ [a2])) fun y14 => Option.bind (f4_l1 a0 a1 a2 y10 y14 (List.length a0 + 1) (0 : Int) (0 : Int) (0 : Int)) fun (o16 : Ctl (Int × Int) Bool) => match o16 with | .brk v66 => (Option.bind (if (decide (v66.1 = (List.length y10 : Int))) = true then (some (decide (v66.2 = (List.length y14 : Int)))) else (some false)) fun (o67 : Bool) => some o67) | .ret r69 => (some r69)) else none) else none) | .ret r70 => (some r70))

set_option maxRecDepth 100000 in
theorem x4 (a0 : List D32) (a1 : List Int) (a2 : Int) (r : Bool) (h : f4 a0 a1 a2 = some r) : Fc Tryz.prog gl 4 [(.val (.slice 128 T32) a0), (.val (.slice 8 (.int .i64)) a1), (.val (.int .i64) a2)] (hset (List.replicate 224 none) []) (.ret (.val .bool r)) (outH 224 []) := by
  refine Fc.of Tryz.call4 (FnEx.of_runF tied Tryz.func4 rfl rfl (σ0 := mkSt 184 224 [(0, (.val (.slice 128 T32) a0)), (1, (.val (.slice 8 (.int .i64)) a1)), (2, (.val (.int .i64) a2))] []) (by kernel_rfl) ?_)
  unfold f4 at h
  refine Run.sreg tied [] [] [] [] (by kernel_rfl) trivial ?_
  refine Run.seq ?_
  obtain ⟨y1, hy2, h⟩ := bind_some h
  refine Run.sreg tied [⟨(.val .bool y1), [], [], [], 281⟩] [] [] [Fc Tryz.prog gl 5 [] (hset (List.replicate 281 none) []) (.ret (.val .bool y1)) (outH 281 [])] (by kernel_rfl) ⟨x5  _ hy2, trivial⟩ ?_
  rcases ite_some h with ⟨hc71, h⟩ | ⟨hc71, h⟩
  · refine Run.condT (b := !y1) (by kernel_rfl) hc71 ?_
    refine Run.sreg tied [] [] [] [] (by kernel_rfl) trivial ?_
    refine Run.ret ?_
    obtain rfl := Option.some.inj h
    exact (fQ_fin [] [some .bool] (msk 224 []) (by kernel_rfl)).1
  · refine Run.condF (b := !y1) (by kernel_rfl) hc71 ?_
    refine Run.skip ?_
    change Run _ _ _ _ _
    obtain ⟨o3, h1, h⟩ := bind_some h
    refine Run.seqJ (fun σ' => ∃ v9, o3 = .brk v9 ∧ σ' = mkSt 184 224 [(0, (.val (.slice 128 T32) a0)), (1, (.val (.slice 8 (.int .i64)) a1)), (2, (.val (.int .i64) a2))] []) ?_ ?_
    · obtain ⟨o4, h3, h1⟩ := bind_some h1
      refine Run.seqJ (fun σ' => σ' = mkSt 184 224 [(0, (.val (.slice 128 T32) a0)), (1, (.val (.slice 8 (.int .i64)) a1)), (2, (.val (.int .i64) a2)), (27, (.val .bool o4))] []) ?_ ?_
      · obtain ⟨y5, hy6, h3⟩ := bind_some h3
        rcases ite_some h3 with ⟨hg7, h3⟩ | ⟨hg7, h3⟩
        · refine Run.reg tied [⟨(.val .bool y5), [], [], [], 59⟩] [true] [] [Fc Tryz.prog gl 6 [(.val (.slice 128 T32) a0)] (hset (List.replicate 59 none) []) (.ret (.val .bool y5)) (outH 59 []), (!y5) = true] (by kernel_rfl) ⟨x6 _ _ hy6, hg7, trivial⟩ ?_
          obtain rfl := Option.some.inj h3
          exact jQ.mk [.keep [0, 1, 2, 27] []] (by kernel_rfl) rfl
        · refine Run.reg tied [⟨(.val .bool y5), [], [], [], 59⟩] [false] [] [Fc Tryz.prog gl 6 [(.val (.slice 128 T32) a0)] (hset (List.replicate 59 none) []) (.ret (.val .bool y5)) (outH 59 []), (!y5) = false] (by kernel_rfl) ⟨x6 _ _ hy6, hg7, trivial⟩ ?_
          obtain rfl := Option.some.inj h3
          exact jQ.mk [.keep [0, 1, 2, 27] []] (by kernel_rfl) rfl
      · rintro _ rfl
        rcases ite_some h1 with ⟨hc8, h1⟩ | ⟨hc8, h1⟩
        · refine Run.condT (b := o4) (by kernel_rfl) hc8 ?_
          refine Run.sreg tied [] [] [] [] (by kernel_rfl) trivial ?_
          refine Run.ret ?_
          obtain rfl := Option.some.inj h1
          dsimp only at h
          obtain rfl := Option.some.inj h
          exact (fQ_fin [] [some .bool] (msk 224 []) (by kernel_rfl)).1
        · refine Run.condF (b := o4) (by kernel_rfl) hc8 ?_
          refine Run.skip ?_
          obtain rfl := Option.some.inj h1
          exact jQ.mk [.keep [0, 1, 2] []] (by kernel_rfl) ⟨_, rfl, rfl⟩
    · rintro _ ⟨v9, rfl, rfl⟩
      dsimp only at h
      obtain ⟨y10, hy11, h⟩ := bind_some h
      refine Run.sreg tied [⟨(.val (.slice 104 T53) y10), [], [], [], 49⟩] [] [] [Fc Tryz.prog gl 16 [(.val (.slice 128 T32) a0), (.val (.slice 8 (.int .i64)) a1)] (hset (List.replicate 49 none) []) (.ret (.val (.slice 104 T53) y10)) (outH 49 [])] (by kernel_rfl) ⟨x16 _ _ _ hy11, trivial⟩ ?_
      obtain ⟨hv12, h⟩ := ite_none h
      obtain ⟨hv13, h⟩ := ite_none h
      obtain ⟨y14, hy15, h⟩ := bind_some h
      refine Run.sreg tied [⟨(.val (.slice 104 T53) y14), [], [], [], 49⟩] [] [(7, 37, (.slice 8 (.int .i64)))] [(List.length ([] : List Int) + List.length a1) * 8 ≤ maxB, (List.length a1 + List.length [a2]) * 8 ≤ maxB, Fc Tryz.prog gl 16 [(.val (.slice 128 T32) a0), (.val (.slice 8 (.int .i64)) (a1 ++ [a2]))] (hset (List.replicate 49 none) []) (.ret (.val (.slice 104 T53) y14)) (outH 49 [])] (by kernel_rfl) ⟨hv12, hv13, x16 _ _ _ hy15, trivial⟩ ?_
      refine Run.sreg tied [] [] [] [] (by kernel_rfl) trivial ?_
      refine Run.sreg tied [] [] [] [] (by kernel_rfl) trivial ?_
      obtain ⟨o16, h4, h⟩ := bind_some h
      refine Run.seqJ (fun σ' => ∃ v66, o16 = .brk v66 ∧ σ' = mkSt 184 224 [(7, (.val (.slice 104 T53) y10)), (8, (.val (.slice 104 T53) y14)), (9, (.val (.int .i64) v66.1)), (10, (.val (.int .i64) v66.2))] []) ?_ ?_
      · refine Run.sreg tied [] [] [] [] (by kernel_rfl) trivial ?_
        refine Run.block ?_
        refine Run.loopJ (fun n σ => ∃ (u1_0 : Int) (u1_1 : Int) (u1_2 : Int), f4_l1 a0 a1 a2 y10 y14 n u1_0 u1_1 u1_2 = some o16 ∧ σ = mkSt 184 224 [(1, (.val (.slice 8 (.int .i64)) a1)), (2, (.val (.int .i64) a2)), (7, (.val (.slice 104 T53) y10)), (8, (.val (.slice 104 T53) y14)), (9, (.val (.int .i64) u1_0)), (10, (.val (.int .i64) u1_1)), (39, (.val (.slice 128 T32) a0)), (40, (.val (.int .i64) (List.length a0 : Int))), (41, (.val (.int .i64) u1_2))] []) [.keep [1, 2, 7, 8, 9, 10, 39, 40, 41] []] (by kernel_rfl) ⟨_, _, _, h4, rfl⟩ ?_
        rintro n1 _ ⟨u1_0, u1_1, u1_2, h115, rfl⟩
        cases n1 with
        | zero => exact absurd h115 (by simp [f4_l1])
        | succ n1 =>
          unfold f4_l1 at h115
          refine Run.sreg tied [] [] [] [] (by kernel_rfl) trivial ?_
          refine Run.seq ?_
          rcases ite_some h115 with ⟨hc65, h115⟩ | ⟨hc65, h115⟩
          · refine Run.condT (b := decide (u1_2 < (List.length a0 : Int))) (by kernel_rfl) hc65 ?_
            refine Run.skip ?_
            change Run _ _ _ _ _
            obtain ⟨o17, h116, h115⟩ := bind_some h115
            refine Run.seqJ (fun σ' => ∃ v63, o17 = .brk v63 ∧ σ' = mkSt 184 224 [(1, (.val (.slice 8 (.int .i64)) a1)), (2, (.val (.int .i64) a2)), (7, (.val (.slice 104 T53) y10)), (8, (.val (.slice 104 T53) y14)), (9, (.val (.int .i64) v63.1)), (10, (.val (.int .i64) v63.2)), (39, (.val (.slice 128 T32) a0)), (40, (.val (.int .i64) (List.length a0 : Int))), (41, (.val (.int .i64) u1_2))] []) ?_ ?_
            · refine Run.block ?_
              obtain ⟨hv18, h116⟩ := ite_none h116
              refine Run.sreg tied [] [] [] [0 ≤ u1_2, u1_2 < (List.length a0 : Int)] (by kernel_rfl) ⟨hv18.1, hv18.2, trivial⟩ ?_
              refine Run.sreg tied [] [] [] [] (by kernel_rfl) trivial ?_
              obtain ⟨o19, h171, h116⟩ := bind_some h116
              refine Run.seqJ (fun σ' => σ' = mkSt 184 224 [(1, (.val (.slice 8 (.int .i64)) a1)), (2, (.val (.int .i64) a2)), (7, (.val (.slice 104 T53) y10)), (8, (.val (.slice 104 T53) y14)), (9, (.val (.int .i64) u1_0)), (10, (.val (.int .i64) u1_1)), (12, (.ptr 28 [])), (13, (.val .bool o19)), (39, (.val (.slice 128 T32) a0)), (40, (.val (.int .i64) (List.length a0 : Int))), (41, (.val (.int .i64) u1_2))] [(28, some (.var T32 (.val T32 (nth T32 a0 u1_2))))]) ?_ ?_
              · refine Run.sreg tied [] [] [] [] (by kernel_rfl) trivial ?_
                refine Run.block ?_
                refine Run.loopJ (fun n σ => ∃ (u2_0 : Bool) (u2_1 : Int), f4_l2 a0 a1 a2 y10 y14 u1_0 u1_1 u1_2 n u2_0 u2_1 = some o19 ∧ σ = mkSt 184 224 [(1, (.val (.slice 8 (.int .i64)) a1)), (2, (.val (.int .i64) a2)), (7, (.val (.slice 104 T53) y10)), (8, (.val (.slice 104 T53) y14)), (9, (.val (.int .i64) u1_0)), (10, (.val (.int .i64) u1_1)), (12, (.ptr 28 [])), (13, (.val .bool u2_0)), (39, (.val (.slice 128 T32) a0)), (40, (.val (.int .i64) (List.length a0 : Int))), (41, (.val (.int .i64) u1_2)), (45, (.val (.slice 8 (.int .i64)) a1)), (46, (.val (.int .i64) (List.length a1 : Int))), (47, (.val (.int .i64) u2_1))] [(28, some (.var T32 (.val T32 (nth T32 a0 u1_2))))]) [.keep [1, 2, 7, 8, 9, 10, 12, 13, 39, 40, 41, 45, 46, 47] [28]] (by kernel_rfl) ⟨_, _, h171, rfl⟩ ?_
                rintro n2 _ ⟨u2_0, u2_1, h174, rfl⟩
                cases n2 with
                | zero => exact absurd h174 (by simp [f4_l2])
                | succ n2 =>
                  unfold f4_l2 at h174
                  refine Run.sreg tied [] [] [] [] (by kernel_rfl) trivial ?_
                  refine Run.seq ?_
                  rcases ite_some h174 with ⟨hc23, h174⟩ | ⟨hc23, h174⟩
                  · refine Run.condT (b := decide (u2_1 < (List.length a1 : Int))) (by kernel_rfl) hc23 ?_
                    refine Run.skip ?_
                    change Run _ _ _ _ _
                    obtain ⟨o20, h175, h174⟩ := bind_some h174
                    refine Run.seqJ (fun σ' => σ' = mkSt 184 224 [(1, (.val (.slice 8 (.int .i64)) a1)), (2, (.val (.int .i64) a2)), (7, (.val (.slice 104 T53) y10)), (8, (.val (.slice 104 T53) y14)), (9, (.val (.int .i64) u1_0)), (10, (.val (.int .i64) u1_1)), (12, (.ptr 28 [])), (13, (.val .bool o20)), (39, (.val (.slice 128 T32) a0)), (40, (.val (.int .i64) (List.length a0 : Int))), (41, (.val (.int .i64) u1_2)), (45, (.val (.slice 8 (.int .i64)) a1)), (46, (.val (.int .i64) (List.length a1 : Int))), (47, (.val (.int .i64) u2_1))] [(28, some (.var T32 (.val T32 (nth T32 a0 u1_2))))]) ?_ ?_
                    · refine Run.block ?_
                      obtain ⟨hv21, h175⟩ := ite_none h175
                      refine Run.sreg tied [] [] [] [0 ≤ u2_1, u2_1 < (List.length a1 : Int)] (by kernel_rfl) ⟨hv21.1, hv21.2, trivial⟩ ?_
                      rcases ite_some h175 with ⟨hg22, h175⟩ | ⟨hg22, h175⟩
                      · refine Run.reg tied [] [true] [] [u2_0 = true] (by kernel_rfl) ⟨hg22, trivial⟩ ?_
                        refine bN ?_
                        obtain rfl := Option.some.inj h175
                        exact jQ.mk [.keep [1, 2, 7, 8, 9, 10, 12, 13, 39, 40, 41, 45, 46, 47] [28]] (by kernel_rfl) rfl
                      · refine Run.reg tied [] [false] [] [u2_0 = false] (by kernel_rfl) ⟨hg22, trivial⟩ ?_
                        refine bN ?_
                        obtain rfl := Option.some.inj h175
                        exact jQ.mk [.keep [1, 2, 7, 8, 9, 10, 12, 13, 39, 40, 41, 45, 46, 47] [28]] (by kernel_rfl) rfl
                    · rintro _ rfl
                      refine Run.reg tied [] [] [] [] (by kernel_rfl) trivial ?_
                      exact loopJ.mk [.keep [1, 2, 7, 8, 9, 10, 12, 13, 39, 40, 41, 45, 46, 47] [28]] (by kernel_rfl) ⟨_, _, h174, rfl⟩
                  · refine Run.condF (b := decide (u2_1 < (List.length a1 : Int))) (by kernel_rfl) hc23 ?_
                    refine Run.exit ?_
                    refine tE ?_
                    refine lE ?_
                    refine bE ?_
                    obtain rfl := Option.some.inj h174
                    exact jQ.mk [.keep [1, 2, 7, 8, 9, 10, 12, 13, 39, 40, 41] [28]] (by kernel_rfl) rfl
              · rintro _ rfl
                refine Run.sreg tied [] [] [] [] (by kernel_rfl) trivial ?_
                obtain ⟨o24, h176, h116⟩ := bind_some h116
                refine Run.lastJ (fun σ' => ∃ v61, o24 = .brk v61 ∧ σ' = mkSt 184 224 [(1, (.val (.slice 8 (.int .i64)) a1)), (2, (.val (.int .i64) a2)), (7, (.val (.slice 104 T53) y10)), (8, (.val (.slice 104 T53) y14)), (9, (.val (.int .i64) v61.1)), (10, (.val (.int .i64) v61.2)), (39, (.val (.slice 128 T32) a0)), (40, (.val (.int .i64) (List.length a0 : Int))), (41, (.val (.int .i64) u1_2))] []) (Cl.blk (Cl.j (Cl.loop (Cl.blk (Cl.j Cl.f))))) ?_ ?_
                · refine Run.block ?_
                  refine Run.loopJ (fun n σ => ∃ (u3_0 : Int) (u3_1 : Int) (u3_2 : Int), f4_l3 a0 a1 a2 y10 y14 u1_2 o19 n u3_0 u3_1 u3_2 = some o24 ∧ σ = mkSt 184 224 [(1, (.val (.slice 8 (.int .i64)) a1)), (2, (.val (.int .i64) a2)), (7, (.val (.slice 104 T53) y10)), (8, (.val (.slice 104 T53) y14)), (9, (.val (.int .i64) u3_0)), (10, (.val (.int .i64) u3_1)), (12, (.ptr 28 [])), (13, (.val .bool o19)), (39, (.val (.slice 128 T32) a0)), (40, (.val (.int .i64) (List.length a0 : Int))), (41, (.val (.int .i64) u1_2)), (60, (.val (.slice 176 T49) ((((((nth T32 a0 u1_2).2).2).2).2).1))), (61, (.val (.int .i64) (List.length ((((((nth T32 a0 u1_2).2).2).2).2).1) : Int))), (62, (.val (.int .i64) u3_2))] [(28, some (.var T32 (.val T32 (nth T32 a0 u1_2))))]) [.keep [1, 2, 7, 8, 9, 10, 12, 13, 39, 40, 41, 60, 61, 62] [28]] (by kernel_rfl) ⟨_, _, _, h176, rfl⟩ ?_
                  rintro n3 _ ⟨u3_0, u3_1, u3_2, h201, rfl⟩
                  cases n3 with
                  | zero => exact absurd h201 (by simp [f4_l3])
                  | succ n3 =>
                    unfold f4_l3 at h201
                    refine Run.sreg tied [] [] [] [] (by kernel_rfl) trivial ?_
                    refine Run.seq ?_
                    rcases ite_some h201 with ⟨hc60, h201⟩ | ⟨hc60, h201⟩
                    · refine Run.condT (b := decide (u3_2 < (List.length ((((((nth T32 a0 u1_2).2).2).2).2).1) : Int))) (by kernel_rfl) hc60 ?_
                      refine Run.skip ?_
                      change Run _ _ _ _ _
                      obtain ⟨o25, h202, h201⟩ := bind_some h201
                      refine Run.seqJ (fun σ' => ∃ v58, o25 = .brk v58 ∧ σ' = mkSt 184 224 [(1, (.val (.slice 8 (.int .i64)) a1)), (2, (.val (.int .i64) a2)), (7, (.val (.slice 104 T53) y10)), (8, (.val (.slice 104 T53) y14)), (9, (.val (.int .i64) v58.1)), (10, (.val (.int .i64) v58.2)), (12, (.ptr 28 [])), (13, (.val .bool o19)), (39, (.val (.slice 128 T32) a0)), (40, (.val (.int .i64) (List.length a0 : Int))), (41, (.val (.int .i64) u1_2)), (60, (.val (.slice 176 T49) ((((((nth T32 a0 u1_2).2).2).2).2).1))), (61, (.val (.int .i64) (List.length ((((((nth T32 a0 u1_2).2).2).2).2).1) : Int))), (62, (.val (.int .i64) u3_2))] [(28, some (.var T32 (.val T32 (nth T32 a0 u1_2))))]) ?_ ?_
                      · refine Run.block ?_
                        obtain ⟨hv26, h202⟩ := ite_none h202
                        refine Run.sreg tied [] [] [] [0 ≤ u3_2, u3_2 < (List.length ((((((nth T32 a0 u1_2).2).2).2).2).1) : Int)] (by kernel_rfl) ⟨hv26.1, hv26.2, trivial⟩ ?_
                        obtain ⟨o27, h214, h202⟩ := bind_some h202
                        refine Run.seqJ (fun σ' => ∃ v45, o27 = .brk v45 ∧ σ' = mkSt 184 224 [(1, (.val (.slice 8 (.int .i64)) a1)), (2, (.val (.int .i64) a2)), (7, (.val (.slice 104 T53) y10)), (8, (.val (.slice 104 T53) y14)), (9, (.val (.int .i64) v45)), (10, (.val (.int .i64) u3_1)), (12, (.ptr 28 [])), (13, (.val .bool o19)), (17, (.ptr 33 [])), (39, (.val (.slice 128 T32) a0)), (40, (.val (.int .i64) (List.length a0 : Int))), (41, (.val (.int .i64) u1_2)), (60, (.val (.slice 176 T49) ((((((nth T32 a0 u1_2).2).2).2).2).1))), (61, (.val (.int .i64) (List.length ((((((nth T32 a0 u1_2).2).2).2).2).1) : Int))), (62, (.val (.int .i64) u3_2))] [(28, some (.var T32 (.val T32 (nth T32 a0 u1_2)))), (33, some (.var T49 (.val T49 (nth T49 ((((((nth T32 a0 u1_2).2).2).2).2).1) u3_2))))]) ?_ ?_
                        · refine Run.sreg tied [] [] [] [] (by kernel_rfl) trivial ?_
                          rcases ite_some h214 with ⟨hc44, h214⟩ | ⟨hc44, h214⟩
                          · refine Run.condT (b := o19) (by kernel_rfl) hc44 ?_
                            obtain ⟨o28, h218, h214⟩ := bind_some h214
                            refine Run.seqJ (fun σ' => ∃ v42, o28 = .brk v42 ∧ σ' = mkSt 184 224 [(1, (.val (.slice 8 (.int .i64)) a1)), (2, (.val (.int .i64) a2)), (7, (.val (.slice 104 T53) y10)), (8, (.val (.slice 104 T53) y14)), (9, (.val (.int .i64) u3_0)), (10, (.val (.int .i64) u3_1)), (12, (.ptr 28 [])), (13, (.val .bool o19)), (17, (.ptr 33 [])), (39, (.val (.slice 128 T32) a0)), (40, (.val (.int .i64) (List.length a0 : Int))), (41, (.val (.int .i64) u1_2)), (60, (.val (.slice 176 T49) ((((((nth T32 a0 u1_2).2).2).2).2).1))), (61, (.val (.int .i64) (List.length ((((((nth T32 a0 u1_2).2).2).2).2).1) : Int))), (62, (.val (.int .i64) u3_2))] [(28, some (.var T32 (.val T32 (nth T32 a0 u1_2)))), (33, some (.var T49 (.val T49 (nth T49 ((((((nth T32 a0 u1_2).2).2).2).2).1) u3_2))))]) ?_ ?_
                            · obtain ⟨o29, h220, h218⟩ := bind_some h218
                              refine Run.seqJ (fun σ' => σ' = mkSt 184 224 [(1, (.val (.slice 8 (.int .i64)) a1)), (2, (.val (.int .i64) a2)), (7, (.val (.slice 104 T53) y10)), (8, (.val (.slice 104 T53) y14)), (9, (.val (.int .i64) u3_0)), (10, (.val (.int .i64) u3_1)), (12, (.ptr 28 [])), (13, (.val .bool o19)), (17, (.ptr 33 [])), (39, (.val (.slice 128 T32) a0)), (40, (.val (.int .i64) (List.length a0 : Int))), (41, (.val (.int .i64) u1_2)), (60, (.val (.slice 176 T49) ((((((nth T32 a0 u1_2).2).2).2).2).1))), (61, (.val (.int .i64) (List.length ((((((nth T32 a0 u1_2).2).2).2).2).1) : Int))), (62, (.val (.int .i64) u3_2)), (136, (.val .bool o29))] [(28, some (.var T32 (.val T32 (nth T32 a0 u1_2)))), (33, some (.var T49 (.val T49 (nth T49 ((((((nth T32 a0 u1_2).2).2).2).2).1) u3_2))))]) ?_ ?_
                              · rcases ite_some h220 with ⟨hg30, h220⟩ | ⟨hg30, h220⟩
                                · refine Run.regA tied [] [true, true, true, true, true, true] [] [(decide ((List.length y10 : Int) ≤ u3_0)) = true, true = true, true = true, true = true, true = true, true = true] (by kernel_rfl) ⟨hg30, rfl, rfl, rfl, rfl, rfl, trivial⟩ ?_
                                  obtain rfl := Option.some.inj h220
                                  exact jQ.mk [.keep [1, 2, 7, 8, 9, 10, 12, 13, 17, 39, 40, 41, 60, 61, 62, 136] [28, 33]] (by kernel_rfl) rfl
                                · obtain ⟨hv31, h220⟩ := ite_none h220
                                  rcases ite_some h220 with ⟨hg32, h220⟩ | ⟨hg32, h220⟩
                                  · refine Run.regA tied [] [false, true, true, true, true, true] [] [(decide ((List.length y10 : Int) ≤ u3_0)) = false, 0 ≤ u3_0, u3_0 < (List.length y10 : Int), (!decide (((nth T53 y10 u3_0).1) = ((nth T32 a0 u1_2).1))) = true, true = true, true = true, true = true, true = true] (by kernel_rfl) ⟨hg30, hv31.1, hv31.2, hg32, rfl, rfl, rfl, rfl, trivial⟩ ?_
                                    obtain rfl := Option.some.inj h220
                                    exact jQ.mk [.keep [1, 2, 7, 8, 9, 10, 12, 13, 17, 39, 40, 41, 60, 61, 62, 136] [28, 33]] (by kernel_rfl) rfl
                                  · rcases ite_some h220 with ⟨hg33, h220⟩ | ⟨hg33, h220⟩
                                    · refine Run.regA tied [] [false, false, true, true, true, true] [] [(decide ((List.length y10 : Int) ≤ u3_0)) = false, 0 ≤ u3_0, u3_0 < (List.length y10 : Int), (!decide (((nth T53 y10 u3_0).1) = ((nth T32 a0 u1_2).1))) = false, 0 ≤ u3_0, u3_0 < (List.length y10 : Int), eqOK Tryz.prog G 40 28 T28 = true, Tryz.prog.eqGuardType Tryz.prog.depth 28 = false, (!eqDen T28 (((nth T53 y10 u3_0).2).1) ((((((((((nth T49 ((((((nth T32 a0 u1_2).2).2).2).2).1) u3_2).2).2).2).2).2).2).2).2).1)) = true, true = true, true = true, true = true] (by kernel_rfl) ⟨hg30, hv31.1, hv31.2, hg32, hv31.1, hv31.2, fact1, fact2, hg33, rfl, rfl, rfl, trivial⟩ ?_
                                      obtain rfl := Option.some.inj h220
                                      exact jQ.mk [.keep [1, 2, 7, 8, 9, 10, 12, 13, 17, 39, 40, 41, 60, 61, 62, 136] [28, 33]] (by kernel_rfl) rfl
                                    · rcases ite_some h220 with ⟨hg34, h220⟩ | ⟨hg34, h220⟩
                                      · refine Run.regA tied [] [false, false, false, true, true, true] [] [(decide ((List.length y10 : Int) ≤ u3_0)) = false, 0 ≤ u3_0, u3_0 < (List.length y10 : Int), (!decide (((nth T53 y10 u3_0).1) = ((nth T32 a0 u1_2).1))) = false, 0 ≤ u3_0, u3_0 < (List.length y10 : Int), eqOK Tryz.prog G 40 28 T28 = true, Tryz.prog.eqGuardType Tryz.prog.depth 28 = false, (!eqDen T28 (((nth T53 y10 u3_0).2).1) ((((((((((nth T49 ((((((nth T32 a0 u1_2).2).2).2).2).1) u3_2).2).2).2).2).2).2).2).2).1)) = false, 0 ≤ u3_0, u3_0 < (List.length y10 : Int), (!decide ((((((nth T53 y10 u3_0).2).2).1).1) = (((nth T32 a0 u1_2).2).1))) = true, true = true, true = true] (by kernel_rfl) ⟨hg30, hv31.1, hv31.2, hg32, hv31.1, hv31.2, fact1, fact2, hg33, hv31.1, hv31.2, hg34, rfl, rfl, trivial⟩ ?_
                                        obtain rfl := Option.some.inj h220
                                        exact jQ.mk [.keep [1, 2, 7, 8, 9, 10, 12, 13, 17, 39, 40, 41, 60, 61, 62, 136] [28, 33]] (by kernel_rfl) rfl
                                      · rcases ite_some h220 with ⟨hg35, h220⟩ | ⟨hg35, h220⟩
                                        · refine Run.regA tied [] [false, false, false, false, true, true] [] [(decide ((List.length y10 : Int) ≤ u3_0)) = false, 0 ≤ u3_0, u3_0 < (List.length y10 : Int), (!decide (((nth T53 y10 u3_0).1) = ((nth T32 a0 u1_2).1))) = false, 0 ≤ u3_0, u3_0 < (List.length y10 : Int), eqOK Tryz.prog G 40 28 T28 = true, Tryz.prog.eqGuardType Tryz.prog.depth 28 = false, (!eqDen T28 (((nth T53 y10 u3_0).2).1) ((((((((((nth T49 ((((((nth T32 a0 u1_2).2).2).2).2).1) u3_2).2).2).2).2).2).2).2).2).1)) = false, 0 ≤ u3_0, u3_0 < (List.length y10 : Int), (!decide ((((((nth T53 y10 u3_0).2).2).1).1) = (((nth T32 a0 u1_2).2).1))) = false, 0 ≤ u3_0, u3_0 < (List.length y10 : Int), (!decide (((((((nth T53 y10 u3_0).2).2).1).2).1) = (((nth T49 ((((((nth T32 a0 u1_2).2).2).2).2).1) u3_2).2).1))) = true, true = true] (by kernel_rfl) ⟨hg30, hv31.1, hv31.2, hg32, hv31.1, hv31.2, fact1, fact2, hg33, hv31.1, hv31.2, hg34, hv31.1, hv31.2, hg35, rfl, trivial⟩ ?_
                                          obtain rfl := Option.some.inj h220
                                          exact jQ.mk [.keep [1, 2, 7, 8, 9, 10, 12, 13, 17, 39, 40, 41, 60, 61, 62, 136] [28, 33]] (by kernel_rfl) rfl
                                        · obtain ⟨y36, hy37, h220⟩ := bind_some h220
                                          rcases ite_some h220 with ⟨hg38, h220⟩ | ⟨hg38, h220⟩
                                          · refine Run.regA tied [⟨(.val .bool y36), [], [], [], 66⟩] [false, false, false, false, false, true] [] [(decide ((List.length y10 : Int) ≤ u3_0)) = false, 0 ≤ u3_0, u3_0 < (List.length y10 : Int), (!decide (((nth T53 y10 u3_0).1) = ((nth T32 a0 u1_2).1))) = false, 0 ≤ u3_0, u3_0 < (List.length y10 : Int), eqOK Tryz.prog G 40 28 T28 = true, Tryz.prog.eqGuardType Tryz.prog.depth 28 = false, (!eqDen T28 (((nth T53 y10 u3_0).2).1) ((((((((((nth T49 ((((((nth T32 a0 u1_2).2).2).2).2).1) u3_2).2).2).2).2).2).2).2).2).1)) = false, 0 ≤ u3_0, u3_0 < (List.length y10 : Int), (!decide ((((((nth T53 y10 u3_0).2).2).1).1) = (((nth T32 a0 u1_2).2).1))) = false, 0 ≤ u3_0, u3_0 < (List.length y10 : Int), (!decide (((((((nth T53 y10 u3_0).2).2).1).2).1) = (((nth T49 ((((((nth T32 a0 u1_2).2).2).2).2).1) u3_2).2).1))) = false, 0 ≤ u3_0, u3_0 < (List.length y10 : Int), Fc Tryz.prog gl 18 [(.val (.slice 8 (.int .i64)) (((((((nth T53 y10 u3_0).2).2).1).2).2).1)), (.val (.slice 8 (.int .i64)) (((((((nth T49 ((((((nth T32 a0 u1_2).2).2).2).2).1) u3_2).2).2).2).2).2).1))] (hset (List.replicate 66 none) []) (.ret (.val .bool y36)) (outH 66 []), (!y36) = true] (by kernel_rfl) ⟨hg30, hv31.1, hv31.2, hg32, hv31.1, hv31.2, fact1, fact2, hg33, hv31.1, hv31.2, hg34, hv31.1, hv31.2, hg35, hv31.1, hv31.2, x18 _ _ _ hy37, hg38, trivial⟩ ?_
                                            obtain rfl := Option.some.inj h220
                                            exact jQ.mk [.keep [1, 2, 7, 8, 9, 10, 12, 13, 17, 39, 40, 41, 60, 61, 62, 136] [28, 33]] (by kernel_rfl) rfl
                                          · obtain ⟨y39, hy40, h220⟩ := bind_some h220
                                            refine Run.regA tied [⟨(.val .bool y36), [], [], [], 66⟩, ⟨(.val .bool y39), [], [], [], 66⟩] [false, false, false, false, false, false] [] [(decide ((List.length y10 : Int) ≤ u3_0)) = false, 0 ≤ u3_0, u3_0 < (List.length y10 : Int), (!decide (((nth T53 y10 u3_0).1) = ((nth T32 a0 u1_2).1))) = false, 0 ≤ u3_0, u3_0 < (List.length y10 : Int), eqOK Tryz.prog G 40 28 T28 = true, Tryz.prog.eqGuardType Tryz.prog.depth 28 = false, (!eqDen T28 (((nth T53 y10 u3_0).2).1) ((((((((((nth T49 ((((((nth T32 a0 u1_2).2).2).2).2).1) u3_2).2).2).2).2).2).2).2).2).1)) = false, 0 ≤ u3_0, u3_0 < (List.length y10 : Int), (!decide ((((((nth T53 y10 u3_0).2).2).1).1) = (((nth T32 a0 u1_2).2).1))) = false, 0 ≤ u3_0, u3_0 < (List.length y10 : Int), (!decide (((((((nth T53 y10 u3_0).2).2).1).2).1) = (((nth T49 ((((((nth T32 a0 u1_2).2).2).2).2).1) u3_2).2).1))) = false, 0 ≤ u3_0, u3_0 < (List.length y10 : Int), Fc Tryz.prog gl 18 [(.val (.slice 8 (.int .i64)) (((((((nth T53 y10 u3_0).2).2).1).2).2).1)), (.val (.slice 8 (.int .i64)) (((((((nth T49 ((((((nth T32 a0 u1_2).2).2).2).2).1) u3_2).2).2).2).2).2).1))] (hset (List.replicate 66 none) []) (.ret (.val .bool y36)) (outH 66 []), (!y36) = false, 0 ≤ u3_0, u3_0 < (List.length y10 : Int), Fc Tryz.prog gl 18 [(.val (.slice 8 (.int .i64)) ((((((((nth T53 y10 u3_0).2).2).1).2).2).2).1)), (.val (.slice 8 (.int .i64)) ((((((((nth T49 ((((((nth T32 a0 u1_2).2).2).2).2).1) u3_2).2).2).2).2).2).2).1))] (hset (List.replicate 66 none) []) (.ret (.val .bool y39)) (outH 66 [])] (by kernel_rfl) ⟨hg30, hv31.1, hv31.2, hg32, hv31.1, hv31.2, fact1, fact2, hg33, hv31.1, hv31.2, hg34, hv31.1, hv31.2, hg35, hv31.1, hv31.2, x18 _ _ _ hy37, hg38, hv31.1, hv31.2, x18 _ _ _ hy40, trivial⟩ ?_
                                            obtain rfl := Option.some.inj h220
                                            exact jQ.mk [.keep [1, 2, 7, 8, 9, 10, 12, 13, 17, 39, 40, 41, 60, 61, 62, 136] [28, 33]] (by kernel_rfl) rfl
                              · rintro _ rfl
                                rcases ite_some h218 with ⟨hc41, h218⟩ | ⟨hc41, h218⟩
                                · refine Run.condT (b := o29) (by kernel_rfl) hc41 ?_
                                  refine Run.sreg tied [] [] [] [] (by kernel_rfl) trivial ?_
                                  refine Run.ret ?_
                                  obtain rfl := Option.some.inj h218
                                  dsimp only at h214
                                  obtain rfl := Option.some.inj h214
                                  dsimp only at h202
                                  obtain rfl := Option.some.inj h202
                                  dsimp only at h201
                                  obtain rfl := Option.some.inj h201
                                  dsimp only at h116
                                  obtain rfl := Option.some.inj h116
                                  dsimp only at h115
                                  obtain rfl := Option.some.inj h115
                                  dsimp only at h
                                  obtain rfl := Option.some.inj h
                                  exact (fQ_fin [] [some .bool] (msk 224 []) (by kernel_rfl)).1
                                · refine Run.condF (b := o29) (by kernel_rfl) hc41 ?_
                                  refine Run.skip ?_
                                  obtain rfl := Option.some.inj h218
                                  exact jQ.mk [.keep [1, 2, 7, 8, 9, 10, 12, 13, 17, 39, 40, 41, 60, 61, 62] [28, 33]] (by kernel_rfl) ⟨_, rfl, rfl⟩
                            · rintro _ ⟨v42, rfl, rfl⟩
                              dsimp only at h214
                              refine Run.reg tied [] [] [] [] (by kernel_rfl) trivial ?_
                              obtain rfl := Option.some.inj h214
                              exact jQ.mk [.keep [1, 2, 7, 8, 9, 10, 12, 13, 17, 39, 40, 41, 60, 61, 62] [28, 33]] (by kernel_rfl) ⟨_, rfl, rfl⟩
                          · refine Run.condF (b := o19) (by kernel_rfl) hc44 ?_
                            refine Run.skip ?_
                            obtain rfl := Option.some.inj h214
                            exact jQ.mk [.keep [1, 2, 7, 8, 9, 10, 12, 13, 17, 39, 40, 41, 60, 61, 62] [28, 33]] (by kernel_rfl) ⟨_, rfl, rfl⟩
                        · rintro _ ⟨v45, rfl, rfl⟩
                          dsimp only at h202
                          obtain ⟨o46, h221, h202⟩ := bind_some h202
                          refine Run.seqJ (fun σ' => σ' = mkSt 184 224 [(1, (.val (.slice 8 (.int .i64)) a1)), (2, (.val (.int .i64) a2)), (7, (.val (.slice 104 T53) y10)), (8, (.val (.slice 104 T53) y14)), (9, (.val (.int .i64) v45)), (10, (.val (.int .i64) u3_1)), (12, (.ptr 28 [])), (13, (.val .bool o19)), (17, (.ptr 33 [])), (39, (.val (.slice 128 T32) a0)), (40, (.val (.int .i64) (List.length a0 : Int))), (41, (.val (.int .i64) u1_2)), (60, (.val (.slice 176 T49) ((((((nth T32 a0 u1_2).2).2).2).2).1))), (61, (.val (.int .i64) (List.length ((((((nth T32 a0 u1_2).2).2).2).2).1) : Int))), (62, (.val (.int .i64) u3_2)), (145, (.val .bool o46))] [(28, some (.var T32 (.val T32 (nth T32 a0 u1_2)))), (33, some (.var T49 (.val T49 (nth T49 ((((((nth T32 a0 u1_2).2).2).2).2).1) u3_2))))]) ?_ ?_
                          · rcases ite_some h221 with ⟨hg47, h221⟩ | ⟨hg47, h221⟩
                            · refine Run.reg tied [] [true] [] [o19 = true] (by kernel_rfl) ⟨hg47, trivial⟩ ?_
                              obtain rfl := Option.some.inj h221
                              exact jQ.mk [.keep [1, 2, 7, 8, 9, 10, 12, 13, 17, 39, 40, 41, 60, 61, 62, 145] [28, 33]] (by kernel_rfl) rfl
                            · refine Run.reg tied [] [false] [] [o19 = false] (by kernel_rfl) ⟨hg47, trivial⟩ ?_
                              obtain rfl := Option.some.inj h221
                              exact jQ.mk [.keep [1, 2, 7, 8, 9, 10, 12, 13, 17, 39, 40, 41, 60, 61, 62, 145] [28, 33]] (by kernel_rfl) rfl
                          · rintro _ rfl
                            rcases ite_some h202 with ⟨hc56, h202⟩ | ⟨hc56, h202⟩
                            · refine Run.condT (b := o46) (by kernel_rfl) hc56 ?_
                              obtain ⟨o48, h222, h202⟩ := bind_some h202
                              refine Run.seqJ (fun σ' => ∃ v54, o48 = .brk v54 ∧ σ' = mkSt 184 224 [(1, (.val (.slice 8 (.int .i64)) a1)), (2, (.val (.int .i64) a2)), (7, (.val (.slice 104 T53) y10)), (8, (.val (.slice 104 T53) y14)), (9, (.val (.int .i64) v45)), (10, (.val (.int .i64) u3_1)), (12, (.ptr 28 [])), (13, (.val .bool o19)), (39, (.val (.slice 128 T32) a0)), (40, (.val (.int .i64) (List.length a0 : Int))), (41, (.val (.int .i64) u1_2)), (60, (.val (.slice 176 T49) ((((((nth T32 a0 u1_2).2).2).2).2).1))), (61, (.val (.int .i64) (List.length ((((((nth T32 a0 u1_2).2).2).2).2).1) : Int))), (62, (.val (.int .i64) u3_2))] [(28, some (.var T32 (.val T32 (nth T32 a0 u1_2))))]) ?_ ?_
                              · obtain ⟨o49, h224, h222⟩ := bind_some h222
                                refine Run.seqJ (fun σ' => σ' = mkSt 184 224 [(1, (.val (.slice 8 (.int .i64)) a1)), (2, (.val (.int .i64) a2)), (7, (.val (.slice 104 T53) y10)), (8, (.val (.slice 104 T53) y14)), (9, (.val (.int .i64) v45)), (10, (.val (.int .i64) u3_1)), (12, (.ptr 28 [])), (13, (.val .bool o19)), (39, (.val (.slice 128 T32) a0)), (40, (.val (.int .i64) (List.length a0 : Int))), (41, (.val (.int .i64) u1_2)), (60, (.val (.slice 176 T49) ((((((nth T32 a0 u1_2).2).2).2).2).1))), (61, (.val (.int .i64) (List.length ((((((nth T32 a0 u1_2).2).2).2).2).1) : Int))), (62, (.val (.int .i64) u3_2)), (169, (.val .bool o49))] [(28, some (.var T32 (.val T32 (nth T32 a0 u1_2))))]) ?_ ?_
                                · rcases ite_some h224 with ⟨hg50, h224⟩ | ⟨hg50, h224⟩
                                  · refine Run.regA tied [] [true, true] [] [(decide ((List.length y14 : Int) ≤ u3_1)) = true, true = true] (by kernel_rfl) ⟨hg50, rfl, trivial⟩ ?_
                                    obtain rfl := Option.some.inj h224
                                    exact jQ.mk [.keep [1, 2, 7, 8, 9, 10, 12, 13, 39, 40, 41, 60, 61, 62, 169] [28]] (by kernel_rfl) rfl
                                  · obtain ⟨hv51, h224⟩ := ite_none h224
                                    rcases ite_some h224 with ⟨hg52, h224⟩ | ⟨hg52, h224⟩
                                    · refine Run.regA tied [] [false, true] [] [(decide ((List.length y14 : Int) ≤ u3_1)) = false, 0 ≤ u3_1, u3_1 < (List.length y14 : Int), (!decide (((nth T53 y14 u3_1).1) = ((nth T32 a0 u1_2).1))) = true] (by kernel_rfl) ⟨hg50, hv51.1, hv51.2, hg52, trivial⟩ ?_
                                      obtain rfl := Option.some.inj h224
                                      exact jQ.mk [.keep [1, 2, 7, 8, 9, 10, 12, 13, 39, 40, 41, 60, 61, 62, 169] [28]] (by kernel_rfl) rfl
                                    · refine Run.regA tied [] [false, false] [] [(decide ((List.length y14 : Int) ≤ u3_1)) = false, 0 ≤ u3_1, u3_1 < (List.length y14 : Int), (!decide (((nth T53 y14 u3_1).1) = ((nth T32 a0 u1_2).1))) = false, 0 ≤ u3_1, u3_1 < (List.length y14 : Int), eqOK Tryz.prog G 40 28 T28 = true, Tryz.prog.eqGuardType Tryz.prog.depth 28 = false] (by kernel_rfl) ⟨hg50, hv51.1, hv51.2, hg52, hv51.1, hv51.2, fact1, fact2, trivial⟩ ?_
                                      obtain rfl := Option.some.inj h224
                                      exact jQ.mk [.keep [1, 2, 7, 8, 9, 10, 12, 13, 39, 40, 41, 60, 61, 62, 169] [28]] (by kernel_rfl) rfl
                                · rintro _ rfl
                                  rcases ite_some h222 with ⟨hc53, h222⟩ | ⟨hc53, h222⟩
                                  · refine Run.condT (b := o49) (by kernel_rfl) hc53 ?_
                                    refine Run.sreg tied [] [] [] [] (by kernel_rfl) trivial ?_
                                    refine Run.ret ?_
                                    obtain rfl := Option.some.inj h222
                                    dsimp only at h202
                                    obtain rfl := Option.some.inj h202
                                    dsimp only at h201
                                    obtain rfl := Option.some.inj h201
                                    dsimp only at h116
                                    obtain rfl := Option.some.inj h116
                                    dsimp only at h115
                                    obtain rfl := Option.some.inj h115
                                    dsimp only at h
                                    obtain rfl := Option.some.inj h
                                    exact (fQ_fin [] [some .bool] (msk 224 []) (by kernel_rfl)).1
                                  · refine Run.condF (b := o49) (by kernel_rfl) hc53 ?_
                                    refine Run.skip ?_
                                    obtain rfl := Option.some.inj h222
                                    exact jQ.mk [.keep [1, 2, 7, 8, 9, 10, 12, 13, 39, 40, 41, 60, 61, 62] [28]] (by kernel_rfl) ⟨_, rfl, rfl⟩
                              · rintro _ ⟨v54, rfl, rfl⟩
                                dsimp only at h202
                                refine Run.reg tied [] [] [] [] (by kernel_rfl) trivial ?_
                                refine bN ?_
                                obtain rfl := Option.some.inj h202
                                exact jQ.mk [.keep [1, 2, 7, 8, 9, 10, 12, 13, 39, 40, 41, 60, 61, 62] [28]] (by kernel_rfl) ⟨_, rfl, rfl⟩
                            · refine Run.condF (b := o46) (by kernel_rfl) hc56 ?_
                              refine Run.skip ?_
                              refine bN ?_
                              obtain rfl := Option.some.inj h202
                              exact jQ.mk [.keep [1, 2, 7, 8, 9, 10, 12, 13, 39, 40, 41, 60, 61, 62] [28]] (by kernel_rfl) ⟨_, rfl, rfl⟩
                      · rintro _ ⟨v58, rfl, rfl⟩
                        dsimp only at h201
                        refine Run.reg tied [] [] [] [] (by kernel_rfl) trivial ?_
                        exact loopJ.mk [.keep [1, 2, 7, 8, 9, 10, 12, 13, 39, 40, 41, 60, 61, 62] [28]] (by kernel_rfl) ⟨_, _, _, h201, rfl⟩
                    · refine Run.condF (b := decide (u3_2 < (List.length ((((((nth T32 a0 u1_2).2).2).2).2).1) : Int))) (by kernel_rfl) hc60 ?_
                      refine Run.exit ?_
                      refine tE ?_
                      refine lE ?_
                      refine bE ?_
                      obtain rfl := Option.some.inj h201
                      exact jQ.mk [.keep [1, 2, 7, 8, 9, 10, 39, 40, 41] []] (by kernel_rfl) ⟨_, rfl, rfl⟩
                · rintro _ ⟨v61, rfl, rfl⟩
                  dsimp only at h116
                  refine bN ?_
                  obtain rfl := Option.some.inj h116
                  exact jQ.mk [.keep [1, 2, 7, 8, 9, 10, 39, 40, 41] []] (by kernel_rfl) ⟨_, rfl, rfl⟩
            · rintro _ ⟨v63, rfl, rfl⟩
              dsimp only at h115
              refine Run.reg tied [] [] [] [] (by kernel_rfl) trivial ?_
              exact loopJ.mk [.keep [1, 2, 7, 8, 9, 10, 39, 40, 41] []] (by kernel_rfl) ⟨_, _, _, h115, rfl⟩
          · refine Run.condF (b := decide (u1_2 < (List.length a0 : Int))) (by kernel_rfl) hc65 ?_
            refine Run.exit ?_
            refine tE ?_
            refine lE ?_
            refine bE ?_
            obtain rfl := Option.some.inj h115
            exact jQ.mk [.keep [7, 8, 9, 10] []] (by kernel_rfl) ⟨_, rfl, rfl⟩
      · rintro _ ⟨v66, rfl, rfl⟩
        dsimp only at h
        obtain ⟨o67, h225, h⟩ := bind_some h
        refine Run.seqJ (fun σ' => σ' = mkSt 184 224 [(6, (.val .bool o67))] []) ?_ ?_
        · rcases ite_some h225 with ⟨hg68, h225⟩ | ⟨hg68, h225⟩
          · refine Run.reg tied [] [true] [] [(decide (v66.1 = (List.length y10 : Int))) = true] (by kernel_rfl) ⟨hg68, trivial⟩ ?_
            obtain rfl := Option.some.inj h225
            exact jQ.mk [.keep [6] []] (by kernel_rfl) rfl
          · refine Run.reg tied [] [false] [] [(decide (v66.1 = (List.length y10 : Int))) = false] (by kernel_rfl) ⟨hg68, trivial⟩ ?_
            obtain rfl := Option.some.inj h225
            exact jQ.mk [.keep [6] []] (by kernel_rfl) rfl
        · rintro _ rfl
          refine Run.ret ?_
          obtain rfl := Option.some.inj h
          exact (fQ_fin [] [some .bool] (msk 224 []) (by kernel_rfl)).1

end Go.Proofs.YtjabllhapfphoaaGreatDoor
