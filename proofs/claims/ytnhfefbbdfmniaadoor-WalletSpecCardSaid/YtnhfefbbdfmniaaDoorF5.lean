/- Made by program (dec.py): walks -/
import Derived.Test.YtnhfefbbdfmniaaDoorF4
namespace Go.Proofs.YtnhfefbbdfmniaaDoor
open Go.Abs

/-- testamur.testamurlaw41.WalletPut -/
def f6_l1 (a0 : D23) (a1 : List D48) (a2 : List D53) (a3 : Int) (a4 : Int) : Nat → Int → Option (Ctl Unit Bool)
  | 0, _ => none
  | n1 + 1, u1_0 => if (decide (u1_0 < (List.length a1 : Int))) = true then (if 0 ≤ u1_0 ∧ u1_0 < (List.length a1 : Int) then (Option.bind (f22 (nth T48 a1 u1_0)) fun y14 => if (!y14) = true then (some (.ret true)) else (f6_l1 a0 a1 a2 a3 a4 n1 (w64 (u1_0 + (1 : Int))))) else none) else (some (.brk ()))

def f6_l2 (a0 : D23) (a1 : List D48) (a3 : Int) (y19 : D23 × Int) : Nat → Int → Option (Ctl Unit Bool)
  | 0, _ => none
  | n2 + 1, u2_0 => if (decide (u2_0 < (List.length y19.1.2.2.1 : Int))) = true then (Option.bind (if 0 ≤ u2_0 ∧ u2_0 < (List.length y19.1.2.2.1 : Int) then (Option.bind (Option.bind (if (decide (u2_0 < (List.length a0.2.2.1 : Int))) = true then (if u2_0 < (List.length a0.2.2.1 : Int) then (Option.bind (f25 (nth T55 y19.1.2.2.1 u2_0) (nth T55 a0.2.2.1 u2_0)) fun y52 => some (!y52)) else none) else (some false)) fun (o49 : Bool) => if o49 = true then (some (.ret false)) else (some (.brk ()))) fun (o48 : Ctl Unit Bool) => match o48 with | .brk _v55 => (Option.bind (if (decide ((List.length a0.2.2.1 : Int) ≤ u2_0)) = true then (if (!decide (((((nth T55 y19.1.2.2.1 u2_0).2).2).1) = a3)) = true then (some true) else (if (!decide ((((((nth T55 y19.1.2.2.1 u2_0).2).2).2).1) = (0 : Int))) = true then (some true) else (if 0 ≤ (w64 (u2_0 - (List.length a0.2.2.1 : Int))) ∧ (w64 (u2_0 - (List.length a0.2.2.1 : Int))) < (List.length a1 : Int) then (some (!decide (((((((nth T55 y19.1.2.2.1 u2_0).1).2).2).2).1) = (((((nth T48 a1 (w64 (u2_0 - (List.length a0.2.2.1 : Int)))).2).2).2).1)))) else none))) else (some false)) fun (o56 : Bool) => if o56 = true then (some (.ret false)) else (some (.brk ()))) | .ret r62 => (some (.ret r62))) else none) fun (o46 : Ctl Unit Bool) => match o46 with | .brk _v63 => (f6_l2 a0 a1 a3 y19 n2 (w64 (u2_0 + (1 : Int)))) | .ret r64 => (some (.ret r64))) else (some (.brk ()))

def f6 (a0 : D23) (a1 : List D48) (a2 : List D53) (a3 : Int) (a4 : Int) : Option Bool :=
  Option.bind (f7) fun y1 => if (!y1) = true then (some false) else (Option.bind (Option.bind (Option.bind (f8 a0) fun y5 => if (!y5) = true then (some true) else (if (decide ((4 : Int) < (List.length a1 : Int))) = true then (some true) else (if (decide ((4 : Int) < (List.length a2 : Int))) = true then (some true) else (some (!decide ((List.length a1 : Int) = (List.length a2 : Int))))))) fun (o4 : Bool) => if o4 = true then (some (.ret true)) else (some (.brk ()))) fun (o3 : Ctl Unit Bool) => match o3 with | .brk _v11 => (Option.bind (f6_l1 a0 a1 a2 a3 a4 (List.length a1 + 1) (0 : Int)) fun (o12 : Ctl Unit Bool) => match o12 with | .brk _v18 => (Option.bind (f23 a0 a1 a2 a3) fun y19 => if (w64 ((List.length a1 : Int) + (1 : Int))) ≠ 0 then (if 0 ≤ (Int.tmod (w64 (a4)) (w64 ((List.length a1 : Int) + (1 : Int)))) ∧ (Int.tmod (w64 (a4)) (w64 ((List.length a1 : Int) + (1 : Int)))) ≤ (List.length a1 : Int) then (if (Int.tmod (w64 (a4)) (w64 ((List.length a1 : Int) + (1 : Int)))) ≤ (List.length a2 : Int) then (Option.bind (f23 a0 (cutList a1 0 (Int.toNat (Int.tmod (w64 (a4)) (w64 ((List.length a1 : Int) + (1 : Int)))))) (cutList a2 0 (Int.toNat (Int.tmod (w64 (a4)) (w64 ((List.length a1 : Int) + (1 : Int)))))) a3) fun y24 => Option.bind (f23 y24.1 (cutList a1 (Int.toNat (Int.tmod (w64 (a4)) (w64 ((List.length a1 : Int) + (1 : Int))))) (List.length a1)) (cutList a2 (Int.toNat (Int.tmod (w64 (a4)) (w64 ((List.length a1 : Int) + (1 : Int))))) (List.length a2)) a3) fun y26 => if (!decide (y19.2 = (0 : Int))) = true then (Option.bind (if (decide ((List.length y19.1.2.2.1 : Int) = (0 : Int))) = true then (if (!decide (y24.2 = (0 : Int))) = true then (some true) else (some (!decide (y26.2 = (0 : Int))))) else (some false)) fun (o28 : Bool) => some o28) else (Option.bind (Option.bind (if (!decide (y24.2 = (0 : Int))) = true then (some true) else (if (!decide (y26.2 = (0 : Int))) = true then (some true) else (Option.bind (f15 y19.1 y26.1) fun y35 => if (!y35) = true then (some true) else (if (!decide ((List.length y19.1.2.2.1 : Int) = (w64 ((List.length a0.2.2.1 : Int) + (List.length a1 : Int))))) = true then (some true) else (Option.bind (f16 y19.1) fun y39 => if (!decide (y39 = (0 : Int))) = true then (some true) else (if (!decide (y19.1.2.1 = a0.2.1)) = true then (some true) else (some (!decide (y19.1.1 = a0.1))))))))) fun (o32 : Bool) => if o32 = true then (some (.ret false)) else (some (.brk ()))) fun (o31 : Ctl Unit Bool) => match o31 with | .brk _v44 => (Option.bind (f6_l2 a0 a1 a3 y19 (List.length y19.1.2.2.1 + 1) (0 : Int)) fun (o45 : Ctl Unit Bool) => match o45 with | .brk _v66 => (some true) | .ret r67 => (some r67)) | .ret r68 => (some r68))) else none) else none) else none) | .ret r70 => (some r70)) | .ret r71 => (some r71))

set_option maxRecDepth 100000 in
theorem x6 (a0 : D23) (a1 : List D48) (a2 : List D53) (a3 : Int) (a4 : Int) (r : Bool) (h : f6 a0 a1 a2 a3 a4 = some r) : Fc Tryd.prog gl 6 [(.val T23 a0), (.val (.slice 136 T48) a1), (.val (.slice 56 T53) a2), (.val (.int .i64) a3), (.val (.int .u8) a4)] (hset (List.replicate 244 none) []) (.ret (.val .bool r)) (outH 244 []) := by
  refine Fc.of Tryd.call6 (FnEx.of_runF tied Tryd.func6 rfl rfl (σ0 := mkSt 204 244 [(0, (.val T23 a0)), (1, (.val (.slice 136 T48) a1)), (2, (.val (.slice 56 T53) a2)), (3, (.val (.int .i64) a3)), (4, (.val (.int .u8) a4))] []) (by kernel_rfl) ?_)
  unfold f6 at h
  refine Run.sreg tied [] [] [] [] (by kernel_rfl) trivial ?_
  refine Run.seq ?_
  obtain ⟨y1, hy2, h⟩ := bind_some h
  refine Run.sreg tied [⟨(.val .bool y1), [], [], [], 295⟩] [] [] [Fc Tryd.prog gl 7 [] (hset (List.replicate 295 none) []) (.ret (.val .bool y1)) (outH 295 [])] (by kernel_rfl) ⟨x7  _ hy2, trivial⟩ ?_
  rcases ite_some h with ⟨hc72, h⟩ | ⟨hc72, h⟩
  · refine Run.condT (b := !y1) (by kernel_rfl) hc72 ?_
    refine Run.sreg tied [] [] [] [] (by kernel_rfl) trivial ?_
    refine Run.ret ?_
    obtain rfl := Option.some.inj h
    exact (fQ_fin [] [some .bool] (msk 244 []) (by kernel_rfl)).1
  · refine Run.condF (b := !y1) (by kernel_rfl) hc72 ?_
    refine Run.skip ?_
    change Run _ _ _ _ _
    obtain ⟨o3, h1, h⟩ := bind_some h
    refine Run.seqJ (fun σ' => ∃ v11, o3 = .brk v11 ∧ σ' = mkSt 204 244 [(1, (.val (.slice 136 T48) a1)), (2, (.val (.slice 56 T53) a2)), (3, (.val (.int .i64) a3)), (4, (.val (.int .u8) a4)), (5, (.ptr 21 []))] [(21, some (.var T23 (.val T23 a0)))]) ?_ ?_
    · obtain ⟨o4, h3, h1⟩ := bind_some h1
      refine Run.seqJ (fun σ' => σ' = mkSt 204 244 [(1, (.val (.slice 136 T48) a1)), (2, (.val (.slice 56 T53) a2)), (3, (.val (.int .i64) a3)), (4, (.val (.int .u8) a4)), (5, (.ptr 21 [])), (43, (.val .bool o4))] [(21, some (.var T23 (.val T23 a0)))]) ?_ ?_
      · obtain ⟨y5, hy6, h3⟩ := bind_some h3
        rcases ite_some h3 with ⟨hg7, h3⟩ | ⟨hg7, h3⟩
        · refine Run.reg tied [⟨(.val .bool y5), [], [], [], 74⟩] [true, true, true] [] [Fc Tryd.prog gl 8 [(.val T23 a0)] (hset (List.replicate 74 none) []) (.ret (.val .bool y5)) (outH 74 []), (!y5) = true, true = true, true = true] (by kernel_rfl) ⟨x8 _ _ hy6, hg7, rfl, rfl, trivial⟩ ?_
          obtain rfl := Option.some.inj h3
          exact jQ.mk [.keep [1, 2, 3, 4, 5, 43] [21]] (by kernel_rfl) rfl
        · rcases ite_some h3 with ⟨hg8, h3⟩ | ⟨hg8, h3⟩
          · refine Run.reg tied [⟨(.val .bool y5), [], [], [], 74⟩] [false, true, true] [] [Fc Tryd.prog gl 8 [(.val T23 a0)] (hset (List.replicate 74 none) []) (.ret (.val .bool y5)) (outH 74 []), (!y5) = false, (decide ((4 : Int) < (List.length a1 : Int))) = true, true = true] (by kernel_rfl) ⟨x8 _ _ hy6, hg7, hg8, rfl, trivial⟩ ?_
            obtain rfl := Option.some.inj h3
            exact jQ.mk [.keep [1, 2, 3, 4, 5, 43] [21]] (by kernel_rfl) rfl
          · rcases ite_some h3 with ⟨hg9, h3⟩ | ⟨hg9, h3⟩
            · refine Run.reg tied [⟨(.val .bool y5), [], [], [], 74⟩] [false, false, true] [] [Fc Tryd.prog gl 8 [(.val T23 a0)] (hset (List.replicate 74 none) []) (.ret (.val .bool y5)) (outH 74 []), (!y5) = false, (decide ((4 : Int) < (List.length a1 : Int))) = false, (decide ((4 : Int) < (List.length a2 : Int))) = true] (by kernel_rfl) ⟨x8 _ _ hy6, hg7, hg8, hg9, trivial⟩ ?_
              obtain rfl := Option.some.inj h3
              exact jQ.mk [.keep [1, 2, 3, 4, 5, 43] [21]] (by kernel_rfl) rfl
            · refine Run.reg tied [⟨(.val .bool y5), [], [], [], 74⟩] [false, false, false] [] [Fc Tryd.prog gl 8 [(.val T23 a0)] (hset (List.replicate 74 none) []) (.ret (.val .bool y5)) (outH 74 []), (!y5) = false, (decide ((4 : Int) < (List.length a1 : Int))) = false, (decide ((4 : Int) < (List.length a2 : Int))) = false] (by kernel_rfl) ⟨x8 _ _ hy6, hg7, hg8, hg9, trivial⟩ ?_
              obtain rfl := Option.some.inj h3
              exact jQ.mk [.keep [1, 2, 3, 4, 5, 43] [21]] (by kernel_rfl) rfl
      · rintro _ rfl
        rcases ite_some h1 with ⟨hc10, h1⟩ | ⟨hc10, h1⟩
        · refine Run.condT (b := o4) (by kernel_rfl) hc10 ?_
          refine Run.sreg tied [] [] [] [] (by kernel_rfl) trivial ?_
          refine Run.ret ?_
          obtain rfl := Option.some.inj h1
          dsimp only at h
          obtain rfl := Option.some.inj h
          exact (fQ_fin [] [some .bool] (msk 244 []) (by kernel_rfl)).1
        · refine Run.condF (b := o4) (by kernel_rfl) hc10 ?_
          refine Run.skip ?_
          obtain rfl := Option.some.inj h1
          exact jQ.mk [.keep [1, 2, 3, 4, 5] [21]] (by kernel_rfl) ⟨_, rfl, rfl⟩
    · rintro _ ⟨v11, rfl, rfl⟩
      dsimp only at h
      obtain ⟨o12, h4, h⟩ := bind_some h
      refine Run.seqJ (fun σ' => ∃ v18, o12 = .brk v18 ∧ σ' = mkSt 204 244 [(1, (.val (.slice 136 T48) a1)), (2, (.val (.slice 56 T53) a2)), (3, (.val (.int .i64) a3)), (4, (.val (.int .u8) a4)), (5, (.ptr 21 []))] [(21, some (.var T23 (.val T23 a0)))]) ?_ ?_
      · refine Run.sreg tied [] [] [] [] (by kernel_rfl) trivial ?_
        refine Run.block ?_
        refine Run.loopJ (fun n σ => ∃ (u1_0 : Int), f6_l1 a0 a1 a2 a3 a4 n u1_0 = some o12 ∧ σ = mkSt 204 244 [(1, (.val (.slice 136 T48) a1)), (2, (.val (.slice 56 T53) a2)), (3, (.val (.int .i64) a3)), (4, (.val (.int .u8) a4)), (5, (.ptr 21 [])), (44, (.val (.slice 136 T48) a1)), (45, (.val (.int .i64) (List.length a1 : Int))), (46, (.val (.int .i64) u1_0))] [(21, some (.var T23 (.val T23 a0)))]) [.keep [1, 2, 3, 4, 5, 44, 45, 46] [21]] (by kernel_rfl) ⟨_, h4, rfl⟩ ?_
        rintro n1 _ ⟨u1_0, h6, rfl⟩
        cases n1 with
        | zero => exact absurd h6 (by simp [f6_l1])
        | succ n1 =>
          unfold f6_l1 at h6
          refine Run.sreg tied [] [] [] [] (by kernel_rfl) trivial ?_
          refine Run.seq ?_
          rcases ite_some h6 with ⟨hc17, h6⟩ | ⟨hc17, h6⟩
          · refine Run.condT (b := decide (u1_0 < (List.length a1 : Int))) (by kernel_rfl) hc17 ?_
            refine Run.skip ?_
            change Run _ _ _ _ _
            refine Run.seq ?_
            refine Run.block ?_
            obtain ⟨hv13, h6⟩ := ite_none h6
            refine Run.sreg tied [] [] [] [0 ≤ u1_0, u1_0 < (List.length a1 : Int)] (by kernel_rfl) ⟨hv13.1, hv13.2, trivial⟩ ?_
            obtain ⟨y14, hy15, h6⟩ := bind_some h6
            refine Run.sreg tied [⟨(.val .bool y14), [], [], [], 85⟩] [] [] [Fc Tryd.prog gl 22 [(.val T48 (nth T48 a1 u1_0))] (hset (List.replicate 85 none) []) (.ret (.val .bool y14)) (outH 85 [])] (by kernel_rfl) ⟨x22 _ _ hy15, trivial⟩ ?_
            rcases ite_some h6 with ⟨hc16, h6⟩ | ⟨hc16, h6⟩
            · refine Run.condT (b := !y14) (by kernel_rfl) hc16 ?_
              refine Run.sreg tied [] [] [] [] (by kernel_rfl) trivial ?_
              refine Run.ret ?_
              obtain rfl := Option.some.inj h6
              dsimp only at h
              obtain rfl := Option.some.inj h
              exact (fQ_fin [] [some .bool] (msk 244 []) (by kernel_rfl)).1
            · refine Run.condF (b := !y14) (by kernel_rfl) hc16 ?_
              refine Run.skip ?_
              refine bN ?_
              change Run _ _ _ _ _
              refine Run.reg tied [] [] [] [] (by kernel_rfl) trivial ?_
              exact loopJ.mk [.keep [1, 2, 3, 4, 5, 44, 45, 46] [21]] (by kernel_rfl) ⟨_, h6, rfl⟩
          · refine Run.condF (b := decide (u1_0 < (List.length a1 : Int))) (by kernel_rfl) hc17 ?_
            refine Run.exit ?_
            refine tE ?_
            refine lE ?_
            refine bE ?_
            obtain rfl := Option.some.inj h6
            exact jQ.mk [.keep [1, 2, 3, 4, 5] [21]] (by kernel_rfl) ⟨_, rfl, rfl⟩
      · rintro _ ⟨v18, rfl, rfl⟩
        dsimp only at h
        obtain ⟨y19, hy20, h⟩ := bind_some h
        refine Run.sreg tied [⟨(.tup (.cons (.val T23 y19.1) (.cons (.val (.int .i64) y19.2) .nil))), [], [], [], 98⟩] [] [] [Fc Tryd.prog gl 23 [(.val T23 a0), (.val (.slice 136 T48) a1), (.val (.slice 56 T53) a2), (.val (.int .i64) a3)] (hset (List.replicate 98 none) []) (.ret (.tup (.cons (.val T23 y19.1) (.cons (.val (.int .i64) y19.2) .nil)))) (outH 98 [])] (by kernel_rfl) ⟨x23 _ _ _ _ _ hy20, trivial⟩ ?_
        obtain ⟨hv21, h⟩ := ite_none h
        refine Run.sreg tied [] [] [] [(w64 ((List.length a1 : Int) + (1 : Int))) ≠ 0] (by kernel_rfl) ⟨hv21, trivial⟩ ?_
        obtain ⟨hv22, h⟩ := ite_none h
        obtain ⟨hv23, h⟩ := ite_none h
        obtain ⟨y24, hy25, h⟩ := bind_some h
        refine Run.sregA tied [⟨(.tup (.cons (.val T23 y24.1) (.cons (.val (.int .i64) y24.2) .nil))), [], [], [], 98⟩] [] [] [0 ≤ (Int.tmod (w64 (a4)) (w64 ((List.length a1 : Int) + (1 : Int)))), (Int.tmod (w64 (a4)) (w64 ((List.length a1 : Int) + (1 : Int)))) ≤ (List.length a1 : Int), 0 ≤ (Int.tmod (w64 (a4)) (w64 ((List.length a1 : Int) + (1 : Int)))), (Int.tmod (w64 (a4)) (w64 ((List.length a1 : Int) + (1 : Int)))) ≤ (List.length a2 : Int), Fc Tryd.prog gl 23 [(.val T23 a0), (.val (.slice 136 T48) (cutList a1 0 (Int.toNat (Int.tmod (w64 (a4)) (w64 ((List.length a1 : Int) + (1 : Int))))))), (.val (.slice 56 T53) (cutList a2 0 (Int.toNat (Int.tmod (w64 (a4)) (w64 ((List.length a1 : Int) + (1 : Int))))))), (.val (.int .i64) a3)] (hset (List.replicate 98 none) []) (.ret (.tup (.cons (.val T23 y24.1) (.cons (.val (.int .i64) y24.2) .nil)))) (outH 98 [])] (by kernel_rfl) ⟨hv22.1, hv22.2, hv22.1, hv23, x23 _ _ _ _ _ hy25, trivial⟩ ?_
        obtain ⟨y26, hy27, h⟩ := bind_some h
        refine Run.sregA tied [⟨(.tup (.cons (.val T23 y26.1) (.cons (.val (.int .i64) y26.2) .nil))), [], [], [], 98⟩] [] [] [0 ≤ (Int.tmod (w64 (a4)) (w64 ((List.length a1 : Int) + (1 : Int)))), (Int.tmod (w64 (a4)) (w64 ((List.length a1 : Int) + (1 : Int)))) ≤ (List.length a1 : Int), 0 ≤ (Int.tmod (w64 (a4)) (w64 ((List.length a1 : Int) + (1 : Int)))), (Int.tmod (w64 (a4)) (w64 ((List.length a1 : Int) + (1 : Int)))) ≤ (List.length a2 : Int), Fc Tryd.prog gl 23 [(.val T23 y24.1), (.val (.slice 136 T48) (cutList a1 (Int.toNat (Int.tmod (w64 (a4)) (w64 ((List.length a1 : Int) + (1 : Int))))) (List.length a1))), (.val (.slice 56 T53) (cutList a2 (Int.toNat (Int.tmod (w64 (a4)) (w64 ((List.length a1 : Int) + (1 : Int))))) (List.length a2))), (.val (.int .i64) a3)] (hset (List.replicate 98 none) []) (.ret (.tup (.cons (.val T23 y26.1) (.cons (.val (.int .i64) y26.2) .nil)))) (outH 98 [])] (by kernel_rfl) ⟨hv22.1, hv22.2, hv22.1, hv23, x23 _ _ _ _ _ hy27, trivial⟩ ?_
        refine Run.seq ?_
        refine Run.sreg tied [] [] [] [] (by kernel_rfl) trivial ?_
        rcases ite_some h with ⟨hc69, h⟩ | ⟨hc69, h⟩
        · refine Run.condT (b := !decide (y19.2 = (0 : Int))) (by kernel_rfl) hc69 ?_
          obtain ⟨o28, h7, h⟩ := bind_some h
          refine Run.seqJ (fun σ' => σ' = mkSt 204 244 [(10, (.val .bool o28))] []) ?_ ?_
          · rcases ite_some h7 with ⟨hg29, h7⟩ | ⟨hg29, h7⟩
            · rcases ite_some h7 with ⟨hg30, h7⟩ | ⟨hg30, h7⟩
              · refine Run.reg tied [] [true, true] [] [(decide ((List.length y19.1.2.2.1 : Int) = (0 : Int))) = true, (!decide (y24.2 = (0 : Int))) = true] (by kernel_rfl) ⟨hg29, hg30, trivial⟩ ?_
                obtain rfl := Option.some.inj h7
                exact jQ.mk [.keep [10] []] (by kernel_rfl) rfl
              · refine Run.reg tied [] [true, false] [] [(decide ((List.length y19.1.2.2.1 : Int) = (0 : Int))) = true, (!decide (y24.2 = (0 : Int))) = false] (by kernel_rfl) ⟨hg29, hg30, trivial⟩ ?_
                obtain rfl := Option.some.inj h7
                exact jQ.mk [.keep [10] []] (by kernel_rfl) rfl
            · refine Run.reg tied [] [false, false] [] [(decide ((List.length y19.1.2.2.1 : Int) = (0 : Int))) = false] (by kernel_rfl) ⟨hg29, trivial⟩ ?_
              obtain rfl := Option.some.inj h7
              exact jQ.mk [.keep [10] []] (by kernel_rfl) rfl
          · rintro _ rfl
            refine Run.ret ?_
            obtain rfl := Option.some.inj h
            exact (fQ_fin [] [some .bool] (msk 244 []) (by kernel_rfl)).1
        · refine Run.condF (b := !decide (y19.2 = (0 : Int))) (by kernel_rfl) hc69 ?_
          refine Run.skip ?_
          change Run _ _ _ _ _
          obtain ⟨o31, h8, h⟩ := bind_some h
          refine Run.seqJ (fun σ' => ∃ v44, o31 = .brk v44 ∧ σ' = mkSt 204 244 [(1, (.val (.slice 136 T48) a1)), (3, (.val (.int .i64) a3)), (5, (.ptr 21 [])), (13, (.ptr 29 []))] [(21, some (.var T23 (.val T23 a0))), (29, some (.var T23 (.val T23 y19.1)))]) ?_ ?_
          · obtain ⟨o32, h10, h8⟩ := bind_some h8
            refine Run.seqJ (fun σ' => σ' = mkSt 204 244 [(1, (.val (.slice 136 T48) a1)), (3, (.val (.int .i64) a3)), (5, (.ptr 21 [])), (13, (.ptr 29 [])), (148, (.val .bool o32))] [(21, some (.var T23 (.val T23 a0))), (29, some (.var T23 (.val T23 y19.1)))]) ?_ ?_
            · rcases ite_some h10 with ⟨hg33, h10⟩ | ⟨hg33, h10⟩
              · refine Run.reg tied [] [true, true, true, true, true, true] [] [(!decide (y24.2 = (0 : Int))) = true, true = true, true = true, true = true, true = true, true = true] (by kernel_rfl) ⟨hg33, rfl, rfl, rfl, rfl, rfl, trivial⟩ ?_
                obtain rfl := Option.some.inj h10
                exact jQ.mk [.keep [1, 3, 5, 13, 148] [21, 29]] (by kernel_rfl) rfl
              · rcases ite_some h10 with ⟨hg34, h10⟩ | ⟨hg34, h10⟩
                · refine Run.reg tied [] [false, true, true, true, true, true] [] [(!decide (y24.2 = (0 : Int))) = false, (!decide (y26.2 = (0 : Int))) = true, true = true, true = true, true = true, true = true] (by kernel_rfl) ⟨hg33, hg34, rfl, rfl, rfl, rfl, trivial⟩ ?_
                  obtain rfl := Option.some.inj h10
                  exact jQ.mk [.keep [1, 3, 5, 13, 148] [21, 29]] (by kernel_rfl) rfl
                · obtain ⟨y35, hy36, h10⟩ := bind_some h10
                  rcases ite_some h10 with ⟨hg37, h10⟩ | ⟨hg37, h10⟩
                  · refine Run.reg tied [⟨(.val .bool y35), [], [], [], 86⟩] [false, false, true, true, true, true] [] [(!decide (y24.2 = (0 : Int))) = false, (!decide (y26.2 = (0 : Int))) = false, Fc Tryd.prog gl 15 [(.val T23 y19.1), (.val T23 y26.1)] (hset (List.replicate 86 none) []) (.ret (.val .bool y35)) (outH 86 []), (!y35) = true, true = true, true = true, true = true] (by kernel_rfl) ⟨hg33, hg34, x15 _ _ _ hy36, hg37, rfl, rfl, rfl, trivial⟩ ?_
                    obtain rfl := Option.some.inj h10
                    exact jQ.mk [.keep [1, 3, 5, 13, 148] [21, 29]] (by kernel_rfl) rfl
                  · rcases ite_some h10 with ⟨hg38, h10⟩ | ⟨hg38, h10⟩
                    · refine Run.reg tied [⟨(.val .bool y35), [], [], [], 86⟩] [false, false, false, true, true, true] [] [(!decide (y24.2 = (0 : Int))) = false, (!decide (y26.2 = (0 : Int))) = false, Fc Tryd.prog gl 15 [(.val T23 y19.1), (.val T23 y26.1)] (hset (List.replicate 86 none) []) (.ret (.val .bool y35)) (outH 86 []), (!y35) = false, (!decide ((List.length y19.1.2.2.1 : Int) = (w64 ((List.length a0.2.2.1 : Int) + (List.length a1 : Int))))) = true, true = true, true = true] (by kernel_rfl) ⟨hg33, hg34, x15 _ _ _ hy36, hg37, hg38, rfl, rfl, trivial⟩ ?_
                      obtain rfl := Option.some.inj h10
                      exact jQ.mk [.keep [1, 3, 5, 13, 148] [21, 29]] (by kernel_rfl) rfl
                    · obtain ⟨y39, hy40, h10⟩ := bind_some h10
                      rcases ite_some h10 with ⟨hg41, h10⟩ | ⟨hg41, h10⟩
                      · refine Run.reg tied [⟨(.val .bool y35), [], [], [], 86⟩, ⟨(.val (.int .i64) y39), [], [], [], 99⟩] [false, false, false, false, true, true] [] [(!decide (y24.2 = (0 : Int))) = false, (!decide (y26.2 = (0 : Int))) = false, Fc Tryd.prog gl 15 [(.val T23 y19.1), (.val T23 y26.1)] (hset (List.replicate 86 none) []) (.ret (.val .bool y35)) (outH 86 []), (!y35) = false, (!decide ((List.length y19.1.2.2.1 : Int) = (w64 ((List.length a0.2.2.1 : Int) + (List.length a1 : Int))))) = false, Fc Tryd.prog gl 16 [(.val T23 y19.1)] (hset (List.replicate 99 none) []) (.ret (.val (.int .i64) y39)) (outH 99 []), (!decide (y39 = (0 : Int))) = true, true = true] (by kernel_rfl) ⟨hg33, hg34, x15 _ _ _ hy36, hg37, hg38, x16 _ _ hy40, hg41, rfl, trivial⟩ ?_
                        obtain rfl := Option.some.inj h10
                        exact jQ.mk [.keep [1, 3, 5, 13, 148] [21, 29]] (by kernel_rfl) rfl
                      · rcases ite_some h10 with ⟨hg42, h10⟩ | ⟨hg42, h10⟩
                        · refine Run.reg tied [⟨(.val .bool y35), [], [], [], 86⟩, ⟨(.val (.int .i64) y39), [], [], [], 99⟩] [false, false, false, false, false, true] [] [(!decide (y24.2 = (0 : Int))) = false, (!decide (y26.2 = (0 : Int))) = false, Fc Tryd.prog gl 15 [(.val T23 y19.1), (.val T23 y26.1)] (hset (List.replicate 86 none) []) (.ret (.val .bool y35)) (outH 86 []), (!y35) = false, (!decide ((List.length y19.1.2.2.1 : Int) = (w64 ((List.length a0.2.2.1 : Int) + (List.length a1 : Int))))) = false, Fc Tryd.prog gl 16 [(.val T23 y19.1)] (hset (List.replicate 99 none) []) (.ret (.val (.int .i64) y39)) (outH 99 []), (!decide (y39 = (0 : Int))) = false, (!decide (y19.1.2.1 = a0.2.1)) = true] (by kernel_rfl) ⟨hg33, hg34, x15 _ _ _ hy36, hg37, hg38, x16 _ _ hy40, hg41, hg42, trivial⟩ ?_
                          obtain rfl := Option.some.inj h10
                          exact jQ.mk [.keep [1, 3, 5, 13, 148] [21, 29]] (by kernel_rfl) rfl
                        · refine Run.reg tied [⟨(.val .bool y35), [], [], [], 86⟩, ⟨(.val (.int .i64) y39), [], [], [], 99⟩] [false, false, false, false, false, false] [] [(!decide (y24.2 = (0 : Int))) = false, (!decide (y26.2 = (0 : Int))) = false, Fc Tryd.prog gl 15 [(.val T23 y19.1), (.val T23 y26.1)] (hset (List.replicate 86 none) []) (.ret (.val .bool y35)) (outH 86 []), (!y35) = false, (!decide ((List.length y19.1.2.2.1 : Int) = (w64 ((List.length a0.2.2.1 : Int) + (List.length a1 : Int))))) = false, Fc Tryd.prog gl 16 [(.val T23 y19.1)] (hset (List.replicate 99 none) []) (.ret (.val (.int .i64) y39)) (outH 99 []), (!decide (y39 = (0 : Int))) = false, (!decide (y19.1.2.1 = a0.2.1)) = false] (by kernel_rfl) ⟨hg33, hg34, x15 _ _ _ hy36, hg37, hg38, x16 _ _ hy40, hg41, hg42, trivial⟩ ?_
                          obtain rfl := Option.some.inj h10
                          exact jQ.mk [.keep [1, 3, 5, 13, 148] [21, 29]] (by kernel_rfl) rfl
            · rintro _ rfl
              rcases ite_some h8 with ⟨hc43, h8⟩ | ⟨hc43, h8⟩
              · refine Run.condT (b := o32) (by kernel_rfl) hc43 ?_
                refine Run.sreg tied [] [] [] [] (by kernel_rfl) trivial ?_
                refine Run.ret ?_
                obtain rfl := Option.some.inj h8
                dsimp only at h
                obtain rfl := Option.some.inj h
                exact (fQ_fin [] [some .bool] (msk 244 []) (by kernel_rfl)).1
              · refine Run.condF (b := o32) (by kernel_rfl) hc43 ?_
                refine Run.skip ?_
                obtain rfl := Option.some.inj h8
                exact jQ.mk [.keep [1, 3, 5, 13] [21, 29]] (by kernel_rfl) ⟨_, rfl, rfl⟩
          · rintro _ ⟨v44, rfl, rfl⟩
            dsimp only at h
            obtain ⟨o45, h11, h⟩ := bind_some h
            refine Run.seqJ (fun σ' => ∃ v66, o45 = .brk v66 ∧ σ' = mkSt 204 244 [] []) ?_ ?_
            · refine Run.sreg tied [] [] [] [] (by kernel_rfl) trivial ?_
              refine Run.block ?_
              refine Run.loopJ (fun n σ => ∃ (u2_0 : Int), f6_l2 a0 a1 a3 y19 n u2_0 = some o45 ∧ σ = mkSt 204 244 [(1, (.val (.slice 136 T48) a1)), (3, (.val (.int .i64) a3)), (5, (.ptr 21 [])), (150, (.val (.slice 208 T55) y19.1.2.2.1)), (151, (.val (.int .i64) (List.length y19.1.2.2.1 : Int))), (152, (.val (.int .i64) u2_0))] [(21, some (.var T23 (.val T23 a0)))]) [.keep [1, 3, 5, 150, 151, 152] [21]] (by kernel_rfl) ⟨_, h11, rfl⟩ ?_
              rintro n2 _ ⟨u2_0, h22, rfl⟩
              cases n2 with
              | zero => exact absurd h22 (by simp [f6_l2])
              | succ n2 =>
                unfold f6_l2 at h22
                refine Run.sreg tied [] [] [] [] (by kernel_rfl) trivial ?_
                refine Run.seq ?_
                rcases ite_some h22 with ⟨hc65, h22⟩ | ⟨hc65, h22⟩
                · refine Run.condT (b := decide (u2_0 < (List.length y19.1.2.2.1 : Int))) (by kernel_rfl) hc65 ?_
                  refine Run.skip ?_
                  change Run _ _ _ _ _
                  obtain ⟨o46, h23, h22⟩ := bind_some h22
                  refine Run.seqJ (fun σ' => ∃ v63, o46 = .brk v63 ∧ σ' = mkSt 204 244 [(1, (.val (.slice 136 T48) a1)), (3, (.val (.int .i64) a3)), (5, (.ptr 21 [])), (150, (.val (.slice 208 T55) y19.1.2.2.1)), (151, (.val (.int .i64) (List.length y19.1.2.2.1 : Int))), (152, (.val (.int .i64) u2_0))] [(21, some (.var T23 (.val T23 a0)))]) ?_ ?_
                  · refine Run.block ?_
                    obtain ⟨hv47, h23⟩ := ite_none h23
                    refine Run.sreg tied [] [] [] [0 ≤ u2_0, u2_0 < (List.length y19.1.2.2.1 : Int)] (by kernel_rfl) ⟨hv47.1, hv47.2, trivial⟩ ?_
                    obtain ⟨o48, h28, h23⟩ := bind_some h23
                    refine Run.seqJ (fun σ' => ∃ v55, o48 = .brk v55 ∧ σ' = mkSt 204 244 [(1, (.val (.slice 136 T48) a1)), (3, (.val (.int .i64) a3)), (5, (.ptr 21 [])), (20, (.val (.int .i64) u2_0)), (21, (.ptr 37 [])), (150, (.val (.slice 208 T55) y19.1.2.2.1)), (151, (.val (.int .i64) (List.length y19.1.2.2.1 : Int))), (152, (.val (.int .i64) u2_0))] [(21, some (.var T23 (.val T23 a0))), (37, some (.var T55 (.val T55 (nth T55 y19.1.2.2.1 u2_0))))]) ?_ ?_
                    · obtain ⟨o49, h30, h28⟩ := bind_some h28
                      refine Run.seqJ (fun σ' => σ' = mkSt 204 244 [(1, (.val (.slice 136 T48) a1)), (3, (.val (.int .i64) a3)), (5, (.ptr 21 [])), (20, (.val (.int .i64) u2_0)), (21, (.ptr 37 [])), (150, (.val (.slice 208 T55) y19.1.2.2.1)), (151, (.val (.int .i64) (List.length y19.1.2.2.1 : Int))), (152, (.val (.int .i64) u2_0)), (171, (.val .bool o49))] [(21, some (.var T23 (.val T23 a0))), (37, some (.var T55 (.val T55 (nth T55 y19.1.2.2.1 u2_0))))]) ?_ ?_
                      · rcases ite_some h30 with ⟨hg50, h30⟩ | ⟨hg50, h30⟩
                        · obtain ⟨hv51, h30⟩ := ite_none h30
                          obtain ⟨y52, hy53, h30⟩ := bind_some h30
                          refine Run.regA tied [⟨(.val .bool y52), [], [], [], 82⟩] [true] [] [(decide (u2_0 < (List.length a0.2.2.1 : Int))) = true, 0 ≤ u2_0, u2_0 < (List.length a0.2.2.1 : Int), Fc Tryd.prog gl 25 [(.val T55 (nth T55 y19.1.2.2.1 u2_0)), (.val T55 (nth T55 a0.2.2.1 u2_0))] (hset (List.replicate 82 none) []) (.ret (.val .bool y52)) (outH 82 [])] (by kernel_rfl) ⟨hg50, hv47.1, hv51, x25 _ _ _ hy53, trivial⟩ ?_
                          obtain rfl := Option.some.inj h30
                          exact jQ.mk [.keep [1, 3, 5, 20, 21, 150, 151, 152, 171] [21, 37]] (by kernel_rfl) rfl
                        · refine Run.regA tied [] [false] [] [(decide (u2_0 < (List.length a0.2.2.1 : Int))) = false] (by kernel_rfl) ⟨hg50, trivial⟩ ?_
                          obtain rfl := Option.some.inj h30
                          exact jQ.mk [.keep [1, 3, 5, 20, 21, 150, 151, 152, 171] [21, 37]] (by kernel_rfl) rfl
                      · rintro _ rfl
                        rcases ite_some h28 with ⟨hc54, h28⟩ | ⟨hc54, h28⟩
                        · refine Run.condT (b := o49) (by kernel_rfl) hc54 ?_
                          refine Run.sreg tied [] [] [] [] (by kernel_rfl) trivial ?_
                          refine Run.ret ?_
                          obtain rfl := Option.some.inj h28
                          dsimp only at h23
                          obtain rfl := Option.some.inj h23
                          dsimp only at h22
                          obtain rfl := Option.some.inj h22
                          dsimp only at h
                          obtain rfl := Option.some.inj h
                          exact (fQ_fin [] [some .bool] (msk 244 []) (by kernel_rfl)).1
                        · refine Run.condF (b := o49) (by kernel_rfl) hc54 ?_
                          refine Run.skip ?_
                          obtain rfl := Option.some.inj h28
                          exact jQ.mk [.keep [1, 3, 5, 20, 21, 150, 151, 152] [21, 37]] (by kernel_rfl) ⟨_, rfl, rfl⟩
                    · rintro _ ⟨v55, rfl, rfl⟩
                      dsimp only at h23
                      obtain ⟨o56, h31, h23⟩ := bind_some h23
                      refine Run.seqJ (fun σ' => σ' = mkSt 204 244 [(1, (.val (.slice 136 T48) a1)), (3, (.val (.int .i64) a3)), (5, (.ptr 21 [])), (150, (.val (.slice 208 T55) y19.1.2.2.1)), (151, (.val (.int .i64) (List.length y19.1.2.2.1 : Int))), (152, (.val (.int .i64) u2_0)), (202, (.val .bool o56))] [(21, some (.var T23 (.val T23 a0)))]) ?_ ?_
                      · rcases ite_some h31 with ⟨hg57, h31⟩ | ⟨hg57, h31⟩
                        · rcases ite_some h31 with ⟨hg58, h31⟩ | ⟨hg58, h31⟩
                          · refine Run.regA tied [] [true, true, true] [] [(decide ((List.length a0.2.2.1 : Int) ≤ u2_0)) = true, (!decide (((((nth T55 y19.1.2.2.1 u2_0).2).2).1) = a3)) = true, true = true] (by kernel_rfl) ⟨hg57, hg58, rfl, trivial⟩ ?_
                            obtain rfl := Option.some.inj h31
                            exact jQ.mk [.keep [1, 3, 5, 150, 151, 152, 202] [21]] (by kernel_rfl) rfl
                          · rcases ite_some h31 with ⟨hg59, h31⟩ | ⟨hg59, h31⟩
                            · refine Run.regA tied [] [true, false, true] [] [(decide ((List.length a0.2.2.1 : Int) ≤ u2_0)) = true, (!decide (((((nth T55 y19.1.2.2.1 u2_0).2).2).1) = a3)) = false, (!decide ((((((nth T55 y19.1.2.2.1 u2_0).2).2).2).1) = (0 : Int))) = true] (by kernel_rfl) ⟨hg57, hg58, hg59, trivial⟩ ?_
                              obtain rfl := Option.some.inj h31
                              exact jQ.mk [.keep [1, 3, 5, 150, 151, 152, 202] [21]] (by kernel_rfl) rfl
                            · obtain ⟨hv60, h31⟩ := ite_none h31
                              refine Run.regA tied [] [true, false, false] [] [(decide ((List.length a0.2.2.1 : Int) ≤ u2_0)) = true, (!decide (((((nth T55 y19.1.2.2.1 u2_0).2).2).1) = a3)) = false, (!decide ((((((nth T55 y19.1.2.2.1 u2_0).2).2).2).1) = (0 : Int))) = false, 0 ≤ (w64 (u2_0 - (List.length a0.2.2.1 : Int))), (w64 (u2_0 - (List.length a0.2.2.1 : Int))) < (List.length a1 : Int)] (by kernel_rfl) ⟨hg57, hg58, hg59, hv60.1, hv60.2, trivial⟩ ?_
                              obtain rfl := Option.some.inj h31
                              exact jQ.mk [.keep [1, 3, 5, 150, 151, 152, 202] [21]] (by kernel_rfl) rfl
                        · refine Run.regA tied [] [false, false, false] [] [(decide ((List.length a0.2.2.1 : Int) ≤ u2_0)) = false] (by kernel_rfl) ⟨hg57, trivial⟩ ?_
                          obtain rfl := Option.some.inj h31
                          exact jQ.mk [.keep [1, 3, 5, 150, 151, 152, 202] [21]] (by kernel_rfl) rfl
                      · rintro _ rfl
                        rcases ite_some h23 with ⟨hc61, h23⟩ | ⟨hc61, h23⟩
                        · refine Run.condT (b := o56) (by kernel_rfl) hc61 ?_
                          refine Run.sreg tied [] [] [] [] (by kernel_rfl) trivial ?_
                          refine Run.ret ?_
                          obtain rfl := Option.some.inj h23
                          dsimp only at h22
                          obtain rfl := Option.some.inj h22
                          dsimp only at h
                          obtain rfl := Option.some.inj h
                          exact (fQ_fin [] [some .bool] (msk 244 []) (by kernel_rfl)).1
                        · refine Run.condF (b := o56) (by kernel_rfl) hc61 ?_
                          refine Run.skip ?_
                          refine bN ?_
                          obtain rfl := Option.some.inj h23
                          exact jQ.mk [.keep [1, 3, 5, 150, 151, 152] [21]] (by kernel_rfl) ⟨_, rfl, rfl⟩
                  · rintro _ ⟨v63, rfl, rfl⟩
                    dsimp only at h22
                    refine Run.reg tied [] [] [] [] (by kernel_rfl) trivial ?_
                    exact loopJ.mk [.keep [1, 3, 5, 150, 151, 152] [21]] (by kernel_rfl) ⟨_, h22, rfl⟩
                · refine Run.condF (b := decide (u2_0 < (List.length y19.1.2.2.1 : Int))) (by kernel_rfl) hc65 ?_
                  refine Run.exit ?_
                  refine tE ?_
                  refine lE ?_
                  refine bE ?_
                  obtain rfl := Option.some.inj h22
                  exact jQ.mk [.keep [] []] (by kernel_rfl) ⟨_, rfl, rfl⟩
            · rintro _ ⟨v66, rfl, rfl⟩
              dsimp only at h
              refine Run.sreg tied [] [] [] [] (by kernel_rfl) trivial ?_
              refine Run.ret ?_
              obtain rfl := Option.some.inj h
              exact (fQ_fin [] [some .bool] (msk 244 []) (by kernel_rfl)).1

end Go.Proofs.YtnhfefbbdfmniaaDoor
