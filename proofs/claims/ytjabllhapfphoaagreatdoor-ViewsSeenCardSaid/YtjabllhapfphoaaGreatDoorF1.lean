/- Made by program (dec.py): walks -/
import Derived.Test.YtjabllhapfphoaaGreatDoorBase
import Derived.Test.YtjabllhapfphoaaGreatDoorS6
namespace Go.Proofs.YtjabllhapfphoaaGreatDoor
open Go.Abs

/-- testamur.testamurlaw29.sane -/
def f5 : Option Bool :=
  some true

set_option maxRecDepth 100000 in
theorem x5 (r : Bool) (h : f5 = some r) : Fc Tryz.prog gl 5 [] (hset (List.replicate 281 none) []) (.ret (.val .bool r)) (outH 281 []) := by
  cases h
  exact sane_fc _

/-- testamur.testamurref06.Few -/
def f61 (a0 : Int) (a1 : D84) : Option Bool :=
  Option.bind (if (decide (a0 ≤ (10 : Int))) = true then (if (decide ((List.length a1.2.1 : Int) ≤ (30 : Int))) = true then (some (decide ((List.length a1.2.2.1 : Int) ≤ (12 : Int)))) else (some false)) else (if (decide ((256 : Int) < a0)) = true then (if (decide ((List.length a1.2.1 : Int) ≤ (30 : Int))) = true then (some (decide ((List.length a1.2.2.1 : Int) ≤ (12 : Int)))) else (some false)) else (some false))) fun (o1 : Bool) => some o1

set_option maxRecDepth 100000 in
theorem x61 (a0 : Int) (a1 : D84) (r : Bool) (h : f61 a0 a1 = some r) : Fc Tryz.prog gl 61 [(.val (.int .i64) a0), (.val T84 a1)] (hset (List.replicate 63 none) []) (.ret (.val .bool r)) (outH 63 []) := by
  refine Fc.of Tryz.call61 (FnEx.of_runF tied Tryz.func61 rfl rfl (σ0 := mkSt 23 63 [(0, (.val (.int .i64) a0)), (1, (.val T84 a1))] []) (by kernel_rfl) ?_)
  unfold f61 at h
  refine Run.sreg tied [] [] [] [] (by kernel_rfl) trivial ?_
  obtain ⟨o1, h1, h⟩ := bind_some h
  refine Run.seqJ (fun σ' => σ' = mkSt 23 63 [(4, (.val .bool o1))] []) ?_ ?_
  · rcases ite_some h1 with ⟨hg2, h1⟩ | ⟨hg2, h1⟩
    · rcases ite_some h1 with ⟨hg3, h1⟩ | ⟨hg3, h1⟩
      · refine Run.reg tied [] [true, true, true] [] [(decide (a0 ≤ (10 : Int))) = true, true = true, (decide ((List.length a1.2.1 : Int) ≤ (30 : Int))) = true] (by kernel_rfl) ⟨hg2, rfl, hg3, trivial⟩ ?_
        obtain rfl := Option.some.inj h1
        exact jQ.mk [.keep [4] []] (by kernel_rfl) rfl
      · refine Run.reg tied [] [true, true, false] [] [(decide (a0 ≤ (10 : Int))) = true, true = true, (decide ((List.length a1.2.1 : Int) ≤ (30 : Int))) = false] (by kernel_rfl) ⟨hg2, rfl, hg3, trivial⟩ ?_
        obtain rfl := Option.some.inj h1
        exact jQ.mk [.keep [4] []] (by kernel_rfl) rfl
    · rcases ite_some h1 with ⟨hg4, h1⟩ | ⟨hg4, h1⟩
      · rcases ite_some h1 with ⟨hg5, h1⟩ | ⟨hg5, h1⟩
        · refine Run.reg tied [] [false, true, true] [] [(decide (a0 ≤ (10 : Int))) = false, (decide ((256 : Int) < a0)) = true, (decide ((List.length a1.2.1 : Int) ≤ (30 : Int))) = true] (by kernel_rfl) ⟨hg2, hg4, hg5, trivial⟩ ?_
          obtain rfl := Option.some.inj h1
          exact jQ.mk [.keep [4] []] (by kernel_rfl) rfl
        · refine Run.reg tied [] [false, true, false] [] [(decide (a0 ≤ (10 : Int))) = false, (decide ((256 : Int) < a0)) = true, (decide ((List.length a1.2.1 : Int) ≤ (30 : Int))) = false] (by kernel_rfl) ⟨hg2, hg4, hg5, trivial⟩ ?_
          obtain rfl := Option.some.inj h1
          exact jQ.mk [.keep [4] []] (by kernel_rfl) rfl
      · refine Run.reg tied [] [false, false, false] [] [(decide (a0 ≤ (10 : Int))) = false, (decide ((256 : Int) < a0)) = false, false = false] (by kernel_rfl) ⟨hg2, hg4, rfl, trivial⟩ ?_
        obtain rfl := Option.some.inj h1
        exact jQ.mk [.keep [4] []] (by kernel_rfl) rfl
  · rintro _ rfl
    refine Run.ret ?_
    obtain rfl := Option.some.inj h
    exact (fQ_fin [] [some .bool] (msk 63 []) (by kernel_rfl)).1

/-- testamur.testamurref27.Few -/
def f26_l2 (a0 : D32) (u1_0 : Int) : Nat → Int → Option (Ctl Unit Bool)
  | 0, _ => none
  | n2 + 1, u2_0 => if (decide (u2_0 < (List.length (((((((((((nth T49 a0.2.2.2.2.1 u1_0).2).2).2).2).2).2).2).2).2).1) : Int))) = true then (if 0 ≤ u2_0 ∧ u2_0 < (List.length (((((((((((nth T49 a0.2.2.2.2.1 u1_0).2).2).2).2).2).2).2).2).2).1) : Int) then (Option.bind (f61 (1 : Int) (nth T84 (((((((((((nth T49 a0.2.2.2.2.1 u1_0).2).2).2).2).2).2).2).2).2).1) u2_0)) fun y12 => if (!y12) = true then (some (.ret false)) else (f26_l2 a0 u1_0 n2 (w64 (u2_0 + (1 : Int))))) else none) else (some (.brk ()))

def f26_l1 (a0 : D32) : Nat → Int → Option (Ctl Unit Bool)
  | 0, _ => none
  | n1 + 1, u1_0 => if (decide (u1_0 < (List.length a0.2.2.2.2.1 : Int))) = true then (Option.bind (if 0 ≤ u1_0 ∧ u1_0 < (List.length a0.2.2.2.2.1 : Int) then (Option.bind (Option.bind (if (decide ((16 : Int) < (List.length (((((((nth T49 a0.2.2.2.2.1 u1_0).2).2).2).2).2).1) : Int))) = true then (some true) else (if (decide ((16 : Int) < (List.length ((((((((nth T49 a0.2.2.2.2.1 u1_0).2).2).2).2).2).2).1) : Int))) = true then (some true) else (some (decide ((16 : Int) < (List.length (((((((((((nth T49 a0.2.2.2.2.1 u1_0).2).2).2).2).2).2).2).2).2).1) : Int)))))) fun (o5 : Bool) => if o5 = true then (some (.ret false)) else (some (.brk ()))) fun (o4 : Ctl Unit Bool) => match o4 with | .brk _v9 => (Option.bind (f26_l2 a0 u1_0 (big) (0 : Int)) fun (o10 : Ctl Unit Bool) => match o10 with | .brk _v16 => (some (.brk ())) | .ret r17 => (some (.ret r17))) | .ret r18 => (some (.ret r18))) else none) fun (o2 : Ctl Unit Bool) => match o2 with | .brk _v19 => (f26_l1 a0 n1 (w64 (u1_0 + (1 : Int)))) | .ret r20 => (some (.ret r20))) else (some (.brk ()))

def f26_l3 (a0 : D32) : Nat → Int → Option (Ctl Unit Bool)
  | 0, _ => none
  | n3 + 1, u3_0 => if (decide (u3_0 < (List.length a0.2.2.2.2.2.1 : Int))) = true then (if 0 ≤ u3_0 ∧ u3_0 < (List.length a0.2.2.2.2.2.1 : Int) then (if (decide ((40 : Int) < (List.length (nth (.slice 32 T28) a0.2.2.2.2.2.1 u3_0) : Int))) = true then (some (.ret false)) else (f26_l3 a0 n3 (w64 (u3_0 + (1 : Int))))) else none) else (some (.brk ()))

def f26 (a0 : D32) : Option Bool :=
  Option.bind (f26_l1 a0 (big) (0 : Int)) fun (o1 : Ctl Unit Bool) => match o1 with | .brk _v22 => (Option.bind (f26_l3 a0 (big) (0 : Int)) fun (o23 : Ctl Unit Bool) => match o23 with | .brk _v27 => (Option.bind (if (decide ((List.length a0.2.2.2.2.1 : Int) ≤ (6 : Int))) = true then (some (decide ((List.length a0.2.2.2.2.2.1 : Int) ≤ (6 : Int)))) else (some false)) fun (o28 : Bool) => some o28) | .ret r30 => (some r30)) | .ret r31 => (some r31)

set_option maxRecDepth 100000 in
theorem x26 (a0 : D32) (r : Bool) (h : f26 a0 = some r) : Fc Tryz.prog gl 26 [(.val T32 a0)] (hset (List.replicate 113 none) []) (.ret (.val .bool r)) (outH 113 []) := by
  refine Fc.of Tryz.call26 (FnEx.of_runF tied Tryz.func26 rfl rfl (σ0 := mkSt 73 113 [(0, (.val T32 a0))] []) (by kernel_rfl) ?_)
  unfold f26 at h
  refine Run.sreg tied [] [] [] [] (by kernel_rfl) trivial ?_
  obtain ⟨o1, h1, h⟩ := bind_some h
  refine Run.seqJ (fun σ' => ∃ v22, o1 = .brk v22 ∧ σ' = mkSt 73 113 [(1, (.ptr 17 []))] [(17, some (.var T32 (.val T32 a0)))]) ?_ ?_
  · refine Run.sreg tied [] [] [] [] (by kernel_rfl) trivial ?_
    refine Run.block ?_
    refine Run.loopJ (fun n σ => ∃ (u1_0 : Int), f26_l1 a0 n u1_0 = some o1 ∧ σ = mkSt 73 113 [(1, (.ptr 17 [])), (3, (.val (.int .i64) u1_0))] [(17, some (.var T32 (.val T32 a0)))]) [.keep [1, 3] [17]] (by kernel_rfl) ⟨_, h1, rfl⟩ ?_
    rintro n1 _ ⟨u1_0, h16, rfl⟩
    cases n1 with
    | zero => exact absurd h16 (by simp [f26_l1])
    | succ n1 =>
      unfold f26_l1 at h16
      refine Run.seq ?_
      refine Run.sreg tied [] [] [] [] (by kernel_rfl) trivial ?_
      rcases ite_some h16 with ⟨hc21, h16⟩ | ⟨hc21, h16⟩
      · refine Run.condT (b := decide (u1_0 < (List.length a0.2.2.2.2.1 : Int))) (by kernel_rfl) hc21 ?_
        refine Run.skip ?_
        change Run _ _ _ _ _
        obtain ⟨o2, h17, h16⟩ := bind_some h16
        refine Run.seqJ (fun σ' => ∃ v19, o2 = .brk v19 ∧ σ' = mkSt 73 113 [(1, (.ptr 17 [])), (3, (.val (.int .i64) u1_0))] [(17, some (.var T32 (.val T32 a0)))]) ?_ ?_
        · refine Run.block ?_
          obtain ⟨hv3, h17⟩ := ite_none h17
          refine Run.sreg tied [] [] [] [0 ≤ u1_0, u1_0 < (List.length a0.2.2.2.2.1 : Int)] (by kernel_rfl) ⟨hv3.1, hv3.2, trivial⟩ ?_
          obtain ⟨o4, h24, h17⟩ := bind_some h17
          refine Run.seqJ (fun σ' => ∃ v9, o4 = .brk v9 ∧ σ' = mkSt 73 113 [(1, (.ptr 17 [])), (3, (.val (.int .i64) u1_0)), (4, (.ptr 20 []))] [(17, some (.var T32 (.val T32 a0))), (20, some (.var T49 (.val T49 (nth T49 a0.2.2.2.2.1 u1_0))))]) ?_ ?_
          · obtain ⟨o5, h26, h24⟩ := bind_some h24
            refine Run.seqJ (fun σ' => σ' = mkSt 73 113 [(1, (.ptr 17 [])), (3, (.val (.int .i64) u1_0)), (4, (.ptr 20 [])), (34, (.val .bool o5))] [(17, some (.var T32 (.val T32 a0))), (20, some (.var T49 (.val T49 (nth T49 a0.2.2.2.2.1 u1_0))))]) ?_ ?_
            · rcases ite_some h26 with ⟨hg6, h26⟩ | ⟨hg6, h26⟩
              · refine Run.reg tied [] [true, true] [] [(decide ((16 : Int) < (List.length (((((((nth T49 a0.2.2.2.2.1 u1_0).2).2).2).2).2).1) : Int))) = true, true = true] (by kernel_rfl) ⟨hg6, rfl, trivial⟩ ?_
                obtain rfl := Option.some.inj h26
                exact jQ.mk [.keep [1, 3, 4, 34] [17, 20]] (by kernel_rfl) rfl
              · rcases ite_some h26 with ⟨hg7, h26⟩ | ⟨hg7, h26⟩
                · refine Run.reg tied [] [false, true] [] [(decide ((16 : Int) < (List.length (((((((nth T49 a0.2.2.2.2.1 u1_0).2).2).2).2).2).1) : Int))) = false, (decide ((16 : Int) < (List.length ((((((((nth T49 a0.2.2.2.2.1 u1_0).2).2).2).2).2).2).1) : Int))) = true] (by kernel_rfl) ⟨hg6, hg7, trivial⟩ ?_
                  obtain rfl := Option.some.inj h26
                  exact jQ.mk [.keep [1, 3, 4, 34] [17, 20]] (by kernel_rfl) rfl
                · refine Run.reg tied [] [false, false] [] [(decide ((16 : Int) < (List.length (((((((nth T49 a0.2.2.2.2.1 u1_0).2).2).2).2).2).1) : Int))) = false, (decide ((16 : Int) < (List.length ((((((((nth T49 a0.2.2.2.2.1 u1_0).2).2).2).2).2).2).1) : Int))) = false] (by kernel_rfl) ⟨hg6, hg7, trivial⟩ ?_
                  obtain rfl := Option.some.inj h26
                  exact jQ.mk [.keep [1, 3, 4, 34] [17, 20]] (by kernel_rfl) rfl
            · rintro _ rfl
              rcases ite_some h24 with ⟨hc8, h24⟩ | ⟨hc8, h24⟩
              · refine Run.condT (b := o5) (by kernel_rfl) hc8 ?_
                refine Run.sreg tied [] [] [] [] (by kernel_rfl) trivial ?_
                refine Run.ret ?_
                obtain rfl := Option.some.inj h24
                dsimp only at h17
                obtain rfl := Option.some.inj h17
                dsimp only at h16
                obtain rfl := Option.some.inj h16
                dsimp only at h
                obtain rfl := Option.some.inj h
                exact (fQ_fin [] [some .bool] (msk 113 []) (by kernel_rfl)).1
              · refine Run.condF (b := o5) (by kernel_rfl) hc8 ?_
                refine Run.skip ?_
                obtain rfl := Option.some.inj h24
                exact jQ.mk [.keep [1, 3, 4] [17, 20]] (by kernel_rfl) ⟨_, rfl, rfl⟩
          · rintro _ ⟨v9, rfl, rfl⟩
            dsimp only at h17
            refine Run.sreg tied [] [] [] [] (by kernel_rfl) trivial ?_
            obtain ⟨o10, h27, h17⟩ := bind_some h17
            refine Run.lastJ (fun σ' => ∃ v16, o10 = .brk v16 ∧ σ' = mkSt 73 113 [(1, (.ptr 17 [])), (3, (.val (.int .i64) u1_0))] [(17, some (.var T32 (.val T32 a0)))]) (Cl.blk (Cl.j (Cl.loop (Cl.blk (Cl.j Cl.f))))) ?_ ?_
            · refine Run.block ?_
              refine Run.loopJ (fun n σ => ∃ (u2_0 : Int), f26_l2 a0 u1_0 n u2_0 = some o10 ∧ σ = mkSt 73 113 [(1, (.ptr 17 [])), (3, (.val (.int .i64) u1_0)), (4, (.ptr 20 [])), (5, (.val (.int .i64) u2_0))] [(17, some (.var T32 (.val T32 a0))), (20, some (.var T49 (.val T49 (nth T49 a0.2.2.2.2.1 u1_0))))]) [.keep [1, 3, 4, 5] [17, 20]] (by kernel_rfl) ⟨_, h27, rfl⟩ ?_
              rintro n2 _ ⟨u2_0, h29, rfl⟩
              cases n2 with
              | zero => exact absurd h29 (by simp [f26_l2])
              | succ n2 =>
                unfold f26_l2 at h29
                refine Run.seq ?_
                refine Run.sreg tied [] [] [] [] (by kernel_rfl) trivial ?_
                rcases ite_some h29 with ⟨hc15, h29⟩ | ⟨hc15, h29⟩
                · refine Run.condT (b := decide (u2_0 < (List.length (((((((((((nth T49 a0.2.2.2.2.1 u1_0).2).2).2).2).2).2).2).2).2).1) : Int))) (by kernel_rfl) hc15 ?_
                  refine Run.skip ?_
                  change Run _ _ _ _ _
                  refine Run.seq ?_
                  refine Run.block ?_
                  obtain ⟨hv11, h29⟩ := ite_none h29
                  obtain ⟨y12, hy13, h29⟩ := bind_some h29
                  refine Run.sreg tied [⟨(.val .bool y12), [], [], [], 63⟩] [] [] [0 ≤ u2_0, u2_0 < (List.length (((((((((((nth T49 a0.2.2.2.2.1 u1_0).2).2).2).2).2).2).2).2).2).1) : Int), Fc Tryz.prog gl 61 [(.val (.int .i64) (1 : Int)), (.val T84 (nth T84 (((((((((((nth T49 a0.2.2.2.2.1 u1_0).2).2).2).2).2).2).2).2).2).1) u2_0))] (hset (List.replicate 63 none) []) (.ret (.val .bool y12)) (outH 63 [])] (by kernel_rfl) ⟨hv11.1, hv11.2, x61 _ _ _ hy13, trivial⟩ ?_
                  rcases ite_some h29 with ⟨hc14, h29⟩ | ⟨hc14, h29⟩
                  · refine Run.condT (b := !y12) (by kernel_rfl) hc14 ?_
                    refine Run.sreg tied [] [] [] [] (by kernel_rfl) trivial ?_
                    refine Run.ret ?_
                    obtain rfl := Option.some.inj h29
                    dsimp only at h17
                    obtain rfl := Option.some.inj h17
                    dsimp only at h16
                    obtain rfl := Option.some.inj h16
                    dsimp only at h
                    obtain rfl := Option.some.inj h
                    exact (fQ_fin [] [some .bool] (msk 113 []) (by kernel_rfl)).1
                  · refine Run.condF (b := !y12) (by kernel_rfl) hc14 ?_
                    refine Run.skip ?_
                    refine bN ?_
                    change Run _ _ _ _ _
                    refine Run.reg tied [] [] [] [] (by kernel_rfl) trivial ?_
                    exact loopJ.mk [.keep [1, 3, 4, 5] [17, 20]] (by kernel_rfl) ⟨_, h29, rfl⟩
                · refine Run.condF (b := decide (u2_0 < (List.length (((((((((((nth T49 a0.2.2.2.2.1 u1_0).2).2).2).2).2).2).2).2).2).1) : Int))) (by kernel_rfl) hc15 ?_
                  refine Run.exit ?_
                  refine tE ?_
                  refine lE ?_
                  refine bE ?_
                  obtain rfl := Option.some.inj h29
                  exact jQ.mk [.keep [1, 3] [17]] (by kernel_rfl) ⟨_, rfl, rfl⟩
            · rintro _ ⟨v16, rfl, rfl⟩
              dsimp only at h17
              refine bN ?_
              obtain rfl := Option.some.inj h17
              exact jQ.mk [.keep [1, 3] [17]] (by kernel_rfl) ⟨_, rfl, rfl⟩
        · rintro _ ⟨v19, rfl, rfl⟩
          dsimp only at h16
          refine Run.reg tied [] [] [] [] (by kernel_rfl) trivial ?_
          exact loopJ.mk [.keep [1, 3] [17]] (by kernel_rfl) ⟨_, h16, rfl⟩
      · refine Run.condF (b := decide (u1_0 < (List.length a0.2.2.2.2.1 : Int))) (by kernel_rfl) hc21 ?_
        refine Run.exit ?_
        refine tE ?_
        refine lE ?_
        refine bE ?_
        obtain rfl := Option.some.inj h16
        exact jQ.mk [.keep [1] [17]] (by kernel_rfl) ⟨_, rfl, rfl⟩
  · rintro _ ⟨v22, rfl, rfl⟩
    dsimp only at h
    obtain ⟨o23, h30, h⟩ := bind_some h
    refine Run.seqJ (fun σ' => ∃ v27, o23 = .brk v27 ∧ σ' = mkSt 73 113 [(1, (.ptr 17 []))] [(17, some (.var T32 (.val T32 a0)))]) ?_ ?_
    · refine Run.sreg tied [] [] [] [] (by kernel_rfl) trivial ?_
      refine Run.block ?_
      refine Run.loopJ (fun n σ => ∃ (u3_0 : Int), f26_l3 a0 n u3_0 = some o23 ∧ σ = mkSt 73 113 [(1, (.ptr 17 [])), (6, (.val (.int .i64) u3_0))] [(17, some (.var T32 (.val T32 a0)))]) [.keep [1, 6] [17]] (by kernel_rfl) ⟨_, h30, rfl⟩ ?_
      rintro n3 _ ⟨u3_0, h32, rfl⟩
      cases n3 with
      | zero => exact absurd h32 (by simp [f26_l3])
      | succ n3 =>
        unfold f26_l3 at h32
        refine Run.seq ?_
        refine Run.sreg tied [] [] [] [] (by kernel_rfl) trivial ?_
        rcases ite_some h32 with ⟨hc26, h32⟩ | ⟨hc26, h32⟩
        · refine Run.condT (b := decide (u3_0 < (List.length a0.2.2.2.2.2.1 : Int))) (by kernel_rfl) hc26 ?_
          refine Run.skip ?_
          change Run _ _ _ _ _
          refine Run.seq ?_
          refine Run.block ?_
          obtain ⟨hv24, h32⟩ := ite_none h32
          refine Run.sreg tied [] [] [] [0 ≤ u3_0, u3_0 < (List.length a0.2.2.2.2.2.1 : Int)] (by kernel_rfl) ⟨hv24.1, hv24.2, trivial⟩ ?_
          rcases ite_some h32 with ⟨hc25, h32⟩ | ⟨hc25, h32⟩
          · refine Run.condT (b := decide ((40 : Int) < (List.length (nth (.slice 32 T28) a0.2.2.2.2.2.1 u3_0) : Int))) (by kernel_rfl) hc25 ?_
            refine Run.sreg tied [] [] [] [] (by kernel_rfl) trivial ?_
            refine Run.ret ?_
            obtain rfl := Option.some.inj h32
            dsimp only at h
            obtain rfl := Option.some.inj h
            exact (fQ_fin [] [some .bool] (msk 113 []) (by kernel_rfl)).1
          · refine Run.condF (b := decide ((40 : Int) < (List.length (nth (.slice 32 T28) a0.2.2.2.2.2.1 u3_0) : Int))) (by kernel_rfl) hc25 ?_
            refine Run.skip ?_
            refine bN ?_
            change Run _ _ _ _ _
            refine Run.reg tied [] [] [] [] (by kernel_rfl) trivial ?_
            exact loopJ.mk [.keep [1, 6] [17]] (by kernel_rfl) ⟨_, h32, rfl⟩
        · refine Run.condF (b := decide (u3_0 < (List.length a0.2.2.2.2.2.1 : Int))) (by kernel_rfl) hc26 ?_
          refine Run.exit ?_
          refine tE ?_
          refine lE ?_
          refine bE ?_
          obtain rfl := Option.some.inj h32
          exact jQ.mk [.keep [1] [17]] (by kernel_rfl) ⟨_, rfl, rfl⟩
    · rintro _ ⟨v27, rfl, rfl⟩
      dsimp only at h
      obtain ⟨o28, h33, h⟩ := bind_some h
      refine Run.seqJ (fun σ' => σ' = mkSt 73 113 [(2, (.val .bool o28))] []) ?_ ?_
      · rcases ite_some h33 with ⟨hg29, h33⟩ | ⟨hg29, h33⟩
        · refine Run.reg tied [] [true] [] [(decide ((List.length a0.2.2.2.2.1 : Int) ≤ (6 : Int))) = true] (by kernel_rfl) ⟨hg29, trivial⟩ ?_
          obtain rfl := Option.some.inj h33
          exact jQ.mk [.keep [2] []] (by kernel_rfl) rfl
        · refine Run.reg tied [] [false] [] [(decide ((List.length a0.2.2.2.2.1 : Int) ≤ (6 : Int))) = false] (by kernel_rfl) ⟨hg29, trivial⟩ ?_
          obtain rfl := Option.some.inj h33
          exact jQ.mk [.keep [2] []] (by kernel_rfl) rfl
      · rintro _ rfl
        refine Run.ret ?_
        obtain rfl := Option.some.inj h
        exact (fQ_fin [] [some .bool] (msk 113 []) (by kernel_rfl)).1

/-- testamur.testamurref29.FewAll -/
def f6_l1 (a0 : List D32) : Nat → Int → Option (Ctl Unit Bool)
  | 0, _ => none
  | n1 + 1, u1_0 => if (decide (u1_0 < (List.length a0 : Int))) = true then (if 0 ≤ u1_0 ∧ u1_0 < (List.length a0 : Int) then (Option.bind (f26 (nth T32 a0 u1_0)) fun y3 => if (!y3) = true then (some (.ret false)) else (f6_l1 a0 n1 (w64 (u1_0 + (1 : Int))))) else none) else (some (.brk ()))

def f6 (a0 : List D32) : Option Bool :=
  Option.bind (f6_l1 a0 (big) (0 : Int)) fun (o1 : Ctl Unit Bool) => match o1 with | .brk _v7 => (some (decide ((List.length a0 : Int) ≤ (8 : Int)))) | .ret r8 => (some r8)

set_option maxRecDepth 100000 in
theorem x6 (a0 : List D32) (r : Bool) (h : f6 a0 = some r) : Fc Tryz.prog gl 6 [(.val (.slice 128 T32) a0)] (hset (List.replicate 59 none) []) (.ret (.val .bool r)) (outH 59 []) := by
  refine Fc.of Tryz.call6 (FnEx.of_runF tied Tryz.func6 rfl rfl (σ0 := mkSt 19 59 [(0, (.val (.slice 128 T32) a0))] []) (by kernel_rfl) ?_)
  unfold f6 at h
  refine Run.sreg tied [] [] [] [] (by kernel_rfl) trivial ?_
  obtain ⟨o1, h1, h⟩ := bind_some h
  refine Run.seqJ (fun σ' => ∃ v7, o1 = .brk v7 ∧ σ' = mkSt 19 59 [(0, (.val (.slice 128 T32) a0))] []) ?_ ?_
  · refine Run.sreg tied [] [] [] [] (by kernel_rfl) trivial ?_
    refine Run.block ?_
    refine Run.loopJ (fun n σ => ∃ (u1_0 : Int), f6_l1 a0 n u1_0 = some o1 ∧ σ = mkSt 19 59 [(0, (.val (.slice 128 T32) a0)), (3, (.val (.int .i64) u1_0))] []) [.keep [0, 3] []] (by kernel_rfl) ⟨_, h1, rfl⟩ ?_
    rintro n1 _ ⟨u1_0, h3, rfl⟩
    cases n1 with
    | zero => exact absurd h3 (by simp [f6_l1])
    | succ n1 =>
      unfold f6_l1 at h3
      refine Run.seq ?_
      refine Run.sreg tied [] [] [] [] (by kernel_rfl) trivial ?_
      rcases ite_some h3 with ⟨hc6, h3⟩ | ⟨hc6, h3⟩
      · refine Run.condT (b := decide (u1_0 < (List.length a0 : Int))) (by kernel_rfl) hc6 ?_
        refine Run.skip ?_
        change Run _ _ _ _ _
        refine Run.seq ?_
        refine Run.block ?_
        obtain ⟨hv2, h3⟩ := ite_none h3
        obtain ⟨y3, hy4, h3⟩ := bind_some h3
        refine Run.sreg tied [⟨(.val .bool y3), [], [], [], 113⟩] [] [] [0 ≤ u1_0, u1_0 < (List.length a0 : Int), Fc Tryz.prog gl 26 [(.val T32 (nth T32 a0 u1_0))] (hset (List.replicate 113 none) []) (.ret (.val .bool y3)) (outH 113 [])] (by kernel_rfl) ⟨hv2.1, hv2.2, x26 _ _ hy4, trivial⟩ ?_
        rcases ite_some h3 with ⟨hc5, h3⟩ | ⟨hc5, h3⟩
        · refine Run.condT (b := !y3) (by kernel_rfl) hc5 ?_
          refine Run.sreg tied [] [] [] [] (by kernel_rfl) trivial ?_
          refine Run.ret ?_
          obtain rfl := Option.some.inj h3
          dsimp only at h
          obtain rfl := Option.some.inj h
          exact (fQ_fin [] [some .bool] (msk 59 []) (by kernel_rfl)).1
        · refine Run.condF (b := !y3) (by kernel_rfl) hc5 ?_
          refine Run.skip ?_
          refine bN ?_
          change Run _ _ _ _ _
          refine Run.reg tied [] [] [] [] (by kernel_rfl) trivial ?_
          exact loopJ.mk [.keep [0, 3] []] (by kernel_rfl) ⟨_, h3, rfl⟩
      · refine Run.condF (b := decide (u1_0 < (List.length a0 : Int))) (by kernel_rfl) hc6 ?_
        refine Run.exit ?_
        refine tE ?_
        refine lE ?_
        refine bE ?_
        obtain rfl := Option.some.inj h3
        exact jQ.mk [.keep [0] []] (by kernel_rfl) ⟨_, rfl, rfl⟩
  · rintro _ ⟨v7, rfl, rfl⟩
    dsimp only at h
    refine Run.sreg tied [] [] [] [] (by kernel_rfl) trivial ?_
    refine Run.ret ?_
    obtain rfl := Option.some.inj h
    exact (fQ_fin [] [some .bool] (msk 59 []) (by kernel_rfl)).1

/-- testamur.views.sights -/
def f39_s1 (a0 : List D32) (a1 : List Int) : Option ((List D32) × (List Int)) :=
  some (a0, a1)

set_option maxRecDepth 100000 in
theorem x39_s1 (a0 : List D32) (a1 : List Int) (r : (List D32) × (List Int)) (h : f39_s1 a0 a1 = some r) : Fc Tryz.prog gl 39 [(.val (.slice 128 T32) a0), (.val (.slice 8 (.int .i64)) a1)] (hset (List.replicate 46 none) []) (.ret (.func (.func 70) .nil (.cons (.ptr 18 []) (.cons (.ptr 19 []) .nil)))) (outH 46 [(18, (.var (.slice 128 T32) (.val (.slice 128 T32) r.1))), (19, (.var (.slice 8 (.int .i64)) (.val (.slice 8 (.int .i64)) r.2)))]) := by
  refine Fc.of Tryz.call39 (FnEx.of_runF tied Tryz.func39 rfl rfl (σ0 := mkSt 6 46 [(0, (.val (.slice 128 T32) a0)), (1, (.val (.slice 8 (.int .i64)) a1))] []) (by kernel_rfl) ?_)
  unfold f39_s1 at h
  refine Run.sreg tied [] [] [] [] (by kernel_rfl) trivial ?_
  refine Run.sreg tied [] [] [] [] (by kernel_rfl) trivial ?_
  refine Run.ret ?_
  obtain rfl := Option.some.inj h
  exact (fQ_fin [.keep [4] [18, 19]] [none] (msk 46 [18, 19]) (by kernel_rfl)).1

/-- slices.Index[[]int,int] -/
def f132_l1 (a0 : List Int) (a1 : Int) : Nat → Int → Option (Ctl Unit Int)
  | 0, _ => none
  | n1 + 1, u1_0 => if (decide (u1_0 < (List.length a0 : Int))) = true then (if 0 ≤ u1_0 ∧ u1_0 < (List.length a0 : Int) then (if (decide (a1 = (nth (.int .i64) a0 u1_0))) = true then (some (.ret u1_0)) else (f132_l1 a0 a1 n1 (w64 (u1_0 + (1 : Int))))) else none) else (some (.brk ()))

def f132 (a0 : List Int) (a1 : Int) : Option Int :=
  Option.bind (f132_l1 a0 a1 (List.length a0 + 1) (0 : Int)) fun (o1 : Ctl Unit Int) => match o1 with | .brk _v5 => (some (-1 : Int)) | .ret r6 => (some r6)

set_option maxRecDepth 100000 in
theorem x132 (a0 : List Int) (a1 : Int) (r : Int) (h : f132 a0 a1 = some r) : Fc Tryz.prog gl 132 [(.val (.slice 8 (.int .i64)) a0), (.val (.int .i64) a1)] (hset (List.replicate 59 none) []) (.ret (.val (.int .i64) r)) (outH 59 []) := by
  refine Fc.of Tryz.call132 (FnEx.of_runF tied Tryz.func132 rfl rfl (σ0 := mkSt 19 59 [(0, (.val (.slice 8 (.int .i64)) a0)), (1, (.val (.int .i64) a1))] []) (by kernel_rfl) ?_)
  unfold f132 at h
  refine Run.sreg tied [] [] [] [] (by kernel_rfl) trivial ?_
  obtain ⟨o1, h1, h⟩ := bind_some h
  refine Run.seqJ (fun σ' => ∃ v5, o1 = .brk v5 ∧ σ' = mkSt 19 59 [] []) ?_ ?_
  · refine Run.sreg tied [] [] [] [] (by kernel_rfl) trivial ?_
    refine Run.block ?_
    refine Run.loopJ (fun n σ => ∃ (u1_0 : Int), f132_l1 a0 a1 n u1_0 = some o1 ∧ σ = mkSt 19 59 [(0, (.val (.slice 8 (.int .i64)) a0)), (1, (.val (.int .i64) a1)), (7, (.val (.int .i64) (List.length a0 : Int))), (8, (.val (.int .i64) u1_0))] []) [.keep [0, 1, 7, 8] []] (by kernel_rfl) ⟨_, h1, rfl⟩ ?_
    rintro n1 _ ⟨u1_0, h3, rfl⟩
    cases n1 with
    | zero => exact absurd h3 (by simp [f132_l1])
    | succ n1 =>
      unfold f132_l1 at h3
      refine Run.sreg tied [] [] [] [] (by kernel_rfl) trivial ?_
      refine Run.seq ?_
      rcases ite_some h3 with ⟨hc4, h3⟩ | ⟨hc4, h3⟩
      · refine Run.condT (b := decide (u1_0 < (List.length a0 : Int))) (by kernel_rfl) hc4 ?_
        refine Run.skip ?_
        change Run _ _ _ _ _
        refine Run.seq ?_
        refine Run.block ?_
        refine Run.sreg tied [] [] [] [] (by kernel_rfl) trivial ?_
        obtain ⟨hv2, h3⟩ := ite_none h3
        refine Run.sreg tied [] [] [] [0 ≤ u1_0, u1_0 < (List.length a0 : Int)] (by kernel_rfl) ⟨hv2.1, hv2.2, trivial⟩ ?_
        rcases ite_some h3 with ⟨hc3, h3⟩ | ⟨hc3, h3⟩
        · refine Run.condT (b := decide (a1 = (nth (.int .i64) a0 u1_0))) (by kernel_rfl) hc3 ?_
          refine Run.sreg tied [] [] [] [] (by kernel_rfl) trivial ?_
          refine Run.ret ?_
          obtain rfl := Option.some.inj h3
          dsimp only at h
          obtain rfl := Option.some.inj h
          exact (fQ_fin [] [some (.int .i64)] (msk 59 []) (by kernel_rfl)).1
        · refine Run.condF (b := decide (a1 = (nth (.int .i64) a0 u1_0))) (by kernel_rfl) hc3 ?_
          refine Run.skip ?_
          refine bN ?_
          change Run _ _ _ _ _
          refine Run.reg tied [] [] [] [] (by kernel_rfl) trivial ?_
          exact loopJ.mk [.keep [0, 1, 7, 8] []] (by kernel_rfl) ⟨_, h3, rfl⟩
      · refine Run.condF (b := decide (u1_0 < (List.length a0 : Int))) (by kernel_rfl) hc4 ?_
        refine Run.exit ?_
        refine tE ?_
        refine lE ?_
        refine bE ?_
        obtain rfl := Option.some.inj h3
        exact jQ.mk [.keep [] []] (by kernel_rfl) ⟨_, rfl, rfl⟩
  · rintro _ ⟨v5, rfl, rfl⟩
    dsimp only at h
    refine Run.sreg tied [] [] [] [] (by kernel_rfl) trivial ?_
    refine Run.ret ?_
    obtain rfl := Option.some.inj h
    exact (fQ_fin [] [some (.int .i64)] (msk 59 []) (by kernel_rfl)).1

/-- slices.Contains[[]int,int] -/
def f71 (a0 : List Int) (a1 : Int) : Option Bool :=
  Option.bind (f132 a0 a1) fun y1 => some (decide ((0 : Int) ≤ y1))

set_option maxRecDepth 100000 in
theorem x71 (a0 : List Int) (a1 : Int) (r : Bool) (h : f71 a0 a1 = some r) : Fc Tryz.prog gl 71 [(.val (.slice 8 (.int .i64)) a0), (.val (.int .i64) a1)] (hset (List.replicate 49 none) []) (.ret (.val .bool r)) (outH 49 []) := by
  refine Fc.of Tryz.call71 (FnEx.of_runF tied Tryz.func71 rfl rfl (σ0 := mkSt 9 49 [(0, (.val (.slice 8 (.int .i64)) a0)), (1, (.val (.int .i64) a1))] []) (by kernel_rfl) ?_)
  unfold f71 at h
  refine Run.sreg tied [] [] [] [] (by kernel_rfl) trivial ?_
  obtain ⟨y1, hy2, h⟩ := bind_some h
  refine Run.sreg tied [⟨(.val (.int .i64) y1), [], [], [], 59⟩] [] [] [Fc Tryz.prog gl 132 [(.val (.slice 8 (.int .i64)) a0), (.val (.int .i64) a1)] (hset (List.replicate 59 none) []) (.ret (.val (.int .i64) y1)) (outH 59 [])] (by kernel_rfl) ⟨x132 _ _ _ hy2, trivial⟩ ?_
  refine Run.ret ?_
  obtain rfl := Option.some.inj h
  exact (fQ_fin [] [some .bool] (msk 49 []) (by kernel_rfl)).1

/-- slices.Clone[[]int,int] -/
def f30 (a0 : List Int) : Option (List Int) := if (List.length ([] : List Int) + List.length a0) * 8 ≤ maxB then some a0 else none

set_option maxRecDepth 100000 in
theorem x30 (a0 : List Int) (r : List Int) (h : f30 a0 = some r) : Fc Tryz.prog gl 30 [(.val (.slice 8 (.int .i64)) a0)] (hset (List.replicate 48 none) []) (.ret (.val (.slice 8 (.int .i64)) r)) (outH 48 []) := by
  refine Fc.of Tryz.call30 (FnEx.of_runF tied Tryz.func30 rfl rfl (σ0 := mkSt 8 48 [(0, (.val (.slice 8 (.int .i64)) a0))] []) (by kernel_rfl) ?_)
  unfold f30 at h
  obtain ⟨hv, h⟩ := ite_none h
  obtain rfl := Option.some.inj h
  refine Run.sreg tied [] [] [] [] (by kernel_rfl) trivial ?_
  refine Run.seq ?_
  refine Run.sregNil (.tmp 0) 3 4 24 24 3 8 (.int .i64) a0 rfl rfl rfl rfl rfl rfl (by kernel_rfl) fact0 rfl ?_
  intro b hb
  cases b with
  | true =>
    have hx := hb rfl
    subst hx
    refine Run.condT (b := true) (by kernel_rfl) rfl ?_
    refine Run.sreg tied [] [] [] [] (by kernel_rfl) trivial ?_
    refine Run.ret ?_
    exact (fQ_fin [] [some (.slice 8 (.int .i64))] (msk 48 []) (by kernel_rfl)).1
  | false =>
    refine Run.condF (b := false) (by kernel_rfl) rfl ?_
    refine Run.skip ?_
    change Run _ _ _ _ _
    refine Run.sreg tied [] [] [] [(List.length ([] : List Int) + List.length a0) * 8 ≤ maxB] (by kernel_rfl) ⟨hv, trivial⟩ ?_
    refine Run.ret ?_
    exact (fQ_fin [.freeze 23 (.slice 8 (.int .i64))] [some (.slice 8 (.int .i64))] (msk 48 []) (by kernel_rfl)).1

/-- testamur.views.sights$1 -/
def f70_s1_l2 (a0 : List D32) (a1 : List Int) (yf : D53 → (List D53) → Option (Ctl (List D53) (Nat × (List D53)))) (u1_0 : Int) : Nat → Int → (List D53) → Option (Ctl (List D53) (Nat × (List D53)))
  | 0, _, _ => none
  | n2 + 1, u2_0, u2_1 => if (decide (u2_0 < (List.length ((((((nth T32 a0 u1_0).2).2).2).2).1) : Int))) = true then (if 0 ≤ u2_0 ∧ u2_0 < (List.length ((((((nth T32 a0 u1_0).2).2).2).2).1) : Int) then (Option.bind (f30 (((((((nth T49 ((((((nth T32 a0 u1_0).2).2).2).2).1) u2_0).2).2).2).2).2).1)) fun y8 => Option.bind (f30 ((((((((nth T49 ((((((nth T32 a0 u1_0).2).2).2).2).1) u2_0).2).2).2).2).2).2).1)) fun y10 => Option.bind (yf ((nth T32 a0 u1_0).1, ((((((((((nth T49 ((((((nth T32 a0 u1_0).2).2).2).2).1) u2_0).2).2).2).2).2).2).2).2).1, ((((nth T32 a0 u1_0).2).1, (((nth T49 ((((((nth T32 a0 u1_0).2).2).2).2).1) u2_0).2).1, (y8, (y10, ())))), ()))) u2_1) fun y12 => match y12 with | .brk y14 => (f70_s1_l2 a0 a1 yf u1_0 n2 (w64 (u2_0 + (1 : Int))) y14) | .ret y15 => (some (.ret (y15.1 + 1, y15.2)))) else none) else (some (.brk u2_1))

def f70_s1_l1 (a0 : List D32) (a1 : List Int) (yf : D53 → (List D53) → Option (Ctl (List D53) (Nat × (List D53)))) : Nat → Int → (List D53) → Option (Ctl (List D53) (Nat × (List D53)))
  | 0, _, _ => none
  | n1 + 1, u1_0, u1_1 => if (decide (u1_0 < (List.length a0 : Int))) = true then (Option.bind (if 0 ≤ u1_0 ∧ u1_0 < (List.length a0 : Int) then (Option.bind (f71 a1 ((nth T32 a0 u1_0).1)) fun y4 => if (!y4) = true then (some (.brk u1_1)) else (Option.bind (f70_s1_l2 a0 a1 yf u1_0 (List.length ((((((nth T32 a0 u1_0).2).2).2).2).1) + 1) (0 : Int) u1_1) fun (o6 : Ctl (List D53) (Nat × (List D53))) => match o6 with | .brk v17 => (some (.brk v17)) | .ret r18 => (some (.ret r18)))) else none) fun (o2 : Ctl (List D53) (Nat × (List D53))) => match o2 with | .brk v20 => (f70_s1_l1 a0 a1 yf n1 (w64 (u1_0 + (1 : Int))) v20) | .ret r21 => (some (.ret r21))) else (some (.brk u1_1))

def f70_s1 (yf : D53 → (List D53) → Option (Ctl (List D53) (Nat × (List D53)))) (a0 : List D32) (a1 : List Int) (a2 : List D53) : Option (Nat × (List D53)) :=
  Option.bind (f70_s1_l1 a0 a1 yf (List.length a0 + 1) (0 : Int) a2) fun (o1 : Ctl (List D53) (Nat × (List D53))) => match o1 with | .brk v23 => (some (0, v23)) | .ret r24 => (some r24)

set_option maxRecDepth 100000 in
theorem x70_s1 (B : (Nat → Prop) → World → Prop) (hB : ∀ {S S' : Nat → Prop} {w w' : World}, (∀ b, S b → w'.heap[b]? = w.heap[b]?) → (∀ b, S b → S' b) → B S w → B S' w') (l : Nat) (gs : Nat → Nat) (rec : Nat → Loop) (yf : D53 → (List D53) → Option (Ctl (List D53) (Nat × (List D53)))) (hyf : ∀ (b1_0 : D53) (d1_0 : List D53) (y : Ctl (List D53) (Nat × (List D53))), yf b1_0 d1_0 = some y → Fy Tryz.prog (gl.wB B hB) l [(.val T53 b1_0)] (hset (List.replicate 53 none) [(0, some (.lp l (rec 0))), (1, some (.tv (gs 1) (.slice 104 T53) (.own 2))), (2, some (.row 53 104 T53 d1_0))]) (.ret (.val .bool (Nat.beq (jOf y) 0))) (outH 53 [(0, (.lp l (rec (jOf y)))), (1, (.tv (gs 1) (.slice 104 T53) (.own 27))), (27, (.row 53 104 T53 (dOf y)))])) (a0 : List D32) (a1 : List Int) (a2 : List D53) (r : Nat × (List D53)) (h : f70_s1 yf a0 a1 a2 = some r) : Fc Tryz.prog (gl.wB B hB) 70 [(.func (.yield l) .nil .nil), (.vptr (.slice 128 T32) a0), (.vptr (.slice 8 (.int .i64)) a1)] (hset (List.replicate 89 none) [(0, some (.lp l (rec 0))), (1, some (.tv (gs 1) (.slice 104 T53) (.own 2))), (2, some (.row 53 104 T53 a2))]) (.ret (.tup .nil)) (outH 89 [(0, (.lp l (rec r.1))), (1, (.tv (gs 1) (.slice 104 T53) (.own 78))), (78, (.row 53 104 T53 r.2))]) := by
  refine Fc.of Tryz.call70 (FnEx.of_runF tied Tryz.func70 rfl rfl (σ0 := mkSt 49 89 [(0, (.func (.yield l) .nil .nil)), (1, (.vptr (.slice 128 T32) a0)), (2, (.vptr (.slice 8 (.int .i64)) a1))] [(0, some (.lp l (rec 0))), (1, some (.tv (gs 1) (.slice 104 T53) (.own 2))), (2, some (.row 53 104 T53 a2))]) (by kernel_rfl) ?_)
  unfold f70_s1 at h
  refine Run.sreg tied [] [] [] [] (by kernel_rfl) trivial ?_
  obtain ⟨o1, h1, h⟩ := bind_some h
  refine Run.lastJ (fun σ' => ∃ v23, o1 = .brk v23 ∧ σ' = mkSt 49 89 [] [(0, some (.lp l (rec 0))), (1, some (.tv (gs 1) (.slice 104 T53) (.own 74))), (74, some (.row 53 104 T53 v23))]) Cl.f ?_ ?_
  · refine Run.block ?_
    refine Run.loopJ (fun n σ => ∃ (u1_0 : Int) (u1_1 : List D53), f70_s1_l1 a0 a1 yf n u1_0 u1_1 = some o1 ∧ σ = mkSt 49 89 [(0, (.func (.yield l) .nil .nil)), (2, (.vptr (.slice 8 (.int .i64)) a1)), (9, (.val (.slice 128 T32) a0)), (10, (.val (.int .i64) (List.length a0 : Int))), (11, (.val (.int .i64) u1_0))] [(0, some (.lp l (rec 0))), (1, some (.tv (gs 1) (.slice 104 T53) (.own 70))), (70, some (.row 53 104 T53 u1_1))]) [.keep [0, 2, 9, 10, 11] [0, 1, 2], .ren 2 70] (by kernel_rfl) ⟨_, _, h1, rfl⟩ ?_
    rintro n1 _ ⟨u1_0, u1_1, h10, rfl⟩
    cases n1 with
    | zero => exact absurd h10 (by simp [f70_s1_l1])
    | succ n1 =>
      unfold f70_s1_l1 at h10
      refine Run.sreg tied [] [] [] [] (by kernel_rfl) trivial ?_
      refine Run.seq ?_
      rcases ite_some h10 with ⟨hc22, h10⟩ | ⟨hc22, h10⟩
      · refine Run.condT (b := decide (u1_0 < (List.length a0 : Int))) (by kernel_rfl) hc22 ?_
        refine Run.skip ?_
        change Run _ _ _ _ _
        obtain ⟨o2, h11, h10⟩ := bind_some h10
        refine Run.seqJ (fun σ' => ∃ v20, o2 = .brk v20 ∧ σ' = mkSt 49 89 [(0, (.func (.yield l) .nil .nil)), (2, (.vptr (.slice 8 (.int .i64)) a1)), (9, (.val (.slice 128 T32) a0)), (10, (.val (.int .i64) (List.length a0 : Int))), (11, (.val (.int .i64) u1_0))] [(0, some (.lp l (rec 0))), (1, some (.tv (gs 1) (.slice 104 T53) (.own 72))), (72, some (.row 53 104 T53 v20))]) ?_ ?_
        · refine Run.block ?_
          obtain ⟨hv3, h11⟩ := ite_none h11
          refine Run.sreg tied [] [] [] [0 ≤ u1_0, u1_0 < (List.length a0 : Int)] (by kernel_rfl) ⟨hv3.1, hv3.2, trivial⟩ ?_
          refine Run.seq ?_
          obtain ⟨y4, hy5, h11⟩ := bind_some h11
          refine Run.sreg tied [⟨(.val .bool y4), [], [], [], 49⟩] [] [] [Fc Tryz.prog (gl.wB B hB) 71 [(.val (.slice 8 (.int .i64)) a1), (.val (.int .i64) ((nth T32 a0 u1_0).1))] (hset (List.replicate 49 none) []) (.ret (.val .bool y4)) (outH 49 [])] (by kernel_rfl) ⟨Fc.up (C := gl) rfl (fun _ _ => trivial) (x71 _ _ _ hy5), trivial⟩ ?_
          rcases ite_some h11 with ⟨hc19, h11⟩ | ⟨hc19, h11⟩
          · refine Run.condT (b := !y4) (by kernel_rfl) hc19 ?_
            refine Run.exit ?_
            refine tE ?_
            refine bE ?_
            obtain rfl := Option.some.inj h11
            exact jQ.mk [.keep [0, 2, 9, 10, 11] [0, 1, 70], .ren 70 72] (by kernel_rfl) ⟨_, rfl, rfl⟩
          · refine Run.condF (b := !y4) (by kernel_rfl) hc19 ?_
            refine Run.skip ?_
            change Run _ _ _ _ _
            refine Run.sreg tied [] [] [] [] (by kernel_rfl) trivial ?_
            obtain ⟨o6, h15, h11⟩ := bind_some h11
            refine Run.lastJ (fun σ' => ∃ v17, o6 = .brk v17 ∧ σ' = mkSt 49 89 [(0, (.func (.yield l) .nil .nil)), (2, (.vptr (.slice 8 (.int .i64)) a1)), (9, (.val (.slice 128 T32) a0)), (10, (.val (.int .i64) (List.length a0 : Int))), (11, (.val (.int .i64) u1_0))] [(0, some (.lp l (rec 0))), (1, some (.tv (gs 1) (.slice 104 T53) (.own 73))), (73, some (.row 53 104 T53 v17))]) (Cl.blk (Cl.j (Cl.loop (Cl.blk (Cl.j Cl.f))))) ?_ ?_
            · refine Run.block ?_
              refine Run.loopJ (fun n σ => ∃ (u2_0 : Int) (u2_1 : List D53), f70_s1_l2 a0 a1 yf u1_0 n u2_0 u2_1 = some o6 ∧ σ = mkSt 49 89 [(0, (.func (.yield l) .nil .nil)), (2, (.vptr (.slice 8 (.int .i64)) a1)), (5, (.ptr 21 [])), (9, (.val (.slice 128 T32) a0)), (10, (.val (.int .i64) (List.length a0 : Int))), (11, (.val (.int .i64) u1_0)), (21, (.val (.slice 176 T49) ((((((nth T32 a0 u1_0).2).2).2).2).1))), (22, (.val (.int .i64) (List.length ((((((nth T32 a0 u1_0).2).2).2).2).1) : Int))), (23, (.val (.int .i64) u2_0))] [(0, some (.lp l (rec 0))), (1, some (.tv (gs 1) (.slice 104 T53) (.own 66))), (21, some (.var T32 (.val T32 (nth T32 a0 u1_0)))), (66, some (.row 53 104 T53 u2_1))]) [.keep [0, 2, 5, 9, 10, 11, 21, 22, 23] [0, 1, 21, 70], .ren 70 66] (by kernel_rfl) ⟨_, _, h15, rfl⟩ ?_
              rintro n2 _ ⟨u2_0, u2_1, h17, rfl⟩
              cases n2 with
              | zero => exact absurd h17 (by simp [f70_s1_l2])
              | succ n2 =>
                unfold f70_s1_l2 at h17
                refine Run.sreg tied [] [] [] [] (by kernel_rfl) trivial ?_
                refine Run.seq ?_
                rcases ite_some h17 with ⟨hc16, h17⟩ | ⟨hc16, h17⟩
                · refine Run.condT (b := decide (u2_0 < (List.length ((((((nth T32 a0 u1_0).2).2).2).2).1) : Int))) (by kernel_rfl) hc16 ?_
                  refine Run.skip ?_
                  change Run _ _ _ _ _
                  refine Run.seq ?_
                  refine Run.block ?_
                  obtain ⟨hv7, h17⟩ := ite_none h17
                  refine Run.sreg tied [] [] [] [0 ≤ u2_0, u2_0 < (List.length ((((((nth T32 a0 u1_0).2).2).2).2).1) : Int)] (by kernel_rfl) ⟨hv7.1, hv7.2, trivial⟩ ?_
                  obtain ⟨y8, hy9, h17⟩ := bind_some h17
                  obtain ⟨y10, hy11, h17⟩ := bind_some h17
                  refine Run.sregA tied [⟨(.val (.slice 8 (.int .i64)) y8), [], [], [], 48⟩, ⟨(.val (.slice 8 (.int .i64)) y10), [], [], [], 48⟩] [] [] [Fc Tryz.prog (gl.wB B hB) 30 [(.val (.slice 8 (.int .i64)) (((((((nth T49 ((((((nth T32 a0 u1_0).2).2).2).2).1) u2_0).2).2).2).2).2).1))] (hset (List.replicate 48 none) []) (.ret (.val (.slice 8 (.int .i64)) y8)) (outH 48 []), Fc Tryz.prog (gl.wB B hB) 30 [(.val (.slice 8 (.int .i64)) ((((((((nth T49 ((((((nth T32 a0 u1_0).2).2).2).2).1) u2_0).2).2).2).2).2).2).1))] (hset (List.replicate 48 none) []) (.ret (.val (.slice 8 (.int .i64)) y10)) (outH 48 [])] (by kernel_rfl) ⟨Fc.up (C := gl) rfl (fun _ _ => trivial) (x30 _ _ hy9), Fc.up (C := gl) rfl (fun _ _ => trivial) (x30 _ _ hy11), trivial⟩ ?_
                  obtain ⟨y12, hy13, h17⟩ := bind_some h17
                  cases y12 with
                  | brk y14 =>
                    dsimp only at h17
                    refine Run.sreg tied [⟨(.val .bool true), [(0, 0), (1, 1), (2, 66)], [(27, 65)], [(0, (.lp l (rec 0))), (1, (.tv (gs 1) (.slice 104 T53) (.own 27))), (27, (.row 53 104 T53 y14))], 53⟩] [] [] [Fy Tryz.prog (gl.wB B hB) l [(.val T53 ((nth T32 a0 u1_0).1, ((((((((((nth T49 ((((((nth T32 a0 u1_0).2).2).2).2).1) u2_0).2).2).2).2).2).2).2).2).1, ((((nth T32 a0 u1_0).2).1, (((nth T49 ((((((nth T32 a0 u1_0).2).2).2).2).1) u2_0).2).1, (y8, (y10, ())))), ()))))] (hset (List.replicate 53 none) [(0, some (.lp l (rec 0))), (1, some (.tv (gs 1) (.slice 104 T53) (.own 2))), (2, some (.row 53 104 T53 u2_1))]) (.ret (.val .bool true)) (outH 53 [(0, (.lp l (rec 0))), (1, (.tv (gs 1) (.slice 104 T53) (.own 27))), (27, (.row 53 104 T53 y14))])] (by kernel_rfl) ⟨hyf _ _ _ hy13, trivial⟩ ?_
                    refine Run.condF (b := false) (by kernel_rfl) rfl ?_
                    refine Run.skip ?_
                    refine bN ?_
                    change Run _ _ _ _ _
                    refine Run.reg tied [] [] [] [] (by kernel_rfl) trivial ?_
                    exact loopJ.mk [.keep [0, 2, 5, 9, 10, 11, 21, 22, 23] [0, 1, 21, 65], .ren 65 66] (by kernel_rfl) ⟨_, _, h17, rfl⟩
                  | ret y15 =>
                    dsimp only at h17
                    refine Run.sreg tied [⟨(.val .bool false), [(0, 0), (1, 1), (2, 66)], [(27, 65)], [(0, (.lp l (rec (y15.1 + 1)))), (1, (.tv (gs 1) (.slice 104 T53) (.own 27))), (27, (.row 53 104 T53 y15.2))], 53⟩] [] [] [Fy Tryz.prog (gl.wB B hB) l [(.val T53 ((nth T32 a0 u1_0).1, ((((((((((nth T49 ((((((nth T32 a0 u1_0).2).2).2).2).1) u2_0).2).2).2).2).2).2).2).2).1, ((((nth T32 a0 u1_0).2).1, (((nth T49 ((((((nth T32 a0 u1_0).2).2).2).2).1) u2_0).2).1, (y8, (y10, ())))), ()))))] (hset (List.replicate 53 none) [(0, some (.lp l (rec 0))), (1, some (.tv (gs 1) (.slice 104 T53) (.own 2))), (2, some (.row 53 104 T53 u2_1))]) (.ret (.val .bool false)) (outH 53 [(0, (.lp l (rec (y15.1 + 1)))), (1, (.tv (gs 1) (.slice 104 T53) (.own 27))), (27, (.row 53 104 T53 y15.2))])] (by kernel_rfl) ⟨hyf _ _ _ hy13, trivial⟩ ?_
                    refine Run.condT (b := true) (by kernel_rfl) rfl ?_
                    refine Run.ret ?_
                    obtain rfl := Option.some.inj h17
                    dsimp only at h11
                    obtain rfl := Option.some.inj h11
                    dsimp only at h10
                    obtain rfl := Option.some.inj h10
                    dsimp only at h
                    obtain rfl := Option.some.inj h
                    exact (fQ_fin [.keep [] [0, 1, 65], .ren 65 78] [] (msk 89 [0, 1, 78]) (by kernel_rfl)).1
                · refine Run.condF (b := decide (u2_0 < (List.length ((((((nth T32 a0 u1_0).2).2).2).2).1) : Int))) (by kernel_rfl) hc16 ?_
                  refine Run.exit ?_
                  refine tE ?_
                  refine lE ?_
                  refine bE ?_
                  obtain rfl := Option.some.inj h17
                  exact jQ.mk [.keep [0, 2, 9, 10, 11] [0, 1, 66], .ren 66 73] (by kernel_rfl) ⟨_, rfl, rfl⟩
            · rintro _ ⟨v17, rfl, rfl⟩
              dsimp only at h11
              refine bN ?_
              obtain rfl := Option.some.inj h11
              exact jQ.mk [.keep [0, 2, 9, 10, 11] [0, 1, 73], .ren 73 72] (by kernel_rfl) ⟨_, rfl, rfl⟩
        · rintro _ ⟨v20, rfl, rfl⟩
          dsimp only at h10
          refine Run.reg tied [] [] [] [] (by kernel_rfl) trivial ?_
          exact loopJ.mk [.keep [0, 2, 9, 10, 11] [0, 1, 72], .ren 72 70] (by kernel_rfl) ⟨_, _, h10, rfl⟩
      · refine Run.condF (b := decide (u1_0 < (List.length a0 : Int))) (by kernel_rfl) hc22 ?_
        refine Run.exit ?_
        refine tE ?_
        refine lE ?_
        refine bE ?_
        obtain rfl := Option.some.inj h10
        exact jQ.mk [.keep [] [0, 1, 70], .ren 70 74] (by kernel_rfl) ⟨_, rfl, rfl⟩
  · rintro _ ⟨v23, rfl, rfl⟩
    dsimp only at h
    obtain rfl := Option.some.inj h
    exact (fQ_fin [.keep [] [0, 1, 74], .ren 74 78] [] (msk 89 [0, 1, 78]) (by kernel_rfl)).2

/-- slices.AppendSeq[[]testamur.api.Sight,testamur.api.Sight] -/
def f69_s1_b1 (b1_0 : D53) (d1_0 : List D53) : Option (Ctl (List D53) (Nat × (List D53))) :=
  if (List.length d1_0 + List.length [b1_0]) * 104 ≤ maxB then (some (.brk (d1_0 ++ [b1_0]))) else none

def f69_s1 (a0 : List D32) (a1 : List Int) : Option (List D53) :=
  Option.bind (f70_s1 (f69_s1_b1) a0 a1 ([] : List D53)) fun y2 => if Nat.beq y2.1 0 = true then (some y2.2) else none

set_option maxRecDepth 100000 in
theorem x69_s1 (a0 : List D32) (a1 : List Int) (r : List D53) (h : f69_s1 a0 a1 = some r) : Fc Tryz.prog gl 69 [.nils, (.func (.func 70) .nil (.cons (.vptr (.slice 128 T32) a0) (.cons (.vptr (.slice 8 (.int .i64)) a1) .nil)))] (hset (List.replicate 53 none) []) (.ret (.val (.slice 104 T53) r)) (outH 53 []) := by
  refine Fc.of Tryz.call69 (FnEx.of_runM tied Tryz.func69 rfl rfl (σ0 := mkSt 13 53 [(0, .nils), (1, (.func (.func 70) .nil (.cons (.vptr (.slice 128 T32) a0) (.cons (.vptr (.slice 8 (.int .i64)) a1) .nil))))] []) (by kernel_rfl) ?_)
  unfold f69_s1 at h
  refine Run.sreg tied [] [] [] [] (by kernel_rfl) trivial ?_
  refine Run.seq ?_
  refine Run.sreg tied [] [] [] [] (by kernel_rfl) trivial ?_
  refine Run.block ?_
  refine Run.gh [.keep [2, 4, 6] [18], .keep [2, 4, 6] [18], .ownF 18 [] 30 53 104 T53] (σ' := mkSt 13 53 [(2, (.ptr 18 [])), (4, .nils), (6, (.func (.func 70) .nil (.cons (.vptr (.slice 128 T32) a0) (.cons (.vptr (.slice 8 (.int .i64)) a1) .nil))))] [(18, some (.var (.slice 104 T53) (.own 30))), (30, some (.row 53 104 T53 ([] : List D53)))]) (by kernel_rfl) ?_
  obtain ⟨y2, hy3, h⟩ := bind_some h
  refine Run.rangeFunc (gf := 70) (cs := (.cons (.vptr (.slice 128 T32) a0) (.cons (.vptr (.slice 8 (.int .i64)) a1) .nil))) rfl (by kernel_rfl) 31 32 0 rfl rfl rfl rfl rfl [(1, (.slice 104 T53))] [(18, 1)] rfl (by kernel_rfl) rfl [] y2.1 (fun gs l rec => ⟨(.tup .nil), [(0, 32), (1, 18), (2, 30)], [(78, 33)], [(0, (.lp l (rec y2.1))), (1, (.tv (gs 1) (.slice 104 T53) (.own 78))), (78, (.row 53 104 T53 y2.2))], 89⟩) (fun l => [(.func (.yield l) .nil .nil), (.vptr (.slice 128 T32) a0), (.vptr (.slice 8 (.int .i64)) a1)]) (fun gs l rec => [(0, some (.lp l (rec 0))), (1, some (.tv (gs 1) (.slice 104 T53) (.own 2))), (2, some (.row 53 104 T53 ([] : List D53)))]) (setAll [(18, some (.var (.slice 104 T53) (.own 33))), (31, some .dfr), (33, some (.row 53 104 T53 y2.2))] (List.replicate 53 none)) (fun _ _ _ => rfl) (fun _ _ _ => by kernel_rfl) (fun _ _ _ => by kernel_rfl) (fun _ _ _ => by kernel_rfl) (fun _ _ _ => by kernel_rfl) rfl (fun _ _ _ => ⟨by kernel_rfl, by kernel_rfl⟩) ?_ ?_
  · intro B hB l gs rec hof
    refine x70_s1 B hB l gs rec (f69_s1_b1) ?_ _ _ _ _ hy3
    intro b1_0 d1_0 yy h1_
    unfold f69_s1_b1 at h1_
    refine hof.use yy [(.val T53 b1_0)] (hset (List.replicate 53 none) [(1, some (.var (.slice 104 T53) (.own 2))), (2, some (.row 53 104 T53 d1_0))]) (fun d => hset (List.replicate 53 none) [(1, some (.var (.slice 104 T53) (.own 27))), (27, some (.row 53 104 T53 d))]) _ (fun j d => outH 53 [(0, (.lp l (rec j))), (1, (.tv (gs 1) (.slice 104 T53) (.own 27))), (27, (.row 53 104 T53 d))]) rfl rfl (fun _ => rfl) rfl (fun _ => rfl) (by kernel_rfl) (fun _ _ => by kernel_rfl) (σ := mkSt 13 53 [(2, (.ptr 1 [])), (4, .nils), (6, (.func (.func 70) .nil (.cons (.vptr (.slice 128 T32) a0) (.cons (.vptr (.slice 8 (.int .i64)) a1) .nil)))), (7, (.val T53 b1_0))] [(1, some (.var (.slice 104 T53) (.own 2))), (2, some (.row 53 104 T53 d1_0))]) (by kernel_rfl) ?_
    refine Run.reg tied [] [] [] [] (by kernel_rfl) trivial ?_
    change Run _ _ _ _ _
    refine Run.block ?_
    obtain ⟨hv1, h1_⟩ := ite_none h1_
    refine Run.reg tied [] [] [] [(List.length d1_0 + List.length [b1_0]) * 104 ≤ maxB] (by kernel_rfl) ⟨hv1, trivial⟩ ?_
    refine bN ?_
    obtain rfl := Option.some.inj h1_
    exact rndQ.n [.keep [] [1, 27]] (msk 53 [1, 27]) (by kernel_rfl)
  · rcases ite_some h with ⟨hc4, h⟩ | ⟨hc4, h⟩
    · refine hqN hc4 (σF := mkStD 13 53 [(2, (.ptr 18 [])), (4, .nils), (6, (.func (.func 70) .nil (.cons (.vptr (.slice 128 T32) a0) (.cons (.vptr (.slice 8 (.int .i64)) a1) .nil))))] [(18, some (.var (.slice 104 T53) (.own 33))), (31, some .dfr), (33, some (.row 53 104 T53 y2.2))] [(.mp 31)]) (by kernel_rfl) ?_
      refine bN ?_
      change Run _ _ _ _ _
      refine Run.sreg tied [] [] [] [] (by kernel_rfl) trivial ?_
      refine Run.ret ?_
      obtain rfl := Option.some.inj h
      exact (mQ_fin [.freeze 33 (.slice 104 T53)] [some (.slice 104 T53)] (msk 53 []) (by kernel_rfl)).1
    · cases h

/-- slices.Collect[testamur.api.Sight] -/
def f38_s1 (a0 : List D32) (a1 : List Int) : Option (List D53) :=
  Option.bind (f69_s1 a0 a1) fun y1 => some y1

set_option maxRecDepth 100000 in
theorem x38_s1 (a0 : List D32) (a1 : List Int) (r : List D53) (h : f38_s1 a0 a1 = some r) : Fc Tryz.prog gl 38 [(.func (.func 70) .nil (.cons (.vptr (.slice 128 T32) a0) (.cons (.vptr (.slice 8 (.int .i64)) a1) .nil)))] (hset (List.replicate 45 none) []) (.ret (.val (.slice 104 T53) r)) (outH 45 []) := by
  refine Fc.of Tryz.call38 (FnEx.of_runF tied Tryz.func38 rfl rfl (σ0 := mkSt 5 45 [(0, (.func (.func 70) .nil (.cons (.vptr (.slice 128 T32) a0) (.cons (.vptr (.slice 8 (.int .i64)) a1) .nil))))] []) (by kernel_rfl) ?_)
  unfold f38_s1 at h
  refine Run.sreg tied [] [] [] [] (by kernel_rfl) trivial ?_
  obtain ⟨y1, hy2, h⟩ := bind_some h
  refine Run.sreg tied [⟨(.val (.slice 104 T53) y1), [], [], [], 53⟩] [] [] [Fc Tryz.prog gl 69 [.nils, (.func (.func 70) .nil (.cons (.vptr (.slice 128 T32) a0) (.cons (.vptr (.slice 8 (.int .i64)) a1) .nil)))] (hset (List.replicate 53 none) []) (.ret (.val (.slice 104 T53) y1)) (outH 53 [])] (by kernel_rfl) ⟨x69_s1 _ _ _ hy2, trivial⟩ ?_
  refine Run.ret ?_
  obtain rfl := Option.some.inj h
  exact (fQ_fin [] [some (.slice 104 T53)] (msk 45 []) (by kernel_rfl)).1

/-- testamur.views.Seen -/
def f16 (a0 : List D32) (a1 : List Int) : Option (List D53) :=
  Option.bind (f39_s1 a0 a1) fun y1 => Option.bind (f38_s1 y1.1 y1.2) fun y3 => some y3

set_option maxRecDepth 100000 in
theorem x16 (a0 : List D32) (a1 : List Int) (r : List D53) (h : f16 a0 a1 = some r) : Fc Tryz.prog gl 16 [(.val (.slice 128 T32) a0), (.val (.slice 8 (.int .i64)) a1)] (hset (List.replicate 49 none) []) (.ret (.val (.slice 104 T53) r)) (outH 49 []) := by
  refine Fc.of Tryz.call16 (FnEx.of_runF tied Tryz.func16 rfl rfl (σ0 := mkSt 9 49 [(0, (.val (.slice 128 T32) a0)), (1, (.val (.slice 8 (.int .i64)) a1))] []) (by kernel_rfl) ?_)
  unfold f16 at h
  refine Run.sreg tied [] [] [] [] (by kernel_rfl) trivial ?_
  obtain ⟨y1, hy2, h⟩ := bind_some h
  obtain ⟨y3, hy4, h⟩ := bind_some h
  refine Run.sreg tied [⟨(.func (.func 70) .nil (.cons (.ptr 18 []) (.cons (.ptr 19 []) .nil))), [], [(18, 23), (19, 25)], [(18, (.var (.slice 128 T32) (.val (.slice 128 T32) y1.1))), (19, (.var (.slice 8 (.int .i64)) (.val (.slice 8 (.int .i64)) y1.2)))], 46⟩, ⟨(.val (.slice 104 T53) y3), [], [], [], 45⟩] [] [(3, 7, (.opq .func))] [Fc Tryz.prog gl 39 [(.val (.slice 128 T32) a0), (.val (.slice 8 (.int .i64)) a1)] (hset (List.replicate 46 none) []) (.ret (.func (.func 70) .nil (.cons (.ptr 18 []) (.cons (.ptr 19 []) .nil)))) (outH 46 [(18, (.var (.slice 128 T32) (.val (.slice 128 T32) y1.1))), (19, (.var (.slice 8 (.int .i64)) (.val (.slice 8 (.int .i64)) y1.2)))]), Fc Tryz.prog gl 38 [(.func (.func 70) .nil (.cons (.vptr (.slice 128 T32) y1.1) (.cons (.vptr (.slice 8 (.int .i64)) y1.2) .nil)))] (hset (List.replicate 45 none) []) (.ret (.val (.slice 104 T53) y3)) (outH 45 [])] (by kernel_rfl) ⟨x39_s1 _ _ _ hy2, x38_s1 _ _ _ hy4, trivial⟩ ?_
  refine Run.ret ?_
  obtain rfl := Option.some.inj h
  exact (fQ_fin [] [some (.slice 104 T53)] (msk 49 []) (by kernel_rfl)).1

/-- testamur.testamurref24.SameInts -/
def f18_l1 (a0 : List Int) (a1 : List Int) : Nat → Int → Option (Ctl Unit Bool)
  | 0, _ => none
  | n1 + 1, u1_0 => if (decide (u1_0 < (List.length a0 : Int))) = true then (if 0 ≤ u1_0 ∧ u1_0 < (List.length a0 : Int) then (if u1_0 < (List.length a1 : Int) then (if (!decide ((nth (.int .i64) a0 u1_0) = (nth (.int .i64) a1 u1_0))) = true then (some (.ret false)) else (f18_l1 a0 a1 n1 (w64 (u1_0 + (1 : Int))))) else none) else none) else (some (.brk ()))

def f18 (a0 : List Int) (a1 : List Int) : Option Bool :=
  if (!decide ((List.length a0 : Int) = (List.length a1 : Int))) = true then (some false) else (Option.bind (f18_l1 a0 a1 (big) (0 : Int)) fun (o1 : Ctl Unit Bool) => match o1 with | .brk _v6 => (some true) | .ret r7 => (some r7))

set_option maxRecDepth 100000 in
theorem x18 (a0 : List Int) (a1 : List Int) (r : Bool) (h : f18 a0 a1 = some r) : Fc Tryz.prog gl 18 [(.val (.slice 8 (.int .i64)) a0), (.val (.slice 8 (.int .i64)) a1)] (hset (List.replicate 66 none) []) (.ret (.val .bool r)) (outH 66 []) := by
  refine Fc.of Tryz.call18 (FnEx.of_runF tied Tryz.func18 rfl rfl (σ0 := mkSt 26 66 [(0, (.val (.slice 8 (.int .i64)) a0)), (1, (.val (.slice 8 (.int .i64)) a1))] []) (by kernel_rfl) ?_)
  unfold f18 at h
  refine Run.sreg tied [] [] [] [] (by kernel_rfl) trivial ?_
  refine Run.seq ?_
  refine Run.sreg tied [] [] [] [] (by kernel_rfl) trivial ?_
  rcases ite_some h with ⟨hc8, h⟩ | ⟨hc8, h⟩
  · refine Run.condT (b := !decide ((List.length a0 : Int) = (List.length a1 : Int))) (by kernel_rfl) hc8 ?_
    refine Run.sreg tied [] [] [] [] (by kernel_rfl) trivial ?_
    refine Run.ret ?_
    obtain rfl := Option.some.inj h
    exact (fQ_fin [] [some .bool] (msk 66 []) (by kernel_rfl)).1
  · refine Run.condF (b := !decide ((List.length a0 : Int) = (List.length a1 : Int))) (by kernel_rfl) hc8 ?_
    refine Run.skip ?_
    change Run _ _ _ _ _
    obtain ⟨o1, h1, h⟩ := bind_some h
    refine Run.seqJ (fun σ' => ∃ v6, o1 = .brk v6 ∧ σ' = mkSt 26 66 [] []) ?_ ?_
    · refine Run.sreg tied [] [] [] [] (by kernel_rfl) trivial ?_
      refine Run.block ?_
      refine Run.loopJ (fun n σ => ∃ (u1_0 : Int), f18_l1 a0 a1 n u1_0 = some o1 ∧ σ = mkSt 26 66 [(0, (.val (.slice 8 (.int .i64)) a0)), (1, (.val (.slice 8 (.int .i64)) a1)), (5, (.val (.int .i64) u1_0))] []) [.keep [0, 1, 5] []] (by kernel_rfl) ⟨_, h1, rfl⟩ ?_
      rintro n1 _ ⟨u1_0, h3, rfl⟩
      cases n1 with
      | zero => exact absurd h3 (by simp [f18_l1])
      | succ n1 =>
        unfold f18_l1 at h3
        refine Run.seq ?_
        refine Run.sreg tied [] [] [] [] (by kernel_rfl) trivial ?_
        rcases ite_some h3 with ⟨hc5, h3⟩ | ⟨hc5, h3⟩
        · refine Run.condT (b := decide (u1_0 < (List.length a0 : Int))) (by kernel_rfl) hc5 ?_
          refine Run.skip ?_
          change Run _ _ _ _ _
          refine Run.seq ?_
          refine Run.block ?_
          obtain ⟨hv2, h3⟩ := ite_none h3
          obtain ⟨hv3, h3⟩ := ite_none h3
          refine Run.sregA tied [] [] [] [0 ≤ u1_0, u1_0 < (List.length a0 : Int), 0 ≤ u1_0, u1_0 < (List.length a1 : Int)] (by kernel_rfl) ⟨hv2.1, hv2.2, hv2.1, hv3, trivial⟩ ?_
          rcases ite_some h3 with ⟨hc4, h3⟩ | ⟨hc4, h3⟩
          · refine Run.condT (b := !decide ((nth (.int .i64) a0 u1_0) = (nth (.int .i64) a1 u1_0))) (by kernel_rfl) hc4 ?_
            refine Run.sreg tied [] [] [] [] (by kernel_rfl) trivial ?_
            refine Run.ret ?_
            obtain rfl := Option.some.inj h3
            dsimp only at h
            obtain rfl := Option.some.inj h
            exact (fQ_fin [] [some .bool] (msk 66 []) (by kernel_rfl)).1
          · refine Run.condF (b := !decide ((nth (.int .i64) a0 u1_0) = (nth (.int .i64) a1 u1_0))) (by kernel_rfl) hc4 ?_
            refine Run.skip ?_
            refine bN ?_
            change Run _ _ _ _ _
            refine Run.reg tied [] [] [] [] (by kernel_rfl) trivial ?_
            exact loopJ.mk [.keep [0, 1, 5] []] (by kernel_rfl) ⟨_, h3, rfl⟩
        · refine Run.condF (b := decide (u1_0 < (List.length a0 : Int))) (by kernel_rfl) hc5 ?_
          refine Run.exit ?_
          refine tE ?_
          refine lE ?_
          refine bE ?_
          obtain rfl := Option.some.inj h3
          exact jQ.mk [.keep [] []] (by kernel_rfl) ⟨_, rfl, rfl⟩
    · rintro _ ⟨v6, rfl, rfl⟩
      dsimp only at h
      refine Run.sreg tied [] [] [] [] (by kernel_rfl) trivial ?_
      refine Run.ret ?_
      obtain rfl := Option.some.inj h
      exact (fQ_fin [] [some .bool] (msk 66 []) (by kernel_rfl)).1

end Go.Proofs.YtjabllhapfphoaaGreatDoor
