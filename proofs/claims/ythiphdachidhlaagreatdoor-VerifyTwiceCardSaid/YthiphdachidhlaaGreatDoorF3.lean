/- Made by program (dec.py): walks -/
import Derived.Test.YthiphdachidhlaaGreatDoorF2
namespace Go.Proofs.YthiphdachidhlaaGreatDoor
open Go.Abs

/-- (sort.IntSlice).Len -/
def f166 (a0 : List Int) : Option Int :=
  some (List.length a0 : Int)

set_option maxRecDepth 100000 in
theorem x166 (a0 : List Int) (r : Int) (h : f166 a0 = some r) : Fc Tryz.prog gl 166 [(.val (.slice 8 (.int .i64)) a0)] (hset (List.replicate 45 none) []) (.ret (.val (.int .i64) r)) (outH 45 []) := by
  refine Fc.of Tryz.call166 (FnEx.of_runF tied Tryz.func166 rfl rfl (σ0 := mkSt 5 45 [(0, (.val (.slice 8 (.int .i64)) a0))] []) (by kernel_rfl) ?_)
  unfold f166 at h
  refine Run.sreg tied [] [] [] [] (by kernel_rfl) trivial ?_
  refine Run.sreg tied [] [] [] [] (by kernel_rfl) trivial ?_
  refine Run.ret ?_
  obtain rfl := Option.some.inj h
  exact (fQ_fin [] [some (.int .i64)] (msk 45 []) (by kernel_rfl)).1

/-- (testamur.rules.graph).addable$1 -/
def f163_s2_l1 (_a0 : List Int) (a1 : Int) (_y1 : (List (List Int)) × (List (Int × Unit))) : Nat → Option Unit
  | 0 => none
  | _n1 + 1 => if (decide ((0 : Int) < a1)) = true then none else (some ())

def f163_s2_l2 (_a0 : List Int) (_a1 : Int) (_y1 : (List (List Int)) × (List (Int × Unit))) : Nat → Option Unit
  | 0 => none
  | _n2 + 1 => Option.bind (f166 ([] : List Int)) fun y7 => if (decide ((0 : Int) < y7)) = true then none else (some ())

def f163_s2 (_yf : Int → (List Int) → Option (Ctl (List Int) (Nat × (List Int)))) (a0 : List Int) (a1 : Int) (a2 : List (Int × Unit)) : Option (Nat × (List Int) × Int × (List (Int × Unit))) :=
  Option.bind (f164_s1 a1 a2) fun y1 => if 0 ≤ a1 ∧ a1 ≤ a1 ∧ a1 * (8 : Int) ≤ (maxB : Int) then (Option.bind (f163_s2_l1 a0 a1 y1 (big)) fun (_o4 : Unit) => Option.bind (f163_s2_l2 a0 a1 y1 (big)) fun (_o6 : Unit) => some (0, a0, a1, y1.2)) else none

set_option maxRecDepth 100000 in
theorem x163_s2 (B : (Nat → Prop) → World → Prop) (hB : ∀ {S S' : Nat → Prop} {w w' : World}, (∀ b, S b → w'.heap[b]? = w.heap[b]?) → (∀ b, S b → S' b) → B S w → B S' w') (l : Nat) (gs : Nat → Nat) (rec : Nat → Loop) (yf : Int → (List Int) → Option (Ctl (List Int) (Nat × (List Int)))) (_hyf : ∀ (b2_0 : Int) (d2_0 : List Int) (y : Ctl (List Int) (Nat × (List Int))), yf b2_0 d2_0 = some y → Fy Tryz.prog (gl.wB B hB) l [(.val (.int .i64) b2_0)] (hset (List.replicate 53 none) [(0, some (.lp l (rec 0))), (1, some (.tv (gs 1) (.slice 8 (.int .i64)) (.own 2))), (2, some (.row 3 8 (.int .i64) d2_0))]) (.ret (.val .bool (Nat.beq (jOf y) 0))) (outH 53 [(0, (.lp l (rec (jOf y)))), (1, (.tv (gs 1) (.slice 8 (.int .i64)) (.own 27))), (27, (.row 3 8 (.int .i64) (dOf y)))])) (a0 : List Int) (a1 : Int) (a2 : List (Int × Unit)) (r : Nat × (List Int) × Int × (List (Int × Unit))) (h : f163_s2 yf a0 a1 a2 = some r) : Fc Tryz.prog (gl.wB B hB) 163 [(.func (.yield l) .nil .nil), (.ptr 3 [])] (hset (List.replicate 129 none) [(0, some (.lp l (rec 0))), (1, some (.tv (gs 1) (.slice 8 (.int .i64)) (.own 2))), (2, some (.row 3 8 (.int .i64) a0)), (3, some (.var T196 (.cons (.val (.int .i64) a1) (.cons (.mp 4) .nil)))), (4, some (.map (.int .i64) (.opq .map) a2))]) (.ret (.tup .nil)) (outH 129 [(0, (.lp l (rec r.1))), (1, (.tv (gs 1) (.slice 8 (.int .i64)) (.own 2))), (2, (.row 3 8 (.int .i64) r.2.1)), (3, (.var T196 (.cons (.val (.int .i64) r.2.2.1) (.cons (.mp 4) .nil)))), (4, (.map (.int .i64) (.opq .map) r.2.2.2))]) := by
  refine Fc.of Tryz.call163 (FnEx.of_runF tied Tryz.func163 rfl rfl (σ0 := mkSt 89 129 [(0, (.func (.yield l) .nil .nil)), (1, (.ptr 3 []))] [(0, some (.lp l (rec 0))), (1, some (.tv (gs 1) (.slice 8 (.int .i64)) (.own 2))), (2, some (.row 3 8 (.int .i64) a0)), (3, some (.var T196 (.cons (.val (.int .i64) a1) (.cons (.mp 4) .nil)))), (4, some (.map (.int .i64) (.opq .map) a2))]) (by kernel_rfl) ?_)
  unfold f163_s2 at h
  obtain ⟨y1, hy2, h⟩ := bind_some h
  obtain ⟨hv3, h⟩ := ite_none h
  refine Run.sregA tied [⟨(.val (.slice 24 (.slice 8 (.int .i64))) y1.1), [(0, 4)], [], [(0, (.map (.int .i64) (.opq .map) y1.2))], 75⟩] [] [] [Fc Tryz.prog (gl.wB B hB) 164 [(.cons (.val (.int .i64) a1) (.cons (.mp 0) .nil))] (hset (List.replicate 75 none) [(0, some (.map (.int .i64) (.opq .map) a2))]) (.ret (.val (.slice 24 (.slice 8 (.int .i64))) y1.1)) (outH 75 [(0, (.map (.int .i64) (.opq .map) y1.2))]), 0 ≤ a1, a1 ≤ a1, a1 * (8 : Int) ≤ (maxB : Int)] (by kernel_rfl) ⟨Fc.up (C := gl) rfl (fun _ _ => trivial) (x164_s1 _ _ _ hy2), hv3.1, hv3.2.1, hv3.2.2, trivial⟩ ?_
  refine Run.sreg tied [] [] [] [] (by kernel_rfl) trivial ?_
  obtain ⟨o4, h1, h⟩ := bind_some h
  refine Run.seqJ (fun σ' => σ' = mkSt 89 129 [(0, (.func (.yield l) .nil .nil)), (3, (.val (.slice 24 (.slice 8 (.int .i64))) y1.1)), (4, (.own 31)), (5, (.ptr 33 []))] [(0, some (.lp l (rec 0))), (1, some (.tv (gs 1) (.slice 8 (.int .i64)) (.own 2))), (2, some (.row 3 8 (.int .i64) a0)), (3, some (.var T196 (.cons (.val (.int .i64) a1) (.cons (.mp 4) .nil)))), (4, some (.map (.int .i64) (.opq .map) y1.2)), (31, some (.row 3 8 (.int .i64) (List.replicate (Int.toNat a1) (0 : Int)))), (33, some (.var T328 (.cons .nils .nil)))]) ?_ ?_
  · refine Run.sreg tied [] [] [] [] (by kernel_rfl) trivial ?_
    refine Run.block ?_
    refine Run.loopJ (fun n σ => f163_s2_l1 a0 a1 y1 n = some o4 ∧ σ = mkSt 89 129 [(0, (.func (.yield l) .nil .nil)), (1, (.ptr 3 [])), (3, (.val (.slice 24 (.slice 8 (.int .i64))) y1.1)), (4, (.own 31)), (5, (.ptr 33 [])), (19, (.val (.int .i64) a1)), (20, (.val (.int .i64) (0 : Int)))] [(0, some (.lp l (rec 0))), (1, some (.tv (gs 1) (.slice 8 (.int .i64)) (.own 2))), (2, some (.row 3 8 (.int .i64) a0)), (3, some (.var T196 (.cons (.val (.int .i64) a1) (.cons (.mp 4) .nil)))), (4, some (.map (.int .i64) (.opq .map) y1.2)), (31, some (.row 3 8 (.int .i64) (List.replicate (Int.toNat a1) (0 : Int)))), (33, some (.var T328 (.cons .nils .nil)))]) [.keep [0, 1, 3, 4, 5, 19, 20] [0, 1, 2, 3, 4, 31, 33]] (by kernel_rfl) ⟨h1, rfl⟩ ?_
    rintro n1 _ ⟨h4, rfl⟩
    cases n1 with
    | zero => exact absurd h4 (by simp [f163_s2_l1])
    | succ n1 =>
      unfold f163_s2_l1 at h4
      refine Run.sreg tied [] [] [] [] (by kernel_rfl) trivial ?_
      refine Run.seq ?_
      rcases ite_some h4 with ⟨hc5, h4⟩ | ⟨hc5, h4⟩
      · refine Run.condT (b := decide ((0 : Int) < a1)) (by kernel_rfl) hc5 ?_
        refine Run.skip ?_
        change Run _ _ _ _ _
        cases h4
      · refine Run.condF (b := decide ((0 : Int) < a1)) (by kernel_rfl) hc5 ?_
        refine Run.exit ?_
        refine tE ?_
        refine lE ?_
        refine bE ?_
        obtain rfl := Option.some.inj h4
        exact jQ.mk [.keep [0, 3, 4, 5] [0, 1, 2, 3, 4, 31, 33]] (by kernel_rfl) rfl
  · rintro _ rfl
    obtain ⟨o6, h6, h⟩ := bind_some h
    refine Run.lastJ (fun σ' => σ' = mkSt 89 129 [] [(0, some (.lp l (rec 0))), (1, some (.tv (gs 1) (.slice 8 (.int .i64)) (.own 2))), (2, some (.row 3 8 (.int .i64) a0)), (3, some (.var T196 (.cons (.val (.int .i64) a1) (.cons (.mp 4) .nil)))), (4, some (.map (.int .i64) (.opq .map) y1.2))]) Cl.f ?_ ?_
    · refine Run.block ?_
      refine Run.loopJ (fun n σ => f163_s2_l2 a0 a1 y1 n = some o6 ∧ σ = mkSt 89 129 [(0, (.func (.yield l) .nil .nil)), (3, (.val (.slice 24 (.slice 8 (.int .i64))) y1.1)), (4, (.own 31)), (5, (.ptr 33 []))] [(0, some (.lp l (rec 0))), (1, some (.tv (gs 1) (.slice 8 (.int .i64)) (.own 2))), (2, some (.row 3 8 (.int .i64) a0)), (3, some (.var T196 (.cons (.val (.int .i64) a1) (.cons (.mp 4) .nil)))), (4, some (.map (.int .i64) (.opq .map) y1.2)), (31, some (.row 3 8 (.int .i64) (List.replicate (Int.toNat a1) (0 : Int)))), (33, some (.var T328 (.cons .nils .nil)))]) [.keep [0, 3, 4, 5] [0, 1, 2, 3, 4, 31, 33]] (by kernel_rfl) ⟨h6, rfl⟩ ?_
      rintro n2 _ ⟨h9, rfl⟩
      cases n2 with
      | zero => exact absurd h9 (by simp [f163_s2_l2])
      | succ n2 =>
        unfold f163_s2_l2 at h9
        refine Run.seq ?_
        obtain ⟨y7, hy8, h9⟩ := bind_some h9
        refine Run.sreg tied [⟨(.val (.int .i64) y7), [], [], [], 45⟩] [] [] [Fc Tryz.prog (gl.wB B hB) 166 [(.val (.slice 8 (.int .i64)) ([] : List Int))] (hset (List.replicate 45 none) []) (.ret (.val (.int .i64) y7)) (outH 45 [])] (by kernel_rfl) ⟨Fc.up (C := gl) rfl (fun _ _ => trivial) (x166 _ _ hy8), trivial⟩ ?_
        rcases ite_some h9 with ⟨hc9, h9⟩ | ⟨hc9, h9⟩
        · refine Run.condT (b := decide ((0 : Int) < y7)) (by kernel_rfl) hc9 ?_
          refine Run.skip ?_
          change Run _ _ _ _ _
          cases h9
        · refine Run.condF (b := decide ((0 : Int) < y7)) (by kernel_rfl) hc9 ?_
          refine Run.exit ?_
          refine tE ?_
          refine lE ?_
          refine bE ?_
          obtain rfl := Option.some.inj h9
          exact jQ.mk [.keep [] [0, 1, 2, 3, 4]] (by kernel_rfl) rfl
    · rintro _ rfl
      obtain rfl := Option.some.inj h
      exact (fQ_fin [.keep [] [0, 1, 2, 3, 4]] [] (msk 129 [0, 1, 2, 3, 4]) (by kernel_rfl)).2

/-- slices.AppendSeq[[]int,int] -/
def f162_s1_b2 (b2_0 : Int) (d2_0 : List Int) : Option (Ctl (List Int) (Nat × (List Int))) :=
  if (List.length d2_0 + List.length [b2_0]) * 8 ≤ maxB then (some (.brk (d2_0 ++ [b2_0]))) else none

def f162_s1 (a0 : Int) (a1 : List (Int × Unit)) : Option ((List Int) × Int × (List (Int × Unit))) :=
  Option.bind (f163_s2 (f162_s1_b2) ([] : List Int) a0 a1) fun y2 => if Nat.beq y2.1 0 = true then (some (y2.2.1, y2.2.2.1, y2.2.2.2)) else none

set_option maxRecDepth 100000 in
theorem x162_s1 (a0 : Int) (a1 : List (Int × Unit)) (r : (List Int) × Int × (List (Int × Unit))) (h : f162_s1 a0 a1 = some r) : Fc Tryz.prog gl 162 [.nils, (.func (.func 163) .nil (.cons (.ptr 0 []) .nil))] (hset (List.replicate 53 none) [(0, some (.var T196 (.cons (.val (.int .i64) a0) (.cons (.mp 1) .nil)))), (1, some (.map (.int .i64) (.opq .map) a1))]) (.ret (.val (.slice 8 (.int .i64)) r.1)) (outH 53 [(0, (.var T196 (.cons (.val (.int .i64) r.2.1) (.cons (.mp 1) .nil)))), (1, (.map (.int .i64) (.opq .map) r.2.2))]) := by
  refine Fc.of Tryz.call162 (FnEx.of_runM tied Tryz.func162 rfl rfl (σ0 := mkSt 13 53 [(0, .nils), (1, (.func (.func 163) .nil (.cons (.ptr 0 []) .nil)))] [(0, some (.var T196 (.cons (.val (.int .i64) a0) (.cons (.mp 1) .nil)))), (1, some (.map (.int .i64) (.opq .map) a1))]) (by kernel_rfl) ?_)
  unfold f162_s1 at h
  refine Run.sreg tied [] [] [] [] (by kernel_rfl) trivial ?_
  refine Run.seq ?_
  refine Run.sreg tied [] [] [] [] (by kernel_rfl) trivial ?_
  refine Run.block ?_
  refine Run.gh [.keep [2, 4, 6] [0, 1, 18], .keep [2, 4, 6] [0, 1, 18], .ownF 18 [] 34 3 8 (.int .i64)] (σ' := mkSt 13 53 [(2, (.ptr 18 [])), (4, .nils), (6, (.func (.func 163) .nil (.cons (.ptr 0 []) .nil)))] [(0, some (.var T196 (.cons (.val (.int .i64) a0) (.cons (.mp 1) .nil)))), (1, some (.map (.int .i64) (.opq .map) a1)), (18, some (.var (.slice 8 (.int .i64)) (.own 34))), (34, some (.row 3 8 (.int .i64) ([] : List Int)))]) (by kernel_rfl) ?_
  obtain ⟨y2, hy3, h⟩ := bind_some h
  refine Run.rangeFunc (gf := 163) (cs := (.cons (.ptr 0 []) .nil)) rfl (by kernel_rfl) 35 36 0 rfl rfl rfl rfl rfl [(1, (.slice 8 (.int .i64)))] [(18, 1)] rfl (by kernel_rfl) rfl [] y2.1 (fun gs l rec => ⟨(.tup .nil), [(0, 36), (1, 18), (2, 34), (3, 0), (4, 1)], [], [(0, (.lp l (rec y2.1))), (1, (.tv (gs 1) (.slice 8 (.int .i64)) (.own 2))), (2, (.row 3 8 (.int .i64) y2.2.1)), (3, (.var T196 (.cons (.val (.int .i64) y2.2.2.1) (.cons (.mp 4) .nil)))), (4, (.map (.int .i64) (.opq .map) y2.2.2.2))], 129⟩) (fun l => [(.func (.yield l) .nil .nil), (.ptr 3 [])]) (fun gs l rec => [(0, some (.lp l (rec 0))), (1, some (.tv (gs 1) (.slice 8 (.int .i64)) (.own 2))), (2, some (.row 3 8 (.int .i64) ([] : List Int))), (3, some (.var T196 (.cons (.val (.int .i64) a0) (.cons (.mp 4) .nil)))), (4, some (.map (.int .i64) (.opq .map) a1))]) (setAll [(0, some (.var T196 (.cons (.val (.int .i64) y2.2.2.1) (.cons (.mp 1) .nil)))), (1, some (.map (.int .i64) (.opq .map) y2.2.2.2)), (18, some (.var (.slice 8 (.int .i64)) (.own 34))), (34, some (.row 3 8 (.int .i64) y2.2.1)), (35, some .dfr)] (List.replicate 53 none)) (fun _ _ _ => rfl) (fun _ _ _ => by kernel_rfl) (fun _ _ _ => by kernel_rfl) (fun _ _ _ => by kernel_rfl) (fun _ _ _ => by kernel_rfl) rfl (fun _ _ _ => ⟨by kernel_rfl, by kernel_rfl⟩) ?_ ?_
  · intro B hB l gs rec hof
    refine x163_s2 B hB l gs rec (f162_s1_b2) ?_ _ _ _ _ hy3
    intro b2_0 d2_0 yy h2_
    unfold f162_s1_b2 at h2_
    refine hof.use yy [(.val (.int .i64) b2_0)] (hset (List.replicate 53 none) [(1, some (.var (.slice 8 (.int .i64)) (.own 2))), (2, some (.row 3 8 (.int .i64) d2_0))]) (fun d => hset (List.replicate 53 none) [(1, some (.var (.slice 8 (.int .i64)) (.own 27))), (27, some (.row 3 8 (.int .i64) d))]) _ (fun j d => outH 53 [(0, (.lp l (rec j))), (1, (.tv (gs 1) (.slice 8 (.int .i64)) (.own 27))), (27, (.row 3 8 (.int .i64) d))]) rfl rfl (fun _ => rfl) rfl (fun _ => rfl) (by kernel_rfl) (fun _ _ => by kernel_rfl) (σ := mkSt 13 53 [(2, (.ptr 1 [])), (4, .nils), (7, (.val (.int .i64) b2_0))] [(1, some (.var (.slice 8 (.int .i64)) (.own 2))), (2, some (.row 3 8 (.int .i64) d2_0))]) (by kernel_rfl) ?_
    refine Run.reg tied [] [] [] [] (by kernel_rfl) trivial ?_
    change Run _ _ _ _ _
    refine Run.block ?_
    obtain ⟨hv1, h2_⟩ := ite_none h2_
    refine Run.reg tied [] [] [] [(List.length d2_0 + List.length [b2_0]) * 8 ≤ maxB] (by kernel_rfl) ⟨hv1, trivial⟩ ?_
    refine bN ?_
    obtain rfl := Option.some.inj h2_
    exact rndQ.n [.keep [] [1, 27]] (msk 53 [1, 27]) (by kernel_rfl)
  · rcases ite_some h with ⟨hc4, h⟩ | ⟨hc4, h⟩
    · refine hqN hc4 (σF := mkStD 13 53 [(2, (.ptr 18 [])), (4, .nils), (6, (.func (.func 163) .nil (.cons (.ptr 0 []) .nil)))] [(0, some (.var T196 (.cons (.val (.int .i64) y2.2.2.1) (.cons (.mp 1) .nil)))), (1, some (.map (.int .i64) (.opq .map) y2.2.2.2)), (18, some (.var (.slice 8 (.int .i64)) (.own 34))), (34, some (.row 3 8 (.int .i64) y2.2.1)), (35, some .dfr)] [(.mp 35)]) (by kernel_rfl) ?_
      refine bN ?_
      change Run _ _ _ _ _
      refine Run.sreg tied [] [] [] [] (by kernel_rfl) trivial ?_
      refine Run.ret ?_
      obtain rfl := Option.some.inj h
      exact (mQ_fin [.freeze 34 (.slice 8 (.int .i64)), .keep [4] [0, 1, 35]] [some (.slice 8 (.int .i64))] (msk 53 [0, 1]) (by kernel_rfl)).1
    · cases h

/-- slices.Collect[int] -/
def f82_s1 (a0 : Int) (a1 : List (Int × Unit)) : Option ((List Int) × Int × (List (Int × Unit))) :=
  Option.bind (f162_s1 a0 a1) fun y1 => some (y1.1, y1.2.1, y1.2.2)

set_option maxRecDepth 100000 in
theorem x82_s1 (a0 : Int) (a1 : List (Int × Unit)) (r : (List Int) × Int × (List (Int × Unit))) (h : f82_s1 a0 a1 = some r) : Fc Tryz.prog gl 82 [(.func (.func 163) .nil (.cons (.ptr 0 []) .nil))] (hset (List.replicate 45 none) [(0, some (.var T196 (.cons (.val (.int .i64) a0) (.cons (.mp 1) .nil)))), (1, some (.map (.int .i64) (.opq .map) a1))]) (.ret (.val (.slice 8 (.int .i64)) r.1)) (outH 45 [(0, (.var T196 (.cons (.val (.int .i64) r.2.1) (.cons (.mp 1) .nil)))), (1, (.map (.int .i64) (.opq .map) r.2.2))]) := by
  refine Fc.of Tryz.call82 (FnEx.of_runF tied Tryz.func82 rfl rfl (σ0 := mkSt 5 45 [(0, (.func (.func 163) .nil (.cons (.ptr 0 []) .nil)))] [(0, some (.var T196 (.cons (.val (.int .i64) a0) (.cons (.mp 1) .nil)))), (1, some (.map (.int .i64) (.opq .map) a1))]) (by kernel_rfl) ?_)
  unfold f82_s1 at h
  refine Run.sreg tied [] [] [] [] (by kernel_rfl) trivial ?_
  obtain ⟨y1, hy2, h⟩ := bind_some h
  refine Run.sreg tied [⟨(.val (.slice 8 (.int .i64)) y1.1), [(0, 0), (1, 1)], [], [(0, (.var T196 (.cons (.val (.int .i64) y1.2.1) (.cons (.mp 1) .nil)))), (1, (.map (.int .i64) (.opq .map) y1.2.2))], 53⟩] [] [] [Fc Tryz.prog gl 162 [.nils, (.func (.func 163) .nil (.cons (.ptr 0 []) .nil))] (hset (List.replicate 53 none) [(0, some (.var T196 (.cons (.val (.int .i64) a0) (.cons (.mp 1) .nil)))), (1, some (.map (.int .i64) (.opq .map) a1))]) (.ret (.val (.slice 8 (.int .i64)) y1.1)) (outH 53 [(0, (.var T196 (.cons (.val (.int .i64) y1.2.1) (.cons (.mp 1) .nil)))), (1, (.map (.int .i64) (.opq .map) y1.2.2))])] (by kernel_rfl) ⟨x162_s1 _ _ _ hy2, trivial⟩ ?_
  refine Run.ret ?_
  obtain rfl := Option.some.inj h
  exact (fQ_fin [.keep [2] [0, 1]] [some (.slice 8 (.int .i64))] (msk 45 [0, 1]) (by kernel_rfl)).1

/-- testamur.rules.Order -/
def f41 (a0 : D46) : Option ((List Int) × Bool × Int) :=
  Option.bind (f81_s1 a0) fun y1 => if (!decide (y1.1 = (0 : Int))) = true then none else (Option.bind (f83_s1 y1.2.1 y1.2.2) fun y3 => Option.bind (f82_s1 y3.1 y3.2) fun y5 => if (decide ((List.length y5.1 : Int) < y1.2.1)) = true then none else (some (y5.1, true, (0 : Int))))

set_option maxRecDepth 100000 in
theorem x41 (a0 : D46) (r : (List Int) × Bool × Int) (h : f41 a0 = some r) : Fc Tryz.prog gl 41 [(.val T46 a0)] (hset (List.replicate 63 none) []) (.ret (.tup (.cons (.val (.slice 8 (.int .i64)) r.1) (.cons (.val .bool r.2.1) (.cons (.val (.int .i64) r.2.2) .nil))))) (outH 63 []) := by
  refine Fc.of Tryz.call41 (FnEx.of_runF tied Tryz.func41 rfl rfl (σ0 := mkSt 23 63 [(0, (.val T46 a0))] []) (by kernel_rfl) ?_)
  unfold f41 at h
  refine Run.sreg tied [] [] [] [] (by kernel_rfl) trivial ?_
  obtain ⟨y1, hy2, h⟩ := bind_some h
  refine Run.sreg tied [⟨(.tup (.cons (.cons (.val (.int .i64) y1.2.1) (.cons (.mp 27) .nil)) (.cons (.val (.int .i64) y1.1) .nil))), [], [(27, 24)], [(27, (.map (.int .i64) (.opq .map) y1.2.2))], 100⟩] [] [] [Fc Tryz.prog gl 81 [(.val T46 a0)] (hset (List.replicate 100 none) []) (.ret (.tup (.cons (.cons (.val (.int .i64) y1.2.1) (.cons (.mp 27) .nil)) (.cons (.val (.int .i64) y1.1) .nil)))) (outH 100 [(27, (.map (.int .i64) (.opq .map) y1.2.2))])] (by kernel_rfl) ⟨x81_s1 _ _ hy2, trivial⟩ ?_
  refine Run.seq ?_
  refine Run.sreg tied [] [] [] [] (by kernel_rfl) trivial ?_
  rcases ite_some h with ⟨hc8, h⟩ | ⟨hc8, h⟩
  · refine Run.condT (b := !decide (y1.1 = (0 : Int))) (by kernel_rfl) hc8 ?_
    cases h
  · refine Run.condF (b := !decide (y1.1 = (0 : Int))) (by kernel_rfl) hc8 ?_
    refine Run.skip ?_
    change Run _ _ _ _ _
    obtain ⟨y3, hy4, h⟩ := bind_some h
    obtain ⟨y5, hy6, h⟩ := bind_some h
    refine Run.sreg tied [⟨(.func (.func 163) .nil (.cons (.ptr 17 []) .nil)), [(0, 24)], [(17, 31)], [(0, (.map (.int .i64) (.opq .map) y3.2)), (17, (.var T196 (.cons (.val (.int .i64) y3.1) (.cons (.mp 0) .nil))))], 44⟩, ⟨(.val (.slice 8 (.int .i64)) y5.1), [(0, 31), (1, 24)], [], [(0, (.var T196 (.cons (.val (.int .i64) y5.2.1) (.cons (.mp 1) .nil)))), (1, (.map (.int .i64) (.opq .map) y5.2.2))], 45⟩] [] [] [Fc Tryz.prog gl 83 [(.cons (.val (.int .i64) y1.2.1) (.cons (.mp 0) .nil))] (hset (List.replicate 44 none) [(0, some (.map (.int .i64) (.opq .map) y1.2.2))]) (.ret (.func (.func 163) .nil (.cons (.ptr 17 []) .nil))) (outH 44 [(0, (.map (.int .i64) (.opq .map) y3.2)), (17, (.var T196 (.cons (.val (.int .i64) y3.1) (.cons (.mp 0) .nil))))]), Fc Tryz.prog gl 82 [(.func (.func 163) .nil (.cons (.ptr 0 []) .nil))] (hset (List.replicate 45 none) [(0, some (.var T196 (.cons (.val (.int .i64) y3.1) (.cons (.mp 1) .nil)))), (1, some (.map (.int .i64) (.opq .map) y3.2))]) (.ret (.val (.slice 8 (.int .i64)) y5.1)) (outH 45 [(0, (.var T196 (.cons (.val (.int .i64) y5.2.1) (.cons (.mp 1) .nil)))), (1, (.map (.int .i64) (.opq .map) y5.2.2))])] (by kernel_rfl) ⟨x83_s1 _ _ _ hy4, x82_s1 _ _ _ hy6, trivial⟩ ?_
    refine Run.seq ?_
    refine Run.sreg tied [] [] [] [] (by kernel_rfl) trivial ?_
    rcases ite_some h with ⟨hc7, h⟩ | ⟨hc7, h⟩
    · refine Run.condT (b := decide ((List.length y5.1 : Int) < y1.2.1)) (by kernel_rfl) hc7 ?_
      cases h
    · refine Run.condF (b := decide ((List.length y5.1 : Int) < y1.2.1)) (by kernel_rfl) hc7 ?_
      refine Run.skip ?_
      change Run _ _ _ _ _
      refine Run.sreg tied [] [] [] [] (by kernel_rfl) trivial ?_
      refine Run.ret ?_
      obtain rfl := Option.some.inj h
      exact (fQ_fin [] [some (.slice 8 (.int .i64)), some .bool, some (.int .i64)] (msk 63 []) (by kernel_rfl)).1

/-- testamur.rules.Check -/
def f78 (a0 : D46) : Option Int :=
  Option.bind (f37 a0) fun y1 => if (!decide (y1 = (0 : Int))) = true then none else (Option.bind (f41 a0) fun y3 => if (!decide (y3.2.2 = (0 : Int))) = true then none else (if (!y3.2.1) = true then none else (some (0 : Int))))

set_option maxRecDepth 100000 in
theorem x78 (a0 : D46) (r : Int) (h : f78 a0 = some r) : Fc Tryz.prog gl 78 [(.val T46 a0)] (hset (List.replicate 62 none) []) (.ret (.val (.int .i64) r)) (outH 62 []) := by
  refine Fc.of Tryz.call78 (FnEx.of_runF tied Tryz.func78 rfl rfl (σ0 := mkSt 22 62 [(0, (.val T46 a0))] []) (by kernel_rfl) ?_)
  unfold f78 at h
  refine Run.sreg tied [] [] [] [] (by kernel_rfl) trivial ?_
  refine Run.seq ?_
  obtain ⟨y1, hy2, h⟩ := bind_some h
  refine Run.sreg tied [⟨(.val (.int .i64) y1), [], [], [], 80⟩] [] [] [Fc Tryz.prog gl 37 [(.val T46 a0)] (hset (List.replicate 80 none) []) (.ret (.val (.int .i64) y1)) (outH 80 [])] (by kernel_rfl) ⟨x37 _ _ hy2, trivial⟩ ?_
  refine Run.sreg tied [] [] [] [] (by kernel_rfl) trivial ?_
  rcases ite_some h with ⟨hc7, h⟩ | ⟨hc7, h⟩
  · refine Run.condT (b := !decide (y1 = (0 : Int))) (by kernel_rfl) hc7 ?_
    cases h
  · refine Run.condF (b := !decide (y1 = (0 : Int))) (by kernel_rfl) hc7 ?_
    refine Run.skip ?_
    change Run _ _ _ _ _
    obtain ⟨y3, hy4, h⟩ := bind_some h
    refine Run.sreg tied [⟨(.tup (.cons (.val (.slice 8 (.int .i64)) y3.1) (.cons (.val .bool y3.2.1) (.cons (.val (.int .i64) y3.2.2) .nil)))), [], [], [], 63⟩] [] [] [Fc Tryz.prog gl 41 [(.val T46 a0)] (hset (List.replicate 63 none) []) (.ret (.tup (.cons (.val (.slice 8 (.int .i64)) y3.1) (.cons (.val .bool y3.2.1) (.cons (.val (.int .i64) y3.2.2) .nil))))) (outH 63 [])] (by kernel_rfl) ⟨x41 _ _ hy4, trivial⟩ ?_
    refine Run.seq ?_
    refine Run.sreg tied [] [] [] [] (by kernel_rfl) trivial ?_
    rcases ite_some h with ⟨hc6, h⟩ | ⟨hc6, h⟩
    · refine Run.condT (b := !decide (y3.2.2 = (0 : Int))) (by kernel_rfl) hc6 ?_
      cases h
    · refine Run.condF (b := !decide (y3.2.2 = (0 : Int))) (by kernel_rfl) hc6 ?_
      refine Run.skip ?_
      change Run _ _ _ _ _
      refine Run.seq ?_
      refine Run.sreg tied [] [] [] [] (by kernel_rfl) trivial ?_
      rcases ite_some h with ⟨hc5, h⟩ | ⟨hc5, h⟩
      · refine Run.condT (b := !y3.2.1) (by kernel_rfl) hc5 ?_
        cases h
      · refine Run.condF (b := !y3.2.1) (by kernel_rfl) hc5 ?_
        refine Run.skip ?_
        change Run _ _ _ _ _
        refine Run.sreg tied [] [] [] [] (by kernel_rfl) trivial ?_
        refine Run.ret ?_
        obtain rfl := Option.some.inj h
        exact (fQ_fin [] [some (.int .i64)] (msk 62 []) (by kernel_rfl)).1

/-- (testamur.schemas.set[int]).whole -/
def f79_s1_l1 (a0 : List Int) (_a1 : Int) (_a2 : List (Int × Bool)) : Nat → Option Unit
  | 0 => none
  | _n1 + 1 => if (decide ((0 : Int) < (List.length a0 : Int))) = true then none else (some ())

def f79_s1 (a0 : List Int) (a1 : Int) (a2 : List (Int × Bool)) : Option (Bool × (List (Int × Bool))) :=
  Option.bind (f79_s1_l1 a0 a1 a2 (big)) fun (_o1 : Unit) => some (decide ((List.length a0 : Int) = a1), a2)

set_option maxRecDepth 100000 in
theorem x79_s1 (a0 : List Int) (a1 : Int) (a2 : List (Int × Bool)) (r : Bool × (List (Int × Bool))) (h : f79_s1 a0 a1 a2 = some r) : Fc Tryz.prog gl 79 [(.mp 0), (.val (.slice 8 (.int .i64)) a0), (.val (.int .i64) a1)] (hset (List.replicate 65 none) [(0, some (.map (.int .i64) .bool a2))]) (.ret (.val .bool r.1)) (outH 65 [(0, (.map (.int .i64) .bool r.2))]) := by
  refine Fc.of Tryz.call79 (FnEx.of_runF tied Tryz.func79 rfl rfl (σ0 := mkSt 25 65 [(0, (.mp 0)), (1, (.val (.slice 8 (.int .i64)) a0)), (2, (.val (.int .i64) a1))] [(0, some (.map (.int .i64) .bool a2))]) (by kernel_rfl) ?_)
  unfold f79_s1 at h
  refine Run.sreg tied [] [] [] [] (by kernel_rfl) trivial ?_
  obtain ⟨o1, h1, h⟩ := bind_some h
  refine Run.seqJ (fun σ' => σ' = mkSt 25 65 [(1, (.val (.slice 8 (.int .i64)) a0)), (2, (.val (.int .i64) a1))] [(0, some (.map (.int .i64) .bool a2))]) ?_ ?_
  · refine Run.sreg tied [] [] [] [] (by kernel_rfl) trivial ?_
    refine Run.block ?_
    refine Run.loopJ (fun n σ => f79_s1_l1 a0 a1 a2 n = some o1 ∧ σ = mkSt 25 65 [(0, (.mp 0)), (1, (.val (.slice 8 (.int .i64)) a0)), (2, (.val (.int .i64) a1)), (9, (.val (.slice 8 (.int .i64)) a0)), (10, (.val (.int .i64) (List.length a0 : Int))), (11, (.val (.int .i64) (0 : Int)))] [(0, some (.map (.int .i64) .bool a2))]) [.keep [0, 1, 2, 9, 10, 11] [0]] (by kernel_rfl) ⟨h1, rfl⟩ ?_
    rintro n1 _ ⟨h3, rfl⟩
    cases n1 with
    | zero => exact absurd h3 (by simp [f79_s1_l1])
    | succ n1 =>
      unfold f79_s1_l1 at h3
      refine Run.sreg tied [] [] [] [] (by kernel_rfl) trivial ?_
      refine Run.seq ?_
      rcases ite_some h3 with ⟨hc2, h3⟩ | ⟨hc2, h3⟩
      · refine Run.condT (b := decide ((0 : Int) < (List.length a0 : Int))) (by kernel_rfl) hc2 ?_
        refine Run.skip ?_
        change Run _ _ _ _ _
        refine Run.seq ?_
        refine Run.block ?_
        cases h3
      · refine Run.condF (b := decide ((0 : Int) < (List.length a0 : Int))) (by kernel_rfl) hc2 ?_
        refine Run.exit ?_
        refine tE ?_
        refine lE ?_
        refine bE ?_
        obtain rfl := Option.some.inj h3
        exact jQ.mk [.keep [1, 2] [0]] (by kernel_rfl) rfl
  · rintro _ rfl
    refine Run.sreg tied [] [] [] [] (by kernel_rfl) trivial ?_
    refine Run.ret ?_
    obtain rfl := Option.some.inj h
    exact (fQ_fin [.keep [6] [0]] [some .bool] (msk 65 [0]) (by kernel_rfl)).1

/-- testamur.schemas.ordered -/
def f39 (a0 : D46) : Option Int :=
  Option.bind (f78 a0) fun y1 => if (!decide (y1 = (0 : Int))) = true then none else (Option.bind (f41 a0) fun y3 => if (!decide (y3.2.2 = (0 : Int))) = true then none else (Option.bind (Option.bind (if (!y3.2.1) = true then (some true) else (Option.bind (f79_s1 y3.1 (List.length a0.2.2.1 : Int) ([] : List (Int × Bool))) fun y8 => some (!y8.1))) fun (o6 : Bool) => if o6 = true then none else (some ())) fun (_o5 : Unit) => some (0 : Int)))

set_option maxRecDepth 100000 in
theorem x39 (a0 : D46) (r : Int) (h : f39 a0 = some r) : Fc Tryz.prog gl 39 [(.val T46 a0)] (hset (List.replicate 71 none) []) (.ret (.val (.int .i64) r)) (outH 71 []) := by
  refine Fc.of Tryz.call39 (FnEx.of_runF tied Tryz.func39 rfl rfl (σ0 := mkSt 31 71 [(0, (.val T46 a0))] []) (by kernel_rfl) ?_)
  unfold f39 at h
  refine Run.sreg tied [] [] [] [] (by kernel_rfl) trivial ?_
  refine Run.seq ?_
  obtain ⟨y1, hy2, h⟩ := bind_some h
  refine Run.sreg tied [⟨(.val (.int .i64) y1), [], [], [], 62⟩] [] [] [Fc Tryz.prog gl 78 [(.val T46 a0)] (hset (List.replicate 62 none) []) (.ret (.val (.int .i64) y1)) (outH 62 [])] (by kernel_rfl) ⟨x78 _ _ hy2, trivial⟩ ?_
  refine Run.sreg tied [] [] [] [] (by kernel_rfl) trivial ?_
  rcases ite_some h with ⟨hc12, h⟩ | ⟨hc12, h⟩
  · refine Run.condT (b := !decide (y1 = (0 : Int))) (by kernel_rfl) hc12 ?_
    cases h
  · refine Run.condF (b := !decide (y1 = (0 : Int))) (by kernel_rfl) hc12 ?_
    refine Run.skip ?_
    change Run _ _ _ _ _
    obtain ⟨y3, hy4, h⟩ := bind_some h
    refine Run.sreg tied [⟨(.tup (.cons (.val (.slice 8 (.int .i64)) y3.1) (.cons (.val .bool y3.2.1) (.cons (.val (.int .i64) y3.2.2) .nil)))), [], [], [], 63⟩] [] [] [Fc Tryz.prog gl 41 [(.val T46 a0)] (hset (List.replicate 63 none) []) (.ret (.tup (.cons (.val (.slice 8 (.int .i64)) y3.1) (.cons (.val .bool y3.2.1) (.cons (.val (.int .i64) y3.2.2) .nil))))) (outH 63 [])] (by kernel_rfl) ⟨x41 _ _ hy4, trivial⟩ ?_
    refine Run.seq ?_
    refine Run.sreg tied [] [] [] [] (by kernel_rfl) trivial ?_
    rcases ite_some h with ⟨hc11, h⟩ | ⟨hc11, h⟩
    · refine Run.condT (b := !decide (y3.2.2 = (0 : Int))) (by kernel_rfl) hc11 ?_
      cases h
    · refine Run.condF (b := !decide (y3.2.2 = (0 : Int))) (by kernel_rfl) hc11 ?_
      refine Run.skip ?_
      change Run _ _ _ _ _
      obtain ⟨o5, h1, h⟩ := bind_some h
      refine Run.seqJ (fun σ' => σ' = mkSt 31 71 [] []) ?_ ?_
      · obtain ⟨o6, h3, h1⟩ := bind_some h1
        refine Run.seqJ (fun σ' => σ' = mkSt 31 71 [(30, (.val .bool o6))] []) ?_ ?_
        · rcases ite_some h3 with ⟨hg7, h3⟩ | ⟨hg7, h3⟩
          · refine Run.reg tied [] [true] [] [(!y3.2.1) = true] (by kernel_rfl) ⟨hg7, trivial⟩ ?_
            obtain rfl := Option.some.inj h3
            exact jQ.mk [.keep [30] []] (by kernel_rfl) rfl
          · obtain ⟨y8, hy9, h3⟩ := bind_some h3
            refine Run.reg tied [⟨(.val .bool y8.1), [(0, 39)], [], [(0, (.map (.int .i64) .bool y8.2))], 65⟩] [false] [] [(!y3.2.1) = false, Fc Tryz.prog gl 79 [(.mp 0), (.val (.slice 8 (.int .i64)) y3.1), (.val (.int .i64) (List.length a0.2.2.1 : Int))] (hset (List.replicate 65 none) [(0, some (.map (.int .i64) .bool ([] : List (Int × Bool))))]) (.ret (.val .bool y8.1)) (outH 65 [(0, (.map (.int .i64) .bool y8.2))])] (by kernel_rfl) ⟨hg7, x79_s1 _ _ _ _ hy9, trivial⟩ ?_
            obtain rfl := Option.some.inj h3
            exact jQ.mk [.keep [30] []] (by kernel_rfl) rfl
        · rintro _ rfl
          rcases ite_some h1 with ⟨hc10, h1⟩ | ⟨hc10, h1⟩
          · refine Run.condT (b := o6) (by kernel_rfl) hc10 ?_
            cases h1
          · refine Run.condF (b := o6) (by kernel_rfl) hc10 ?_
            refine Run.skip ?_
            obtain rfl := Option.some.inj h1
            exact jQ.mk [.keep [] []] (by kernel_rfl) rfl
      · rintro _ rfl
        refine Run.sreg tied [] [] [] [] (by kernel_rfl) trivial ?_
        refine Run.ret ?_
        obtain rfl := Option.some.inj h
        exact (fQ_fin [] [some (.int .i64)] (msk 71 []) (by kernel_rfl)).1

/-- testamur.versions.Check -/
def f40_l1 (a0 : D46) : Nat → Option Unit
  | 0 => none
  | _n1 + 1 => if (decide ((0 : Int) < (List.length a0.2.2.2.2.1 : Int))) = true then none else (some ())

def f40 (a0 : D46) : Option Int :=
  Option.bind (f40_l1 a0 (big)) fun (_o1 : Unit) => some (0 : Int)

set_option maxRecDepth 100000 in
theorem x40 (a0 : D46) (r : Int) (h : f40 a0 = some r) : Fc Tryz.prog gl 40 [(.val T46 a0)] (hset (List.replicate 57 none) []) (.ret (.val (.int .i64) r)) (outH 57 []) := by
  refine Fc.of Tryz.call40 (FnEx.of_runF tied Tryz.func40 rfl rfl (σ0 := mkSt 17 57 [(0, (.val T46 a0))] []) (by kernel_rfl) ?_)
  unfold f40 at h
  refine Run.sreg tied [] [] [] [] (by kernel_rfl) trivial ?_
  obtain ⟨o1, h1, h⟩ := bind_some h
  refine Run.seqJ (fun σ' => σ' = mkSt 17 57 [] []) ?_ ?_
  · refine Run.sreg tied [] [] [] [] (by kernel_rfl) trivial ?_
    refine Run.block ?_
    refine Run.loopJ (fun n σ => f40_l1 a0 n = some o1 ∧ σ = mkSt 17 57 [(1, (.ptr 17 [])), (6, (.val (.slice 72 T193) a0.2.2.2.2.1)), (7, (.val (.int .i64) (List.length a0.2.2.2.2.1 : Int))), (8, (.val (.int .i64) (0 : Int)))] [(17, some (.var T46 (.val T46 a0)))]) [.keep [1, 6, 7, 8] [17]] (by kernel_rfl) ⟨h1, rfl⟩ ?_
    rintro n1 _ ⟨h3, rfl⟩
    cases n1 with
    | zero => exact absurd h3 (by simp [f40_l1])
    | succ n1 =>
      unfold f40_l1 at h3
      refine Run.sreg tied [] [] [] [] (by kernel_rfl) trivial ?_
      refine Run.seq ?_
      rcases ite_some h3 with ⟨hc2, h3⟩ | ⟨hc2, h3⟩
      · refine Run.condT (b := decide ((0 : Int) < (List.length a0.2.2.2.2.1 : Int))) (by kernel_rfl) hc2 ?_
        refine Run.skip ?_
        change Run _ _ _ _ _
        refine Run.seq ?_
        refine Run.block ?_
        cases h3
      · refine Run.condF (b := decide ((0 : Int) < (List.length a0.2.2.2.2.1 : Int))) (by kernel_rfl) hc2 ?_
        refine Run.exit ?_
        refine tE ?_
        refine lE ?_
        refine bE ?_
        obtain rfl := Option.some.inj h3
        exact jQ.mk [.keep [] []] (by kernel_rfl) rfl
  · rintro _ rfl
    refine Run.sreg tied [] [] [] [] (by kernel_rfl) trivial ?_
    refine Run.ret ?_
    obtain rfl := Option.some.inj h
    exact (fQ_fin [] [some (.int .i64)] (msk 57 []) (by kernel_rfl)).1

/-- testamur.schemas.Lower -/
def f22 (a0 : D46) : Option (D48 × Int) :=
  Option.bind (Option.bind (f36 a0) fun y2 => if (!decide (y2 = (0 : Int))) = true then none else (Option.bind (f37 a0) fun y4 => if (!decide (y4 = (0 : Int))) = true then none else (Option.bind (f38 a0) fun y6 => if (!decide (y6 = (0 : Int))) = true then none else (Option.bind (f39 a0) fun y8 => if (!decide (y8 = (0 : Int))) = true then none else (Option.bind (f40 a0) fun y10 => if (!decide (y10 = (0 : Int))) = true then none else (some ())))))) fun (_o1 : Unit) => Option.bind (f41 a0) fun y17 => if (!decide (y17.2.2 = (0 : Int))) = true then none else (some ((a0, (y17.1, ())), (0 : Int)))

set_option maxRecDepth 100000 in
theorem x22 (a0 : D46) (r : D48 × Int) (h : f22 a0 = some r) : Fc Tryz.prog gl 22 [(.val T46 a0)] (hset (List.replicate 76 none) []) (.ret (.tup (.cons (.val T48 r.1) (.cons (.val (.int .i64) r.2) .nil)))) (outH 76 []) := by
  refine Fc.of Tryz.call22 (FnEx.of_runF tied Tryz.func22 rfl rfl (σ0 := mkSt 36 76 [(0, (.val T46 a0))] []) (by kernel_rfl) ?_)
  unfold f22 at h
  refine Run.sreg tied [] [] [] [] (by kernel_rfl) trivial ?_
  refine Run.sreg tied [] [] [] [] (by kernel_rfl) trivial ?_
  obtain ⟨o1, h1, h⟩ := bind_some h
  refine Run.seqJ (fun σ' => σ' = mkSt 36 76 [(1, (.ptr 17 [])), (2, (.ptr 18 []))] [(17, some (.var T46 (.val T46 a0))), (18, some (.var T48 (.cons (.cons .nils (.cons .nils (.cons .nils (.cons .nils (.cons .nils (.cons .nils .nil)))))) (.cons .nils .nil))))]) ?_ ?_
  · refine Run.sreg tied [] [] [] [] (by kernel_rfl) trivial ?_
    refine Run.block ?_
    refine Run.unroll 9 ?_
    refine Run.sreg tied [] [] [] [] (by kernel_rfl) trivial ?_
    refine Run.seq ?_
    refine Run.condT (b := true) (by kernel_rfl) rfl ?_
    refine Run.skip ?_
    change Run _ _ _ _ _
    refine Run.seq ?_
    refine Run.block ?_
    refine Run.sreg tied [] [] [] [0 ≤ (0 : Int), (0 : Int) < (5 : Int)] (by kernel_rfl) ⟨(by decide), (by decide), trivial⟩ ?_
    obtain ⟨y2, hy3, h1⟩ := bind_some h1
    refine Run.sreg tied [⟨(.val (.int .i64) y2), [], [], [], 56⟩] [] [] [Fc Tryz.prog gl 36 [(.val T46 a0)] (hset (List.replicate 56 none) []) (.ret (.val (.int .i64) y2)) (outH 56 [])] (by kernel_rfl) ⟨x36 _ _ hy3, trivial⟩ ?_
    refine Run.sreg tied [] [] [] [] (by kernel_rfl) trivial ?_
    rcases ite_some h1 with ⟨hc16, h1⟩ | ⟨hc16, h1⟩
    · refine Run.condT (b := !decide (y2 = (0 : Int))) (by kernel_rfl) hc16 ?_
      cases h1
    · refine Run.condF (b := !decide (y2 = (0 : Int))) (by kernel_rfl) hc16 ?_
      refine Run.skip ?_
      refine bN ?_
      change Run _ _ _ _ _
      refine Run.reg tied [] [] [] [] (by kernel_rfl) trivial ?_
      refine uN ?_
      refine Run.sreg tied [] [] [] [] (by kernel_rfl) trivial ?_
      refine Run.seq ?_
      refine Run.condT (b := true) (by kernel_rfl) rfl ?_
      refine Run.skip ?_
      change Run _ _ _ _ _
      refine Run.seq ?_
      refine Run.block ?_
      refine Run.sreg tied [] [] [] [0 ≤ (1 : Int), (1 : Int) < (5 : Int)] (by kernel_rfl) ⟨(by decide), (by decide), trivial⟩ ?_
      obtain ⟨y4, hy5, h1⟩ := bind_some h1
      refine Run.sreg tied [⟨(.val (.int .i64) y4), [], [], [], 80⟩] [] [] [Fc Tryz.prog gl 37 [(.val T46 a0)] (hset (List.replicate 80 none) []) (.ret (.val (.int .i64) y4)) (outH 80 [])] (by kernel_rfl) ⟨x37 _ _ hy5, trivial⟩ ?_
      refine Run.sreg tied [] [] [] [] (by kernel_rfl) trivial ?_
      rcases ite_some h1 with ⟨hc15, h1⟩ | ⟨hc15, h1⟩
      · refine Run.condT (b := !decide (y4 = (0 : Int))) (by kernel_rfl) hc15 ?_
        cases h1
      · refine Run.condF (b := !decide (y4 = (0 : Int))) (by kernel_rfl) hc15 ?_
        refine Run.skip ?_
        refine bN ?_
        change Run _ _ _ _ _
        refine Run.reg tied [] [] [] [] (by kernel_rfl) trivial ?_
        refine uN ?_
        refine Run.sreg tied [] [] [] [] (by kernel_rfl) trivial ?_
        refine Run.seq ?_
        refine Run.condT (b := true) (by kernel_rfl) rfl ?_
        refine Run.skip ?_
        change Run _ _ _ _ _
        refine Run.seq ?_
        refine Run.block ?_
        refine Run.sreg tied [] [] [] [0 ≤ (2 : Int), (2 : Int) < (5 : Int)] (by kernel_rfl) ⟨(by decide), (by decide), trivial⟩ ?_
        obtain ⟨y6, hy7, h1⟩ := bind_some h1
        refine Run.sreg tied [⟨(.val (.int .i64) y6), [], [], [], 59⟩] [] [] [Fc Tryz.prog gl 38 [(.val T46 a0)] (hset (List.replicate 59 none) []) (.ret (.val (.int .i64) y6)) (outH 59 [])] (by kernel_rfl) ⟨x38 _ _ hy7, trivial⟩ ?_
        refine Run.sreg tied [] [] [] [] (by kernel_rfl) trivial ?_
        rcases ite_some h1 with ⟨hc14, h1⟩ | ⟨hc14, h1⟩
        · refine Run.condT (b := !decide (y6 = (0 : Int))) (by kernel_rfl) hc14 ?_
          cases h1
        · refine Run.condF (b := !decide (y6 = (0 : Int))) (by kernel_rfl) hc14 ?_
          refine Run.skip ?_
          refine bN ?_
          change Run _ _ _ _ _
          refine Run.reg tied [] [] [] [] (by kernel_rfl) trivial ?_
          refine uN ?_
          refine Run.sreg tied [] [] [] [] (by kernel_rfl) trivial ?_
          refine Run.seq ?_
          refine Run.condT (b := true) (by kernel_rfl) rfl ?_
          refine Run.skip ?_
          change Run _ _ _ _ _
          refine Run.seq ?_
          refine Run.block ?_
          refine Run.sreg tied [] [] [] [0 ≤ (3 : Int), (3 : Int) < (5 : Int)] (by kernel_rfl) ⟨(by decide), (by decide), trivial⟩ ?_
          obtain ⟨y8, hy9, h1⟩ := bind_some h1
          refine Run.sreg tied [⟨(.val (.int .i64) y8), [], [], [], 71⟩] [] [] [Fc Tryz.prog gl 39 [(.val T46 a0)] (hset (List.replicate 71 none) []) (.ret (.val (.int .i64) y8)) (outH 71 [])] (by kernel_rfl) ⟨x39 _ _ hy9, trivial⟩ ?_
          refine Run.sreg tied [] [] [] [] (by kernel_rfl) trivial ?_
          rcases ite_some h1 with ⟨hc13, h1⟩ | ⟨hc13, h1⟩
          · refine Run.condT (b := !decide (y8 = (0 : Int))) (by kernel_rfl) hc13 ?_
            cases h1
          · refine Run.condF (b := !decide (y8 = (0 : Int))) (by kernel_rfl) hc13 ?_
            refine Run.skip ?_
            refine bN ?_
            change Run _ _ _ _ _
            refine Run.reg tied [] [] [] [] (by kernel_rfl) trivial ?_
            refine uN ?_
            refine Run.sreg tied [] [] [] [] (by kernel_rfl) trivial ?_
            refine Run.seq ?_
            refine Run.condT (b := true) (by kernel_rfl) rfl ?_
            refine Run.skip ?_
            change Run _ _ _ _ _
            refine Run.seq ?_
            refine Run.block ?_
            refine Run.sreg tied [] [] [] [0 ≤ (4 : Int), (4 : Int) < (5 : Int)] (by kernel_rfl) ⟨(by decide), (by decide), trivial⟩ ?_
            obtain ⟨y10, hy11, h1⟩ := bind_some h1
            refine Run.sreg tied [⟨(.val (.int .i64) y10), [], [], [], 57⟩] [] [] [Fc Tryz.prog gl 40 [(.val T46 a0)] (hset (List.replicate 57 none) []) (.ret (.val (.int .i64) y10)) (outH 57 [])] (by kernel_rfl) ⟨x40 _ _ hy11, trivial⟩ ?_
            refine Run.sreg tied [] [] [] [] (by kernel_rfl) trivial ?_
            rcases ite_some h1 with ⟨hc12, h1⟩ | ⟨hc12, h1⟩
            · refine Run.condT (b := !decide (y10 = (0 : Int))) (by kernel_rfl) hc12 ?_
              cases h1
            · refine Run.condF (b := !decide (y10 = (0 : Int))) (by kernel_rfl) hc12 ?_
              refine Run.skip ?_
              refine bN ?_
              change Run _ _ _ _ _
              refine Run.reg tied [] [] [] [] (by kernel_rfl) trivial ?_
              refine uN ?_
              refine Run.sreg tied [] [] [] [] (by kernel_rfl) trivial ?_
              refine Run.seq ?_
              refine Run.condF (b := false) (by kernel_rfl) rfl ?_
              refine Run.exit ?_
              refine tE ?_
              refine uE ?_
              refine bE ?_
              obtain rfl := Option.some.inj h1
              exact jQ.mk [.keep [1, 2] [17, 18]] (by kernel_rfl) rfl
  · rintro _ rfl
    obtain ⟨y17, hy18, h⟩ := bind_some h
    refine Run.sreg tied [⟨(.tup (.cons (.val (.slice 8 (.int .i64)) y17.1) (.cons (.val .bool y17.2.1) (.cons (.val (.int .i64) y17.2.2) .nil)))), [], [], [], 63⟩] [] [] [Fc Tryz.prog gl 41 [(.val T46 a0)] (hset (List.replicate 63 none) []) (.ret (.tup (.cons (.val (.slice 8 (.int .i64)) y17.1) (.cons (.val .bool y17.2.1) (.cons (.val (.int .i64) y17.2.2) .nil))))) (outH 63 [])] (by kernel_rfl) ⟨x41 _ _ hy18, trivial⟩ ?_
    refine Run.seq ?_
    refine Run.sreg tied [] [] [] [] (by kernel_rfl) trivial ?_
    rcases ite_some h with ⟨hc19, h⟩ | ⟨hc19, h⟩
    · refine Run.condT (b := !decide (y17.2.2 = (0 : Int))) (by kernel_rfl) hc19 ?_
      cases h
    · refine Run.condF (b := !decide (y17.2.2 = (0 : Int))) (by kernel_rfl) hc19 ?_
      refine Run.skip ?_
      change Run _ _ _ _ _
      refine Run.sreg tied [] [] [] [] (by kernel_rfl) trivial ?_
      refine Run.ret ?_
      obtain rfl := Option.some.inj h
      exact (fQ_fin [] [some T48, some (.int .i64)] (msk 76 []) (by kernel_rfl)).1

/-- slices.Equal[[]int,int] -/
def f43_l1 (a0 : List Int) (_a1 : List Int) : Nat → Option Unit
  | 0 => none
  | _n1 + 1 => if (decide ((0 : Int) < (List.length a0 : Int))) = true then none else (some ())

def f43 (a0 : List Int) (a1 : List Int) : Option Bool :=
  if (!decide ((List.length a0 : Int) = (List.length a1 : Int))) = true then none else (Option.bind (f43_l1 a0 a1 (big)) fun (_o1 : Unit) => some true)

set_option maxRecDepth 100000 in
theorem x43 (a0 : List Int) (a1 : List Int) (r : Bool) (h : f43 a0 a1 = some r) : Fc Tryz.prog gl 43 [(.val (.slice 8 (.int .i64)) a0), (.val (.slice 8 (.int .i64)) a1)] (hset (List.replicate 66 none) []) (.ret (.val .bool r)) (outH 66 []) := by
  refine Fc.of Tryz.call43 (FnEx.of_runF tied Tryz.func43 rfl rfl (σ0 := mkSt 26 66 [(0, (.val (.slice 8 (.int .i64)) a0)), (1, (.val (.slice 8 (.int .i64)) a1))] []) (by kernel_rfl) ?_)
  unfold f43 at h
  refine Run.sreg tied [] [] [] [] (by kernel_rfl) trivial ?_
  refine Run.seq ?_
  refine Run.sreg tied [] [] [] [] (by kernel_rfl) trivial ?_
  rcases ite_some h with ⟨hc3, h⟩ | ⟨hc3, h⟩
  · refine Run.condT (b := !decide ((List.length a0 : Int) = (List.length a1 : Int))) (by kernel_rfl) hc3 ?_
    cases h
  · refine Run.condF (b := !decide ((List.length a0 : Int) = (List.length a1 : Int))) (by kernel_rfl) hc3 ?_
    refine Run.skip ?_
    change Run _ _ _ _ _
    obtain ⟨o1, h1, h⟩ := bind_some h
    refine Run.seqJ (fun σ' => σ' = mkSt 26 66 [] []) ?_ ?_
    · refine Run.sreg tied [] [] [] [] (by kernel_rfl) trivial ?_
      refine Run.block ?_
      refine Run.loopJ (fun n σ => f43_l1 a0 a1 n = some o1 ∧ σ = mkSt 26 66 [(0, (.val (.slice 8 (.int .i64)) a0)), (1, (.val (.slice 8 (.int .i64)) a1)), (12, (.val (.int .i64) (List.length a0 : Int))), (13, (.val (.int .i64) (0 : Int)))] []) [.keep [0, 1, 12, 13] []] (by kernel_rfl) ⟨h1, rfl⟩ ?_
      rintro n1 _ ⟨h3, rfl⟩
      cases n1 with
      | zero => exact absurd h3 (by simp [f43_l1])
      | succ n1 =>
        unfold f43_l1 at h3
        refine Run.sreg tied [] [] [] [] (by kernel_rfl) trivial ?_
        refine Run.seq ?_
        rcases ite_some h3 with ⟨hc2, h3⟩ | ⟨hc2, h3⟩
        · refine Run.condT (b := decide ((0 : Int) < (List.length a0 : Int))) (by kernel_rfl) hc2 ?_
          refine Run.skip ?_
          change Run _ _ _ _ _
          refine Run.seq ?_
          refine Run.block ?_
          cases h3
        · refine Run.condF (b := decide ((0 : Int) < (List.length a0 : Int))) (by kernel_rfl) hc2 ?_
          refine Run.exit ?_
          refine tE ?_
          refine lE ?_
          refine bE ?_
          obtain rfl := Option.some.inj h3
          exact jQ.mk [.keep [] []] (by kernel_rfl) rfl
    · rintro _ rfl
      refine Run.sreg tied [] [] [] [] (by kernel_rfl) trivial ?_
      refine Run.ret ?_
      obtain rfl := Option.some.inj h
      exact (fQ_fin [] [some .bool] (msk 66 []) (by kernel_rfl)).1

/-- testamur.schemas.Same -/
def f23 (a0 : D48) (a1 : D48) : Option Bool :=
  Option.bind (Option.bind (f42 a0.1 a1.1) fun y2 => if y2 = true then (Option.bind (f43 a0.2.1 a1.2.1) fun y5 => some y5) else (some false)) fun (o1 : Bool) => some o1

set_option maxRecDepth 100000 in
theorem x23 (a0 : D48) (a1 : D48) (r : Bool) (h : f23 a0 a1 = some r) : Fc Tryz.prog gl 23 [(.val T48 a0), (.val T48 a1)] (hset (List.replicate 57 none) []) (.ret (.val .bool r)) (outH 57 []) := by
  refine Fc.of Tryz.call23 (FnEx.of_runF tied Tryz.func23 rfl rfl (σ0 := mkSt 17 57 [(0, (.val T48 a0)), (1, (.val T48 a1))] []) (by kernel_rfl) ?_)
  unfold f23 at h
  refine Run.sreg tied [] [] [] [] (by kernel_rfl) trivial ?_
  obtain ⟨o1, h1, h⟩ := bind_some h
  refine Run.seqJ (fun σ' => σ' = mkSt 17 57 [(4, (.val .bool o1))] []) ?_ ?_
  · obtain ⟨y2, hy3, h1⟩ := bind_some h1
    rcases ite_some h1 with ⟨hg4, h1⟩ | ⟨hg4, h1⟩
    · obtain ⟨y5, hy6, h1⟩ := bind_some h1
      refine Run.reg tied [⟨(.val .bool y2), [], [], [], 85⟩, ⟨(.val .bool y5), [], [], [], 66⟩] [true] [] [Fc Tryz.prog gl 42 [(.val T46 a0.1), (.val T46 a1.1)] (hset (List.replicate 85 none) []) (.ret (.val .bool y2)) (outH 85 []), y2 = true, Fc Tryz.prog gl 43 [(.val (.slice 8 (.int .i64)) a0.2.1), (.val (.slice 8 (.int .i64)) a1.2.1)] (hset (List.replicate 66 none) []) (.ret (.val .bool y5)) (outH 66 [])] (by kernel_rfl) ⟨x42 _ _ _ hy3, hg4, x43 _ _ _ hy6, trivial⟩ ?_
      obtain rfl := Option.some.inj h1
      exact jQ.mk [.keep [4] []] (by kernel_rfl) rfl
    · refine Run.reg tied [⟨(.val .bool y2), [], [], [], 85⟩] [false] [] [Fc Tryz.prog gl 42 [(.val T46 a0.1), (.val T46 a1.1)] (hset (List.replicate 85 none) []) (.ret (.val .bool y2)) (outH 85 []), y2 = false] (by kernel_rfl) ⟨x42 _ _ _ hy3, hg4, trivial⟩ ?_
      obtain rfl := Option.some.inj h1
      exact jQ.mk [.keep [4] []] (by kernel_rfl) rfl
  · rintro _ rfl
    refine Run.ret ?_
    obtain rfl := Option.some.inj h
    exact (fQ_fin [] [some .bool] (msk 57 []) (by kernel_rfl)).1

/-- testamur.schemas.Check -/
def f16 (a0 : D48) : Option Int :=
  Option.bind (f22 a0.1) fun y1 => Option.bind (Option.bind (if (!decide (y1.2 = (0 : Int))) = true then (some true) else (Option.bind (f23 y1.1 a0) fun y6 => some (!y6))) fun (o4 : Bool) => if o4 = true then none else (some ())) fun (_o3 : Unit) => some (0 : Int)

set_option maxRecDepth 100000 in
theorem x16 (a0 : D48) (r : Int) (h : f16 a0 = some r) : Fc Tryz.prog gl 16 [(.val T48 a0)] (hset (List.replicate 58 none) []) (.ret (.val (.int .i64) r)) (outH 58 []) := by
  refine Fc.of Tryz.call16 (FnEx.of_runF tied Tryz.func16 rfl rfl (σ0 := mkSt 18 58 [(0, (.val T48 a0))] []) (by kernel_rfl) ?_)
  unfold f16 at h
  refine Run.sreg tied [] [] [] [] (by kernel_rfl) trivial ?_
  obtain ⟨y1, hy2, h⟩ := bind_some h
  refine Run.sreg tied [⟨(.tup (.cons (.val T48 y1.1) (.cons (.val (.int .i64) y1.2) .nil))), [], [], [], 76⟩] [] [] [Fc Tryz.prog gl 22 [(.val T46 a0.1)] (hset (List.replicate 76 none) []) (.ret (.tup (.cons (.val T48 y1.1) (.cons (.val (.int .i64) y1.2) .nil)))) (outH 76 [])] (by kernel_rfl) ⟨x22 _ _ hy2, trivial⟩ ?_
  obtain ⟨o3, h1, h⟩ := bind_some h
  refine Run.seqJ (fun σ' => σ' = mkSt 18 58 [] []) ?_ ?_
  · obtain ⟨o4, h3, h1⟩ := bind_some h1
    refine Run.seqJ (fun σ' => σ' = mkSt 18 58 [(17, (.val .bool o4))] []) ?_ ?_
    · rcases ite_some h3 with ⟨hg5, h3⟩ | ⟨hg5, h3⟩
      · refine Run.reg tied [] [true] [] [(!decide (y1.2 = (0 : Int))) = true] (by kernel_rfl) ⟨hg5, trivial⟩ ?_
        obtain rfl := Option.some.inj h3
        exact jQ.mk [.keep [17] []] (by kernel_rfl) rfl
      · obtain ⟨y6, hy7, h3⟩ := bind_some h3
        refine Run.reg tied [⟨(.val .bool y6), [], [], [], 57⟩] [false] [] [(!decide (y1.2 = (0 : Int))) = false, Fc Tryz.prog gl 23 [(.val T48 y1.1), (.val T48 a0)] (hset (List.replicate 57 none) []) (.ret (.val .bool y6)) (outH 57 [])] (by kernel_rfl) ⟨hg5, x23 _ _ _ hy7, trivial⟩ ?_
        obtain rfl := Option.some.inj h3
        exact jQ.mk [.keep [17] []] (by kernel_rfl) rfl
    · rintro _ rfl
      rcases ite_some h1 with ⟨hc8, h1⟩ | ⟨hc8, h1⟩
      · refine Run.condT (b := o4) (by kernel_rfl) hc8 ?_
        cases h1
      · refine Run.condF (b := o4) (by kernel_rfl) hc8 ?_
        refine Run.skip ?_
        obtain rfl := Option.some.inj h1
        exact jQ.mk [.keep [] []] (by kernel_rfl) rfl
  · rintro _ rfl
    refine Run.sreg tied [] [] [] [] (by kernel_rfl) trivial ?_
    refine Run.ret ?_
    obtain rfl := Option.some.inj h
    exact (fQ_fin [] [some (.int .i64)] (msk 58 []) (by kernel_rfl)).1

/-- testamur.lex.Name -/
def f59 (a0 : List UInt8) : Option Bool :=
  Option.bind (Option.bind (if (decide (a0 = [])) = true then (some true) else (some (decide ((32 : Int) < (List.length a0 : Int))))) fun (o2 : Bool) => if o2 = true then (some (.ret false)) else (some (.brk ()))) fun (o1 : Ctl Unit Bool) => match o1 with | .brk _v5 => none | .ret r6 => (some r6)

set_option maxRecDepth 100000 in
theorem x59 (a0 : List UInt8) (r : Bool) (h : f59 a0 = some r) : Fc Tryz.prog gl 59 [(.val .str a0)] (hset (List.replicate 94 none) []) (.ret (.val .bool r)) (outH 94 []) := by
  refine Fc.of Tryz.call59 (FnEx.of_runF tied Tryz.func59 rfl rfl (σ0 := mkSt 54 94 [(0, (.val .str a0))] []) (by kernel_rfl) ?_)
  unfold f59 at h
  refine Run.sreg tied [] [] [] [] (by kernel_rfl) trivial ?_
  obtain ⟨o1, h1, h⟩ := bind_some h
  refine Run.seqJ (fun σ' => ∃ v5, o1 = .brk v5 ∧ σ' = mkSt 54 94 [(0, (.val .str a0))] []) ?_ ?_
  · obtain ⟨o2, h3, h1⟩ := bind_some h1
    refine Run.seqJ (fun σ' => σ' = mkSt 54 94 [(0, (.val .str a0)), (12, (.val .bool o2))] []) ?_ ?_
    · rcases ite_some h3 with ⟨hg3, h3⟩ | ⟨hg3, h3⟩
      · refine Run.reg tied [] [true] [] [(decide (a0 = [])) = true] (by kernel_rfl) ⟨hg3, trivial⟩ ?_
        obtain rfl := Option.some.inj h3
        exact jQ.mk [.keep [0, 12] []] (by kernel_rfl) rfl
      · refine Run.reg tied [] [false] [] [(decide (a0 = [])) = false] (by kernel_rfl) ⟨hg3, trivial⟩ ?_
        obtain rfl := Option.some.inj h3
        exact jQ.mk [.keep [0, 12] []] (by kernel_rfl) rfl
    · rintro _ rfl
      rcases ite_some h1 with ⟨hc4, h1⟩ | ⟨hc4, h1⟩
      · refine Run.condT (b := o2) (by kernel_rfl) hc4 ?_
        refine Run.sreg tied [] [] [] [] (by kernel_rfl) trivial ?_
        refine Run.ret ?_
        obtain rfl := Option.some.inj h1
        dsimp only at h
        obtain rfl := Option.some.inj h
        exact (fQ_fin [] [some .bool] (msk 94 []) (by kernel_rfl)).1
      · refine Run.condF (b := o2) (by kernel_rfl) hc4 ?_
        refine Run.skip ?_
        obtain rfl := Option.some.inj h1
        exact jQ.mk [.keep [0] []] (by kernel_rfl) ⟨_, rfl, rfl⟩
  · rintro _ ⟨v5, rfl, rfl⟩
    dsimp only at h
    cases h

/-- testamur.questions.Check -/
def f31_s1 (a0 : D48) (a1 : List UInt8) (a2 : Int) (_a3 : Int) (_a4 : Int) (_a5 : Int) (_a6 : List UInt8) (_a7 : List UInt8) (_a8 : Int) (_a9 : Int) (_a10 : Int) (_a11 : List UInt8) (_a12 : List UInt8) (_a13 : Int) (_a14 : Int) (_a15 : Int) : Option Int :=
  Option.bind (Option.bind (Option.bind (f59 a1) fun y3 => if (!y3) = true then (some true) else (if (decide (a2 < (0 : Int))) = true then (some true) else (some (decide ((List.length a0.1.2.2.2.2.2.1 : Int) ≤ a2))))) fun (o2 : Bool) => if o2 = true then (some (.ret (210 : Int))) else (some (.brk ()))) fun (o1 : Ctl Unit Int) => match o1 with | .brk _v8 => none | .ret r9 => (some r9)

set_option maxRecDepth 100000 in
theorem x31_s1 (a0 : D48) (a1 : List UInt8) (a2 : Int) (a3 : Int) (a4 : Int) (a5 : Int) (a6 : List UInt8) (a7 : List UInt8) (a8 : Int) (a9 : Int) (a10 : Int) (a11 : List UInt8) (a12 : List UInt8) (a13 : Int) (a14 : Int) (a15 : Int) (r : Int) (h : f31_s1 a0 a1 a2 a3 a4 a5 a6 a7 a8 a9 a10 a11 a12 a13 a14 a15 = some r) : Fc Tryz.prog gl 31 [(.val T48 a0), (.cons (.val .str a1) (.cons (.val (.int .i64) a2) (.cons .nils (.cons (.cons (.val (.int .i64) a3) (.cons (.val (.int .i64) a4) (.cons .nils (.cons (.cons (.val (.int .i64) a5) (.cons (.cons (.val .str a6) (.cons (.val .str a7) (.cons (.val (.int .i64) a8) (.cons (.val (.int .i64) a9) (.cons (.val (.int .i64) a10) .nil))))) (.cons (.cons (.val .str a11) (.cons (.val .str a12) (.cons (.val (.int .i64) a13) (.cons (.val (.int .i64) a14) (.cons (.val (.int .i64) a15) .nil))))) .nil))) .nil)))) .nil))))] (hset (List.replicate 106 none) []) (.ret (.val (.int .i64) r)) (outH 106 []) := by
  refine Fc.of Tryz.call31 (FnEx.of_runF tied Tryz.func31 rfl rfl (σ0 := mkSt 66 106 [(0, (.val T48 a0)), (1, (.cons (.val .str a1) (.cons (.val (.int .i64) a2) (.cons .nils (.cons (.cons (.val (.int .i64) a3) (.cons (.val (.int .i64) a4) (.cons .nils (.cons (.cons (.val (.int .i64) a5) (.cons (.cons (.val .str a6) (.cons (.val .str a7) (.cons (.val (.int .i64) a8) (.cons (.val (.int .i64) a9) (.cons (.val (.int .i64) a10) .nil))))) (.cons (.cons (.val .str a11) (.cons (.val .str a12) (.cons (.val (.int .i64) a13) (.cons (.val (.int .i64) a14) (.cons (.val (.int .i64) a15) .nil))))) .nil))) .nil)))) .nil)))))] []) (by kernel_rfl) ?_)
  unfold f31_s1 at h
  refine Run.sreg tied [] [] [] [] (by kernel_rfl) trivial ?_
  refine Run.sreg tied [] [] [] [] (by kernel_rfl) trivial ?_
  obtain ⟨o1, h1, h⟩ := bind_some h
  refine Run.seqJ (fun σ' => ∃ v8, o1 = .brk v8 ∧ σ' = mkSt 66 106 [(3, (.ptr 19 [])), (5, (.ptr 21 []))] [(19, some (.var T58 (.cons (.val .str a1) (.cons (.val (.int .i64) a2) (.cons .nils (.cons (.cons (.val (.int .i64) a3) (.cons (.val (.int .i64) a4) (.cons .nils (.cons (.cons (.val (.int .i64) a5) (.cons (.cons (.val .str a6) (.cons (.val .str a7) (.cons (.val (.int .i64) a8) (.cons (.val (.int .i64) a9) (.cons (.val (.int .i64) a10) .nil))))) (.cons (.cons (.val .str a11) (.cons (.val .str a12) (.cons (.val (.int .i64) a13) (.cons (.val (.int .i64) a14) (.cons (.val (.int .i64) a15) .nil))))) .nil))) .nil)))) .nil)))))), (21, some (.var T46 (.val T46 a0.1)))]) ?_ ?_
  · obtain ⟨o2, h3, h1⟩ := bind_some h1
    refine Run.seqJ (fun σ' => σ' = mkSt 66 106 [(3, (.ptr 19 [])), (5, (.ptr 21 [])), (28, (.val .bool o2))] [(19, some (.var T58 (.cons (.val .str a1) (.cons (.val (.int .i64) a2) (.cons .nils (.cons (.cons (.val (.int .i64) a3) (.cons (.val (.int .i64) a4) (.cons .nils (.cons (.cons (.val (.int .i64) a5) (.cons (.cons (.val .str a6) (.cons (.val .str a7) (.cons (.val (.int .i64) a8) (.cons (.val (.int .i64) a9) (.cons (.val (.int .i64) a10) .nil))))) (.cons (.cons (.val .str a11) (.cons (.val .str a12) (.cons (.val (.int .i64) a13) (.cons (.val (.int .i64) a14) (.cons (.val (.int .i64) a15) .nil))))) .nil))) .nil)))) .nil)))))), (21, some (.var T46 (.val T46 a0.1)))]) ?_ ?_
    · obtain ⟨y3, hy4, h3⟩ := bind_some h3
      rcases ite_some h3 with ⟨hg5, h3⟩ | ⟨hg5, h3⟩
      · refine Run.reg tied [⟨(.val .bool y3), [], [], [], 94⟩] [true, true] [] [Fc Tryz.prog gl 59 [(.val .str a1)] (hset (List.replicate 94 none) []) (.ret (.val .bool y3)) (outH 94 []), (!y3) = true, true = true] (by kernel_rfl) ⟨x59 _ _ hy4, hg5, rfl, trivial⟩ ?_
        obtain rfl := Option.some.inj h3
        exact jQ.mk [.keep [3, 5, 28] [19, 21]] (by kernel_rfl) rfl
      · rcases ite_some h3 with ⟨hg6, h3⟩ | ⟨hg6, h3⟩
        · refine Run.reg tied [⟨(.val .bool y3), [], [], [], 94⟩] [false, true] [] [Fc Tryz.prog gl 59 [(.val .str a1)] (hset (List.replicate 94 none) []) (.ret (.val .bool y3)) (outH 94 []), (!y3) = false, (decide (a2 < (0 : Int))) = true] (by kernel_rfl) ⟨x59 _ _ hy4, hg5, hg6, trivial⟩ ?_
          obtain rfl := Option.some.inj h3
          exact jQ.mk [.keep [3, 5, 28] [19, 21]] (by kernel_rfl) rfl
        · refine Run.reg tied [⟨(.val .bool y3), [], [], [], 94⟩] [false, false] [] [Fc Tryz.prog gl 59 [(.val .str a1)] (hset (List.replicate 94 none) []) (.ret (.val .bool y3)) (outH 94 []), (!y3) = false, (decide (a2 < (0 : Int))) = false] (by kernel_rfl) ⟨x59 _ _ hy4, hg5, hg6, trivial⟩ ?_
          obtain rfl := Option.some.inj h3
          exact jQ.mk [.keep [3, 5, 28] [19, 21]] (by kernel_rfl) rfl
    · rintro _ rfl
      rcases ite_some h1 with ⟨hc7, h1⟩ | ⟨hc7, h1⟩
      · refine Run.condT (b := o2) (by kernel_rfl) hc7 ?_
        refine Run.sreg tied [] [] [] [] (by kernel_rfl) trivial ?_
        refine Run.ret ?_
        obtain rfl := Option.some.inj h1
        dsimp only at h
        obtain rfl := Option.some.inj h
        exact (fQ_fin [] [some (.int .i64)] (msk 106 []) (by kernel_rfl)).1
      · refine Run.condF (b := o2) (by kernel_rfl) hc7 ?_
        refine Run.skip ?_
        obtain rfl := Option.some.inj h1
        exact jQ.mk [.keep [3, 5] [19, 21]] (by kernel_rfl) ⟨_, rfl, rfl⟩
  · rintro _ ⟨v8, rfl, rfl⟩
    dsimp only at h
    cases h

/-- testamur.questions.Print -/
def f24_s1 (a0 : D48) (a1 : List UInt8) (a2 : Int) (a3 : Int) (a4 : Int) (a5 : Int) (a6 : List UInt8) (a7 : List UInt8) (a8 : Int) (a9 : Int) (a10 : Int) (a11 : List UInt8) (a12 : List UInt8) (a13 : Int) (a14 : Int) (a15 : Int) : Option ((List UInt8) × Int) :=
  Option.bind (f31_s1 a0 a1 a2 a3 a4 a5 a6 a7 a8 a9 a10 a11 a12 a13 a14 a15) fun y1 => if (!decide (y1 = (0 : Int))) = true then (some ([], y1)) else none

set_option maxRecDepth 100000 in
theorem x24_s1 (a0 : D48) (a1 : List UInt8) (a2 : Int) (a3 : Int) (a4 : Int) (a5 : Int) (a6 : List UInt8) (a7 : List UInt8) (a8 : Int) (a9 : Int) (a10 : Int) (a11 : List UInt8) (a12 : List UInt8) (a13 : Int) (a14 : Int) (a15 : Int) (r : (List UInt8) × Int) (h : f24_s1 a0 a1 a2 a3 a4 a5 a6 a7 a8 a9 a10 a11 a12 a13 a14 a15 = some r) : Fc Tryz.prog gl 24 [(.val T48 a0), (.cons (.val .str a1) (.cons (.val (.int .i64) a2) (.cons .nils (.cons (.cons (.val (.int .i64) a3) (.cons (.val (.int .i64) a4) (.cons .nils (.cons (.cons (.val (.int .i64) a5) (.cons (.cons (.val .str a6) (.cons (.val .str a7) (.cons (.val (.int .i64) a8) (.cons (.val (.int .i64) a9) (.cons (.val (.int .i64) a10) .nil))))) (.cons (.cons (.val .str a11) (.cons (.val .str a12) (.cons (.val (.int .i64) a13) (.cons (.val (.int .i64) a14) (.cons (.val (.int .i64) a15) .nil))))) .nil))) .nil)))) .nil))))] (hset (List.replicate 121 none) []) (.ret (.tup (.cons (.val .str r.1) (.cons (.val (.int .i64) r.2) .nil)))) (outH 121 []) := by
  refine Fc.of Tryz.call24 (FnEx.of_runF tied Tryz.func24 rfl rfl (σ0 := mkSt 81 121 [(0, (.val T48 a0)), (1, (.cons (.val .str a1) (.cons (.val (.int .i64) a2) (.cons .nils (.cons (.cons (.val (.int .i64) a3) (.cons (.val (.int .i64) a4) (.cons .nils (.cons (.cons (.val (.int .i64) a5) (.cons (.cons (.val .str a6) (.cons (.val .str a7) (.cons (.val (.int .i64) a8) (.cons (.val (.int .i64) a9) (.cons (.val (.int .i64) a10) .nil))))) (.cons (.cons (.val .str a11) (.cons (.val .str a12) (.cons (.val (.int .i64) a13) (.cons (.val (.int .i64) a14) (.cons (.val (.int .i64) a15) .nil))))) .nil))) .nil)))) .nil)))))] []) (by kernel_rfl) ?_)
  unfold f24_s1 at h
  refine Run.sreg tied [] [] [] [] (by kernel_rfl) trivial ?_
  refine Run.seq ?_
  obtain ⟨y1, hy2, h⟩ := bind_some h
  refine Run.sreg tied [⟨(.val (.int .i64) y1), [], [], [], 106⟩] [] [] [Fc Tryz.prog gl 31 [(.val T48 a0), (.cons (.val .str a1) (.cons (.val (.int .i64) a2) (.cons .nils (.cons (.cons (.val (.int .i64) a3) (.cons (.val (.int .i64) a4) (.cons .nils (.cons (.cons (.val (.int .i64) a5) (.cons (.cons (.val .str a6) (.cons (.val .str a7) (.cons (.val (.int .i64) a8) (.cons (.val (.int .i64) a9) (.cons (.val (.int .i64) a10) .nil))))) (.cons (.cons (.val .str a11) (.cons (.val .str a12) (.cons (.val (.int .i64) a13) (.cons (.val (.int .i64) a14) (.cons (.val (.int .i64) a15) .nil))))) .nil))) .nil)))) .nil))))] (hset (List.replicate 106 none) []) (.ret (.val (.int .i64) y1)) (outH 106 [])] (by kernel_rfl) ⟨x31_s1 _ _ _ _ _ _ _ _ _ _ _ _ _ _ _ _ _ hy2, trivial⟩ ?_
  refine Run.sreg tied [] [] [] [] (by kernel_rfl) trivial ?_
  rcases ite_some h with ⟨hc3, h⟩ | ⟨hc3, h⟩
  · refine Run.condT (b := !decide (y1 = (0 : Int))) (by kernel_rfl) hc3 ?_
    refine Run.sreg tied [] [] [] [] (by kernel_rfl) trivial ?_
    refine Run.ret ?_
    obtain rfl := Option.some.inj h
    exact (fQ_fin [] [some .str, some (.int .i64)] (msk 121 []) (by kernel_rfl)).1
  · refine Run.condF (b := !decide (y1 = (0 : Int))) (by kernel_rfl) hc3 ?_
    refine Run.skip ?_
    change Run _ _ _ _ _
    cases h

/-- testamur.questions.Digest -/
def f17_s1 (a0 : D48) (a1 : List UInt8) (a2 : Int) (a3 : Int) (a4 : Int) (a5 : Int) (a6 : List UInt8) (a7 : List UInt8) (a8 : Int) (a9 : Int) (a10 : Int) (a11 : List UInt8) (a12 : List UInt8) (a13 : Int) (a14 : Int) (a15 : Int) : Option (D29 × Int) :=
  Option.bind (f24_s1 a0 a1 a2 a3 a4 a5 a6 a7 a8 a9 a10 a11 a12 a13 a14 a15) fun y1 => if (!decide (y1.2 = (0 : Int))) = true then (some (Ty.dflt T29, y1.2)) else none

set_option maxRecDepth 100000 in
theorem x17_s1 (a0 : D48) (a1 : List UInt8) (a2 : Int) (a3 : Int) (a4 : Int) (a5 : Int) (a6 : List UInt8) (a7 : List UInt8) (a8 : Int) (a9 : Int) (a10 : Int) (a11 : List UInt8) (a12 : List UInt8) (a13 : Int) (a14 : Int) (a15 : Int) (r : D29 × Int) (h : f17_s1 a0 a1 a2 a3 a4 a5 a6 a7 a8 a9 a10 a11 a12 a13 a14 a15 = some r) : Fc Tryz.prog gl 17 [(.val T48 a0), (.cons (.val .str a1) (.cons (.val (.int .i64) a2) (.cons .nils (.cons (.cons (.val (.int .i64) a3) (.cons (.val (.int .i64) a4) (.cons .nils (.cons (.cons (.val (.int .i64) a5) (.cons (.cons (.val .str a6) (.cons (.val .str a7) (.cons (.val (.int .i64) a8) (.cons (.val (.int .i64) a9) (.cons (.val (.int .i64) a10) .nil))))) (.cons (.cons (.val .str a11) (.cons (.val .str a12) (.cons (.val (.int .i64) a13) (.cons (.val (.int .i64) a14) (.cons (.val (.int .i64) a15) .nil))))) .nil))) .nil)))) .nil))))] (hset (List.replicate 60 none) []) (.ret (.tup (.cons (.val T29 r.1) (.cons (.val (.int .i64) r.2) .nil)))) (outH 60 []) := by
  refine Fc.of Tryz.call17 (FnEx.of_runF tied Tryz.func17 rfl rfl (σ0 := mkSt 20 60 [(0, (.val T48 a0)), (1, (.cons (.val .str a1) (.cons (.val (.int .i64) a2) (.cons .nils (.cons (.cons (.val (.int .i64) a3) (.cons (.val (.int .i64) a4) (.cons .nils (.cons (.cons (.val (.int .i64) a5) (.cons (.cons (.val .str a6) (.cons (.val .str a7) (.cons (.val (.int .i64) a8) (.cons (.val (.int .i64) a9) (.cons (.val (.int .i64) a10) .nil))))) (.cons (.cons (.val .str a11) (.cons (.val .str a12) (.cons (.val (.int .i64) a13) (.cons (.val (.int .i64) a14) (.cons (.val (.int .i64) a15) .nil))))) .nil))) .nil)))) .nil)))))] []) (by kernel_rfl) ?_)
  unfold f17_s1 at h
  refine Run.sreg tied [] [] [] [] (by kernel_rfl) trivial ?_
  obtain ⟨y1, hy2, h⟩ := bind_some h
  refine Run.sreg tied [⟨(.tup (.cons (.val .str y1.1) (.cons (.val (.int .i64) y1.2) .nil))), [], [], [], 121⟩] [] [] [Fc Tryz.prog gl 24 [(.val T48 a0), (.cons (.val .str a1) (.cons (.val (.int .i64) a2) (.cons .nils (.cons (.cons (.val (.int .i64) a3) (.cons (.val (.int .i64) a4) (.cons .nils (.cons (.cons (.val (.int .i64) a5) (.cons (.cons (.val .str a6) (.cons (.val .str a7) (.cons (.val (.int .i64) a8) (.cons (.val (.int .i64) a9) (.cons (.val (.int .i64) a10) .nil))))) (.cons (.cons (.val .str a11) (.cons (.val .str a12) (.cons (.val (.int .i64) a13) (.cons (.val (.int .i64) a14) (.cons (.val (.int .i64) a15) .nil))))) .nil))) .nil)))) .nil))))] (hset (List.replicate 121 none) []) (.ret (.tup (.cons (.val .str y1.1) (.cons (.val (.int .i64) y1.2) .nil)))) (outH 121 [])] (by kernel_rfl) ⟨x24_s1 _ _ _ _ _ _ _ _ _ _ _ _ _ _ _ _ _ hy2, trivial⟩ ?_
  refine Run.seq ?_
  refine Run.sreg tied [] [] [] [] (by kernel_rfl) trivial ?_
  rcases ite_some h with ⟨hc3, h⟩ | ⟨hc3, h⟩
  · refine Run.condT (b := !decide (y1.2 = (0 : Int))) (by kernel_rfl) hc3 ?_
    refine Run.sreg tied [] [] [] [] (by kernel_rfl) trivial ?_
    refine Run.ret ?_
    obtain rfl := Option.some.inj h
    exact (fQ_fin [] [some T29, some (.int .i64)] (msk 60 []) (by kernel_rfl)).1
  · refine Run.condF (b := !decide (y1.2 = (0 : Int))) (by kernel_rfl) hc3 ?_
    refine Run.skip ?_
    change Run _ _ _ _ _
    cases h

/-- testamur.verify.Check -/
def f10_s1 (a0 : D48) (_a1 : List D102) (a2 : List UInt8) (a3 : Int) (a4 : Int) (a5 : Int) (a6 : Int) (a7 : List UInt8) (a8 : List UInt8) (a9 : Int) (a10 : Int) (a11 : Int) (a12 : List UInt8) (a13 : List UInt8) (a14 : Int) (a15 : Int) (a16 : Int) (_a17 : D62) : Option Int :=
  Option.bind (f16 a0) fun y1 => if (!decide (y1 = (0 : Int))) = true then none else (Option.bind (f17_s1 a0 a2 a3 a4 a5 a6 a7 a8 a9 a10 a11 a12 a13 a14 a15 a16) fun y3 => if (!decide (y3.2 = (0 : Int))) = true then (some y3.2) else none)

set_option maxRecDepth 100000 in
theorem x10_s1 (a0 : D48) (a1 : List D102) (a2 : List UInt8) (a3 : Int) (a4 : Int) (a5 : Int) (a6 : Int) (a7 : List UInt8) (a8 : List UInt8) (a9 : Int) (a10 : Int) (a11 : Int) (a12 : List UInt8) (a13 : List UInt8) (a14 : Int) (a15 : Int) (a16 : Int) (a17 : D62) (r : Int) (h : f10_s1 a0 a1 a2 a3 a4 a5 a6 a7 a8 a9 a10 a11 a12 a13 a14 a15 a16 a17 = some r) : Fc Tryz.prog gl 10 [(.val T48 a0), (.val (.slice 80 T102) a1), (.cons (.val .str a2) (.cons (.val (.int .i64) a3) (.cons .nils (.cons (.cons (.val (.int .i64) a4) (.cons (.val (.int .i64) a5) (.cons .nils (.cons (.cons (.val (.int .i64) a6) (.cons (.cons (.val .str a7) (.cons (.val .str a8) (.cons (.val (.int .i64) a9) (.cons (.val (.int .i64) a10) (.cons (.val (.int .i64) a11) .nil))))) (.cons (.cons (.val .str a12) (.cons (.val .str a13) (.cons (.val (.int .i64) a14) (.cons (.val (.int .i64) a15) (.cons (.val (.int .i64) a16) .nil))))) .nil))) .nil)))) .nil)))), (.val T62 a17)] (hset (List.replicate 74 none) []) (.ret (.val (.int .i64) r)) (outH 74 []) := by
  refine Fc.of Tryz.call10 (FnEx.of_runM tied Tryz.func10 rfl rfl (σ0 := mkSt 34 74 [(0, (.val T48 a0)), (1, (.val (.slice 80 T102) a1)), (2, (.cons (.val .str a2) (.cons (.val (.int .i64) a3) (.cons .nils (.cons (.cons (.val (.int .i64) a4) (.cons (.val (.int .i64) a5) (.cons .nils (.cons (.cons (.val (.int .i64) a6) (.cons (.cons (.val .str a7) (.cons (.val .str a8) (.cons (.val (.int .i64) a9) (.cons (.val (.int .i64) a10) (.cons (.val (.int .i64) a11) .nil))))) (.cons (.cons (.val .str a12) (.cons (.val .str a13) (.cons (.val (.int .i64) a14) (.cons (.val (.int .i64) a15) (.cons (.val (.int .i64) a16) .nil))))) .nil))) .nil)))) .nil))))), (3, (.val T62 a17))] []) (by kernel_rfl) ?_)
  unfold f10_s1 at h
  refine Run.sreg tied [] [] [] [] (by kernel_rfl) trivial ?_
  refine Run.seq ?_
  obtain ⟨y1, hy2, h⟩ := bind_some h
  refine Run.sreg tied [⟨(.val (.int .i64) y1), [], [], [], 58⟩] [] [] [Fc Tryz.prog gl 16 [(.val T48 a0)] (hset (List.replicate 58 none) []) (.ret (.val (.int .i64) y1)) (outH 58 [])] (by kernel_rfl) ⟨x16 _ _ hy2, trivial⟩ ?_
  rcases ite_some h with ⟨hc6, h⟩ | ⟨hc6, h⟩
  · refine Run.condT (b := !decide (y1 = (0 : Int))) (by kernel_rfl) hc6 ?_
    cases h
  · refine Run.condF (b := !decide (y1 = (0 : Int))) (by kernel_rfl) hc6 ?_
    refine Run.skip ?_
    change Run _ _ _ _ _
    obtain ⟨y3, hy4, h⟩ := bind_some h
    refine Run.sreg tied [⟨(.tup (.cons (.val T29 y3.1) (.cons (.val (.int .i64) y3.2) .nil))), [], [], [], 60⟩] [] [] [Fc Tryz.prog gl 17 [(.val T48 a0), (.cons (.val .str a2) (.cons (.val (.int .i64) a3) (.cons .nils (.cons (.cons (.val (.int .i64) a4) (.cons (.val (.int .i64) a5) (.cons .nils (.cons (.cons (.val (.int .i64) a6) (.cons (.cons (.val .str a7) (.cons (.val .str a8) (.cons (.val (.int .i64) a9) (.cons (.val (.int .i64) a10) (.cons (.val (.int .i64) a11) .nil))))) (.cons (.cons (.val .str a12) (.cons (.val .str a13) (.cons (.val (.int .i64) a14) (.cons (.val (.int .i64) a15) (.cons (.val (.int .i64) a16) .nil))))) .nil))) .nil)))) .nil))))] (hset (List.replicate 60 none) []) (.ret (.tup (.cons (.val T29 y3.1) (.cons (.val (.int .i64) y3.2) .nil)))) (outH 60 [])] (by kernel_rfl) ⟨x17_s1 _ _ _ _ _ _ _ _ _ _ _ _ _ _ _ _ _ hy4, trivial⟩ ?_
    refine Run.seq ?_
    refine Run.sreg tied [] [] [] [] (by kernel_rfl) trivial ?_
    rcases ite_some h with ⟨hc5, h⟩ | ⟨hc5, h⟩
    · refine Run.condT (b := !decide (y3.2 = (0 : Int))) (by kernel_rfl) hc5 ?_
      refine Run.sreg tied [] [] [] [] (by kernel_rfl) trivial ?_
      refine Run.ret ?_
      obtain rfl := Option.some.inj h
      exact (mQ_fin [] [some (.int .i64)] (msk 74 []) (by kernel_rfl)).1
    · refine Run.condF (b := !decide (y3.2 = (0 : Int))) (by kernel_rfl) hc5 ?_
      refine Run.skip ?_
      change Run _ _ _ _ _
      refine Run.seq ?_
      cases h

end Go.Proofs.YthiphdachidhlaaGreatDoor
