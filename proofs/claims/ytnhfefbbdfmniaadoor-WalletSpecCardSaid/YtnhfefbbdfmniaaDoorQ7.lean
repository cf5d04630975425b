/- The reference's comparisons decide equality. No condition beyond what each theorem states. -/
import Derived.Test.YtnhfefbbdfmniaaDoorQ6
import Derived.Test.YtnhfefbbdfmniaaDoorF5
namespace Go.Proofs.YtnhfefbbdfmniaaDoor
open Go.Abs

instance deq44 : DecidableEq (List D44) := inferInstance
instance deq81 : DecidableEq D81 := inferInstance
instance deq81l : DecidableEq (List D81) := inferInstance
instance deqA : DecidableEq (List D81 × Unit) := inferInstance
instance deqB : DecidableEq (List D44 × List D81 × Unit) := inferInstance
instance deqC : DecidableEq (List Int × List D44 × List D81 × Unit) := inferInstance
instance deqD : DecidableEq (D44 × List Int × List D44 × List D81 × Unit) := inferInstance
instance deqE : DecidableEq (Int × Int × D44 × List Int × List D44 × List D81 × Unit) := inferInstance
instance deq48 : DecidableEq D48 := inferInstance
instance deq53 : DecidableEq D53 := inferInstance
instance deqF : DecidableEq (D53 × Int × Int × Unit) := inferInstance
instance deq55 : DecidableEq D55 := inferInstance
instance deqG : DecidableEq (List D55 × Unit) := inferInstance
instance deq23 : DecidableEq D23 := inferInstance

theorem same_loop {α : Type} [DecidableEq α] (L : Nat → Int → Option (Ctl Unit Bool)) (a b : List α) (hl : a.length = b.length)
    (hstep : ∀ n (i : Nat) (h : i < a.length) (h' : i < b.length), L (n + 1) (i : Int) = if a[i] = b[i] then L n ((i + 1 : Nat) : Int) else some (.ret false))
    (hstop : ∀ n, L (n + 1) (a.length : Int) = some (.brk ())) :
    ∀ n (i : Nat), i ≤ a.length → a.length - i < n → L n (i : Int) = some (if a.drop i = b.drop i then .brk () else .ret false) := by
  intro n
  induction n with
  | zero => intro i _ h; omega
  | succ n ih =>
    intro i hi hn
    by_cases h : i < a.length
    · have h' : i < b.length := by omega
      rw [hstep n i h h', ih (i + 1) (by omega) (by omega), List.drop_eq_getElem_cons h, List.drop_eq_getElem_cons h']
      by_cases he : a[i] = b[i]
      · simp only [he, List.cons.injEq, true_and, if_true]
      · simp only [he, List.cons.injEq, false_and, if_false]
    · have : i = a.length := by omega
      subst this
      rw [hstop n, List.drop_eq_nil_of_le (by omega), List.drop_eq_nil_of_le (by omega), if_pos rfl]

theorem same_whole {α : Type} [DecidableEq α] (L : Nat → Int → Option (Ctl Unit Bool)) (a b : List α) (N : Nat) (hN : a.length < N)
    (hstep : a.length = b.length → ∀ n (i : Nat) (h : i < a.length) (h' : i < b.length), L (n + 1) (i : Int) = if a[i] = b[i] then L n ((i + 1 : Nat) : Int) else some (.ret false))
    (hstop : ∀ n, L (n + 1) (a.length : Int) = some (.brk ())) :
    (if (!decide ((List.length a : Int) = (List.length b : Int))) = true then (some false) else (Option.bind (L N (0 : Int)) fun (o1 : Ctl Unit Bool) => match o1 with | .brk _ => (some true) | .ret r7 => (some r7))) = some (decide (a = b)) := by
  by_cases hl : a.length = b.length
  · rw [if_neg (by simp only [Bool.not_eq_true', decide_eq_false_iff_not, Decidable.not_not]; omega)]
    have h := same_loop L a b hl (hstep hl) hstop N 0 (by omega) (by omega)
    rw [show ((0 : Nat) : Int) = 0 from rfl] at h
    rw [h, bs]
    by_cases he : a = b
    · rw [if_pos (by rw [he]), decide_eq_true he]
    · rw [if_neg (by simpa using he), decide_eq_false he]
  · rw [if_pos (by simp only [Bool.not_eq_true', decide_eq_false_iff_not]; omega)]
    congr 1
    symm
    rw [decide_eq_false_iff_not]
    intro h; exact hl (by rw [h])

theorem dig_eq (x y : D44) : eqDen T44 x y = decide (x = y) := by
  have h := eqDen_eq (t := T44) rfl x y
  by_cases he : x = y
  · rw [decide_eq_true he]; exact h.2 he
  · rw [decide_eq_false he]
    cases hb : eqDen T44 x y with
    | false => rfl
    | true => exact absurd (h.1 hb) he

theorem nd (p : Prop) [Decidable p] {α : Type} (x y : α) : (if (!decide p) = true then x else y) = if p then y else x := by
  by_cases h : p <;> simp [h]

theorem e43 (a b : List D44) (hm : a.length ≤ 140737488355328) : f43 a b = some (decide (a = b)) := by
  unfold f43
  refine same_whole (f43_l1 a b) a b big (by simp only [big]; omega) ?_ (by intro n; simp [f43_l1])
  intro hl n i h h'
  simp only [f43_l1, w64_succ (show i ≤ _ by omega), dig_eq, nd]
  rw [if_pos (by rw [decide_eq_true_eq]; omega), if_pos (by omega), if_pos (by omega), nth_lt (t := T44) h, nth_lt (t := T44) h']

theorem e49g (a b : List D44) (hm : a.length ≤ 140737488355328) : f49 a b = some (decide (a = b)) := by
  unfold f49
  refine same_whole (f49_l1 a b) a b (a.length + 1) (by omega) ?_ (by intro n; simp [f49_l1])
  intro hl n i h h'
  simp only [f49_l1, w64_succ (show i ≤ _ by omega), dig_eq, nd]
  rw [if_pos (by rw [decide_eq_true_eq]; omega), if_pos (by omega), if_pos (by omega), nth_lt (t := T44) h, nth_lt (t := T44) h']

theorem e51 (a b : List Int) (hm : a.length ≤ 140737488355328) : f51 a b = some (decide (a = b)) := by
  unfold f51
  refine same_whole (f51_l1 a b) a b big (by simp only [big]; omega) ?_ (by intro n; simp [f51_l1])
  intro hl n i h h'
  simp only [f51_l1, w64_succ (show i ≤ _ by omega), nd]
  rw [if_pos (by rw [decide_eq_true_eq]; omega), if_pos (by omega), if_pos (by omega), nth_lt (t := .int .i64) h, nth_lt (t := .int .i64) h']

theorem ia (b c : Bool) : (if b = true then some c else some false) = some (b && c) := by cases b <;> rfl
theorem io (b c : Bool) : (if b = true then some true else some c) = some (b || c) := by cases b <;> rfl

theorem e59 (a b : D81) (h1 : a.2.1.length ≤ 140737488355328) (h2 : a.2.2.1.length ≤ 140737488355328) : f59 a b = some (decide (a = b)) := by
  obtain ⟨x, y, z, ⟨⟩⟩ := a
  obtain ⟨x', y', z', ⟨⟩⟩ := b
  unfold f59
  simp only [e43 y y' h1, e43 z z' h2, bs, ia]
  congr 1
  rw [Bool.eq_iff_iff]
  simp

theorem e52 (a b : List D81) (hm : a.length ≤ 140737488355328) (hw : ∀ x ∈ a, x.2.1.length ≤ 140737488355328 ∧ x.2.2.1.length ≤ 140737488355328) : f52 a b = some (decide (a = b)) := by
  unfold f52
  refine same_whole (f52_l1 a b) a b big (by simp only [big]; omega) ?_ (by intro n; simp [f52_l1])
  intro hl n i h h'
  have hx := hw _ (List.getElem_mem h)
  simp only [f52_l1, w64_succ (show i ≤ _ by omega)]
  rw [if_pos (by rw [decide_eq_true_eq]; omega), if_pos (by omega), if_pos (by omega), nth_lt (t := T81) h, nth_lt (t := T81) h', e59 _ _ hx.1 hx.2, bs, nd]

/-- the lengths of a copy -/
def Szc (c : D48) : Prop := c.2.2.2.2.2.1.length ≤ 140737488355328 ∧ c.2.2.2.2.2.2.1.length ≤ 140737488355328 ∧ c.2.2.2.2.2.2.2.1.length ≤ 140737488355328 ∧ ∀ x ∈ c.2.2.2.2.2.2.2.1, x.2.1.length ≤ 140737488355328 ∧ x.2.2.1.length ≤ 140737488355328
/-- the lengths of a held copy -/
def Szh (h : D55) : Prop := Szc h.1 ∧ h.2.1.2.1.length ≤ 140737488355328

theorem szc_of_wf (c : D48) (h : wf T48 c) : Szc c := by
  obtain ⟨_, _, _, _, _, hv, hl, hc, _⟩ := h
  refine ⟨hv.2.1, hl.2.1, hc.2.1, ?_⟩
  intro x hx
  obtain ⟨_, h1, h2, _⟩ := hc.2.2 x hx
  exact ⟨h1.2.1, h2.2.1⟩

theorem szs_of_wf (s : D53) (h : wf T53 s) : s.2.1.length ≤ 140737488355328 := by
  obtain ⟨_, h, _⟩ := h
  exact h.2.1

theorem szh_of_wf (h : D55) (hh : wf T55 h) : Szh h := by
  obtain ⟨h1, h2, _⟩ := hh
  exact ⟨szc_of_wf _ h1, szs_of_wf _ h2⟩

theorem e42 (a b : D48) (h : Szc a) : f42 a b = some (decide (a = b)) := by
  obtain ⟨x1, x2, x3, x4, x5, x6, x7, x8, ⟨⟩⟩ := a
  obtain ⟨y1, y2, y3, y4, y5, y6, y7, y8, ⟨⟩⟩ := b
  unfold f42
  simp only [dig_eq, e51 x6 y6 h.1, e43 x7 y7 h.2.1, e52 x8 y8 h.2.2.1 h.2.2.2, bs, ia]
  congr 1
  rw [Bool.eq_iff_iff]
  simp

theorem e25 (a b : D55) (h : Szh a) : f25 a b = some (decide (a = b)) := by
  obtain ⟨x1, ⟨x2, x3, ⟨⟩⟩, x4, x5, ⟨⟩⟩ := a
  obtain ⟨y1, ⟨y2, y3, ⟨⟩⟩, y4, y5, ⟨⟩⟩ := b
  unfold f25
  simp only [dig_eq, e42 x1 y1 h.1, e43 x3 y3 h.2, bs, ia]
  congr 1
  rw [Bool.eq_iff_iff]
  simp [and_assoc]

theorem e15 (a b : D23) (hm : a.2.2.1.length ≤ 140737488355328) (hw : ∀ h ∈ a.2.2.1, Szh h) : f15 a b = some (decide (a = b)) := by
  obtain ⟨x1, x2, x3, ⟨⟩⟩ := a
  obtain ⟨y1, y2, y3, ⟨⟩⟩ := b
  unfold f15
  simp only [io, bs] at *
  by_cases h1 : x1 = y1
  · by_cases h2 : x2 = y2
    · by_cases hl : x3.length = y3.length
      · rw [if_neg (by simp [h1, h2, hl]), bs]
        simp only []
        have h := same_loop (f15_l1 (x1, x2, x3, ()) (y1, y2, y3, ())) x3 y3 hl (by
          intro n i h h'
          have hx := hw _ (List.getElem_mem h)
          simp only [f15_l1, w64_succ (show i ≤ _ by omega)]
          rw [if_pos (by rw [decide_eq_true_eq]; omega), if_pos (by omega), if_pos (by omega), nth_lt (t := T55) h, nth_lt (t := T55) h', e25 _ _ hx, bs, nd]) (by intro n; simp [f15_l1]) big 0 (by omega) (by simp only [big]; omega)
        rw [show ((0 : Nat) : Int) = 0 from rfl] at h
        rw [h, bs]
        by_cases he : x3 = y3
        · rw [if_pos (by rw [he])]; simp [h1, h2, he]
        · rw [if_neg (by simpa using he)]; simp [he]
      · rw [if_pos (by simp; omega), bs]
        have : x3 ≠ y3 := fun h => hl (by rw [h])
        simp [this]
    · rw [if_pos (by simp [h2]), bs]; simp [h2]
  · rw [if_pos (by simp [h1]), bs]; simp [h1]

end Go.Proofs.YtnhfefbbdfmniaaDoor
