/- What wallet.Offers answers. No condition beyond what each theorem states. -/
import Derived.Test.YtnhfefbbdfmniaaDoorQ3
import Derived.Test.YtnhfefbbdfmniaaDoorF4
namespace Go.Proofs.YtnhfefbbdfmniaaDoor
open Go.Abs

theorem ib {α : Type} (b : Bool) (x y : α) : (if b = true then some x else some y) = some (if b = true then x else y) := by
  cases b <;> rfl

theorem t22_l1 (c : D48) (hc : c.2.2.2.2.2.2.2.1.length ≤ 4611686018427387904) : ∃ r, f22_l1 c big 0 = some r := by
  have h := loopU (σ := Unit) (fun _ _ => True) (fun _ => True) (fun n i _ => f22_l1 c n i) c.2.2.2.2.2.2.2.1.length
    (by
      intro n i s hi _
      simp only [f22_l1, w64_succ (show i ≤ _ by omega)]
      rw [if_pos (by simp; omega), if_pos (by omega)]
      simp only [ib, bs]
      split
      · left; exact ⟨(), trivial, rfl⟩
      · right; exact ⟨_, trivial, rfl⟩)
    (by intro n s _; exact ⟨_, trivial, by simp [f22_l1]; rfl⟩) big 0 () (by omega) (by simp only [big]; omega) trivial
  obtain ⟨r, _, e⟩ := h
  exact ⟨r, e⟩

theorem t22 (c : D48) (hc : c.2.2.2.2.2.2.2.1.length ≤ 4611686018427387904) : ∃ r, f22 c = some r := by
  obtain ⟨r, e⟩ := t22_l1 c hc
  unfold f22
  rw [e, bs]
  cases r with
  | brk v => simp only [ib, bs]; exact ⟨_, rfl⟩
  | ret v => exact ⟨_, rfl⟩

/-- the lengths of a wallet -/
def Small (held : List D55) : Prop := held.length * 208 ≤ maxB ∧ ∀ h ∈ held, h.1.2.2.2.2.2.2.2.1.length ≤ maxB ∧ h.1.2.2.2.2.2.1.length * 8 ≤ maxB

theorem t8_l1 (a0 : D23) (hs : Small a0.2.2.1) : ∃ r, f8_l1 a0 big 0 = some r := by
  have hm := hs.1
  simp only [maxB] at hm
  have h := loopU (σ := Unit) (fun _ _ => True) (fun _ => True) (fun n i _ => f8_l1 a0 n i) a0.2.2.1.length
    (by
      intro n i s hi _
      obtain ⟨r, e⟩ := t22 (nth T55 a0.2.2.1 (i : Int)).1 (by
        rw [nth_lt (t := T55) hi]
        have := (hs.2 _ (List.getElem_mem hi)).1
        simp only [maxB] at this; omega)
      simp only [f8_l1, w64_succ (show i ≤ _ by omega)]
      rw [if_pos (by simp; omega), if_pos (by omega), e, bs]
      simp only [ib, bs]
      split
      · left; exact ⟨(), trivial, rfl⟩
      · right; exact ⟨_, trivial, rfl⟩)
    (by intro n s _; exact ⟨_, trivial, by simp [f8_l1]; rfl⟩) big 0 () (by omega) (by simp only [big]; omega) trivial
  obtain ⟨r, _, e⟩ := h
  exact ⟨r, e⟩

theorem t8 (a0 : D23) (hs : Small a0.2.2.1) : ∃ r, f8 a0 = some r := by
  obtain ⟨r, e⟩ := t8_l1 a0 hs
  unfold f8
  rw [e, bs]
  cases r with
  | brk v => exact ⟨_, rfl⟩
  | ret v => exact ⟨_, rfl⟩

/-- held at a place and active -/
def okB (h : D55) (a : Int) : Bool := decide (h.2.2.1 = a) && decide (h.2.2.2.1 = 0)

theorem e29 (h : D55) (a : Int) : f29_s1 h a = some (okB h a) := by
  unfold f29_s1 okB
  by_cases h1 : h.2.2.1 = a <;> simp [h1]

def IdxOf (held : List D55) (a : Int) (k : Nat) (s : List Int) : Prop :=
  s.length ≤ k ∧ s.Pairwise (· < ·) ∧ ∀ y, y ∈ s ↔ ∃ j : Nat, y = (j : Int) ∧ j < k ∧ okB (nth T55 held (j : Int)) a = true

theorem e28_l1 (held : List D55) (a : Int) (hm : held.length * 208 ≤ maxB) : ∃ r, IdxOf held a held.length r ∧ f28_s1_l1 held a (held.length + 1) 0 [] = some r := by
  simp only [maxB] at hm
  have h := loopU (fun i s => IdxOf held a i s) (fun r => IdxOf held a held.length r) (fun n i s => f28_s1_l1 held a n i s) held.length
    (by
      intro n i s hi hP
      left
      obtain ⟨p1, p2, p3⟩ := hP
      by_cases hb : okB (nth T55 held (i : Int)) a = true
      · refine ⟨s ++ [(i : Int)], ⟨by simp; omega, ?_, ?_⟩, ?_⟩
        · rw [List.pairwise_append]
          refine ⟨p2, by simp, ?_⟩
          intro x hx y hy
          obtain ⟨j, e, hj, _⟩ := (p3 x).1 hx
          simp only [List.mem_singleton] at hy
          omega
        · intro y
          rw [List.mem_append, p3 y, List.mem_singleton]
          constructor
          · rintro (⟨j, e, hj, hk⟩ | e)
            · exact ⟨j, e, by omega, hk⟩
            · exact ⟨i, e, by omega, hb⟩
          · rintro ⟨j, e, hj, hk⟩
            by_cases hji : j = i
            · subst hji; right; exact e
            · left; exact ⟨j, e, by omega, hk⟩
        · simp only [f28_s1_l1, w64_succ (show i ≤ _ by omega), e29, bs, hb]
          rw [if_pos (by simp; omega), if_pos (by omega)]
          simp only [if_true]
          rw [if_pos (by simp only [maxB, List.length_singleton]; omega), bs]
      · refine ⟨s, ⟨by omega, p2, ?_⟩, ?_⟩
        · intro y
          rw [p3 y]
          constructor
          · rintro ⟨j, e, hj, hk⟩; exact ⟨j, e, by omega, hk⟩
          · rintro ⟨j, e, hj, hk⟩
            by_cases hji : j = i
            · subst hji; exact absurd hk hb
            · exact ⟨j, e, by omega, hk⟩
        · simp only [f28_s1_l1, w64_succ (show i ≤ _ by omega), e29, bs, hb]
          rw [if_pos (by simp; omega), if_pos (by omega)]
          simp)
    (by intro n s hP; exact ⟨s, hP, by simp [f28_s1_l1]⟩) (held.length + 1) 0 [] (by omega) (by omega) ⟨by simp, by simp, by simp⟩
  exact h

theorem e28 (held : List D55) (a : Int) (hm : held.length * 208 ≤ maxB) : ∃ r, IdxOf held a held.length r ∧ f28_s1 held a = some r := by
  obtain ⟨r, h, e⟩ := e28_l1 held a hm
  exact ⟨r, h, by unfold f28_s1; rw [e, bs]⟩

/-! ### slices.Equal, slices.ContainsFunc -/

theorem e32_l1 (a b : List Int) (hl : a.length = b.length) (hm : a.length ≤ 4611686018427387904) : ∀ n (i : Nat), a.length - i < n → i ≤ a.length → f32_l1 a b n (i : Int) = some (if a.drop i = b.drop i then .brk () else .ret false) := by
  intro n
  induction n with
  | zero => intro i h; omega
  | succ n ih =>
    intro i hn hi
    simp only [f32_l1]
    by_cases h : i < a.length
    · have h' : i < b.length := by omega
      rw [if_pos (by simp; omega), if_pos (by omega), if_pos (by omega), nth_lt (t := .int .i64) h, nth_lt (t := .int .i64) h', w64_succ (by omega), ih (i + 1) (by omega) (by omega)]
      rw [List.drop_eq_getElem_cons h, List.drop_eq_getElem_cons h']
      by_cases he : a[i] = b[i]
      · rw [if_neg (by simpa using he)]
        simp only [he, List.cons.injEq, true_and]
      · rw [if_pos (by simpa using he)]
        simp only [he, List.cons.injEq, false_and, if_false]
    · rw [if_neg (by simp; omega), List.drop_eq_nil_of_le (by omega), List.drop_eq_nil_of_le (by omega)]
      simp

theorem e32 (a b : List Int) (hm : a.length ≤ 4611686018427387904) : f32 a b = some (decide (a = b)) := by
  unfold f32
  by_cases hl : a.length = b.length
  · rw [if_neg (by simp; omega)]
    have h := e32_l1 a b hl hm (a.length + 1) 0 (by omega) (by omega)
    rw [show ((0 : Nat) : Int) = 0 from rfl] at h
    rw [h]
    by_cases he : a = b <;> simp [he]
  · rw [if_pos (by simp; omega)]
    congr 1
    symm
    rw [decide_eq_false_iff_not]
    intro h; exact hl (by rw [h])

/-- an offer answers to a credential -/
def hit (o : D57) (c : D48) : Bool := decide (o.1 = c.2.2.1) && decide (o.2.2.1 = c.2.2.2.2.2.1)

theorem hit_iff (o : D57) (c : D48) : hit o c = true ↔ o.1 = c.2.2.1 ∧ o.2.2.1 = c.2.2.2.2.2.1 := by simp [hit]

theorem e31 (o : D57) (c : D48) (hm : o.2.2.1.length ≤ 4611686018427387904) : f31_s1 o c = some (hit o c) := by
  unfold f31_s1 hit
  by_cases h1 : o.1 = c.2.2.1
  · rw [if_pos (by simpa using h1), e32 _ _ hm]; simp [h1]
  · rw [if_neg (by simpa using h1)]; simp [h1]

theorem e30 (os : List D57) (c : D48) (hl : os.length ≤ 8) (hm : ∀ o ∈ os, o.2.2.1.length ≤ 4611686018427387904) : ∃ b, (b = true ↔ ∃ o ∈ os, hit o c = true) ∧ f30_s1 os c = some b := by
  have h := loopU (σ := Unit) (fun i _ => ∀ j : Nat, j < i → hit (nth T57 os (j : Int)) c = false)
      (fun (r : Ctl Unit Int) => match r with | .brk _ => ∀ j : Nat, j < os.length → hit (nth T57 os (j : Int)) c = false | .ret k => 0 ≤ k ∧ ∃ o ∈ os, hit o c = true) (fun n i _ => f46_s1_l1 os c n i) os.length
    (by
      intro n i s hi hP
      have hmem := List.getElem_mem hi
      have hn : nth T57 os (i : Int) = os[i] := nth_lt (t := T57) hi
      have e := e31 (nth T57 os (i : Int)) c (by rw [hn]; exact hm _ hmem)
      simp only [f46_s1_l1, w64_succ (show i ≤ _ by omega), e, bs]
      rw [if_pos (by simp; omega), if_pos (by omega)]
      by_cases hb : hit (nth T57 os (i : Int)) c = true
      · right
        rw [if_pos hb]
        exact ⟨.ret (i : Int), ⟨by omega, _, hmem, by rw [← hn]; exact hb⟩, rfl⟩
      · left
        rw [if_neg hb]
        refine ⟨(), ?_, rfl⟩
        intro j hj
        by_cases hji : j = i
        · subst hji; simpa using hb
        · exact hP j (by omega))
    (by intro n s hP; exact ⟨.brk (), hP, by simp [f46_s1_l1]⟩) (os.length + 1) 0 () (by omega) (by omega) (by intro j hj; omega)
  obtain ⟨r, hr, e⟩ := h
  rw [show ((0 : Nat) : Int) = 0 from rfl] at e
  cases r with
  | brk v =>
    refine ⟨false, ?_, by unfold f30_s1 f46_s1; rw [e, bs]; rfl⟩
    simp only [Bool.false_eq_true, false_iff]
    rintro ⟨o, ho, hh⟩
    obtain ⟨j, hj, ej⟩ := List.getElem_of_mem ho
    have := hr j hj
    rw [nth_lt (t := T57) hj, ej, hh] at this
    cases this
  | ret k =>
    refine ⟨true, ?_, by unfold f30_s1 f46_s1; rw [e, bs]; simp [hr.1]⟩
    simp only [true_iff]
    exact hr.2

end Go.Proofs.YtnhfefbbdfmniaaDoor
