/- Offers, Left and Supersede: the program's and the reference's answers as one plain function. No condition beyond what each theorem states. -/
import Derived.Test.YtnhfefbbdfmniaaDoorR9
namespace Go.Proofs.YtnhfefbbdfmniaaDoor
open Go.Abs

/-- the numbers below n -/
def ups (n : Nat) : List Int := (List.range n).map fun (i : Nat) => (i : Int)
theorem ups_succ (n : Nat) : ups (n + 1) = ups n ++ [(n : Int)] := by unfold ups; rw [List.range_succ, List.map_append]; rfl
theorem ups_len (n : Nat) : (ups n).length = n := by simp [ups]

/-- the offer of a held copy -/
def mkO (h : D55) : D57 := (h.1.2.2.1, (ups h.1.2.2.2.2.2.1.length, (h.1.2.2.2.2.2.1, ())))

def ostep (a : Int) (i : Nat) (h : D55) (st : List D57 × List Int) : List D57 × List Int :=
  if st.2.length < 8 ∧ okB h a = true ∧ (st.1.any fun o => hit o h.1) = false then (st.1 ++ [mkO h], st.2 ++ [(i : Int)]) else st

/-- the offers of the first copies -/
def offs (held : List D55) (a : Int) : Nat → List D57 × List Int
  | 0 => ([], [])
  | k + 1 => ostep a k (nth T55 held (k : Int)) (offs held a k)

theorem offs_len (held : List D55) (a : Int) : ∀ k, (offs held a k).1.length = (offs held a k).2.length ∧ (offs held a k).2.length ≤ 8 := by
  intro k
  induction k with
  | zero => exact ⟨rfl, by simp [offs]⟩
  | succ k ih =>
    simp only [offs, ostep]
    split
    · rename_i h
      simp only [List.length_append, List.length_cons, List.length_nil]
      omega
    · exact ih

theorem offs_sat (held : List D55) (a : Int) (k : Nat) (h : (offs held a k).2.length = 8) : ∀ d, offs held a (k + d) = offs held a k := by
  intro d
  induction d with
  | zero => rfl
  | succ d ih =>
    show ostep a (k + d) _ (offs held a (k + d)) = _
    rw [ih]
    unfold ostep
    rw [if_neg (by omega)]

theorem offs_skip (held : List D55) (a : Int) (k : Nat) : ∀ d, (∀ j : Nat, k ≤ j → j < k + d → okB (nth T55 held (j : Int)) a = false) → offs held a (k + d) = offs held a k := by
  intro d
  induction d with
  | zero => intro _; rfl
  | succ d ih =>
    intro h
    show ostep a (k + d) _ (offs held a (k + d)) = _
    rw [ih (fun j h1 h2 => h j h1 (by omega))]
    unfold ostep
    rw [if_neg]
    rintro ⟨_, hh, _⟩
    have h2 := h (k + d) (by omega) (by omega)
    exact Bool.noConfusion (hh.symm.trans h2)

theorem offs_vals (held : List D55) (a : Int) (M : Nat) (hM : ∀ h ∈ held, h.1.2.2.2.2.2.1.length ≤ M) : ∀ k, k ≤ held.length → ∀ o ∈ (offs held a k).1, o.2.2.1.length ≤ M ∧ o.2.1.length ≤ M := by
  intro k
  induction k with
  | zero => intro _ o ho; simp [offs] at ho
  | succ k ih =>
    intro hk o ho
    simp only [offs, ostep] at ho
    split at ho
    · rcases List.mem_append.1 ho with ho | ho
      · exact ih (by omega) o ho
      · have e : o = mkO (nth T55 held (k : Int)) := by simpa using ho
        have hn : nth T55 held (k : Int) = held[k] := nth_lt (t := T55) (by omega)
        have := hM _ (List.getElem_mem (show k < held.length by omega))
        rw [← hn] at this
        rw [e]
        simp only [mkO, ups_len]
        exact ⟨this, this⟩
    · exact ih (by omega) o ho

theorem u11_l2 (a0 : D23) (y1 : List Int) (x : Int) (os : List D57) (xs y9 : List Int) (h : (nth T55 a0.2.2.1 (nth (.int .i64) y1 x)).1.2.2.2.2.2.1.length * 8 ≤ maxB) :
    f11_l2 a0 y1 x os xs y9 ((nth T55 a0.2.2.1 (nth (.int .i64) y1 x)).1.2.2.2.2.2.1.length + 1) 0 [] = some (ups (nth T55 a0.2.2.1 (nth (.int .i64) y1 x)).1.2.2.2.2.2.1.length) := by
  simp only [maxB] at h
  obtain ⟨k, hk⟩ : ∃ k, (nth T55 a0.2.2.1 (nth (.int .i64) y1 x)).1.2.2.2.2.2.1.length = k := ⟨_, rfl⟩
  rw [hk] at h ⊢
  have h := loopU (fun i (s : List Int) => s = ups i) (fun r => r = ups k) (fun n i s => f11_l2 a0 y1 x os xs y9 n i s) k
    (by
      intro n i s hi hs
      left
      refine ⟨ups (i + 1), rfl, ?_⟩
      have hl : s.length = i := by rw [hs, ups_len]
      simp only [f11_l2, w64_succ (show i ≤ _ by omega), hk]
      rw [if_pos (by rw [decide_eq_true_eq]; omega), if_pos (by simp only [List.length_cons, List.length_nil, hl, maxB]; omega), hs, ups_succ])
    (by
      intro n s hs
      refine ⟨s, hs, ?_⟩
      simp only [f11_l2, hk]
      rw [if_neg (by simp)]) (k + 1) 0 [] (by omega) (by omega) rfl
  obtain ⟨r, hr, e⟩ := h
  rw [hr] at e; exact e

theorem u12_l3 (a0 : D23) (a1 x : Int) (os : List D57) (xs : List Int) (h : (nth T55 a0.2.2.1 x).1.2.2.2.2.2.1.length * 8 ≤ maxB) :
    f12_l3 a0 a1 x os xs big 0 [] = some (ups (nth T55 a0.2.2.1 x).1.2.2.2.2.2.1.length) := by
  simp only [maxB] at h
  obtain ⟨k, hk⟩ : ∃ k, (nth T55 a0.2.2.1 x).1.2.2.2.2.2.1.length = k := ⟨_, rfl⟩
  rw [hk] at h ⊢
  have h := loopU (fun i (s : List Int) => s = ups i) (fun r => r = ups k) (fun n i s => f12_l3 a0 a1 x os xs n i s) k
    (by
      intro n i s hi hs
      left
      refine ⟨ups (i + 1), rfl, ?_⟩
      have hl : s.length = i := by rw [hs, ups_len]
      simp only [f12_l3, w64_succ (show i ≤ _ by omega), hk]
      rw [if_pos (by rw [decide_eq_true_eq]; omega), if_pos (by simp only [List.length_cons, List.length_nil, hl, maxB]; omega), hs, ups_succ])
    (by
      intro n s hs
      refine ⟨s, hs, ?_⟩
      simp only [f12_l3, hk]
      rw [if_neg (by simp)]) big 0 [] (by omega) (by simp only [big]; omega) rfl
  obtain ⟨r, hr, e⟩ := h
  rw [hr] at e; exact e

theorem u12_l2 (a0 : D23) (a1 : Int) (x : Int) (os : List D57) (xs : List Int) (b : Bool) (hl : os.length ≤ 8) (hm : ∀ o ∈ os, o.2.2.1.length ≤ 4611686018427387904) :
    f12_l2 a0 a1 x os xs big b 0 = some (b || os.any fun o => hit o (nth T55 a0.2.2.1 x).1) := by
  have h := loopU (fun i (s : Bool) => s = (b || (os.take i).any fun o => hit o (nth T55 a0.2.2.1 x).1)) (fun r => r = (b || os.any fun o => hit o (nth T55 a0.2.2.1 x).1)) (fun n i s => f12_l2 a0 a1 x os xs n s i) os.length
    (by
      intro n i s hi hs
      left
      have hn : nth T57 os (i : Int) = os[i] := nth_lt (t := T57) hi
      have hmi := hm _ (List.getElem_mem hi)
      rw [← hn] at hmi
      have e := e34 (nth T57 os (i : Int)).2.2.1 (nth T55 a0.2.2.1 x).1.2.2.2.2.2.1 hmi
      refine ⟨(s || hit (nth T57 os (i : Int)) (nth T55 a0.2.2.1 x).1), ?_, ?_⟩
      · rw [hs, List.take_succ_eq_append_getElem hi, List.any_append, ← hn]
        simp [Bool.or_assoc]
      · simp only [f12_l2, e, bs, w64_succ (show i ≤ _ by omega), ia]
        have hin : (0 : Int) ≤ (i : Int) ∧ (i : Int) < (List.length os : Int) := by omega
        rw [if_pos (by rw [decide_eq_true_eq]; omega)]
        simp only [if_pos hin, io, bs]
        rfl)
    (by
      intro n s hs
      rw [List.take_length] at hs
      exact ⟨s, hs, by simp [f12_l2]⟩) big 0 b (by omega) (by simp only [big]; omega) (by simp)
  obtain ⟨r, hr, e⟩ := h
  rw [hr] at e; exact e

theorem u12 (a0 : D23) (a : Int) (hs : Small a0.2.2.1) : f12 a0 a = some (offs a0.2.2.1 a a0.2.2.1.length) := by
  have hm := hs.1
  simp only [maxB] at hm
  have hv := offs_vals a0.2.2.1 a 140737488355328 (fun h hh => by have := (hs.2 h hh).2; simp only [maxB] at this; omega)
  have h := loopU (fun i (s : List D57 × List Int) => s = offs a0.2.2.1 a i) (fun r => r = offs a0.2.2.1 a a0.2.2.1.length) (fun n i s => f12_l1 a0 a n i s.1 s.2) a0.2.2.1.length
    (by
      intro n i s hi hP
      subst hP
      obtain ⟨l1, l2⟩ := offs_len a0.2.2.1 a i
      simp only [f12_l1, w64_succ (show i ≤ _ by omega)]
      rw [if_pos (by rw [decide_eq_true_eq]; omega), bs]
      by_cases h8 : (offs a0.2.2.1 a i).2.length < 8
      · left
        refine ⟨offs a0.2.2.1 a (i + 1), rfl, ?_⟩
        rw [if_pos (by rw [decide_eq_true_eq]; omega), bs]
        simp only []
        rw [if_pos (by omega)]
        simp only [io, bs]
        rw [u12_l2 a0 a (i : Int) _ _ _ (by omega) (fun o ho => by have := (hv i (by omega) o ho).1; omega), bs]
        have hn : nth T55 a0.2.2.1 (i : Int) = a0.2.2.1[i] := nth_lt (t := T55) hi
        have hsz := hs.2 _ (List.getElem_mem hi)
        rw [← hn] at hsz
        rw [u12_l3 a0 a (i : Int) _ _ hsz.2, bs]
        show _ = f12_l1 a0 a n _ (ostep a i (nth T55 a0.2.2.1 (i : Int)) (offs a0.2.2.1 a i)).1 (ostep a i (nth T55 a0.2.2.1 (i : Int)) (offs a0.2.2.1 a i)).2
        by_cases hc : okB (nth T55 a0.2.2.1 (i : Int)) a = true ∧ ((offs a0.2.2.1 a i).1.any fun o => hit o (nth T55 a0.2.2.1 (i : Int)).1) = false
        · have hst : ostep a i (nth T55 a0.2.2.1 (i : Int)) (offs a0.2.2.1 a i) = ((offs a0.2.2.1 a i).1 ++ [mkO (nth T55 a0.2.2.1 (i : Int))], (offs a0.2.2.1 a i).2 ++ [(i : Int)]) := if_pos ⟨h8, hc⟩
          rw [hst, if_neg (by
            rw [hc.2]
            have := hc.1
            simp only [okB, Bool.and_eq_true, decide_eq_true_eq] at this
            simp [this.1, this.2]), if_pos (by simp only [List.length_singleton, maxB]; omega), if_pos (by simp only [List.length_singleton, maxB]; omega), bs]
          rfl
        · have hst : ostep a i (nth T55 a0.2.2.1 (i : Int)) (offs a0.2.2.1 a i) = offs a0.2.2.1 a i := if_neg (fun hh => hc hh.2)
          rw [hst, if_pos (by
            rw [Bool.or_eq_true]
            by_cases ha : ((offs a0.2.2.1 a i).1.any fun o => hit o (nth T55 a0.2.2.1 (i : Int)).1) = true
            · right; exact ha
            · left
              have ho : ¬ okB (nth T55 a0.2.2.1 (i : Int)) a = true := fun hh => hc ⟨hh, by simpa using ha⟩
              simp only [okB, Bool.and_eq_true, decide_eq_true_eq] at ho
              simp only [Bool.or_eq_true, Bool.not_eq_true', decide_eq_false_iff_not]
              by_cases h1 : (nth T55 a0.2.2.1 (i : Int)).2.2.1 = a
              · right; exact fun h2 => ho ⟨h1, h2⟩
              · left; exact h1), bs]
      · right
        refine ⟨offs a0.2.2.1 a i, ?_, ?_⟩
        · have := offs_sat a0.2.2.1 a i (by omega) (a0.2.2.1.length - i)
          rw [show i + (a0.2.2.1.length - i) = a0.2.2.1.length by omega] at this
          exact this.symm
        · rw [if_neg (by rw [decide_eq_true_eq]; omega), bs])
    (by
      intro n s hP
      refine ⟨s, hP, ?_⟩
      simp only [f12_l1]
      rw [if_neg (by simp), bs, if_neg (by simp), bs]) big 0 ([], []) (by omega) (by simp only [big]; omega) rfl
  obtain ⟨r, hr, e⟩ := h
  unfold f12
  rw [show (0 : Int) = ((0 : Nat) : Int) from rfl, e, bs, hr]

theorem e30b (os : List D57) (c : D48) (hl : os.length ≤ 8) (hm : ∀ o ∈ os, o.2.2.1.length ≤ 4611686018427387904) : f30_s1 os c = some (os.any fun o => hit o c) := by
  obtain ⟨b, hb, e⟩ := e30 os c hl hm
  rw [e]
  congr 1
  rw [Bool.eq_iff_iff, hb, List.any_eq_true]

/-- the next fresh copy -/
def nx (ys : List Int) (n u : Nat) : Nat := if u < ys.length then (ix ys (u : Int)).toNat else n
theorem nx_lt {ys : List Int} {n u : Nat} (h : u < ys.length) : nx ys n u = (ix ys (u : Int)).toNat := if_pos h
theorem nx_ge {ys : List Int} {n u : Nat} (h : ¬ u < ys.length) : nx ys n u = n := if_neg h

theorem u11 (a0 : D23) (a : Int) (hs : Small a0.2.2.1) : f11 a0 a = some (offs a0.2.2.1 a a0.2.2.1.length) := by
  have hm := hs.1
  simp only [maxB] at hm
  have hv := offs_vals a0.2.2.1 a 140737488355328 (fun h hh => by have := (hs.2 h hh).2; simp only [maxB] at this; omega)
  obtain ⟨ys, ⟨y1, y2, y3⟩, e⟩ := e28 a0.2.2.1 a hs.1
  have hsort := pw_ix y2
  have hin : ∀ i : Nat, i < ys.length → ∃ j : Nat, ix ys (i : Int) = (j : Int) ∧ j < a0.2.2.1.length ∧ okB (nth T55 a0.2.2.1 (j : Int)) a = true := by
    intro i hi
    rw [ix_lt hi]
    exact (y3 _).1 (List.getElem_mem hi)
  -- from one fresh copy to the next nothing is offered
  have hnext : ∀ (k u : Nat), u ≤ ys.length → (∀ v : Nat, v < u → ix ys (v : Int) < (k : Int)) → k ≤ (nx ys a0.2.2.1.length u) →
      offs a0.2.2.1 a (nx ys a0.2.2.1.length u) = offs a0.2.2.1 a k := by
    intro k u hu hlt hle
    obtain ⟨d, hd⟩ : ∃ d, (nx ys a0.2.2.1.length u) = k + d := ⟨_, (Nat.add_sub_of_le hle).symm⟩
    rw [hd]
    apply offs_skip
    intro j h1 h2
    rw [← hd] at h2
    cases hb : okB (nth T55 a0.2.2.1 (j : Int)) a with
    | false => rfl
    | true =>
      exfalso
      have hjl : j < a0.2.2.1.length := by
        by_cases hul : u < ys.length
        · rw [nx_lt hul] at h2
          obtain ⟨j', e', hj', _⟩ := hin u hul
          omega
        · rw [nx_ge hul] at h2
          exact h2
      have hmem : (j : Int) ∈ ys := (y3 _).2 ⟨j, rfl, hjl, hb⟩
      obtain ⟨v, hvl, ev⟩ := List.getElem_of_mem hmem
      have ev' : ix ys (v : Int) = (j : Int) := by rw [ix_lt hvl]; exact ev
      by_cases hvu : v < u
      · have := hlt v hvu
        omega
      · rw [nx_lt (by omega)] at h2
        by_cases hvu' : v = u
        · subst hvu'; omega
        · have := hsort u v (by omega) hvl
          omega
  have h := loopU (fun u (s : List D57 × List Int) => s = offs a0.2.2.1 a (nx ys a0.2.2.1.length u)) (fun r => r = offs a0.2.2.1 a a0.2.2.1.length) (fun n i s => f11_l1 a0 ys n i s.1 s.2) ys.length
    (by
      intro n u s hu hP
      rw [nx_lt hu] at hP
      obtain ⟨k, hk, hkl, hok⟩ := hin u hu
      rw [hk, Int.toNat_natCast] at hP
      subst hP
      obtain ⟨l1, l2⟩ := offs_len a0.2.2.1 a k
      have hnth : nth (.int .i64) ys (u : Int) = (k : Int) := hk
      have hn : nth T55 a0.2.2.1 (k : Int) = a0.2.2.1[k] := nth_lt (t := T55) hkl
      have hsz := hs.2 _ (List.getElem_mem hkl)
      rw [← hn] at hsz
      have hl2 := u11_l2 a0 ys (u : Int) (offs a0.2.2.1 a k).1 (offs a0.2.2.1 a k).2 (nth T55 a0.2.2.1 (k : Int)).1.2.2.2.2.2.1 (by rw [hnth]; exact hsz.2)
      rw [hnth] at hl2
      simp only [f11_l1, w64_succ (show u ≤ _ by omega), hnth]
      have hx1 : (0 : Int) ≤ (u : Int) ∧ (u : Int) < (List.length ys : Int) := by omega
      have hx2 : (0 : Int) ≤ (k : Int) ∧ (k : Int) < (List.length a0.2.2.1 : Int) := by omega
      rw [if_pos (by rw [decide_eq_true_eq]; omega), if_pos hx1, if_pos hx2]
      by_cases h8 : (offs a0.2.2.1 a k).2.length < 8
      · left
        refine ⟨offs a0.2.2.1 a (k + 1), ?_, ?_⟩
        · symm
          apply hnext (k + 1) (u + 1) (by omega)
          · intro v hv
            by_cases hvu : v = u
            · subst hvu; omega
            · have := hsort v u (by omega) hu
              omega
          · by_cases hul : u + 1 < ys.length
            · rw [nx_lt hul]
              obtain ⟨j', e', hj', _⟩ := hin (u + 1) hul
              have := hsort u (u + 1) (by omega) hul
              omega
            · rw [nx_ge hul]; omega
        · rw [if_neg (by rw [decide_eq_true_eq]; omega), e30b _ _ (by omega) (fun o ho => by have := (hv k (by omega) o ho).1; omega), bs]
          show _ = f11_l1 a0 ys n _ (ostep a k (nth T55 a0.2.2.1 (k : Int)) (offs a0.2.2.1 a k)).1 (ostep a k (nth T55 a0.2.2.1 (k : Int)) (offs a0.2.2.1 a k)).2
          unfold ostep
          cases ha : ((offs a0.2.2.1 a k).1.any fun o => hit o (nth T55 a0.2.2.1 (k : Int)).1) with
          | true =>
            rw [if_pos rfl, bs, if_neg (by simp)]
          | false =>
            have e33 : f33 (nth T55 a0.2.2.1 (k : Int)).1.2.2.2.2.2.1 = some (nth T55 a0.2.2.1 (k : Int)).1.2.2.2.2.2.1 := by
              unfold f33
              rw [if_pos (by simp only [List.length_nil, Nat.zero_add]; exact hsz.2)]
            rw [if_neg (by simp), e33, bs, hl2, bs, if_pos (by simp only [List.length_singleton, maxB]; omega), if_pos (by simp only [List.length_singleton, maxB]; omega), bs, if_pos ⟨h8, hok, rfl⟩]
            rfl
      · right
        refine ⟨offs a0.2.2.1 a k, ?_, ?_⟩
        · have := offs_sat a0.2.2.1 a k (by omega) (a0.2.2.1.length - k)
          rw [show k + (a0.2.2.1.length - k) = a0.2.2.1.length by omega] at this
          exact this.symm
        · rw [if_pos (by rw [decide_eq_true_eq]; omega), bs])
    (by
      intro n s hP
      rw [nx_ge (by omega)] at hP
      exact ⟨s, hP, by simp [f11_l1]⟩) (ys.length + 1) 0 ([], []) (by omega) (by omega)
    (hnext 0 0 (by omega) (by intro v hv; omega) (by omega)).symm
  obtain ⟨r, hr, e2⟩ := h
  unfold f11
  rw [e, bs, show (0 : Int) = ((0 : Nat) : Int) from rfl, e2, bs, hr]

end Go.Proofs.YtnhfefbbdfmniaaDoor
