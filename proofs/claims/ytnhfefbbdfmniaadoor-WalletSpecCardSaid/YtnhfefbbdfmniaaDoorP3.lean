/- WalletSpec's printed function answers true. No condition beyond what each theorem states. -/
import Derived.Test.YtnhfefbbdfmniaaDoorR10
namespace Go.Proofs.YtnhfefbbdfmniaaDoor
open Go.Abs

/-- fresh, and of a schema -/
def frB (h : D55) (a : Int) : Bool := decide (h.2.2.2.1 = (0 : Int)) && decide (h.1.2.2.1 = a)

theorem e48 (h : D55) (a : Int) : f48_s1 h a = some (frB h a) := by
  unfold f48_s1 frB
  simp only [ia, bs]

/-- the places of the fresh copies of a schema -/
def idx (held : List D55) (a : Int) : Nat → List Int
  | 0 => []
  | k + 1 => if frB (nth T55 held (k : Int)) a = true then idx held a k ++ [(k : Int)] else idx held a k

theorem idx_len (held : List D55) (a : Int) : ∀ k, (idx held a k).length ≤ k := by
  intro k
  induction k with
  | zero => simp [idx]
  | succ k ih =>
    simp only [idx]
    split
    · rw [List.length_append, List.length_singleton]; omega
    · omega

theorem idx_mem (held : List D55) (a : Int) : ∀ k y, y ∈ idx held a k ↔ ∃ j : Nat, y = (j : Int) ∧ j < k ∧ frB (nth T55 held (j : Int)) a = true := by
  intro k
  induction k with
  | zero => intro y; simp [idx]
  | succ k ih =>
    intro y
    simp only [idx]
    split
    · rename_i hb
      rw [List.mem_append, ih y, List.mem_singleton]
      constructor
      · rintro (⟨j, e, hj, hk⟩ | e)
        · exact ⟨j, e, by omega, hk⟩
        · exact ⟨k, e, by omega, hb⟩
      · rintro ⟨j, e, hj, hk⟩
        by_cases hji : j = k
        · subst hji; right; exact e
        · left; exact ⟨j, e, by omega, hk⟩
    · rename_i hb
      rw [ih y]
      constructor
      · rintro ⟨j, e, hj, hk⟩; exact ⟨j, e, by omega, hk⟩
      · rintro ⟨j, e, hj, hk⟩
        by_cases hji : j = k
        · subst hji; exact absurd hk hb
        · exact ⟨j, e, by omega, hk⟩

theorem u28 (held : List D55) (a : Int) (hm : held.length * 208 ≤ maxB) : f28_s2 held a = some (idx held a held.length) := by
  simp only [maxB] at hm
  have h := loopU (fun i s => s = idx held a i) (fun r => r = idx held a held.length) (fun n i s => f28_s2_l1 held a n i s) held.length
    (by
      intro n i s hi hP
      left
      have hl := idx_len held a i
      refine ⟨idx held a (i + 1), rfl, ?_⟩
      simp only [f28_s2_l1, w64_succ (show i ≤ _ by omega), e48, bs]
      rw [if_pos (by rw [decide_eq_true_eq]; omega), if_pos (by omega)]
      simp only [idx]
      by_cases hb : frB (nth T55 held (i : Int)) a = true
      · simp only [hb, if_true]
        rw [if_pos (by rw [hP]; simp only [maxB, List.length_singleton]; omega), bs, hP]
      · simp only [hb, Bool.false_eq_true, if_false]
        rw [bs, hP])
    (by intro n s hP; exact ⟨s, hP, by simp [f28_s2_l1]⟩) (held.length + 1) 0 [] (by omega) (by omega) rfl
  obtain ⟨r, hr, e⟩ := h
  unfold f28_s2
  rw [show (0 : Int) = ((0 : Nat) : Int) from rfl, e, bs, hr]

theorem u20 (a0 : D23) (a : Int) (hs : Small a0.2.2.1) : f20 a0 a = some ((idx a0.2.2.1 a a0.2.2.1.length).length : Int) := by
  unfold f20 f37_s1
  rw [bs, u28 _ _ hs.1, bs]

theorem u21 (a0 : D23) (a : Int) (hs : Small a0.2.2.1) : f21 a0 a = some ((idx a0.2.2.1 a a0.2.2.1.length).length : Int) := by
  have hm := hs.1
  simp only [maxB] at hm
  have h := loopU (fun i (s : Int) => s = ((idx a0.2.2.1 a i).length : Int)) (fun r => r = ((idx a0.2.2.1 a a0.2.2.1.length).length : Int)) (fun n i s => f21_l1 a0 a n s i) a0.2.2.1.length
    (by
      intro n i s hi hP
      left
      have hl := idx_len a0.2.2.1 a i
      have hx : (0 : Int) ≤ (i : Int) ∧ (i : Int) < (List.length a0.2.2.1 : Int) := by omega
      refine ⟨_, rfl, ?_⟩
      simp only [f21_l1, w64_succ (show i ≤ _ by omega), ia]
      rw [if_pos (by rw [decide_eq_true_eq]; omega), if_pos hx, bs]
      simp only [idx]
      show (Option.bind (if frB (nth T55 a0.2.2.1 (i : Int)) a = true then _ else _) _) = _
      by_cases hb : frB (nth T55 a0.2.2.1 (i : Int)) a = true
      · rw [if_pos hb, if_pos hb, bs, hP, w64_succ (by omega), List.length_append, List.length_singleton]
      · rw [if_neg hb, if_neg hb, bs, hP])
    (by intro n s hP; exact ⟨s, hP, by simp [f21_l1]⟩) big 0 0 (by omega) (by simp only [big]; omega) (by simp [idx])
  obtain ⟨r, hr, e⟩ := h
  unfold f21
  rw [show ((0 : Nat) : Int) = 0 from rfl] at e
  rw [e, bs, hr]

/-- a copy given up -/
def gone (h : D55) : D55 := (h.1, (h.2.1, (h.2.2.1, ((2 : Int), h.2.2.2.2))))
def gv (a : Int) (h : D55) : D55 := if frB h a = true then gone h else h

theorem u14_l1 (a0 : D23) (a : Int) (held : List D55) (hm : held.length ≤ 1000000000000) : f14_l1 a0 a big 0 held = some (held.map (gv a)) := by
  have h := loopU (fun i (s : List D55) => s = (held.take i).map (gv a) ++ held.drop i) (fun r => r = held.map (gv a)) (fun n i s => f14_l1 a0 a n i s) held.length
    (by
      intro n i s hi hP
      left
      have hsl : s.length = held.length := by rw [hP, List.length_append, List.length_map, List.length_take, List.length_drop]; omega
      have htl : ((held.take i).map (gv a)).length = i := by rw [List.length_map, List.length_take]; omega
      have hn : nth T55 s (i : Int) = held[i] := by
        rw [nth_lt (t := T55) (show i < s.length by omega)]
        subst hP
        rw [List.getElem_append_right (by omega)]
        simp only [htl, List.getElem_drop]
        congr 1
        omega
      have hx : (0 : Int) ≤ (i : Int) ∧ (i : Int) < (List.length s : Int) := by omega
      have hstep : (held.take (i + 1)).map (gv a) ++ held.drop (i + 1) = if frB held[i] a = true then List.set s i (gone held[i]) else s := by
        rw [List.take_succ_eq_append_getElem hi, List.map_append, List.append_assoc]
        simp only [List.map_cons, List.map_nil, gv]
        split
        · rw [hP, List.set_append_right _ _ (by omega), htl, Nat.sub_self, List.drop_eq_getElem_cons hi]
          rfl
        · rw [hP, List.drop_eq_getElem_cons hi]
          rfl
      refine ⟨_, rfl, ?_⟩
      simp only [f14_l1, w64_succ (show i ≤ _ by omega), ia, hn, Int.toNat_natCast]
      rw [if_pos (by rw [decide_eq_true_eq]; omega), if_pos hx, bs, hstep, if_pos hx]
      show (Option.bind (if frB held[i] a = true then _ else _) _) = _
      by_cases hb : frB held[i] a = true
      · rw [if_pos hb, if_pos hb, bs]
        rfl
      · rw [if_neg hb, if_neg hb, bs])
    (by
      intro n s hP
      have hsl : s.length = held.length := by rw [hP, List.length_append, List.length_map, List.length_take, List.length_drop]; omega
      refine ⟨s, by rw [hP]; simp, ?_⟩
      simp only [f14_l1, hsl]
      rw [if_neg (by simp)]) big 0 held (by omega) (by simp only [big]; omega) (by simp)
  obtain ⟨r, hr, e⟩ := h
  rw [hr] at e; exact e

theorem u36_l1 (ys : List Int) (p q : Int) (held : List D55) (hl : ys.length ≤ 1000000000000) (hin : ∀ y ∈ ys, ∃ j : Nat, y = (j : Int) ∧ j < held.length) (hnd : ys.Pairwise (· < ·)) :
    ∃ r, (r.length = held.length ∧ ∀ j : Nat, (hj : j < held.length) → nth T55 r (j : Int) = if (j : Int) ∈ ys then gone held[j] else held[j]) ∧ f36_s1_l1 ys 2 p q () (ys.length + 1) 0 held = some r := by
  have h := loopU (fun u (s : List D55) => s.length = held.length ∧ ∀ j : Nat, (hj : j < held.length) → nth T55 s (j : Int) = if (j : Int) ∈ ys.take u then gone held[j] else held[j])
      (fun (r : List D55) => r.length = held.length ∧ ∀ j : Nat, (hj : j < held.length) → nth T55 r (j : Int) = if (j : Int) ∈ ys then gone held[j] else held[j]) (fun n i s => f36_s1_l1 ys 2 p q () n i s) ys.length
    (by
      intro n u s hu hP
      obtain ⟨hsl, hP⟩ := hP
      left
      obtain ⟨k, hk, hkl⟩ := hin _ (List.getElem_mem hu)
      have hnth : nth (.int .i64) ys (u : Int) = (k : Int) := by
        rw [← hk]; exact nth_lt (t := .int .i64) hu
      have hnot : ¬ (k : Int) ∈ ys.take u := by
        intro hmem
        obtain ⟨v, hv, ev⟩ := List.getElem_of_mem hmem
        rw [List.length_take] at hv
        rw [List.getElem_take] at ev
        have := (List.pairwise_iff_getElem.1 hnd) v u (by omega) hu (by omega)
        omega
      have hold := hP k hkl
      rw [if_neg hnot] at hold
      have hx1 : (0 : Int) ≤ (u : Int) ∧ (u : Int) < (List.length ys : Int) := by omega
      have hx2 : (0 : Int) ≤ (k : Int) ∧ (k : Int) < (List.length s : Int) := by omega
      refine ⟨List.set s k (gone held[k]), ⟨by rw [List.length_set]; exact hsl, ?_⟩, ?_⟩
      · intro j hj
        have hjs : j < s.length := by omega
        rw [nth_lt (t := T55) (show j < (List.set s k (gone held[k])).length by rw [List.length_set]; exact hjs), List.take_succ_eq_append_getElem hu, hk]
        by_cases hjk : j = k
        · subst hjk
          rw [List.getElem_set_self, if_pos (by simp)]
        · rw [List.getElem_set_ne (by omega)]
          have h2 := hP j hj
          rw [nth_lt (t := T55) hjs] at h2
          rw [h2]
          have : ((j : Int) ∈ ys.take u ++ [(k : Int)]) ↔ (j : Int) ∈ ys.take u := by
            rw [List.mem_append, List.mem_singleton]
            constructor
            · rintro (h | h)
              · exact h
              · omega
            · exact Or.inl
          simp only [this]
      · simp only [f36_s1_l1, hnth, w64_succ (show u ≤ _ by omega), Int.toNat_natCast, hold]
        rw [if_pos (by rw [decide_eq_true_eq]; omega), if_pos hx1, if_pos hx2]
        rfl)
    (by
      intro n s hP
      rw [List.take_length] at hP
      exact ⟨s, hP, by simp [f36_s1_l1]⟩) (ys.length + 1) 0 held (by omega) (by omega) ⟨rfl, by
        intro j hj
        rw [nth_lt (t := T55) hj]; simp⟩
  exact h

theorem idx_pw (held : List D55) (a : Int) : ∀ k, (idx held a k).Pairwise (· < ·) := by
  intro k
  induction k with
  | zero => simp [idx]
  | succ k ih =>
    simp only [idx]
    split
    · rw [List.pairwise_append]
      refine ⟨ih, by simp, ?_⟩
      intro x hx y hy
      obtain ⟨j, e, hj, _⟩ := (idx_mem held a k x).1 hx
      simp only [List.mem_singleton] at hy
      omega
    · exact ih

theorem u36 (p q a : Int) (held : List D55) (hm : held.length ≤ 1000000000000) : f36_s1 (idx held a held.length) 2 p q () held = some (p, q, (), held.map (gv a)) := by
  have hl := idx_len held a held.length
  obtain ⟨r, ⟨h1, h2⟩, e⟩ := u36_l1 (idx held a held.length) p q held (by omega) (by
    intro y hy
    obtain ⟨j, e, hj, _⟩ := (idx_mem held a _ y).1 hy
    exact ⟨j, e, hj⟩) (idx_pw held a _)
  have er : r = held.map (gv a) := by
    apply List.ext_getElem
    · rw [h1, List.length_map]
    · intro j hj1 hj2
      have hj : j < held.length := by omega
      have := h2 j hj
      rw [nth_lt (t := T55) hj1] at this
      rw [this, List.getElem_map]
      unfold gv
      have hn : nth T55 held (j : Int) = held[j] := nth_lt (t := T55) hj
      have hiff : (j : Int) ∈ idx held a held.length ↔ frB held[j] a = true := by
        rw [idx_mem, ← hn]
        constructor
        · rintro ⟨i, e, _, hb⟩
          have : i = j := by omega
          subst this; exact hb
        · intro hb; exact ⟨j, rfl, hj, hb⟩
      simp only [hiff]
  unfold f36_s1
  rw [e, bs, er]

/-- what Supersede answers -/
def sup (a0 : D23) (a : Int) (v : Bool) : D23 × Int :=
  if v = true then (if 0 ≤ a ∧ a < 16 then ((a0.1, (a0.2.1, (a0.2.2.1.map (gv a), ()))), 0) else (zw, 1)) else (zw, 410)

theorem u13 (a0 : D23) (a : Int) (hs : Small a0.2.2.1) (hz : ∀ h ∈ a0.2.2.1, Szh h) : ∃ v, (v = true ↔ Valid a0) ∧ f13 a0 a = some (sup a0 a v) := by
  have hm := hs.1
  simp only [maxB] at hm
  unfold f13 sup
  rcases e16g a0 hz with ⟨e, hv⟩ | ⟨e, hv⟩
  · refine ⟨true, by simp [hv], ?_⟩
    rw [e, bs, if_neg (by simp), if_pos rfl]
    simp only [io, bs]
    by_cases ha : 0 ≤ a ∧ a < 16
    · rw [if_pos ha, if_neg (by simp only [Bool.or_eq_true, decide_eq_true_eq]; omega), bs]
      simp only []
      have e35 : f35_s2 a0 = some (a0.1, a0.2.1, a0.2.2.2, a0.2.2.1) := by
        unfold f35_s2 f47_s1
        rw [if_pos (by simp only [List.length_nil, maxB]; omega), bs]
      rw [e35, bs]
      unfold f37_s1
      rw [bs, u28 _ _ hs.1, bs]
      simp only []
      rw [show a0.2.2.2 = () from rfl, u36 _ _ _ _ (by omega), bs]
    · rw [if_neg ha, if_pos (by simp only [Bool.or_eq_true, decide_eq_true_eq]; omega), bs]
  · refine ⟨false, by simp [hv], ?_⟩
    rw [e, bs, if_pos (by simp), if_neg (by simp)]

theorem u14 (a0 : D23) (a : Int) (hs : Small a0.2.2.1) (hz : ∀ h ∈ a0.2.2.1, Szh h ∧ Dg h.2.1.1) : ∃ v, (v = true ↔ Valid a0) ∧ f14 a0 a = some (sup a0 a v) := by
  have hm := hs.1
  simp only [maxB] at hm
  unfold f14 sup
  rcases e17g a0 hz with ⟨e, hv⟩ | ⟨e, hv⟩
  · refine ⟨true, by simp [hv], ?_⟩
    rw [e, bs, if_neg (by simp), if_pos rfl, e27, bs]
    by_cases ha : 0 ≤ a ∧ a < 16
    · rw [if_pos ha, if_neg (by simp only [Bool.not_eq_true', Bool.and_eq_false_iff, decide_eq_false_iff_not]; omega), if_pos (by simp only [List.length_nil, maxB]; omega), u14_l1 _ _ _ (by omega), bs]
    · rw [if_neg ha, if_pos (by simp only [Bool.not_eq_true', Bool.and_eq_false_iff, decide_eq_false_iff_not]; omega)]
  · refine ⟨false, by simp [hv], ?_⟩
    rw [e, bs, if_pos (by simp), if_neg (by simp)]

theorem u18 (a b : List D57) (hm : a.length ≤ 140737488355328) (hw : ∀ x ∈ a, x.2.2.1.length ≤ 140737488355328 ∧ x.2.1.length ≤ 140737488355328) : f18 a b = some (decide (a = b)) := by
  unfold f18
  refine same_whole (f18_l1 a b) a b big (by simp only [big]; omega) ?_ ?_
  · intro hl n i hi hi'
    have hn : nth T57 a (i : Int) = a[i] := nth_lt (t := T57) hi
    have hn' : nth T57 b (i : Int) = b[i] := nth_lt (t := T57) hi'
    obtain ⟨w1, w2⟩ := hw _ (List.getElem_mem hi)
    have hx1 : (0 : Int) ≤ (i : Int) ∧ (i : Int) < (List.length a : Int) := by omega
    have hx2 : (i : Int) < (List.length b : Int) := by omega
    simp only [f18_l1, hn, hn', w64_succ (show i ≤ _ by omega)]
    rw [if_pos (by rw [decide_eq_true_eq]; omega), if_pos hx1, if_pos hx2, e34 _ _ (by omega), e34 _ _ (by omega)]
    simp only [bs, io]
    by_cases he : a[i] = b[i]
    · rw [if_pos he, he, if_neg (by simp), bs]
    · rw [if_neg he, if_pos (by
        simp only [Bool.or_eq_true, Bool.not_eq_true', decide_eq_false_iff_not]
        by_cases h1 : a[i].1 = b[i].1
        · right
          by_cases h2 : a[i].2.1 = b[i].2.1
          · right
            intro h3
            exact he (Prod.ext h1 (Prod.ext h2 (Prod.ext h3 rfl)))
          · left; exact h2
        · left; exact h1), bs]
  · intro n
    simp [f18_l1]

theorem pl3 (a0 : D23) (a1 : Int) (a2 : Int) (a3 : Int) (h0 : wf T23 a0) (_h1 : wf (.int .i64) a1) (_h2 : wf (.int .i64) a2) (_h3 : wf (.int .i64) a3) : f3 a0 a1 a2 a3 = some true := by
  have hsm := small_of_wf a0 h0
  have hm := hsm.1
  simp only [maxB] at hm
  have hz := hz_of_wf a0 h0
  have hz1 : ∀ h ∈ a0.2.2.1, Szh h := fun h hh => (hz h hh).1
  unfold f3
  rw [e7, bs, if_neg (by simp)]
  obtain ⟨b, eb⟩ := t8 a0 hsm
  rw [eb, bs]
  cases b with
  | false => rw [if_pos (by simp)]
  | true =>
    rw [if_neg (by simp)]
    have e9 : ∃ r : D23 × Int, r.1.2.2.1 = [] ∧ f9 a1 = some r ∧ f10 a1 = some r := by
      unfold f9 f10
      simp only [e27, io, bs]
      by_cases ha : 0 ≤ a1 ∧ a1 < 4096
      · refine ⟨((a1, ((0 : Int), (([] : List D55), ()))), (0 : Int)), rfl, ?_, ?_⟩
        · rw [if_neg (by simp only [Bool.or_eq_true, decide_eq_true_eq]; omega), bs]
        · rw [if_neg (by simp only [Bool.not_eq_true', Bool.and_eq_false_iff, decide_eq_false_iff_not]; omega)]
      · refine ⟨(zw, (410 : Int)), rfl, ?_, ?_⟩
        · rw [if_pos (by simp only [Bool.or_eq_true, decide_eq_true_eq]; omega), bs]
        · rw [if_pos (by simp only [Bool.not_eq_true', Bool.and_eq_false_iff, decide_eq_false_iff_not]; omega)]
    obtain ⟨r9, hr9, e9, e10⟩ := e9
    obtain ⟨v, hv, e13⟩ := u13 a0 a3 hsm hz1
    obtain ⟨v', hv', e14⟩ := u14 a0 a3 hsm hz
    have hvv : v' = v := by rw [Bool.eq_iff_iff, hv, hv']
    subst hvv
    have e1617 : ∃ c, f16 a0 = some c ∧ f17 a0 = some c := by
      rcases e16g a0 hz1 with ⟨e, hx⟩ | ⟨e, hx⟩ <;> rcases e17g a0 hz with ⟨e', hx'⟩ | ⟨e', hx'⟩
      · exact ⟨_, e, e'⟩
      · exact absurd hx hx'
      · exact absurd hx' hx
      · exact ⟨_, e, e'⟩
    obtain ⟨c, e16, e17⟩ := e1617
    have hol := offs_len a0.2.2.1 a2 a0.2.2.1.length
    have hov := offs_vals a0.2.2.1 a2 140737488355328 (fun h hh => by have := (hsm.2 h hh).2; simp only [maxB] at this; omega) a0.2.2.1.length (by omega)
    have e18 := u18 (offs a0.2.2.1 a2 a0.2.2.1.length).1 (offs a0.2.2.1 a2 a0.2.2.1.length).1 (by omega) hov
    have e19' := e19 (offs a0.2.2.1 a2 a0.2.2.1.length).2 (offs a0.2.2.1 a2 a0.2.2.1.length).2 (by omega)
    have e15a := e15 r9.1 r9.1 (by rw [hr9]; simp) (by rw [hr9]; simp)
    have e15b := e15 (sup a0 a3 v').1 (sup a0 a3 v').1 (by
      unfold sup
      split
      · split
        · simp only [List.length_map]; omega
        · simp
      · simp) (by
      unfold sup
      split
      · split
        · intro h hh
          simp only [List.mem_map] at hh
          obtain ⟨g, hg, e⟩ := hh
          have := hz1 g hg
          rw [← e]
          unfold gv
          split
          · exact this
          · exact this
        · simp
      · simp)
    rw [e9, bs, e10, bs, u11 a0 a2 hsm, bs, u12 a0 a2 hsm, bs, e13, bs, e14, bs, e15a, e16, e17, e18, e19', u20 a0 a3 hsm, u21 a0 a3 hsm, e15b]
    simp

end Go.Proofs.YtnhfefbbdfmniaaDoor
