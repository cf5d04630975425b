/- What the reference's Check and Put answer. No condition beyond what each theorem states. -/
import Derived.Test.YtnhfefbbdfmniaaDoorR8
namespace Go.Proofs.YtnhfefbbdfmniaaDoor
open Go.Abs

theorem e27 (a b c : Int) : f27 a b c = some (decide (b ≤ a) && decide (a ≤ c)) := by
  unfold f27; simp only [ia, bs]

theorem lt4 (x : Int) (h : x ≤ 3) : x < 4 := by omega
theorem le3 (x : Int) (h : x < 4) : x ≤ 3 := by omega

theorem plc_eq (c d : D48) : plc c = plc d ↔ c.2.1 = d.2.1 ∧ c.2.2.2.1 = d.2.2.2.1 := by
  simp [plc]

theorem e40_l1 (a0 : D23) (i : Nat) (hi : i < a0.2.2.1.length) (hl : a0.2.2.1.length ≤ 256) :
    ∃ r, ((r = .brk () ∧ ∀ j : Nat, j < i → plc (nth T55 a0.2.2.1 (j : Int)).1 ≠ plc (nth T55 a0.2.2.1 (i : Int)).1) ∨ (r = .ret false ∧ ¬ ∀ j : Nat, j < i → plc (nth T55 a0.2.2.1 (j : Int)).1 ≠ plc (nth T55 a0.2.2.1 (i : Int)).1)) ∧ f40_l1 a0 (i : Int) big 0 = some r := by
  have h := loopU (fun k (_ : Unit) => ∀ j : Nat, j < k → plc (nth T55 a0.2.2.1 (j : Int)).1 ≠ plc (nth T55 a0.2.2.1 (i : Int)).1)
      (fun (r : Ctl Unit Bool) => (r = .brk () ∧ ∀ j : Nat, j < i → plc (nth T55 a0.2.2.1 (j : Int)).1 ≠ plc (nth T55 a0.2.2.1 (i : Int)).1) ∨ (r = .ret false ∧ ¬ ∀ j : Nat, j < i → plc (nth T55 a0.2.2.1 (j : Int)).1 ≠ plc (nth T55 a0.2.2.1 (i : Int)).1)) (fun n k _ => f40_l1 a0 (i : Int) n k) i
    (by
      intro n k _ hk hP
      simp only [f40_l1, w64_succ (show k ≤ _ by omega), ia]
      rw [if_pos (by rw [decide_eq_true_eq]; omega), if_pos (by omega), bs]
      by_cases he : plc (nth T55 a0.2.2.1 (k : Int)).1 = plc (nth T55 a0.2.2.1 (i : Int)).1
      · right
        have := (plc_eq _ _).1 he
        refine ⟨.ret false, Or.inr ⟨rfl, fun hall => hall k hk he⟩, ?_⟩
        rw [if_pos (by rw [Bool.and_eq_true, decide_eq_true_eq, decide_eq_true_eq]; exact this), bs]
      · left
        refine ⟨(), ?_, ?_⟩
        · intro j hj
          by_cases hjk : j < k
          · exact hP j hjk
          · have : j = k := by omega
            subst this; exact he
        · rw [if_neg (by rw [Bool.and_eq_true, decide_eq_true_eq, decide_eq_true_eq]; exact fun hh => he ((plc_eq _ _).2 hh)), bs])
    (by
      intro n _ hP
      refine ⟨.brk (), Or.inl ⟨rfl, hP⟩, ?_⟩
      simp [f40_l1]) big 0 () (by omega) (by simp only [big]; omega) (by intro j hj; omega)
  exact h

theorem e40 (a0 : D23) (i : Nat) (hi : i < a0.2.2.1.length) (hl : a0.2.2.1.length ≤ 256) (hs : ∀ h ∈ a0.2.2.1, Szh h ∧ Dg h.2.1.1) :
    (f40 a0 (i : Int) = some true ∧ goodAt a0.2.2.1 i) ∨ (f40 a0 (i : Int) = some false ∧ ¬ goodAt a0.2.2.1 i) := by
  have hn : nth T55 a0.2.2.1 (i : Int) = a0.2.2.1[i] := nth_lt (t := T55) hi
  have hz := hs _ (List.getElem_mem hi)
  rw [← hn] at hz
  obtain ⟨d, _, g1, g2⟩ := d45 _ hz.2
  obtain ⟨r, hr, er⟩ := e40_l1 a0 i hi hl
  have ez1 := e43 (nth T55 a0.2.2.1 (i : Int)).1.2.2.2.2.2.2.1 (nth T55 a0.2.2.1 (i : Int)).2.1.2.1 hz.1.1.2.1
  have ez2 := e43 (nth T55 a0.2.2.1 (i : Int)).1.2.2.2.2.2.2.1 (nth T55 a0.2.2.1 (0 : Int)).1.2.2.2.2.2.2.1 hz.1.1.2.1
  unfold f40 goodAt
  revert er hr ez1 ez2 g1 g2
  generalize (nth T55 a0.2.2.1 (0 : Int)).1.2.2.2.2.2.2.1 = L
  generalize nth T55 a0.2.2.1 (i : Int) = h
  intro g1 g2 hr er ez1 ez2
  have hpos : (0 : Int) < (List.length a0.2.2.1 : Int) := by omega
  rw [if_pos (by omega), g2, bs, ez1, ez2]
  simp only [bs, if_pos hpos, io, dig_eq, e27, ia]
  unfold okH
  rw [g1]
  split
  · rename_i hc
    right
    refine ⟨by rw [bs], ?_⟩
    rintro ⟨_, ho⟩
    simp only [Bool.or_eq_true, Bool.not_eq_true', decide_eq_false_iff_not, Bool.and_eq_true, decide_eq_true_eq, Option.some.injEq] at hc ho
    obtain ⟨o1, o2, o3, _, _, _, _, o8⟩ := ho
    rcases hc with hc | hc | hc | hc
    · exact hc o8
    · exact hc o1
    · exact hc (by rw [o2, o3])
    · exact hc o2
  · rename_i hc
    simp only [Bool.or_eq_true, Bool.not_eq_true', decide_eq_false_iff_not, not_or, Decidable.not_not] at hc
    obtain ⟨c1, c2, c3, c4⟩ := hc
    rw [bs]
    simp only []
    rw [er, bs]
    rcases hr with ⟨h1, h2⟩ | ⟨h1, h2⟩
    · rw [h1]
      simp only []
      by_cases hin : (decide ((0 : Int) ≤ h.2.2.1) && decide (h.2.2.1 ≤ (3 : Int)) && (decide ((0 : Int) ≤ h.2.2.2.1) && decide (h.2.2.2.1 ≤ (3 : Int)))) = true
      · left
        refine ⟨by rw [hin], h2, ?_⟩
        simp only [Bool.and_eq_true, decide_eq_true_eq] at hin
        simp only [Bool.and_eq_true, decide_eq_true_eq, Option.some.injEq]
        refine ⟨c2, c4, ?_, hin.1.1, lt4 _ hin.1.2, hin.2.1, hin.2.2, c1⟩
        rw [← c3, c4]
      · right
        refine ⟨by rw [Bool.eq_false_iff.2 hin], ?_⟩
        rintro ⟨_, ho⟩
        simp only [Bool.and_eq_true, decide_eq_true_eq, Option.some.injEq] at hin ho
        exact hin ⟨⟨ho.2.2.2.1, le3 _ ho.2.2.2.2.1⟩, ⟨ho.2.2.2.2.2.1, ho.2.2.2.2.2.2.1⟩⟩
    · right
      rw [h1]
      exact ⟨rfl, fun ho => h2 ho.1⟩

theorem e17_l1 (a0 : D23) (hl : a0.2.2.1.length ≤ 256) (hs : ∀ h ∈ a0.2.2.1, Szh h ∧ Dg h.2.1.1) :
    ∃ r, ((r = .brk () ∧ ∀ i : Nat, i < a0.2.2.1.length → goodAt a0.2.2.1 i) ∨ (r = .ret 410 ∧ ¬ ∀ i : Nat, i < a0.2.2.1.length → goodAt a0.2.2.1 i)) ∧ f17_l1 a0 big 0 = some r := by
  have h := loopU (fun i (_ : Unit) => ∀ j : Nat, j < i → goodAt a0.2.2.1 j)
      (fun (r : Ctl Unit Int) => (r = .brk () ∧ ∀ i : Nat, i < a0.2.2.1.length → goodAt a0.2.2.1 i) ∨ (r = .ret 410 ∧ ¬ ∀ i : Nat, i < a0.2.2.1.length → goodAt a0.2.2.1 i)) (fun n i _ => f17_l1 a0 n i) a0.2.2.1.length
    (by
      intro n i _ hi hP
      simp only [f17_l1, w64_succ (show i ≤ _ by omega)]
      rw [if_pos (by rw [decide_eq_true_eq]; omega)]
      rcases e40 a0 i hi hl hs with ⟨e, hg⟩ | ⟨e, hg⟩
      · left
        refine ⟨(), ?_, by rw [e, bs, if_neg (by simp)]⟩
        intro j hj
        by_cases hji : j < i
        · exact hP j hji
        · have : j = i := by omega
          subst this; exact hg
      · right
        exact ⟨.ret 410, Or.inr ⟨rfl, fun hall => hg (hall i hi)⟩, by rw [e, bs, if_pos (by simp)]⟩)
    (by
      intro n _ hP
      exact ⟨.brk (), Or.inl ⟨rfl, hP⟩, by simp [f17_l1]⟩) big 0 () (by omega) (by simp only [big]; omega) (by intro j hj; omega)
  exact h

theorem e17g (a0 : D23) (hs : ∀ h ∈ a0.2.2.1, Szh h ∧ Dg h.2.1.1) : (f17 a0 = some 0 ∧ Valid a0) ∨ (f17 a0 = some 410 ∧ ¬ Valid a0) := by
  unfold f17
  simp only [e27, io, bs]
  by_cases hh : hdr a0
  · obtain ⟨h1, h2, h3, h4, h5⟩ := hh
    rw [if_neg (by simp only [Bool.or_eq_true, decide_eq_true_eq, Bool.not_eq_true', Bool.and_eq_false_iff, decide_eq_false_iff_not]; omega), bs]
    simp only []
    obtain ⟨r, hr, e⟩ := e17_l1 a0 h5 hs
    rw [e, bs]
    rcases hr with ⟨er, hg⟩ | ⟨er, hg⟩
    · left; rw [er]; exact ⟨rfl, ⟨h1, h2, h3, h4, h5⟩, hg⟩
    · right; rw [er]; exact ⟨rfl, fun hv => hg hv.2⟩
  · right
    refine ⟨?_, fun hv => hh hv.1⟩
    rw [if_pos (by
      simp only [Bool.or_eq_true, decide_eq_true_eq, Bool.not_eq_true', Bool.and_eq_false_iff, decide_eq_false_iff_not]
      unfold hdr at hh
      omega), bs]

theorem e24_l1 (a0 : D23) (c : List D48) (s : List D53) (d : Int) (hs : List D55) (hl : c.length = s.length) (hc : c.length ≤ 1000) (hh : hs.length ≤ 256) :
    f24_l1 a0 c s d big 0 hs = some (hs ++ added c s d) := by
  have hal : (added c s d).length = c.length := by simp [added, hl]
  have h := loopU (fun i (st : List D55) => st = hs ++ (added c s d).take i) (fun (r : List D55) => r = hs ++ added c s d) (fun n i st => f24_l1 a0 c s d n i st) c.length
    (by
      intro n i st hi hP
      left
      refine ⟨hs ++ (added c s d).take (i + 1), rfl, ?_⟩
      subst hP
      have hi' : i < s.length := by omega
      have hia : i < (added c s d).length := by omega
      have ei : (added c s d)[i] = (c[i], (s[i], (d, ((0 : Int), ())))) := by simp [added]
      simp only [f24_l1, w64_succ (show i ≤ _ by omega)]
      rw [if_pos (by rw [decide_eq_true_eq]; omega), if_pos (by omega), if_pos (by omega), nth_lt (t := T48) hi, nth_lt (t := T53) hi',
        if_pos (by simp only [List.length_append, List.length_take, List.length_singleton, maxB]; omega)]
      rw [List.take_succ_eq_append_getElem hia, ei, List.append_assoc])
    (by
      intro n st hP
      refine ⟨_, rfl, ?_⟩
      subst hP
      have : (added c s d).take c.length = added c s d := by rw [List.take_of_length_le (by omega)]
      simp [f24_l1, this]) big 0 hs (by omega) (by simp only [big]; omega) (by simp)
  obtain ⟨r, hr, e⟩ := h
  rw [hr] at e
  exact e

theorem added_dg {c : List D48} {s : List D53} {d : Int} (hs : ∀ x ∈ s, Dg x.1) : ∀ h ∈ added c s d, Dg h.2.1.1 := by
  intro h hh
  obtain ⟨i, hi, e⟩ := List.getElem_of_mem hh
  simp only [added, List.getElem_zipWith] at e
  rw [← e]
  exact hs _ (List.getElem_mem _)

theorem e24g (a0 : D23) (c : List D48) (s : List D53) (d : Int) (hz : ∀ h ∈ a0.2.2.1, Szh h ∧ Dg h.2.1.1) (hc : ∀ x ∈ c, Szc x) (hs : ∀ x ∈ s, x.2.1.length ≤ 140737488355328 ∧ Dg x.1) (hcl : c.length ≤ 1000) :
    ((Valid a0 ∧ c.length = s.length ∧ Valid (a0.1, (a0.2.1, (a0.2.2.1 ++ added c s d, ())))) ∧ f24 a0 c s d = some ((a0.1, (a0.2.1, (a0.2.2.1 ++ added c s d, ()))), 0)) ∨
    (¬ (Valid a0 ∧ c.length = s.length ∧ Valid (a0.1, (a0.2.1, (a0.2.2.1 ++ added c s d, ())))) ∧ f24 a0 c s d = some (zw, 410)) := by
  unfold f24
  rcases e17g a0 hz with ⟨e, hv⟩ | ⟨e, hv⟩
  · rw [e, bs, if_neg (by simp), bs]
    have h256 : a0.2.2.1.length ≤ 256 := hv.1.2.2.2.2
    by_cases hl : c.length = s.length
    · rw [if_neg (by simp; omega), bs]
      simp only []
      rw [if_pos (by simp only [List.length_nil, maxB]; omega), e24_l1 a0 c s d a0.2.2.1 hl hcl h256, bs]
      rcases e17g (a0.1, (a0.2.1, (a0.2.2.1 ++ added c s d, ()))) (by
        intro h hh
        rcases List.mem_append.1 hh with hh | hh
        · exact hz h hh
        · exact ⟨added_sz hc (fun x hx => (hs x hx).1) h hh, added_dg (fun x hx => (hs x hx).2) h hh⟩) with ⟨e2, hv2⟩ | ⟨e2, hv2⟩
      · left
        refine ⟨⟨hv, hl, hv2⟩, ?_⟩
        rw [show a0.2.2.2 = () from rfl, e2, bs, if_neg (by simp)]
      · right
        refine ⟨fun hh => hv2 hh.2.2, ?_⟩
        rw [show a0.2.2.2 = () from rfl, e2, bs, if_pos (by simp)]
    · right
      refine ⟨fun hh => hl hh.2.1, ?_⟩
      rw [if_pos (by simp; omega), bs]
  · right
    refine ⟨fun hh => hv hh.1, ?_⟩
    rw [e, bs, if_pos (by simp), bs, if_pos rfl, bs]

theorem dg_of_wf (x : D44) (h : wf T44 x) : Dg x := ⟨h.1, fun y hy => by
  have h1 : (0 : Int) ≤ y := (h.2 y hy).1
  have h2 : y ≤ (255 : Int) := (h.2 y hy).2
  omega⟩

theorem hz_of_wf (a0 : D23) (h0 : wf T23 a0) : ∀ h ∈ a0.2.2.1, Szh h ∧ Dg h.2.1.1 := by
  obtain ⟨_, _, ⟨_, _, hh⟩, _⟩ := h0
  exact fun h hm => ⟨szh_of_wf h (hh h hm), dg_of_wf _ (hh h hm).2.1.1⟩

end Go.Proofs.YtnhfefbbdfmniaaDoor
