/- WalletPut: the law over the printed functions. No condition beyond what each theorem states. -/
import Derived.Test.YtnhfefbbdfmniaaDoorQ8
namespace Go.Proofs.YtnhfefbbdfmniaaDoor
open Go.Abs

theorem t6_l1 (a0 : D23) (a1 : List D48) (a2 : List D53) (a3 a4 : Int) (hl : a1.length ≤ 140737488355328) (hs : ∀ x ∈ a1, Szc x) :
    ∃ r, (r = .brk () ∨ r = .ret true) ∧ f6_l1 a0 a1 a2 a3 a4 (a1.length + 1) 0 = some r := by
  have h := loopU (σ := Unit) (fun _ _ => True) (fun (r : Ctl Unit Bool) => r = .brk () ∨ r = .ret true) (fun n i _ => f6_l1 a0 a1 a2 a3 a4 n i) a1.length
    (by
      intro n i s hi _
      have hx := hs _ (List.getElem_mem hi)
      obtain ⟨b, eb⟩ := t22 (nth T48 a1 (i : Int)) (by
        rw [nth_lt (t := T48) hi]
        have := hx.2.2.1
        omega)
      simp only [f6_l1, w64_succ (show i ≤ _ by omega), eb, bs]
      rw [if_pos (by rw [decide_eq_true_eq]; omega), if_pos (by omega)]
      cases b with
      | false => right; exact ⟨.ret true, Or.inr rfl, rfl⟩
      | true => left; exact ⟨(), trivial, rfl⟩)
    (by intro n s _; exact ⟨.brk (), Or.inl rfl, by simp [f6_l1]⟩) (a1.length + 1) 0 () (by omega) (by omega) trivial
  exact h

theorem added_take (c : List D48) (s : List D53) (d : Int) (k : Nat) : added (c.take k) (s.take k) d = (added c s d).take k := by
  simp [added, List.take_zipWith]

theorem added_drop (c : List D48) (s : List D53) (d : Int) (k : Nat) : added (c.drop k) (s.drop k) d = (added c s d).drop k := by
  simp [added, List.drop_zipWith]

theorem e6_l2 (a0 : D23) (a1 : List D48) (a2 : List D53) (a3 e : Int) (hz : ∀ h ∈ a0.2.2.1, Szh h) (hl : a1.length = a2.length) (h1 : a1.length ≤ 1000) (h0 : a0.2.2.1.length ≤ 1000) :
    f6_l2 a0 a1 a3 ((a0.1, (a0.2.1, (a0.2.2.1 ++ added a1 a2 a3, ()))), e) ((a0.2.2.1 ++ added a1 a2 a3).length + 1) 0 = some (.brk ()) := by
  have hal : (added a1 a2 a3).length = a1.length := by simp [added, hl]
  have hxl : (a0.2.2.1 ++ added a1 a2 a3).length = a0.2.2.1.length + a1.length := by rw [List.length_append, hal]
  have h := loopU (σ := Unit) (fun _ _ => True) (fun (r : Ctl Unit Bool) => r = .brk ()) (fun n i _ => f6_l2 a0 a1 a3 ((a0.1, (a0.2.1, (a0.2.2.1 ++ added a1 a2 a3, ()))), e) n i) (a0.2.2.1 ++ added a1 a2 a3).length
    (by
      intro n i s hi _
      left
      refine ⟨(), trivial, ?_⟩
      simp only [f6_l2, w64_succ (show i ≤ _ by omega)]
      rw [if_pos (by rw [decide_eq_true_eq]; omega), if_pos (by omega)]
      by_cases hia : i < a0.2.2.1.length
      · have en : nth T55 (a0.2.2.1 ++ added a1 a2 a3) (i : Int) = nth T55 a0.2.2.1 (i : Int) := nth_append_left (t := T55) hia
        have hx : Szh (nth T55 a0.2.2.1 (i : Int)) := by rw [nth_lt (t := T55) hia]; exact hz _ (List.getElem_mem hia)
        rw [if_pos (by rw [decide_eq_true_eq]; omega), if_pos (by omega), en, e25 _ _ hx, bs, decide_eq_true rfl, bs]
        rw [if_neg (by simp), bs]
        simp only []
        rw [if_neg (by rw [decide_eq_true_eq]; omega), bs, if_neg (by simp), bs]
      · obtain ⟨j, hj⟩ : ∃ j, i = a0.2.2.1.length + j := ⟨i - a0.2.2.1.length, by omega⟩
        have hj1 : j < a1.length := by omega
        have hj2 : j < a2.length := by omega
        have en : nth T55 (a0.2.2.1 ++ added a1 a2 a3) (i : Int) = (a1[j], (a2[j], (a3, ((0 : Int), ())))) := by
          rw [nth_lt (t := T55) hi, List.getElem_append_right (by omega)]
          simp [added, hj]
        have ew : w64 ((i : Int) - (a0.2.2.1.length : Int)) = (j : Int) := by rw [w64_id (by omega) (by omega)]; omega
        rw [if_neg (by rw [decide_eq_true_eq]; omega), bs, if_neg (by simp), bs]
        simp only []
        rw [if_pos (by rw [decide_eq_true_eq]; omega), en, ew, if_neg (by simp), if_neg (by simp), if_pos (by omega), nth_lt (t := T48) hj1, bs, if_neg (by simp), bs])
    (by intro n s _; exact ⟨.brk (), rfl, by simp [f6_l2]⟩) ((a0.2.2.1 ++ added a1 a2 a3).length + 1) 0 () (by omega) (by omega) trivial
  obtain ⟨r, hr, er⟩ := h
  rw [hr] at er
  exact er

theorem cut0 {α : Type} (l : List α) (k : Nat) : cutList l 0 k = l.take k := by simp [cutList]
theorem cut1 {α : Type} (l : List α) (k : Nat) : cutList l k l.length = l.drop k := by
  unfold cutList
  rw [List.take_of_length_le (by simp)]

theorem pl6 (a0 : D23) (a1 : List D48) (a2 : List D53) (a3 : Int) (a4 : Int) (h0 : wf T23 a0) (h1 : wf (.slice 136 T48) a1) (h2 : wf (.slice 56 T53) a2) (_h3 : wf (.int .i64) a3) (h4 : wf (.int .u8) a4) : f6 a0 a1 a2 a3 a4 = some true := by
  have hsm := small_of_wf a0 h0
  have hz : ∀ h ∈ a0.2.2.1, Szh h := by
    obtain ⟨_, _, ⟨_, _, hh⟩, _⟩ := h0
    exact fun h hm => szh_of_wf h (hh h hm)
  have hc : ∀ x ∈ a1, Szc x := fun x hx => szc_of_wf x (h1.2.2 x hx)
  have hs : ∀ x ∈ a2, x.2.1.length ≤ 140737488355328 := fun x hx => szs_of_wf x (h2.2.2 x hx)
  have h40 : (0 : Int) ≤ a4 := h4.1
  have h41 : a4 ≤ (255 : Int) := h4.2
  unfold f6
  rw [e7, bs, if_neg (by simp)]
  obtain ⟨b, eb⟩ := t8 a0 hsm
  rw [eb, bs]
  simp only [io, bs]
  split
  · rfl
  · rename_i hcond
    simp only [Bool.or_eq_true, decide_eq_true_eq, Bool.not_eq_true', decide_eq_false_iff_not, not_or] at hcond
    obtain ⟨_, hc1, hc2, hc3⟩ := hcond
    have hl : a1.length = a2.length := by omega
    have hl4 : a1.length ≤ 4 := by omega
    rw [bs]
    simp only []
    obtain ⟨r, hr, er⟩ := t6_l1 a0 a1 a2 a3 a4 h1.2.1 hc
    rw [er, bs]
    rcases hr with hr | hr
    · rw [hr]
      simp only []
      obtain ⟨k, hk, ek⟩ : ∃ k : Nat, k ≤ a1.length ∧ Int.tmod (w64 a4) (w64 ((List.length a1 : Int) + (1 : Int))) = (k : Int) := by
        have e1 : w64 a4 = a4 := w64_id (by omega) (by omega)
        have e2 : w64 ((List.length a1 : Int) + (1 : Int)) = (List.length a1 : Int) + 1 := w64_id (by omega) (by omega)
        rw [e1, e2]
        have p1 := Int.tmod_nonneg ((List.length a1 : Int) + 1) h40
        have p2 := Int.tmod_lt_of_pos a4 (show (0 : Int) < (List.length a1 : Int) + 1 by omega)
        exact ⟨(a4.tmod ((List.length a1 : Int) + 1)).toNat, by omega, by omega⟩
      have ew : w64 ((List.length a1 : Int) + (1 : Int)) ≠ 0 := by
        rw [w64_id (by omega) (by omega)]; omega
      simp only [ek, Int.toNat_natCast, cut0, cut1]
      have g1 := e23g a0 a1 a2 a3 hz hc hs (by omega)
      have g2 := e23g a0 (a1.take k) (a2.take k) a3 hz (fun x hx => hc x (List.mem_of_mem_take hx)) (fun x hx => hs x (List.mem_of_mem_take hx)) (by rw [List.length_take]; omega)
      have htl : (a1.take k).length = (a2.take k).length := by rw [List.length_take, List.length_take]; omega
      have hdl : (a1.drop k).length = (a2.drop k).length := by rw [List.length_drop, List.length_drop]; omega
      have ead : (a0.2.2.1 ++ (added a1 a2 a3).take k) ++ (added a1 a2 a3).drop k = a0.2.2.1 ++ added a1 a2 a3 := by rw [List.append_assoc, List.take_append_drop]
      rw [added_take] at g2
      have hzt : ∀ h ∈ a0.2.2.1 ++ (added a1 a2 a3).take k, Szh h := by
        intro h hh
        rcases List.mem_append.1 hh with hh | hh
        · exact hz h hh
        · exact added_sz hc hs h (List.mem_of_mem_take hh)
      have g3 := e23g (a0.1, (a0.2.1, (a0.2.2.1 ++ (added a1 a2 a3).take k, ()))) (a1.drop k) (a2.drop k) a3 hzt (fun x hx => hc x (List.mem_of_mem_drop hx)) (fun x hx => hs x (List.mem_of_mem_drop hx)) (by rw [List.length_drop]; omega)
      rw [added_drop] at g3
      simp only [ead] at g3
      rcases g1 with ⟨⟨hv0, _, hvx⟩, e1⟩ | ⟨hn, e1⟩
      · have hvt : Valid (a0.1, (a0.2.1, (a0.2.2.1 ++ (added a1 a2 a3).take k, ()))) := by
          rw [← ead] at hvx
          exact hvx.front
        have e2 : f23 a0 (a1.take k) (a2.take k) a3 = some ((a0.1, (a0.2.1, (a0.2.2.1 ++ (added a1 a2 a3).take k, ()))), 0) := by
          rcases g2 with ⟨_, e2⟩ | ⟨hn, _⟩
          · exact e2
          · exact absurd ⟨hv0, htl, hvt⟩ hn
        have e3 : f23 (a0.1, (a0.2.1, (a0.2.2.1 ++ (added a1 a2 a3).take k, ()))) (a1.drop k) (a2.drop k) a3 = some ((a0.1, (a0.2.1, (a0.2.2.1 ++ added a1 a2 a3, ()))), 0) := by
          rcases g3 with ⟨_, e3⟩ | ⟨hn, _⟩
          · exact e3
          · exact absurd ⟨hvt, hdl, hvx⟩ hn
        have hl0 : a0.2.2.1.length ≤ 256 := hv0.1.2.2.2.2
        have hal : (added a1 a2 a3).length = a1.length := by simp [added, hl]
        have hzx : ∀ h ∈ a0.2.2.1 ++ added a1 a2 a3, Szh h := by
          intro h hh
          rcases List.mem_append.1 hh with hh | hh
          · exact hz h hh
          · exact added_sz hc hs h hh
        have e4 : f16 (a0.1, (a0.2.1, (a0.2.2.1 ++ added a1 a2 a3, ()))) = some 0 := by
          rcases e16g (a0.1, (a0.2.1, (a0.2.2.1 ++ added a1 a2 a3, ()))) hzx with ⟨e, _⟩ | ⟨_, hn⟩
          · exact e
          · exact absurd hvx hn
        have e5 := e15 (a0.1, (a0.2.1, (a0.2.2.1 ++ added a1 a2 a3, ()))) (a0.1, (a0.2.1, (a0.2.2.1 ++ added a1 a2 a3, ()))) (by simp only [List.length_append, hal]; omega) hzx
        have e6 := e6_l2 a0 a1 a2 a3 0 hz hl (by omega) (by omega)
        have ewl : w64 ((List.length a0.2.2.1 : Int) + (List.length a1 : Int)) = (List.length a0.2.2.1 : Int) + (List.length a1 : Int) := w64_id (by omega) (by omega)
        have hxl : ((List.length (a0.2.2.1 ++ added a1 a2 a3) : Nat) : Int) = (List.length a0.2.2.1 : Int) + (List.length a1 : Int) := by rw [List.length_append, hal]; omega
        rw [e1, bs, if_pos ew, if_pos (by omega), if_pos (by omega), e2, bs, e3, bs, if_neg (by simp), e5, e4]
        simp only [bs, io, ewl, hxl]
        rw [if_neg (by simp), bs]
        simp only []
        rw [← hxl] at *
        rw [e6, bs]
      · rw [e1, bs, if_pos ew, if_pos (by omega), if_pos (by omega)]
        rcases g2 with ⟨⟨hv0, _, hvt⟩, e2⟩ | ⟨hn2, e2⟩
        · rw [e2, bs]
          rcases g3 with ⟨⟨_, _, hvx⟩, e3⟩ | ⟨hn3, e3⟩
          · exact absurd ⟨hv0, hl, hvx⟩ hn
          · rw [e3, bs, if_pos (by simp)]
            simp
        · rw [e2, bs]
          have g4 := e23g zw (a1.drop k) (a2.drop k) a3 (by simp) (fun x hx => hc x (List.mem_of_mem_drop hx)) (fun x hx => hs x (List.mem_of_mem_drop hx)) (by rw [List.length_drop]; omega)
          rcases g4 with ⟨_, e4⟩ | ⟨_, e4⟩
          · rw [e4, bs, if_pos (by simp)]
            simp
          · rw [e4, bs, if_pos (by simp)]
            simp
    · rw [hr]

end Go.Proofs.YtnhfefbbdfmniaaDoor
