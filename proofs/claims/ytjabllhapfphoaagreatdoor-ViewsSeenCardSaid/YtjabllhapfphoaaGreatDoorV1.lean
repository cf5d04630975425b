/- ViewsSeen's printed function answers true: what is few. No condition beyond what each theorem states. -/
import Derived.Test.YtjabllhapfphoaaGreatDoorF2
import Derived.Test.YtjabllhapfphoaaGreatDoorL0
namespace Go.Proofs.YtjabllhapfphoaaGreatDoor
open Go.Abs

theorem maxB_eq : maxB = 140737488355328 := rfl

theorem t61 (a : Int) (b : D84) : ∃ r, f61 a b = some r := by
  unfold f61
  split
  · split
    · exact ⟨_, rfl⟩
    · exact ⟨_, rfl⟩
  · split
    · split
      · exact ⟨_, rfl⟩
      · exact ⟨_, rfl⟩
    · exact ⟨_, rfl⟩

theorem t26_l2 (p : D32) (u : Int) (h : (nth T49 p.2.2.2.2.1 u).2.2.2.2.2.2.2.2.2.1.length ≤ maxB) : ∃ r, f26_l2 p u big 0 = some r := by
  obtain ⟨r, _, e⟩ := loopU (σ := Unit) (fun _ _ => True) (fun _ => True) (fun n i _ => f26_l2 p u n i) (nth T49 p.2.2.2.2.1 u).2.2.2.2.2.2.2.2.2.1.length
    (fun n i s hi _ => by
      obtain ⟨b, hb⟩ := t61 1 (nth T84 (nth T49 p.2.2.2.2.1 u).2.2.2.2.2.2.2.2.2.1 (i : Int))
      simp only [f26_l2]
      rw [if_pos (by rw [decide_eq_true_eq]; omega), if_pos (by omega), hb, bs]
      cases b with
      | false => right; exact ⟨_, trivial, rfl⟩
      | true => left; exact ⟨(), trivial, by rw [w64_succ (by have := maxB_eq; omega)]; rfl⟩)
    (fun n s _ => by
      simp only [f26_l2]
      rw [if_neg (by rw [decide_eq_true_eq]; omega)]; exact ⟨_, trivial, rfl⟩) big 0 () (Nat.zero_le _) (by simp only [big]; have := maxB_eq; omega) trivial
  exact ⟨r, e⟩

theorem t26_l1 (p : D32) (h : p.2.2.2.2.1.length ≤ maxB) (hc : ∀ s ∈ p.2.2.2.2.1, s.2.2.2.2.2.2.2.2.2.1.length ≤ maxB) : ∃ r, f26_l1 p big 0 = some r := by
  obtain ⟨r, _, e⟩ := loopU (σ := Unit) (fun _ _ => True) (fun _ => True) (fun n i _ => f26_l1 p n i) p.2.2.2.2.1.length
    (fun n i s hi _ => by
      have hmem : nth T49 p.2.2.2.2.1 (i : Int) ∈ p.2.2.2.2.1 := by rw [nth_lt (t := T49) hi]; exact List.getElem_mem _
      obtain ⟨r2, hr2⟩ := t26_l2 p (i : Int) (hc _ hmem)
      simp only [f26_l1]
      rw [if_pos (by rw [decide_eq_true_eq]; omega), if_pos (by omega)]
      have inner : ∃ o : Ctl Unit Bool, (Option.bind (if (decide ((16 : Int) < (List.length (((((((nth T49 p.2.2.2.2.1 (i : Int)).2).2).2).2).2).1) : Int))) = true then (some true) else (if (decide ((16 : Int) < (List.length ((((((((nth T49 p.2.2.2.2.1 (i : Int)).2).2).2).2).2).2).1) : Int))) = true then (some true) else (some (decide ((16 : Int) < (List.length (((((((((((nth T49 p.2.2.2.2.1 (i : Int)).2).2).2).2).2).2).2).2).2).1) : Int)))))) fun (o5 : Bool) => if o5 = true then (some (.ret false)) else (some (.brk ()))) = some o := by
        split
        · exact ⟨_, rfl⟩
        · split
          · exact ⟨_, rfl⟩
          · rw [bs]; split <;> exact ⟨_, rfl⟩
      obtain ⟨o, ho⟩ := inner
      rw [ho, bs]
      cases o with
      | ret r => right; exact ⟨_, trivial, rfl⟩
      | brk u =>
        rw [hr2]
        cases r2 with
        | ret r => right; exact ⟨_, trivial, rfl⟩
        | brk v => left; exact ⟨(), trivial, by rw [w64_succ (by have := maxB_eq; omega)]; rfl⟩)
    (fun n s _ => by
      simp only [f26_l1]
      rw [if_neg (by rw [decide_eq_true_eq]; omega)]; exact ⟨_, trivial, rfl⟩) big 0 () (Nat.zero_le _) (by simp only [big]; have := maxB_eq; omega) trivial
  exact ⟨r, e⟩

theorem t26_l3 (p : D32) (h : p.2.2.2.2.2.1.length ≤ maxB) : ∃ r, f26_l3 p big 0 = some r := by
  obtain ⟨r, _, e⟩ := loopU (σ := Unit) (fun _ _ => True) (fun _ => True) (fun n i _ => f26_l3 p n i) p.2.2.2.2.2.1.length
    (fun n i s hi _ => by
      simp only [f26_l3]
      rw [if_pos (by rw [decide_eq_true_eq]; omega), if_pos (by omega)]
      split
      · right; exact ⟨_, trivial, rfl⟩
      · left; exact ⟨(), trivial, by rw [w64_succ (by have := maxB_eq; omega)]⟩)
    (fun n s _ => by
      simp only [f26_l3]
      rw [if_neg (by rw [decide_eq_true_eq]; omega)]; exact ⟨_, trivial, rfl⟩) big 0 () (Nat.zero_le _) (by simp only [big]; have := maxB_eq; omega) trivial
  exact ⟨r, e⟩

theorem wf_few {p : D32} (h : wf T32 p) : p.2.2.2.2.1.length ≤ maxB ∧ (∀ s ∈ p.2.2.2.2.1, wf T49 s) ∧ p.2.2.2.2.2.1.length ≤ maxB := by
  obtain ⟨_, _, _, _, h5, h6, _⟩ := h
  exact ⟨h5.2.1, h5.2.2, h6.2.1⟩

theorem wf_cl {s : D49} (h : wf T49 s) : s.2.2.2.2.2.2.2.2.2.1.length ≤ maxB ∧ s.2.2.2.2.2.1.length * 8 ≤ maxB ∧ s.2.2.2.2.2.2.1.length * 8 ≤ maxB := by
  obtain ⟨_, _, _, _, _, h6, h7, _, _, h10, _⟩ := h
  exact ⟨h10.2.1, h6.1, h7.1⟩

/-- a presentation that is few -/
theorem t26 (p : D32) (h : wf T32 p) : ∃ b, f26 p = some b ∧ (b = true → p.2.2.2.2.1.length ≤ 6) := by
  obtain ⟨h1, h2, h3⟩ := wf_few h
  obtain ⟨r1, e1⟩ := t26_l1 p h1 (fun s hs => (wf_cl (h2 s hs)).1)
  obtain ⟨r3, e3⟩ := t26_l3 p h3
  unfold f26
  rw [e1, bs]
  cases r1 with
  | ret r =>
    refine ⟨r, rfl, fun hr => ?_⟩
    subst hr
    -- the loop gives back false alone
    have key : ∀ n (i : Nat), f26_l1 p n (i : Int) ≠ some (.ret true) := by
      intro n
      induction n with
      | zero => intro i hh; cases hh
      | succ n ih =>
        intro i hh
        simp only [f26_l1] at hh
        split at hh
        · split at hh
          · rename_i hlt _
            have hlt : i < p.2.2.2.2.1.length := by rw [decide_eq_true_eq] at hlt; omega
            obtain ⟨o, ho, hh⟩ := bind_some hh
            obtain ⟨o4, ho4, ho⟩ := bind_some ho
            obtain ⟨o5, ho5, ho4⟩ := bind_some ho4
            have no2 : ∀ n (j : Nat), f26_l2 p (i : Int) n (j : Int) ≠ some (.ret true) := by
              intro n
              induction n with
              | zero => intro j hh; cases hh
              | succ n ih =>
                intro j hh
                simp only [f26_l2] at hh
                split at hh
                · rename_i hj
                  split at hh
                  · obtain ⟨y, _, hh⟩ := bind_some hh
                    split at hh
                    · cases hh
                    · rename_i hb _
                      have hmem : nth T49 p.2.2.2.2.1 (i : Int) ∈ p.2.2.2.2.1 := by rw [nth_lt (t := T49) hlt]; exact List.getElem_mem _
                      have := (wf_cl (h2 _ hmem)).1
                      rw [w64_succ (by have := maxB_eq; omega)] at hh
                      exact ih (j + 1) hh
                  · cases hh
                · cases hh
            split at ho4
            · cases ho4
              cases ho
              cases hh
            · cases ho4
              obtain ⟨o10, ho10, ho⟩ := bind_some ho
              cases o10 with
              | brk v =>
                cases ho
                rw [w64_succ (by have := maxB_eq; omega)] at hh
                exact ih (i + 1) hh
              | ret r =>
                cases ho
                cases hh
                exact no2 _ 0 ho10
          · cases hh
        · cases hh
    exact absurd e1 (key big 0)
  | brk u =>
    simp only []
    rw [e3, bs]
    cases r3 with
    | ret r =>
      refine ⟨r, rfl, fun hr => ?_⟩
      subst hr
      have key : ∀ n (i : Nat), f26_l3 p n (i : Int) ≠ some (.ret true) := by
        intro n
        induction n with
        | zero => intro i hh; cases hh
        | succ n ih =>
          intro i hh
          simp only [f26_l3] at hh
          split at hh
          · rename_i hlt
            split at hh
            · split at hh
              · cases hh
              · rw [w64_succ (by have := maxB_eq; omega)] at hh
                exact ih (i + 1) hh
            · cases hh
          · cases hh
      exact absurd e3 (key big 0)
    | brk u =>
      simp only []
      split
      · rename_i hle
        rw [decide_eq_true_eq] at hle
        refine ⟨_, rfl, fun _ => ?_⟩
        omega
      · exact ⟨false, rfl, fun h => by cases h⟩

/-- presentations that are few -/
theorem t6 (a0 : List D32) (hl : a0.length ≤ maxB) (h : ∀ p ∈ a0, wf T32 p) : ∃ b, f6 a0 = some b ∧ (b = true → a0.length ≤ 8 ∧ ∀ p ∈ a0, p.2.2.2.2.1.length ≤ 6) := by
  obtain ⟨r, hr, e⟩ := loopU (σ := Unit) (fun i _ => ∀ p ∈ a0.take i, p.2.2.2.2.1.length ≤ 6) (fun r : Ctl Unit Bool => (∀ u, r = .brk u → ∀ p ∈ a0, p.2.2.2.2.1.length ≤ 6) ∧ (∀ x, r = .ret x → x = false)) (fun n i _ => f6_l1 a0 n i) a0.length
    (fun n i s hi hP => by
      have hmem : nth T32 a0 (i : Int) ∈ a0 := by rw [nth_lt (t := T32) hi]; exact List.getElem_mem _
      obtain ⟨b, hb, hb2⟩ := t26 _ (h _ hmem)
      simp only [f6_l1]
      rw [if_pos (by rw [decide_eq_true_eq]; omega), if_pos (by omega), hb, bs]
      cases b with
      | false => right; exact ⟨_, ⟨fun u hu => (by cases hu), fun x hx => (by cases hx; rfl)⟩, rfl⟩
      | true =>
        left
        refine ⟨(), ?_, by rw [w64_succ (by have := maxB_eq; omega)]; rfl⟩
        intro p hp
        rw [List.take_succ_eq_append_getElem hi] at hp
        rcases List.mem_append.1 hp with hp | hp
        · exact hP p hp
        · have : p = a0[i] := List.mem_singleton.1 hp
          subst this
          rw [nth_lt (t := T32) hi] at hb2
          exact hb2 rfl)
    (fun n s hP => by
      simp only [f6_l1]
      rw [if_neg (by rw [decide_eq_true_eq]; omega)]
      exact ⟨_, ⟨fun u _ p hp => hP p (by rw [List.take_length]; exact hp), fun x hx => (by cases hx)⟩, rfl⟩) big 0 () (Nat.zero_le _) (by simp only [big]; have := maxB_eq; omega) (fun p hp => by simp at hp)
  have e : f6_l1 a0 big 0 = some r := e
  unfold f6
  rw [e, bs]
  cases r with
  | ret x =>
    have := hr.2 x rfl
    subst this
    exact ⟨false, rfl, fun h => by cases h⟩
  | brk u =>
    refine ⟨_, rfl, fun hb => ⟨?_, hr.1 u rfl⟩⟩
    rw [decide_eq_true_eq] at hb
    omega

end Go.Proofs.YtjabllhapfphoaaGreatDoor
