/- WalletPutSpec's printed function answers true. No condition beyond what each theorem states. -/
import Derived.Test.YtnhfefbbdfmniaaDoorR9
namespace Go.Proofs.YtnhfefbbdfmniaaDoor
open Go.Abs

theorem t4_l1 (a0 : D23) (a1 : List D48) (a2 : List D53) (a3 : Int) (hl : a1.length ≤ 140737488355328) (hs : ∀ x ∈ a1, Szc x) :
    ∃ r, (r = .brk () ∨ r = .ret true) ∧ f4_l1 a0 a1 a2 a3 (a1.length + 1) 0 = some r := by
  have h := loopU (fun _ (_ : Unit) => True) (fun (r : Ctl Unit Bool) => r = .brk () ∨ r = .ret true) (fun n i _ => f4_l1 a0 a1 a2 a3 n i) a1.length
    (by
      intro n i _ hi _
      have hn : nth T48 a1 (i : Int) = a1[i] := nth_lt (t := T48) hi
      have hsz := hs _ (List.getElem_mem hi)
      obtain ⟨b, eb⟩ := t22 a1[i] (by have := hsz.2.2.1; omega)
      simp only [f4_l1, hn, eb, bs, w64_succ (show i ≤ _ by omega)]
      rw [if_pos (by rw [decide_eq_true_eq]; omega), if_pos (by omega)]
      cases b
      · right; exact ⟨.ret true, Or.inr rfl, by simp⟩
      · left; exact ⟨(), trivial, by simp⟩)
    (by
      intro n _ _
      exact ⟨.brk (), Or.inl rfl, by simp [f4_l1]⟩) (a1.length + 1) 0 () (by omega) (by omega) trivial
  exact h

theorem pl4 (a0 : D23) (a1 : List D48) (a2 : List D53) (a3 : Int) (h0 : wf T23 a0) (h1 : wf (.slice 136 T48) a1) (h2 : wf (.slice 56 T53) a2) (_h3 : wf (.int .i64) a3) : f4 a0 a1 a2 a3 = some true := by
  have hsm := small_of_wf a0 h0
  have hz := hz_of_wf a0 h0
  have hz1 : ∀ h ∈ a0.2.2.1, Szh h := fun h hh => (hz h hh).1
  have hc : ∀ x ∈ a1, Szc x := fun x hx => szc_of_wf x (h1.2.2 x hx)
  have hs : ∀ x ∈ a2, x.2.1.length ≤ 140737488355328 ∧ Dg x.1 := fun x hx => ⟨szs_of_wf x (h2.2.2 x hx), dg_of_wf _ (h2.2.2 x hx).1⟩
  unfold f4
  rw [e7, bs, if_neg (by simp)]
  obtain ⟨b, eb⟩ := t8 a0 hsm
  rw [eb, bs]
  simp only [io, bs]
  split
  · rfl
  · rename_i hcond
    simp only [Bool.or_eq_true, decide_eq_true_eq, Bool.not_eq_true', not_or] at hcond
    obtain ⟨_, hc1, hc2⟩ := hcond
    rw [bs]
    simp only []
    obtain ⟨r, hr, er⟩ := t4_l1 a0 a1 a2 a3 h1.2.1 hc
    rw [er, bs]
    rcases hr with hr | hr
    · rw [hr]
      simp only []
      rcases e23g a0 a1 a2 a3 hz1 hc (fun x hx => (hs x hx).1) (by omega) with ⟨hv, e1⟩ | ⟨hv, e1⟩
      · rcases e24g a0 a1 a2 a3 hz hc hs (by omega) with ⟨_, e2⟩ | ⟨hn, _⟩
        · have hl0 : a0.2.2.1.length ≤ 256 := hv.1.1.2.2.2.2
          have hal : (added a1 a2 a3).length ≤ a1.length := by simp [added]; omega
          have e5 := e15 (a0.1, (a0.2.1, (a0.2.2.1 ++ added a1 a2 a3, ()))) (a0.1, (a0.2.1, (a0.2.2.1 ++ added a1 a2 a3, ()))) (by simp only [List.length_append]; omega) (by
            intro h hh
            rcases List.mem_append.1 hh with hh | hh
            · exact hz1 h hh
            · exact added_sz hc (fun x hx => (hs x hx).1) h hh)
          rw [e1, bs, e2, bs, e5]
          simp
        · exact absurd hv hn
      · rcases e24g a0 a1 a2 a3 hz hc hs (by omega) with ⟨hn, _⟩ | ⟨_, e2⟩
        · exact absurd hn hv
        · have e5 := e15 zw zw (by simp) (by simp)
          rw [e1, bs, e2, bs, e5]
          simp
    · rw [hr]

end Go.Proofs.YtnhfefbbdfmniaaDoor
