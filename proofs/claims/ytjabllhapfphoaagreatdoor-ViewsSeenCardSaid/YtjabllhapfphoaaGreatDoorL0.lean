/- The digest never fails: each printed function of chains.Public answers at every input. No condition beyond what each theorem states. -/
import Derived.Test.YtjabllhapfphoaaGreatDoorH2
import Derived.Test.YtjabllhapfphoaaGreatDoorA5
namespace Go.Proofs.YtjabllhapfphoaaGreatDoor
open Go.Abs

theorem t279 (a b : Int) : ∃ r, f279 a b = some r := by
  simp only [f279, and64_nn, u64_nn, if_true]; exact ⟨_, rfl⟩

theorem t217_l2 (a0 : Nat) (a2 : D359) (a3 : D413) (u : Nat) (hu : u < 16) (s : D415) : ∃ r, f217_s1_l2 a0 64 a2 a3 (u : Int) (Int.toNat (4 : Int) + 1) (0 : Int) s = some r := by
  have h := loopU (fun _ _ => True) (fun _ => True) (fun n i s => f217_s1_l2 a0 64 a2 a3 (u : Int) n i s) 4
    (by
      intro n i s hi _
      left
      have e1 : w64 ((4 : Int) * (u : Int)) = 4 * u := w64_id (by omega) (by omega)
      have e2 : w64 (4 * (u : Int) + (i : Int)) = 4 * u + i := w64_id (by omega) (by omega)
      refine' ⟨_, trivial, _⟩
      rotate_left
      simp only [f217_s1_l2, e1, e2, w64_succ (show i ≤ _ by omega)]
      rw [if_pos (by simp; omega), if_pos (by omega), if_pos (by omega)])
    (by intro n s _; exact ⟨s, trivial, by simp [f217_s1_l2]⟩) (Int.toNat 4 + 1) 0 s (by omega) (by simp) trivial
  obtain ⟨r, _, e⟩ := h
  exact ⟨r, e⟩

theorem t217_l1 (a0 : Nat) (a2 : D359) (a3 : D413) (s : D415) : ∃ r, f217_s1_l1 a0 64 a2 a3 (Int.toNat (16 : Int) + 1) (0 : Int) s = some r := by
  have h := loopU (fun _ _ => True) (fun _ => True) (fun n i s => f217_s1_l1 a0 64 a2 a3 n i s) 16
    (by
      intro n i s hi _
      left
      obtain ⟨r, e⟩ := t217_l2 a0 a2 a3 i hi s
      refine ⟨r, trivial, ?_⟩
      simp only [f217_s1_l1, e, w64_succ (show i ≤ _ by omega)]
      rw [if_pos (by simp; omega)]; rfl)
    (by intro n s _; exact ⟨s, trivial, by simp [f217_s1_l1]⟩) (Int.toNat 16 + 1) 0 s (by omega) (by simp) trivial
  obtain ⟨r, _, e⟩ := h
  exact ⟨r, e⟩

theorem t217_l3 (a2 : D359) (a3 : D413) (s : D415) : ∃ r, f217_s1_l3 a2 a3 big (16 : Int) s = some r := by
  have h := loopU (fun i _ => 16 ≤ i) (fun _ => True) (fun n i s => f217_s1_l3 a2 a3 n i s) 64
    (by
      intro n i s hi hj
      left
      have e1 : w64 ((i : Int) - 15) = i - 15 := w64_id (by omega) (by omega)
      have e2 : w64 ((i : Int) - 2) = i - 2 := w64_id (by omega) (by omega)
      have e3 : w64 ((i : Int) - 16) = i - 16 := w64_id (by omega) (by omega)
      have e4 : w64 ((i : Int) - 7) = i - 7 := w64_id (by omega) (by omega)
      obtain ⟨r1, h1⟩ := t279 (nth (.int .u32) s ((i : Int) - 15)) (-7)
      obtain ⟨r2, h2⟩ := t279 (nth (.int .u32) s ((i : Int) - 15)) (-18)
      obtain ⟨r3, h3⟩ := t279 (nth (.int .u32) s ((i : Int) - 2)) (-17)
      obtain ⟨r4, h4⟩ := t279 (nth (.int .u32) s ((i : Int) - 2)) (-19)
      refine' ⟨_, by omega, _⟩
      rotate_left
      simp only [f217_s1_l3, e1, e2, e3, e4, w64_succ (show i ≤ _ by omega)]
      rw [if_pos (by simp; omega), if_pos (by omega), if_pos (by omega), h1, h2, h3, h4]
      simp only [Option.bind]
      rw [if_pos (by omega), if_pos (by omega), if_pos (by omega)])
    (by intro n s _; exact ⟨s, trivial, by simp [f217_s1_l3]⟩) big 16 s (by omega) (by simp [big]) (by omega)
  obtain ⟨r, _, e⟩ := h
  exact ⟨r, e⟩

theorem t217_l4 (a2 : D359) (a3 : D413) (o : D415) (s : D359) : ∃ r, f217_s1_l4 a2 a3 o (Int.toNat (64 : Int) + 1) (0 : Int) s = some r := by
  have h := loopU (fun _ _ => True) (fun _ => True) (fun n i s => f217_s1_l4 a2 a3 o n i s) 64
    (by
      intro n i s hi hj
      left
      obtain ⟨r1, h1⟩ := t279 (nth (.int .u32) s 4) (-6)
      obtain ⟨r2, h2⟩ := t279 (nth (.int .u32) s 4) (-11)
      obtain ⟨r3, h3⟩ := t279 (nth (.int .u32) s 4) (-25)
      obtain ⟨r4, h4⟩ := t279 (nth (.int .u32) s 0) (-2)
      obtain ⟨r5, h5⟩ := t279 (nth (.int .u32) s 0) (-13)
      obtain ⟨r6, h6⟩ := t279 (nth (.int .u32) s 0) (-22)
      refine' ⟨_, trivial, _⟩
      rotate_left
      simp only [f217_s1_l4, w64_succ (show i ≤ _ by omega)]
      rw [if_pos (by simp; omega), h1, h2, h3]
      simp only [Option.bind]
      rw [if_pos (by omega), h4, h5, h6])
    (by intro n s _; exact ⟨s, trivial, by simp [f217_s1_l4]⟩) (Int.toNat 64 + 1) 0 s (by omega) (by simp) trivial
  obtain ⟨r, _, e⟩ := h
  exact ⟨r, e⟩

theorem bs {α β : Type} (x : α) (f : α → Option β) : Option.bind (some x) f = f x := by
  have h := Option.bind_some x f
  exact h

theorem cut1 {α : Type} (l : List α) (k : Nat) : cutList l k l.length = l.drop k := by
  unfold cutList
  rw [List.take_of_length_le (by simp)]

end Go.Proofs.YtjabllhapfphoaaGreatDoor
