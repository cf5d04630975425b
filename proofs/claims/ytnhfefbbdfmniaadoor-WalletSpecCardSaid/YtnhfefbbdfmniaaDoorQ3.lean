/- The law's own sanity check answers true: the whole. No condition beyond what each theorem states. -/
import Derived.Test.YtnhfefbbdfmniaaDoorQ2
namespace Go.Proofs.YtnhfefbbdfmniaaDoor
open Go.Abs

theorem bs {α β : Type} (x : α) (f : α → Option β) : Option.bind (some x) f = f x := by
  have h := Option.bind_some x f
  exact h
theorem e7 : f7 = some true := by
  obtain ⟨s1, d1, h1, e1⟩ := e26 1 0 [7, 5]
  obtain ⟨s2, d2, h2, e2⟩ := e26 1 1 [7, 5]
  have g1 := e23_d s1 d1 _ 2 (e39_d s1 d1)
  have g2 := e23_d s1 d1 _ 4 (e39_e s1 d1)
  have hr : roots.length = 4 := rfl
  unfold f7
  rw [e9_a, bs, e9_b, bs, e1, bs, e2, bs]
  rw [e23_a s1 d1 s2 d2 h1 h2, bs, e23_b s1 d1 s2 d2 h1 h2, bs, e23_c s1 d1, bs]
  rw [hr, if_pos (by decide)]
  rw [show Int.toNat 1 = 1 from rfl, g1, bs, g2, bs, e11_a, bs, e11_b, bs, e13_a s1 d1 s2 d2 h1 h2, bs, e13_b s1 d1 s2 d2 h1 h2, bs, e11_c, bs]
  have q1 : f19 [0, 1] [0, 1] = some true := by rw [e19 _ _ (by simp)]; rfl
  have q2 : f19 [7, 5] [7, 5] = some true := by rw [e19 _ _ (by simp)]; rfl
  have q3 := e16_2 s1 d1 s2 d2 h1 h2 0 0 (by omega) (by omega)
  simp [n57_0, ni_0, n55_1, q1, q2, e20_a, e20_b, e20_c, q3, e16_n]

end Go.Proofs.YtnhfefbbdfmniaaDoor
