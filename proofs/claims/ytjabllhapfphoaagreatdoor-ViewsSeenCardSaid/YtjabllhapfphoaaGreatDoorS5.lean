/- What the run of the closed function needs: functions are entered, the digest. -/
import Derived.Test.YtjabllhapfphoaaGreatDoorL9
import Derived.Test.YtjabllhapfphoaaGreatDoorS1
namespace Go.Proofs.YtjabllhapfphoaaGreatDoor
open Go.Cm

theorem names_ok : (Tryz.prog.funcs.toList.all fun fn => !(fn.name == "runtime.NumGoroutine")) = true := by kernel_rfl

theorem enters : Enters Tryz.prog := by
  intro f fn hf hb vs w
  have hn := List.all_eq_true.1 names_ok fn (List.mem_of_getElem? (by simpa using hf))
  have hn' : fn.name ≠ "runtime.NumGoroutine" := by simpa using hn
  simp [callFunc, hf, hn', hb]

theorem orders : Tryz.prog.follows .mixedOrders = true := tied.orders

theorem gl_of {E : Env} {hp : T Blk} {w : World} (h : GL glX hp E w) : Go.Abs.GlOK gl (Go.Abs.envOf w) w := by
  refine ⟨?_, trivial⟩
  intro x hx
  simp only [gl, Go.Abs.Ctx.of, List.mem_cons, List.not_mem_nil, or_false] at hx
  rcases hx with rfl | rfl | rfl | rfl | rfl | rfl
  · exact pair_of_gl h (k := .i64) (a := 2) (b := 1000) (g := 0) rfl (by decide) (by decide)
  · exact pair_of_gl h (k := .i64) (a := 1) (b := 255) (g := 1) rfl (by decide) (by decide)
  · exact pair_of_gl h (k := .i64) (a := 0) (b := 32) (g := 2) rfl (by decide) (by decide)
  · exact pair_of_gl h (k := .i64) (a := 0) (b := 9) (g := 3) rfl (by decide) (by decide)
  · exact pair_of_gl h (k := .i64) (a := 0) (b := 1048576) (g := 4) rfl (by decide) (by decide)
  · exact glob_of_gl h (k := .u32) (zs := konst0) (g := 5) (by rw [konst_up]; rfl) (by decide) (by decide +kernel) (by decide +kernel)

theorem bc_of (E : Go.Abs.Env) (w : World) (h : Go.Abs.GlOK gl E w) : BCM glX w := by
  have hg := h.1
  simp only [gl, Go.Abs.Ctx.of, List.mem_cons, List.not_mem_nil, or_false, forall_eq_or_imp, forall_eq] at hg
  obtain ⟨h0, h1, h2, h3, h4, h5⟩ := hg
  intro g x hx
  match g, hx with
  | 0, hx => cases hx; exact bc_pair (k := .i64) h0.2
  | 1, hx => cases hx; exact bc_pair (k := .i64) h1.2
  | 2, hx => cases hx; exact bc_pair (k := .i64) h2.2
  | 3, hx => cases hx; exact bc_pair (k := .i64) h3.2
  | 4, hx => cases hx; exact bc_pair (k := .i64) h4.2
  | 5, hx =>
    cases hx
    have := bc_arr (k := .u32) (by decide) h5.2
    rw [konst_up] at this
    exact this
  | g + 6, hx => cases hx

theorem hash_ok : ∀ args hp v, hashV hp args = some v → ∀ nx, CallOK Tryz.prog glX 125 args hp nx v hp nx :=
  hash_of_fc (C := gl) (fun b k h => by
      have := List.mem_of_getElem? h
      have := List.eq_of_mem_replicate this
      cases this) (fun E hp w h => gl_of h)
    (fun ps d h1 h2 h3 h4 => x125 (ps.map up) (up d) (f125_up ps d h1 h2 h3 h4)) (by
      obtain ⟨fn, hf, hb⟩ : ∃ fn, Tryz.prog.funcs[125]? = some fn ∧ fn.body ≠ none := ⟨Tryz.f125, Tryz.func125, by intro h; cases h⟩
      exact enters _ fn hf hb) (fun s d h => sha_bys h)

theorem giv0 : Giv Tryz.prog glX hk0 := ⟨enters, hash_ok, tab_ok (fun e he => by cases he)⟩
end Go.Proofs.YtjabllhapfphoaaGreatDoor
