/- The law's own sanity check answers true. No condition beyond what each theorem states. -/
import Derived.Test.YtnhfefbbdfmniaaDoorQ1
import Derived.Test.YtnhfefbbdfmniaaDoorF2
namespace Go.Proofs.YtnhfefbbdfmniaaDoor
open Go.Abs

def same {ρ : Type} (b : Bool) (r : ρ) : Ctl Unit ρ := if b = true then .brk () else .ret r

theorem e34_l1 (a b : List Int) (hl : a.length = b.length) (hm : a.length ≤ 4611686018427387904) : ∀ n (i : Nat), a.length - i < n → i ≤ a.length → f34_l1 a b n (i : Int) = some (if a.drop i = b.drop i then .brk () else .ret false) := by
  intro n
  induction n with
  | zero => intro i h; omega
  | succ n ih =>
    intro i hn hi
    simp only [f34_l1]
    by_cases h : i < a.length
    · have h' : i < b.length := by omega
      rw [if_pos (by simp; omega), if_pos (by omega), if_pos (by omega), nth_lt (t := .int .i64) h, nth_lt (t := .int .i64) h', w64_succ (by omega), ih (i + 1) (by omega) (by omega)]
      rw [List.drop_eq_getElem_cons h, List.drop_eq_getElem_cons h']
      by_cases he : a[i] = b[i]
      · rw [if_neg (by simpa using he)]
        simp only [he, List.cons.injEq, true_and]
      · rw [if_pos (by simpa using he)]
        simp only [he, List.cons.injEq, false_and, if_false]
    · rw [if_neg (by simp; omega), List.drop_eq_nil_of_le (by omega), List.drop_eq_nil_of_le (by omega)]
      simp

theorem e34 (a b : List Int) (hm : a.length ≤ 4611686018427387904) : f34 a b = some (decide (a = b)) := by
  unfold f34
  by_cases hl : a.length = b.length
  · rw [if_neg (by simp; omega)]
    have h := e34_l1 a b hl hm big 0 (by simp only [big]; omega) (by omega)
    rw [show ((0 : Nat) : Int) = 0 from rfl] at h
    rw [h]
    by_cases he : a = b <;> simp [he]
  · rw [if_pos (by simp; omega)]
    congr 1
    symm
    rw [decide_eq_false_iff_not]
    intro h; exact hl (by rw [h])

theorem e19 (a b : List Int) (hm : a.length ≤ 4611686018427387904) : f19 a b = some (decide (a = b)) := by
  simp only [f19, e34 a b hm, Option.bind]

def roots : List D44 := [List.set (List.replicate 32 (0 : Int)) 0 (1 : Int), List.set (List.replicate 32 (0 : Int)) 0 (2 : Int), List.set (List.replicate 32 (0 : Int)) 0 (3 : Int), List.set (List.replicate 32 (0 : Int)) 0 (4 : Int)]

theorem e26 (a b : Int) (v : List Int) : ∃ s d, f45 s = some d ∧ f26 a b v = some (((0 : Int), (a, ((0 : Int), (b, (d, (v, (roots, (([] : List D81), ())))))))), (s, (roots, ()))) := by
  obtain ⟨d, hd⟩ := t45 (List.set (List.set (List.replicate 32 (0 : Int)) 0 (IntKind.u8.wrap (a))) 1 (IntKind.u8.wrap (b)))
  exact ⟨_, d, hd, by simp only [f26, f44, hd, Option.bind]; rfl⟩

theorem e49 : f49 roots roots = some true := by kernel_rfl
theorem e49c : f49 (cutList roots 1 4) roots = some false := by kernel_rfl

/-- a held credential of the check -/
abbrev hc (x : Int) (s d : D44) (ls : List D44) (at_ st : Int) : D55 := (((0 : Int), ((1 : Int), ((0 : Int), (x, (d, ([7, 5], (roots, (([] : List D81), ())))))))), ((s, (ls, ())), (at_, (st, ()))))

theorem e39 (x : Int) (s d : D44) (h : f45 s = some d) (st : Int) (h1 : 0 ≤ st) (h3 : st ≤ 3) : f39 (hc x s d roots 2 st) roots = some true := by
  simp only [f39, e49, h, Option.bind, eqDen_refl]
  simp [roots, h1, h3]

theorem w1 : w64 1 = 1 := by kernel_rfl
theorem w2 : w64 2 = 2 := by kernel_rfl
theorem w3 : w64 3 = 3 := by kernel_rfl
theorem n55_0 {x : D55} {l : List D55} : nth T55 (@List.cons D55 x l) 0 = x := rfl
theorem n55_1 {x y : D55} {l : List D55} : nth T55 (@List.cons D55 x (@List.cons D55 y l)) 1 = y := rfl
theorem n55_2 {x y z : D55} {l : List D55} : nth T55 (@List.cons D55 x (@List.cons D55 y (@List.cons D55 z l))) 2 = z := rfl
theorem n57_0 {x : D57} {l : List D57} : nth T57 (@List.cons D57 x l) 0 = x := rfl
theorem n57_1 {x y : D57} {l : List D57} : nth T57 (@List.cons D57 x (@List.cons D57 y l)) 1 = y := rfl
theorem n57_2 {x y z : D57} {l : List D57} : nth T57 (@List.cons D57 x (@List.cons D57 y (@List.cons D57 z l))) 2 = z := rfl
theorem n48_0 {x : D48} {l : List D48} : nth T48 (@List.cons D48 x l) 0 = x := rfl
theorem n48_1 {x y : D48} {l : List D48} : nth T48 (@List.cons D48 x (@List.cons D48 y l)) 1 = y := rfl
theorem n48_2 {x y z : D48} {l : List D48} : nth T48 (@List.cons D48 x (@List.cons D48 y (@List.cons D48 z l))) 2 = z := rfl
theorem n53_0 {x : D53} {l : List D53} : nth T53 (@List.cons D53 x l) 0 = x := rfl
theorem n53_1 {x y : D53} {l : List D53} : nth T53 (@List.cons D53 x (@List.cons D53 y l)) 1 = y := rfl
theorem n53_2 {x y z : D53} {l : List D53} : nth T53 (@List.cons D53 x (@List.cons D53 y (@List.cons D53 z l))) 2 = z := rfl
theorem ni_0 {x : Int} {l : List Int} : nth (.int .i64) (@List.cons Int x l) 0 = x := rfl
theorem ni_1 {x y : Int} {l : List Int} : nth (.int .i64) (@List.cons Int x (@List.cons Int y l)) 1 = y := rfl
theorem ni_2 {x y z : Int} {l : List Int} : nth (.int .i64) (@List.cons Int x (@List.cons Int y (@List.cons Int z l))) 2 = z := rfl

theorem e16_0 : f16 ((7 : Int), ((0 : Int), (([] : List D55), ()))) = some 0 := by kernel_rfl
theorem e16_n : f16 ((0 : Int), ((5 : Int), (([] : List D55), ()))) = some 410 := by kernel_rfl

theorem e16_2 (s1 d1 s2 d2 : D44) (h1 : f45 s1 = some d1) (h2 : f45 s2 = some d2) (x y : Int) (hx : 0 ≤ x ∧ x ≤ 3) (hy : 0 ≤ y ∧ y ≤ 3) :
    f16 ((7 : Int), ((0 : Int), ([hc 0 s1 d1 roots 2 x, hc 1 s2 d2 roots 2 y], ()))) = some 0 := by
  have g1 := e39 0 s1 d1 h1 x hx.1 hx.2
  have g2 := e39 1 s2 d2 h2 y hy.1 hy.2
  simp [f16, f16_l1, f38, n55_0, n55_1, g1, g2, w1, w2, mget, mset, eqDen, Ty.dflt, maxB]

theorem e16_3 (s1 d1 s2 d2 : D44) (h1 : f45 s1 = some d1) (h2 : f45 s2 = some d2) :
    f16 ((7 : Int), ((0 : Int), ([hc 0 s1 d1 roots 2 0, hc 1 s2 d2 roots 2 0, hc 0 s1 d1 roots 2 0], ()))) = some 410 := by
  have g1 := e39 0 s1 d1 h1 0 (by omega) (by omega)
  have g2 := e39 1 s2 d2 h2 0 (by omega) (by omega)
  simp [f16, f16_l1, f38, n55_0, n55_1, n55_2, g1, g2, w1, w2, w3, mget, mset, eqDen, Ty.dflt, maxB]

abbrev cc (x : Int) (d : D44) : D48 := ((0 : Int), ((1 : Int), ((0 : Int), (x, (d, ([7, 5], (roots, (([] : List D81), ()))))))))

theorem e23_a (s1 d1 s2 d2 : D44) (h1 : f45 s1 = some d1) (h2 : f45 s2 = some d2) :
    f23 ((7 : Int), ((0 : Int), (([] : List D55), ()))) [cc 0 d1, cc 1 d2] [(s1, (roots, ())), (s2, (roots, ()))] 2 = some (((7 : Int), ((0 : Int), ([hc 0 s1 d1 roots 2 0, hc 1 s2 d2 roots 2 0], ()))), 0) := by
  have g := e16_2 s1 d1 s2 d2 h1 h2 0 0 (by omega) (by omega)
  simp [f23, e16_0, f35_s2, f47_s1, f23_l1, f41_s1, n48_0, n48_1, n53_0, n53_1, w1, w2, maxB, g]

theorem e23_b (s1 d1 s2 d2 : D44) (h1 : f45 s1 = some d1) (h2 : f45 s2 = some d2) :
    f23 ((7 : Int), ((0 : Int), ([hc 0 s1 d1 roots 2 0, hc 1 s2 d2 roots 2 0], ()))) [cc 0 d1] [(s1, (roots, ()))] 2 = some (((0 : Int), ((0 : Int), (([] : List D55), ()))), 410) := by
  have g := e16_2 s1 d1 s2 d2 h1 h2 0 0 (by omega) (by omega)
  have g3 := e16_3 s1 d1 s2 d2 h1 h2
  simp [f23, g, f35_s2, f47_s1, f23_l1, f41_s1, n48_0, n53_0, w1, maxB, g3]

theorem e23_c (_s1 d1 : D44) :
    f23 ((7 : Int), ((0 : Int), (([] : List D55), ()))) [cc 0 d1] [] 2 = some (((0 : Int), ((0 : Int), (([] : List D55), ()))), 410) := by
  simp [f23, e16_0]

theorem e16_d (s1 d1 : D44) (ls : List D44) (a : Int) (h : f39 (hc 0 s1 d1 ls a 0) roots = some false) :
    f16 ((7 : Int), ((0 : Int), ([hc 0 s1 d1 ls a 0], ()))) = some 410 := by
  simp [f16, f16_l1, f38, n55_0, h, w1, mget, mset, Ty.dflt, maxB]

theorem e23_d (s1 d1 : D44) (ls : List D44) (a : Int) (h : f39 (hc 0 s1 d1 ls a 0) roots = some false) :
    f23 ((7 : Int), ((0 : Int), (([] : List D55), ()))) [cc 0 d1] [(s1, (ls, ()))] a = some (((0 : Int), ((0 : Int), (([] : List D55), ()))), 410) := by
  have g := e16_d s1 d1 ls a h
  simp [f23, e16_0, f35_s2, f47_s1, f23_l1, f41_s1, n48_0, n53_0, w1, maxB, g]

theorem e39_d (s1 d1 : D44) : f39 (hc 0 s1 d1 (cutList roots 1 4) 2 0) roots = some false := by
  simp only [f39, e49, e49c, Option.bind]
  simp [roots]

theorem e39_e (s1 d1 : D44) : f39 (hc 0 s1 d1 roots 4 0) roots = some false := by
  simp only [f39, e49, Option.bind]
  simp [roots]

theorem e11_a (s1 d1 s2 d2 : D44) : f11 ((7 : Int), ((0 : Int), ([hc 0 s1 d1 roots 2 0, hc 1 s2 d2 roots 2 0], ()))) 2 = some ([(0, ([0, 1], ([7, 5], ())))], [0]) := by
  simp [f11, f28_s1, f28_s1_l1, f29_s1, f11_l1, f30_s1, f46_s1, f46_s1_l1, f31_s1, f32, f32_l1, f33, f11_l2, n55_0, n55_1, ni_0, ni_1, n57_0, w1, w2, maxB]

theorem e11_b (s1 d1 s2 d2 : D44) : f11 ((7 : Int), ((0 : Int), ([hc 0 s1 d1 roots 2 0, hc 1 s2 d2 roots 2 0], ()))) 1 = some ([], []) := by
  simp [f11, f28_s1, f28_s1_l1, f29_s1, f11_l1, n55_0, n55_1, w1, w2, maxB]

theorem e11_c (s1 d1 s2 d2 : D44) : f11 ((7 : Int), ((0 : Int), ([hc 0 s1 d1 roots 2 2, hc 1 s2 d2 roots 2 2], ()))) 2 = some ([], []) := by
  simp [f11, f28_s1, f28_s1_l1, f29_s1, f11_l1, n55_0, n55_1, w1, w2, maxB]

theorem e13_a (s1 d1 s2 d2 : D44) (h1 : f45 s1 = some d1) (h2 : f45 s2 = some d2) :
    f13 ((7 : Int), ((0 : Int), ([hc 0 s1 d1 roots 2 0, hc 1 s2 d2 roots 2 0], ()))) 0 = some (((7 : Int), ((0 : Int), ([hc 0 s1 d1 roots 2 2, hc 1 s2 d2 roots 2 2], ()))), 0) := by
  have g := e16_2 s1 d1 s2 d2 h1 h2 0 0 (by omega) (by omega)
  simp [f13, g, f35_s2, f47_s1, f37_s1, f28_s2, f28_s2_l1, f48_s1, f36_s1, f36_s1_l1, n55_0, n55_1, ni_0, ni_1, w1, w2, maxB]

theorem e13_b (s1 d1 s2 d2 : D44) (h1 : f45 s1 = some d1) (h2 : f45 s2 = some d2) :
    f13 ((7 : Int), ((0 : Int), ([hc 0 s1 d1 roots 2 0, hc 1 s2 d2 roots 2 0], ()))) 16 = some (((0 : Int), ((0 : Int), (([] : List D55), ()))), 1) := by
  have g := e16_2 s1 d1 s2 d2 h1 h2 0 0 (by omega) (by omega)
  simp [f13, g]

theorem e20_a (s1 d1 s2 d2 : D44) : f20 ((7 : Int), ((0 : Int), ([hc 0 s1 d1 roots 2 0, hc 1 s2 d2 roots 2 0], ()))) 0 = some 2 := by
  simp [f20, f37_s1, f28_s2, f28_s2_l1, f48_s1, n55_0, n55_1, w1, w2, maxB]
theorem e20_b (s1 d1 s2 d2 : D44) : f20 ((7 : Int), ((0 : Int), ([hc 0 s1 d1 roots 2 0, hc 1 s2 d2 roots 2 0], ()))) 1 = some 0 := by
  simp [f20, f37_s1, f28_s2, f28_s2_l1, f48_s1, n55_0, n55_1, w1, w2, maxB]
theorem e20_c (s1 d1 s2 d2 : D44) : f20 ((7 : Int), ((0 : Int), ([hc 0 s1 d1 roots 2 2, hc 1 s2 d2 roots 2 2], ()))) 0 = some 0 := by
  simp [f20, f37_s1, f28_s2, f28_s2_l1, f48_s1, n55_0, n55_1, w1, w2, maxB]

theorem e9_a : f9 7 = some (((7 : Int), ((0 : Int), (([] : List D55), ()))), 0) := rfl
theorem e9_b : f9 4096 = some (((0 : Int), ((0 : Int), (([] : List D55), ()))), 410) := rfl


end Go.Proofs.YtnhfefbbdfmniaaDoor
