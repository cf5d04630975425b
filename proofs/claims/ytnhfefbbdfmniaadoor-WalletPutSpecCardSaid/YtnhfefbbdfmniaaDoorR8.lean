/- The program's public key is the reference's. No condition beyond what each theorem states. -/
import Derived.Test.YtnhfefbbdfmniaaDoorR7
namespace Go.Proofs.YtnhfefbbdfmniaaDoor
open Go.Abs

/-- a digest -/
def Dg (x : List Int) : Prop := x.length = 32 ∧ Byt x

theorem Byt.set {l : List Int} (h : Byt l) (i : Nat) {v : Int} (hv : 0 ≤ v ∧ v < 256) : Byt (List.set l i v) := by
  intro x hx
  rcases List.mem_or_eq_of_mem_set hx with hx | hx
  · exact h x hx
  · rw [hx]; exact hv

theorem d66_l1 (y : D106) : ∃ r, Dg r ∧ f66_l1 y (Int.toNat (32 : Int) + 1) (0 : Int) (Ty.dflt T44) = some r := by
  have h := loopU (fun _ (s : D44) => Dg s) (fun (r : D44) => Dg r) (fun n i s => f66_l1 y n i s) 32
    (by
      intro n i s hi hj
      left
      have e1 : Int.tdiv (i : Int) 4 = ((i / 4 : Nat) : Int) := rfl
      have e2 : Int.tmod (i : Int) 4 = ((i % 4 : Nat) : Int) := rfl
      have e3 : w64 ((i / 4 : Nat) : Int) = ((i / 4 : Nat) : Int) := w64_id (by omega) (by omega)
      have e4 : w64 ((8 : Int) * ((i % 4 : Nat) : Int)) = 8 * ((i % 4 : Nat) : Int) := w64_id (by omega) (by omega)
      have e5 : w64 ((24 : Int) - 8 * ((i % 4 : Nat) : Int)) = 24 - 8 * ((i % 4 : Nat) : Int) := w64_id (by omega) (by omega)
      refine ⟨List.set s i (IntKind.u8.wrap (Int.fdiv (nth (.int .u32) y ((i / 4 : Nat) : Int)) (2 ^ (min (Int.toNat (24 - 8 * ((i % 4 : Nat) : Int))) 32)))), ⟨by rw [List.length_set]; exact hj.1, hj.2.set _ (u8_byt _)⟩, ?_⟩
      simp only [f66_l1, e1, e2, e3, e4, e5, w64_succ (show i ≤ _ by omega), Int.toNat_natCast]
      rw [if_pos (by rw [decide_eq_true_eq]; omega), if_pos (by omega), if_pos (by omega), if_pos (by omega)])
    (by intro n s hs; exact ⟨s, hs, by simp [f66_l1]⟩) (Int.toNat 32 + 1) 0 (Ty.dflt T44) (by omega) (by simp) ⟨rfl, by
      intro x hx
      have : x = 0 := List.eq_of_mem_replicate (n := 32) hx
      omega⟩
  exact h

theorem d66 (a0 : List (List Int)) (ha : a0.length ≤ 1000) (hx : ∀ x ∈ a0, x.length ≤ 1000) (hb : ∀ x ∈ a0, Byt x) : ∃ r, Dg r ∧ f66 a0 = some r ∧ f67 a0.flatten = some r := by
  obtain ⟨y, hy⟩ := t68 a0 ha hx [(1779033703 : Int), (3144134277 : Int), (1013904242 : Int), (2773480762 : Int), (1359893119 : Int), (2600822924 : Int), (528734635 : Int), (1541459225 : Int)]
  obtain ⟨r, hr, e⟩ := d66_l1 y
  have h : f66 a0 = some r := by unfold f66; rw [hy, bs, e, bs]
  exact ⟨r, hr, h, by rw [← e66 a0 ha hx hb]; exact h⟩

theorem bytesOf_byt (s : List UInt8) : Byt (bytesOf s) := by
  intro x hx
  simp only [bytesOf, List.mem_map] at hx
  obtain ⟨b, _, e⟩ := hx
  have := b.toNat_lt
  omega

theorem tk32 {x : List Int} (h : x.length = 32) : List.take (32 - 0) (List.drop 0 x) = x := by
  rw [List.drop_zero]; exact List.take_of_length_le (by omega)

theorem ct32 {x : List Int} (h : x.length = 32) : cutList x 0 32 = x := by
  unfold cutList; exact tk32 h

theorem d61 (a0 : List UInt8) (a1 : List Int) (h0 : a0.length ≤ 1000) (h1 : a1.length ≤ 1000) (hb : Byt a1) : ∃ r, Dg r ∧ f61 a0 a1 = some r ∧ f64 a0 a1 = some r := by
  obtain ⟨y, hy, g1, g2⟩ := d66 [bytesOf a0] (by simp) (by simp [bytesOf]; exact h0) (by simpa using bytesOf_byt a0)
  obtain ⟨r, hr, k1, k2⟩ := d66 [y, a1] (by simp) (by simp [hy.1]; exact h1) (by simp; exact ⟨hy.2, hb⟩)
  refine ⟨r, hr, ?_, ?_⟩
  · unfold f61
    rw [g1, bs, ct32 hy.1, k1, bs]
  · unfold f64
    simp only [List.flatten_cons, List.flatten_nil, List.append_nil] at g2 k2
    rw [g2, bs, tk32 hy.1, if_pos (by simp [maxB, hy.1]), if_pos (by simp only [maxB, hy.1]; omega), k2, bs]

theorem d54 (a0 : D44) (a1 : Int) (ha : Dg a0) : ∃ r, Dg r ∧ f54 a0 a1 = some r ∧ f57 a0 a1 = some r := by
  obtain ⟨r, hr, g1, g2⟩ := d61 [99, 104, 97, 105, 110] (a0 ++ [IntKind.u8.wrap a1]) (by simp) (by simp [ha.1]) (ha.2.append (by
    intro x hx
    have : x = IntKind.u8.wrap a1 := by simpa using hx
    rw [this]; exact u8_byt _))
  refine ⟨r, hr, ?_, ?_⟩
  · unfold f54
    have : f62 [cutList a0 0 32, [IntKind.u8.wrap a1]] = some (a0 ++ [IntKind.u8.wrap a1]) := by
      rw [ct32 ha.1]
      have e0 : nth (.slice 1 (.int .u8)) [a0, [IntKind.u8.wrap a1]] 0 = a0 := rfl
      have e1 : nth (.slice 1 (.int .u8)) [a0, [IntKind.u8.wrap a1]] 1 = [IntKind.u8.wrap a1] := rfl
      have w0 : w64 ((0 : Int) + 1) = 1 := rfl
      have w1 : w64 ((1 : Int) + 1) = 2 := rfl
      unfold f62
      simp only [List.length_cons, List.length_nil, f62_l1]
      rw [if_pos (by simp), if_pos (by simp), e0, if_pos (by simp [maxB, ha.1]), w0, if_pos (by simp), if_pos (by simp), e1, if_pos (by simp [maxB, ha.1]), w1, if_neg (by simp), bs, List.nil_append]
    rw [this, bs, g1, bs]
  · unfold f57
    rw [tk32 ha.1, if_pos (by simp [maxB, ha.1]), if_pos (by simp [maxB, ha.1]), g2, bs]

theorem dstep (x : D44) (hx : Dg x) : ∃ r, Dg r ∧ f61 [115, 116, 101, 112] x = some r ∧ f63 x = some r := by
  obtain ⟨r, hr, g1, g2⟩ := d61 [115, 116, 101, 112] x (by simp) (by rw [hx.1]; omega) hx.2
  refine ⟨r, hr, g1, ?_⟩
  unfold f63
  rw [tk32 hx.1, g2, bs]

theorem d53 (x : D44) (hx : Dg x) : ∃ r, Dg r ∧ f53 x 3 = some r ∧ f56 x 3 = some r := by
  obtain ⟨x1, h1, p1, q1⟩ := dstep x hx
  obtain ⟨x2, h2, p2, q2⟩ := dstep x1 h1
  obtain ⟨x3, h3, p3, q3⟩ := dstep x2 h2
  have hm : ∃ m, big = m + 4 := ⟨big - 4, by simp [big]⟩
  obtain ⟨m, hm⟩ := hm
  refine ⟨x3, h3, ?_, ?_⟩
  · unfold f53 f60_s1 f65_s1
    rw [bs, hm]
    have s3 : ∀ u d, f53_b1 u 3 d = some (.brk (2, d)) := fun _ _ => rfl
    have s2 : ∀ u d, f53_b1 u 2 d = some (.brk (1, d)) := fun _ _ => rfl
    have s1 : ∀ u d, f53_b1 u 1 d = some (.brk (0, d)) := fun _ _ => rfl
    have s0 : ∀ u d, f53_b1 u 0 d = some (.ret (0, (0, u))) := fun _ _ => rfl
    simp only [f65_s1_l1, s3, bs, tk32 hx.1, p1, s2, tk32 h1.1, p2, s1, tk32 h2.1, p3, s0]
    rfl
  · unfold f56
    rw [hm]
    have w0 : w64 ((0 : Int) + 1) = 1 := rfl
    have w1 : w64 ((1 : Int) + 1) = 2 := rfl
    have w2 : w64 ((2 : Int) + 1) = 3 := rfl
    simp only [f56_l1]
    rw [if_pos (by simp), q1, bs, w0, if_pos (by simp), q2, bs, w1, if_pos (by simp), q3, bs, w2, if_neg (by simp), bs]

/-- the end of a chain -/
def chEnd (a0 : D44) (i : Nat) : D44 := ((f57 a0 (i : Int)).bind fun y => f56 y 3).getD []

theorem chEnd_ok (a0 : D44) (ha : Dg a0) (i : Nat) : Dg (chEnd a0 i) ∧ (∃ y, f54 a0 (i : Int) = some y ∧ f53 y 3 = some (chEnd a0 i)) ∧ (∃ y, f57 a0 (i : Int) = some y ∧ f56 y 3 = some (chEnd a0 i)) := by
  obtain ⟨y, hy, g1, g2⟩ := d54 a0 i ha
  obtain ⟨z, hz, k1, k2⟩ := d53 y hy
  have e : chEnd a0 i = z := by unfold chEnd; rw [g2, bs, k2]; rfl
  rw [e]
  exact ⟨hz, ⟨y, g1, k1⟩, ⟨y, g2, k2⟩⟩

def ends (a0 : D44) (n : Nat) : List D44 := (List.range n).map (chEnd a0)

theorem ends_succ (a0 : D44) (n : Nat) : ends a0 (n + 1) = ends a0 n ++ [chEnd a0 n] := by
  unfold ends; rw [List.range_succ, List.map_append]; rfl

theorem ends_len (a0 : D44) (n : Nat) : (ends a0 n).length = n := by simp [ends]

theorem d45_l1 (a0 : D44) (ha : Dg a0) : f45_l1 a0 (Int.toNat (19 : Int) + 1) (0 : Int) (Ty.dflt T90) = some (ends a0 19) := by
  have h := loopU (fun i (s : List D44) => s = ends a0 i ++ List.replicate (19 - i) (List.replicate 32 (0 : Int))) (fun (r : List D44) => r = ends a0 19) (fun n i s => f45_l1 a0 n i s) 19
    (by
      intro n i s hi hs
      left
      obtain ⟨_, ⟨y, g1, g2⟩, _⟩ := chEnd_ok a0 ha i
      refine ⟨List.set s i (chEnd a0 i), ?_, ?_⟩
      · have hrep : ∀ k (z v : D44), 0 < k → List.set (List.replicate k z) 0 v = v :: List.replicate (k - 1) z := by
          intro k z v hk
          obtain ⟨k, rfl⟩ : ∃ m, k = m + 1 := ⟨k - 1, by omega⟩
          rfl
        rw [hs, List.set_append_right _ _ (by rw [ends_len]; omega), ends_len, Nat.sub_self, hrep _ _ _ (by omega), ends_succ, List.append_assoc]
        rfl
      · simp only [f45_l1, g1, g2, bs, w64_succ (show i ≤ _ by omega), Int.toNat_natCast]
        rw [if_pos (by rw [decide_eq_true_eq]; omega), if_pos (by omega)])
    (by
      intro n s hs
      refine ⟨s, ?_, by simp [f45_l1]⟩
      rw [hs]; simp) (Int.toNat 19 + 1) 0 (Ty.dflt T90) (by omega) (by simp) rfl
  obtain ⟨r, hr, e⟩ := h
  rw [← hr]; exact e

theorem d50_l1 (a0 : D44) (ha : Dg a0) : f50_l1 a0 big (0 : Int) ([] : List D44) = some (ends a0 19) := by
  have h := loopU (fun i (s : List D44) => s = ends a0 i) (fun (r : List D44) => r = ends a0 19) (fun n i s => f50_l1 a0 n i s) 19
    (by
      intro n i s hi hs
      left
      obtain ⟨_, _, ⟨y, g1, g2⟩⟩ := chEnd_ok a0 ha i
      refine ⟨s ++ [chEnd a0 i], by rw [hs, ends_succ], ?_⟩
      have hl : s.length = i := by rw [hs, ends_len]
      simp only [f50_l1, g1, g2, bs, w64_succ (show i ≤ _ by omega)]
      rw [if_pos (by rw [decide_eq_true_eq]; omega), if_pos (by simp only [hl, List.length_cons, List.length_nil, maxB]; omega)])
    (by
      intro n s hs
      exact ⟨s, hs, by simp [f50_l1]⟩) big 0 [] (by omega) (by simp [big]) rfl
  obtain ⟨r, hr, e⟩ := h
  rw [← hr]; exact e

theorem ends_mem (a0 : D44) (ha : Dg a0) (n : Nat) : ∀ x ∈ ends a0 n, Dg x := by
  intro x hx
  simp only [ends, List.mem_map] at hx
  obtain ⟨i, _, e⟩ := hx
  rw [← e]; exact (chEnd_ok a0 ha i).1

theorem flat_len {l : List D44} (h : ∀ x ∈ l, Dg x) : l.flatten.length = 32 * l.length ∧ Byt l.flatten := by
  induction l with
  | nil => exact ⟨rfl, fun x hx => by cases hx⟩
  | cons a l ih =>
    have ha := h a (by simp)
    have hl := ih (fun x hx => h x (by simp [hx]))
    refine ⟨?_, ?_⟩
    · rw [List.flatten_cons, List.length_append, ha.1, hl.1, List.length_cons]; omega
    · rw [List.flatten_cons]; exact ha.2.append hl.2

theorem d62 (l : List D44) (h : ∀ x ∈ l, Dg x) (hl : l.length ≤ 1000) : f62 l = some l.flatten := by
  have h := loopU (fun i (s : List Int) => s = (l.take i).flatten) (fun (r : List Int) => r = l.flatten) (fun n i s => f62_l1 l n i s) l.length
    (by
      intro n i s hi hs
      left
      have hn : nth (.slice 1 (.int .u8)) l (i : Int) = l[i] := nth_lt (t := .slice 1 (.int .u8)) hi
      have hd := h _ (List.getElem_mem hi)
      have hsl : s.length ≤ 32 * i := by
        rw [hs, (flat_len (l := l.take i) (fun x hx => h x (List.mem_of_mem_take hx))).1, List.length_take]; omega
      refine ⟨s ++ l[i], by rw [hs, List.take_succ_eq_append_getElem hi, List.flatten_append]; simp, ?_⟩
      simp only [f62_l1, hn, w64_succ (show i ≤ _ by omega)]
      rw [if_pos (by rw [decide_eq_true_eq]; omega), if_pos (by omega), if_pos (by rw [hd.1]; simp only [maxB]; omega)])
    (by
      intro n s hs
      rw [List.take_length] at hs
      exact ⟨s, hs, by simp [f62_l1]⟩) (l.length + 1) 0 [] (by omega) (by omega) (by simp)
  obtain ⟨r, hr, e⟩ := h
  unfold f62
  rw [show (0 : Int) = ((0 : Nat) : Int) from rfl, e, bs, hr]

theorem d55_l1 (l : List D44) (h : ∀ x ∈ l, Dg x) (hl : l.length = 19) : f55_l1 (Int.toNat (19 : Int) + 1) l (0 : Int) (List.replicate (Int.toNat (19 : Int)) (Ty.dflt (.slice 1 (.int .u8)))) = some l := by
  have h := loopU (fun i (s : List (List Int)) => s = l.take i ++ List.replicate (19 - i) ([] : List Int)) (fun (r : List (List Int)) => r = l) (fun n i s => f55_l1 n l i s) 19
    (by
      intro n i s hi hs
      left
      have hn : nth T44 l (i : Int) = l[i] := nth_lt (t := T44) (by omega)
      have hd := h l[i] (List.getElem_mem (by omega))
      have hsl : s.length = 19 := by rw [hs, List.length_append, List.length_take, List.length_replicate]; omega
      refine ⟨List.set s i l[i], ?_, ?_⟩
      · have hrep : ∀ k (z v : D44), 0 < k → List.set (List.replicate k z) 0 v = v :: List.replicate (k - 1) z := by
          intro k z v hk
          obtain ⟨k, rfl⟩ : ∃ m, k = m + 1 := ⟨k - 1, by omega⟩
          rfl
        have htl : (l.take i).length = i := by rw [List.length_take]; omega
        rw [hs, List.set_append_right _ _ (by rw [htl]; omega), htl, Nat.sub_self, hrep _ _ _ (by omega), List.take_succ_eq_append_getElem (by omega), List.append_assoc]
        rfl
      · simp only [f55_l1, hn, w64_succ (show i ≤ _ by omega), Int.toNat_natCast, ct32 hd.1, hsl]
        rw [if_pos (by rw [decide_eq_true_eq]; omega), if_pos (by omega), if_pos (by omega)])
    (by
      intro n s hs
      refine ⟨s, ?_, by simp [f55_l1]⟩
      rw [hs, ← hl, List.take_length]; simp) (Int.toNat 19 + 1) 0 (List.replicate (Int.toNat (19 : Int)) (Ty.dflt (.slice 1 (.int .u8)))) (by omega) (by simp) rfl
  obtain ⟨r, hr, e⟩ := h
  rw [hr] at e; exact e

theorem d58_l1 (l : List D44) (h : ∀ x ∈ l, Dg x) (hl : l.length ≤ 1000) : f58_l1 l big (0 : Int) ([] : List Int) = some l.flatten := by
  have h := loopU (fun i (s : List Int) => s = (l.take i).flatten) (fun (r : List Int) => r = l.flatten) (fun n i s => f58_l1 l n i s) l.length
    (by
      intro n i s hi hs
      left
      have hn : nth T44 l (i : Int) = l[i] := nth_lt (t := T44) hi
      have hd := h _ (List.getElem_mem hi)
      have hsl : s.length ≤ 32 * i := by
        rw [hs, (flat_len (l := l.take i) (fun x hx => h x (List.mem_of_mem_take hx))).1, List.length_take]; omega
      refine ⟨s ++ l[i], by rw [hs, List.take_succ_eq_append_getElem hi, List.flatten_append]; simp, ?_⟩
      simp only [f58_l1, hn, w64_succ (show i ≤ _ by omega), ct32 hd.1]
      rw [if_pos (by rw [decide_eq_true_eq]; omega), if_pos (by omega), if_pos (by rw [hd.1]; simp only [maxB]; omega)])
    (by
      intro n s hs
      rw [List.take_length] at hs
      exact ⟨s, hs, by simp [f58_l1]⟩) big 0 [] (by omega) (by simp only [big]; omega) (by simp)
  obtain ⟨r, hr, e⟩ := h
  rw [hr] at e; exact e

theorem d45 (a0 : D44) (ha : Dg a0) : ∃ r, Dg r ∧ f45 a0 = some r ∧ f50 a0 = some r := by
  have hm := ends_mem a0 ha 19
  have hfl := flat_len hm
  rw [ends_len] at hfl
  obtain ⟨r, hr, g1, g2⟩ := d61 [112, 117, 98, 108, 105, 99] (ends a0 19).flatten (by simp) (by rw [hfl.1]; omega) hfl.2
  refine ⟨r, hr, ?_, ?_⟩
  · unfold f45 f55
    rw [d45_l1 a0 ha, bs, if_pos (by simp [maxB]), d55_l1 _ hm (ends_len a0 19), bs, d62 _ hm (by rw [ends_len]; omega), bs, g1, bs, bs]
  · unfold f50 f58
    rw [d50_l1 a0 ha, bs, d58_l1 _ hm (by rw [ends_len]; omega), bs, g2, bs, bs]

end Go.Proofs.YtnhfefbbdfmniaaDoor
