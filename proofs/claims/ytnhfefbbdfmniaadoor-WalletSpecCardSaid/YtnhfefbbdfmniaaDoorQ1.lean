/- The digest never fails: each printed function of chains.Public answers at every input. No condition beyond what each theorem states. -/
import Derived.Test.YtnhfefbbdfmniaaDoorF1
import Derived.Test.YtnhfefbbdfmniaaDoorA3
namespace Go.Proofs.YtnhfefbbdfmniaaDoor
open Go.Abs

theorem t72 (a b : Int) : ∃ r, f72 a b = some r := by
  simp only [f72, and64_nn, u64_nn, if_true]; exact ⟨_, rfl⟩

theorem t69_l2 (a0 : Nat) (a2 : D106) (a3 : D112) (u : Nat) (hu : u < 16) (s : D115) : ∃ r, f69_s1_l2 a0 64 a2 a3 (u : Int) (Int.toNat (4 : Int) + 1) (0 : Int) s = some r := by
  have h := loopU (fun _ _ => True) (fun _ => True) (fun n i s => f69_s1_l2 a0 64 a2 a3 (u : Int) n i s) 4
    (by
      intro n i s hi _
      left
      have e1 : w64 ((4 : Int) * (u : Int)) = 4 * u := w64_id (by omega) (by omega)
      have e2 : w64 (4 * (u : Int) + (i : Int)) = 4 * u + i := w64_id (by omega) (by omega)
      refine' ⟨_, trivial, _⟩
      rotate_left
      simp only [f69_s1_l2, e1, e2, w64_succ (show i ≤ _ by omega)]
      rw [if_pos (by simp; omega), if_pos (by omega), if_pos (by omega)])
    (by intro n s _; exact ⟨s, trivial, by simp [f69_s1_l2]⟩) (Int.toNat 4 + 1) 0 s (by omega) (by simp) trivial
  obtain ⟨r, _, e⟩ := h
  exact ⟨r, e⟩

theorem t69_l1 (a0 : Nat) (a2 : D106) (a3 : D112) (s : D115) : ∃ r, f69_s1_l1 a0 64 a2 a3 (Int.toNat (16 : Int) + 1) (0 : Int) s = some r := by
  have h := loopU (fun _ _ => True) (fun _ => True) (fun n i s => f69_s1_l1 a0 64 a2 a3 n i s) 16
    (by
      intro n i s hi _
      left
      obtain ⟨r, e⟩ := t69_l2 a0 a2 a3 i hi s
      refine ⟨r, trivial, ?_⟩
      simp only [f69_s1_l1, e, w64_succ (show i ≤ _ by omega)]
      rw [if_pos (by simp; omega)]; rfl)
    (by intro n s _; exact ⟨s, trivial, by simp [f69_s1_l1]⟩) (Int.toNat 16 + 1) 0 s (by omega) (by simp) trivial
  obtain ⟨r, _, e⟩ := h
  exact ⟨r, e⟩

theorem t69_l3 (a2 : D106) (a3 : D112) (s : D115) : ∃ r, f69_s1_l3 a2 a3 big (16 : Int) s = some r := by
  have h := loopU (fun i _ => 16 ≤ i) (fun _ => True) (fun n i s => f69_s1_l3 a2 a3 n i s) 64
    (by
      intro n i s hi hj
      left
      have e1 : w64 ((i : Int) - 15) = i - 15 := w64_id (by omega) (by omega)
      have e2 : w64 ((i : Int) - 2) = i - 2 := w64_id (by omega) (by omega)
      have e3 : w64 ((i : Int) - 16) = i - 16 := w64_id (by omega) (by omega)
      have e4 : w64 ((i : Int) - 7) = i - 7 := w64_id (by omega) (by omega)
      obtain ⟨r1, h1⟩ := t72 (nth (.int .u32) s ((i : Int) - 15)) (-7)
      obtain ⟨r2, h2⟩ := t72 (nth (.int .u32) s ((i : Int) - 15)) (-18)
      obtain ⟨r3, h3⟩ := t72 (nth (.int .u32) s ((i : Int) - 2)) (-17)
      obtain ⟨r4, h4⟩ := t72 (nth (.int .u32) s ((i : Int) - 2)) (-19)
      refine' ⟨_, by omega, _⟩
      rotate_left
      simp only [f69_s1_l3, e1, e2, e3, e4, w64_succ (show i ≤ _ by omega)]
      rw [if_pos (by simp; omega), if_pos (by omega), if_pos (by omega), h1, h2, h3, h4]
      simp only [Option.bind]
      rw [if_pos (by omega), if_pos (by omega), if_pos (by omega)])
    (by intro n s _; exact ⟨s, trivial, by simp [f69_s1_l3]⟩) big 16 s (by omega) (by simp [big]) (by omega)
  obtain ⟨r, _, e⟩ := h
  exact ⟨r, e⟩

theorem t69_l4 (a2 : D106) (a3 : D112) (o : D115) (s : D106) : ∃ r, f69_s1_l4 a2 a3 o (Int.toNat (64 : Int) + 1) (0 : Int) s = some r := by
  have h := loopU (fun _ _ => True) (fun _ => True) (fun n i s => f69_s1_l4 a2 a3 o n i s) 64
    (by
      intro n i s hi hj
      left
      obtain ⟨r1, h1⟩ := t72 (nth (.int .u32) s 4) (-6)
      obtain ⟨r2, h2⟩ := t72 (nth (.int .u32) s 4) (-11)
      obtain ⟨r3, h3⟩ := t72 (nth (.int .u32) s 4) (-25)
      obtain ⟨r4, h4⟩ := t72 (nth (.int .u32) s 0) (-2)
      obtain ⟨r5, h5⟩ := t72 (nth (.int .u32) s 0) (-13)
      obtain ⟨r6, h6⟩ := t72 (nth (.int .u32) s 0) (-22)
      refine' ⟨_, trivial, _⟩
      rotate_left
      simp only [f69_s1_l4, w64_succ (show i ≤ _ by omega)]
      rw [if_pos (by simp; omega), h1, h2, h3]
      simp only [Option.bind]
      rw [if_pos (by omega), h4, h5, h6])
    (by intro n s _; exact ⟨s, trivial, by simp [f69_s1_l4]⟩) (Int.toNat 64 + 1) 0 s (by omega) (by simp) trivial
  obtain ⟨r, _, e⟩ := h
  exact ⟨r, e⟩

theorem t69_l5 (a3 : D112) (o : D106) (s : D106) : ∃ r, f69_s1_l5 a3 o (Int.toNat (8 : Int) + 1) (0 : Int) s = some r := by
  have h := loopU (fun _ _ => True) (fun _ => True) (fun n i s => f69_s1_l5 a3 o n i s) 8
    (by
      intro n i s hi hj
      left
      refine' ⟨_, trivial, _⟩
      rotate_left
      simp only [f69_s1_l5, w64_succ (show i ≤ _ by omega)]
      rw [if_pos (by simp; omega), if_pos (by omega)])
    (by intro n s _; exact ⟨s, trivial, by simp [f69_s1_l5]⟩) (Int.toNat 8 + 1) 0 s (by omega) (by simp) trivial
  obtain ⟨r, _, e⟩ := h
  exact ⟨r, e⟩

theorem t69 (a0 : Nat) (a2 : D106) (a3 : D112) : ∃ r, f69_s1 a0 64 a2 a3 = some r := by
  obtain ⟨r1, h1⟩ := t69_l1 a0 a2 a3 (Ty.dflt T115)
  obtain ⟨r2, h2⟩ := t69_l3 a2 a3 r1
  obtain ⟨r3, h3⟩ := t69_l4 a2 a3 r2 a2
  obtain ⟨r4, h4⟩ := t69_l5 a3 r3 a2
  exact ⟨(r4, a3), by simp only [f69_s1, h1, h2, h3, h4, Option.bind]⟩

theorem t68_l2 (a0 : List (List Int)) (x1 x2 : Int) : ∀ n (k : Nat) (l : List Int) (s : D106) (b : D112), k < 64 → l.length < n → ∃ r : Int × D106 × D112, (0 ≤ r.1 ∧ r.1 < 64) ∧ f68_s1_l2 a0 x1 x2 n (k : Int) l s b = some r := by
  intro n
  induction n with
  | zero => intro k l s b _ h; omega
  | succ n ih =>
    intro k l s b hk hl
    simp only [f68_s1_l2, Int.toNat_natCast]
    by_cases h0 : 0 < l.length
    · obtain ⟨m, em, hm⟩ : ∃ m, min l.length (64 - k) = m ∧ 1 ≤ m ∧ m ≤ l.length ∧ m ≤ 64 - k := ⟨_, rfl, by omega, by omega, by omega⟩
      simp only [em]
      rw [if_pos (by simp; omega), if_pos (by omega), if_pos (by omega)]
      have ew : w64 ((k : Int) + (m : Int)) = ((k + m : Nat) : Int) := by rw [w64_id (by omega) (by omega)]; rfl
      simp only [ew]
      by_cases hw : ((k + m : Nat) : Int) = 64
      · rw [if_pos (by simpa using hw)]
        obtain ⟨r, hr⟩ := t69 0 s (spl b (List.take m l) k)
        rw [show 64 - 0 = 64 from rfl, hr]
        simp only [Option.bind]
        exact ih 0 _ _ _ (by omega) (by rw [cutList_len]; omega)
      · rw [if_neg (by simpa using hw)]
        exact ih (k + m) _ _ _ (by omega) (by rw [cutList_len]; omega)
    · rw [if_neg (by simp only [decide_eq_true_eq]; omega)]
      exact ⟨((k : Int), s, b), ⟨by simp, by simp only []; omega⟩, rfl⟩

theorem t68_l1 (a0 : List (List Int)) (ha : a0.length ≤ 1000) (hb : ∀ x ∈ a0, x.length ≤ 1000) (s : D106) (b : D112) :
    ∃ r : Int × Int × D106 × D112, (0 ≤ r.1 ∧ r.1 < 64) ∧ f68_s1_l1 a0 (a0.length + 1) 0 0 0 s b = some r := by
  have h := loopU (fun _ (s : Int × Int × D106 × D112) => 0 ≤ s.1 ∧ s.1 < 64) (fun (r : Int × Int × D106 × D112) => 0 ≤ r.1 ∧ r.1 < 64) (fun n i s => f68_s1_l1 a0 n s.1 s.2.1 i s.2.2.1 s.2.2.2) a0.length
    (by
      intro n i s hi hP
      left
      obtain ⟨k, hk⟩ : ∃ k : Nat, s.1 = (k : Int) := ⟨s.1.toNat, by omega⟩
      have hl : (nth (.slice 1 (.int .u8)) a0 (i : Int)).length < big := by
        rw [nth_lt hi]
        have := hb _ (List.getElem_mem hi)
        simp only [big]; omega
      obtain ⟨r, hr, e⟩ := t68_l2 a0 s.2.1 i big k (nth (.slice 1 (.int .u8)) a0 (i : Int)) s.2.2.1 s.2.2.2 (by omega) hl
      refine' ⟨(r.1, _, r.2.1, r.2.2), hr, _⟩
      · exact (IntKind.u64.wrap (s.2.1 + (IntKind.u64.wrap ((List.length (nth (.slice 1 (.int .u8)) a0 (i : Int)) : Int)))))
      simp only [f68_s1_l1, hk, e, w64_succ (show i ≤ _ by omega)]
      rw [if_pos (by simp; omega), if_pos (by omega)]
      rfl)
    (by intro n s hP; exact ⟨s, hP, by simp [f68_s1_l1]⟩) (a0.length + 1) 0 (0, 0, s, b) (by omega) (by omega) (by simp)
  exact h

theorem t68_l3 (o1 : Int × Int × D106 × D112) (o14 : D106 × D112) (s : D112) : ∃ r, f68_s1_l3 o1 o14 (Int.toNat (8 : Int) + 1) (0 : Int) s = some r := by
  have h := loopU (fun _ _ => True) (fun _ => True) (fun n i s => f68_s1_l3 o1 o14 n i s) 8
    (by
      intro n i s hi hj
      left
      have e1 : w64 ((8 : Int) * (i : Int)) = 8 * i := w64_id (by omega) (by omega)
      have e2 : w64 ((63 : Int) - (i : Int)) = 63 - i := w64_id (by omega) (by omega)
      refine' ⟨_, trivial, _⟩
      rotate_left
      simp only [f68_s1_l3, e1, e2, w64_succ (show i ≤ _ by omega)]
      rw [if_pos (by simp; omega), if_pos (by omega), if_pos (by omega)])
    (by intro n s _; exact ⟨s, trivial, by simp [f68_s1_l3]⟩) (Int.toNat 8 + 1) 0 s (by omega) (by simp) trivial
  obtain ⟨r, _, e⟩ := h
  exact ⟨r, e⟩

theorem t68 (a0 : List (List Int)) (ha : a0.length ≤ 1000) (hb : ∀ x ∈ a0, x.length ≤ 1000) (s : D106) : ∃ r, f68_s1 a0 s = some r := by
  obtain ⟨o1, ho, e1⟩ := t68_l1 a0 ha hb s (Ty.dflt T112)
  have ew : w64 (o1.1 + (1 : Int)) = o1.1 + 1 := w64_id (by omega) (by omega)
  simp only [f68_s1, e1, Option.bind]
  rw [if_pos (by omega), ew, if_pos (by omega)]
  by_cases h : (56 : Int) < o1.1 + 1
  · rw [if_pos (by simpa using h)]
    obtain ⟨r, hr⟩ := t69 0 o1.2.2.1 (spl (List.set o1.2.2.2 (Int.toNat o1.1) (128 : Int)) (List.replicate (64 - (Int.toNat (o1.1 + (1 : Int)))) (0 : Int)) (Int.toNat (o1.1 + (1 : Int))))
    rw [show 64 - 0 = 64 from rfl, hr]
    simp only []
    obtain ⟨r3, h3⟩ := t68_l3 o1 (r.1, spl r.2 (List.replicate 64 (0 : Int)) 0) (spl r.2 (List.replicate 64 (0 : Int)) 0)
    rw [h3]
    simp only []
    obtain ⟨r4, h4⟩ := t69 0 r.1 r3
    rw [h4]
    exact ⟨_, rfl⟩
  · rw [if_neg (by simpa using h)]
    rw [show 64 - 0 = 64 from rfl]
    simp only []
    obtain ⟨r3, h3⟩ := t68_l3 o1 (o1.2.2.1, spl (List.set o1.2.2.2 (Int.toNat o1.1) (128 : Int)) (List.replicate (64 - (Int.toNat (o1.1 + (1 : Int)))) (0 : Int)) (Int.toNat (o1.1 + (1 : Int)))) (spl (List.set o1.2.2.2 (Int.toNat o1.1) (128 : Int)) (List.replicate (64 - (Int.toNat (o1.1 + (1 : Int)))) (0 : Int)) (Int.toNat (o1.1 + (1 : Int))))
    rw [h3]
    simp only []
    obtain ⟨r4, h4⟩ := t69 0 o1.2.2.1 r3
    rw [h4]
    exact ⟨_, rfl⟩

theorem t66_l1 (y : D106) (s : D44) : ∃ r, f66_l1 y (Int.toNat (32 : Int) + 1) (0 : Int) s = some r := by
  have h := loopU (fun _ _ => True) (fun _ => True) (fun n i s => f66_l1 y n i s) 32
    (by
      intro n i s hi hj
      left
      have e1 : w64 (Int.tdiv (i : Int) (4 : Int)) = ((i / 4 : Nat) : Int) := by
        rw [show Int.tdiv (i : Int) 4 = ((i / 4 : Nat) : Int) from rfl]; exact w64_id (by omega) (by omega)
      have e0 : Int.tmod (i : Int) (4 : Int) = ((i % 4 : Nat) : Int) := rfl
      have e2 : w64 ((8 : Int) * ((i % 4 : Nat) : Int)) = 8 * ((i % 4 : Nat) : Int) := w64_id (by omega) (by omega)
      have e3 : w64 ((24 : Int) - 8 * ((i % 4 : Nat) : Int)) = 24 - 8 * ((i % 4 : Nat) : Int) := w64_id (by omega) (by omega)
      refine' ⟨_, trivial, _⟩
      rotate_left
      simp only [f66_l1, e0, e1, e2, e3, w64_succ (show i ≤ _ by omega)]
      rw [if_pos (by simp; omega), if_pos (by omega), if_pos (by omega), if_pos (by omega)])
    (by intro n s _; exact ⟨s, trivial, by simp [f66_l1]⟩) (Int.toNat 32 + 1) 0 s (by omega) (by simp) trivial
  obtain ⟨r, _, e⟩ := h
  exact ⟨r, e⟩

theorem t66 (a0 : List (List Int)) (ha : a0.length ≤ 1000) (hb : ∀ x ∈ a0, x.length ≤ 1000) : ∃ r, f66 a0 = some r := by
  obtain ⟨r1, h1⟩ := t68 a0 ha hb [(1779033703 : Int), (3144134277 : Int), (1013904242 : Int), (2773480762 : Int), (1359893119 : Int), (2600822924 : Int), (528734635 : Int), (1541459225 : Int)]
  obtain ⟨r2, h2⟩ := t66_l1 r1 (Ty.dflt T44)
  exact ⟨r2, by simp only [f66, h1, h2, Option.bind]⟩

theorem t61 (a0 : List UInt8) (a1 : List Int) (h0 : a0.length ≤ 1000) (h1 : a1.length ≤ 1000) : ∃ r, f61 a0 a1 = some r := by
  obtain ⟨r1, e1⟩ := t66 [bytesOf a0] (by simp) (by simp [bytesOf]; omega)
  obtain ⟨r2, e2⟩ := t66 [cutList r1 0 32, a1] (by simp) (by simp [cutList_len]; omega)
  exact ⟨r2, by simp only [f61, e1, e2, Option.bind]⟩

theorem t62_l1 (a0 : List (List Int)) (ha : a0.length ≤ 1000) (hb : ∀ x ∈ a0, x.length ≤ 32) : ∃ r : List Int, r.length ≤ 32 * a0.length ∧ f62_l1 a0 (a0.length + 1) 0 [] = some r := by
  have h := loopU (fun i (s : List Int) => s.length ≤ 32 * i) (fun (r : List Int) => r.length ≤ 32 * a0.length) (fun n i s => f62_l1 a0 n i s) a0.length
    (by
      intro n i s hi hP
      left
      have hl := hb _ (List.getElem_mem hi)
      refine ⟨s ++ a0[i], ?_, ?_⟩
      · rw [List.length_append]; omega
      simp only [f62_l1, w64_succ (show i ≤ _ by omega), nth_lt (t := .slice 1 (.int .u8)) hi]
      rw [if_pos (by simp; omega), if_pos (by omega), if_pos (by simp only [maxB]; omega)])
    (by intro n s hP; exact ⟨s, hP, by simp [f62_l1]⟩) (a0.length + 1) 0 [] (by omega) (by omega) (by simp)
  exact h

theorem t62 (a0 : List (List Int)) (ha : a0.length ≤ 1000) (hb : ∀ x ∈ a0, x.length ≤ 32) : ∃ r : List Int, r.length ≤ 32 * a0.length ∧ f62 a0 = some r := by
  obtain ⟨r, hr, e⟩ := t62_l1 a0 ha hb
  exact ⟨r, hr, by simp only [f62, e, Option.bind]⟩

theorem t54 (a0 : D44) (a1 : Int) : ∃ r, f54 a0 a1 = some r := by
  obtain ⟨r1, h1, e1⟩ := t62 [cutList a0 0 32, [IntKind.u8.wrap (a1)]] (by simp) (by simp [cutList_len]; omega)
  obtain ⟨r2, e2⟩ := t61 [99, 104, 97, 105, 110] r1 (by simp) (by simp at h1; omega)
  exact ⟨r2, by simp only [f54, e1, e2, Option.bind]⟩

theorem t65_l1 : ∀ n (k : Nat) (x d : D44), k < n → k < 1000 → ∃ r : Nat × Int × D44 × D44, r.1 = 1 ∧ f65_s1_l1 f53_b1 n x (k : Int) d = some r := by
  intro n
  induction n with
  | zero => intro k x d h; omega
  | succ n ih =>
    intro k x d hk hk2
    simp only [f65_s1_l1, f53_b1]
    cases k with
    | zero => exact ⟨_, rfl, rfl⟩
    | succ k =>
      rw [if_neg (by simp)]
      simp only [Option.bind]
      obtain ⟨r1, e1⟩ := t61 [115, 116, 101, 112] (List.take (32 - 0) (List.drop 0 x)) (by simp) (by simp; omega)
      rw [e1]
      simp only []
      rw [show w64 (((k + 1 : Nat) : Int) - 1) = (k : Int) from by rw [w64_id (by omega) (by omega)]; omega]
      exact ih k _ _ (by omega) (by omega)

theorem t53 (x : D44) : ∃ r, f53 x 3 = some r := by
  obtain ⟨r, h1, e⟩ := t65_l1 big 3 x (Ty.dflt T44) (by simp [big]) (by omega)
  have e' : f65_s1_l1 f53_b1 big x 3 (Ty.dflt T44) = some r := e
  simp only [f53, f60_s1, f65_s1, Option.bind, e', h1]
  exact ⟨_, rfl⟩

theorem t55_l1 (a0 : D90) : ∃ r : List (List Int), (r.length = 19 ∧ ∀ x ∈ r, x.length ≤ 32) ∧ f55_l1 (Int.toNat (19 : Int) + 1) a0 (0 : Int) (List.replicate (Int.toNat (19 : Int)) (Ty.dflt (.slice 1 (.int .u8)))) = some r := by
  have h := loopU (fun i (s : List (List Int)) => s.length = 19 ∧ ∀ x ∈ s, x.length ≤ 32) (fun (s : List (List Int)) => s.length = 19 ∧ ∀ x ∈ s, x.length ≤ 32) (fun n i s => f55_l1 n a0 i s) 19
    (by
      intro n i s hi hP
      left
      refine ⟨List.set s i (cutList (nth T44 a0 (i : Int)) 0 32), ?_, ?_⟩
      · refine ⟨by rw [List.length_set]; exact hP.1, ?_⟩
        intro x hx
        rcases List.mem_or_eq_of_mem_set hx with h | h
        · exact hP.2 x h
        · rw [h, cutList_len]; omega
      simp only [f55_l1, w64_succ (show i ≤ _ by omega)]
      rw [if_pos (by simp; omega), if_pos (by omega), if_pos (by rw [hP.1]; omega)]
      rfl)
    (by intro n s hP; exact ⟨s, hP, by simp [f55_l1]⟩) (Int.toNat 19 + 1) 0 (List.replicate (Int.toNat (19 : Int)) (Ty.dflt (.slice 1 (.int .u8)))) (by omega) (by simp)
      ⟨by simp, by intro x hx; rw [List.eq_of_mem_replicate hx]; simp [Ty.dflt]⟩
  exact h

theorem t55 (a0 : D90) : ∃ r, f55 a0 = some r := by
  obtain ⟨r1, h1, e1⟩ := t55_l1 a0
  obtain ⟨r2, h2, e2⟩ := t62 r1 (by omega) h1.2
  obtain ⟨r3, e3⟩ := t61 [112, 117, 98, 108, 105, 99] r2 (by simp) (by omega)
  refine ⟨r3, ?_⟩
  simp only [f55, e1, e2, e3, Option.bind]
  rw [if_pos (by simp [maxB])]

theorem t45_l1 (a0 : D44) (s : D90) : ∃ r, f45_l1 a0 (Int.toNat (19 : Int) + 1) (0 : Int) s = some r := by
  have h := loopU (fun _ _ => True) (fun _ => True) (fun n i s => f45_l1 a0 n i s) 19
    (by
      intro n i s hi hj
      left
      obtain ⟨r1, e1⟩ := t54 a0 i
      obtain ⟨r2, e2⟩ := t53 r1
      refine' ⟨_, trivial, _⟩
      rotate_left
      simp only [f45_l1, e1, e2, Option.bind, w64_succ (show i ≤ _ by omega)]
      rw [if_pos (by simp; omega), if_pos (by omega)])
    (by intro n s _; exact ⟨s, trivial, by simp [f45_l1]⟩) (Int.toNat 19 + 1) 0 s (by omega) (by simp) trivial
  obtain ⟨r, _, e⟩ := h
  exact ⟨r, e⟩

theorem t45 (a0 : D44) : ∃ r, f45 a0 = some r := by
  obtain ⟨r1, e1⟩ := t45_l1 a0 (Ty.dflt T90)
  obtain ⟨r2, e2⟩ := t55 r1
  exact ⟨r2, by simp only [f45, e1, e2, Option.bind]⟩

end Go.Proofs.YtnhfefbbdfmniaaDoor
