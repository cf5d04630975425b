/- ViewsSeen's printed function answers true: the whole. No condition beyond what each theorem states. -/
import Derived.Test.YtjabllhapfphoaaGreatDoorV2
namespace Go.Proofs.YtjabllhapfphoaaGreatDoor
open Go.Abs

/-- whether the verifier is in the coalition -/
theorem e4_l2 (a0 : List D32) (a1 : List Int) (a2 : Int) (y z : List D53) (n1 n2 : Int) (i : Nat) (hi : i < a0.length) (h : a1.length ≤ maxB) : f4_l2 a0 a1 a2 y z n1 n2 (i : Int) (a1.length + 1) false 0 = some (decide (a0[i].1 ∈ a1)) := by
  have hm := maxB_eq
  have hn : nth T32 a0 (i : Int) = a0[i] := nth_lt (t := T32) hi
  obtain ⟨r, hr, e⟩ := loopU (fun j (s : Bool) => s = decide (a0[i].1 ∈ a1.take j)) (fun r => r = decide (a0[i].1 ∈ a1)) (fun n j s => f4_l2 a0 a1 a2 y z n1 n2 (i : Int) n s j) a1.length
    (fun n j s hj hP => by
      left
      refine ⟨decide (a0[i].1 ∈ a1.take (j + 1)), rfl, ?_⟩
      simp only [f4_l2]
      rw [hn, nth_lt (t := .int .i64) hj, if_pos (by rw [decide_eq_true_eq]; omega), if_pos (by omega), w64_succ (by omega), List.take_succ_eq_append_getElem hj]
      by_cases hs : a0[i].1 ∈ a1.take j
      · rw [if_pos (by rw [hP]; exact decide_eq_true hs), bs, decide_eq_true (List.mem_append_left _ hs)]
      · rw [if_neg (by rw [hP, decide_eq_false hs]; simp), bs]
        by_cases he : a1[j] = a0[i].1
        · rw [decide_eq_true he, decide_eq_true (List.mem_append_right _ (by rw [he]; exact List.mem_singleton.2 rfl))]
        · rw [decide_eq_false he, decide_eq_false (fun hh => by
            rcases List.mem_append.1 hh with hh | hh
            · exact hs hh
            · exact he (List.mem_singleton.1 hh).symm)])
    (fun n s hP => by
      simp only [f4_l2]
      rw [if_neg (by rw [decide_eq_true_eq]; omega)]
      exact ⟨_, by rw [hP, List.take_length], rfl⟩) (a1.length + 1) 0 false (Nat.zero_le _) (by omega) (by simp)
  rw [hr] at e
  exact e

theorem eq28 (x : D28) : eqDen T28 x x = true := eqDen_refl T28 x

/-- the copies of one presentation -/
theorem e4_l3 (a0 : List D32) (a1 : List Int) (a2 : Int) (i : Nat) (hi : i < a0.length) (hl : a0.length ≤ 8) (hw : ∀ p ∈ a0, wf T32 p) (h6 : ∀ p ∈ a0, p.2.2.2.2.1.length ≤ 6) :
    f4_l3 a0 a1 a2 (sg a1 a0) (sg (a1 ++ [a2]) a0) (i : Int) (decide (a0[i].1 ∈ a1)) (a0[i].2.2.2.2.1.length + 1) (((sg a1 (a0.take i)).length : Nat) : Int) (((sg (a1 ++ [a2]) (a0.take i)).length : Nat) : Int) 0 =
      some (.brk ((((sg a1 (a0.take (i + 1))).length : Nat) : Int), (((sg (a1 ++ [a2]) (a0.take (i + 1))).length : Nat) : Int))) := by
  have hm := maxB_eq
  have hn : nth T32 a0 (i : Int) = a0[i] := nth_lt (t := T32) hi
  have hmem : a0[i] ∈ a0 := List.getElem_mem _
  obtain ⟨w1, w2, _⟩ := wf_few (hw _ hmem)
  have hs1 := sg_len a1 a0 h6
  have hs2 := sg_len (a1 ++ [a2]) a0 h6
  have hk6 := h6 _ hmem
  generalize hA : (sg a1 (a0.take i)).length = A
  generalize hB : (sg (a1 ++ [a2]) (a0.take i)).length = B
  have hA48 : A ≤ 48 := by
    have := sg_len a1 (a0.take i) (fun p hp => h6 p (List.mem_of_mem_take hp))
    rw [List.length_take] at this
    omega
  have hB48 : B ≤ 48 := by
    have := sg_len (a1 ++ [a2]) (a0.take i) (fun p hp => h6 p (List.mem_of_mem_take hp))
    rw [List.length_take] at this
    omega
  have end1 : (sg a1 (a0.take (i + 1))).length = A + (if a0[i].1 ∈ a1 then a0[i].2.2.2.2.1.length else 0) := by rw [sg_take hi, List.length_append, hA, blkS_len]
  have end2 : (sg (a1 ++ [a2]) (a0.take (i + 1))).length = B + (if a0[i].1 ∈ a1 ++ [a2] then a0[i].2.2.2.2.1.length else 0) := by rw [sg_take hi, List.length_append, hB, blkS_len]
  obtain ⟨r, hr, e⟩ := loopU (fun j (s : Int × Int) => s = (((A + (if a0[i].1 ∈ a1 then j else 0) : Nat) : Int), ((B + (if a0[i].1 ∈ a1 ++ [a2] then j else 0) : Nat) : Int)))
    (fun r => r = Ctl.brk ((((sg a1 (a0.take (i + 1))).length : Nat) : Int), (((sg (a1 ++ [a2]) (a0.take (i + 1))).length : Nat) : Int)))
    (fun n j s => f4_l3 a0 a1 a2 (sg a1 a0) (sg (a1 ++ [a2]) a0) (i : Int) (decide (a0[i].1 ∈ a1)) n s.1 s.2 j) a0[i].2.2.2.2.1.length
    (fun n j s hj hP => by
      left
      have hs := nth_lt (t := T49) (xs := a0[i].2.2.2.2.1) hj
      have hwj := wf_cl (w2 a0[i].2.2.2.2.1[j] (List.getElem_mem _))
      refine ⟨_, rfl, ?_⟩
      subst hP
      simp only [f4_l3]
      rw [hn, hs, if_pos (by rw [decide_eq_true_eq]; omega), if_pos (by omega), w64_succ (i := j) (by omega)]
      by_cases hin : a0[i].1 ∈ a1
      · have hin2 : a0[i].1 ∈ a1 ++ [a2] := List.mem_append_left _ hin
        obtain ⟨l1, q1⟩ := sg_at (c := a1) hi hin hj
        obtain ⟨l2, q2⟩ := sg_at (c := a1 ++ [a2]) hi hin2 hj
        rw [hA] at l1 q1
        rw [hB] at l2 q2
        simp only [if_pos hin, if_pos hin2, decide_eq_true hin, if_true]
        rw [nth_q (t := T53) q1, nth_q (t := T53) q2]
        rw [if_neg (by rw [decide_eq_true_eq]; omega), if_pos (by omega), if_neg (by simp [sgt]), if_neg (by simp [sgt, eq28]), if_neg (by simp [sgt]), if_neg (by simp [sgt])]
        simp only [sgt]
        rw [e18 _ (by omega), bs, if_neg (by simp), e18 _ (by omega), bs, bs, if_neg (by simp), bs]
        simp only [bs]
        rw [if_pos trivial, if_neg (by rw [decide_eq_true_eq]; omega), if_pos (by omega), if_neg (by simp), bs, if_neg (by simp [eq28]), bs]
        simp only [bs]
        rw [w64_succ (by omega), w64_succ (by omega), Nat.add_assoc, Nat.add_assoc]
      · simp only [if_neg hin, decide_eq_false hin, Bool.false_eq_true, if_false, bs]
        by_cases he : a0[i].1 = a2
        · have hin2 : a0[i].1 ∈ a1 ++ [a2] := List.mem_append_right _ (by rw [he]; exact List.mem_singleton.2 rfl)
          obtain ⟨l2, q2⟩ := sg_at (c := a1 ++ [a2]) hi hin2 hj
          rw [hB] at l2 q2
          simp only [if_pos hin2]
          rw [nth_q (t := T53) q2, if_pos (by rw [decide_eq_true_eq]; exact he), if_neg (by rw [decide_eq_true_eq]; omega), if_pos (by omega), if_neg (by simp [sgt]), bs, if_neg (by simp [sgt, eq28]), bs]
          simp only [bs]
          rw [w64_succ (by omega), Nat.add_assoc]
        · have hin2 : ¬ a0[i].1 ∈ a1 ++ [a2] := fun hh => by
            rcases List.mem_append.1 hh with hh | hh
            · exact hin hh
            · exact he (List.mem_singleton.1 hh)
          simp only [if_neg hin2]
          rw [if_neg (by rw [decide_eq_true_eq]; exact he), bs])
    (fun n s hP => by
      subst hP
      simp only [f4_l3]
      rw [hn, if_neg (by rw [decide_eq_true_eq]; omega), end1, end2]
      exact ⟨_, rfl, rfl⟩) (a0[i].2.2.2.2.1.length + 1) 0 ((A : Int), (B : Int)) (Nat.zero_le _) (by omega) (by simp)
  rw [hr] at e
  exact e

theorem pl4 (a0 : List D32) (a1 : List Int) (a2 : Int) (h0 : wf (.slice 128 T32) a0) (h1 : wf (.slice 8 (.int .i64)) a1) (_h2 : wf (.int .i64) a2) : f4 a0 a1 a2 = some true := by
  have hm := maxB_eq
  obtain ⟨_, l0, w0⟩ := h0
  obtain ⟨l1b, l1, _⟩ := h1
  obtain ⟨b, hb, hb2⟩ := t6 a0 l0 w0
  unfold f4 f5
  rw [bs, if_neg (by simp), hb, bs]
  cases b with
  | false => rfl
  | true =>
    obtain ⟨g1, g2⟩ := hb2 rfl
    rw [if_neg (by simp)]
    by_cases hc : (12 : Int) < (a1.length : Int)
    · rw [decide_eq_true hc]; rfl
    · rw [decide_eq_false hc]
      simp only [bs, Bool.false_eq_true, if_false]
      have ha : (a1 ++ [a2]).length ≤ maxB := by rw [List.length_append, List.length_singleton]; omega
      rw [e16 a0 a1 g1 l1 w0 g2, bs, if_pos (by simpa using l1b), if_pos (by simp only [List.length_cons, List.length_nil]; omega), e16 a0 (a1 ++ [a2]) g1 ha w0 g2, bs]
      obtain ⟨r, hr, e⟩ := loopU (fun i (s : Int × Int) => s = ((((sg a1 (a0.take i)).length : Nat) : Int), (((sg (a1 ++ [a2]) (a0.take i)).length : Nat) : Int)))
        (fun r => r = Ctl.brk ((((sg a1 a0).length : Nat) : Int), (((sg (a1 ++ [a2]) a0).length : Nat) : Int)))
        (fun n i s => f4_l1 a0 a1 a2 (sg a1 a0) (sg (a1 ++ [a2]) a0) n s.1 s.2 i) a0.length
        (fun n i s hi hP => by
          left
          refine ⟨_, rfl, ?_⟩
          subst hP
          have hn : nth T32 a0 (i : Int) = a0[i] := nth_lt (t := T32) hi
          simp only [f4_l1]
          rw [if_pos (by rw [decide_eq_true_eq]; omega), if_pos (by omega), e4_l2 a0 a1 a2 _ _ _ _ i hi l1, bs, hn, e4_l3 a0 a1 a2 i hi g1 w0 g2, bs]
          simp only [bs]
          rw [w64_succ (by omega)])
        (fun n s hP => by
          subst hP
          simp only [f4_l1]
          rw [if_neg (by rw [decide_eq_true_eq]; omega), List.take_length]
          exact ⟨_, rfl, rfl⟩) (a0.length + 1) 0 (0, 0) (Nat.zero_le _) (by omega) (by simp [sg])
      rw [hr] at e
      have e : f4_l1 a0 a1 a2 (sg a1 a0) (sg (a1 ++ [a2]) a0) (a0.length + 1) 0 0 0 = some (.brk ((((sg a1 a0).length : Nat) : Int), (((sg (a1 ++ [a2]) a0).length : Nat) : Int))) := e
      rw [e, bs]
      simp

end Go.Proofs.YtjabllhapfphoaaGreatDoor
