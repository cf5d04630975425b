/- ViewsSeen's printed function answers true. No condition beyond what each theorem states. -/
import Derived.Test.YtjabllhapfphoaaGreatDoorV1
namespace Go.Proofs.YtjabllhapfphoaaGreatDoor
open Go.Abs

/-- what is seen of a copy that is shown -/
def sgt (p : D32) (s : D49) : D53 := (p.1, (s.2.2.2.2.2.2.2.2.1, ((p.2.1, (s.2.1, (s.2.2.2.2.2.1, (s.2.2.2.2.2.2.1, ())))), ())))
/-- what a coalition has seen -/
def blkS (c : List Int) (p : D32) : List D53 := if p.1 ∈ c then p.2.2.2.2.1.map (sgt p) else []
def sg (c : List Int) (l : List D32) : List D53 := (l.map (blkS c)).flatten

theorem sg_app (c : List Int) (l m : List D32) : sg c (l ++ m) = sg c l ++ sg c m := by simp [sg]
theorem sg_one (c : List Int) (p : D32) : sg c [p] = blkS c p := by simp [sg]
theorem sg_take {c : List Int} {l : List D32} {i : Nat} (h : i < l.length) : sg c (l.take (i + 1)) = sg c (l.take i) ++ blkS c l[i] := by
  rw [List.take_succ_eq_append_getElem h, sg_app, sg_one]

theorem blkS_len (c : List Int) (p : D32) : (blkS c p).length = if p.1 ∈ c then p.2.2.2.2.1.length else 0 := by
  unfold blkS; split <;> simp

theorem sg_len (c : List Int) : ∀ l : List D32, (∀ p ∈ l, p.2.2.2.2.1.length ≤ 6) → (sg c l).length ≤ 6 * l.length
  | [], _ => by simp [sg]
  | p :: l, h => by
    have h1 := sg_len c l (fun q hq => h q (List.mem_cons_of_mem _ hq))
    have h2 := h p (List.mem_cons_self ..)
    have e : sg c (p :: l) = blkS c p ++ sg c l := by simp [sg]
    rw [e, List.length_append, blkS_len, List.length_cons]
    split <;> omega

theorem sg_at {c : List Int} {l : List D32} {i : Nat} (hi : i < l.length) (hc : l[i].1 ∈ c) {j : Nat} (hj : j < l[i].2.2.2.2.1.length) :
    (sg c (l.take i)).length + j < (sg c l).length ∧ (sg c l)[(sg c (l.take i)).length + j]? = some (sgt l[i] l[i].2.2.2.2.1[j]) := by
  have e : sg c l = sg c (l.take i) ++ (blkS c l[i] ++ sg c (l.drop (i + 1))) := by
    rw [← sg_one, ← sg_app, ← sg_app, List.singleton_append, List.getElem_cons_drop, List.take_append_drop]
  have eb : blkS c l[i] = l[i].2.2.2.2.1.map (sgt l[i]) := by unfold blkS; rw [if_pos hc]
  have : (sg c l)[(sg c (l.take i)).length + j]? = some (sgt l[i] l[i].2.2.2.2.1[j]) := by
    rw [e, List.getElem?_append_right (by omega), Nat.add_sub_cancel_left, List.getElem?_append_left (by rw [eb]; simpa using hj), eb]
    simp [hj]
  exact ⟨(List.getElem?_eq_some_iff.1 this).1, this⟩

theorem nth_q {t : Ty} {xs : List t.den} {i : Nat} {y : t.den} (h : xs[i]? = some y) : nth t xs (i : Int) = y := by
  simp [nth, List.getD, h]

/-- whether a number is in a list -/
theorem e71 (c : List Int) (v : Int) (h : c.length ≤ maxB) : f71 c v = some (decide (v ∈ c)) := by
  have hm := maxB_eq
  obtain ⟨r, hr, e⟩ := loopU (σ := Unit) (fun i _ => v ∉ c.take i) (fun r : Ctl Unit Int => (∃ u, r = .brk u ∧ v ∉ c) ∨ (∃ j : Nat, r = .ret (j : Int) ∧ v ∈ c)) (fun n i _ => f132_l1 c v n i) c.length
    (fun n i s hi hP => by
      simp only [f132_l1]
      rw [if_pos (by rw [decide_eq_true_eq]; omega), if_pos (by omega), nth_lt (t := .int .i64) hi]
      by_cases hv : v = c[i]
      · right
        rw [if_pos (by rw [decide_eq_true_eq]; exact hv)]
        exact ⟨_, Or.inr ⟨i, rfl, by rw [hv]; exact List.getElem_mem _⟩, rfl⟩
      · left
        rw [if_neg (by rw [decide_eq_true_eq]; exact hv)]
        refine ⟨(), ?_, by rw [w64_succ (by omega)]⟩
        rw [List.take_succ_eq_append_getElem hi]
        intro hmem
        rcases List.mem_append.1 hmem with h1 | h1
        · exact hP h1
        · exact hv (List.mem_singleton.1 h1))
    (fun n s hP => by
      simp only [f132_l1]
      rw [if_neg (by rw [decide_eq_true_eq]; omega)]
      exact ⟨_, Or.inl ⟨(), rfl, by rw [List.take_length] at hP; exact hP⟩, rfl⟩) (c.length + 1) 0 () (Nat.zero_le _) (by omega) (by simp)
  have e : f132_l1 c v (c.length + 1) 0 = some r := e
  unfold f71 f132
  rw [e, bs]
  rcases hr with ⟨u, rfl, hn⟩ | ⟨j, rfl, hy⟩
  · simp only [bs]
    congr 1
    rw [decide_eq_false hn]; rfl
  · simp only [bs]
    congr 1
    rw [decide_eq_true hy]
    exact decide_eq_true (Int.natCast_nonneg j)

theorem e30 (l : List Int) (h : l.length * 8 ≤ maxB) : f30 l = some l := by
  unfold f30
  rw [if_pos (by simpa using h)]

/-- the copies that a presentation shows -/
theorem e70_l2 (a0 : List D32) (a1 : List Int) (i : Nat) (hi : i < a0.length) (hw : wf T32 a0[i]) (acc : List D53) (hb : (acc.length + a0[i].2.2.2.2.1.length) * 104 ≤ maxB) :
    f70_s1_l2 a0 a1 f69_s1_b1 (i : Int) (a0[i].2.2.2.2.1.length + 1) 0 acc = some (.brk (acc ++ a0[i].2.2.2.2.1.map (sgt a0[i]))) := by
  have hm := maxB_eq
  obtain ⟨h1, h2, _⟩ := wf_few hw
  have hn : nth T32 a0 (i : Int) = a0[i] := nth_lt (t := T32) hi
  obtain ⟨r, hr, e⟩ := loopU (fun j s => s = acc ++ (a0[i].2.2.2.2.1.take j).map (sgt a0[i])) (fun r => r = Ctl.brk (acc ++ a0[i].2.2.2.2.1.map (sgt a0[i]))) (fun n j s => f70_s1_l2 a0 a1 f69_s1_b1 (i : Int) n j s) a0[i].2.2.2.2.1.length
    (fun n j s hj hP => by
      left
      have hs := nth_lt (t := T49) (xs := a0[i].2.2.2.2.1) hj
      have hwj := wf_cl (h2 a0[i].2.2.2.2.1[j] (List.getElem_mem _))
      refine ⟨acc ++ (a0[i].2.2.2.2.1.take (j + 1)).map (sgt a0[i]), rfl, ?_⟩
      simp only [f70_s1_l2]
      rw [hn, if_pos (by rw [decide_eq_true_eq]; omega), if_pos (by omega), hs, e30 _ hwj.2.1, bs, e30 _ hwj.2.2, bs]
      unfold f69_s1_b1
      have hlen : s.length = acc.length + j := by rw [hP]; simp; omega
      rw [if_pos (by
        show (List.length s + 1) * 104 ≤ maxB
        rw [hlen]; omega), bs]
      simp only []
      rw [w64_succ (by omega), hP, List.take_succ_eq_append_getElem hj, List.map_append, List.append_assoc]
      rfl)
    (fun n s hP => by
      simp only [f70_s1_l2]
      rw [hn, if_neg (by rw [decide_eq_true_eq]; omega)]
      exact ⟨_, by rw [hP, List.take_length], rfl⟩) (a0[i].2.2.2.2.1.length + 1) 0 acc (Nat.zero_le _) (by omega) (by simp)
  rw [hr] at e
  exact e

/-- what Seen gives -/
theorem e16 (a0 : List D32) (c : List Int) (hl : a0.length ≤ 8) (hc : c.length ≤ maxB) (hw : ∀ p ∈ a0, wf T32 p) (h6 : ∀ p ∈ a0, p.2.2.2.2.1.length ≤ 6) : f16 a0 c = some (sg c a0) := by
  have hm := maxB_eq
  obtain ⟨r, hr, e⟩ := loopU (fun i s => s = sg c (a0.take i)) (fun r => r = Ctl.brk (sg c a0)) (fun n i s => f70_s1_l1 a0 c f69_s1_b1 n i s) a0.length
    (fun n i s hi hP => by
      left
      refine ⟨sg c (a0.take (i + 1)), rfl, ?_⟩
      have hn : nth T32 a0 (i : Int) = a0[i] := nth_lt (t := T32) hi
      have hmem : a0[i] ∈ a0 := List.getElem_mem _
      simp only [f70_s1_l1]
      rw [if_pos (by rw [decide_eq_true_eq]; omega), if_pos (by omega), hn, e71 c _ hc, bs, w64_succ (by omega)]
      by_cases hin : a0[i].1 ∈ c
      · have hsl : s.length ≤ 48 := by
          rw [hP]
          have := sg_len c (a0.take i) (fun p hp => h6 p (List.mem_of_mem_take hp))
          rw [List.length_take] at this
          omega
        have h6i := h6 _ hmem
        rw [if_neg (by rw [decide_eq_true hin]; simp), e70_l2 a0 c i hi (hw _ hmem) s (by omega), bs]
        simp only [bs]
        rw [sg_take hi, ← hP]
        unfold blkS
        rw [if_pos hin]
      · rw [if_pos (by rw [decide_eq_false hin]; simp)]
        simp only [bs]
        rw [sg_take hi, ← hP]
        unfold blkS
        rw [if_neg hin, List.append_nil])
    (fun n s hP => by
      simp only [f70_s1_l1]
      rw [if_neg (by rw [decide_eq_true_eq]; omega)]
      exact ⟨_, by rw [hP, List.take_length], rfl⟩) (a0.length + 1) 0 [] (Nat.zero_le _) (by omega) (by simp [sg])
  rw [hr] at e
  have e : f70_s1_l1 a0 c f69_s1_b1 (a0.length + 1) 0 [] = some (.brk (sg c a0)) := e
  unfold f16 f39_s1 f38_s1 f69_s1 f70_s1
  simp only [bs]
  rw [e, bs]
  simp only [bs]
  rfl

/-- equal rows -/
theorem e18 (l : List Int) (h : l.length ≤ maxB) : f18 l l = some true := by
  have hm := maxB_eq
  obtain ⟨r, hr, e⟩ := loopU (σ := Unit) (fun _ _ => True) (fun r : Ctl Unit Bool => ∃ u, r = .brk u) (fun n i _ => f18_l1 l l n i) l.length
    (fun n i s hi _ => by
      left
      refine ⟨(), trivial, ?_⟩
      simp only [f18_l1]
      rw [if_pos (by rw [decide_eq_true_eq]; omega), if_pos (by omega), if_pos (by omega), if_neg (by simp), w64_succ (by omega)])
    (fun n s _ => by
      simp only [f18_l1]
      rw [if_neg (by rw [decide_eq_true_eq]; omega)]
      exact ⟨_, ⟨(), rfl⟩, rfl⟩) big 0 () (Nat.zero_le _) (by simp only [big]; omega) trivial
  have e : f18_l1 l l big 0 = some r := e
  obtain ⟨u, rfl⟩ := hr
  unfold f18
  rw [if_neg (by simp), e, bs]

end Go.Proofs.YtjabllhapfphoaaGreatDoor
