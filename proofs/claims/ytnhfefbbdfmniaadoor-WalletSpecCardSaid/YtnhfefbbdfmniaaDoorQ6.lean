/- WalletOffers: the law over the printed functions. No condition beyond what each theorem states. -/
import Derived.Test.YtnhfefbbdfmniaaDoorQ5
namespace Go.Proofs.YtnhfefbbdfmniaaDoor
open Go.Abs

theorem pw_ix {ys : List Int} (h : ys.Pairwise (· < ·)) : ∀ i j : Nat, i < j → j < ys.length → ix ys (i : Int) < ix ys (j : Int) := by
  intro i j hij hj
  rw [ix_lt (show i < ys.length by omega), ix_lt hj]
  exact (List.pairwise_iff_getElem.1 h) i j (by omega) hj hij

/-- what the law needs of the answer -/
structure Good (held : List D55) (a : Int) (os : List D57) (xs : List Int) : Prop where
  len : os.length = xs.length
  le8 : os.length ≤ 8
  inc : ∀ i j : Nat, i < j → j < xs.length → ix xs (i : Int) < ix xs (j : Int)
  mem : ∀ p : Nat, p < xs.length → 0 ≤ ix xs (p : Int) ∧ ix xs (p : Int) < (held.length : Int)
  ok : ∀ p : Nat, p < xs.length → okB (nth T55 held (ix xs (p : Int))) a = true
  made : ∀ p : Nat, p < os.length → Made (nth T57 os (p : Int)) (nth T55 held (ix xs (p : Int)))
  nod : ∀ p q : Nat, p < q → q < os.length → ¬ ((nth T57 os (p : Int)).1 = (nth T57 os (q : Int)).1 ∧ (nth T57 os (p : Int)).2.2.1 = (nth T57 os (q : Int)).2.2.1)
  cov : ∀ i : Nat, i < held.length → okB (nth T55 held (i : Int)) a = true →
    (∃ p : Nat, p < os.length ∧ hit (nth T57 os (p : Int)) (nth T55 held (i : Int)).1 = true ∧ ix xs (p : Int) ≤ (i : Int)) ∨ (os.length = 8 ∧ ∀ p : Nat, p < xs.length → ix xs (p : Int) ≤ (i : Int))

theorem e11 (a0 : D23) (a : Int) (hs : Small a0.2.2.1) : ∃ r, Good a0.2.2.1 a r.1 r.2 ∧ f11 a0 a = some r := by
  obtain ⟨ys, ⟨y1, y2, y3⟩, e⟩ := e28 a0.2.2.1 a hs.1
  have hsort := pw_ix y2
  have hin : ∀ i : Nat, i < ys.length → ∃ j : Nat, ix ys (i : Int) = (j : Int) ∧ j < a0.2.2.1.length ∧ okB (nth T55 a0.2.2.1 (j : Int)) a = true := by
    intro i hi
    rw [ix_lt hi]
    exact (y3 _).1 (List.getElem_mem hi)
  obtain ⟨r, ⟨k, I, hk, hk2⟩, e2⟩ := e11_l1 a0 hs ys y1 hsort (by
    intro i hi
    obtain ⟨j, e, hj, _⟩ := hin i hi
    omega)
  refine ⟨r, ?_, by unfold f11; rw [e, bs, e2, bs]⟩
  have hx : ∀ p : Nat, p < r.2.length → ∃ q : Nat, q < k ∧ ix r.2 (p : Int) = ix ys (q : Int) := by
    intro p hp
    rw [ix_lt hp]
    exact I.mem _ (List.getElem_mem hp)
  refine ⟨I.len, I.le8, pw_ix I.sub, ?_, ?_, I.made, I.nod, ?_⟩
  · intro p hp
    obtain ⟨q, hq, e⟩ := hx p hp
    obtain ⟨j, e', hj, _⟩ := hin q (by omega)
    omega
  · intro p hp
    obtain ⟨q, hq, e⟩ := hx p hp
    obtain ⟨j, e', hj, ho⟩ := hin q (by omega)
    rw [e, e']; exact ho
  · intro i hi ho
    have hm : (i : Int) ∈ ys := (y3 _).2 ⟨i, rfl, hi, ho⟩
    obtain ⟨j, hj, ej⟩ := List.getElem_of_mem hm
    have ej' : ix ys (j : Int) = (i : Int) := by rw [ix_lt hj]; exact ej
    by_cases hjk : j < k
    · left
      obtain ⟨p, hp, h1, h2⟩ := I.cov j hjk
      rw [ej'] at h1 h2
      exact ⟨p, hp, h1, h2⟩
    · right
      refine ⟨by omega, ?_⟩
      intro p hp
      obtain ⟨q, hq, e⟩ := hx p hp
      have := hsort q j (by omega) hj
      omega

theorem e5_l2 (a0 : D23) (a1 : Int) (y5 : (List D57) × (List Int)) (u : Int) (k : Nat) (hU : Up k (nth T57 y5.1 u).2.1) (hk : k ≤ 4611686018427387904) :
    f5_l2 a0 a1 y5 u ((nth T57 y5.1 u).2.1.length + 1) 0 = some (.brk ()) := by
  have hl := hU.1
  have h := loopU (σ := Unit) (fun _ _ => True) (fun (r : Ctl Unit Bool) => r = .brk ()) (fun n i _ => f5_l2 a0 a1 y5 u n i) (nth T57 y5.1 u).2.1.length
    (by
      intro n i s hi _
      left
      refine ⟨(), trivial, ?_⟩
      have e := hU.2 i (by omega)
      simp only [f5_l2, w64_succ (show i ≤ _ by omega), e]
      rw [if_pos (by simp; omega), if_pos (by omega), if_neg (by simp)])
    (by intro n s _; exact ⟨.brk (), rfl, by simp [f5_l2]⟩) ((nth T57 y5.1 u).2.1.length + 1) 0 () (by omega) (by omega) trivial
  obtain ⟨r, hr, e⟩ := h
  rw [hr] at e
  exact e

theorem okB_iff (h : D55) (a : Int) : okB h a = true ↔ h.2.2.1 = a ∧ h.2.2.2.1 = 0 := by simp [okB]

theorem e5_l1 (a0 : D23) (a1 : Int) (y5 : (List D57) × (List Int)) (hs : Small a0.2.2.1) (g : Good a0.2.2.1 a1 y5.1 y5.2) :
    f5_l1 a0 a1 y5 (y5.2.length + 1) 0 = some (.brk ()) := by
  have ll := g.len
  have l8 := g.le8
  have h := loopU (σ := Unit) (fun _ _ => True) (fun (r : Ctl Unit Bool) => r = .brk ()) (fun n i _ => f5_l1 a0 a1 y5 n i) y5.2.length
    (by
      intro n i s hi _
      left
      refine ⟨(), trivial, ?_⟩
      have hx := g.mem i hi
      have hok := (okB_iff _ _).1 (g.ok i hi)
      have hmd := g.made i (by omega)
      have hh := (hit_iff _ _).1 hmd.1
      have hup := hmd.2
      obtain ⟨k, hk⟩ : ∃ k : Nat, ix y5.2 (i : Int) = (k : Int) := ⟨(ix y5.2 (i : Int)).toNat, by omega⟩
      have hkl : k < a0.2.2.1.length := by omega
      have hsz := hs.2 _ (List.getElem_mem hkl)
      rw [← nth_lt (t := T55) hkl, ← hk] at hsz
      have hlen : (nth T55 a0.2.2.1 (ix y5.2 (i : Int))).1.2.2.2.2.2.1.length ≤ 4611686018427387904 := by
        have := hsz.2
        simp only [maxB] at this; omega
      have e2 := e5_l2 a0 a1 y5 i _ hup hlen
      have e3 : f19 (nth T57 y5.1 (i : Int)).2.2.1 (nth T55 a0.2.2.1 (ix y5.2 (i : Int))).1.2.2.2.2.2.1 = some true := by
        rw [e19 _ _ (by rw [hh.2]; exact hlen), hh.2]; simp
      have hul : (nth T57 y5.1 (i : Int)).2.1.length = (nth T57 y5.1 (i : Int)).2.2.1.length := by rw [hup.1, hh.2]
      simp only [f5_l1, w64_succ (show i ≤ _ by omega)]
      rw [if_pos (by simp; omega), if_pos (by omega)]
      have c1 : ¬ ((decide (ix y5.2 (i : Int) < (0 : Int))) = true) := by rw [decide_eq_true_eq]; omega
      have c2 : ¬ ((decide ((List.length a0.2.2.1 : Int) ≤ ix y5.2 (i : Int))) = true) := by rw [decide_eq_true_eq]; omega
      have c3 : (if (decide ((0 : Int) < (i : Int))) = true then (if 0 ≤ (w64 ((i : Int) - (1 : Int))) ∧ (w64 ((i : Int) - (1 : Int))) < (List.length y5.2 : Int) then (some (decide ((nth (.int .i64) y5.2 (i : Int)) ≤ (nth (.int .i64) y5.2 (w64 ((i : Int) - (1 : Int))))))) else none) else (some false)) = some false := by
        cases i with
        | zero => rw [if_neg (by simp)]
        | succ m =>
          have ew : w64 (((m + 1 : Nat) : Int) - 1) = (m : Int) := by rw [w64_id (by omega) (by omega)]; omega
          have := g.inc m (m + 1) (by omega) hi
          rw [if_pos (by rw [decide_eq_true_eq]; omega), ew, if_pos (by omega)]
          congr 1
          rw [decide_eq_false_iff_not]
          exact Int.not_le.2 this
      rw [if_neg c1, if_neg c2, c3, bs]
      simp only [Bool.false_eq_true, if_false, bs]
      rw [if_pos hx]
      have c4 : ¬ ((!decide ((nth T55 a0.2.2.1 (ix y5.2 (i : Int))).2.2.1 = a1)) = true) := by simp [hok.1]
      have c5 : ¬ ((!decide ((nth T55 a0.2.2.1 (ix y5.2 (i : Int))).2.2.2.1 = (0 : Int))) = true) := by simp [hok.2]
      have c6 : ¬ ((!decide ((nth T57 y5.1 (i : Int)).1 = (nth T55 a0.2.2.1 (ix y5.2 (i : Int))).1.2.2.1)) = true) := by simp [hh.1]
      rw [if_neg c4, if_neg c5, if_pos (by omega), if_neg c6, e3, bs]
      rw [hul] at e2
      rw [if_neg (by simp), bs, hul, if_neg (by simp), bs]
      simp only []
      rw [if_pos (by omega), e2, bs]
      simp only [bs])
    (by intro n s _; exact ⟨.brk (), rfl, by simp [f5_l1]⟩) (y5.2.length + 1) 0 () (by omega) (by omega) trivial
  obtain ⟨r, hr, e⟩ := h
  rw [hr] at e
  exact e

theorem e5_l4 (a0 : D23) (a1 : Int) (y5 : (List D57) × (List Int)) (hs : Small a0.2.2.1) (g : Good a0.2.2.1 a1 y5.1 y5.2) (u : Nat) :
    ∃ r : Int × Bool, ((r.1 = 0 ∧ ∀ m : Nat, m < y5.1.length → hit (nth T57 y5.1 (m : Int)) (nth T55 a0.2.2.1 (u : Int)).1 = false) ∨
      (r.1 = 1 ∧ ∃ m : Nat, m < y5.1.length ∧ hit (nth T57 y5.1 (m : Int)) (nth T55 a0.2.2.1 (u : Int)).1 = true ∧ r.2 = decide (ix y5.2 (m : Int) ≤ (u : Int)))) ∧
    f5_l4 a0 a1 y5 (u : Int) (y5.1.length + 1) 0 false 0 = some r := by
  have ll := g.len
  have l8 := g.le8
  have h := loopU (σ := Int × Bool) (fun i s => (s.1 = 0 ∧ ∀ m : Nat, m < i → hit (nth T57 y5.1 (m : Int)) (nth T55 a0.2.2.1 (u : Int)).1 = false) ∨
      (s.1 = 1 ∧ ∃ m : Nat, m < i ∧ hit (nth T57 y5.1 (m : Int)) (nth T55 a0.2.2.1 (u : Int)).1 = true ∧ s.2 = decide (ix y5.2 (m : Int) ≤ (u : Int))))
      (fun (s : Int × Bool) => (s.1 = 0 ∧ ∀ m : Nat, m < y5.1.length → hit (nth T57 y5.1 (m : Int)) (nth T55 a0.2.2.1 (u : Int)).1 = false) ∨
      (s.1 = 1 ∧ ∃ m : Nat, m < y5.1.length ∧ hit (nth T57 y5.1 (m : Int)) (nth T55 a0.2.2.1 (u : Int)).1 = true ∧ s.2 = decide (ix y5.2 (m : Int) ≤ (u : Int)))) (fun n i s => f5_l4 a0 a1 y5 u n s.1 s.2 i) y5.1.length
    (by
      intro n i s hi hP
      left
      have hx := g.mem i (by omega)
      have hmd := g.made i hi
      have hh := (hit_iff _ _).1 hmd.1
      obtain ⟨k, hk⟩ : ∃ k : Nat, ix y5.2 (i : Int) = (k : Int) := ⟨(ix y5.2 (i : Int)).toNat, by omega⟩
      have hkl : k < a0.2.2.1.length := by omega
      have hsz := hs.2 _ (List.getElem_mem hkl)
      rw [← nth_lt (t := T55) hkl, ← hk] at hsz
      have hlen : (nth T57 y5.1 (i : Int)).2.2.1.length ≤ 4611686018427387904 := by
        have := hsz.2
        rw [hh.2]
        simp only [maxB] at this; omega
      have e3 := e19 (nth T57 y5.1 (i : Int)).2.2.1 (nth T55 a0.2.2.1 (u : Int)).1.2.2.2.2.2.1 hlen
      have e4 : (if (decide ((nth T57 y5.1 (i : Int)).1 = (nth T55 a0.2.2.1 (u : Int)).1.2.2.1)) = true then (Option.bind (f19 (nth T57 y5.1 (i : Int)).2.2.1 (nth T55 a0.2.2.1 (u : Int)).1.2.2.2.2.2.1) fun y61 => some y61) else (some false)) = some (hit (nth T57 y5.1 (i : Int)) (nth T55 a0.2.2.1 (u : Int)).1) := by
        rw [e3, bs]
        unfold hit
        by_cases h1 : (nth T57 y5.1 (i : Int)).1 = (nth T55 a0.2.2.1 (u : Int)).1.2.2.1 <;> simp [h1]
      simp only [f5_l4, w64_succ (show i ≤ _ by omega)]
      rw [if_pos (by rw [decide_eq_true_eq]; omega), if_pos (by omega), e4, bs]
      by_cases hb : hit (nth T57 y5.1 (i : Int)) (nth T55 a0.2.2.1 (u : Int)).1 = true
      · rw [if_pos hb, if_pos (by omega), bs]
        rcases hP with ⟨h0, h1⟩ | ⟨h0, m, hm, h1, h2⟩
        · refine ⟨(w64 (s.1 + 1), decide (ix y5.2 (i : Int) ≤ (u : Int))), ?_, rfl⟩
          right
          refine ⟨by rw [h0]; exact w1, i, by omega, hb, rfl⟩
        · exfalso
          have q1 := (hit_iff _ _).1 h1
          have q2 := (hit_iff _ _).1 hb
          exact g.nod m i hm hi ⟨q1.1.trans q2.1.symm, q1.2.trans q2.2.symm⟩
      · rw [if_neg hb, bs]
        refine ⟨(s.1, s.2), ?_, rfl⟩
        rcases hP with ⟨h0, h1⟩ | ⟨h0, m, hm, h1, h2⟩
        · left
          refine ⟨h0, ?_⟩
          intro m hm
          by_cases hmi : m = i
          · subst hmi; simpa using hb
          · exact h1 m (by omega)
        · right
          exact ⟨h0, m, by omega, h1, h2⟩)
    (by intro n s hP; exact ⟨s, hP, by simp [f5_l4]⟩) (y5.1.length + 1) 0 (0, false) (by omega) (by omega) (Or.inl ⟨rfl, by intro m hm; omega⟩)
  exact h

theorem e5_l3 (a0 : D23) (a1 : Int) (y5 : (List D57) × (List Int)) (hs : Small a0.2.2.1) (g : Good a0.2.2.1 a1 y5.1 y5.2) :
    f5_l3 a0 a1 y5 (a0.2.2.1.length + 1) 0 = some (.brk ()) := by
  have ll := g.len
  have l8 := g.le8
  have hm := hs.1
  simp only [maxB] at hm
  have h := loopU (σ := Unit) (fun _ _ => True) (fun (r : Ctl Unit Bool) => r = .brk ()) (fun n i _ => f5_l3 a0 a1 y5 n i) a0.2.2.1.length
    (by
      intro n i s hi _
      left
      refine ⟨(), trivial, ?_⟩
      have e0 : (if (!decide ((nth T55 a0.2.2.1 (i : Int)).2.2.1 = a1)) = true then (some true) else (some (!decide ((nth T55 a0.2.2.1 (i : Int)).2.2.2.1 = (0 : Int))))) = some (!okB (nth T55 a0.2.2.1 (i : Int)) a1) := by
        unfold okB
        by_cases h1 : (nth T55 a0.2.2.1 (i : Int)).2.2.1 = a1 <;> simp [h1]
      simp only [f5_l3, w64_succ (show i ≤ _ by omega)]
      rw [if_pos (by rw [decide_eq_true_eq]; omega), if_pos (by omega), e0, bs]
      by_cases hok : okB (nth T55 a0.2.2.1 (i : Int)) a1 = true
      · rw [if_neg (by simp [hok]), bs]
        simp only []
        obtain ⟨r, hr, e4⟩ := e5_l4 a0 a1 y5 hs g i
        rw [e4, bs]
        have hc := g.cov i hi hok
        have e5 : (if (decide ((1 : Int) < r.1)) = true then (some true) else (if (decide (r.1 = (1 : Int))) = true then (if (!r.2) = true then (some true) else (if (decide (r.1 = (0 : Int))) = true then (some (decide ((List.length y5.1 : Int) < (8 : Int)))) else (some false))) else (if (decide (r.1 = (0 : Int))) = true then (some (decide ((List.length y5.1 : Int) < (8 : Int)))) else (some false)))) = some false := by
          rcases hr with ⟨h0, h1⟩ | ⟨h0, m, hm, h1, h2⟩
          · have h8 : y5.1.length = 8 := by
              rcases hc with ⟨p, hp, hh, _⟩ | h
              · rw [h1 p hp] at hh; cases hh
              · exact h.1
            rw [h0, h8]; simp
          · have hle : ix y5.2 (m : Int) ≤ (i : Int) := by
              rcases hc with ⟨p, hp, hh, hle⟩ | h
              · have q1 := (hit_iff _ _).1 h1
                have q2 := (hit_iff _ _).1 hh
                by_cases hpm : p = m
                · subst hpm; exact hle
                · exfalso
                  by_cases hlt : p < m
                  · exact g.nod p m hlt hm ⟨q2.1.trans q1.1.symm, q2.2.trans q1.2.symm⟩
                  · exact g.nod m p (by omega) hp ⟨q1.1.trans q2.1.symm, q1.2.trans q2.2.symm⟩
              · exact h.2 m (by omega)
            rw [h0, h2, decide_eq_true hle]; simp
        rw [e5, bs, if_neg (by simp), bs]
      · rw [if_pos (by simp [hok]), bs]
        simp only [bs])
    (by intro n s _; exact ⟨.brk (), rfl, by simp [f5_l3]⟩) (a0.2.2.1.length + 1) 0 () (by omega) (by omega) trivial
  obtain ⟨r, hr, e⟩ := h
  rw [hr] at e
  exact e

theorem small_of_wf (a0 : D23) (h0 : wf T23 a0) : Small a0.2.2.1 := by
  obtain ⟨_, _, ⟨h1, _, h2⟩, _⟩ := h0
  refine ⟨h1, ?_⟩
  intro h hh
  obtain ⟨⟨_, _, _, _, _, hv, _, hc, _⟩, _⟩ := h2 h hh
  exact ⟨hc.2.1, hv.1⟩

theorem pl5 (a0 : D23) (a1 : Int) (h0 : wf T23 a0) (_h1 : wf (.int .i64) a1) : f5 a0 a1 = some true := by
  have hs := small_of_wf a0 h0
  unfold f5
  rw [e7, bs, if_neg (by simp)]
  obtain ⟨b, eb⟩ := t8 a0 hs
  rw [eb, bs]
  cases b with
  | false => rfl
  | true =>
    rw [if_neg (by simp)]
    obtain ⟨r, g, er⟩ := e11 a0 a1 hs
    have ll := g.len
    have l8 := g.le8
    rw [er, bs, if_neg (by simp [ll]), bs, if_neg (by rw [decide_eq_true_eq]; omega), bs]
    simp only []
    rw [e5_l1 a0 a1 r hs g, bs]
    simp only []
    rw [e5_l3 a0 a1 r hs g, bs]

end Go.Proofs.YtnhfefbbdfmniaaDoor
