/- wallet.Offers: the whole. No condition beyond what each theorem states. -/
import Derived.Test.YtnhfefbbdfmniaaDoorQ4
namespace Go.Proofs.YtnhfefbbdfmniaaDoor
open Go.Abs

/-- the names of an offer: 0, 1, .. -/
def Up (k : Nat) (s : List Int) : Prop := s.length = k ∧ ∀ j : Nat, j < k → nth (.int .i64) s (j : Int) = (j : Int)

theorem Up.snoc {k : Nat} {s : List Int} (h : Up k s) : Up (k + 1) (s ++ [(k : Int)]) := by
  refine ⟨by simp [h.1], ?_⟩
  intro j hj
  have hl : j < (s ++ [(k : Int)]).length := by simp [h.1]; omega
  rw [nth_lt (t := .int .i64) hl]
  by_cases hjk : j < k
  · have hjs : j < s.length := by rw [h.1]; exact hjk
    have := h.2 j hjk
    rw [nth_lt (t := .int .i64) hjs] at this
    rw [List.getElem_append_left hjs]; exact this
  · have : j = k := by omega
    subst this
    rw [List.getElem_append_right (by rw [h.1]; omega)]
    simp

theorem e11_l2 (a0 : D23) (y1 : List Int) (x : Int) (os : List D57) (xs : List Int) (y9 : List Int) (k : Nat)
    (hk : (nth T55 a0.2.2.1 (nth (.int .i64) y1 x)).1.2.2.2.2.2.1.length = k) (hm : k * 8 ≤ maxB) :
    ∃ r, Up k r ∧ f11_l2 a0 y1 x os xs y9 ((nth T55 a0.2.2.1 (nth (.int .i64) y1 x)).1.2.2.2.2.2.1.length + 1) 0 [] = some r := by
  simp only [maxB] at hm
  rw [hk]
  have h := loopU (fun i s => Up i s) (fun r => Up k r) (fun n i s => f11_l2 a0 y1 x os xs y9 n i s) k
    (by
      intro n i s hi hP
      left
      refine ⟨s ++ [(i : Int)], hP.snoc, ?_⟩
      simp only [f11_l2, w64_succ (show i ≤ _ by omega), hk]
      rw [if_pos (by simp; omega), if_pos (by simp only [maxB, List.length_singleton, hP.1]; omega)])
    (by intro n s hP; exact ⟨s, hP, by simp [f11_l2, hk]⟩) (k + 1) 0 [] (by omega) (by omega) ⟨rfl, by intro j hj; omega⟩
  exact h

/-- a number of a list, as a number -/
abbrev ix (xs : List Int) (i : Int) : Int := nth (.int .i64) xs i

/-- an offer made from a held credential -/
def Made (o : D57) (h : D55) : Prop := hit o h.1 = true ∧ Up h.1.2.2.2.2.2.1.length o.2.1

/-- what wallet.Offers has in hand after some of the active credentials -/
structure Inv (held : List D55) (ys : List Int) (k : Nat) (os : List D57) (xs : List Int) : Prop where
  len : os.length = xs.length
  le8 : os.length ≤ 8
  sub : xs.Pairwise (· < ·)
  mem : ∀ x ∈ xs, ∃ j : Nat, j < k ∧ x = ix ys (j : Int)
  made : ∀ p : Nat, p < os.length → Made (nth T57 os (p : Int)) (nth T55 held (ix xs (p : Int)))
  nod : ∀ p q : Nat, p < q → q < os.length → ¬ ((nth T57 os (p : Int)).1 = (nth T57 os (q : Int)).1 ∧ (nth T57 os (p : Int)).2.2.1 = (nth T57 os (q : Int)).2.2.1)
  cov : ∀ j : Nat, j < k → ∃ p : Nat, p < os.length ∧ hit (nth T57 os (p : Int)) (nth T55 held (ix ys (j : Int))).1 = true ∧ ix xs (p : Int) ≤ ix ys (j : Int)

theorem nth_append_left {t : Ty} {xs ys : List t.den} {i : Nat} (h : i < xs.length) : nth t (xs ++ ys) (i : Int) = nth t xs (i : Int) := by
  rw [nth_lt h, nth_lt (show i < (xs ++ ys).length by simp; omega), List.getElem_append_left h]

theorem nth_append_one {t : Ty} {xs : List t.den} {y : t.den} : nth t (xs ++ [y]) ((xs.length : Nat) : Int) = y := by
  rw [nth_lt (show xs.length < (xs ++ [y]).length by simp)]
  simp

theorem ix_lt {xs : List Int} {i : Nat} (h : i < xs.length) : ix xs (i : Int) = xs[i] := nth_lt (t := .int .i64) h

theorem ix_append_left {xs ys : List Int} {i : Nat} (h : i < xs.length) : ix (xs ++ ys) (i : Int) = ix xs (i : Int) := nth_append_left (t := .int .i64) h

theorem ix_append_one {xs : List Int} {y : Int} : ix (xs ++ [y]) ((xs.length : Nat) : Int) = y := nth_append_one (t := .int .i64)

theorem Inv.skip {held : List D55} {ys : List Int} {k : Nat} {os : List D57} {xs : List Int} (I : Inv held ys k os xs) (hsort : ∀ i j : Nat, i < j → j < ys.length → ix ys (i : Int) < ix ys (j : Int)) (hk : k < ys.length)
    (h : ∃ o ∈ os, hit o (nth T55 held (ix ys (k : Int))).1 = true) : Inv held ys (k + 1) os xs := by
  refine ⟨I.len, I.le8, I.sub, ?_, I.made, I.nod, ?_⟩
  · intro x hx
    obtain ⟨j, hj, e⟩ := I.mem x hx
    exact ⟨j, by omega, e⟩
  · intro j hj
    by_cases hjk : j < k
    · exact I.cov j hjk
    · have : j = k := by omega
      subst this
      obtain ⟨o, ho, hh⟩ := h
      obtain ⟨p, hp, ep⟩ := List.getElem_of_mem ho
      refine ⟨p, hp, by rw [nth_lt (t := T57) hp, ep]; exact hh, ?_⟩
      have hp' : p < xs.length := by rw [← I.len]; exact hp
      obtain ⟨q, hq, e⟩ := I.mem xs[p] (List.getElem_mem hp')
      rw [ix_lt hp', e]
      have := hsort q j hq hk
      omega

theorem Inv.push {held : List D55} {ys : List Int} {k : Nat} {os : List D57} {xs : List Int} (I : Inv held ys k os xs) (hsort : ∀ i j : Nat, i < j → j < ys.length → ix ys (i : Int) < ix ys (j : Int)) (hk : k < ys.length) (h8 : os.length ≠ 8)
    (h : ¬ ∃ o ∈ os, hit o (nth T55 held (ix ys (k : Int))).1 = true) {o : D57} (ho : Made o (nth T55 held (ix ys (k : Int)))) : Inv held ys (k + 1) (os ++ [o]) (xs ++ [ix ys (k : Int)]) := by
  have l8 := I.le8
  have ll := I.len
  have ex : ix (xs ++ [ix ys (k : Int)]) ((os.length : Nat) : Int) = ix ys (k : Int) := by rw [ll]; exact ix_append_one
  have eo : nth T57 (os ++ [o]) ((os.length : Nat) : Int) = o := nth_append_one (t := T57)
  have ox : ∀ p : Nat, p < os.length → nth T57 (os ++ [o]) (p : Int) = nth T57 os (p : Int) := fun p hp => nth_append_left (t := T57) hp
  have xx : ∀ p : Nat, p < os.length → ix (xs ++ [ix ys (k : Int)]) (p : Int) = ix xs (p : Int) := fun p hp => ix_append_left (by rw [← ll]; exact hp)
  refine ⟨by simp [ll], by simp; omega, ?_, ?_, ?_, ?_, ?_⟩
  · rw [List.pairwise_append]
    refine ⟨I.sub, by simp, ?_⟩
    intro x hx y hy
    rw [List.mem_singleton] at hy
    obtain ⟨j, hj, e⟩ := I.mem x hx
    rw [e, hy]
    exact hsort j k hj hk
  · intro x hx
    rw [List.mem_append, List.mem_singleton] at hx
    rcases hx with hx | hx
    · obtain ⟨j, hj, e⟩ := I.mem x hx
      exact ⟨j, by omega, e⟩
    · exact ⟨k, by omega, hx⟩
  · intro p hp
    simp only [List.length_append, List.length_singleton] at hp
    by_cases hpo : p < os.length
    · rw [ox p hpo, xx p hpo]; exact I.made p hpo
    · have : p = os.length := by omega
      subst this
      rw [eo, ex]; exact ho
  · intro p q hpq hq
    simp only [List.length_append, List.length_singleton] at hq
    by_cases hqo : q < os.length
    · rw [ox p (by omega), ox q hqo]; exact I.nod p q hpq hqo
    · have : q = os.length := by omega
      subst this
      rw [ox p hpq, eo]
      rintro ⟨e1, e2⟩
      apply h
      refine ⟨os[p], List.getElem_mem hpq, ?_⟩
      have hh := (hit_iff _ _).1 ho.1
      rw [nth_lt (t := T57) hpq] at e1 e2
      exact (hit_iff _ _).2 ⟨e1.trans hh.1, e2.trans hh.2⟩
  · intro j hj
    by_cases hjk : j < k
    · obtain ⟨p, hp, h1, h2⟩ := I.cov j hjk
      exact ⟨p, by simp; omega, by rw [ox p hp]; exact h1, by rw [xx p hp]; exact h2⟩
    · have : j = k := by omega
      subst this
      exact ⟨os.length, by simp, by rw [eo]; exact ho.1, by rw [ex]; omega⟩

/-- what wallet.Offers has at its end -/
def Fin (held : List D55) (ys : List Int) (r : List D57 × List Int) : Prop := ∃ k, Inv held ys k r.1 r.2 ∧ k ≤ ys.length ∧ (k = ys.length ∨ r.1.length = 8)

theorem e11_l1 (a0 : D23) (hs : Small a0.2.2.1) (ys : List Int) (hl : ys.length ≤ a0.2.2.1.length)
    (hsort : ∀ i j : Nat, i < j → j < ys.length → ix ys (i : Int) < ix ys (j : Int))
    (hin : ∀ i : Nat, i < ys.length → 0 ≤ ix ys (i : Int) ∧ ix ys (i : Int) < (a0.2.2.1.length : Int)) :
    ∃ r, Fin a0.2.2.1 ys r ∧ f11_l1 a0 ys (ys.length + 1) 0 [] [] = some r := by
  have hm := hs.1
  simp only [maxB] at hm
  have h := loopU (fun i (s : List D57 × List Int) => Inv a0.2.2.1 ys i s.1 s.2) (fun r => Fin a0.2.2.1 ys r) (fun n i s => f11_l1 a0 ys n i s.1 s.2) ys.length
    (by
      intro n i s hi I
      have hx := hin i hi
      have l8 := I.le8
      have ll := I.len
      obtain ⟨k, hk⟩ : ∃ k : Nat, ix ys (i : Int) = (k : Int) := ⟨(ix ys (i : Int)).toNat, by omega⟩
      have hkl : k < a0.2.2.1.length := by omega
      have hmem : nth T55 a0.2.2.1 (ix ys (i : Int)) ∈ a0.2.2.1 := by rw [hk, nth_lt (t := T55) hkl]; exact List.getElem_mem hkl
      have hsz := hs.2 _ hmem
      simp only [f11_l1, w64_succ (show i ≤ _ by omega)]
      rw [if_pos (by simp; omega), if_pos (by omega), if_pos hx]
      by_cases h8 : s.1.length = 8
      · right
        rw [if_pos (by simp [h8]), bs]
        exact ⟨(s.1, s.2), ⟨i, I, by omega, Or.inr h8⟩, rfl⟩
      left
      rw [if_neg (by simp; omega)]
      obtain ⟨b, hb, eb⟩ := e30 s.1 (nth T55 a0.2.2.1 (ix ys (i : Int))).1 l8 (by
        intro o ho
        obtain ⟨p, hp, ep⟩ := List.getElem_of_mem ho
        have hmd := I.made p hp
        rw [nth_lt (t := T57) hp, ep] at hmd
        rw [((hit_iff _ _).1 hmd.1).2]
        have hp' : p < s.2.length := by rw [← ll]; exact hp
        obtain ⟨q, hq, eq⟩ := I.mem s.2[p] (List.getElem_mem hp')
        rw [ix_lt hp', eq]
        have hq' := hin q (by omega)
        obtain ⟨k', hk'⟩ : ∃ k : Nat, ix ys (q : Int) = (k : Int) := ⟨(ix ys (q : Int)).toNat, by omega⟩
        have hkl' : k' < a0.2.2.1.length := by omega
        rw [hk', nth_lt (t := T55) hkl']
        have := (hs.2 _ (List.getElem_mem hkl')).2
        simp only [maxB] at this
        omega)
      rw [eb, bs]
      by_cases hbb : b = true
      · rw [if_pos hbb, bs]
        exact ⟨(s.1, s.2), I.skip hsort hi (hb.1 hbb), rfl⟩
      · rw [if_neg hbb]
        obtain ⟨o, ho, eo⟩ := e11_l2 a0 ys i s.1 s.2 (nth T55 a0.2.2.1 (ix ys (i : Int))).1.2.2.2.2.2.1 _ rfl hsz.2
        have e33 : f33 (nth T55 a0.2.2.1 (ix ys (i : Int))).1.2.2.2.2.2.1 = some (nth T55 a0.2.2.1 (ix ys (i : Int))).1.2.2.2.2.2.1 := by
          unfold f33
          rw [if_pos (by simp only [List.length_nil, Nat.zero_add]; exact hsz.2)]
        rw [e33, bs, eo, bs]
        rw [if_pos (by simp only [List.length_singleton, maxB]; omega), if_pos (by simp only [List.length_singleton, maxB]; omega), bs]
        refine ⟨(_, _), I.push hsort hi h8 (fun hh => hbb (hb.2 hh)) ?_, rfl⟩
        exact ⟨by simp [hit], ho⟩)
    (by intro n s hP; exact ⟨(s.1, s.2), ⟨ys.length, hP, Nat.le_refl _, Or.inl rfl⟩, by simp [f11_l1]⟩) (ys.length + 1) 0 ([], []) (by omega) (by omega)
    ⟨rfl, by simp, by simp, by simp, by intro p hp; simp at hp, by intro p q _ hq; simp at hq, by intro j hj; omega⟩
  exact h

end Go.Proofs.YtnhfefbbdfmniaaDoor
