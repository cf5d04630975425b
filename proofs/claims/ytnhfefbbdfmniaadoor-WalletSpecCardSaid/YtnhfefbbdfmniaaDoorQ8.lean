/- What wallet.Check and wallet.Put answer. No condition beyond what each theorem states. -/
import Derived.Test.YtnhfefbbdfmniaaDoorQ7
namespace Go.Proofs.YtnhfefbbdfmniaaDoor
open Go.Abs

/-- a held copy is in order beside the links r -/
def okH (h : D55) (r : List D44) : Bool :=
  decide ((List.length h.1.2.2.2.2.2.2.1 : Int) = (4 : Int)) && (decide (h.1.2.2.2.2.2.2.1 = r) && (decide (h.2.1.2.1 = r) && (decide ((0 : Int) ≤ h.2.2.1) && (decide (h.2.2.1 < (4 : Int)) && (decide ((0 : Int) ≤ h.2.2.2.1) && (decide (h.2.2.2.1 ≤ (3 : Int)) && decide (f45 h.2.1.1 = some h.1.2.2.2.2.1)))))))

theorem e39g (h : D55) (r : List D44) (hs : Szh h) : f39 h r = some (okH h r) := by
  obtain ⟨d, hd⟩ := t45 h.2.1.1
  unfold f39 okH
  simp only [e49g _ _ hs.1.2.1, e49g _ _ hs.2, hd, dig_eq, bs, ia, Option.some.injEq]

/-- a copy's place -/
def plc (c : D48) : D76 := (c.2.1, (c.2.2.2.1, ()))

theorem e38 (c : D48) : f38 c = some (plc c) := rfl

theorem mget_any (k : D76) : ∀ l : List D55, mget T76 .bool k (l.map fun h => (plc h.1, true)) = true ↔ ∃ h ∈ l, plc h.1 = k
  | [] => by simp [mget, Ty.dflt]
  | h :: l => by
    have e := eqDen_eq (t := T76) rfl k (plc h.1)
    have ih := mget_any k l
    simp only [List.map_cons, mget]
    by_cases hk : k = plc h.1
    · rw [if_pos (e.2 hk)]
      simp only [true_iff]
      exact ⟨h, by simp, hk.symm⟩
    · rw [if_neg (fun hh => hk (e.1 hh)), ih]
      constructor
      · rintro ⟨x, hx, ex⟩; exact ⟨x, by simp [hx], ex⟩
      · rintro ⟨x, hx, ex⟩
        rcases List.mem_cons.1 hx with rfl | hx
        · exact absurd ex.symm hk
        · exact ⟨x, hx, ex⟩

theorem mset_new (k : D76) : ∀ l : List D55, (∀ h ∈ l, plc h.1 ≠ k) → mset T76 k true (l.map fun h => (plc h.1, true)) = (l.map fun h => (plc h.1, true)) ++ [(k, true)]
  | [], _ => rfl
  | h :: l, hn => by
    have e := eqDen_eq (t := T76) rfl k (plc h.1)
    simp only [List.map_cons, mset, List.cons_append]
    rw [if_neg (fun hh => hn h (by simp) (e.1 hh).symm), mset_new k l (fun x hx => hn x (by simp [hx]))]

/-- the copy at i is in order, and no copy ahead of it has its place -/
def goodAt (held : List D55) (i : Nat) : Prop := (∀ j : Nat, j < i → plc (nth T55 held (j : Int)).1 ≠ plc (nth T55 held (i : Int)).1) ∧ okH (nth T55 held (i : Int)) (nth T55 held (0 : Int)).1.2.2.2.2.2.2.1 = true

theorem mem_take_nth (held : List D55) (i : Nat) (hi : i ≤ held.length) (h : D55) : h ∈ held.take i ↔ ∃ j : Nat, j < i ∧ nth T55 held (j : Int) = h := by
  constructor
  · intro hm
    obtain ⟨j, hj, e⟩ := List.getElem_of_mem hm
    rw [List.length_take] at hj
    refine ⟨j, by omega, ?_⟩
    rw [nth_lt (t := T55) (show j < held.length by omega), ← e, List.getElem_take]
  · rintro ⟨j, hj, e⟩
    rw [nth_lt (t := T55) (show j < held.length by omega)] at e
    rw [← e]
    exact List.mem_take_iff_getElem.2 ⟨j, by omega, rfl⟩

theorem e16_l1 (a0 : D23) (hl : a0.2.2.1.length ≤ 256) (hs : ∀ h ∈ a0.2.2.1, Szh h) :
    ∃ r, ((r = .brk () ∧ ∀ i : Nat, i < a0.2.2.1.length → goodAt a0.2.2.1 i) ∨ (r = .ret 410 ∧ ¬ ∀ i : Nat, i < a0.2.2.1.length → goodAt a0.2.2.1 i)) ∧ f16_l1 a0 (a0.2.2.1.length + 1) 0 [] = some r := by
  have h := loopU (fun i m => m = (a0.2.2.1.take i).map (fun h => (plc h.1, true)) ∧ ∀ j : Nat, j < i → goodAt a0.2.2.1 j)
      (fun (r : Ctl Unit Int) => (r = .brk () ∧ ∀ i : Nat, i < a0.2.2.1.length → goodAt a0.2.2.1 i) ∨ (r = .ret 410 ∧ ¬ ∀ i : Nat, i < a0.2.2.1.length → goodAt a0.2.2.1 i)) (fun n i m => f16_l1 a0 n i m) a0.2.2.1.length
    (by
      intro n i m hi hP
      obtain ⟨hm, hg⟩ := hP
      have hn : nth T55 a0.2.2.1 (i : Int) = a0.2.2.1[i] := nth_lt (t := T55) hi
      have hsz := hs _ (List.getElem_mem hi)
      rw [← hn] at hsz
      have e := e39g _ (nth T55 a0.2.2.1 (0 : Int)).1.2.2.2.2.2.2.1 hsz
      have hmem := mget_any (plc (nth T55 a0.2.2.1 (i : Int)).1) (a0.2.2.1.take i)
      rw [← hm] at hmem
      simp only [f16_l1, w64_succ (show i ≤ _ by omega), e38, bs]
      rw [if_pos (by rw [decide_eq_true_eq]; omega), if_pos (by omega), if_pos (show (0 : Int) < (a0.2.2.1.length : Int) by omega), e, bs]
      by_cases hseen : mget T76 .bool (plc (nth T55 a0.2.2.1 (i : Int)).1) m = true
      · right
        refine ⟨.ret 410, Or.inr ⟨rfl, ?_⟩, ?_⟩
        · intro hall
          obtain ⟨h, hh, eh⟩ := hmem.1 hseen
          obtain ⟨j, hj, ej⟩ := (mem_take_nth _ i (by omega) h).1 hh
          exact (hall i hi).1 j hj (by rw [ej]; exact eh)
        · rw [if_pos hseen, bs, if_pos rfl, bs]
          rfl
      · rw [if_neg hseen, bs]
        by_cases hok : okH (nth T55 a0.2.2.1 (i : Int)) (nth T55 a0.2.2.1 (0 : Int)).1.2.2.2.2.2.2.1 = true
        · left
          have hfr : ∀ h ∈ a0.2.2.1.take i, plc h.1 ≠ plc (nth T55 a0.2.2.1 (i : Int)).1 := fun h hh eh => hseen (hmem.2 ⟨h, hh, eh⟩)
          refine ⟨m ++ [(plc (nth T55 a0.2.2.1 (i : Int)).1, true)], ⟨?_, ?_⟩, ?_⟩
          · rw [hm, List.take_succ_eq_append_getElem hi, List.map_append, ← hn]
            rfl
          · intro j hj
            by_cases hji : j < i
            · exact hg j hji
            · have : j = i := by omega
              subst this
              refine ⟨?_, hok⟩
              intro j' hj'
              exact hfr _ ((mem_take_nth _ j (by omega) _).2 ⟨j', hj', rfl⟩)
          · have hms := mset_new (plc (nth T55 a0.2.2.1 (i : Int)).1) (a0.2.2.1.take i) hfr
            rw [← hm] at hms
            have hml : m.length ≤ 256 := by rw [hm, List.length_map, List.length_take]; omega
            rw [if_neg (by simp [hok]), bs]
            simp only []
            rw [if_pos (by simp only [maxB]; omega), bs]
            simp only []
            exact congrArg (f16_l1 a0 n _) hms
        · right
          refine ⟨.ret 410, Or.inr ⟨rfl, fun hall => hok (hall i hi).2⟩, ?_⟩
          rw [if_pos (by simp [hok]), bs]
          rfl)
    (by intro n m hP; exact ⟨.brk (), Or.inl ⟨rfl, hP.2⟩, by simp [f16_l1]⟩) (a0.2.2.1.length + 1) 0 [] (by omega) (by omega) ⟨by simp, by intro j hj; omega⟩
  exact h

/-- the numbers of a wallet are in order -/
def hdr (a : D23) : Prop := 0 ≤ a.1 ∧ a.1 < 4096 ∧ 0 ≤ a.2.1 ∧ a.2.1 ≤ 4 ∧ a.2.2.1.length ≤ 256
/-- a wallet is valid -/
def Valid (a : D23) : Prop := hdr a ∧ ∀ i : Nat, i < a.2.2.1.length → goodAt a.2.2.1 i

theorem e16g (a0 : D23) (hs : ∀ h ∈ a0.2.2.1, Szh h) : (f16 a0 = some 0 ∧ Valid a0) ∨ (f16 a0 = some 410 ∧ ¬ Valid a0) := by
  unfold f16
  simp only [io, bs]
  by_cases hh : hdr a0
  · obtain ⟨h1, h2, h3, h4, h5⟩ := hh
    rw [if_neg (by simp only [Bool.or_eq_true, decide_eq_true_eq]; omega), bs]
    simp only []
    obtain ⟨r, hr, e⟩ := e16_l1 a0 h5 hs
    rw [e, bs]
    rcases hr with ⟨er, hg⟩ | ⟨er, hg⟩
    · left; rw [er]; exact ⟨rfl, ⟨h1, h2, h3, h4, h5⟩, hg⟩
    · right; rw [er]; exact ⟨rfl, fun hv => hg hv.2⟩
  · right
    refine ⟨?_, fun hv => hh hv.1⟩
    rw [if_pos (by
      simp only [Bool.or_eq_true, decide_eq_true_eq]
      unfold hdr at hh
      omega), bs]

theorem goodAt_append {l l' : List D55} {i : Nat} (hi : i < l.length) : goodAt (l ++ l') i ↔ goodAt l i := by
  unfold goodAt
  have e : ∀ j : Nat, j ≤ i → nth T55 (l ++ l') (j : Int) = nth T55 l (j : Int) := fun j hj => nth_append_left (t := T55) (by omega)
  rw [e i (Nat.le_refl _), show (0 : Int) = ((0 : Nat) : Int) from rfl, e 0 (by omega)]
  constructor
  · rintro ⟨h1, h2⟩
    exact ⟨fun j hj => by rw [← e j (by omega)]; exact h1 j hj, h2⟩
  · rintro ⟨h1, h2⟩
    exact ⟨fun j hj => by rw [e j (by omega)]; exact h1 j hj, h2⟩

theorem Valid.front {p q : Int} {l l' : List D55} (h : Valid (p, (q, (l ++ l', ())))) : Valid (p, (q, (l, ()))) := by
  obtain ⟨⟨h1, h2, h3, h4, h5⟩, hg⟩ := h
  simp only [List.length_append] at h5 hg
  refine ⟨⟨h1, h2, h3, h4, by simp only []; omega⟩, ?_⟩
  intro i hi
  exact (goodAt_append hi).1 (hg i (by simp only [] at hi; omega))

/-- what is put -/
def added (c : List D48) (s : List D53) (d : Int) : List D55 := List.zipWith (fun c s => (c, (s, (d, ((0 : Int), ()))))) c s

theorem e23_l1 (c : List D48) (s : List D53) (d p q : Int) (hs : List D55) (hl : c.length = s.length) (hc : c.length ≤ 1000) (hh : hs.length ≤ 256) :
    f23_l1 c s d (c.length + 1) 0 p q () hs = some (p, q, (), hs ++ added c s d) := by
  have hal : (added c s d).length = c.length := by simp [added, hl]
  have h := loopU (fun i (st : Int × Int × Unit × List D55) => st = (p, q, (), hs ++ (added c s d).take i)) (fun (r : Int × Int × Unit × List D55) => r = (p, q, (), hs ++ added c s d)) (fun n i st => f23_l1 c s d n i st.1 st.2.1 st.2.2.1 st.2.2.2) c.length
    (by
      intro n i st hi hP
      left
      refine ⟨(p, q, (), hs ++ (added c s d).take (i + 1)), rfl, ?_⟩
      subst hP
      have hi' : i < s.length := by omega
      have hia : i < (added c s d).length := by omega
      have ei : (added c s d)[i] = (c[i], (s[i], (d, ((0 : Int), ())))) := by simp [added]
      simp only [f23_l1, f41_s1, w64_succ (show i ≤ _ by omega)]
      rw [if_pos (by rw [decide_eq_true_eq]; omega), if_pos (by omega), if_pos (by omega), nth_lt (t := T48) hi, nth_lt (t := T53) hi',
        if_pos (by simp only [List.length_append, List.length_take, List.length_singleton, maxB]; omega), bs]
      rw [List.take_succ_eq_append_getElem hia, ei, List.append_assoc])
    (by
      intro n st hP
      refine ⟨_, rfl, ?_⟩
      subst hP
      have : (added c s d).take c.length = added c s d := by rw [List.take_of_length_le (by omega)]
      simp [f23_l1, this]) (c.length + 1) 0 (p, q, (), hs) (by omega) (by omega) (by simp)
  obtain ⟨r, hr, e⟩ := h
  rw [hr] at e
  exact e

/-- no wallet -/
abbrev zw : D23 := ((0 : Int), ((0 : Int), (([] : List D55), ())))

theorem added_sz {c : List D48} {s : List D53} {d : Int} (hc : ∀ x ∈ c, Szc x) (hs : ∀ x ∈ s, x.2.1.length ≤ 140737488355328) : ∀ h ∈ added c s d, Szh h := by
  intro h hh
  obtain ⟨i, hi, e⟩ := List.getElem_of_mem hh
  simp only [added, List.getElem_zipWith] at e
  rw [← e]
  exact ⟨hc _ (List.getElem_mem _), hs _ (List.getElem_mem _)⟩

theorem e23g (a0 : D23) (c : List D48) (s : List D53) (d : Int) (hz : ∀ h ∈ a0.2.2.1, Szh h) (hc : ∀ x ∈ c, Szc x) (hs : ∀ x ∈ s, x.2.1.length ≤ 140737488355328) (hcl : c.length ≤ 1000) :
    ((Valid a0 ∧ c.length = s.length ∧ Valid (a0.1, (a0.2.1, (a0.2.2.1 ++ added c s d, ())))) ∧ f23 a0 c s d = some ((a0.1, (a0.2.1, (a0.2.2.1 ++ added c s d, ()))), 0)) ∨
    (¬ (Valid a0 ∧ c.length = s.length ∧ Valid (a0.1, (a0.2.1, (a0.2.2.1 ++ added c s d, ())))) ∧ f23 a0 c s d = some (zw, 410)) := by
  unfold f23
  rcases e16g a0 hz with ⟨e, hv⟩ | ⟨e, hv⟩
  · rw [e, bs, if_neg (by simp)]
    have h256 : a0.2.2.1.length ≤ 256 := hv.1.2.2.2.2
    by_cases hl : c.length = s.length
    · rw [if_neg (by simp; omega)]
      have e35 : f35_s2 a0 = some (a0.1, a0.2.1, a0.2.2.2, a0.2.2.1) := by
        unfold f35_s2 f47_s1
        rw [if_pos (by simp only [List.length_nil, maxB]; omega), bs]
      rw [e35, bs]
      simp only []
      have e1 := e23_l1 c s d a0.1 a0.2.1 a0.2.2.1 hl hcl h256
      rw [show a0.2.2.2 = () from rfl, e1, bs]
      simp only []
      rcases e16g (a0.1, (a0.2.1, (a0.2.2.1 ++ added c s d, ()))) (by
        intro h hh
        rcases List.mem_append.1 hh with hh | hh
        · exact hz h hh
        · exact added_sz hc hs h hh) with ⟨e2, hv2⟩ | ⟨e2, hv2⟩
      · left
        refine ⟨⟨hv, hl, hv2⟩, ?_⟩
        rw [e2, bs, if_neg (by simp)]
      · right
        refine ⟨fun hh => hv2 hh.2.2, ?_⟩
        rw [e2, bs, if_pos (by simp)]
    · right
      refine ⟨fun hh => hl hh.2.1, ?_⟩
      rw [if_pos (by simp; omega)]
  · right
    refine ⟨fun hh => hv hh.1, ?_⟩
    rw [e, bs, if_pos (by simp)]

end Go.Proofs.YtnhfefbbdfmniaaDoor
