/- VerifyTwice's printed function answers true. No condition beyond what each theorem states. -/
import Derived.Test.YthiphdachidhlaaGreatDoorF5
import Derived.Test.YthiphdachidhlaaGreatDoorA4
namespace Go.Proofs.YthiphdachidhlaaGreatDoor
open Go.Abs

theorem bs {α β : Type} (x : α) (f : α → Option β) : Option.bind (some x) f = f x := by
  rw [Option.bind_some]

abbrev Mp : Type := List (D35 × Int)
abbrev has (p : D35) (m : Mp) : Bool := mhas T35 p m
abbrev get (p : D35) (m : Mp) : Int := mget T35 (.int .i64) p m
abbrev put (p : D35) (v : Int) (m : Mp) : Mp := mset T35 p v m

theorem k35 : T35.keyed = true := rfl

/-- the places of the answer at i -/
abbrev pl (a0 : List D33) (i : Nat) : List D35 := (nth T33 a0 (i : Int)).2.2.2.2.1

/-- what Twice keeps of the places of an answer -/
def ins (i : Int) : List D35 → Mp → Mp
  | [], m => m
  | p :: l, m => ins i l (if has p m = true then m else put p i m)

theorem ins_snoc (i : Int) (p : D35) : ∀ (l : List D35) (m : Mp), ins i (l ++ [p]) m = if has p (ins i l m) = true then ins i l m else put p i (ins i l m)
  | [], m => rfl
  | q :: l, m => by simp only [List.cons_append, ins]; exact ins_snoc i p l _

/-- the map m' is m, with more keys whose value is i -/
def More (i : Int) (m m' : Mp) : Prop := ∀ p, (has p m = true → has p m' = true ∧ get p m' = get p m) ∧ (has p m' = true → has p m = false → get p m' = i)

theorem More.refl (i : Int) (m : Mp) : More i m m := fun p => ⟨fun h => ⟨h, rfl⟩, fun h h' => by rw [h] at h'; cases h'⟩

theorem More.put {i : Int} {m m' : Mp} (h : More i m m') {q : D35} (hq : has q m' = false) : More i m (put q i m') := by
  intro p
  obtain ⟨h1, h2⟩ := h p
  by_cases e : p = q
  · subst e
    refine ⟨fun hp => ?_, fun _ _ => mget_mset_self (vt := .int .i64) k35 p i m'⟩
    have := (h1 hp).1
    rw [hq] at this; cases this
  · refine ⟨fun hp => ?_, fun hp hn => ?_⟩
    · have := h1 hp
      exact ⟨(mhas_mset_ne k35 e i m').trans this.1, (mget_mset_ne (vt := .int .i64) k35 e i m').trans this.2⟩
    · have hp' : has p m' = true := (mhas_mset_ne k35 e i m').symm.trans hp
      exact (mget_mset_ne (vt := .int .i64) k35 e i m').trans (h2 hp' hn)

theorem ins_more (i : Int) (m : Mp) : ∀ (l : List D35) (m' : Mp), More i m m' → More i m (ins i l m')
  | [], m', h => h
  | p :: l, m', h => by
    simp only [ins]
    cases hp : has p m' with
    | true => rw [if_pos rfl]; exact ins_more i m l m' h
    | false => rw [if_neg (by simp)]; exact ins_more i m l _ (h.put hp)

theorem ins_len (i : Int) : ∀ (l : List D35) (m : Mp), (ins i l m).length ≤ m.length + l.length
  | [], m => Nat.le_refl _
  | p :: l, m => by
    simp only [ins]
    refine Nat.le_trans (ins_len i l _) ?_
    split
    · simp only [List.length_cons]; omega
    · have := mset_len (kt := T35) (k := p) (y := i) (es := m)
      simp only [List.length_cons]
      have h2 : (put p i m).length ≤ m.length + 1 := this
      omega

/-- the first answer that a place of l has met, as Twice has it and as the law has it -/
def lst (m : Mp) : List D35 → Int → Int
  | [], t => t
  | p :: l, t => lst m l (if has p m = true ∧ (t < 0 ∨ get p m < t) then get p m else t)

theorem lst_snoc (m : Mp) (p : D35) : ∀ (l : List D35) (t : Int), lst m (l ++ [p]) t = if has p m = true ∧ (lst m l t < 0 ∨ get p m < lst m l t) then get p m else lst m l t
  | [], t => rfl
  | q :: l, t => by simp only [List.cons_append, lst]; exact lst_snoc m p l _

def Vals (i : Int) (m : Mp) : Prop := ∀ p, has p m = true → 0 ≤ get p m ∧ get p m < i

theorem lst_rng {i : Int} {m : Mp} (hv : Vals i m) (hi : 0 ≤ i) : ∀ (l : List D35) (t : Int), (t = -1 ∨ 0 ≤ t ∧ t < i) → (lst m l t = -1 ∨ 0 ≤ lst m l t ∧ lst m l t < i)
  | [], t, h => h
  | p :: l, t, h => by
    simp only [lst]
    refine lst_rng hv hi l _ ?_
    split
    · rename_i hc; exact Or.inr (hv p hc.1)
    · exact h

theorem lst_nn {i : Int} {m : Mp} (hv : Vals i m) : ∀ (l : List D35) (t : Int), 0 ≤ t → 0 ≤ lst m l t
  | [], t, h => h
  | p :: l, t, h => by
    simp only [lst]
    refine lst_nn hv l _ ?_
    split
    · rename_i hc; exact (hv p hc.1).1
    · exact h

theorem lst_miss {i : Int} {m : Mp} (hv : Vals i m) : ∀ (l : List D35), lst m l (-1) = -1 → ∀ p ∈ l, has p m = false
  | [], _, p, hp => by cases hp
  | q :: l, h, p, hp => by
    simp only [lst] at h
    cases hq : has q m with
    | true =>
      rw [if_pos ⟨hq, Or.inl (by omega)⟩] at h
      have := lst_nn hv l (get q m) (hv q hq).1
      omega
    | false =>
      rw [if_neg (by rw [hq]; simp)] at h
      rcases List.mem_cons.1 hp with rfl | hp
      · exact hq
      · exact lst_miss hv l h p hp

/-- the law's way to keep the places -/
def puts (i : Int) : List D35 → Mp → Mp
  | [], m => m
  | p :: l, m => puts i l (put p i m)

theorem puts_snoc (i : Int) (p : D35) : ∀ (l : List D35) (m : Mp), puts i (l ++ [p]) m = put p i (puts i l m)
  | [], m => rfl
  | q :: l, m => by simp only [List.cons_append, puts]; exact puts_snoc i p l _

theorem puts_len (i : Int) : ∀ (l : List D35) (m : Mp), (puts i l m).length ≤ m.length + l.length
  | [], m => Nat.le_refl _
  | p :: l, m => by
    simp only [puts]
    have h2 : (put p i m).length ≤ m.length + 1 := mset_len (kt := T35) (k := p) (y := i) (es := m)
    have := puts_len i l (put p i m)
    simp only [List.length_cons]
    omega

theorem puts_ins (i : Int) : ∀ (l : List D35) (m : Mp), (∀ p ∈ l, has p m = true → get p m = i) → puts i l m = ins i l m
  | [], m, _ => rfl
  | p :: l, m, h => by
    simp only [puts, ins]
    cases hp : has p m with
    | true =>
      rw [if_pos rfl]
      have e : put p i m = m := mset_same (vt := .int .i64) k35 p i m hp (h p (by simp) hp)
      rw [e]
      exact puts_ins i l m (fun q hq => h q (by simp [hq]))
    | false =>
      rw [if_neg (by simp)]
      refine puts_ins i l _ (fun q hq hh => ?_)
      by_cases e : q = p
      · subst e; exact mget_mset_self (vt := .int .i64) k35 q i m
      · have h1 : has q m = true := (mhas_mset_ne k35 e i m).symm.trans hh
        exact (mget_mset_ne (vt := .int .i64) k35 e i m).trans (h q (by simp [hq]) h1)

def lu (i t : Int) : Int := if t < 0 then i else t

theorem e6_l2 (a0 : List D33) (i : Nat) (m : Mp) (hi : i ≤ 12) (hp : (pl a0 i).length ≤ 6) (hv : Vals i m) (hm : m.length ≤ 72) :
    f6_l2 a0 (i : Int) ((pl a0 i).length + 1) (i : Int) 0 m = some (lu i (lst m (pl a0 i) (-1)), ins i (pl a0 i) m) := by
  obtain ⟨ps, hps⟩ : ∃ ps : List D35, pl a0 i = ps := ⟨_, rfl⟩
  rw [hps] at hp ⊢
  have h := loopU (fun j (s : Int × Mp) => s = (lu i (lst m (ps.take j) (-1)), ins i (ps.take j) m)) (fun (r : Int × Mp) => r = (lu i (lst m ps (-1)), ins i ps m)) (fun n j s => f6_l2 a0 (i : Int) n s.1 j s.2) ps.length
    (by
      intro n j s hj hs
      left
      have hn : nth T35 ps (j : Int) = ps[j] := nth_lt (t := T35) hj
      have hmore := ins_more i m (ps.take j) m (More.refl i m)
      have hlen := ins_len i (ps.take j) m
      have hrng := lst_rng hv (by omega) (ps.take j) (-1) (Or.inl rfl)
      have htl : (ps.take j).length ≤ 6 := by rw [List.length_take]; omega
      refine ⟨(lu i (lst m (ps.take (j + 1)) (-1)), ins i (ps.take (j + 1)) m), rfl, ?_⟩
      subst hs
      rw [List.take_succ_eq_append_getElem hj, lst_snoc, ins_snoc]
      have hx : (0 : Int) ≤ (j : Int) ∧ (j : Int) < (List.length ps : Int) := by omega
      simp only [f6_l2, w64_succ (show j ≤ _ by omega)]
      rw [show (nth T33 a0 (i : Int)).2.2.2.2.1 = ps from hps, if_pos (by rw [decide_eq_true_eq]; omega), if_pos hx, hn]
      revert hmore hlen hrng
      generalize ins (i : Int) (ps.take j) m = M
      generalize lst m (ps.take j) (-1) = t
      intro hmore hlen hrng
      obtain ⟨q1, q2⟩ := hmore ps[j]
      by_cases hM : has ps[j] M = true
      · rw [if_pos (show mhas T35 ps[j] M = true from hM), bs, if_pos hM]
        by_cases hh : has ps[j] m = true
        · have e := (q1 hh).2
          have hr := hv _ hh
          show f6_l2 a0 (i : Int) n (imin (lu i t) (get ps[j] M)) _ _ = _
          rw [e]
          congr 1
          rcases hrng with hr1 | hr1
          · rw [if_pos (show has ps[j] m = true ∧ (t < 0 ∨ get ps[j] m < t) from ⟨hh, Or.inl (by omega)⟩)]
            unfold lu imin
            rw [if_pos (show t < 0 by omega), if_pos hr.2, if_neg (by omega)]
          · by_cases hlt : get ps[j] m < t
            · rw [if_pos (show has ps[j] m = true ∧ (t < 0 ∨ get ps[j] m < t) from ⟨hh, Or.inr hlt⟩)]
              unfold lu imin
              rw [if_neg (show ¬ t < 0 by omega), if_pos hlt, if_neg (by omega)]
            · rw [if_neg (show ¬ (has ps[j] m = true ∧ (t < 0 ∨ get ps[j] m < t)) from by rintro ⟨_, hc | hc⟩ <;> omega)]
              unfold lu imin
              rw [if_neg (show ¬ t < 0 by omega), if_neg hlt]
        · have e := q2 hM (by simpa using hh)
          show f6_l2 a0 (i : Int) n (imin (lu i t) (get ps[j] M)) _ _ = _
          rw [e, if_neg (fun hc => hh hc.1)]
          congr 1
          unfold lu imin
          split <;> split <;> omega
      · have hmf : ¬ has ps[j] m = true := fun hh => hM (q1 hh).1
        rw [if_neg (show ¬ mhas T35 ps[j] M = true from hM), if_pos (by simp only [maxB]; omega), bs, if_neg hM, if_neg (fun hc => hmf hc.1)])
    (by
      intro n s hs
      rw [List.take_length] at hs
      refine ⟨s, hs, ?_⟩
      simp only [f6_l2]
      rw [show (nth T33 a0 (i : Int)).2.2.2.2.1 = ps from hps, if_neg (by simp)]) (ps.length + 1) 0 ((i : Int), m) (by omega) (by omega) (by simp [lst, ins, lu])
  obtain ⟨r, hr, e⟩ := h
  rw [hr] at e; exact e

theorem e3_l2 (a0 : List D33) (y5 : Int × Int × Bool) (i : Nat) (m : Mp) (hp : (pl a0 i).length ≤ 6) :
    f3_l2 a0 y5 (i : Int) m ((pl a0 i).length + 1) (-1) 0 = some (lst m (pl a0 i) (-1)) := by
  obtain ⟨ps, hps⟩ : ∃ ps : List D35, pl a0 i = ps := ⟨_, rfl⟩
  rw [hps] at hp ⊢
  have h := loopU (fun j (s : Int) => s = lst m (ps.take j) (-1)) (fun (r : Int) => r = lst m ps (-1)) (fun n j s => f3_l2 a0 y5 (i : Int) m n s j) ps.length
    (by
      intro n j s hj hs
      left
      have hn : nth T35 ps (j : Int) = ps[j] := nth_lt (t := T35) hj
      refine ⟨lst m (ps.take (j + 1)) (-1), rfl, ?_⟩
      rw [List.take_succ_eq_append_getElem hj, lst_snoc, ← hs]
      have hx : (0 : Int) ≤ (j : Int) ∧ (j : Int) < (List.length ps : Int) := by omega
      simp only [f3_l2, w64_succ (show j ≤ _ by omega)]
      rw [show (nth T33 a0 (i : Int)).2.2.2.2.1 = ps from hps, if_pos (by rw [decide_eq_true_eq]; omega), if_pos hx, hn]
      by_cases hh : has ps[j] m = true
      · rw [if_pos (show mhas T35 ps[j] m = true from hh)]
        by_cases h0 : s < 0
        · rw [if_pos (by rw [decide_eq_true_eq]; exact h0), bs, if_pos rfl, bs, if_pos ⟨hh, Or.inl h0⟩]
        · rw [if_neg (by rw [decide_eq_true_eq]; exact h0), bs]
          by_cases h1 : get ps[j] m < s
          · rw [if_pos (by rw [decide_eq_true_eq]; exact h1), bs, if_pos ⟨hh, Or.inr h1⟩]
          · rw [if_neg (by rw [decide_eq_true_eq]; exact h1), bs, if_neg (by rintro ⟨_, hc | hc⟩ <;> omega)]
      · rw [if_neg (show ¬ mhas T35 ps[j] m = true from hh), bs, if_neg (by simp), bs, if_neg (fun hc => hh hc.1)])
    (by
      intro n s hs
      rw [List.take_length] at hs
      refine ⟨s, hs, ?_⟩
      simp only [f3_l2]
      rw [show (nth T33 a0 (i : Int)).2.2.2.2.1 = ps from hps, if_neg (by simp)]) (ps.length + 1) 0 (-1) (by omega) (by omega) (by simp [lst])
  obtain ⟨r, hr, e⟩ := h
  rw [hr] at e; exact e

theorem e3_l3 (a0 : List D33) (y5 : Int × Int × Bool) (i : Nat) (m : Mp) (hp : (pl a0 i).length ≤ 6) (hm : m.length ≤ 72) :
    f3_l3 a0 y5 (i : Int) ((pl a0 i).length + 1) 0 m = some (puts i (pl a0 i) m) := by
  obtain ⟨ps, hps⟩ : ∃ ps : List D35, pl a0 i = ps := ⟨_, rfl⟩
  rw [hps] at hp ⊢
  have h := loopU (fun j (s : Mp) => s = puts i (ps.take j) m) (fun (r : Mp) => r = puts i ps m) (fun n j s => f3_l3 a0 y5 (i : Int) n j s) ps.length
    (by
      intro n j s hj hs
      left
      have hn : nth T35 ps (j : Int) = ps[j] := nth_lt (t := T35) hj
      have hlen := puts_len i (ps.take j) m
      have htl : (ps.take j).length ≤ 6 := by rw [List.length_take]; omega
      refine ⟨puts i (ps.take (j + 1)) m, rfl, ?_⟩
      rw [List.take_succ_eq_append_getElem hj, puts_snoc, ← hs]
      rw [← hs] at hlen
      have hx : (0 : Int) ≤ (j : Int) ∧ (j : Int) < (List.length ps : Int) := by omega
      simp only [f3_l3, w64_succ (show j ≤ _ by omega)]
      rw [show (nth T33 a0 (i : Int)).2.2.2.2.1 = ps from hps, if_pos (by rw [decide_eq_true_eq]; omega), if_pos hx, hn, if_pos (by simp only [maxB]; omega)])
    (by
      intro n s hs
      rw [List.take_length] at hs
      refine ⟨s, hs, ?_⟩
      simp only [f3_l3]
      rw [show (nth T33 a0 (i : Int)).2.2.2.2.1 = ps from hps, if_neg (by simp)]) (ps.length + 1) 0 m (by omega) (by omega) (by simp [puts])
  obtain ⟨r, hr, e⟩ := h
  rw [hr] at e; exact e

theorem twice (a0 : List D33) (hl : a0.length ≤ 12) (hp : ∀ i : Nat, i < a0.length → (pl a0 i).length ≤ 6) : ∀ n (i : Nat) (m : Mp), i ≤ a0.length → a0.length - i < n → Vals i m → m.length ≤ 6 * i →
    (f6_l1 a0 n (i : Int) m = some (.brk ()) ∧ ∀ y5, f3_l1 a0 y5 n (i : Int) m = some (.brk ())) ∨ (∃ a b, f6_l1 a0 n (i : Int) m = some (.ret (a, b, true)) ∧ f3_l1 a0 (a, b, true) n (i : Int) m = some (.ret true)) := by
  intro n
  induction n with
  | zero => intro i m _ h; omega
  | succ n ih =>
    intro i m hi hn hv hm
    by_cases h : i < a0.length
    · have hx : (0 : Int) ≤ (i : Int) ∧ (i : Int) < (List.length a0 : Int) := by omega
      have e6 := e6_l2 a0 i m (by omega) (hp i h) hv (by omega)
      have e32 := fun y5 => e3_l2 a0 y5 i m (hp i h)
      have e33 := fun y5 => e3_l3 a0 y5 i m (hp i h) (by omega)
      have hrng := lst_rng hv (by omega) (pl a0 i) (-1) (Or.inl rfl)
      have hmiss := lst_miss hv (pl a0 i)
      simp only [f6_l1, w64_succ (show i ≤ _ by omega)]
      rw [if_pos (by rw [decide_eq_true_eq]; omega), if_pos hx]
      rw [show (List.length (nth T33 a0 (i : Int)).2.2.2.2.1) = (pl a0 i).length from rfl, e6, bs]
      rcases hrng with hr | hr
      · have hno := hmiss hr
        have eput : puts (i : Int) (pl a0 i) m = ins i (pl a0 i) m := puts_ins i (pl a0 i) m (fun p hp hh => by rw [hno p hp] at hh; cases hh)
        have hmore := ins_more i m (pl a0 i) m (More.refl i m)
        have hlen := ins_len i (pl a0 i) m
        have hpi := hp i h
        have hv' : Vals ((i + 1 : Nat) : Int) (ins i (pl a0 i) m) := by
          intro p hh
          obtain ⟨q1, q2⟩ := hmore p
          cases hm0 : has p m with
          | true => rw [(q1 hm0).2]; have := hv p hm0; omega
          | false => rw [q2 hh hm0]; omega
        have ih' := ih (i + 1) (ins i (pl a0 i) m) (by omega) (by omega) hv' (by omega)
        have hc : ¬ decide (lu (i : Int) (lst m (pl a0 i) (-1)) < (i : Int)) = true := by
          rw [hr, decide_eq_true_eq]; unfold lu; rw [if_pos (by omega)]; omega
        rw [if_neg hc, bs]
        simp only []
        have e3 : ∀ y5, f3_l1 a0 y5 (n + 1) (i : Int) m = f3_l1 a0 y5 n ((i + 1 : Nat) : Int) (ins i (pl a0 i) m) := by
          intro y5
          simp only [f3_l1, w64_succ (show i ≤ _ by omega)]
          rw [if_pos (by rw [decide_eq_true_eq]; omega), if_pos hx, show (List.length (nth T33 a0 (i : Int)).2.2.2.2.1) = (pl a0 i).length from rfl, e32 y5, bs, hr, if_neg (by simp), e33 y5, bs, bs, eput]
        rcases ih' with ⟨h1, h2⟩ | ⟨a, b, h1, h2⟩
        · left
          refine ⟨h1, fun y5 => ?_⟩
          rw [e3 y5]; exact h2 y5
        · right
          refine ⟨a, b, h1, ?_⟩
          rw [e3]; exact h2
      · right
        have hc : decide (lu (i : Int) (lst m (pl a0 i) (-1)) < (i : Int)) = true := by
          rw [decide_eq_true_eq]; unfold lu; rw [if_neg (by omega)]; omega
        have hlu : lu (i : Int) (lst m (pl a0 i) (-1)) = lst m (pl a0 i) (-1) := by unfold lu; rw [if_neg (by omega)]
        rw [if_pos hc, bs]
        refine ⟨lst m (pl a0 i) (-1), (i : Int), by rw [hlu], ?_⟩
        simp only [f3_l1]
        rw [if_pos (by rw [decide_eq_true_eq]; omega), if_pos hx, show (List.length (nth T33 a0 (i : Int)).2.2.2.2.1) = (pl a0 i).length from rfl, e32, bs, if_pos (by rw [decide_eq_true_eq]; omega)]
        simp
    · left
      have : i = a0.length := by omega
      subst this
      refine ⟨?_, fun y5 => ?_⟩
      · simp only [f6_l1]; rw [if_neg (by simp)]
      · simp only [f3_l1]; rw [if_neg (by simp)]

theorem e5_l1 (a0 : List D33) (hl : a0.length ≤ 140737488355328) :
    ∃ r, (r = .brk () ∧ (∀ i : Nat, i < a0.length → (pl a0 i).length ≤ 6) ∨ r = .ret false) ∧ f5_l1 a0 big 0 = some r := by
  have h := loopU (fun i (_ : Unit) => ∀ j : Nat, j < i → (pl a0 j).length ≤ 6) (fun (r : Ctl Unit Bool) => r = .brk () ∧ (∀ i : Nat, i < a0.length → (pl a0 i).length ≤ 6) ∨ r = .ret false) (fun n i _ => f5_l1 a0 n i) a0.length
    (by
      intro n i _ hi hP
      have hx : (0 : Int) ≤ (i : Int) ∧ (i : Int) < (List.length a0 : Int) := by omega
      simp only [f5_l1, w64_succ (show i ≤ _ by omega)]
      rw [if_pos (by rw [decide_eq_true_eq]; omega), if_pos hx]
      by_cases h1 : (6 : Int) < ((pl a0 i).length : Int)
      · right
        refine ⟨.ret false, Or.inr rfl, ?_⟩
        rw [if_pos (by rw [decide_eq_true_eq]; exact h1), bs, if_pos rfl, bs]
      · rw [if_neg (by rw [decide_eq_true_eq]; exact h1), bs]
        split
        · right
          exact ⟨.ret false, Or.inr rfl, by rw [bs]⟩
        · left
          refine ⟨(), ?_, by rw [bs]⟩
          intro j hj
          by_cases hji : j < i
          · exact hP j hji
          · have : j = i := by omega
            subst this; omega)
    (by
      intro n _ hP
      refine ⟨.brk (), Or.inl ⟨rfl, hP⟩, ?_⟩
      simp [f5_l1]) big 0 () (by omega) (by simp only [big]; omega) (by intro j hj; omega)
  exact h

theorem e4 : f4 = some true := by kernel_rfl

theorem pl3 (a0 : List D33) (h0 : wf (.slice 96 T33) a0) : f3 a0 = some true := by
  have hl := h0.2.1
  unfold f3
  rw [e4, bs, if_neg (by simp)]
  obtain ⟨r, hr, e⟩ := e5_l1 a0 hl
  unfold f5
  rw [e, bs]
  rcases hr with ⟨hr, hp⟩ | hr
  · rw [hr]
    simp only []
    rw [bs]
    by_cases h12 : (a0.length : Int) ≤ 12
    · rw [if_neg (by simp; omega)]
      have ht := twice a0 (by omega) hp (a0.length + 1) 0 [] (by omega) (by omega) (by intro p hh; cases hh) (by simp)
      unfold f6
      rw [show ((0 : Nat) : Int) = 0 from rfl] at ht
      rcases ht with ⟨h1, h2⟩ | ⟨a, b, h1, h2⟩
      · rw [h1, bs]
        simp only []
        rw [bs, h2, bs]
        simp
      · rw [h1, bs]
        simp only []
        rw [bs, h2, bs]
    · rw [if_pos (by simp; omega)]
  · rw [hr]
    simp

end Go.Proofs.YthiphdachidhlaaGreatDoor
