/- The abstract machine: what it means to be walked, part 3. No condition. -/
import Derived.Test.YthiphdachidhlaaGreatDoorA2
import Derived.Laws.Cover3
import Derived.RangeFuncRecord
import Derived.RecoverIn
/- part AbsPass2 -/
/- Abstract machine, part 21: calls by contract. -/
namespace Go.Abs

/-- what a call gives: result and blocks behind it (in the callee's ids); ps: blocks passed (callee's id, caller's id); ns: new ones; m: how many ids the callee has -/
structure CR where
  r : AV
  ps : List (Nat × Nat)
  ns : List (Nat × Nat)
  out : List (Nat × Blk)
  m : Nat

def Blk.flatB : Blk → Bool
  | .var _ v => v.flatB
  | .tv _ _ v => v.flatB
  | .row _ _ t _ => t.flat
  | .map k v _ => k.flat && v.flat
  | _ => true

theorem RM.flat {E E' : Env} {w w' : World} {k v : Ty} (hk : k.flat = true) (hv : v.flat = true) : ∀ {l : List MapEntry} {xs : List (k.den × v.den)}, RM E w k v l xs → RM E' w' k v l xs
  | [], [], _ => trivial
  | [], _ :: _, h => h.elim
  | _ :: _, [], h => h.elim
  | _ :: _, _ :: _, h => ⟨RV0.flat (a := .val k _) hk h.1, RV0.flat (a := .val v _) hv h.2.1, RM.flat hk hv h.2.2⟩

theorem RB.flat {E : Env} {w : World} {S : Nat → Prop} {b : Nat} {k : Blk} (hf : k.flatB = true) (h : RB E w b k) : RB { E with S := S } w b k := by
  cases k with
  | var t v =>
    obtain ⟨h1, h2, g, c, e, h3, h4, h5⟩ := h
    exact ⟨h1, h2, g, c, e, h3, h4, RC.flat hf h5⟩
  | row e bs t xs =>
    obtain ⟨h1, h2, h3, h4, a, cap, h5, h6, h7⟩ := h
    refine ⟨h1, h2, h3, h4, a, cap, h5, h6, h7.imp id ?_⟩
    rintro ⟨g, c, h7, h8, h9, h10, h11, h12⟩
    exact ⟨g, c, h7, h8, h9, h10, h11, RelL.mono (fun _ _ => Rel.flat hf) h12⟩
  | map kt vt es =>
    simp only [Blk.flatB, Bool.and_eq_true] at hf
    obtain ⟨h1, h1', g, en, clock, h2, h3, h4, h5⟩ := h
    exact ⟨h1, h1', g, en, clock, h2, h3, RM.flat hf.1 hf.2 h4, h5⟩
  | lp l r => exact h
  | dfr => exact h
  | tv g t v =>
    obtain ⟨h0, h1, h2, c, e, h4, h5⟩ := h
    exact ⟨h0, h1, h2, c, e, h4, RC.flat hf h5⟩

def outAt (ψ : List (Nat × Nat)) (out : List (Nat × Blk)) (i : Nat) : Option Blk :=
  match lkB out i with
  | some k => k.rnm ψ
  | none => none

def hwOf (ψ : List (Nat × Nat)) (out : List (Nat × Blk)) : List (Nat × Nat) → List (Nat × Option Blk)
  | [] => []
  | (i, b) :: l => (b, outAt ψ out i) :: hwOf ψ out l

theorem hwOf_mem {ψ : List (Nat × Nat)} {out : List (Nat × Blk)} : ∀ {l : List (Nat × Nat)} {c : Nat} {k : Blk}, (c, some k) ∈ hwOf ψ out l → ∃ i, (i, c) ∈ l ∧ outAt ψ out i = some k
  | [], c, k, h => by cases h
  | (i, b) :: l, c, k, h => by
    unfold hwOf at h
    rcases List.mem_cons.1 h with h | h
    · simp only [Prod.mk.injEq] at h
      exact ⟨i, by rw [h.1]; exact List.mem_cons_self .., h.2.symm⟩
    · obtain ⟨j, h1, h2⟩ := hwOf_mem h
      exact ⟨j, List.mem_cons_of_mem _ h1, h2⟩

theorem hwOf_wrote {ψ : List (Nat × Nat)} {out : List (Nat × Blk)} : ∀ {l : List (Nat × Nat)} {i b : Nat}, (i, b) ∈ l → b ∈ wrote (hwOf ψ out l)
  | (j, c) :: l, i, b, h => by
    unfold hwOf
    simp only [wrote, List.mem_cons]
    cases h with
    | head => exact Or.inl rfl
    | tail _ h => exact Or.inr (hwOf_wrote h)

def subB : List Nat → List Nat → Bool
  | [], _ => true
  | x :: l, m => hasNat x m && subB l m

def ltAll (n : Nat) : List Nat → Bool
  | [] => true
  | x :: l => Nat.blt x n && ltAll n l

theorem ltAll_ok {n : Nat} : ∀ {l : List Nat}, ltAll n l = true → ∀ x ∈ l, x < n
  | [], _, x, hx => by cases hx
  | y :: l, h, x, hx => by
    simp only [ltAll, Bool.and_eq_true] at h
    cases hx with
    | head => have := h.1; simp [Nat.blt] at this; omega
    | tail _ hx => exact ltAll_ok h.2 x hx

def disjB : List Nat → List Nat → Bool
  | [], _ => true
  | x :: l, m => !hasNat x m && disjB l m

theorem disjB_ok : ∀ {l m : List Nat}, disjB l m = true → ∀ x ∈ l, x ∉ m
  | [], _, _, x, hx => by cases hx
  | y :: l, m, h, x, hx => by
    simp only [disjB, Bool.and_eq_true, Bool.not_eq_true'] at h
    cases hx with
    | head => exact hasNat_false h.1
    | tail _ hx => exact disjB_ok h.2 x hx

def allFlat : List (Nat × Blk) → Bool
  | [] => true
  | (_, k) :: l => k.flatB && allFlat l

theorem allFlat_ok : ∀ {l : List (Nat × Blk)}, allFlat l = true → ∀ i k, (i, k) ∈ l → k.flatB = true
  | [], _, i, k, h => by cases h
  | (j, k') :: l, hf, i, k, h => by
    simp only [allFlat, Bool.and_eq_true] at hf
    cases h with
    | head => exact hf.1
    | tail _ h => exact allFlat_ok hf.2 i k h

def crOK (cr : CR) (lent : List Nat) : Bool :=
  nodupB (cr.ps.map (·.1)) && nodupB ((cr.ps ++ cr.ns).map (·.2)) && ltAll 16 (cr.ps.map (·.1)) && nodupB (cr.out.map (·.1)) && ltAll cr.m (cr.out.map (·.1)) && disjB lent (cr.ps.map (·.2)) && nodupB ((cr.ps ++ cr.ns).map (·.1)) &&
    (lent.isEmpty || (cr.r.flatB && allFlat cr.out))

/-- a call by contract -/
def evCall (P : Program) (G : Tab) (gl : Ctx) (cr : CR) (ev : Operand → AV) (hb : Nat → Option Blk) (c : Call) : Option Eff :=
  match c.callee with
  | .value cf => match ev cf with
    | .func fn fs cs =>
      match argsB (swp cr.ps) hb (fs.toList.map (fun x => (x, Ty.unit)) ++ (c.args.toList.zip c.argTypes.toList).map (argTy G ev) ++ cs.toList.map (fun x => (x, Ty.unit))), inBlks (swp cr.ps) hb cr.ps, cr.r.rnm (cr.ps ++ cr.ns) with
      | some (L, lent), some ins, some r' => if fnOK fn fs cs && fs.atoms && cs.atoms && Nat.beq c.args.toList.length c.argTypes.toList.length && crOK cr lent then
          some ⟨r', hwOf (cr.ps ++ cr.ns) cr.out (cr.ps ++ cr.ns), cr.ns.map (·.2), [FcG P gl fn L (hset (List.replicate cr.m none) ins) (.ret cr.r) (outH cr.m cr.out)]⟩ else none
      | _, _, _ => none
    | _ => none
  | _ => none

/-- the callee's way to read the ids -/
def Env.to (E : Env) (ps : List (Nat × Nat)) (S : Nat → Prop) : Env where
  g := fun i => match lkp ps i with | some b => E.g b | none => none
  sv := fun i => match lkp ps i with | some b => E.sv b | none => undef
  bt := fun i => match lkp ps i with | some b => E.bt b | none => .unit
  S := S

/-- the caller's, behind the call -/
def Env.back (E E1 : Env) (sns : List (Nat × Nat)) (S : Nat → Prop) : Env where
  g := fun b => match lkp sns b with | some i => E1.g i | none => E.g b
  sv := fun b => match lkp sns b with | some i => E1.sv i | none => E.sv b
  bt := fun b => match lkp sns b with | some i => E1.bt i | none => E.bt b
  S := S

theorem lkp_none {l : List (Nat × Nat)} {a : Nat} (h : a ∉ l.map (·.1)) : lkp l a = none := by
  cases hl : lkp l a with
  | none => rfl
  | some b => exact absurd (List.mem_map.2 ⟨(a, b), lkp_mem hl, rfl⟩) h

theorem lkp_append {l m : List (Nat × Nat)} {a b : Nat} (h : lkp (l ++ m) a = some b) : lkp l a = some b ∨ (a ∉ l.map (·.1) ∧ lkp m a = some b) := by
  induction l with
  | nil => exact Or.inr ⟨by simp, h⟩
  | cons x l ih =>
    obtain ⟨x, y⟩ := x
    simp only [List.cons_append, lkp] at h ⊢
    split at h
    · rename_i e; rw [if_pos e]; exact Or.inl h
    · rename_i e
      rw [if_neg e]
      rcases ih h with h1 | ⟨h1, h2⟩
      · exact Or.inl h1
      · refine Or.inr ⟨?_, h2⟩
        simp only [List.map_cons, List.mem_cons, not_or]
        exact ⟨fun e' => e (by rw [e']; simp), h1⟩

section
variable {P : Program} {gl : Ctx} {σ : St} {E : Env} {a : Act} {w : World} {hb : Nat → Option Blk} {cr : CR} {lent : List Nat}

/-- the call's two sides, joined -/
theorem pass_in (h : Gam gl σ E a w) (hB : HB hb σ.hp) (hlent : ∀ b ∈ lent, ∃ k, hb b = some k) {ins : List (Nat × Option Blk)} (hins : inBlks (swp cr.ps) hb cr.ps = some ins) (hok : crOK cr lent = true) :
    (∀ b c, lkp (swp cr.ps) b = some c → (E.to cr.ps (E.lend lent).S).g c = E.g b ∧ (E.to cr.ps (E.lend lent).S).sv c = E.sv b ∧ (E.to cr.ps (E.lend lent).S).bt c = E.bt b) ∧
    HW gl (E.to cr.ps (E.lend lent).S) w (hset (List.replicate cr.m none) ins) := by
  simp only [crOK, Bool.and_eq_true] at hok
  obtain ⟨⟨⟨⟨⟨⟨⟨o1, o2⟩, o3⟩, o4⟩, o5⟩, o6⟩, o7⟩, o8⟩ := hok
  have n1 := nodupB_ok o1
  have n2 := nodupB_ok o2
  rw [List.map_append] at n2
  have n2' := (List.nodup_append.1 n2).1
  have at0 : ∀ b c, lkp (swp cr.ps) b = some c → (E.to cr.ps (E.lend lent).S).g c = E.g b ∧ (E.to cr.ps (E.lend lent).S).sv c = E.sv b ∧ (E.to cr.ps (E.lend lent).S).bt c = E.bt b := by
    intro b c hbc
    have := mem_lkp n1 (mem_swp.1 (lkp_mem hbc))
    simp [Env.to, this]
  refine ⟨at0, ?_⟩
  have kp : Keeps E w (E.to cr.ps (E.lend lent).S) w := ⟨fun _ _ => rfl, fun g hg => Or.inl hg⟩
  have rep : ∀ (b : Nat) (k : Blk), (List.replicate cr.m (none : Option Blk))[b]? ≠ some (some k) := by
    intro b k hb
    rw [List.getElem?_replicate] at hb
    split at hb <;> cases hb
  have get : ∀ (i : Nat) (k : Blk), (hset (List.replicate cr.m none) ins)[i]? = some (some k) → ∃ b k0, (i, b) ∈ cr.ps ∧ hb b = some k0 ∧ k0.rnm (swp cr.ps) = some k := by
    intro i k hk
    rcases hset_some hk with h1 | ⟨_, h2⟩
    · exact inBlks_mem hins h1
    · exact absurd h2 (rep i k)
  have gat : ∀ i b, (i, b) ∈ cr.ps → (E.to cr.ps (E.lend lent).S).g i = E.g b ∧ (E.to cr.ps (E.lend lent).S).sv i = E.sv b ∧ (E.to cr.ps (E.lend lent).S).bt i = E.bt b := by
    intro i b hib
    have := mem_lkp n1 hib
    simp [Env.to, this]
  refine ⟨?_, ?_, ?_, ?_, ?_⟩
  · intro i k hk
    obtain ⟨b, k0, h1, h2, h3⟩ := get i k hk
    exact RB.rnm ⟨at0, kp.S⟩ (gat i b h1) h3 (h.hw.blk b k0 (hB b k0 h2))
  · intro i i' k k' g hi hi' g1 g2
    obtain ⟨b, k0, h1, h2, h3⟩ := get i k hi
    obtain ⟨b', k0', h1', h2', h3'⟩ := get i' k' hi'
    rw [(gat i b h1).1] at g1
    rw [(gat i' b' h1').1] at g2
    have e := h.hw.sep b b' k0 k0' g (hB _ _ h2) (hB _ _ h2') g1 g2
    subst e
    have q1 := mem_lkp (l := swp cr.ps) (by simpa [swp, List.map_map, Function.comp_def] using n2') (mem_swp.2 h1)
    have q2 := mem_lkp (l := swp cr.ps) (by simpa [swp, List.map_map, Function.comp_def] using n2') (mem_swp.2 h1')
    rw [q1] at q2; cases q2; rfl
  · intro i k g hi g1 hs
    obtain ⟨b, k0, h1, h2, h3⟩ := get i k hi
    rw [(gat i b h1).1] at g1
    rcases hs with hs | ⟨c, hc, hg⟩
    · exact h.hw.stab b k0 g (hB _ _ h2) g1 hs
    · obtain ⟨k1, hk1⟩ := hlent c hc
      have e := h.hw.sep c b k1 k0 g (hB _ _ hk1) (hB _ _ h2) hg g1
      subst e
      exact disjB_ok o6 c hc (List.mem_map.2 ⟨(i, c), h1, rfl⟩)
  · rintro g (hg | ⟨b, hb', e⟩)
    · exact h.hw.slt g hg
    · obtain ⟨k, hk⟩ := hlent b hb'
      exact Own.below h.hw ⟨b, k, hB b k hk, e⟩
  · exact h.hw.glKeep kp

theorem pass_out (h : Gam gl σ E a w) (hB : HB hb σ.hp) (hlent : ∀ b ∈ lent, ∃ k, hb b = some k) {ins : List (Nat × Option Blk)} (hins : inBlks (swp cr.ps) hb cr.ps = some ins) (hok : crOK cr lent = true) (hfr : ∀ b ∈ cr.ns.map (·.2), σ.fresh b)
    {E1 : Env} {w1 : World} (hW : HW gl E1 w1 (outH cr.m cr.out)) (hX : Ext (Own (hset (List.replicate cr.m none) ins) (E.to cr.ps (E.lend lent).S)) (E.to cr.ps (E.lend lent).S) w (Own (outH cr.m cr.out) E1) E1 w1)
    {v : Value} {r' : AV} (hr' : cr.r.rnm (cr.ps ++ cr.ns) = some r') (hR : RV E1 w1 cr.r v) :
    ∃ E', Gam gl { σ with hp := hset σ.hp (hwOf (cr.ps ++ cr.ns) cr.out (cr.ps ++ cr.ns)) } E' a w1 ∧ RV E' w1 r' v ∧ Ext (Own σ.hp E) E w (Own (hset σ.hp (hwOf (cr.ps ++ cr.ns) cr.out (cr.ps ++ cr.ns))) E') E' w1 := by
  have hok0 := hok
  simp only [crOK, Bool.and_eq_true] at hok
  obtain ⟨⟨⟨⟨⟨⟨⟨o1, o2⟩, o3⟩, o4⟩, o5⟩, o6⟩, o7⟩, o8⟩ := hok
  have n1 := nodupB_ok o1
  have n2 := nodupB_ok o2
  rw [List.map_append] at n2
  have n2a := (List.nodup_append.1 n2).1
  have n2b := (List.nodup_append.1 n2).2.1
  have n4 := nodupB_ok o4
  have nall : ((swp (cr.ps ++ cr.ns)).map (·.1)).Nodup := by
    simp only [swp, List.map_map, Function.comp_def]
    rw [List.map_append]; exact n2
  have uniq : ∀ i j b, (i, b) ∈ cr.ps ++ cr.ns → (j, b) ∈ cr.ps ++ cr.ns → i = j := by
    intro i j b h1 h2
    have q1 := mem_lkp nall (mem_swp.2 h1)
    have q2 := mem_lkp nall (mem_swp.2 h2)
    rw [q1] at q2; cases q2; rfl
  have disj : ∀ b, b ∈ cr.ps.map (·.2) → b ∉ cr.ns.map (·.2) := fun b h1 h2 => (List.nodup_append.1 n2).2.2 b h1 b h2 rfl
  -- the stable blocks behind the call
  let S' : Nat → Prop := if lent.isEmpty then E1.S else E.S
  let E' : Env := E.back E1 (swp cr.ns) S'
  have hS1 : lent = [] → S' = E1.S := fun e => by simp [S', e]
  have hS2 : lent ≠ [] → S' = E.S := fun e => by
    have : lent.isEmpty = false := by cases lent <;> simp_all
    simp [S', this]
  have inOwn : ∀ g, Own (hset (List.replicate cr.m none) ins) (E.to cr.ps (E.lend lent).S) g → ∃ i b k, (i, b) ∈ cr.ps ∧ hb b = some k ∧ E.g b = some g := by
    rintro g ⟨i, k, hik, hg⟩
    rcases hset_some hik with q1 | ⟨_, q2⟩
    · obtain ⟨b, k0, z1, z2, z3⟩ := inBlks_mem hins q1
      refine ⟨i, b, k0, z1, z2, ?_⟩
      have := mem_lkp n1 z1
      simpa [Env.to, this] using hg
    · rw [List.getElem?_replicate] at q2
      split at q2 <;> cases q2
  have inOwn' : ∀ g, Own (hset (List.replicate cr.m none) ins) (E.to cr.ps (E.lend lent).S) g → Own σ.hp E g := fun g hg => by
    obtain ⟨i, b, k, _, z2, z3⟩ := inOwn g hg
    exact ⟨b, k, hB b k z2, z3⟩
  have heapS : ∀ g, E.S g → w1.heap[g]? = w.heap[g]? := fun g hg => hX.kept g (h.hw.slt g hg) (fun ho => by
    obtain ⟨i, b, k, _, z2, z3⟩ := inOwn g ho
    exact h.hw.stab b k g (hB b k z2) z3 hg)
  have SS' : ∀ g, E.S g → S' g := fun g hg => by
    by_cases hl : lent = []
    · rw [hS1 hl]; exact hX.sle g (Or.inl hg)
    · rw [hS2 hl]; exact hg
  have S'1 : ∀ g, S' g → E1.S g := fun g hg => by
    by_cases hl : lent = []
    · rwa [hS1 hl] at hg
    · rw [hS2 hl] at hg; exact hX.sle g (Or.inl hg)
  have kp : Keeps E w E' w1 := ⟨heapS, SS'⟩
  have gns : ∀ i b, (i, b) ∈ cr.ns → E'.g b = E1.g i ∧ E'.sv b = E1.sv i ∧ E'.bt b = E1.bt i := fun i b hm => by
    have := mem_lkp (l := swp cr.ns) (by simpa [swp, List.map_map, Function.comp_def] using n2b) (mem_swp.2 hm)
    simp [E', Env.back, this]
  have gold : ∀ b, b ∉ cr.ns.map (·.2) → E'.g b = E.g b ∧ E'.sv b = E.sv b ∧ E'.bt b = E.bt b := fun b hm => by
    have : lkp (swp cr.ns) b = none := lkp_none (by simpa [swp, List.map_map, Function.comp_def] using hm)
    simp [E', Env.back, this]
  have gps : ∀ i b, (i, b) ∈ cr.ps → E'.g b = E1.g i ∧ E'.sv b = E1.sv i ∧ E'.bt b = E1.bt i := fun i b hm => by
    have hi : i < 16 := ltAll_ok o3 i (List.mem_map.2 ⟨(i, b), hm, rfl⟩)
    obtain ⟨p1, p2, p3⟩ := hX.pin i hi
    obtain ⟨q1, q2, q3⟩ := gold b (disj b (List.mem_map.2 ⟨(i, b), hm, rfl⟩))
    have := mem_lkp n1 hm
    rw [q1, q2, q3, p1, p2, p3]
    simp [Env.to, this]
  have gall : ∀ i b, (i, b) ∈ cr.ps ++ cr.ns → E'.g b = E1.g i ∧ E'.sv b = E1.sv i ∧ E'.bt b = E1.bt i := fun i b hm => (List.mem_append.1 hm).elim (gps i b) (gns i b)
  have rn : Rn (cr.ps ++ cr.ns) { E1 with S := S' } E' := ⟨fun i b hl => gall i b (lkp_mem hl), fun g hg => hg⟩
  have flat1 : ∀ i k, (i, k) ∈ cr.out → RB { E1 with S := S' } w1 i k := fun i k hm => by
    have hlt : i < (List.replicate cr.m (none : Option Blk)).length := by rw [List.length_replicate]; exact ltAll_ok o5 i (List.mem_map.2 ⟨(i, k), hm, rfl⟩)
    have hb1 := hW.blk i k (outH_at (m := cr.m) n4 hm hlt)
    by_cases hl : lent = []
    · rw [hS1 hl]; exact hb1
    · have hf : allFlat cr.out = true := by
        have := o8
        simp only [Bool.or_eq_true, Bool.and_eq_true, List.isEmpty_iff] at this
        exact (this.resolve_left hl).2
      exact RB.flat (allFlat_ok hf i k hm) hb1
  have outMem : ∀ c k, (c, some k) ∈ hwOf (cr.ps ++ cr.ns) cr.out (cr.ps ++ cr.ns) → ∃ i k0, (i, c) ∈ cr.ps ++ cr.ns ∧ (i, k0) ∈ cr.out ∧ k0.rnm (cr.ps ++ cr.ns) = some k := fun c k hm => by
    obtain ⟨i, z1, z2⟩ := hwOf_mem hm
    unfold outAt at z2
    split at z2
    · rename_i k0 hk0; exact ⟨i, k0, z1, lkB_mem hk0, z2⟩
    · cases z2
  have outAt1 : ∀ i k, (i, k) ∈ cr.out → (outH cr.m cr.out)[i]? = some (some k) := fun i k hm =>
    outH_at (m := cr.m) n4 hm (by rw [List.length_replicate]; exact ltAll_ok o5 i (List.mem_map.2 ⟨(i, k), hm, rfl⟩))
  have oldNot : ∀ c, c ∉ wrote (hwOf (cr.ps ++ cr.ns) cr.out (cr.ps ++ cr.ns)) → c ∉ cr.ns.map (·.2) ∧ c ∉ cr.ps.map (·.2) := fun c hc => by
    constructor
    · intro hm
      obtain ⟨⟨i, b⟩, z1, z2⟩ := List.mem_map.1 hm
      simp only at z2; subst z2
      exact hc (hwOf_wrote (List.mem_append.2 (Or.inr z1)))
    · intro hm
      obtain ⟨⟨i, b⟩, z1, z2⟩ := List.mem_map.1 hm
      simp only at z2; subst z2
      exact hc (hwOf_wrote (List.mem_append.2 (Or.inl z1)))
  have notIn : ∀ c k g, σ.hp[c]? = some (some k) → c ∉ cr.ps.map (·.2) → E.g c = some g → ¬ Own (hset (List.replicate cr.m none) ins) (E.to cr.ps (E.lend lent).S) g := fun c k g hc hn hg ho => by
    obtain ⟨i, b, k', z1, z2, z3⟩ := inOwn g ho
    have e := h.hw.sep c b k k' g hc (hB b k' z2) hg z3
    subst e
    exact hn (List.mem_map.2 ⟨(i, c), z1, rfl⟩)
  have on' : ∀ ids : List Nat, (∀ b ∈ ids, b ∈ σ.ids) → E.on E' ids := fun ids hids b hb' => gold b (fun hm => (hfr b hm).1 (hids b hb'))
  have hwn : HW gl E' w1 (hset σ.hp (hwOf (cr.ps ++ cr.ns) cr.out (cr.ps ++ cr.ns))) := by
    refine ⟨?_, ?_, ?_, ?_, h.hw.glKeep kp⟩
    · intro c k hc
      rcases hset_some hc with h1 | ⟨h1, h2⟩
      · obtain ⟨i, k0, z1, z2, z3⟩ := outMem c k h1
        exact RB.rnm rn (gall i c z1) z3 (flat1 i k0 z2)
      · obtain ⟨q1, q2⟩ := oldNot c h1
        refine RB.mono kp ?_ ?_ (h.hw.blk c k h2)
        · intro b hb'
          rcases List.mem_cons.1 hb' with e | hb'
          · rw [e]; exact gold c q1
          · exact gold b (fun hm => (hfr b hm).1 (St.ids_hp h2 b hb'))
        · intro g hg
          exact hX.kept g (Own.below h.hw ⟨c, k, h2, hg⟩) (notIn c k g h2 q2 hg)
    · intro c c' k k' g hc hc' g1 g2
      rcases hset_some hc with h1 | ⟨h1, h2⟩ <;> rcases hset_some hc' with h1' | ⟨h1', h2'⟩
      · obtain ⟨i, k0, z1, z2, z3⟩ := outMem c k h1
        obtain ⟨i', k0', z1', z2', z3'⟩ := outMem c' k' h1'
        rw [(gall i c z1).1] at g1
        rw [(gall i' c' z1').1] at g2
        have e := hW.sep i i' k0 k0' g (outAt1 i k0 z2) (outAt1 i' k0' z2') g1 g2
        subst e
        -- one callee's id, two caller's ids: not both may be
        have q1 := mem_lkp (nodupB_ok o7) z1
        have q2 := mem_lkp (nodupB_ok o7) z1'
        rw [q1] at q2; cases q2; rfl
      · obtain ⟨i, k0, z1, z2, z3⟩ := outMem c k h1
        obtain ⟨q1, q2⟩ := oldNot c' h1'
        rw [(gall i c z1).1] at g1
        rw [(gold c' q1).1] at g2
        rcases hX.own g ⟨i, k0, outAt1 i k0 z2, g1⟩ with y | y
        · exact absurd y (notIn c' k' g h2' q2 g2)
        · have := Own.below h.hw ⟨c', k', h2', g2⟩; omega
      · obtain ⟨i, k0, z1, z2, z3⟩ := outMem c' k' h1'
        obtain ⟨q1, q2⟩ := oldNot c h1
        rw [(gall i c' z1).1] at g2
        rw [(gold c q1).1] at g1
        rcases hX.own g ⟨i, k0, outAt1 i k0 z2, g2⟩ with y | y
        · exact absurd y (notIn c k g h2 q2 g1)
        · have := Own.below h.hw ⟨c, k, h2, g1⟩; omega
      · rw [(gold c (oldNot c h1).1).1] at g1
        rw [(gold c' (oldNot c' h1').1).1] at g2
        exact h.hw.sep c c' k k' g h2 h2' g1 g2
    · intro c k g hc g1 hs
      rcases hset_some hc with h1 | ⟨h1, h2⟩
      · obtain ⟨i, k0, z1, z2, z3⟩ := outMem c k h1
        rw [(gall i c z1).1] at g1
        exact hW.stab i k0 g (outAt1 i k0 z2) g1 (S'1 g hs)
      · obtain ⟨q1, q2⟩ := oldNot c h1
        rw [(gold c q1).1] at g1
        by_cases hl : lent = []
        · have hs' : E1.S g := S'1 g hs
          rcases hX.sfrom g hs' with y | y | y
          · rcases y with y | ⟨b, hb', _⟩
            · exact h.hw.stab c k g h2 g1 y
            · rw [hl] at hb'; cases hb'
          · exact notIn c k g h2 q2 g1 y
          · have := Own.below h.hw ⟨c, k, h2, g1⟩; omega
        · have hs' : E.S g := by have := hs; change S' g at this; rwa [hS2 hl] at this
          exact h.hw.stab c k g h2 g1 hs'
    · intro g hg; exact hW.slt g (S'1 g hg)
  refine ⟨E', h.carry kp (on' _ (fun b hb' => hb')) hwn, ?_, hX.os, hX.tape, hX.output, hX.size, ?_, SS', ?_, ?_, ?_⟩
  · have hR' : RV { E1 with S := S' } w1 cr.r v := by
      by_cases hl : lent = []
      · rw [hS1 hl]; exact hR
      · have hf : cr.r.flatB = true := by
          have := o8
          simp only [Bool.or_eq_true, Bool.and_eq_true, List.isEmpty_iff] at this
          exact (this.resolve_left hl).1
        exact RV.flat hf hR
    exact RV.rnm rn hr' hR'
  · intro g hg hn
    exact hX.kept g hg (fun ho => hn (inOwn' g ho))
  · intro g hg
    by_cases hl : lent = []
    · rcases hX.sfrom g (S'1 g hg) with y | y | y
      · rcases y with y | ⟨b, hb', _⟩
        · exact Or.inl y
        · rw [hl] at hb'; cases hb'
      · exact Or.inr (Or.inl (inOwn' g y))
      · exact Or.inr (Or.inr y)
    · have hs' : E.S g := by have := hg; change S' g at this; rwa [hS2 hl] at this
      exact Or.inl hs'
  · rintro g ⟨c, k, hc, hg⟩
    rcases hset_some hc with h1 | ⟨h1, h2⟩
    · obtain ⟨i, k0, z1, z2, z3⟩ := outMem c k h1
      rw [(gall i c z1).1] at hg
      exact (hX.own g ⟨i, k0, outAt1 i k0 z2, hg⟩).imp (inOwn' g) id
    · rw [(gold c (oldNot c h1).1).1] at hg
      exact Or.inl ⟨c, k, h2, hg⟩
  · intro b hb'
    exact gold b (fun hm => by have := (hfr b hm).2.2; omega)

end

theorem evCall_ok {P : Program} {G : Tab} {gl : Ctx} {σ : St} {E : Env} {a : Act} {w : World} (h : Gam gl σ E a w) {o : Oper} {c : Call} (hop : o.op = .call c) {ev : Operand → AV} {hb : Nat → Option Blk} (hB : HB hb σ.hp) {cr : CR} {r : Eff}
    (hev : ∀ x ∈ o.op.operands.toList, RV E w (ev x) (a.eval x)) (he : evCall P G gl cr ev hb c = some r) (hvc : AllP r.vc) (hfr : ∀ b ∈ r.fr, σ.fresh b) : OpSem P gl σ E a w o r := by
  unfold evCall at he
  split at he
  · rename_i cf hcf
    split at he
    · rename_i fn fs cs hfv
      split at he
      · rename_i L lent ins r' hL hins hr'
        split at he
        · rename_i hcond
          cases he
          simp only [Bool.and_eq_true] at hcond
          obtain ⟨⟨⟨⟨hfo, hfa⟩, hca⟩, hlen⟩, hok⟩ := hcond
          have hfc := hvc.1
          have hopd : o.op.operands = #[cf] ++ c.args := by rw [hop]; simp only [Op.operands, Call.operands, hcf]
          have hcfv := hev cf (by rw [hopd]; simp)
          rw [hfv] at hcfv
          obtain ⟨f', c', e, r1, r2, _, _⟩ := RV.atom rfl hcfv
          simp at e
          have hargs : RVs E w (c.args.toList.map ev) (c.args.toList.map a.eval) := RVs.map _ (fun x hx => hev x (by rw [hopd]; simp only [Array.toList_append, List.mem_append]; exact Or.inr hx))
          have hall := RVs.append (RVs.append (RVs.atoms hfa r1) hargs) (RVs.atoms hca r2)
          have hmap : (fs.toList.map (fun x => (x, Ty.unit)) ++ (c.args.toList.zip c.argTypes.toList).map (argTy G ev) ++ cs.toList.map (fun x => (x, Ty.unit))).map (·.1) = fs.toList ++ c.args.toList.map ev ++ cs.toList := by
            simp only [List.map_append, List.map_map]
            have e1 : ∀ l : List AV, l.map ((fun x : AV × Ty => x.1) ∘ fun x => (x, Ty.unit)) = l := by intro l; induction l <;> simp_all
            have e2 : ∀ (l : List Operand) (m : List TypeId), l.length = m.length → (l.zip m).map ((fun x : AV × Ty => x.1) ∘ argTy G ev) = l.map ev := by
              intro l
              induction l with
              | nil => intro m _; rfl
              | cons x l ih =>
                intro m hm
                cases m with
                | nil => simp at hm
                | cons y m =>
                  simp only [List.zip_cons_cons, List.map_cons]
                  rw [ih m (by simpa using hm)]; rfl
            rw [e1, e1, e2 _ _ (Nat.eq_of_beq_eq_true hlen)]
          have hlent := argsB_lent hL
          obtain ⟨hφ, hw1⟩ := pass_in h hB hlent hins hok
          have hv := argsB_ok h.hw hB hφ hL (fun g hg => hg) (by rw [hmap]; exact hall)
          intro K Q hK
          unfold Oper.wpIn
          refine ⟨fun _ _ => trivial, ?_⟩
          rw [Oper.semAt_eq _ _ _ (by rw [hop]; intro c h; cases h)]
          have post : ∀ (ed : Ending) (w' : World), (∃ E', ResR E' w' (.ret cr.r) ed ∧ HW gl E' w' (outH cr.m cr.out) ∧ Ext (Own (hset (List.replicate cr.m none) ins) (E.to cr.ps (E.lend lent).S)) (E.to cr.ps (E.lend lent).S) w (Own (outH cr.m cr.out) E') E' w') →
              (match ed, w' with
                | .returned v, w'' => K (a.put o.dst v) w''
                | .panicked chain, w'' => Q (.panic chain) a w''
                | .outgrown, _ => LetsOut Q) := by
            rintro ed w' ⟨E', hR, hW', hX⟩
            cases ed with
            | returned v =>
              obtain ⟨E2, g1, g2, g3⟩ := pass_out h hB hlent hins hok hfr hW' hX hr' hR
              exact hK E2 v w' g1 g2 g3
            | panicked ch => exact hR.elim
            | outgrown => exact hR.elim
          cases fn with
          | func f =>
            obtain ⟨hcall, hfn⟩ := hfc
            have hrun : (execOp a.eval o).run P w = .ok (.enter f (f'.toList ++ c.args.toList.map a.eval ++ c'.toList).toArray) w := by
              have := hcall (f' ++ c.args.map a.eval ++ c') w
              simp only [execOp, hop, resolve, hcf, e, Sem.run_bind, Deferred.ofValue, Sem.run_pure, Result.andThen_ok, invoke]
              rw [this]
              congr 2
              apply Array.ext'
              simp
            rw [hrun]
            simp only [Oper.uponIn]
            refine ⟨fun h => (by cases h), ?_⟩
            have h1 : CallsIn Fence.wide 0 P f _ w _ := callsIn_wide.2 (hfn _ w _ hv hw1)
            exact CallsIn.mono (F := Wd gl) h1 post
          | yield l =>
            have hfs : fs = .nil ∧ cs = .nil := by
              cases fs <;> cases cs <;> simp [fnOK] at hfo
              exact ⟨rfl, rfl⟩
            obtain ⟨e1, e2⟩ := hfs
            subst e1; subst e2
            have hf' : f' = #[] := by apply Array.ext'; exact r1
            have hc' : c' = #[] := by apply Array.ext'; exact r2
            subst hf'; subst hc'
            obtain ⟨fn, tmps, assign, body, hy, hr⟩ := hfc _ w _ hv hw1
            have hrun : (execOp a.eval o).run P w = .ok (.round l fn tmps assign body) w := by
              simp only [execOp, hop, resolve, hcf, e, Sem.run_bind, Deferred.ofValue, Sem.run_pure, Result.andThen_ok, invoke]
              rw [← hy]
              congr 2
              apply Array.ext'
              simp
            rw [hrun]
            simp only [Oper.uponIn]
            refine ⟨fun h => (by cases h), ?_⟩
            exact RoundIn.mono (F := Wd gl) hr post
          | _ => exact hfc.elim
        · cases he
      · cases he
    · cases he
  · cases he

end Go.Abs

/- part AbsStep -/
/- Abstract machine, part 13: one operation of a region, with its guard; runs of operations. -/
namespace Go.Abs

theorem AllP_append : ∀ {l m : List Prop}, AllP (l ++ m) → AllP l ∧ AllP m
  | [], _, h => ⟨trivial, h⟩
  | _ :: _l, _, h => ⟨⟨h.1, (AllP_append h.2).1⟩, (AllP_append h.2).2⟩

def restr (need : List Nat) (hp : List (Option Blk)) (b : Nat) : Option Blk := if hasNat b need then (hp[b]?).join else none

def tmpOf : Operand → List Nat
  | .tmp t => [t]
  | _ => []

def slotsOf (l : List Operand) : List Nat := l.flatMap tmpOf

def guardSlot (ops : Array Oper) (o : Oper) : Option Nat :=
  match o.guard with
  | none => none
  | some (j, _) => (ops[j]?).bind (·.dst)

def sameB : Bool → Bool → Bool
  | true, b => b
  | false, b => !b

/-- is the operation carried out? -/
def guardOf (ops : Array Oper) (tm : List AV) (o : Oper) : Option Bool :=
  match o.guard with
  | none => some true
  | some (j, want) => match (ops[j]?).bind (·.dst) with
    | some t => match tm[t]? with
      | some (.val .bool b) => some (sameB b want)
      | some (.tup .nil) => some false
      | _ => none
    | none => none

def dstId : Option Nat → Nat
  | some d => d + 16
  | none => 16

def isCall : Op → Bool
  | .call { callee := .builtin _, .. } => false
  | .call _ => true
  | _ => false

/-- the operations -/
def evOps (P : Program) (G : Tab) (d : Nat) (op : Op) (ev : Operand → AV) (hb : Nat → Option Blk) : Option Eff :=
  match evOp P G d op ev hb with
  | some e => some e
  | none => match evOp2 P G d op ev hb with
    | some e => some e
    | none => evOp3 P G d op ev

theorem evOps_nd {P : Program} {G : Tab} {d : Nat} {op : Op} {ev : Operand → AV} {hb : Nat → Option Blk} {r : Eff} (h : evOps P G d op ev hb = some r) : ∀ c, op ≠ .defer c := by
  intro c e; subst e; simp [evOps, evOp, evOp2, evOp3] at h

theorem evOps_ok {P : Program} {G : Tab} (T : Tied P G) {gl : Ctx} {σ : St} {E : Env} {a : Act} {w : World} (h : Gam gl σ E a w) {o : Oper} {d : Nat} {ev : Operand → AV} {hb : Nat → Option Blk} (hB : HB hb σ.hp) {r : Eff}
    (hev : ∀ x ∈ o.op.operands.toList, RV E w (ev x) (a.eval x)) (hids : ∀ x ∈ o.op.operands.toList, ∀ b ∈ (ev x).ids, b ∈ σ.ids) (he : evOps P G d o.op ev hb = some r) (hvc : AllP r.vc) (hfr : ∀ b ∈ r.fr, σ.fresh b) : OpSem0 P gl σ E a w o r := by
  unfold evOps at he
  split at he
  · rename_i e h1; cases he; exact evOp_ok0 T h hB hev hids h1 hvc hfr
  · split at he
    · rename_i e h1; cases he; exact evOp2_ok T h hB hev h1 hvc hfr
    · exact evOp3_ok T h hev he hvc hfr

/-- operations and calls; 'r': what a call gives -/
def evAll (P : Program) (G : Tab) (gl : Ctx) (d : Nat) (r : CR) (op : Op) (ev : Operand → AV) (hb : Nat → Option Blk) : Option Eff :=
  match op with
  | .call c => match c.callee with
    | .builtin _ => evOps P G d (.call c) ev hb
    | _ => evCall P G gl r ev hb c
  | op => evOps P G d op ev hb

/-- a value that is asserted -/
def assertV : Option Bool → AV → Option (AV × List Prop)
  | none, v => some (v, [])
  | some b, .val .bool e => some (.val .bool b, [e = b])
  | _, _ => none

/-- slots whose blocks are given up before the operation: it reads data there -/
def lkT : List (Nat × Ty) → Nat → Option Ty
  | [], _ => none
  | (t, ty) :: l, x => if Nat.beq t x then some ty else lkT l x

def zev (hb : Nat → Option Blk) (z : List (Nat × Ty)) (ev : Operand → AV) : Operand → AV
  | .tmp t => match lkT z t with
    | some ty => match view hb (ev (.tmp t)) false ty with
      | some (y, _) => if (ev (.tmp t)).plain then y else .bot
      | none => .bot
    | none => ev (.tmp t)
  | x => ev x

def zlent (hb : Nat → Option Blk) (ev : Operand → AV) : List (Nat × Ty) → List Nat
  | [] => []
  | (t, ty) :: l => (match view hb (ev (.tmp t)) false ty with
    | some (_, m) => m
    | none => []) ++ zlent hb ev l

def zids (ev : Operand → AV) : List (Nat × Ty) → List Nat
  | [] => []
  | (t, _) :: l => (ev (.tmp t)).ids ++ zids ev l

def noneAll : List Nat → List (Nat × Option Blk)
  | [] => []
  | b :: l => (b, none) :: noneAll l

def zslots : List (Nat × Ty) → List Nat
  | [] => []
  | (t, _) :: l => t :: zslots l

/-- the part of a region's z-list that is for operation i -/
def zat : List (Nat × Nat × Ty) → Nat → List (Nat × Ty)
  | [], _ => []
  | (j, t, ty) :: l, i => if Nat.beq j i then (t, ty) :: zat l i else zat l i

def stepOp (P : Program) (G : Tab) (gl : Ctx) (ops : Array Oper) (r : CR) (g : Option Bool) (z : List (Nat × Ty)) (σ : St) (i : Nat) : Option (Foot × List Prop) :=
  match ops[i]? with
  | none => none
  | some o =>
    match guardOf ops σ.tm o with
    | none => none
    | some false => some (⟨(guardSlot ops o).toList, [], [], o.dst, .tup .nil, []⟩, [])
    | some true =>
      match z with
      | [] => (match evAll P G gl (dstId o.dst) r o.op (evOpd gl σ.tm) (restr (needs o.op (evOpd gl σ.tm) ++ r.ps.map (·.2)) σ.hp) with
        | none => none
        | some e => match assertV g e.v with
          | some (v, vc) => some (⟨slotsOf o.op.operands.toList ++ (guardSlot ops o).toList, needs o.op (evOpd gl σ.tm) ++ r.ps.map (·.2), e.fr, o.dst, v, e.hw⟩, e.vc ++ vc)
          | none => none)
      | z => (match evAll P G gl (dstId o.dst) r o.op (zev (restr (zids (evOpd gl σ.tm) z) σ.hp) z (evOpd gl σ.tm)) (restr (needs o.op (zev (restr (zids (evOpd gl σ.tm) z) σ.hp) z (evOpd gl σ.tm)) ++ r.ps.map (·.2)) (hset σ.hp (noneAll (zlent (restr (zids (evOpd gl σ.tm) z) σ.hp) (evOpd gl σ.tm) z)))) with
        | none => none
        | some e => match assertV g e.v with
          | some (v, vc) => some (⟨slotsOf o.op.operands.toList ++ zslots z ++ (guardSlot ops o).toList, zids (evOpd gl σ.tm) z ++ (needs o.op (zev (restr (zids (evOpd gl σ.tm) z) σ.hp) z (evOpd gl σ.tm)) ++ r.ps.map (·.2)), e.fr, o.dst, v, noneAll (zlent (restr (zids (evOpd gl σ.tm) z) σ.hp) (evOpd gl σ.tm) z) ++ e.hw⟩, e.vc ++ vc)
          | none => none)

/-- a guard holds as its condition says -/
theorem wanted_guard {gl : Ctx} {σ : St} {E : Env} {a : Act} {w : World} (h : Gam gl σ E a w) {ops : Array Oper} {o : Oper} {c : Bool} (hc : guardOf ops σ.tm o = some c) : Region.wanted o (yielded ops a.tmps) = c := by
  unfold guardOf at hc
  unfold Region.wanted
  split at hc
  · rename_i hg
    cases hc; rw [hg]
  · rename_i j want hg
    rw [hg]
    split at hc
    · rename_i t ht
      have hy : ∀ v, a.tmps[t]? = some v → yielded ops a.tmps j = (match v with | .bool b => some b | _ => none) := by
        intro v hv
        unfold yielded
        rw [ht]; simp only [Option.bind_some, hv]
        cases v <;> rfl
      split at hc
      · rename_i b hb
        cases hc
        have hlt : t < a.tmps.size := by rw [h.len]; exact (List.getElem?_eq_some_iff.1 hb).1
        have hr := h.tm t _ hb a.tmps[t] (by simp [hlt])
        have hv := RV.bool_inv hr
        simp only
        rw [hy a.tmps[t] (by simp [hlt]), hv]
        cases want <;> cases b <;> rfl
      · rename_i hb
        cases hc
        have hlt : t < a.tmps.size := by rw [h.len]; exact (List.getElem?_eq_some_iff.1 hb).1
        obtain ⟨vs, e, _⟩ := h.tm t _ hb a.tmps[t] (by simp [hlt])
        simp only
        rw [hy a.tmps[t] (by simp [hlt]), e]
        rfl
      · cases hc
    · cases hc

theorem evOpd_agree {gl : Ctx} {σ σ' : St} {rt rb : List Nat} (ha : Agree σ σ' rt rb) {x : Operand} (hx : ∀ t ∈ tmpOf x, t ∈ rt) : evOpd gl σ'.tm x = evOpd gl σ.tm x := by
  cases x with
  | tmp t => simp only [evOpd]; rw [ha.tm t (hx t (by simp [tmpOf]))]
  | _ => rfl

theorem guardOf_agree {σ σ' : St} {rt rb : List Nat} (ha : Agree σ σ' rt rb) {ops : Array Oper} {o : Oper} (hx : ∀ t ∈ (guardSlot ops o).toList, t ∈ rt) : guardOf ops σ'.tm o = guardOf ops σ.tm o := by
  unfold guardOf
  unfold guardSlot at hx
  split
  · rfl
  · rename_i j want hg
    rw [hg] at hx
    simp only at hx
    split
    · rename_i t ht
      rw [ht] at hx
      rw [ha.tm t (hx t (by simp))]
    · rfl

theorem HB_restr {σ σ' : St} {rt need : List Nat} (ha : Agree σ σ' rt need) : HB (restr need σ.hp) σ'.hp := by
  intro b k hk
  unfold restr at hk
  split at hk
  · rename_i hn
    have hm : b ∈ need := by
      have key : ∀ l : List Nat, hasNat b l = true → b ∈ l := by
        intro l
        induction l with
        | nil => intro h; cases h
        | cons x l ih =>
          intro h
          simp only [hasNat, Bool.or_eq_true] at h
          rcases h with h | h
          · rw [Nat.eq_of_beq_eq_true h]; exact List.mem_cons_self ..
          · exact List.mem_cons_of_mem _ (ih h)
      exact key need hn
    rw [ha.hp b hm]
    cases hx : σ.hp[b]? with
    | none => rw [hx] at hk; cases hk
    | some y => rw [hx] at hk; simp at hk; rw [hk]
  · cases hk

theorem OpSem.wp {P : Program} {gl : Ctx} {σ : St} {E : Env} {a : Act} {w : World} {o : Oper} {r : Eff} (h : OpSem P gl σ E a w o r) {K : Act → World → Prop} {Q : Exit → Act → World → Prop} {x : AV}
    (hx : ∀ E' w' v, RV E' w' r.v v → RV E' w' x v) (hk : ∀ E' a' w', Gam gl (({ σ with hp := hset σ.hp r.hw } : St).put o.dst x) E' a' w' → Ext (Own σ.hp E) E w (Own (hset σ.hp r.hw) E') E' w' → K a' w') : o.wpIn (Wd gl) 0 P a w K Q :=
  h K Q (fun E' v w' h1 h2 h3 => hk E' _ w' (h1.put o.dst (hx E' w' v h2)) h3)

theorem evAll_ok {P : Program} {G : Tab} (T : Tied P G) {gl : Ctx} {σ : St} {E : Env} {a : Act} {w : World} (h : Gam gl σ E a w) {o : Oper} {d : Nat} {x : CR} {ev : Operand → AV} {hb : Nat → Option Blk} (hB : HB hb σ.hp) {r : Eff}
    (hev : ∀ x ∈ o.op.operands.toList, RV E w (ev x) (a.eval x)) (hids : ∀ x ∈ o.op.operands.toList, ∀ b ∈ (ev x).ids, b ∈ σ.ids) (he : evAll P G gl d x o.op ev hb = some r) (hvc : AllP r.vc) (hfr : ∀ b ∈ r.fr, σ.fresh b) : OpSem P gl σ E a w o r := by
  unfold evAll at he
  split at he
  · rename_i c hop
    split at he
    · exact (evOps_ok T h hB hev hids (by rw [hop]; exact he) hvc hfr).to (by rw [hop]; exact evOps_nd he)
    · exact evCall_ok h hop hB hev he hvc hfr
  · exact (evOps_ok T h hB hev hids he hvc hfr).to (evOps_nd he)

theorem assertV_ok {g : Option Bool} {x v : AV} {vc : List Prop} (h : assertV g x = some (v, vc)) (hvc : AllP vc) : v = x := by
  unfold assertV at h
  split at h
  · cases h; rfl
  · cases h; have := hvc.1; subst this; rfl
  · cases h

theorem noneAll_app : ∀ (l m : List Nat), noneAll (l ++ m) = noneAll l ++ noneAll m
  | [], _ => rfl
  | _ :: l, m => by simp [noneAll, noneAll_app l m]

theorem hset_app : ∀ (l m : List (Nat × Option Blk)) (hp : List (Option Blk)), hset hp (l ++ m) = hset (hset hp l) m
  | [], _, _ => rfl
  | (b, k) :: l, m, hp => by simp only [List.cons_append, hset]; exact hset_app l m _

theorem noneAll_get : ∀ {l : List Nat} {hp : List (Option Blk)} {b : Nat} {k : Blk}, (hset hp (noneAll l))[b]? = some (some k) → b ∉ l ∧ hp[b]? = some (some k)
  | [], hp, b, k, h => ⟨by simp, h⟩
  | c :: l, hp, b, k, h => by
    simp only [noneAll, hset] at h
    obtain ⟨h1, h2⟩ := noneAll_get h
    rw [List.getElem?_set] at h2
    split at h2
    · split at h2 <;> cases h2
    · rename_i hne; exact ⟨by simp only [List.mem_cons, not_or]; exact ⟨fun e => hne e.symm, h1⟩, h2⟩

/-- blocks are given up: what they hold stays as it is -/
theorem Gam.zap {gl : Ctx} {σ : St} {E : Env} {a : Act} {w : World} (h : Gam gl σ E a w) {l : List Nat} (hl : ∀ b ∈ l, ∃ k, σ.hp[b]? = some (some k)) :
    Gam gl { σ with hp := hset σ.hp (noneAll l) } (E.lend l) a w ∧ Ext (Own σ.hp E) E w (Own (hset σ.hp (noneAll l)) (E.lend l)) (E.lend l) w := by
  have hk : Keeps E w (E.lend l) w := Env.lend_le l
  have on : ∀ ids, E.on (E.lend l) ids := fun ids b _ => ⟨rfl, rfl, rfl⟩
  refine ⟨⟨h.len, fun i x hi v hv => RV.mono hk (on _) (h.tm i x hi v hv), ⟨?_, ?_, ?_, ?_, h.hw.glKeep hk⟩, RD.mono hk (fun _ _ => on _) h.df⟩, ⟨rfl, rfl, rfl, Nat.le_refl _, fun _ _ _ => rfl, fun g hg => Or.inl hg, ?_, ?_, fun _ _ => ⟨rfl, rfl, rfl⟩⟩⟩
  · intro b k hb
    exact RB.mono hk (on _) (fun _ _ => rfl) (h.hw.blk b k (noneAll_get hb).2)
  · intro b b' k k' g hb hb' h1 h2
    exact h.hw.sep b b' k k' g (noneAll_get hb).2 (noneAll_get hb').2 h1 h2
  · intro b k g hb hg hs
    obtain ⟨h1, h2⟩ := noneAll_get hb
    rcases hs with hs | ⟨c, hc, e⟩
    · exact h.hw.stab b k g h2 hg hs
    · obtain ⟨k', hk'⟩ := hl c hc
      have := h.hw.sep c b k' k g hk' h2 e hg
      subst this; exact h1 hc
  · rintro g (hs | ⟨c, hc, e⟩)
    · exact h.hw.slt g hs
    · obtain ⟨k', hk'⟩ := hl c hc
      exact Own.below h.hw ⟨c, k', hk', e⟩
  · rintro g (hs | ⟨c, hc, e⟩)
    · exact Or.inl hs
    · obtain ⟨k', hk'⟩ := hl c hc
      exact Or.inr (Or.inl ⟨c, k', hk', e⟩)
  · rintro g ⟨b, k, hb, hg⟩
    exact Or.inl ⟨b, k, (noneAll_get hb).2, hg⟩

theorem zlent_some {hb : Nat → Option Blk} {ev : Operand → AV} : ∀ {z : List (Nat × Ty)} {b : Nat}, b ∈ zlent hb ev z → ∃ k, hb b = some k
  | [], b, h => by cases h
  | (t, ty) :: l, b, h => by
    simp only [zlent, List.mem_append] at h
    rcases h with h | h
    · split at h
      · rename_i y m hv; exact view_lent hv b h
      · cases h
    · exact zlent_some h

theorem lkT_lent {hb : Nat → Option Blk} {ev : Operand → AV} {t : Nat} {ty : Ty} {y : AV} {m : List Nat} (hv : view hb (ev (.tmp t)) false ty = some (y, m)) : ∀ {z : List (Nat × Ty)}, lkT z t = some ty → ∀ b ∈ m, b ∈ zlent hb ev z
  | [], h, b, hbm => by cases h
  | (t', ty') :: l, h, b, hbm => by
    simp only [lkT] at h
    simp only [zlent, List.mem_append]
    split at h
    · rename_i e
      have e := Nat.eq_of_beq_eq_true e
      subst e; cases h
      left; rw [hv]; exact hbm
    · exact Or.inr (lkT_lent hv h b hbm)

theorem zev_ok {gl : Ctx} {σ : St} {E : Env} {a : Act} {w : World} (h : Gam gl σ E a w) {hb : Nat → Option Blk} (hB : HB hb σ.hp) {z : List (Nat × Ty)} {ev : Operand → AV} {x : Operand} (hx : RV E w (ev x) (a.eval x)) : RV (E.lend (zlent hb ev z)) w (zev hb z ev x) (a.eval x) := by
  have hk : Keeps E w (E.lend (zlent hb ev z)) w := Env.lend_le _
  have triv : RV (E.lend (zlent hb ev z)) w (ev x) (a.eval x) := RV.mono hk (fun b _ => ⟨rfl, rfl, rfl⟩) hx
  unfold zev
  split
  · rename_i t
    split
    · rename_i ty hty
      split
      · rename_i y m hv
        split
        · rename_i hp
          have h1 := view_RV0 h.hw hB hv (RV.to0 hp hx)
          refine RV.of0 (RV0.mono (E := E.lend m) (Env.lend_mono (fun b hb' => lkT_lent hv hty b hb')) (fun b _ => ⟨rfl, rfl, rfl⟩) h1)
        · trivial
      · trivial
    · exact triv
  · exact triv

theorem zev_ids {hb : Nat → Option Blk} {z : List (Nat × Ty)} {ev : Operand → AV} {x : Operand} : ∀ b ∈ (zev hb z ev x).ids, b ∈ (ev x).ids := by
  unfold zev
  intro b hb'
  split at hb'
  · split at hb'
    · split at hb'
      · rename_i y m hv
        split at hb'
        · rw [view_free hv] at hb'; cases hb'
        · cases hb'
      · cases hb'
    · exact hb'
  · exact hb'

theorem zev_congr {hb : Nat → Option Blk} {z : List (Nat × Ty)} {ev ev' : Operand → AV} {x : Operand} (h : ev x = ev' x) : zev hb z ev x = zev hb z ev' x := by
  unfold zev
  split <;> rw [h]

theorem St.ids_less {σ : St} {l : List Nat} {x : AV} (h : ∀ b ∈ x.ids, b ∈ σ.tm.flatMap AV.ids ++ σ.df.flatMap AV.ids) : ∀ b ∈ x.ids, b ∈ ({ σ with hp := hset σ.hp (noneAll l) } : St).ids := fun b hb => by
  unfold St.ids
  exact List.mem_append.2 (Or.inl (h b hb))

theorem fresh_zap {σ : St} {l : List Nat} {d : Nat} (h : σ.fresh d) : ({ σ with hp := hset σ.hp (noneAll l) } : St).fresh d := by
  refine ⟨?_, fun k hk => h.2.1 k (noneAll_get hk).2, h.2.2⟩
  have h1 := ids_sub.1 h.1
  exact ids_sub.2 ⟨h1.1, h1.2.1, fun i k hk => h1.2.2 i k (noneAll_get hk).2⟩

theorem stepOp_ok {P : Program} {G : Tab} (T : Tied P G) {gl : Ctx} {ops : Array Oper} {r : CR} {g : Option Bool} {z : List (Nat × Ty)} {σ : St} {i : Nat} {f : Foot} {vc : List Prop} (h : stepOp P G gl ops r g z σ i = some (f, vc)) (hvc : AllP vc) : OpOK P gl ops i f σ := by
  unfold stepOp at h
  split at h
  · cases h
  · rename_i o ho
    split at h
    · cases h
    · rename_i hc
      cases h
      intro σ' ha hfr E a w hg K Q hK
      unfold wpOpIn
      simp only [ho]
      have hw := wanted_guard hg (ops := ops) (o := o) (c := false) (by rw [guardOf_agree ha (fun t ht => ht)]; exact hc)
      rw [hw]
      simp only [Bool.false_eq_true, if_false]
      exact ⟨fun _ _ => trivial, hK E _ w (hg.put o.dst ⟨#[], rfl, rfl⟩) (by rw [app_hp]; exact Ext.refl _ _ _)⟩
    · rename_i hc
      split at h
      · split at h
        · cases h
        · rename_i e he
          split at h
          · rename_i v vc' hav
            cases h
            obtain ⟨hv1, hv2⟩ := AllP_append hvc
            have hv := assertV_ok hav hv2
            subst hv
            intro σ' ha hfr E a w hg K Q hK
            unfold wpOpIn
            simp only [ho]
            have hw := wanted_guard hg (ops := ops) (o := o) (c := true) (by rw [guardOf_agree ha (fun t ht => by simp at ht ⊢; exact Or.inr ht)]; exact hc)
            rw [hw]
            simp only [if_true]
            have ex : ∀ u, u ∈ o.op.operands.toList → evOpd gl σ'.tm u = evOpd gl σ.tm u := fun u hu => evOpd_agree ha (fun t ht => by simp only [List.mem_append, slotsOf, List.mem_flatMap]; exact Or.inl ⟨u, hu, ht⟩)
            have hs : OpSem P gl σ' E a w o e := by
              refine evAll_ok T hg (HB_restr ha) (ev := evOpd gl σ.tm) ?_ ?_ he hv1 hfr
              · intro x hx
                have := evOpd_ok hg x
                rw [ex x hx] at this
                exact this
              · intro x hx b hb
                rw [← ex x hx] at hb
                exact evOpd_ids b hb
            exact hs.wp (x := e.v) (fun _ _ _ h => h) (fun E' a' w' h1 h2 => hK E' a' w' h1 (by rw [app_hp]; exact h2))
          · cases h
      · split at h
        · cases h
        · rename_i e he
          split at h
          · rename_i v vc' hav
            cases h
            obtain ⟨hv1, hv2⟩ := AllP_append hvc
            have hv := assertV_ok hav hv2
            subst hv
            intro σ' ha hfr E a w hg K Q hK
            unfold wpOpIn
            simp only [ho]
            have hw := wanted_guard hg (ops := ops) (o := o) (c := true) (by rw [guardOf_agree ha (fun t ht => by simp at ht ⊢; exact Or.inr (Or.inr ht))]; exact hc)
            rw [hw]
            simp only [if_true]
            have ex : ∀ u, u ∈ o.op.operands.toList → evOpd gl σ'.tm u = evOpd gl σ.tm u := fun u hu => evOpd_agree ha (fun t ht => by simp only [List.mem_append, slotsOf, List.mem_flatMap]; exact Or.inl (Or.inl ⟨u, hu, ht⟩))
            have ha1 : Agree σ σ' [] (zids (evOpd gl σ.tm) z) := ⟨ha.tl, ha.hl, fun _ h => (List.not_mem_nil h).elim, fun b hb => ha.hp b (List.mem_append.2 (Or.inl hb))⟩
            have hB1 := HB_restr ha1
            generalize hl : zlent (restr (zids (evOpd gl σ.tm) z) σ.hp) (evOpd gl σ.tm) z = l at he hK
            have hlk : ∀ b ∈ l, ∃ k, σ'.hp[b]? = some (some k) := by
              intro b hb
              rw [← hl] at hb
              obtain ⟨k, hk⟩ := zlent_some hb
              exact ⟨k, hB1 b k hk⟩
            obtain ⟨g1, x1⟩ := hg.zap hlk
            have ha2 : Agree { σ with hp := hset σ.hp (noneAll l) } { σ' with hp := hset σ'.hp (noneAll l) } [] (needs o.op (zev (restr (zids (evOpd gl σ.tm) z) σ.hp) z (evOpd gl σ.tm)) ++ r.ps.map (·.2)) :=
              ⟨ha.tl, by simp only [hset_len]; exact ha.hl, fun _ h => (List.not_mem_nil h).elim, fun b hb => hset_same ha.hl (ha.hp b (List.mem_append.2 (Or.inr hb)))⟩
            have hs : OpSem P gl { σ' with hp := hset σ'.hp (noneAll l) } (E.lend l) a w o e := by
              refine evAll_ok T g1 (HB_restr ha2) (ev := zev (restr (zids (evOpd gl σ.tm) z) σ.hp) z (evOpd gl σ.tm)) ?_ ?_ he hv1 (fun b hb => fresh_zap (hfr b hb))
              · intro x hx
                have h0 := evOpd_ok hg x
                rw [ex x hx] at h0
                have h1 := zev_ok (z := z) hg hB1 h0
                rw [hl] at h1
                exact h1
              · intro x hx b hb
                have hb := zev_ids b hb
                rw [← ex x hx] at hb
                exact evOpd_ids (σ := { σ' with hp := hset σ'.hp (noneAll l) }) b hb
            refine hs.wp (x := e.v) (fun _ _ _ h => h) (fun E' a' w' h1 h2 => hK E' a' w' ?_ ?_)
            · simp only [hset_app, St.app] at h1 ⊢; exact h1
            · rw [app_hp]; simp only [hset_app]; exact x1.trans h2
          · cases h

def opAt (ops : Array Oper) (i : Nat) : Bool :=
  match ops[i]? with
  | some o => isCall o.op
  | none => false

/-- does a guard look at operation i? -/
def isSrc : List Oper → Nat → Bool
  | [], _ => false
  | o :: l, i => (match o.guard with | some (j, _) => Nat.beq i j | none => false) || isSrc l i

/-- a run of n operations from i on; rs: what its calls give; gs: what the guards' sources are -/
def runOps (P : Program) (G : Tab) (gl : Ctx) (ops : Array Oper) : Nat → Nat → List CR → List Bool → List (Nat × Nat × Ty) → St → Option (List Foot × List Prop × St)
  | 0, _, _, _, _, σ => some ([], [], σ)
  | n + 1, i, rs, gs, zs, σ =>
    let src := isSrc ops.toList i
    match stepOp P G gl ops (rs.headD ⟨.bot, [], [], [], 0⟩) (if src then gs.head? else none) (zat zs i) σ i with
    | none => none
    | some (f, vc) => if f.fr.all σ.freshB then (match runOps P G gl ops n (i + 1) (if opAt ops i then rs.tail else rs) (if src then gs.tail else gs) zs (σ.app f) with
      | none => none
      | some (fs, vcs, σ') => some (f :: fs, vc ++ vcs, σ')) else none

theorem runOps_ok {P : Program} {G : Tab} (T : Tied P G) {gl : Ctx} {ops : Array Oper} : ∀ {n i : Nat} {rs : List CR} {gs : List Bool} {zs : List (Nat × Nat × Ty)} {σ : St} {fs : List Foot} {vcs : List Prop} {σ' : St}, runOps P G gl ops n i rs gs zs σ = some (fs, vcs, σ') → AllP vcs → Chain P gl ops i fs σ σ' ∧ fs.length = n
  | 0, i, rs, gs, zs, σ, fs, vcs, σ', h, _ => by cases h; exact ⟨rfl, rfl⟩
  | n + 1, i, rs, gs, zs, σ, fs, vcs, σ', h, hv => by
    unfold runOps at h
    simp only at h
    split at h
    · cases h
    · rename_i f vc hs
      split at h
      · rename_i hf
        split at h
        · cases h
        · rename_i fs' vcs' σ2 hr
          cases h
          obtain ⟨h1, h2⟩ := AllP_append hv
          obtain ⟨k1, k2⟩ := runOps_ok T hr h2
          refine ⟨⟨stepOp_ok T hs h1, ?_, k1⟩, by simp [k2]⟩
          intro d hd
          simp only [List.all_eq_true] at hf
          exact St.fresh_of (hf d hd)
      · cases h

/-- a region's state behind it, what must be shown, and (where the order is drawn) whether the orders agree -/
def regSt (P : Program) (G : Tab) (gl : Ctx) (ops : Array Oper) (rs : List CR) (gs : List Bool) (zs : List (Nat × Nat × Ty)) (σ : St) : St :=
  match runOps P G gl ops ops.size 0 rs gs zs σ with
  | some (_, _, σ') => σ'
  | none => σ

def regVc (P : Program) (G : Tab) (gl : Ctx) (ops : Array Oper) (rs : List CR) (gs : List Bool) (zs : List (Nat × Nat × Ty)) (σ : St) : Option (List Prop) :=
  match runOps P G gl ops ops.size 0 rs gs zs σ with
  | some (_, vcs, _) => some vcs
  | none => none

def regVcAny (P : Program) (G : Tab) (gl : Ctx) (ops : Array Oper) (rs : List CR) (gs : List Bool) (zs : List (Nat × Nat × Ty)) (σ : St) : Option (List Prop) :=
  match runOps P G gl ops ops.size 0 rs gs zs σ with
  | some (fs, vcs, _) => if anyOK ops fs && freshAll σ fs then some vcs else none
  | none => none

theorem Chain.app {P : Program} {gl : Ctx} {ops : Array Oper} : ∀ {fs gs : List Foot} {i : Nat} {σ σ1 σ' : St}, Chain P gl ops i fs σ σ1 → Chain P gl ops (i + fs.length) gs σ1 σ' → Chain P gl ops i (fs ++ gs) σ σ'
  | [], gs, i, σ, σ1, σ', h, k => by simp only [Chain] at h; subst h; simpa using k
  | f :: fs, gs, i, σ, σ1, σ', ⟨h1, h2, h3⟩, k => ⟨h1, h2, Chain.app h3 (by rw [List.length_cons] at k; rw [show i + 1 + fs.length = i + (fs.length + 1) from by omega]; exact k)⟩

end Go.Abs

/- part AbsRun -/
/- Abstract machine, part 14: control, and whole functions. -/
namespace Go.Abs

inductive AEx where
  | normal
  | exit (id : Nat)
  | ret
  | panic (v : AV)

def ExR (E : Env) (w : World) : AEx → Exit → Prop
  | .normal, .normal => True
  | .exit i, .exit j => i = j
  | .ret, .ret => True
  | .panic x, .panic chain => ∃ u, chain = [{ v := u, recovered := false }] ∧ RV0 E w x u
  | _, _ => False

def RunPost (gl : Ctx) (Q : AEx → St → Prop) (σ : St) (E : Env) (w : World) (ex : Exit) (a' : Act) (w' : World) : Prop :=
  ∃ x σ' E', ExR E' w' x ex ∧ Q x σ' ∧ Gam gl σ' E' a' w' ∧ Ext (Own σ.hp E) E w (Own σ'.hp E') E' w'

def Run (P : Program) (gl : Ctx) (c : Code) (σ : St) (Q : AEx → St → Prop) : Prop :=
  ∀ E a w, Gam gl σ E a w → c.wpIn (Wd gl) 0 P (RunPost gl Q σ E w) a w

section
variable {P : Program} {gl : Ctx} {σ : St} {Q : AEx → St → Prop}

theorem Run.mono {c : Code} {Q' : AEx → St → Prop} (h : Run P gl c σ Q) (hq : ∀ x σ', Q x σ' → Q' x σ') : Run P gl c σ Q' :=
  fun E a w hg => wpIn_mono (h E a w hg) (fun _ _ _ ⟨x, σ', E', h1, h2, h3⟩ => ⟨x, σ', E', h1, hq _ _ h2, h3⟩)

theorem Run.skip (h : Q .normal σ) : Run P gl .skip σ Q := fun E _a _w hg => wpIn_skip ⟨.normal, σ, E, trivial, h, hg, Ext.refl _ _ _⟩
theorem Run.label {l : Nat} (h : Q .normal σ) : Run P gl (.label l) σ Q := fun E _a _w hg => wpIn_label ⟨.normal, σ, E, trivial, h, hg, Ext.refl _ _ _⟩
theorem Run.exit {i : Nat} (h : Q (.exit i) σ) : Run P gl (.exit i) σ Q := fun E _a _w hg => wpIn_exit ⟨.exit i, σ, E, rfl, h, hg, Ext.refl _ _ _⟩
theorem Run.ret (h : Q .ret σ) : Run P gl .ret σ Q := fun E _a _w hg => wpIn_ret ⟨.ret, σ, E, trivial, h, hg, Ext.refl _ _ _⟩

/-- x, then y where x ends normally -/
def thenQ (P : Program) (gl : Ctx) (y : Code) (Q : AEx → St → Prop) : AEx → St → Prop
  | .normal, σ => Run P gl y σ Q
  | x, σ => Q x σ

theorem Run.seq {x y : Code} (h : Run P gl x σ (thenQ P gl y Q)) : Run P gl (.seq x y) σ Q := by
  intro E a w hg
  refine wpIn_seq (wpIn_mono (h E a w hg) ?_)
  rintro ex a1 w1 ⟨x1, σ1, E1, h1, h2, h3, h4⟩
  cases ex with
  | normal =>
    cases x1 with
    | normal =>
      refine wpIn_mono (h2 E1 a1 w1 h3) ?_
      rintro e2 a2 w2 ⟨x2, σ2, E2, k1, k2, k3, k4⟩
      exact ⟨x2, σ2, E2, k1, k2, k3, h4.trans k4⟩
    | _ => exact h1.elim
  | _ =>
    cases x1 with
    | normal => exact h1.elim
    | _ => exact ⟨_, σ1, E1, h1, h2, h3, h4⟩

theorem Run.cond {c : Operand} {x y : Code} {b : Bool} (hc : evOpd gl σ.tm c = .val .bool b) (ht : b = true → Run P gl x σ Q) (hf : b = false → Run P gl y σ Q) : Run P gl (.cond c x y) σ Q := by
  intro E a w hg
  have hv := evOpd_ok hg c
  rw [hc] at hv
  exact wpIn_cond_split (RV.bool_inv hv) (fun h => ht h E a w hg) (fun h => hf h E a w hg)

def blockQ (id : Nat) (Q : AEx → St → Prop) : AEx → St → Prop
  | .exit i, σ => if i = id then Q .normal σ else Q (.exit i) σ
  | x, σ => Q x σ

theorem Run.block {id : Nat} {c : Code} (h : Run P gl c σ (blockQ id Q)) : Run P gl (.block id c) σ Q := by
  intro E a w hg
  refine wpIn_block (wpIn_mono (h E a w hg) ?_)
  rintro ex a1 w1 ⟨x1, σ1, E1, h1, h2, h3, h4⟩
  cases ex with
  | exit i =>
    cases x1 with
    | exit j =>
      have e : j = i := h1
      subst e
      simp only [blockQ] at h2
      simp only [Exit.inBlock]
      split
      · rename_i e; rw [if_pos e] at h2; exact ⟨.normal, σ1, E1, trivial, h2, h3, h4⟩
      · rename_i e; rw [if_neg e] at h2; exact ⟨.exit j, σ1, E1, rfl, h2, h3, h4⟩
    | _ => exact h1.elim
  | _ => cases x1 <;> first | exact h1.elim | exact ⟨_, σ1, E1, h1, h2, h3, h4⟩

/-- a loop: R n: the states at a round's head from which at most n rounds go on -/
def loopQ (R : Nat → St → Prop) (n : Nat) (Q : AEx → St → Prop) : AEx → St → Prop
  | .normal, σ => ∃ m, m < n ∧ R m σ
  | x, σ => Q x σ

theorem Run.loop {c : Code} (R : Nat → St → Prop) (hR : ∀ n σ, R n σ → Run P gl c σ (loopQ R n Q)) {n : Nat} (h0 : R n σ) : Run P gl (.loop c) σ Q := by
  intro E0 a0 w0 hg0 b k cs hro hb hr0
  have key : ∀ n σ1 E1 a1 w1, R n σ1 → Gam gl σ1 E1 a1 w1 → Ext (Own σ.hp E0) E0 w0 (Own σ1.hp E1) E1 w1 →
      ∃ e a' w', RunPost gl Q σ E0 w0 e a' w' ∧ ArrivesIn (Machine.fenced P (Wd gl)) P (lone (b.atR a1 (.code c :: .inLoop c :: k)) cs w1) b k cs e a' w' := by
    intro n
    induction n using Nat.strongRecOn with
    | _ n ih =>
      intro σ1 E1 a1 w1 hr hg hx
      obtain ⟨e, a2, w2, ⟨x, σ2, E2, h1, h2, h3, h4⟩, harr⟩ := hR n σ1 hr E1 a1 w1 hg b (.inLoop c :: k) cs hro hb hr0
      cases e with
      | normal =>
        cases x with
        | normal =>
          obtain ⟨m, hm, hr2⟩ := h2
          obtain ⟨e₂, a₂, w₂, hq₂, harr₂⟩ := ih m hm σ2 E2 a2 w2 hr2 h3 (hx.trans h4)
          exact ⟨e₂, a₂, w₂, hq₂, .of_steps (StepsIn.trans harr (.one (fenced_calm hb hr0 rfl) stepR_inLoop)) harr₂⟩
        | _ => exact h1.elim
      | exit id => exact ⟨_, a2, w2, ⟨x, σ2, E2, h1, by cases x <;> first | exact h1.elim | exact h2, h3, hx.trans h4⟩, .pass (x := .inLoop c) rfl (fun _ _ => .inl (by simp)) harr⟩
      | goto l => cases x <;> exact h1.elim
      | ret => exact ⟨_, a2, w2, ⟨x, σ2, E2, h1, by cases x <;> first | exact h1.elim | exact h2, h3, hx.trans h4⟩, .pass (x := .inLoop c) rfl (fun _ _ => .inl (by simp)) harr⟩
      | panic ch => exact ⟨_, a2, w2, ⟨x, σ2, E2, h1, by cases x <;> first | exact h1.elim | exact h2, h3, hx.trans h4⟩, .pass (x := .inLoop c) rfl (fun _ _ => .inl (by simp)) harr⟩
      | outgrown => cases x <;> exact h1.elim
  obtain ⟨e, a', w', hq, harr⟩ := key n σ E0 a0 w0 h0 hg0 (Ext.refl _ _ _)
  exact ⟨e, a', w', hq, .of_steps (.one (fenced_calm hb hr0 rfl) stepR_loop) harr⟩

/-- a region in the text's order -/
theorem Run.reg {G : Tab} (T : Tied P G) {id : Nat} {ops : Array Oper} (rs : List CR) (gs : List Bool) (zs : List (Nat × Nat × Ty)) (vcs : List Prop) (h : regVc P G gl ops rs gs zs σ = some vcs) (hv : AllP vcs) (hq : Q .normal (regSt P G gl ops rs gs zs σ)) : Run P gl (.region id ops false) σ Q := by
  unfold regVc at h
  unfold regSt at hq
  split at h
  · rename_i fs vcs' σ' hr
    cases h
    obtain ⟨hc, hn⟩ := runOps_ok T hr hv
    rw [hr] at hq
    exact fun E _ _ hg => region_seq hn hc hg (fun E' _ _ h1 h2 => ⟨.normal, σ', E', trivial, hq, h1, h2⟩)
  · cases h

/-- a region that draws its order -/
theorem Run.regA {G : Tab} (T : Tied P G) {id : Nat} {ops : Array Oper} (rs : List CR) (gs : List Bool) (zs : List (Nat × Nat × Ty)) (vcs : List Prop) (h : regVcAny P G gl ops rs gs zs σ = some vcs) (hv : AllP vcs) (hq : Q .normal (regSt P G gl ops rs gs zs σ)) : Run P gl (.region id ops true) σ Q := by
  unfold regVcAny at h
  unfold regSt at hq
  split at h
  · rename_i fs vcs' σ' hr
    split at h
    · rename_i hok
      cases h
      simp only [Bool.and_eq_true] at hok
      obtain ⟨hc, hn⟩ := runOps_ok T hr hv
      rw [hr] at hq
      exact fun E _ _ hg => region_any T hok.1 hok.2 hc hg (fun E' _ _ h1 h2 => ⟨.normal, σ', E', trivial, hq, h1, h2⟩)
    · cases h
  · cases h

/-- the same ahead of other code -/
theorem Run.sreg {G : Tab} (T : Tied P G) {id : Nat} {ops : Array Oper} {y : Code} (rs : List CR) (gs : List Bool) (zs : List (Nat × Nat × Ty)) (vcs : List Prop) (h : regVc P G gl ops rs gs zs σ = some vcs) (hv : AllP vcs) (hq : Run P gl y (regSt P G gl ops rs gs zs σ) Q) : Run P gl (.seq (.region id ops false) y) σ Q :=
  Run.seq (Run.reg T rs gs zs vcs h hv hq)

theorem Run.sregA {G : Tab} (T : Tied P G) {id : Nat} {ops : Array Oper} {y : Code} (rs : List CR) (gs : List Bool) (zs : List (Nat × Nat × Ty)) (vcs : List Prop) (h : regVcAny P G gl ops rs gs zs σ = some vcs) (hv : AllP vcs) (hq : Run P gl y (regSt P G gl ops rs gs zs σ) Q) : Run P gl (.seq (.region id ops true) y) σ Q :=
  Run.seq (Run.regA T rs gs zs vcs h hv hq)

/-- what the data in a slot give -/
theorem Run.wf {c : Code} (i : Nat) {t : Ty} {x : t.den} (hi : σ.tm[i]? = some (.val t x)) (h : Abs.wf t x → Run P gl c σ Q) : Run P gl c σ Q := by
  intro E a w hg
  have hlt : i < a.tmps.size := by rw [hg.len]; exact (List.getElem?_eq_some_iff.1 hi).1
  have hv := hg.tm i _ hi a.tmps[i] (by simp [hlt])
  refine h ?_ E a w hg
  rcases hv with ⟨_, cs, _, h⟩ | ⟨_, h⟩ <;> exact Rel.wf h

/-! whole functions -/

def resList (G : Tab) (σ : St) : List ResultVar → Option (List AV)
  | [] => some []
  | .tmp t :: l => match σ.tm[t]?, resList G σ l with
    | some x, some xs => if x.plain then some (x :: xs) else none
    | _, _ => none
  | .cell t ty :: l => match σ.tm[t]?, resList G σ l with
    | some x, some xs => match evLoad G (fun b => (σ.hp[b]?).join) ty x with
      | some y => if y.plain then some (y :: xs) else none
      | none => none
    | _, _ => none

def AV.ofList : List AV → AV
  | [] => .nil
  | x :: l => .cons x (AV.ofList l)

def resAV (G : Tab) (rs : List ResultVar) (σ : St) : Option AV :=
  match resList G σ rs with
  | some [x] => some x
  | some l => some (.tup (AV.ofList l))
  | none => none

/-- the blocks of H' are among those of hp -/
def prune : List (Option Blk) → List Bool → List (Option Blk)
  | x :: l, true :: m => x :: prune l m
  | _ :: l, false :: m => none :: prune l m
  | _, [] => []
  | [], _ => []

theorem prune_get {b : Nat} {k : Blk} : ∀ {l : List (Option Blk)} {m : List Bool}, (prune l m)[b]? = some (some k) → l[b]? = some (some k) := by
  intro l
  induction l generalizing b with
  | nil => intro m h; cases m <;> simp [prune] at h
  | cons x l ih =>
    intro m h
    cases m with
    | nil => simp [prune] at h
    | cons y m =>
      cases b with
      | zero => cases y <;> simp [prune] at h; simpa using h
      | succ b => cases y <;> simp [prune] at h <;> simpa using ih h

theorem HW.prune {E : Env} {w : World} {hp : List (Option Blk)} (h : HW gl E w hp) (m : List Bool) : HW gl E w (Abs.prune hp m) where
  blk := fun b k hb => h.blk b k (prune_get hb)
  sep := fun b b' k k' g h1 h2 => h.sep b b' k k' g (prune_get h1) (prune_get h2)
  stab := fun b k g h1 => h.stab b k g (prune_get h1)
  slt := h.slt
  gl := h.gl

theorem Ext.prune {O : Nat → Prop} {E E' : Env} {w w' : World} {hp : List (Option Blk)} (h : Ext O E w (Own hp E') E' w') (m : List Bool) : Ext O E w (Own (Abs.prune hp m) E') E' w' :=
  { h with own := fun g ⟨b, k, hb, hg⟩ => h.own g ⟨b, k, prune_get hb, hg⟩ }

def resOf (tmps : Array Value) : ResultVar → Sem Value
  | .tmp t => pure (tmps.getD t undef)
  | .cell c t => do loadVar t (← asAddr (tmps.getD c undef))

theorem results_eq (fn : Func) (tmps : Array Value) : results fn tmps = (do
    let vs ← fn.results.mapM (resOf tmps)
    pure (if h : vs.size = 1 then vs[0] else .tuple vs)) := by
  unfold results
  congr 2

theorem resList_ok {G : Tab} (T : Tied P G) {E : Env} {a : Act} {w : World} (hg : Gam gl σ E a w) : ∀ {rs : List ResultVar} {xs : List AV}, resList G σ rs = some xs →
    ∃ vs : List Value, (rs.mapM (resOf a.tmps)).run P w = .ok vs w ∧ RT E w (AV.ofList xs) vs ∧ vs.length = xs.length
  | [], xs, h => by cases h; exact ⟨[], by simp, rfl, rfl⟩
  | .tmp t :: l, xs, h => by
    unfold resList at h
    split at h
    · rename_i x xs' hx hl
      split at h
      · rename_i hp
        cases h
        obtain ⟨vs, h1, h2, h3⟩ := resList_ok T hg hl
        have hlt : t < a.tmps.size := by rw [hg.len]; exact (List.getElem?_eq_some_iff.1 hx).1
        have hv := hg.tm t _ hx a.tmps[t] (by simp [hlt])
        refine ⟨a.tmps[t] :: vs, ?_, ⟨RV.to0 hp hv, h2⟩, by simp [h3]⟩
        simp only [List.mapM_cons, Sem.run_bind, resOf, Sem.run_pure, Result.andThen_ok, h1]
        simp [hlt]
      · cases h
    · cases h
  | .cell t ty :: l, xs, h => by
    unfold resList at h
    split at h
    · rename_i x xs' hx hl
      split at h
      · rename_i y hy
        split at h
        · rename_i hp
          cases h
          obtain ⟨vs, h1, h2, h3⟩ := resList_ok T hg hl
          have hlt : t < a.tmps.size := by rw [hg.len]; exact (List.getElem?_eq_some_iff.1 hx).1
          have hv := hg.tm t _ hx a.tmps[t] (by simp [hlt])
          have hB : HB (fun b => (σ.hp[b]?).join) σ.hp := by
            intro b k hk
            cases hh : σ.hp[b]? with
            | none => simp [hh] at hk
            | some z => simp [hh] at hk; rw [hk]
          obtain ⟨u, h4, h5⟩ := evLoad_ok T hg.hw hB hv hy
          have h4' : (do loadVar ty (← asAddr (a.tmps.getD t undef)) : Sem Value).run P w = .ok u w := by
            have e : a.tmps.getD t undef = a.tmps[t] := by simp [hlt]
            rw [e]
            simp only [Instr.loadAt, Sem.run_bind] at h4 ⊢
            cases hq : a.tmps[t] with
            | pointer p =>
              cases p with
              | some ad => rw [hq] at h4; simpa [Instr.sureAddr, asAddr] using h4
              | none => rw [hq] at h4; simp [Instr.sureAddr] at h4
            | _ => rw [hq] at h4; simp [Instr.sureAddr] at h4
          refine ⟨u :: vs, ?_, ⟨RV.to0 hp h5, h2⟩, by simp [h3]⟩
          simp only [List.mapM_cons, Sem.run_bind, resOf]
          simp only [Sem.run_bind] at h4'
          rw [h4']
          simp only [Result.andThen_ok, h1, Sem.run_pure]
        · cases h
      · cases h
    · cases h

end
end Go.Abs

/- part AbsFn -/
/- Abstract machine, part 15: a function's contract out of the run of its body; calls by contract. -/
namespace Go.Abs

/-- a value read as data of a type, where one is named -/
def pur1 : Option Ty → AV → Option AV
  | none, x => some x
  | some t, x => match x.toDen t with
    | some y => some (.val t y)
    | none => none

def purL : List (Option Ty) → AV → Option AV
  | [], .nil => some .nil
  | t :: ts, .cons x l => match pur1 t x, purL ts l with
    | some y, some m => some (.cons y m)
    | _, _ => none
  | _, _ => none

def pur : List (Option Ty) → AV → Option AV
  | ts, .tup l => (purL ts l).map .tup
  | [t], x => if x.plain then pur1 t x else none
  | _, _ => none

theorem pur1_ok {E : Env} {w : World} {t : Option Ty} {x y : AV} {v : Value} (h : pur1 t x = some y) (hr : RV0 E w x v) : RV0 E w y v := by
  unfold pur1 at h
  split at h
  · cases h; exact hr
  · split at h
    · rename_i z hz; cases h; exact RV0.toDen hz hr
    · cases h

theorem purL_ok {E : Env} {w : World} : ∀ {ts : List (Option Ty)} {x y : AV} {vs : List Value}, purL ts x = some y → RT E w x vs → RT E w y vs := by
  intro ts
  induction ts with
  | nil => intro x y vs h hr; cases x <;> simp [purL] at h; subst h; exact hr
  | cons t ts ih =>
    intro x y vs h hr
    cases x with
    | cons a l =>
      simp only [purL] at h
      split at h
      · rename_i a' l' h1 h2
        cases h
        cases vs with
        | nil => exact hr.elim
        | cons v vs => exact ⟨pur1_ok h1 hr.1, ih h2 hr.2⟩
      · cases h
    | _ => simp [purL] at h

theorem pur_ok {E : Env} {w : World} {ts : List (Option Ty)} {x y : AV} {v : Value} (h : pur ts x = some y) (hr : RV E w x v) : RV E w y v := by
  unfold pur at h
  split at h
  · rename_i l
    simp only [Option.map_eq_some_iff] at h
    obtain ⟨m, hm, e⟩ := h
    subst e
    obtain ⟨vs, e, hr⟩ := hr
    exact ⟨vs, e, purL_ok hm hr⟩
  · split at h
    · rename_i hp; exact RV.of0 (pur1_ok h (RV.to0 hp hr))
    · cases h
  · cases h

def bodyQ (G : Tab) (rs : List ResultVar) (r : ARes) (H' : List (Option Blk)) : AEx → St → Prop
  | .normal, σ => σ.df = [] ∧ ∃ x y ts m, resAV G rs σ = some x ∧ pur ts x = some y ∧ r = .ret y ∧ prune σ.hp m = H'
  | .ret, σ => σ.df = [] ∧ ∃ x y ts m, resAV G rs σ = some x ∧ pur ts x = some y ∧ r = .ret y ∧ prune σ.hp m = H'
  | .panic v, σ => σ.df = [] ∧ ∃ m, r = .pan v ∧ prune σ.hp m = H'
  | _, _ => False

/-- what a function gives back from this state -/
def fin (G : Tab) (rs : List ResultVar) (ts : List (Option Ty)) (m : List Bool) (σ : St) : Option (AV × List (Option Blk)) :=
  match σ.df, resAV G rs σ with
  | [], some x => match pur ts x with
    | some y => some (y, prune σ.hp m)
    | none => none
  | _, _ => none

theorem bodyQ_fin {G : Tab} {rs : List ResultVar} (ts : List (Option Ty)) (m : List Bool) {σ : St} {y : AV} {H' : List (Option Blk)} (h : fin G rs ts m σ = some (y, H')) : bodyQ G rs (.ret y) H' .ret σ ∧ bodyQ G rs (.ret y) H' .normal σ := by
  unfold fin at h
  split at h
  · rename_i x hd hx
    split at h
    · rename_i z hz
      cases h
      exact ⟨⟨hd, x, _, ts, m, hx, hz, rfl, rfl⟩, ⟨hd, x, _, ts, m, hx, hz, rfl, rfl⟩⟩
    · cases h
  · cases h

theorem resAV_ok {P : Program} {G : Tab} (T : Tied P G) {gl : Ctx} {σ : St} {E : Env} {a : Act} {w : World} (hg : Gam gl σ E a w) {fn : Func} {x : AV} (h : resAV G fn.results.toList σ = some x) : ∃ v, (results fn a.tmps).run P w = .ok v w ∧ RV E w x v := by
  have key : ∀ xs, resList G σ fn.results.toList = some xs → ∃ vs : Array Value, (fn.results.mapM (resOf a.tmps)).run P w = .ok vs w ∧ RT E w (AV.ofList xs) vs.toList ∧ vs.toList.length = xs.length := by
    intro xs hx
    obtain ⟨vs, h1, h2, h3⟩ := resList_ok T hg hx
    refine ⟨vs.toArray, ?_, by simpa using h2, by simpa using h3⟩
    rw [Array.mapM_eq_mapM_toList]
    simp only [Sem.run_map]
    rw [h1]; rfl
  unfold resAV at h
  split at h
  · rename_i y hy
    cases h
    obtain ⟨vs, h1, h2, h3⟩ := key _ hy
    obtain ⟨l⟩ := vs
    cases l with
    | nil => simp at h3
    | cons v l =>
      cases l with
      | cons _ _ => simp at h3
      | nil =>
        refine ⟨v, ?_, RV.of0 h2.1⟩
        rw [results_eq]
        simp only [Sem.run_bind]
        rw [h1]
        simp
  · rename_i xs hne hxs
    cases h
    obtain ⟨vs, h1, h2, h3⟩ := key _ hxs
    refine ⟨.tuple vs, ?_, ⟨vs, rfl, h2⟩⟩
    rw [results_eq]
    simp only [Sem.run_bind]
    rw [h1]
    have : ¬ vs.size = 1 := by
      intro e
      rw [Array.length_toList, e] at h3
      match xs, h3 with
      | [y], _ => exact hne y rfl
    simp [this]
  · cases h

theorem FnEx.of_run {P : Program} {G : Tab} (T : Tied P G) {gl : Ctx} {f : FuncId} {fn : Func} {c : Code} (hf : P.funcs[f]? = some fn) (hb : fn.body = some c) (hro : gl.ro = none) {args : List AV} {H H' : List (Option Blk)} {r : ARes} {n : Nat} (hn : fn.ntmps - args.length = n)
    (h : Run P gl c ⟨args ++ List.replicate n .bot, H, []⟩ (bodyQ G fn.results.toList r H')) : FnEx P gl f args H r H' := by
  intro E w vs hv hw
  obtain ⟨hl, hget⟩ := hv.get
  refine CallsIn.calls (F := Wd gl) (n := 0) (callsIn_of_wp hf hb trivial ?_ hro) (fun k d hd => by cases hd)
  have hg : Gam gl ⟨args ++ List.replicate n .bot, H, []⟩ E { tmps := vs.toArray ++ Array.replicate (fn.ntmps - vs.toArray.size) undef, defers := [] } w := by
    refine ⟨?_, ?_, hw, trivial⟩
    · simp only [Array.size_append, List.size_toArray, Array.size_replicate, List.length_append, List.length_replicate]
      rw [← hn, hl]
    · intro i x hx v hv'
      rw [Array.getElem?_append] at hv'
      simp only [List.getElem?_append] at hx
      split at hx
      · rename_i hi
        rw [if_pos (by simpa [hl] using hi)] at hv'
        exact hget i x v hx (by simpa using hv')
      · rw [List.getElem?_replicate] at hx
        split at hx
        · cases hx; trivial
        · cases hx
  refine wpIn_mono (h E _ w hg) ?_
  rintro ex a' w' ⟨x, σ', E', h1, h2, h3, h4⟩
  have hdf : ∀ l, σ'.df = [] → RD E' w' σ'.df l → l = [] := by
    intro l e hd
    rw [e] at hd
    cases l with
    | nil => rfl
    | cons d l => exact hd.elim
  cases ex with
  | normal =>
    cases x with
    | normal =>
      obtain ⟨hd, x, y, ts, m, r1, r2, r3, r4⟩ := h2
      obtain ⟨v, k1, k2⟩ := resAV_ok T h3 r1
      subst r3; subst r4
      exact ⟨hdf _ hd h3.df, v, k1, E', pur_ok r2 k2, h3.hw.prune m, h4.prune m⟩
    | _ => exact h1.elim
  | ret =>
    cases x with
    | ret =>
      obtain ⟨hd, x, y, ts, m, r1, r2, r3, r4⟩ := h2
      obtain ⟨v, k1, k2⟩ := resAV_ok T h3 r1
      subst r3; subst r4
      exact ⟨hdf _ hd h3.df, v, k1, E', pur_ok r2 k2, h3.hw.prune m, h4.prune m⟩
    | _ => exact h1.elim
  | panic chain =>
    cases x with
    | panic y =>
      obtain ⟨hd, m, r3, r4⟩ := h2
      subst r3; subst r4
      exact ⟨hdf _ hd h3.df, E', h1, h3.hw.prune m, h4.prune m⟩
    | _ => exact h1.elim
  | exit i => cases x <;> first | exact h1.elim | exact h2.elim
  | goto l => cases x <;> exact h1.elim
  | outgrown => cases x <;> exact h1.elim

end Go.Abs

/- part AbsWk -/
/- Abstract machine, part 17: steps of the mind alone: forgetting, reading as data, freezing, renaming. -/
namespace Go.Abs

def Wk (gl : Ctx) (σ σ' : St) : Prop :=
  ∀ E a w, Gam gl σ E a w → ∃ E', Gam gl σ' E' a w ∧ Ext (Own σ.hp E) E w (Own σ'.hp E') E' w

theorem Wk.refl (gl : Ctx) (σ : St) : Wk gl σ σ := fun E _ _ h => ⟨E, h, Ext.refl _ _ _⟩

theorem Wk.trans {gl : Ctx} {σ σ1 σ2 : St} (h : Wk gl σ σ1) (k : Wk gl σ1 σ2) : Wk gl σ σ2 := fun E a w hg => by
  obtain ⟨E1, g1, x1⟩ := h E a w hg
  obtain ⟨E2, g2, x2⟩ := k E1 a w g1
  exact ⟨E2, g2, x1.trans x2⟩

/-! forgetting -/

def keepT (ts : List Nat) : Nat → List AV → List AV
  | _, [] => []
  | i, x :: l => (if hasNat i ts then x else .bot) :: keepT ts (i + 1) l

def keepB (bs : List Nat) : Nat → List (Option Blk) → List (Option Blk)
  | _, [] => []
  | i, x :: l => (if hasNat i bs then x else none) :: keepB bs (i + 1) l

theorem keepT_get {ts : List Nat} : ∀ {l : List AV} {i j : Nat} {x : AV}, (keepT ts i l)[j]? = some x → x = .bot ∨ l[j]? = some x
  | [], i, j, x, h => by simp [keepT] at h
  | y :: l, i, 0, x, h => by
    simp only [keepT, List.getElem?_cons_zero, Option.some.injEq] at h
    split at h
    · exact Or.inr (by simp [h])
    · exact Or.inl h.symm
  | y :: l, i, j + 1, x, h => by
    simp only [keepT, List.getElem?_cons_succ] at h
    simpa using keepT_get h

theorem keepT_len {ts : List Nat} : ∀ {l : List AV} {i : Nat}, (keepT ts i l).length = l.length
  | [], _ => rfl
  | _ :: l, i => by simp [keepT, keepT_len (l := l)]

theorem keepB_get {bs : List Nat} {k : Blk} : ∀ {l : List (Option Blk)} {i j : Nat}, (keepB bs i l)[j]? = some (some k) → l[j]? = some (some k)
  | [], i, j, h => by simp [keepB] at h
  | y :: l, i, 0, h => by
    simp only [keepB, List.getElem?_cons_zero, Option.some.injEq] at h
    split at h
    · simp [h]
    · cases h
  | y :: l, i, j + 1, h => by
    simp only [keepB, List.getElem?_cons_succ] at h
    simpa using keepB_get h

theorem HW.less {gl : Ctx} {E : Env} {w : World} {hp hp' : List (Option Blk)} (h : HW gl E w hp) (hs : ∀ (b : Nat) (k : Blk), hp'[b]? = some (some k) → hp[b]? = some (some k)) : HW gl E w hp' where
  blk := fun b k hb => h.blk b k (hs b k hb)
  sep := fun b b' k k' g h1 h2 => h.sep b b' k k' g (hs _ _ h1) (hs _ _ h2)
  stab := fun b k g h1 => h.stab b k g (hs _ _ h1)
  slt := h.slt
  gl := h.gl

theorem Wk.keep (gl : Ctx) (σ : St) (ts bs : List Nat) : Wk gl σ ⟨keepT ts 0 σ.tm, keepB bs 0 σ.hp, σ.df⟩ := by
  intro E a w h
  refine ⟨E, ⟨by rw [keepT_len]; exact h.len, ?_, h.hw.less (fun b k hb => keepB_get hb), h.df⟩, { Ext.refl (Own σ.hp E) E w with own := ?_ }⟩
  · intro i x hx v hv
    rcases keepT_get hx with e | e
    · subst e; trivial
    · exact h.tm i x e v hv
  · rintro g ⟨b, k, hb, hg⟩
    exact Or.inl ⟨b, k, keepB_get hb, hg⟩

/-! reading as data -/

theorem Wk.purT {gl : Ctx} {σ : St} {s : Nat} {t : Ty} {x : AV} {y : t.den} (hx : σ.tm[s]? = some x) (hy : x.toDen t = some y) : Wk gl σ { σ with tm := σ.tm.set s (.val t y) } := by
  intro E a w h
  refine ⟨E, ⟨by simp [h.len], ?_, h.hw, h.df⟩, Ext.refl _ _ _⟩
  intro i z hz v hv
  rw [List.getElem?_set] at hz
  split at hz
  · rename_i e; subst e
    split at hz
    · cases hz
      have hr := h.tm s x hx v hv
      have hp : x.plain = true := by cases x <;> first | rfl | (cases t <;> simp [AV.toDen] at hy)
      exact RV.of0 (RV0.toDen hy (RV.to0 hp hr))
    · cases hz
  · exact h.tm i z hz v hv

theorem Wk.purB {gl : Ctx} {σ : St} {b : Nat} {t : Ty} {v : AV} {y : t.den} (hb : σ.hp[b]? = some (some (.var t v))) (hy : v.toDen t = some y) : Wk gl σ { σ with hp := σ.hp.set b (some (.var t (.val t y))) } := by
  intro E a w h
  have hk := h.hw.blk b _ hb
  obtain ⟨h1, h2, g, c, e, h3, h4, h5⟩ := hk
  have hw := h.hw.write (w' := w) (k' := .var t (.val t y)) hb rfl (fun _ _ => rfl) ⟨h1, Ty.same_refl t, g, c, e, h3, h4, RC.toDen hy h5⟩
  refine ⟨E, ⟨h.len, h.tm, hw, h.df⟩, { Ext.refl (Own σ.hp E) E w with own := ?_ }⟩
  intro g' hg'
  exact Or.inl (Own.set hb hg')

/-! changing every value -/

def mapT (φ : AV → Option AV) : List AV → List AV
  | [] => []
  | x :: l => (if x.plain then (match φ x with | some y => y | none => .bot) else .bot) :: mapT φ l

def mapD (φ : AV → Option AV) : List AV → Option (List AV)
  | [] => some []
  | x :: l => match φ x, mapD φ l with
    | some y, some m => some (y :: m)
    | _, _ => none

def mapK (φ : AV → Option AV) : Option Blk → Option (Option Blk)
  | some (.var t v) => match φ v with
    | some u => if u.conf t then some (some (.var t u)) else none
    | none => none
  | some (.tv g t v) => match φ v with
    | some u => if u.conf t then some (some (.tv g t u)) else none
    | none => none
  | k => some k

def mapB (φ : AV → Option AV) : List (Option Blk) → Option (List (Option Blk))
  | [] => some []
  | k :: l => match mapK φ k, mapB φ l with
    | some k', some m => some (k' :: m)
    | _, _ => none

theorem mapT_len {φ : AV → Option AV} : ∀ {l : List AV}, (mapT φ l).length = l.length
  | [] => rfl
  | _ :: l => by simp [mapT, mapT_len (l := l)]

theorem mapT_get {φ : AV → Option AV} : ∀ {l : List AV} {i : Nat} {y : AV}, (mapT φ l)[i]? = some y → y = .bot ∨ ∃ x, l[i]? = some x ∧ x.plain = true ∧ φ x = some y
  | [], i, y, h => by simp [mapT] at h
  | x :: l, 0, y, h => by
    simp only [mapT, List.getElem?_cons_zero, Option.some.injEq] at h
    split at h
    · rename_i hp
      split at h
      · rename_i z hz; exact Or.inr ⟨x, rfl, hp, by rw [hz, h]⟩
      · exact Or.inl h.symm
    · exact Or.inl h.symm
  | x :: l, i + 1, y, h => by
    simp only [mapT, List.getElem?_cons_succ] at h
    simpa using mapT_get h

theorem mapB_get {φ : AV → Option AV} : ∀ {l m : List (Option Blk)}, mapB φ l = some m → ∀ {i : Nat} {k : Blk}, m[i]? = some (some k) → ∃ k0, l[i]? = some (some k0) ∧ mapK φ (some k0) = some (some k)
  | [], m, h, i, k, hk => by cases h; simp at hk
  | x :: l, m, h, i, k, hk => by
    simp only [mapB] at h
    split at h
    · rename_i k' m' h1 h2
      cases h
      cases i with
      | zero =>
        simp at hk
        subst hk
        cases x with
        | none => simp [mapK] at h1
        | some x => exact ⟨x, rfl, h1⟩
      | succ i => obtain ⟨k0, e1, e2⟩ := mapB_get h2 (i := i) (by simpa using hk); exact ⟨k0, by simpa using e1, e2⟩
    · cases h

theorem mapB_len {φ : AV → Option AV} : ∀ {l m : List (Option Blk)}, mapB φ l = some m → m.length = l.length
  | [], m, h => by cases h; rfl
  | x :: l, m, h => by
    simp only [mapB] at h
    split at h
    · rename_i h2; cases h; simp [mapB_len h2]
    · cases h

def St.mapAV (φ : AV → Option AV) (σ : St) : Option St :=
  match mapB φ σ.hp, mapD φ σ.df with
  | some hp, some df => some ⟨mapT φ σ.tm, hp, df⟩
  | _, _ => none

structure Good (E E' : Env) (w : World) (φ : AV → Option AV) : Prop where
  rc : ∀ x y vs, φ x = some y → RC E w x vs → RC E' w y vs
  agg : ∀ x y, φ x = some y → y.isAgg = x.isAgg
  fn : ∀ fn fs cs y, φ (.func fn fs cs) = some y → ∃ fs' cs', y = .func fn fs' cs' ∧ φ fs = some fs' ∧ φ cs = some cs' ∧ fs'.atoms = true ∧ cs'.atoms = true
  mp : ∀ b y, φ (.mp b) = some y → ∃ b', y = .mp b' ∧ E'.g b' = E.g b

theorem Good.RV {E E' : Env} {w : World} {φ : AV → Option AV} (g : Good E E' w φ) {x y : AV} {v : Value} (h : φ x = some y) (hr : RV0 E w x v) : RV0 E' w y v := by
  rcases hr with ⟨h1, cs, e, h2⟩ | ⟨h1, h2⟩
  · exact Or.inl ⟨by rw [g.agg x y h]; exact h1, cs, e, g.rc x y _ h h2⟩
  · exact Or.inr ⟨by rw [g.agg x y h]; exact h1, g.rc x y _ h h2⟩

theorem Good.RD {E E' : Env} {w : World} {φ : AV → Option AV} (g : Good E E' w φ) : ∀ {l m : List AV} {ds : List Deferred}, mapD φ l = some m → Abs.RD E w l ds → Abs.RD E' w m ds
  | [], m, ds, h, hr => by
    cases h
    cases ds with
    | nil => trivial
    | cons _ _ => exact hr.elim
  | x :: l, m, ds, h, hr => by
    simp only [mapD] at h
    split at h
    · rename_i y m' h1 h2
      cases h
      cases ds with
      | nil => cases x <;> exact hr.elim
      | cons d ds =>
        cases x with
        | func fn fs cs =>
          obtain ⟨fs', cs', e, k1, k2, k3, k4⟩ := g.fn fn fs cs y h1
          subst e
          obtain ⟨⟨f, c, e, r1, r2, r3, r4⟩, r5⟩ := hr
          exact ⟨⟨f, c, e, g.rc _ _ _ k1 r1, g.rc _ _ _ k2 r2, k3, k4⟩, g.RD h2 r5⟩
        | mp b =>
          obtain ⟨b', e, k1⟩ := g.mp b y h1
          subst e
          obtain ⟨⟨i, e1, e2⟩, r5⟩ := hr
          exact ⟨⟨i, by rw [k1]; exact e1, e2⟩, g.RD h2 r5⟩
        | _ => exact hr.elim
    · cases h

/-- a block with its value changed -/
theorem Good.RB {E E' : Env} {w : World} {φ : AV → Option AV} (g : Good E E' w φ) (hS : ∀ b, E.S b → E'.S b) {b b' : Nat} {k k' : Blk} (hg : E'.g b' = E.g b) (hsv : E'.sv b' = E.sv b) (hbt : E'.bt b' = E.bt b) (hk : mapK φ (some k) = some (some k')) (h : Abs.RB E w b k) : Abs.RB E' w b' k' := by
  have kp : Keeps E w E' w := ⟨fun _ _ => rfl, hS⟩
  cases k with
  | var t v =>
    simp only [mapK] at hk
    split at hk
    · rename_i u hu
      split at hk
      · rename_i hc
        cases hk
        obtain ⟨h1, h2, i, c, e, h3, h4, h5⟩ := h
        exact ⟨by rw [hbt]; exact h1, hc, i, c, e, by rw [hg]; exact h3, h4, g.rc v u _ hu h5⟩
      · cases hk
    · cases hk
  | row e bs t xs =>
    simp only [mapK, Option.some.injEq] at hk; subst hk
    obtain ⟨h1, h2, h3, h4, a, cap, h5, h6, h7⟩ := h
    refine ⟨by rw [hbt]; exact h1, h2, h3, h4, a, cap, by rw [hsv]; exact h5, h6, ?_⟩
    rcases h7 with ⟨h7, h8, h9⟩ | ⟨i, c, h7, h8, h9, h10, h11, h12⟩
    · exact Or.inl ⟨h7, by rw [hg]; exact h8, h9⟩
    · exact Or.inr ⟨i, c, by rw [hg]; exact h7, h8, h9, h10, h11, RelL.mono (fun _ _ => Rel.mono kp.w kp.S) h12⟩
  | map kt vt es =>
    simp only [mapK, Option.some.injEq] at hk; subst hk
    obtain ⟨h1, h1', i, en, clock, h2, h3, h4, h5, h6⟩ := h
    exact ⟨h1, h1', i, en, clock, by rw [hg]; exact h2, h3, RM.mono kp h4, h5, h6⟩
  | lp l r => simp only [mapK, Option.some.injEq] at hk; subst hk; exact ⟨by rw [hg]; exact h.1, h.2⟩
  | dfr => simp only [mapK, Option.some.injEq] at hk; subst hk; obtain ⟨i, h1, h2⟩ := h; exact ⟨i, by rw [hg]; exact h1, h2⟩
  | tv gg t v =>
    simp only [mapK] at hk
    split at hk
    · rename_i u hu
      split at hk
      · rename_i hc
        cases hk
        obtain ⟨h0, h1, h2, c, e, h4, h5⟩ := h
        exact ⟨by rw [hg]; exact h0, by rw [hbt]; exact h1, hc, c, e, h4, g.rc v u _ hu h5⟩
      · cases hk
    · cases hk

/-! freezing -/

/-- the value where block b is frozen -/
def fz (hb : Nat → Option Blk) (b : Nat) (t : Ty) : AV → Option AV
  | .own c => if Nat.beq c b then (view hb (.own c) false t).map (·.1) else some (.own c)
  | .rsl c lo len => if Nat.beq c b then (view hb (.rsl c lo len) false t).map (·.1) else some (.rsl c lo len)
  | .asl c p lo len => if Nat.beq c b then (view hb (.asl c p lo len) false t).map (·.1) else some (.asl c p lo len)
  | .ptr c p => if Nat.beq c b then (view hb (.ptr c p) false t).map (·.1) else some (.ptr c p)
  | .mp c => if Nat.beq c b then none else some (.mp c)
  | .func fn fs cs => match fz hb b t fs, fz hb b t cs with
    | some f, some c => if f.atoms && c.atoms then some (.func fn f c) else none
    | _, _ => none
  | .iface u v => match fz hb b t v with
    | some x => some (.iface u x)
    | none => none
  | .cons x y => match fz hb b t x, fz hb b t y with
    | some u, some v => some (.cons u v)
    | _, _ => none
  | .bot => none
  | .tup _ => none
  | .opt _ _ => none
  | x => some x

theorem view_lends {hb : Nat → Option Blk} {x y : AV} {t : Ty} {l : List Nat} {b : Nat} (hx : x = .own b ∨ (∃ lo len, x = .rsl b lo len) ∨ (∃ p lo len, x = .asl b p lo len) ∨ (∃ p, x = .ptr b p)) (h : view hb x false t = some (y, l)) : l = [b] := by
  rcases hx with rfl | ⟨lo, len, rfl⟩ | ⟨p, lo, len, rfl⟩ | ⟨p, rfl⟩
  · have h' : (match viewRow hb b with | some ⟨bs, t, xs⟩ => some (AV.val (.slice bs t) xs, [b]) | none => none) = some (y, l) := by cases t <;> exact h
    split at h' <;> cases h'; rfl
  · have h' : (match viewRow hb b with | some ⟨bs, t, xs⟩ => some (AV.val (.slice bs t) ((xs.drop lo).take len), [b]) | none => none) = some (y, l) := by cases t <;> exact h
    split at h' <;> cases h'; rfl
  · cases t with
    | slice bs t =>
      simp only [view] at h
      split at h
      · split at h
        · split at h
          · cases h; rfl
          · cases h
        · cases h
      · cases h
    | _ => simp [view] at h
  · have h' : (match hb b with
      | some k => match rdBlk k p, (blkTy k).sub p with
        | some u, some s => match u.toDen s with
          | some y => some (AV.vptr s y, [b])
          | none => none
        | _, _ => none
      | none => none) = some (y, l) := by cases t <;> exact h
    split at h'
    · split at h'
      · split at h'
        · cases h'; rfl
        · cases h'
      · cases h'
    · cases h'

theorem fz_good {gl : Ctx} {E : Env} {w : World} {hp : List (Option Blk)} (hw : HW gl E w hp) {hb : Nat → Option Blk} (hB : HB hb hp) (b : Nat) (t : Ty) : Good E (E.lend [b]) w (fz hb b t) where
  mp := by
    intro c y h
    simp only [fz] at h
    split at h
    · cases h
    · cases h; exact ⟨c, rfl, rfl⟩
  rc := by
    have kp : Keeps E w (E.lend [b]) w := Env.lend_le [b]
    intro x
    induction x with
    | own c =>
      intro y vs h hr
      simp only [fz] at h
      split at h
      · rename_i e; have e := Nat.eq_of_beq_eq_true e; subst e
        simp only [Option.map_eq_some_iff] at h
        obtain ⟨⟨z, l⟩, h1, rfl⟩ := h
        have := view_lends (Or.inl rfl) h1; subst this
        exact view_ok hw hB h1 hr
      · cases h; exact RC.mono kp (fun _ _ => ⟨rfl, rfl, rfl⟩) hr
    | rsl c lo len =>
      intro y vs h hr
      simp only [fz] at h
      split at h
      · rename_i e; have e := Nat.eq_of_beq_eq_true e; subst e
        simp only [Option.map_eq_some_iff] at h
        obtain ⟨⟨z, l⟩, h1, rfl⟩ := h
        have := view_lends (Or.inr (Or.inl ⟨lo, len, rfl⟩)) h1; subst this
        exact view_ok hw hB h1 hr
      · cases h; exact RC.mono kp (fun _ _ => ⟨rfl, rfl, rfl⟩) hr
    | asl c p lo len =>
      intro y vs h hr
      simp only [fz] at h
      split at h
      · rename_i e; have e := Nat.eq_of_beq_eq_true e; subst e
        simp only [Option.map_eq_some_iff] at h
        obtain ⟨⟨z, l⟩, h1, rfl⟩ := h
        have := view_lends (Or.inr (Or.inr (Or.inl ⟨p, lo, len, rfl⟩))) h1; subst this
        exact view_ok hw hB h1 hr
      · cases h; exact RC.mono kp (fun _ _ => ⟨rfl, rfl, rfl⟩) hr
    | ptr c p =>
      intro y vs h hr
      simp only [fz] at h
      split at h
      · rename_i e; have e := Nat.eq_of_beq_eq_true e; subst e
        simp only [Option.map_eq_some_iff] at h
        obtain ⟨⟨z, l⟩, h1, rfl⟩ := h
        have := view_lends (Or.inr (Or.inr (Or.inr ⟨p, rfl⟩))) h1; subst this
        exact view_ok hw hB h1 hr
      · cases h; exact RC.mono kp (fun _ _ => ⟨rfl, rfl, rfl⟩) hr
    | mp c =>
      intro y vs h hr
      simp only [fz] at h
      split at h
      · cases h
      · cases h; exact RC.mono kp (fun _ _ => ⟨rfl, rfl, rfl⟩) hr
    | func fn fs cs ih1 ih2 =>
      intro y vs h hr
      simp only [fz] at h
      split at h
      · rename_i f c h1 h2
        split at h
        · rename_i ha
          cases h
          simp only [Bool.and_eq_true] at ha
          obtain ⟨f', c', e, r1, r2, _, _⟩ := hr
          exact ⟨f', c', e, ih1 f _ h1 r1, ih2 c _ h2 r2, ha.1, ha.2⟩
        · cases h
      · cases h
    | iface u v ih =>
      intro y vs h hr
      simp only [fz] at h
      split at h
      · rename_i z hz
        cases h
        obtain ⟨x, e, hr⟩ := hr
        refine ⟨x, e, ?_⟩
        have hagg := fzAgg v z hz
        rcases hr with ⟨h1, cs, e2, h3⟩ | ⟨h1, h3⟩
        · exact Or.inl ⟨by rw [hagg]; exact h1, cs, e2, ih z _ hz h3⟩
        · exact Or.inr ⟨by rw [hagg]; exact h1, ih z _ hz h3⟩
      · cases h
    | cons a c ih1 ih2 =>
      intro y vs h hr
      simp only [fz] at h
      split at h
      · rename_i u v h1 h2
        cases h
        obtain ⟨v1, v2, e, r1, r2⟩ := hr
        exact ⟨v1, v2, e, ih1 u _ h1 r1, ih2 v _ h2 r2⟩
      · cases h
    | bot => intro y vs h; simp [fz] at h
    | tup l => intro y vs h; simp [fz] at h
    | opt c v => intro y vs h; simp [fz] at h
    | _ => intro y vs h hr; simp only [fz, Option.some.injEq] at h; subst h; exact RC.mono kp (fun _ _ => ⟨rfl, rfl, rfl⟩) hr
  agg := fun x y h => fzAgg x y h
  fn := by
    intro fn fs cs y h
    simp only [fz] at h
    split at h
    · rename_i f c h1 h2
      split at h
      · rename_i ha
        cases h
        simp only [Bool.and_eq_true] at ha
        exact ⟨f, c, rfl, h1, h2, ha.1, ha.2⟩
      · cases h
    · cases h
where
  fzAgg {hb : Nat → Option Blk} {b : Nat} {t : Ty} (x y : AV) (h : fz hb b t x = some y) : y.isAgg = x.isAgg := by
    cases x with
    | own c =>
      simp only [fz] at h
      split at h
      · simp only [Option.map_eq_some_iff] at h; obtain ⟨⟨z, l⟩, h1, rfl⟩ := h; exact view_isAgg h1
      · cases h; rfl
    | rsl c lo len =>
      simp only [fz] at h
      split at h
      · simp only [Option.map_eq_some_iff] at h; obtain ⟨⟨z, l⟩, h1, rfl⟩ := h; exact view_isAgg h1
      · cases h; rfl
    | asl c p lo len =>
      simp only [fz] at h
      split at h
      · simp only [Option.map_eq_some_iff] at h; obtain ⟨⟨z, l⟩, h1, rfl⟩ := h; exact view_isAgg h1
      · cases h; rfl
    | ptr c p =>
      simp only [fz] at h
      split at h
      · simp only [Option.map_eq_some_iff] at h; obtain ⟨⟨z, l⟩, h1, rfl⟩ := h; exact view_isAgg h1
      · cases h; rfl
    | mp c =>
      simp only [fz] at h
      split at h
      · cases h
      · cases h; rfl
    | func fn fs cs =>
      simp only [fz] at h
      split at h
      · split at h
        · cases h; rfl
        · cases h
      · cases h
    | iface u v =>
      simp only [fz] at h
      split at h
      · cases h; rfl
      · cases h
    | cons a c =>
      simp only [fz] at h
      split at h
      · cases h; rfl
      · cases h
    | bot => simp [fz] at h
    | tup l => simp [fz] at h
    | opt c v => simp [fz] at h
    | _ => simp only [fz, Option.some.injEq] at h; subst h; rfl

def hbOf (hp : List (Option Blk)) (b : Nat) : Option Blk := (hp[b]?).join

theorem hbOf_HB (hp : List (Option Blk)) : HB (hbOf hp) hp := by
  intro b k hk
  unfold hbOf at hk
  cases hh : hp[b]? with
  | none => simp [hh] at hk
  | some z => simp [hh] at hk; rw [hk]

/-- block b is frozen; 't': the type of slices over it -/
def freeze (b : Nat) (t : Ty) (σ : St) : Option St :=
  match hbOf σ.hp b with
  | some _ => St.mapAV (fz (hbOf σ.hp) b t) { σ with hp := σ.hp.set b none }
  | none => none

theorem Wk.freeze {gl : Ctx} {b : Nat} {t : Ty} {σ σ' : St} (h : Abs.freeze b t σ = some σ') : Wk gl σ σ' := by
  intro E a w hg
  unfold Abs.freeze at h
  split at h
  · rename_i k hk
    have hbk := hbOf_HB σ.hp b k hk
    unfold St.mapAV at h
    split at h
    · rename_i hp' df' h1 h2
      cases h
      have good := fz_good hg.hw (hbOf_HB σ.hp) b t
      have hSle : ∀ i, E.S i → (E.lend [b]).S i := fun i hi => Or.inl hi
      have src : ∀ (i : Nat) (k' : Blk), hp'[i]? = some (some k') → ∃ k0, i ≠ b ∧ σ.hp[i]? = some (some k0) ∧ mapK (fz (hbOf σ.hp) b t) (some k0) = some (some k') := by
        intro i k' hi
        obtain ⟨k0, e1, e2⟩ := mapB_get h1 hi
        simp only [List.getElem?_set] at e1
        split at e1
        · split at e1 <;> cases e1
        · rename_i hne; exact ⟨k0, fun e => hne e.symm, e1, e2⟩
      refine ⟨E.lend [b], ⟨?_, ?_, ⟨?_, ?_, ?_, ?_, hg.hw.glKeep (Env.lend_le [b])⟩, good.RD h2 hg.df⟩, ⟨rfl, rfl, rfl, Nat.le_refl _, fun _ _ _ => rfl, hSle, ?_, ?_, fun _ _ => ⟨rfl, rfl, rfl⟩⟩⟩
      · simp only [mapT_len]; exact hg.len
      · intro i y hy v hv
        rcases mapT_get hy with e | ⟨x, e1, e2, e3⟩
        · subst e; trivial
        · exact RV.of0 (good.RV e3 (RV.to0 e2 (hg.tm i x e1 v hv)))
      · intro i k' hi
        obtain ⟨k0, _, e1, e2⟩ := src i k' hi
        exact good.RB hSle (b := i) (b' := i) rfl rfl rfl e2 (hg.hw.blk i k0 e1)
      · intro i j k1 k2 g' hi hj g1 g2
        obtain ⟨k3, _, e1, _⟩ := src i k1 hi
        obtain ⟨k4, _, e2, _⟩ := src j k2 hj
        exact hg.hw.sep i j k3 k4 g' e1 e2 g1 g2
      · intro i k' g' hi hgi hs
        obtain ⟨k0, hne, e1, _⟩ := src i k' hi
        rcases hs with hs | ⟨c, hc, e⟩
        · exact hg.hw.stab i k0 g' e1 hgi hs
        · simp at hc; subst hc
          exact hne (hg.hw.sep i c k0 k g' e1 hbk hgi e)
      · intro g' hs
        rcases hs with hs | ⟨c, hc, e⟩
        · exact hg.hw.slt g' hs
        · simp at hc; subst hc
          exact Own.below hg.hw ⟨c, k, hbk, e⟩
      · intro g' hs
        rcases hs with hs | ⟨c, hc, e⟩
        · exact Or.inl hs
        · simp at hc; subst hc
          exact Or.inr (Or.inl ⟨c, k, hbk, e⟩)
      · rintro g' ⟨i, k', hi, hgi⟩
        obtain ⟨k0, _, e1, _⟩ := src i k' hi
        exact Or.inl ⟨i, k0, e1, hgi⟩
    · cases h
  · cases h

end Go.Abs

/- part AbsGh -/
/- Abstract machine, part 18: renaming blocks, slices of one's own out of nil; lists of such steps; joins and loops. -/
namespace Go.Abs

/-! renaming -/

def rnN (b b' c : Nat) : Nat := if Nat.beq c b then b' else c

def rn (b b' : Nat) : AV → Option AV
  | .own c => some (.own (rnN b b' c))
  | .rsl c lo len => some (.rsl (rnN b b' c) lo len)
  | .asl c p lo len => some (.asl (rnN b b' c) p lo len)
  | .ptr c p => some (.ptr (rnN b b' c) p)
  | .mp c => some (.mp (rnN b b' c))
  | .func fn fs cs => match rn b b' fs, rn b b' cs with
    | some f, some c => if f.atoms && c.atoms then some (.func fn f c) else none
    | _, _ => none
  | .iface u v => match rn b b' v with
    | some x => some (.iface u x)
    | none => none
  | .cons x y => match rn b b' x, rn b b' y with
    | some u, some v => some (.cons u v)
    | _, _ => none
  | .bot => none
  | .tup _ => none
  | .opt _ _ => none
  | x => some x

def Env.mv (E : Env) (b b' : Nat) : Env := { E with g := fun c => if c = b' then E.g b else E.g c, sv := fun c => if c = b' then E.sv b else E.sv c, bt := fun c => if c = b' then E.bt b else E.bt c }

theorem mv_rn {E : Env} {b b' c : Nat} (h : c ≠ b') : (E.mv b b').g (rnN b b' c) = E.g c ∧ (E.mv b b').sv (rnN b b' c) = E.sv c ∧ (E.mv b b').bt (rnN b b' c) = E.bt c := by
  unfold rnN
  split
  · rename_i e; have e := Nat.eq_of_beq_eq_true e; subst e; simp [Env.mv]
  · simp [Env.mv, h]

theorem rn_agg (b b' : Nat) (x y : AV) (h : rn b b' x = some y) : y.isAgg = x.isAgg := by
  cases x with
  | func fn fs cs =>
    simp only [rn] at h
    split at h
    · split at h
      · cases h; rfl
      · cases h
    · cases h
  | iface u v =>
    simp only [rn] at h
    split at h
    · cases h; rfl
    · cases h
  | cons a c =>
    simp only [rn] at h
    split at h
    · cases h; rfl
    · cases h
  | bot => simp [rn] at h
  | tup l => simp [rn] at h
  | opt c v => simp [rn] at h
  | _ => simp only [rn, Option.some.injEq] at h; subst h; rfl

theorem rn_rc {E : Env} {w : World} {b b' : Nat} : ∀ {x y : AV} {vs : List Value}, b' ∉ x.ids → rn b b' x = some y → RC E w x vs → RC (E.mv b b') w y vs := by
  intro x
  induction x with
  | own c => intro y vs hi h hr; simp only [rn, Option.some.injEq] at h; subst h
             obtain ⟨_, e2, _⟩ := mv_rn (E := E) (b := b) (b' := b') (c := c) (fun e => hi (by simp [AV.ids, e]))
             simp only [RC]; rw [e2]; exact hr
  | rsl c lo len => intro y vs hi h hr; simp only [rn, Option.some.injEq] at h; subst h
                    obtain ⟨_, e2, e3⟩ := mv_rn (E := E) (b := b) (b' := b') (c := c) (fun e => hi (by simp [AV.ids, e]))
                    simp only [RC]; rw [e2, e3]; exact hr
  | asl c p lo len => intro y vs hi h hr; simp only [rn, Option.some.injEq] at h; subst h
                      obtain ⟨e1, _, e3⟩ := mv_rn (E := E) (b := b) (b' := b') (c := c) (fun e => hi (by simp [AV.ids, e]))
                      simp only [RC]; rw [e1, e3]; exact hr
  | ptr c p => intro y vs hi h hr; simp only [rn, Option.some.injEq] at h; subst h
               obtain ⟨e1, _, e3⟩ := mv_rn (E := E) (b := b) (b' := b') (c := c) (fun e => hi (by simp [AV.ids, e]))
               simp only [RC]; rw [e1, e3]; exact hr
  | mp c => intro y vs hi h hr; simp only [rn, Option.some.injEq] at h; subst h
            obtain ⟨e1, _, _⟩ := mv_rn (E := E) (b := b) (b' := b') (c := c) (fun e => hi (by simp [AV.ids, e]))
            simp only [RC]; rw [e1]; exact hr
  | func fn fs cs ih1 ih2 =>
    intro y vs hi h hr
    simp only [rn] at h
    simp only [AV.ids, List.mem_append, not_or] at hi
    split at h
    · rename_i f c h1 h2
      split at h
      · rename_i ha
        cases h
        simp only [Bool.and_eq_true] at ha
        obtain ⟨f', c', e, r1, r2, _, _⟩ := hr
        exact ⟨f', c', e, ih1 hi.1 h1 r1, ih2 hi.2 h2 r2, ha.1, ha.2⟩
      · cases h
    · cases h
  | iface u v ih =>
    intro y vs hi h hr
    simp only [rn] at h
    split at h
    · rename_i z hz
      cases h
      obtain ⟨x, e, hr⟩ := hr
      refine ⟨x, e, ?_⟩
      have hagg := rn_agg b b' v z hz
      rcases hr with ⟨h1, cs, e2, h3⟩ | ⟨h1, h3⟩
      · exact Or.inl ⟨by rw [hagg]; exact h1, cs, e2, ih hi hz h3⟩
      · exact Or.inr ⟨by rw [hagg]; exact h1, ih hi hz h3⟩
    · cases h
  | cons a c ih1 ih2 =>
    intro y vs hi h hr
    simp only [rn] at h
    simp only [AV.ids, List.mem_append, not_or] at hi
    split at h
    · rename_i u v h1 h2
      cases h
      obtain ⟨v1, v2, e, r1, r2⟩ := hr
      exact ⟨v1, v2, e, ih1 hi.1 h1 r1, ih2 hi.2 h2 r2⟩
    · cases h
  | bot => intro y vs _ h; simp [rn] at h
  | tup l => intro y vs _ h; simp [rn] at h
  | opt c v => intro y vs _ h; simp [rn] at h
  | _ => intro y vs _ h hr; simp only [rn, Option.some.injEq] at h; subst h; exact hr

/-- as mapAV, the values known to leave b' alone -/
theorem rnGood {E : Env} {w : World} {b b' : Nat} : Good E (E.mv b b') w (fun x => if hasNat b' x.ids then none else rn b b' x) where
  mp := by
    intro c y h
    split at h
    · cases h
    · rename_i hn
      have hn := hasNat_false (show hasNat b' (AV.mp c).ids = false by simpa using hn)
      simp only [rn, Option.some.injEq] at h
      subst h
      exact ⟨_, rfl, (mv_rn (fun e => hn (by simp [AV.ids, e]))).1⟩
  rc := by
    intro x y vs h hr
    split at h
    · cases h
    · rename_i hn; exact rn_rc (hasNat_false (by simpa using hn)) h hr
  agg := by
    intro x y h
    split at h
    · cases h
    · exact rn_agg b b' x y h
  fn := by
    intro fn fs cs y h
    split at h
    · cases h
    · rename_i hn
      have hn := hasNat_false (show hasNat b' (AV.func fn fs cs).ids = false by simpa using hn)
      simp only [AV.ids, List.mem_append, not_or] at hn
      simp only [rn] at h
      have f1 : hasNat b' fs.ids = false := by
        cases hh : hasNat b' fs.ids with
        | false => rfl
        | true => exact absurd (hasNatMem hh) hn.1
      have f2 : hasNat b' cs.ids = false := by
        cases hh : hasNat b' cs.ids with
        | false => rfl
        | true => exact absurd (hasNatMem hh) hn.2
      split at h
      · rename_i f c h1 h2
        split at h
        · rename_i ha
          cases h
          simp only [Bool.and_eq_true] at ha
          exact ⟨f, c, rfl, by simp [f1, h1], by simp [f2, h2], ha.1, ha.2⟩
        · cases h
      · cases h
where
  hasNatMem {d : Nat} : ∀ {l : List Nat}, hasNat d l = true → d ∈ l
    | [], h => by cases h
    | x :: l, h => by
      simp only [hasNat, Bool.or_eq_true] at h
      rcases h with h | h
      · rw [Nat.eq_of_beq_eq_true h]; exact List.mem_cons_self ..
      · exact List.mem_cons_of_mem _ (hasNatMem h)

/-- block b goes on under the id b' -/
def rename (b b' : Nat) (σ : St) : Option St :=
  match hbOf σ.hp b, hbOf σ.hp b' with
  | some k, none => if Nat.beq b b' || Nat.blt b' 16 then none else
    match St.mapAV (fun x => if hasNat b' x.ids then none else rn b b' x) { σ with hp := σ.hp.set b none }, mapK (fun x => if hasNat b' x.ids then none else rn b b' x) (some k) with
    | some σ', some k' => some { σ' with hp := σ'.hp.set b' k' }
    | _, _ => none
  | _, _ => none

theorem Wk.rename {gl : Ctx} {b b' : Nat} {σ σ' : St} (h : Abs.rename b b' σ = some σ') : Wk gl σ σ' := by
  intro E a w hg
  unfold Abs.rename at h
  split at h
  · rename_i k hk hk'
    have hbk := hbOf_HB σ.hp b k hk
    split at h
    · cases h
    · rename_i hne0
      have hne : b ≠ b' := fun e => hne0 (by simp [e])
      have h16 : 16 ≤ b' := by
        rcases Nat.lt_or_ge b' 16 with hq | hq
        · have hq' : Nat.blt b' 16 = true := Nat.ble_eq_true_of_le (Nat.succ_le_of_lt hq)
          exact absurd (by rw [hq']; simp) hne0
        · exact hq
      split at h
      · rename_i σ1 k1 h1 h2
        cases h
        unfold St.mapAV at h1
        split at h1
        · rename_i hp' df' h3 h4
          cases h1
          have good := rnGood (E := E) (w := w) (b := b) (b' := b')
          have hEo : ∀ i, i ≠ b' → (E.mv b b').g i = E.g i ∧ (E.mv b b').sv i = E.sv i ∧ (E.mv b b').bt i = E.bt i := fun i hi => by simp [Env.mv, hi]
          have hEn : (E.mv b b').g b' = E.g b ∧ (E.mv b b').sv b' = E.sv b ∧ (E.mv b b').bt b' = E.bt b := by simp [Env.mv]
          -- where a block of the new state comes from
          have src : ∀ (i : Nat) (k' : Blk), (hp'.set b' k1)[i]? = some (some k') → (i = b' ∧ k1 = some k') ∨ (i ≠ b' ∧ i ≠ b ∧ ∃ k0, σ.hp[i]? = some (some k0) ∧ mapK (fun x => if hasNat b' x.ids then none else rn b b' x) (some k0) = some (some k')) := by
            intro i k' hi
            rw [List.getElem?_set] at hi
            split at hi
            · rename_i e; subst e
              split at hi
              · cases hi; exact Or.inl ⟨rfl, rfl⟩
              · cases hi
            · rename_i hne'
              obtain ⟨k0, e1, e2⟩ := mapB_get h3 hi
              simp only [List.getElem?_set] at e1
              split at e1
              · split at e1 <;> cases e1
              · rename_i hne2; exact Or.inr ⟨fun e => hne' e.symm, fun e => hne2 e.symm, k0, e1, e2⟩
          have gOf : ∀ (i : Nat) (k' : Blk), (hp'.set b' k1)[i]? = some (some k') → ∃ j k0, σ.hp[j]? = some (some k0) ∧ (E.mv b b').g i = E.g j ∧ (i = b' → j = b) ∧ (i ≠ b' → j = i) := by
            intro i k' hi
            rcases src i k' hi with ⟨e, _⟩ | ⟨e1, e2, k0, e3, _⟩
            · subst e; exact ⟨b, k, hbk, hEn.1, fun _ => rfl, fun e => absurd rfl e⟩
            · exact ⟨i, k0, e3, (hEo i e1).1, fun e => absurd e e1, fun _ => rfl⟩
          refine ⟨E.mv b b', ⟨?_, ?_, ⟨?_, ?_, ?_, hg.hw.slt, hg.hw.gl⟩, good.RD h4 hg.df⟩, ⟨rfl, rfl, rfl, Nat.le_refl _, fun _ _ _ => rfl, fun _ h => h, fun _ h => Or.inl h, ?_, fun i hi => hEo i (by omega)⟩⟩
          · simp only [mapT_len]; exact hg.len
          · intro i y hy v hv
            rcases mapT_get hy with e | ⟨x, e1, e2, e3⟩
            · subst e; trivial
            · exact RV.of0 (good.RV e3 (RV.to0 e2 (hg.tm i x e1 v hv)))
          · intro i k' hi
            rcases src i k' hi with ⟨e, e'⟩ | ⟨e1, e2, k0, e3, e4⟩
            · subst e
              rw [e'] at h2
              exact good.RB (fun _ h => h) (b := b) (b' := i) hEn.1 hEn.2.1 hEn.2.2 h2 (hg.hw.blk b k hbk)
            · exact good.RB (fun _ h => h) (b := i) (b' := i) (hEo i e1).1 (hEo i e1).2.1 (hEo i e1).2.2 e4 (hg.hw.blk i k0 e3)
          · intro i j k2 k3 g' hi hj g1 g2
            obtain ⟨i', k4, e1, e2, e3, e4⟩ := gOf i k2 hi
            obtain ⟨j', k5, f1, f2, f3, f4⟩ := gOf j k3 hj
            rw [e2] at g1; rw [f2] at g2
            have hij := hg.hw.sep i' j' k4 k5 g' e1 f1 g1 g2
            by_cases hi' : i = b' <;> by_cases hj' : j = b'
            · rw [hi', hj']
            · have h1 := e3 hi'; have h2 := f4 hj'
              rcases src j k3 hj with ⟨q, _⟩ | ⟨_, q, _⟩
              · exact absurd q hj'
              · exact absurd (by rw [← h2, ← hij, h1]) q
            · have h1 := e4 hi'; have h2 := f3 hj'
              rcases src i k2 hi with ⟨q, _⟩ | ⟨_, q, _⟩
              · exact absurd q hi'
              · exact absurd (by rw [← h1, hij, h2]) q
            · rw [← e4 hi', ← f4 hj', hij]
          · intro i k' g' hi hgi hs
            obtain ⟨i', k4, e1, e2, _, _⟩ := gOf i k' hi
            rw [e2] at hgi
            exact hg.hw.stab i' k4 g' e1 hgi hs
          · rintro g' ⟨i, k', hi, hgi⟩
            obtain ⟨i', k4, e1, e2, _, _⟩ := gOf i k' hi
            rw [e2] at hgi
            exact Or.inl ⟨i', k4, e1, hgi⟩
        · cases h1
      · cases h
  · cases h

/-! a slice of one's own out of a nil slice in a slot -/

def ownT (s b : Nat) (e : TypeId) (bs : Nat) (t : Ty) (σ : St) : Option St :=
  match σ.tm[s]? with
  | some .nils => if σ.freshB b && Nat.blt 0 t.size then some { σ with tm := σ.tm.set s (.own b), hp := σ.hp.set b (some (.row e bs t [])) } else none
  | _ => none

theorem Wk.ownT {gl : Ctx} {s b : Nat} {e : TypeId} {bs : Nat} {t : Ty} {σ σ' : St} (h : Abs.ownT s b e bs t σ = some σ') : Wk gl σ σ' := by
  intro E a w hg
  unfold Abs.ownT at h
  split at h
  · rename_i hs
    split at h
    · rename_i hc
      cases h
      simp only [Bool.and_eq_true] at hc
      have hlt : s < a.tmps.size := by rw [hg.len]; exact (List.getElem?_eq_some_iff.1 hs).1
      have ha := RV.atom rfl (hg.tm s _ hs a.tmps[s] (by simp [hlt]))
      simp [RC] at ha
      have hsz : 0 < t.size := by have := hc.2; simp [Nat.blt] at this; omega
      obtain ⟨g1, x1⟩ := hg.fresh (w' := w) (St.fresh_of hc.1) (g := none) (sv := .slice none 0 0) (t := .arr 0 t) (k := .row e bs t []) rfl rfl rfl (Nat.le_refl _) (fun _ _ => rfl) (fun i hi => by cases hi)
        ⟨by simp [Env.at], by simp, by simp, hsz, none, 0, by simp [Env.at], by simp [maxLen], Or.inl ⟨⟨rfl, rfl⟩, by simp [Env.at], rfl⟩⟩
      refine ⟨_, ⟨by simp [hg.len], ?_, g1.hw, g1.df⟩, x1⟩
      intro i x hx v hv
      rw [List.getElem?_set] at hx
      split at hx
      · rename_i e'; subst e'
        split at hx
        · cases hx
          have : v = .slice none 0 0 := by rw [Array.getElem?_eq_getElem hlt] at hv; cases hv; exact ha
          subst this
          exact RV.of0 (Or.inr ⟨rfl, by simp [Env.at], none, 0, 0, by simp [Env.at]⟩)
        · cases hx
      · exact g1.tm i x hx v hv
    · cases h
  · cases h

/-- a path of fields alone -/
def validF : Ty → Path → Bool
  | .pair a _, .fld 0 :: p => validF a p
  | .pair _ b, .fld (k + 1) :: p => validF b (.fld k :: p)
  | _, [] => true
  | _, _ => false

theorem validF_ok : ∀ {t : Ty} {p : Path}, validF t p = true → t.valid p := by
  intro t
  induction t with
  | pair a b ih1 ih2 =>
    intro p h
    cases p with
    | nil => simp [Ty.valid]
    | cons s p =>
      cases s with
      | fld k => cases k with
        | zero => simp only [validF] at h; simp only [Ty.valid]; exact ih1 h
        | succ k => simp only [validF] at h; simp only [Ty.valid]; exact ih2 h
      | idx i => simp [validF] at h
  | _ =>
    intro p h
    cases p with
    | nil => simp [Ty.valid]
    | cons s p => simp [validF] at h

/-- the same inside a variable -/
def ownF (c : Nat) (p : Path) (b : Nat) (e : TypeId) (bs : Nat) (t : Ty) (σ : St) : Option St :=
  match hbOf σ.hp c with
  | some (.var tt v) => match v.get p, v.set p (.own b) with
    | some .nils, some u => if σ.freshB b && Nat.blt 0 t.size && u.conf tt && validF tt p && !Nat.beq c b then some { σ with hp := (σ.hp.set b (some (.row e bs t []))).set c (some (.var tt u)) } else none
    | _, _ => none
  | _ => none

theorem Wk.ownF {gl : Ctx} {c : Nat} {p : Path} {b : Nat} {e : TypeId} {bs : Nat} {t : Ty} {σ σ' : St} (h : Abs.ownF c p b e bs t σ = some σ') : Wk gl σ σ' := by
  intro E a w hg
  unfold Abs.ownF at h
  split at h
  · rename_i tt v hc
    have hbk := hbOf_HB σ.hp c _ hc
    split at h
    · rename_i u hget hset
      split at h
      · rename_i hk
        cases h
        simp only [Bool.and_eq_true] at hk
        obtain ⟨⟨⟨⟨k1, k2⟩, k3⟩, k4⟩, k5⟩ := hk
        have hcb : c ≠ b := fun e' => by subst e'; simp at k5
        have hsz : 0 < t.size := by have := k2; simp [Nat.blt] at this; omega
        obtain ⟨g1, x1⟩ := hg.fresh (w' := w) (St.fresh_of k1) (g := none) (sv := .slice none 0 0) (t := .arr 0 t) (k := .row e bs t []) rfl rfl rfl (Nat.le_refl _) (fun _ _ => rfl) (fun i hi => by cases hi)
          ⟨by simp [Env.at], by simp, by simp, hsz, none, 0, by simp [Env.at], by simp [maxLen], Or.inl ⟨⟨rfl, rfl⟩, by simp [Env.at], rfl⟩⟩
        have hb1 : (σ.hp.set b (some (.row e bs t [])))[c]? = some (some (.var tt v)) := by
          rw [List.getElem?_set, if_neg (fun e' => hcb e'.symm)]; exact hbk
        obtain ⟨r1, r2, g, cs, e', r3, r4, r5⟩ := g1.hw.blk c _ hb1
        have hva := validF_ok k4
        obtain ⟨s, q1, q2, q3, q4⟩ := AV.get_ok r5 r2 hva hget
        have hs1 : s.size = 1 := AV.conf_size q2 ▸ rfl
        have hown : RC (E.at b none (.slice none 0 0) (.arr 0 t)) w (.own b) [.slice none 0 0] := ⟨by simp [Env.at], none, 0, 0, by simp [Env.at]⟩
        obtain ⟨s', p1, p2, p3, p4⟩ := AV.set_ok hown r5 r2 hva (fun s' hs' => by rw [q1] at hs'; cases hs'; simp [hs1]) hset
        rw [q1] at p1; cases p1
        simp only [RC] at q4
        have hcs : cs.toList.take (tt.off p) ++ [Value.slice none 0 0] ++ cs.toList.drop (tt.off p + s.size) = cs.toList := by
          rw [← q4, List.append_assoc, ← List.drop_drop, List.take_append_drop, List.take_append_drop]
        rw [hcs] at p4
        have hw2 := g1.hw.write (w' := w) (k' := .var tt u) hb1 rfl (fun _ _ => rfl) ⟨r1, k3, g, cs, e', r3, r4, p4⟩
        refine ⟨_, ⟨g1.len, g1.tm, hw2, g1.df⟩, { x1 with own := ?_ }⟩
        intro g' hg'
        exact x1.own g' (Own.set_eq hb1 hg')
      · cases h
    · cases h
  · cases h

/-! lists of such steps -/

inductive Gh where
  | keep (ts bs : List Nat)
  | purT (s : Nat) (t : Ty)
  | purB (b : Nat)
  | freeze (b : Nat) (t : Ty)
  | ren (b b' : Nat)
  | ownT (s b : Nat) (e : TypeId) (bs : Nat) (t : Ty)
  | ownF (c : Nat) (p : Path) (b : Nat) (e : TypeId) (bs : Nat) (t : Ty)

def Gh.go (σ : St) : Gh → Option St
  | .keep ts bs => some ⟨keepT ts 0 σ.tm, keepB bs 0 σ.hp, σ.df⟩
  | .purT s t => match σ.tm[s]? with
    | some x => match x.toDen t with
      | some y => some { σ with tm := σ.tm.set s (.val t y) }
      | none => none
    | none => none
  | .purB b => match σ.hp[b]? with
    | some (some (.var t v)) => match v.toDen t with
      | some y => some { σ with hp := σ.hp.set b (some (.var t (.val t y))) }
      | none => none
    | _ => none
  | .freeze b t => Abs.freeze b t σ
  | .ren b b' => rename b b' σ
  | .ownT s b e bs t => Abs.ownT s b e bs t σ
  | .ownF c p b e bs t => Abs.ownF c p b e bs t σ

def ghs : List Gh → St → Option St
  | [], σ => some σ
  | g :: l, σ => match g.go σ with
    | some σ' => ghs l σ'
    | none => none

theorem Gh.ok {gl : Ctx} {g : Gh} {σ σ' : St} (h : g.go σ = some σ') : Wk gl σ σ' := by
  cases g with
  | keep ts bs => cases h; exact Wk.keep gl σ ts bs
  | purT s t =>
    simp only [Gh.go] at h
    split at h
    · rename_i x hx
      split at h
      · rename_i y hy; cases h; exact Wk.purT hx hy
      · cases h
    · cases h
  | purB b =>
    simp only [Gh.go] at h
    split at h
    · rename_i t v hb
      split at h
      · rename_i y hy; cases h; exact Wk.purB hb hy
      · cases h
    · cases h
  | freeze b t => exact Wk.freeze h
  | ren b b' => exact Wk.rename h
  | ownT s b e bs t => exact Wk.ownT h
  | ownF c p b e bs t => exact Wk.ownF h

theorem ghs_ok {gl : Ctx} : ∀ {l : List Gh} {σ σ' : St}, ghs l σ = some σ' → Wk gl σ σ'
  | [], σ, σ', h => by cases h; exact Wk.refl gl σ
  | g :: l, σ, σ', h => by
    simp only [ghs] at h
    split at h
    · rename_i σ1 h1; exact (Gh.ok h1).trans (ghs_ok h)
    · cases h

section
variable {P : Program} {gl : Ctx} {σ : St} {Q : AEx → St → Prop}

theorem Run.wk {c : Code} {σ' : St} (h : Wk gl σ σ') (hr : Run P gl c σ' Q) : Run P gl c σ Q := by
  intro E a w hg
  obtain ⟨E1, g1, x1⟩ := h E a w hg
  refine wpIn_mono (hr E1 a w g1) ?_
  rintro ex a2 w2 ⟨x, σ2, E2, h1, h2, h3, h4⟩
  exact ⟨x, σ2, E2, h1, h2, h3, x1.trans h4⟩

/-- ahead of code: the state is brought into a form -/
theorem Run.gh {c : Code} (l : List Gh) {σ' : St} (h : ghs l σ = some σ') (hr : Run P gl c σ' Q) : Run P gl c σ Q := Run.wk (ghs_ok h) hr

/-- J up to such steps -/
def jQ (gl : Ctx) (J : St → Prop) (Q : AEx → St → Prop) : AEx → St → Prop
  | .normal, σ => ∃ σ', Wk gl σ σ' ∧ J σ'
  | x, σ => Q x σ

theorem jQ.mk {J : St → Prop} (l : List Gh) {σ' : St} (h : ghs l σ = some σ') (hj : J σ') : jQ gl J Q .normal σ := ⟨σ', ghs_ok h, hj⟩

/-- x, then y: what holds between them is J -/
theorem Run.seqJ {x y : Code} (J : St → Prop) (h1 : Run P gl x σ (jQ gl J Q)) (h2 : ∀ σ', J σ' → Run P gl y σ' Q) : Run P gl (.seq x y) σ Q := by
  refine Run.seq (Run.mono h1 ?_)
  intro x σ' hq
  cases x with
  | normal => obtain ⟨σ2, hw, hj⟩ := hq; exact Run.wk hw (h2 σ2 hj)
  | _ => exact hq

def loopJ (gl : Ctx) (R : Nat → St → Prop) (n : Nat) (Q : AEx → St → Prop) : AEx → St → Prop
  | .normal, σ => ∃ m, m < n ∧ ∃ σ', Wk gl σ σ' ∧ R m σ'
  | x, σ => Q x σ

theorem loopJ.mk {R : Nat → St → Prop} {n : Nat} (l : List Gh) {σ' : St} (h : ghs l σ = some σ') (hj : R n σ') : loopJ gl R (n + 1) Q .normal σ := ⟨n, Nat.lt_succ_self n, σ', ghs_ok h, hj⟩

theorem Run.loopJ {c : Code} (R : Nat → St → Prop) {n : Nat} (l : List Gh) {σ' : St} (h : ghs l σ = some σ') (h0 : R n σ') (hR : ∀ n σ, R n σ → Run P gl c σ (Abs.loopJ gl R n Q)) : Run P gl (.loop c) σ Q := by
  refine Run.loop (fun n σ => ∃ σ', Wk gl σ σ' ∧ R n σ') ?_ ⟨σ', ghs_ok h, h0⟩
  rintro n σ1 ⟨σ2, hw, hr⟩
  refine Run.wk hw (Run.mono (hR n σ2 hr) ?_)
  intro x σ3 hq
  cases x with
  | normal => obtain ⟨m, hm, hh⟩ := hq; exact ⟨m, hm, hh⟩
  | _ => exact hq

end

/-! closed under such steps -/

/-- closed under such steps, where the code ends normally or leaves a block -/
structure Cl (gl : Ctx) (Q : AEx → St → Prop) : Prop where
  n : ∀ σ σ', Wk gl σ σ' → Q .normal σ' → Q .normal σ
  e : ∀ i σ σ', Wk gl σ σ' → Q (.exit i) σ' → Q (.exit i) σ

theorem Cl.j {gl : Ctx} {J : St → Prop} {Q : AEx → St → Prop} (h : Cl gl Q) : Cl gl (jQ gl J Q) := ⟨fun _ _ h ⟨σ2, h2, hj⟩ => ⟨σ2, h.trans h2, hj⟩, fun i σ σ' hw hq => h.e i σ σ' hw hq⟩
theorem Cl.loop {gl : Ctx} {R : Nat → St → Prop} {n : Nat} {Q : AEx → St → Prop} (h : Cl gl Q) : Cl gl (loopJ gl R n Q) := ⟨fun _ _ h ⟨m, hm, σ2, h2, hj⟩ => ⟨m, hm, σ2, h.trans h2, hj⟩, fun i σ σ' hw hq => h.e i σ σ' hw hq⟩
theorem Cl.blk {gl : Ctx} {id : Nat} {Q : AEx → St → Prop} (h : Cl gl Q) : Cl gl (blockQ id Q) := ⟨fun σ σ' hw hq => h.n σ σ' hw hq, fun i σ σ' hw hq => by
  simp only [blockQ] at hq ⊢
  split at hq
  · rename_i e; rw [if_pos e]; exact h.n σ σ' hw hq
  · rename_i e; rw [if_neg e]; exact h.e i σ σ' hw hq⟩
theorem Cl.t {P : Program} {gl : Ctx} {y : Code} {Q : AEx → St → Prop} (h : Cl gl Q) : Cl gl (thenQ P gl y Q) := ⟨fun _ _ hw hq => Run.wk hw hq, fun i σ σ' hw hq => h.e i σ σ' hw hq⟩

theorem Run.lastJ {P : Program} {gl : Ctx} {σ : St} {Q : AEx → St → Prop} {x : Code} (J : St → Prop) (hc : Cl gl Q) (h1 : Run P gl x σ (jQ gl J Q)) (h2 : ∀ σ', J σ' → Q .normal σ') : Run P gl x σ Q :=
  Run.mono h1 (fun x σ' hq => by
    cases x with
    | normal => obtain ⟨σ2, hw, hj⟩ := hq; exact hc.n _ _ hw (h2 σ2 hj)
    | _ => exact hq)

/-- J where the code ends normally, X where it leaves a block -/
def jxQ (gl : Ctx) (J : St → Prop) (X : Nat → St → Prop) (Q : AEx → St → Prop) : AEx → St → Prop
  | .normal, σ => ∃ σ', Wk gl σ σ' ∧ J σ'
  | .exit i, σ => ∃ σ', Wk gl σ σ' ∧ X i σ'
  | x, σ => Q x σ

theorem jxQ.mk {gl : Ctx} {σ : St} {Q : AEx → St → Prop} {J : St → Prop} {X : Nat → St → Prop} (l : List Gh) {σ' : St} (h : ghs l σ = some σ') (hj : J σ') : jxQ gl J X Q .normal σ := ⟨σ', ghs_ok h, hj⟩
theorem jxQ.ex {gl : Ctx} {σ : St} {Q : AEx → St → Prop} {J : St → Prop} {X : Nat → St → Prop} {i : Nat} (l : List Gh) {σ' : St} (h : ghs l σ = some σ') (hj : X i σ') : jxQ gl J X Q (.exit i) σ := ⟨σ', ghs_ok h, hj⟩
theorem Cl.jx {gl : Ctx} {J : St → Prop} {X : Nat → St → Prop} {Q : AEx → St → Prop} : Cl gl (jxQ gl J X Q) := ⟨fun _ _ h ⟨σ2, h2, hj⟩ => ⟨σ2, h.trans h2, hj⟩, fun _ _ _ h ⟨σ2, h2, hj⟩ => ⟨σ2, h.trans h2, hj⟩⟩

theorem Run.seqX {P : Program} {gl : Ctx} {σ : St} {Q : AEx → St → Prop} {x y : Code} (J : St → Prop) (X : Nat → St → Prop) (hc : Cl gl Q) (h1 : Run P gl x σ (jxQ gl J X Q)) (h3 : ∀ i σ', X i σ' → Q (.exit i) σ') (h2 : ∀ σ', J σ' → Run P gl y σ' Q) : Run P gl (.seq x y) σ Q := by
  refine Run.seq (Run.mono h1 ?_)
  intro x σ' hq
  cases x with
  | normal => obtain ⟨σ2, hw, hj⟩ := hq; exact Run.wk hw (h2 σ2 hj)
  | exit i => obtain ⟨σ2, hw, hj⟩ := hq; exact hc.e i _ _ hw (h3 i σ2 hj)
  | _ => exact hq

theorem Run.lastX {P : Program} {gl : Ctx} {σ : St} {Q : AEx → St → Prop} {x : Code} (J : St → Prop) (X : Nat → St → Prop) (hc : Cl gl Q) (h1 : Run P gl x σ (jxQ gl J X Q)) (h3 : ∀ i σ', X i σ' → Q (.exit i) σ') (h2 : ∀ σ', J σ' → Q .normal σ') : Run P gl x σ Q :=
  Run.mono h1 (fun x σ' hq => by
    cases x with
    | normal => obtain ⟨σ2, hw, hj⟩ := hq; exact hc.n _ _ hw (h2 σ2 hj)
    | exit i => obtain ⟨σ2, hw, hj⟩ := hq; exact hc.e i _ _ hw (h3 i σ2 hj)
    | _ => exact hq)

theorem tE {P : Program} {gl : Ctx} {y : Code} {i : Nat} {Q : AEx → St → Prop} {σ : St} (h : Q (.exit i) σ) : thenQ P gl y Q (.exit i) σ := h
theorem jE {gl : Ctx} {J : St → Prop} {i : Nat} {Q : AEx → St → Prop} {σ : St} (h : Q (.exit i) σ) : jQ gl J Q (.exit i) σ := h
theorem lE {gl : Ctx} {R : Nat → St → Prop} {n i : Nat} {Q : AEx → St → Prop} {σ : St} (h : Q (.exit i) σ) : loopJ gl R n Q (.exit i) σ := h
theorem bN {id : Nat} {Q : AEx → St → Prop} {σ : St} (h : Q .normal σ) : blockQ id Q .normal σ := h
theorem bE {id : Nat} {Q : AEx → St → Prop} {σ : St} (h : Q .normal σ) : blockQ id Q (.exit id) σ := by simp only [blockQ, if_true]; exact h
theorem bO {id i : Nat} {Q : AEx → St → Prop} {σ : St} (hne : Nat.beq i id = false) (h : Q (.exit i) σ) : blockQ id Q (.exit i) σ := by
  simp only [blockQ]; rw [if_neg (fun e => by subst e; simp at hne)]; exact h

/-- a function's end, up to such steps -/
def fQ (gl : Ctx) (G : Tab) (rs : List ResultVar) (r : ARes) (H' : List (Option Blk)) : AEx → St → Prop
  | .normal, σ => ∃ σ', Wk gl σ σ' ∧ bodyQ G rs r H' .normal σ'
  | .ret, σ => ∃ σ', Wk gl σ σ' ∧ bodyQ G rs r H' .ret σ'
  | x, σ => bodyQ G rs r H' x σ

theorem Cl.f {gl : Ctx} {G : Tab} {rs : List ResultVar} {r : ARes} {H' : List (Option Blk)} : Cl gl (fQ gl G rs r H') := ⟨fun _ _ h ⟨σ2, h2, hj⟩ => ⟨σ2, h.trans h2, hj⟩, fun _ _ _ _ hq => hq.elim⟩

theorem fQ_fin {gl : Ctx} {G : Tab} {rs : List ResultVar} (l : List Gh) (ts : List (Option Ty)) (m : List Bool) {σ : St} {y : AV} {H' : List (Option Blk)} (h : (ghs l σ).bind (fin G rs ts m) = some (y, H')) : fQ gl G rs (.ret y) H' .ret σ ∧ fQ gl G rs (.ret y) H' .normal σ := by
  cases hg : ghs l σ with
  | none => rw [hg] at h; cases h
  | some σ' =>
    rw [hg] at h
    have := bodyQ_fin ts m h
    exact ⟨⟨σ', ghs_ok hg, this.1⟩, ⟨σ', ghs_ok hg, this.2⟩⟩

theorem FnEx.of_runF {P : Program} {G : Tab} (T : Tied P G) {gl : Ctx} {f : FuncId} {fn : Func} {c : Code} (hf : P.funcs[f]? = some fn) (hb : fn.body = some c) (hro : gl.ro = none) {args : List AV} {H H' : List (Option Blk)} {r : ARes} {σ0 : St} (hs : (⟨args ++ List.replicate (fn.ntmps - args.length) .bot, H, []⟩ : St) = σ0)
    (h : Run P gl c σ0 (fQ gl G fn.results.toList r H')) : FnEx P gl f args H r H' := by
  subst hs
  intro E w vs hv hw
  obtain ⟨hl, hget⟩ := hv.get
  refine CallsIn.calls (F := Wd gl) (n := 0) (callsIn_of_wp hf hb trivial ?_ hro) (fun k d hd => by cases hd)
  have hg : Gam gl ⟨args ++ List.replicate (fn.ntmps - args.length) .bot, H, []⟩ E { tmps := vs.toArray ++ Array.replicate (fn.ntmps - vs.toArray.size) undef, defers := [] } w := by
    refine ⟨?_, ?_, hw, trivial⟩
    · simp only [Array.size_append, List.size_toArray, Array.size_replicate, List.length_append, List.length_replicate]
      rw [hl]
    · intro i x hx v hv'
      rw [Array.getElem?_append] at hv'
      simp only [List.getElem?_append] at hx
      split at hx
      · rename_i hi
        rw [if_pos (by simpa [hl] using hi)] at hv'
        exact hget i x v hx (by simpa using hv')
      · rw [List.getElem?_replicate] at hx
        split at hx
        · cases hx; trivial
        · cases hx
  refine wpIn_mono (h E _ w hg) ?_
  rintro ex a' w' ⟨x, σ', E', h1, h2, h3, h4⟩
  have hdf : ∀ (σ : St) (E : Env) l, σ.df = [] → RD E w' σ.df l → l = [] := by
    intro σ E l e hd
    rw [e] at hd
    cases l with
    | nil => rfl
    | cons d l => exact hd.elim
  cases ex with
  | normal =>
    cases x with
    | normal =>
      obtain ⟨σ2, hwk, hd, x, y, ts, m, r1, r2, r3, r4⟩ := h2
      obtain ⟨E2, g2, x2⟩ := hwk E' a' w' h3
      obtain ⟨v, k1, k2⟩ := resAV_ok T g2 r1
      subst r3; subst r4
      exact ⟨hdf _ _ _ hd g2.df, v, k1, E2, pur_ok r2 k2, g2.hw.prune m, (h4.trans x2).prune m⟩
    | _ => exact h1.elim
  | ret =>
    cases x with
    | ret =>
      obtain ⟨σ2, hwk, hd, x, y, ts, m, r1, r2, r3, r4⟩ := h2
      obtain ⟨E2, g2, x2⟩ := hwk E' a' w' h3
      obtain ⟨v, k1, k2⟩ := resAV_ok T g2 r1
      subst r3; subst r4
      exact ⟨hdf _ _ _ hd g2.df, v, k1, E2, pur_ok r2 k2, g2.hw.prune m, (h4.trans x2).prune m⟩
    | _ => exact h1.elim
  | panic chain =>
    cases x with
    | panic y =>
      obtain ⟨hd, m, r3, r4⟩ := h2
      subst r3; subst r4
      exact ⟨hdf _ _ _ hd h3.df, E', h1, h3.hw.prune m, h4.prune m⟩
    | _ => exact h1.elim
  | exit i => cases x <;> first | exact h1.elim | exact h2.elim
  | goto l => cases x <;> exact h1.elim
  | outgrown => cases x <;> exact h1.elim

theorem Run.condT {P : Program} {gl : Ctx} {σ : St} {Q : AEx → St → Prop} {c : Operand} {x y : Code} {b : Bool} (hc : evOpd gl σ.tm c = .val .bool b) (hb : b = true) (h : Run P gl x σ Q) : Run P gl (.cond c x y) σ Q :=
  Run.cond hc (fun _ => h) (fun e => by rw [hb] at e; cases e)
theorem Run.condF {P : Program} {gl : Ctx} {σ : St} {Q : AEx → St → Prop} {c : Operand} {x y : Code} {b : Bool} (hc : evOpd gl σ.tm c = .val .bool b) (hb : b = false) (h : Run P gl y σ Q) : Run P gl (.cond c x y) σ Q :=
  Run.cond hc (fun e => by rw [hb] at e; cases e) (fun _ => h)

theorem Fc.of {P : Program} {gl : Ctx} {f : FuncId} {args : List AV} {H H' : List (Option Blk)} {r : ARes} (hc : ∀ vs w, (callFunc f vs).run P w = .ok (.enter f vs) w) (h : FnEx P gl f args H r H') : Fc P gl f args H r H' := ⟨hc, h⟩

/-! the hypothesis is peeled along the code -/

theorem ite_none {α : Type} {p : Prop} [Decidable p] {k : Option α} {r : α} (h : (if p then k else none) = some r) : p ∧ k = some r := by
  split at h
  · exact ⟨by assumption, h⟩
  · cases h

theorem ite_some {α : Type} {b : Bool} {x y : Option α} {r : α} (h : (if b = true then x else y) = some r) : (b = true ∧ x = some r) ∨ (b = false ∧ y = some r) := by
  cases b
  · exact Or.inr ⟨rfl, h⟩
  · exact Or.inl ⟨rfl, h⟩

theorem bind_some {α β : Type} {x : Option α} {f : α → Option β} {r : β} (h : x.bind f = some r) : ∃ y, x = some y ∧ f y = some r := by
  cases x with
  | none => cases h
  | some y => exact ⟨y, rfl, h⟩

inductive Ctl (β ρ : Type) where
  | brk (b : β)
  | ret (r : ρ)

/-- states in short -/
def setAll {α : Type} : List (Nat × α) → List α → List α
  | [], l => l
  | (i, x) :: m, l => setAll m (l.set i x)

def mkSt (n m : Nat) (tm : List (Nat × AV)) (hp : List (Nat × Option Blk)) : St := ⟨setAll tm (List.replicate n .bot), setAll hp (List.replicate m none), []⟩

/-- the blocks that stay -/
def msk (m : Nat) (ids : List Nat) : List Bool := setAll (ids.map fun i => (i, true)) (List.replicate m false)

/-- fuel where a loop's head does not say how often -/
def big : Nat := 18446744073709551616

abbrev w64 (n : Int) : Int := IntKind.i64.wrap n

def nth (t : Ty) (xs : List t.den) (i : Int) : t.den := xs.getD i.toNat t.dflt

end Go.Abs

/- part AbsNil -/
/- Abstract machine: is a slice nil? (data do not tell) -/
namespace Go.Abs

theorem Run.sregNil {P : Program} {gl : Ctx} {σ : St} {Q : AEx → St → Prop} {id : Nat} {o1 o2 : Oper} {y : Code} (x : Operand) (d1 d2 : Nat) (t t2 e : TypeId) (bs : Nat) (u : Ty) (xs : List u.den)
    (h1 : o1.op = .move x) (hd1 : o1.dst = some d1) (hg1 : o1.guard = none) (h2 : o2.op = .binOp .eql t (.tmp d1) (.const (.slice none 0 0)) t2) (hd2 : o2.dst = some d2) (hg2 : o2.guard = none)
    (hx : evOpd gl σ.tm x = .val (.slice bs u) xs) (ht : P.underlying t = some (.slice e)) (hl : Nat.blt d1 σ.tm.length = true)
    (h : ∀ b : Bool, (b = true → xs = []) → Run P gl y ((σ.put (some d1) (.val (.slice bs u) xs)).put (some d2) (.val .bool b)) Q) : Run P gl (.seq (.region id #[o1, o2] false) y) σ Q := by
  intro E a w hg
  have hv := evOpd_ok hg x
  rw [hx] at hv
  obtain ⟨ad, cap, hve, _, _, _, hor⟩ := RV.atom rfl hv
  simp at hve
  have hlt : d1 < a.tmps.size := by rw [hg.len]; simp [Nat.blt] at hl; omega
  refine wpIn_seq (wpIn_region ?_)
  have hr : List.range (#[o1, o2] : Array Oper).size = [0, 1] := rfl
  rw [hr]
  have w1 : ∀ z, Region.wanted o1 z = true := fun z => by simp [Region.wanted, hg1]
  have w2 : ∀ z, Region.wanted o2 z = true := fun z => by simp [Region.wanted, hg2]
  have ga := hg.put (some d1) hv
  have hb : ad.isNone = true → xs = [] := by
    intro hn
    rcases hor with h0 | ⟨b, o, cs, e1, _⟩
    · exact h0
    · subst e1; cases hn
  have gb := ga.put (some d2) (x := .val .bool ad.isNone) (v := .bool ad.isNone) (RV.of0 (Or.inr ⟨rfl, rfl⟩))
  have hfin := h ad.isNone hb E _ w gb
  simp only [wpOpsIn, List.getElem?_toArray, List.getElem?_cons_zero, List.getElem?_cons_succ, w1, if_true]
  refine ⟨fun _ _ => trivial, ?_⟩
  rw [Oper.semAt_eq _ _ _ (by rw [h1]; intro c hc; cases hc)]
  have r1 : (execOp a.eval o1).run P w = .ok (.value (a.eval x)) w := by simp [execOp, h1]
  rw [r1, Oper.uponIn_value, hd1]
  simp only [w2, if_true]
  refine ⟨fun _ _ => trivial, ?_⟩
  rw [Oper.semAt_eq _ _ _ (by rw [h2]; intro c hc; cases hc)]
  have hev : (a.put (some d1) (a.eval x)).eval (.tmp d1) = .slice ad xs.length cap := by
    have : (a.put (some d1) (a.eval x)).eval (.tmp d1) = a.eval x := by
      generalize a.eval x = v
      simp [Act.eval, Act.put, hlt]
    rw [this, hve]
  have r2 : (execOp (a.put (some d1) (a.eval x)).eval o2).run P w = .ok (.value (.bool ad.isNone)) w := by
    have hq := run_equal_slice_nil (P := P) w t e ad xs.length cap ht
    have hc : (a.put (some d1) (a.eval x)).eval (.const (.slice none 0 0)) = .slice none 0 0 := rfl
    simp [execOp, h2, hev, hc, eqGuard, binOp, hq]
  rw [r2, Oper.uponIn_value, hd2]
  simp only [Exit.then]
  refine wpIn_mono hfin ?_
  rintro ex a' w' ⟨x', σ', E', k1, k2, k3, k4⟩
  exact ⟨x', σ', E', k1, k2, k3, k4⟩

end Go.Abs

/- part AbsMark -/
/- Abstract machine: blocks of others; functions that end with marks of ranges over functions. -/
namespace Go.Abs

theorem HW.frame {gl : Ctx} {E : Env} {w : World} {hp : List (Option Blk)} (h : HW gl E w hp) {g : Nat} {o : Obj} (hS : ¬ E.S g) (hO : ¬ Own hp E g) : Keeps E w E (w.putObj g o) ∧ HW gl E (w.putObj g o) hp := by
  have kp : Keeps E w E (w.putObj g o) := ⟨fun b hb => World.putObj_heap_other (fun e => hS (e ▸ hb)), fun _ h => h⟩
  exact ⟨kp, fun b k hb => RB.mono kp (fun _ _ => ⟨rfl, rfl, rfl⟩) (fun i hi => World.putObj_heap_other (fun e => hO ⟨b, k, hb, by rw [← e]; exact hi⟩)) (h.blk b k hb), h.sep, h.stab, fun i hi => by simpa using h.slt i hi, h.glKeep kp⟩

/-- a block that nobody here owns is turned -/
theorem Gam.frame {gl : Ctx} {σ : St} {E : Env} {a : Act} {w : World} (h : Gam gl σ E a w) {g : Nat} {o : Obj} (hS : ¬ E.S g) (hO : ¬ Own σ.hp E g) : Gam gl σ E a (w.putObj g o) := by
  obtain ⟨kp, hw⟩ := h.hw.frame (o := o) hS hO
  exact h.carry kp (fun _ _ => ⟨rfl, rfl, rfl⟩) hw

theorem Ext.put {O : Nat → Prop} {E : Env} {w : World} {g : Nat} {o : Obj} (h : O g) : Ext O E w O E (w.putObj g o) :=
  ⟨rfl, rfl, rfl, by simp, fun i _ hi => World.putObj_heap_other (fun e => hi (e ▸ h)), fun _ h => h, fun _ h => Or.inl h, fun _ h => Or.inl h, fun _ _ => ⟨rfl, rfl, rfl⟩⟩

theorem set_none_get {hp : List (Option Blk)} {b c : Nat} {k : Blk} (h : (hp.set b none)[c]? = some (some k)) : c ≠ b ∧ hp[c]? = some (some k) := by
  rw [List.getElem?_set] at h
  split at h
  · split at h <;> cases h
  · rename_i hne; exact ⟨fun e => hne e.symm, h⟩

theorem HW.drop {gl : Ctx} {E : Env} {w : World} {hp : List (Option Blk)} (h : HW gl E w hp) (b : Nat) : HW gl E w (hp.set b none) := h.less (fun _ _ hc => (set_none_get hc).2)

theorem Own.drop {E : Env} {hp : List (Option Blk)} {b g : Nat} (h : Own (hp.set b none) E g) : Own hp E g := by
  obtain ⟨c, k, h1, h2⟩ := h
  exact ⟨c, k, (set_none_get h1).2, h2⟩

/-- a block is turned and given up -/
theorem Gam.shut {gl : Ctx} {σ : St} {E : Env} {a : Act} {w : World} (h : Gam gl σ E a w) {b g : Nat} {k : Blk} (hb : σ.hp[b]? = some (some k)) (hg : E.g b = some g) (o : Obj) :
    Gam gl { σ with hp := σ.hp.set b none } E a (w.putObj g o) ∧ Ext (Own σ.hp E) E w (Own (σ.hp.set b none) E) E (w.putObj g o) := by
  have hS : ¬ E.S g := h.hw.stab b k g hb hg
  have hO : ¬ Own (σ.hp.set b none) E g := by
    rintro ⟨c, k', hc, hgc⟩
    obtain ⟨h1, h2⟩ := set_none_get hc
    exact h1 (h.hw.sep c b k' k g h2 hb hgc hg)
  have h1 : Gam gl { σ with hp := σ.hp.set b none } E a w := ⟨h.len, h.tm, h.hw.drop b, h.df⟩
  refine ⟨h1.frame hS hO, ?_⟩
  have := Ext.put (O := Own σ.hp E) (E := E) (w := w) (o := o) ⟨b, k, hb, hg⟩
  exact { this with own := fun i hi => Or.inl (Own.drop hi) }

/-- the marks' blocks are taken away -/
def marks : List AV → List (Option Blk) → Option (List (Option Blk))
  | [], hp => some hp
  | .mp b :: l, hp => match hbOf hp b with
    | some .dfr => marks l (hp.set b none)
    | _ => none
  | _, _ => none

theorem leavesM {P : Program} {gl : Ctx} {fn : Func} {R : Ending → World → Prop} {tmps : Array Value} : ∀ (df : List AV) {tm : List AV} {hp hp' : List (Option Blk)} {E : Env} {ds : List Deferred} {w : World},
    Gam gl ⟨tm, hp, df⟩ E ⟨tmps, ds⟩ w → marks df hp = some hp' → (∀ w', Gam gl ⟨tm, hp', []⟩ E ⟨tmps, []⟩ w' → Ext (Own hp E) E w (Own hp' E) E w' → LeavesIn (Wd gl) 0 P fn tmps R [] .returning w') → LeavesInM (Wd gl) 0 P fn tmps R ds .returning w
  | [], tm, hp, hp', E, ds, w, h, hm, hk => by
    cases hm
    have : ds = [] := by
      have := h.df
      cases ds with
      | nil => rfl
      | cons _ _ => exact this.elim
    subst this
    exact hk w h (Ext.refl _ _ _)
  | x :: l, tm, hp, hp', E, ds, w, h, hm, hk => by
    cases x with
    | mp b =>
      simp only [marks] at hm
      split at hm
      · rename_i hb
        have hbk := hbOf_HB hp b _ hb
        cases ds with
        | nil => exact h.df.elim
        | cons d ds =>
          obtain ⟨⟨g, hg, hd⟩, hrest⟩ := h.df
          obtain ⟨g', hg', hh⟩ := h.hw.blk b _ hbk
          rw [hg] at hg'; cases hg'
          have h0 : Gam gl ⟨tm, hp, l⟩ E ⟨tmps, ds⟩ w := ⟨h.len, h.tm, h.hw, hrest⟩
          obtain ⟨g1, x1⟩ := h0.shut hbk hg (.deferred none)
          refine ⟨by simp, Or.inl ⟨g, _, by rw [hd], run_takeDeferred hh, ?_⟩⟩
          exact leavesM l g1 hm (fun w' k1 k2 => hk w' k1 (x1.trans k2))
      · cases hm
    | _ => simp [marks] at hm

def bodyQM (gl : Ctx) (G : Tab) (rs : List ResultVar) (r : ARes) (H' : List (Option Blk)) : AEx → St → Prop
  | .normal, σ => ∃ σ' hp', Wk gl σ σ' ∧ marks σ'.df σ'.hp = some hp' ∧ bodyQ G rs r H' .ret { σ' with hp := hp', df := [] }
  | .ret, σ => ∃ σ' hp', Wk gl σ σ' ∧ marks σ'.df σ'.hp = some hp' ∧ bodyQ G rs r H' .ret { σ' with hp := hp', df := [] }
  | _, _ => False

theorem Cl.m {gl : Ctx} {G : Tab} {rs : List ResultVar} {r : ARes} {H' : List (Option Blk)} : Cl gl (bodyQM gl G rs r H') :=
  ⟨fun _ _ h ⟨σ2, hp', h2, hj⟩ => ⟨σ2, hp', h.trans h2, hj⟩, fun _ _ _ _ hq => hq.elim⟩

def finM (G : Tab) (rs : List ResultVar) (ts : List (Option Ty)) (m : List Bool) (σ : St) : Option (AV × List (Option Blk)) :=
  match marks σ.df σ.hp with
  | some hp => fin G rs ts m { σ with hp := hp, df := [] }
  | none => none

theorem mQ_fin {gl : Ctx} {G : Tab} {rs : List ResultVar} (l : List Gh) (ts : List (Option Ty)) (m : List Bool) {σ : St} {y : AV} {H' : List (Option Blk)} (h : (ghs l σ).bind (finM G rs ts m) = some (y, H')) : bodyQM gl G rs (.ret y) H' .ret σ ∧ bodyQM gl G rs (.ret y) H' .normal σ := by
  cases hg : ghs l σ with
  | none => rw [hg] at h; cases h
  | some σ' =>
    rw [hg] at h
    simp only [Option.bind_some, finM] at h
    split at h
    · rename_i hp' hm
      have := (bodyQ_fin ts m h).1
      exact ⟨⟨σ', hp', ghs_ok hg, hm, this⟩, ⟨σ', hp', ghs_ok hg, hm, this⟩⟩
    · cases h

theorem FnEx.of_runM {P : Program} {G : Tab} (T : Tied P G) {gl : Ctx} {f : FuncId} {fn : Func} {c : Code} (hf : P.funcs[f]? = some fn) (hb : fn.body = some c) (hro : gl.ro = none) {args : List AV} {H H' : List (Option Blk)} {r : ARes} {σ0 : St} (hs : (⟨args ++ List.replicate (fn.ntmps - args.length) .bot, H, []⟩ : St) = σ0)
    (h : Run P gl c σ0 (bodyQM gl G fn.results.toList r H')) : FnEx P gl f args H r H' := by
  subst hs
  intro E w vs hv hw
  obtain ⟨hl, hget⟩ := hv.get
  refine CallsIn.calls (F := Wd gl) (n := 0) (callsIn_of_wp_marks hf hb trivial ?_ hro) (fun k d hd => by cases hd)
  have hg : Gam gl ⟨args ++ List.replicate (fn.ntmps - args.length) .bot, H, []⟩ E { tmps := vs.toArray ++ Array.replicate (fn.ntmps - vs.toArray.size) undef, defers := [] } w := by
    refine ⟨?_, ?_, hw, trivial⟩
    · simp only [Array.size_append, List.size_toArray, Array.size_replicate, List.length_append, List.length_replicate]
      rw [hl]
    · intro i x hx v hv'
      rw [Array.getElem?_append] at hv'
      simp only [List.getElem?_append] at hx
      split at hx
      · rename_i hi
        rw [if_pos (by simpa [hl] using hi)] at hv'
        exact hget i x v hx (by simpa using hv')
      · rw [List.getElem?_replicate] at hx
        split at hx
        · cases hx; trivial
        · cases hx
  refine wpIn_mono (h E _ w hg) ?_
  rintro ex a' w' ⟨x, σ', E', h1, h2, h3, h4⟩
  have main : (∃ σ2 hp', Wk gl σ' σ2 ∧ marks σ2.df σ2.hp = some hp' ∧ bodyQ G fn.results.toList r H' .ret { σ2 with hp := hp', df := [] }) →
      LeavesInM (Wd gl) 0 P fn a'.tmps (fun e w' => ∃ E', ResR E' w' r e ∧ HW gl E' w' H' ∧ Ext (Own H E) E w (Own H' E') E' w') a'.defers .returning w' := by
    rintro ⟨σ2, hp', hwk, hm, hd, x, y, ts, m, r1, r2, r3, r4⟩
    obtain ⟨E2, g2, x2⟩ := hwk E' a' w' h3
    subst r3; subst r4
    refine leavesM σ2.df g2 hm (fun w3 k1 k2 => ?_)
    obtain ⟨v, k3, k4⟩ := resAV_ok T k1 r1
    exact ⟨v, k3, E2, pur_ok r2 k4, k1.hw.prune m, ((h4.trans x2).trans k2).prune m⟩
  cases ex with
  | normal =>
    cases x with
    | normal => exact main h2
    | _ => exact h1.elim
  | ret =>
    cases x with
    | ret => exact main h2
    | _ => exact h1.elim
  | panic chain => cases x <;> first | exact h1.elim | exact h2.elim
  | exit i => cases x <;> first | exact h1.elim | exact h2.elim
  | goto l => cases x <;> exact h1.elim
  | outgrown => cases x <;> exact h1.elim

end Go.Abs

/- part AbsDefer -/
/- Abstract machine: loops that are unrolled; deferred calls that find no panic. -/
namespace Go.Abs

/-! unrolled loops -/

def unrQ (P : Program) (gl : Ctx) (c : Code) (Q : AEx → St → Prop) : Nat → AEx → St → Prop
  | 0, .normal, _ => False
  | n + 1, .normal, σ => Run P gl c σ (unrQ P gl c Q n)
  | _, x, σ => Q x σ

theorem Run.unroll {P : Program} {gl : Ctx} {c : Code} {σ : St} {Q : AEx → St → Prop} (n : Nat) (h : Run P gl c σ (unrQ P gl c Q n)) : Run P gl (.loop c) σ Q := by
  refine Run.loop (fun n σ => Run P gl c σ (unrQ P gl c Q n)) ?_ h
  intro k σ1 hk
  refine Run.mono hk ?_
  intro x σ2 hx
  cases x with
  | normal =>
    cases k with
    | zero => exact hx.elim
    | succ k => exact ⟨k, Nat.lt_succ_self k, hx⟩
  | exit i => cases k <;> exact hx
  | ret => cases k <;> exact hx
  | panic v => cases k <;> exact hx

/-! a call is deferred -/

theorem Run.dreg {P : Program} {G : Tab} (T : Tied P G) {gl : Ctx} {σ : St} {Q : AEx → St → Prop} {id : Nat} {ops : Array Oper} {y : Code} {f : Foot} {o1 : Oper} {c : Call} {x : Operand} {fn : Fn} {cs : AV} (hn : ops.size = 2)
    (h0 : stepOp P G gl ops ⟨.bot, [], [], [], 0⟩ none [] σ 0 = some (f, [])) (hfr : f.fr.all σ.freshB = true) (h1 : ops[1]? = some o1) (ho : o1.op = .defer c) (hc : c = { callee := .value x, args := #[], argTypes := #[] }) (hg : o1.guard = none) (hd : o1.dst = none)
    (hv : evOpd gl (σ.app f).tm x = .func fn .nil cs) (hro : gl.ro = none)
    (hq : Run P gl y { σ.app f with df := .func fn .nil cs :: (σ.app f).df } Q) : Run P gl (.seq (.region id ops false) y) σ Q := by
  refine Run.seq ?_
  intro E a w hgm
  refine wpIn_region ?_
  rw [hn, show List.range 2 = [0, 1] from rfl, wpOpsIn_cons]
  refine stepOp_ok T h0 trivial σ (Agree.refl _ _ _) (fun d hd => St.fresh_of ((List.all_eq_true.1 hfr) d hd)) E a w hgm _ _ ?_
  intro E1 a1 w1 hg1 hx1
  rw [wpOpsIn_cons]
  unfold wpOpIn
  rw [h1]
  simp only
  have hw : Region.wanted o1 (yielded ops a1.tmps) = true := by simp [Region.wanted, hg]
  rw [if_pos hw]
  have hv1 := evOpd_ok hg1 x
  rw [hv] at hv1
  obtain ⟨f', c', ev, r1, r2, r3, r4⟩ : ∃ f' c', a1.eval x = .func fn f' c' ∧ RC E1 w1 .nil f'.toList ∧ RC E1 w1 cs c'.toList ∧ AV.nil.atoms = true ∧ cs.atoms = true := by
    rcases RV.to0 rfl hv1 with ⟨hh, _⟩ | ⟨_, hh⟩
    · cases hh
    · obtain ⟨f', c', e, q⟩ := hh
      exact ⟨f', c', (List.cons.inj e).1, q⟩
  have hf' : f' = #[] := by apply Array.ext'; simpa [RC] using r1
  subst hf'
  subst hc
  refine ⟨fun _ _ => trivial, ?_⟩
  have hs : (o1.semAt (Wd gl).round a1.eval).run P w1 = .ok (.defer { target := .fn fn c', args := #[] }) w1 := by
    rw [show (Wd gl).round = none from hro, Oper.semAt_none]
    simp [execOp, ho, resolve, ev, Deferred.ofValue]
  rw [hs, Oper.uponIn_defer, hd]
  have hg2 : Gam gl { σ.app f with df := .func fn .nil cs :: (σ.app f).df } E1 { a1 with defers := { target := .fn fn c', args := #[] } :: a1.defers } w1 :=
    ⟨hg1.len, hg1.tm, hg1.hw, ⟨⟨#[], c', rfl, r1, r2, r3, r4⟩, hg1.df⟩⟩
  refine ⟨.normal, _, E1, trivial, hq, hg2, hx1⟩

def dregSt (P : Program) (G : Tab) (gl : Ctx) (ops : Array Oper) (σ : St) : Option St :=
  match ops with
  | ⟨[_, o1]⟩ => match stepOp P G gl ops ⟨.bot, [], [], [], 0⟩ none [] σ 0 with
    | some (f, []) => match f.fr.all σ.freshB, o1.op, o1.guard, o1.dst with
      | true, .defer { callee := .value x, args := ⟨[]⟩, argTypes := ⟨[]⟩ }, none, none => match evOpd gl (σ.app f).tm x with
        | .func fn .nil cs => some { σ.app f with df := .func fn .nil cs :: (σ.app f).df }
        | _ => none
      | _, _, _, _ => none
    | _ => none
  | _ => none

theorem Run.dregC {P : Program} {G : Tab} (T : Tied P G) {gl : Ctx} {σ σ' : St} {Q : AEx → St → Prop} {id : Nat} {ops : Array Oper} {y : Code} (hro : gl.ro = none) (h : dregSt P G gl ops σ = some σ') (hq : Run P gl y σ' Q) : Run P gl (.seq (.region id ops false) y) σ Q := by
  unfold dregSt at h
  split at h
  · rename_i o0 o1
    split at h
    · rename_i f h0
      split at h
      · rename_i x hfr ho hg hd
        split at h
        · rename_i fn cs hv
          cases h
          exact Run.dreg T rfl h0 hfr rfl ho rfl hg hd hv hro hq
        · cases h
      · cases h
    · cases h
  · cases h

theorem uE {P : Program} {gl : Ctx} {c : Code} {Q : AEx → St → Prop} {n i : Nat} {σ : St} (h : Q (.exit i) σ) : unrQ P gl c Q n (.exit i) σ := by cases n <;> exact h
theorem uR {P : Program} {gl : Ctx} {c : Code} {Q : AEx → St → Prop} {n : Nat} {σ : St} (h : Q .ret σ) : unrQ P gl c Q n .ret σ := by cases n <;> exact h
theorem uN {P : Program} {gl : Ctx} {c : Code} {Q : AEx → St → Prop} {n : Nat} {σ : St} (h : Run P gl c σ (unrQ P gl c Q n)) : unrQ P gl c Q (n + 1) .normal σ := h

/-! a deferred call in a frame that returns -/

/-- called as a deferred call of a frame that returns, with these values, over these blocks, the function returns; the frame still returns -/
def FdN (P : Program) (gl : Ctx) (f : FuncId) (args : List AV) (H H' : List (Option Blk)) : Prop :=
  (∀ vs w, (callFunc f vs).run P w = .ok (.enter f vs) w) ∧ ∀ E w vs, RVs E w args vs → HW gl E w H →
    CallsDIn (Wd gl) 0 P f vs.toArray .returning w fun e u w' => u = .returning ∧ (∃ v, e = .returned v) ∧ ∃ E', HW gl E' w' H' ∧ Ext (Own H E) E w (Own H' E') E' w'

theorem FdN.of_run {P : Program} {G : Tab} (T : Tied P G) {gl : Ctx} {f : FuncId} {fn : Func} {ops : Array Oper} {rid : Nat} {rest : Code} {t5 t2 : Nat} {ts : Array TypeId} {o0 o1 : Oper} (hcf : ∀ vs w, (callFunc f vs).run P w = .ok (.enter f vs) w) (hf : P.funcs[f]? = some fn)
    (hb : fn.body = some (.seq (.region rid ops false) rest)) (hro : gl.ro = none) (hops : ops = #[o0, o1]) (h0 : o0.op = .call { callee := .builtin .recover, args := #[], argTypes := ts }) (h0d : o0.dst = some t5) (h0g : o0.guard = none)
    (h1 : o1.op = .assign (.tmp t5)) (h1d : o1.dst = some t2) (h1g : o1.guard = none) {args : List AV} {H H' : List (Option Blk)} {r : AV} {σ0 : St} (ht5 : Nat.blt t5 fn.ntmps = true)
    (hs : ((⟨args ++ List.replicate (fn.ntmps - args.length) .bot, H, []⟩ : St).put (some t5) .nili).put (some t2) .nili = σ0)
    (h : Run P gl rest σ0 (fQ gl G fn.results.toList (.ret r) H')) : FdN P gl f args H H' := by
  refine ⟨hcf, ?_⟩
  intro E w vs hv hw
  obtain ⟨hl, hget⟩ := hv.get
  refine callsDIn_of_wpSIn hf hb trivial ?_
  intro c0 cs hm
  have hg : Gam gl ⟨args ++ List.replicate (fn.ntmps - args.length) .bot, H, []⟩ E { tmps := vs.toArray ++ Array.replicate (fn.ntmps - vs.toArray.size) undef, defers := [] } w := by
    refine ⟨?_, ?_, hw, trivial⟩
    · simp only [Array.size_append, List.size_toArray, Array.size_replicate, List.length_append, List.length_replicate]
      rw [hl]
    · intro i x hx v hv'
      rw [Array.getElem?_append] at hv'
      simp only [List.getElem?_append] at hx
      split at hx
      · rename_i hi
        rw [if_pos (by simpa [hl] using hi)] at hv'
        exact hget i x v hx (by simpa using hv')
      · rw [List.getElem?_replicate] at hx
        split at hx
        · cases hx; trivial
        · cases hx
  refine wpSIn_seq (wpSIn_region ?_)
  subst hops
  show wpOpsSIn _ _ _ _ _ [0, 1] _ _ _
  have w0 : ∀ y, Region.wanted o0 y = true := by intro y; simp [Region.wanted, h0g]
  have w1 : ∀ y, Region.wanted o1 y = true := by intro y; simp [Region.wanted, h1g]
  have x0 : ∀ ρ : Operand → Value, (execOp ρ o0).run P w = .ok .recover w := by
    intro ρ
    simp [execOp, h0, resolve, invoke, builtin]
  have hrc : recoverD (c0 :: cs) = none := by simp [recoverD, hm]
  have ei0 : (#[o0, o1] : Array Oper)[0]? = some o0 := rfl
  have ei1 : (#[o0, o1] : Array Oper)[1]? = some o1 := rfl
  simp only [wpOpsSIn, ei0, ei1, w0, w1, if_true, x0, hrc]
  refine ⟨fun _ _ => trivial, fun _ _ => trivial, ?_⟩
  have hnil : RV E w .nili .nilIface := RV.of0 (Or.inr ⟨rfl, rfl⟩)
  have hg1 := hg.put (some t5) hnil
  have hlt : t5 < fn.ntmps := by simp [Nat.blt] at ht5; omega
  have hev : ((({ tmps := vs.toArray ++ Array.replicate (fn.ntmps - vs.toArray.size) undef, defers := [] } : Act).put o0.dst .nilIface).eval (.tmp t5)) = .nilIface := by
    rw [h0d]
    have hsz : t5 < (vs.toArray ++ Array.replicate (fn.ntmps - vs.toArray.size) undef).size := by
      simp only [Array.size_append, Array.size_replicate]; omega
    simp [Act.put, Act.eval]
    intro hh
    omega
  have x1 : (execOp (({ tmps := vs.toArray ++ Array.replicate (fn.ntmps - vs.toArray.size) undef, defers := [] } : Act).put o0.dst .nilIface).eval o1).run P w = .ok (.value .nilIface) w := by
    simp only [execOp, h1]
    rw [hev]
    rfl
  rw [x1]
  simp only
  have hg2 := hg1.put (some t2) hnil
  rw [hs] at hg2
  rw [h0d, h1d]
  refine wpSIn_of_wpIn (F := Wd gl) hro (wpIn_mono (h E _ w hg2) ?_)
  rintro ex a' w' ⟨x, σ', E', q1, q2, q3, q4⟩
  have hσ0 : σ0.hp = H := by rw [← hs]; rfl
  rw [hσ0] at q4
  have hdf : ∀ (σ : St) (E : Env) l, σ.df = [] → RD E w' σ.df l → l = [] := by
    intro σ E l e hd
    rw [e] at hd
    cases l with
    | nil => rfl
    | cons d l => exact hd.elim
  have hc0 : (c0 :: cs) = { c0 with mode := .returning } :: cs := by rw [← hm]
  cases ex with
  | normal =>
    cases x with
    | normal =>
      obtain ⟨σ2, hwk, hd, x, y, ts, m, r1, r2, r3, r4⟩ := q2
      obtain ⟨E2, g2, x2⟩ := hwk E' a' w' q3
      obtain ⟨v, k1, k2⟩ := resAV_ok T g2 r1
      subst r4
      exact ⟨hdf _ _ _ hd g2.df, .returning, hc0, v, k1, rfl, ⟨v, rfl⟩, E2, g2.hw.prune m, (q4.trans x2).prune m⟩
    | _ => exact q1.elim
  | ret =>
    cases x with
    | ret =>
      obtain ⟨σ2, hwk, hd, x, y, ts, m, r1, r2, r3, r4⟩ := q2
      obtain ⟨E2, g2, x2⟩ := hwk E' a' w' q3
      obtain ⟨v, k1, k2⟩ := resAV_ok T g2 r1
      subst r4
      exact ⟨hdf _ _ _ hd g2.df, .returning, hc0, v, k1, rfl, ⟨v, rfl⟩, E2, g2.hw.prune m, (q4.trans x2).prune m⟩
    | _ => exact q1.elim
  | panic chain =>
    cases x with
    | panic y => obtain ⟨hd, m, r3, r4⟩ := q2; cases r3
    | _ => exact q1.elim
  | exit i => cases x <;> first | exact q1.elim | exact q2.elim
  | goto l => cases x <;> exact q1.elim
  | outgrown => cases x <;> exact q1.elim

/-! a function that ends with a deferred call, and no panic -/

def leaveAt (cr : CR) (σ : St) : Option (FuncId × List AV × List (Option Blk) × St) :=
  match σ.df with
  | [.func (.func fd) .nil cs] => match argsB (swp cr.ps) (hbOf σ.hp) (cs.toList.map (fun x => (x, Ty.unit))), inBlks (swp cr.ps) (hbOf σ.hp) cr.ps with
    | some (L, lent), some ins => if cs.atoms && crOK cr lent then some (fd, L, hset (List.replicate cr.m none) ins, { σ with hp := hset σ.hp (hwOf (cr.ps ++ cr.ns) cr.out (cr.ps ++ cr.ns)), df := [] }) else none
    | _, _ => none
  | _ => none

def dQ (P : Program) (gl : Ctx) (G : Tab) (rs : List ResultVar) (r : ARes) (H' : List (Option Blk)) (x : AEx) (σ : St) : Prop :=
  fQ gl G rs r H' x σ ∨ ((x = .normal ∨ x = .ret) ∧ ∃ σ' cr fd L H1 σ2, Wk gl σ σ' ∧ leaveAt cr σ' = some (fd, L, H1, σ2) ∧ cr.ns = [] ∧ cr.r = .bot ∧ FdN P gl fd L H1 (outH cr.m cr.out) ∧ bodyQ G rs r H' .ret σ2)

theorem dQ_fin {P : Program} {gl : Ctx} {G : Tab} {rs : List ResultVar} (l : List Gh) (ps : List (Nat × Nat)) (out : List (Nat × Blk)) (k : Nat) (ts : List (Option Ty)) (m : List Bool) {σ σ2 : St} {fd : FuncId} {L : List AV} {H1 H' : List (Option Blk)} {y : AV}
    (h : (ghs l σ).bind (leaveAt ⟨.bot, ps, [], out, k⟩) = some (fd, L, H1, σ2)) (h2 : fin G rs ts m σ2 = some (y, H')) (hF : FdN P gl fd L H1 (outH k out)) : dQ P gl G rs (.ret y) H' .ret σ ∧ dQ P gl G rs (.ret y) H' .normal σ := by
  cases hg : ghs l σ with
  | none => rw [hg] at h; cases h
  | some σ' =>
    rw [hg] at h
    have := bodyQ_fin ts m h2
    exact ⟨Or.inr ⟨Or.inr rfl, σ', _, fd, L, H1, σ2, ghs_ok hg, h, rfl, rfl, hF, this.1⟩, Or.inr ⟨Or.inl rfl, σ', _, fd, L, H1, σ2, ghs_ok hg, h, rfl, rfl, hF, this.1⟩⟩

theorem dQ_fin0 {P : Program} {gl : Ctx} {G : Tab} {rs : List ResultVar} (l : List Gh) (ts : List (Option Ty)) (m : List Bool) {σ : St} {y : AV} {H' : List (Option Blk)} (h : (ghs l σ).bind (fin G rs ts m) = some (y, H')) : dQ P gl G rs (.ret y) H' .ret σ ∧ dQ P gl G rs (.ret y) H' .normal σ :=
  ⟨Or.inl (fQ_fin l ts m h).1, Or.inl (fQ_fin l ts m h).2⟩

theorem Cl.d {P : Program} {gl : Ctx} {G : Tab} {rs : List ResultVar} {r : ARes} {H' : List (Option Blk)} : Cl gl (dQ P gl G rs r H') :=
  ⟨fun σ σ' h hq => by
    rcases hq with hq | ⟨_, σ2, cr, fd, L, H1, σ3, h2, q⟩
    · exact Or.inl (Cl.f.1 σ σ' h hq)
    · exact Or.inr ⟨by simp, σ2, cr, fd, L, H1, σ3, h.trans h2, q⟩, fun _ _ _ _ hq => by
    rcases hq with hq | ⟨hx, _⟩
    · exact hq.elim
    · rcases hx with hx | hx <;> cases hx⟩

theorem FnEx.of_runD {P : Program} {G : Tab} (T : Tied P G) {gl : Ctx} {f : FuncId} {fn : Func} {c : Code} (hf : P.funcs[f]? = some fn) (hb : fn.body = some c) (hro : gl.ro = none) {args : List AV} {H H' : List (Option Blk)} {r : ARes} {σ0 : St} (hs : (⟨args ++ List.replicate (fn.ntmps - args.length) .bot, H, []⟩ : St) = σ0)
    (h : Run P gl c σ0 (dQ P gl G fn.results.toList r H')) : FnEx P gl f args H r H' := by
  subst hs
  intro E w vs hv hw
  obtain ⟨hl, hget⟩ := hv.get
  refine CallsIn.calls (F := Wd gl) (n := 0) (callsIn_of_wp_defers hf hb trivial ?_ hro) (fun k d hd => by cases hd)
  have hg : Gam gl ⟨args ++ List.replicate (fn.ntmps - args.length) .bot, H, []⟩ E { tmps := vs.toArray ++ Array.replicate (fn.ntmps - vs.toArray.size) undef, defers := [] } w := by
    refine ⟨?_, ?_, hw, trivial⟩
    · simp only [Array.size_append, List.size_toArray, Array.size_replicate, List.length_append, List.length_replicate]
      rw [hl]
    · intro i x hx v hv'
      rw [Array.getElem?_append] at hv'
      simp only [List.getElem?_append] at hx
      split at hx
      · rename_i hi
        rw [if_pos (by simpa [hl] using hi)] at hv'
        exact hget i x v hx (by simpa using hv')
      · rw [List.getElem?_replicate] at hx
        split at hx
        · cases hx; trivial
        · cases hx
  refine wpIn_mono (h E _ w hg) ?_
  rintro ex a' w' ⟨x, σ', E', h1, h2, h3, h4⟩
  have hdf : ∀ (σ : St) (E : Env) l, σ.df = [] → RD E w' σ.df l → l = [] := by
    intro σ E l e hd
    rw [e] at hd
    cases l with
    | nil => rfl
    | cons d l => exact hd.elim
  have plain : (∃ σ2, Wk gl σ' σ2 ∧ bodyQ G fn.results.toList r H' .ret σ2) → LeavesIn (Wd gl) 0 P fn a'.tmps (fun e w' => ∃ E', ResR E' w' r e ∧ HW gl E' w' H' ∧ Ext (Own H E) E w (Own H' E') E' w') a'.defers .returning w' := by
    rintro ⟨σ2, hwk, hd, x, y, ts, m, r1, r2, r3, r4⟩
    obtain ⟨E2, g2, x2⟩ := hwk E' a' w' h3
    obtain ⟨v, k1, k2⟩ := resAV_ok T g2 r1
    subst r3; subst r4
    rw [hdf _ _ _ hd g2.df]
    exact ⟨v, k1, E2, pur_ok r2 k2, g2.hw.prune m, (h4.trans x2).prune m⟩
  have withD : (∃ σ1 cr fd L H1 σ2, Wk gl σ' σ1 ∧ leaveAt cr σ1 = some (fd, L, H1, σ2) ∧ cr.ns = [] ∧ cr.r = .bot ∧ FdN P gl fd L H1 (outH cr.m cr.out) ∧ bodyQ G fn.results.toList r H' .ret σ2) →
      LeavesIn (Wd gl) 0 P fn a'.tmps (fun e w' => ∃ E', ResR E' w' r e ∧ HW gl E' w' H' ∧ Ext (Own H E) E w (Own H' E') E' w') a'.defers .returning w' := by
    rintro ⟨σ1, cr, fd, L, H1, σ2, hwk, hlv, hns, hr, ⟨hcf, hF⟩, hd, x, y, ts, m, r1, r2, r3, r4⟩
    obtain ⟨E1, g1, x1⟩ := hwk E' a' w' h3
    subst r3; subst r4
    unfold leaveAt at hlv
    split at hlv
    · rename_i fd' cs hdf1
      split at hlv
      · rename_i L' lent ins hL hins
        split at hlv
        · rename_i hcond
          cases hlv
          simp only [Bool.and_eq_true] at hcond
          obtain ⟨hca, hok⟩ := hcond
          have gdf := g1.df
          rw [hdf1] at gdf
          cases hads : a'.defers with
          | nil => rw [hads] at gdf; exact gdf.elim
          | cons d ds =>
            rw [hads] at gdf
            obtain ⟨⟨f', c', ed, q1, q2, _, _⟩, hrest⟩ := gdf
            have hds : ds = [] := by
              cases ds with
              | nil => rfl
              | cons _ _ => exact hrest.elim
            subst hds
            have hf' : f' = #[] := by apply Array.ext'; simpa [RC] using q1
            subst hf'
            subst ed
            have hB := hbOf_HB σ1.hp
            have hlent := argsB_lent hL
            have gm : Gam gl σ1 E1 a' w' := g1
            obtain ⟨hφ, hw1⟩ := pass_in gm hB hlent hins hok
            have hmap : (cs.toList.map (fun x => (x, Ty.unit))).map (·.1) = cs.toList := by
              simp [List.map_map, Function.comp_def]
            have hvv := argsB_ok gm.hw hB hφ hL (fun g hg => hg) (by rw [hmap]; exact RVs.atoms hca q2)
            have hcall := hF _ w' _ hvv hw1
            refine leavesIn_cons (F := Wd gl) (by simp) (fun h => by cases h) (args := c'.toList.toArray) ?_ (fun _ _ => trivial) (CallsDIn.mono hcall ?_)
            · simp only [invoke, Array.empty_append]
              exact hcf c' w'
            · rintro e u w2 ⟨rfl, ⟨v, rfl⟩, E2, hW2, hX2⟩
              obtain ⟨E3, g3, _, x3⟩ := pass_out gm hB hlent hins hok (fun b hb => by rw [hns] at hb; cases hb) hW2 hX2 (v := v) (r' := .bot) (by rw [hr]; rfl) (by rw [hr]; trivial)
              have g4 : Gam gl { σ1 with hp := hset σ1.hp (hwOf (cr.ps ++ cr.ns) cr.out (cr.ps ++ cr.ns)), df := [] } E3 { a' with defers := [] } w2 := ⟨g3.len, g3.tm, g3.hw, trivial⟩
              obtain ⟨v2, k1, k2⟩ := resAV_ok T g4 r1
              exact ⟨v2, k1, E3, pur_ok r2 k2, g4.hw.prune m, ((h4.trans x1).trans x3).prune m⟩
        · cases hlv
      · cases hlv
    · cases hlv
  cases ex with
  | normal =>
    cases x with
    | normal =>
      rcases h2 with h2 | ⟨_, h2⟩
      · obtain ⟨σ2, hwk, hq⟩ := h2
        exact plain ⟨σ2, hwk, hq⟩
      · exact withD h2
    | _ => exact h1.elim
  | ret =>
    cases x with
    | ret =>
      rcases h2 with h2 | ⟨_, h2⟩
      · exact plain h2
      · exact withD h2
    | _ => exact h1.elim
  | panic chain =>
    cases x with
    | panic y =>
      rcases h2 with h2 | ⟨hx, _⟩
      · obtain ⟨hd, m, r3, r4⟩ := h2
        subst r3; subst r4
        show LeavesIn _ _ _ _ _ _ _ _ _
        rw [hdf _ _ _ hd h3.df]
        exact ⟨E', h1, h3.hw.prune m, h4.prune m⟩
      · rcases hx with hx | hx <;> cases hx
    | _ => exact h1.elim
  | exit i =>
    cases x with
    | exit j =>
      rcases h2 with h2 | ⟨hx, _⟩
      · exact h2.elim
      · rcases hx with hx | hx <;> cases hx
    | _ => exact h1.elim
  | goto l => cases x <;> exact h1.elim
  | outgrown => cases x <;> exact h1.elim

end Go.Abs

/- part AbsRound -/
/- Abstract machine: a round of a range over a function, as yield's contract. -/
namespace Go.Abs

def Ctx.wB (gl : Ctx) (B : (Nat → Prop) → World → Prop) (hB : ∀ {S S' : Nat → Prop} {w w' : World}, (∀ b, S b → w'.heap[b]? = w.heap[b]?) → (∀ b, S b → S' b) → B S w → B S' w') : Ctx := ⟨gl.gl, B, hB, none⟩
def Ctx.rnd (gl : Ctx) (l : Nat) : Ctx := ⟨gl.gl, fun _ _ => True, fun _ _ _ => trivial, some l⟩

def jmp (jl : List Code) : Nat → Option Code
  | 0 => none
  | j + 1 => jl[j]?

/-- a loop's record between two rounds; j: which jump is pending (0: none) -/
def recOf (fn : FuncId) (tmps : Array Value) (ps : Array Tmp) (assign body : Code) (D : Nat) (jl : List Code) (j : Nat) : Loop :=
  { state := if Nat.beq j 0 then .ready else .done, pending := jmp jl j, fn, tmps, params := ps, assign, body, defers := D }

/-- pointers to named variables, renamed; other blocks are forgotten -/
def AV.rnP (m : List (Nat × Nat)) : AV → Option AV
  | .ptr b p => (lkp m b).map fun c => .ptr c p
  | .asl b p lo len => (lkp m b).map fun c => .asl c p lo len
  | .func fn fs cs => match fs.rnP m, cs.rnP m with
    | some f, some c => if f.atoms && c.atoms then some (.func fn f c) else none
    | _, _ => none
  | .cons a b => match a.rnP m, b.rnP m with
    | some x, some y => some (.cons x y)
    | _, _ => none
  | .val t x => some (.val t x)
  | .vptr t x => some (.vptr t x)
  | .nils => some .nils
  | .nilp => some .nilp
  | .nilm => some .nilm
  | .nilf => some .nilf
  | .nili => some .nili
  | .nil => some .nil
  | _ => none

structure RnP (m : List (Nat × Nat)) (E : Env) (w : World) (E' : Env) (w' : World) : Prop where
  at' : ∀ b c, lkp m b = some c → E'.g c = E.g b ∧ E'.bt c = E.bt b
  k : Keeps E w E' w'

theorem AV.rnP_agg {m : List (Nat × Nat)} {x y : AV} (h : x.rnP m = some y) : y.isAgg = x.isAgg := by
  cases x with
  | ptr b p => simp only [AV.rnP, Option.map_eq_some_iff] at h; obtain ⟨c, _, rfl⟩ := h; rfl
  | asl b p lo len => simp only [AV.rnP, Option.map_eq_some_iff] at h; obtain ⟨c, _, rfl⟩ := h; rfl
  | func fn fs cs =>
    simp only [AV.rnP] at h
    split at h
    · split at h
      · cases h; rfl
      · cases h
    · cases h
  | cons a b =>
    simp only [AV.rnP] at h
    split at h
    · cases h; rfl
    · cases h
  | _ => simp [AV.rnP] at h <;> subst h <;> rfl

theorem RC.rnP {m : List (Nat × Nat)} {E E' : Env} {w w' : World} (r : RnP m E w E' w') : ∀ {x y : AV} {vs : List Value}, x.rnP m = some y → RC E w x vs → RC E' w' y vs := by
  intro x
  induction x with
  | ptr b p =>
    intro y vs h hr
    simp only [AV.rnP, Option.map_eq_some_iff] at h
    obtain ⟨c, hc, rfl⟩ := h
    obtain ⟨e1, e2⟩ := r.at' b c hc
    obtain ⟨g, h1, h2, h3⟩ := hr
    exact ⟨g, by rw [e1]; exact h1, by rw [e2]; exact h2, by rw [e2]; exact h3⟩
  | asl b p lo len =>
    intro y vs h hr
    simp only [AV.rnP, Option.map_eq_some_iff] at h
    obtain ⟨c, hc, rfl⟩ := h
    obtain ⟨e1, e2⟩ := r.at' b c hc
    obtain ⟨n, t, h1, h2, h3, a, cap, h4, h5, h6⟩ := hr
    refine ⟨n, t, by rw [e2]; exact h1, by rw [e2]; exact h2, h3, a, cap, h4, h5, h6.imp id ?_⟩
    rintro ⟨g, k1, k2⟩
    exact ⟨g, by rw [e1]; exact k1, by rw [e2]; exact k2⟩
  | func fn fs cs ih1 ih2 =>
    intro y vs h hr
    simp only [AV.rnP] at h
    split at h
    · rename_i f c h1 h2
      split at h
      · rename_i ha
        cases h
        simp only [Bool.and_eq_true] at ha
        obtain ⟨f', c', e, r1, r2, _, _⟩ := hr
        exact ⟨f', c', e, ih1 h1 r1, ih2 h2 r2, ha.1, ha.2⟩
      · cases h
    · cases h
  | cons a b ih1 ih2 =>
    intro y vs h hr
    simp only [AV.rnP] at h
    split at h
    · rename_i x y h1 h2
      cases h
      obtain ⟨v1, v2, e, r1, r2⟩ := hr
      exact ⟨v1, v2, e, ih1 h1 r1, ih2 h2 r2⟩
    · cases h
  | val t x => intro y vs h hr; simp only [AV.rnP, Option.some.injEq] at h; subst h; exact RC.mono (a := .val t x) r.k (fun _ hb => by cases hb) hr
  | vptr t x => intro y vs h hr; simp only [AV.rnP, Option.some.injEq] at h; subst h; exact RC.mono (a := .vptr t x) r.k (fun _ hb => by cases hb) hr
  | nils => intro y vs h hr; simp only [AV.rnP, Option.some.injEq] at h; subst h; exact hr
  | nilp => intro y vs h hr; simp only [AV.rnP, Option.some.injEq] at h; subst h; exact hr
  | nilm => intro y vs h hr; simp only [AV.rnP, Option.some.injEq] at h; subst h; exact hr
  | nilf => intro y vs h hr; simp only [AV.rnP, Option.some.injEq] at h; subst h; exact hr
  | nili => intro y vs h hr; simp only [AV.rnP, Option.some.injEq] at h; subst h; exact hr
  | nil => intro y vs h hr; simp only [AV.rnP, Option.some.injEq] at h; subst h; exact hr
  | _ => intro y vs h hr; simp [AV.rnP] at h

theorem RV.rnP {m : List (Nat × Nat)} {E E' : Env} {w w' : World} (r : RnP m E w E' w') {x y : AV} {v : Value} (h : x.rnP m = some y) (hr : RV E w x v) : RV E' w' y v := by
  have hp : x.plain = true := by cases x <;> simp [AV.rnP] at h <;> rfl
  have h0 := RV.to0 hp hr
  refine RV.of0 ?_
  rcases h0 with ⟨h1, cs, e, h2⟩ | ⟨h1, h2⟩
  · exact Or.inl ⟨by rw [AV.rnP_agg h]; exact h1, cs, e, RC.rnP r h h2⟩
  · exact Or.inr ⟨by rw [AV.rnP_agg h]; exact h1, RC.rnP r h h2⟩

/-- the slots in a round -/
def tmR (m : List (Nat × Nat)) : List AV → List AV
  | [] => []
  | x :: l => (match x.rnP m with | some y => y | none => .bot) :: tmR m l

theorem tmR_len {m : List (Nat × Nat)} : ∀ {l : List AV}, (tmR m l).length = l.length
  | [] => rfl
  | _ :: l => by simp [tmR, tmR_len (l := l)]

theorem tmR_get {m : List (Nat × Nat)} : ∀ {l : List AV} {i : Nat} {y : AV}, (tmR m l)[i]? = some y → y = .bot ∨ ∃ x, l[i]? = some x ∧ x.rnP m = some y
  | [], i, y, h => by simp [tmR] at h
  | x :: l, 0, y, h => by
    simp only [tmR, List.getElem?_cons_zero, Option.some.injEq] at h
    split at h
    · rename_i z hz; subst h; exact Or.inr ⟨x, rfl, hz⟩
    · exact Or.inl h.symm
  | x :: l, i + 1, y, h => by
    simp only [tmR, List.getElem?_cons_succ] at h
    simpa using tmR_get h

def setTm : List (Nat × AV) → List AV → List AV
  | [], l => l
  | (t, x) :: r, l => setTm r (l.set t x)

theorem setTm_ok {E : Env} {w : World} : ∀ {ps : List Nat} {args : List AV} {vs : List Value} {tm : List AV} {tmps : Array Value}, RVs E w args vs → tmps.size = tm.length → (∀ (i : Nat) (x : AV), tm[i]? = some x → ∀ v, tmps[i]? = some v → RV E w x v) →
    ((ps.zip vs).foldl (fun t (p : Nat × Value) => t.setIfInBounds p.1 p.2) tmps).size = (setTm (ps.zip args) tm).length ∧
    (∀ (i : Nat) (x : AV), (setTm (ps.zip args) tm)[i]? = some x → ∀ v, ((ps.zip vs).foldl (fun t (p : Nat × Value) => t.setIfInBounds p.1 p.2) tmps)[i]? = some v → RV E w x v)
  | [], args, vs, tm, tmps, _, hs, ht => by simp [setTm]; exact ⟨hs, ht⟩
  | p :: ps, [], [], tm, tmps, _, hs, ht => by simp [setTm]; exact ⟨hs, ht⟩
  | p :: ps, [], _ :: _, tm, tmps, h, hs, ht => h.elim
  | p :: ps, _ :: _, [], tm, tmps, h, hs, ht => h.elim
  | p :: ps, a :: args, v :: vs, tm, tmps, ⟨h1, h2⟩, hs, ht => by
    simp only [List.zip_cons_cons, List.foldl_cons, setTm]
    refine setTm_ok h2 (by simp [hs]) ?_
    intro i x hx u hu
    rw [List.getElem?_set] at hx
    rw [Array.getElem?_setIfInBounds] at hu
    split at hx
    · rename_i e
      rw [if_pos e] at hu
      split at hx
      · cases hx
        split at hu
        · cases hu; exact h1
        · cases hu
      · cases hx
    · rename_i e
      rw [if_neg e] at hu
      exact ht i x hx u hu

/-! named variables -/

def hasT (i : Nat) : List (Nat × Ty) → Bool
  | [] => false
  | (j, _) :: l => Nat.beq i j || hasT i l

def tieK (gs : Nat → Nat) (ti : List (Nat × Ty)) (i : Nat) : Blk → Blk
  | .var t v => if hasT i ti then .tv (gs i) t v else .var t v
  | k => k

def tie (gs : Nat → Nat) (ti : List (Nat × Ty)) : Nat → List (Option Blk) → List (Option Blk)
  | _, [] => []
  | s, none :: l => none :: tie gs ti (s + 1) l
  | s, some k :: l => some (tieK gs ti s k) :: tie gs ti (s + 1) l

theorem tie_len {gs : Nat → Nat} {ti : List (Nat × Ty)} : ∀ {l : List (Option Blk)} {s : Nat}, (tie gs ti s l).length = l.length
  | [], _ => rfl
  | none :: l, s => by simp [tie, tie_len (l := l)]
  | some _ :: l, s => by simp [tie, tie_len (l := l)]

theorem tie_get {gs : Nat → Nat} {ti : List (Nat × Ty)} : ∀ {l : List (Option Blk)} {s i : Nat} {k : Blk}, (tie gs ti s l)[i]? = some (some k) → ∃ k0, l[i]? = some (some k0) ∧ k = tieK gs ti (s + i) k0
  | [], s, i, k, h => by simp [tie] at h
  | none :: l, s, 0, k, h => by simp [tie] at h
  | some x :: l, s, 0, k, h => by simp [tie] at h; exact ⟨x, rfl, by rw [← h]; rfl⟩
  | none :: l, s, i + 1, k, h => by
    obtain ⟨k0, h1, h2⟩ := tie_get (l := l) (by simpa [tie] using h)
    exact ⟨k0, by simpa using h1, by rw [h2]; congr 1; omega⟩
  | some x :: l, s, i + 1, k, h => by
    obtain ⟨k0, h1, h2⟩ := tie_get (l := l) (by simpa [tie] using h)
    exact ⟨k0, by simpa using h1, by rw [h2]; congr 1; omega⟩

theorem tie_at {gs : Nat → Nat} {ti : List (Nat × Ty)} : ∀ {l : List (Option Blk)} {s i : Nat} {k : Blk}, l[i]? = some (some k) → (tie gs ti s l)[i]? = some (some (tieK gs ti (s + i) k))
  | [], s, i, k, h => by simp at h
  | none :: l, s, 0, k, h => by simp at h
  | some x :: l, s, 0, k, h => by simp at h; subst h; rfl
  | none :: l, s, i + 1, k, h => by
    have := tie_at (gs := gs) (ti := ti) (s := s + 1) (l := l) (i := i) (k := k) (by simpa using h)
    rw [show s + (i + 1) = s + 1 + i from by omega]; simpa [tie] using this
  | some x :: l, s, i + 1, k, h => by
    have := tie_at (gs := gs) (ti := ti) (s := s + 1) (l := l) (i := i) (k := k) (by simpa using h)
    rw [show s + (i + 1) = s + 1 + i from by omega]; simpa [tie] using this

theorem RB.untie {gs : Nat → Nat} {ti : List (Nat × Ty)} {E : Env} {w : World} {i : Nat} {k : Blk} (h : RB E w i (tieK gs ti i k)) : RB E w i k := by
  cases k with
  | var t v =>
    simp only [tieK] at h
    split at h
    · obtain ⟨h0, h1, h2, c, e, h4, h5⟩ := h; exact ⟨h1, h2, _, c, e, h0, h4, h5⟩
    · exact h
  | _ => exact h

theorem RB.tie {gs : Nat → Nat} {ti : List (Nat × Ty)} {E : Env} {w : World} {i : Nat} {k : Blk} (h : RB E w i k) (hg : hasT i ti = true → E.g i = some (gs i)) : RB E w i (tieK gs ti i k) := by
  cases k with
  | var t v =>
    simp only [tieK]
    split
    · rename_i hh
      obtain ⟨h1, h2, g, c, e, h3, h4, h5⟩ := h
      have := hg hh
      rw [this] at h3; cases h3
      exact ⟨this, h1, h2, c, e, h4, h5⟩
    · exact h
  | _ => exact h

/-- the named variables are there, with their types -/
def tieOK (hp : List (Option Blk)) : List (Nat × Ty) → Bool
  | [] => true
  | (i, t) :: l => (match hp[i]? with | some (some (.var t' _)) => Ty.same t' t | _ => false) && Nat.blt i 16 && tieOK hp l

theorem tieOK_at {hp : List (Option Blk)} {i : Nat} : ∀ {ti : List (Nat × Ty)}, tieOK hp ti = true → hasT i ti = true → i < 16 ∧ ∃ t v, hp[i]? = some (some (.var t v)) ∧ (i, t) ∈ ti
  | [], _, h => by cases h
  | (j, t) :: l, h, hi => by
    simp only [tieOK, Bool.and_eq_true] at h
    simp only [hasT, Bool.or_eq_true] at hi
    rcases hi with hi | hi
    · have e := Nat.eq_of_beq_eq_true hi; subst e
      refine ⟨by have := h.1.2; simp [Nat.blt] at this; omega, ?_⟩
      have h1 := h.1.1
      split at h1
      · rename_i t' v hv
        have e := Ty.eq_of_same h1; subst e
        exact ⟨_, v, hv, List.mem_cons_self ..⟩
      · cases h1
    · obtain ⟨h1, t', v, h2, h3⟩ := tieOK_at h.2 hi
      exact ⟨h1, t', v, h2, List.mem_cons_of_mem _ h3⟩

/-! the rounds -/

def asgQ (P : Program) (gl : Ctx) (y : Code) (Q : AEx → St → Prop) : AEx → St → Prop
  | .normal, σ => Run P gl y σ Q
  | _, _ => False

def rndQ (gl : Ctx) (jl : List Code) (j : Nat) (H : List (Option Blk)) : AEx → St → Prop
  | .normal, σ => j = 0 ∧ ∃ σ' m, Wk gl σ σ' ∧ prune σ'.hp m = H
  | .ret, σ => (j ≠ 0 ∧ jmp jl j = some .ret) ∧ ∃ σ' m, Wk gl σ σ' ∧ prune σ'.hp m = H
  | .exit i, σ => (j ≠ 0 ∧ jmp jl j = some (.exit i)) ∧ ∃ σ' m, Wk gl σ σ' ∧ prune σ'.hp m = H
  | _, _ => False

theorem Cl.r {gl : Ctx} {jl : List Code} {j : Nat} {H : List (Option Blk)} : Cl gl (rndQ gl jl j H) :=
  ⟨fun _ _ h ⟨e, σ2, m, h2, hj⟩ => ⟨e, σ2, m, h.trans h2, hj⟩, fun _ _ _ h ⟨e, σ2, m, h2, hj⟩ => ⟨e, σ2, m, h.trans h2, hj⟩⟩

theorem rndQ.n {gl : Ctx} {jl : List Code} {σ : St} (l : List Gh) (m : List Bool) {H : List (Option Blk)} (h : (ghs l σ).map (fun s => prune s.hp m) = some H) : rndQ gl jl 0 H .normal σ := by
  simp only [Option.map_eq_some_iff] at h
  obtain ⟨σ', h1, h2⟩ := h
  exact ⟨rfl, σ', m, ghs_ok h1, h2⟩
theorem rndQ.r {gl : Ctx} {jl : List Code} {j : Nat} {σ : St} (l : List Gh) (m : List Bool) {H : List (Option Blk)} (hj : j ≠ 0 ∧ jmp jl j = some .ret) (h : (ghs l σ).map (fun s => prune s.hp m) = some H) : rndQ gl jl j H .ret σ := by
  simp only [Option.map_eq_some_iff] at h
  obtain ⟨σ', h1, h2⟩ := h
  exact ⟨hj, σ', m, ghs_ok h1, h2⟩
theorem rndQ.e {gl : Ctx} {jl : List Code} {i j : Nat} {σ : St} (l : List Gh) (m : List Bool) {H : List (Option Blk)} (hj : j ≠ 0 ∧ jmp jl j = some (.exit i)) (h : (ghs l σ).map (fun s => prune s.hp m) = some H) : rndQ gl jl j H (.exit i) σ := by
  simp only [Option.map_eq_some_iff] at h
  obtain ⟨σ', h1, h2⟩ := h
  exact ⟨hj, σ', m, ghs_ok h1, h2⟩

theorem HW.ctx {C C' : Ctx} {E : Env} {w : World} {hp : List (Option Blk)} (h : HW C E w hp) (hg : C'.gl = C.gl) (hb : C'.B E.S w) : HW C' E w hp :=
  ⟨h.blk, h.sep, h.stab, h.slt, ⟨by rw [hg]; exact h.gl.1, hb⟩⟩

theorem Ext.add {O O' : Nat → Prop} {E E' : Env} {w w' : World} (h : Ext O E w O' E' w') (l : Nat) : Ext (fun g => O g ∨ g = l) E w (fun g => O' g ∨ g = l) E' w' where
  os := h.os
  tape := h.tape
  output := h.output
  size := h.size
  kept := fun g hg ho => h.kept g hg (fun x => ho (Or.inl x))
  sle := h.sle
  sfrom := fun g hg => (h.sfrom g hg).imp id (fun x => x.imp Or.inl id)
  own := fun g hg => by
    rcases hg with hg | hg
    · exact (h.own g hg).imp Or.inl id
    · exact Or.inl (Or.inr hg)
  pin := h.pin

/-- a round's contract out of its body's run -/
theorem Fy.of_body {P : Program} {gl : Ctx} {σ : St} {E : Env} {a : Act} {w : World} (hg : Gam gl σ E a w) {B : (Nat → Prop) → World → Prop} {hB : ∀ {S S' : Nat → Prop} {w w' : World}, (∀ b, S b → w'.heap[b]? = w.heap[b]?) → (∀ b, S b → S' b) → B S w → B S' w'}
    (hBu : ∀ S' w', B S' w' → (∀ b, E.S b → S' b) ∧ (∀ b, E.S b → w'.heap[b]? = w.heap[b]?)) {l D k0 : Nat} {fn : FuncId} {ps : Array Tmp} {assign body : Code} {gs : Nat → Nat} {ti : List (Nat × Ty)} {m : List (Nat × Nat)} {jl : List Code}
    (hti : ∀ b i, lkp m b = some i → hasT i ti = true ∧ E.g b = some (gs i) ∧ ∀ t, (i, t) ∈ ti → E.bt b = t)
    {args : List AV} {H H' : List (Option Blk)} {j : Nat} (hps : ps.size = args.length) (hk : Nat.blt k0 16 = true) (hkt : hasT k0 ti = false) (h0 : H[k0]? = some none) (h0' : H'[k0]? = some none) (ht : tieOK H ti = true) (_ht' : tieOK H' ti = true)
    (hrun : Run P (gl.rnd l) assign ⟨setTm (ps.toList.zip args) (tmR m σ.tm), H, []⟩ (asgQ P (gl.rnd l) body (rndQ (gl.rnd l) jl j H'))) :
    Fy P (gl.wB B hB) l args ((tie gs ti 0 H).set k0 (some (.lp l (recOf fn a.tmps ps assign body D jl 0)))) (.ret (.val .bool (Nat.beq j 0))) ((tie gs ti 0 H').set k0 (some (.lp l (recOf fn a.tmps ps assign body D jl j)))) := by
  intro E1 w1 vs hv hW
  have hk16 : k0 < 16 := by simp [Nat.blt] at hk; omega
  have lenH : k0 < (tie gs ti 0 H).length := by rw [tie_len]; exact (List.getElem?_eq_some_iff.1 h0).1
  have lenH' : k0 < (tie gs ti 0 H').length := by rw [tie_len]; exact (List.getElem?_eq_some_iff.1 h0').1
  have hlp : ((tie gs ti 0 H).set k0 (some (.lp l (recOf fn a.tmps ps assign body D jl 0))))[k0]? = some (some (.lp l (recOf fn a.tmps ps assign body D jl 0))) := by
    rw [List.getElem?_set, if_pos rfl, if_pos lenH]
  obtain ⟨hgl, hrec⟩ := hW.blk k0 _ hlp
  have at1 : ∀ (i : Nat) (k : Blk), H[i]? = some (some k) → i ≠ k0 ∧ ((tie gs ti 0 H).set k0 (some (.lp l (recOf fn a.tmps ps assign body D jl 0))))[i]? = some (some (tieK gs ti i k)) := by
    intro i k hi
    have hne : i ≠ k0 := fun e => by subst e; rw [h0] at hi; cases hi
    refine ⟨hne, ?_⟩
    rw [List.getElem?_set, if_neg (fun e => hne e.symm)]
    have := tie_at (gs := gs) (ti := ti) (s := 0) hi
    rwa [Nat.zero_add] at this
  have hSl : ¬ E1.S l := hW.stab k0 _ l hlp hgl
  -- the blocks, without the record
  have hW1 : HW (gl.rnd l) E1 w1 H := by
    refine ⟨?_, ?_, ?_, hW.slt, ⟨hW.gl.1, trivial⟩⟩
    · intro i k hi; exact (hW.blk i _ (at1 i k hi).2).untie
    · intro i i' k k' g hi hi' g1 g2; exact hW.sep i i' _ _ g (at1 i k hi).2 (at1 i' k' hi').2 g1 g2
    · intro i k g hi g1; exact hW.stab i _ g (at1 i k hi).2 g1
  have hOl : ¬ Own H E1 l := by
    rintro ⟨i, k, hi, hgi⟩
    exact (at1 i k hi).1 (hW.sep i k0 _ _ l (at1 i k hi).2 hlp hgi hgl)
  have hgi : ∀ i, hasT i ti = true → i < 16 ∧ E1.g i = some (gs i) := by
    intro i hi
    obtain ⟨h1, t, v, h2, _⟩ := tieOK_at ht hi
    have := hW.blk i _ (at1 i _ h2).2
    simp only [tieK, hi, if_true] at this
    exact ⟨h1, this.1⟩
  obtain ⟨b1, b2⟩ := hBu E1.S w1 hW.gl.2
  have hrnp : RnP m E w E1 w1 := by
    refine ⟨?_, ⟨b2, b1⟩⟩
    intro b i hbi
    obtain ⟨c1, c2, c3⟩ := hti b i hbi
    obtain ⟨_, t, v, h2, h3⟩ := tieOK_at ht c1
    have := hW1.blk i _ h2
    exact ⟨by rw [(hgi i c1).2, c2], by rw [this.1, c3 t h3]⟩
  obtain ⟨hl, _⟩ := hv.get
  -- the round's frame
  have hframe : Gam (gl.rnd l) ⟨setTm (ps.toList.zip args) (tmR m σ.tm), H, []⟩ E1 { tmps := (ps.zip vs.toArray).foldl (fun t (p, v) => t.setIfInBounds p v) a.tmps, defers := [] } w1 := by
    have hzip : (ps.zip vs.toArray).foldl (fun t (p, v) => t.setIfInBounds p v) a.tmps = (ps.toList.zip vs).foldl (fun t (p : Nat × Value) => t.setIfInBounds p.1 p.2) a.tmps := by
      rw [← Array.foldl_toList]
      congr 1
      simp
    have := setTm_ok (ps := ps.toList) (tm := tmR m σ.tm) (tmps := a.tmps) hv (by rw [tmR_len]; exact hg.len) (fun i x hx v hv' => by
      rcases tmR_get hx with e | ⟨y, h1, h2⟩
      · subst e; trivial
      · exact RV.rnP hrnp h2 (hg.tm i y h1 v hv'))
    rw [hzip]
    exact ⟨this.1, this.2, hW1, trivial⟩
  refine ⟨fn, _, assign, body, run_yield hrec (by simp [recOf, ← hl, hps]), roundIn_of_wpIn (F := Fence.wide) trivial ?_⟩
  refine wpIn_mono (hrun E1 _ w1 hframe) ?_
  rintro ex a2 w2 ⟨x, σ2, E2, q1, q2, q3, q4⟩
  cases ex with
  | normal =>
    cases x with
    | normal =>
      simp only [Exit.then]
      have hlt : l < w1.heap.size := (Array.getElem?_eq_some_iff.1 hrec).1
      have hrec2 : w2.heap[l]? = some (.loop (recOf fn a.tmps ps assign body D jl 0)) := by rw [q4.kept l hlt hOl]; exact hrec
      have notO : ∀ {hp : List (Option Blk)} {E' : Env} {w' : World}, Ext (Own H E1) E1 w1 (Own hp E') E' w' → ¬ Own hp E' l ∧ ¬ E'.S l := by
        intro hp E' w' hx
        constructor
        · intro ho; rcases hx.own l ho with h | h
          · exact hOl h
          · omega
        · intro hs; rcases hx.sfrom l hs with h | h | h
          · exact hSl h
          · exact hOl h
          · omega
      obtain ⟨n1, n2⟩ := notO q4
      refine ⟨w2.putObj l (.loop { recOf fn a.tmps ps assign body D jl 0 with state := .busy }), run_beginRound hrec2 rfl, ?_⟩
      have g2 := q3.frame (o := .loop { recOf fn a.tmps ps assign body D jl 0 with state := .busy }) n2 n1
      refine wpIn_mono (q2 E2 a2 _ g2) ?_
      rintro ex a3 w3 ⟨x3, σ3, E3, r1, r2, r3, r4⟩
      have lt2 : l < w2.heap.size := (Array.getElem?_eq_some_iff.1 hrec2).1
      have hbusy : w3.heap[l]? = some (.loop { recOf fn a.tmps ps assign body D jl 0 with state := .busy }) := by
        rw [r4.kept l (by simpa using lt2) n1]
        exact World.putObj_heap_same lt2
      -- what holds at a round's end
      have fin : ∀ (jump : Option Code), jump = jmp jl j → (jump.isNone = Nat.beq j 0) → (∃ σ' mm, Wk (gl.rnd l) σ3 σ' ∧ prune σ'.hp mm = H') →
          ∃ v w', (Instr.endRound l jump).run P w3 = .ok v w' ∧ ∃ E', ResR E' w' (.ret (.val .bool (Nat.beq j 0))) (.returned v) ∧ HW (gl.wB B hB) E' w' ((tie gs ti 0 H').set k0 (some (.lp l (recOf fn a.tmps ps assign body D jl j)))) ∧
            Ext (Own ((tie gs ti 0 H).set k0 (some (.lp l (recOf fn a.tmps ps assign body D jl 0)))) E1) E1 w1 (Own ((tie gs ti 0 H').set k0 (some (.lp l (recOf fn a.tmps ps assign body D jl j)))) E') E' w' := by
        rintro jump hj hjn ⟨σ4, mm, hwk, hpr⟩
        obtain ⟨E4, g4, x4⟩ := hwk E3 a3 w3 r3
        have hlt3 : l < w3.heap.size := (Array.getElem?_eq_some_iff.1 hbusy).1
        have hnew : ({ ({ recOf fn a.tmps ps assign body D jl 0 with state := .busy } : Loop) with state := if jump.isNone then .ready else .done, pending := jump } : Loop) = recOf fn a.tmps ps assign body D jl j := by
          subst hj
          simp only [recOf, hjn]
        have hend := run_endRound (P := P) jump hbusy
        rw [hnew, hjn] at hend
        have X := ((((q4.add l).trans (Ext.put (o := .loop { recOf fn a.tmps ps assign body D jl 0 with state := .busy }) (Or.inr rfl))).trans (r4.add l)).trans (x4.add l)).trans (Ext.put (o := .loop (recOf fn a.tmps ps assign body D jl j)) (Or.inr rfl))
        have w4 : HW (gl.rnd l) E4 w3 H' := by rw [← hpr]; exact g4.hw.prune mm
        have sub4 : ∀ g, Own H' E4 g → Own σ4.hp E4 g := by
          rintro g ⟨b, k, hb, hgb⟩
          rw [← hpr] at hb
          exact ⟨b, k, prune_get hb, hgb⟩
        have n4 : ¬ Own H' E4 l ∧ ¬ E4.S l := by
          have hx : Ext (Own H E1) E1 w1 (Own σ2.hp E2) E2 w2 := q4
          obtain ⟨m1, m2⟩ := notO hx
          have m3 : ¬ Own σ3.hp E3 l ∧ ¬ E3.S l := by
            constructor
            · intro ho; rcases r4.own l ho with h | h
              · exact m1 h
              · simp at h; omega
            · intro hs; rcases r4.sfrom l hs with h | h | h
              · exact m2 h
              · exact m1 h
              · simp at h; omega
          constructor
          · intro ho; rcases x4.own l (sub4 l ho) with h | h
            · exact m3.1 h
            · omega
          · intro hs; rcases x4.sfrom l hs with h | h | h
            · exact m3.2 h
            · exact m3.1 h
            · omega
        obtain ⟨kp, wf⟩ := w4.frame (o := .loop (recOf fn a.tmps ps assign body D jl j)) n4.2 n4.1
        have gk0 : E4.g k0 = some l := by rw [(X.pin k0 hk16).1]; exact hgl
        have at4 : ∀ (i : Nat) (k : Blk), ((tie gs ti 0 H').set k0 (some (.lp l (recOf fn a.tmps ps assign body D jl j))))[i]? = some (some k) → (i = k0 ∧ k = .lp l (recOf fn a.tmps ps assign body D jl j)) ∨ (i ≠ k0 ∧ ∃ k', H'[i]? = some (some k') ∧ k = tieK gs ti i k') := by
          intro i k hi
          rw [List.getElem?_set] at hi
          split at hi
          · rename_i e
            first
              | (cases hi; exact Or.inl ⟨e.symm, rfl⟩)
              | (split at hi <;> cases hi; exact Or.inl ⟨e.symm, rfl⟩)
          · rename_i e
            obtain ⟨k', h1, h2⟩ := tie_get hi
            rw [Nat.zero_add] at h2
            exact Or.inr ⟨fun e' => e e'.symm, k', h1, h2⟩
        have ne4 : ∀ (i : Nat) (k : Blk), H'[i]? = some (some k) → E4.g i ≠ some l := fun i k hi e => n4.1 ⟨i, k, hi, e⟩
        refine ⟨_, _, hend, E4, RV.bool, ⟨?_, ?_, ?_, wf.slt, ⟨wf.gl.1, ?_⟩⟩, ?_⟩
        · intro i k hi
          rcases at4 i k hi with ⟨e1, e2⟩ | ⟨hne, k', h1, h2⟩
          · subst e1; subst e2
            exact ⟨gk0, World.putObj_heap_same hlt3⟩
          · subst h2
            exact (wf.blk i k' h1).tie (fun hh => by obtain ⟨c1, c2⟩ := hgi i hh; rw [(X.pin i c1).1]; exact c2)
        · intro i i' k k' g hi hi' g1 g2
          rcases at4 i k hi with ⟨e1, e2⟩ | ⟨hne, k2, h1, h2⟩
          · rcases at4 i' k' hi' with ⟨e1', e2'⟩ | ⟨hne', k2', h1', h2'⟩
            · rw [e1, e1']
            · subst e1; rw [gk0] at g1; cases g1; exact absurd g2 (ne4 i' k2' h1')
          · rcases at4 i' k' hi' with ⟨e1', e2'⟩ | ⟨hne', k2', h1', h2'⟩
            · subst e1'; rw [gk0] at g2; cases g2; exact absurd g1 (ne4 i k2 h1)
            · exact wf.sep i i' k2 k2' g h1 h1' g1 g2
        · intro i k g hi g1
          rcases at4 i k hi with ⟨e1, e2⟩ | ⟨hne, k2, h1, h2⟩
          · subst e1; rw [gk0] at g1; cases g1; exact n4.2
          · exact wf.stab i k2 g h1 g1
        · refine hB ?_ X.sle hW.gl.2
          intro b hb
          refine X.kept b (hW.slt b hb) ?_
          rintro (⟨i, k, hi, hgi'⟩ | e)
          · exact hW.stab i _ b (at1 i k hi).2 hgi' hb
          · subst e; exact hSl hb
        · refine ⟨X.os, X.tape, X.output, X.size, ?_, X.sle, ?_, ?_, X.pin⟩
          · intro g hgl' ho
            refine X.kept g hgl' ?_
            rintro (⟨i, k, hi, hgi'⟩ | e)
            · exact ho ⟨i, _, (at1 i k hi).2, hgi'⟩
            · subst e; exact ho ⟨k0, _, hlp, hgl⟩
          · intro g hs
            rcases X.sfrom g hs with h | h | h
            · exact Or.inl h
            · rcases h with ⟨i, k, hi, hgi'⟩ | e
              · exact Or.inr (Or.inl ⟨i, _, (at1 i k hi).2, hgi'⟩)
              · subst e; exact Or.inr (Or.inl ⟨k0, _, hlp, hgl⟩)
            · exact Or.inr (Or.inr h)
          · rintro g ⟨i, k, hi, hgi'⟩
            have : Own σ4.hp E4 g ∨ g = l := by
              rcases at4 i k hi with ⟨e1, e2⟩ | ⟨hne, k2, h1, h2⟩
              · subst e1; rw [gk0] at hgi'; cases hgi'; exact Or.inr rfl
              · exact Or.inl (sub4 g ⟨i, k2, h1, hgi'⟩)
            rcases X.own g this with h | h
            · rcases h with ⟨i, k, hi, hgi'⟩ | e
              · exact Or.inl ⟨i, _, (at1 i k hi).2, hgi'⟩
              · subst e; exact Or.inl ⟨k0, _, hlp, hgl⟩
            · exact Or.inr h
      cases ex with
      | normal =>
        cases x3 with
        | normal => obtain ⟨e, hh⟩ := r2; subst e; exact fin none rfl rfl hh
        | _ => exact r1.elim
      | ret =>
        cases x3 with
        | ret =>
          obtain ⟨⟨e, e2⟩, hh⟩ := r2
          exact fin (some .ret) e2.symm (by cases j with | zero => exact absurd rfl e | succ j => rfl) hh
        | _ => exact r1.elim
      | exit i =>
        cases x3 with
        | exit i' =>
          have e0 : i' = i := r1
          subst e0
          obtain ⟨⟨e, e2⟩, hh⟩ := r2
          exact fin (some (.exit i')) e2.symm (by cases j with | zero => exact absurd rfl e | succ j => rfl) hh
        | _ => exact r1.elim
      | panic chain => cases x3 <;> first | exact r1.elim | exact r2.elim
      | goto t => cases x3 <;> exact r1.elim
      | outgrown => cases x3 <;> exact r1.elim
    | _ => exact q1.elim
  | ret => cases x <;> first | exact q1.elim | exact q2.elim
  | exit i => cases x <;> first | exact q1.elim | exact q2.elim
  | panic chain => cases x <;> first | exact q1.elim | exact q2.elim
  | goto t => cases x <;> exact q1.elim
  | outgrown => cases x <;> exact q1.elim

end Go.Abs

/- part AbsRange -/
/- Abstract machine: a range over a function. -/
namespace Go.Abs

def OfBody (P : Program) (gl : Ctx) (tm : List AV) (ps : Array Tmp) (assign body : Code) (k0 : Nat) (gs : Nat → Nat) (ti : List (Nat × Ty)) (m : List (Nat × Nat)) (jl : List Code) (C : Ctx) (l : Nat) (rec : Nat → Loop) : Prop :=
  ∀ (args : List AV) (H H' : List (Option Blk)) (j : Nat), ps.size = args.length → H[k0]? = some none → H'[k0]? = some none → tieOK H ti = true → tieOK H' ti = true →
    Run P (gl.rnd l) assign ⟨setTm (ps.toList.zip args) (tmR m tm), H, []⟩ (asgQ P (gl.rnd l) body (rndQ (gl.rnd l) jl j H')) →
    Fy P C l args ((tie gs ti 0 H).set k0 (some (.lp l (rec 0)))) (.ret (.val .bool (Nat.beq j 0))) ((tie gs ti 0 H').set k0 (some (.lp l (rec j))))

/-- the caller's named variables -/
def gsC (gs : Nat → Nat) (m : List (Nat × Nat)) (b : Nat) : Nat := match lkp m b with | some i => gs i | none => 0
def mtC : List (Nat × Nat) → List (Nat × Ty)
  | [] => []
  | (b, _) :: l => (b, .unit) :: mtC l

theorem hasT_mtC {b : Nat} : ∀ {m : List (Nat × Nat)}, hasT b (mtC m) = true → ∃ i, lkp m b = some i
  | [], h => by cases h
  | (c, i) :: l, h => by
    simp only [mtC, hasT, Bool.or_eq_true] at h
    unfold lkp
    split
    · exact ⟨i, rfl⟩
    · rename_i hn
      rcases h with h | h
      · exact absurd (by rw [Nat.eq_of_beq_eq_true h]; exact Nat.beq_refl c) hn
      · exact hasT_mtC h

/-- each named variable is one, of the type that the round knows -/
def mOK (hp : List (Option Blk)) (ti : List (Nat × Ty)) : List (Nat × Nat) → Bool
  | [] => true
  | (b, i) :: l => (match hp[b]? with | some (some (.var t _)) => hasT i ti && (ti.all fun x => !Nat.beq x.1 i || Ty.same x.2 t) | _ => false) && mOK hp ti l

theorem mOK_at {hp : List (Option Blk)} {ti : List (Nat × Ty)} : ∀ {m : List (Nat × Nat)}, mOK hp ti m = true → ∀ b i, (b, i) ∈ m → hasT i ti = true ∧ ∃ t v, hp[b]? = some (some (.var t v)) ∧ ∀ t', (i, t') ∈ ti → t' = t
  | [], _, b, i, h => by cases h
  | (c, k) :: l, hm, b, i, h => by
    simp only [mOK, Bool.and_eq_true] at hm
    rcases List.mem_cons.1 h with e | h
    · cases e
      have h1 := hm.1
      split at h1
      · rename_i t v hv
        simp only [Bool.and_eq_true, List.all_eq_true] at h1
        refine ⟨h1.1, t, v, hv, fun t' ht' => ?_⟩
        have := h1.2 _ ht'
        simp at this
        exact Ty.eq_of_same this
      · cases h1
    · exact mOK_at hm.2 b i h

/-- the blocks with the names off -/
def unt : List (Option Blk) → List (Option Blk)
  | [] => []
  | some (.tv _ t v) :: l => some (.var t v) :: unt l
  | x :: l => x :: unt l

theorem unt_get : ∀ {l : List (Option Blk)} {i : Nat} {k : Blk}, (unt l)[i]? = some (some k) → ∃ k', l[i]? = some (some k') ∧ (k' = k ∨ ∃ g t v, k' = .tv g t v ∧ k = .var t v)
  | [], i, k, h => by simp [unt] at h
  | x :: l, 0, k, h => by
    unfold unt at h
    split at h
    · cases (by assumption : _ = _)
    · rename_i heq; cases heq; simp at h; exact ⟨_, rfl, Or.inr ⟨_, _, _, rfl, h.symm⟩⟩
    · rename_i heq; cases heq; simp at h; exact ⟨k, by simp [h], Or.inl rfl⟩
  | x :: l, i + 1, k, h => by
    unfold unt at h
    split at h
    · cases (by assumption : _ = _)
    · rename_i heq; cases heq; simpa using unt_get (by simpa using h)
    · rename_i heq; cases heq; simpa using unt_get (by simpa using h)

theorem Gam.unt {gl : Ctx} {σ : St} {E : Env} {a : Act} {w : World} (h : Gam gl σ E a w) : Gam gl { σ with hp := Abs.unt σ.hp } E a w ∧ Ext (Own σ.hp E) E w (Own (Abs.unt σ.hp) E) E w := by
  refine ⟨⟨h.len, h.tm, ⟨?_, ?_, ?_, h.hw.slt, h.hw.gl⟩, h.df⟩, { Ext.refl (Own σ.hp E) E w with own := ?_ }⟩
  · intro b k hb
    obtain ⟨k', h1, h2⟩ := unt_get hb
    have := h.hw.blk b k' h1
    rcases h2 with e | ⟨g, t, v, e1, e2⟩
    · rw [← e]; exact this
    · subst e1; subst e2
      obtain ⟨q0, q1, q2, c, e, q4, q5⟩ := this
      exact ⟨q1, q2, g, c, e, q0, q4, q5⟩
  · intro b b' k k' g hb hb' g1 g2
    obtain ⟨k1, h1, _⟩ := unt_get hb
    obtain ⟨k2, h2, _⟩ := unt_get hb'
    exact h.hw.sep b b' k1 k2 g h1 h2 g1 g2
  · intro b k g hb g1
    obtain ⟨k1, h1, _⟩ := unt_get hb
    exact h.hw.stab b k1 g h1 g1
  · rintro g ⟨b, k, hb, g1⟩
    obtain ⟨k1, h1, _⟩ := unt_get hb
    exact Or.inl ⟨b, k1, h1, g1⟩

theorem Gam.tie {gl : Ctx} {σ : St} {E : Env} {a : Act} {w : World} (h : Gam gl σ E a w) {gs : Nat → Nat} {ti : List (Nat × Ty)} (hg : ∀ b, hasT b ti = true → E.g b = some (gs b)) : Gam gl { σ with hp := Abs.tie gs ti 0 σ.hp } E a w ∧ Ext (Own σ.hp E) E w (Own (Abs.tie gs ti 0 σ.hp) E) E w := by
  refine ⟨⟨h.len, h.tm, ⟨?_, ?_, ?_, h.hw.slt, h.hw.gl⟩, h.df⟩, { Ext.refl (Own σ.hp E) E w with own := ?_ }⟩
  · intro b k hb
    obtain ⟨k', h1, h2⟩ := tie_get hb
    rw [Nat.zero_add] at h2
    subst h2
    exact (h.hw.blk b k' h1).tie (hg b)
  · intro b b' k k' g hb hb' g1 g2
    obtain ⟨k1, h1, _⟩ := tie_get hb
    obtain ⟨k2, h2, _⟩ := tie_get hb'
    exact h.hw.sep b b' k1 k2 g h1 h2 g1 g2
  · intro b k g hb g1
    obtain ⟨k1, h1, _⟩ := tie_get hb
    exact h.hw.stab b k1 g h1 g1
  · rintro g ⟨b, k, hb, g1⟩
    obtain ⟨k1, h1, _⟩ := tie_get hb
    exact Or.inl ⟨b, k1, h1, g1⟩

theorem fresh_bare {σ : St} {d e : Nat} {k : Blk} (hk : k.ids = []) (h : σ.fresh d) (hne : d ≠ e) : ({ σ with hp := σ.hp.set e (some k) } : St).fresh d := by
  have h1 := ids_sub.1 h.1
  refine ⟨ids_sub.2 ⟨h1.1, h1.2.1, ?_⟩, ?_, h.2.2⟩
  · intro i k' hi
    rw [List.getElem?_set] at hi
    split at hi
    · split at hi
      · cases hi; rw [hk]; simp
      · cases hi
    · exact h1.2.2 i k' hi
  · intro k' hi
    rw [List.getElem?_set, if_neg (fun x => hne x.symm)] at hi
    exact h.2.1 k' hi

/-- the blocks as the iterator's call finds them -/
def hpIn (gs : Nat → Nat) (m : List (Nat × Nat)) (dI lI l : Nat) (r : Loop) (hp : List (Option Blk)) : List (Option Blk) := tie (gsC gs m) (mtC m) 0 ((hp.set dI (some .dfr)).set lI (some (.lp l r)))

theorem Run.rangeFunc {P : Program} {gl : Ctx} {σ : St} {Q : AEx → St → Prop} {g : Operand} {ps : Array Tmp} {assign body : Code} (hro : gl.ro = none) {gf : FuncId} {cs : AV} (hg : evOpd gl σ.tm g = .func (.func gf) .nil cs)
    (dI lI k0 : Nat) (hd : σ.freshB dI = true) (hl : σ.freshB lI = true) (hne : Nat.beq dI lI = false) (hlen : Nat.blt lI σ.hp.length = true) (hk : Nat.blt k0 16 = true)
    (ti : List (Nat × Ty)) (m : List (Nat × Nat)) (hkt : hasT k0 ti = false) (hm : mOK σ.hp ti m = true) (hmn : nodupB (m.map (·.2)) = true) (jl : List Code) (j : Nat)
    (cr : (Nat → Nat) → Nat → (Nat → Loop) → CR) (L : Nat → List AV) (ins : (Nat → Nat) → Nat → (Nat → Loop) → List (Nat × Option Blk)) (hpF : List (Option Blk))
    (hr : ∀ gs l rec, (cr gs l rec).r = .tup .nil) (hL : ∀ gs l (rec : Nat → Loop), argsB (swp (cr gs l rec).ps) (hbOf (hpIn gs m dI lI l (rec 0) σ.hp)) (((.func (.yield l) .nil .nil, Ty.unit)) :: cs.toList.map (fun x => (x, Ty.unit))) = some (L l, []))
    (hins : ∀ gs l (rec : Nat → Loop), inBlks (swp (cr gs l rec).ps) (hbOf (hpIn gs m dI lI l (rec 0) σ.hp)) (cr gs l rec).ps = some (ins gs l rec)) (hok : ∀ gs l rec, crOK (cr gs l rec) [] = true) (hns : ∀ gs l (rec : Nat → Loop), ((cr gs l rec).ns.map (·.2)).all (fun b => ({ σ with hp := hpIn gs m dI lI l (rec 0) σ.hp, df := .mp dI :: σ.df } : St).freshB b) = true)
    (hcs : cs.atoms = true)
    (hF : ∀ gs l (rec : Nat → Loop), (hset (hpIn gs m dI lI l (rec 0) σ.hp) (hwOf ((cr gs l rec).ps ++ (cr gs l rec).ns) (cr gs l rec).out ((cr gs l rec).ps ++ (cr gs l rec).ns)))[lI]? = some (some (.lp l (rec j))) ∧ unt ((hset (hpIn gs m dI lI l (rec 0) σ.hp) (hwOf ((cr gs l rec).ps ++ (cr gs l rec).ns) (cr gs l rec).out ((cr gs l rec).ps ++ (cr gs l rec).ns))).set lI none) = hpF)
    (hit : ∀ B hB l gs rec, OfBody P gl σ.tm ps assign body k0 gs ti m jl (gl.wB B hB) l rec → Fc P (gl.wB B hB) gf (L l) (hset (List.replicate (cr gs l rec).m none) (ins gs l rec)) (.ret (.tup .nil)) (outH (cr gs l rec).m (cr gs l rec).out))
    (hq : match jmp jl j with | none => Q .normal ⟨σ.tm, hpF, .mp dI :: σ.df⟩ | some c => Run P gl c ⟨σ.tm, hpF, .mp dI :: σ.df⟩ Q) : Run P gl (.rangeFunc g ps assign body) σ Q := by
  intro E a w hG
  refine wpIn_rangeFunc ?_
  intro fn _
  have hfd := St.fresh_of hd
  have hfl := St.fresh_of hl
  have hnd : lI ≠ dI := fun e => by subst e; simp at hne
  obtain ⟨rec, hrec⟩ : ∃ rec : Nat → Loop, rec = recOf fn a.tmps ps assign body w.heap.size jl := ⟨_, rfl⟩
  have hrec0 : rec 0 = { state := .ready, pending := none, fn := fn, tmps := a.tmps, params := ps, assign := assign, body := body, defers := w.heap.size } := by rw [hrec]; rfl
  -- the two blocks
  obtain ⟨g1, x1⟩ := hG.fresh (w' := w.alloc (.deferred (some []))) hfd (g := some w.heap.size) (sv := undef) (t := .unit) (k := .dfr) rfl rfl rfl (by simp) (fun i hi => heap_alloc_old w _ i hi) (fun i hi => by cases hi; exact Nat.le_refl _)
    ⟨w.heap.size, by simp [Env.at], heap_alloc_new w _⟩
  have hs1 : (w.alloc (.deferred (some []))).heap.size = w.heap.size + 1 := by simp
  obtain ⟨g2, x2⟩ := g1.fresh (w' := (w.alloc (.deferred (some []))).alloc (.loop (rec 0))) (d := lI) (fresh_bare rfl hfl hnd) (g := some (w.heap.size + 1)) (sv := undef) (t := .unit) (k := .lp (w.heap.size + 1) (rec 0)) rfl rfl rfl (by simp) (fun i hi => heap_alloc_old _ _ i hi) (fun i hi => by cases hi; rw [hs1]; exact Nat.le_refl _)
    ⟨by simp [Env.at], by have := heap_alloc_new (w.alloc (.deferred (some []))) (.loop (rec 0)); rw [hs1] at this; exact this⟩
  generalize hw2 : (w.alloc (.deferred (some []))).alloc (.loop (rec 0)) = w2 at g2 x2
  generalize hE2 : (E.at dI (some w.heap.size) undef .unit).at lI (some (w.heap.size + 1)) undef .unit = E2 at g2 x2
  have hE2g : ∀ b, b ≠ dI → b ≠ lI → E2.g b = E.g b := fun b h1 h2 => by rw [← hE2]; simp [Env.at, h1, h2]
  have hE2d : E2.g dI = some w.heap.size := by rw [← hE2]; simp [Env.at, Ne.symm hnd]
  have hE2S : E2.S = E.S := by rw [← hE2]; rfl
  have x12 := x1.trans x2
  -- the names
  obtain ⟨gs, hgs⟩ : ∃ gs : Nat → Nat, gs = fun i => match lkp (swp m) i with | some b => (E.g b).getD 0 | none => 0 := ⟨_, rfl⟩
  have hmu : ∀ b i, lkp m b = some i → hasT i ti = true ∧ E.g b = some (gs i) ∧ (∀ t, (i, t) ∈ ti → E.bt b = t) ∧ b ≠ dI ∧ b ≠ lI := by
    intro b i hbi
    have hmem := lkp_mem hbi
    obtain ⟨h1, t, v, h2, h3⟩ := mOK_at hm b i hmem
    obtain ⟨r1, r2, gg, c, e, r3, _⟩ := hG.hw.blk b _ h2
    have hlk : lkp (swp m) i = some b := mem_lkp (by have := nodupB_ok hmn; simpa [swp, List.map_map, Function.comp_def] using this) (mem_swp.2 hmem)
    refine ⟨h1, by rw [hgs]; simp only [hlk, r3]; rfl, fun t' ht' => by rw [h3 t' ht']; exact r1, fun e => ?_, fun e => ?_⟩
    · subst e; exact hfd.2.1 _ h2
    · subst e; exact hfl.2.1 _ h2
  obtain ⟨g3, x3⟩ := g2.tie (gs := gsC gs m) (ti := mtC m) (by
    intro b hb
    obtain ⟨i, hi⟩ := hasT_mtC hb
    obtain ⟨_, h2, _, h4, h5⟩ := hmu b i hi
    rw [hE2g b h4 h5, h2]; simp [gsC, hi])
  have g4 : Gam gl ⟨σ.tm, hpIn gs m dI lI (w.heap.size + 1) (rec 0) σ.hp, .mp dI :: σ.df⟩ E2 { a with defers := { target := .collected w.heap.size, args := #[] } :: a.defers } w2 :=
    ⟨g3.len, g3.tm, g3.hw, ⟨⟨w.heap.size, hE2d, rfl⟩, g3.df⟩⟩
  have hv0 := evOpd_ok g4 g
  simp only at hv0
  rw [hg] at hv0
  obtain ⟨f', c', hev, r1, r2, _, _⟩ := RV.atom rfl hv0
  simp at hev
  have hf' : f' = #[] := by apply Array.ext'; exact r1
  subst hf'
  have hav : a.eval g = .func (.func gf) #[] c' := by rw [← hev]; cases g <;> rfl
  -- the base
  obtain ⟨B, hBd⟩ : ∃ B : (Nat → Prop) → World → Prop, B = fun S' w' => (∀ b, E.S b → S' b) ∧ (∀ b, E.S b → w'.heap[b]? = w.heap[b]?) := ⟨_, rfl⟩
  have hB : ∀ {S S' : Nat → Prop} {w w' : World}, (∀ b, S b → w'.heap[b]? = w.heap[b]?) → (∀ b, S b → S' b) → B S w → B S' w' := by
    intro S S' w0 w0' h1 h2 h3
    rw [hBd] at h3 ⊢
    exact ⟨fun b hb => h2 b (h3.1 b hb), fun b hb => by rw [h1 b (h3.1 b hb)]; exact h3.2 b hb⟩
  have hof : OfBody P gl σ.tm ps assign body k0 gs ti m jl (gl.wB B hB) (w.heap.size + 1) rec := by
    intro args H H' j' h1 h2 h3 h4 h5 h6
    rw [hrec]
    exact Fy.of_body hG (fun S' w' h => by rw [hBd] at h; exact h) (fun b i hbi => ⟨(hmu b i hbi).1, (hmu b i hbi).2.1, (hmu b i hbi).2.2.1⟩) h1 hk hkt h2 h3 h4 h5 h6
  obtain ⟨hcall, hfn⟩ := hit B hB (w.heap.size + 1) gs rec hof
  have hbb := hbOf_HB (hpIn gs m dI lI (w.heap.size + 1) (rec 0) σ.hp)
  obtain ⟨hφ, hwi⟩ := pass_in (lent := []) g4 hbb (fun b hb => by cases hb) (hins gs (w.heap.size + 1) rec) (hok gs (w.heap.size + 1) rec)
  have hargs : RVs E2 w2 ((((.func (.yield (w.heap.size + 1)) .nil .nil, Ty.unit)) :: cs.toList.map (fun x => (x, Ty.unit))).map (·.1)) (Value.func (.yield (w.heap.size + 1)) #[] #[] :: c'.toList) := by
    refine ⟨RV.of0 (Or.inr ⟨rfl, #[], #[], rfl, rfl, rfl, rfl, rfl⟩), ?_⟩
    have := RVs.atoms hcs r2
    have e1 : ∀ l : List AV, (l.map (fun x => (x, Ty.unit))).map (fun x : AV × Ty => x.1) = l := by intro l; induction l <;> simp_all
    rw [e1]; exact this
  have hv := argsB_ok g4.hw hbb hφ (hL gs (w.heap.size + 1) rec) (fun g hg => hg) hargs
  have hSe : (E2.lend []).S = fun g => E.S g ∨ ∃ b ∈ ([] : List Nat), E2.g b = some g := by simp only [Env.lend, hE2S]
  have hwB : HW (gl.wB B hB) (E2.to (cr gs (w.heap.size + 1) rec).ps (E2.lend []).S) w2 (hset (List.replicate (cr gs (w.heap.size + 1) rec).m none) (ins gs (w.heap.size + 1) rec)) := by
    refine hwi.ctx rfl ?_
    show B _ w2
    rw [hBd]
    refine ⟨fun b hb => by show (E2.lend []).S b; rw [hSe]; exact Or.inl hb, fun b hb => ?_⟩
    exact x12.kept b (hG.hw.slt b hb) (fun ⟨c, k, hc, hgc⟩ => hG.hw.stab c k b hc hgc hb)
  have hcalls := hfn _ w2 _ hv hwB
  refine ⟨w.heap.size + 1, [{ target := .collected w.heap.size, args := #[] }], w2, { target := .fn (.func gf) c', args := #[.func (.yield (w.heap.size + 1)) #[] #[]] }, w2, gf, #[.func (.yield (w.heap.size + 1)) #[] #[]] ++ c', w2, ?_, ?_, fun _ _ => trivial, ?_, fun h => (by cases h), ?_⟩
  · rw [show (Wd gl).round = none from hro, run_enterLoop_outer, ← hw2, hrec0]
  · simp only [resolve, hav]
    simp [go_sem]
  · simp [invoke, hcall]
  · have e0 : (Value.func (.yield (w.heap.size + 1)) #[] #[] :: c'.toList).toArray = #[.func (.yield (w.heap.size + 1)) #[] #[]] ++ c' := by apply Array.ext'; simp
    rw [e0] at hcalls
    have h1 : CallsIn Fence.wide 0 P gf _ w2 _ := callsIn_wide.2 hcalls
    refine CallsIn.mono (F := Wd gl) h1 ?_
    rintro ed w3 ⟨E', hR, hW', hX⟩
    cases ed with
    | panicked ch => exact hR.elim
    | outgrown => exact hR.elim
    | returned v =>
      have hWg : HW gl E' w3 (outH (cr gs (w.heap.size + 1) rec).m (cr gs (w.heap.size + 1) rec).out) := by
        refine hW'.ctx rfl ?_
        have hbs : B E'.S w3 := hW'.gl.2
        rw [hBd] at hbs
        exact gl.mono hbs.2 hbs.1 hG.hw.gl.2
      have hfr : ∀ b ∈ (cr gs (w.heap.size + 1) rec).ns.map (·.2), (⟨σ.tm, hpIn gs m dI lI (w.heap.size + 1) (rec 0) σ.hp, .mp dI :: σ.df⟩ : St).fresh b := by
        have := hns gs (w.heap.size + 1) rec
        rw [List.all_eq_true] at this
        exact fun b hb => St.fresh_of (this b hb)
      have hrr := hr gs (w.heap.size + 1) rec
      obtain ⟨E3, k1, _, k3⟩ := pass_out (lent := []) g4 hbb (fun b hb => by cases hb) (hins gs (w.heap.size + 1) rec) (hok gs (w.heap.size + 1) rec) hfr hWg hX (r' := .tup .nil) (by rw [hrr]; rfl) (v := v) (by rw [hrr]; exact hR)
      obtain ⟨f1, f2⟩ := hF gs (w.heap.size + 1) rec
      obtain ⟨q1, q2⟩ := k1.hw.blk lI _ f1
      obtain ⟨k4, x4⟩ := k1.shut f1 q1 (.loop { rec j with state := .exhausted })
      obtain ⟨k5, x5⟩ := k4.unt
      simp only [f2] at k5 x5
      have hst : (rec j).state ≠ .busy := by rw [hrec]; simp only [recOf]; split <;> simp
      refine ⟨(rec j).pending, _, run_endLoop q2 hst, ?_⟩
      have hpe : (rec j).pending = jmp jl j := by rw [hrec]; rfl
      have X := (((x12.trans x3).trans k3).trans x4).trans x5
      generalize hwF : w3.putObj (w.heap.size + 1) (.loop { rec j with state := .exhausted }) = wF at k5 X
      generalize (rec j).pending = pe at hpe
      subst hpe
      revert hq
      cases jmp jl j with
      | none =>
        intro hq
        exact ⟨.normal, _, E3, trivial, hq, k5, X⟩
      | some c =>
        intro hq
        refine wpIn_mono (hq E3 _ _ k5) ?_
        rintro ex a5 w5 ⟨x, σ5, E5, z1, z2, z3, z4⟩
        exact ⟨x, σ5, E5, z1, z2, z3, X.trans z4⟩

end Go.Abs

namespace Go.Abs

def jOf {α : Type} : Ctl α (Nat × α) → Nat
  | .brk _ => 0
  | .ret p => p.1 + 1
def dOf {α : Type} : Ctl α (Nat × α) → α
  | .brk d => d
  | .ret p => p.2

theorem OfBody.use {P : Program} {gl : Ctx} {tm : List AV} {ps : Array Tmp} {assign body : Code} {k0 : Nat} {gs : Nat → Nat} {ti : List (Nat × Ty)} {m : List (Nat × Nat)} {jl : List Code} {C : Ctx} {l : Nat} {rec : Nat → Loop}
    (h : OfBody P gl tm ps assign body k0 gs ti m jl C l rec) {α : Type} (y : Ctl α (Nat × α)) (args : List AV) (H : List (Option Blk)) (H' : α → List (Option Blk)) (Hi : List (Option Blk)) (Ho : Nat → α → List (Option Blk)) (hps : ps.size = args.length) (h0 : H[k0]? = some none) (h0' : ∀ d, (H' d)[k0]? = some none) (ht : tieOK H ti = true) (ht' : ∀ d, tieOK (H' d) ti = true)
    (e1 : (tie gs ti 0 H).set k0 (some (.lp l (rec 0))) = Hi) (e2 : ∀ j d, (tie gs ti 0 (H' d)).set k0 (some (.lp l (rec j))) = Ho j d)
    {σ : St} (es : (⟨setTm (ps.toList.zip args) (tmR m tm), H, []⟩ : St) = σ) (hr : Run P (gl.rnd l) assign σ (asgQ P (gl.rnd l) body (rndQ (gl.rnd l) jl (jOf y) (H' (dOf y))))) :
    Fy P C l args Hi (.ret (.val .bool (Nat.beq (jOf y) 0))) (Ho (jOf y) (dOf y)) := by
  subst es
  rw [← e1, ← e2]
  exact h args H (H' (dOf y)) (jOf y) hps h0 (h0' _) ht (ht' _) hr

theorem Fc.up {P : Program} {C C' : Ctx} {f : FuncId} {A : List AV} {H H' : List (Option Blk)} {r : ARes} (hg : C'.gl = C.gl) (hC : ∀ S w, C.B S w) (h : Fc P C f A H r H') : Fc P C' f A H r H' := by
  refine ⟨h.1, fun E w vs hv hw => ?_⟩
  have := h.2 E w vs hv (hw.ctx hg.symm (hC _ _))
  intro cs
  obtain ⟨e, w', fr, ⟨E', r1, r2, r3⟩, rest⟩ := this cs
  exact ⟨e, w', fr, ⟨E', r1, r2.ctx hg (hw.glKeep (hw.kept r3)).2, r3⟩, rest⟩

def mkStD (n m : Nat) (tm : List (Nat × AV)) (hp : List (Nat × Option Blk)) (df : List AV) : St := ⟨setAll tm (List.replicate n .bot), setAll hp (List.replicate m none), df⟩

theorem hqN {P : Program} {gl : Ctx} {Q : AEx → St → Prop} {jl : List Code} {j : Nat} {s σF : St} (hj : Nat.beq j 0 = true) (hσ : s = σF) (hq : Q .normal σF) : (match jmp jl j with | none => Q .normal s | some c => Run P gl c s Q) := by
  subst hσ
  rw [Nat.eq_of_beq_eq_true hj]; exact hq

theorem hqJ {P : Program} {gl : Ctx} {Q : AEx → St → Prop} {jl : List Code} {j : Nat} {s σF : St} (i : Nat) (c : Code) (hj : Nat.beq j (i + 1) = true) (hc : jl[i]? = some c) (hσ : s = σF) (hq : Run P gl c σF Q) : (match jmp jl j with | none => Q .normal s | some c => Run P gl c s Q) := by
  subst hσ
  rw [Nat.eq_of_beq_eq_true hj]
  simp only [jmp, hc]
  exact hq

end Go.Abs
