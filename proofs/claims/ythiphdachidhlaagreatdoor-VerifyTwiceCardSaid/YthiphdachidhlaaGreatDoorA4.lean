/- The abstract machine: what it means to be walked, part 4. No condition. -/
import Derived.Test.YthiphdachidhlaaGreatDoorA3
import Derived.Deep.DeepHandedRow
import Derived.OpenShut
import Derived.ChangeArms
/- part AbsBridge -/
/- The bridge: arguments that a row reads as data, as the abstract machine sees them. -/
namespace Go.Abs

/-- all that lies in memory stays -/
def envOf (W : World) : Env := ⟨fun _ => none, fun _ => undef, fun _ => .unit, fun g => g < W.heap.size⟩

theorem RelL.collect {α : Type} {r : List Value → α → Prop} {k : Nat} : ∀ (n : Nat) (cs : List Value), cs.length = n * k → (∀ i, i < n → ∃ y, r ((cs.drop (i * k)).take k) y) → ∃ ys, ys.length = n ∧ RelL r cs ys
  | 0, cs, hl, _ => ⟨[], rfl, List.eq_nil_of_length_eq_zero (by simpa using hl)⟩
  | n + 1, cs, hl, h => by
    obtain ⟨y, hy⟩ := h 0 (by omega)
    rw [Nat.zero_mul, List.drop_zero] at hy
    obtain ⟨ys, h1, h2⟩ := RelL.collect (k := k) n (cs.drop k) (by rw [List.length_drop, hl, Nat.add_mul, Nat.one_mul]; omega) (fun i hi => by
      obtain ⟨z, hz⟩ := h (i + 1) (by omega)
      refine ⟨z, ?_⟩
      rw [List.drop_drop]
      rw [show k + i * k = (i + 1) * k from by rw [Nat.add_mul]; omega]
      exact hz)
    exact ⟨y :: ys, by simp [h1], cs.take k, cs.drop k, (List.take_append_drop k cs).symm, hy, h2⟩

theorem cells?_get {w : World} {base : Nat} {a : Addr} {n : Nat} {cs : List Value} (h : w.cells? base a n = some cs) : cs.length = n ∧ ∀ j v, cs[j]? = some v → w.cell? (a.add j) = some v := by
  unfold World.cells? at h
  split at h
  · have hl := mapM_some_length h
    refine ⟨by simpa using hl, fun j v hj => ?_⟩
    have hlt : j < n := by
      have := (List.getElem?_eq_some_iff.1 hj).1
      rw [hl] at this; simpa using this
    have := mapM_some_get h j j (by simp [hlt])
    rw [this, hj]
  · cases h

theorem Addr.add_add (a : Addr) (i j : Nat) : (a.add i).add j = a.add (i + j) := by
  unfold Addr.add
  by_cases hi : i = 0
  · subst hi; simp
  · by_cases hj : j = 0
    · subst hj; simp
    · have : i + j ≠ 0 := by omega
      simp [hi, hj, Nat.add_assoc]

theorem RelL.gather {α : Type} {w : World} {r : List Value → α → Prop} {a : Addr} {k : Nat} : ∀ (n s : Nat), (∀ i, i < n → ∃ c y, w.cells? 0 (a.add ((s + i) * k)) k = some c ∧ r c y) → ∃ cs ys, ys.length = n ∧ RelL r cs ys ∧ ∀ j v, cs[j]? = some v → w.cell? (a.add (s * k + j)) = some v
  | 0, s, _ => ⟨[], [], rfl, rfl, fun j v hj => by simp at hj⟩
  | n + 1, s, h => by
    obtain ⟨c, y, h1, h2⟩ := h 0 (by omega)
    rw [Nat.add_zero] at h1
    obtain ⟨hl, hc⟩ := cells?_get h1
    obtain ⟨cs, ys, g1, g2, g3⟩ := RelL.gather n (s + 1) (fun i hi => by
      obtain ⟨c', y', q1, q2⟩ := h (i + 1) (by omega)
      exact ⟨c', y', by rw [show s + 1 + i = s + (i + 1) from by omega]; exact q1, q2⟩)
    refine ⟨c ++ cs, y :: ys, by simp [g1], ⟨c, cs, rfl, h2, g2⟩, ?_⟩
    intro j v hj
    rw [List.getElem?_append] at hj
    split at hj
    · have := hc j v hj
      rwa [Addr.add_add] at this
    · rename_i hge
      have := g3 _ v hj
      rw [hl] at this hge
      rw [show (s + 1) * k + (j - k) = s * k + j from by rw [Nat.add_mul, Nat.one_mul]; omega] at this
      exact this

section
variable {H : Type} {enc : TypeId × Value → H} {P : Program} {G : Tab} (T : Tied P G) {W : World} {spare : Nat → Bool} {held : Bool}
include T

theorem Tied.cellsOf {t : TypeId} {td : TD} (h : G.at t = some td) : P.cellsOf t = td.ty.size := by
  obtain ⟨i, _, h1, _, h2, _⟩ := T.info h
  simp [Program.cellsOf, h1, h2]

theorem Tied.boolOf {t : TypeId} {td : TD} (ht : G.at t = some td) (hs : td.ty = .bool) : P.underlying t = some .bool := by
  obtain ⟨ii, dd, _, h1, _, h2, _⟩ := T.info ht
  have hagg := descOK_agg h2
  rw [h1]
  cases hd : dd with
  | bool => rfl
  | struct fs => subst hd; rw [hs] at hagg; simp [descAgg, Ty.isAgg] at hagg
  | array n e => subst hd; rw [hs] at hagg; simp [descAgg, Ty.isAgg] at hagg
  | slice e => subst hd; simp [descOK, Ty.same, hs] at h2
  | map k e => subst hd; simp [descOK, Ty.same, hs] at h2
  | _ => subst hd; simp [descOK, Ty.same, hs] at h2

/-- what is read as data is data of the type -/
theorem trod_rel : ∀ (fuel : Nat) (t : TypeId) (td : TD) (cs : List Value) (d : DataW H) (ps : List MemPlace), G.at t = some td → td.ty.pure = true → DataW.trod enc P W 0 spare held fuel t cs = some (d, ps) → (∀ n ∈ d.weights P t, n ≤ maxB) →
    ∃ x : td.ty.den, Rel W (fun g => g < W.heap.size) td.ty cs x
  | 0, t, td, cs, d, ps, _, _, h, _ => by simp [DataW.trod] at h
  | fuel + 1, t, td, cs, d, ps, ht, hp, h, hw => by
    have ih := fun t td cs d ps => trod_rel fuel t td cs d ps
    obtain ⟨ty, te, te2⟩ := td
    simp only at hp
    cases ty with
    | int k =>
      obtain ⟨n, e1, e2, e3⟩ := DataW.trod_int (T.intOf ht rfl) h
      simp only [Lit.wf, Bool.and_eq_true, decide_eq_true_eq] at e3
      exact ⟨n, e1, e3⟩
    | bool =>
      obtain ⟨b, e1, e2⟩ := DataW.trod_bool (T.boolOf ht rfl) h
      exact ⟨b, e1⟩
    | str =>
      have hu := T.strOf ht rfl
      unfold DataW.trod at h
      rw [hu] at h
      split at h <;> simp_all
      obtain ⟨_, e1, e2⟩ := h
      subst e1
      rename_i s _
      have hlen : s.data.toList.length ≤ maxB := hw s.data.toList.length (by simp [DataW.weights])
      exact ⟨s.data.toList, by simp, hlen⟩
    | arr n u =>
      obtain ⟨tde, h1, h2, h3⟩ := T.arrOf ht rfl
      simp only at h1 h2 h3
      subst h3
      obtain ⟨xs, m, e1, e2, e3, e4, e5⟩ := DataW.trod_array h1 h
      cases e1; cases e2
      have hcz := T.cellsOf h2
      have hall : ∀ i, i < n → ∃ y, Rel W (fun g => g < W.heap.size) tde.ty ((cs.drop (i * tde.ty.size)).take tde.ty.size) y := by
        intro i hi
        have hx := e5 i hi
        have hlt : i < xs.length := by omega
        rw [List.getElem?_eq_getElem hlt, hcz] at hx
        refine ih te tde _ xs[i].1 xs[i].2 h2 hp hx (fun q hq => hw q ?_)
        have key : ∀ (l : List (DataW H)) (i : Nat) (d : DataW H), l[i]? = some d → ∀ q ∈ d.weights P te, q ∈ DataW.weightsAll P te l := by
          intro l
          induction l with
          | nil => intro i d h; simp at h
          | cons a l ihl =>
            intro i d h q hq
            simp only [DataW.weightsAll, List.mem_append]
            cases i with
            | zero => simp at h; subst h; exact Or.inl hq
            | succ i => exact Or.inr (ihl i d (by simpa using h) q hq)
        simp only [DataW.weights, h1]
        exact key _ i _ (by simp [hlt]) q hq
      have hl : cs.length = n * tde.ty.size := by
        rw [e3]; exact T.cellsOf ht
      obtain ⟨ys, y1, y2⟩ := RelL.collect n cs hl hall
      exact ⟨ys, y1, y2⟩
    | slice bs u =>
      obtain ⟨te', ie, h1, h2, h3, h4, h5, h6, h7⟩ := T.sliceOf ht rfl
      simp only at h1 h2 h4
      subst h3
      have hcz := T.cellsOf h2
      rcases DataW.trod_slice h1 h with ⟨e1, e2⟩ | ⟨a, len, cap, elems, rest, m, e1, e2, e3, e4, e5, e6, e7, e8, _⟩
      · exact ⟨[], none, 0, e1, Nat.le_refl _, by simp, by simp, Or.inl rfl⟩
      · cases e1; cases e3
        have hb : P.bytesOf te = bs := by simp [Program.bytesOf, h4, h5]
        have hw0 : (elems.length + rest.length) * bs ≤ maxB := by
          refine hw _ ?_
          simp only [DataW.weights, h1, hb]
          simp
        have hlb : len * bs ≤ maxB := Nat.le_trans (Nat.mul_le_mul_right _ (by omega)) hw0
        have hlm : len ≤ maxB := Nat.le_trans (Nat.le_mul_of_pos_right _ h7) hlb
        have hall : ∀ i, i < len → ∃ c y, W.cells? 0 (a.add ((0 + i) * te'.ty.size)) te'.ty.size = some c ∧ Rel W (fun g => g < W.heap.size) te'.ty c y := by
          intro i hi
          have hx := e8 i hi
          have hlt : i < elems.length := by omega
          rw [List.getElem?_eq_getElem hlt, hcz] at hx
          simp only [Option.bind_eq_some_iff] at hx
          obtain ⟨c, c1, c2⟩ := hx
          obtain ⟨y, hy⟩ := ih te te' c elems[i].1 elems[i].2 h2 hp c2 (fun q hq => hw q (by
            have key : ∀ (l : List (DataW H)) (i : Nat) (d : DataW H), l[i]? = some d → ∀ q ∈ d.weights P te, q ∈ DataW.weightsAll P te l := by
              intro l
              induction l with
              | nil => intro i d h; simp at h
              | cons a l ihl =>
                intro i d h q hq
                simp only [DataW.weightsAll, List.mem_append]
                cases i with
                | zero => simp at h; subst h; exact Or.inl hq
                | succ i => exact Or.inr (ihl i d (by simpa using h) q hq)
            simp only [DataW.weights, h1, List.mem_cons, List.mem_append]
            exact Or.inr (Or.inl (key _ i _ (by simp [hlt]) q hq))))
          exact ⟨c, y, by rw [Nat.zero_add]; exact c1, hy⟩
        obtain ⟨cs', ys, g1, g2, g3⟩ := RelL.gather (w := W) (a := a) len 0 hall
        subst g1
        rw [e2]
        refine ⟨ys, some a, cap, rfl, e5, hlb, hlm, ?_⟩
        cases hys : ys with
        | nil => exact Or.inl rfl
        | cons y0 ys0 =>
          right
          have hcl := RelL.len (n := te'.ty.size) (fun _ _ h => Rel.len h) g2
          have hpos : 0 < cs'.length := by rw [hcl, hys]; simp; exact h6
          have hc0 := g3 0 cs'[0] (by simp [hpos])
          simp only [Nat.zero_mul, Nat.add_zero, Addr.add, if_true] at hc0
          have hspot : a.spot = none ∧ a.block < W.heap.size := by
            unfold World.cell? at hc0
            split at hc0
            · rename_i c _ _ hh
              split at hc0
              · cases hc0
              · rename_i hs
                exact ⟨by simpa using hs, (Array.getElem?_eq_some_iff.1 hh).1⟩
            · cases hc0
          obtain ⟨b, o, sp⟩ := a
          simp only at hspot
          obtain ⟨hs, hblt⟩ := hspot
          subst hs
          refine ⟨b, o, cs', rfl, hblt, ?_, by rw [← hys]; exact g2⟩
          intro j v hj
          have := g3 j v hj
          rwa [Nat.zero_mul, Nat.zero_add] at this
    | pair ta tb =>
      obtain ⟨fs, h1, h2⟩ := T.structOf ht rfl
      obtain ⟨xs, m, e1, e2, e3, e4, e5⟩ := DataW.trod_struct h1 h
      cases e1; cases e2
      have hl : cs.length = (Ty.pair ta tb).size := by rw [e3]; exact T.cellsOf ht
      have key : ∀ (l : List Field) (ty : Ty) (off : Nat) (ys : List (DataW H × List MemPlace)), fieldsOK G l off ty = true → ty.pure = true → off + ty.size ≤ cs.length → ys.length = l.length →
          (∀ (i : Nat) (f : Field), l[i]? = some f → DataW.trod enc P W 0 spare held fuel f.type ((cs.drop f.offset).take (P.cellsOf f.type)) = ys[i]?) →
          (∀ n ∈ DataW.weightsEach P (l.map (·.type)) (ys.map (·.1)), n ≤ maxB) → ∃ x : ty.den, Rel W (fun g => g < W.heap.size) ty ((cs.drop off).take ty.size) x := by
        intro l
        induction l with
        | nil =>
          intro ty off ys hf _ _ _ _ _
          cases ty <;> simp [fieldsOK] at hf
          exact ⟨(), by simp [Rel, Ty.size]⟩
        | cons f l ihl =>
          intro ty off ys hf hpu hle hyl hrd hwe
          cases ty with
          | pair a b =>
            simp only [fieldsOK, Bool.and_eq_true] at hf
            obtain ⟨⟨⟨g1, g2⟩, g3⟩, g4⟩ := hf
            simp only [Ty.pure, Bool.and_eq_true] at hpu
            cases ys with
            | nil => simp at hyl
            | cons y ys =>
              split at g1
              · rename_i td htd
                have := Ty.eq_of_same g1; subst this
                have g2 := Nat.eq_of_beq_eq_true g2
                have hcz := T.cellsOf htd
                simp only [Ty.size] at hle
                have hr0 := hrd 0 f rfl
                rw [g2, hcz] at hr0
                simp only [List.getElem?_cons_zero] at hr0
                simp only [List.map_cons, DataW.weightsEach, List.mem_append] at hwe
                obtain ⟨x1, hx1⟩ := ih f.type td _ y.1 y.2 htd hpu.1 hr0 (fun n hn => hwe n (Or.inl hn))
                obtain ⟨x2, hx2⟩ := ihl b (off + td.ty.size) ys g4 hpu.2 (by omega) (by simpa using hyl) (fun i f' hf' => by
                  have := hrd (i + 1) f' (by simpa using hf')
                  simpa using this) (fun n hn => hwe n (Or.inr hn))
                refine ⟨(x1, x2), (cs.drop off).take td.ty.size, (cs.drop (off + td.ty.size)).take b.size, ?_, hx1, hx2⟩
                simp only [Ty.size]
                rw [List.take_add, List.drop_drop]
              · cases g1
          | _ => simp [fieldsOK] at hf
      obtain ⟨x, hx⟩ := key fs.toList (.pair ta tb) 0 xs h2 hp (by omega) (by simpa using e4) (fun i f hf => e5 i f (by simpa using hf)) (fun n hn => hw n (by
        simp only [DataW.weights, h1]; exact hn))
      rw [List.drop_zero, List.take_of_length_le (by omega)] at hx
      exact ⟨x, hx⟩
    | unit =>
      obtain ⟨ii, dd, _, hu, hsz, hdo, _⟩ := T.info ht
      cases dd with
      | struct fs =>
        obtain ⟨xs, m, e1, e2, e3, e4, e5⟩ := DataW.trod_struct hu h
        have hl : cs.length = 0 := by rw [e3]; exact T.cellsOf ht
        exact ⟨(), List.eq_nil_of_length_eq_zero hl⟩
      | slice e => simp [descOK, Ty.same] at hdo
      | array n e => simp [descOK] at hdo
      | map k e => simp [descOK, Ty.same] at hdo
      | _ => simp [descOK, Ty.same] at hdo
    | opq k => simp [Ty.pure] at hp
    | fns n => simp [Ty.pure] at hp


theorem arg_rel {base : Nat} {t : TypeId} {td : TD} {v : Value} {d : DataW H} {p : List MemPlace} (ht : G.at t = some td) (hp : td.ty.pure = true) (hok : Value.okWide P W .any base t v) (h : DataW.Trod enc P W 0 spare held t v d p) (hw : ∀ n ∈ d.weights P t, n ≤ maxB) :
    ∃ x : td.ty.den, RV (envOf W) W (.val td.ty x) v ∧ wf td.ty x := by
  obtain ⟨fuel, h⟩ := h
  obtain ⟨x, hx⟩ := trod_rel T fuel t td _ d p ht hp h hw
  refine ⟨x, RV.of0 ?_, Rel.wf hx⟩
  obtain ⟨ii, dd, _, hu, _, hdo, _⟩ := T.info ht
  have hagg := descOK_agg hdo
  cases ha : td.ty.isAgg with
  | true =>
    rw [ha] at hagg
    unfold Value.okWide at hok
    rw [hu] at hok
    cases dd <;> simp [descAgg] at hagg <;> (obtain ⟨cs, e, _⟩ := hok; subst e; exact Or.inl ⟨ha, cs, rfl, hx⟩)
  | false =>
    rw [ha] at hagg
    refine Or.inr ⟨ha, ?_⟩
    cases v with
    | agg cs =>
      unfold Value.okWide at hok
      rw [hu] at hok
      cases dd <;> simp [descAgg] at hagg <;> simp [Cell.okWide, Cell.ok, hu] at hok
    | _ => simp [Value.cells] at hx; exact hx

end

theorem mapM_mono {α β : Type} {f g : α → Option β} : ∀ {l : List α} {r : List β}, (∀ x ∈ l, ∀ y, f x = some y → g x = some y) → l.mapM f = some r → l.mapM g = some r
  | [], r, _, h => by simpa using h
  | x :: l, r, hm, h => by
    simp only [List.mapM_cons, Option.bind_eq_bind, Option.bind_eq_some_iff, Option.pure_def, Option.some.injEq] at h ⊢
    obtain ⟨y, h1, ys, h2, h3⟩ := h
    exact ⟨y, hm x (by simp) y h1, ys, mapM_mono (fun z hz => hm z (by simp [hz])) h2, h3⟩

theorem cells?_stay {W W' : World} (hs : ∀ b, b < W.heap.size → W'.heap[b]? = W.heap[b]?) {a : Addr} {n : Nat} {cs : List Value} (h : W.cells? 0 a n = some cs) : W'.cells? 0 a n = some cs := by
  unfold World.cells? at h ⊢
  split at h
  · rename_i hb
    rw [if_pos hb]
    refine mapM_mono ?_ h
    intro i _ y hy
    unfold World.cell? at hy ⊢
    split at hy
    · rename_i c t fr hh
      rw [hs _ (Array.getElem?_eq_some_iff.1 hh).1, hh]
      exact hy
    · cases hy
  · cases h

section
variable {H : Type} {enc : TypeId × Value → H} {P : Program} {G : Tab} (T : Tied P G) {W W' : World} (hs : ∀ b, b < W.heap.size → W'.heap[b]? = W.heap[b]?)
include T hs

/-- a reading stays where what lay in memory stays -/
theorem trod_stay : ∀ (fuel : Nat) (t : TypeId) (td : TD) (cs : List Value) (x : DataW H × List MemPlace), G.at t = some td → td.ty.pure = true → DataW.trod enc P W 0 (fun _ => true) true fuel t cs = some x → DataW.trod enc P W' 0 (fun b => decide (b < W.heap.size)) true fuel t cs = some x
  | 0, t, td, cs, x, _, _, h => by simp [DataW.trod] at h
  | fuel + 1, t, td, cs, x, ht, hp, h => by
    have ih := fun t td cs x => trod_stay fuel t td cs x
    obtain ⟨ty, te, te2⟩ := td
    simp only at hp
    cases ty with
    | int k =>
      have hu := T.intOf ht rfl
      unfold DataW.trod at h ⊢
      rw [hu] at h ⊢
      split at h <;> simp_all
    | bool =>
      have hu := T.boolOf ht rfl
      unfold DataW.trod at h ⊢
      rw [hu] at h ⊢
      split at h <;> simp_all
    | str =>
      have hu := T.strOf ht rfl
      unfold DataW.trod at h ⊢
      rw [hu] at h ⊢
      split at h <;> simp_all
    | arr n u =>
      obtain ⟨tde, h1, h2, h3⟩ := T.arrOf ht rfl
      simp only at h1 h2 h3
      subst h3
      unfold DataW.trod at h ⊢
      rw [h1] at h ⊢
      simp only at h ⊢
      split at h
      · rename_i hl
        rw [if_pos hl]
        simp only [Option.map_eq_some_iff] at h ⊢
        obtain ⟨xs, g1, g2⟩ := h
        exact ⟨xs, mapM_mono (fun i _ y hy => ih te tde _ y h2 hp hy) g1, g2⟩
      · cases h
    | slice bs u =>
      obtain ⟨te', ie, h1, h2, h3, h4, h5, h6, h7⟩ := T.sliceOf ht rfl
      simp only at h1 h2 h4
      subst h3
      have hcz := T.cellsOf h2
      unfold DataW.trod at h ⊢
      rw [h1] at h ⊢
      split at h
      all_goals first
        | (cases h; rfl)
        | skip
      all_goals try (simp_all; done)
      rename_i e0 a len cap heq0
      have he0 : e0 = te := by simpa using heq0.symm
      subst he0
      simp only [if_true] at h
      simp only
      split at h
      · rename_i hc
        rw [if_pos hc]
        simp only [Option.bind_eq_some_iff, Option.map_eq_some_iff] at h ⊢
        obtain ⟨elems, g1, rest, g2, g3⟩ := h
        have step : ∀ (i : Nat) (y : DataW H × List MemPlace), (W.cells? 0 (a.add (i * P.cellsOf e0)) (P.cellsOf e0)).bind (DataW.trod enc P W 0 (fun _ => true) true fuel e0) = some y → (W'.cells? 0 (a.add (i * P.cellsOf e0)) (P.cellsOf e0)).bind (DataW.trod enc P W' 0 (fun b => decide (b < W.heap.size)) true fuel e0) = some y := by
          intro i y hy
          simp only [Option.bind_eq_some_iff] at hy ⊢
          obtain ⟨c, c1, c2⟩ := hy
          exact ⟨c, cells?_stay hs c1, ih e0 te' c y h2 hp c2⟩
        refine ⟨elems, mapM_mono (fun i _ y hy => step i y hy) g1, rest, ?_, g3⟩
        by_cases hz : cap - len = 0
        · rw [hz] at g2 ⊢
          simp at g2
          subst g2
          split <;> simp
        · have hblk : a.block < W.heap.size := by
            obtain ⟨k, hk⟩ : ∃ k, cap - len = k + 1 := ⟨cap - len - 1, by omega⟩
            rw [hk, List.range_succ_eq_map] at g2
            simp only [List.mapM_cons, Option.bind_eq_bind, Option.bind_eq_some_iff] at g2
            obtain ⟨y, ⟨c, c1, _⟩, _⟩ := g2
            obtain ⟨l1, l2⟩ := cells?_get c1
            have hpos : 0 < c.length := by rw [l1, hcz]; exact h6
            have := l2 0 c[0] (by simp [hpos])
            unfold World.cell? at this
            split at this
            · rename_i hh
              have hlt := (Array.getElem?_eq_some_iff.1 hh).1
              have e : ∀ (a : Addr) n, (a.add n).block = a.block := by intro a n; unfold Addr.add; split <;> rfl
              rw [e, e] at hlt
              exact hlt
            · cases this
          simp only [hblk, decide_true, if_true]
          exact mapM_mono (fun i _ y hy => step (len + i) y hy) g2
      · cases h
    | pair ta tb =>
      obtain ⟨fs, h1, h2⟩ := T.structOf ht rfl
      unfold DataW.trod at h ⊢
      rw [h1] at h ⊢
      simp only at h ⊢
      split at h
      · rename_i hl
        rw [if_pos hl]
        simp only [Option.map_eq_some_iff] at h ⊢
        obtain ⟨xs, g1, g2⟩ := h
        refine ⟨xs, mapM_mono (fun f hf y hy => ?_) g1, g2⟩
        have key : ∀ (l : List Field) (ty : Ty) (off : Nat), fieldsOK G l off ty = true → ty.pure = true → ∀ f ∈ l, ∃ td, G.at f.type = some td ∧ td.ty.pure = true := by
          intro l
          induction l with
          | nil => intro ty off _ _ f hf; cases hf
          | cons f0 l ihl =>
            intro ty off hfo hpu f hf
            cases ty with
            | pair a b =>
              simp only [fieldsOK, Bool.and_eq_true] at hfo
              obtain ⟨⟨⟨q1, q2⟩, q3⟩, q4⟩ := hfo
              simp only [Ty.pure, Bool.and_eq_true] at hpu
              rcases List.mem_cons.1 hf with e | hf
              · subst e
                split at q1
                · rename_i td htd
                  exact ⟨td, htd, by rw [Ty.eq_of_same q1]; exact hpu.1⟩
                · cases q1
              · exact ihl b _ q4 hpu.2 f hf
            | _ => simp [fieldsOK] at hfo
        obtain ⟨td, htd, hpd⟩ := key fs.toList (.pair ta tb) 0 h2 hp f hf
        exact ih f.type td _ y htd hpd hy
      · cases h
    | unit =>
      obtain ⟨ii, dd, _, hu, hsz, hdo, _⟩ := T.info ht
      cases dd with
      | struct fs =>
        have hfs : fs.toList = [] := by
          simp only [descOK] at hdo
          cases hl : fs.toList with
          | nil => rfl
          | cons f l => rw [hl] at hdo; simp [fieldsOK] at hdo
        unfold DataW.trod at h ⊢
        rw [hu] at h ⊢
        simp only [hfs] at h ⊢
        exact h
      | slice e => simp [descOK, Ty.same] at hdo
      | array n e => simp [descOK] at hdo
      | map k e => simp [descOK, Ty.same] at hdo
      | _ => simp [descOK, Ty.same] at hdo
    | opq k => simp [Ty.pure] at hp
    | fns n => simp [Ty.pure] at hp

theorem trodAll_stay : ∀ (ts : List TypeId) (vs : List Value) (ds : List (DataW H)) (ps : List MemPlace), (∀ t ∈ ts, ∃ td, G.at t = some td ∧ td.ty.pure = true) → DataW.TrodAll enc P W 0 (fun _ => true) true ts vs ds ps → DataW.TrodAll enc P W' 0 (fun b => decide (b < W.heap.size)) true ts vs ds ps
  | [], vs, ds, ps, _, h => by
    cases vs <;> cases ds <;> first | exact h | exact h.elim
  | t :: ts, vs, ds, ps, ht, h => by
    cases vs with
    | nil => cases ds <;> exact h.elim
    | cons v vs =>
      cases ds with
      | nil => exact h.elim
      | cons d ds =>
        obtain ⟨p, q, ⟨fuel, h1⟩, h2, h3⟩ := h
        obtain ⟨td, htd, hpd⟩ := ht t (by simp)
        exact ⟨p, q, ⟨fuel, trod_stay T hs fuel t td _ _ htd hpd h1⟩, trodAll_stay ts vs ds q (fun t' ht' => ht t' (by simp [ht'])) h2, h3⟩

end

/-- the blocks of a call that owns none -/
theorem HW.bare {gl : Ctx} {W : World} (n : Nat) (hg : GlOK gl (envOf W) W) : HW gl (envOf W) W (hset (List.replicate n none) []) := by
  have no : ∀ (b : Nat) (k : Blk), (hset (List.replicate n (none : Option Blk)) [])[b]? ≠ some (some k) := by
    intro b k h
    simp only [hset, List.getElem?_replicate] at h
    split at h <;> cases h
  exact ⟨fun b k h => absurd h (no b k), fun b _ k _ _ h => absurd h (no b k), fun b k _ h => absurd h (no b k), fun g hg => hg, hg⟩

/-- a law's contract brings its row's postcondition -/
theorem law_post {H : Type} {enc : TypeId × Value → H} {P : Program} {G : Tab} (T : Tied P G) {gl : Ctx} {f : FuncId} {fn : Func} {s : ChangeSpec} {W : World} {args : Array Value} {ds gs : List (DataW H)} {before : List MemPlace} {avs : List AV} {m : Nat} {bt : TypeId}
    (hc : Fc P gl f avs (hset (List.replicate m none) []) (.ret (.val .bool true)) (outH m [])) (hv : RVs (envOf W) W avs args.toList) (hg : GlOK gl (envOf W) W)
    (hW : DataW.Whole enc P fn.params.toList s.vars false W args.toList ds gs before) (hvars : s.vars = []) (hpt : ∀ t ∈ fn.params.toList, ∃ td, G.at t = some td ∧ td.ty.pure = true)
    (hrt : fn.resultTypes = #[bt]) (hbt : P.underlying bt = some .bool) (hspec : ∀ gs, gs = [] → (s.fn H (ds ++ gs)).results = [.lit (.bool true)] ∧ (s.fn H (ds ++ gs)).args = ds ∧ (s.fn H (ds ++ gs)).vars = []) :
    Calls P f args W fun e W' => ∃ v, e = .returned v ∧ s.post enc P fn false true false false W args v W' := by
  have hcall := hc.2 (envOf W) W args.toList hv (HW.bare m hg)
  have e0 : args.toList.toArray = args := by simp
  rw [e0] at hcall
  refine hcall.mono ?_
  rintro e W' ⟨E', hR, _, hX⟩
  cases e with
  | panicked ch => exact hR.elim
  | outgrown => exact hR.elim
  | returned v =>
    have hv' := RV.bool_inv hR
    subst hv'
    refine ⟨_, rfl, ?_⟩
    have noO : ∀ g, ¬ Own (hset (List.replicate m (none : Option Blk)) []) (envOf W) g := by
      rintro g ⟨b, k, hb, _⟩
      simp only [hset, List.getElem?_replicate] at hb
      split at hb <;> cases hb
    have stay : ∀ b, b < W.heap.size → W'.heap[b]? = W.heap[b]? := fun b hb => hX.kept b hb (noO b)
    have hW0 := hW
    obtain ⟨p, q, hA, hV, hpq, hfz, hnd⟩ := hW
    rw [hvars] at hV
    have hgs : gs = [] ∧ q = [] := by
      cases gs with
      | nil => exact ⟨rfl, hV⟩
      | cons _ _ => exact hV.elim
    obtain ⟨hgs, hq⟩ := hgs
    obtain ⟨s1, s2, s3⟩ := hspec gs hgs
    refine ⟨ds, gs, before, [], p, [], hW0, ?_, ?_, ?_, ?_, fun h => by cases h⟩
    · rw [s1, hrt]
      refine ⟨[], [], ⟨1, ?_⟩, rfl, rfl⟩
      simp [DataW.trod, hbt, Value.cells]
    · rw [s2]; exact trodAll_stay T stay _ _ _ _ hpt hA
    · rw [s3, hvars]; rfl
    · refine ⟨hX.os, hX.output, fun i hi => ?_⟩
      rw [stay i hi]
      cases hh : W.heap[i]? with
      | none => rfl
      | some o =>
        cases o with
        | cells c t fr => exact ⟨rfl, rfl, rfl, fun _ _ => rfl⟩
        | map es clock => exact Or.inr ⟨rfl, rfl⟩
        | _ => rfl

end Go.Abs

namespace Go.Abs

/-- a table of numbers that is laid -/
theorem globTab {W : World} {g : Nat} {k : IntKind} {zs : List Int} {n : Nat} (h0 : 0 < zs.length) (h : ∀ i, i < zs.length → W.cell? ⟨g, i, none⟩ = some (.int k (zs.getD i 0))) (hn : zs.length = n) (hr : ∀ z ∈ zs, k.min ≤ z ∧ z ≤ k.max) :
    (envOf W).S g ∧ ∃ cs, Rng W ⟨g, 0, none⟩ cs ∧ Rel W (envOf W).S (.arr n (.int k)) cs zs := by
  refine ⟨?_, zs.map (.int k), ?_, hn, ?_⟩
  · have := h 0 h0
    unfold World.cell? at this
    split at this
    · rename_i hh; exact (Array.getElem?_eq_some_iff.1 hh).1
    · cases this
  · intro j v hj
    rw [List.getElem?_map] at hj
    cases hz : zs[j]? with
    | none => rw [hz] at hj; cases hj
    | some z =>
      rw [hz] at hj
      simp at hj
      have hlt := (List.getElem?_eq_some_iff.1 hz).1
      have := h j hlt
      have e : (⟨g, 0, none⟩ : Addr).add j = ⟨g, j, none⟩ := by unfold Addr.add; split <;> simp_all
      rw [e, this, ← hj]
      simp [List.getD, hz]
  · clear h h0 hn
    induction zs with
    | nil => rfl
    | cons z zs ih => exact ⟨[.int k z], zs.map (.int k), rfl, ⟨rfl, hr z (by simp)⟩, ih (fun y hy => hr y (by simp [hy]))⟩

end Go.Abs

/- part AbsPl -/
/-! Plain laws over the printed functions: what every loop needs. -/
namespace Go.Abs

theorem w64_id {x : Int} (h1 : -9223372036854775808 ≤ x) (h2 : x ≤ 9223372036854775807) : w64 x = x := by
  show IntKind.i64.wrap x = x
  simp only [IntKind.wrap, IntKind.bits, IntKind.signed]
  simp
  omega

theorem w64_succ {i : Nat} (h : i ≤ 4611686018427387904) : w64 ((i : Int) + 1) = ((i + 1 : Nat) : Int) := by
  rw [w64_id (by omega) (by omega)]; rfl

theorem u64_nn (x : Int) : 0 ≤ IntKind.u64.wrap x := by
  simp only [IntKind.wrap, IntKind.bits, IntKind.signed]
  simp
  omega

theorem nth_lt {t : Ty} {xs : List t.den} {i : Nat} (h : i < xs.length) : nth t xs (i : Int) = xs[i] := by
  simp [nth, List.getD, h]

theorem and64_nn (x y : Int) : 0 ≤ evBits .and .u64 x y := by
  simp only [evBits]; exact u64_nn _

/-- the rule of a counting loop: a state predicate, an early end, an end -/
theorem loopU {σ ρ : Type} (P : Nat → σ → Prop) (Q : ρ → Prop) (L : Nat → Int → σ → Option ρ) (len : Nat)
    (step : ∀ n (i : Nat) s, i < len → P i s → (∃ s', P (i + 1) s' ∧ L (n + 1) (i : Int) s = L n ((i + 1 : Nat) : Int) s') ∨ (∃ r, Q r ∧ L (n + 1) (i : Int) s = some r))
    (stop : ∀ n s, P len s → ∃ r, Q r ∧ L (n + 1) (len : Int) s = some r) :
    ∀ n (i : Nat) s, i ≤ len → len - i < n → P i s → ∃ r, Q r ∧ L n (i : Int) s = some r := by
  intro n
  induction n with
  | zero => intro i s _ h; omega
  | succ n ih =>
    intro i s hi hn hP
    by_cases h : i < len
    · rcases step n i s h hP with ⟨s', hP', e⟩ | h
      · rw [e]; exact ih (i + 1) s' (by omega) (by omega) hP'
      · exact h
    · have : i = len := by omega
      subst this; exact stop n s hP

theorem cutList_len {α : Type} (xs : List α) (l h : Nat) : (cutList xs l h).length = min (h - l) (xs.length - l) := by
  simp [cutList]

theorem eqL_refl {α : Type} {f : α → α → Bool} (h : ∀ x, f x x = true) : ∀ xs : List α, eqL f xs xs = true
  | [] => by simp [eqL]
  | x :: xs => by simp [eqL, h x, eqL_refl h xs]

theorem eqDen_refl : ∀ (t : Ty) (x : t.den), eqDen t x x = true
  | .int _, x => by simp [eqDen]
  | .bool, x => by simp [eqDen]
  | .str, x => by simp [eqDen]
  | .arr _ t, x => by simp only [eqDen]; exact eqL_refl (eqDen_refl t) x
  | .slice _ t, x => by simp only [eqDen]; exact eqL_refl (eqDen_refl t) x
  | .pair a b, x => by simp only [eqDen, eqDen_refl a, eqDen_refl b]; rfl
  | .unit, _ => by simp [eqDen]
  | .opq _, _ => by simp [eqDen]
  | .fns _, _ => by simp [eqDen]

/-! maps as lists -/

theorem eqDen_true {kt : Ty} (hk : kt.keyed = true) (k : kt.den) : eqDen kt k k = true := (eqDen_eq hk k k).2 rfl

theorem eqDen_ne {kt : Ty} (hk : kt.keyed = true) {p k : kt.den} (h : p ≠ k) : eqDen kt p k = false := by
  cases he : eqDen kt p k with
  | false => rfl
  | true => exact absurd ((eqDen_eq hk p k).1 he) h

theorem mhas_mset_self {α : Type} {kt : Ty} (hk : kt.keyed = true) (k : kt.den) (v : α) : ∀ es : List (kt.den × α), mhas kt k (mset kt k v es) = true
  | [] => by simp [mset, mhas, eqDen_true hk]
  | e :: es => by
    simp only [mset]
    split
    · simp [mhas, eqDen_true hk]
    · simp [mhas, mhas_mset_self hk k v es]

theorem mhas_mset_ne {α : Type} {kt : Ty} (hk : kt.keyed = true) {p k : kt.den} (h : p ≠ k) (v : α) : ∀ es : List (kt.den × α), mhas kt p (mset kt k v es) = mhas kt p es
  | [] => by simp [mset, mhas, eqDen_ne hk h]
  | e :: es => by
    simp only [mset]
    split
    · rename_i he
      have := (eqDen_eq hk k e.1).1 he
      rw [this] at h
      simp [mhas, this, eqDen_ne hk h]
    · simp [mhas, mhas_mset_ne hk h v es]

theorem mget_mset_self {kt vt : Ty} (hk : kt.keyed = true) (k : kt.den) (v : vt.den) : ∀ es : List (kt.den × vt.den), mget kt vt k (mset kt k v es) = v
  | [] => by simp [mset, mget, eqDen_true hk]
  | e :: es => by
    simp only [mset]
    split
    · simp [mget, eqDen_true hk]
    · rename_i he
      simp [mget, he, mget_mset_self hk k v es]

theorem mget_mset_ne {kt vt : Ty} (hk : kt.keyed = true) {p k : kt.den} (h : p ≠ k) (v : vt.den) : ∀ es : List (kt.den × vt.den), mget kt vt p (mset kt k v es) = mget kt vt p es
  | [] => by simp [mset, mget, eqDen_ne hk h]
  | e :: es => by
    simp only [mset]
    split
    · rename_i he
      have := (eqDen_eq hk k e.1).1 he
      rw [this] at h
      simp [mget, this, eqDen_ne hk h]
    · simp [mget, mget_mset_ne hk h v es]

theorem mset_same {kt vt : Ty} (hk : kt.keyed = true) (k : kt.den) (v : vt.den) : ∀ es : List (kt.den × vt.den), mhas kt k es = true → mget kt vt k es = v → mset kt k v es = es
  | [], h, _ => by simp [mhas] at h
  | e :: es, h, hv => by
    simp only [mset]
    simp only [mhas, Bool.or_eq_true] at h
    simp only [mget] at hv
    split
    · rename_i he
      rw [if_pos he] at hv
      have := (eqDen_eq hk k e.1).1 he
      rw [← hv, this]
    · rename_i he
      rw [if_neg he] at hv
      rcases h with h | h
      · exact absurd h he
      · rw [mset_same hk k v es h hv]

end Go.Abs
