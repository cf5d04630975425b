/- The program's digest is that of the concrete machine. No condition beyond what each theorem states. -/
import Derived.Test.YtjabllhapfphoaaGreatDoorL7
import Derived.Test.YtjabllhapfphoaaGreatDoorA5
namespace Go.Proofs.YtjabllhapfphoaaGreatDoor
open Go.Abs

abbrev up (l : List Nat) : List Int := l.map Int.ofNat

theorem up_len (l : List Nat) : (up l).length = l.length := by simp [up]
theorem up_byt {l : List Nat} (h : Cm.Bys l) : Byt (up l) := by
  intro x hx
  obtain ⟨n, hn, rfl⟩ := List.mem_map.1 hx
  have := h n hn
  constructor
  · exact Int.natCast_nonneg n
  · show ((n : Nat) : Int) < 256
    omega

theorem up_at {l : List Nat} {i : Nat} (h : i < (up l).length) : (up l)[i] = ((l.getD i 0 : Nat) : Int) := by
  have h' : i < l.length := by simpa [up] using h
  simp [up, List.getD_eq_getElem?_getD, h']

theorem getD_lt {l : List Nat} {b : Nat} (h : ∀ x ∈ l, x < b) (h0 : 0 < b) (i : Nat) : l.getD i 0 < b := by
  rw [List.getD_eq_getElem?_getD]
  cases hi : l[i]? with
  | none => simpa using h0
  | some x => exact h x (List.mem_of_getElem? hi)

theorem set_mid (A : List Nat) (y k : Nat) : List.set (up (A ++ List.replicate (k + 1) 0)) A.length ((y : Nat) : Int) = up ((A ++ [y]) ++ List.replicate k 0) := by
  have : List.set (up (A ++ List.replicate (k + 1) 0)) A.length ((y : Nat) : Int) = up (List.set (A ++ List.replicate (k + 1) 0) A.length y) := by
    show List.set (List.map Int.ofNat _) A.length (Int.ofNat y) = List.map Int.ofNat _
    rw [List.map_set]
  rw [this, List.set_append_right _ _ (Nat.le_refl _), Nat.sub_self]
  simp [List.replicate_succ]

theorem drop_getD {l : List Nat} {i : Nat} (h : i < l.length) : l.drop i = l.getD i 0 :: l.drop (i + 1) := by
  rw [List.drop_eq_getElem_cons h, List.getD_eq_getElem?_getD, List.getElem?_eq_getElem h]; rfl

/-- the words of a block -/
theorem words_up (a0 : D359) (b : List Nat) (hb : Cm.Bys b) (hl : b.length = 64) : ∀ d n i, 16 - i = d → i ≤ 16 → d < n → f281_l1 a0 (up b) n ((i : Nat) : Int) (up (Cm.wrds i b ++ List.replicate (64 - i) 0)) = some (up (Cm.wrds 16 b ++ List.replicate 48 0)) := by
  intro d
  induction d with
  | zero =>
    intro n i hd hi hn
    obtain ⟨n, rfl⟩ : ∃ m, n = m + 1 := ⟨n - 1, by omega⟩
    have : i = 16 := by omega
    subst this
    simp only [f281_l1]
    rw [if_neg (by rw [decide_eq_true_eq]; omega)]
  | succ d ih =>
    intro n i hd hi hn
    obtain ⟨n, rfl⟩ : ∃ m, n = m + 1 := ⟨n - 1, by omega⟩
    have hi16 : i < 16 := by omega
    simp only [f281_l1]
    rw [if_pos (by rw [decide_eq_true_eq]; omega)]
    have e1 : w64 ((4 : Int) * (i : Int)) = ((4 * i : Nat) : Int) := by rw [w64_id (by omega) (by omega)]; omega
    have e2 : w64 (((4 * i : Nat) : Int) + 4) = ((4 * i + 4 : Nat) : Int) := by rw [w64_id (by omega) (by omega)]; omega
    have hl' : (up b).length = 64 := by rw [up_len, hl]
    rw [e1, e2, if_pos (by rw [hl']; omega), Int.toNat_natCast, Int.toNat_natCast, cut4 (up b) (4 * i) (by omega)]
    rw [up_at, up_at, up_at, up_at]
    have g := getD_lt (b := 256) hb (by omega)
    rw [e306 _ _ _ _ (g _) (g _) (g _) (g _), bs, if_pos (by omega), Int.toNat_natCast, w64_succ (by omega)]
    have e3 : 64 - i = (63 - i) + 1 := by omega
    have hlen : (Cm.wrds i b).length = i := Cm.wrds_len i b
    have hs := set_mid (Cm.wrds i b) (word (b.getD (4 * i) 0) (b.getD (4 * i + 1) 0) (b.getD (4 * i + 2) 0) (b.getD (4 * i + 3) 0)) (63 - i)
    rw [hlen, ← e3] at hs
    rw [hs]
    have := ih n (i + 1) (by omega) (by omega) (by omega)
    rw [Cm.wrds_succ, show 64 - (i + 1) = 63 - i by omega] at this
    exact this

theorem ror_up {a k : Nat} (ha : a < Cm.M32) (h2 : k ≤ 31) : f307 ((a : Nat) : Int) ((k : Nat) : Int) = some ((Cm.rorN a k : Nat) : Int) := by
  rw [e307 _ k h2]
  exact congrArg some (Cm.rorc ha h2)

/-- the schedule -/
theorem sched_up (a0 : D359) {ws : List Nat} (hw : Cm.Wds ws) (hl : ws.length = 16) : ∀ d n k, 48 - k = d → k ≤ 48 → d < n → f281_l2 a0 n ((16 + k : Nat) : Int) (up (Cm.Wl ws k ++ List.replicate (48 - k) 0)) = some (up (Cm.Wl ws 48)) := by
  intro d
  induction d with
  | zero =>
    intro n k hd hk hn
    obtain ⟨n, rfl⟩ : ∃ m, n = m + 1 := ⟨n - 1, by omega⟩
    have : k = 48 := by omega
    subst this
    simp only [f281_l2]
    rw [if_neg (by rw [decide_eq_true_eq]; omega)]
    simp
  | succ d ih =>
    intro n k hd hk hn
    obtain ⟨n, rfl⟩ : ∃ m, n = m + 1 := ⟨n - 1, by omega⟩
    have hk48 : k < 48 := by omega
    have hwl := Cm.Wl_len hl k
    have hwd := Cm.Wl_wds hw k
    have e15 : w64 (((16 + k : Nat) : Int) - 15) = ((k + 1 : Nat) : Int) := by rw [w64_id (by omega) (by omega)]; omega
    have e2 : w64 (((16 + k : Nat) : Int) - 2) = ((k + 14 : Nat) : Int) := by rw [w64_id (by omega) (by omega)]; omega
    have e16 : w64 (((16 + k : Nat) : Int) - 16) = ((k : Nat) : Int) := by rw [w64_id (by omega) (by omega)]; omega
    have e7 : w64 (((16 + k : Nat) : Int) - 7) = ((k + 9 : Nat) : Int) := by rw [w64_id (by omega) (by omega)]; omega
    have hlen : (Cm.Wl ws k ++ List.replicate (48 - k) 0).length = 64 := by rw [List.length_append, hwl, List.length_replicate]; omega
    have at_ : ∀ j, j < 16 + k → nth (.int .u32) (up (Cm.Wl ws k ++ List.replicate (48 - k) 0)) ((j : Nat) : Int) = (((Cm.Wl ws k).getD j 0 : Nat) : Int) := by
      intro j hj
      rw [Cm.nthc (by omega), List.getD_eq_getElem?_getD, List.getElem?_append_left (by omega), ← List.getD_eq_getElem?_getD]
    have lt := getD_lt (b := Cm.M32) hwd (by decide)
    have p7 : ∀ {a : Nat}, a < Cm.M32 → f307 ((a : Nat) : Int) 7 = some ((Cm.rorN a 7 : Nat) : Int) := fun h => ror_up (k := 7) h (by omega)
    have p18 : ∀ {a : Nat}, a < Cm.M32 → f307 ((a : Nat) : Int) 18 = some ((Cm.rorN a 18 : Nat) : Int) := fun h => ror_up (k := 18) h (by omega)
    have p17 : ∀ {a : Nat}, a < Cm.M32 → f307 ((a : Nat) : Int) 17 = some ((Cm.rorN a 17 : Nat) : Int) := fun h => ror_up (k := 17) h (by omega)
    have p19 : ∀ {a : Nat}, a < Cm.M32 → f307 ((a : Nat) : Int) 19 = some ((Cm.rorN a 19 : Nat) : Int) := fun h => ror_up (k := 19) h (by omega)
    simp only [f281_l2]
    rw [if_pos (by rw [decide_eq_true_eq]; omega), e15, e2, e16, e7, if_pos (by omega), if_pos (by omega), if_pos (by omega), at_ (k + 1) (by omega), at_ (k + 14) (by omega), at_ k (by omega), at_ (k + 9) (by omega)]
    rw [p7 (lt _), bs, p18 (lt _), bs, if_pos (by omega), p17 (lt _), bs, p19 (lt _), bs, if_pos (by omega), Int.toNat_natCast, show ((16 + k : Nat) : Int) + 1 = ((16 + (k + 1) : Nat) : Int) by omega, w64_id (by omega) (by omega)]
    have l7 := Cm.rorN_lt (lt (k + 1)) (k := 7) (by omega) (by omega)
    have l18 := Cm.rorN_lt (lt (k + 1)) (k := 18) (by omega) (by omega)
    have l17 := Cm.rorN_lt (lt (k + 14)) (k := 17) (by omega) (by omega)
    have l19 := Cm.rorN_lt (lt (k + 14)) (k := 19) (by omega) (by omega)
    have s3 : Int.fdiv (((Cm.Wl ws k).getD (k + 1) 0 : Nat) : Int) (2 ^ (min (Int.toNat (3 : Int)) 32)) = (((Cm.Wl ws k).getD (k + 1) 0 >>> 3 : Nat) : Int) := Cm.fdivc _ 3
    have s10 : Int.fdiv (((Cm.Wl ws k).getD (k + 14) 0 : Nat) : Int) (2 ^ (min (Int.toNat (10 : Int)) 32)) = (((Cm.Wl ws k).getD (k + 14) 0 >>> 10 : Nat) : Int) := Cm.fdivc _ 10
    rw [s3, s10, Cm.xorc l7 l18, Cm.xorc (Cm.xor_lt l7 l18) (Cm.shr_lt (lt _) 3), Cm.xorc l17 l19, Cm.xorc (Cm.xor_lt l17 l19) (Cm.shr_lt (lt _) 10), Cm.addc, Cm.wrapc, Cm.addc, Cm.wrapc, Cm.addc, Cm.wrapc]
    have hs := set_mid (Cm.Wl ws k) (Cm.nw ((Cm.Wl ws k).getD k 0) ((Cm.Wl ws k).getD (k + 1) 0) ((Cm.Wl ws k).getD (k + 9) 0) ((Cm.Wl ws k).getD (k + 14) 0)) (47 - k)
    rw [hwl, show 47 - k + 1 = 48 - k by omega] at hs
    have hnw : ((((Cm.Wl ws k).getD k 0 + (Cm.rorN ((Cm.Wl ws k).getD (k + 1) 0) 7 ^^^ Cm.rorN ((Cm.Wl ws k).getD (k + 1) 0) 18 ^^^ (Cm.Wl ws k).getD (k + 1) 0 >>> 3)) % Cm.M32 + (Cm.Wl ws k).getD (k + 9) 0) % Cm.M32 + (Cm.rorN ((Cm.Wl ws k).getD (k + 14) 0) 17 ^^^ Cm.rorN ((Cm.Wl ws k).getD (k + 14) 0) 19 ^^^ (Cm.Wl ws k).getD (k + 14) 0 >>> 10)) % Cm.M32 = Cm.nw ((Cm.Wl ws k).getD k 0) ((Cm.Wl ws k).getD (k + 1) 0) ((Cm.Wl ws k).getD (k + 9) 0) ((Cm.Wl ws k).getD (k + 14) 0) := by
      show _ = ((Cm.Wl ws k).getD k 0 + (Cm.rorN ((Cm.Wl ws k).getD (k + 1) 0) 7 ^^^ Cm.rorN ((Cm.Wl ws k).getD (k + 1) 0) 18 ^^^ (Cm.Wl ws k).getD (k + 1) 0 >>> 3) + ((Cm.Wl ws k).getD (k + 9) 0 + (Cm.rorN ((Cm.Wl ws k).getD (k + 14) 0) 17 ^^^ Cm.rorN ((Cm.Wl ws k).getD (k + 14) 0) 19 ^^^ (Cm.Wl ws k).getD (k + 14) 0 >>> 10))) % Cm.M32
      simp only [Cm.M32]
      omega
    rw [hnw, hs]
    have := ih n (k + 1) (by omega) (by omega) (by omega)
    rw [show 48 - (k + 1) = 47 - k by omega] at this
    exact this

theorem konst_up : konst0 = up Cm.shaK := by kernel_rfl

def S8t (s : Cm.S8) : Int × Int × Int × Int × Int × Int × Int × Int := ((s.a : Int), (s.b : Int), (s.c : Int), (s.d : Int), (s.e : Int), (s.f : Int), (s.g : Int), (s.h : Int))

/-- the rounds -/
theorem rounds_up (a0 : D359) {ws : List Nat} (_hw : Cm.Wds ws) (hl : ws.length = 16) : ∀ d n i (s : Cm.S8), 64 - i = d → i ≤ 64 → d < n → Cm.Wds s.l →
    f281_l3 a0 (up (Cm.Wl ws 48)) konst0 n ((s.a : Nat) : Int) ((s.b : Nat) : Int) ((s.c : Nat) : Int) ((s.d : Nat) : Int) ((s.e : Nat) : Int) ((s.f : Nat) : Int) ((s.g : Nat) : Int) ((s.h : Nat) : Int) ((i : Nat) : Int) = some (S8t (Cm.rndV (Cm.shaK.drop i) s (fun j => Cm.Wf ws (i + j)))) := by
  intro d
  induction d with
  | zero =>
    intro n i s hd hi hn hs
    obtain ⟨n, rfl⟩ : ∃ m, n = m + 1 := ⟨n - 1, by omega⟩
    have : i = 64 := by omega
    subst this
    simp only [f281_l3]
    rw [if_neg (by rw [decide_eq_true_eq]; omega)]
    rfl
  | succ d ih =>
    intro n i s hd hi hn hs
    obtain ⟨n, rfl⟩ : ∃ m, n = m + 1 := ⟨n - 1, by omega⟩
    have hi64 : i < 64 := by omega
    obtain ⟨a, b, c, dd, e, f, g, h⟩ := s
    have h1 := hs.head
    have h2 := hs.tail.head
    have h3 := hs.tail.tail.head
    have h4 := hs.tail.tail.tail.head
    have h5 := hs.tail.tail.tail.tail.head
    have h6 := hs.tail.tail.tail.tail.tail.head
    have h7 := hs.tail.tail.tail.tail.tail.tail.head
    have hkl : Cm.shaK.length = 64 := by decide
    have hwl := Cm.Wl_len hl 48
    have ek : nth (.int .u32) konst0 ((i : Nat) : Int) = ((Cm.shaK.getD i 0 : Nat) : Int) := by rw [konst_up]; exact Cm.nthc (by rw [hkl]; omega)
    have ew : nth (.int .u32) (up (Cm.Wl ws 48)) ((i : Nat) : Int) = ((Cm.Wf ws i : Nat) : Int) := by rw [Cm.nthc (by omega), Cm.Wl_at hl (by omega)]
    have p : ∀ {x : Nat} (k : Nat), x < Cm.M32 → k ≤ 31 → f307 ((x : Nat) : Int) ((k : Nat) : Int) = some ((Cm.rorN x k : Nat) : Int) := fun k h h2 => ror_up h h2
    have p6 := p 6 h5 (by omega)
    have p11 := p 11 h5 (by omega)
    have p25 := p 25 h5 (by omega)
    have p2 := p 2 h1 (by omega)
    have p13 := p 13 h1 (by omega)
    have p22 := p 22 h1 (by omega)
    have r : ∀ {x : Nat} (k : Nat), x < Cm.M32 → 1 ≤ k → k ≤ 31 → Cm.rorN x k < Cm.M32 := fun k h h1 h2 => Cm.rorN_lt h h1 h2
    have hmax : IntKind.u32.max = ((4294967295 : Nat) : Int) := rfl
    have hnot : (4294967295 : Nat) < Cm.M32 := by decide
    simp only [f281_l3]
    rw [if_pos (by rw [decide_eq_true_eq]; omega), show (6 : Int) = ((6 : Nat) : Int) from rfl, p6, bs, show (11 : Int) = ((11 : Nat) : Int) from rfl, p11, bs, show (25 : Int) = ((25 : Nat) : Int) from rfl, p25, bs, if_pos (by omega), show (2 : Int) = ((2 : Nat) : Int) from rfl, p2, bs, show (13 : Int) = ((13 : Nat) : Int) from rfl, p13, bs, show (22 : Int) = ((22 : Nat) : Int) from rfl, p22, bs, ek, ew, hmax]
    rw [Cm.xorc (r 6 h5 (by omega) (by omega)) (r 11 h5 (by omega) (by omega)), Cm.xorc (Cm.xor_lt (r 6 h5 (by omega) (by omega)) (r 11 h5 (by omega) (by omega))) (r 25 h5 (by omega) (by omega)),
      Cm.xorc (r 2 h1 (by omega) (by omega)) (r 13 h1 (by omega) (by omega)), Cm.xorc (Cm.xor_lt (r 2 h1 (by omega) (by omega)) (r 13 h1 (by omega) (by omega))) (r 22 h1 (by omega) (by omega)),
      Cm.andc h5 h6, Cm.xorc hnot h5, Cm.andc (Cm.xor_lt hnot h5) h7, Cm.xorc (Cm.and_lt h5) (Cm.and_lt (Cm.xor_lt hnot h5)),
      Cm.andc h1 h2, Cm.andc h1 h3, Cm.andc h2 h3, Cm.xorc (Cm.and_lt h1) (Cm.and_lt h1), Cm.xorc (Cm.xor_lt (Cm.and_lt h1) (Cm.and_lt h1)) (Cm.and_lt h2)]
    simp only [Cm.addc, Cm.wrapc]
    rw [w64_succ (by omega)]
    have nxs := Cm.S8.nx_wds hs (Cm.shaK.getD i 0) (Cm.Wf ws i)
    have := ih n (i + 1) (Cm.S8.nx ⟨a, b, c, dd, e, f, g, h⟩ (Cm.shaK.getD i 0) (Cm.Wf ws i)) (by omega) (by omega) (by omega) nxs
    have hdrop := drop_getD (l := Cm.shaK) (i := i) (by rw [hkl]; omega)
    rw [hdrop, Cm.rndV_cons]
    generalize Cm.shaK.drop (i + 1) = ks at this
    generalize Cm.shaK.getD i 0 = kk at this
    obtain ⟨r1, r2, r3, r4, r5, r6⟩ := Cm.nx_r ⟨a, b, c, dd, e, f, g, h⟩ kk (Cm.Wf ws i)
    rw [Cm.nx_a, Cm.nx_e, r1, r2, r3, r4, r5, r6] at this
    rw [Cm.t1c, Cm.t2c]
    exact this

end Go.Proofs.YtjabllhapfphoaaGreatDoor
