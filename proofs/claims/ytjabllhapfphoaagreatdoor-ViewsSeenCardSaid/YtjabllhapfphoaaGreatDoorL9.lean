/- The program's digest is that of the concrete machine: blocks, padding, bytes. No condition beyond what each theorem states. -/
import Derived.Test.YtjabllhapfphoaaGreatDoorL8
namespace Go.Proofs.YtjabllhapfphoaaGreatDoor
open Go.Abs

theorem up_eq8 (s : Cm.S8) : up s.l = [((s.a : Nat) : Int), ((s.b : Nat) : Int), ((s.c : Nat) : Int), ((s.d : Nat) : Int), ((s.e : Nat) : Int), ((s.f : Nat) : Int), ((s.g : Nat) : Int), ((s.h : Nat) : Int)] := rfl

/-- a block -/
theorem cmp_up {s : Cm.S8} {b : List Nat} (hs : Cm.Wds s.l) (hb : Cm.Bys b) (hl : b.length = 64) : cmp (up s.l) (up b) = up (Cm.cmpS s b).l := by
  have hw := Cm.wrds_wds (n := 16) hb
  have hwl := Cm.wrds_len 16 b
  have q1 := words_up (up s.l) b hb hl 16 big 0 rfl (by omega) (by simp only [big]; omega)
  have q2 := sched_up (up s.l) hw hwl 48 big 0 rfl (by omega) (by simp only [big]; omega)
  have q3 := rounds_up (up s.l) hw hwl 64 big 0 s rfl (by omega) (by simp only [big]; omega) hs
  have e0 : up (Cm.wrds 0 b ++ List.replicate (64 - 0) 0) = List.replicate 64 (0 : Int) := by
    show List.map Int.ofNat (List.replicate 64 0) = _
    rw [List.map_replicate]; rfl
  rw [e0] at q1
  obtain ⟨m0, m1, m2, m3, m4, m5, m6, m7⟩ := n32 ((s.a : Nat) : Int) ((s.b : Nat) : Int) ((s.c : Nat) : Int) ((s.d : Nat) : Int) ((s.e : Nat) : Int) ((s.f : Nat) : Int) ((s.g : Nat) : Int) ((s.h : Nat) : Int)
  rw [← up_eq8] at m0 m1 m2 m3 m4 m5 m6 m7
  have hr : Cm.rndL Cm.shaK s (Cm.wrds 16 b) = Cm.rndV (Cm.shaK.drop 0) s (fun j => Cm.Wf (Cm.wrds 16 b) (0 + j)) := Cm.rndL_eq hwl Cm.shaK s 0
  unfold cmp f281
  have c0 : ((0 : Nat) : Int) = 0 := rfl
  have c16 : ((16 + 0 : Nat) : Int) = 16 := rfl
  rw [c0] at q1 q3
  rw [c16] at q2
  rw [q1, bs]
  rw [show up (Cm.wrds 16 b ++ List.replicate 48 0) = up (Cm.Wl (Cm.wrds 16 b) 0 ++ List.replicate (48 - 0) 0) from rfl, q2, bs, e308, bs, m0, m1, m2, m3, m4, m5, m6, m7, q3, bs, ← hr]
  simp only [S8t, Cm.addc, Cm.wrapc]
  rfl

theorem run_up : ∀ (q : Nat) (s : Cm.S8) (l : List Nat), Cm.Wds s.l → Cm.Bys l → 64 * q ≤ l.length → run q (up s.l) (up l) = up (Cm.runS q s l).l := by
  intro q
  induction q with
  | zero => intro s l _ _ _; rfl
  | succ q ih =>
    intro s l hs hb hl
    have ht : (l.take 64).length = 64 := by rw [List.length_take]; omega
    have hbt : Cm.Bys (l.take 64) := fun x hx => hb x (List.mem_of_mem_take hx)
    have e1 : (up l).take 64 = up (l.take 64) := by simp [up, List.map_take]
    have e2 : (up l).drop 64 = up (l.drop 64) := by simp [up, List.map_drop]
    have e3 : Cm.cmpS s (l.take 64) = Cm.cmpS s l := by
      show s.add (Cm.rndL Cm.shaK s (Cm.wrds 16 (l.take 64))) = s.add (Cm.rndL Cm.shaK s (Cm.wrds 16 l))
      rw [Cm.wrds_take 16 64 l (by omega)]
    simp only [run]
    rw [e1, e2, cmp_up hs hbt ht, e3, ih (Cm.cmpS s l) (l.drop 64) (Cm.cmpS_wds s l) (fun x hx => hb x (List.mem_of_mem_drop hx)) (by rw [List.length_drop]; omega)]
    rfl

theorem lb_up (n i : Nat) (hn : n ≤ 100000) (hi : 8 * i ≤ 64) : lb n i = (((8 * n) >>> (8 * i) % 256 : Nat) : Int) := by
  unfold lb
  have e1 : IntKind.u64.wrap ((n : Int) * 8) = ((8 * n : Nat) : Int) := by
    rw [u64_id (by omega) (by omega)]; omega
  rw [e1, Nat.min_eq_left hi, Cm.fdivc, Cm.wrapc8]

theorem tail8_up (n : Nat) (hn : n ≤ 100000) : tail8 n = up (Cm.byt8 8 (8 * n)) := by
  have e : Cm.byt8 8 (8 * n) = [(8 * n) >>> 56 % 256, (8 * n) >>> 48 % 256, (8 * n) >>> 40 % 256, (8 * n) >>> 32 % 256, (8 * n) >>> 24 % 256, (8 * n) >>> 16 % 256, (8 * n) >>> 8 % 256, (8 * n) >>> 0 % 256] := by
    simp only [Cm.byt8, ← Nat.shiftRight_add]
    rfl
  rw [e]
  unfold tail8
  rw [lb_up n 7 hn (by omega), lb_up n 6 hn (by omega), lb_up n 5 hn (by omega), lb_up n 4 hn (by omega), lb_up n 3 hn (by omega), lb_up n 2 hn (by omega), lb_up n 1 hn (by omega), lb_up n 0 hn (by omega)]
  rfl

theorem pad_up (T : List Nat) (h : T.length ≤ 100000) : pad (up T) = up (Cm.padN T) := by
  unfold pad Cm.padN
  rw [up_len, tail8_up _ h]
  have hz : zeros T.length = 63 - (T.length + 8) % 64 := by unfold zeros; omega
  rw [hz]
  show _ = List.map Int.ofNat _
  rw [List.map_append, List.map_cons, List.map_append, List.map_replicate]
  rfl

theorem wby_eq (x : Nat) : Cm.wby x = [x >>> 24 % 256, x >>> 16 % 256, x >>> 8 % 256, x >>> 0 % 256] := by
  unfold Cm.wby
  simp only [Cm.byt8, ← Nat.shiftRight_add]
  rfl

def out4 (x : Int) : List Int := [IntKind.u8.wrap (Int.fdiv x (2 ^ 24)), IntKind.u8.wrap (Int.fdiv x (2 ^ 16)), IntKind.u8.wrap (Int.fdiv x (2 ^ 8)), IntKind.u8.wrap (Int.fdiv x (2 ^ 0))]

theorem out_ok (x0 x1 x2 x3 x4 x5 x6 x7 : Int) : f125_l1 [x0, x1, x2, x3, x4, x5, x6, x7] (Int.toNat (32 : Int) + 1) (0 : Int) (Ty.dflt T28) = some (out4 x0 ++ (out4 x1 ++ (out4 x2 ++ (out4 x3 ++ (out4 x4 ++ (out4 x5 ++ (out4 x6 ++ out4 x7))))))) := by kernel_rfl

theorem out4_up (x : Nat) : out4 ((x : Nat) : Int) = up (Cm.wby x) := by
  unfold out4
  rw [wby_eq, Cm.fdivc, Cm.fdivc, Cm.fdivc, Cm.fdivc, Cm.wrapc8, Cm.wrapc8, Cm.wrapc8, Cm.wrapc8]
  rfl

theorem H0_up : [(1779033703 : Int), (3144134277 : Int), (1013904242 : Int), (2773480762 : Int), (1359893119 : Int), (2600822924 : Int), (528734635 : Int), (1541459225 : Int)] = up Cm.H0.l := rfl

theorem flat_up : ∀ ps : List (List Nat), (ps.map up).flatten = up ps.flatten
  | [] => rfl
  | p :: ps => by
    rw [List.map_cons, List.flatten_cons, List.flatten_cons, flat_up ps]
    show _ = List.map Int.ofNat _
    rw [List.map_append]

/-- the program's digest of parts -/
theorem f125_up (ps : List (List Nat)) (d : List Nat) (h1 : ps.length ≤ 1000) (h2 : ps.flatten.length ≤ 60000) (hb : ∀ p ∈ ps, ∀ x ∈ p, x < 256) (hd : Cm.sha ps.flatten = some d) : f125 (ps.map up) = some (up d) := by
  have hbf : Cm.Bys ps.flatten := by
    intro x hx
    obtain ⟨l, hl, hx⟩ := List.mem_flatten.1 hx
    exact hb l hl x hx
  have hds := Cm.sha_ok hbf h2 hd
  have hbi : ∀ x ∈ ps.map up, Byt x := by
    intro x hx
    obtain ⟨p, hp, rfl⟩ := List.mem_map.1 hx
    exact up_byt (hb p hp)
  have hfl := flat_up ps
  obtain ⟨g, _⟩ := e216 (ps.map up) [(1779033703 : Int), (3144134277 : Int), (1013904242 : Int), (2773480762 : Int), (1359893119 : Int), (2600822924 : Int), (528734635 : Int), (1541459225 : Int)] rfl (by simp; omega) hbi (by rw [hfl, up_len]; omega)
  rw [hfl, up_len, pad_up _ (by omega), H0_up, run_up _ _ _ Cm.H0_wds (Cm.padN_bys hbf) (by rw [Cm.padN_len]; omega)] at g
  unfold f125
  rw [H0_up, g, bs, up_eq8, out_ok, bs, hds]
  unfold Cm.shaS
  rw [out4_up, out4_up, out4_up, out4_up, out4_up, out4_up, out4_up, out4_up]
  congr 1
end Go.Proofs.YtjabllhapfphoaaGreatDoor
