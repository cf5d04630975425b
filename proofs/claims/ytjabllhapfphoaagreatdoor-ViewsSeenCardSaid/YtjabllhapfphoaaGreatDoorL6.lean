/- The program's digest of parts is the reference's digest of the whole: the padding. No condition beyond what each theorem states. -/
import Derived.Test.YtjabllhapfphoaaGreatDoorL5
namespace Go.Proofs.YtjabllhapfphoaaGreatDoor
open Go.Abs

/-- a byte of the length in bits -/
def lb (n i : Nat) : Int := IntKind.u8.wrap (Int.fdiv (IntKind.u64.wrap ((n : Int) * 8)) (2 ^ (min (8 * i) 64)))
def tail8 (n : Nat) : List Int := [lb n 7, lb n 6, lb n 5, lb n 4, lb n 3, lb n 2, lb n 1, lb n 0]
def zeros (n : Nat) : Nat := (119 - n % 64) % 64
def pad (T : List Int) : List Int := T ++ ([128] ++ (List.replicate (zeros T.length) 0 ++ tail8 T.length))

theorem u8_byt (x : Int) : 0 ≤ IntKind.u8.wrap x ∧ IntKind.u8.wrap x < 256 := by
  simp only [IntKind.wrap, IntKind.bits, IntKind.signed]
  simp
  omega

theorem tail8_byt (n : Nat) : Byt (tail8 n) := by
  intro x hx
  simp only [tail8, List.mem_cons, List.not_mem_nil, or_false] at hx
  rcases hx with h | h | h | h | h | h | h | h <;> (rw [h]; exact u8_byt _)

theorem rep_byt (n : Nat) : Byt (List.replicate n 0) := by
  intro x hx
  have : x = 0 := List.eq_of_mem_replicate hx
  omega

theorem b128 : Byt [128] := by
  intro x hx
  have : x = 128 := by simpa using hx
  omega

theorem pad_byt {T : List Int} (h : Byt T) : Byt (pad T) := h.append (b128.append ((rep_byt _).append (tail8_byt _)))

theorem pad_len (T : List Int) : (pad T).length = 64 * ((T.length + 72) / 64) := by
  simp only [pad, List.length_append, List.length_cons, List.length_nil, List.length_replicate, tail8, zeros]
  omega

end Go.Proofs.YtjabllhapfphoaaGreatDoor
