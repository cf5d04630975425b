/-
  No cell of these rows narrows 'for every input' (looked for: loops, veiled, ifaces, maps, wideKeys, modest, calm, conditions, laid).
  DERIVED. THE GIVEN ROWS OF THIS SEAT. 3 by the template 'for every input the law returns true; each argument reads behind the call as it read before'; 0 by the template 'total and deterministic' (their statements: YtgdcjlldafmomaaGreatTotals.lean).
  GIVEN WITH THE SEED: the statements are not yours to turn. If you find one false, say at which input.
  Laid BY PROGRAM, IN A SANDBOX (cutbox-rows.mjs): the forced cells as the released guide's own fill.sh prints them over the translation ce5061af5d3d6e97… (all of the seat's roots in one cut). By AI agents, Wed Nov 11 2026. No macro, syntax, notation, axiom, sorry.
-/
import Derived.Test.YtgdcjlldafmomaaGreatChecked
import GoSem.Claim
import GoSem.ClaimJoined
import GoSem.ClaimMapViews
import Derived.JoinedTies
import Derived.KernelRfl
namespace Go.Proofs.YtgdcjlldafmomaaGreat
/- THE CELL 'sum', in the pinned program and in every row, IS THE sha256 OF THE DUMP (.gsa) THAT YtgdcjlldafmomaaGreatProg.lean LOADS. Nothing in Lean hashes anything: it is a label: what it is worth is what the hold of that sum in a sandbox is worth. -/
noncomputable def Tryz.pinned : Pinned := { name := "ytgdcjlldafmomaagreat", sum := "ce5061af5d3d6e97b519a45f86205107b06554ee4d75d2f2ac03ecda9a08c265", checked := Tryz.checked }
namespace Rows
def none {H : Type} : Left H := { results := [], args := [] }

/-- 'testamurlaw39.AmendAlike': WHATEVER THE INPUT: true; the input reads as it did. -/
def amendAlikeSpec : ChangeSpec := { name := "amendAlike", fn := fun _ => fun
  | [d1, d2, d3, d4] => { results := [.lit (.bool true)], args := [d1, d2, d3, d4] }
  | _ => none }
def amendAlikeRow : OpenClaim := { program := "ytgdcjlldafmomaagreat", sum := "ce5061af5d3d6e97b519a45f86205107b06554ee4d75d2f2ac03ecda9a08c265", func := "testamur/testamurlaw39.AmendAlike", spec := "amendAlike", unfollowed := true, recurses := true, plainKeys := false, apart := false }
def AmendAlikeSaid : Prop := amendAlikeRow.holds Tryz.pinned (OpenSpec.ofChange amendAlikeSpec)

/-- ITS FALSE NEIGHBOUR: 'it returns false'. Refute it at one input. -/
def amendAlikeWrong : ChangeSpec := { name := "amendAlike", fn := fun _ => fun
  | [d1, d2, d3, d4] => { results := [.lit (.bool false)], args := [d1, d2, d3, d4] }
  | _ => none }
def AmendAlikeWrongFalsely : Prop := amendAlikeRow.holds Tryz.pinned (OpenSpec.ofChange amendAlikeWrong)

/-- 'testamurlaw39.AmendTouched': WHATEVER THE INPUT: true; the input reads as it did. -/
def amendTouchedSpec : ChangeSpec := { name := "amendTouched", fn := fun _ => fun
  | [d1, d2, d3, d4, d5, d6, d7] => { results := [.lit (.bool true)], args := [d1, d2, d3, d4, d5, d6, d7] }
  | _ => none }
def amendTouchedRow : OpenClaim := { program := "ytgdcjlldafmomaagreat", sum := "ce5061af5d3d6e97b519a45f86205107b06554ee4d75d2f2ac03ecda9a08c265", func := "testamur/testamurlaw39.AmendTouched", spec := "amendTouched", unfollowed := true, recurses := true, plainKeys := false, apart := false }
def AmendTouchedSaid : Prop := amendTouchedRow.holds Tryz.pinned (OpenSpec.ofChange amendTouchedSpec)

/-- ITS FALSE NEIGHBOUR: 'it returns false'. Refute it at one input. -/
def amendTouchedWrong : ChangeSpec := { name := "amendTouched", fn := fun _ => fun
  | [d1, d2, d3, d4, d5, d6, d7] => { results := [.lit (.bool false)], args := [d1, d2, d3, d4, d5, d6, d7] }
  | _ => none }
def AmendTouchedWrongFalsely : Prop := amendTouchedRow.holds Tryz.pinned (OpenSpec.ofChange amendTouchedWrong)

/-- 'testamurlaw39.AmendOnly': WHATEVER THE INPUT: true; the input reads as it did. -/
def amendOnlySpec : ChangeSpec := { name := "amendOnly", fn := fun _ => fun
  | [d1, d2, d3, d4] => { results := [.lit (.bool true)], args := [d1, d2, d3, d4] }
  | _ => none }
def amendOnlyRow : OpenClaim := { program := "ytgdcjlldafmomaagreat", sum := "ce5061af5d3d6e97b519a45f86205107b06554ee4d75d2f2ac03ecda9a08c265", func := "testamur/testamurlaw39.AmendOnly", spec := "amendOnly", unfollowed := true, recurses := true, plainKeys := false, apart := false }
def AmendOnlySaid : Prop := amendOnlyRow.holds Tryz.pinned (OpenSpec.ofChange amendOnlySpec)

/-- ITS FALSE NEIGHBOUR: 'it returns false'. Refute it at one input. -/
def amendOnlyWrong : ChangeSpec := { name := "amendOnly", fn := fun _ => fun
  | [d1, d2, d3, d4] => { results := [.lit (.bool false)], args := [d1, d2, d3, d4] }
  | _ => none }
def AmendOnlyWrongFalsely : Prop := amendOnlyRow.holds Tryz.pinned (OpenSpec.ofChange amendOnlyWrong)

/- THE SECOND FORM. 'bulk': how many values and letters a reading holds, each counted each time it is reached (what is shared counts as often as it is met; a slice's spare places count too). A statement '..UptoSaid' is the law's where the arguments, and the package variables that the reading takes, are together of bulk at most 1048576: NARROWER than '..Said'. Prove '..Said' where nothing that the law and all that it calls make is longer than what came in: it says more and counts as full. Else prove '..UptoSaid'. A law counts once. -/
mutual
def uptoBulk {H : Type} : DataW H → Nat
  | .lit (.string bytes) => bytes.length + 1
  | .lit _ => 1
  | .nil => 1
  | .ptr d => uptoBulk d + 1
  | .slice elems spare => uptoBulkAll elems + uptoBulkAll spare + 1
  | .agg parts => uptoBulkAll parts + 1
  | .iface _ d => uptoBulk d + 1
  | .map entries => uptoBulkEntries entries + 1
  | .held _ => 1
def uptoBulkAll {H : Type} : List (DataW H) → Nat
  | [] => 0
  | d :: r => uptoBulk d + uptoBulkAll r
def uptoBulkEntries {H : Type} : List (Lit × DataW H) → Nat
  | [] => 0
  | x :: r => uptoBulkEntry x + uptoBulkEntries r
def uptoBulkEntry {H : Type} : Lit × DataW H → Nat
  | (.string bytes, d) => bytes.length + uptoBulk d + 1
  | (_, d) => uptoBulk d + 1
 end
def uptoSmall : (H : Type) → List (DataW H) → Bool := fun _ ds => decide (uptoBulkAll ds ≤ 1048576)
def OpenSpec.upto (s : _root_.Go.ChangeSpec) : _root_.Go.OpenSpec := { _root_.Go.OpenSpec.ofChange s with cond := some uptoSmall }

/-- 'testamurlaw39.AmendAlike', WHERE WHAT IT READS IS OF BULK AT MOST 1048576: true; the input reads as it did. -/
def amendAlikeUptoRow : OpenClaim := { program := "ytgdcjlldafmomaagreat", sum := "ce5061af5d3d6e97b519a45f86205107b06554ee4d75d2f2ac03ecda9a08c265", func := "testamur/testamurlaw39.AmendAlike", spec := "amendAlike", unfollowed := true, recurses := true, plainKeys := false, apart := false, narrowed := true }
def AmendAlikeUptoSaid : Prop := amendAlikeUptoRow.holds Tryz.pinned (OpenSpec.upto amendAlikeSpec)

/-- 'testamurlaw39.AmendTouched', WHERE WHAT IT READS IS OF BULK AT MOST 1048576: true; the input reads as it did. -/
def amendTouchedUptoRow : OpenClaim := { program := "ytgdcjlldafmomaagreat", sum := "ce5061af5d3d6e97b519a45f86205107b06554ee4d75d2f2ac03ecda9a08c265", func := "testamur/testamurlaw39.AmendTouched", spec := "amendTouched", unfollowed := true, recurses := true, plainKeys := false, apart := false, narrowed := true }
def AmendTouchedUptoSaid : Prop := amendTouchedUptoRow.holds Tryz.pinned (OpenSpec.upto amendTouchedSpec)

/-- 'testamurlaw39.AmendOnly', WHERE WHAT IT READS IS OF BULK AT MOST 1048576: true; the input reads as it did. -/
def amendOnlyUptoRow : OpenClaim := { program := "ytgdcjlldafmomaagreat", sum := "ce5061af5d3d6e97b519a45f86205107b06554ee4d75d2f2ac03ecda9a08c265", func := "testamur/testamurlaw39.AmendOnly", spec := "amendOnly", unfollowed := true, recurses := true, plainKeys := false, apart := false, narrowed := true }
def AmendOnlyUptoSaid : Prop := amendOnlyUptoRow.holds Tryz.pinned (OpenSpec.upto amendOnlySpec)

end Rows
end Go.Proofs.YtgdcjlldafmomaaGreat
