/-
  No cell of these rows narrows 'for every input' (looked for: loops, veiled, ifaces, maps, wideKeys, modest, calm, conditions, laid).
  DERIVED. THE GIVEN ROWS OF THIS SEAT. 4 by the template 'for every input the law returns true; each argument reads behind the call as it read before'; 0 by the template 'total and deterministic' (their statements: YtpmlkhjpbjnagaaGreatTotals.lean).
  GIVEN WITH THE SEED: the statements are not yours to turn. If you find one false, say at which input.
  Laid BY PROGRAM, IN A SANDBOX (cutbox-rows.mjs): the forced cells as the released guide's own fill.sh prints them over the translation 7a12512d8a864e82… (all of the seat's roots in one cut). By AI agents, Wed Nov 11 2026. No macro, syntax, notation, axiom, sorry.
-/
import Derived.Test.YtpmlkhjpbjnagaaGreatChecked
import GoSem.Claim
import GoSem.ClaimJoined
import GoSem.ClaimMapViews
import Derived.JoinedTies
import Derived.KernelRfl
namespace Go.Proofs.YtpmlkhjpbjnagaaGreat
/- THE CELL 'sum', in the pinned program and in every row, IS THE sha256 OF THE DUMP (.gsa) THAT YtpmlkhjpbjnagaaGreatProg.lean LOADS. Nothing in Lean hashes anything: it is a label: what it is worth is what the hold of that sum in a sandbox is worth. -/
noncomputable def Tryz.pinned : Pinned := { name := "ytpmlkhjpbjnagaagreat", sum := "7a12512d8a864e8223e81ebd06821c89b736f3f8ced577242c52ad99622f1cae", checked := Tryz.checked }
namespace Rows
def none {H : Type} : Left H := { results := [], args := [] }

/-- 'testamurlaw40.ReissueNever': WHATEVER THE INPUT: true; the input reads as it did. -/
def reissueNeverSpec : ChangeSpec := { name := "reissueNever", fn := fun _ => fun
  | [d1, d2, d3, d4, d5] => { results := [.lit (.bool true)], args := [d1, d2, d3, d4, d5] }
  | _ => none }
def reissueNeverRow : OpenClaim := { program := "ytpmlkhjpbjnagaagreat", sum := "7a12512d8a864e8223e81ebd06821c89b736f3f8ced577242c52ad99622f1cae", func := "testamur/testamurlaw40.ReissueNever", spec := "reissueNever", unfollowed := true, recurses := true, plainKeys := false, apart := false }
def ReissueNeverSaid : Prop := reissueNeverRow.holds Tryz.pinned (OpenSpec.ofChange reissueNeverSpec)

/-- ITS FALSE NEIGHBOUR: 'it returns false'. Refute it at one input. -/
def reissueNeverWrong : ChangeSpec := { name := "reissueNever", fn := fun _ => fun
  | [d1, d2, d3, d4, d5] => { results := [.lit (.bool false)], args := [d1, d2, d3, d4, d5] }
  | _ => none }
def ReissueNeverWrongFalsely : Prop := reissueNeverRow.holds Tryz.pinned (OpenSpec.ofChange reissueNeverWrong)

/-- 'testamurlaw40.ReissueChecked': WHATEVER THE INPUT: true; the input reads as it did. -/
def reissueCheckedSpec : ChangeSpec := { name := "reissueChecked", fn := fun _ => fun
  | [d1, d2, d3, d4, d5, d6] => { results := [.lit (.bool true)], args := [d1, d2, d3, d4, d5, d6] }
  | _ => none }
def reissueCheckedRow : OpenClaim := { program := "ytpmlkhjpbjnagaagreat", sum := "7a12512d8a864e8223e81ebd06821c89b736f3f8ced577242c52ad99622f1cae", func := "testamur/testamurlaw40.ReissueChecked", spec := "reissueChecked", unfollowed := true, recurses := true, plainKeys := false, apart := false }
def ReissueCheckedSaid : Prop := reissueCheckedRow.holds Tryz.pinned (OpenSpec.ofChange reissueCheckedSpec)

/-- ITS FALSE NEIGHBOUR: 'it returns false'. Refute it at one input. -/
def reissueCheckedWrong : ChangeSpec := { name := "reissueChecked", fn := fun _ => fun
  | [d1, d2, d3, d4, d5, d6] => { results := [.lit (.bool false)], args := [d1, d2, d3, d4, d5, d6] }
  | _ => none }
def ReissueCheckedWrongFalsely : Prop := reissueCheckedRow.holds Tryz.pinned (OpenSpec.ofChange reissueCheckedWrong)

/-- 'testamurlaw40.ReissueOrder': WHATEVER THE INPUT: true; the input reads as it did. -/
def reissueOrderSpec : ChangeSpec := { name := "reissueOrder", fn := fun _ => fun
  | [d1, d2, d3, d4, d5, d6, d7] => { results := [.lit (.bool true)], args := [d1, d2, d3, d4, d5, d6, d7] }
  | _ => none }
def reissueOrderRow : OpenClaim := { program := "ytpmlkhjpbjnagaagreat", sum := "7a12512d8a864e8223e81ebd06821c89b736f3f8ced577242c52ad99622f1cae", func := "testamur/testamurlaw40.ReissueOrder", spec := "reissueOrder", unfollowed := true, recurses := true, plainKeys := false, apart := false }
def ReissueOrderSaid : Prop := reissueOrderRow.holds Tryz.pinned (OpenSpec.ofChange reissueOrderSpec)

/-- ITS FALSE NEIGHBOUR: 'it returns false'. Refute it at one input. -/
def reissueOrderWrong : ChangeSpec := { name := "reissueOrder", fn := fun _ => fun
  | [d1, d2, d3, d4, d5, d6, d7] => { results := [.lit (.bool false)], args := [d1, d2, d3, d4, d5, d6, d7] }
  | _ => none }
def ReissueOrderWrongFalsely : Prop := reissueOrderRow.holds Tryz.pinned (OpenSpec.ofChange reissueOrderWrong)

/-- 'testamurlaw40.ReissueNothing': WHATEVER THE INPUT: true; the input reads as it did. -/
def reissueNothingSpec : ChangeSpec := { name := "reissueNothing", fn := fun _ => fun
  | [d1, d2, d3, d4, d5] => { results := [.lit (.bool true)], args := [d1, d2, d3, d4, d5] }
  | _ => none }
def reissueNothingRow : OpenClaim := { program := "ytpmlkhjpbjnagaagreat", sum := "7a12512d8a864e8223e81ebd06821c89b736f3f8ced577242c52ad99622f1cae", func := "testamur/testamurlaw40.ReissueNothing", spec := "reissueNothing", unfollowed := true, recurses := true, plainKeys := false, apart := false }
def ReissueNothingSaid : Prop := reissueNothingRow.holds Tryz.pinned (OpenSpec.ofChange reissueNothingSpec)

/-- ITS FALSE NEIGHBOUR: 'it returns false'. Refute it at one input. -/
def reissueNothingWrong : ChangeSpec := { name := "reissueNothing", fn := fun _ => fun
  | [d1, d2, d3, d4, d5] => { results := [.lit (.bool false)], args := [d1, d2, d3, d4, d5] }
  | _ => none }
def ReissueNothingWrongFalsely : Prop := reissueNothingRow.holds Tryz.pinned (OpenSpec.ofChange reissueNothingWrong)

/- THE SECOND FORM. 'bulk': how many values and letters a reading holds, each counted each time it is reached (what is shared counts as often as it is met; a slice's spare places count too). A statement '..UptoSaid' is the law's where the arguments, and the package variables that the reading takes, are together of bulk at most 1048576: NARROWER than '..Said'. Prove '..Said' where nothing that the law and all that it calls make is longer than what came in: it says more and counts as full. Else prove '..UptoSaid'. A law counts once. -/
mutual
def uptoBulk {H : Type} : DataW H → Nat
  | .lit (.string bytes) => bytes.length + 1
  | .lit _ => 1
  | .nil => 1
  | .ptr d => uptoBulk d + 1
  | .slice elems spare => uptoBulkAll elems + uptoBulkAll spare + 1
  | .agg parts => uptoBulkAll parts + 1
  | .iface _ d => uptoBulk d + 1
  | .map entries => uptoBulkEntries entries + 1
  | .held _ => 1
def uptoBulkAll {H : Type} : List (DataW H) → Nat
  | [] => 0
  | d :: r => uptoBulk d + uptoBulkAll r
def uptoBulkEntries {H : Type} : List (Lit × DataW H) → Nat
  | [] => 0
  | x :: r => uptoBulkEntry x + uptoBulkEntries r
def uptoBulkEntry {H : Type} : Lit × DataW H → Nat
  | (.string bytes, d) => bytes.length + uptoBulk d + 1
  | (_, d) => uptoBulk d + 1
 end
def uptoSmall : (H : Type) → List (DataW H) → Bool := fun _ ds => decide (uptoBulkAll ds ≤ 1048576)
def OpenSpec.upto (s : _root_.Go.ChangeSpec) : _root_.Go.OpenSpec := { _root_.Go.OpenSpec.ofChange s with cond := some uptoSmall }

/-- 'testamurlaw40.ReissueNever', WHERE WHAT IT READS IS OF BULK AT MOST 1048576: true; the input reads as it did. -/
def reissueNeverUptoRow : OpenClaim := { program := "ytpmlkhjpbjnagaagreat", sum := "7a12512d8a864e8223e81ebd06821c89b736f3f8ced577242c52ad99622f1cae", func := "testamur/testamurlaw40.ReissueNever", spec := "reissueNever", unfollowed := true, recurses := true, plainKeys := false, apart := false, narrowed := true }
def ReissueNeverUptoSaid : Prop := reissueNeverUptoRow.holds Tryz.pinned (OpenSpec.upto reissueNeverSpec)

/-- 'testamurlaw40.ReissueChecked', WHERE WHAT IT READS IS OF BULK AT MOST 1048576: true; the input reads as it did. -/
def reissueCheckedUptoRow : OpenClaim := { program := "ytpmlkhjpbjnagaagreat", sum := "7a12512d8a864e8223e81ebd06821c89b736f3f8ced577242c52ad99622f1cae", func := "testamur/testamurlaw40.ReissueChecked", spec := "reissueChecked", unfollowed := true, recurses := true, plainKeys := false, apart := false, narrowed := true }
def ReissueCheckedUptoSaid : Prop := reissueCheckedUptoRow.holds Tryz.pinned (OpenSpec.upto reissueCheckedSpec)

/-- 'testamurlaw40.ReissueOrder', WHERE WHAT IT READS IS OF BULK AT MOST 1048576: true; the input reads as it did. -/
def reissueOrderUptoRow : OpenClaim := { program := "ytpmlkhjpbjnagaagreat", sum := "7a12512d8a864e8223e81ebd06821c89b736f3f8ced577242c52ad99622f1cae", func := "testamur/testamurlaw40.ReissueOrder", spec := "reissueOrder", unfollowed := true, recurses := true, plainKeys := false, apart := false, narrowed := true }
def ReissueOrderUptoSaid : Prop := reissueOrderUptoRow.holds Tryz.pinned (OpenSpec.upto reissueOrderSpec)

/-- 'testamurlaw40.ReissueNothing', WHERE WHAT IT READS IS OF BULK AT MOST 1048576: true; the input reads as it did. -/
def reissueNothingUptoRow : OpenClaim := { program := "ytpmlkhjpbjnagaagreat", sum := "7a12512d8a864e8223e81ebd06821c89b736f3f8ced577242c52ad99622f1cae", func := "testamur/testamurlaw40.ReissueNothing", spec := "reissueNothing", unfollowed := true, recurses := true, plainKeys := false, apart := false, narrowed := true }
def ReissueNothingUptoSaid : Prop := reissueNothingUptoRow.holds Tryz.pinned (OpenSpec.upto reissueNothingSpec)

end Rows
end Go.Proofs.YtpmlkhjpbjnagaaGreat
