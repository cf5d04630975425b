/-
  NARROWER THAN 'FOR EVERY INPUT', by the rows' own cells (each row's printed sentence says how): DeriveSound: laid · DeriveComplete: laid · DerivePast: laid · DeriveReads: laid.
  DERIVED. THE GIVEN ROWS OF THIS SEAT. 4 by the template 'for every input the law returns true; each argument reads behind the call as it read before'; 0 by the template 'total and deterministic' (their statements: YtkhfnbfpgcjllaaGreatDoorTotals.lean).
  GIVEN WITH THE SEED: the statements are not yours to turn. If you find one false, say at which input.
  Laid BY PROGRAM, IN A SANDBOX (cutbox-rows.mjs): the forced cells as the released guide's own fill.sh prints them over the translation 4516ad57aa06cd31… (all of the seat's roots in one cut). By AI agents, Wed Nov 11 2026. No macro, syntax, notation, axiom, sorry.
-/
import Derived.Test.YtkhfnbfpgcjllaaGreatDoorChecked
import GoSem.Claim
import GoSem.ClaimJoined
import GoSem.ClaimMapViews
import Derived.JoinedTies
import Derived.KernelRfl
namespace Go.Proofs.YtkhfnbfpgcjllaaGreatDoor
/- THE CELL 'sum', in the pinned program and in every row, IS THE sha256 OF THE DUMP (.gsa) THAT YtkhfnbfpgcjllaaGreatDoorProg.lean LOADS. Nothing in Lean hashes anything: it is a label: what it is worth is what the hold of that sum in a sandbox is worth. -/
noncomputable def Tryz.pinned : Pinned := { name := "ytkhfnbfpgcjllaagreatdoor", sum := "4516ad57aa06cd316f68787401c74121903c4b0ea53d4790e89f811d874b991f", checked := Tryz.checked }
namespace Rows
def none {H : Type} : Left H := { results := [], args := [] }

/- WHAT THE LISTED PACKAGE-LEVEL VARIABLES READ AS WHEN THE CALL BEGINS. Each datum BY PROGRAM (the guide's laid-datum.mjs) off the statement by which the dump's own 'gosem.cut.vars' lays the variable. In a bare row this is a premise. The card (YtkhfnbfpgcjllaaGreatDoorCards.lean) ties it to the program's text. -/
def laid_testamur_syntax_anyNumber {H : Type} : DataW H := .agg [.lit (.int .i64 0), .lit (.int .i64 1048576)]
def laid_testamur_syntax_factors {H : Type} : DataW H := .agg [.lit (.int .i64 2), .lit (.int .i64 1000)]
def laid_testamur_syntax_editions {H : Type} : DataW H := .agg [.lit (.int .i64 1), .lit (.int .i64 255)]
def laid_testamur_syntax_weights {H : Type} : DataW H := .agg [.lit (.int .i64 0), .lit (.int .i64 9)]
def laid_testamur_syntax_mosts {H : Type} : DataW H := .agg [.lit (.int .i64 0), .lit (.int .i64 32)]

/-- 'testamurlaw18.DeriveSound': WHATEVER THE INPUT: true; the input reads as it did. -/
def deriveSoundSpec : ChangeSpec := { name := "deriveSound", fn := fun _ => fun
  | [d1, d2, d3, d4, d5] => { results := [.lit (.bool true)], args := [d1, d2, d3, d4, d5] }
  | _ => none }
def deriveSoundRow : OpenClaim := { program := "ytkhfnbfpgcjllaagreatdoor", sum := "4516ad57aa06cd316f68787401c74121903c4b0ea53d4790e89f811d874b991f", func := "testamur/testamurlaw18.DeriveSound", spec := "deriveSound", unfollowed := true, recurses := true, named := ["testamur/syntax.factors", "testamur/syntax.editions", "testamur/syntax.weights", "testamur/syntax.anyNumber", "testamur/syntax.mosts"], plainKeys := false, apart := false, laid := [("testamur/syntax.anyNumber", laid_testamur_syntax_anyNumber), ("testamur/syntax.factors", laid_testamur_syntax_factors), ("testamur/syntax.editions", laid_testamur_syntax_editions), ("testamur/syntax.weights", laid_testamur_syntax_weights), ("testamur/syntax.mosts", laid_testamur_syntax_mosts)] }
def DeriveSoundSaid : Prop := deriveSoundRow.holds Tryz.pinned (OpenSpec.ofChange deriveSoundSpec)

/-- ITS FALSE NEIGHBOUR: 'it returns false'. Refute it at one input. -/
def deriveSoundWrong : ChangeSpec := { name := "deriveSound", fn := fun _ => fun
  | [d1, d2, d3, d4, d5] => { results := [.lit (.bool false)], args := [d1, d2, d3, d4, d5] }
  | _ => none }
def DeriveSoundWrongFalsely : Prop := deriveSoundRow.holds Tryz.pinned (OpenSpec.ofChange deriveSoundWrong)

/-- 'testamurlaw18.DeriveComplete': WHATEVER THE INPUT: true; the input reads as it did. -/
def deriveCompleteSpec : ChangeSpec := { name := "deriveComplete", fn := fun _ => fun
  | [d1, d2, d3, d4, d5, d6] => { results := [.lit (.bool true)], args := [d1, d2, d3, d4, d5, d6] }
  | _ => none }
def deriveCompleteRow : OpenClaim := { program := "ytkhfnbfpgcjllaagreatdoor", sum := "4516ad57aa06cd316f68787401c74121903c4b0ea53d4790e89f811d874b991f", func := "testamur/testamurlaw18.DeriveComplete", spec := "deriveComplete", unfollowed := true, recurses := true, named := ["testamur/syntax.factors", "testamur/syntax.editions", "testamur/syntax.weights", "testamur/syntax.anyNumber", "testamur/syntax.mosts"], plainKeys := false, apart := false, laid := [("testamur/syntax.anyNumber", laid_testamur_syntax_anyNumber), ("testamur/syntax.factors", laid_testamur_syntax_factors), ("testamur/syntax.editions", laid_testamur_syntax_editions), ("testamur/syntax.weights", laid_testamur_syntax_weights), ("testamur/syntax.mosts", laid_testamur_syntax_mosts)] }
def DeriveCompleteSaid : Prop := deriveCompleteRow.holds Tryz.pinned (OpenSpec.ofChange deriveCompleteSpec)

/-- ITS FALSE NEIGHBOUR: 'it returns false'. Refute it at one input. -/
def deriveCompleteWrong : ChangeSpec := { name := "deriveComplete", fn := fun _ => fun
  | [d1, d2, d3, d4, d5, d6] => { results := [.lit (.bool false)], args := [d1, d2, d3, d4, d5, d6] }
  | _ => none }
def DeriveCompleteWrongFalsely : Prop := deriveCompleteRow.holds Tryz.pinned (OpenSpec.ofChange deriveCompleteWrong)

/-- 'testamurlaw18.DerivePast': WHATEVER THE INPUT: true; the input reads as it did. -/
def derivePastSpec : ChangeSpec := { name := "derivePast", fn := fun _ => fun
  | [d1, d2, d3, d4] => { results := [.lit (.bool true)], args := [d1, d2, d3, d4] }
  | _ => none }
def derivePastRow : OpenClaim := { program := "ytkhfnbfpgcjllaagreatdoor", sum := "4516ad57aa06cd316f68787401c74121903c4b0ea53d4790e89f811d874b991f", func := "testamur/testamurlaw18.DerivePast", spec := "derivePast", unfollowed := true, recurses := true, named := ["testamur/syntax.factors", "testamur/syntax.editions", "testamur/syntax.weights", "testamur/syntax.anyNumber", "testamur/syntax.mosts"], plainKeys := false, apart := false, laid := [("testamur/syntax.anyNumber", laid_testamur_syntax_anyNumber), ("testamur/syntax.factors", laid_testamur_syntax_factors), ("testamur/syntax.editions", laid_testamur_syntax_editions), ("testamur/syntax.weights", laid_testamur_syntax_weights), ("testamur/syntax.mosts", laid_testamur_syntax_mosts)] }
def DerivePastSaid : Prop := derivePastRow.holds Tryz.pinned (OpenSpec.ofChange derivePastSpec)

/-- ITS FALSE NEIGHBOUR: 'it returns false'. Refute it at one input. -/
def derivePastWrong : ChangeSpec := { name := "derivePast", fn := fun _ => fun
  | [d1, d2, d3, d4] => { results := [.lit (.bool false)], args := [d1, d2, d3, d4] }
  | _ => none }
def DerivePastWrongFalsely : Prop := derivePastRow.holds Tryz.pinned (OpenSpec.ofChange derivePastWrong)

/-- 'testamurlaw18.DeriveReads': WHATEVER THE INPUT: true; the input reads as it did. -/
def deriveReadsSpec : ChangeSpec := { name := "deriveReads", fn := fun _ => fun
  | [d1, d2, d3, d4, d5, d6] => { results := [.lit (.bool true)], args := [d1, d2, d3, d4, d5, d6] }
  | _ => none }
def deriveReadsRow : OpenClaim := { program := "ytkhfnbfpgcjllaagreatdoor", sum := "4516ad57aa06cd316f68787401c74121903c4b0ea53d4790e89f811d874b991f", func := "testamur/testamurlaw18.DeriveReads", spec := "deriveReads", unfollowed := true, recurses := true, named := ["testamur/syntax.factors", "testamur/syntax.editions", "testamur/syntax.weights", "testamur/syntax.anyNumber", "testamur/syntax.mosts"], plainKeys := false, apart := false, laid := [("testamur/syntax.anyNumber", laid_testamur_syntax_anyNumber), ("testamur/syntax.factors", laid_testamur_syntax_factors), ("testamur/syntax.editions", laid_testamur_syntax_editions), ("testamur/syntax.weights", laid_testamur_syntax_weights), ("testamur/syntax.mosts", laid_testamur_syntax_mosts)] }
def DeriveReadsSaid : Prop := deriveReadsRow.holds Tryz.pinned (OpenSpec.ofChange deriveReadsSpec)

/-- ITS FALSE NEIGHBOUR: 'it returns false'. Refute it at one input. -/
def deriveReadsWrong : ChangeSpec := { name := "deriveReads", fn := fun _ => fun
  | [d1, d2, d3, d4, d5, d6] => { results := [.lit (.bool false)], args := [d1, d2, d3, d4, d5, d6] }
  | _ => none }
def DeriveReadsWrongFalsely : Prop := deriveReadsRow.holds Tryz.pinned (OpenSpec.ofChange deriveReadsWrong)

/- THE SECOND FORM. 'bulk': how many values and letters a reading holds, each counted each time it is reached (what is shared counts as often as it is met; a slice's spare places count too). A statement '..UptoSaid' is the law's where the arguments, and the package variables that the reading takes, are together of bulk at most 1048576: NARROWER than '..Said'. Prove '..Said' where nothing that the law and all that it calls make is longer than what came in: it says more and counts as full. Else prove '..UptoSaid'. A law counts once. -/
mutual
def uptoBulk {H : Type} : DataW H → Nat
  | .lit (.string bytes) => bytes.length + 1
  | .lit _ => 1
  | .nil => 1
  | .ptr d => uptoBulk d + 1
  | .slice elems spare => uptoBulkAll elems + uptoBulkAll spare + 1
  | .agg parts => uptoBulkAll parts + 1
  | .iface _ d => uptoBulk d + 1
  | .map entries => uptoBulkEntries entries + 1
  | .held _ => 1
def uptoBulkAll {H : Type} : List (DataW H) → Nat
  | [] => 0
  | d :: r => uptoBulk d + uptoBulkAll r
def uptoBulkEntries {H : Type} : List (Lit × DataW H) → Nat
  | [] => 0
  | x :: r => uptoBulkEntry x + uptoBulkEntries r
def uptoBulkEntry {H : Type} : Lit × DataW H → Nat
  | (.string bytes, d) => bytes.length + uptoBulk d + 1
  | (_, d) => uptoBulk d + 1
 end
def uptoSmall : (H : Type) → List (DataW H) → Bool := fun _ ds => decide (uptoBulkAll ds ≤ 1048576)
def OpenSpec.upto (s : _root_.Go.ChangeSpec) : _root_.Go.OpenSpec := { _root_.Go.OpenSpec.ofChange s with cond := some uptoSmall }

/-- 'testamurlaw18.DeriveSound', WHERE WHAT IT READS IS OF BULK AT MOST 1048576: true; the input reads as it did. -/
def deriveSoundUptoRow : OpenClaim := { program := "ytkhfnbfpgcjllaagreatdoor", sum := "4516ad57aa06cd316f68787401c74121903c4b0ea53d4790e89f811d874b991f", func := "testamur/testamurlaw18.DeriveSound", spec := "deriveSound", unfollowed := true, recurses := true, named := ["testamur/syntax.factors", "testamur/syntax.editions", "testamur/syntax.weights", "testamur/syntax.anyNumber", "testamur/syntax.mosts"], plainKeys := false, apart := false, laid := [("testamur/syntax.anyNumber", laid_testamur_syntax_anyNumber), ("testamur/syntax.factors", laid_testamur_syntax_factors), ("testamur/syntax.editions", laid_testamur_syntax_editions), ("testamur/syntax.weights", laid_testamur_syntax_weights), ("testamur/syntax.mosts", laid_testamur_syntax_mosts)], narrowed := true }
def DeriveSoundUptoSaid : Prop := deriveSoundUptoRow.holds Tryz.pinned (OpenSpec.upto deriveSoundSpec)

/-- 'testamurlaw18.DeriveComplete', WHERE WHAT IT READS IS OF BULK AT MOST 1048576: true; the input reads as it did. -/
def deriveCompleteUptoRow : OpenClaim := { program := "ytkhfnbfpgcjllaagreatdoor", sum := "4516ad57aa06cd316f68787401c74121903c4b0ea53d4790e89f811d874b991f", func := "testamur/testamurlaw18.DeriveComplete", spec := "deriveComplete", unfollowed := true, recurses := true, named := ["testamur/syntax.factors", "testamur/syntax.editions", "testamur/syntax.weights", "testamur/syntax.anyNumber", "testamur/syntax.mosts"], plainKeys := false, apart := false, laid := [("testamur/syntax.anyNumber", laid_testamur_syntax_anyNumber), ("testamur/syntax.factors", laid_testamur_syntax_factors), ("testamur/syntax.editions", laid_testamur_syntax_editions), ("testamur/syntax.weights", laid_testamur_syntax_weights), ("testamur/syntax.mosts", laid_testamur_syntax_mosts)], narrowed := true }
def DeriveCompleteUptoSaid : Prop := deriveCompleteUptoRow.holds Tryz.pinned (OpenSpec.upto deriveCompleteSpec)

/-- 'testamurlaw18.DerivePast', WHERE WHAT IT READS IS OF BULK AT MOST 1048576: true; the input reads as it did. -/
def derivePastUptoRow : OpenClaim := { program := "ytkhfnbfpgcjllaagreatdoor", sum := "4516ad57aa06cd316f68787401c74121903c4b0ea53d4790e89f811d874b991f", func := "testamur/testamurlaw18.DerivePast", spec := "derivePast", unfollowed := true, recurses := true, named := ["testamur/syntax.factors", "testamur/syntax.editions", "testamur/syntax.weights", "testamur/syntax.anyNumber", "testamur/syntax.mosts"], plainKeys := false, apart := false, laid := [("testamur/syntax.anyNumber", laid_testamur_syntax_anyNumber), ("testamur/syntax.factors", laid_testamur_syntax_factors), ("testamur/syntax.editions", laid_testamur_syntax_editions), ("testamur/syntax.weights", laid_testamur_syntax_weights), ("testamur/syntax.mosts", laid_testamur_syntax_mosts)], narrowed := true }
def DerivePastUptoSaid : Prop := derivePastUptoRow.holds Tryz.pinned (OpenSpec.upto derivePastSpec)

/-- 'testamurlaw18.DeriveReads', WHERE WHAT IT READS IS OF BULK AT MOST 1048576: true; the input reads as it did. -/
def deriveReadsUptoRow : OpenClaim := { program := "ytkhfnbfpgcjllaagreatdoor", sum := "4516ad57aa06cd316f68787401c74121903c4b0ea53d4790e89f811d874b991f", func := "testamur/testamurlaw18.DeriveReads", spec := "deriveReads", unfollowed := true, recurses := true, named := ["testamur/syntax.factors", "testamur/syntax.editions", "testamur/syntax.weights", "testamur/syntax.anyNumber", "testamur/syntax.mosts"], plainKeys := false, apart := false, laid := [("testamur/syntax.anyNumber", laid_testamur_syntax_anyNumber), ("testamur/syntax.factors", laid_testamur_syntax_factors), ("testamur/syntax.editions", laid_testamur_syntax_editions), ("testamur/syntax.weights", laid_testamur_syntax_weights), ("testamur/syntax.mosts", laid_testamur_syntax_mosts)], narrowed := true }
def DeriveReadsUptoSaid : Prop := deriveReadsUptoRow.holds Tryz.pinned (OpenSpec.upto deriveReadsSpec)

end Rows
end Go.Proofs.YtkhfnbfpgcjllaaGreatDoor
