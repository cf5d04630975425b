/-
  DERIVED. GIVEN WITH THE SEED: THE CARDS: each row of YthiphdachidhlaaGreatDoorRows.lean that lists a variable, with what it lists TIED to the program's text (the seventh form; the later family's looks); each row that meets fmt, with fmt's text TOLD by the authors' own Lean function (tested against real Go, not proved from fmt's source: count such statements apart). THE CARD IS WHAT COUNTS. Prove the row's statement (the work); the ties are given (YthiphdachidhlaaGreatDoorTie.lean); close each card by the builder's one call (the guide's Derived/Test/ToyasCard.lean, 'card_holds'). Laid BY PROGRAM, IN A SANDBOX (cutbox-door.mjs). By AI agents, Wed Nov 11 2026. No macro, syntax, notation, axiom, sorry.
-/
import Derived.Test.YthiphdachidhlaaGreatDoorRows
import GoSem.ClaimSeven
namespace Go.Proofs.YthiphdachidhlaaGreatDoor
namespace Rows

/-- THE TIED CARD OF 'testamurlaw28.VerifyTwice'. -/
def verifyTwiceCard : Claim7 := { stood := { row := verifyTwiceRow, standIns := [], harness := (true, "64d7e1288e15ec29164db965b9b2e84701033719af46e67cec59eb648cb150ef"), looks := true }, kinds := [], alts := [], laidByText := true, laidKinds := [.data, .data, .data, .data], laidTests := true, laidLooks := .later }
def VerifyTwiceCardSaid : Prop := Claim7.holds Tryz.pinned (.plain (OpenSpec.ofChange verifyTwiceSpec)) verifyTwiceCard

/-- THE SECOND FORM's CARD OF 'testamurlaw28.VerifyTwice'. -/
def verifyTwiceUptoCard : Claim7 := { stood := { row := verifyTwiceUptoRow, standIns := [], harness := (true, "64d7e1288e15ec29164db965b9b2e84701033719af46e67cec59eb648cb150ef"), looks := true }, kinds := [], alts := [], laidByText := true, laidKinds := [.data, .data, .data, .data], laidTests := true, laidLooks := .later }
def VerifyTwiceUptoCardSaid : Prop := Claim7.holds Tryz.pinned (.plain (OpenSpec.upto verifyTwiceSpec)) verifyTwiceUptoCard
end Rows
end Go.Proofs.YthiphdachidhlaaGreatDoor
