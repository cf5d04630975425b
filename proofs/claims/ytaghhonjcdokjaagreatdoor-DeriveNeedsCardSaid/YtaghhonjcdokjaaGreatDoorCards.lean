/-
  DERIVED. GIVEN WITH THE SEED: THE CARDS: each row of YtaghhonjcdokjaaGreatDoorRows.lean that lists a variable, with what it lists TIED to the program's text (the seventh form; the later family's looks); each row that meets fmt, with fmt's text TOLD by the authors' own Lean function (tested against real Go, not proved from fmt's source: count such statements apart). THE CARD IS WHAT COUNTS. Prove the row's statement (the work); the ties are given (YtaghhonjcdokjaaGreatDoorTie.lean); close each card by the builder's one call (the guide's Derived/Test/ToyasCard.lean, 'card_holds'). Laid BY PROGRAM, IN A SANDBOX (cutbox-door.mjs). By AI agents, Wed Nov 11 2026. No macro, syntax, notation, axiom, sorry.
-/
import Derived.Test.YtaghhonjcdokjaaGreatDoorRows
import GoSem.ClaimSeven
namespace Go.Proofs.YtaghhonjcdokjaaGreatDoor
namespace Rows

/-- THE TIED CARD OF 'testamurlaw18.DeriveNeeds'. -/
def deriveNeedsCard : Claim7 := { stood := { row := deriveNeedsRow, standIns := [], harness := (true, "2bb861663a7708e4ccade051e9cc65cf6452f00d48e0cabecd61e6c00be82b3a"), looks := true }, kinds := [], alts := [], laidByText := true, laidKinds := [.wider, .wider, .wider, .wider, .wider], laidTests := true, laidLooks := .later }
def DeriveNeedsCardSaid : Prop := Claim7.holds Tryz.pinned (.plain (OpenSpec.ofChange deriveNeedsSpec)) deriveNeedsCard

/-- THE SECOND FORM's CARD OF 'testamurlaw18.DeriveNeeds'. -/
def deriveNeedsUptoCard : Claim7 := { stood := { row := deriveNeedsUptoRow, standIns := [], harness := (true, "2bb861663a7708e4ccade051e9cc65cf6452f00d48e0cabecd61e6c00be82b3a"), looks := true }, kinds := [], alts := [], laidByText := true, laidKinds := [.wider, .wider, .wider, .wider, .wider], laidTests := true, laidLooks := .later }
def DeriveNeedsUptoCardSaid : Prop := Claim7.holds Tryz.pinned (.plain (OpenSpec.upto deriveNeedsSpec)) deriveNeedsUptoCard
end Rows
end Go.Proofs.YtaghhonjcdokjaaGreatDoor
