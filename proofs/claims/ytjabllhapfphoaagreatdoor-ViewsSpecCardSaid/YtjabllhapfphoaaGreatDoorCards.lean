/-
  DERIVED. GIVEN WITH THE SEED: THE CARDS: each row of YtjabllhapfphoaaGreatDoorRows.lean that lists a variable, with what it lists TIED to the program's text (the seventh form; the later family's looks); each row that meets fmt, with fmt's text TOLD by the authors' own Lean function (tested against real Go, not proved from fmt's source: count such statements apart). THE CARD IS WHAT COUNTS. Prove the row's statement (the work); the ties are given (YtjabllhapfphoaaGreatDoorTie.lean); close each card by the builder's one call (the guide's Derived/Test/ToyasCard.lean, 'card_holds'). Laid BY PROGRAM, IN A SANDBOX (cutbox-door.mjs). By AI agents, Wed Nov 11 2026. No macro, syntax, notation, axiom, sorry.
-/
import Derived.Test.YtjabllhapfphoaaGreatDoorRows
import GoSem.ClaimSeven
namespace Go.Proofs.YtjabllhapfphoaaGreatDoor
namespace Rows

/-- THE TIED CARD OF 'testamurlaw29.ViewsSpec'. -/
def viewsSpecCard : Claim7 := { stood := { row := viewsSpecRow, standIns := [], harness := (true, "866f41f685850eb2b2559435ce21d1d6e6beaa86a308c44516c8e15c356578d2"), looks := true }, kinds := [], alts := [], laidByText := true, laidKinds := [.data, .wider, .wider, .wider, .wider, .wider], laidTests := true, laidLooks := .later }
def ViewsSpecCardSaid : Prop := Claim7.holds Tryz.pinned (.plain (OpenSpec.ofChange viewsSpecSpec)) viewsSpecCard

/-- THE TIED CARD OF 'testamurlaw29.ViewsSeen'. -/
def viewsSeenCard : Claim7 := { stood := { row := viewsSeenRow, standIns := [], harness := (true, "866f41f685850eb2b2559435ce21d1d6e6beaa86a308c44516c8e15c356578d2"), looks := true }, kinds := [], alts := [], laidByText := true, laidKinds := [.data, .wider, .wider, .wider, .wider, .wider], laidTests := true, laidLooks := .later }
def ViewsSeenCardSaid : Prop := Claim7.holds Tryz.pinned (.plain (OpenSpec.ofChange viewsSeenSpec)) viewsSeenCard

/-- THE SECOND FORM's CARD OF 'testamurlaw29.ViewsSpec'. -/
def viewsSpecUptoCard : Claim7 := { stood := { row := viewsSpecUptoRow, standIns := [], harness := (true, "866f41f685850eb2b2559435ce21d1d6e6beaa86a308c44516c8e15c356578d2"), looks := true }, kinds := [], alts := [], laidByText := true, laidKinds := [.data, .wider, .wider, .wider, .wider, .wider], laidTests := true, laidLooks := .later }
def ViewsSpecUptoCardSaid : Prop := Claim7.holds Tryz.pinned (.plain (OpenSpec.upto viewsSpecSpec)) viewsSpecUptoCard

/-- THE SECOND FORM's CARD OF 'testamurlaw29.ViewsSeen'. -/
def viewsSeenUptoCard : Claim7 := { stood := { row := viewsSeenUptoRow, standIns := [], harness := (true, "866f41f685850eb2b2559435ce21d1d6e6beaa86a308c44516c8e15c356578d2"), looks := true }, kinds := [], alts := [], laidByText := true, laidKinds := [.data, .wider, .wider, .wider, .wider, .wider], laidTests := true, laidLooks := .later }
def ViewsSeenUptoCardSaid : Prop := Claim7.holds Tryz.pinned (.plain (OpenSpec.upto viewsSeenSpec)) viewsSeenUptoCard
end Rows
end Go.Proofs.YtjabllhapfphoaaGreatDoor
