/-
  DERIVED. GIVEN WITH THE SEED: THE CARDS: each row of YtmpdeifdnbhdiaaGreatDoorRows.lean that lists a variable, with what it lists TIED to the program's text (the seventh form; the later family's looks); each row that meets fmt, with fmt's text TOLD by the authors' own Lean function (tested against real Go, not proved from fmt's source: count such statements apart). THE CARD IS WHAT COUNTS. Prove the row's statement (the work); the ties are given (YtmpdeifdnbhdiaaGreatDoorTie.lean); close each card by the builder's one call (the guide's Derived/Test/ToyasCard.lean, 'card_holds'). Laid BY PROGRAM, IN A SANDBOX (cutbox-door.mjs). By AI agents, Wed Nov 11 2026. No macro, syntax, notation, axiom, sorry.
-/
import Derived.Test.YtmpdeifdnbhdiaaGreatDoorRows
import GoSem.ClaimSeven
namespace Go.Proofs.YtmpdeifdnbhdiaaGreatDoor
namespace Rows

/-- THE TIED CARD OF 'testamurlaw20.RoundsPlacesSpec'. -/
def roundsPlacesSpecCard : Claim7 := { stood := { row := roundsPlacesSpecRow, standIns := [], harness := (true, "0d4853f588e4122473656a74ccff4b8e3af5dc1b8b36ae501fe1298783468f2b"), looks := true }, kinds := [], alts := [], laidByText := true, laidKinds := [.data], laidTests := true, laidLooks := .later }
def RoundsPlacesSpecCardSaid : Prop := Claim7.holds Tryz.pinned (.plain (OpenSpec.ofChange roundsPlacesSpecSpec)) roundsPlacesSpecCard

/-- THE TIED CARD OF 'testamurlaw20.RoundsPermute'. -/
def roundsPermuteCard : Claim7 := { stood := { row := roundsPermuteRow, standIns := [], harness := (true, "0d4853f588e4122473656a74ccff4b8e3af5dc1b8b36ae501fe1298783468f2b"), looks := true }, kinds := [], alts := [], laidByText := true, laidKinds := [.data], laidTests := true, laidLooks := .later }
def RoundsPermuteCardSaid : Prop := Claim7.holds Tryz.pinned (.plain (OpenSpec.ofChange roundsPermuteSpec)) roundsPermuteCard

/-- THE SECOND FORM's CARD OF 'testamurlaw20.RoundsPlacesSpec'. -/
def roundsPlacesSpecUptoCard : Claim7 := { stood := { row := roundsPlacesSpecUptoRow, standIns := [], harness := (true, "0d4853f588e4122473656a74ccff4b8e3af5dc1b8b36ae501fe1298783468f2b"), looks := true }, kinds := [], alts := [], laidByText := true, laidKinds := [.data], laidTests := true, laidLooks := .later }
def RoundsPlacesSpecUptoCardSaid : Prop := Claim7.holds Tryz.pinned (.plain (OpenSpec.upto roundsPlacesSpecSpec)) roundsPlacesSpecUptoCard

/-- THE SECOND FORM's CARD OF 'testamurlaw20.RoundsPermute'. -/
def roundsPermuteUptoCard : Claim7 := { stood := { row := roundsPermuteUptoRow, standIns := [], harness := (true, "0d4853f588e4122473656a74ccff4b8e3af5dc1b8b36ae501fe1298783468f2b"), looks := true }, kinds := [], alts := [], laidByText := true, laidKinds := [.data], laidTests := true, laidLooks := .later }
def RoundsPermuteUptoCardSaid : Prop := Claim7.holds Tryz.pinned (.plain (OpenSpec.upto roundsPermuteSpec)) roundsPermuteUptoCard
end Rows
end Go.Proofs.YtmpdeifdnbhdiaaGreatDoor
