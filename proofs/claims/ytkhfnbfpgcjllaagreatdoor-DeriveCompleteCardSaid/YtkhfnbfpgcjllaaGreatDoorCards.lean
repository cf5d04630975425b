/-
  DERIVED. GIVEN WITH THE SEED: THE CARDS: each row of YtkhfnbfpgcjllaaGreatDoorRows.lean that lists a variable, with what it lists TIED to the program's text (the seventh form; the later family's looks); each row that meets fmt, with fmt's text TOLD by the authors' own Lean function (tested against real Go, not proved from fmt's source: count such statements apart). THE CARD IS WHAT COUNTS. Prove the row's statement (the work); the ties are given (YtkhfnbfpgcjllaaGreatDoorTie.lean); close each card by the builder's one call (the guide's Derived/Test/ToyasCard.lean, 'card_holds'). Laid BY PROGRAM, IN A SANDBOX (cutbox-door.mjs). By AI agents, Wed Nov 11 2026. No macro, syntax, notation, axiom, sorry.
-/
import Derived.Test.YtkhfnbfpgcjllaaGreatDoorRows
import GoSem.ClaimSeven
namespace Go.Proofs.YtkhfnbfpgcjllaaGreatDoor
namespace Rows

/-- THE TIED CARD OF 'testamurlaw18.DeriveSound'. -/
def deriveSoundCard : Claim7 := { stood := { row := deriveSoundRow, standIns := [], harness := (true, "bc9dfdc9f2d85b9bbf53268fbc9318298e957559e6e8e7fdefa548c19e5d5213"), looks := true }, kinds := [], alts := [], laidByText := true, laidKinds := [.wider, .wider, .wider, .wider, .wider], laidTests := true, laidLooks := .later }
def DeriveSoundCardSaid : Prop := Claim7.holds Tryz.pinned (.plain (OpenSpec.ofChange deriveSoundSpec)) deriveSoundCard

/-- THE TIED CARD OF 'testamurlaw18.DeriveComplete'. -/
def deriveCompleteCard : Claim7 := { stood := { row := deriveCompleteRow, standIns := [], harness := (true, "bc9dfdc9f2d85b9bbf53268fbc9318298e957559e6e8e7fdefa548c19e5d5213"), looks := true }, kinds := [], alts := [], laidByText := true, laidKinds := [.wider, .wider, .wider, .wider, .wider], laidTests := true, laidLooks := .later }
def DeriveCompleteCardSaid : Prop := Claim7.holds Tryz.pinned (.plain (OpenSpec.ofChange deriveCompleteSpec)) deriveCompleteCard

/-- THE TIED CARD OF 'testamurlaw18.DerivePast'. -/
def derivePastCard : Claim7 := { stood := { row := derivePastRow, standIns := [], harness := (true, "bc9dfdc9f2d85b9bbf53268fbc9318298e957559e6e8e7fdefa548c19e5d5213"), looks := true }, kinds := [], alts := [], laidByText := true, laidKinds := [.wider, .wider, .wider, .wider, .wider], laidTests := true, laidLooks := .later }
def DerivePastCardSaid : Prop := Claim7.holds Tryz.pinned (.plain (OpenSpec.ofChange derivePastSpec)) derivePastCard

/-- THE TIED CARD OF 'testamurlaw18.DeriveReads'. -/
def deriveReadsCard : Claim7 := { stood := { row := deriveReadsRow, standIns := [], harness := (true, "bc9dfdc9f2d85b9bbf53268fbc9318298e957559e6e8e7fdefa548c19e5d5213"), looks := true }, kinds := [], alts := [], laidByText := true, laidKinds := [.wider, .wider, .wider, .wider, .wider], laidTests := true, laidLooks := .later }
def DeriveReadsCardSaid : Prop := Claim7.holds Tryz.pinned (.plain (OpenSpec.ofChange deriveReadsSpec)) deriveReadsCard

/-- THE SECOND FORM's CARD OF 'testamurlaw18.DeriveSound'. -/
def deriveSoundUptoCard : Claim7 := { stood := { row := deriveSoundUptoRow, standIns := [], harness := (true, "bc9dfdc9f2d85b9bbf53268fbc9318298e957559e6e8e7fdefa548c19e5d5213"), looks := true }, kinds := [], alts := [], laidByText := true, laidKinds := [.wider, .wider, .wider, .wider, .wider], laidTests := true, laidLooks := .later }
def DeriveSoundUptoCardSaid : Prop := Claim7.holds Tryz.pinned (.plain (OpenSpec.upto deriveSoundSpec)) deriveSoundUptoCard

/-- THE SECOND FORM's CARD OF 'testamurlaw18.DeriveComplete'. -/
def deriveCompleteUptoCard : Claim7 := { stood := { row := deriveCompleteUptoRow, standIns := [], harness := (true, "bc9dfdc9f2d85b9bbf53268fbc9318298e957559e6e8e7fdefa548c19e5d5213"), looks := true }, kinds := [], alts := [], laidByText := true, laidKinds := [.wider, .wider, .wider, .wider, .wider], laidTests := true, laidLooks := .later }
def DeriveCompleteUptoCardSaid : Prop := Claim7.holds Tryz.pinned (.plain (OpenSpec.upto deriveCompleteSpec)) deriveCompleteUptoCard

/-- THE SECOND FORM's CARD OF 'testamurlaw18.DerivePast'. -/
def derivePastUptoCard : Claim7 := { stood := { row := derivePastUptoRow, standIns := [], harness := (true, "bc9dfdc9f2d85b9bbf53268fbc9318298e957559e6e8e7fdefa548c19e5d5213"), looks := true }, kinds := [], alts := [], laidByText := true, laidKinds := [.wider, .wider, .wider, .wider, .wider], laidTests := true, laidLooks := .later }
def DerivePastUptoCardSaid : Prop := Claim7.holds Tryz.pinned (.plain (OpenSpec.upto derivePastSpec)) derivePastUptoCard

/-- THE SECOND FORM's CARD OF 'testamurlaw18.DeriveReads'. -/
def deriveReadsUptoCard : Claim7 := { stood := { row := deriveReadsUptoRow, standIns := [], harness := (true, "bc9dfdc9f2d85b9bbf53268fbc9318298e957559e6e8e7fdefa548c19e5d5213"), looks := true }, kinds := [], alts := [], laidByText := true, laidKinds := [.wider, .wider, .wider, .wider, .wider], laidTests := true, laidLooks := .later }
def DeriveReadsUptoCardSaid : Prop := Claim7.holds Tryz.pinned (.plain (OpenSpec.upto deriveReadsSpec)) deriveReadsUptoCard
end Rows
end Go.Proofs.YtkhfnbfpgcjllaaGreatDoor
