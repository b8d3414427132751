/-
  DERIVED. GIVEN WITH THE SEED: THE CARDS: each row of YtfgandecbkbleaaGreatDoorRows.lean that lists a variable, with what it lists TIED to the program's text (the seventh form; the later family's looks); each row that meets fmt, with fmt's text TOLD by the authors' own Lean function (tested against real Go, not proved from fmt's source: count such statements apart). THE CARD IS WHAT COUNTS. Prove the row's statement (the work); the ties are given (YtfgandecbkbleaaGreatDoorTie.lean); close each card by the builder's one call (the guide's Derived/Test/ToyasCard.lean, 'card_holds'). Laid BY PROGRAM, IN A SANDBOX (cutbox-door.mjs). By AI agents, Wed Nov 11 2026. No macro, syntax, notation, axiom, sorry.
-/
import Derived.Test.YtfgandecbkbleaaGreatDoorRows
import GoSem.ClaimSeven
namespace Go.Proofs.YtfgandecbkbleaaGreatDoor
namespace Rows

/-- THE TIED CARD OF 'dominolaw27.SquarerangeWitnesses'. -/
def squarerangeWitnessesCard : Claim7 := { stood := { row := squarerangeWitnessesRow, standIns := [], harness := (true, "5b01db5f773c9c045b07e4ce2ad4d16c1c51e8a48b9835a1f4b540a105ed94b1"), looks := false }, kinds := [], alts := [], laidByText := true, laidKinds := [.data, .data, .data], laidTests := true, laidLooks := .later }
def SquarerangeWitnessesCardSaid : Prop := Claim7.holds Tryz.pinned (.plain (OpenSpec.ofChange squarerangeWitnessesSpec)) squarerangeWitnessesCard

/-- THE TIED CARD OF 'dominolaw27.SquarerangePrepares'. -/
def squarerangePreparesCard : Claim7 := { stood := { row := squarerangePreparesRow, standIns := [], harness := (true, "5b01db5f773c9c045b07e4ce2ad4d16c1c51e8a48b9835a1f4b540a105ed94b1"), looks := false }, kinds := [], alts := [], laidByText := true, laidKinds := [.data, .data, .data], laidTests := true, laidLooks := .later }
def SquarerangePreparesCardSaid : Prop := Claim7.holds Tryz.pinned (.plain (OpenSpec.ofChange squarerangePreparesSpec)) squarerangePreparesCard

/-- THE TIED CARD OF 'dominolaw27.SquarerangeStates'. -/
def squarerangeStatesCard : Claim7 := { stood := { row := squarerangeStatesRow, standIns := [], harness := (true, "5b01db5f773c9c045b07e4ce2ad4d16c1c51e8a48b9835a1f4b540a105ed94b1"), looks := false }, kinds := [], alts := [], laidByText := true, laidKinds := [.data, .data, .data], laidTests := true, laidLooks := .later }
def SquarerangeStatesCardSaid : Prop := Claim7.holds Tryz.pinned (.plain (OpenSpec.ofChange squarerangeStatesSpec)) squarerangeStatesCard

/-- THE TIED CARD OF 'dominolaw27.SquarerangeComplete'. -/
def squarerangeCompleteCard : Claim7 := { stood := { row := squarerangeCompleteRow, standIns := [], harness := (true, "5b01db5f773c9c045b07e4ce2ad4d16c1c51e8a48b9835a1f4b540a105ed94b1"), looks := false }, kinds := [], alts := [], laidByText := true, laidKinds := [.data, .data, .data], laidTests := true, laidLooks := .later }
def SquarerangeCompleteCardSaid : Prop := Claim7.holds Tryz.pinned (.plain (OpenSpec.ofChange squarerangeCompleteSpec)) squarerangeCompleteCard

/-- THE TIED CARD OF 'dominolaw27.SquarerangeSound'. -/
def squarerangeSoundCard : Claim7 := { stood := { row := squarerangeSoundRow, standIns := [], harness := (true, "5b01db5f773c9c045b07e4ce2ad4d16c1c51e8a48b9835a1f4b540a105ed94b1"), looks := false }, kinds := [], alts := [], laidByText := true, laidKinds := [.data, .data, .data], laidTests := true, laidLooks := .later }
def SquarerangeSoundCardSaid : Prop := Claim7.holds Tryz.pinned (.plain (OpenSpec.ofChange squarerangeSoundSpec)) squarerangeSoundCard

/-- THE SECOND FORM's CARD OF 'dominolaw27.SquarerangeWitnesses'. -/
def squarerangeWitnessesUptoCard : Claim7 := { stood := { row := squarerangeWitnessesUptoRow, standIns := [], harness := (true, "5b01db5f773c9c045b07e4ce2ad4d16c1c51e8a48b9835a1f4b540a105ed94b1"), looks := false }, kinds := [], alts := [], laidByText := true, laidKinds := [.data, .data, .data], laidTests := true, laidLooks := .later }
def SquarerangeWitnessesUptoCardSaid : Prop := Claim7.holds Tryz.pinned (.plain (OpenSpec.upto squarerangeWitnessesSpec)) squarerangeWitnessesUptoCard

/-- THE SECOND FORM's CARD OF 'dominolaw27.SquarerangePrepares'. -/
def squarerangePreparesUptoCard : Claim7 := { stood := { row := squarerangePreparesUptoRow, standIns := [], harness := (true, "5b01db5f773c9c045b07e4ce2ad4d16c1c51e8a48b9835a1f4b540a105ed94b1"), looks := false }, kinds := [], alts := [], laidByText := true, laidKinds := [.data, .data, .data], laidTests := true, laidLooks := .later }
def SquarerangePreparesUptoCardSaid : Prop := Claim7.holds Tryz.pinned (.plain (OpenSpec.upto squarerangePreparesSpec)) squarerangePreparesUptoCard

/-- THE SECOND FORM's CARD OF 'dominolaw27.SquarerangeStates'. -/
def squarerangeStatesUptoCard : Claim7 := { stood := { row := squarerangeStatesUptoRow, standIns := [], harness := (true, "5b01db5f773c9c045b07e4ce2ad4d16c1c51e8a48b9835a1f4b540a105ed94b1"), looks := false }, kinds := [], alts := [], laidByText := true, laidKinds := [.data, .data, .data], laidTests := true, laidLooks := .later }
def SquarerangeStatesUptoCardSaid : Prop := Claim7.holds Tryz.pinned (.plain (OpenSpec.upto squarerangeStatesSpec)) squarerangeStatesUptoCard

/-- THE SECOND FORM's CARD OF 'dominolaw27.SquarerangeComplete'. -/
def squarerangeCompleteUptoCard : Claim7 := { stood := { row := squarerangeCompleteUptoRow, standIns := [], harness := (true, "5b01db5f773c9c045b07e4ce2ad4d16c1c51e8a48b9835a1f4b540a105ed94b1"), looks := false }, kinds := [], alts := [], laidByText := true, laidKinds := [.data, .data, .data], laidTests := true, laidLooks := .later }
def SquarerangeCompleteUptoCardSaid : Prop := Claim7.holds Tryz.pinned (.plain (OpenSpec.upto squarerangeCompleteSpec)) squarerangeCompleteUptoCard

/-- THE SECOND FORM's CARD OF 'dominolaw27.SquarerangeSound'. -/
def squarerangeSoundUptoCard : Claim7 := { stood := { row := squarerangeSoundUptoRow, standIns := [], harness := (true, "5b01db5f773c9c045b07e4ce2ad4d16c1c51e8a48b9835a1f4b540a105ed94b1"), looks := false }, kinds := [], alts := [], laidByText := true, laidKinds := [.data, .data, .data], laidTests := true, laidLooks := .later }
def SquarerangeSoundUptoCardSaid : Prop := Claim7.holds Tryz.pinned (.plain (OpenSpec.upto squarerangeSoundSpec)) squarerangeSoundUptoCard
end Rows
end Go.Proofs.YtfgandecbkbleaaGreatDoor
