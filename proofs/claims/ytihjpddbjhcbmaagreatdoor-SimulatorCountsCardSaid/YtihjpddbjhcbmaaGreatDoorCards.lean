/-
  DERIVED. GIVEN WITH THE SEED: THE CARDS: each row of YtihjpddbjhcbmaaGreatDoorRows.lean that lists a variable, with what it lists TIED to the program's text (the seventh form; the later family's looks); each row that meets fmt, with fmt's text TOLD by the authors' own Lean function (tested against real Go, not proved from fmt's source: count such statements apart). THE CARD IS WHAT COUNTS. Prove the row's statement (the work); the ties are given (YtihjpddbjhcbmaaGreatDoorTie.lean); close each card by the builder's one call (the guide's Derived/Test/ToyasCard.lean, 'card_holds'). Laid BY PROGRAM, IN A SANDBOX (cutbox-door.mjs). By AI agents, Wed Nov 11 2026. No macro, syntax, notation, axiom, sorry.
-/
import Derived.Test.YtihjpddbjhcbmaaGreatDoorRows
import GoSem.ClaimSeven
namespace Go.Proofs.YtihjpddbjhcbmaaGreatDoor
namespace Rows

/-- THE TIED CARD OF 'dominolaw16.SigmaProves'. -/
def sigmaProvesCard : Claim7 := { stood := { row := sigmaProvesRow, standIns := [], harness := (true, "97a2870815da7cb9b0dee0fc16d01a03cfe0f7ebc3eb07e95cf368112d6ec9af"), looks := false }, kinds := [], alts := [], laidByText := true, laidKinds := [.data, .data, .data], laidTests := true, laidLooks := .later }
def SigmaProvesCardSaid : Prop := Claim7.holds Tryz.pinned (.plain (OpenSpec.ofChange sigmaProvesSpec)) sigmaProvesCard

/-- THE TIED CARD OF 'dominolaw17.SimulatorSimulates'. -/
def simulatorSimulatesCard : Claim7 := { stood := { row := simulatorSimulatesRow, standIns := [], harness := (true, "97a2870815da7cb9b0dee0fc16d01a03cfe0f7ebc3eb07e95cf368112d6ec9af"), looks := false }, kinds := [], alts := [], laidByText := true, laidKinds := [.data, .data, .data], laidTests := true, laidLooks := .later }
def SimulatorSimulatesCardSaid : Prop := Claim7.holds Tryz.pinned (.plain (OpenSpec.ofChange simulatorSimulatesSpec)) simulatorSimulatesCard

/-- THE TIED CARD OF 'dominolaw17.SimulatorAccepts'. -/
def simulatorAcceptsCard : Claim7 := { stood := { row := simulatorAcceptsRow, standIns := [], harness := (true, "97a2870815da7cb9b0dee0fc16d01a03cfe0f7ebc3eb07e95cf368112d6ec9af"), looks := false }, kinds := [], alts := [], laidByText := true, laidKinds := [.data, .data, .data], laidTests := true, laidLooks := .later }
def SimulatorAcceptsCardSaid : Prop := Claim7.holds Tryz.pinned (.plain (OpenSpec.ofChange simulatorAcceptsSpec)) simulatorAcceptsCard

/-- THE TIED CARD OF 'dominolaw17.SimulatorHides'. -/
def simulatorHidesCard : Claim7 := { stood := { row := simulatorHidesRow, standIns := [], harness := (true, "97a2870815da7cb9b0dee0fc16d01a03cfe0f7ebc3eb07e95cf368112d6ec9af"), looks := false }, kinds := [], alts := [], laidByText := true, laidKinds := [.data, .data, .data], laidTests := true, laidLooks := .later }
def SimulatorHidesCardSaid : Prop := Claim7.holds Tryz.pinned (.plain (OpenSpec.ofChange simulatorHidesSpec)) simulatorHidesCard

/-- THE TIED CARD OF 'dominolaw17.SimulatorCounts'. -/
def simulatorCountsCard : Claim7 := { stood := { row := simulatorCountsRow, standIns := [], harness := (true, "97a2870815da7cb9b0dee0fc16d01a03cfe0f7ebc3eb07e95cf368112d6ec9af"), looks := false }, kinds := [], alts := [], laidByText := true, laidKinds := [.data, .data, .data], laidTests := true, laidLooks := .later }
def SimulatorCountsCardSaid : Prop := Claim7.holds Tryz.pinned (.plain (OpenSpec.ofChange simulatorCountsSpec)) simulatorCountsCard

/-- THE TIED CARD OF 'dominolaw17.SimulatorAgrees'. -/
def simulatorAgreesCard : Claim7 := { stood := { row := simulatorAgreesRow, standIns := [], harness := (true, "97a2870815da7cb9b0dee0fc16d01a03cfe0f7ebc3eb07e95cf368112d6ec9af"), looks := false }, kinds := [], alts := [], laidByText := true, laidKinds := [.data, .data, .data], laidTests := true, laidLooks := .later }
def SimulatorAgreesCardSaid : Prop := Claim7.holds Tryz.pinned (.plain (OpenSpec.ofChange simulatorAgreesSpec)) simulatorAgreesCard

/-- THE TIED CARD OF 'dominolaw18.ExtractorHonest'. -/
def extractorHonestCard : Claim7 := { stood := { row := extractorHonestRow, standIns := [], harness := (true, "97a2870815da7cb9b0dee0fc16d01a03cfe0f7ebc3eb07e95cf368112d6ec9af"), looks := false }, kinds := [], alts := [], laidByText := true, laidKinds := [.data, .data, .data], laidTests := true, laidLooks := .later }
def ExtractorHonestCardSaid : Prop := Claim7.holds Tryz.pinned (.plain (OpenSpec.ofChange extractorHonestSpec)) extractorHonestCard

/-- THE TIED CARD OF 'dominolaw27.SquarerangePrepares'. -/
def squarerangePreparesCard : Claim7 := { stood := { row := squarerangePreparesRow, standIns := [], harness := (true, "97a2870815da7cb9b0dee0fc16d01a03cfe0f7ebc3eb07e95cf368112d6ec9af"), looks := false }, kinds := [], alts := [], laidByText := true, laidKinds := [.data, .data, .data], laidTests := true, laidLooks := .later }
def SquarerangePreparesCardSaid : Prop := Claim7.holds Tryz.pinned (.plain (OpenSpec.ofChange squarerangePreparesSpec)) squarerangePreparesCard

/-- THE TIED CARD OF 'dominolaw27.SquarerangeWitnesses'. -/
def squarerangeWitnessesCard : Claim7 := { stood := { row := squarerangeWitnessesRow, standIns := [], harness := (true, "97a2870815da7cb9b0dee0fc16d01a03cfe0f7ebc3eb07e95cf368112d6ec9af"), looks := false }, kinds := [], alts := [], laidByText := true, laidKinds := [.data, .data, .data], laidTests := true, laidLooks := .later }
def SquarerangeWitnessesCardSaid : Prop := Claim7.holds Tryz.pinned (.plain (OpenSpec.ofChange squarerangeWitnessesSpec)) squarerangeWitnessesCard

/-- THE TIED CARD OF 'dominolaw27.SquarerangeStates'. -/
def squarerangeStatesCard : Claim7 := { stood := { row := squarerangeStatesRow, standIns := [], harness := (true, "97a2870815da7cb9b0dee0fc16d01a03cfe0f7ebc3eb07e95cf368112d6ec9af"), looks := false }, kinds := [], alts := [], laidByText := true, laidKinds := [.data, .data, .data], laidTests := true, laidLooks := .later }
def SquarerangeStatesCardSaid : Prop := Claim7.holds Tryz.pinned (.plain (OpenSpec.ofChange squarerangeStatesSpec)) squarerangeStatesCard

/-- THE TIED CARD OF 'dominolaw27.SquarerangeComplete'. -/
def squarerangeCompleteCard : Claim7 := { stood := { row := squarerangeCompleteRow, standIns := [], harness := (true, "97a2870815da7cb9b0dee0fc16d01a03cfe0f7ebc3eb07e95cf368112d6ec9af"), looks := false }, kinds := [], alts := [], laidByText := true, laidKinds := [.data, .data, .data], laidTests := true, laidLooks := .later }
def SquarerangeCompleteCardSaid : Prop := Claim7.holds Tryz.pinned (.plain (OpenSpec.ofChange squarerangeCompleteSpec)) squarerangeCompleteCard

/-- THE TIED CARD OF 'dominolaw27.SquarerangeSound'. -/
def squarerangeSoundCard : Claim7 := { stood := { row := squarerangeSoundRow, standIns := [], harness := (true, "97a2870815da7cb9b0dee0fc16d01a03cfe0f7ebc3eb07e95cf368112d6ec9af"), looks := false }, kinds := [], alts := [], laidByText := true, laidKinds := [.data, .data, .data], laidTests := true, laidLooks := .later }
def SquarerangeSoundCardSaid : Prop := Claim7.holds Tryz.pinned (.plain (OpenSpec.ofChange squarerangeSoundSpec)) squarerangeSoundCard

/-- THE SECOND FORM's CARD OF 'dominolaw16.SigmaProves'. -/
def sigmaProvesUptoCard : Claim7 := { stood := { row := sigmaProvesUptoRow, standIns := [], harness := (true, "97a2870815da7cb9b0dee0fc16d01a03cfe0f7ebc3eb07e95cf368112d6ec9af"), looks := false }, kinds := [], alts := [], laidByText := true, laidKinds := [.data, .data, .data], laidTests := true, laidLooks := .later }
def SigmaProvesUptoCardSaid : Prop := Claim7.holds Tryz.pinned (.plain (OpenSpec.upto sigmaProvesSpec)) sigmaProvesUptoCard

/-- THE SECOND FORM's CARD OF 'dominolaw17.SimulatorSimulates'. -/
def simulatorSimulatesUptoCard : Claim7 := { stood := { row := simulatorSimulatesUptoRow, standIns := [], harness := (true, "97a2870815da7cb9b0dee0fc16d01a03cfe0f7ebc3eb07e95cf368112d6ec9af"), looks := false }, kinds := [], alts := [], laidByText := true, laidKinds := [.data, .data, .data], laidTests := true, laidLooks := .later }
def SimulatorSimulatesUptoCardSaid : Prop := Claim7.holds Tryz.pinned (.plain (OpenSpec.upto simulatorSimulatesSpec)) simulatorSimulatesUptoCard

/-- THE SECOND FORM's CARD OF 'dominolaw17.SimulatorAccepts'. -/
def simulatorAcceptsUptoCard : Claim7 := { stood := { row := simulatorAcceptsUptoRow, standIns := [], harness := (true, "97a2870815da7cb9b0dee0fc16d01a03cfe0f7ebc3eb07e95cf368112d6ec9af"), looks := false }, kinds := [], alts := [], laidByText := true, laidKinds := [.data, .data, .data], laidTests := true, laidLooks := .later }
def SimulatorAcceptsUptoCardSaid : Prop := Claim7.holds Tryz.pinned (.plain (OpenSpec.upto simulatorAcceptsSpec)) simulatorAcceptsUptoCard

/-- THE SECOND FORM's CARD OF 'dominolaw17.SimulatorHides'. -/
def simulatorHidesUptoCard : Claim7 := { stood := { row := simulatorHidesUptoRow, standIns := [], harness := (true, "97a2870815da7cb9b0dee0fc16d01a03cfe0f7ebc3eb07e95cf368112d6ec9af"), looks := false }, kinds := [], alts := [], laidByText := true, laidKinds := [.data, .data, .data], laidTests := true, laidLooks := .later }
def SimulatorHidesUptoCardSaid : Prop := Claim7.holds Tryz.pinned (.plain (OpenSpec.upto simulatorHidesSpec)) simulatorHidesUptoCard

/-- THE SECOND FORM's CARD OF 'dominolaw17.SimulatorCounts'. -/
def simulatorCountsUptoCard : Claim7 := { stood := { row := simulatorCountsUptoRow, standIns := [], harness := (true, "97a2870815da7cb9b0dee0fc16d01a03cfe0f7ebc3eb07e95cf368112d6ec9af"), looks := false }, kinds := [], alts := [], laidByText := true, laidKinds := [.data, .data, .data], laidTests := true, laidLooks := .later }
def SimulatorCountsUptoCardSaid : Prop := Claim7.holds Tryz.pinned (.plain (OpenSpec.upto simulatorCountsSpec)) simulatorCountsUptoCard

/-- THE SECOND FORM's CARD OF 'dominolaw17.SimulatorAgrees'. -/
def simulatorAgreesUptoCard : Claim7 := { stood := { row := simulatorAgreesUptoRow, standIns := [], harness := (true, "97a2870815da7cb9b0dee0fc16d01a03cfe0f7ebc3eb07e95cf368112d6ec9af"), looks := false }, kinds := [], alts := [], laidByText := true, laidKinds := [.data, .data, .data], laidTests := true, laidLooks := .later }
def SimulatorAgreesUptoCardSaid : Prop := Claim7.holds Tryz.pinned (.plain (OpenSpec.upto simulatorAgreesSpec)) simulatorAgreesUptoCard

/-- THE SECOND FORM's CARD OF 'dominolaw18.ExtractorHonest'. -/
def extractorHonestUptoCard : Claim7 := { stood := { row := extractorHonestUptoRow, standIns := [], harness := (true, "97a2870815da7cb9b0dee0fc16d01a03cfe0f7ebc3eb07e95cf368112d6ec9af"), looks := false }, kinds := [], alts := [], laidByText := true, laidKinds := [.data, .data, .data], laidTests := true, laidLooks := .later }
def ExtractorHonestUptoCardSaid : Prop := Claim7.holds Tryz.pinned (.plain (OpenSpec.upto extractorHonestSpec)) extractorHonestUptoCard

/-- THE SECOND FORM's CARD OF 'dominolaw27.SquarerangePrepares'. -/
def squarerangePreparesUptoCard : Claim7 := { stood := { row := squarerangePreparesUptoRow, standIns := [], harness := (true, "97a2870815da7cb9b0dee0fc16d01a03cfe0f7ebc3eb07e95cf368112d6ec9af"), looks := false }, kinds := [], alts := [], laidByText := true, laidKinds := [.data, .data, .data], laidTests := true, laidLooks := .later }
def SquarerangePreparesUptoCardSaid : Prop := Claim7.holds Tryz.pinned (.plain (OpenSpec.upto squarerangePreparesSpec)) squarerangePreparesUptoCard

/-- THE SECOND FORM's CARD OF 'dominolaw27.SquarerangeWitnesses'. -/
def squarerangeWitnessesUptoCard : Claim7 := { stood := { row := squarerangeWitnessesUptoRow, standIns := [], harness := (true, "97a2870815da7cb9b0dee0fc16d01a03cfe0f7ebc3eb07e95cf368112d6ec9af"), looks := false }, kinds := [], alts := [], laidByText := true, laidKinds := [.data, .data, .data], laidTests := true, laidLooks := .later }
def SquarerangeWitnessesUptoCardSaid : Prop := Claim7.holds Tryz.pinned (.plain (OpenSpec.upto squarerangeWitnessesSpec)) squarerangeWitnessesUptoCard

/-- THE SECOND FORM's CARD OF 'dominolaw27.SquarerangeStates'. -/
def squarerangeStatesUptoCard : Claim7 := { stood := { row := squarerangeStatesUptoRow, standIns := [], harness := (true, "97a2870815da7cb9b0dee0fc16d01a03cfe0f7ebc3eb07e95cf368112d6ec9af"), looks := false }, kinds := [], alts := [], laidByText := true, laidKinds := [.data, .data, .data], laidTests := true, laidLooks := .later }
def SquarerangeStatesUptoCardSaid : Prop := Claim7.holds Tryz.pinned (.plain (OpenSpec.upto squarerangeStatesSpec)) squarerangeStatesUptoCard

/-- THE SECOND FORM's CARD OF 'dominolaw27.SquarerangeComplete'. -/
def squarerangeCompleteUptoCard : Claim7 := { stood := { row := squarerangeCompleteUptoRow, standIns := [], harness := (true, "97a2870815da7cb9b0dee0fc16d01a03cfe0f7ebc3eb07e95cf368112d6ec9af"), looks := false }, kinds := [], alts := [], laidByText := true, laidKinds := [.data, .data, .data], laidTests := true, laidLooks := .later }
def SquarerangeCompleteUptoCardSaid : Prop := Claim7.holds Tryz.pinned (.plain (OpenSpec.upto squarerangeCompleteSpec)) squarerangeCompleteUptoCard

/-- THE SECOND FORM's CARD OF 'dominolaw27.SquarerangeSound'. -/
def squarerangeSoundUptoCard : Claim7 := { stood := { row := squarerangeSoundUptoRow, standIns := [], harness := (true, "97a2870815da7cb9b0dee0fc16d01a03cfe0f7ebc3eb07e95cf368112d6ec9af"), looks := false }, kinds := [], alts := [], laidByText := true, laidKinds := [.data, .data, .data], laidTests := true, laidLooks := .later }
def SquarerangeSoundUptoCardSaid : Prop := Claim7.holds Tryz.pinned (.plain (OpenSpec.upto squarerangeSoundSpec)) squarerangeSoundUptoCard
end Rows
end Go.Proofs.YtihjpddbjhcbmaaGreatDoor
