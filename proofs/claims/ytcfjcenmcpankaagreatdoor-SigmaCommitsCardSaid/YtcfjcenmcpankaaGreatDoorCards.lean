/-
  DERIVED. GIVEN WITH THE SEED: THE CARDS: each row of YtcfjcenmcpankaaGreatDoorRows.lean that lists a variable, with what it lists TIED to the program's text (the seventh form; the later family's looks); each row that meets fmt, with fmt's text TOLD by the authors' own Lean function (tested against real Go, not proved from fmt's source: count such statements apart). THE CARD IS WHAT COUNTS. Prove the row's statement (the work); the ties are given (YtcfjcenmcpankaaGreatDoorTie.lean); close each card by the builder's one call (the guide's Derived/Test/ToyasCard.lean, 'card_holds'). Laid BY PROGRAM, IN A SANDBOX (cutbox-door.mjs). By AI agents, Wed Nov 11 2026. No macro, syntax, notation, axiom, sorry.
-/
import Derived.Test.YtcfjcenmcpankaaGreatDoorRows
import GoSem.ClaimSeven
namespace Go.Proofs.YtcfjcenmcpankaaGreatDoor
namespace Rows

/-- THE TIED CARD OF 'dominolaw16.SigmaBounds'. -/
def sigmaBoundsCard : Claim7 := { stood := { row := sigmaBoundsRow, standIns := [], harness := (true, "82157d4e328a061784dc718d726121388702a985537db1dd35e3cb80443a5f63"), looks := false }, kinds := [], alts := [], laidByText := true, laidKinds := [.data, .data, .data], laidTests := true, laidLooks := .later }
def SigmaBoundsCardSaid : Prop := Claim7.holds Tryz.pinned (.plain (OpenSpec.ofChange sigmaBoundsSpec)) sigmaBoundsCard

/-- THE TIED CARD OF 'dominolaw16.SigmaResponds'. -/
def sigmaRespondsCard : Claim7 := { stood := { row := sigmaRespondsRow, standIns := [], harness := (true, "82157d4e328a061784dc718d726121388702a985537db1dd35e3cb80443a5f63"), looks := false }, kinds := [], alts := [], laidByText := true, laidKinds := [.data, .data, .data], laidTests := true, laidLooks := .later }
def SigmaRespondsCardSaid : Prop := Claim7.holds Tryz.pinned (.plain (OpenSpec.ofChange sigmaRespondsSpec)) sigmaRespondsCard

/-- THE TIED CARD OF 'dominolaw16.SigmaVerifies'. -/
def sigmaVerifiesCard : Claim7 := { stood := { row := sigmaVerifiesRow, standIns := [], harness := (true, "82157d4e328a061784dc718d726121388702a985537db1dd35e3cb80443a5f63"), looks := false }, kinds := [], alts := [], laidByText := true, laidKinds := [.data, .data, .data], laidTests := true, laidLooks := .later }
def SigmaVerifiesCardSaid : Prop := Claim7.holds Tryz.pinned (.plain (OpenSpec.ofChange sigmaVerifiesSpec)) sigmaVerifiesCard

/-- THE TIED CARD OF 'dominolaw16.SigmaProves'. -/
def sigmaProvesCard : Claim7 := { stood := { row := sigmaProvesRow, standIns := [], harness := (true, "82157d4e328a061784dc718d726121388702a985537db1dd35e3cb80443a5f63"), looks := false }, kinds := [], alts := [], laidByText := true, laidKinds := [.data, .data, .data], laidTests := true, laidLooks := .later }
def SigmaProvesCardSaid : Prop := Claim7.holds Tryz.pinned (.plain (OpenSpec.ofChange sigmaProvesSpec)) sigmaProvesCard

/-- THE TIED CARD OF 'dominolaw16.SigmaComplete'. -/
def sigmaCompleteCard : Claim7 := { stood := { row := sigmaCompleteRow, standIns := [], harness := (true, "82157d4e328a061784dc718d726121388702a985537db1dd35e3cb80443a5f63"), looks := false }, kinds := [], alts := [], laidByText := true, laidKinds := [.data, .data, .data], laidTests := true, laidLooks := .later }
def SigmaCompleteCardSaid : Prop := Claim7.holds Tryz.pinned (.plain (OpenSpec.ofChange sigmaCompleteSpec)) sigmaCompleteCard

/-- THE TIED CARD OF 'dominolaw16.SigmaOnce'. -/
def sigmaOnceCard : Claim7 := { stood := { row := sigmaOnceRow, standIns := [], harness := (true, "82157d4e328a061784dc718d726121388702a985537db1dd35e3cb80443a5f63"), looks := false }, kinds := [], alts := [], laidByText := true, laidKinds := [.data, .data, .data], laidTests := true, laidLooks := .later }
def SigmaOnceCardSaid : Prop := Claim7.holds Tryz.pinned (.plain (OpenSpec.ofChange sigmaOnceSpec)) sigmaOnceCard

/-- THE TIED CARD OF 'dominolaw16.SigmaSound'. -/
def sigmaSoundCard : Claim7 := { stood := { row := sigmaSoundRow, standIns := [], harness := (true, "82157d4e328a061784dc718d726121388702a985537db1dd35e3cb80443a5f63"), looks := false }, kinds := [], alts := [], laidByText := true, laidKinds := [.data, .data, .data], laidTests := true, laidLooks := .later }
def SigmaSoundCardSaid : Prop := Claim7.holds Tryz.pinned (.plain (OpenSpec.ofChange sigmaSoundSpec)) sigmaSoundCard

/-- THE TIED CARD OF 'dominolaw16.SigmaCommits'. -/
def sigmaCommitsCard : Claim7 := { stood := { row := sigmaCommitsRow, standIns := [], harness := (true, "82157d4e328a061784dc718d726121388702a985537db1dd35e3cb80443a5f63"), looks := false }, kinds := [], alts := [], laidByText := true, laidKinds := [.data, .data, .data], laidTests := true, laidLooks := .later }
def SigmaCommitsCardSaid : Prop := Claim7.holds Tryz.pinned (.plain (OpenSpec.ofChange sigmaCommitsSpec)) sigmaCommitsCard

/-- THE SECOND FORM's CARD OF 'dominolaw16.SigmaBounds'. -/
def sigmaBoundsUptoCard : Claim7 := { stood := { row := sigmaBoundsUptoRow, standIns := [], harness := (true, "82157d4e328a061784dc718d726121388702a985537db1dd35e3cb80443a5f63"), looks := false }, kinds := [], alts := [], laidByText := true, laidKinds := [.data, .data, .data], laidTests := true, laidLooks := .later }
def SigmaBoundsUptoCardSaid : Prop := Claim7.holds Tryz.pinned (.plain (OpenSpec.upto sigmaBoundsSpec)) sigmaBoundsUptoCard

/-- THE SECOND FORM's CARD OF 'dominolaw16.SigmaResponds'. -/
def sigmaRespondsUptoCard : Claim7 := { stood := { row := sigmaRespondsUptoRow, standIns := [], harness := (true, "82157d4e328a061784dc718d726121388702a985537db1dd35e3cb80443a5f63"), looks := false }, kinds := [], alts := [], laidByText := true, laidKinds := [.data, .data, .data], laidTests := true, laidLooks := .later }
def SigmaRespondsUptoCardSaid : Prop := Claim7.holds Tryz.pinned (.plain (OpenSpec.upto sigmaRespondsSpec)) sigmaRespondsUptoCard

/-- THE SECOND FORM's CARD OF 'dominolaw16.SigmaVerifies'. -/
def sigmaVerifiesUptoCard : Claim7 := { stood := { row := sigmaVerifiesUptoRow, standIns := [], harness := (true, "82157d4e328a061784dc718d726121388702a985537db1dd35e3cb80443a5f63"), looks := false }, kinds := [], alts := [], laidByText := true, laidKinds := [.data, .data, .data], laidTests := true, laidLooks := .later }
def SigmaVerifiesUptoCardSaid : Prop := Claim7.holds Tryz.pinned (.plain (OpenSpec.upto sigmaVerifiesSpec)) sigmaVerifiesUptoCard

/-- THE SECOND FORM's CARD OF 'dominolaw16.SigmaProves'. -/
def sigmaProvesUptoCard : Claim7 := { stood := { row := sigmaProvesUptoRow, standIns := [], harness := (true, "82157d4e328a061784dc718d726121388702a985537db1dd35e3cb80443a5f63"), looks := false }, kinds := [], alts := [], laidByText := true, laidKinds := [.data, .data, .data], laidTests := true, laidLooks := .later }
def SigmaProvesUptoCardSaid : Prop := Claim7.holds Tryz.pinned (.plain (OpenSpec.upto sigmaProvesSpec)) sigmaProvesUptoCard

/-- THE SECOND FORM's CARD OF 'dominolaw16.SigmaComplete'. -/
def sigmaCompleteUptoCard : Claim7 := { stood := { row := sigmaCompleteUptoRow, standIns := [], harness := (true, "82157d4e328a061784dc718d726121388702a985537db1dd35e3cb80443a5f63"), looks := false }, kinds := [], alts := [], laidByText := true, laidKinds := [.data, .data, .data], laidTests := true, laidLooks := .later }
def SigmaCompleteUptoCardSaid : Prop := Claim7.holds Tryz.pinned (.plain (OpenSpec.upto sigmaCompleteSpec)) sigmaCompleteUptoCard

/-- THE SECOND FORM's CARD OF 'dominolaw16.SigmaOnce'. -/
def sigmaOnceUptoCard : Claim7 := { stood := { row := sigmaOnceUptoRow, standIns := [], harness := (true, "82157d4e328a061784dc718d726121388702a985537db1dd35e3cb80443a5f63"), looks := false }, kinds := [], alts := [], laidByText := true, laidKinds := [.data, .data, .data], laidTests := true, laidLooks := .later }
def SigmaOnceUptoCardSaid : Prop := Claim7.holds Tryz.pinned (.plain (OpenSpec.upto sigmaOnceSpec)) sigmaOnceUptoCard

/-- THE SECOND FORM's CARD OF 'dominolaw16.SigmaSound'. -/
def sigmaSoundUptoCard : Claim7 := { stood := { row := sigmaSoundUptoRow, standIns := [], harness := (true, "82157d4e328a061784dc718d726121388702a985537db1dd35e3cb80443a5f63"), looks := false }, kinds := [], alts := [], laidByText := true, laidKinds := [.data, .data, .data], laidTests := true, laidLooks := .later }
def SigmaSoundUptoCardSaid : Prop := Claim7.holds Tryz.pinned (.plain (OpenSpec.upto sigmaSoundSpec)) sigmaSoundUptoCard

/-- THE SECOND FORM's CARD OF 'dominolaw16.SigmaCommits'. -/
def sigmaCommitsUptoCard : Claim7 := { stood := { row := sigmaCommitsUptoRow, standIns := [], harness := (true, "82157d4e328a061784dc718d726121388702a985537db1dd35e3cb80443a5f63"), looks := false }, kinds := [], alts := [], laidByText := true, laidKinds := [.data, .data, .data], laidTests := true, laidLooks := .later }
def SigmaCommitsUptoCardSaid : Prop := Claim7.holds Tryz.pinned (.plain (OpenSpec.upto sigmaCommitsSpec)) sigmaCommitsUptoCard
end Rows
end Go.Proofs.YtcfjcenmcpankaaGreatDoor
