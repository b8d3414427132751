/-
  DERIVED. GIVEN WITH THE SEED: THE CARDS: each row of YtdoacbdkbbpamaaGreatDoorRows.lean that lists a variable, with what it lists TIED to the program's text (the seventh form; the later family's looks); each row that meets fmt, with fmt's text TOLD by the authors' own Lean function (tested against real Go, not proved from fmt's source: count such statements apart). THE CARD IS WHAT COUNTS. Prove the row's statement (the work); the ties are given (YtdoacbdkbbpamaaGreatDoorTie.lean); close each card by the builder's one call (the guide's Derived/Test/ToyasCard.lean, 'card_holds'). Laid BY PROGRAM, IN A SANDBOX (cutbox-door.mjs). By AI agents, Wed Nov 11 2026. No macro, syntax, notation, axiom, sorry.
-/
import Derived.Test.YtdoacbdkbbpamaaGreatDoorRows
import GoSem.ClaimSeven
namespace Go.Proofs.YtdoacbdkbbpamaaGreatDoor
namespace Rows

/-- THE TIED CARD OF 'dominolaw24.RangeproofWidths'. -/
def rangeproofWidthsCard : Claim7 := { stood := { row := rangeproofWidthsRow, standIns := [], harness := (true, "fc42e0e0a57166f47e3b6ca160b611345919af0c3d3be17fa9680d967dc65fe8"), looks := false }, kinds := [], alts := [], laidByText := true, laidKinds := [.data, .data, .data], laidTests := true, laidLooks := .later }
def RangeproofWidthsCardSaid : Prop := Claim7.holds Tryz.pinned (.plain (OpenSpec.ofChange rangeproofWidthsSpec)) rangeproofWidthsCard

/-- THE TIED CARD OF 'dominolaw24.RangeproofDigits'. -/
def rangeproofDigitsCard : Claim7 := { stood := { row := rangeproofDigitsRow, standIns := [], harness := (true, "fc42e0e0a57166f47e3b6ca160b611345919af0c3d3be17fa9680d967dc65fe8"), looks := false }, kinds := [], alts := [], laidByText := true, laidKinds := [.data, .data, .data], laidTests := true, laidLooks := .later }
def RangeproofDigitsCardSaid : Prop := Claim7.holds Tryz.pinned (.plain (OpenSpec.ofChange rangeproofDigitsSpec)) rangeproofDigitsCard

/-- THE TIED CARD OF 'dominolaw24.RangeproofPrepares'. -/
def rangeproofPreparesCard : Claim7 := { stood := { row := rangeproofPreparesRow, standIns := [], harness := (true, "fc42e0e0a57166f47e3b6ca160b611345919af0c3d3be17fa9680d967dc65fe8"), looks := false }, kinds := [], alts := [], laidByText := true, laidKinds := [.data, .data, .data], laidTests := true, laidLooks := .later }
def RangeproofPreparesCardSaid : Prop := Claim7.holds Tryz.pinned (.plain (OpenSpec.ofChange rangeproofPreparesSpec)) rangeproofPreparesCard

/-- THE TIED CARD OF 'dominolaw24.RangeproofWitnesses'. -/
def rangeproofWitnessesCard : Claim7 := { stood := { row := rangeproofWitnessesRow, standIns := [], harness := (true, "fc42e0e0a57166f47e3b6ca160b611345919af0c3d3be17fa9680d967dc65fe8"), looks := false }, kinds := [], alts := [], laidByText := true, laidKinds := [.data, .data, .data], laidTests := true, laidLooks := .later }
def RangeproofWitnessesCardSaid : Prop := Claim7.holds Tryz.pinned (.plain (OpenSpec.ofChange rangeproofWitnessesSpec)) rangeproofWitnessesCard

/-- THE SECOND FORM's CARD OF 'dominolaw24.RangeproofWidths'. -/
def rangeproofWidthsUptoCard : Claim7 := { stood := { row := rangeproofWidthsUptoRow, standIns := [], harness := (true, "fc42e0e0a57166f47e3b6ca160b611345919af0c3d3be17fa9680d967dc65fe8"), looks := false }, kinds := [], alts := [], laidByText := true, laidKinds := [.data, .data, .data], laidTests := true, laidLooks := .later }
def RangeproofWidthsUptoCardSaid : Prop := Claim7.holds Tryz.pinned (.plain (OpenSpec.upto rangeproofWidthsSpec)) rangeproofWidthsUptoCard

/-- THE SECOND FORM's CARD OF 'dominolaw24.RangeproofDigits'. -/
def rangeproofDigitsUptoCard : Claim7 := { stood := { row := rangeproofDigitsUptoRow, standIns := [], harness := (true, "fc42e0e0a57166f47e3b6ca160b611345919af0c3d3be17fa9680d967dc65fe8"), looks := false }, kinds := [], alts := [], laidByText := true, laidKinds := [.data, .data, .data], laidTests := true, laidLooks := .later }
def RangeproofDigitsUptoCardSaid : Prop := Claim7.holds Tryz.pinned (.plain (OpenSpec.upto rangeproofDigitsSpec)) rangeproofDigitsUptoCard

/-- THE SECOND FORM's CARD OF 'dominolaw24.RangeproofPrepares'. -/
def rangeproofPreparesUptoCard : Claim7 := { stood := { row := rangeproofPreparesUptoRow, standIns := [], harness := (true, "fc42e0e0a57166f47e3b6ca160b611345919af0c3d3be17fa9680d967dc65fe8"), looks := false }, kinds := [], alts := [], laidByText := true, laidKinds := [.data, .data, .data], laidTests := true, laidLooks := .later }
def RangeproofPreparesUptoCardSaid : Prop := Claim7.holds Tryz.pinned (.plain (OpenSpec.upto rangeproofPreparesSpec)) rangeproofPreparesUptoCard

/-- THE SECOND FORM's CARD OF 'dominolaw24.RangeproofWitnesses'. -/
def rangeproofWitnessesUptoCard : Claim7 := { stood := { row := rangeproofWitnessesUptoRow, standIns := [], harness := (true, "fc42e0e0a57166f47e3b6ca160b611345919af0c3d3be17fa9680d967dc65fe8"), looks := false }, kinds := [], alts := [], laidByText := true, laidKinds := [.data, .data, .data], laidTests := true, laidLooks := .later }
def RangeproofWitnessesUptoCardSaid : Prop := Claim7.holds Tryz.pinned (.plain (OpenSpec.upto rangeproofWitnessesSpec)) rangeproofWitnessesUptoCard
end Rows
end Go.Proofs.YtdoacbdkbbpamaaGreatDoor
