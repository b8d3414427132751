/- dominolaw27.SquarerangeWitnesses: the row and its tied card: closed facts. -/
import Derived.Test.YtfgandecbkbleaaGreatDoorLdvl
import Derived.Test.YtfgandecbkbleaaGreatDoorLd16
set_option linter.unusedVariables false
set_option linter.unusedSimpArgs false
set_option maxRecDepth 100000
namespace Go.Proofs.YtfgandecbkbleaaGreatDoor
open Go.RowKit Go.WideShapes Go.ChangeShapes Go.ChangeAt Go.Joins Go.Deep
open Go.ChangeMaps (open_string shut_string)

theorem sqwi_k0 : (Rows.squarerangeWitnessesRow.inPlace == Tryz.prog.inPlace 3) = true := by kernel_rfl
theorem sqwi_k1 : (Rows.squarerangeWitnessesRow.unfollowed == Tryz.prog.unfollowed 3) = true := by kernel_rfl
theorem sqwi_k2 : (Rows.squarerangeWitnessesRow.recurses == Tryz.prog.recurses 3) = true := by kernel_rfl
theorem sqwi_k3 : (Rows.squarerangeWitnessesRow.named == Tryz.prog.varsNamed 3) = true := by kernel_rfl
theorem sqwi_k4 : (laidOutB Tryz.prog) = true := by kernel_rfl
theorem sqwi_k5 : (mapsRowed Tryz.prog) = true := by kernel_rfl
theorem sqwi_k6 : (Tryz.prog.stopsHeard) = true := by kernel_rfl
theorem sqwi_k7 : (Tryz.prog.mayEnter) = true := by kernel_rfl
theorem sqwi_k8 : (Rows.squarerangeWitnessesRow.lifted == Tryz.prog.liftsFinal) = true := by kernel_rfl
theorem sqwi_k9 : (Rows.squarerangeWitnessesRow.plainKeys == Tryz.prog.plainKeys) = true := by kernel_rfl
theorem sqwi_k10 : (Rows.squarerangeWitnessesRow.pinned == Rows.squarerangeWitnessesRow.pinnedBy) = true := by kernel_rfl
end Go.Proofs.YtfgandecbkbleaaGreatDoor
