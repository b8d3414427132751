/- dominolaw27.SquarerangeWitnesses: the row and its tied card: the row without its card. -/
import Derived.Test.YtfgandecbkbleaaGreatDoorWiRowA
import Derived.Test.YtfgandecbkbleaaGreatDoorWiRowK
set_option linter.unusedVariables false
set_option linter.unusedSimpArgs false
set_option maxRecDepth 100000
namespace Go.Proofs.YtfgandecbkbleaaGreatDoor
open Go.RowKit Go.WideShapes Go.ChangeShapes Go.ChangeAt Go.Joins Go.Deep
open Go.ChangeMaps (open_string shut_string)

theorem sqwi_facts : joinedFacts Tryz.prog 3 Tryz.f3 Rows.squarerangeWitnessesSpec Rows.squarerangeWitnessesRow = true := by
 unfold joinedFacts
 rw [sqwi_k0, sqwi_k1, sqwi_k2, sqwi_k3, sqwi_k4, sqwi_k5, sqwi_k6, sqwi_k7, sqwi_k8, sqwi_k9, sqwi_k10]
 kernel_rfl

theorem sqwi_holds : Rows.SquarerangeWitnessesSaid :=
 OpenClaim.holds_of_wide 3 Tryz.f3 rfl rfl rfl rfl rfl rfl rfl ⟨rfl, rfl, rfl, rfl, rfl⟩ rfl rfl rfl rfl rfl (by kernel_rfl) Tryz.func3 sqwi_facts
  (of_decide_eq_true (by kernel_rfl)) (by unfold Func.isWrapper; first | (rw [if_pos (by decide +kernel)]; kernel_rfl) | (rw [if_neg (by decide +kernel)]; exact ⟨rfl, rfl⟩))
  (fun os started H enc _ => sqwi_lifted os started H enc)

end Go.Proofs.YtfgandecbkbleaaGreatDoor
