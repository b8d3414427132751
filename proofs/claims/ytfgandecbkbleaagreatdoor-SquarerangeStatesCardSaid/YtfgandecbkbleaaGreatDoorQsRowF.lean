/- dominolaw27.SquarerangeStates: the row and its tied card: the row without its card. -/
import Derived.Test.YtfgandecbkbleaaGreatDoorQsRowA
import Derived.Test.YtfgandecbkbleaaGreatDoorQsRowK
set_option linter.unusedVariables false
set_option linter.unusedSimpArgs false
set_option maxRecDepth 100000
set_option maxHeartbeats 16000000
namespace Go.Proofs.YtfgandecbkbleaaGreatDoor
open Go.RowKit Go.WideShapes Go.ChangeShapes Go.ChangeAt Go.Joins Go.Deep
open Go.ChangeMaps (open_string shut_string)
theorem sqst_facts:joinedFacts Tryz.prog 5 Tryz.f5 Rows.squarerangeStatesSpec Rows.squarerangeStatesRow=true:=by
 unfold joinedFacts;rw [sqst_k0,sqst_k1,sqst_k2,sqst_k3,sqst_k4,sqst_k5,sqst_k6,sqst_k7,sqst_k8,sqst_k9,sqst_k10];kernel_rfl
theorem sqst_holds:Rows.SquarerangeStatesSaid:=
 OpenClaim.holds_of_wide 5 Tryz.f5 rfl rfl rfl rfl rfl rfl rfl ⟨rfl,rfl,rfl,rfl,rfl⟩ rfl rfl rfl rfl rfl (by kernel_rfl) Tryz.func5 sqst_facts
  (of_decide_eq_true (by kernel_rfl)) (by unfold Func.isWrapper;first | (rw [if_pos (by decide +kernel)];kernel_rfl) | (rw [if_neg (by decide +kernel)];exact ⟨rfl,rfl⟩))
  (fun os started H enc _=>sqst_lifted os started H enc)
end Go.Proofs.YtfgandecbkbleaaGreatDoor
