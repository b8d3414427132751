/- dominolaw27.SquarerangePrepares: the row and its tied card: the row without its card. -/
import Derived.Test.YtfgandecbkbleaaGreatDoorPpRowA
import Derived.Test.YtfgandecbkbleaaGreatDoorPpRowK
set_option linter.unusedVariables false
set_option linter.unusedSimpArgs false
set_option maxRecDepth 100000
set_option maxHeartbeats 16000000
namespace Go.Proofs.YtfgandecbkbleaaGreatDoor
open Go.RowKit Go.WideShapes Go.ChangeShapes Go.ChangeAt Go.Joins Go.Deep
open Go.ChangeMaps (open_string shut_string)
theorem sqpp_facts:joinedFacts Tryz.prog 4 Tryz.f4 Rows.squarerangePreparesSpec Rows.squarerangePreparesRow=true:=by
 unfold joinedFacts;rw [sqpp_k0,sqpp_k1,sqpp_k2,sqpp_k3,sqpp_k4,sqpp_k5,sqpp_k6,sqpp_k7,sqpp_k8,sqpp_k9,sqpp_k10];kernel_rfl
theorem sqpp_holds:Rows.SquarerangePreparesSaid:=
 OpenClaim.holds_of_wide 4 Tryz.f4 rfl rfl rfl rfl rfl rfl rfl ⟨rfl,rfl,rfl,rfl,rfl⟩ rfl rfl rfl rfl rfl (by kernel_rfl) Tryz.func4 sqpp_facts
  (of_decide_eq_true (by kernel_rfl)) (by unfold Func.isWrapper;first | (rw [if_pos (by decide +kernel)];kernel_rfl) | (rw [if_neg (by decide +kernel)];exact ⟨rfl,rfl⟩))
  (fun os started H enc _=>sqpp_lifted os started H enc)
end Go.Proofs.YtfgandecbkbleaaGreatDoor
