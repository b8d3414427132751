/- dominolaw27.SquarerangeSound: the row and its tied card: the row without its card. -/
import Derived.Test.YtfgandecbkbleaaGreatDoorQnRowA
import Derived.Test.YtfgandecbkbleaaGreatDoorQnRowK
set_option linter.unusedVariables false
set_option linter.unusedSimpArgs false
set_option maxRecDepth 100000
set_option maxHeartbeats 16000000
namespace Go.Proofs.YtfgandecbkbleaaGreatDoor
open Go.RowKit Go.WideShapes Go.ChangeShapes Go.ChangeAt Go.Joins Go.Deep
open Go.ChangeMaps (open_string shut_string)
theorem sqsn_facts:joinedFacts Tryz.prog 7 Tryz.f7 Rows.squarerangeSoundSpec Rows.squarerangeSoundRow=true:=by
 unfold joinedFacts;rw [sqsn_k0,sqsn_k1,sqsn_k2,sqsn_k3,sqsn_k4,sqsn_k5,sqsn_k6,sqsn_k7,sqsn_k8,sqsn_k9,sqsn_k10];kernel_rfl
theorem sqsn_holds:Rows.SquarerangeSoundSaid:=
 OpenClaim.holds_of_wide 7 Tryz.f7 rfl rfl rfl rfl rfl rfl rfl ⟨rfl,rfl,rfl,rfl,rfl⟩ rfl rfl rfl rfl rfl (by kernel_rfl) Tryz.func7 sqsn_facts
  (of_decide_eq_true (by kernel_rfl)) (by unfold Func.isWrapper;first | (rw [if_pos (by decide +kernel)];kernel_rfl) | (rw [if_neg (by decide +kernel)];exact ⟨rfl,rfl⟩))
  (fun os started H enc _=>sqsn_lifted os started H enc)
end Go.Proofs.YtfgandecbkbleaaGreatDoor
