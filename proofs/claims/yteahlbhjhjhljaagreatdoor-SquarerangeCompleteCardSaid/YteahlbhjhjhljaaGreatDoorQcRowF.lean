/- dominolaw27.SquarerangeComplete: the row and its tied card: the row without its card. -/
import Derived.Test.YteahlbhjhjhljaaGreatDoorQcRowA
import Derived.Test.YteahlbhjhjhljaaGreatDoorQcRowK
set_option linter.unusedVariables false
set_option linter.unusedSimpArgs false
set_option maxRecDepth 100000
set_option maxHeartbeats 16000000
namespace Go.Proofs.YteahlbhjhjhljaaGreatDoor
open Go.RowKit Go.WideShapes Go.ChangeShapes Go.ChangeAt Go.Joins Go.Deep
open Go.ChangeMaps (open_string shut_string)
theorem sqcp_facts:joinedFacts Tryz.prog 3 Tryz.f3 Rows.squarerangeCompleteSpec Rows.squarerangeCompleteRow=true:=by
 unfold joinedFacts;rw [sqcp_k0,sqcp_k1,sqcp_k2,sqcp_k3,sqcp_k4,sqcp_k5,sqcp_k6,sqcp_k7,sqcp_k8,sqcp_k9,sqcp_k10];kernel_rfl
theorem sqcp_holds:Rows.SquarerangeCompleteSaid:=
 OpenClaim.holds_of_wide 3 Tryz.f3 rfl rfl rfl rfl rfl rfl rfl ⟨rfl,rfl,rfl,rfl,rfl⟩ rfl rfl rfl rfl rfl (by kernel_rfl) Tryz.func3 sqcp_facts
  (of_decide_eq_true (by kernel_rfl)) (by unfold Func.isWrapper;first | (rw [if_pos (by decide +kernel)];kernel_rfl) | (rw [if_neg (by decide +kernel)];exact ⟨rfl,rfl⟩))
  (fun os started H enc _=>sqcp_lifted os started H enc)
end Go.Proofs.YteahlbhjhjhljaaGreatDoor
