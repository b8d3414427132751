/- dominolaw17.SimulatorAgrees: the row and its tied card: the row without its card. -/
import Derived.Test.YtihjpddbjhcbmaaGreatDoorAgRowA
import Derived.Test.YtihjpddbjhcbmaaGreatDoorAgRowK
set_option linter.unusedVariables false
set_option linter.unusedSimpArgs false
set_option maxRecDepth 100000
set_option maxHeartbeats 16000000
namespace Go.Proofs.YtihjpddbjhcbmaaGreatDoor
open Go.RowKit Go.WideShapes Go.ChangeShapes Go.ChangeAt Go.Joins Go.Deep
open Go.ChangeMaps (open_string shut_string)
theorem sagr_facts:joinedFacts Tryz.prog 8 Tryz.f8 Rows.simulatorAgreesSpec Rows.simulatorAgreesRow=true:=by
 unfold joinedFacts;rw[sagr_k0,sagr_k1,sagr_k2,sagr_k3,sagr_k4,sagr_k5,sagr_k6,sagr_k7,sagr_k8,sagr_k9,sagr_k10];kernel_rfl
theorem sagr_holds:Rows.SimulatorAgreesSaid:=
 OpenClaim.holds_of_wide 8 Tryz.f8 rfl rfl rfl rfl rfl rfl rfl ⟨rfl,rfl,rfl,rfl,rfl⟩ rfl rfl rfl rfl rfl (by kernel_rfl) Tryz.func8 sagr_facts
  (of_decide_eq_true (by kernel_rfl)) (by unfold Func.isWrapper;first | (rw[if_pos (by decide +kernel)];kernel_rfl) | (rw[if_neg (by decide +kernel)];exact⟨rfl,rfl⟩))
  (fun os started H enc _=>sagr_lifted os started H enc)
end Go.Proofs.YtihjpddbjhcbmaaGreatDoor
