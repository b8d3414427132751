/- dominolaw17.SimulatorHides: the row and its tied card: the row without its card. -/
import Derived.Test.YtihjpddbjhcbmaaGreatDoorHdRowA
import Derived.Test.YtihjpddbjhcbmaaGreatDoorHdRowK
set_option linter.unusedVariables false
set_option linter.unusedSimpArgs false
set_option maxRecDepth 100000
set_option maxHeartbeats 16000000
namespace Go.Proofs.YtihjpddbjhcbmaaGreatDoor
open Go.RowKit Go.WideShapes Go.ChangeShapes Go.ChangeAt Go.Joins Go.Deep
open Go.ChangeMaps (open_string shut_string)
theorem shid_facts:joinedFacts Tryz.prog 6 Tryz.f6 Rows.simulatorHidesSpec Rows.simulatorHidesRow=true:=by
 unfold joinedFacts;rw[shid_k0,shid_k1,shid_k2,shid_k3,shid_k4,shid_k5,shid_k6,shid_k7,shid_k8,shid_k9,shid_k10];kernel_rfl
theorem shid_holds:Rows.SimulatorHidesSaid:=
 OpenClaim.holds_of_wide 6 Tryz.f6 rfl rfl rfl rfl rfl rfl rfl ⟨rfl,rfl,rfl,rfl,rfl⟩ rfl rfl rfl rfl rfl (by kernel_rfl) Tryz.func6 shid_facts
  (of_decide_eq_true (by kernel_rfl)) (by unfold Func.isWrapper;first | (rw[if_pos (by decide +kernel)];kernel_rfl) | (rw[if_neg (by decide +kernel)];exact⟨rfl,rfl⟩))
  (fun os started H enc _=>shid_lifted os started H enc)
end Go.Proofs.YtihjpddbjhcbmaaGreatDoor
