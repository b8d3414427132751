/- dominolaw17.SimulatorSimulates: the row and its tied card: the row without its card. -/
import Derived.Test.YtihjpddbjhcbmaaGreatDoorSlRowA
import Derived.Test.YtihjpddbjhcbmaaGreatDoorSlRowK
set_option linter.unusedVariables false
set_option linter.unusedSimpArgs false
set_option maxRecDepth 100000
set_option maxHeartbeats 16000000
namespace Go.Proofs.YtihjpddbjhcbmaaGreatDoor
open Go.RowKit Go.WideShapes Go.ChangeShapes Go.ChangeAt Go.Joins Go.Deep
open Go.ChangeMaps (open_string shut_string)
theorem ssim_facts:joinedFacts Tryz.prog 4 Tryz.f4 Rows.simulatorSimulatesSpec Rows.simulatorSimulatesRow=true:=by
 unfold joinedFacts;rw[ssim_k0,ssim_k1,ssim_k2,ssim_k3,ssim_k4,ssim_k5,ssim_k6,ssim_k7,ssim_k8,ssim_k9,ssim_k10];kernel_rfl
theorem ssim_holds:Rows.SimulatorSimulatesSaid:=
 OpenClaim.holds_of_wide 4 Tryz.f4 rfl rfl rfl rfl rfl rfl rfl ⟨rfl,rfl,rfl,rfl,rfl⟩ rfl rfl rfl rfl rfl (by kernel_rfl) Tryz.func4 ssim_facts
  (of_decide_eq_true (by kernel_rfl)) (by unfold Func.isWrapper;first | (rw[if_pos (by decide +kernel)];kernel_rfl) | (rw[if_neg (by decide +kernel)];exact⟨rfl,rfl⟩))
  (fun os started H enc _=>ssim_lifted os started H enc)
end Go.Proofs.YtihjpddbjhcbmaaGreatDoor
