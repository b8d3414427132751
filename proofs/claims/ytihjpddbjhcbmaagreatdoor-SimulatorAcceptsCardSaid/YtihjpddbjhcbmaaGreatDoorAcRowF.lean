/- dominolaw17.SimulatorAccepts: the row and its tied card: the row without its card. -/
import Derived.Test.YtihjpddbjhcbmaaGreatDoorAcRowA
import Derived.Test.YtihjpddbjhcbmaaGreatDoorAcRowK
set_option linter.unusedVariables false
set_option linter.unusedSimpArgs false
set_option maxRecDepth 100000
set_option maxHeartbeats 16000000
namespace Go.Proofs.YtihjpddbjhcbmaaGreatDoor
open Go.RowKit Go.WideShapes Go.ChangeShapes Go.ChangeAt Go.Joins Go.Deep
open Go.ChangeMaps (open_string shut_string)
theorem sacc_facts:joinedFacts Tryz.prog 5 Tryz.f5 Rows.simulatorAcceptsSpec Rows.simulatorAcceptsRow=true:=by
 unfold joinedFacts;rw[sacc_k0,sacc_k1,sacc_k2,sacc_k3,sacc_k4,sacc_k5,sacc_k6,sacc_k7,sacc_k8,sacc_k9,sacc_k10];kernel_rfl
theorem sacc_holds:Rows.SimulatorAcceptsSaid:=
 OpenClaim.holds_of_wide 5 Tryz.f5 rfl rfl rfl rfl rfl rfl rfl ⟨rfl,rfl,rfl,rfl,rfl⟩ rfl rfl rfl rfl rfl (by kernel_rfl) Tryz.func5 sacc_facts
  (of_decide_eq_true (by kernel_rfl)) (by unfold Func.isWrapper;first | (rw[if_pos (by decide +kernel)];kernel_rfl) | (rw[if_neg (by decide +kernel)];exact⟨rfl,rfl⟩))
  (fun os started H enc _=>sacc_lifted os started H enc)
end Go.Proofs.YtihjpddbjhcbmaaGreatDoor
