/- dominolaw17.SimulatorCounts: the row and its tied card: the row without its card. -/
import Derived.Test.YtihjpddbjhcbmaaGreatDoorCtRowA
import Derived.Test.YtihjpddbjhcbmaaGreatDoorCtRowK
set_option linter.unusedVariables false
set_option linter.unusedSimpArgs false
set_option maxRecDepth 100000
set_option maxHeartbeats 16000000
namespace Go.Proofs.YtihjpddbjhcbmaaGreatDoor
open Go.RowKit Go.WideShapes Go.ChangeShapes Go.ChangeAt Go.Joins Go.Deep
open Go.ChangeMaps (open_string shut_string)
theorem scnt_facts:joinedFacts Tryz.prog 7 Tryz.f7 Rows.simulatorCountsSpec Rows.simulatorCountsRow=true:=by
 unfold joinedFacts;rw[scnt_k0,scnt_k1,scnt_k2,scnt_k3,scnt_k4,scnt_k5,scnt_k6,scnt_k7,scnt_k8,scnt_k9,scnt_k10];kernel_rfl
theorem scnt_holds:Rows.SimulatorCountsSaid:=
 OpenClaim.holds_of_wide 7 Tryz.f7 rfl rfl rfl rfl rfl rfl rfl ⟨rfl,rfl,rfl,rfl,rfl⟩ rfl rfl rfl rfl rfl (by kernel_rfl) Tryz.func7 scnt_facts
  (of_decide_eq_true (by kernel_rfl)) (by unfold Func.isWrapper;first | (rw[if_pos (by decide +kernel)];kernel_rfl) | (rw[if_neg (by decide +kernel)];exact⟨rfl,rfl⟩))
  (fun os started H enc _=>scnt_lifted os started H enc)
end Go.Proofs.YtihjpddbjhcbmaaGreatDoor
