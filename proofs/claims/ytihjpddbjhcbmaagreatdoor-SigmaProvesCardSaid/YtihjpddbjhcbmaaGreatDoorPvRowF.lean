/- dominolaw16.SigmaProves: the row and its tied card: the row without its card. -/
import Derived.Test.YtihjpddbjhcbmaaGreatDoorPvRowA
import Derived.Test.YtihjpddbjhcbmaaGreatDoorPvRowK
set_option linter.unusedVariables false
set_option linter.unusedSimpArgs false
set_option maxRecDepth 100000
set_option maxHeartbeats 16000000
namespace Go.Proofs.YtihjpddbjhcbmaaGreatDoor
open Go.RowKit Go.WideShapes Go.ChangeShapes Go.ChangeAt Go.Joins Go.Deep
open Go.ChangeMaps (open_string shut_string)
theorem sprv_facts:joinedFacts Tryz.prog 3 Tryz.f3 Rows.sigmaProvesSpec Rows.sigmaProvesRow=true:=by
 unfold joinedFacts;rw[sprv_k0,sprv_k1,sprv_k2,sprv_k3,sprv_k4,sprv_k5,sprv_k6,sprv_k7,sprv_k8,sprv_k9,sprv_k10];kernel_rfl
theorem sprv_holds:Rows.SigmaProvesSaid:=
 OpenClaim.holds_of_wide 3 Tryz.f3 rfl rfl rfl rfl rfl rfl rfl ⟨rfl,rfl,rfl,rfl,rfl⟩ rfl rfl rfl rfl rfl (by kernel_rfl) Tryz.func3 sprv_facts
  (of_decide_eq_true (by kernel_rfl)) (by unfold Func.isWrapper;first | (rw[if_pos (by decide +kernel)];kernel_rfl) | (rw[if_neg (by decide +kernel)];exact⟨rfl,rfl⟩))
  (fun os started H enc _=>sprv_lifted os started H enc)
end Go.Proofs.YtihjpddbjhcbmaaGreatDoor
