/- dominolaw24.RangeproofWidths: the row and its tied card: the row without its card. -/
import Derived.Test.YtdoacbdkbbpamaaGreatDoorWdRowA
import Derived.Test.YtdoacbdkbbpamaaGreatDoorWdRowK
set_option linter.unusedVariables false
set_option linter.unusedSimpArgs false
set_option maxRecDepth 100000
set_option maxHeartbeats 16000000
namespace Go.Proofs.YtdoacbdkbbpamaaGreatDoor
open Go.RowKit Go.WideShapes Go.ChangeShapes Go.ChangeAt Go.Joins Go.Deep
open Go.ChangeMaps (open_string shut_string)
theorem rgwd_facts:joinedFacts Tryz.prog 3 Tryz.f3 Rows.rangeproofWidthsSpec Rows.rangeproofWidthsRow=true:=by
 unfold joinedFacts;rw [rgwd_k0,rgwd_k1,rgwd_k2,rgwd_k3,rgwd_k4,rgwd_k5,rgwd_k6,rgwd_k7,rgwd_k8,rgwd_k9,rgwd_k10];kernel_rfl
theorem rgwd_holds:Rows.RangeproofWidthsSaid:=
 OpenClaim.holds_of_wide 3 Tryz.f3 rfl rfl rfl rfl rfl rfl rfl ⟨rfl,rfl,rfl,rfl,rfl⟩ rfl rfl rfl rfl rfl (by kernel_rfl) Tryz.func3 rgwd_facts
  (of_decide_eq_true (by kernel_rfl)) (by unfold Func.isWrapper;first | (rw [if_pos (by decide +kernel)];kernel_rfl) | (rw [if_neg (by decide +kernel)];exact ⟨rfl,rfl⟩))
  (fun os started H enc _=>rgwd_lifted os started H enc)
end Go.Proofs.YtdoacbdkbbpamaaGreatDoor
