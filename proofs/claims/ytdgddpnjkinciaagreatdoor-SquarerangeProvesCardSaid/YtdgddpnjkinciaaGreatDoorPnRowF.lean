/- dominolaw27.SquarerangeProves: the row and its tied card: the row without its card. -/
import Derived.Test.YtdgddpnjkinciaaGreatDoorPnRowA
import Derived.Test.YtdgddpnjkinciaaGreatDoorPnRowK
set_option linter.all false
set_option maxRecDepth 100000
set_option maxHeartbeats 16000000
namespace Go.Proofs.YtdgddpnjkinciaaGreatDoor
open Go.RowKit Go.WideShapes Go.ChangeShapes Go.ChangeAt Go.Joins Go.Deep
open Go.ChangeMaps (open_string shut_string)
theorem sqpv_facts:joinedFacts Tryz.prog 3 Tryz.f3 Rows.squarerangeProvesSpec Rows.squarerangeProvesRow=true:=by
 unfold joinedFacts;rw[sqpv_k0,sqpv_k1,sqpv_k2,sqpv_k3,sqpv_k4,sqpv_k5,sqpv_k6,sqpv_k7,sqpv_k8,sqpv_k9,sqpv_k10];kernel_rfl
theorem sqpv_holds:Rows.SquarerangeProvesSaid:=
 OpenClaim.holds_of_wide 3 Tryz.f3 rfl rfl rfl rfl rfl rfl rfl ⟨rfl,rfl,rfl,rfl,rfl⟩ rfl rfl rfl rfl rfl (by kernel_rfl) Tryz.func3 sqpv_facts
  (of_decide_eq_true (by kernel_rfl)) (by unfold Func.isWrapper;first | (rw[if_pos (by decide +kernel)];kernel_rfl) | (rw[if_neg (by decide +kernel)];exact⟨rfl,rfl⟩))
  (fun os started H enc _=>sqpv_lifted os started H enc)
end Go.Proofs.YtdgddpnjkinciaaGreatDoor
