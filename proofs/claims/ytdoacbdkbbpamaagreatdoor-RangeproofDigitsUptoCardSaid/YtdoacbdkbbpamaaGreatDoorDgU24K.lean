/- dominolaw24.RangeproofDigits,second form: the row and its tied card: closed facts. -/
import Derived.Test.YtdoacbdkbbpamaaGreatDoorPpU24K
import Derived.Test.YtdoacbdkbbpamaaGreatDoorRows
set_option linter.unusedVariables false
set_option linter.unusedSimpArgs false
set_option maxRecDepth 100000
set_option maxHeartbeats 16000000
namespace Go.Proofs.YtdoacbdkbbpamaaGreatDoor
open Go.RowKit Go.WideShapes Go.ChangeShapes Go.ChangeAt Go.Joins Go.Deep
open Go.ChangeMaps (open_string shut_string)
theorem rgdg_k0:(Rows.rangeproofDigitsUptoRow.inPlace==Tryz.prog.inPlace 4)=true:=by kernel_rfl
theorem rgdg_k1:(Rows.rangeproofDigitsUptoRow.unfollowed==Tryz.prog.unfollowed 4)=true:=by kernel_rfl
theorem rgdg_k2:(Rows.rangeproofDigitsUptoRow.recurses==Tryz.prog.recurses 4)=true:=by kernel_rfl
theorem rgdg_k3:(Rows.rangeproofDigitsUptoRow.named==Tryz.prog.varsNamed 4)=true:=by kernel_rfl
theorem rgdg_k4:(laidOutB Tryz.prog)=true:=by kernel_rfl
theorem rgdg_k5:(mapsRowed Tryz.prog)=true:=by kernel_rfl
theorem rgdg_k6:(Tryz.prog.stopsHeard)=true:=by kernel_rfl
theorem rgdg_k7:(Tryz.prog.mayEnter)=true:=by kernel_rfl
theorem rgdg_k8:(Rows.rangeproofDigitsUptoRow.lifted==Tryz.prog.liftsFinal)=true:=by kernel_rfl
theorem rgdg_k9:(Rows.rangeproofDigitsUptoRow.plainKeys==Tryz.prog.plainKeys)=true:=by kernel_rfl
theorem rgdg_k10:(Rows.rangeproofDigitsUptoRow.pinned==Rows.rangeproofDigitsUptoRow.pinnedBy)=true:=by kernel_rfl
end Go.Proofs.YtdoacbdkbbpamaaGreatDoor
