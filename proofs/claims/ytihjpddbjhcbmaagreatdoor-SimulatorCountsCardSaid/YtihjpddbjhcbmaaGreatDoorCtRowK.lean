/- dominolaw17.SimulatorCounts: the row and its tied card: closed facts. -/
import Derived.Test.YtihjpddbjhcbmaaGreatDoorLd16
set_option linter.unusedVariables false
set_option linter.unusedSimpArgs false
set_option maxRecDepth 100000
set_option maxHeartbeats 16000000
namespace Go.Proofs.YtihjpddbjhcbmaaGreatDoor
open Go.RowKit Go.WideShapes Go.ChangeShapes Go.ChangeAt Go.Joins Go.Deep
open Go.ChangeMaps (open_string shut_string)
theorem scnt_k0:(Rows.simulatorCountsRow.inPlace==Tryz.prog.inPlace 7)=true:=by kernel_rfl
theorem scnt_k1:(Rows.simulatorCountsRow.unfollowed==Tryz.prog.unfollowed 7)=true:=by kernel_rfl
theorem scnt_k2:(Rows.simulatorCountsRow.recurses==Tryz.prog.recurses 7)=true:=by kernel_rfl
theorem scnt_k3:(Rows.simulatorCountsRow.named==Tryz.prog.varsNamed 7)=true:=by kernel_rfl
theorem scnt_k4:(laidOutB Tryz.prog)=true:=by kernel_rfl
theorem scnt_k5:(mapsRowed Tryz.prog)=true:=by kernel_rfl
theorem scnt_k6:(Tryz.prog.stopsHeard)=true:=by kernel_rfl
theorem scnt_k7:(Tryz.prog.mayEnter)=true:=by kernel_rfl
theorem scnt_k8:(Rows.simulatorCountsRow.lifted==Tryz.prog.liftsFinal)=true:=by kernel_rfl
theorem scnt_k9:(Rows.simulatorCountsRow.plainKeys==Tryz.prog.plainKeys)=true:=by kernel_rfl
theorem scnt_k10:(Rows.simulatorCountsRow.pinned==Rows.simulatorCountsRow.pinnedBy)=true:=by kernel_rfl
end Go.Proofs.YtihjpddbjhcbmaaGreatDoor
