/- dominolaw17.SimulatorAgrees: the row and its tied card: closed facts. -/
import Derived.Test.YtihjpddbjhcbmaaGreatDoorLd16
set_option linter.unusedVariables false
set_option linter.unusedSimpArgs false
set_option maxRecDepth 100000
set_option maxHeartbeats 16000000
namespace Go.Proofs.YtihjpddbjhcbmaaGreatDoor
open Go.RowKit Go.WideShapes Go.ChangeShapes Go.ChangeAt Go.Joins Go.Deep
open Go.ChangeMaps (open_string shut_string)
theorem sagr_k0:(Rows.simulatorAgreesRow.inPlace==Tryz.prog.inPlace 8)=true:=by kernel_rfl
theorem sagr_k1:(Rows.simulatorAgreesRow.unfollowed==Tryz.prog.unfollowed 8)=true:=by kernel_rfl
theorem sagr_k2:(Rows.simulatorAgreesRow.recurses==Tryz.prog.recurses 8)=true:=by kernel_rfl
theorem sagr_k3:(Rows.simulatorAgreesRow.named==Tryz.prog.varsNamed 8)=true:=by kernel_rfl
theorem sagr_k4:(laidOutB Tryz.prog)=true:=by kernel_rfl
theorem sagr_k5:(mapsRowed Tryz.prog)=true:=by kernel_rfl
theorem sagr_k6:(Tryz.prog.stopsHeard)=true:=by kernel_rfl
theorem sagr_k7:(Tryz.prog.mayEnter)=true:=by kernel_rfl
theorem sagr_k8:(Rows.simulatorAgreesRow.lifted==Tryz.prog.liftsFinal)=true:=by kernel_rfl
theorem sagr_k9:(Rows.simulatorAgreesRow.plainKeys==Tryz.prog.plainKeys)=true:=by kernel_rfl
theorem sagr_k10:(Rows.simulatorAgreesRow.pinned==Rows.simulatorAgreesRow.pinnedBy)=true:=by kernel_rfl
end Go.Proofs.YtihjpddbjhcbmaaGreatDoor
