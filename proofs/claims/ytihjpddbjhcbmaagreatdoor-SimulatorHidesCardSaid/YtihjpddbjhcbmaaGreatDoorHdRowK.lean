/- dominolaw17.SimulatorHides: the row and its tied card: closed facts. -/
import Derived.Test.YtihjpddbjhcbmaaGreatDoorLd16
set_option linter.unusedVariables false
set_option linter.unusedSimpArgs false
set_option maxRecDepth 100000
set_option maxHeartbeats 16000000
namespace Go.Proofs.YtihjpddbjhcbmaaGreatDoor
open Go.RowKit Go.WideShapes Go.ChangeShapes Go.ChangeAt Go.Joins Go.Deep
open Go.ChangeMaps (open_string shut_string)
theorem shid_k0:(Rows.simulatorHidesRow.inPlace==Tryz.prog.inPlace 6)=true:=by kernel_rfl
theorem shid_k1:(Rows.simulatorHidesRow.unfollowed==Tryz.prog.unfollowed 6)=true:=by kernel_rfl
theorem shid_k2:(Rows.simulatorHidesRow.recurses==Tryz.prog.recurses 6)=true:=by kernel_rfl
theorem shid_k3:(Rows.simulatorHidesRow.named==Tryz.prog.varsNamed 6)=true:=by kernel_rfl
theorem shid_k4:(laidOutB Tryz.prog)=true:=by kernel_rfl
theorem shid_k5:(mapsRowed Tryz.prog)=true:=by kernel_rfl
theorem shid_k6:(Tryz.prog.stopsHeard)=true:=by kernel_rfl
theorem shid_k7:(Tryz.prog.mayEnter)=true:=by kernel_rfl
theorem shid_k8:(Rows.simulatorHidesRow.lifted==Tryz.prog.liftsFinal)=true:=by kernel_rfl
theorem shid_k9:(Rows.simulatorHidesRow.plainKeys==Tryz.prog.plainKeys)=true:=by kernel_rfl
theorem shid_k10:(Rows.simulatorHidesRow.pinned==Rows.simulatorHidesRow.pinnedBy)=true:=by kernel_rfl
end Go.Proofs.YtihjpddbjhcbmaaGreatDoor
