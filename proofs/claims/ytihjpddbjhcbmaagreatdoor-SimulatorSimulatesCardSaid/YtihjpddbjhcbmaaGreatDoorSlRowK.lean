/- dominolaw17.SimulatorSimulates: the row and its tied card: closed facts. -/
import Derived.Test.YtihjpddbjhcbmaaGreatDoorLd16
set_option linter.unusedVariables false
set_option linter.unusedSimpArgs false
set_option maxRecDepth 100000
set_option maxHeartbeats 16000000
namespace Go.Proofs.YtihjpddbjhcbmaaGreatDoor
open Go.RowKit Go.WideShapes Go.ChangeShapes Go.ChangeAt Go.Joins Go.Deep
open Go.ChangeMaps (open_string shut_string)
theorem ssim_k0:(Rows.simulatorSimulatesRow.inPlace==Tryz.prog.inPlace 4)=true:=by kernel_rfl
theorem ssim_k1:(Rows.simulatorSimulatesRow.unfollowed==Tryz.prog.unfollowed 4)=true:=by kernel_rfl
theorem ssim_k2:(Rows.simulatorSimulatesRow.recurses==Tryz.prog.recurses 4)=true:=by kernel_rfl
theorem ssim_k3:(Rows.simulatorSimulatesRow.named==Tryz.prog.varsNamed 4)=true:=by kernel_rfl
theorem ssim_k4:(laidOutB Tryz.prog)=true:=by kernel_rfl
theorem ssim_k5:(mapsRowed Tryz.prog)=true:=by kernel_rfl
theorem ssim_k6:(Tryz.prog.stopsHeard)=true:=by kernel_rfl
theorem ssim_k7:(Tryz.prog.mayEnter)=true:=by kernel_rfl
theorem ssim_k8:(Rows.simulatorSimulatesRow.lifted==Tryz.prog.liftsFinal)=true:=by kernel_rfl
theorem ssim_k9:(Rows.simulatorSimulatesRow.plainKeys==Tryz.prog.plainKeys)=true:=by kernel_rfl
theorem ssim_k10:(Rows.simulatorSimulatesRow.pinned==Rows.simulatorSimulatesRow.pinnedBy)=true:=by kernel_rfl
end Go.Proofs.YtihjpddbjhcbmaaGreatDoor
