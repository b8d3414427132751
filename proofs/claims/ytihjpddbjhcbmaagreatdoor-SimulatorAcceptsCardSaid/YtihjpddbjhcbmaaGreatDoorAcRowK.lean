/- dominolaw17.SimulatorAccepts: the row and its tied card: closed facts. -/
import Derived.Test.YtihjpddbjhcbmaaGreatDoorLd16
set_option linter.unusedVariables false
set_option linter.unusedSimpArgs false
set_option maxRecDepth 100000
set_option maxHeartbeats 16000000
namespace Go.Proofs.YtihjpddbjhcbmaaGreatDoor
open Go.RowKit Go.WideShapes Go.ChangeShapes Go.ChangeAt Go.Joins Go.Deep
open Go.ChangeMaps (open_string shut_string)
theorem sacc_k0:(Rows.simulatorAcceptsRow.inPlace==Tryz.prog.inPlace 5)=true:=by kernel_rfl
theorem sacc_k1:(Rows.simulatorAcceptsRow.unfollowed==Tryz.prog.unfollowed 5)=true:=by kernel_rfl
theorem sacc_k2:(Rows.simulatorAcceptsRow.recurses==Tryz.prog.recurses 5)=true:=by kernel_rfl
theorem sacc_k3:(Rows.simulatorAcceptsRow.named==Tryz.prog.varsNamed 5)=true:=by kernel_rfl
theorem sacc_k4:(laidOutB Tryz.prog)=true:=by kernel_rfl
theorem sacc_k5:(mapsRowed Tryz.prog)=true:=by kernel_rfl
theorem sacc_k6:(Tryz.prog.stopsHeard)=true:=by kernel_rfl
theorem sacc_k7:(Tryz.prog.mayEnter)=true:=by kernel_rfl
theorem sacc_k8:(Rows.simulatorAcceptsRow.lifted==Tryz.prog.liftsFinal)=true:=by kernel_rfl
theorem sacc_k9:(Rows.simulatorAcceptsRow.plainKeys==Tryz.prog.plainKeys)=true:=by kernel_rfl
theorem sacc_k10:(Rows.simulatorAcceptsRow.pinned==Rows.simulatorAcceptsRow.pinnedBy)=true:=by kernel_rfl
end Go.Proofs.YtihjpddbjhcbmaaGreatDoor
