/- RecoveryCheckpoints -/
import Derived.Test.YtcfdpfmchchkaaaGreatDoorRcClo
namespace Go.Proofs.YtcfdpfmchchkaaaGreatDoor.recoveryCheckpoints
open Go.ChangeShapes Go.WideShapes Go.ChangeAt Go.RowKit
open Go.ChangeMaps (open_string shut_string)
set_option linter.unusedVariables false
set_option linter.unusedSimpArgs false
theorem cl10:(Rows.recoveryCheckpointsRow.inPlace==Tryz.prog.inPlace 9)=true:=by kernel_rfl
theorem cl11:(Rows.recoveryCheckpointsRow.unfollowed==Tryz.prog.unfollowed 9)=true:=by kernel_rfl
theorem cl12:(Rows.recoveryCheckpointsRow.recurses==Tryz.prog.recurses 9)=true:=by kernel_rfl
theorem cl13:(Rows.recoveryCheckpointsRow.named==Tryz.prog.varsNamed 9)=true:=by kernel_rfl
theorem cl0:Tryz.prog.funcNamed Rows.recoveryCheckpointsRow.func=some 9:=by kernel_rfl
theorem cl14:false=Rows.recoveryCheckpointsRow.goesBy Tryz.prog:=by kernel_rfl
theorem cl15:Rows.recoveryCheckpointsRow.wfByText (OpenSpec.ofChange Rows.recoveryCheckpointsSpec)=true:=by kernel_rfl
end Go.Proofs.YtcfdpfmchchkaaaGreatDoor.recoveryCheckpoints
