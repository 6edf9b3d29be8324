/-
  RecoveryMeans: closed facts of the row.
-/
import Derived.Test.YtcfdpfmchchkaaaGreatDoorRcClo
namespace Go.Proofs.YtcfdpfmchchkaaaGreatDoor.recoveryMeans
open Go.ChangeShapes Go.WideShapes Go.ChangeAt Go.RowKit
open Go.ChangeMaps (open_string shut_string)
set_option linter.unusedVariables false
set_option linter.unusedSimpArgs false
theorem cl10:(Rows.recoveryMeansRow.inPlace==Tryz.prog.inPlace 6)=true:=by kernel_rfl
theorem cl11:(Rows.recoveryMeansRow.unfollowed==Tryz.prog.unfollowed 6)=true:=by kernel_rfl
theorem cl12:(Rows.recoveryMeansRow.recurses==Tryz.prog.recurses 6)=true:=by kernel_rfl
theorem cl13:(Rows.recoveryMeansRow.named==Tryz.prog.varsNamed 6)=true:=by kernel_rfl
theorem cl0:Tryz.prog.funcNamed Rows.recoveryMeansRow.func=some 6:=by kernel_rfl
theorem cl14:false=Rows.recoveryMeansRow.goesBy Tryz.prog:=by kernel_rfl
theorem cl15:Rows.recoveryMeansRow.wfByText (OpenSpec.ofChange Rows.recoveryMeansSpec)=true:=by kernel_rfl
end Go.Proofs.YtcfdpfmchchkaaaGreatDoor.recoveryMeans
