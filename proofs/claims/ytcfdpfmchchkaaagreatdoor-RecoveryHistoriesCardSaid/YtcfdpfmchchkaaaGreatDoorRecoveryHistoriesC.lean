/-
  RecoveryHistories: closed facts of the row.
-/
import Derived.Test.YtcfdpfmchchkaaaGreatDoorRcClo
namespace Go.Proofs.YtcfdpfmchchkaaaGreatDoor.recoveryHistories
open Go.ChangeShapes Go.WideShapes Go.ChangeAt Go.RowKit
open Go.ChangeMaps (open_string shut_string)
set_option linter.unusedVariables false
set_option linter.unusedSimpArgs false
theorem cl10:(Rows.recoveryHistoriesRow.inPlace==Tryz.prog.inPlace 7)=true:=by kernel_rfl
theorem cl11:(Rows.recoveryHistoriesRow.unfollowed==Tryz.prog.unfollowed 7)=true:=by kernel_rfl
theorem cl12:(Rows.recoveryHistoriesRow.recurses==Tryz.prog.recurses 7)=true:=by kernel_rfl
theorem cl13:(Rows.recoveryHistoriesRow.named==Tryz.prog.varsNamed 7)=true:=by kernel_rfl
theorem cl0:Tryz.prog.funcNamed Rows.recoveryHistoriesRow.func=some 7:=by kernel_rfl
theorem cl14:false=Rows.recoveryHistoriesRow.goesBy Tryz.prog:=by kernel_rfl
theorem cl15:Rows.recoveryHistoriesRow.wfByText (OpenSpec.ofChange Rows.recoveryHistoriesSpec)=true:=by kernel_rfl
end Go.Proofs.YtcfdpfmchchkaaaGreatDoor.recoveryHistories
