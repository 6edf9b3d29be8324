/- U -/
import Derived.Test.YtcfdpfmchchkaaaGreatDoorRcClo
namespace Go.Proofs.YtcfdpfmchchkaaaGreatDoor.recoveryUndoes
theorem cl10:(Rows.recoveryUndoesRow.inPlace==Tryz.prog.inPlace 8)=true:=by kernel_rfl
theorem cl11:(Rows.recoveryUndoesRow.unfollowed==Tryz.prog.unfollowed 8)=true:=by kernel_rfl
theorem cl12:(Rows.recoveryUndoesRow.recurses==Tryz.prog.recurses 8)=true:=by kernel_rfl
theorem cl13:(Rows.recoveryUndoesRow.named==Tryz.prog.varsNamed 8)=true:=by kernel_rfl
theorem cl0:Tryz.prog.funcNamed Rows.recoveryUndoesRow.func=some 8:=by kernel_rfl
theorem cl14:false=Rows.recoveryUndoesRow.goesBy Tryz.prog:=by kernel_rfl
theorem cl15:Rows.recoveryUndoesRow.wfByText (OpenSpec.ofChange Rows.recoveryUndoesSpec)=true:=by kernel_rfl
end Go.Proofs.YtcfdpfmchchkaaaGreatDoor.recoveryUndoes
