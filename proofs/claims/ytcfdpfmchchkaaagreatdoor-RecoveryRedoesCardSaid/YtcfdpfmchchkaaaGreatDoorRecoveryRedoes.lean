/-
  RecoveryRedoes: the row (the frame began as the kit's proof-skeleton).
-/
import Derived.Test.YtcfdpfmchchkaaaGreatDoorRecoveryRedoesL
import Derived.Test.YtcfdpfmchchkaaaGreatDoorRecoveryRedoesC
namespace Go.Proofs.YtcfdpfmchchkaaaGreatDoor.recoveryRedoes
open Go.ChangeShapes Go.WideShapes Go.ChangeAt Go.RowKit
open Go.ChangeMaps (open_string shut_string)
set_option linter.unusedVariables false
set_option linter.unusedSimpArgs false
theorem over:Rows.recoveryRedoesRow.holds Tryz.pinned (OpenSpec.ofChange Rows.recoveryRedoesSpec):=
 OpenClaim.holds_of_wide 5 Tryz.f5 rfl rfl rfl rfl rfl rfl rfl ⟨rfl,rfl,rfl,rfl,rfl⟩ rfl rfl rfl rfl rfl cl0 Tryz.func5 (uz (by kernel_rfl) lg mZ (by kernel_rfl) (by kernel_rfl) (by kernel_rfl) uR (by kernel_rfl) vX cl10 cl11 cl12 cl13 (by kernel_rfl) (by kernel_rfl) (by kernel_rfl) (by kernel_rfl) (by kernel_rfl) (by kernel_rfl) (by kernel_rfl) (by kernel_rfl) (by kernel_rfl) xb (by kernel_rfl) vV vA uA wT (by kernel_rfl) (by kernel_rfl) (by kernel_rfl) (by kernel_rfl))
  (of_decide_eq_true (by kernel_rfl)) (by unfold Func.isWrapper;first | (rw[if_pos (by decide +kernel)];kernel_rfl) | (rw[if_neg (by decide +kernel)];exact⟨rfl,rfl⟩))
  (fun os started H enc _=>lifted os started H enc)
theorem proved:Rows.RecoveryRedoesCardSaid:=
 Claim7.holds_tied_plain_at .later [] [.data,.widerDeep,.pinned] true _ false over (fun _ h=>by cases h) cl15 (fun _ h=>by cases h) recoveryRedoes_row_tie rfl ⟨rfl,rfl⟩ xM rfl
  (fun f fn hf hfn=>by
   obtain rfl:f=5:=Option.some.inj ((show _=some 5 from cl0).symm.trans hf) |>.symm;obtain rfl:fn=Tryz.f5:=(Option.some.inj (Tryz.func5.symm.trans hfn)).symm
   exact⟨vd,fun j t ht=>by
    rw[Tryz.params5] at ht
    have hm:t∈[41,25,48]:=by simpa using Array.mem_of_getElem? ht
    have hall:([41,25,48].all fun u=>!Tryz.prog.wantsStandIn u)=true:=by kernel_rfl
    exact(show Tryz.prog.wantsStandIn t=false by simpa using List.all_eq_true.1 hall t hm)⟩)
  cl14
end Go.Proofs.YtcfdpfmchchkaaaGreatDoor.recoveryRedoes
