/- RecoveryCheckpoints -/
import Derived.Test.YtcfdpfmchchkaaaGreatDoorRecoveryCheckpointsL
import Derived.Test.YtcfdpfmchchkaaaGreatDoorRecoveryCheckpointsC
namespace Go.Proofs.YtcfdpfmchchkaaaGreatDoor.recoveryCheckpoints
open Go.ChangeShapes Go.WideShapes Go.ChangeAt Go.RowKit
open Go.ChangeMaps (open_string shut_string)
set_option linter.unusedVariables false
set_option linter.unusedSimpArgs false
theorem over:Rows.recoveryCheckpointsRow.holds Tryz.pinned (OpenSpec.ofChange Rows.recoveryCheckpointsSpec):=
 OpenClaim.holds_of_wide 9 Tryz.f9 rfl rfl rfl rfl rfl rfl rfl ⟨rfl,rfl,rfl,rfl,rfl⟩ rfl rfl rfl rfl rfl cl0 Tryz.func9 (zJ aa nS qN aa aa aa Ac aa zH cl10 cl11 cl12 cl13 aa aa aa aa aa aa aa aa aa Cb aa zu Am zz CL aa aa aa aa)
  (of_decide_eq_true aa) (by unfold Func.isWrapper;first | (rw[if_pos (by decide +kernel)];kernel_rfl) | (rw[if_neg (by decide +kernel)];exact⟨rfl,rfl⟩))
  (fun os a H enc _=>lifted os a H enc)
theorem proved:Rows.RecoveryCheckpointsCardSaid:=
 Claim7.holds_tied_plain_at .later [] [.data,.widerDeep,.pinned] true _ false over (fun _ h=>by cases h) cl15 (fun _ h=>by cases h) recoveryCheckpoints_row_tie rfl ⟨rfl,rfl⟩ CC rfl
  (fun f fn hf b=>by
   obtain rfl:f=9:=Option.some.inj ((show _=some 9 from cl0).symm.trans hf) |>.symm;obtain rfl:fn=Tryz.f9:=(Option.some.inj (Tryz.func9.symm.trans b)).symm
   exact⟨Al,fun j t ht=>by
    rw[Tryz.params9] at ht
    have hm:t∈[73,25]:=by simpa using Array.mem_of_getElem? ht
    have a:([73,25].all fun u=>!Tryz.prog.wantsStandIn u)=true:=by kernel_rfl
    exact(show Tryz.prog.wantsStandIn t=false by simpa using List.all_eq_true.1 a t hm)⟩)
  cl14
end Go.Proofs.YtcfdpfmchchkaaaGreatDoor.recoveryCheckpoints
