/-
  RecoveryHistories: the row (the frame began as the kit's proof-skeleton).
-/
import Derived.Test.YtcfdpfmchchkaaaGreatDoorRecoveryHistoriesL
import Derived.Test.YtcfdpfmchchkaaaGreatDoorRecoveryHistoriesC
namespace Go.Proofs.YtcfdpfmchchkaaaGreatDoor.recoveryHistories
open Go.ChangeShapes Go.WideShapes Go.ChangeAt Go.RowKit
open Go.ChangeMaps (open_string shut_string)
set_option linter.unusedVariables false
set_option linter.unusedSimpArgs false
theorem over:Rows.recoveryHistoriesRow.holds Tryz.pinned (OpenSpec.ofChange Rows.recoveryHistoriesSpec):=
 OpenClaim.holds_of_wide 7 Tryz.f7 rfl rfl rfl rfl rfl rfl rfl ⟨rfl,rfl,rfl,rfl,rfl⟩ rfl rfl rfl rfl rfl cl0 Tryz.func7 (vI aa lq n9 aa aa aa wN aa vn cl10 cl11 cl12 cl13 aa aa aa aa aa aa aa aa aa yO aa wG wj wI yS aa aa aa aa)
  (of_decide_eq_true aa) (by unfold Func.isWrapper;first | (rw[if_pos (by decide +kernel)];kernel_rfl) | (rw[if_neg (by decide +kernel)];exact⟨rfl,rfl⟩))
  (fun os started H enc _=>lifted os started H enc)
theorem proved:Rows.RecoveryHistoriesCardSaid:=
 Claim7.holds_tied_plain_at .later [] [.data,.widerDeep,.pinned] true _ false over (fun _ h=>by cases h) cl15 (fun _ h=>by cases h) recoveryHistories_row_tie rfl ⟨rfl,rfl⟩ zd rfl
  (fun f fn hf hfn=>by
   obtain rfl:f=7:=Option.some.inj ((show _=some 7 from cl0).symm.trans hf) |>.symm;obtain rfl:fn=Tryz.f7:=(Option.some.inj (Tryz.func7.symm.trans hfn)).symm
   exact⟨wt,fun j t ht=>by
    rw[Tryz.params7] at ht
    have hm:t∈[41,73]:=by simpa using Array.mem_of_getElem? ht
    have hall:([41,73].all fun u=>!Tryz.prog.wantsStandIn u)=true:=by kernel_rfl
    exact(show Tryz.prog.wantsStandIn t=false by simpa using List.all_eq_true.1 hall t hm)⟩)
  cl14
end Go.Proofs.YtcfdpfmchchkaaaGreatDoor.recoveryHistories
