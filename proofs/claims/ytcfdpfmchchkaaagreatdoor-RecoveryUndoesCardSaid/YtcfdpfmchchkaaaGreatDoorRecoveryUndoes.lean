/- U -/
import Derived.Test.YtcfdpfmchchkaaaGreatDoorRecoveryUndoesL
import Derived.Test.YtcfdpfmchchkaaaGreatDoorRecoveryUndoesC
namespace Go.Proofs.YtcfdpfmchchkaaaGreatDoor.recoveryUndoes
open Go.ChangeShapes Go.WideShapes Go.ChangeAt Go.RowKit
set_option linter.all false
theorem over:Rows.recoveryUndoesRow.holds Tryz.pinned (OpenSpec.ofChange Rows.recoveryUndoesSpec):=
 OpenClaim.holds_of_wide 8 Tryz.f8 rfl rfl rfl rfl rfl rfl rfl ⟨rfl,rfl,rfl,rfl,rfl⟩ rfl rfl rfl rfl rfl cl0 Tryz.func8 (zT aa pv se aa aa aa AY aa A7 cl10 cl11 cl12 cl13 aa aa aa aa aa aa aa aa aa Ct aa AR Bq Ab Ed aa aa aa aa)
  (of_decide_eq_true aa) (by unfold Func.isWrapper;rw[if_neg (by decide +kernel)];exact⟨rfl,rfl⟩)
  (fun os a H enc _=>lifted os a H enc)
theorem proved:Rows.RecoveryUndoesCardSaid:=
 Claim7.holds_tied_plain_at .later [] [.data,.widerDeep,.pinned] true _ false over (fun _ h=>by cases h) cl15 (fun _ h=>by cases h) recoveryUndoes_row_tie rfl ⟨rfl,rfl⟩ Dn rfl
  (fun f fn hf b=>by
   obtain rfl:f=8:=Option.some.inj ((show _=some 8 from cl0).symm.trans hf) |>.symm;obtain rfl:fn=Tryz.f8:=(Option.some.inj (Tryz.func8.symm.trans b)).symm
   exact⟨AX,fun j t ht=>by
    rw[Tryz.params8] at ht
    have hm:t∈[73,25,48]:=by simpa using Array.mem_of_getElem? ht
    have a:([73,25,48].all fun u=>!Tryz.prog.wantsStandIn u)=true:=by kernel_rfl
    exact(show Tryz.prog.wantsStandIn t=false by simpa using List.all_eq_true.1 a t hm)⟩)
  cl14
end Go.Proofs.YtcfdpfmchchkaaaGreatDoor.recoveryUndoes
