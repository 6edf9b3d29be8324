/-
  Chapter 22: the closed facts of a row, one by one: together the kernel has no room for them; those of the program alone, once for all rows.
-/
import Derived.Test.YtcfdpfmchchkaaaGreatDoorRows
import Derived.Test.YtcfdpfmchchkaaaGreatDoorCards
import Derived.JoinedOf
import Derived.ProofKit
namespace Go.Proofs.YtcfdpfmchchkaaaGreatDoor
set_option linter.unusedVariables false
theorem vI {P:Program} {f:FuncId} {fn:Func} {s:ChangeSpec} {c:OpenClaim} (h1:c.wf (OpenSpec.ofChange s)=true) (h2:laidOutB P=true) (h3:mapsRowed P=true) (h4:fn.params.all (P.readableRec ·)=true) (h5:namedTie P c.named s.vars=true) (h6:(c.stops==[])=true) (h7:(P.stops==[])=true) (h8:(c.knobs==[])=true) (h9:(P.stopKnobs==[])=true) (Za:(c.inPlace==P.inPlace f)=true) (Zb:(c.unfollowed==P.unfollowed f)=true) (Zc:(c.recurses==P.recurses f)=true) (Zd:(c.named==P.varsNamed f)=true) (Ze:(c.maps==(fn.params.toList ++ s.plain.varTypes P).any (P.mapsRec ·))=true) (Zf:(c.ifaces==(fn.params.toList ++ s.plain.varTypes P).any (P.ifacesRec ·))=true) (Zg:(c.mapsOut==P.mapsAmong fn.resultTypes.toList)=true) (Zh:(c.loops==(fn.params.toList ++ s.plain.varTypes P).any (P.loopsFrom ·))=true) (Zi:(c.wideKeys==(fn.params.toList ++ s.plain.varTypes P ++ fn.resultTypes.toList).any (P.wideKeysFrom ·))=true) (Zj:s.vars.all (P.varReadable ·)=true) (Zk:fn.resultTypes.all (fun t=>P.readableRec t&&decide (t<P.types.size))=true) (Zl:(c.ifacesOut==fn.resultTypes.toList.any (P.ifacesRec ·))=true) (Zm:(c.loopsOut==fn.resultTypes.toList.any (P.loopsFrom ·))=true) (Zn:(c.plainKeys==P.plainKeys)=true) (Zo:c.shortTexts.isNone=true) (Zp:P.stopsHeard=true) (Zq:P.mayEnter=true) (Zr:(c.lifted==P.liftsFinal)=true) (Zs:(P.make==some c.make)=true) (Zt:(c.kinds==(if c.domain.isEmpty then [] else fn.params.toList.map fun t=>match P.underlying t with | some (.int k)=>some k | _=>none))=true) (Zu:(c.pinned==c.pinnedBy)=true) (Zv:(c.veiled==(fn.params.toList ++ s.plain.varTypes P ++ fn.resultTypes.toList).any (P.veiledRec ·))=true) (Zw:c.veiledFits P fn.params.toList (fn.params.toList ++ s.plain.varTypes P ++ fn.resultTypes.toList)=true):joinedFacts P f fn s c=true:=by
 unfold joinedFacts;exact Bool.and_eq_true_iff.2 ⟨Bool.and_eq_true_iff.2 ⟨Bool.and_eq_true_iff.2 ⟨Bool.and_eq_true_iff.2 ⟨Bool.and_eq_true_iff.2 ⟨Bool.and_eq_true_iff.2 ⟨Bool.and_eq_true_iff.2 ⟨Bool.and_eq_true_iff.2 ⟨Bool.and_eq_true_iff.2 ⟨Bool.and_eq_true_iff.2 ⟨Bool.and_eq_true_iff.2 ⟨Bool.and_eq_true_iff.2 ⟨Bool.and_eq_true_iff.2 ⟨Bool.and_eq_true_iff.2 ⟨Bool.and_eq_true_iff.2 ⟨Bool.and_eq_true_iff.2 ⟨Bool.and_eq_true_iff.2 ⟨Bool.and_eq_true_iff.2 ⟨Bool.and_eq_true_iff.2 ⟨Bool.and_eq_true_iff.2 ⟨Bool.and_eq_true_iff.2 ⟨Bool.and_eq_true_iff.2 ⟨Bool.and_eq_true_iff.2 ⟨Bool.and_eq_true_iff.2 ⟨Bool.and_eq_true_iff.2 ⟨Bool.and_eq_true_iff.2 ⟨Bool.and_eq_true_iff.2 ⟨Bool.and_eq_true_iff.2 ⟨Bool.and_eq_true_iff.2 ⟨Bool.and_eq_true_iff.2 ⟨Bool.and_eq_true_iff.2 ⟨h1,h2⟩,h3⟩,h4⟩,h5⟩,h6⟩,h7⟩,h8⟩,h9⟩,Za⟩,Zb⟩,Zc⟩,Zd⟩,Ze⟩,Zf⟩,Zg⟩,Zh⟩,Zi⟩,Zj⟩,Zk⟩,Zl⟩,Zm⟩,Zn⟩,Zo⟩,Zp⟩,Zq⟩,Zr⟩,Zs⟩,Zt⟩,Zu⟩,Zv⟩,Zw⟩
theorem lq:laidOutB Tryz.prog=true:=by kernel_rfl
theorem n9:mapsRowed Tryz.prog=true:=by kernel_rfl
theorem wN:(Tryz.prog.stops==[])=true:=by kernel_rfl
theorem vn:(Tryz.prog.stopKnobs==[])=true:=by kernel_rfl
theorem yO:(Rows.recoveryTablesRow.plainKeys==Tryz.prog.plainKeys)=true:=by kernel_rfl
theorem wG:Tryz.prog.stopsHeard=true:=by kernel_rfl
theorem wj:Tryz.prog.mayEnter=true:=by kernel_rfl
theorem wI:(Rows.recoveryTablesRow.lifted==Tryz.prog.liftsFinal)=true:=by kernel_rfl
theorem yS:(Tryz.prog.make==some Rows.recoveryTablesRow.make)=true:=by kernel_rfl
theorem zd:Tryz.prog.mainIs=some (Rows.recoveryTablesCard.stood.harness.1,Rows.recoveryTablesCard.stood.harness.2.toList):=by kernel_rfl
theorem wt:false=Tryz.prog.looks []:=by kernel_rfl
end Go.Proofs.YtcfdpfmchchkaaaGreatDoor
