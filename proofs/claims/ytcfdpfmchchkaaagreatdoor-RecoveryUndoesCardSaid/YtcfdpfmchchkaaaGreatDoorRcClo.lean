/- Chapter 22 -/
import Derived.Test.YtcfdpfmchchkaaaGreatDoorRows
import Derived.Test.YtcfdpfmchchkaaaGreatDoorCards
import Derived.JoinedOf
import Derived.ProofKit
namespace Go.Proofs.YtcfdpfmchchkaaaGreatDoor
set_option linter.unusedVariables false
theorem zT {P:Program} {f:FuncId} {fn:Func} {s:ChangeSpec} {c:OpenClaim} (a:c.wf (OpenSpec.ofChange s)=true) (u:laidOutB P=true) (h3:mapsRowed P=true) (A:fn.params.all (P.readableRec ·)=true) (i:namedTie P c.named s.vars=true) (m:(c.stops==[])=true) (d:(P.stops==[])=true) (v:(c.knobs==[])=true) (q:(P.stopKnobs==[])=true) (x:(c.inPlace==P.inPlace f)=true) (n:(c.unfollowed==P.unfollowed f)=true) (b:(c.recurses==P.recurses f)=true) (E:(c.named==P.varsNamed f)=true) (j:(c.maps==(fn.params.toList ++ s.plain.varTypes P).any (P.mapsRec ·))=true) (y:(c.ifaces==(fn.params.toList ++ s.plain.varTypes P).any (P.ifacesRec ·))=true) (l:(c.mapsOut==P.mapsAmong fn.resultTypes.toList)=true) (C:(c.loops==(fn.params.toList ++ s.plain.varTypes P).any (P.loopsFrom ·))=true) (h:(c.wideKeys==(fn.params.toList ++ s.plain.varTypes P ++ fn.resultTypes.toList).any (P.wideKeysFrom ·))=true) (z:s.vars.all (P.varReadable ·)=true) (G:fn.resultTypes.all (fun t=>P.readableRec t&&decide (t<P.types.size))=true) (p:(c.ifacesOut==fn.resultTypes.toList.any (P.ifacesRec ·))=true) (g:(c.loopsOut==fn.resultTypes.toList.any (P.loopsFrom ·))=true) (F:(c.plainKeys==P.plainKeys)=true) (B:c.shortTexts.isNone=true) (H:P.stopsHeard=true) (w:P.mayEnter=true) (r:(c.lifted==P.liftsFinal)=true) (J:(P.make==some c.make)=true) (I:(c.kinds==(if c.domain.isEmpty then [] else fn.params.toList.map fun t=>match P.underlying t with | some (.int k)=>some k | _=>none))=true) (e:(c.pinned==c.pinnedBy)=true) (D:(c.veiled==(fn.params.toList ++ s.plain.varTypes P ++ fn.resultTypes.toList).any (P.veiledRec ·))=true) (o:c.veiledFits P fn.params.toList (fn.params.toList ++ s.plain.varTypes P ++ fn.resultTypes.toList)=true):joinedFacts P f fn s c=true:=by
 unfold joinedFacts;exact Bool.and_eq_true_iff.2 ⟨Bool.and_eq_true_iff.2 ⟨Bool.and_eq_true_iff.2 ⟨Bool.and_eq_true_iff.2 ⟨Bool.and_eq_true_iff.2 ⟨Bool.and_eq_true_iff.2 ⟨Bool.and_eq_true_iff.2 ⟨Bool.and_eq_true_iff.2 ⟨Bool.and_eq_true_iff.2 ⟨Bool.and_eq_true_iff.2 ⟨Bool.and_eq_true_iff.2 ⟨Bool.and_eq_true_iff.2 ⟨Bool.and_eq_true_iff.2 ⟨Bool.and_eq_true_iff.2 ⟨Bool.and_eq_true_iff.2 ⟨Bool.and_eq_true_iff.2 ⟨Bool.and_eq_true_iff.2 ⟨Bool.and_eq_true_iff.2 ⟨Bool.and_eq_true_iff.2 ⟨Bool.and_eq_true_iff.2 ⟨Bool.and_eq_true_iff.2 ⟨Bool.and_eq_true_iff.2 ⟨Bool.and_eq_true_iff.2 ⟨Bool.and_eq_true_iff.2 ⟨Bool.and_eq_true_iff.2 ⟨Bool.and_eq_true_iff.2 ⟨Bool.and_eq_true_iff.2 ⟨Bool.and_eq_true_iff.2 ⟨Bool.and_eq_true_iff.2 ⟨Bool.and_eq_true_iff.2 ⟨Bool.and_eq_true_iff.2 ⟨a,u⟩,h3⟩,A⟩,i⟩,m⟩,d⟩,v⟩,q⟩,x⟩,n⟩,b⟩,E⟩,j⟩,y⟩,l⟩,C⟩,h⟩,z⟩,G⟩,p⟩,g⟩,F⟩,B⟩,H⟩,w⟩,r⟩,J⟩,I⟩,e⟩,D⟩,o⟩
theorem pv:laidOutB Tryz.prog=true:=by kernel_rfl
theorem se:mapsRowed Tryz.prog=true:=by kernel_rfl
theorem AY:(Tryz.prog.stops==[])=true:=by kernel_rfl
theorem A7:(Tryz.prog.stopKnobs==[])=true:=by kernel_rfl
theorem Ct:(Rows.recoveryTablesRow.plainKeys==Tryz.prog.plainKeys)=true:=by kernel_rfl
theorem AR:Tryz.prog.stopsHeard=true:=by kernel_rfl
theorem Bq:Tryz.prog.mayEnter=true:=by kernel_rfl
theorem Ab:(Rows.recoveryTablesRow.lifted==Tryz.prog.liftsFinal)=true:=by kernel_rfl
theorem Ed:(Tryz.prog.make==some Rows.recoveryTablesRow.make)=true:=by kernel_rfl
theorem Dn:Tryz.prog.mainIs=some (Rows.recoveryTablesCard.stood.harness.1,Rows.recoveryTablesCard.stood.harness.2.toList):=by kernel_rfl
theorem AX:false=Tryz.prog.looks []:=by kernel_rfl
end Go.Proofs.YtcfdpfmchchkaaaGreatDoor
