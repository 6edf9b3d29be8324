/- Chapter 22 -/
import Derived.Test.YtcfdpfmchchkaaaGreatDoorRows
import Derived.Test.YtcfdpfmchchkaaaGreatDoorCards
import Derived.JoinedOf
import Derived.ProofKit
namespace Go.Proofs.YtcfdpfmchchkaaaGreatDoor
set_option linter.unusedVariables false
theorem zJ {P:Program} {f:FuncId} {fn:Func} {s:ChangeSpec} {c:OpenClaim} (z:c.wf (OpenSpec.ofChange s)=true) (w:laidOutB P=true) (h3:mapsRowed P=true) (I:fn.params.all (P.readableRec ·)=true) (F:namedTie P c.named s.vars=true) (b:(c.stops==[])=true) (r:(P.stops==[])=true) (d:(c.knobs==[])=true) (J:(P.stopKnobs==[])=true) (G:(c.inPlace==P.inPlace f)=true) (j:(c.unfollowed==P.unfollowed f)=true) (p:(c.recurses==P.recurses f)=true) (m:(c.named==P.varsNamed f)=true) (g:(c.maps==(fn.params.toList ++ s.plain.varTypes P).any (P.mapsRec ·))=true) (q:(c.ifaces==(fn.params.toList ++ s.plain.varTypes P).any (P.ifacesRec ·))=true) (u:(c.mapsOut==P.mapsAmong fn.resultTypes.toList)=true) (a:(c.loops==(fn.params.toList ++ s.plain.varTypes P).any (P.loopsFrom ·))=true) (x:(c.wideKeys==(fn.params.toList ++ s.plain.varTypes P ++ fn.resultTypes.toList).any (P.wideKeysFrom ·))=true) (i:s.vars.all (P.varReadable ·)=true) (y:fn.resultTypes.all (fun t=>P.readableRec t&&decide (t<P.types.size))=true) (B:(c.ifacesOut==fn.resultTypes.toList.any (P.ifacesRec ·))=true) (h:(c.loopsOut==fn.resultTypes.toList.any (P.loopsFrom ·))=true) (A:(c.plainKeys==P.plainKeys)=true) (o:c.shortTexts.isNone=true) (e:P.stopsHeard=true) (v:P.mayEnter=true) (D:(c.lifted==P.liftsFinal)=true) (C:(P.make==some c.make)=true) (l:(c.kinds==(if c.domain.isEmpty then [] else fn.params.toList.map fun t=>match P.underlying t with | some (.int k)=>some k | _=>none))=true) (H:(c.pinned==c.pinnedBy)=true) (n:(c.veiled==(fn.params.toList ++ s.plain.varTypes P ++ fn.resultTypes.toList).any (P.veiledRec ·))=true) (E:c.veiledFits P fn.params.toList (fn.params.toList ++ s.plain.varTypes P ++ fn.resultTypes.toList)=true):joinedFacts P f fn s c=true:=by
 unfold joinedFacts;exact Bool.and_eq_true_iff.2 ⟨Bool.and_eq_true_iff.2 ⟨Bool.and_eq_true_iff.2 ⟨Bool.and_eq_true_iff.2 ⟨Bool.and_eq_true_iff.2 ⟨Bool.and_eq_true_iff.2 ⟨Bool.and_eq_true_iff.2 ⟨Bool.and_eq_true_iff.2 ⟨Bool.and_eq_true_iff.2 ⟨Bool.and_eq_true_iff.2 ⟨Bool.and_eq_true_iff.2 ⟨Bool.and_eq_true_iff.2 ⟨Bool.and_eq_true_iff.2 ⟨Bool.and_eq_true_iff.2 ⟨Bool.and_eq_true_iff.2 ⟨Bool.and_eq_true_iff.2 ⟨Bool.and_eq_true_iff.2 ⟨Bool.and_eq_true_iff.2 ⟨Bool.and_eq_true_iff.2 ⟨Bool.and_eq_true_iff.2 ⟨Bool.and_eq_true_iff.2 ⟨Bool.and_eq_true_iff.2 ⟨Bool.and_eq_true_iff.2 ⟨Bool.and_eq_true_iff.2 ⟨Bool.and_eq_true_iff.2 ⟨Bool.and_eq_true_iff.2 ⟨Bool.and_eq_true_iff.2 ⟨Bool.and_eq_true_iff.2 ⟨Bool.and_eq_true_iff.2 ⟨Bool.and_eq_true_iff.2 ⟨Bool.and_eq_true_iff.2 ⟨z,w⟩,h3⟩,I⟩,F⟩,b⟩,r⟩,d⟩,J⟩,G⟩,j⟩,p⟩,m⟩,g⟩,q⟩,u⟩,a⟩,x⟩,i⟩,y⟩,B⟩,h⟩,A⟩,o⟩,e⟩,v⟩,D⟩,C⟩,l⟩,H⟩,n⟩,E⟩
theorem nS:laidOutB Tryz.prog=true:=by kernel_rfl
theorem qN:mapsRowed Tryz.prog=true:=by kernel_rfl
theorem Ac:(Tryz.prog.stops==[])=true:=by kernel_rfl
theorem zH:(Tryz.prog.stopKnobs==[])=true:=by kernel_rfl
theorem Cb:(Rows.recoveryTablesRow.plainKeys==Tryz.prog.plainKeys)=true:=by kernel_rfl
theorem zu:Tryz.prog.stopsHeard=true:=by kernel_rfl
theorem Am:Tryz.prog.mayEnter=true:=by kernel_rfl
theorem zz:(Rows.recoveryTablesRow.lifted==Tryz.prog.liftsFinal)=true:=by kernel_rfl
theorem CL:(Tryz.prog.make==some Rows.recoveryTablesRow.make)=true:=by kernel_rfl
theorem CC:Tryz.prog.mainIs=some (Rows.recoveryTablesCard.stood.harness.1,Rows.recoveryTablesCard.stood.harness.2.toList):=by kernel_rfl
theorem Al:false=Tryz.prog.looks []:=by kernel_rfl
end Go.Proofs.YtcfdpfmchchkaaaGreatDoor
