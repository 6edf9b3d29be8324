/- U -/
import Derived.Test.YtcfdpfmchchkaaaGreatDoorWRcUnd
import Derived.ShutString
import Derived.ChangeOld
import Derived.Test.YtcfdpfmchchkaaaGreatDoorTie
import Derived.Lay
import Derived.SevenTiedAt
import Derived.Stop.Joined
import Derived.Test.YtcfdpfmchchkaaaGreatDoorRcClo
namespace Go.Proofs.YtcfdpfmchchkaaaGreatDoor.recoveryUndoes
set_option maxRecDepth 100000
set_option maxHeartbeats 2000000
open Go.ChangeShapes Go.WideShapes Go.ChangeAt Go.RowKit
set_option linter.all false
theorem own:ownKnob Tryz.prog.godebug=none:=by kernel_rfl
theorem laidOut:laidOutB Tryz.prog=true:=pv
theorem lifted (os:Os) (b:os.Started) (H:Type) (enc:TypeId × Value→H) :
 ReturnsInHanded {} Tryz.checked os 8 .any (fun w args=>(Rows.recoveryUndoesSpec.pre enc Tryz.prog Tryz.f8 Rows.recoveryUndoesRow.domain false w args∧laidMetH Tryz.prog Rows.recoveryUndoesRow.laid w)∧sizedMet enc Tryz.prog Tryz.f8 (OpenSpec.ofChange Rows.recoveryUndoesSpec) false w args)
  (Rows.recoveryUndoesSpec.post enc Tryz.prog Tryz.f8 false true false false):=by
 refine returnsInHanded_of_change_and (C:=Tryz.checked) (X:=fun w _=>laidMetH Tryz.prog Rows.recoveryUndoesRow.laid w) (fun _ _ _ hh h=>h.of_heap hh) own b aa Tryz.func8
  (ChangeSpec.witness_shaped (enc:=enc) (C:=Tryz.checked) (os:=os) (X:=fun w _=>laidMetH Tryz.prog Rows.recoveryUndoesRow.laid w) false (World.laidAll Tryz.prog os Rows.recoveryUndoesRow.laid) #[.agg #[.int .i64 0,.int .i64 0,.int .i64 0,.int .i64 0,.int .i64 0,.int .i64 0,.int .i64 0,.slice none 0 0,.int .i64 0],.agg #[.slice none 0 0,.slice none 0 0],.slice none 0 0] 8 (World.laidAll_os _ _ _)
   (World.shaped_of_ZipB aa aa) aa aa aa
   (by rw[MakeChecks.laidMetH_plain _ _ _ aa];exact laidMet_laidAll _ aa aa)) ?_
 intro W f args ds gs i c Q Jv _ hL _;have a:∀(j:Nat) t v,Tryz.f8.params[j]? = some t→args[j]? = some v→Value.okWide Tryz.prog W .any f t v:=c;have M:=Q;obtain⟨p,q,g,hV,rfl,Jw,Jz⟩:=Q;have hA:DataW.TrodAll enc Tryz.prog W 0 (fun _=>true) true Tryz.f8.params.toList args.toList ds p:=g;rw[Tryz.params8] at hA a;obtain⟨U,Jy,d0,Vc,p0,q0,l,rfl,rfl,R,r0⟩:=trodAll_cons hA;obtain⟨P,Vd,d1,Va,p1,q1,rfl,rfl,rfl,Y,r1⟩:=trodAll_cons r0;obtain⟨S,Jx,d2,Vb,p2,q2,rfl,rfl,rfl,T,r2⟩:=trodAll_cons r1;obtain⟨rfl,rfl,rfl⟩:=trodAll_nil r2
 obtain rfl:args=#[U,P,S]:=by cases args;simp_all
 obtain⟨rfl,rfl⟩:=trodVars_none hV
 have K:∀x∈p0,x.block<W.heap.size:=let⟨m,h⟩:=R;DataW.trod_lt m _ _ _ h
 obtain⟨E,y,n,rfl,G,A⟩:=A3 (a 0 73 U rfl rfl) R
 have u:∀x∈p1,x.block<W.heap.size:=let⟨m,h⟩:=Y;DataW.trod_lt m _ _ _ h
 obtain⟨t1,N,O,F,o,rfl,r,L⟩:=Db (a 1 25 P rfl rfl) Y
 have B:∀x∈p2,x.block<W.heap.size:=let⟨m,h⟩:=T;DataW.trod_lt m _ _ _ h
 obtain⟨s,D,J,rfl,z,k,I⟩:=xz (a 2 48 S rfl rfl) T;clear g c;refine(lP E G y n t1 N O F o J s D W A r L z k I (DI hL)).mono fun e W' ⟨he,d⟩=>?_;subst he;exact⟨_,rfl,_,_,_,[],_,[],M,trodAll_mk1 (shut_bool tX _),(trodAll_cons_mk (Below.trod laidOut aa (of_decide_eq_true aa) R d K) (trodAll_cons_mk (Below.trod laidOut aa (of_decide_eq_true aa) Y d u) (trodAll_cons_mk (Below.trod laidOut aa (of_decide_eq_true aa) T d B) trodAll_mk0))),rfl,d.frame _,fun h=>by cases h⟩
end Go.Proofs.YtcfdpfmchchkaaaGreatDoor.recoveryUndoes
