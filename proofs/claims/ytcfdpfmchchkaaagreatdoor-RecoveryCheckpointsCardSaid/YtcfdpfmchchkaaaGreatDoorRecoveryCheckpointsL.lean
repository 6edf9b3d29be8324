/- RecoveryCheckpoints -/
import Derived.Test.YtcfdpfmchchkaaaGreatDoorWRcCkp
import Derived.ShutString
import Derived.ChangeOld
import Derived.Test.YtcfdpfmchchkaaaGreatDoorTie
import Derived.Lay
import Derived.SevenTiedAt
import Derived.Stop.Joined
import Derived.Test.YtcfdpfmchchkaaaGreatDoorRcClo
namespace Go.Proofs.YtcfdpfmchchkaaaGreatDoor.recoveryCheckpoints
set_option maxRecDepth 100000
set_option maxHeartbeats 2000000
open Go.ChangeShapes Go.WideShapes Go.ChangeAt Go.RowKit
open Go.ChangeMaps (open_string shut_string)
set_option linter.unusedVariables false
set_option linter.unusedSimpArgs false
theorem own:ownKnob Tryz.prog.godebug=none:=by kernel_rfl
theorem laidOut:laidOutB Tryz.prog=true:=nS
theorem lifted (os:Os) (a:os.Started) (H:Type) (enc:TypeId × Value→H) :
 ReturnsInHanded {} Tryz.checked os 9 .any (fun w args=>(Rows.recoveryCheckpointsSpec.pre enc Tryz.prog Tryz.f9 Rows.recoveryCheckpointsRow.domain false w args∧laidMetH Tryz.prog Rows.recoveryCheckpointsRow.laid w)∧sizedMet enc Tryz.prog Tryz.f9 (OpenSpec.ofChange Rows.recoveryCheckpointsSpec) false w args)
  (Rows.recoveryCheckpointsSpec.post enc Tryz.prog Tryz.f9 false true false false):=by
 refine returnsInHanded_of_change_and (C:=Tryz.checked) (X:=fun w _=>laidMetH Tryz.prog Rows.recoveryCheckpointsRow.laid w) (fun _ _ _ R h=>h.of_heap R) own a aa Tryz.func9
  (ChangeSpec.witness_shaped (enc:=enc) (C:=Tryz.checked) (os:=os) (X:=fun w _=>laidMetH Tryz.prog Rows.recoveryCheckpointsRow.laid w) false (World.laidAll Tryz.prog os Rows.recoveryCheckpointsRow.laid) #[.agg #[.int .i64 0,.int .i64 0,.int .i64 0,.int .i64 0,.int .i64 0,.int .i64 0,.int .i64 0,.slice none 0 0,.int .i64 0],.agg #[.slice none 0 0,.slice none 0 0]] 8 (World.laidAll_os _ _ _)
   (World.shaped_of_ZipB aa aa) aa aa aa
   (by rw[MakeChecks.laidMetH_plain _ _ _ aa];exact laidMet_laidAll _ aa aa)) ?_
 intro W f args ds gs i b J N _ S _;have c:∀(j:Nat) t v,Tryz.f9.params[j]? = some t→args[j]? = some v→Value.okWide Tryz.prog W .any f t v:=b;have o:=J;obtain⟨p,q,g,hV,rfl,T,Jv⟩:=J;have O:DataW.TrodAll enc Tryz.prog W 0 (fun _=>true) true Tryz.f9.params.toList args.toList ds p:=g;rw[Tryz.params9] at O c;obtain⟨I,U,d0,Jw,p0,q0,u,rfl,rfl,K,r0⟩:=trodAll_cons O;obtain⟨M,Y,d1,Q,p1,q1,rfl,rfl,rfl,L,Z⟩:=trodAll_cons r0;obtain⟨rfl,rfl,rfl⟩:=trodAll_nil Z
 obtain rfl:args=#[I,M]:=by cases args;simp_all
 obtain⟨rfl,rfl⟩:=trodVars_none hV;have k0:=K
 have F:∀x∈p0,x.block<W.heap.size:=by obtain⟨m,hm⟩:=k0;exact DataW.trod_lt m _ _ _ hm
 obtain⟨y,n,r,rfl,k,l⟩:=zC (c 0 73 I rfl rfl) K;have P:=L
 have E:∀x∈p1,x.block<W.heap.size:=by obtain⟨m,hm⟩:=P;exact DataW.trod_lt m _ _ _ hm
 obtain⟨t1,B,A,z,G,rfl,D,s⟩:=BV (c 1 25 M rfl rfl) L;clear g b;refine(iF y k n r t1 B A z G W l D s (B4 S)).mono fun e W' ⟨V,d⟩=>?_;subst V;exact⟨_,rfl,_,_,_,[],_,[],o,trodAll_mk1 (shut_bool xx _),(trodAll_cons_mk (Below.trod laidOut aa (of_decide_eq_true aa) k0 d F) (trodAll_cons_mk (Below.trod laidOut aa (of_decide_eq_true aa) P d E) trodAll_mk0)),rfl,d.frame _,fun h=>by cases h⟩
end Go.Proofs.YtcfdpfmchchkaaaGreatDoor.recoveryCheckpoints
