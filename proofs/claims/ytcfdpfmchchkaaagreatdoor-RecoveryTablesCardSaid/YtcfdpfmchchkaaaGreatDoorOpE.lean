/-
  Chapter 21: the errors of operations, as the references have them: formErr, bytesErr, OpErr.
  Chapter 21: CheckOp and OpErr, joined.
-/
import Derived.Test.YtcfdpfmchchkaaaGreatDoorOpA
import Derived.Test.YtcfdpfmchchkaaaGreatDoorBoxB
import Derived.Test.YtcfdpfmchchkaaaGreatDoorOpB
import Derived.Test.YtcfdpfmchchkaaaGreatDoorOpD
namespace Go.Proofs.YtcfdpfmchchkaaaGreatDoor
set_option linter.unusedVariables false
set_option linter.unusedSimpArgs false
open Go.RowKit Go.Sort
end Go.Proofs.YtcfdpfmchchkaaaGreatDoor
namespace Go.Proofs.YtcfdpfmchchkaaaGreatDoor
set_option linter.unusedVariables false
set_option linter.unusedSimpArgs false
open Go.RowKit Go.Sort
set_option maxRecDepth 100000 in
theorem CheckOp_out (x : Op) (w : World) (hk : inB x.k 0 6 = false) :
 Calls Tryz.prog 144 #[opV x] w fun r w' => r = .returned (.int .i64 (opE x)) ∧ Below w.heap.size w w' := by
 have e : opE x = 15 := by unfold opE; rw [hk]; rfl
 have E := Lib.hid e
 clear e
 unfold opV
 go_enter Tryz.func144, Tryz.ntmps144
 go_wp2_with (first | (go_at_call 152; refine (logop_within_any _ _ _ _).mono ?_; rintro e w' ⟨rfl, rfl⟩))
 go_ret
 exact ⟨retI E.out.symm, by (repeat (first | assumption | exact Below.refl _ _ | refine bel_drewN ?_ _ | refine bel_alloc ?_ _ | refine bel_trans ?_ (by assumption) | refine Below.trans ?_ (by assumption)))⟩
theorem CheckOp_any (x : Op) (w : World) (ho : x.o.size ≤ 3100) (hn : x.n.size ≤ 3100) :
 Calls Tryz.prog 144 #[opV x] w fun r w' => r = .returned (.int .i64 (opE x)) ∧ Below w.heap.size w w' := by
 cases hk : inB x.k 0 6
 · exact CheckOp_out x w hk
 · obtain ⟨k, a, e, c, o, n⟩ := x
   rw [inB_true] at hk
   dsimp only at hk
   have : k = 0 ∨ k = 1 ∨ k = 2 ∨ k = 3 ∨ k = 4 ∨ k = 5 ∨ k = 6 := by omega
   rcases this with rfl | rfl | rfl | rfl | rfl | rfl | rfl
   · exact CheckOp_0 a e c o n w ho hn
   · exact CheckOp_1 a e c o n w ho hn
   · exact CheckOp_2 a e c o n w ho hn
   · exact CheckOp_3 a e c o n w ho hn
   · exact CheckOp_4 a e c o n w ho hn
   · exact CheckOp_5 a e c o n w ho hn
   · exact CheckOp_6 a e c o n w ho hn
end Go.Proofs.YtcfdpfmchchkaaaGreatDoor
