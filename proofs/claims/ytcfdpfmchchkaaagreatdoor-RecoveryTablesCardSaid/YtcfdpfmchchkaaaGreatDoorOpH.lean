/-
  Chapter 21: inverses, joined; the reference's.
  Chapter 21: entries: the reference's errors.
-/
import Derived.Test.YtcfdpfmchchkaaaGreatDoorRcD
import Derived.Test.YtcfdpfmchchkaaaGreatDoorOpEnt
namespace Go.Proofs.YtcfdpfmchchkaaaGreatDoor
set_option linter.unusedVariables false
set_option linter.unusedSimpArgs false
open Go.RowKit Go.Sort
theorem opOK_pos' {x : Op} (h : opOK x) : (0 ≤ x.k ∧ x.k ≤ 6) ∧ (0 ≤ x.e ∧ x.e ≤ 512) ∧ x.o.size ≤ 3100 ∧ x.n.size ≤ 3100 := by unfold opOK at h; omega
theorem Inverse_ok (x : Op) (w : World) (h : opE x = 0) :
 Calls Tryz.prog 219 #[opV x] w fun r w' => r = .returned (.tuple #[opV (opInv x), .int .i64 0]) ∧ Below w.heap.size w w' := by
 have hok := (opE_iff x).1 h
 have hs := opOK_pos' hok
 obtain ⟨k, a, e, c, o, n⟩ := x
 dsimp only at hs
 obtain ⟨hk, he, ho, hn⟩ := hs
 have : k = 0 ∨ k = 1 ∨ k = 2 ∨ k = 3 ∨ k = 4 ∨ k = 5 ∨ k = 6 := by omega
 rcases this with rfl | rfl | rfl | rfl | rfl | rfl | rfl
 · exact Inverse_0 a e c o n w ho hn he.1 he.2 h
 · exact Inverse_1 a e c o n w ho hn he.1 he.2 h
 · exact Inverse_2 a e c o n w ho hn he.1 he.2 h
 · exact Inverse_3 a e c o n w ho hn he.1 he.2 h
 · exact Inverse_4 a e c o n w ho hn he.1 he.2 h
 · exact Inverse_5 a e c o n w ho hn he.1 he.2 h
 · exact Inverse_6 a e c o n w ho hn he.1 he.2 h
end Go.Proofs.YtcfdpfmchchkaaaGreatDoor
namespace Go.Proofs.YtcfdpfmchchkaaaGreatDoor
set_option linter.unusedVariables false
set_option linter.unusedSimpArgs false
open Go.RowKit Go.Sort
theorem CheckEntry_any (e : Lge) (w : World) (ho : e.o.o.size ≤ 3100) (hn : e.o.n.size ≤ 3100) (hd : e.d.size ≤ maxLen) :
 Calls Tryz.prog 154 #[entV e] w fun r w' => r = .returned (.int .i64 (entE e)) ∧ Below w.heap.size w w' :=
 CheckEntry_f e.k e.t e.p e.x e.g e.f e.o e.d w ho hn hd
end Go.Proofs.YtcfdpfmchchkaaaGreatDoor
