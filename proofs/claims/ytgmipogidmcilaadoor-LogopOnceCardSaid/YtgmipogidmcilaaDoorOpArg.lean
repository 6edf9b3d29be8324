/-
  An operation that came in, by value: what the walk is told of it.
-/
import Derived.Test.YtgmipogidmcilaaDoorRows
import Derived.Test.YtgmipogidmcilaaDoorOp
import Derived.WalkKit
import Derived.ProofKit
import Derived.Deep.SlicePairs
import Derived.Lib.SmallJoins
import Derived.OpenShut
namespace Go.Proofs.YtgmipogidmcilaaDoor
set_option linter.unusedVariables false
set_option linter.unusedSimpArgs false
open Go.ChangeShapes Go.WideShapes Go.ChangeAt Go.RowKit

set_option maxRecDepth 100000 in
/-- the six cells of an operation, read -/
theorem trod_op {H : Type} {enc : TypeId × Value → H} {W : World} {base fuel : Nat} {sp : Nat → Bool} {held : Bool} {cs : List Value} {x : DataW H × List MemPlace}
    (hl : cs.length = 6) (h : DataW.trod enc Tryd.prog W base sp held fuel 27 cs = some x) : ∃ y : Op, cs = opVs y ∧ y.o.size ≤ maxLen ∧ y.n.size ≤ maxLen := by
  obtain ⟨xs, k, hk, hxy, _, hxl, hf⟩ := DataW.trod_struct Tryd.underlying27 h
  match xs, hxl, cs, hl with
  | [y0, y1, y2, y3, y4, y5], _, [c0, c1, c2, c3, c4, c5], _ =>
    have ci : Tryd.prog.cellsOf 3 = 1 := by kernel_rfl
    have cS : Tryd.prog.cellsOf 9 = 1 := by kernel_rfl
    have g0 := hf 0 _ rfl
    have g1 := hf 1 _ rfl
    have g2 := hf 2 _ rfl
    have g3 := hf 3 _ rfl
    have g4 := hf 4 _ rfl
    have g5 := hf 5 _ rfl
    simp [ci, cS] at g0 g1 g2 g3 g4 g5
    obtain ⟨x0, e0, _, _⟩ := DataW.trod_int Tryd.underlying3 g0
    obtain ⟨x1, e1, _, _⟩ := DataW.trod_int Tryd.underlying3 g1
    obtain ⟨x2, e2, _, _⟩ := DataW.trod_int Tryd.underlying3 g2
    obtain ⟨x3, e3, _, _⟩ := DataW.trod_int Tryd.underlying3 g3
    obtain ⟨x4, e4, _, s4⟩ := DataW.trod_string Tryd.underlying9 g4
    obtain ⟨x5, e5, _, s5⟩ := DataW.trod_string Tryd.underlying9 g5
    simp only [List.cons.injEq, and_true] at e0 e1 e2 e3 e4 e5
    refine ⟨⟨x0, x1, x2, x3, x4, x5⟩, ?_, s4, s5⟩
    rw [e0, e1, e2, e3, e4, e5]; rfl

set_option maxRecDepth 100000 in
theorem open_op {H : Type} {enc : TypeId × Value → H} {W : World} {r : Reach} {base : Nat} {v : Value} {d : DataW H} {p : List MemPlace}
    (hv : Value.okWide Tryd.prog W r base 27 v) (h : DataW.Trod enc Tryd.prog W 0 (fun _ => true) true 27 v d p) :
    ∃ y : Op, v = opV y ∧ y.o.size ≤ maxLen ∧ y.n.size ≤ maxLen := by
  obtain ⟨cs, rfl, hsz⟩ := okWide_struct Tryd.underlying27 hv
  have hC : Tryd.prog.cellsOf 27 = 6 := by kernel_rfl
  obtain ⟨fuel, hf⟩ := h
  obtain ⟨y, hy, h1, h2⟩ := trod_op (by show cs.toList.length = 6; rw [Array.length_toList]; exact hsz.trans hC) hf
  refine ⟨y, ?_, h1, h2⟩
  have : cs = (opVs y).toArray := by
    apply Array.toList_inj.1; exact hy
  rw [this]; rfl
end Go.Proofs.YtgmipogidmcilaaDoor
