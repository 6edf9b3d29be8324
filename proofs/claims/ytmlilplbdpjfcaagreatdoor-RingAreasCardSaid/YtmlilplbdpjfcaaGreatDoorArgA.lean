/-
  Values that came in, opened: slices, arrays and structs whose elements are read by a reader of their cells.
  Chapter 20: restart areas and logs that came in.
-/
import Derived.Test.YtmlilplbdpjfcaaGreatDoorKitA
import Derived.WalkKit
import Derived.ProofKit
import Derived.Deep.Slices
import Derived.Deep.SlicePairs
import Derived.Lib.SmallJoins
import Derived.OpenShut
import Derived.Test.YtmlilplbdpjfcaaGreatDoorRgA
namespace Go.Proofs.YtmlilplbdpjfcaaGreatDoor
set_option linter.unusedVariables false
set_option linter.unusedSimpArgs false
open Go.ChangeShapes Go.WideShapes Go.ChangeAt Go.RowKit
theorem open_val {H : Type} {enc : TypeId × Value → H} {P : Program} {W : World} {r : Reach} {base : Nat} {t : TypeId} {fs : Array Field} {v : Value} {d : DataW H} {p : List MemPlace}
    {α : Type} (f : α → List Value) (n : Nat) (G : α → Prop) (ht : P.underlying t = some (.struct fs)) (hC : P.cellsOf t = n)
    (each : ∀ (fuel : Nat) (cs : List Value) (x : DataW H × List MemPlace), cs.length = n → DataW.trod enc P W 0 (fun _ => true) true fuel t cs = some x → ∃ y, cs = f y ∧ G y)
    (hv : Value.okWide P W r base t v) (h : DataW.Trod enc P W 0 (fun _ => true) true t v d p) : ∃ y, v = .agg (f y).toArray ∧ G y := by
  obtain ⟨cs, rfl, hsz⟩ := okWide_struct ht hv
  obtain ⟨fuel, hfu⟩ := h
  obtain ⟨y, hy, h1⟩ := each _ _ _ (by show cs.toList.length = n; rw [Array.length_toList]; exact hsz.trans hC) hfu
  have : cs = (f y).toArray := by apply Array.toList_inj.1; exact hy
  exact ⟨y, by rw [this], h1⟩
end Go.Proofs.YtmlilplbdpjfcaaGreatDoor
namespace Go.Proofs.YtmlilplbdpjfcaaGreatDoor
set_option linter.unusedVariables false
set_option linter.unusedSimpArgs false
open Go.ChangeShapes Go.WideShapes Go.ChangeAt Go.RowKit
def rstL (x : RstP) : List Value := [.int .i64 x.s, .int .i64 x.c, .int .i64 x.o]
def RstI (x : RstP) : Prop := (-9223372036854775808 ≤ x.s ∧ x.s < 9223372036854775808) ∧ (-9223372036854775808 ≤ x.c ∧ x.c < 9223372036854775808) ∧ (-9223372036854775808 ≤ x.o ∧ x.o < 9223372036854775808)
theorem wf_i64 {n : Int} (h : (Lit.int .i64 n).wf = true) : -9223372036854775808 ≤ n ∧ n < 9223372036854775808 := by
  have h1 : (decide (IntKind.i64.min ≤ n) && decide (n ≤ IntKind.i64.max)) = true := h
  have e1 : IntKind.i64.min = -9223372036854775808 := by decide
  have e2 : IntKind.i64.max = 9223372036854775807 := by decide
  rw [e1, e2, Bool.and_eq_true, decide_eq_true_eq, decide_eq_true_eq] at h1
  omega
set_option maxRecDepth 100000 in
theorem trod_rst {H : Type} {enc : TypeId × Value → H} {W : World} {fuel : Nat} {cs : List Value} {x : DataW H × List MemPlace} (hl : cs.length = 3)
    (h : DataW.trod enc Tryz.prog W 0 (fun _ => true) true fuel 23 cs = some x) : ∃ y, cs = rstL y ∧ RstI y := by
  obtain ⟨xs, k, hk, hxy, _, hxl, hf⟩ := DataW.trod_struct Tryz.underlying23 h
  match xs, hxl, cs, hl with
  | [y0, y1, y2], _, [c0, c1, c2], _ =>
    have ci : Tryz.prog.cellsOf 3 = 1 := by kernel_rfl
    have g0 := hf 0 _ rfl
    have g1 := hf 1 _ rfl
    have g2 := hf 2 _ rfl
    simp [ci] at g0 g1 g2
    obtain ⟨x0, e0, _, b0⟩ := DataW.trod_int Tryz.underlying3 g0
    obtain ⟨x1, e1, _, b1⟩ := DataW.trod_int Tryz.underlying3 g1
    obtain ⟨x2, e2, _, b2⟩ := DataW.trod_int Tryz.underlying3 g2
    simp only [List.cons.injEq, and_true] at e0 e1 e2
    exact ⟨⟨x0, x1, x2⟩, by rw [e0, e1, e2]; rfl, wf_i64 b0, wf_i64 b1, wf_i64 b2⟩
set_option maxRecDepth 100000 in
theorem open_rst {H : Type} {enc : TypeId × Value → H} {W : World} {r : Reach} {base : Nat} {v : Value} {d : DataW H} {p : List MemPlace}
    (hv : Value.okWide Tryz.prog W r base 23 v) (h : DataW.Trod enc Tryz.prog W 0 (fun _ => true) true 23 v d p) :
    ∃ y : RstP, v = rstV y ∧ RstI y := by
  obtain ⟨y, h1, h2⟩ := open_val (α := RstP) rstL 3 RstI Tryz.underlying23 (by kernel_rfl) (fun fuel cs x hl h => trod_rst hl h) hv h
  exact ⟨y, h1, h2⟩
structure RngA where
  r : RngP
  A : Option Addr
  c : Nat
structure RngI (r : RngP) : Prop where
  pg : -9223372036854775808 ≤ r.pg ∧ r.pg < 9223372036854775808
  rr : RstI r.r
  ee : RstI r.e
  nx : -9223372036854775808 ≤ r.nx ∧ r.nx < 9223372036854775808
  len : r.rs.length ≤ maxLen
  rs : ∀ x ∈ r.rs, (-9223372036854775808 ≤ x.l ∧ x.l < 9223372036854775808) ∧ (-9223372036854775808 ≤ x.s ∧ x.s < 9223372036854775808) ∧ x.b.size ≤ maxLen
end Go.Proofs.YtmlilplbdpjfcaaGreatDoor
