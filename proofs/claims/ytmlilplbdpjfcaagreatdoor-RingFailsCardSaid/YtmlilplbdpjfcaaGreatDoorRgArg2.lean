/-
  Chapter 20: power failures that came in.
-/
import Derived.Test.YtmlilplbdpjfcaaGreatDoorArgA
import Derived.Test.YtmlilplbdpjfcaaGreatDoorWRgFl
namespace Go.Proofs.YtmlilplbdpjfcaaGreatDoor
set_option linter.unusedVariables false
set_option linter.unusedSimpArgs false
open Go.ChangeShapes Go.WideShapes Go.ChangeAt Go.RowKit
theorem flat_str (l : List ByteArray) : l.flatMap (fun s => [Value.string s]) = l.map fun s => Value.string s := by
 induction l with
 | nil => rfl
 | cons x l ih => rw [List.flatMap_cons, ih]; rfl
theorem flat_bool (l : List Bool) : l.flatMap (fun s => [Value.bool s]) = l.map fun s => Value.bool s := by
 induction l with
 | nil => rfl
 | cons x l ih => rw [List.flatMap_cons, ih]; rfl
structure FailA where
 xs : List ByteArray
 A : Option Addr
 c : Nat
 fl : List Bool
 B : Option Addr
 d : Nat
def failL (x : FailA) : List Value := [.slice x.A x.xs.length x.c, .slice x.B x.fl.length x.d]
set_option maxRecDepth 100000 in
theorem open_fail {H : Type} {enc : TypeId × Value → H} {W : World} {r : Reach} {base : Nat} {v : Value} {d : DataW H} {p : List MemPlace}
 (hv : Value.okWide Tryz.prog W r base 83 v) (h : DataW.Trod enc Tryz.prog W 0 (fun _ => true) true 83 v d p) :
 ∃ (xs : List ByteArray) (A : Option Addr) (c : Nat) (fl : List Bool) (B : Option Addr) (k : Nat), v = failV xs.length A c fl.length B k ∧ Rd W W.heap.size A (xs.map fun s => Value.string s) ∧ Rd W W.heap.size B (fl.map fun s => Value.bool s) := by
 obtain ⟨y, h1, h2, h3⟩ := open_val (α := FailA) failL 2 (fun x => Rd W W.heap.size x.A (x.xs.map fun s => Value.string s) ∧ Rd W W.heap.size x.B (x.fl.map fun s => Value.bool s)) Tryz.underlying83 (by kernel_rfl) (fun fuel cs x hl h => by
  obtain ⟨ys, k, hk, hxy, _, hxl, hf⟩ := DataW.trod_struct Tryz.underlying83 h
  match ys, hxl, cs, hl with
  | [y0, y1], _, [c0, c1], _ =>
   have c_s : Tryz.prog.cellsOf 80 = 1 := by kernel_rfl
   have c_b : Tryz.prog.cellsOf 81 = 1 := by kernel_rfl
   have g0 := hf 0 _ rfl
   have g1 := hf 1 _ rfl
   simp [c_s, c_b] at g0 g1
   obtain ⟨A0, k0, l0, e0, m0, r0, i0⟩ := trod_list (fun s : ByteArray => [Value.string s]) 1 (fun _ => rfl) (fun _ => True) Tryz.underlying80 (by kernel_rfl) (fun fuel cs x hl h => by
    match cs, hl with
    | [c0], _ =>
     obtain ⟨x0, e0, _, _⟩ := DataW.trod_string Tryz.underlying9 h
     exact ⟨x0, e0, trivial⟩) g0
   obtain ⟨A1, k1, l1, e1, m1, r1, i1⟩ := trod_list (fun s : Bool => [Value.bool s]) 1 (fun _ => rfl) (fun _ => True) Tryz.underlying81 (by kernel_rfl) (fun fuel cs x hl h => by
    match cs, hl with
    | [c0], _ =>
     obtain ⟨x0, e0, _⟩ := DataW.trod_bool Tryz.underlying4 h
     exact ⟨x0, e0, trivial⟩) g1
   simp only [List.cons.injEq, and_true] at e0 e1
   rw [flat_str] at r0
   rw [flat_bool] at r1
   exact ⟨⟨l0, A0, k0, l1, A1, k1⟩, by rw [e0, e1]; rfl, r0, r1⟩) hv h
 exact ⟨y.xs, y.A, y.c, y.fl, y.B, y.d, h1, h2, h3⟩
end Go.Proofs.YtmlilplbdpjfcaaGreatDoor
