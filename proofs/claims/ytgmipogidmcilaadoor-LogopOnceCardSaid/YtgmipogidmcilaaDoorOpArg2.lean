/-
  Operations, entries and the like that came in: slices, pairs, structs.
-/
import Derived.Test.YtgmipogidmcilaaDoorOpArg
import Derived.Test.YtgmipogidmcilaaDoorOpen
import Derived.Test.YtgmipogidmcilaaDoorOpAll
namespace Go.Proofs.YtgmipogidmcilaaDoor
set_option linter.unusedVariables false
set_option linter.unusedSimpArgs false
open Go.ChangeShapes Go.WideShapes Go.ChangeAt Go.RowKit

theorem opVs_length (x : Op) : (opVs x).length = 6 := rfl
def OpMax (y : Op) : Prop := y.o.size ≤ maxLen ∧ y.n.size ≤ maxLen
set_option maxRecDepth 100000 in
theorem open_ops {H : Type} {enc : TypeId × Value → H} {W : World} {r : Reach} {base : Nat} {v : Value} {d : DataW H} {p : List MemPlace}
    (hv : Value.okWide Tryd.prog W r base 22 v) (h : DataW.Trod enc Tryd.prog W 0 (fun _ => true) true 22 v d p) :
    ∃ (A : Option Addr) (c : Nat) (l : List Op), v = .slice A l.length c ∧ l.length ≤ maxLen ∧ Rd W W.heap.size A (opsV l) ∧ ∀ x ∈ l, OpMax x :=
  open_list opVs 6 opVs_length OpMax Tryd.underlying22 (by kernel_rfl) (fun fuel cs x hl h => by
    obtain ⟨y, h1, h2, h3⟩ := trod_op hl h; exact ⟨y, h1, h2, h3⟩) hv h

set_option maxRecDepth 100000 in
/-- a pair of operations -/
theorem open_op2 {H : Type} {enc : TypeId × Value → H} {W : World} {r : Reach} {base : Nat} {v : Value} {d : DataW H} {p : List MemPlace}
    (hv : Value.okWide Tryd.prog W r base 45 v) (h : DataW.Trod enc Tryd.prog W 0 (fun _ => true) true 45 v d p) :
    ∃ y : Op × Op, v = .agg (opVs y.1 ++ opVs y.2).toArray ∧ OpMax y.1 ∧ OpMax y.2 :=
  open_arr (α := Op × Op) (fun y => opVs y.1 ++ opVs y.2) 12 (fun y => OpMax y.1 ∧ OpMax y.2) Tryd.underlying45 (by kernel_rfl) (fun fuel cs x hl h => by
    obtain ⟨xs, m, _, _, _, hxl, hf⟩ := DataW.trod_array Tryd.underlying45 h
    have hC : Tryd.prog.cellsOf 27 = 6 := by kernel_rfl
    rw [hC] at hf
    have g0 := hf 0 (by omega)
    have g1 := hf 1 (by omega)
    rw [Nat.zero_mul, List.drop_zero, List.getElem?_eq_getElem (by omega)] at g0
    rw [Nat.one_mul, List.getElem?_eq_getElem (by omega)] at g1
    obtain ⟨a, ea, a1, a2⟩ := trod_op (by rw [List.length_take]; omega) g0
    obtain ⟨b, eb, b1, b2⟩ := trod_op (by rw [List.length_take, List.length_drop]; omega) g1
    refine ⟨(a, b), ?_, ⟨a1, a2⟩, ⟨b1, b2⟩⟩
    show cs = opVs a ++ opVs b
    rw [← ea, ← eb, List.take_of_length_le (l := cs.drop 6) (by rw [List.length_drop]; omega), List.take_append_drop]) hv h

structure Ent where
  k : Int
  t : Int
  p : Int
  x : Int
  g : Int
  f : Bool
  o : Op
  d : ByteArray
def entVs (e : Ent) : List Value := [.int .i64 e.k, .int .i64 e.t, .int .i64 e.p, .int .i64 e.x, .int .i64 e.g, .bool e.f, .int .i64 e.o.k, .int .i64 e.o.a, .int .i64 e.o.e, .int .i64 e.o.c, .string e.o.o, .string e.o.n, .string e.d]
def entV (e : Ent) : Value := .agg (entVs e).toArray
def EntMax (e : Ent) : Prop := OpMax e.o ∧ e.d.size ≤ maxLen
set_option maxRecDepth 100000 in
theorem open_entry {H : Type} {enc : TypeId × Value → H} {W : World} {r : Reach} {base : Nat} {v : Value} {d : DataW H} {p : List MemPlace}
    (hv : Value.okWide Tryd.prog W r base 57 v) (h : DataW.Trod enc Tryd.prog W 0 (fun _ => true) true 57 v d p) :
    ∃ y : Ent, v = entV y ∧ EntMax y :=
  open_val (α := Ent) entVs 13 EntMax Tryd.underlying57 (by kernel_rfl) (fun fuel cs x hl h => by
    obtain ⟨xs, k, hk, hxy, _, hxl, hf⟩ := DataW.trod_struct Tryd.underlying57 h
    match xs, hxl, cs, hl with
    | [y0, y1, y2, y3, y4, y5, y6, y7], _, [c0, c1, c2, c3, c4, c5, c6, c7, c8, c9, c10, c11, c12], _ =>
      have ci : Tryd.prog.cellsOf 3 = 1 := by kernel_rfl
      have cS : Tryd.prog.cellsOf 9 = 1 := by kernel_rfl
      have cb : Tryd.prog.cellsOf 4 = 1 := by kernel_rfl
      have co : Tryd.prog.cellsOf 27 = 6 := by kernel_rfl
      have g0 := hf 0 _ rfl
      have g1 := hf 1 _ rfl
      have g2 := hf 2 _ rfl
      have g3 := hf 3 _ rfl
      have g4 := hf 4 _ rfl
      have g5 := hf 5 _ rfl
      have g6 := hf 6 _ rfl
      have g7 := hf 7 _ rfl
      simp [ci, cS, cb, co] at g0 g1 g2 g3 g4 g5 g6 g7
      obtain ⟨x0, e0, _, _⟩ := DataW.trod_int Tryd.underlying3 g0
      obtain ⟨x1, e1, _, _⟩ := DataW.trod_int Tryd.underlying3 g1
      obtain ⟨x2, e2, _, _⟩ := DataW.trod_int Tryd.underlying3 g2
      obtain ⟨x3, e3, _, _⟩ := DataW.trod_int Tryd.underlying3 g3
      obtain ⟨x4, e4, _, _⟩ := DataW.trod_int Tryd.underlying3 g4
      obtain ⟨x5, e5, _⟩ := DataW.trod_bool Tryd.underlying4 g5
      obtain ⟨x6, e6, o1, o2⟩ := trod_op rfl g6
      obtain ⟨x7, e7, _, s7⟩ := DataW.trod_string Tryd.underlying9 g7
      simp only [List.cons.injEq, and_true] at e0 e1 e2 e3 e4 e5 e7
      unfold opVs at e6
      simp only [List.cons.injEq, and_true] at e6
      obtain ⟨f0, f1, f2, f3, f4, f5⟩ := e6
      refine ⟨⟨x0, x1, x2, x3, x4, x5, x6, x7⟩, ?_, ⟨o1, o2⟩, s7⟩
      rw [e0, e1, e2, e3, e4, e5, e7, f0, f1, f2, f3, f4, f5]; rfl) hv h

structure Rdo where
  f : Bool
  o : Op
  n : Int
def rdoVs (e : Rdo) : List Value := [.bool e.f, .int .i64 e.o.k, .int .i64 e.o.a, .int .i64 e.o.e, .int .i64 e.o.c, .string e.o.o, .string e.o.n, .int .i64 e.n]
set_option maxRecDepth 100000 in
theorem open_redo {H : Type} {enc : TypeId × Value → H} {W : World} {r : Reach} {base : Nat} {v : Value} {d : DataW H} {p : List MemPlace}
    (hv : Value.okWide Tryd.prog W r base 66 v) (h : DataW.Trod enc Tryd.prog W 0 (fun _ => true) true 66 v d p) :
    ∃ y : Rdo, v = .agg (rdoVs y).toArray ∧ OpMax y.o :=
  open_val (α := Rdo) rdoVs 8 (fun y => OpMax y.o) Tryd.underlying66 (by kernel_rfl) (fun fuel cs x hl h => by
    obtain ⟨xs, k, hk, hxy, _, hxl, hf⟩ := DataW.trod_struct Tryd.underlying66 h
    match xs, hxl, cs, hl with
    | [y0, y1, y2], _, [c0, c1, c2, c3, c4, c5, c6, c7], _ =>
      have ci : Tryd.prog.cellsOf 3 = 1 := by kernel_rfl
      have cb : Tryd.prog.cellsOf 4 = 1 := by kernel_rfl
      have co : Tryd.prog.cellsOf 27 = 6 := by kernel_rfl
      have g0 := hf 0 _ rfl
      have g1 := hf 1 _ rfl
      have g2 := hf 2 _ rfl
      simp [ci, cb, co] at g0 g1 g2
      obtain ⟨x0, e0, _⟩ := DataW.trod_bool Tryd.underlying4 g0
      obtain ⟨x1, e6, o1, o2⟩ := trod_op rfl g1
      obtain ⟨x2, e2, _, _⟩ := DataW.trod_int Tryd.underlying3 g2
      simp only [List.cons.injEq, and_true] at e0 e2
      unfold opVs at e6
      simp only [List.cons.injEq, and_true] at e6
      obtain ⟨f0, f1, f2, f3, f4, f5⟩ := e6
      refine ⟨⟨x0, x1, x2⟩, ?_, ⟨o1, o2⟩⟩
      rw [e0, e2, f0, f1, f2, f3, f4, f5]; rfl) hv h
end Go.Proofs.YtgmipogidmcilaaDoor
