/-
  Chapter 17: tokens, descriptors, identities that came in; the laid table.
-/
import Derived.Test.YtanicpgmbhfipaaDoorOpen
import Derived.Test.YtanicpgmbhfipaaDoorAcA
import Derived.Test.YtanicpgmbhfipaaDoorAcC
namespace Go.Proofs.YtanicpgmbhfipaaDoor
set_option linter.unusedVariables false
set_option linter.unusedSimpArgs false
open Go.ChangeShapes Go.WideShapes Go.ChangeAt Go.RowKit

theorem flat_ints (l : List Int) : l.flatMap (fun x => [Value.int .i64 x]) = l.map (.int .i64) := by
  induction l with
  | nil => rfl
  | cons x l ih => rw [List.flatMap_cons, ih]; rfl
theorem ace_length (x : AceP) : (aceV x).length = 4 := rfl
set_option maxRecDepth 100000 in
theorem trod_ints {H : Type} {enc : TypeId × Value → H} {W : World} {fuel : Nat} {cs : List Value} {x : DataW H × List MemPlace}
    (h : DataW.trod enc Tryd.prog W 0 (fun _ => true) true fuel 25 cs = some x) : ∃ (A : Option Addr) (c : Nat) (l : List Int), cs = [.slice A l.length c] ∧ l.length ≤ maxLen ∧ Rd W W.heap.size A (l.map (.int .i64)) := by
  obtain ⟨A, c, l, h1, h2, h3, _⟩ := trod_list (fun x : Int => [.int .i64 x]) 1 (fun _ => rfl) (fun _ => True) Tryd.underlying25 (by kernel_rfl) (fun fuel cs x hl h => by
    match cs, hl with
    | [u], _ =>
      obtain ⟨y, e, _, _⟩ := DataW.trod_int Tryd.underlying3 h
      exact ⟨y, e, trivial⟩) h
  rw [flat_ints] at h3
  exact ⟨A, c, l, h1, h2, h3⟩
set_option maxRecDepth 100000 in
theorem open_ints {H : Type} {enc : TypeId × Value → H} {W : World} {r : Reach} {base : Nat} {v : Value} {d : DataW H} {p : List MemPlace}
    (hv : Value.okWide Tryd.prog W r base 25 v) (h : DataW.Trod enc Tryd.prog W 0 (fun _ => true) true 25 v d p) :
    ∃ (A : Option Addr) (c : Nat) (l : List Int), v = .slice A l.length c ∧ l.length ≤ maxLen ∧ Rd W W.heap.size A (l.map (.int .i64)) := by
  obtain ⟨A, c, l, h1, h2, h3, _⟩ := open_list (fun x : Int => [.int .i64 x]) 1 (fun _ => rfl) (fun _ => True) Tryd.underlying25 (by kernel_rfl) (fun fuel cs x hl h => by
    match cs, hl with
    | [u], _ =>
      obtain ⟨y, e, _, _⟩ := DataW.trod_int Tryd.underlying3 h
      exact ⟨y, e, trivial⟩) hv h
  rw [flat_ints] at h3
  exact ⟨A, c, l, h1, h2, h3⟩
set_option maxRecDepth 100000 in
theorem trod_aces {H : Type} {enc : TypeId × Value → H} {W : World} {fuel : Nat} {cs : List Value} {x : DataW H × List MemPlace}
    (h : DataW.trod enc Tryd.prog W 0 (fun _ => true) true fuel 22 cs = some x) : ∃ (A : Option Addr) (c : Nat) (l : List AceP), cs = [.slice A l.length c] ∧ l.length ≤ maxLen ∧ Rd W W.heap.size A (acesV l) := by
  obtain ⟨A, c, l, h1, h2, h3, _⟩ := trod_list aceV 4 ace_length (fun _ => True) Tryd.underlying22 (by kernel_rfl) (fun fuel cs x hl h => by
    obtain ⟨xs, k, hk, hxy, _, hxl, hf⟩ := DataW.trod_struct Tryd.underlying34 h
    match xs, hxl, cs, hl with
    | [y0, y1, y2, y3], _, [c0, c1, c2, c3], _ =>
      have ci : Tryd.prog.cellsOf 3 = 1 := by kernel_rfl
      have g0 := hf 0 _ rfl
      have g1 := hf 1 _ rfl
      have g2 := hf 2 _ rfl
      have g3 := hf 3 _ rfl
      simp [ci] at g0 g1 g2 g3
      obtain ⟨x0, e0, _, _⟩ := DataW.trod_int Tryd.underlying3 g0
      obtain ⟨x1, e1, _, _⟩ := DataW.trod_int Tryd.underlying3 g1
      obtain ⟨x2, e2, _, _⟩ := DataW.trod_int Tryd.underlying3 g2
      obtain ⟨x3, e3, _, _⟩ := DataW.trod_int Tryd.underlying3 g3
      simp only [List.cons.injEq, and_true] at e0 e1 e2 e3
      exact ⟨⟨x0, x1, x2, x3⟩, by rw [e0, e1, e2, e3]; rfl, trivial⟩) h
  exact ⟨A, c, l, h1, h2, h3⟩

/-- a token -/
structure TokA where
  t : TokP
  A : Option Addr
  c : Nat
def tokL (x : TokA) : List Value := [.int .i64 x.t.u, .slice x.A x.t.gs.length x.c, .int .i64 x.t.p]
set_option maxRecDepth 100000 in
theorem open_tok {H : Type} {enc : TypeId × Value → H} {W : World} {r : Reach} {base : Nat} {v : Value} {d : DataW H} {p : List MemPlace}
    (hv : Value.okWide Tryd.prog W r base 27 v) (h : DataW.Trod enc Tryd.prog W 0 (fun _ => true) true 27 v d p) :
    ∃ (t : TokP) (A : Option Addr) (c : Nat), v = tokV t A c ∧ t.gs.length ≤ maxLen ∧ Rd W W.heap.size A (t.gs.map (.int .i64)) := by
  obtain ⟨y, h1, h2, h3⟩ := open_val (α := TokA) tokL 3 (fun x => x.t.gs.length ≤ maxLen ∧ Rd W W.heap.size x.A (x.t.gs.map (.int .i64))) Tryd.underlying27 (by kernel_rfl) (fun fuel cs x hl h => by
    obtain ⟨xs, k, hk, hxy, _, hxl, hf⟩ := DataW.trod_struct Tryd.underlying27 h
    match xs, hxl, cs, hl with
    | [y0, y1, y2], _, [c0, c1, c2], _ =>
      have ci : Tryd.prog.cellsOf 3 = 1 := by kernel_rfl
      have cl : Tryd.prog.cellsOf 25 = 1 := by kernel_rfl
      have g0 := hf 0 _ rfl
      have g1 := hf 1 _ rfl
      have g2 := hf 2 _ rfl
      simp [ci, cl] at g0 g1 g2
      obtain ⟨x0, e0, _, _⟩ := DataW.trod_int Tryd.underlying3 g0
      obtain ⟨A1, k1, l1, e1, m1, r1⟩ := trod_ints g1
      obtain ⟨x2, e2, _, _⟩ := DataW.trod_int Tryd.underlying3 g2
      simp only [List.cons.injEq, and_true] at e0 e1 e2
      exact ⟨⟨⟨x0, l1, x2⟩, A1, k1⟩, by rw [e0, e1, e2]; rfl, m1, r1⟩) hv h
  exact ⟨y.t, y.A, y.c, h1, h2, h3⟩
/-- a descriptor -/
structure DscA where
  d : DscP
  A1 : Option Addr
  A2 : Option Addr
  c1 : Nat
  c2 : Nat
def dscL (x : DscA) : List Value := [.int .i64 x.d.o, .int .i64 x.d.g, .bool x.d.pr, .bool x.d.he, .slice x.A1 x.d.es.length x.c1, .slice x.A2 x.d.us.length x.c2]
def DscI (W : World) (x : DscA) : Prop := Rd W W.heap.size x.A1 (acesV x.d.es) ∧ Rd W W.heap.size x.A2 (acesV x.d.us)
set_option maxRecDepth 100000 in
theorem trod_dsc {H : Type} {enc : TypeId × Value → H} {W : World} {fuel : Nat} {cs : List Value} {x : DataW H × List MemPlace} (hl : cs.length = 6)
    (h : DataW.trod enc Tryd.prog W 0 (fun _ => true) true fuel 24 cs = some x) : ∃ y, cs = dscL y ∧ DscI W y := by
  obtain ⟨xs, k, hk, hxy, _, hxl, hf⟩ := DataW.trod_struct Tryd.underlying24 h
  match xs, hxl, cs, hl with
  | [y0, y1, y2, y3, y4, y5], _, [c0, c1, c2, c3, c4, c5], _ =>
    have ci : Tryd.prog.cellsOf 3 = 1 := by kernel_rfl
    have cb : Tryd.prog.cellsOf 4 = 1 := by kernel_rfl
    have cl : Tryd.prog.cellsOf 22 = 1 := by kernel_rfl
    have g0 := hf 0 _ rfl
    have g1 := hf 1 _ rfl
    have g2 := hf 2 _ rfl
    have g3 := hf 3 _ rfl
    have g4 := hf 4 _ rfl
    have g5 := hf 5 _ rfl
    simp [ci, cb, cl] at g0 g1 g2 g3 g4 g5
    obtain ⟨x0, e0, _, _⟩ := DataW.trod_int Tryd.underlying3 g0
    obtain ⟨x1, e1, _, _⟩ := DataW.trod_int Tryd.underlying3 g1
    obtain ⟨x2, e2, _⟩ := DataW.trod_bool Tryd.underlying4 g2
    obtain ⟨x3, e3, _⟩ := DataW.trod_bool Tryd.underlying4 g3
    obtain ⟨A4, k4, l4, e4, m4, r4⟩ := trod_aces g4
    obtain ⟨A5, k5, l5, e5, m5, r5⟩ := trod_aces g5
    simp only [List.cons.injEq, and_true] at e0 e1 e2 e3 e4 e5
    exact ⟨⟨⟨x0, x1, x2, x3, l4, l5⟩, A4, A5, k4, k5⟩, by rw [e0, e1, e2, e3, e4, e5]; rfl, r4, r5⟩
set_option maxRecDepth 100000 in
theorem open_dsc {H : Type} {enc : TypeId × Value → H} {W : World} {r : Reach} {base : Nat} {v : Value} {d : DataW H} {p : List MemPlace}
    (hv : Value.okWide Tryd.prog W r base 24 v) (h : DataW.Trod enc Tryd.prog W 0 (fun _ => true) true 24 v d p) :
    ∃ (y : DscP) (A1 A2 : Option Addr) (c1 c2 : Nat), v = dscV y A1 A2 c1 c2 ∧ Rd W W.heap.size A1 (acesV y.es) ∧ Rd W W.heap.size A2 (acesV y.us) := by
  obtain ⟨y, h1, h2, h3⟩ := open_val (α := DscA) dscL 6 (DscI W) Tryd.underlying24 (by kernel_rfl) (fun fuel cs x hl h => trod_dsc hl h) hv h
  exact ⟨y.d, y.A1, y.A2, y.c1, y.c2, h1, h2, h3⟩
/-- two descriptors -/
def dsc2V (a : DscP) (A1 A2 : Option Addr) (a1 a2 : Nat) (b : DscP) (B1 B2 : Option Addr) (b1 b2 : Nat) : Value := .agg #[.int .i64 a.o, .int .i64 a.g, .bool a.pr, .bool a.he, .slice A1 a.es.length a1, .slice A2 a.us.length a2, .int .i64 b.o, .int .i64 b.g, .bool b.pr, .bool b.he, .slice B1 b.es.length b1, .slice B2 b.us.length b2]
end Go.Proofs.YtanicpgmbhfipaaDoor
