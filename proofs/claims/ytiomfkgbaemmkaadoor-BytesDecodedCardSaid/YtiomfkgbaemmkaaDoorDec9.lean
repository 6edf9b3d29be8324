/-
  Chapter 1: the reader: take, value.
-/
import Derived.Test.YtiomfkgbaemmkaaDoorDec8
namespace Go.Proofs.YtiomfkgbaemmkaaDoor
set_option linter.unusedVariables false
set_option linter.unusedSimpArgs false
open Go.RowKit Go.Sort

/-- the reader at block R stands at a -/
abbrev RdrAt (w : World) (R : Nat) (s : ByteArray) (a : Int) : Prop := Box w R #[.string s, .int .i64 a] 72

theorem take_no (R : Nat) (s : ByteArray) (a c : Int) (w : World) (hs : s.size ≤ 200000) (ha : 0 ≤ a ∧ a ≤ 200000) (hc : 0 ≤ c ∧ c ≤ 200000) (hR : RdrAt w R s a) (h : (s.size : Int) - a < c) :
    Calls Tryd.prog 56 #[.pointer (some ⟨R, 0, none⟩), .int .i64 c] w fun e w' => e = .returned (.tuple #[.string ⟨#[]⟩, .bool false]) ∧ Below w.heap.size w w' := by
  obtain ⟨ha0, ha1⟩ := ha
  obtain ⟨hc0, hc1⟩ := hc
  have hx := hR.cells
  have c0 : w.cell? ⟨R, 0, none⟩ = some (.string s) := hx 0
  have c1 : w.cell? ⟨R, 1, none⟩ = some (.int .i64 a) := hx 1
  clear hx hR
  have h' : decide ((s.size : Int) - a < c) = true := decide_eq_true h
  go_enter Tryd.func56, Tryd.ntmps56
  go_wp2
  go_quiet (fail)
  go_wp2
  go_ret2
  exact ⟨rfl, bel_drewN (Below.refl _ _) _⟩

def TakeOk (R : Nat) (s : ByteArray) (a c : Nat) (w : World) (e : Ending) (w' : World) : Prop :=
  e = .returned (.tuple #[.string (s.extract a (a + c)), .bool true]) ∧ RdrAt w' R s ((a + c : Nat) : Int) ∧ Grw (fun b _ => b = R) w w'
theorem grw_set (w : World) (g j : Nat) (v : Value) (cs : Array Value) (T : TypeId) (h : Box w g cs T) : Grw (fun b _ => b = g) w (w.setCell ⟨g, j, none⟩ v) :=
  ⟨rfl, rfl, rfl, by simp [World.setCell], fun b _ hne => heap_setCell_other w _ b v hne, fun b c t fr hb => by
    by_cases e : b = g
    · subst e
      have := Option.some.inj ((show w.heap[b]? = some (.cells cs T (0, 0)) from h).symm.trans hb)
      injection this with e1 e2 e3
      subst e1 e2 e3
      exact ⟨_, by simp, heap_setCell_same w b j cs T v h⟩
    · exact ⟨c, rfl, (heap_setCell_other w ⟨g, j, none⟩ b v e).trans hb⟩⟩
theorem take_ok (R : Nat) (s : ByteArray) (a c : Nat) (w : World) (hs : s.size ≤ 200000) (hR : RdrAt w R s a) (h : a + c ≤ s.size) :
    Calls Tryd.prog 56 #[.pointer (some ⟨R, 0, none⟩), .int .i64 c] w (TakeOk R s a c w) := by
  have hx := hR.cells
  have c0 : w.cell? ⟨R, 0, none⟩ = some (.string s) := hx 0
  have c1 : w.cell? ⟨R, 1, none⟩ = some (.int .i64 a) := hx 1
  have f1 := hR.frozen 1
  have HR := Lib.hid hR
  clear hx hR
  have h' : decide ((s.size : Int) - a < c) = false := decide_eq_false (by omega)
  go_enter Tryd.func56, Tryd.ntmps56
  go_wp2
  go_quiet (fail)
  go_wp2_with (refine wpList_store_fieldG rfl 3 (.tmp 25) (.tmp 23) rfl rfl R 1 (.int .i64 (a + c)) rfl rfl rfl (by kernel_rfl) 72 _ HR.out (by show 1 < 2; omega) ?_; intro W2 hG2 hbox2 _; have d0 : W2.cell? ⟨R, 0, none⟩ = some (.string s) := hbox2.cells 0; have d1 : W2.cell? ⟨R, 1, none⟩ = some (.int .i64 (a + c)) := hbox2.cells 1; have HB2 := Lib.hid hbox2; have HG2 := Lib.hid hG2; clear hbox2 hG2)
  have w1 : IntKind.i64.wrap ((a : Int) + c - c) = a := by rw [IntWalk.i64_in _ (by omega)]; omega
  have w2 : (a : Int) + c - c = a := by omega
  go_quiet (fail)
  go_wp2
  go_ret2
  have hb : Box W2 R #[.string s, .int .i64 ((a : Int) + c)] 72 := HB2.out
  have hg := HG2.out
  exact ⟨rfl, hb, ⟨hg.os, hg.tape, hg.output, hg.size, hg.block, hg.shape⟩⟩
end Go.Proofs.YtiomfkgbaemmkaaDoor
