/-
  Values of fields that came in.
-/
import Derived.Test.YtiomfkgbaemmkaaDoorWEnc
import Derived.Test.YtiomfkgbaemmkaaDoorOpen
import Derived.Test.YtiomfkgbaemmkaaDoorArgs
namespace Go.Proofs.YtiomfkgbaemmkaaDoor
set_option linter.unusedVariables false
set_option linter.unusedSimpArgs false
open Go.ChangeShapes Go.WideShapes Go.ChangeAt Go.RowKit

theorem vcV_length (x : VC) : (vcV x).length = 3 := rfl
theorem flat_ints (l : List Int) : l.flatMap (fun x => [Value.int .i64 x]) = l.map (.int .i64) := by
  induction l with
  | nil => rfl
  | cons x l ih => rw [List.flatMap_cons, ih]; rfl
theorem trod_ints {H : Type} {enc : TypeId × Value → H} {W : World} {fuel : Nat} {cs : List Value} {x : DataW H × List MemPlace}
    (h : DataW.trod enc Tryd.prog W 0 (fun _ => true) true fuel 45 cs = some x) : ∃ (A : Option Addr) (c : Nat) (l : List Int), cs = [.slice A l.length c] ∧ l.length ≤ maxLen ∧ Rd W W.heap.size A (l.map (.int .i64)) := by
  obtain ⟨A, c, l, h1, h2, h3, _⟩ := trod_list (fun x : Int => [.int .i64 x]) 1 (fun _ => rfl) (fun _ => True) Tryd.underlying45 (by kernel_rfl) (fun fuel cs x hl h => by
    match cs, hl with
    | [u], _ =>
      obtain ⟨y, e, _, _⟩ := DataW.trod_int Tryd.underlying3 h
      exact ⟨y, e, trivial⟩) h
  rw [flat_ints] at h3
  exact ⟨A, c, l, h1, h2, h3⟩
set_option maxRecDepth 100000 in
theorem open_values {H : Type} {enc : TypeId × Value → H} {W : World} {r : Reach} {base : Nat} {v : Value} {d : DataW H} {p : List MemPlace}
    (hv : Value.okWide Tryd.prog W r base 23 v) (h : DataW.Trod enc Tryd.prog W 0 (fun _ => true) true 23 v d p) :
    ∃ (A : Option Addr) (c : Nat) (l : List VC), v = .slice A l.length c ∧ l.length ≤ maxLen ∧ Rd W W.heap.size A (vcsV l) ∧ ∀ x ∈ l, VOk W W.heap.size x :=
  open_list vcV 3 vcV_length (VOk W W.heap.size) Tryd.underlying23 (by kernel_rfl) (fun fuel cs x hl h => by
    obtain ⟨xs, k, hk, hxy, _, hxl, hf⟩ := DataW.trod_struct Tryd.underlying47 h
    match xs, hxl, cs, hl with
    | [y0, y1, y2], _, [c0, c1, c2], _ =>
      have ci : Tryd.prog.cellsOf 3 = 1 := by kernel_rfl
      have cS : Tryd.prog.cellsOf 9 = 1 := by kernel_rfl
      have cl : Tryd.prog.cellsOf 45 = 1 := by kernel_rfl
      have g0 := hf 0 _ rfl
      have g1 := hf 1 _ rfl
      have g2 := hf 2 _ rfl
      simp [ci, cS, cl] at g0 g1 g2
      obtain ⟨x0, e0, _, _⟩ := DataW.trod_int Tryd.underlying3 g0
      obtain ⟨x1, e1, _, s1⟩ := DataW.trod_string Tryd.underlying9 g1
      obtain ⟨A2, cc, l2, e2, m2, r2⟩ := trod_ints g2
      simp only [List.cons.injEq, and_true] at e0 e1 e2
      refine ⟨⟨x0, x1, A2, cc, l2⟩, ?_, s1, m2, r2⟩
      rw [e0, e1, e2]; rfl) hv h

theorem lBytesEncoded (A : Option Addr) (c : Nat) (l : List Fld) (hl : l.length ≤ maxLen) {W : World} (hr : Rd W W.heap.size A (fldsV l)) (A2 : Option Addr) (c2 : Nat) (vs : List VC) (hv : vs.length ≤ maxLen) (hr2 : Rd W W.heap.size A2 (vcsV vs)) (hg : ∀ x ∈ vs, VOk W W.heap.size x) :
    Calls Tryd.prog 3 #[.slice A l.length c, .slice A2 vs.length c2] W fun e w' => e = .returned (.bool true) ∧ Below W.heap.size W w' :=
  wBytesEncoded A c l A2 c2 vs W hl hv ⟨Below.refl _ _, hr, hr2, hg⟩
theorem lBytesDecoded (A : Option Addr) (c : Nat) (l : List Fld) (hl : l.length ≤ maxLen) {W : World} (hr : Rd W W.heap.size A (fldsV l)) (s : ByteArray) (hs : s.size ≤ maxLen) :
    Calls Tryd.prog 4 #[.slice A l.length c, .string s] W fun e w' => e = .returned (.bool true) ∧ Below W.heap.size W w' :=
  wBytesDecoded A c l s W hl hs hr
end Go.Proofs.YtiomfkgbaemmkaaDoor
