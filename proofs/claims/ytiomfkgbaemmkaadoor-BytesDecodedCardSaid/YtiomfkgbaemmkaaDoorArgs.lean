/-
  A slice of fields that came in, opened: what the walk is told of it.
-/
import Derived.Test.YtiomfkgbaemmkaaDoorPlain
import Derived.Test.YtiomfkgbaemmkaaDoorRows
import Derived.WalkKit
import Derived.ProofKit
import Derived.Deep.SlicePairs
import Derived.Laws.World
import Derived.OpenShut
namespace Go.Proofs.YtiomfkgbaemmkaaDoor
open Go.ChangeShapes Go.WideShapes Go.ChangeAt Go.RowKit

theorem add_pl (b o k : Nat) : (⟨b, o, none⟩ : Addr).add k = ⟨b, o + k, none⟩ := by unfold Addr.add; split <;> simp_all
theorem rd_fields {w : World} {a : Addr} {len : Nat} (q : Nat → Fld) (h : ∀ i, i < len → w.cell? (a.add (i * 2)) = some (.int .i64 (q i).1) ∧ w.cell? (a.add (i * 2 + 1)) = some (.int .i64 (q i).2)) :
    Rd w w.heap.size (some a) (fldsV ((List.range len).map q)) := fun j u hj => by
  have hlt : j < 2 * len := by
    have := (List.getElem?_eq_some_iff.1 hj).1
    rw [fldsV_length, List.length_map, List.length_range] at this
    exact this
  obtain ⟨b, o, sp⟩ := a
  obtain ⟨h0, h1⟩ := h (j / 2) (by omega)
  have hs : sp = none := by
    have := World.cell?_spot (h 0 (by omega)).1
    simpa [Addr.add] using this
  subst hs
  rw [add_pl] at h0 h1
  have hb : b < w.heap.size := block_lt_of_cell h0
  refine ⟨b, o, rfl, hb, ?_⟩
  have hk : j / 2 < ((List.range len).map q).length := by rw [List.length_map, List.length_range]; omega
  obtain ⟨g0, g1⟩ := fldsV_get ((List.range len).map q) (j / 2) hk
  have e : ((List.range len).map q)[j / 2] = q (j / 2) := by simp
  rw [e] at g0 g1
  rcases (by omega : j = j / 2 * 2 ∨ j = j / 2 * 2 + 1) with hp | hp
  · rw [← hp] at g0 h0
    rw [g0] at hj
    rw [← hj]
    exact h0
  · rw [← hp] at g1 h1
    rw [g1] at hj
    rw [← hj]
    exact h1

set_option maxRecDepth 100000 in
theorem open_fields {H : Type} {enc : TypeId × Value → H} {W : World} {r : Reach} {base : Nat} {v : Value} {d : DataW H} {p : List MemPlace}
    (hv : Value.okWide Tryd.prog W r base 22 v) (h : DataW.Trod enc Tryd.prog W 0 (fun _ => true) true 22 v d p) :
    ∃ A c l, v = .slice A l.length c ∧ l.length ≤ maxLen ∧ Rd W W.heap.size A (fldsV l) := by
  obtain ⟨a0, len0, cap0, rfl⟩ := okWide_slice Tryd.underlying22 hv
  obtain ⟨fuel, hf⟩ := h
  rcases Go.Deep.open_slice_pairs Tryd.underlying22 Tryd.underlying44 (by kernel_rfl) (by kernel_rfl) (by kernel_rfl) (by kernel_rfl) (by kernel_rfl) hf with ⟨hcs, _⟩ | ⟨a, len, cap, m, n, V0, V1, D0, D1, P0, P1, hcs, _, hl, hm, hmm, _, hx⟩
  · simp [Value.cells] at hcs
    obtain ⟨rfl, rfl, rfl⟩ := hcs
    exact ⟨none, 0, [], rfl, Nat.zero_le _, Rd.nil _ _ _⟩
  · simp [Value.cells] at hcs
    obtain ⟨rfl, rfl, rfl⟩ := hcs
    rw [if_pos rfl] at hmm
    have each : ∀ i, i < len0 → ∃ q : Fld, W.cell? (a.add (i * 2)) = some (.int .i64 q.1) ∧ W.cell? (a.add (i * 2 + 1)) = some (.int .i64 q.2) := by
      intro i hi
      obtain ⟨c0, c1, t0, t1⟩ := hx i (by omega)
      obtain ⟨x, e0, _, _⟩ := DataW.trod_int Tryd.underlying3 t0
      obtain ⟨y, e1, _, _⟩ := DataW.trod_int Tryd.underlying3 t1
      simp only [List.cons.injEq, and_true] at e0 e1
      exact ⟨(x, y), by rw [c0, e0], by rw [c1, e1]⟩
    obtain ⟨q, hq⟩ := Go.Deep.choose_lt each
    refine ⟨some a, cap0, (List.range len0).map q, ?_, ?_, rd_fields q hq⟩
    · rw [List.length_map, List.length_range]
    · rw [List.length_map, List.length_range]; omega
end Go.Proofs.YtiomfkgbaemmkaaDoor
