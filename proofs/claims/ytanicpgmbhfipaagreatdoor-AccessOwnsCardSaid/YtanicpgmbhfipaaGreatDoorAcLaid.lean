/-
  Chapter 17: the laid table access.grants, as the walks want it.
-/
import Derived.Test.YtanicpgmbhfipaaGreatDoorRows
import Derived.Test.YtanicpgmbhfipaaGreatDoorAcI
import Derived.LaidMore
import Derived.MakeChecks
import Derived.FnData
namespace Go.Proofs.YtanicpgmbhfipaaGreatDoor
set_option linter.unusedVariables false
set_option linter.unusedSimpArgs false
open Go.ChangeShapes Go.WideShapes Go.ChangeAt Go.RowKit
set_option maxRecDepth 100000 in
theorem grants_laid {W : World} (h : laidMetH Tryz.prog [("depository/access.grants", Rows.laid_depository_access_grants)] W) : GrT W := by
 rw [MakeChecks.laidMetH_plain _ _ _ (by kernel_rfl)] at h
 obtain ⟨ps, ⟨g, t, cs, fuel, p, q, hg, ht, hv, hd, _, _⟩, _, _⟩ := h
 obtain rfl := Option.some.inj ((show Tryz.prog.globalNamed "depository/access.grants" = some 0 by kernel_rfl).symm.trans hg)
 obtain rfl := Option.some.inj ((show (Tryz.prog.globals[0]?).map (·.type) = some 156 by kernel_rfl).symm.trans ht)
 obtain ⟨xs, m, _, ex, hcl, hl, hel⟩ := DataW.trod_array Tryz.underlying156 hd
 have c2 : Tryz.prog.cellsOf 155 = 2 := by kernel_rfl
 have c1 : Tryz.prog.cellsOf 3 = 1 := by kernel_rfl
 have c6 : Tryz.prog.cellsOf 156 = 6 := by kernel_rfl
 rw [c6] at hcl
 rw [c2] at hel
 unfold Rows.laid_depository_access_grants at ex
 match xs, hl with
 | [x0, x1, x2], _ =>
  have ex1 := (DataW.agg.inj (Prod.mk.inj ex).1)
  simp only [List.map_cons, List.map_nil, List.cons.injEq, and_true] at ex1
  obtain ⟨k0, k1, k2⟩ := ex1
  have one : ∀ (i : Nat) (a b : Int) (x : DataW Unit × List MemPlace), i < 3 → [x0, x1, x2][i]? = some x → (.agg [.lit (.int .i64 a), .lit (.int .i64 b)] : DataW Unit) = x.1 → cs[i * 2]? = some (.int .i64 a) ∧ cs[i * 2 + 1]? = some (.int .i64 b) := by
   intro i a b x hi hx hk
   have hE := hel i hi
   rw [hx] at hE
   obtain ⟨ys, n, _, ey, _, hyl, hf⟩ := DataW.trod_struct Tryz.underlying155 hE
   match ys, hyl with
   | [y0, y1], _ =>
    have g0 := hf 0 _ rfl
    have g1 := hf 1 _ rfl
    simp [c1] at g0 g1
    obtain ⟨z0, e0, r0, _⟩ := DataW.trod_int Tryz.underlying3 g0
    obtain ⟨z1, e1, r1, _⟩ := DataW.trod_int Tryz.underlying3 g1
    rw [ey] at hk
    have hk' := DataW.agg.inj hk
    simp only [List.map_cons, List.map_nil, List.cons.injEq, and_true] at hk'
    obtain ⟨q0, q1⟩ := hk'
    rw [r0] at q0
    rw [r1] at q1
    simp only [DataW.lit.injEq, Lit.int.injEq, true_and] at q0 q1
    subst q0 q1
    have f0 : ((cs.toList.drop (i * 2)).take 2)[0]? = some (.int .i64 a) := by
     have : (List.take 1 (List.take 2 (List.drop (i * 2) cs.toList)))[0]? = some (.int .i64 a) := by first | (rw [e0]; rfl) | (simpa using congrArg (·[0]?) e0)
     simpa using this
    have f1 : ((cs.toList.drop (i * 2)).take 2)[1]? = some (.int .i64 b) := by
     have : (List.take 1 (List.take 2 (List.drop (i * 2) cs.toList)).tail)[0]? = some (.int .i64 b) := by rw [e1]; rfl
     rw [List.getElem?_take_of_lt (by omega), List.getElem?_tail] at this
     exact this
    refine ⟨?_, ?_⟩
    · simpa using f0
    · simpa using f1
  have h0 := one 0 _ _ x0 (by omega) rfl k0
  have h1 := one 1 _ _ x1 (by omega) rfl k1
  have h2 := one 2 _ _ x2 (by omega) rfl k2
  have cell := fun i => World.var?_cell hg hv i
  have hlt : 0 < W.heap.size := by
   have := cell 0
   rw [h0.1] at this
   exact block_lt_of_cell this
  intro j u hj
  have hj6 : j < 6 := (List.getElem?_eq_some_iff.1 hj).1
  refine ⟨0, 0, rfl, hlt, ?_⟩
  rw [Nat.zero_add, cell, ← hj]
  match j, hj6 with
  | 0, _ => exact h0.1
  | 1, _ => exact h0.2
  | 2, _ => exact h1.1
  | 3, _ => exact h1.2
  | 4, _ => exact h2.1
  | 5, _ => exact h2.2
end Go.Proofs.YtanicpgmbhfipaaGreatDoor
