/-
  A slice of operations of the caller's: still there in later worlds; its cells.
-/
import Derived.Test.YtgmipogidmcilaaDoorOpRef4
namespace Go.Proofs.YtgmipogidmcilaaDoor
set_option linter.unusedVariables false
set_option linter.unusedSimpArgs false
open Go.RowKit Go.Sort

/-- a slice that came in, as it stands later -/
def Ols (w W : World) (A : Option Addr) (xs : List Value) : Prop := Below w.heap.size w W ∧ Rd W W.heap.size A xs
theorem Ols.next {w W W' : World} {A : Option Addr} {xs : List Value} (h : Ols w W A xs) (hb : Below W.heap.size W W') : Ols w W' A xs :=
  ⟨bel_trans h.1 hb, h.2.below' hb⟩
/-- the cells of one operation -/
def OpCells (W : World) (b o : Nat) (x : Op) : Prop := W.cell? ⟨b, o, none⟩ = some (.int .i64 x.k) ∧ W.cell? ⟨b, o + 1, none⟩ = some (.int .i64 x.a) ∧ W.cell? ⟨b, o + 2, none⟩ = some (.int .i64 x.e) ∧
  W.cell? ⟨b, o + 3, none⟩ = some (.int .i64 x.c) ∧ W.cell? ⟨b, o + 4, none⟩ = some (.string x.o) ∧ W.cell? ⟨b, o + 5, none⟩ = some (.string x.n)
theorem op_cells {W : World} {B : Nat} {A : Option Addr} {l : List Op} (h : Rd W B A (opsV l)) (hne : 0 < l.length) :
    ∃ b o, A = some ⟨b, o, none⟩ ∧ b < B ∧ ∀ (k : Nat) (hk : k < l.length), OpCells W b (o + k * 6) l[k] := by
  obtain ⟨b, o, hA, hB, hc⟩ := h.opened (by rw [opsV_length]; omega)
  refine ⟨b, o, hA, hB, fun k hk => ?_⟩
  exact ⟨hc _ _ (opsV_get l k hk 0 _ rfl), hc _ _ (opsV_get l k hk 1 _ rfl), hc _ _ (opsV_get l k hk 2 _ rfl), hc _ _ (opsV_get l k hk 3 _ rfl), hc _ _ (opsV_get l k hk 4 _ rfl), hc _ _ (opsV_get l k hk 5 _ rfl)⟩
theorem op_cells_at {W : World} {B b o : Nat} {l : List Op} (h : Rd W B (some ⟨b, o, none⟩) (opsV l)) (k : Nat) (hk : k < l.length) : OpCells W b (o + k * 6) l[k] := by
  obtain ⟨b', o', e, _, hc⟩ := op_cells h (by omega)
  injection e with e
  injection e with e1 e2
  subst e1
  subst e2
  exact hc k hk
theorem op_cells_zero {W : World} {B b o : Nat} {l : List Op} (h : Rd W B (some ⟨b, o, none⟩) (opsV l)) (hk : 0 < l.length) : OpCells W b o l[0] := by
  have h1 := op_cells_at h 0 hk
  rw [Nat.zero_mul, Nat.add_zero] at h1
  exact h1
end Go.Proofs.YtgmipogidmcilaaDoor
