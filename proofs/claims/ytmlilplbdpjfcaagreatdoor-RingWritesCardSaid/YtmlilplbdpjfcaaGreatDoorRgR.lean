/-
  Chapter 20: a valid log's records stand in order; a log restarted is valid.
-/
import Derived.Test.YtmlilplbdpjfcaaGreatDoorRg5
import Derived.Test.YtmlilplbdpjfcaaGreatDoorRgP5
namespace Go.Proofs.YtmlilplbdpjfcaaGreatDoor
set_option linter.unusedVariables false
set_option linter.unusedSimpArgs false
open Go.RowKit Go.Sort
theorem OkP.behind {r : RngP} (h : OkP r) {k : Nat} (hk : k + 1 < r.rs.length) : bhR r.rs[k] ≤ r.rs[k + 1].l - 1 := rec_behind h.all h.h.rr.2.2.2 k hk
theorem OkP.rz {r : RngP} (h : OkP r) {k : Nat} (hk : k < r.rs.length) : r.rs[k].b.size ≠ 0 ∧ r.rs[k].b.size ≤ 3000 ∧ ordB r.r.o (bfrR r.rs k) r.rs[k] = true ∧ inB r.rs[k].s 1 r.r.s = true ∧ seqB (bfrR r.rs k) r.rs[k] = true := recE_zero.1 (h.all k hk)
theorem OkP.mono {r : RngP} (h : OkP r) : ∀ (d k : Nat) (hk : k + d < r.rs.length), r.rs[k].l + 16 * d ≤ r.rs[k + d].l
  | 0, k, hk => by show r.rs[k].l + 16 * ((0 : Nat) : Int) ≤ r.rs[k].l; omega
  | d + 1, k, hk => by
    have h1 := h.mono d k (by omega)
    have h2 := h.behind (k := k + d) hk
    have h3 := (h.rz (k := k + d) (by omega)).1
    have h4 := (h.rcd (k + d) (by omega)).2.2
    have h5 := szR_in h4
    have h6 : 16 ≤ szR (r.rs[k + d].b.size : Int) := by unfold szR; omega
    unfold bhR at h2
    show r.rs[k].l + 16 * ((d + 1 : Nat) : Int) ≤ r.rs[k + d + 1].l
    omega
theorem OkP.lt {r : RngP} (h : OkP r) {i j : Nat} (hij : i < j) (hj : j < r.rs.length) : r.rs[i].l < r.rs[j].l := by
  have := h.mono (j - i) i (by omega)
  have e : i + (j - i) = j := by omega
  simp only [e] at this
  omega
theorem OkP.le {r : RngP} (h : OkP r) {i j : Nat} (hij : i ≤ j) (hj : j < r.rs.length) : r.rs[i].l ≤ r.rs[j].l := by
  rcases Nat.lt_or_ge i j with h1 | h1
  · have := h.lt h1 hj; omega
  · have e : i = j := by omega
    subst e; exact Int.le_refl _
theorem OkP.head {r : RngP} (h : OkP r) (h0 : 0 < r.rs.length) : r.rs[0].l = r.r.o := by
  have := (h.rz h0).2.2.1
  unfold ordB bfrR at this
  simp only [if_true, Bool.and_eq_true, beq_iff_eq, decide_eq_true_eq] at this
  exact this.1.1
theorem OkP.next {r : RngP} (h : OkP r) : (∀ y, r.rs.getLast? = some y → (r.nx = bhR y ∨ r.nx = nxtR (bhR y)) ∧ (y.s = r.r.s ∨ r.nx % 448 = 0)) ∧ (r.rs = [] → r.nx = r.r.o - 1 ∧ r.nx % 448 = 0) := by
  have h1 := h.tl.1
  unfold nextE at h1
  constructor
  · intro y hy
    rw [hy] at h1
    simp only at h1
    rw [unl_zero (by decide)] at h1
    simp only [Bool.and_eq_true, Bool.or_eq_true, beq_iff_eq] at h1
    exact h1
  · intro hn
    rw [hn] at h1
    simp only [List.getLast?_nil] at h1
    rw [unl_zero (by decide)] at h1
    simp only [Bool.and_eq_true, beq_iff_eq] at h1
    exact h1
theorem lastG {l : List RecP} (h0 : 0 < l.length) : l.getLast? = some (l[l.length - 1]'(by omega)) := by
  rw [List.getLast?_eq_getElem?, List.getElem?_eq_getElem (by omega)]
theorem hasR_iff {l : List RecP} {n : Int} : hasR l n = true ↔ ∃ k, ∃ hk : k < l.length, l[k].l = n := by
  unfold hasR
  rw [List.any_eq_true]
  constructor
  · rintro ⟨x, hx, he⟩
    obtain ⟨k, hk, rfl⟩ := List.getElem_of_mem hx
    exact ⟨k, hk, eq_of_beq he⟩
  · rintro ⟨k, hk, he⟩
    exact ⟨l[k], List.getElem_mem _, by simpa using he⟩
end Go.Proofs.YtmlilplbdpjfcaaGreatDoor
