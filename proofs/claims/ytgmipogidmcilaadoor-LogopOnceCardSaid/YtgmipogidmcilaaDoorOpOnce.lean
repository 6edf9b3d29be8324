/-
  Chapter 21, plain laws for LogopOnce: pages one behind the other; redone in order.
-/
import Derived.Test.YtgmipogidmcilaaDoorOpRdo
import Derived.Test.YtgmipogidmcilaaDoorOpLst
namespace Go.Proofs.YtgmipogidmcilaaDoor
set_option linter.unusedVariables false
set_option linter.unusedSimpArgs false
open Go.RowKit Go.Sort

/-- the pages before and after the first k operations -/
structure Once (l : List Op) (k : Nat) (g : Nat → ByteArray) : Prop where
  size : ∀ j, j ≤ k → (g j).size = 512
  lsn : ∀ j, j ≤ k → lsnP (g j) = j
  step : ∀ j (h : j < l.length), j < k → opE l[j] = 0 ∧ opFit (g j) l[j] = true ∧ g (j + 1) = wLsn (opDo (g j) l[j]) ((j + 1 : Nat) : Int)
theorem Once.start {l : List Op} {p : ByteArray} (hp : p.size = 512) : Once l 0 (fun _ => wLsn p 0) :=
  ⟨fun j hj => lsnW_size hp, fun j hj => by
    obtain rfl : j = 0 := by omega
    exact lsn_with hp (by omega) (by omega), fun j h hj => absurd hj (Nat.not_lt_zero _)⟩
theorem Once.next {l : List Op} {k : Nat} {g : Nat → ByteArray} (h : Once l k g) (hk : k < l.length) (h1 : opE l[k] = 0) (h2 : opFit (g k) l[k] = true) (hk2 : k < 1000) :
    Once l (k + 1) (fun j => if j ≤ k then g j else wLsn (opDo (g k) l[k]) ((k + 1 : Nat) : Int)) := by
  have hd := opDo_size (h.size k (Nat.le_refl _)) ((opE_iff _).1 h1)
  refine ⟨fun j hj => ?_, fun j hj => ?_, fun j hl hj => ?_⟩
  · skip
    by_cases e : j ≤ k
    · rw [if_pos e]; exact h.size j e
    · rw [if_neg e]; exact lsnW_size hd
  · skip
    by_cases e : j ≤ k
    · rw [if_pos e]; exact h.lsn j e
    · rw [if_neg e]
      obtain rfl : j = k + 1 := by omega
      exact lsn_with hd (by omega) (by omega)
  · skip
    by_cases e : j = k
    · subst e
      rw [if_pos (Nat.le_refl _), if_neg (by omega)]
      exact ⟨h1, h2, rfl⟩
    · obtain ⟨s1, s2, s3⟩ := h.step j hl (by omega)
      rw [if_pos (by omega), if_pos (by omega)]
      exact ⟨s1, s2, s3⟩
/-- redone in order from whichever page on -/
theorem Once.redo {l : List Op} {g : Nat → ByteArray} (h : Once l l.length g) (hl : l.length ≤ 1000) (k m : Nat) (hk : k < l.length) (hm : m ≤ l.length) :
    ∃ b, redo (g (max k m)) false ((k : Int) + 1) l[k] = (g (max (k + 1) m), b, 0) := by
  obtain ⟨s1, s2, s3⟩ := h.step k hk hk
  have hz := h.size (max k m) (by omega)
  have hn := h.lsn (max k m) (by omega)
  rw [redo_val hz (inB_true.2 ⟨by omega, by omega⟩) s1, if_neg (by simp), hn]
  by_cases e : k < m
  · rw [if_pos (by omega), show max k m = m by omega, show max (k + 1) m = m by omega]
    exact ⟨_, rfl⟩
  · rw [if_neg (by omega), show max k m = k by omega, s2, if_pos rfl, show max (k + 1) m = k + 1 by omega, s3]
    exact ⟨_, rfl⟩
theorem between_apI {a b : ByteArray} (ha : a.size = 512) (hb : b.size = 512) (i k : Nat) (hi : i < (between a b).length) (hk : k < i) :
    apI ((between a b)[i]) ((between a b)[k]'(by omega)) = true ∧ firstE [opE ((between a b)[i]), opE ((between a b)[k]'(by omega))] = 0 := by
  have h1 := (opE_iff _).2 (between_mem ha hb (List.getElem_mem hi)).1
  have h2 := (opE_iff _).2 (between_mem ha hb (List.getElem_mem (show k < (between a b).length by omega))).1
  have e : firstE [opE ((between a b)[i]), opE ((between a b)[k]'(by omega))] = 0 := first2_zero.2 ⟨h1, h2⟩
  refine ⟨?_, e⟩
  unfold apI
  rw [if_pos e]
  exact between_apart ha hb i k hi hk
theorem between_opAll {a b : ByteArray} (ha : a.size = 512) (hb : b.size = 512) (h : (between a b).length ≤ 64) : opAll a (between a b) = (b, (between a b).length, 0) := by
  rw [opAll_ok ha h]; exact between_all ha hb
theorem between_short {a b : ByteArray} (ha : a.size = 512) (hb : b.size = 512) : ShortOps (between a b) := fun j h => by
  have := between_mem ha hb (List.getElem_mem h); omega
/-- the strings of the first k pages -/
def pgsV (g : Nat → ByteArray) (k : Nat) : List Value := (List.range k).map fun j => .string (g j)
theorem pgsV_congr {g g' : Nat → ByteArray} {k : Nat} (h : ∀ j, j < k → g j = g' j) : pgsV g k = pgsV g' k := by
  unfold pgsV
  apply List.map_congr_left
  intro j hj
  rw [h j (List.mem_range.1 hj)]
theorem pgsV_snoc (g : Nat → ByteArray) (k : Nat) : pgsV g (k + 1) = pgsV g k ++ [.string (g k)] := by
  unfold pgsV; rw [List.range_succ, List.map_append]; rfl
theorem pgsV_get (g : Nat → ByteArray) (k j : Nat) (h : j < k) : (pgsV g k)[j]? = some (.string (g j)) := by
  unfold pgsV; rw [List.getElem?_map, List.getElem?_range h]; rfl
end Go.Proofs.YtgmipogidmcilaaDoor
