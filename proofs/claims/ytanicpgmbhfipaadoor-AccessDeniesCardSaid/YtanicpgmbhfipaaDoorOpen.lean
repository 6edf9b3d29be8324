/-
  Values that came in, opened: slices, arrays and structs whose elements are read by a reader of their cells.
-/
import Derived.Test.YtanicpgmbhfipaaDoorPlain
import Derived.WalkKit
import Derived.ProofKit
import Derived.Deep.Slices
import Derived.Deep.SlicePairs
import Derived.Lib.SmallJoins
import Derived.OpenShut
namespace Go.Proofs.YtanicpgmbhfipaaDoor
set_option linter.unusedVariables false
set_option linter.unusedSimpArgs false
open Go.ChangeShapes Go.WideShapes Go.ChangeAt Go.RowKit

theorem flat_len {α : Type} {f : α → List Value} {n : Nat} (hf : ∀ x, (f x).length = n) (l : List α) : (l.flatMap f).length = n * l.length := by
  induction l with
  | nil => rfl
  | cons x l ih => rw [List.flatMap_cons, List.length_append, hf, ih, List.length_cons, Nat.mul_succ, Nat.add_comm]
theorem flat_get {α : Type} {f : α → List Value} {n : Nat} (hf : ∀ x, (f x).length = n) (l : List α) : ∀ (k : Nat) (h : k < l.length) (j : Nat) (u : Value), (f l[k])[j]? = some u → (l.flatMap f)[k * n + j]? = some u := by
  induction l with
  | nil => intro k h; exact absurd h (by simp)
  | cons x l ih =>
    intro k h j u hu
    have hj : j < n := by rw [← hf]; exact (List.getElem?_eq_some_iff.1 hu).1
    rw [List.flatMap_cons]
    cases k with
    | zero => rw [List.getElem?_append_left (by rw [hf]; omega), Nat.zero_mul, Nat.zero_add]; exact hu
    | succ k =>
      rw [List.getElem?_append_right (by rw [hf, Nat.succ_mul]; omega), hf, ← ih k (by simpa using h) j u (by simpa using hu), Nat.succ_mul]
      congr 1; omega
theorem flat_inv {α : Type} {f : α → List Value} {n : Nat} (hf : ∀ x, (f x).length = n) (l : List α) {j : Nat} {u : Value} (h : (l.flatMap f)[j]? = some u) :
    ∃ (k : Nat) (hk : k < l.length) (r : Nat), r < n ∧ j = k * n + r ∧ (f l[k])[r]? = some u := by
  have hj := (List.getElem?_eq_some_iff.1 h).1
  rw [flat_len hf] at hj
  have hn : 0 < n := by
    rcases Nat.eq_zero_or_pos n with h0 | h0
    · subst h0; simp at hj
    · exact h0
  have hk : j / n < l.length := (Nat.div_lt_iff_lt_mul hn).2 (by rw [Nat.mul_comm]; exact hj)
  have hr : j % n < n := Nat.mod_lt _ hn
  have e : j = j / n * n + j % n := by rw [Nat.mul_comm]; exact (Nat.div_add_mod j n).symm
  refine ⟨j / n, hk, j % n, hr, e, ?_⟩
  have h1 : (f l[j / n])[j % n]? = some ((f l[j / n])[j % n]'(by rw [hf]; exact hr)) := List.getElem?_eq_getElem _
  have h2 := flat_get hf l _ hk _ _ h1
  rw [← e, h] at h2
  rw [h1, ← h2]

/-- a slice that came in -/
theorem open_list {H : Type} {enc : TypeId × Value → H} {P : Program} {W : World} {r : Reach} {base : Nat} {t e : TypeId} {v : Value} {d : DataW H} {p : List MemPlace}
    {α : Type} (f : α → List Value) (n : Nat) (hf : ∀ x, (f x).length = n) (G : α → Prop) (ht : P.underlying t = some (.slice e)) (hC : P.cellsOf e = n)
    (each : ∀ (fuel : Nat) (cs : List Value) (x : DataW H × List MemPlace), cs.length = n → DataW.trod enc P W 0 (fun _ => true) true fuel e cs = some x → ∃ y, cs = f y ∧ G y)
    (hv : Value.okWide P W r base t v) (h : DataW.Trod enc P W 0 (fun _ => true) true t v d p) :
    ∃ (A : Option Addr) (c : Nat) (l : List α), v = .slice A l.length c ∧ l.length ≤ maxLen ∧ Rd W W.heap.size A (l.flatMap f) ∧ ∀ x ∈ l, G x := by
  obtain ⟨a0, len0, cap0, rfl⟩ := okWide_slice ht hv
  obtain ⟨fuel, hfu⟩ := h
  rcases Go.Deep.open_slice ht hfu with ⟨hcs, _⟩ | ⟨a, len, cap, m, k, D, Pl, hcs, _, hl, hm, hmm, _, hx⟩
  · simp [Value.cells] at hcs
    obtain ⟨rfl, rfl, rfl⟩ := hcs
    exact ⟨none, 0, [], rfl, Nat.zero_le _, Rd.nil _ _ _, fun x hx => absurd hx (List.not_mem_nil)⟩
  · simp [Value.cells] at hcs
    obtain ⟨rfl, rfl, rfl⟩ := hcs
    rw [if_pos rfl] at hmm
    rw [hC] at hx
    have each' : ∀ i, i < len0 → ∃ y : α, G y ∧ ∀ j, j < n → W.cell? ((a.add (i * n)).add j) = (f y)[j]? := by
      intro i hi
      obtain ⟨cs', hc, ht'⟩ := hx i (by omega)
      obtain ⟨_, hlen, hat⟩ := World.cells?_some hc
      obtain ⟨y, rfl, hy⟩ := each _ _ _ hlen ht'
      exact ⟨y, hy, hat⟩
    by_cases h0 : len0 = 0
    · subst h0
      exact ⟨some a, cap0, [], rfl, Nat.zero_le _, Rd.nil _ _ _, fun x hx => absurd hx (List.not_mem_nil)⟩
    · obtain ⟨y0, _, _⟩ := each' 0 (by omega)
      have hpos : Nonempty α := ⟨y0⟩
      obtain ⟨q, hq⟩ := Classical.axiomOfChoice (r := fun (i : Nat) (y : α) => i < len0 → G y ∧ ∀ j, j < n → W.cell? ((a.add (i * n)).add j) = (f y)[j]?) (fun i => by
        by_cases hi : i < len0
        · obtain ⟨y, hy⟩ := each' i hi; exact ⟨y, fun _ => hy⟩
        · exact ⟨y0, fun h => absurd h hi⟩)
      have hlen : ((List.range len0).map q).length = len0 := by rw [List.length_map, List.length_range]
      refine ⟨some a, cap0, (List.range len0).map q, by rw [hlen], by rw [hlen]; omega, ?_, ?_⟩
      · intro j u hj
        obtain ⟨i, hi, r', hr, rfl, hu⟩ := flat_inv hf _ hj
        rw [hlen] at hi
        have hc := (hq i hi).2 r' hr
        rw [List.getElem_map, List.getElem_range] at hu
        rw [hu] at hc
        obtain ⟨b, o, sp⟩ := a
        have hs : sp = none := by
          have h0 := (hq 0 (by omega)).2 0 (by omega)
          rw [List.getElem?_eq_getElem (by rw [hf]; omega)] at h0
          have := World.cell?_spot h0
          simpa [Addr.add] using this
        subst hs
        have ea : ((⟨b, o, none⟩ : Addr).add (i * n)).add r' = ⟨b, o + (i * n + r'), none⟩ := by
          unfold Addr.add
          by_cases h1 : i * n = 0 <;> by_cases h2 : r' = 0 <;> simp [h1, h2, Nat.add_assoc]
        rw [ea] at hc
        exact ⟨b, o, rfl, block_lt_of_cell hc, hc⟩
      · intro x hx
        obtain ⟨i, hi, rfl⟩ := List.mem_map.1 hx
        exact (hq i (List.mem_range.1 hi)).1

/-- a slice that lies in a cell -/
theorem trod_list {H : Type} {enc : TypeId × Value → H} {P : Program} {W : World} {t e : TypeId} {fuel0 : Nat} {cs0 : List Value} {x0 : DataW H × List MemPlace}
    {α : Type} (f : α → List Value) (n : Nat) (hf : ∀ x, (f x).length = n) (G : α → Prop) (ht : P.underlying t = some (.slice e)) (hC : P.cellsOf e = n)
    (each : ∀ (fuel : Nat) (cs : List Value) (x : DataW H × List MemPlace), cs.length = n → DataW.trod enc P W 0 (fun _ => true) true fuel e cs = some x → ∃ y, cs = f y ∧ G y)
    (hfu : DataW.trod enc P W 0 (fun _ => true) true fuel0 t cs0 = some x0) :
    ∃ (A : Option Addr) (c : Nat) (l : List α), cs0 = [.slice A l.length c] ∧ l.length ≤ maxLen ∧ Rd W W.heap.size A (l.flatMap f) ∧ ∀ x ∈ l, G x := by
  rcases Go.Deep.open_slice ht hfu with ⟨hcs, _⟩ | ⟨a, len, cap, m, k, D, Pl, hcs, _, hl, hm, hmm, _, hx⟩
  · exact ⟨none, 0, [], hcs, Nat.zero_le _, Rd.nil _ _ _, fun x hx => absurd hx (List.not_mem_nil)⟩
  · obtain ⟨len0, rfl⟩ : ∃ n, n = len := ⟨_, rfl⟩
    obtain ⟨cap0, rfl⟩ : ∃ n, n = cap := ⟨_, rfl⟩
    subst hcs
    rw [if_pos rfl] at hmm
    rw [hC] at hx
    have each' : ∀ i, i < len0 → ∃ y : α, G y ∧ ∀ j, j < n → W.cell? ((a.add (i * n)).add j) = (f y)[j]? := by
      intro i hi
      obtain ⟨cs', hc, ht'⟩ := hx i (by omega)
      obtain ⟨_, hlen, hat⟩ := World.cells?_some hc
      obtain ⟨y, rfl, hy⟩ := each _ _ _ hlen ht'
      exact ⟨y, hy, hat⟩
    by_cases h0 : len0 = 0
    · subst h0
      exact ⟨some a, cap0, [], rfl, Nat.zero_le _, Rd.nil _ _ _, fun x hx => absurd hx (List.not_mem_nil)⟩
    · obtain ⟨y0, _, _⟩ := each' 0 (by omega)
      have hpos : Nonempty α := ⟨y0⟩
      obtain ⟨q, hq⟩ := Classical.axiomOfChoice (r := fun (i : Nat) (y : α) => i < len0 → G y ∧ ∀ j, j < n → W.cell? ((a.add (i * n)).add j) = (f y)[j]?) (fun i => by
        by_cases hi : i < len0
        · obtain ⟨y, hy⟩ := each' i hi; exact ⟨y, fun _ => hy⟩
        · exact ⟨y0, fun h => absurd h hi⟩)
      have hlen : ((List.range len0).map q).length = len0 := by rw [List.length_map, List.length_range]
      refine ⟨some a, cap0, (List.range len0).map q, by rw [hlen], by rw [hlen]; omega, ?_, ?_⟩
      · intro j u hj
        obtain ⟨i, hi, r', hr, rfl, hu⟩ := flat_inv hf _ hj
        rw [hlen] at hi
        have hc := (hq i hi).2 r' hr
        rw [List.getElem_map, List.getElem_range] at hu
        rw [hu] at hc
        obtain ⟨b, o, sp⟩ := a
        have hs : sp = none := by
          have h0 := (hq 0 (by omega)).2 0 (by omega)
          rw [List.getElem?_eq_getElem (by rw [hf]; omega)] at h0
          have := World.cell?_spot h0
          simpa [Addr.add] using this
        subst hs
        have ea : ((⟨b, o, none⟩ : Addr).add (i * n)).add r' = ⟨b, o + (i * n + r'), none⟩ := by
          unfold Addr.add
          by_cases h1 : i * n = 0 <;> by_cases h2 : r' = 0 <;> simp [h1, h2, Nat.add_assoc]
        rw [ea] at hc
        exact ⟨b, o, rfl, block_lt_of_cell hc, hc⟩
      · intro x hx
        obtain ⟨i, hi, rfl⟩ := List.mem_map.1 hx
        exact (hq i (List.mem_range.1 hi)).1

/-- a struct or an array that came in by value -/
theorem open_val {H : Type} {enc : TypeId × Value → H} {P : Program} {W : World} {r : Reach} {base : Nat} {t : TypeId} {fs : Array Field} {v : Value} {d : DataW H} {p : List MemPlace}
    {α : Type} (f : α → List Value) (n : Nat) (G : α → Prop) (ht : P.underlying t = some (.struct fs)) (hC : P.cellsOf t = n)
    (each : ∀ (fuel : Nat) (cs : List Value) (x : DataW H × List MemPlace), cs.length = n → DataW.trod enc P W 0 (fun _ => true) true fuel t cs = some x → ∃ y, cs = f y ∧ G y)
    (hv : Value.okWide P W r base t v) (h : DataW.Trod enc P W 0 (fun _ => true) true t v d p) : ∃ y, v = .agg (f y).toArray ∧ G y := by
  obtain ⟨cs, rfl, hsz⟩ := okWide_struct ht hv
  obtain ⟨fuel, hfu⟩ := h
  obtain ⟨y, hy, h1⟩ := each _ _ _ (by show cs.toList.length = n; rw [Array.length_toList]; exact hsz.trans hC) hfu
  have : cs = (f y).toArray := by apply Array.toList_inj.1; exact hy
  exact ⟨y, by rw [this], h1⟩
theorem okWide_array {P : Program} {w : World} {r : Reach} {base : Nat} {t : TypeId} {v : Value} {n : Nat} {e : TypeId} (ht : P.underlying t = some (.array n e)) (h : Value.okWide P w r base t v) : ∃ cs, v = .agg cs ∧ cs.size = P.cellsOf t := by
  simp only [Value.okWide, ht] at h
  obtain ⟨cs, h1, h2, _⟩ := h
  exact ⟨cs, h1, h2⟩
theorem open_arr {H : Type} {enc : TypeId × Value → H} {P : Program} {W : World} {r : Reach} {base : Nat} {t e : TypeId} {k : Nat} {v : Value} {d : DataW H} {p : List MemPlace}
    {α : Type} (f : α → List Value) (n : Nat) (G : α → Prop) (ht : P.underlying t = some (.array k e)) (hC : P.cellsOf t = n)
    (each : ∀ (fuel : Nat) (cs : List Value) (x : DataW H × List MemPlace), cs.length = n → DataW.trod enc P W 0 (fun _ => true) true fuel t cs = some x → ∃ y, cs = f y ∧ G y)
    (hv : Value.okWide P W r base t v) (h : DataW.Trod enc P W 0 (fun _ => true) true t v d p) : ∃ y, v = .agg (f y).toArray ∧ G y := by
  obtain ⟨cs, rfl, hsz⟩ := okWide_array ht hv
  obtain ⟨fuel, hfu⟩ := h
  obtain ⟨y, hy, h1⟩ := each _ _ _ (by show cs.toList.length = n; rw [Array.length_toList]; exact hsz.trans hC) hfu
  have : cs = (f y).toArray := by apply Array.toList_inj.1; exact hy
  exact ⟨y, by rw [this], h1⟩
end Go.Proofs.YtanicpgmbhfipaaDoor
