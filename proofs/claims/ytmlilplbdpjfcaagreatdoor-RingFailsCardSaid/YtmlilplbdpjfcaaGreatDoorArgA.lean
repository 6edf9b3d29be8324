/-
  Values that came in, opened: slices, arrays and structs whose elements are read by a reader of their cells.
  Chapter 20: restart areas and logs that came in.
-/
import Derived.Test.YtmlilplbdpjfcaaGreatDoorKitA
import Derived.WalkKit
import Derived.ProofKit
import Derived.Deep.Slices
import Derived.Deep.SlicePairs
import Derived.Lib.SmallJoins
import Derived.OpenShut
import Derived.Test.YtmlilplbdpjfcaaGreatDoorRgA
namespace Go.Proofs.YtmlilplbdpjfcaaGreatDoor
set_option linter.unusedVariables false
set_option linter.unusedSimpArgs false
open Go.ChangeShapes Go.WideShapes Go.ChangeAt Go.RowKit
theorem flat_len {α : Type} {f : α → List Value} {n : Nat} (hf : ∀ x, (f x).length = n) (l : List α) : (l.flatMap f).length = n * l.length := by
 induction l with
 | nil => rfl
 | cons x l ih => rw [List.flatMap_cons, List.length_append, hf, ih, List.length_cons, Nat.mul_succ, Nat.add_comm]
theorem flatO_get {α : Type} {f : α → List Value} {n : Nat} (hf : ∀ x, (f x).length = n) (l : List α) : ∀ (k : Nat) (h : k < l.length) (j : Nat) (u : Value), (f l[k])[j]? = some u → (l.flatMap f)[k * n + j]? = some u := by
 induction l with
 | nil => intro k h; exact absurd h (by simp)
 | cons x l ih =>
  intro k h j u hu
  have hj : j < n := by rw [← hf]; exact (List.getElem?_eq_some_iff.1 hu).1
  rw [List.flatMap_cons]
  cases k with
  | zero => rw [List.getElem?_append_left (by rw [hf]; omega), Nat.zero_mul, Nat.zero_add]; exact hu
  | succ k =>
   rw [List.getElem?_append_right (by rw [hf, Nat.succ_mul]; omega), hf, ← ih k (by simpa using h) j u (by simpa using hu), Nat.succ_mul]
   congr 1; omega
theorem flat_inv {α : Type} {f : α → List Value} {n : Nat} (hf : ∀ x, (f x).length = n) (l : List α) {j : Nat} {u : Value} (h : (l.flatMap f)[j]? = some u) :
 ∃ (k : Nat) (hk : k < l.length) (r : Nat), r < n ∧ j = k * n + r ∧ (f l[k])[r]? = some u := by
 have hj := (List.getElem?_eq_some_iff.1 h).1
 rw [flat_len hf] at hj
 have hn : 0 < n := by
  rcases Nat.eq_zero_or_pos n with h0 | h0
  · subst h0; simp at hj
  · exact h0
 have hk : j / n < l.length := (Nat.div_lt_iff_lt_mul hn).2 (by rw [Nat.mul_comm]; exact hj)
 have hr : j % n < n := Nat.mod_lt _ hn
 have e : j = j / n * n + j % n := by rw [Nat.mul_comm]; exact (Nat.div_add_mod j n).symm
 refine ⟨j / n, hk, j % n, hr, e, ?_⟩
 have h1 : (f l[j / n])[j % n]? = some ((f l[j / n])[j % n]'(by rw [hf]; exact hr)) := List.getElem?_eq_getElem _
 have h2 := flatO_get hf l _ hk _ _ h1
 rw [← e, h] at h2
 rw [h1, ← h2]
theorem trod_list {H : Type} {enc : TypeId × Value → H} {P : Program} {W : World} {t e : TypeId} {fuel0 : Nat} {cs0 : List Value} {x0 : DataW H × List MemPlace}
 {α : Type} (f : α → List Value) (n : Nat) (hf : ∀ x, (f x).length = n) (G : α → Prop) (ht : P.underlying t = some (.slice e)) (hC : P.cellsOf e = n)
 (each : ∀ (fuel : Nat) (cs : List Value) (x : DataW H × List MemPlace), cs.length = n → DataW.trod enc P W 0 (fun _ => true) true fuel e cs = some x → ∃ y, cs = f y ∧ G y)
 (hfu : DataW.trod enc P W 0 (fun _ => true) true fuel0 t cs0 = some x0) :
 ∃ (A : Option Addr) (c : Nat) (l : List α), cs0 = [.slice A l.length c] ∧ l.length ≤ maxLen ∧ Rd W W.heap.size A (l.flatMap f) ∧ ∀ x ∈ l, G x := by
 rcases Go.Deep.open_slice ht hfu with ⟨hcs, _⟩ | ⟨a, len, cap, m, k, D, Pl, hcs, _, hl, hm, hmm, _, hx⟩
 · exact ⟨none, 0, [], hcs, Nat.zero_le _, Rd.nil _ _ _, fun x hx => absurd hx (List.not_mem_nil)⟩
 · obtain ⟨len0, rfl⟩ : ∃ n, n = len := ⟨_, rfl⟩
   obtain ⟨cap0, rfl⟩ : ∃ n, n = cap := ⟨_, rfl⟩
   subst hcs
   rw [if_pos rfl] at hmm
   rw [hC] at hx
   have each' : ∀ i, i < len0 → ∃ y : α, G y ∧ ∀ j, j < n → W.cell? ((a.add (i * n)).add j) = (f y)[j]? := by
    intro i hi
    obtain ⟨cs', hc, ht'⟩ := hx i (by omega)
    obtain ⟨_, hlen, hat⟩ := World.cells?_some hc
    obtain ⟨y, rfl, hy⟩ := each _ _ _ hlen ht'
    exact ⟨y, hy, hat⟩
   by_cases h0 : len0 = 0
   · subst h0
     exact ⟨some a, cap0, [], rfl, Nat.zero_le _, Rd.nil _ _ _, fun x hx => absurd hx (List.not_mem_nil)⟩
   · obtain ⟨y0, _, _⟩ := each' 0 (by omega)
     have hpos : Nonempty α := ⟨y0⟩
     obtain ⟨q, hq⟩ := Classical.axiomOfChoice (r := fun (i : Nat) (y : α) => i < len0 → G y ∧ ∀ j, j < n → W.cell? ((a.add (i * n)).add j) = (f y)[j]?) (fun i => by
      by_cases hi : i < len0
      · obtain ⟨y, hy⟩ := each' i hi; exact ⟨y, fun _ => hy⟩
      · exact ⟨y0, fun h => absurd h hi⟩)
     have hlen : ((List.range len0).map q).length = len0 := by rw [List.length_map, List.length_range]
     refine ⟨some a, cap0, (List.range len0).map q, by rw [hlen], by rw [hlen]; omega, ?_, ?_⟩
     · intro j u hj
       obtain ⟨i, hi, r', hr, rfl, hu⟩ := flat_inv hf _ hj
       rw [hlen] at hi
       have hc := (hq i hi).2 r' hr
       rw [List.getElem_map, List.getElem_range] at hu
       rw [hu] at hc
       obtain ⟨b, o, sp⟩ := a
       have hs : sp = none := by
        have h0 := (hq 0 (by omega)).2 0 (by omega)
        rw [List.getElem?_eq_getElem (by rw [hf]; omega)] at h0
        have := World.cell?_spot h0
        simpa [Addr.add] using this
       subst hs
       have ea : ((⟨b, o, none⟩ : Addr).add (i * n)).add r' = ⟨b, o + (i * n + r'), none⟩ := by
        unfold Addr.add
        by_cases h1 : i * n = 0 <;> by_cases h2 : r' = 0 <;> simp [h1, h2, Nat.add_assoc]
       rw [ea] at hc
       exact ⟨b, o, rfl, block_lt_of_cell hc, hc⟩
     · intro x hx
       obtain ⟨i, hi, rfl⟩ := List.mem_map.1 hx
       exact (hq i (List.mem_range.1 hi)).1
theorem open_val {H : Type} {enc : TypeId × Value → H} {P : Program} {W : World} {r : Reach} {base : Nat} {t : TypeId} {fs : Array Field} {v : Value} {d : DataW H} {p : List MemPlace}
 {α : Type} (f : α → List Value) (n : Nat) (G : α → Prop) (ht : P.underlying t = some (.struct fs)) (hC : P.cellsOf t = n)
 (each : ∀ (fuel : Nat) (cs : List Value) (x : DataW H × List MemPlace), cs.length = n → DataW.trod enc P W 0 (fun _ => true) true fuel t cs = some x → ∃ y, cs = f y ∧ G y)
 (hv : Value.okWide P W r base t v) (h : DataW.Trod enc P W 0 (fun _ => true) true t v d p) : ∃ y, v = .agg (f y).toArray ∧ G y := by
 obtain ⟨cs, rfl, hsz⟩ := okWide_struct ht hv
 obtain ⟨fuel, hfu⟩ := h
 obtain ⟨y, hy, h1⟩ := each _ _ _ (by show cs.toList.length = n; rw [Array.length_toList]; exact hsz.trans hC) hfu
 have : cs = (f y).toArray := by apply Array.toList_inj.1; exact hy
 exact ⟨y, by rw [this], h1⟩
end Go.Proofs.YtmlilplbdpjfcaaGreatDoor
namespace Go.Proofs.YtmlilplbdpjfcaaGreatDoor
set_option linter.unusedVariables false
set_option linter.unusedSimpArgs false
open Go.ChangeShapes Go.WideShapes Go.ChangeAt Go.RowKit
def rstL (x : RstP) : List Value := [.int .i64 x.s, .int .i64 x.c, .int .i64 x.o]
def RstI (x : RstP) : Prop := (-9223372036854775808 ≤ x.s ∧ x.s < 9223372036854775808) ∧ (-9223372036854775808 ≤ x.c ∧ x.c < 9223372036854775808) ∧ (-9223372036854775808 ≤ x.o ∧ x.o < 9223372036854775808)
theorem wf_i64 {n : Int} (h : (Lit.int .i64 n).wf = true) : -9223372036854775808 ≤ n ∧ n < 9223372036854775808 := by
 have h1 : (decide (IntKind.i64.min ≤ n) && decide (n ≤ IntKind.i64.max)) = true := h
 have e1 : IntKind.i64.min = -9223372036854775808 := by decide
 have e2 : IntKind.i64.max = 9223372036854775807 := by decide
 rw [e1, e2, Bool.and_eq_true, decide_eq_true_eq, decide_eq_true_eq] at h1
 omega
set_option maxRecDepth 100000 in
theorem trod_rst {H : Type} {enc : TypeId × Value → H} {W : World} {fuel : Nat} {cs : List Value} {x : DataW H × List MemPlace} (hl : cs.length = 3)
 (h : DataW.trod enc Tryz.prog W 0 (fun _ => true) true fuel 23 cs = some x) : ∃ y, cs = rstL y ∧ RstI y := by
 obtain ⟨xs, k, hk, hxy, _, hxl, hf⟩ := DataW.trod_struct Tryz.underlying23 h
 match xs, hxl, cs, hl with
 | [y0, y1, y2], _, [c0, c1, c2], _ =>
  have ci : Tryz.prog.cellsOf 3 = 1 := by kernel_rfl
  have g0 := hf 0 _ rfl
  have g1 := hf 1 _ rfl
  have g2 := hf 2 _ rfl
  simp [ci] at g0 g1 g2
  obtain ⟨x0, e0, _, b0⟩ := DataW.trod_int Tryz.underlying3 g0
  obtain ⟨x1, e1, _, b1⟩ := DataW.trod_int Tryz.underlying3 g1
  obtain ⟨x2, e2, _, b2⟩ := DataW.trod_int Tryz.underlying3 g2
  simp only [List.cons.injEq, and_true] at e0 e1 e2
  exact ⟨⟨x0, x1, x2⟩, by rw [e0, e1, e2]; rfl, wf_i64 b0, wf_i64 b1, wf_i64 b2⟩
structure RngA where
 r : RngP
 A : Option Addr
 c : Nat
def rngL (x : RngA) : List Value := [.int .i64 x.r.pg, .int .i64 x.r.r.s, .int .i64 x.r.r.c, .int .i64 x.r.r.o, .int .i64 x.r.e.s, .int .i64 x.r.e.c, .int .i64 x.r.e.o, .slice x.A x.r.rs.length x.c, .int .i64 x.r.nx]
structure RngI (r : RngP) : Prop where
 pg : -9223372036854775808 ≤ r.pg ∧ r.pg < 9223372036854775808
 rr : RstI r.r
 ee : RstI r.e
 nx : -9223372036854775808 ≤ r.nx ∧ r.nx < 9223372036854775808
 len : r.rs.length ≤ maxLen
 rs : ∀ x ∈ r.rs, (-9223372036854775808 ≤ x.l ∧ x.l < 9223372036854775808) ∧ (-9223372036854775808 ≤ x.s ∧ x.s < 9223372036854775808) ∧ x.b.size ≤ maxLen
theorem recs_flat (l : List RecP) : l.flatMap (fun x => [Value.int .i64 x.l, .int .i64 x.s, .string x.b]) = recsV l := by
 unfold recsV; first | rfl | (rw [List.flatMap_def]; rfl)
set_option maxRecDepth 100000 in
theorem trod_recs {H : Type} {enc : TypeId × Value → H} {W : World} {fuel : Nat} {cs : List Value} {x : DataW H × List MemPlace}
 (h : DataW.trod enc Tryz.prog W 0 (fun _ => true) true fuel 24 cs = some x) : ∃ (A : Option Addr) (c : Nat) (l : List RecP), cs = [.slice A l.length c] ∧ l.length ≤ maxLen ∧ Rd W W.heap.size A (recsV l) ∧ ∀ x ∈ l, (-9223372036854775808 ≤ x.l ∧ x.l < 9223372036854775808) ∧ (-9223372036854775808 ≤ x.s ∧ x.s < 9223372036854775808) ∧ x.b.size ≤ maxLen := by
 obtain ⟨A, c, l, h1, h2, h3, h4⟩ := trod_list (fun x : RecP => [Value.int .i64 x.l, .int .i64 x.s, .string x.b]) 3 (fun _ => rfl) (fun x => (-9223372036854775808 ≤ x.l ∧ x.l < 9223372036854775808) ∧ (-9223372036854775808 ≤ x.s ∧ x.s < 9223372036854775808) ∧ x.b.size ≤ maxLen) Tryz.underlying24 (by kernel_rfl) (fun fuel cs x hl h => by
  obtain ⟨xs, k, hk, hxy, _, hxl, hf⟩ := DataW.trod_struct Tryz.underlying98 h
  match xs, hxl, cs, hl with
  | [y0, y1, y2], _, [c0, c1, c2], _ =>
   have ci : Tryz.prog.cellsOf 3 = 1 := by kernel_rfl
   have cS : Tryz.prog.cellsOf 9 = 1 := by kernel_rfl
   have g0 := hf 0 _ rfl
   have g1 := hf 1 _ rfl
   have g2 := hf 2 _ rfl
   simp [ci, cS] at g0 g1 g2
   obtain ⟨x0, e0, _, b0⟩ := DataW.trod_int Tryz.underlying3 g0
   obtain ⟨x1, e1, _, b1⟩ := DataW.trod_int Tryz.underlying3 g1
   obtain ⟨x2, e2, _, s2⟩ := DataW.trod_string Tryz.underlying9 g2
   simp only [List.cons.injEq, and_true] at e0 e1 e2
   exact ⟨⟨x0, x1, x2⟩, by rw [e0, e1, e2], wf_i64 b0, wf_i64 b1, s2⟩) h
 rw [recs_flat] at h3
 exact ⟨A, c, l, h1, h2, h3, h4⟩
set_option maxRecDepth 100000 in
theorem open_ring {H : Type} {enc : TypeId × Value → H} {W : World} {r : Reach} {base : Nat} {v : Value} {d : DataW H} {p : List MemPlace}
 (hv : Value.okWide Tryz.prog W r base 26 v) (h : DataW.Trod enc Tryz.prog W 0 (fun _ => true) true 26 v d p) :
 ∃ (r : RngP) (A : Option Addr) (c : Nat), v = ringV r A c ∧ RngI r ∧ Rd W W.heap.size A (recsV r.rs) := by
 obtain ⟨y, h1, h2, h3⟩ := open_val (α := RngA) rngL 9 (fun x => RngI x.r ∧ Rd W W.heap.size x.A (recsV x.r.rs)) Tryz.underlying26 (by kernel_rfl) (fun fuel cs x hl h => by
  obtain ⟨xs, k, hk, hxy, _, hxl, hf⟩ := DataW.trod_struct Tryz.underlying26 h
  match xs, hxl, cs, hl with
  | [y0, y1, y2, y3, y4], _, [c0, c1, c2, c3, c4, c5, c6, c7, c8], _ =>
   have ci : Tryz.prog.cellsOf 3 = 1 := by kernel_rfl
   have cr : Tryz.prog.cellsOf 23 = 3 := by kernel_rfl
   have cl : Tryz.prog.cellsOf 24 = 1 := by kernel_rfl
   have g0 := hf 0 _ rfl
   have g1 := hf 1 _ rfl
   have g2 := hf 2 _ rfl
   have g3 := hf 3 _ rfl
   have g4 := hf 4 _ rfl
   simp [ci, cr, cl] at g0 g1 g2 g3 g4
   obtain ⟨x0, e0, _, b0⟩ := DataW.trod_int Tryz.underlying3 g0
   obtain ⟨x1, e1, b1⟩ := trod_rst rfl g1
   obtain ⟨x2, e2, b2⟩ := trod_rst rfl g2
   obtain ⟨A3, k3, l3, e3, m3, r3, i3⟩ := trod_recs g3
   obtain ⟨x4, e4, _, b4⟩ := DataW.trod_int Tryz.underlying3 g4
   simp only [rstL, List.cons.injEq, and_true] at e0 e1 e2 e3 e4
   obtain ⟨e10, e11, e12⟩ := e1
   obtain ⟨e20, e21, e22⟩ := e2
   exact ⟨⟨⟨x0, x1, x2, l3, x4⟩, A3, k3⟩, by rw [e0, e10, e11, e12, e20, e21, e22, e3, e4]; rfl, ⟨wf_i64 b0, b1, b2, wf_i64 b4, m3, i3⟩, r3⟩) hv h
 exact ⟨y.r, y.A, y.c, h1, h2, h3⟩
end Go.Proofs.YtmlilplbdpjfcaaGreatDoor
