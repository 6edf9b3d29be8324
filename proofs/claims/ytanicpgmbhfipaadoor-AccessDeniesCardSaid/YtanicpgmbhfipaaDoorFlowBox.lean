/-
  Drawn regions with one store of a struct into a box of the call's own: what the store leaves.
-/
import Derived.Test.YtanicpgmbhfipaaDoorFlow
import Derived.Test.YtanicpgmbhfipaaDoorBox
namespace Go.Proofs.YtanicpgmbhfipaaDoor
set_option linter.unusedVariables false
set_option linter.unusedSimpArgs false
open Go.RowKit Go.Sort

def BoxR (g : Nat) (cells : Array Value) (t : TypeId) (_ : Value) (X : World) : Prop := Box X g cells t
theorem BoxR.stable {g : Nat} {cells : Array Value} {t : TypeId} (v : Value) (X X' : World) (h : BoxR g cells t v X) (hb : Below X.heap.size X X') : BoxR g cells t v X' := Box.below h hb
theorem leaves_store_run {P : Program} {ev : Operand → Value} {o : Oper} {X : World} (ty : TypeId) (x y : Operand) (ho : o.op = .store ty x y) (g : Nat) (cells : Array Value) (hx : ev x = .pointer (some ⟨g, 0, none⟩)) (hy : ev y = .agg cells)
    (t : TypeId) (old : Array Value) (hg : Box X g old t) (hi : (P.info? ty).map (·.size) = some cells.size) (hold : old.size = cells.size) (h1 : cells.all (·.oneCell') = true) :
    ∃ X', (execOp ev o).run P X = .ok .skip X' ∧ Grw (fun b _ => b = g) X X' ∧ Box X' g cells t := by
  refine ⟨X.setRow g cells, ?_, ⟨rfl, rfl, rfl, by simp [World.setRow], fun b _ hne => setRow_other X g b cells hne, fun b cs T fr hb => ?_⟩, setRow_heap X g old cells t (0, 0) hg⟩
  · unfold execOp
    simp only [ho, hx, hy, Instr.storeAt, Instr.sureAddr, Sem.run_bind, Sem.run_pure, Result.andThen_ok, run_storeVar_row X g t ty old cells hg hi hold h1]
  · by_cases e : b = g
    · subst e
      have := Option.some.inj ((show X.heap[b]? = some (.cells old t (0, 0)) from hg).symm.trans hb)
      injection this with e1 e2 e3
      subst e1 e2 e3
      exact ⟨cells, hold.symm, setRow_heap X b old cells t (0, 0) hg⟩
    · exact ⟨cs, rfl, (setRow_other X g b cells e).trans hb⟩
theorem leaves_store {P : Program} {ev : Operand → Value} {o : Oper} {X : World} (ty : TypeId) (x y : Operand) (ho : o.op = .store ty x y) (g : Nat) (cells : Array Value) (hx : ev x = .pointer (some ⟨g, 0, none⟩)) (hy : ev y = .agg cells)
    (t : TypeId) (old : Array Value) (hg : Box X g old t) (hi : (P.info? ty).map (·.size) = some cells.size) (hold : old.size = cells.size) (h1 : cells.all (·.oneCell') = true) :
    LeavesO P (fun b _ => b = g) true (BoxR g cells t) X ((execOp ev o).run P X) :=
  .inr ⟨rfl, leaves_store_run ty x y ho g cells hx hy t old hg hi hold h1⟩
theorem leaves_store1 {P : Program} {ev : Operand → Value} {o : Oper} {X : World} (ty : TypeId) (x y : Operand) (ho : o.op = .store ty x y) (g j : Nat) (v : Value) (hx : ev x = .pointer (some ⟨g, j, none⟩)) (hy : ev y = v)
    (h1 : v.oneCell' = true) (hi : (P.info? ty).map (·.size) = some 1) (t : TypeId) (cells : Array Value) (hg : Box X g cells t) (hj : j < cells.size) :
    LeavesO P (fun b _ => b = g) true (BoxR g (cells.setIfInBounds j v) t) X ((execOp ev o).run P X) := by
  have hc : X.cell? ⟨g, j, none⟩ = some cells[j] := by rw [hg.cells, Array.getElem?_eq_getElem hj]
  have hf : X.frozen? ⟨g, j, none⟩ = false := hg.frozen j
  have hcells : v.cells = #[v] := by cases v <;> first | rfl | (simp [Value.oneCell'] at h1)
  have hst : (storeCells ⟨g, j, none⟩ [v]).run P X = .ok () (X.setCells g j [v]) := by
    have := run_storeCells_cells (P := P) g j [v] 0 X (fun i hi => by have : i = 0 := (by simp at hi; exact hi); subst this; simp only [Nat.add_zero]; rw [hc]; rfl) (fun i hi => by have : i = 0 := (by simp at hi; exact hi); subst this; simp only [Nat.add_zero]; exact hf) (fun u hu => by rw [List.mem_singleton.1 hu]; exact h1)
    simpa using this
  have hrun : (storeVar ty ⟨g, j, none⟩ v).run P X = .ok () (X.setCell ⟨g, j, none⟩ v) := by
    cases hq : P.info? ty with
    | none => simp [hq] at hi
    | some i =>
      have hs : i.size = 1 := by simpa [hq] using hi
      have e : X.setCells g j [v] = X.setCell ⟨g, j, none⟩ v := rfl
      rw [e] at hst
      simp [storeVar, sizeOf, typeInfo, hq, hcells, hs, hst]
  refine .inr ⟨rfl, X.setCell ⟨g, j, none⟩ v, ?_, ⟨rfl, rfl, rfl, by simp [World.setCell], fun b _ hne => heap_setCell_other X _ b v hne, fun b cs T fr hb => ?_⟩, heap_setCell_same X g j cells t v hg⟩
  · unfold execOp
    simp only [ho, hx, hy, Instr.storeAt, Instr.sureAddr, Sem.run_bind, Sem.run_pure, Result.andThen_ok, hrun]
  · by_cases e : b = g
    · subst e
      have := Option.some.inj ((show X.heap[b]? = some (.cells cells t (0, 0)) from hg).symm.trans hb)
      injection this with e1 e2 e3
      subst e1 e2 e3
      exact ⟨_, by simp, heap_setCell_same X b j cells t v hg⟩
    · exact ⟨cs, rfl, (heap_setCell_other X ⟨g, j, none⟩ b v e).trans hb⟩
theorem regcellG {w X : World} {g : Nat} (hX : Grw (fun b _ => b = g) w X) : ∀ d os b o, b < w.heap.size → b ≠ g → (grow (redrawn X d) os).cell? ⟨b, o, none⟩ = w.cell? ⟨b, o, none⟩ := fun d os b o h hne =>
  ((below_regrown X d os).cell (p := ⟨b, o, none⟩) (Nat.lt_of_lt_of_le h hX.size)).trans (hX.cell (p := ⟨b, o, none⟩) h hne)
theorem Grw.belowAt {w w0 X : World} {g : Nat} (hX : Grw (fun b _ => b = g) w X) (hb : Below w0.heap.size w0 w) (hg : w0.heap.size ≤ g) : Below w0.heap.size w0 X :=
  ⟨hX.os.trans hb.os, hX.tape.trans hb.tape, hX.output.trans hb.output, Nat.le_trans hb.size hX.size, fun b h => (hX.block b (Nat.lt_of_lt_of_le h hb.size) (by omega)).trans (hb.block b h)⟩

/-- boxes of one type, from block B on -/
def BoxesO (B : Nat) (T : TypeId) (b : Nat) (o : Option Obj) : Prop := B ≤ b ∧ ∃ cs, o = some (.cells cs T (0, 0))
theorem BoxesO.below {w X : World} {B : Nat} {T : TypeId} (hX : Grw (BoxesO B T) w X) {w0 : World} (hb : Below w0.heap.size w0 w) (hle : w0.heap.size ≤ B) : Below w0.heap.size w0 X :=
  ⟨hX.os.trans hb.os, hX.tape.trans hb.tape, hX.output.trans hb.output, Nat.le_trans hb.size hX.size, fun b h => (hX.block b (Nat.lt_of_lt_of_le h hb.size) (fun ⟨h1, _⟩ => by omega)).trans (hb.block b h)⟩
theorem regcellB {w X : World} {B : Nat} {T : TypeId} (hX : Grw (BoxesO B T) w X) : ∀ d os b o, b < w.heap.size → b < B → (grow (redrawn X d) os).cell? ⟨b, o, none⟩ = w.cell? ⟨b, o, none⟩ := fun d os b o h hne =>
  ((below_regrown X d os).cell (p := ⟨b, o, none⟩) (Nat.lt_of_lt_of_le h hX.size)).trans (hX.cell (p := ⟨b, o, none⟩) h (fun ⟨h1, _⟩ => by dsimp only at h1; omega))
/-- rows of another type are kept -/
theorem ownsRow_boxes {w X : World} {B : Nat} {T : TypeId} {base : Nat} {e : TypeId} {size n : Nat} {v : Value} {xs : List Value} (h : w.ownsRow base e size v n xs) (hX : Grw (BoxesO B T) w X) (hne : e ≠ T) : X.ownsRow base e size v n xs := by
  refine ⟨h.1, ?_⟩
  rcases h.2 with h' | ⟨b, cap, cur, h1, h2, h3, h4⟩
  · exact .inl h'
  · refine .inr ⟨b, cap, cur, h1, h2, ?_, h4⟩
    rw [hX.block b (Array.getElem?_eq_some_iff.1 h3).1 (fun ⟨_, cs, hcs⟩ => by
      rw [h3] at hcs; injection hcs with hcs; injection hcs with _ e2 _; exact hne e2), h3]
theorem leaves_storeB {P : Program} {ev : Operand → Value} {o : Oper} {X : World} {R : Value → World → Prop} (B : Nat) (ty : TypeId) (x y : Operand) (ho : o.op = .store ty x y) (g : Nat) (cells : Array Value) (hx : ev x = .pointer (some ⟨g, 0, none⟩)) (hy : ev y = .agg cells)
    (t : TypeId) (old : Array Value) (hg : Box X g old t) (hB : B ≤ g) (hi : (P.info? ty).map (·.size) = some cells.size) (hold : old.size = cells.size) (h1 : cells.all (·.oneCell') = true) (hR : ∀ X', Box X' g cells t → R undef X') :
    LeavesO P (BoxesO B t) true R X ((execOp ev o).run P X) := by
  obtain ⟨X', h2, h3, h4⟩ := leaves_store_run (P := P) ty x y ho g cells hx hy t old hg hi hold h1
  exact .inr ⟨rfl, X', h2, ⟨h3.os, h3.tape, h3.output, h3.size, fun b hb hO => by
      by_cases e : b = g
      · subst e; exact absurd ⟨hB, old, hg⟩ hO
      · exact h3.block b hb e, h3.shape⟩, hR X' h4⟩
/-- a box that was laid -/
def AtBox (B : Nat) (T : TypeId) (n : Nat) (v : Value) (X : World) : Prop := ∃ b cs, v = .pointer (some ⟨b, 0, none⟩) ∧ B ≤ b ∧ cs.size = n ∧ Box X b cs T
theorem AtBox.stable {B : Nat} {T : TypeId} {n : Nat} (v : Value) (X X' : World) (h : AtBox B T n v X) (hb : Below X.heap.size X X') : AtBox B T n v X' := by
  obtain ⟨b, cs, h1, h2, h3, h4⟩ := h
  exact ⟨b, cs, h1, h2, h3, h4.below hb⟩
theorem AtBox.grw {O : Nat → Option Obj → Prop} {B : Nat} {T : TypeId} {n : Nat} (v : Value) (X X' : World) (h : AtBox B T n v X) (hb : Grw O X X') : AtBox B T n v X' := by
  obtain ⟨b, cs, h1, h2, h3, h4⟩ := h
  obtain ⟨cs', h5, h6⟩ := hb.shape b cs T (0, 0) h4
  exact ⟨b, cs', h1, h2, h5.trans h3, h6⟩
/-- one value -/
def IsV (u : Value) (_ : Act) (v : Value) (_ : World) : Prop := v = u

/-- old blocks apart from those of O are as they were: a store into a new block, a row that has grown -/
theorem Grw.own {O : Nat → Option Obj → Prop} {g : Nat} {w W W2 : World} (h : Grw O w W) (k : Grw (fun b _ => b = g) W W2) (hg : w.heap.size ≤ g) : Grw O w W2 :=
  ⟨k.os.trans h.os, k.tape.trans h.tape, k.output.trans h.output, Nat.le_trans h.size k.size, fun b hb hO => (k.block b (Nat.lt_of_lt_of_le hb h.size) (by omega)).trans (h.block b hb hO),
   fun b cs T fr hb => by
    obtain ⟨c1, h1, h2⟩ := h.shape b cs T fr hb
    obtain ⟨c2, h3, h4⟩ := k.shape b c1 T fr h2
    exact ⟨c2, h3.trans h1, h4⟩⟩
theorem Grw.grown {O : Nat → Option Obj → Prop} {w W W2 : World} {row : Option Nat} (h : Grw O w W) (k : W.grownBy W2 row) (hg : ∀ g, row = some g → w.heap.size ≤ g) : Grw O w W2 := by
  have hk : ∀ b, b < w.heap.size → W2.heap[b]? = W.heap[b]? := fun b hb => k.block b (Nat.lt_of_lt_of_le hb h.size) (fun e => by have := hg b e.symm; omega)
  refine ⟨k.os.trans h.os, k.tape.trans h.tape, k.output.trans h.output, Nat.le_trans h.size k.size, fun b hb hO => (hk b hb).trans (h.block b hb hO), fun b cs T fr hb => ?_⟩
  obtain ⟨c1, h1, h2⟩ := h.shape b cs T fr hb
  exact ⟨c1, h1, (hk b (Array.getElem?_eq_some_iff.1 hb).1).trans h2⟩
theorem Grw.to_below {O : Nat → Option Obj → Prop} {w0 w W : World} (h : Grw O w W) (hb : Below w0.heap.size w0 w) (hO : ∀ b o, O b o → w0.heap.size ≤ b) : Below w0.heap.size w0 W :=
  ⟨h.os.trans hb.os, h.tape.trans hb.tape, h.output.trans hb.output, Nat.le_trans hb.size h.size, fun b hb2 => (h.block b (Nat.lt_of_lt_of_le hb2 hb.size) (fun ho => by have := hO b _ ho; omega)).trans (hb.block b hb2)⟩
theorem Box.grw {O : Nat → Option Obj → Prop} {w W : World} {b : Nat} {cs : Array Value} {T : TypeId} (h : Box w b cs T) (hX : Grw O w W) (hO : ¬ O b w.heap[b]?) : Box W b cs T := (hX.block b h.lt hO).trans h
section
variable {P : Program} {ops : Array Oper} {rest : List Oper} {o : Oper} {a : Act} {w : World} {Q : Exit → Act → World → Prop}
theorem wpList_store_newG (hgd : o.guard = none) (ty : TypeId) (x y : Operand) (ho : o.op = .store ty x y) (hd : o.dst = none)
    (g : Nat) (cells : Array Value) (hx : a.eval x = .pointer (some ⟨g, 0, none⟩)) (hy : a.eval y = .agg cells)
    (t : TypeId) (old : Array Value) (hg : Box w g old t) (hi : (P.info? ty).map (·.size) = some cells.size) (hold : old.size = cells.size) (h1 : cells.all (·.oneCell') = true)
    (h : ∀ W2, Grw (fun b _ => b = g) w W2 → Box W2 g cells t → (∀ b cs T, b ≠ g → Box w b cs T → Box W2 b cs T) → wpList P ops Q rest a W2) : wpList P ops Q (o :: rest) a w := by
  obtain ⟨X', h2, h3, h4⟩ := leaves_store_run (P := P) ty x y ho g cells hx hy t old hg hi hold h1
  refine wpList_plain hgd fun K hK => ?_
  unfold Oper.wp
  rw [h2]
  refine hK _ _ ?_
  rw [hd]
  exact h X' h3 h4 (fun b cs T hne hb => (h3.block b hb.lt hne).trans hb)
theorem wpList_store_fieldG (hgd : o.guard = none) (ty : TypeId) (x y : Operand) (ho : o.op = .store ty x y) (hd : o.dst = none)
    (g j : Nat) (v : Value) (hx : a.eval x = .pointer (some ⟨g, j, none⟩)) (hy : a.eval y = v) (h1 : v.oneCell' = true) (hi : (P.info? ty).map (·.size) = some 1)
    (t : TypeId) (cells : Array Value) (hg : Box w g cells t) (hj : j < cells.size)
    (h : ∀ W2, Grw (fun b _ => b = g) w W2 → Box W2 g (cells.setIfInBounds j v) t → (∀ b cs T, b ≠ g → Box w b cs T → Box W2 b cs T) → wpList P ops Q rest a W2) : wpList P ops Q (o :: rest) a w := by
  rcases leaves_store1 (P := P) (ev := a.eval) (o := o) (X := w) ty x y ho g j v hx hy h1 hi t cells hg hj with h2 | ⟨_, X', h2, h3, h4⟩
  · exfalso
    have hrun : ∃ X', (execOp a.eval o).run P w = .ok .skip X' := by
      have hc : w.cell? ⟨g, j, none⟩ = some cells[j] := by rw [hg.cells, Array.getElem?_eq_getElem hj]
      have hf : w.frozen? ⟨g, j, none⟩ = false := hg.frozen j
      have hcells : v.cells = #[v] := by cases v <;> first | rfl | (simp [Value.oneCell'] at h1)
      have hst : (storeCells ⟨g, j, none⟩ [v]).run P w = .ok () (w.setCells g j [v]) := by
        have := run_storeCells_cells (P := P) g j [v] 0 w (fun i hi => by have : i = 0 := (by simp at hi; exact hi); subst this; simp only [Nat.add_zero]; rw [hc]; rfl) (fun i hi => by have : i = 0 := (by simp at hi; exact hi); subst this; simp only [Nat.add_zero]; exact hf) (fun u hu => by rw [List.mem_singleton.1 hu]; exact h1)
        simpa using this
      cases hq : P.info? ty with
      | none => simp [hq] at hi
      | some i =>
        have hs : i.size = 1 := by simpa [hq] using hi
        refine ⟨w.setCells g j [v], ?_⟩
        unfold execOp
        simp [ho, hx, hy, Instr.storeAt, Instr.sureAddr, storeVar, sizeOf, typeInfo, hq, hcells, hs, hst]
    obtain ⟨X', hr⟩ := hrun
    rw [hr] at h2
    simp only [LeavesR] at h2
  · refine wpList_plain hgd fun K hK => ?_
    unfold Oper.wp
    rw [h2]
    refine hK _ _ ?_
    rw [hd]
    exact h X' h3 h4 (fun b cs T hne hb => (h3.block b hb.lt hne).trans hb)
end
end Go.Proofs.YtanicpgmbhfipaaDoor
