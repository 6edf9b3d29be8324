/-
  Blocks of the call's own that hold one struct: written whole, read.
  The law of Flow within a fence: in a round of a range over a function, where no operation is a defer.
  A range over a function whose iterator keeps its state in one cell of its own (block bi, laid before the loop): the rounds leave that cell alone, the loop's invariant does not mind what is stored there. In a wide fence; the body is never left by a jump.
  A range over a function whose iterator keeps no state (boxes that it reads are kept by the rounds: K). In a wide fence; the body is never left by a jump.
  Drawn regions with one store of a struct into a box of the call's own: what the store leaves.
  Append of one element inside a fence (a round of a range over a function).
  Chapter 17: by what a right is decided.
  Chapter 17: IndexFunc over entries; decided.
  Chapter 17: decided.
  Chapter 17: the iterator over all rights.
  Chapter 17: most, DecidedBy.
  Chapter 17, plain: what valid descriptors and tokens are.
  Chapter 17: RightsFor, AccessTo.
  Chapter 17: AccessTo.
  Chapter 17: DecidedBy.
-/
import Derived.Test.YtanicpgmbhfipaaGreatDoorKitA
import Derived.Laws.Tables
import Derived.Laws.CopyOwn
import Derived.Test.YtanicpgmbhfipaaGreatDoorKitB
import Derived.OrdersIn
import Derived.TacticsIn
import Derived.RangeFuncCalls
import Derived.RangeFuncNested
import Derived.RangeFuncBound
import Derived.RangeFuncLeaves
import Derived.Shelf.Abstract
import Derived.Shelf.RegionOpen
import Derived.WalkKit
import Derived.OwnWalkIn
import Derived.TacticsInMore
import Derived.LoopNIn
import Derived.LoopIn
namespace Go.Proofs.YtanicpgmbhfipaaGreatDoor
set_option linter.unusedVariables false
set_option linter.unusedSimpArgs false
open Go.RowKit Go.Sort
def Box (w : World) (b : Nat) (cs : Array Value) (T : TypeId) : Prop := w.heap[b]? = some (.cells cs T (0, 0))
theorem Box.cells {w : World} {b : Nat} {cs : Array Value} {T : TypeId} (h : Box w b cs T) : ∀ j, w.cell? ⟨b, j, none⟩ = cs[j]? := fun j => cell_of_row _ _ _ cs T (0, 0) h
theorem Box.lt {w : World} {b : Nat} {cs : Array Value} {T : TypeId} (h : Box w b cs T) : b < w.heap.size := (Array.getElem?_eq_some_iff.1 h).1
theorem Box.frozen {w : World} {b : Nat} {cs : Array Value} {T : TypeId} (h : Box w b cs T) : ∀ j, w.frozen? ⟨b, j, none⟩ = false := fun j => by
 unfold World.frozen?
 rw [show w.heap[b]? = _ from h]
 simp
theorem Box.below {w w' : World} {b : Nat} {cs : Array Value} {T : TypeId} (h : Box w b cs T) (hb : Below w.heap.size w w') : Box w' b cs T := (hb.block b h.lt).trans h
theorem Box.setCell {w : World} {b : Nat} {cs : Array Value} {T : TypeId} (h : Box w b cs T) (j : Nat) (v : Value) : Box (w.setCell ⟨b, j, none⟩ v) b (cs.setIfInBounds j v) T := heap_setCell_same w b j cs T v h
theorem Box.new (w : World) (cs : Array Value) (T : TypeId) : Box (w.alloc (.cells cs T)) w.heap.size cs T := heap_alloc_new w _
theorem Box.old {w : World} {b : Nat} {cs : Array Value} {T : TypeId} (h : Box w b cs T) (o : Obj) : Box (w.alloc o) b cs T := (Below.heap_alloc w o b h.lt).trans h
section
variable {P : Program} {ops : Array Oper} {rest : List Oper} {o : Oper} {a : Act} {w : World} {Q : Exit → Act → World → Prop}
end
theorem results_cell_tmp {P : Program} {fn : Func} {p q : Tmp} {ty : TypeId} (h : fn.results = #[.cell p ty, .tmp q]) (tmps : Array Value) (w : World) (g : Nat) (t : TypeId) (cs : Array Value) (d : TypeDesc) (u : Value)
 (hp : tmps.getD p undef = .pointer (some ⟨g, 0, none⟩)) (hq : tmps.getD q undef = u) (hg : Box w g cs t)
 (hu : P.underlying ty = some d) (hd : (match d with | .struct _ | .array _ _ => true | _ => false) = true) (hi : (P.info? ty).map (·.size) = some cs.size) :
 (results fn tmps).run P w = .ok (.tuple #[.agg cs, u]) w := by
 have hp' : tmps[p]?.getD undef = .pointer (some ⟨g, 0, none⟩) := by simpa using hp
 have hq' : tmps[q]?.getD undef = u := by simpa using hq
 simp [results, h, hp', hq', asAddr, run_loadVar_row w g t ty cs (0, 0) d hg hu hd hi]
end Go.Proofs.YtanicpgmbhfipaaGreatDoor
namespace Go.Proofs.YtanicpgmbhfipaaGreatDoor
set_option linter.unusedVariables false
set_option linter.unusedSimpArgs false
open Go.RowKit Go.Sort
def noDeferB (ops : Array Oper) : Bool := ops.all fun o => match o.op with | .defer _ => false | _ => true
theorem noDefer {ops : Array Oper} (h : noDeferB ops = true) {i : Nat} {o : Oper} (ho : ops[i]? = some o) : ∀ c, o.op ≠ .defer c := by
 intro c hc
 obtain ⟨hi, he⟩ := Array.getElem?_eq_some_iff.1 ho
 have := Array.all_eq_true.1 h i hi
 rw [he, hc] at this
 cases this
section
variable {P : Program} {ops : Array Oper} {Q : Exit → Act → World → Prop} {lr n : Nat}
theorem wpIn_region_flowW {id : Nat} {a : Act} {w : World} {l : List Oper} (sts : List (Nat × (Nat → Option Obj → Prop))) (fl : List Bool) (nds : List NdB) (hm : P.follows .mixedOrders = true)
 (hB : flowB l.toArray fl fl.length a.tmps.size (nds.map fun d => (d.k, d.deps)) = true) (hds : dstsB (pick fl l) a.tmps.size = true)
 (h : ∃ afin : Act, (∀ X, Grw (Oall sts) w X → wpQuiet P l.toArray (fun w' => ∃ p : Regrown, w' = grow (redrawn X p.d) p.os) (fun a' => a' = afin) (pick fl l) a) ∧ wpNE P l.toArray sts w Q (l.drop fl.length) nds afin []) :
 (Code.region id l.toArray true).wpIn Fence.wide n P Q a w :=
 wpIn_wide.2 (wp_region_flowE sts fl nds hm hB hds h)
theorem wpNE_of_ND {w : World} {tail : List Oper} : ∀ (nds : List Nd) (g : Act) (Φ : List (Nat × (World → Prop))), wpND P ops w Q tail nds g Φ → wpNE P ops [] w Q tail (nds.map fun d => d.lift.lift) g Φ
 | [], g, Φ, h => fun X hX hΦ => h X (hX.weaken (O' := fun _ _ => False) (fun x o ⟨p, hp, _⟩ => by cases hp)).below hΦ
 | d :: rest, g, Φ, ⟨h1, h2, h3⟩ => by
  refine ⟨⟨h1, fun p hp => (by cases hp), fun _ v X _ h => h⟩, fun o ho X hX hΦ => ?_, fun v => wpNE_of_ND rest _ _ (h3 v)⟩
  have h := h2 o ho X (hX.weaken (O' := fun _ _ => False) (fun x o ⟨p, hp, _⟩ => by cases hp)).below hΦ
  change LeavesR P d.R X ((execOp g.eval o).run P X) at h
  change LeavesE P [] d.k d.R X ((execOp g.eval o).run P X)
  generalize (execOp g.eval o).run P X = r at *
  cases r with
  | ok nx w' =>
   cases nx <;> simp only [LeavesR] at h <;> simp only [LeavesE]
   case value u => exact ⟨.inl h.1, h.2⟩
   case enter f args => exact ⟨h.1, h.2.mono fun e X'' ⟨v, h1, h2, h3⟩ => ⟨v, h1, .inl h2, h3⟩⟩
  | halt x w' => simp only [LeavesR] at h
theorem wpIn_region_flowV {id : Nat} {a : Act} {w : World} {l : List Oper} (fl : List Bool) (nds : List Nd) (hm : P.follows .mixedOrders = true)
 (hB : flowB l.toArray fl fl.length a.tmps.size (nds.map fun d => (d.k, d.deps)) = true) (hds : dstsB (pick fl l) a.tmps.size = true)
 (h : ∃ afin : Act, (∀ X, Below w.heap.size w X → wpQuiet P l.toArray (fun w' => ∃ p : Regrown, w' = grow (redrawn X p.d) p.os) (fun a' => a' = afin) (pick fl l) a) ∧ wpND P l.toArray w Q (l.drop fl.length) nds afin []) :
 (Code.region id l.toArray true).wpIn Fence.wide n P Q a w := by
 obtain ⟨afin, hq, hnd⟩ := h
 exact wpIn_region_flowW [] fl (nds.map fun d => d.lift.lift) hm (by rw [List.map_map]; exact hB) hds ⟨afin, fun X hX => hq X (hX.weaken (O' := fun _ _ => False) (fun x o ⟨p, hp, _⟩ => by cases hp)).below, wpNE_of_ND nds afin _ hnd⟩
end
end Go.Proofs.YtanicpgmbhfipaaGreatDoor
namespace Go.Proofs.YtanicpgmbhfipaaGreatDoor
set_option linter.unusedVariables false
set_option linter.unusedSimpArgs false
open Go.RowKit Go.Shelf
theorem wide_fn (k : FuncId) : Fence.wide.fn k = True := rfl
theorem wide_depth : Fence.wide.depth = none := rfl
end Go.Proofs.YtanicpgmbhfipaaGreatDoor
namespace Go.Proofs.YtanicpgmbhfipaaGreatDoor
set_option linter.unusedVariables false
set_option linter.unusedSimpArgs false
open Go.RowKit Go.Shelf
def SeqFix {α : Type} (n : Nat) (P : Program) (g : Nat) (lb : Array Value) (encs : α → Array Value) (K : World → Prop) (xs : List α) : Prop :=
 ∀ (l : Nat) (J : List α → World → Prop) (W : World), (∀ s A, J s A → K A) → (∀ s A B, J s A → Below A.heap.size A B → J s B) →
  (∀ pre x rest W1, xs = pre ++ x :: rest → J pre W1 → YieldAt Fence.wide (n - 1) P l (encs x) W1 fun e W' => e = .returned (.bool true) ∧ J (pre ++ [x]) W') →
  J [] W →
  CallsIn Fence.wide n P g (#[.func (.yield l) #[] #[]] ++ lb) W fun e W' => (∃ v, e = .returned v) ∧ J xs W'
theorem wpIn_rangeFunc_fix {α : Type} {n : Nat} {P : Program} {w : World} {g : Operand} {ps : Array Tmp} {assign body : Code} {Q : Exit → Act → World → Prop} {a : Act}
 {gf : Nat} {lb : Array Value} (hg : a.eval g = .func (.func gf) #[] lb) (eg : ∀ args w, (callFunc gf args).run P w = .ok (.enter gf args) w)
 {encs : α → Array Value} {K : World → Prop} {xs : List α} (hseq : SeqFix (n - 1) P gf lb encs K xs)
 (hps : ∀ x, (encs x).size = ps.size)
 (I : List α → World → Prop) (hI : OwnFrom w.heap.size I) (hIK : ∀ s A, I s A → K A) (h0 : I [] w)
 (hround : ∀ (l : Nat) (pre : List α) (x : α) (rest : List α) (W : World), xs = pre ++ x :: rest →
  assign.wpIn (Fence.wide.inRound l) (n - 1 - 1) P (Exit.then (fun a' W' => W = W' ∧ ∀ W2, I pre W2 →
   body.wpIn (Fence.wide.inRound l) (n - 1 - 1) P (fun e _ W' => e = .normal ∧ KeepsFrom w.heap.size W2 W' ∧ I (pre ++ [x]) W') a' W2) (fun _ _ _ => False))
   { tmps := (ps.zip (encs x)).foldl (fun t (p, v) => t.setIfInBounds p v) a.tmps, defers := [] } W)
 (hdone : ∀ (D : Nat) (W : World), w.heap.size ≤ D → I xs W → W.heap[D]? = some (.deferred (some [])) → Q .normal { a with defers := { target := .collected D, args := #[] } :: a.defers } W) :
 (Code.rangeFunc g ps assign body).wpIn Fence.wide n P Q a w := by
 refine wpIn_rangeFunc ?_
 intro fn hfn
 obtain ⟨rec, hrec⟩ : ∃ rec : LoopState → Option Code → Loop, rec = fun s pe => { state := s, pending := pe, fn, tmps := a.tmps, params := ps, assign, body, defers := w.heap.size } := ⟨_, rfl⟩
 obtain ⟨W1, hW1⟩ : ∃ W1, (w.alloc (.deferred (some []))).alloc (.loop (rec .ready none)) = W1 := ⟨_, rfl⟩
 have hL1 : W1.heap[w.heap.size + 1]? = some (.loop (rec .ready none)) := by
  rw [← hW1]; have := World.alloc_heap_new (w.alloc (.deferred (some []))) (.loop (rec .ready none)); rwa [World.size_alloc] at this
 have hK1 : W1.heap[w.heap.size]? = some (.deferred (some [])) := by
  rw [← hW1]; exact (Below.heap_alloc _ _ _ (by simp)).trans (World.alloc_heap_new w _)
 have hI1 : I [] W1 := by rw [← hW1]; exact hI.alloc _ (hI.alloc _ h0)
 refine ⟨w.heap.size + 1, [{ target := .collected w.heap.size, args := #[] }], W1, { target := .fn (.func gf) lb, args := #[.func (.yield (w.heap.size + 1)) #[] #[]] }, W1, gf,
  #[.func (.yield (w.heap.size + 1)) #[] #[]] ++ lb, W1, ?_, ?_, fun _ _ => trivial, ?_, fun e => (by cases e), ?_⟩
 · rw [← hW1, hrec]; exact run_enterLoop_outer _ _ _ _ _
 · simp only [resolve, hg]
   simp [go_sem]
 · simp [invoke, go_sem, eg]
 · refine (hseq (w.heap.size + 1)
    (fun pre W => I pre W ∧ W.heap[w.heap.size + 1]? = some (.loop (rec .ready none)) ∧ W.heap[w.heap.size]? = some (.deferred (some [])))
    W1 (fun s A hs => hIK s A hs.1)
    (fun s A B hs hb => ⟨hI s A B none hs.1 ⟨hb.os, hb.tape, hb.output, hb.size, fun k hk _ => hb.block k hk⟩ (fun r e => (by cases e)), (hb.block _ (Array.getElem?_eq_some_iff.1 hs.2.1).1).trans hs.2.1, (hb.block _ (Array.getElem?_eq_some_iff.1 hs.2.2).1).trans hs.2.2⟩)
    ?_ ⟨hI1, hL1, hK1⟩).mono ?_
   · rintro pre x rest W hx ⟨hi, hl, hk⟩
     have hlt : w.heap.size + 1 < W.heap.size := (Array.getElem?_eq_some_iff.1 hl).1
     have hy := run_yield (P := P) (args := encs x) hl (by rw [hrec]; exact hps x)
     rw [hrec] at hy
     refine ⟨fn, _, assign, body, hy, roundIn_of_wpIn hfn (wpIn_mono (hround (w.heap.size + 1) pre x rest W hx) ?_)⟩
     clear hy
     intro e0 a1 W' he0
     cases e0 <;> try exact he0.elim
     obtain ⟨rfl, hbody⟩ := he0
     refine ⟨_, run_beginRound hl (by rw [hrec]), ?_⟩
     obtain ⟨W2, hW2⟩ : ∃ W2, W2 = W.putObj (w.heap.size + 1) (.loop { rec .ready none with state := .busy }) := ⟨_, rfl⟩
     have hl2 : W2.heap[w.heap.size + 1]? = some (.loop { rec .ready none with state := .busy }) := by rw [hW2]; exact World.putObj_heap_same hlt
     have hk2 : W2.heap[w.heap.size]? = some (.deferred (some [])) := by rw [hW2]; exact (World.putObj_heap_other (by omega)).trans hk
     have hi2 : I pre W2 := by rw [hW2]; exact hI.putObj _ hi (by omega) hl rfl
     rw [← hW2]
     refine wpIn_mono (hbody W2 hi2) ?_
     rintro e a3 W3 ⟨rfl, hk3, hi3⟩
     have hl3 := hk3.same _ _ (by omega) hl2 rfl
     have hr := run_endRound (P := P) none hl3
     refine ⟨_, _, hr, rfl, ?_, ?_, ?_⟩
     · exact hI.putObj _ hi3 (by omega) hl3 rfl
     · rw [World.putObj_heap_same (Array.getElem?_eq_some_iff.1 hl3).1, hrec]; rfl
     · exact (World.putObj_heap_other (by omega)).trans (hk3.same _ _ (Nat.le_refl _) hk2 rfl)
   · rintro e W2 ⟨⟨v, rfl⟩, hi, hl, hk⟩
     exact ⟨none, _, by have := run_endLoop (P := P) hl (by rw [hrec]; simp); rw [hrec] at this; exact this, hdone _ _ (Nat.le_refl _) (hI.putObj _ hi (by omega) hl rfl) ((World.putObj_heap_other (by omega)).trans hk)⟩
end Go.Proofs.YtanicpgmbhfipaaGreatDoor
namespace Go.Proofs.YtanicpgmbhfipaaGreatDoor
set_option linter.unusedVariables false
set_option linter.unusedSimpArgs false
open Go.RowKit Go.Sort
def BoxR (g : Nat) (cells : Array Value) (t : TypeId) (_ : Value) (X : World) : Prop := Box X g cells t
theorem BoxR.stable {g : Nat} {cells : Array Value} {t : TypeId} (v : Value) (X X' : World) (h : BoxR g cells t v X) (hb : Below X.heap.size X X') : BoxR g cells t v X' := Box.below h hb
theorem leaves_store_run {P : Program} {ev : Operand → Value} {o : Oper} {X : World} (ty : TypeId) (x y : Operand) (ho : o.op = .store ty x y) (g : Nat) (cells : Array Value) (hx : ev x = .pointer (some ⟨g, 0, none⟩)) (hy : ev y = .agg cells)
 (t : TypeId) (old : Array Value) (hg : Box X g old t) (hi : (P.info? ty).map (·.size) = some cells.size) (hold : old.size = cells.size) (h1 : cells.all (·.oneCell') = true) :
 ∃ X', (execOp ev o).run P X = .ok .skip X' ∧ Grw (fun b _ => b = g) X X' ∧ Box X' g cells t := by
 refine ⟨X.setRow g cells, ?_, ⟨rfl, rfl, rfl, by simp [World.setRow], fun b _ hne => setRow_other X g b cells hne, fun b cs T fr hb => ?_⟩, setRow_heap X g old cells t (0, 0) hg⟩
 · unfold execOp
   simp only [ho, hx, hy, Instr.storeAt, Instr.sureAddr, Sem.run_bind, Sem.run_pure, Result.andThen_ok, run_storeVar_row X g t ty old cells hg hi hold h1]
 · by_cases e : b = g
   · subst e
     have := Option.some.inj ((show X.heap[b]? = some (.cells old t (0, 0)) from hg).symm.trans hb)
     injection this with e1 e2 e3
     subst e1 e2 e3
     exact ⟨cells, hold.symm, setRow_heap X b old cells t (0, 0) hg⟩
   · exact ⟨cs, rfl, (setRow_other X g b cells e).trans hb⟩
theorem leaves_store1 {P : Program} {ev : Operand → Value} {o : Oper} {X : World} (ty : TypeId) (x y : Operand) (ho : o.op = .store ty x y) (g j : Nat) (v : Value) (hx : ev x = .pointer (some ⟨g, j, none⟩)) (hy : ev y = v)
 (h1 : v.oneCell' = true) (hi : (P.info? ty).map (·.size) = some 1) (t : TypeId) (cells : Array Value) (hg : Box X g cells t) (hj : j < cells.size) :
 LeavesO P (fun b _ => b = g) true (BoxR g (cells.setIfInBounds j v) t) X ((execOp ev o).run P X) := by
 have hc : X.cell? ⟨g, j, none⟩ = some cells[j] := by rw [hg.cells, Array.getElem?_eq_getElem hj]
 have hf : X.frozen? ⟨g, j, none⟩ = false := hg.frozen j
 have hcells : v.cells = #[v] := by cases v <;> first | rfl | (simp [Value.oneCell'] at h1)
 have hst : (storeCells ⟨g, j, none⟩ [v]).run P X = .ok () (X.setCells g j [v]) := by
  have := run_storeCells_cells (P := P) g j [v] 0 X (fun i hi => by have : i = 0 := (by simp at hi; exact hi); subst this; simp only [Nat.add_zero]; rw [hc]; rfl) (fun i hi => by have : i = 0 := (by simp at hi; exact hi); subst this; simp only [Nat.add_zero]; exact hf) (fun u hu => by rw [List.mem_singleton.1 hu]; exact h1)
  simpa using this
 have hrun : (storeVar ty ⟨g, j, none⟩ v).run P X = .ok () (X.setCell ⟨g, j, none⟩ v) := by
  cases hq : P.info? ty with
  | none => simp [hq] at hi
  | some i =>
   have hs : i.size = 1 := by simpa [hq] using hi
   have e : X.setCells g j [v] = X.setCell ⟨g, j, none⟩ v := rfl
   rw [e] at hst
   simp [storeVar, sizeOf, typeInfo, hq, hcells, hs, hst]
 refine .inr ⟨rfl, X.setCell ⟨g, j, none⟩ v, ?_, ⟨rfl, rfl, rfl, by simp [World.setCell], fun b _ hne => heap_setCell_other X _ b v hne, fun b cs T fr hb => ?_⟩, heap_setCell_same X g j cells t v hg⟩
 · unfold execOp
   simp only [ho, hx, hy, Instr.storeAt, Instr.sureAddr, Sem.run_bind, Sem.run_pure, Result.andThen_ok, hrun]
 · by_cases e : b = g
   · subst e
     have := Option.some.inj ((show X.heap[b]? = some (.cells cells t (0, 0)) from hg).symm.trans hb)
     injection this with e1 e2 e3
     subst e1 e2 e3
     exact ⟨_, by simp, heap_setCell_same X b j cells t v hg⟩
   · exact ⟨cs, rfl, (heap_setCell_other X ⟨g, j, none⟩ b v e).trans hb⟩
theorem Grw.belowAt {w w0 X : World} {g : Nat} (hX : Grw (fun b _ => b = g) w X) (hb : Below w0.heap.size w0 w) (hg : w0.heap.size ≤ g) : Below w0.heap.size w0 X :=
 ⟨hX.os.trans hb.os, hX.tape.trans hb.tape, hX.output.trans hb.output, Nat.le_trans hb.size hX.size, fun b h => (hX.block b (Nat.lt_of_lt_of_le h hb.size) (by omega)).trans (hb.block b h)⟩
def BoxesO (B : Nat) (T : TypeId) (b : Nat) (o : Option Obj) : Prop := B ≤ b ∧ ∃ cs, o = some (.cells cs T (0, 0))
theorem BoxesO.below {w X : World} {B : Nat} {T : TypeId} (hX : Grw (BoxesO B T) w X) {w0 : World} (hb : Below w0.heap.size w0 w) (hle : w0.heap.size ≤ B) : Below w0.heap.size w0 X :=
 ⟨hX.os.trans hb.os, hX.tape.trans hb.tape, hX.output.trans hb.output, Nat.le_trans hb.size hX.size, fun b h => (hX.block b (Nat.lt_of_lt_of_le h hb.size) (fun ⟨h1, _⟩ => by omega)).trans (hb.block b h)⟩
theorem regcellB {w X : World} {B : Nat} {T : TypeId} (hX : Grw (BoxesO B T) w X) : ∀ d os b o, b < w.heap.size → b < B → (grow (redrawn X d) os).cell? ⟨b, o, none⟩ = w.cell? ⟨b, o, none⟩ := fun d os b o h hne =>
 ((below_regrown X d os).cell (p := ⟨b, o, none⟩) (Nat.lt_of_lt_of_le h hX.size)).trans (hX.cell (p := ⟨b, o, none⟩) h (fun ⟨h1, _⟩ => by dsimp only at h1; omega))
theorem ownsRow_boxes {w X : World} {B : Nat} {T : TypeId} {base : Nat} {e : TypeId} {size n : Nat} {v : Value} {xs : List Value} (h : w.ownsRow base e size v n xs) (hX : Grw (BoxesO B T) w X) (hne : e ≠ T) : X.ownsRow base e size v n xs := by
 refine ⟨h.1, ?_⟩
 rcases h.2 with h' | ⟨b, cap, cur, h1, h2, h3, h4⟩
 · exact .inl h'
 · refine .inr ⟨b, cap, cur, h1, h2, ?_, h4⟩
   rw [hX.block b (Array.getElem?_eq_some_iff.1 h3).1 (fun ⟨_, cs, hcs⟩ => by
    rw [h3] at hcs; injection hcs with hcs; injection hcs with _ e2 _; exact hne e2), h3]
theorem leaves_storeB {P : Program} {ev : Operand → Value} {o : Oper} {X : World} {R : Value → World → Prop} (B : Nat) (ty : TypeId) (x y : Operand) (ho : o.op = .store ty x y) (g : Nat) (cells : Array Value) (hx : ev x = .pointer (some ⟨g, 0, none⟩)) (hy : ev y = .agg cells)
 (t : TypeId) (old : Array Value) (hg : Box X g old t) (hB : B ≤ g) (hi : (P.info? ty).map (·.size) = some cells.size) (hold : old.size = cells.size) (h1 : cells.all (·.oneCell') = true) (hR : ∀ X', Box X' g cells t → R undef X') :
 LeavesO P (BoxesO B t) true R X ((execOp ev o).run P X) := by
 obtain ⟨X', h2, h3, h4⟩ := leaves_store_run (P := P) ty x y ho g cells hx hy t old hg hi hold h1
 exact .inr ⟨rfl, X', h2, ⟨h3.os, h3.tape, h3.output, h3.size, fun b hb hO => by
  by_cases e : b = g
  · subst e; exact absurd ⟨hB, old, hg⟩ hO
  · exact h3.block b hb e, h3.shape⟩, hR X' h4⟩
def AtBox (B : Nat) (T : TypeId) (n : Nat) (v : Value) (X : World) : Prop := ∃ b cs, v = .pointer (some ⟨b, 0, none⟩) ∧ B ≤ b ∧ cs.size = n ∧ Box X b cs T
theorem AtBox.stable {B : Nat} {T : TypeId} {n : Nat} (v : Value) (X X' : World) (h : AtBox B T n v X) (hb : Below X.heap.size X X') : AtBox B T n v X' := by
 obtain ⟨b, cs, h1, h2, h3, h4⟩ := h
 exact ⟨b, cs, h1, h2, h3, h4.below hb⟩
theorem AtBox.grw {O : Nat → Option Obj → Prop} {B : Nat} {T : TypeId} {n : Nat} (v : Value) (X X' : World) (h : AtBox B T n v X) (hb : Grw O X X') : AtBox B T n v X' := by
 obtain ⟨b, cs, h1, h2, h3, h4⟩ := h
 obtain ⟨cs', h5, h6⟩ := hb.shape b cs T (0, 0) h4
 exact ⟨b, cs', h1, h2, h5.trans h3, h6⟩
def IsV (u : Value) (_ : Act) (v : Value) (_ : World) : Prop := v = u
theorem Grw.own {O : Nat → Option Obj → Prop} {g : Nat} {w W W2 : World} (h : Grw O w W) (k : Grw (fun b _ => b = g) W W2) (hg : w.heap.size ≤ g) : Grw O w W2 :=
 ⟨k.os.trans h.os, k.tape.trans h.tape, k.output.trans h.output, Nat.le_trans h.size k.size, fun b hb hO => (k.block b (Nat.lt_of_lt_of_le hb h.size) (by omega)).trans (h.block b hb hO),
  fun b cs T fr hb => by
   obtain ⟨c1, h1, h2⟩ := h.shape b cs T fr hb
   obtain ⟨c2, h3, h4⟩ := k.shape b c1 T fr h2
   exact ⟨c2, h3.trans h1, h4⟩⟩
theorem Grw.grown {O : Nat → Option Obj → Prop} {w W W2 : World} {row : Option Nat} (h : Grw O w W) (k : W.grownBy W2 row) (hg : ∀ g, row = some g → w.heap.size ≤ g) : Grw O w W2 := by
 have hk : ∀ b, b < w.heap.size → W2.heap[b]? = W.heap[b]? := fun b hb => k.block b (Nat.lt_of_lt_of_le hb h.size) (fun e => by have := hg b e.symm; omega)
 refine ⟨k.os.trans h.os, k.tape.trans h.tape, k.output.trans h.output, Nat.le_trans h.size k.size, fun b hb hO => (hk b hb).trans (h.block b hb hO), fun b cs T fr hb => ?_⟩
 obtain ⟨c1, h1, h2⟩ := h.shape b cs T fr hb
 exact ⟨c1, h1, (hk b (Array.getElem?_eq_some_iff.1 hb).1).trans h2⟩
theorem Box.grw {O : Nat → Option Obj → Prop} {w W : World} {b : Nat} {cs : Array Value} {T : TypeId} (h : Box w b cs T) (hX : Grw O w W) (hO : ¬ O b w.heap[b]?) : Box W b cs T := (hX.block b h.lt hO).trans h
section
variable {P : Program} {ops : Array Oper} {rest : List Oper} {o : Oper} {a : Act} {w : World} {Q : Exit → Act → World → Prop}
theorem wpList_store_newG (hgd : o.guard = none) (ty : TypeId) (x y : Operand) (ho : o.op = .store ty x y) (hd : o.dst = none)
 (g : Nat) (cells : Array Value) (hx : a.eval x = .pointer (some ⟨g, 0, none⟩)) (hy : a.eval y = .agg cells)
 (t : TypeId) (old : Array Value) (hg : Box w g old t) (hi : (P.info? ty).map (·.size) = some cells.size) (hold : old.size = cells.size) (h1 : cells.all (·.oneCell') = true)
 (h : ∀ W2, Grw (fun b _ => b = g) w W2 → Box W2 g cells t → (∀ b cs T, b ≠ g → Box w b cs T → Box W2 b cs T) → wpList P ops Q rest a W2) : wpList P ops Q (o :: rest) a w := by
 obtain ⟨X', h2, h3, h4⟩ := leaves_store_run (P := P) ty x y ho g cells hx hy t old hg hi hold h1
 refine wpList_plain hgd fun K hK => ?_
 unfold Oper.wp
 rw [h2]
 refine hK _ _ ?_
 rw [hd]
 exact h X' h3 h4 (fun b cs T hne hb => (h3.block b hb.lt hne).trans hb)
theorem wpList_store_fieldG (hgd : o.guard = none) (ty : TypeId) (x y : Operand) (ho : o.op = .store ty x y) (hd : o.dst = none)
 (g j : Nat) (v : Value) (hx : a.eval x = .pointer (some ⟨g, j, none⟩)) (hy : a.eval y = v) (h1 : v.oneCell' = true) (hi : (P.info? ty).map (·.size) = some 1)
 (t : TypeId) (cells : Array Value) (hg : Box w g cells t) (hj : j < cells.size)
 (h : ∀ W2, Grw (fun b _ => b = g) w W2 → Box W2 g (cells.setIfInBounds j v) t → (∀ b cs T, b ≠ g → Box w b cs T → Box W2 b cs T) → wpList P ops Q rest a W2) : wpList P ops Q (o :: rest) a w := by
 rcases leaves_store1 (P := P) (ev := a.eval) (o := o) (X := w) ty x y ho g j v hx hy h1 hi t cells hg hj with h2 | ⟨_, X', h2, h3, h4⟩
 · exfalso
   have hrun : ∃ X', (execOp a.eval o).run P w = .ok .skip X' := by
    have hc : w.cell? ⟨g, j, none⟩ = some cells[j] := by rw [hg.cells, Array.getElem?_eq_getElem hj]
    have hf : w.frozen? ⟨g, j, none⟩ = false := hg.frozen j
    have hcells : v.cells = #[v] := by cases v <;> first | rfl | (simp [Value.oneCell'] at h1)
    have hst : (storeCells ⟨g, j, none⟩ [v]).run P w = .ok () (w.setCells g j [v]) := by
     have := run_storeCells_cells (P := P) g j [v] 0 w (fun i hi => by have : i = 0 := (by simp at hi; exact hi); subst this; simp only [Nat.add_zero]; rw [hc]; rfl) (fun i hi => by have : i = 0 := (by simp at hi; exact hi); subst this; simp only [Nat.add_zero]; exact hf) (fun u hu => by rw [List.mem_singleton.1 hu]; exact h1)
     simpa using this
    cases hq : P.info? ty with
    | none => simp [hq] at hi
    | some i =>
     have hs : i.size = 1 := by simpa [hq] using hi
     refine ⟨w.setCells g j [v], ?_⟩
     unfold execOp
     simp [ho, hx, hy, Instr.storeAt, Instr.sureAddr, storeVar, sizeOf, typeInfo, hq, hcells, hs, hst]
   obtain ⟨X', hr⟩ := hrun
   rw [hr] at h2
   simp only [LeavesR] at h2
 · refine wpList_plain hgd fun K hK => ?_
   unfold Oper.wp
   rw [h2]
   refine hK _ _ ?_
   rw [hd]
   exact h X' h3 h4 (fun b cs T hne hb => (h3.block b hb.lt hne).trans hb)
end
end Go.Proofs.YtanicpgmbhfipaaGreatDoor
namespace Go.Proofs.YtanicpgmbhfipaaGreatDoor
set_option linter.unusedVariables false
set_option linter.unusedSimpArgs false
open Go.RowKit
theorem wpListIn_push {F : Fence} {n : Nat} {P : Program} {ops : Array Oper} {rest : List Oper} {o : Oper} {a : Act} {Q : Exit → Act → World → Prop} (w : World) (hgd : o.guard = none) (s x : Operand) (t : TypeId)
 (ho : o.op = .call { callee := .builtin .append, args := #[s, x], argTypes := #[t, t] })
 (base : Nat) (e : TypeId) (i : TypeInfo) (z : Value) (size bytes : Nat) (us : List Value) (ht : P.underlying t = some (.slice e)) (hi : P.info? e = some i) (hz : i.zero = some z)
 (hsize : i.size = size) (hby : i.bytes = bytes) (hzs : z.cells.size = size) (hsz : 0 < size)
 (v : Value) (k : Nat) (xs : List Value) (hs : a.eval s = v) (hown : w.ownsRow base e size v k xs)
 (g : Nat) (hx : a.eval x = .slice (some ⟨g, 0, none⟩) 1 1) (hgs : g = w.heap.size) (hl : us.length = size) (h1 : ∀ u ∈ us, u.oneCell' = true)
 (h63 : k + 1 ≤ maxLen) (hbytes : (k + 1) * bytes ≤ 140737488355328) (hbase : base ≤ w.heap.size)
 (h : ∀ v' w', w'.ownsRow base e size v' (k + 1) (xs ++ us) → w.heap.size < w'.heap.size →
  (w.alloc (.cells us.toArray e)).grownBy w' v.ownBlock → (v'.ownBlock = v.ownBlock ∨ v'.ownBlock = some (w.heap.size + 1)) →
  Below base w w' → wpListIn F n P ops Q rest (a.put o.dst v') w') : wpListIn F n P ops Q (o :: rest) a (w.alloc (.cells us.toArray e)) := by
 subst hgs
 refine wpListIn_plain hgd fun K hK => ?_
 have hcells : ∀ j u, us[j]? = some u → (w.alloc (.cells us.toArray e)).cell? ((⟨w.heap.size, 0, none⟩ : Addr).add j) = some u := fun j u hj => by
  have : (⟨w.heap.size, 0, none⟩ : Addr).add j = ⟨w.heap.size, j, none⟩ := by unfold Addr.add; split <;> simp_all
  rw [this, World.cell?_alloc_new]
  simpa using hj
 obtain ⟨v', w', hr, h2, h3, _, h5⟩ := run_append_own_at (P := P) (w.alloc (.cells us.toArray e)) base t o.type e i z size bytes ht hi hz hsize hby hzs hsz v k xs (hown.alloc _) ⟨w.heap.size, 0, none⟩ 1 1 us (by omega) hcells h1 h63 hbytes (by simp; omega)
 unfold Oper.wpIn
 refine ⟨?_, ?_⟩
 · simp [Oper.about, ho, resolve, Target.leads, Sem.run_pure]
 · rw [Oper.semAt_plain F _ _ (by rw [ho]; intro c hc'; cases hc')]
   simp [execOp, ho, resolve, invoke, builtin, hs, hx, hr, Result.andThen]
   refine hK _ _ (h v' w' h2 (by have := h3.size; simp at this; omega) h3 (by simpa using h5) ?_)
   exact ((Below.refl _ _).alloc hbase _).grown h3 (by simp; omega) (fun g hg => (hown.lt g hg).1)
end Go.Proofs.YtanicpgmbhfipaaGreatDoor
namespace Go.Proofs.YtanicpgmbhfipaaGreatDoor
set_option linter.unusedVariables false
set_option linter.unusedSimpArgs false
open Go.RowKit Go.Sort
def aceO (a : AceP) : Prop := 0 ≤ a.f ∧ a.f ≤ 31 ∧ 0 ≤ a.m ∧ a.m ≤ 511
theorem aceO_of {a : AceP} (h : aceE a = 0) : aceO a ∧ 0 ≤ a.k ∧ a.k ≤ 2 ∧ 1 ≤ a.m := by
 unfold aceE at h
 split at h
 · rename_i hk
   split at h
   · rename_i hr
     unfold aceR at hr
     simp only [Bool.and_eq_true, inB_true] at hr hk
     unfold aceO
     omega
   · cases h
 · cases h
def tokC (t : TokP) (A : Option Addr) (c : Nat) : Array Value := #[.int .i64 t.u, .slice A t.gs.length c, .int .i64 t.p]
set_option maxRecDepth 100000 in
set_option maxHeartbeats 1000000 in
theorem decided1_any (t : TokP) (A : Option Addr) (c bT bR : Nat) (a : AceP) (i : Nat) (w : World) (hl : t.gs.length ≤ 100000) (hr : Rd w w.heap.size A (t.gs.map (.int .i64))) (ha : aceO a) (hi : i < 9)
 (hT : Box w bT (tokC t A c) 95) (hR : Box w bR #[.int .i64 ((2 : Int) ^ i)] 3) :
 Calls Tryz.prog 116 #[.agg #[.int .i64 a.k, .int .i64 a.f, .int .i64 a.m, .int .i64 a.w], .pointer (some ⟨bT, 0, none⟩), .pointer (some ⟨bR, 0, none⟩)] w fun e w' => e = .returned (.bool (hitB t i a)) ∧ Below w.heap.size w w' := by
 obtain ⟨hf0, hf1, hm0, hm1⟩ := ha
 have hand := and_bit a.m i hm0 (by omega) (by omega)
 have HC := Lib.hid (fun W => counts_any a W hf0 hf1)
 have HH := Lib.hid (fun (v : Int) W (hW : Below w.heap.size w W) => has_it t A c v W hl (hr.below' hW))
 obtain ⟨R, hRR⟩ : ∃ R, R = ((2 : Int) ^ i) := ⟨_, rfl⟩
 rw [← hRR] at hand hR
 obtain ⟨B, hB⟩ : ∃ B, B = hitB t i a := ⟨_, rfl⟩
 rw [← hB]
 unfold hitB at hB
 have t0 : w.cell? ⟨bT, 0, none⟩ = some (.int .i64 t.u) := hT.cells 0
 have t1 : w.cell? ⟨bT, 1, none⟩ = some (.slice A t.gs.length c) := hT.cells 1
 have t2 : w.cell? ⟨bT, 2, none⟩ = some (.int .i64 t.p) := hT.cells 2
 have r0 : w.cell? ⟨bR, 0, none⟩ = some (.int .i64 R) := hR.cells 0
 have lT := hT.lt
 have lR := hR.lt
 unfold tokV at HH
 clear hr hT hR
 obtain ⟨x1, hx1⟩ : ∃ x, x = cntB a := ⟨_, rfl⟩
 obtain ⟨x2, hx2⟩ : ∃ x, x = isT t a.w := ⟨_, rfl⟩
 obtain ⟨x3, hx3⟩ : ∃ x, x = bitI a.m i := ⟨_, rfl⟩
 rw [← hx1] at HC hB
 rw [← hx2, ← hx3] at hB
 have HH2 := Lib.hid (fun W hW => HH.out a.w W hW)
 rw [← hx2] at HH2
 rw [← hx3] at hand
 obtain ⟨k, f, m, v⟩ := a
 obtain ⟨u, gs, p⟩ := t
 dsimp only at *
 clear HH hx1 hx2 hx3 hRR hf0 hf1 hm0 hm1
 cases x1
 · have H := Lib.hid (show B = false by rw [hB]; rfl)
   clear hB hand
   go_enter Tryz.func116, Tryz.ntmps116
   go_wp2_with (go_at_call 70; refine (HC.out _).mono ?_; rintro e W1 ⟨rfl, hbW1⟩; obtain ⟨hcW1, hfW1⟩ := bcell hbW1)
   go_ret
   exact ⟨by rw [H.out]; rfl, bel_trans (bel_alloc (Below.refl _ _) _) hbW1⟩
 · cases x2
   · have H := Lib.hid (show B = false by rw [hB]; rfl)
     clear hB hand
     go_enter Tryz.func116, Tryz.ntmps116
     go_wp2_with (first | ((go_at_call 70; refine (HC.out _).mono ?_; rintro e W1 ⟨rfl, hbW1⟩; obtain ⟨hcW1, hfW1⟩ := bcell hbW1); have q1 : w.heap.size < W1.heap.size := (by have := hbW1.size; rw [World.size_alloc] at this; omega); have q2 : bR < W1.heap.size := (by omega); have q3 : bT < W1.heap.size := (by omega)) | (go_at_call 71; refine (HH2.out _ (bel_trans (bel_alloc (Below.refl _ _) _) hbW1)).mono ?_; rintro e W2 ⟨rfl, hbW2⟩; obtain ⟨hcW2, hfW2⟩ := bcell hbW2))
     go_ret
     exact ⟨by rw [H.out]; rfl, bel_trans (bel_trans (bel_alloc (Below.refl _ _) _) hbW1) hbW2⟩
   · have H := Lib.hid (show B = x3 by rw [hB]; rfl)
     clear hB
     go_enter Tryz.func116, Tryz.ntmps116
     go_wp2_with (first | ((go_at_call 70; refine (HC.out _).mono ?_; rintro e W1 ⟨rfl, hbW1⟩; obtain ⟨hcW1, hfW1⟩ := bcell hbW1); have q1 : w.heap.size < W1.heap.size := (by have := hbW1.size; rw [World.size_alloc] at this; omega); have q2 : bR < W1.heap.size := (by omega); have q3 : bT < W1.heap.size := (by omega)) | (go_at_call 71; refine (HH2.out _ (bel_trans (bel_alloc (Below.refl _ _) _) hbW1)).mono ?_; rintro e W2 ⟨rfl, hbW2⟩; obtain ⟨hcW2, hfW2⟩ := bcell hbW2))
     go_ret
     exact ⟨by rw [H.out]; rfl, bel_trans (bel_trans (bel_alloc (Below.refl _ _) _) hbW1) hbW2⟩
end Go.Proofs.YtanicpgmbhfipaaGreatDoor
namespace Go.Proofs.YtanicpgmbhfipaaGreatDoor
set_option linter.unusedVariables false
set_option linter.unusedSimpArgs false
open Go.RowKit Go.Sort
set_option maxRecDepth 100000 in
set_option maxHeartbeats 2000000 in
theorem idx_any (t : TokP) (A AE : Option Addr) (c cE bT bR : Nat) (l : List AceP) (i : Nat) (w : World) (hl : t.gs.length ≤ 100000) (hr : Rd w w.heap.size A (t.gs.map (.int .i64))) (hlen : l.length ≤ 1000) (hre : Rd w w.heap.size AE (acesV l)) (ha : ∀ a ∈ l, aceO a) (hi : i < 9)
 (hT : Box w bT (tokC t A c) 95) (hR : Box w bR #[.int .i64 ((2 : Int) ^ i)] 3) :
 Calls Tryz.prog 115 #[.slice AE l.length cE, .func (.func 116) #[] #[.pointer (some ⟨bT, 0, none⟩), .pointer (some ⟨bR, 0, none⟩)]] w fun e w' => e = .returned (.int .i64 (idxF (hitB t i) 0 l)) ∧ Below w.heap.size w w' := by
 have HC := Lib.hid (fun (a : AceP) (hm : a ∈ l) (W : World) (hW : Below w.heap.size w W) => decided1_any t A c bT bR a i W hl (hr.below' hW) (ha a hm) hi (hT.below hW) (hR.below hW))
 have HM := Lib.hid (fun (k : Nat) (h : k < l.length) => List.getElem_mem h)
 clear hr ha hT hR
 go_enter Tryz.func115, Tryz.ntmps115
 go_wp2
 go_loopw [8] (fun ix wr => ∃ k : Nat, k ≤ l.length ∧ ix = .int .i64 k ∧ Below w.heap.size w wr ∧ idxF (hitB t i) 0 l = idxF (hitB t i) k (l.drop k)) (fun ix _ => l.length - (intOf ix).toNat)
 case atStart => exact ⟨0, Nat.zero_le _, rfl, Below.refl _ _, rfl⟩
 case round =>
  obtain ⟨k, hk, rfl, hb, hf⟩ := hrel
  have HF := Lib.hid hf
  clear hf
  by_cases hlt : k < l.length
  · have hr2 := hre.below hb
    obtain ⟨b, o, rfl, hB, hc⟩ := hr2.opened (by rw [acesV_length]; omega)
    obtain ⟨g0, g1, g2, g3⟩ := acesV_get l k hlt
    have c0 : wr.cell? ⟨b, o + k * 4, none⟩ = _ := hc _ _ g0
    have c1 : wr.cell? ⟨b, o + k * 4 + 1, none⟩ = _ := hc _ _ g1
    have c2 : wr.cell? ⟨b, o + k * 4 + 1 + 1, none⟩ = _ := hc _ _ g2
    have c3 : wr.cell? ⟨b, o + k * 4 + 1 + 1 + 1, none⟩ = _ := hc _ _ g3
    have HC1 := HC.out l[k] (HM.out k hlt)
    obtain ⟨a, ha⟩ : ∃ a, a = l[k] := ⟨_, rfl⟩
    rw [← ha] at c0 c1 c2 c3 HC1
    have hd : l.drop k = l[k] :: l.drop (k + 1) := List.drop_eq_getElem_cons hlt
    rw [← ha] at hd
    have HD := Lib.hid hd
    have hbs := hb.size
    obtain ⟨r, hre⟩ : ∃ r, r = hitB t i a := ⟨_, rfl⟩
    rw [← hre] at HC1
    obtain ⟨ak, af, am, aw⟩ := a
    dsimp only at c0 c1 c2 c3 HC1
    have HC2 := Lib.hid HC1
    have HRE := Lib.hid hre
    clear hd ha g0 g1 g2 g3 hc hr2 hre HC1
    cases r
    · go_wp2_with (go_at_call 116; refine (HC2.out _ hb).mono ?_; rintro e w1 ⟨rfl, hb1⟩)
      go_roundw
      case rel => exact ⟨k + 1, by omega, by go_num, bel_trans hb hb1, by rw [HF.out, HD.out, idxF, ← HRE.out]; rfl⟩
      case measure => simp [intOf]; omega
    · go_wp2_with (go_at_call 116; refine (HC2.out _ hb).mono ?_; rintro e w1 ⟨rfl, hb1⟩)
      go_ret
      exact ⟨by rw [HF.out, HD.out, idxF, ← HRE.out]; rfl, bel_trans hb hb1⟩
  · go_wp2
    go_ret
    exact ⟨by rw [HF.out, List.drop_of_length_le (by omega)]; rfl, hb⟩
end Go.Proofs.YtanicpgmbhfipaaGreatDoor
namespace Go.Proofs.YtanicpgmbhfipaaGreatDoor
set_option linter.unusedVariables false
set_option linter.unusedSimpArgs false
open Go.RowKit Go.Sort
structure DT (d : DscP) (t : TokP) (A1 A2 A : Option Addr) (w : World) : Prop where
 l1 : d.es.length ≤ 500
 l2 : d.us.length ≤ 500
 l3 : t.gs.length ≤ 1000
 r1 : Rd w w.heap.size A1 (acesV d.es)
 r2 : Rd w w.heap.size A2 (acesV d.us)
 r3 : Rd w w.heap.size A (t.gs.map (.int .i64))
 gr : GrT w
theorem DT.below {d : DscP} {t : TokP} {A1 A2 A : Option Addr} {w w' : World} (h : DT d t A1 A2 A w) (hb : Below w.heap.size w w') : DT d t A1 A2 A w' :=
 ⟨h.l1, h.l2, h.l3, h.r1.below' hb, h.r2.below' hb, h.r3.below' hb, h.gr.below hb⟩
def dtO (d : DscP) (t : TokP) : Prop := (∀ a ∈ d.es, aceO a) ∧ 0 ≤ t.p ∧ t.p ≤ 15
set_option maxRecDepth 100000 in
set_option maxHeartbeats 4000000 in
theorem decided_any (d : DscP) (t : TokP) (A1 A2 A : Option Addr) (c1 c2 c i : Nat) (w : World) (h : DT d t A1 A2 A w) (ho : dtO d t) (hi : i < 9) :
 Calls Tryz.prog 90 #[dscV d A1 A2 c1 c2, tokV t A c, .int .i64 ((2 : Int) ^ i)] w fun e w' => e = .returned (.int .i64 (byP d t i)) ∧ Below w.heap.size w w' := by
 obtain ⟨hA, hp0, hp1⟩ := ho
 have hP := prvR_bits t.p hp0 hp1 i hi
 have hO := own_bits i hi
 obtain ⟨W0, hW0⟩ : ∃ W0, W0 = ((w.alloc (.cells #[.int .i64 d.o, .int .i64 d.g, .bool d.pr, .bool d.he, .slice A1 d.es.length c1, .slice A2 d.us.length c2] 92)).alloc (.cells (tokC t A c) 95)).alloc (.cells #[.int .i64 ((2 : Int) ^ i)] 3) := ⟨_, rfl⟩
 have hb0 : Below w.heap.size w W0 := by rw [hW0]; exact bel_alloc (bel_alloc (bel_alloc (Below.refl _ _) _) _) _
 have bD : Box W0 w.heap.size #[.int .i64 d.o, .int .i64 d.g, .bool d.pr, .bool d.he, .slice A1 d.es.length c1, .slice A2 d.us.length c2] 92 := by
  rw [hW0]; exact ((Box.new w _ _).old _).old _
 have bT : Box W0 (w.heap.size + 1) (tokC t A c) 95 := by
  have := (Box.new (w.alloc (.cells #[.int .i64 d.o, .int .i64 d.g, .bool d.pr, .bool d.he, .slice A1 d.es.length c1, .slice A2 d.us.length c2] 92)) (tokC t A c) 95).old (.cells #[.int .i64 ((2 : Int) ^ i)] 3)
  rw [World.size_alloc] at this; rw [hW0]; exact this
 have bR : Box W0 (w.heap.size + 2) #[.int .i64 ((2 : Int) ^ i)] 3 := by
  have := Box.new ((w.alloc (.cells #[.int .i64 d.o, .int .i64 d.g, .bool d.pr, .bool d.he, .slice A1 d.es.length c1, .slice A2 d.us.length c2] 92)).alloc (.cells (tokC t A c) 95)) #[.int .i64 ((2 : Int) ^ i)] 3
  rw [World.size_alloc, World.size_alloc] at this; rw [hW0]; exact this
 have hs0 : W0.heap.size = w.heap.size + 1 + 1 + 1 := by rw [hW0]; simp only [World.size_alloc]
 have h0 := h.below hb0
 have HPR := Lib.hid (fun W (hW : Below W0.heap.size W0 W) => privileged_any t A c W (h0.gr.below hW))
 have HHAS := Lib.hid (fun W (hW : Below W0.heap.size W0 W) => has_it t A c d.o W (by have := h.l3; omega) ((h0.below hW).r3))
 have HIDX := Lib.hid (fun W (hW : Below W0.heap.size W0 W) => idx_any t A A1 c c1 (w.heap.size + 1) (w.heap.size + 2) d.es i W (by have := h.l3; omega) ((h0.below hW).r3) (by have := h.l1; omega) ((h0.below hW).r1) hA hi (bT.below hW) (bR.below hW))
 obtain ⟨R, hRR⟩ : ∃ R, R = ((2 : Int) ^ i) := ⟨_, rfl⟩
 obtain ⟨B, hB⟩ : ∃ B, B = byP d t i := ⟨_, rfl⟩
 obtain ⟨pr, hpr⟩ : ∃ x, x = prvR t.p 3 := ⟨_, rfl⟩
 obtain ⟨x1, hx1⟩ : ∃ x, x = prvB t.p i := ⟨_, rfl⟩
 obtain ⟨x2, hx2⟩ : ∃ x, x = (i == 6 || i == 7) := ⟨_, rfl⟩
 obtain ⟨x3, hx3⟩ : ∃ x, x = isT t d.o := ⟨_, rfl⟩
 obtain ⟨j, hj⟩ : ∃ x, x = idxF (hitB t i) 0 d.es := ⟨_, rfl⟩
 have hBB : B = if x1 = true then -1 else if (x2 && x3) = true then -2 else if d.he = false then -3 else if j < 0 then -4 else j := by rw [hB, hx1, hx2, hx3, hj]; rfl
 rw [← hB]
 rw [← hRR, ← hpr, ← hx1] at hP
 rw [← hRR, ← hx2] at hO
 rw [← hRR] at bR hW0 ⊢
 rw [← hpr] at HPR
 rw [← hx3] at HHAS
 rw [← hj] at HIDX
 have d0 : ∀ W, Below W0.heap.size W0 W → W.cell? ⟨w.heap.size, 0, none⟩ = some (.int .i64 d.o) := fun W hW => (bD.below hW).cells 0
 have d3 : ∀ W, Below W0.heap.size W0 W → W.cell? ⟨w.heap.size, 3, none⟩ = some (.bool d.he) := fun W hW => (bD.below hW).cells 3
 have d4 : ∀ W, Below W0.heap.size W0 W → W.cell? ⟨w.heap.size, 4, none⟩ = some (.slice A1 d.es.length c1) := fun W hW => (bD.below hW).cells 4
 have t0 : ∀ W, Below W0.heap.size W0 W → W.cell? ⟨w.heap.size + 1, 0, none⟩ = some (.int .i64 t.u) := fun W hW => (bT.below hW).cells 0
 have t1 : ∀ W, Below W0.heap.size W0 W → W.cell? ⟨w.heap.size + 1, 1, none⟩ = some (.slice A t.gs.length c) := fun W hW => (bT.below hW).cells 1
 have t2 : ∀ W, Below W0.heap.size W0 W → W.cell? ⟨w.heap.size + 1, 2, none⟩ = some (.int .i64 t.p) := fun W hW => (bT.below hW).cells 2
 have r0 : ∀ W, Below W0.heap.size W0 W → W.cell? ⟨w.heap.size + 2, 0, none⟩ = some (.int .i64 R) := fun W hW => (bR.below hW).cells 0
 have hmf : ∀ (fn : Fn) (first cap : Array Value) (w : World), (Instr.makeFunc fn first cap).run Tryz.prog w = .ok (.func fn first cap) w := fun _ _ _ _ => rfl
 unfold tokV tokC at *
 unfold dscV
 have HD0 := Lib.hid d0
 have HD3 := Lib.hid d3
 have HD4 := Lib.hid d4
 have HT0 := Lib.hid t0
 have HT1 := Lib.hid t1
 have HT2 := Lib.hid t2
 have HR0 := Lib.hid r0
 have HBB := Lib.hid hBB
 have HB0 := Lib.hid hb0
 have HW0 := Lib.hid hW0
 obtain ⟨u, gs, p⟩ := t
 obtain ⟨o, g, dpr, he, es, us⟩ := d
 dsimp only at *
 clear hA hp0 hp1 h h0 bD bT bR hRR hB hpr hx1 hx2 hx3 hj d0 d3 d4 t0 t1 t2 r0 hBB hb0 hi hs0
 go_enter Tryz.func90, Tryz.ntmps90
 go_wp2
 rw [← HW0.out]
 have t0 := HT0.out _ (Below.refl _ _)
 have t1 := HT1.out _ (Below.refl _ _)
 have t2 := HT2.out _ (Below.refl _ _)
 have r0 := HR0.out _ (Below.refl _ _)
 have s0 : w.heap.size + 1 + 1 + 1 = W0.heap.size := by rw [HW0.out]; simp only [World.size_alloc]
 have q1 : w.heap.size + 1 < W0.heap.size := by omega
 have q2 : w.heap.size + 2 < W0.heap.size := by omega
 have q3 : w.heap.size + 1 + 1 < W0.heap.size := by omega
 clear s0
 (refine wp_region_flow [false, false, false, false, false] [] (by kernel_rfl) (by kernel_rfl) (by kernel_rfl) (by kernel_rfl) ?_; simp only [pick, List.length_cons, List.length_nil, List.drop_succ_cons, List.drop_zero, Nat.zero_add, Nat.reduceAdd]; apply Exists.intro; refine ⟨fun X hX => ?_, ?_⟩; (focus (obtain ⟨hcX, hfX⟩ := bcell hX; have hgX := regcell hX; have hsX := hX.size; (try simp only [World.size_alloc] at hsX); (repeat (go_big_quiet_step ((first | (go_at_call 114; (with_reducible exact Calls.regrown_of (HPR.out _ (bel_trans hX (below_regrown X _ _))))))))); exact wpQuiet_nil rfl)); simp only [wpND, told, toldAll, List.contains_cons, List.contains_nil, List.mem_cons, List.not_mem_nil, forall_eq_or_imp, false_implies, implies_true, and_true, Nat.reduceBEq, BEq.rfl, beq_self_eq_true, Bool.or_false, Bool.false_or, Bool.true_or, Bool.or_true, Bool.false_eq_true, if_true, if_false, true_implies, dstAt, List.getElem?_toArray, List.getElem?_cons_succ, List.getElem?_cons_zero, Option.some.injEq, forall_eq', Option.bind_some, Act.put, List.setIfInBounds_toArray, List.set_cons_succ, List.set_cons_zero])
 intro X hX
 have hBX := bel_trans HB0.out hX
 have u0 := HT0.out _ hX
 have u1 := HT1.out _ hX
 have u2 := HT2.out _ hX
 have v0 := HR0.out _ hX
 have y0 := HD0.out _ hX
 have y3 := HD3.out _ hX
 have y4 := HD4.out _ hX
 have sX := hX.size
 have z1 : w.heap.size + 1 < X.heap.size := by omega
 have z2 : w.heap.size + 2 < X.heap.size := by omega
 have z3 : w.heap.size + 1 + 1 < X.heap.size := by omega
 have z0 : w.heap.size < X.heap.size := by omega
 have HBX := Lib.hid hBX
 have HX := Lib.hid hX
 clear t0 t1 t2 r0 q1 q2 q3 sX hBX hX
 cases x1
 · cases x2
   · cases he
     · go_wp2
       go_ret
       exact ⟨by rw [HBB.out]; rfl, HBX.out⟩
     · by_cases hj : j < 0
       · have HJ := Lib.hid (show B = -4 by rw [HBB.out]; simp [hj])
         clear HBB
         go_wp2_with (go_at_call 115; refine (HIDX.out _ HX.out).mono ?_; rintro e W3 ⟨rfl, hbW3⟩; obtain ⟨hcW3, hfW3⟩ := bcell hbW3)
         go_ret
         exact ⟨by rw [HJ.out]; rfl, bel_trans HBX.out hbW3⟩
       · have HJ := Lib.hid (show B = j by rw [HBB.out]; simp [hj])
         clear HBB
         go_wp2_with (go_at_call 115; refine (HIDX.out _ HX.out).mono ?_; rintro e W3 ⟨rfl, hbW3⟩; obtain ⟨hcW3, hfW3⟩ := bcell hbW3)
         go_ret
         exact ⟨by rw [HJ.out]; rfl, bel_trans HBX.out hbW3⟩
   · cases x3
     · cases he
       · go_wp2_with (go_at_call 71; refine (HHAS.out _ HX.out).mono ?_; rintro e W2 ⟨rfl, hbW2⟩; obtain ⟨hcW2, hfW2⟩ := bcell hbW2)
         go_ret
         exact ⟨by rw [HBB.out]; rfl, bel_trans HBX.out hbW2⟩
       · by_cases hj : j < 0
         · have HJ := Lib.hid (show B = -4 by rw [HBB.out]; simp [hj])
           clear HBB
           go_wp2_with (first | (go_at_call 71; refine (HHAS.out _ HX.out).mono ?_; rintro e W2 ⟨rfl, hbW2⟩; obtain ⟨hcW2, hfW2⟩ := bcell hbW2) | (go_at_call 115; refine (HIDX.out _ (bel_trans HX.out hbW2)).mono ?_; rintro e W3 ⟨rfl, hbW3⟩; obtain ⟨hcW3, hfW3⟩ := bcell hbW3))
           go_ret
           exact ⟨by rw [HJ.out]; rfl, bel_trans (bel_trans HBX.out hbW2) hbW3⟩
         · have HJ := Lib.hid (show B = j by rw [HBB.out]; simp [hj])
           clear HBB
           go_wp2_with (first | (go_at_call 71; refine (HHAS.out _ HX.out).mono ?_; rintro e W2 ⟨rfl, hbW2⟩; obtain ⟨hcW2, hfW2⟩ := bcell hbW2) | (go_at_call 115; refine (HIDX.out _ (bel_trans HX.out hbW2)).mono ?_; rintro e W3 ⟨rfl, hbW3⟩; obtain ⟨hcW3, hfW3⟩ := bcell hbW3))
           go_ret
           exact ⟨by rw [HJ.out]; rfl, bel_trans (bel_trans HBX.out hbW2) hbW3⟩
     · go_wp2_with (go_at_call 71; refine (HHAS.out _ HX.out).mono ?_; rintro e W2 ⟨rfl, hbW2⟩; obtain ⟨hcW2, hfW2⟩ := bcell hbW2)
       go_ret
       exact ⟨by rw [HBB.out]; rfl, bel_trans HBX.out hbW2⟩
 · go_wp2
   go_ret
   exact ⟨by rw [HBB.out]; rfl, HBX.out⟩
end Go.Proofs.YtanicpgmbhfipaaGreatDoor
namespace Go.Proofs.YtanicpgmbhfipaaGreatDoor
set_option linter.unusedVariables false
set_option linter.unusedSimpArgs false
open Go.RowKit Go.Sort Go.Shelf
attribute [local go_sem] Oper.semAt_some wide_fn wide_depth
def dscC (d : DscP) (A1 A2 : Option Addr) (c1 c2 : Nat) : Array Value := #[.int .i64 d.o, .int .i64 d.g, .bool d.pr, .bool d.he, .slice A1 d.es.length c1, .slice A2 d.us.length c2]
theorem all_any (d : DscP) (t : TokP) (A1 A2 A : Option Addr) (c1 c2 c : Nat) (w : World) :
 Calls Tryz.prog 56 #[dscV d A1 A2 c1 c2, tokV t A c] w fun e w' => e = .returned (.func (.func 89) #[] #[.pointer (some ⟨w.heap.size, 0, none⟩), .pointer (some ⟨w.heap.size + 1, 0, none⟩)]) ∧
  w' = (w.alloc (.cells (dscC d A1 A2 c1 c2) 92)).alloc (.cells (tokC t A c) 95) := by
 have hmf : ∀ (fn : Fn) (first cap : Array Value) (w : World), (Instr.makeFunc fn first cap).run Tryz.prog w = .ok (.func fn first cap) w := fun _ _ _ _ => rfl
 unfold dscV tokV dscC tokC
 go_enter Tryz.func56, Tryz.ntmps56
 go_wp2
 go_ret
 exact ⟨rfl, rfl⟩
structure KAll (d : DscP) (t : TokP) (A1 A2 A : Option Addr) (c1 c2 c bD bT : Nat) (w : World) : Prop where
 dt : DT d t A1 A2 A w
 bd : Box w bD (dscC d A1 A2 c1 c2) 92
 bt : Box w bT (tokC t A c) 95
def rgtX (d : DscP) (t : TokP) : List (Int × Int) := (List.range 9).map fun i => ((2 : Int) ^ i, byP d t i)
theorem rgtX_length (d : DscP) (t : TokP) : (rgtX d t).length = 9 := by simp [rgtX]
theorem rgtX_get (d : DscP) (t : TokP) (k : Nat) (h : k < 9) : (rgtX d t)[k]'(by rw [rgtX_length]; exact h) = ((2 : Int) ^ k, byP d t k) := by simp [rgtX]
theorem shl_one (k : Nat) (hk : k < 9) : wrap64 ((2 : Int) ^ k) = (2 : Int) ^ k := by
 have : k = 0 ∨ k = 1 ∨ k = 2 ∨ k = 3 ∨ k = 4 ∨ k = 5 ∨ k = 6 ∨ k = 7 ∨ k = 8 := by omega
 rcases this with rfl | rfl | rfl | rfl | rfl | rfl | rfl | rfl | rfl <;> decide +kernel
set_option maxRecDepth 100000 in
set_option maxHeartbeats 400000 in
theorem all_seq (n : Nat) (d : DscP) (t : TokP) (A1 A2 A : Option Addr) (c1 c2 c bD bT : Nat) (ho : dtO d t) :
 SeqFix n Tryz.prog 89 #[.pointer (some ⟨bD, 0, none⟩), .pointer (some ⟨bT, 0, none⟩)] (fun x : Int × Int => #[.int .i64 x.1, .int .i64 x.2]) (KAll d t A1 A2 A c1 c2 c bD bT) (rgtX d t) := by
 intro l J W hJK hJb hY h0
 refine callsIn_of_wp Tryz.func89 rfl trivial ?_ rfl
 simp only [Tryz.ntmps89, List.size_toArray, List.length_cons, List.length_nil, Nat.reduceAdd, Nat.reduceSub, Array.replicate_succ, Array.replicate_zero, List.push_toArray, List.append_toArray, List.nil_append, List.cons_append]
 gi_wp2
 gi_loopw [6] (fun ix wr => ∃ k : Nat, k ≤ 9 ∧ ix = .int .i64 k ∧ J ((rgtX d t).take k) wr) (fun ix _ => 9 - (intOf ix).toNat)
 case atStart => exact ⟨0, by omega, rfl, h0⟩
 case round =>
  obtain ⟨k, hk, rfl, hJ⟩ := hrel
  clear h0
  by_cases hlt : k < 9
  · have hK := hJK _ _ hJ
    have hD := hK.bd
    have hT := hK.bt
    have y0 : wr.cell? ⟨bD, 0, none⟩ = some (.int .i64 d.o) := hD.cells 0
    have y1 : wr.cell? ⟨bD, 1, none⟩ = some (.int .i64 d.g) := hD.cells 1
    have y2 : wr.cell? ⟨bD, 2, none⟩ = some (.bool d.pr) := hD.cells 2
    have y3 : wr.cell? ⟨bD, 3, none⟩ = some (.bool d.he) := hD.cells 3
    have y4 : wr.cell? ⟨bD, 4, none⟩ = some (.slice A1 d.es.length c1) := hD.cells 4
    have y5 : wr.cell? ⟨bD, 5, none⟩ = some (.slice A2 d.us.length c2) := hD.cells 5
    have t0 : wr.cell? ⟨bT, 0, none⟩ = some (.int .i64 t.u) := hT.cells 0
    have t1 : wr.cell? ⟨bT, 1, none⟩ = some (.slice A t.gs.length c) := hT.cells 1
    have t2 : wr.cell? ⟨bT, 2, none⟩ = some (.int .i64 t.p) := hT.cells 2
    have HDEC := Lib.hid (decided_any d t A1 A2 A c1 c2 c k wr hK.dt ho hlt)
    have hsnoc : (rgtX d t).take (k + 1) = (rgtX d t).take k ++ [((2 : Int) ^ k, byP d t k)] := by
     rw [List.take_succ_eq_append_getElem (by rw [rgtX_length]; exact hlt), rgtX_get d t k hlt]
    have hsplit : rgtX d t = (rgtX d t).take k ++ ((2 : Int) ^ k, byP d t k) :: (rgtX d t).drop (k + 1) := by
     rw [← rgtX_get d t k hlt, ← List.drop_eq_getElem_cons (by rw [rgtX_length]; exact hlt), List.take_append_drop]
    have HY := Lib.hid (fun X (hX : Below wr.heap.size wr X) => hY _ _ _ X hsplit (hJb _ _ _ hJ hX))
    have HS := Lib.hid hsnoc
    unfold dscV tokV at HDEC
    obtain ⟨R, hR⟩ : ∃ R, R = (2 : Int) ^ k := ⟨_, rfl⟩
    obtain ⟨B, hB⟩ : ∃ B, B = byP d t k := ⟨_, rfl⟩
    rw [← hR, ← hB] at HDEC HY HS
    have hsh : wrap64 ((2 : Int) ^ k) = R := by rw [hR]; exact shl_one k hlt
    clear hsplit hsnoc hY hK hD hT hR hB
    gi_wp2_with (gi_at_call 90; (with_reducible refine (callsIn_wide.2 HDEC.out).mono ?_); rintro e W1 ⟨rfl, hb1⟩; obtain ⟨fn, tmps, assign, body, hy, hR'⟩ := HY.out W1 hb1)
    refine hR'.mono ?_
    rintro e W3 ⟨rfl, hJ3⟩
    gi_wp2
    go_roundw
    case rel => exact ⟨k + 1, by omega, by go_num, by rw [HS.out]; exact hJ3⟩
    case measure => simp [intOf]; omega
  · gi_wp2
    go_end0
    obtain rfl : k = 9 := by omega
    rw [List.take_of_length_le (by rw [rgtX_length]; omega)] at hJ
    exact ⟨⟨_, rfl⟩, hJ⟩
end Go.Proofs.YtanicpgmbhfipaaGreatDoor
namespace Go.Proofs.YtanicpgmbhfipaaGreatDoor
set_option linter.unusedVariables false
set_option linter.unusedSimpArgs false
open Go.RowKit Go.Sort Go.Shelf
attribute [local go_sem] Oper.semAt_some wide_fn wide_depth
def grtI (d : DscP) (by_ : Int) : Bool := by_ != -4 && (decide (by_ < 0) || ((d.es.getD by_.toNat ⟨0, 0, 0, 0⟩).k == 0))
theorem grtI_by (d : DscP) (t : TokP) (i : Nat) : grtI d (byP d t i) = grtB d t i := rfl
theorem byP_spec (d : DscP) (t : TokP) (i : Nat) : byP d t i = -4 ∨ byP d t i = -1 ∨ byP d t i = -2 ∨ byP d t i = -3 ∨ ∃ j, j < d.es.length ∧ byP d t i = (j : Int) := by
 unfold byP
 split
 · simp
 · split
   · simp
   · split
     · simp
     · split
       · simp
       · rename_i h
         rcases idxF_spec (hitB t i) d.es 0 with ⟨h1, _⟩ | ⟨j, hj, h1, _⟩
         · rw [h1] at h; simp at h
         · refine .inr (.inr (.inr (.inr ⟨j, hj, ?_⟩)))
           rw [h1, Nat.zero_add]
def accR (d : DscP) (l : List (Int × Int)) : Int := l.foldl (fun r x => if grtI d x.2 = true then bits .or .i64 r x.1 else r) 0
theorem accR_snoc (d : DscP) (l : List (Int × Int)) (x : Int × Int) : accR d (l ++ [x]) = if grtI d x.2 = true then bits .or .i64 (accR d l) x.1 else accR d l := by
 unfold accR; rw [List.foldl_append]; rfl
theorem or_pow (r : Int) (k : Nat) (h0 : 0 ≤ r) (h1 : r < 2 ^ k) (hk : k < 9) : bits .or .i64 r ((2 : Int) ^ k) = r + 2 ^ k := by
 obtain ⟨n, rfl⟩ := Int.eq_ofNat_of_zero_le h0
 have hn : n < 2 ^ k := by exact_mod_cast h1
 have h9 : (2 : Nat) ^ k < 2 ^ 62 := Nat.pow_lt_pow_right (by decide) (by omega)
 have e : ((2 : Int) ^ k) = ((2 ^ k : Nat) : Int) := by simp
 rw [e]
 show bits .or .i64 ((n : Nat) : Int) ((2 ^ k : Nat) : Int) = _
 rw [(bits_nat .i64 62 (by decide) wraps62 n (2 ^ k) (by omega) h9).2, Nat.or_comm, nat_join k (2 ^ k) n (Nat.mod_self _) hn]
 push_cast
 omega
theorem accR_take (d : DscP) (t : TokP) : ∀ k, k ≤ 9 → accR d ((rgtX d t).take k) = rgtN d t k
 | 0, _ => rfl
 | k + 1, h => by
  have ih := accR_take d t k (by omega)
  rw [List.take_succ_eq_append_getElem (by rw [rgtX_length]; omega), rgtX_get d t k (by omega), accR_snoc, ih]
  obtain ⟨h1, h2⟩ := rgtN_bd d t k
  show (if grtB d t k = true then bits .or .i64 (rgtN d t k) ((2 : Int) ^ k) else rgtN d t k) = rgtN d t k + if grtB d t k = true then 2 ^ k else 0
  split
  · exact or_pow _ _ h1 h2 (by omega)
  · omega
theorem accR_all (d : DscP) (t : TokP) : accR d (rgtX d t) = rgtP d t := by
 have := accR_take d t 9 (Nat.le_refl _)
 rwa [List.take_of_length_le (by rw [rgtX_length]; omega)] at this
theorem rgtX_mem {d : DscP} {t : TokP} {pre rest : List (Int × Int)} {x : Int × Int} (h : rgtX d t = pre ++ x :: rest) : ∃ k, k < 9 ∧ x = ((2 : Int) ^ k, byP d t k) := by
 have hm : x ∈ rgtX d t := by rw [h]; simp
 unfold rgtX at hm
 obtain ⟨k, hk, rfl⟩ := List.mem_map.1 hm
 exact ⟨k, by simpa using hk, rfl⟩
theorem below_row {w W W' : World} {B : Nat} {row : Option Nat} (h : Below w.heap.size w W) (hg : W.grownBy W' row) (hr : ∀ r, row = some r → B ≤ r) (hB : w.heap.size ≤ B) : Below w.heap.size w W' :=
 h.trans ⟨hg.os, hg.tape, hg.output, hg.size, fun k hk => hg.block k (by have := h.size; omega) (fun e => by have := hr _ e.symm; omega)⟩
theorem box_row {W W' : World} {B b : Nat} {cs : Array Value} {T : TypeId} {row : Option Nat} (h : Box W b cs T) (hg : W.grownBy W' row) (hr : ∀ r, row = some r → B ≤ r) (hb : b < B) : Box W' b cs T :=
 (hg.block b h.lt (fun e => by have := hr _ e.symm; omega)).trans h
structure IMost (d : DscP) (t : TokP) (A1 A2 A : Option Addr) (c1 c2 c : Nat) (w : World) (r : Int) (W : World) : Prop where
 bel : Below w.heap.size w W
 b0 : Box W w.heap.size (dscC d A1 A2 c1 c2) 92
 b2 : Box W (w.heap.size + 1 + 1) #[.int .i64 r] 3
 b3 : Box W (w.heap.size + 1 + 1 + 1) (dscC d A1 A2 c1 c2) 92
 b4 : Box W (w.heap.size + 1 + 1 + 1 + 1) (tokC t A c) 95
set_option maxRecDepth 100000 in
set_option maxHeartbeats 4000000 in
theorem most_any (d : DscP) (t : TokP) (A1 A2 A : Option Addr) (c1 c2 c : Nat) (w : World) (h : DT d t A1 A2 A w) (ho : dtO d t) :
 Calls Tryz.prog 54 #[dscV d A1 A2 c1 c2, tokV t A c] w fun e w' => e = .returned (.int .i64 (rgtP d t)) ∧ Below w.heap.size w w' := by
 have HALL := Lib.hid (fun W => all_any d t A1 A2 A c1 c2 c W)
 refine (callsIn_wide (n := 6)).1 ?_
 refine callsIn_of_wp_marks Tryz.func54 rfl trivial ?_ rfl
 simp only [Tryz.ntmps54, List.size_toArray, List.length_cons, List.length_nil, Nat.reduceAdd, Nat.reduceSub, Array.replicate_succ, Array.replicate_zero, List.push_toArray, List.append_toArray, List.nil_append, List.cons_append]
 unfold dscV tokV at *
 gi_wp2_with (gi_at_call 56; refine (callsIn_wide.2 (HALL.out _)).mono ?_; rintro e w' ⟨rfl, rfl⟩)
 have hI0 : IMost d t A1 A2 A c1 c2 c w 0 (((((w.alloc (.cells (dscC d A1 A2 c1 c2) 92)).alloc (.cells (tokC t A c) 95)).alloc (.cells #[.int .i64 0] 3)).alloc (.cells (dscC d A1 A2 c1 c2) 92)).alloc (.cells (tokC t A c) 95)) := by
  refine ⟨bel_alloc (bel_alloc (bel_alloc (bel_alloc (bel_alloc (Below.refl _ _) _) _) _) _) _, ((((Box.new w _ _).old _).old _).old _).old _, ?_, ?_, ?_⟩
  · have := ((Box.new ((w.alloc (.cells (dscC d A1 A2 c1 c2) 92)).alloc (.cells (tokC t A c) 95)) #[.int .i64 0] 3).old (.cells (dscC d A1 A2 c1 c2) 92)).old (.cells (tokC t A c) 95)
    simpa only [World.size_alloc] using this
  · have := (Box.new (((w.alloc (.cells (dscC d A1 A2 c1 c2) 92)).alloc (.cells (tokC t A c) 95)).alloc (.cells #[.int .i64 0] 3)) (dscC d A1 A2 c1 c2) 92).old (.cells (tokC t A c) 95)
    simpa only [World.size_alloc] using this
  · have := Box.new ((((w.alloc (.cells (dscC d A1 A2 c1 c2) 92)).alloc (.cells (tokC t A c) 95)).alloc (.cells #[.int .i64 0] 3)).alloc (.cells (dscC d A1 A2 c1 c2) 92)) (tokC t A c) 95
    simpa only [World.size_alloc] using this
 obtain ⟨W0, hW0⟩ : ∃ W0, W0 = (((((w.alloc (.cells (dscC d A1 A2 c1 c2) 92)).alloc (.cells (tokC t A c) 95)).alloc (.cells #[.int .i64 0] 3)).alloc (.cells (dscC d A1 A2 c1 c2) 92)).alloc (.cells (tokC t A c) 95)) := ⟨_, rfl⟩
 have hsz0 : W0.heap.size = w.heap.size + 1 + 1 + 1 + 1 + 1 := by rw [hW0]; simp only [World.size_alloc]
 rw [← hW0] at hI0
 have hW0' := hW0
 unfold dscC tokC at hW0'
 unfold dscC tokC
 rw [← hW0']
 clear hW0' hW0
 have HH := Lib.hid h
 refine wpIn_rangeFunc_fix (gf := 89) (lb := #[.pointer (some ⟨w.heap.size + 1 + 1 + 1, 0, none⟩), .pointer (some ⟨w.heap.size + 1 + 1 + 1 + 1, 0, none⟩)]) rfl (enters_of Tryz.func89 (by kernel_rfl) rfl) (all_seq _ d t A1 A2 A c1 c2 c (w.heap.size + 1 + 1 + 1) (w.heap.size + 1 + 1 + 1 + 1) ho) (fun _ => rfl)
  (fun pre W => IMost d t A1 A2 A c1 c2 c w (accR d pre) W) ?hI (fun pre W hI => ⟨h.below hI.bel, hI.b3, hI.b4⟩) hI0 ?round ?done
 case hI =>
  intro pre X Y row hI hg hr
  have hr' : ∀ r, row = some r → w.heap.size + 1 + 1 + 1 + 1 + 1 ≤ r := fun r e => by have := (hr r e).1; omega
  exact ⟨below_row hI.bel hg hr' (by omega), box_row hI.b0 hg hr' (by omega), box_row hI.b2 hg hr' (by omega), box_row hI.b3 hg hr' (by omega), box_row hI.b4 hg hr' (by omega)⟩
 case round =>
  intro l pre x rest W hx
  gi_wp2
  refine ⟨trivial, fun W2 hI => ?_⟩
  obtain ⟨k, hk, rfl⟩ := rgtX_mem hx
  have hspec := byP_spec d t k
  have hsn := accR_snoc d pre ((2 : Int) ^ k, byP d t k)
  have h0 : W2.cell? ⟨w.heap.size, 4, none⟩ = some (.slice A1 d.es.length c1) := hI.b0.cells 4
  have h2 : W2.cell? ⟨w.heap.size + 1 + 1, 0, none⟩ = some (.int .i64 (accR d pre)) := hI.b2.cells 0
  have f2 : W2.frozen? ⟨w.heap.size + 1 + 1, 0, none⟩ = false := hI.b2.frozen 0
  have l2 := hI.b2.lt
  have HDT := Lib.hid (h.below hI.bel)
  have HI := Lib.hid hI
  obtain ⟨B, hB⟩ : ∃ B, B = byP d t k := ⟨_, rfl⟩
  obtain ⟨R, hR⟩ : ∃ R, R = (2 : Int) ^ k := ⟨_, rfl⟩
  obtain ⟨r, hr⟩ : ∃ r, r = accR d pre := ⟨_, rfl⟩
  rw [← hB] at hspec
  rw [← hB, ← hR, ← hr] at hsn
  rw [← hB, ← hR]
  rw [← hr] at h2
  dsimp only at hsn ⊢
  have HSN := Lib.hid hsn
  have fin0 : grtI d B = false → IMost d t A1 A2 A c1 c2 c w (accR d (pre ++ [(R, B)])) W2 := fun hg => by
   rw [HSN.out, hg, hr]; exact HI.out
  have fin1 : grtI d B = true → IMost d t A1 A2 A c1 c2 c w (accR d (pre ++ [(R, B)])) (W2.setCell ⟨w.heap.size + 1 + 1, 0, none⟩ (.int .i64 (bits .or .i64 r R))) := fun hg => by
   rw [HSN.out, hg]
   have hI := HI.out
   have hg2 := grownBy_setCell' W2 (w.heap.size + 1 + 1) (.int .i64 (bits .or .i64 r R))
   refine ⟨below_row hI.bel hg2 (fun r e => by injection e with e; omega) (Nat.le_succ w.heap.size), ?_, ?_, ?_, ?_⟩
   · exact (hg2.block _ hI.b0.lt (fun e => by injection e with e; omega)).trans hI.b0
   · have := hI.b2.setCell 0 (.int .i64 (bits .or .i64 r R)); simpa using this
   · exact (hg2.block _ hI.b3.lt (fun e => by injection e with e; omega)).trans hI.b3
   · exact (hg2.block _ hI.b4.lt (fun e => by injection e with e; omega)).trans hI.b4
  have FIN0 := Lib.hid fin0
  have FIN1 := Lib.hid fin1
  clear fin0 fin1 hsn hB hR hr hx hI hI0 HH h
  rcases hspec with rfl | rfl | rfl | rfl | ⟨j, hj, rfl⟩
  · gi_wp2
    exact ⟨KeepsFrom.refl _ _, FIN0.out (by simp [grtI])⟩
  · gi_wp2
    exact ⟨(KeepsOthers.setCell _ _ _).from _, FIN1.out (by simp [grtI])⟩
  · gi_wp2
    exact ⟨(KeepsOthers.setCell _ _ _).from _, FIN1.out (by simp [grtI])⟩
  · gi_wp2
    exact ⟨(KeepsOthers.setCell _ _ _).from _, FIN1.out (by simp [grtI])⟩
  · obtain ⟨b, o, rfl, hb, hc⟩ := HDT.out.r1.opened (by rw [acesV_length]; omega)
    have c0 : W2.cell? ⟨b, o + j * 4, none⟩ = some (.int .i64 (d.es[j]).k) := hc _ _ (acesV_get d.es j hj).1
    have hl1 := HDT.out.l1
    have hgt : grtI d (j : Int) = ((d.es[j]).k == 0) := by
     unfold grtI
     have e1 : ((j : Int) != -4) = true := by rw [bne_iff_ne]; omega
     have e2 : decide ((j : Int) < 0) = false := by simp
     rw [e1, e2, Int.toNat_natCast, List.getD_eq_getElem?_getD, List.getElem?_eq_getElem hj]; rfl
    obtain ⟨kd, hkd⟩ : ∃ x, x = (d.es[j]).k := ⟨_, rfl⟩
    rw [← hkd] at c0 hgt
    have n4 : ((j : Int) == -4) = false := by rw [beq_eq_false_iff_ne]; omega
    have HGT := Lib.hid hgt
    clear hkd hc hgt
    by_cases h0k : kd = 0
    · subst h0k
      gi_wp2
      exact ⟨(KeepsOthers.setCell _ _ _).from _, FIN1.out (by rw [HGT.out]; rfl)⟩
    · have h0' : (kd == 0) = false := by simpa using h0k
      gi_wp2
      exact ⟨KeepsFrom.refl _ _, FIN0.out (by rw [HGT.out, h0'])⟩
 case done =>
  intro D W hD hI hK
  rw [accR_all] at hI
  have h2 : W.cell? ⟨w.heap.size + 1 + 1, 0, none⟩ = some (.int .i64 (rgtP d t)) := hI.b2.cells 0
  gi_wp2
  refine ⟨by simp, .inl ⟨_, _, rfl, run_takeDeferred hK, ?_⟩⟩
  exact ⟨_, results_tmp rfl _ _ _, rfl, hI.bel.trans ((Below.refl w.heap.size W).grown (grownBy_putObj' W D _) hI.bel.size (fun k e => by cases e; omega))⟩
end Go.Proofs.YtanicpgmbhfipaaGreatDoor
namespace Go.Proofs.YtanicpgmbhfipaaGreatDoor
set_option linter.unusedVariables false
set_option linter.unusedSimpArgs false
open Go.RowKit
theorem firstE_zero : ∀ {l : List Int}, firstE l = 0 → ∀ e ∈ l, e = 0
 | [], _, e, h => by simp at h
 | x :: l, h0, e, h => by
  unfold firstE at h0
  split at h0
  · rename_i hx
    rcases List.mem_cons.1 h with rfl | h
    · exact hx
    · exact firstE_zero h0 e h
  · rename_i hx; exact absurd h0 hx
theorem unl_zero {b : Bool} {e : Int} (he : e ≠ 0) (h : unl b e = 0) : b = true := by
 cases b
 · exact absurd h he
 · rfl
theorem dscE_zero {d : DscP} (h : dscE d = 0) : hldB d.o = true ∧ hldB d.g = true ∧ d.es.length ≤ 16 ∧ d.us.length ≤ 16 ∧ (d.he = false → d.es = []) ∧ (∀ a ∈ d.es, aceE a = 0 ∧ a.k ≠ 2) ∧ (∀ a ∈ d.us, aceE a = 0 ∧ a.k = 2) := by
 unfold dscE dscP at h
 split at h
 · rename_i h1; exact absurd h h1
 · rename_i h1
   split at h
   · cases h
   · rename_i h2
     split at h
     · cases h
     · rename_i h3
       have hp : (hldB d.o && hldB d.g) = true := unl_zero (by decide) (Classical.not_not.1 h1)
       rw [Bool.and_eq_true] at hp
       have hz := eachE_zero _ _ _ h
       have hent : ∀ i (hi : i < (d.es ++ d.us).length), aceE (d.es ++ d.us)[i] = 0 ∧ ((d.es ++ d.us)[i].k == 2) = decide (d.es.length ≤ i) := fun i hi => by
        have := hz i hi
        rw [Nat.zero_add] at this
        unfold entE at this
        split at this
        · rename_i h4; exact absurd this h4
        · rename_i h4; exact ⟨Classical.not_not.1 h4, by have := unl_zero (by decide) this; simpa using this⟩
       refine ⟨hp.1, hp.2, by omega, by omega, fun hh => Classical.byContradiction fun hc => h3 ⟨hh, hc⟩, fun a ha => ?_, fun a ha => ?_⟩
       · obtain ⟨i, hi, rfl⟩ := List.getElem_of_mem ha
         obtain ⟨g1, g2⟩ := hent i (by rw [List.length_append]; omega)
         rw [List.getElem_append_left hi] at g1 g2
         rw [show decide (d.es.length ≤ i) = false by simp; omega] at g2
         exact ⟨g1, by simpa using g2⟩
       · obtain ⟨i, hi, rfl⟩ := List.getElem_of_mem ha
         obtain ⟨g1, g2⟩ := hent (d.es.length + i) (by rw [List.length_append]; omega)
         rw [List.getElem_append_right (by omega)] at g1 g2
         simp only [Nat.add_sub_cancel_left] at g1 g2
         rw [show decide (d.es.length ≤ d.es.length + i) = true by simp] at g2
         exact ⟨g1, by simpa using g2⟩
theorem tokE_zero {t : TokP} (h : tokE t = 0) : hldB t.u = true ∧ t.gs.length ≤ 16 ∧ usersE t.gs = 0 ∧ 0 ≤ t.p ∧ t.p ≤ 15 := by
 have hz := firstE_zero h
 have h1 := unl_zero (by decide) (hz (unl (hldB t.u) 2) (by simp))
 have h2 := unl_zero (by decide) (hz (unl (decide (t.gs.length ≤ 16)) 8) (by simp))
 have h3 := hz (usersE t.gs) (by simp)
 have h4 := unl_zero (by decide) (hz (unl (inB t.p 0 15) 2) (by simp))
 rw [inB_true] at h4
 exact ⟨h1, by simpa using h2, h3, h4⟩
def botE (d : DscP) (t : TokP) : Int := firstE [dscE d, tokE t]
theorem botE_zero {d : DscP} {t : TokP} (h : botE d t = 0) : dscE d = 0 ∧ tokE t = 0 := by
 have hz := firstE_zero h
 exact ⟨hz _ (by simp), hz _ (by simp)⟩
end Go.Proofs.YtanicpgmbhfipaaGreatDoor
namespace Go.Proofs.YtanicpgmbhfipaaGreatDoor
set_option linter.unusedVariables false
set_option linter.unusedSimpArgs false
open Go.RowKit Go.Sort
theorem dtO_of {d : DscP} {t : TokP} (h : botE d t = 0) : dtO d t := by
 obtain ⟨h1, h2⟩ := botE_zero h
 obtain ⟨_, _, _, _, _, h3, _⟩ := dscE_zero h1
 obtain ⟨_, _, _, h4, h5⟩ := tokE_zero h2
 exact ⟨fun a ha => (aceO_of (h3 a ha).1).1, h4, h5⟩
theorem access_descriptorErr_any (d : DscP) (A1 A2 : Option Addr) (c1 c2 : Nat) (w : World) (h1 : d.es.length ≤ 500) (h2 : d.us.length ≤ 500) (hr1 : Rd w w.heap.size A1 (acesV d.es)) (hr2 : Rd w w.heap.size A2 (acesV d.us)) :
 Calls Tryz.prog 52 #[dscV d A1 A2 c1 c2] w fun e w' => e = .returned (.int .i64 (dscE d)) ∧ Below w.heap.size w w' := by
 have hb0 : Below w.heap.size w (w.alloc (.cells (dscC d A1 A2 c1 c2) 24)) := bel_alloc (Below.refl _ _) _
 have HC := Lib.hid (CheckDsc_any d A1 A2 c1 c2 (w.alloc (.cells (dscC d A1 A2 c1 c2) 24)) h1 h2 (hr1.below' hb0) (hr2.below' hb0))
 obtain ⟨q, hq⟩ : ∃ q, q = (dscP d).1 := ⟨_, rfl⟩
 rw [← hq] at HC
 unfold dscE
 obtain ⟨e, he⟩ : ∃ e, e = (dscP d).2 := ⟨_, rfl⟩
 rw [← he] at HC ⊢
 unfold dscV dscC at *
 have HB0 := Lib.hid hb0
 clear hb0 hr1 hr2 hq he
 go_enter Tryz.func52, Tryz.ntmps52
 go_wp2_with (go_at_call 85; refine (HC.out).mono ?_; rintro e W1 ⟨rfl, hbW1⟩; obtain ⟨hcW1, hfW1⟩ := bcell hbW1)
 go_ret
 exact ⟨rfl, bel_trans HB0.out hbW1⟩
theorem DT.dsc {d : DscP} {t : TokP} {A1 A2 A : Option Addr} {w : World} (h : DT d t A1 A2 A w) (c1 c2 : Nat) : Calls Tryz.prog 52 #[dscV d A1 A2 c1 c2] w fun e w' => e = .returned (.int .i64 (dscE d)) ∧ Below w.heap.size w w' :=
 access_descriptorErr_any d A1 A2 c1 c2 w h.l1 h.l2 h.r1 h.r2
theorem DT.tok {d : DscP} {t : TokP} {A1 A2 A : Option Addr} {w : World} (h : DT d t A1 A2 A w) (c : Nat) : Calls Tryz.prog 53 #[tokV t A c] w fun e w' => e = .returned (.int .i64 (tokE t)) ∧ Below w.heap.size w w' :=
 CheckToken_any t A c w (by have := h.l3; omega) h.r3
set_option maxRecDepth 100000 in
set_option maxHeartbeats 2000000 in
theorem RightsFor_any (d : DscP) (t : TokP) (A1 A2 A : Option Addr) (c1 c2 c : Nat) (w : World) (h : DT d t A1 A2 A w) :
 Calls Tryz.prog 11 #[dscV d A1 A2 c1 c2, tokV t A c] w fun e w' => e = .returned (.tuple #[.int .i64 (if botE d t = 0 then rgtP d t else 0), .int .i64 (botE d t)]) ∧ Below w.heap.size w w' := by
 have HO := Lib.hid (fun (hb : botE d t = 0) W (hW : Below w.heap.size w W) => most_any d t A1 A2 A c1 c2 c W (h.below hW) (dtO_of hb))
 have HD := Lib.hid (fun W (hW : Below w.heap.size w W) => (h.below hW).dsc c1 c2)
 have HT := Lib.hid (fun W (hW : Below w.heap.size w W) => (h.below hW).tok c)
 obtain ⟨r, hr⟩ : ∃ r, r = botE d t := ⟨_, rfl⟩
 rw [← hr] at HO ⊢
 obtain ⟨e1, he1⟩ : ∃ e, e = dscE d := ⟨_, rfl⟩
 obtain ⟨e2, he2⟩ : ∃ e, e = tokE t := ⟨_, rfl⟩
 obtain ⟨R, hR⟩ : ∃ e, e = rgtP d t := ⟨_, rfl⟩
 have H0 := Lib.hid (show r = firstE [e1, e2] by rw [hr, he1, he2]; rfl)
 rw [← he1] at HD
 rw [← he2] at HT
 rw [← hR] at HO ⊢
 unfold dscV tokV at *
 have bD := (Box.new w (dscC d A1 A2 c1 c2) 24).old (.cells (tokC t A c) 27)
 have bT := Box.new (w.alloc (.cells (dscC d A1 A2 c1 c2) 24)) (tokC t A c) 27
 rw [World.size_alloc] at bT
 have BD := Lib.hid (fun W hW => bD.below (w' := W) hW)
 have BT := Lib.hid (fun W hW => bT.below (w' := W) hW)
 unfold dscC tokC at BD BT
 clear hr he1 he2 h hR bD bT
 go_enter Tryz.func11, Tryz.ntmps11
 go_wp2
 (refine wp_region_flow [false, false, false, false, true, true] [⟨4, [], ErrsI w.heap.size [e1, e2], false⟩, ⟨5, [4], IntV r, false⟩] (by kernel_rfl) (by kernel_rfl) (by kernel_rfl) (by kernel_rfl) ?_; simp only [pick, List.length_cons, List.length_nil, List.drop_succ_cons, List.drop_zero, Nat.zero_add, Nat.reduceAdd]; apply Exists.intro; refine ⟨fun X hX => ?_, ?_⟩; (focus (obtain ⟨hcX, hfX⟩ := bcell hX; have hgX := regcell hX; have hsX := hX.size; (try simp only [World.size_alloc] at hsX); (repeat (go_big_quiet_step ((first | (go_at_call 52; (with_reducible exact Calls.regrown_of (HD.out _ (bel_trans (bel_trans (bel_alloc (bel_alloc (Below.refl _ _) _) _) hX) (below_regrown X _ _))))) | (go_at_call 53; (with_reducible exact Calls.regrown_of (HT.out _ (bel_trans (bel_trans (bel_alloc (bel_alloc (Below.refl _ _) _) _) hX) (below_regrown X _ _))))))))); exact wpQuiet_nil rfl)); simp only [wpND, told, toldAll, List.contains_cons, List.contains_nil, List.mem_cons, List.not_mem_nil, forall_eq_or_imp, false_implies, implies_true, and_true, Nat.reduceBEq, BEq.rfl, beq_self_eq_true, Bool.or_false, Bool.false_or, Bool.true_or, Bool.or_true, Bool.false_eq_true, if_true, if_false, true_implies, dstAt, List.getElem?_toArray, List.getElem?_cons_succ, List.getElem?_cons_zero, Option.some.injEq, forall_eq', Option.bind_some, Act.put, List.setIfInBounds_toArray, List.set_cons_succ, List.set_cons_zero])
 refine ⟨ErrsI.stable, fun X hX => ?_, fun v1 => ⟨IntV.stable, fun X hX hf => ?_, fun v2 X hX hf => ?_⟩⟩
 · exact leaves_alloc' (v := .slice (some ⟨X.heap.size, 0, none⟩) 2 2) (obj := .cells #[.int .i64 e1, .int .i64 e2] 30) (by kernel_rfl) ⟨X.heap.size, rfl, by have := hX.size; simp at this; omega, heap_alloc_new _ _⟩
 · refine leaves_call' (f := 51) (args := #[v1]) (by kernel_rfl) ?_
   rw [H0.out]
   exact access_first_errs [e1, e2] (by simp) hf
 · obtain ⟨h2v, _⟩ := hf
   obtain rfl : v2 = .int .i64 r := h2v
   have hbX : Below w.heap.size w X := bel_trans (bel_alloc (bel_alloc (Below.refl _ _) _) _) hX
   by_cases h0 : r = 0
   · subst h0
     have HM := Lib.hid (HO.out rfl X hbX)
     have HBX := Lib.hid hbX
     have bd := BD.out X hX
     have bt := BT.out X hX
     have y0 : X.cell? ⟨w.heap.size, 0, none⟩ = some (.int .i64 d.o) := Box.cells bd 0; have y1 : X.cell? ⟨w.heap.size, 1, none⟩ = some (.int .i64 d.g) := Box.cells bd 1; have y2 : X.cell? ⟨w.heap.size, 2, none⟩ = some (.bool d.pr) := Box.cells bd 2; have y3 : X.cell? ⟨w.heap.size, 3, none⟩ = some (.bool d.he) := Box.cells bd 3; have y4 : X.cell? ⟨w.heap.size, 4, none⟩ = some (.slice A1 d.es.length c1) := Box.cells bd 4; have y5 : X.cell? ⟨w.heap.size, 5, none⟩ = some (.slice A2 d.us.length c2) := Box.cells bd 5
     have z0 : X.cell? ⟨w.heap.size + 1, 0, none⟩ = some (.int .i64 t.u) := Box.cells bt 0; have z1 : X.cell? ⟨w.heap.size + 1, 1, none⟩ = some (.slice A t.gs.length c) := Box.cells bt 1; have z2 : X.cell? ⟨w.heap.size + 1, 2, none⟩ = some (.int .i64 t.p) := Box.cells bt 2
     clear HO hbX hX bd bt
     go_wp2_with (go_at_call 54; refine (HM.out).mono ?_; rintro e W1 ⟨rfl, hbW1⟩; obtain ⟨hcW1, hfW1⟩ := bcell hbW1)
     go_ret2
     exact ⟨rfl, bel_trans HBX.out hbW1⟩
   · have h0' : (r != 0) = true := by simpa using h0
     have H1 := Lib.hid h0
     clear h0
     go_wp2
     go_ret2
     exact ⟨retII (by first | rfl | rw [if_neg H1.out]) rfl, hbX⟩
end Go.Proofs.YtanicpgmbhfipaaGreatDoor
namespace Go.Proofs.YtanicpgmbhfipaaGreatDoor
set_option linter.unusedVariables false
set_option linter.unusedSimpArgs false
open Go.RowKit Go.Sort
theorem retBII {k l : IntKind} {x y : Bool} {a b c d : Int} (h0 : x = y) (h : a = b) (h' : c = d) : Ending.returned (.tuple #[.bool x, .int k a, .int l c]) = .returned (.tuple #[.bool y, .int k b, .int l d]) := by rw [h0, h, h']
def triE (d : DscP) (t : TokP) (m : Int) : Int := firstE [dscE d, tokE t, mskE m]
theorem triE_zero {d : DscP} {t : TokP} {m : Int} (h : triE d t m = 0) : botE d t = 0 ∧ mskE m = 0 := by
 have hz := firstE_zero h
 have h1 := hz (dscE d) (by simp)
 have h2 := hz (tokE t) (by simp)
 exact ⟨by simp [botE, firstE, h1, h2], hz (mskE m) (by simp)⟩
set_option maxRecDepth 100000 in
set_option maxHeartbeats 2000000 in
theorem AccessTo_any (d : DscP) (t : TokP) (m : Int) (A1 A2 A : Option Addr) (c1 c2 c : Nat) (w : World) (h : DT d t A1 A2 A w) :
 Calls Tryz.prog 14 #[dscV d A1 A2 c1 c2, tokV t A c, .int .i64 m] w fun e w' => e = .returned (.tuple #[.bool (if triE d t m = 0 then bits .andNot .i64 m (rgtP d t) == 0 else false), .int .i64 (if triE d t m = 0 then bits .andNot .i64 m (rgtP d t) else 0), .int .i64 (triE d t m)]) ∧ Below w.heap.size w w' := by
 have HO := Lib.hid (fun (hb : triE d t m = 0) W (hW : Below w.heap.size w W) => most_any d t A1 A2 A c1 c2 c W (h.below hW) (dtO_of (triE_zero hb).1))
 have HD := Lib.hid (fun W (hW : Below w.heap.size w W) => (h.below hW).dsc c1 c2)
 have HT := Lib.hid (fun W (hW : Below w.heap.size w W) => (h.below hW).tok c)
 have HM := Lib.hid (fun W => maskErr_any m W)
 obtain ⟨r, hr⟩ : ∃ r, r = triE d t m := ⟨_, rfl⟩
 rw [← hr] at HO ⊢
 obtain ⟨e1, he1⟩ : ∃ e, e = dscE d := ⟨_, rfl⟩
 obtain ⟨e2, he2⟩ : ∃ e, e = tokE t := ⟨_, rfl⟩
 obtain ⟨e3, he3⟩ : ∃ e, e = mskE m := ⟨_, rfl⟩
 obtain ⟨R, hR⟩ : ∃ e, e = rgtP d t := ⟨_, rfl⟩
 have H0 := Lib.hid (show r = firstE [e1, e2, e3] by rw [hr, he1, he2, he3]; rfl)
 rw [← he1] at HD
 rw [← he2] at HT
 rw [← he3] at HM
 rw [← hR] at HO ⊢
 unfold dscV tokV at *
 have bD := (Box.new w (dscC d A1 A2 c1 c2) 24).old (.cells (tokC t A c) 27)
 have bT := Box.new (w.alloc (.cells (dscC d A1 A2 c1 c2) 24)) (tokC t A c) 27
 rw [World.size_alloc] at bT
 have BD := Lib.hid (fun W hW => bD.below (w' := W) hW)
 have BT := Lib.hid (fun W hW => bT.below (w' := W) hW)
 unfold dscC tokC at BD BT
 clear hr he1 he2 he3 h hR bD bT
 go_enter Tryz.func14, Tryz.ntmps14
 go_wp2
 (refine wp_region_flow [false, false, false, false, false, false, true, true] [⟨6, [], ErrsI w.heap.size [e1, e2, e3], false⟩, ⟨7, [6], IntV r, false⟩] (by kernel_rfl) (by kernel_rfl) (by kernel_rfl) (by kernel_rfl) ?_; simp only [pick, List.length_cons, List.length_nil, List.drop_succ_cons, List.drop_zero, Nat.zero_add, Nat.reduceAdd]; apply Exists.intro; refine ⟨fun X hX => ?_, ?_⟩; (focus (obtain ⟨hcX, hfX⟩ := bcell hX; have hgX := regcell hX; have hsX := hX.size; (try simp only [World.size_alloc] at hsX); (repeat (go_big_quiet_step ((first | (go_at_call 52; (with_reducible exact Calls.regrown_of (HD.out _ (bel_trans (bel_trans (bel_alloc (bel_alloc (Below.refl _ _) _) _) hX) (below_regrown X _ _))))) | (go_at_call 53; (with_reducible exact Calls.regrown_of (HT.out _ (bel_trans (bel_trans (bel_alloc (bel_alloc (Below.refl _ _) _) _) hX) (below_regrown X _ _))))) | (go_at_call 55; (with_reducible exact Calls.reg_pure (HM.out _))))))); exact wpQuiet_nil rfl)); simp only [wpND, told, toldAll, List.contains_cons, List.contains_nil, List.mem_cons, List.not_mem_nil, forall_eq_or_imp, false_implies, implies_true, and_true, Nat.reduceBEq, BEq.rfl, beq_self_eq_true, Bool.or_false, Bool.false_or, Bool.true_or, Bool.or_true, Bool.false_eq_true, if_true, if_false, true_implies, dstAt, List.getElem?_toArray, List.getElem?_cons_succ, List.getElem?_cons_zero, Option.some.injEq, forall_eq', Option.bind_some, Act.put, List.setIfInBounds_toArray, List.set_cons_succ, List.set_cons_zero])
 refine ⟨ErrsI.stable, fun X hX => ?_, fun v1 => ⟨IntV.stable, fun X hX hf => ?_, fun v2 X hX hf => ?_⟩⟩
 · exact leaves_alloc' (v := .slice (some ⟨X.heap.size, 0, none⟩) 3 3) (obj := .cells #[.int .i64 e1, .int .i64 e2, .int .i64 e3] 30) (by kernel_rfl) ⟨X.heap.size, rfl, by have := hX.size; simp at this; omega, heap_alloc_new _ _⟩
 · refine leaves_call' (f := 51) (args := #[v1]) (by kernel_rfl) ?_
   rw [H0.out]
   exact access_first_errs [e1, e2, e3] (by simp) hf
 · obtain ⟨h2v, _⟩ := hf
   obtain rfl : v2 = .int .i64 r := h2v
   have hbX : Below w.heap.size w X := bel_trans (bel_alloc (bel_alloc (Below.refl _ _) _) _) hX
   by_cases h0 : r = 0
   · subst h0
     have HMo := Lib.hid (HO.out rfl X hbX)
     have HBX := Lib.hid hbX
     have bd := BD.out X hX
     have bt := BT.out X hX
     have y0 : X.cell? ⟨w.heap.size, 0, none⟩ = some (.int .i64 d.o) := Box.cells bd 0; have y1 : X.cell? ⟨w.heap.size, 1, none⟩ = some (.int .i64 d.g) := Box.cells bd 1; have y2 : X.cell? ⟨w.heap.size, 2, none⟩ = some (.bool d.pr) := Box.cells bd 2; have y3 : X.cell? ⟨w.heap.size, 3, none⟩ = some (.bool d.he) := Box.cells bd 3; have y4 : X.cell? ⟨w.heap.size, 4, none⟩ = some (.slice A1 d.es.length c1) := Box.cells bd 4; have y5 : X.cell? ⟨w.heap.size, 5, none⟩ = some (.slice A2 d.us.length c2) := Box.cells bd 5
     have z0 : X.cell? ⟨w.heap.size + 1, 0, none⟩ = some (.int .i64 t.u) := Box.cells bt 0; have z1 : X.cell? ⟨w.heap.size + 1, 1, none⟩ = some (.slice A t.gs.length c) := Box.cells bt 1; have z2 : X.cell? ⟨w.heap.size + 1, 2, none⟩ = some (.int .i64 t.p) := Box.cells bt 2
     clear HO hbX hX bd bt
     go_wp2_with (go_at_call 54; refine (HMo.out).mono ?_; rintro e W1 ⟨rfl, hbW1⟩; obtain ⟨hcW1, hfW1⟩ := bcell hbW1)
     go_ret3
     exact ⟨rfl, bel_trans HBX.out hbW1⟩
   · have h0' : (r != 0) = true := by simpa using h0
     have H1 := Lib.hid h0
     clear h0
     go_wp2
     go_ret3
     exact ⟨retBII (by first | rfl | rw [if_neg H1.out]) (by first | rfl | rw [if_neg H1.out]) rfl, hbX⟩
end Go.Proofs.YtanicpgmbhfipaaGreatDoor
namespace Go.Proofs.YtanicpgmbhfipaaGreatDoor
set_option linter.unusedVariables false
set_option linter.unusedSimpArgs false
open Go.RowKit Go.Sort Go.Shelf
attribute [local go_sem] Oper.semAt_some wide_fn wide_depth
theorem Grw.setCell (X : World) (g j : Nat) (v : Value) : Grw (fun b _ => b = g) X (X.setCell ⟨g, j, none⟩ v) := by
 refine ⟨rfl, rfl, rfl, by simp [World.setCell], fun b _ hne => heap_setCell_other X ⟨g, j, none⟩ b v hne, fun b cs T fr hb => ?_⟩
 by_cases e : b = g
 · subst e
   refine ⟨cs.setIfInBounds j v, by simp, ?_⟩
   simp only [World.setCell, Array.getElem?_modify, if_true, hb, Option.map_some]
   rfl
 · exact ⟨cs, rfl, (heap_setCell_other X ⟨g, j, none⟩ b v e).trans hb⟩
structure IRow (bO : Nat) (W0 : World) (l : List Int) (W : World) : Prop where
 gr : Grw (fun b _ => b = bO) W0 W
 row : ∃ A c, Boxed W bO 25 (.slice A l.length c) ∧ W.ownsRow W0.heap.size 3 1 (.slice A l.length c) l.length (l.map (.int .i64))
theorem IRow.own {bO : Nat} {W0 : World} {l : List Int} {X Y : World} {row : Option Nat} (h : IRow bO W0 l X) (hb : bO < W0.heap.size) (hg : X.grownBy Y row) (hr : ∀ r, row = some r → W0.heap.size ≤ r ∧ ∃ o : Obj, X.heap[r]? = some o ∧ o.isCells = false) : IRow bO W0 l Y := by
 obtain ⟨h1, A, c, h2, h3⟩ := h
 refine ⟨h1.grown hg (fun g e => (hr g e).1), A, c, h2.kept hg (fun e => by have := (hr _ e.symm).1; omega), h3.kept hg ?_⟩
 rcases h3.2 with ⟨h0, _⟩ | ⟨g, cap, cur, h0, _, hgb, _⟩
 · rw [h0]; exact .inl rfl
 · rw [h0]
   refine .inr fun e => ?_
   obtain ⟨_, o, ho, hc⟩ := hr g e.symm
   rw [hgb] at ho
   injection ho with ho
   subst ho
   cases hc
def RowRet (w : World) (L : List Int) (r : Int) (e : Ending) (w' : World) : Prop := ∃ A c, e = .returned (.tuple #[.slice A L.length c, .int .i64 r]) ∧ w'.ownsRow w.heap.size 3 1 (.slice A L.length c) L.length (L.map (.int .i64)) ∧ Below w.heap.size w w'
theorem DecidedBy_info : (Tryz.prog.info? 3).map (fun i => (i.zero, i.size, i.bytes)) = some (some (.int .i64 0), 1, 8) := by kernel_rfl
set_option maxRecDepth 100000 in
set_option maxHeartbeats 4000000 in
theorem DecidedBy_any (d : DscP) (t : TokP) (A1 A2 A : Option Addr) (c1 c2 c : Nat) (w : World) (h : DT d t A1 A2 A w) :
 Calls Tryz.prog 15 #[dscV d A1 A2 c1 c2, tokV t A c] w fun e w' => RowRet w (if botE d t = 0 then decP d t else []) (botE d t) e w' := by
 obtain ⟨i0, hi, hz0, hz1, hz2⟩ := info_parts DecidedBy_info
 have HALL := Lib.hid (fun W => all_any d t A1 A2 A c1 c2 c W)
 have HSEQ := Lib.hid (fun (hb : botE d t = 0) n bD bT => all_seq n d t A1 A2 A c1 c2 c bD bT (dtO_of hb))
 have HD := Lib.hid (fun W (hW : Below w.heap.size w W) => (h.below hW).dsc c1 c2)
 have HT := Lib.hid (fun W (hW : Below w.heap.size w W) => (h.below hW).tok c)
 have HH := Lib.hid h
 obtain ⟨r, hr⟩ : ∃ r, r = botE d t := ⟨_, rfl⟩
 rw [← hr] at HSEQ ⊢
 obtain ⟨e1, he1⟩ : ∃ e, e = dscE d := ⟨_, rfl⟩
 obtain ⟨e2, he2⟩ : ∃ e, e = tokE t := ⟨_, rfl⟩
 have H0 := Lib.hid (show r = firstE [e1, e2] by rw [hr, he1, he2]; rfl)
 rw [← he1] at HD
 rw [← he2] at HT
 unfold dscV tokV at *
 have bD := (Box.new w (dscC d A1 A2 c1 c2) 24).old (.cells (tokC t A c) 27)
 have bT := Box.new (w.alloc (.cells (dscC d A1 A2 c1 c2) 24)) (tokC t A c) 27
 rw [World.size_alloc] at bT
 have BD := Lib.hid (fun W hW => bD.below (w' := W) hW)
 have BT := Lib.hid (fun W hW => bT.below (w' := W) hW)
 unfold dscC tokC at BD BT
 clear hr he1 he2 h bD bT
 refine (callsIn_wide (n := 6)).1 ?_
 refine callsIn_of_wp_marks Tryz.func15 rfl trivial ?_ rfl
 simp only [Tryz.ntmps15, List.size_toArray, List.length_cons, List.length_nil, Nat.reduceAdd, Nat.reduceSub, Array.replicate_succ, Array.replicate_zero, List.push_toArray, List.append_toArray, List.nil_append, List.cons_append]
 gi_wp2
 (refine wpIn_region_flowV [false, false, false, false, true, true] [⟨4, [], ErrsI w.heap.size [e1, e2], false⟩, ⟨5, [4], IntV r, false⟩] (by kernel_rfl) (by kernel_rfl) (by kernel_rfl) ?_; simp only [pick, List.length_cons, List.length_nil, List.drop_succ_cons, List.drop_zero, Nat.zero_add, Nat.reduceAdd]; apply Exists.intro; refine ⟨fun X hX => ?_, ?_⟩; (focus (obtain ⟨hcX, hfX⟩ := bcell hX; have hgX := regcell hX; have hsX := hX.size; (try simp only [World.size_alloc] at hsX); (repeat (go_big_quiet_step ((first | (go_at_call 52; (with_reducible exact Calls.regrown_of (HD.out _ (bel_trans (bel_trans (bel_alloc (bel_alloc (Below.refl _ _) _) _) hX) (below_regrown X _ _))))) | (go_at_call 53; (with_reducible exact Calls.regrown_of (HT.out _ (bel_trans (bel_trans (bel_alloc (bel_alloc (Below.refl _ _) _) _) hX) (below_regrown X _ _))))))))); exact wpQuiet_nil rfl)); simp only [wpND, told, toldAll, List.contains_cons, List.contains_nil, List.mem_cons, List.not_mem_nil, forall_eq_or_imp, false_implies, implies_true, and_true, Nat.reduceBEq, BEq.rfl, beq_self_eq_true, Bool.or_false, Bool.false_or, Bool.true_or, Bool.or_true, Bool.false_eq_true, if_true, if_false, true_implies, dstAt, List.getElem?_toArray, List.getElem?_cons_succ, List.getElem?_cons_zero, Option.some.injEq, forall_eq', Option.bind_some, Act.put, List.setIfInBounds_toArray, List.set_cons_succ, List.set_cons_zero])
 refine ⟨ErrsI.stable, fun X hX => ?_, fun v1 => ⟨IntV.stable, fun X hX hf => ?_, fun v2 X hX hf => ?_⟩⟩
 · exact leaves_alloc' (v := .slice (some ⟨X.heap.size, 0, none⟩) 2 2) (obj := .cells #[.int .i64 e1, .int .i64 e2] 30) (by kernel_rfl) ⟨X.heap.size, rfl, by have := hX.size; simp at this; omega, heap_alloc_new _ _⟩
 · refine leaves_call' (f := 51) (args := #[v1]) (by kernel_rfl) ?_
   rw [H0.out]
   exact access_first_errs [e1, e2] (by simp) hf
 · obtain ⟨h2v, _⟩ := hf
   obtain rfl : v2 = .int .i64 r := h2v
   have hbX : Below w.heap.size w X := bel_trans (bel_alloc (bel_alloc (Below.refl _ _) _) _) hX
   by_cases h0 : r = 0
   · subst h0
     have HBX := Lib.hid hbX
     have bd := BD.out X hX
     have bt := BT.out X hX
     have y0 : X.cell? ⟨w.heap.size, 0, none⟩ = some (.int .i64 d.o) := Box.cells bd 0; have y1 : X.cell? ⟨w.heap.size, 1, none⟩ = some (.int .i64 d.g) := Box.cells bd 1; have y2 : X.cell? ⟨w.heap.size, 2, none⟩ = some (.bool d.pr) := Box.cells bd 2; have y3 : X.cell? ⟨w.heap.size, 3, none⟩ = some (.bool d.he) := Box.cells bd 3; have y4 : X.cell? ⟨w.heap.size, 4, none⟩ = some (.slice A1 d.es.length c1) := Box.cells bd 4; have y5 : X.cell? ⟨w.heap.size, 5, none⟩ = some (.slice A2 d.us.length c2) := Box.cells bd 5
     have z0 : X.cell? ⟨w.heap.size + 1, 0, none⟩ = some (.int .i64 t.u) := Box.cells bt 0; have z1 : X.cell? ⟨w.heap.size + 1, 1, none⟩ = some (.slice A t.gs.length c) := Box.cells bt 1; have z2 : X.cell? ⟨w.heap.size + 1, 2, none⟩ = some (.int .i64 t.p) := Box.cells bt 2
     have hsX : w.heap.size + 1 < X.heap.size := bt.lt
     have hsX0 : w.heap.size < X.heap.size := bd.lt
     clear hbX hX bd bt
     go_wp2
     gi_wp2_with (gi_at_call 56; refine (callsIn_wide.2 (HALL.out _)).mono ?_; rintro e w' ⟨rfl, rfl⟩)
     have hx0 : Boxed (((X.alloc (.cells #[.slice none 0 0] 25)).alloc (.cells (dscC d A1 A2 c1 c2) 92)).alloc (.cells (tokC t A c) 95)) X.heap.size 25 (.slice none 0 0) := ((Boxed.new X _ _).alloc _).alloc _
     have hd0 : Box (((X.alloc (.cells #[.slice none 0 0] 25)).alloc (.cells (dscC d A1 A2 c1 c2) 92)).alloc (.cells (tokC t A c) 95)) (X.heap.size + 1) (dscC d A1 A2 c1 c2) 92 := by
      have := (Box.new (X.alloc (.cells #[.slice none 0 0] 25)) (dscC d A1 A2 c1 c2) 92).old (.cells (tokC t A c) 95)
      simpa only [World.size_alloc] using this
     have ht0 : Box (((X.alloc (.cells #[.slice none 0 0] 25)).alloc (.cells (dscC d A1 A2 c1 c2) 92)).alloc (.cells (tokC t A c) 95)) (X.heap.size + 1 + 1) (tokC t A c) 95 := by
      have := Box.new ((X.alloc (.cells #[.slice none 0 0] 25)).alloc (.cells (dscC d A1 A2 c1 c2) 92)) (tokC t A c) 95
      simpa only [World.size_alloc] using this
     have hbW : Below w.heap.size w (((X.alloc (.cells #[.slice none 0 0] 25)).alloc (.cells (dscC d A1 A2 c1 c2) 92)).alloc (.cells (tokC t A c) 95)) := bel_alloc (bel_alloc (bel_alloc HBX.out _) _) _
     obtain ⟨W0, hW0⟩ : ∃ W0, W0 = (((X.alloc (.cells #[.slice none 0 0] 25)).alloc (.cells (dscC d A1 A2 c1 c2) 92)).alloc (.cells (tokC t A c) 95)) := ⟨_, rfl⟩
     have hsz0 : W0.heap.size = X.heap.size + 1 + 1 + 1 := by rw [hW0]; simp only [World.size_alloc]
     rw [← hW0] at hx0 hd0 ht0 hbW
     have hW0' := hW0
     unfold dscC tokC at hW0'
     unfold dscC tokC
     rw [← hW0']
     clear hW0' hW0 y0 y1 y2 y3 y4 y5 z0 z1 z2
     have hbo : X.heap.size < W0.heap.size := by omega
     refine wpIn_rangeFunc_fix (gf := 89) (lb := #[.pointer (some ⟨X.heap.size + 1, 0, none⟩), .pointer (some ⟨X.heap.size + 1 + 1, 0, none⟩)]) rfl (enters_of Tryz.func89 (by kernel_rfl) rfl) (HSEQ.out (by first | rfl | trivial) _ (X.heap.size + 1) (X.heap.size + 1 + 1)) (fun _ => rfl)
      (fun pre W => IRow X.heap.size W0 (pre.map (·.2)) W) ?hI ?hK ?h0 ?round ?done
     case hI => exact fun pre A B row hI hg hr => hI.own hbo hg hr
     case hK =>
      intro pre W hI
      have hb := hI.gr.belowAt hbW (by omega)
      exact ⟨HH.out.below hb, hd0.grw hI.gr (by omega), ht0.grw hI.gr (by omega)⟩
     case h0 => exact ⟨Grw.refl _ _, none, 0, hx0, World.ownsRow_nil _ _ _ _⟩
     case round =>
      intro l pre x rest W hx
      gi_wp2
      refine ⟨trivial, fun W2 hI => ?_⟩
      have hlen : pre.length ≤ 9 := by have := congrArg List.length hx; rw [rgtX_length, List.length_append] at this; omega
      obtain ⟨L, hL⟩ : ∃ L, L = pre.map (·.2) := ⟨_, rfl⟩
      have hLl : L.length ≤ 9 := by rw [hL, List.length_map]; exact hlen
      have hsn : (pre ++ [x]).map (·.2) = L ++ [x.2] := by rw [List.map_append, ← hL]; rfl
      rw [← hL] at hI
      rw [hsn]
      obtain ⟨y, hy⟩ : ∃ y, y = x.2 := ⟨_, rfl⟩
      rw [← hy]
      obtain ⟨hgr, A', c', hbx, hown⟩ := hI
      have hcv := hbx.cell
      have hfv := hbx.frozen
      have hlv := hbx.lt
      have hsz2 := hgr.size
      have HBXO := Lib.hid hbx
      have HGR := Lib.hid hgr
      clear hsn hy hL hx hlen hd0 ht0 hbW HALL HSEQ HD HT BD BT hbx hgr
      gi_wp2_with (refine wpListIn_push _ rfl (.tmp 26) (.tmp 28) 25 rfl W0.heap.size 3 i0 _ 1 8 [.int .i64 y] Tryz.underlying25 hi hz0 hz1 hz2 rfl (by decide) (.slice A' L.length c') _ _ rfl hown _ rfl rfl rfl (by intro u hu; simp at hu; subst hu; rfl) (by unfold maxLen; omega) (by omega) hsz2 ?_; intro v5 V5 ow5 hs5 hb5 hv5 be5; obtain ⟨A5, c5, rfl, _⟩ := ownsRow_form ow5; have hbx5 : Boxed V5 X.heap.size 25 (.slice A' L.length c') := (HBXO.out.alloc _).kept hb5 (fun e => by have := (hown.lt _ e.symm).1; omega); have cc5 := hbx5.cell; have ff5 := hbx5.frozen; have ll5 := hbx5.lt)
      have hbr : ∀ g, (Value.slice A' L.length c').ownBlock = some g → W0.heap.size ≤ g := fun g e => (hown.lt g e).1
      have hg5 := (HGR.out.trans (Grw.of_below (bel_alloc (Below.refl _ W2) (.cells #[.int .i64 y] 3)))).grown hb5 hbr
      refine ⟨KeepsFrom.trans (KeepsFrom.trans ⟨by simp, fun k o hB hk ho => (Below.heap_alloc _ _ _ (Array.getElem?_eq_some_iff.1 hk).1).trans hk⟩ ⟨hb5.size, fun k o hB hk ho => ?_⟩) ((KeepsOthers.setCell _ _ _).from _), ?_⟩
      · refine (hb5.block k (Array.getElem?_eq_some_iff.1 hk).1 (fun e => ?_)).trans hk
        rcases hown.2 with ⟨h0, _⟩ | ⟨g, cap, cur, h0, _, hgb, _⟩
        · rw [h0] at e; cases e
        · rw [h0] at e
          injection e with e
          subst e
          rw [Below.heap_alloc _ _ _ (Array.getElem?_eq_some_iff.1 hgb).1, hgb] at hk
          injection hk with hk
          subst hk
          cases ho
      · refine ⟨hg5.trans (Grw.setCell V5 X.heap.size 0 _), A5, c5, ?_, ?_⟩
        · rw [List.length_append]; exact hbx5.set _
        · rw [List.length_append, List.map_append]
          exact ow5.kept (grownBy_setCell' V5 X.heap.size _) (.inr (fun e => by have := (ow5.lt _ e).1; omega))
     case done =>
      intro D W hD hI hK
      obtain ⟨hgr, A', c', hbx, hown⟩ := hI
      have hb := hgr.belowAt hbW (by omega)
      have hcv := hbx.cell
      gi_wp2
      refine ⟨by simp, .inl ⟨_, _, rfl, run_takeDeferred hK, ?_⟩⟩
      refine ⟨_, results_tmp2 rfl _ _ _, ?_⟩
      have hdec : (rgtX d t).map (·.2) = decP d t := by unfold rgtX decP; rw [List.map_map]; rfl
      rw [hdec] at hown
      have hlen : (rgtX d t).length = (decP d t).length := by simp [rgtX, decP]
      show RowRet w (decP d t) 0 (.returned (.tuple #[.slice A' (rgtX d t).length c', .int .i64 0])) _
      rw [hlen]
      have hgp := grownBy_putObj' W D (Obj.deferred none)
      refine ⟨A', c', rfl, ?_, hb.trans ((Below.refl w.heap.size W).grown hgp hb.size (fun k e => by cases e; omega))⟩
      refine ownsRow_mono (hown.kept hgp ?_) (by omega)
      rcases hown.2 with ⟨h0, _⟩ | ⟨g, cap, cur, h0, _, hgb, _⟩
      · rw [h0]; exact .inl rfl
      · rw [h0]
        refine .inr fun e => ?_
        injection e with e
        subst e
        rw [hgb] at hK; cases hK
   · have h0' : (r != 0) = true := by simpa using h0
     have H1 := Lib.hid h0
     clear h0
     go_wp2
     gi_wp2
     exact ⟨_, results_tmp2 rfl _ _ _, by first | rw [if_neg H1.out] | skip; exact ⟨none, 0, rfl, World.ownsRow_nil _ _ _ _, hbX⟩⟩
end Go.Proofs.YtanicpgmbhfipaaGreatDoor
