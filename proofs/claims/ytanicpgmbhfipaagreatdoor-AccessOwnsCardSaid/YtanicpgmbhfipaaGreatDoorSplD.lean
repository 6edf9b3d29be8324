/-
  SPL, part 12: maps with numbers as keys, told as functions: what is looked up, written, struck; ranged over in whatever order. No program in sight.
  A walk by steps: ways that meet with a fact, groups behind a head, four results.
  A walk by steps: a range over a function whose iterator keeps no state; its rounds; functions that hold such loops.
  An append to a literal without elements, in a drawn region: nothing old is written.
  A drawn region whose head writes into blocks that stand (one operation) and into boxes that it makes itself (stores). No program in sight.
-/
import Derived.Test.YtanicpgmbhfipaaGreatDoorSplC
import Derived.Maps.RangeRun
import Derived.Test.YtanicpgmbhfipaaGreatDoorKitC
namespace Go.Proofs.YtanicpgmbhfipaaGreatDoor
set_option linter.unusedVariables false
set_option linter.unusedSimpArgs false
open Go.RowKit Go.Sort
variable {ds : List Deferred}
structure MapFn (es : Array MapEntry) (clock : Nat) (g : Int → Option Value) : Prop where
 st : MapKept.Stamped es clock
 key : ∀ e ∈ es.toList, ∃ k, e.key = .int .i64 k ∧ g k = some e.val
 all : ∀ k v, g k = some v → ∃ e ∈ es.toList, e.key = .int .i64 k ∧ e.val = v
def MapF (X : World) (m : Nat) (g : Int → Option Value) : Prop := ∃ es clock, X.heap[m]? = some (.map es clock) ∧ MapFn es clock g
theorem MapF.lt {X : World} {m : Nat} {g : Int → Option Value} (h : MapF X m g) : m < X.heap.size := by
 obtain ⟨es, ck, h1, _⟩ := h
 exact (Array.getElem?_eq_some_iff.1 h1).1
theorem MapF.below {X X' : World} {m : Nat} {g : Int → Option Value} (h : MapF X m g) (hb : Below X.heap.size X X') : MapF X' m g := by
 obtain ⟨es, ck, h1, h2⟩ := h
 exact ⟨es, ck, (hb.block m (Array.getElem?_eq_some_iff.1 h1).1).trans h1, h2⟩
section
variable {P : Program} {ρ : Operand → Value} {X : World} {d : Option Tmp} {ty : TypeId} {ps : String} {af : Array Edge} {g : Option (Nat × Bool)}
end
section
variable {P : Program} {ops : Array Oper} {rest : List Oper} {o : Oper} {a : Act} {Q : Exit → Act → World → Prop} {X X' : World} {N d : Nat} {l : List (Nat × Value)} {M : List Nat} {w : World} {L : List Ent}
structure Handed (es : Array MapEntry) (clock : Nat) (seen : Array Nat) (out : List MapEntry) : Prop where
 sub : ∀ e ∈ out, e ∈ es.toList
 nd : (out.map (·.born)).Nodup
 see : seen.toList = out.map (·.born)
theorem Handed.nil (es : Array MapEntry) (clock : Nat) : Handed es clock #[] [] := ⟨fun _ h => (by cases h), List.Pairwise.nil, rfl⟩
theorem Handed.left {es : Array MapEntry} {clock : Nat} {seen : Array Nat} {out : List MapEntry} (h : Handed es clock seen out) {e : MapEntry} (he : e ∈ (leftOf es seen).toList) : e ∈ es.toList ∧ e.born ∉ out.map (·.born) := by
 unfold leftOf at he
 simp only [Array.toList_filter, List.mem_filter] at he
 refine ⟨he.1, ?_⟩
 rw [← h.see]
 simpa using he.2
theorem Handed.push {es : Array MapEntry} {clock : Nat} {seen : Array Nat} {out : List MapEntry} (h : Handed es clock seen out) {e : MapEntry} (he : e ∈ (leftOf es seen).toList) : Handed es clock (seen.push e.born) (out ++ [e]) := by
 obtain ⟨h1, h2⟩ := h.left he
 refine ⟨fun x hx => ?_, ?_, ?_⟩
 · rcases List.mem_append.1 hx with hx | hx
   · exact h.sub x hx
   · rw [List.mem_singleton.1 hx]; exact h1
 · rw [List.map_append, List.nodup_append]
   refine ⟨h.nd, by simp, ?_⟩
   rintro a ha b hb rfl
   simp at hb
   subst hb
   exact h2 ha
 · rw [Array.toList_push, List.map_append, h.see]; rfl
theorem sub_len {α : Type} : ∀ (l m : List α), l.Nodup → (∀ x ∈ l, x ∈ m) → l.length ≤ m.length := fun l m hn hs => by
 induction l generalizing m with
 | nil => exact Nat.zero_le _
 | cons x l ih =>
  obtain ⟨a, b, rfl⟩ := List.append_of_mem (hs x (List.mem_cons_self ..))
  have hx := List.nodup_cons.1 hn
  have := ih (a ++ b) hx.2 fun y hy => by
   have h1 := hs y (List.mem_cons_of_mem _ hy)
   simp only [List.mem_append, List.mem_cons] at h1 ⊢
   rcases h1 with h1 | rfl | h1
   · exact .inl h1
   · exact absurd hy hx.1
   · exact .inr h1
  simp only [List.length_append, List.length_cons] at this ⊢
  omega
theorem Handed.len {es : Array MapEntry} {clock : Nat} {seen : Array Nat} {out : List MapEntry} (h : Handed es clock seen out) : out.length ≤ es.size := by
 have hnd : out.Nodup := by
  have := h.nd
  rw [List.nodup_iff_pairwise_ne, List.pairwise_map] at this
  rw [List.nodup_iff_pairwise_ne]
  exact this.imp fun hq e => hq (by rw [e])
 have := sub_len out es.toList hnd h.sub
 simpa using this
theorem Handed.done {es : Array MapEntry} {clock : Nat} {seen : Array Nat} {out : List MapEntry} (h : Handed es clock seen out) (hst : MapKept.Stamped es clock) (h0 : (leftOf es seen).size = 0) : ∀ e ∈ es.toList, e ∈ out := by
 intro e he
 have h1 : e ∉ (leftOf es seen).toList := by
  rw [show (leftOf es seen).toList = [] from List.eq_nil_of_length_eq_zero (by simpa using h0)]
  exact List.not_mem_nil
 unfold leftOf at h1
 simp only [Array.toList_filter, List.mem_filter, not_and] at h1
 have h2 := h1 he
 have h3 : e.born ∈ seen.toList := by simpa using h2
 rw [h.see] at h3
 obtain ⟨x, hx, hxe⟩ := List.mem_map.1 h3
 have hxs := h.sub x hx
 have hn := hst.2.1
 rw [List.nodup_iff_pairwise_ne, List.pairwise_map, List.pairwise_iff_getElem] at hn
 obtain ⟨i, hi, rfl⟩ := List.getElem_of_mem he
 obtain ⟨j, hj, rfl⟩ := List.getElem_of_mem hxs
 rcases Nat.lt_trichotomy i j with hij | hij | hij
 · exact absurd hxe.symm (hn i j hi hj hij)
 · subst hij; exact hx
 · exact absurd hxe (hn j i hj hi hij)
end
end Go.Proofs.YtanicpgmbhfipaaGreatDoor
namespace Go.Proofs.YtanicpgmbhfipaaGreatDoor
set_option linter.unusedVariables false
set_option linter.unusedSimpArgs false
open Go.RowKit Go.Sort
variable {ds : List Deferred}
structure KeptL (M : List Nat) (w X : World) : Prop where
 size : w.heap.size ≤ X.heap.size
 block : ∀ b, b < w.heap.size → b ∉ M → X.heap[b]? = w.heap[b]?
def NoCells (w : World) (M : List Nat) : Prop := ∀ b ∈ M, ∃ o : Obj, w.heap[b]? = some o ∧ ∀ cs T fr, o ≠ .cells cs T fr
theorem KeptL.box {M : List Nat} {w X : World} (h : KeptL M w X) (hm : NoCells w M) {b : Nat} {cs : Array Value} {T : TypeId} (hb : Box w b cs T) : Box X b cs T := by
 refine (h.block b hb.lt (fun e => ?_)).trans hb
 obtain ⟨o, h1, h2⟩ := hm b e
 have hb' : w.heap[b]? = some (.cells cs T (0, 0)) := hb
 rw [h1] at hb'
 exact h2 cs T (0, 0) (by injection hb')
theorem KeptL.cell {M : List Nat} {w X : World} (h : KeptL M w X) (hm : NoCells w M) {a : Addr} {v : Value} (hc : w.cell? a = some v) : X.cell? a = some v := by
 have hlt := block_lt_of_cell hc
 refine (World.cell?_of_block (h.block _ hlt (fun e => ?_))).trans hc
 obtain ⟨o, h1, h2⟩ := hm _ e
 unfold World.cell? at hc
 rw [h1] at hc
 cases o <;> first | cases hc | exact h2 _ _ _ rfl
theorem KeptL.rd {M : List Nat} {w X : World} (h : KeptL M w X) (hm : NoCells w M) {A : Option Addr} {xs : List Value} (hr : Rd w w.heap.size A xs) : Rd X X.heap.size A xs := fun j u hj => by
 obtain ⟨b, o, h1, h2, h3⟩ := hr j u hj
 exact ⟨b, o, h1, Nat.lt_of_lt_of_le h2 h.size, h.cell hm h3⟩
theorem ex_aindex {P : Program} {ρ : Operand → Value} {X : World} {d : Option Tmp} {ty : TypeId} {ps : String} {af : Array Edge} {g : Option (Nat × Bool)} {x y : Operand} {t e : TypeId} {n b o i sz j : Nat} {m : Int} (ht : P.underlying t = some (.array n e)) (hs : (P.info? e).map (·.size) = some sz) (hx : ρ x = .pointer (some ⟨b, o, none⟩)) (hy : ρ y = .int .i64 m) (hm : m = (i : Int)) (hi : i < n) (hj : o + i * sz = j) :
 (execOp ρ ⟨d, .indexAddr t x y, ty, ps, af, g⟩).run P X = .ok (.value (.pointer (some ⟨b, j, none⟩))) X := by
 subst hm hj
 cases hq : P.info? e with
 | none => rw [hq] at hs; cases hs
 | some q =>
  rw [hq] at hs
  have hz : q.size = sz := by simpa using hs
  have h1 : (0 : Int) ≤ i ∧ (i : Int) < n := by omega
  simp [execOp, hx, hy, Instr.indexAt, Instr.sureAddr, asIntOf, run_underlying ht, hi, sizeOf, typeInfo, hq, hz, add_none]
end Go.Proofs.YtanicpgmbhfipaaGreatDoor
namespace Go.Proofs.YtanicpgmbhfipaaGreatDoor
set_option linter.unusedVariables false
set_option linter.unusedSimpArgs false
open Go.RowKit Go.Sort Go.Shelf
variable {ds : List Deferred}
def CellsAt (X : World) (b : Nat) : Prop := ∃ o : Obj, X.heap[b]? = some o ∧ o.isCells = true
def Ent.tame (B : Nat) : Ent → Prop
 | .box .. | .byt .. | .row .. => True
 | e => ∀ b, e.dom b → b < B
theorem Ent.tame_cells {B : Nat} {X : World} {e : Ent} (h : e.tame B) (hok : e.ok X) {b : Nat} (hb : e.dom b) : b < B ∨ CellsAt X b := by
 cases e with
 | box c cs T => obtain rfl : b = c := hb; exact .inr ⟨_, hok, rfl⟩
 | byt c l => obtain rfl : b = c := hb; obtain ⟨cs, T, fr, h1, _⟩ := hok; exact .inr ⟨_, h1, rfl⟩
 | row v n T sz xs =>
  obtain ⟨h1, h2⟩ := hok
  have hb' : v.ownBlock = some b := hb
  rcases h2 with ⟨rfl, _⟩ | ⟨g, cap, cur, rfl, _, h3, _⟩
  · cases hb'
  · obtain rfl : g = b := by injection hb'
    exact .inr ⟨_, h3, rfl⟩
 | rd lo hi A xs => exact .inl (h b hb)
 | inv D φ st => exact .inl (h b hb)
def tameL (L : List Ent) : List Ent → Prop
 | [] => True
 | e :: l => (match e with | .box .. | .byt .. | .row .. => True | e => e ∈ L) ∧ tameL L l
theorem tameL_mem {L : List Ent} {B : Nat} (hB : ∀ e ∈ L, ∀ b, e.dom b → b < B) : ∀ {l : List Ent}, tameL L l → ∀ e ∈ l, e.tame B
 | [], _, e, h => by cases h
 | f :: l, ⟨h1, h2⟩, e, h => by
  rcases List.mem_cons.1 h with rfl | h
  · cases e with
    | box c cs T => trivial
    | byt c l => trivial
    | row v n T sz xs => trivial
    | rd lo hi A xs => exact fun b hb => hB _ h1 b hb
    | inv D φ st => exact fun b hb => hB _ h1 b hb
  · exact tameL_mem hB h2 e h
section
variable {M : List Nat} {w X X' : World} {L : List Ent}
theorem St.records {B : Nat} (h : St M w X L) (ht : ∀ e ∈ L, e.tame B) (hB : w.heap.size ≤ B) {row : Option Nat} (hg : X.grownBy X' row) (hr : ∀ r, row = some r → B ≤ r ∧ ∃ o : Obj, X.heap[r]? = some o ∧ o.isCells = false) : St M w X' L := by
 have hne : ∀ e ∈ L, ∀ b, e.dom b → some b ≠ row := fun e he b hb hrow => by
  obtain ⟨h1, o, h2, h3⟩ := hr b hrow.symm
  rcases Ent.tame_cells (ht e he) (h.ok e he) hb with h4 | ⟨o', h4, h5⟩
  · omega
  · rw [h2] at h4; injection h4 with h4; rw [h4, h5] at h3; cases h3
 refine ⟨hg.os.trans h.os, hg.tape.trans h.tape, hg.output.trans h.output, Nat.le_trans h.size hg.size, fun b hb hM => ?_, fun e he => Ent.ok_of (h.ok e he) (fun b hb => hg.block b (h.new e he b hb).2 (hne e he b hb)),
  fun e he b hb => ⟨(h.new e he b hb).1, Nat.lt_of_lt_of_le (h.new e he b hb).2 hg.size⟩, h.sep⟩
 refine (hg.block b (Nat.lt_of_lt_of_le hb h.size) (fun hrow => ?_)).trans (h.block b hb hM)
 have := (hr b hrow.symm).1
 omega
open Classical in
noncomputable def domsL (X : World) (L : List Ent) : List Nat := (List.range X.heap.size).filter fun b => decide (∃ e ∈ L, e.dom b)
theorem mem_domsL {b : Nat} : b ∈ domsL X L ↔ b < X.heap.size ∧ ∃ e ∈ L, e.dom b := by
 unfold domsL; rw [List.mem_filter, List.mem_range]; simp
theorem St.inner (h : St M w X L) : St (domsL X L) X X L :=
 ⟨rfl, rfl, rfl, Nat.le_refl _, fun _ _ _ => rfl, h.ok, fun e he b hb => ⟨.inr (mem_domsL.2 ⟨(h.new e he b hb).2, e, he, hb⟩), (h.new e he b hb).2⟩, h.sep⟩
theorem St.outer {L' : List Ent} (h : St M w X L) (h' : St (domsL X L) X X' L') : St M w X' L' := by
 refine ⟨h'.os.trans h.os, h'.tape.trans h.tape, h'.output.trans h.output, Nat.le_trans h.size h'.size, fun b hb hM => ?_, h'.ok, fun e he b hb => ⟨?_, (h'.new e he b hb).2⟩, h'.sep⟩
 · refine (h'.block b (Nat.lt_of_lt_of_le hb h.size) (fun hm => ?_)).trans (h.block b hb hM)
   obtain ⟨_, e, he, hd⟩ := mem_domsL.1 hm
   rcases (h.new e he b hd).1 with h1 | h1
   · omega
   · exact hM h1
 · rcases (h'.new e he b hb).1 with h1 | h1
   · exact .inl (Nat.le_trans h.size h1)
   · obtain ⟨_, f, hf, hd⟩ := mem_domsL.1 h1
     exact (h.new f hf b hd).1
theorem St.keepsFrom {B : Nat} {L' : List Ent} (h : St M w X L) (ht : ∀ e ∈ L, e.tame B) (h' : St (domsL X L) X X' L') : KeepsFrom B X X' :=
 ⟨h'.size, fun k o hk ho hc => by
  have hlt : k < X.heap.size := (Array.getElem?_eq_some_iff.1 ho).1
  refine (h'.block k hlt (fun hm => ?_)).trans ho
  obtain ⟨_, e, he, hd⟩ := mem_domsL.1 hm
  rcases Ent.tame_cells (ht e he) (h.ok e he) hd with h4 | ⟨o', h4, h5⟩
  · omega
  · rw [ho] at h4; injection h4 with h4; rw [h4, h5] at hc; cases hc⟩
def markE (D : Nat) : Ent := .inv (fun b => b = D) (fun X => X.heap[D]? = some (.deferred (some []))) (fun X X' h hb => (hb D rfl).trans h)
def nulE : Ent := .inv (fun _ => False) (fun _ => True) (fun _ _ h _ => h)
def mk (D : Nat) : Deferred := { target := .collected D, args := #[] }
theorem St.mark {B D : Nat} (h : St M w X L) (ht : ∀ e ∈ L, e.tame B) (hw : w.heap.size ≤ B) (hD : B ≤ D) (hm : X.heap[D]? = some (.deferred (some []))) : St M w X (markE D :: L) := by
 have hlt : D < X.heap.size := (Array.getElem?_eq_some_iff.1 hm).1
 refine ⟨h.os, h.tape, h.output, h.size, h.block, fun e he => ?_, fun e he b hb => ?_, List.pairwise_cons.2 ⟨fun f hf b hb hfb => ?_, h.sep⟩⟩
 · rcases List.mem_cons.1 he with rfl | he
   · exact hm
   · exact h.ok e he
 · rcases List.mem_cons.1 he with rfl | he
   · obtain rfl : b = D := hb; exact ⟨.inl (by omega), hlt⟩
   · exact h.new e he b hb
 · obtain rfl : b = D := hb
   rcases Ent.tame_cells (ht f hf) (h.ok f hf) hfb with h4 | ⟨o', h4, h5⟩
   · omega
   · rw [hm] at h4; injection h4 with h4; rw [← h4] at h5; cases h5
theorem St.taken {i D : Nat} (h : St M w X L) (hi : L[i]? = some (markE D)) : St M w (X.putObj D (.deferred none)) (L.set i nulE) :=
 h.turn hi rfl rfl rfl (by rw [World.putObj_size]; exact Nat.le_refl _) (fun b hb hne => World.putObj_heap_other hne) trivial (fun b hb => hb.elim)
end
theorem St.append {M : List Nat} {w X X' : World} {L L' : List Ent} (h : St M w X L) (h' : St [] X X' L') : St M w X' (L' ++ L) := by
 have hg := h.grow h'.below
 refine ⟨hg.os, hg.tape, hg.output, hg.size, hg.block, fun e he => ?_, fun e he b hb => ?_, List.pairwise_append.2 ⟨h'.sep, h.sep, fun e he f hf b hb hfb => ?_⟩⟩
 · rcases List.mem_append.1 he with he | he
   · exact h'.ok e he
   · exact hg.ok e he
 · rcases List.mem_append.1 he with he | he
   · rcases (h'.new e he b hb).1 with h1 | h1
     · exact ⟨.inl (Nat.le_trans h.size h1), (h'.new e he b hb).2⟩
     · cases h1
   · exact hg.new e he b hb
 · have h1 := (h.new f hf b hfb).2
   rcases (h'.new e he b hb).1 with h2 | h2
   · omega
   · cases h2
theorem sl_more {κ : Type} {P : Program} {ops : Array Oper} {Q : Exit → Act → World → Prop} {rest : List Oper} {o : Oper} {a : Act} {X w : World} {N d : Nat} {l : List (Nat × Value)} {M : List Nat} {L : List Ent} {f : FuncId} {args : Array Value} {V : κ → Value} {E1 : κ → List Ent}
 (ha : Has ds a N l) (hw : Region.wanted o (yielded ops a.tmps) = true) (hx : (execOp a.eval o).run P X = .ok (.enter f args) X) (hd : o.dst = some d) (hN : Nat.blt d N = true) (hS : St M w X L)
 (hc : Calls P f args X fun e X' => ∃ i, e = .returned (V i) ∧ St [] X X' (E1 i)) (k : ∀ i a' X', Has ds a' N ((d, V i) :: l) → St M w X' (E1 i ++ L) → wpList P ops Q rest a' X') : wpList P ops Q (o :: rest) a X :=
 sl_call ha hw hx hd hN hc fun e X' ⟨i, he, hX⟩ => ⟨V i, he, fun a' h' => k i a' X' h' (hS.append hX)⟩
section
variable {P : Program} {Q : Exit → Act → World → Prop} {a : Act} {X : World} {N n : Nat} {l : List (Nat × Value)} {fn : Func} {R : Ending → World → Prop}
theorem st_enterM {f : FuncId} {fn : Func} {c : Code} {vs : List Value} {R : Ending → World → Prop} (hf : P.funcs[f]? = some fn) (hb : fn.body = some c) (hn : fn.ntmps = N) (hN : Nat.ble vs.length N = true)
 (h : ∀ a, Has [] a N (argl 0 vs) → c.wp P (bodyPostM Fence.wide 6 P fn R) a X) : Calls P f vs.toArray X R := by
 refine (callsIn_wide (n := 6)).1 (callsIn_of_wp_marks hf hb trivial (wpIn_wide.2 ?_) rfl)
 rw [hn]
 exact h _ (has_args hN)
theorem fm_ret (ha : Has ds a N l) (h : LeavesInM Fence.wide n P fn a.tmps R ds .returning X) : bodyPostM Fence.wide n P fn R .ret a X := by
 show LeavesInM Fence.wide n P fn a.tmps R a.defers .returning X
 rw [ha.defers]; exact h
theorem fm_mark {M : List Nat} {w : World} {L : List Ent} {i D : Nat} {t : Array Value} (hS : St M w X L) (hi : L[i]? = some (markE D)) (k : ∀ X', St M w X' (L.set i nulE) → LeavesInM Fence.wide n P fn t R ds .returning X') :
 LeavesInM Fence.wide n P fn t R (mk D :: ds) .returning X :=
 ⟨by simp, .inl ⟨D, _, rfl, run_takeDeferred (hS.at_ hi), k _ (hS.taken hi)⟩⟩
theorem fm_nil (ha : Has ds a N l) (h : ∀ a', Has [] a' N l → bodyPost P fn R .ret a' X) : LeavesInM Fence.wide n P fn a.tmps R [] .returning X := by
 obtain ⟨_, v, h1, h2⟩ := h { a with defers := [] } ⟨rfl, ha.size, ha.slot⟩
 exact ⟨v, h1, h2⟩
end
theorem notOut_then {Q : Exit → Act → World → Prop} {K : Act → World → Prop} (h : ¬ LetsOut Q) : ¬ LetsOut (Exit.then K Q) := h
theorem notOut_block {Q : Exit → Act → World → Prop} {id : Nat} (h : ¬ LetsOut Q) : ¬ LetsOut (Exit.inBlock id Q) := h
theorem notOut_no : ¬ LetsOut (fun _ _ _ => False) := fun ⟨_, _, h⟩ => h
theorem notOut_end {R : Act → World → Prop} : ¬ LetsOut (fun e a X => e = .normal ∧ R a X) := fun ⟨_, _, h⟩ => by cases h.1
section
variable {P : Program} {ops : Array Oper} {Q : Exit → Act → World → Prop} {lr n : Nat} {a : Act} {X : World}
theorem wpListIn_of (hQ : ¬ LetsOut Q) : ∀ (l : List Oper), (∀ o ∈ l, ∀ c, o.op ≠ .defer c) → ∀ (a : Act) (w : World), wpList P ops Q l a w → wpListIn (Fence.wide.inRound lr) n P ops Q l a w
 | [], _, _, _, h => h
 | o :: l, hd, a, w, h => by
  have ih := wpListIn_of hQ l (fun o ho => hd o (List.mem_cons_of_mem _ ho))
  unfold wpList at h
  unfold wpListIn
  split
  · rename_i hw
    rw [if_pos hw] at h
    have h := h.resolve_right (fun h => hQ h.2)
    unfold Oper.wp at h
    unfold Oper.wpIn
    refine ⟨fun _ _ => trivial, ?_⟩
    rw [show (Fence.wide.inRound lr).round = some lr from rfl, Oper.semAt_some lr _ _ (hd o (List.mem_cons_self))]
    generalize (execOp a.eval o).run P w = r at *
    cases r with
    | ok x w' =>
     cases x <;> simp only [Oper.upon, Oper.uponIn] at h ⊢
     case value v => exact ih _ _ h
     case skip => exact ih _ _ h
     case defer d => exact ih _ _ h
     case enter f args => exact ⟨fun e => (by cases e), CallsIn.inRound lr (callsIn_wide.2 (h.mono fun e w'' he => by cases e <;> first | exact ih _ _ he | exact he))⟩
     case row row args => exact ⟨fun e => (by cases e), fun c cs _ => let ⟨v, w'', hr, hs⟩ := h c cs; ⟨v, w'', ih _ _ hr, stepsIn_wide.2 hs⟩⟩
    | halt x w' => cases x <;> simp only [Oper.upon, Oper.uponIn] at h ⊢ <;> exact h
  · rename_i hw
    rw [if_neg hw] at h
    exact ⟨fun _ _ => trivial, ih _ _ h⟩
theorem noDeferL {l : List Oper} (h : noDeferB l.toArray = true) : ∀ o ∈ l, ∀ c, o.op ≠ .defer c := fun o ho => by
 obtain ⟨i, hi, rfl⟩ := List.getElem_of_mem ho
 exact noDefer h (i := i) (by simp [hi])
theorem rd_reg {id : Nat} {l : List Oper} (hd : noDeferB l.toArray = true) (hQ : ¬ LetsOut Q) (h : wpList P l.toArray Q l a X) : (Code.region id l.toArray false).wpIn (Fence.wide.inRound lr) n P Q a X :=
 wpIn_region_lit (wpListIn_of hQ l (noDeferL hd) _ _ h)
end
end Go.Proofs.YtanicpgmbhfipaaGreatDoor
namespace Go.Proofs.YtanicpgmbhfipaaGreatDoor
set_option linter.unusedVariables false
set_option linter.unusedSimpArgs false
open Go.RowKit Go.Sort
section
variable {P : Program} {ρ : Operand → Value} {X : World}
end
theorem St.add2 {M : List Nat} {w X0 X : World} {L : List Ent} {e1 e2 : Ent} (h0 : St M w X0 L) (h : St M w X (e1 :: L)) (hok : e2.ok X) (hd : ∀ b, e2.dom b → X0.heap.size ≤ b ∧ b < X.heap.size) (hne : ∀ b, e2.dom b → ¬ e1.dom b) : St M w X (e2 :: e1 :: L) := by
 refine ⟨h.os, h.tape, h.output, h.size, h.block, fun f hf => ?_, fun f hf b hb => ?_, List.pairwise_cons.2 ⟨fun f hf b hb hfb => ?_, h.sep⟩⟩
 · rcases List.mem_cons.1 hf with rfl | hf
   · exact hok
   · exact h.ok f hf
 · rcases List.mem_cons.1 hf with rfl | hf
   · exact ⟨.inl (Nat.le_trans h0.size (hd b hb).1), (hd b hb).2⟩
   · exact h.new f hf b hb
 · rcases List.mem_cons.1 hf with rfl | hf
   · exact hne b hb hfb
   · have := (hd b hb).1
     have := (h0.new f hf b hfb).2
     omega
theorem blk_ty {X : World} {B sz n : Nat} {T : TypeId} {v : Value} {xs : List Value} (h : X.ownsRow B T sz v n xs) {k : Nat} (hk : v.ownBlock = some k) : ∃ cur, X.heap[k]? = some (.cells cur T (0, 0)) := by
 rcases h.2 with ⟨rfl, _⟩ | ⟨g, cap, cur, rfl, _, h2, _⟩
 · cases hk
 · injection hk with hk
   subst hk
   exact ⟨cur, h2⟩
theorem ne_box_row {X : World} {B sz n b : Nat} {T T' : TypeId} {v : Value} {xs : List Value} {cs : Array Value} (h1 : X.ownsRow B T sz v n xs) (h2 : Box X b cs T') (hT : T ≠ T') : ∀ k, k = b → ¬ v.ownBlock = some k := fun k hk hv => by
 subst hk
 obtain ⟨cur, h3⟩ := blk_ty h1 hv
 have h4 : X.heap[k]? = some (Obj.cells cs T' (0, 0)) := h2
 rw [h3] at h4
 injection h4 with h4
 injection h4 with _ h4
 exact hT h4
end Go.Proofs.YtanicpgmbhfipaaGreatDoor
namespace Go.Proofs.YtanicpgmbhfipaaGreatDoor
set_option linter.unusedVariables false
set_option linter.unusedSimpArgs false
open Go.RowKit Go.Sort
variable {ds : List Deferred}
def NewT (B : Nat) (T : TypeId) (b : Nat) (o : Option Obj) : Prop := B ≤ b ∧ ∃ cs fr, o = some (.cells cs T fr)
def stsM (B : Nat) (oc : List (Nat × (Nat → Prop))) (news : List (Nat × TypeId)) : List StK := oc.map (fun p => (p.1, (fun b _ => p.2 b), Keeps 0)) ++ news.map (fun p => (p.1, NewT B p.2, fun _ _ => True))
theorem all1 {α : Type} {φ : α → Prop} {a : α} (h : φ a) : ∀ p ∈ [a], φ p := fun p hp => by rw [List.mem_singleton.1 hp]; exact h
theorem all0 {α : Type} {φ : α → Prop} : ∀ p ∈ ([] : List α), φ p := fun p hp => by cases hp
theorem mem_stsM {B : Nat} {oc : List (Nat × (Nat → Prop))} {news : List (Nat × TypeId)} {p : StK} (h : p ∈ stsM B oc news) : (∃ q ∈ oc, p = (q.1, (fun b _ => q.2 b), Keeps 0)) ∨ ∃ q ∈ news, p = (q.1, NewT B q.2, fun _ _ => True) := by
 unfold stsM at h
 rcases List.mem_append.1 h with h | h
 · obtain ⟨q, h1, h2⟩ := List.mem_map.1 h; exact .inl ⟨q, h1, h2.symm⟩
 · obtain ⟨q, h1, h2⟩ := List.mem_map.1 h; exact .inr ⟨q, h1, h2.symm⟩
theorem Grw.conv {O O' : Nat → Option Obj → Prop} {w X : World} (h : Grw O w X) (hO : ∀ b, b < w.heap.size → O b w.heap[b]? → O' b w.heap[b]?) : Grw O' w X :=
 ⟨h.os, h.tape, h.output, h.size, fun b hb hne => h.block b hb (fun ho => hne (hO b hb ho)), h.shape⟩
section
variable {P : Program} {ops : Array Oper} {Q : Exit → Act → World → Prop} {w : World} {tail : List Oper} {l : List (Nat × Value)} {o : Oper} {a : Act} {N d : Nat} {O : Nat → Prop} {oc : List (Nat × (Nat → Prop))} {news : List (Nat × TypeId)}
theorem oall_M {B : Nat} (hB : B = w.heap.size) (hO : ∀ p ∈ oc, ∀ b, p.2 b → O b) {X : World} (h : Grw (OallK (stsM B oc news)) w X) : Grw (fun b _ => O b) w X := h.conv fun b hb ⟨p, hp, hpo⟩ => by
 rcases mem_stsM hp with ⟨q, h1, rfl⟩ | ⟨q, h1, rfl⟩
 · exact hO q h1 b hpo
 · have h2 : B ≤ b := hpo.1; omega
theorem ooth_M {k B : Nat} (hB : B = w.heap.size) (hO : ∀ p ∈ oc, ∀ b, p.2 b → O b) {X : World} (h : Grw (OothK (stsM B oc news) k) w X) : Grw (fun b _ => O b) w X :=
 oall_M hB hO (news := news) (h.conv fun b _ ⟨p, hp, _, hpo⟩ => ⟨p, hp, hpo⟩)
theorem ooth_below {k B : Nat} (hB : B = w.heap.size) (hO : ∀ p ∈ oc, p.1 = k) {X : World} (h : Grw (OothK (stsM B oc news) k) w X) : Below w.heap.size w X :=
 Grw.below (h.conv (O' := fun _ _ => False) fun b hb ⟨p, hp, hne, hpo⟩ => by
  rcases mem_stsM hp with ⟨q, h1, rfl⟩ | ⟨q, h1, rfl⟩
  · exact hne (hO q h1)
  · have h2 : B ≤ b := hpo.1; omega)
theorem an_flowM {N : Nat} {a : Act} {w : World} {l : List Oper} {sl : List (Nat × Value)} (ha : Has ds a N sl) (O : Nat → Prop) (oc : List (Nat × (Nat → Prop))) (news : List (Nat × TypeId)) (fl : List Bool) (nds : List NdB) (hO : ∀ p ∈ oc, ∀ b, p.2 b → O b)
 (h : wpC P l.toArray (Grw (fun b _ => O b) w) (fun g => wpNK P l.toArray (stsM w.heap.size oc news) w Q (l.drop fl.length) nds g []) (pick fl l) a)
 (hB : flowBK l.toArray fl fl.length N (nds.map fun d => (d.k, d.deps)) = true) :
 Drawn P l Q a w := by
 obtain ⟨afin, h1, h2⟩ := wpC_take _ _ h
 exact an_flowK0 (stsM w.heap.size oc news) fl nds (by rw [ha.size]; exact hB) ⟨afin, wpC_anti (fun X hX => oall_M rfl hO hX) _ _ h1, h2⟩
theorem dr_flowM {id N : Nat} {a : Act} {w : World} {l : List Oper} {sl : List (Nat × Value)} (ha : Has ds a N sl) (O : Nat → Prop) (oc : List (Nat × (Nat → Prop))) (news : List (Nat × TypeId)) (fl : List Bool) (nds : List NdB) (hm : P.follows .mixedOrders = true) (hO : ∀ p ∈ oc, ∀ b, p.2 b → O b)
 (h : wpC P l.toArray (Grw (fun b _ => O b) w) (fun g => wpNK P l.toArray (stsM w.heap.size oc news) w Q (l.drop fl.length) nds g []) (pick fl l) a)
 (hB : flowBK l.toArray fl fl.length N (nds.map fun d => (d.k, d.deps)) = true) :
 (Code.region id l.toArray true).wp P Q a w := wp_region_any hm (an_flowM ha O oc news fl nds hO h hB)
theorem leaves_RK {sts : List StK} {k : Nat} {R : Value → World → Prop} {X : World} {r : Result Next} (h : LeavesR P R X r) : LeavesK P sts k R X r := by
 cases r with
 | ok nx w' =>
  cases nx <;> simp only [LeavesR] at h <;> simp only [LeavesK]
  case value u => exact ⟨.inl h.1, h.2⟩
  case enter f args => exact ⟨h.1, h.2.mono fun e X'' ⟨v, h1, h2, h3⟩ => ⟨v, h1, .inl h2, h3⟩⟩
 | halt x w' => simp only [LeavesR] at h
theorem leaves_AK {sts : List StK} {k : Nat} {O : Nat → Prop} {R : Value → World → Prop} {X : World} {r : Result Next} (hp : (k, (fun b _ => O b), Keeps 0) ∈ sts) (h : LeavesA P O 0 R X r) : LeavesK P sts k R X r := by
 cases r with
 | ok nx w' =>
  cases nx <;> simp only [LeavesA] at h <;> simp only [LeavesK]
  case value u => exact ⟨.inr ⟨_, hp, rfl, h.1⟩, h.2⟩
  case skip => exact ⟨.inr ⟨_, hp, rfl, h.1⟩, h.2⟩
  case enter f args => exact ⟨h.1, h.2.mono fun e X'' ⟨v, h1, h2, h3⟩ => ⟨v, h1, .inr ⟨_, hp, rfl, h2⟩, h3⟩⟩
 | halt x w' => simp only [LeavesA] at h
theorem nm_step {nds : List NdB} {k : Nat} {deps : List Nat} {R : Value → World → Prop} {Φ : List (Nat × (World → Prop))} (ha : Has ds a N l) (ho : ops[k]? = some o) (hd : o.dst = some d) (hN : Nat.blt d N = true) (hO : ∀ p ∈ oc, ∀ b, p.2 b → O b)
 (hst : ∀ v X X', R v X → Below X.heap.size X X' → R v X') (hst2 : ∀ p ∈ oc, ∀ v X X', R v X → Kp p.2 0 X X' → R v X') (hst3 : ∀ p ∈ news, ∀ v X X', R v X → Grw (NewT w.heap.size p.2) X X' → R v X') (hx : ∀ X, Grw (fun b _ => O b) w X → told deps Φ X → LeavesR P R X ((execOp a.eval o).run P X))
 (k' : ∀ v a', Has ds a' N ((d, v) :: l) → wpNK P ops (stsM w.heap.size oc news) w Q tail nds a' ((k, R v) :: Φ)) : wpNK P ops (stsM w.heap.size oc news) w Q tail (⟨k, deps, fun _ => R⟩ :: nds) a Φ := by
 refine ⟨⟨fun v X X' => hst v X X', fun p hp _ _ v X X' hR hX => ?_, fun _ _ _ _ h => h⟩, fun o' ho' X hX hE hΦ => ?_, fun v => ?_⟩
 · rcases mem_stsM hp with ⟨q, h1, rfl⟩ | ⟨q, h1, rfl⟩
   · exact hst2 q h1 v X X' hR hX
   · exact hst3 q h1 v X X' hR hX.1
 · rw [ho] at ho'; cases ho'
   exact leaves_RK (hx X (ooth_M rfl hO hX) hΦ)
 · have e : dstAt ops k = some d := by unfold dstAt; rw [ho]; exact hd
   show wpNK P ops (stsM w.heap.size oc news) w Q tail nds (a.put (dstAt ops k) v) _
   rw [e]
   exact k' v _ (ha.put hN v)
theorem nm_early {nds : List NdB} {k : Nat} {deps : List Nat} {R : Value → World → Prop} {Φ : List (Nat × (World → Prop))} (ha : Has ds a N l) (ho : ops[k]? = some o) (hd : o.dst = some d) (hN : Nat.blt d N = true) (hw : (oc.map (·.1) ++ news.map (·.1)).all (fun p => waitsT ops 4 p k) = true)
 (hst : ∀ v X X', R v X → Below X.heap.size X X' → R v X') (hst2 : ∀ p ∈ oc, ∀ v X X', R v X → Kp p.2 0 X X' → R v X') (hst3 : ∀ p ∈ news, ∀ v X X', R v X → Grw (NewT w.heap.size p.2) X X' → R v X') (hx : ∀ X, Below w.heap.size w X → told deps Φ X → LeavesR P R X ((execOp a.eval o).run P X))
 (k' : ∀ v a', Has ds a' N ((d, v) :: l) → wpNK P ops (stsM w.heap.size oc news) w Q tail nds a' ((k, R v) :: Φ)) : wpNK P ops (stsM w.heap.size oc news) w Q tail (⟨k, deps, fun _ => R⟩ :: nds) a Φ := by
 refine ⟨⟨fun v X X' => hst v X X', fun p hp _ _ v X X' hR hX => ?_, fun _ _ _ _ h => h⟩, fun o' ho' X hX hE hΦ => ?_, fun v => ?_⟩
 · rcases mem_stsM hp with ⟨q, h1, rfl⟩ | ⟨q, h1, rfl⟩
   · exact hst2 q h1 v X X' hR hX
   · exact hst3 q h1 v X X' hR hX.1
 · rw [ho] at ho'; cases ho'
   refine leaves_RK (hx X (Grw.below (hE fun p hp => ?_)) hΦ)
   have hall := List.all_eq_true.1 hw
   rcases mem_stsM hp with ⟨q, h1, rfl⟩ | ⟨q, h1, rfl⟩
   · exact hall q.1 (List.mem_append_left _ (List.mem_map.2 ⟨q, h1, rfl⟩))
   · exact hall q.1 (List.mem_append_right _ (List.mem_map.2 ⟨q, h1, rfl⟩))
 · have e : dstAt ops k = some d := by unfold dstAt; rw [ho]; exact hd
   show wpNK P ops (stsM w.heap.size oc news) w Q tail nds (a.put (dstAt ops k) v) _
   rw [e]
   exact k' v _ (ha.put hN v)
theorem nm_sto {nds : List NdB} {k : Nat} {deps : List Nat} {R : Value → World → Prop} {Φ : List (Nat × (World → Prop))} {O1 : Nat → Prop} (ha : Has ds a N l) (ho : ops[k]? = some o) (hd : o.dst = none) (hoc : oc = [(k, O1)])
 (hst : ∀ v X X', R v X → Below X.heap.size X X' → R v X') (hst3 : ∀ p ∈ news, ∀ v X X', R v X → Grw (NewT w.heap.size p.2) X X' → R v X') (hx : ∀ X, Below w.heap.size w X → told deps Φ X → LeavesA P O1 0 R X ((execOp a.eval o).run P X))
 (k' : ∀ v, wpNK P ops (stsM w.heap.size oc news) w Q tail nds a ((k, R v) :: Φ)) : wpNK P ops (stsM w.heap.size oc news) w Q tail (⟨k, deps, fun _ => R⟩ :: nds) a Φ := by
 refine ⟨⟨fun v X X' => hst v X X', fun p hp hne _ v X X' hR hX => ?_, fun _ _ _ _ h => h⟩, fun o' ho' X hX hE hΦ => ?_, fun v => ?_⟩
 · rcases mem_stsM hp with ⟨q, h1, rfl⟩ | ⟨q, h1, rfl⟩
   · rw [hoc] at h1; rw [List.mem_singleton.1 h1] at hne; exact absurd rfl hne
   · exact hst3 q h1 v X X' hR hX.1
 · rw [ho] at ho'; cases ho'
   refine leaves_AK ?_ (hx X (ooth_below rfl (fun p hp => by rw [hoc] at hp; rw [List.mem_singleton.1 hp]) hX) hΦ)
   unfold stsM; rw [hoc]; exact List.mem_append_left _ (List.mem_singleton.2 rfl)
 · have e : dstAt ops k = none := by unfold dstAt; rw [ho]; exact hd
   show wpNK P ops (stsM w.heap.size oc news) w Q tail nds (a.put (dstAt ops k) v) _
   rw [e]
   exact k' v
def IsRow (v : Value) (T : TypeId) (sz n : Nat) (xs : List Value) (_ : Value) (X : World) : Prop := X.ownsRow 0 T sz v n xs
theorem IsRow.stable {v : Value} {T : TypeId} {sz n : Nat} {xs : List Value} (u : Value) (X X' : World) (h : IsRow v T sz n xs u X) (hb : Below X.heap.size X X') : IsRow v T sz n xs u X' := row_stable h hb
theorem lv_rowset {ρ : Operand → Value} {X : World} {ty : TypeId} {x' y : Operand} {g j n c sz : Nat} {v : Value} {vs : List Value} {T : TypeId} {xs : List Value} (ho : o.op = .store ty x' y) (hx : ρ x' = .pointer (some ⟨g, j, none⟩)) (hy : ρ y = v) (hvs : v.cells.toList = vs)
 (hs : (P.info? ty).map (·.size) = some vs.length) (hown : X.ownsRow 0 T sz (.slice (some ⟨g, 0, none⟩) n c) n xs) (h1 : vs.all (·.oneCell') = true) (hj : j + vs.length ≤ n * sz) :
 LeavesA P (fun b => (Value.slice (some ⟨g, 0, none⟩) n c).ownBlock = some b) 0 (IsRow (.slice (some ⟨g, 0, none⟩) n c) T sz n (xs.take j ++ vs ++ xs.drop (j + vs.length))) X ((execOp ρ o).run P X) := by
 obtain ⟨hxl, hrow⟩ := hown
 rcases hrow with ⟨h0, _⟩ | ⟨g', cap, cur, e1, e0, hg, hcap, hm, hcs, htk⟩
 · cases h0
 injection e1 with e1 e2 e3
 injection e1 with e1
 injection e1 with e1 _
 subst e1 e3
 have hle : j + vs.length ≤ cur.size := by rw [hcs]; exact Nat.le_trans hj (Nat.mul_le_mul_right _ hcap)
 have hst := storeCells_mid (P := P) g T vs j 0 cur X hg (by simpa using hle) (fun u hu => List.all_eq_true.1 h1 u hu)
 simp only [Nat.add_zero] at hst
 have hnsz : n * sz ≤ cur.size := by rw [hcs]; exact Nat.mul_le_mul_right _ hcap
 have hG : Grw (fun k _ => k = g) X (X.setRow g (cur.toList.take j ++ vs ++ cur.toList.drop (j + vs.length)).toArray) := setRow_grw (cs := cur) (T := T) (fr := (0, 0)) hg (by simp; omega)
 have hex : (execOp ρ o).run P X = .ok .skip (X.setRow g (cur.toList.take j ++ vs ++ cur.toList.drop (j + vs.length)).toArray) := by
  cases hq : P.info? ty with
  | none => rw [hq] at hs; cases hs
  | some q =>
   rw [hq] at hs
   have hsz : q.size = vs.length := by simpa using hs
   have hcsz : v.cells.size = vs.length := by rw [← hvs]; simp
   unfold execOp
   simp only [ho, hx, hy, Instr.storeAt, Instr.sureAddr, Sem.run_bind, Sem.run_pure, Result.andThen_ok]
   simp [storeVar, sizeOf, typeInfo, hq, hsz, hcsz, hvs, hst]
 rw [hex]
 refine ⟨⟨hG.weaken (fun b o hb => by rw [show b = g from hb]; rfl), fun k cs' T' fr hk => ?_⟩, by simp only [List.length_append, List.length_take, List.length_drop]; omega, .inr ⟨g, c, _, rfl, Nat.zero_le _, setRow_heap X g cur _ T (0, 0) hg, hcap, hm, by simp; omega, ?_⟩⟩
 · obtain ⟨cs2, h2, h3⟩ := hG.shape k cs' T' fr hk
   exact ⟨cs2, h3, h2, by simp⟩
 · show (cur.toList.take j ++ vs ++ cur.toList.drop (j + vs.length)).take (n * sz) = _
   rw [← htk, List.take_append, List.take_append, List.take_of_length_le (l := vs) (by simp; omega), List.take_take, List.take_take, List.take_drop, List.drop_take]
   have hl1 : (cur.toList.take j ++ vs).length = j + vs.length := by simp; omega
   rw [hl1, Nat.min_eq_right (by omega), Nat.min_eq_left (by omega), show j + vs.length + (n * sz - (j + vs.length)) = n * sz by omega, List.drop_take]
theorem St.growSet {M : List Nat} {w0 w X : World} {L : List Ent} {i n sz : Nat} {v u : Value} {T : TypeId} {xs xs' : List Value} (h : St M w0 w L) (hi : L[i]? = some (.row v n T sz xs)) (hX : Grw (fun b _ => v.ownBlock = some b) w X) (hq : IsRow v T sz n xs' u X) : St M w0 X (L.set i (.row v n T sz xs')) :=
 h.turn hi hX.os hX.tape hX.output hX.size (fun b hb hne => hX.block b hb hne) hq (fun b hb => ⟨.inl hb, (World.ownsRow.lt hq b hb).2⟩)
def NewAny (B n : Nat) (T : TypeId) (v : Value) (X : World) : Prop := ∃ b, v = .pointer (some ⟨b, 0, none⟩) ∧ B ≤ b ∧ ∃ cs, Box X b cs T ∧ cs.size = n
theorem NewAny.stable {B n : Nat} {T : TypeId} (v : Value) (X X' : World) (h : NewAny B n T v X) (hb : Below X.heap.size X X') : NewAny B n T v X' := by
 obtain ⟨b, h1, h2, cs, h3, h4⟩ := h; exact ⟨b, h1, h2, cs, h3.below hb, h4⟩
theorem NewAny.newT {B n B' : Nat} {T T' : TypeId} (v : Value) (X X' : World) (h : NewAny B n T v X) (hX : Grw (NewT B' T') X X') : NewAny B n T v X' := by
 obtain ⟨b, h1, h2, cs, h3, h4⟩ := h
 obtain ⟨cs', h5, h6⟩ := hX.shape b cs T (0, 0) h3
 exact ⟨b, h1, h2, cs', h6, by rw [h5]; exact h4⟩
theorem NewB.newT {B B' : Nat} {f : Nat → Value} {cs : Array Value} {T T' : TypeId} (hT : T ≠ T') (v : Value) (X X' : World) (h : NewB B f cs T v X) (hX : Grw (NewT B' T') X X') : NewB B f cs T v X' := by
 obtain ⟨b, h1, h2, h3⟩ := h
 refine ⟨b, h1, h2, (hX.block b h3.lt ?_).trans h3⟩
 rintro ⟨_, cs', fr, e⟩
 rw [show X.heap[b]? = some (.cells cs T (0, 0)) from h3] at e
 injection e with e; injection e with _ e; exact hT e
theorem lv_any {X : World} {B n : Nat} {cs : Array Value} {T : TypeId} {r : Result Next} (hx : r = .ok (.value (.pointer (some ⟨X.heap.size, 0, none⟩))) (X.alloc (.cells cs T))) (hB : B ≤ X.heap.size) (hn : cs.size = n) : LeavesR P (NewAny B n T) X r := by
 subst hx
 exact ⟨bel_alloc (Below.refl _ _) _, X.heap.size, rfl, hB, cs, Box.new X cs T, hn⟩
def StoY (B : Nat) (T : TypeId) (x : Nat) (Y : Act → Value → Prop) (g : Act) (_ : Value) (X : World) : Prop := ∃ b, g.tmps[x]? = some (.pointer (some ⟨b, 0, none⟩)) ∧ B ≤ b ∧ ∃ v, Y g v ∧ Box X b v.cells T
def slotY (y : Nat) (g : Act) (v : Value) : Prop := g.tmps[y]? = some v
def valY (u : Value) (_ : Act) (v : Value) : Prop := v = u
theorem nm_store {nds : List NdB} {k kx x y : Nat} {T : TypeId} {Y : Act → Value → Prop} {deps : List Nat} {Φ : List (Nat × (World → Prop))} (ha : Has ds a N l) (ho : ops[k]? = some o) (hop : o.op = .store T (.tmp x) (.tmp y) ∧ o.dst = none) (hk : news = [(k, T)]) (hO : ∀ p ∈ oc, ∀ b, p.2 b → b < w.heap.size)
 (hdx : deps.contains kx = true ∧ dstAt ops kx = some x) {vx vy : Value} (hYa : Y a vy) (hYg : ∀ g' v, (∀ j ∈ deps, ∀ t, dstAt ops j = some t → g'.tmps[t]? = a.tmps[t]?) → Y a v → Y g' v) (hvx : look l x = some vx) (hvy : look l y = some vy) {n : Nat} (hs : (P.info? T).map (·.size) = some n) (hin : ∀ q ∈ oc, q.1 ∉ deps)
 (hx : ∀ X, Grw (fun b _ => ∃ p ∈ oc, p.2 b) w X → told deps Φ X → NewAny w.heap.size n T vx X ∧ vy.cells.size = n ∧ vy.cells.toList.all (·.oneCell') = true)
 (k' : ∀ v, wpNK P ops (stsM w.heap.size oc news) w Q tail nds a ((k, StoY w.heap.size T x Y a v) :: Φ)) : wpNK P ops (stsM w.heap.size oc news) w Q tail (⟨k, deps, StoY w.heap.size T x Y⟩ :: nds) a Φ := by
 refine ⟨⟨fun v X X' ⟨b, h1, h2, u, h3, h4⟩ hb => ⟨b, h1, h2, u, h3, h4.below hb⟩, fun p hp hne _ v X X' ⟨b, h1, h2, u, h3, h4⟩ hX => ?_, fun g' v X hg ⟨b, h1, h2, u, h3, h4⟩ => ?_⟩, fun o' ho' X hX hE hΦ => ?_, fun v => ?_⟩
 · rcases mem_stsM hp with ⟨q, q1, rfl⟩ | ⟨q, q1, rfl⟩
   · exact ⟨b, h1, h2, u, h3, (hX.1.block b h4.lt (fun h => by have := hO q q1 b h; omega)).trans h4⟩
   · rw [hk] at q1; rw [List.mem_singleton.1 q1] at hne; exact absurd rfl hne
 · exact ⟨b, (hg kx (List.contains_iff_mem.1 hdx.1) x hdx.2).trans h1, h2, u, hYg g' u hg h3, h4⟩
 · rw [ho] at ho'; cases ho'
   obtain ⟨⟨b, rfl, h2, cs, h3, h4⟩, h5, h6⟩ := hx X (by
    refine hX.conv fun b hb ⟨p, hp, _, hpo⟩ => ?_
    rcases mem_stsM hp with ⟨q, q1, rfl⟩ | ⟨q, q1, rfl⟩
    · exact ⟨q, q1, hpo⟩
    · have h2 : w.heap.size ≤ b := hpo.1; omega) hΦ
   have hl := lv_store0 (P := P) (ρ := a.eval) (o := o) (ty := T) (X := X) hop.1 (ha.ev (o := .tmp x) hvx) (ha.ev (o := .tmp y) hvy) rfl (by rw [hs]; simp [h5]) h3 h6 (by rw [show vy.cells.toList.length = cs.toList.length by simp [h4, h5]]; exact Nat.beq_refl _)
   have hmem : (k, NewT w.heap.size T, fun _ _ => True) ∈ stsM w.heap.size oc news := by unfold stsM; rw [hk]; exact List.mem_append_right _ (List.mem_singleton.2 rfl)
   have hcv : ∀ X', Kp (fun k' => k' = b) 0 X X' → EffK (stsM w.heap.size oc news) k X X' := fun X' hK => .inr ⟨_, hmem, rfl, hK.1.conv fun b' hb' e => by
    have e' : b' = b := e
    subst e'
    exact ⟨h2, cs, (0, 0), h3⟩, trivial⟩
   have hR : ∀ u X', IsBox b T vy.cells.toList.toArray u X' → StoY w.heap.size T x Y a u X' := fun u X' hB => ⟨b, ha.slot x _ hvx, h2, vy, hYa, by simpa [IsBox] using hB⟩
   generalize (execOp a.eval o).run P X = r at hl
   cases r with
   | halt e X' => simp only [LeavesA] at hl
   | ok nx X' =>
    cases nx <;> simp only [LeavesA] at hl <;> simp only [LeavesK]
    case value u => exact ⟨hcv _ hl.1, hR _ _ hl.2⟩
    case skip => exact ⟨hcv _ hl.1, hR _ _ hl.2⟩
    case enter f args => exact ⟨hl.1, hl.2.mono fun e X'' ⟨v, g1, g2, g3⟩ => ⟨v, g1, hcv _ g2, hR _ _ g3⟩⟩
 · have e : dstAt ops k = none := by unfold dstAt; rw [ho]; exact hop.2
   show wpNK P ops (stsM w.heap.size oc news) w Q tail nds (a.put (dstAt ops k) v) _
   rw [e]
   exact k' v
theorem nm_end {Φ : List (Nat × (World → Prop))} (hO : ∀ p ∈ oc, ∀ b, p.2 b → O b) (h : ∀ X, Grw (fun b _ => O b) w X → toldAll Φ X → wpList P ops Q tail a X) : wpNK P ops (stsM w.heap.size oc news) w Q tail [] a Φ := fun X hX _ hΦ => h X (oall_M rfl hO hX) hΦ
theorem DistB.ne {ks : List Nat} (h : DistB ops ks a) (ha : Has ds a N l) {i j s t : Nat} {oi oj : Oper} {b c : Nat} (hi : i ∈ ks) (hj : j ∈ ks) (hij : i ≠ j) (ho : ops[i]? = some oi) (hp : ops[j]? = some oj) (hai : isAl oi = true) (haj : isAl oj = true) (hs : oi.dst = some s) (ht : oj.dst = some t) (h1 : look l s = some (.pointer (some ⟨b, 0, none⟩))) (h2 : look l t = some (.pointer (some ⟨c, 0, none⟩))) : b ≠ c := by
 rintro rfl
 refine h i hi j hj hij oi oj s t ho hp hai haj hs ht ?_
 rw [ha.slot s _ h1, ha.slot t _ h2]
theorem slotY_dep {deps : List Nat} {ky y : Nat} (hdy : deps.contains ky = true ∧ dstAt ops ky = some y) : ∀ g' v, (∀ j ∈ deps, ∀ t, dstAt ops j = some t → g'.tmps[t]? = a.tmps[t]?) → slotY y a v → slotY y g' v := fun g' v hg h => (hg ky (List.contains_iff_mem.1 hdy.1) y hdy.2).trans h
theorem StoY.slot {B : Nat} {T : TypeId} {x y : Nat} {v vx vy : Value} {X : World} (ha : Has ds a N l) (hx : look l x = some vx) (hy : look l y = some vy) (h : StoY B T x (slotY y) a v X) : ∃ b, vx = .pointer (some ⟨b, 0, none⟩) ∧ B ≤ b ∧ Box X b vy.cells T := by
 obtain ⟨b, h1, h2, u, h3, h4⟩ := h
 have e1 := (ha.slot x _ hx).symm.trans h1
 have e2 := (ha.slot y _ hy).symm.trans h3
 injection e1 with e1
 injection e2 with e2
 exact ⟨b, e1, h2, by rw [e2]; exact h4⟩
theorem StoY.val {B : Nat} {T : TypeId} {x : Nat} {v vx u : Value} {X : World} (ha : Has ds a N l) (hx : look l x = some vx) (h : StoY B T x (valY u) a v X) : ∃ b, vx = .pointer (some ⟨b, 0, none⟩) ∧ B ≤ b ∧ Box X b u.cells T := by
 obtain ⟨b, h1, h2, u', h3, h4⟩ := h
 have e1 := (ha.slot x _ hx).symm.trans h1
 injection e1 with e1
 exact ⟨b, e1, h2, by rw [show u' = u from h3] at h4; exact h4⟩
theorem IsVal.newT {u : Value} {B : Nat} {T : TypeId} (v : Value) (X X' : World) (h : IsVal u v X) (_ : Grw (NewT B T) X X') : IsVal u v X' := h
theorem PairU.newT {ι : Type} {V : ι → Value} {F : ι → Prop} {B : Nat} {T : TypeId} (v : Value) (X X' : World) (h : PairU V F v X) (_ : Grw (NewT B T) X X') : PairU V F v X' := h
theorem ExtU0.newT {ι : Type} {V : ι → Value} {F : ι → Prop} {B : Nat} {T : TypeId} (v : Value) (X X' : World) (h : ExtU0 V F v X) (_ : Grw (NewT B T) X X') : ExtU0 V F v X' := h
theorem ExtU1.newT {ι : Type} {V : ι → Value} {F : ι → Prop} {B : Nat} {T : TypeId} (v : Value) (X X' : World) (h : ExtU1 V F v X) (_ : Grw (NewT B T) X X') : ExtU1 V F v X' := h
def MovS (src : Nat) (g : Act) (v : Value) (_ : World) : Prop := g.tmps[src]? = some v
def ExtS (src i : Nat) (g : Act) (v : Value) (_ : World) : Prop := ∃ vs, g.tmps[src]? = some (.tuple vs) ∧ vs[i]? = some v
theorem MovS.get {src : Nat} {u v : Value} {X : World} (ha : Has ds a N l) (hu : look l src = some u) (h : MovS src a v X) : v = u := by
 have := (ha.slot src _ hu).symm.trans h
 injection this with this; exact this.symm
theorem ExtS.get {src i : Nat} {vs : Array Value} {v y : Value} {X : World} (ha : Has ds a N l) (hu : look l src = some (.tuple vs)) (hi : vs[i]? = some y) (h : ExtS src i a v X) : v = y := by
 obtain ⟨us, h1, h2⟩ := h
 have := (ha.slot src _ hu).symm.trans h1
 injection this with this
 injection this with this
 rw [← this, hi] at h2
 exact (Option.some.inj h2).symm
theorem nm_link {nds : List NdB} {k : Nat} {deps : List Nat} {R : Act → Value → World → Prop} {Φ : List (Nat × (World → Prop))} (ha : Has ds a N l) (ho : ops[k]? = some o) (hd : o.dst = some d) (hN : Nat.blt d N = true)
 (hR : ∀ g v X X', R g v X → R g v X') (hdep : ∀ g' v X, (∀ j ∈ deps, ∀ t, dstAt ops j = some t → g'.tmps[t]? = a.tmps[t]?) → R a v X → R g' v X) (hx : ∀ X, told deps Φ X → ∃ v, (execOp a.eval o).run P X = .ok (.value v) X ∧ R a v X)
 (k' : ∀ v a', Has ds a' N ((d, v) :: l) → wpNK P ops (stsM w.heap.size oc news) w Q tail nds a' ((k, R a v) :: Φ)) : wpNK P ops (stsM w.heap.size oc news) w Q tail (⟨k, deps, R⟩ :: nds) a Φ := by
 refine ⟨⟨fun v X X' h _ => hR a v X X' h, fun p hp _ _ v X X' h _ => hR a v X X' h, hdep⟩, fun o' ho' X hX hE hΦ => ?_, fun v => ?_⟩
 · rw [ho] at ho'; cases ho'
   obtain ⟨v, h1, h2⟩ := hx X hΦ
   rw [h1]
   exact ⟨.inl (Below.refl _ _), h2⟩
 · have e : dstAt ops k = some d := by unfold dstAt; rw [ho]; exact hd
   show wpNK P ops (stsM w.heap.size oc news) w Q tail nds (a.put (dstAt ops k) v) _
   rw [e]
   exact k' v _ (ha.put hN v)
theorem nm_mov {nds : List NdB} {k kx src : Nat} {deps : List Nat} {Φ : List (Nat × (World → Prop))} (ha : Has ds a N l) (ho : ops[k]? = some o) (hop : o.op = .move (.tmp src) ∨ o.op = .assign (.tmp src)) (hd : o.dst = some d) (hN : Nat.blt d N = true) (hdx : deps.contains kx = true ∧ dstAt ops kx = some src) {u : Value} (hu : look l src = some u)
 (k' : ∀ v a', Has ds a' N ((d, v) :: l) → wpNK P ops (stsM w.heap.size oc news) w Q tail nds a' ((k, MovS src a v) :: Φ)) : wpNK P ops (stsM w.heap.size oc news) w Q tail (⟨k, deps, MovS src⟩ :: nds) a Φ :=
 nm_link ha ho hd hN (fun _ _ _ _ h => h) (fun g' v X hg h => (hg kx (List.contains_iff_mem.1 hdx.1) src hdx.2).trans h) (fun X _ => ⟨u, by
  have hev : a.eval (.tmp src) = u := ha.ev (o := .tmp src) hu
  unfold execOp
  rcases hop with h | h <;> simp [h, hev], ha.slot src _ hu⟩) k'
theorem nm_ext {nds : List NdB} {k kx src i : Nat} {deps : List Nat} {Φ : List (Nat × (World → Prop))} (ha : Has ds a N l) (ho : ops[k]? = some o) (hop : o.op = .extract (.tmp src) i) (hd : o.dst = some d) (hN : Nat.blt d N = true) (hdx : deps.contains kx = true ∧ dstAt ops kx = some src) {u : Value} (hu : look l src = some u)
 (hx : ∀ X, told deps Φ X → ∃ vs y, u = .tuple vs ∧ vs[i]? = some y)
 (k' : ∀ v a', Has ds a' N ((d, v) :: l) → wpNK P ops (stsM w.heap.size oc news) w Q tail nds a' ((k, ExtS src i a v) :: Φ)) : wpNK P ops (stsM w.heap.size oc news) w Q tail (⟨k, deps, ExtS src i⟩ :: nds) a Φ :=
 nm_link ha ho hd hN (fun _ _ _ _ h => h) (fun g' v X hg ⟨vs, h, h2⟩ => ⟨vs, (hg kx (List.contains_iff_mem.1 hdx.1) src hdx.2).trans h, h2⟩) (fun X hΦ => by
  obtain ⟨vs, y, h1, h2⟩ := hx X hΦ
  subst h1
  have hev : a.eval (.tmp src) = .tuple vs := ha.ev (o := .tmp src) hu
  refine ⟨y, ?_, vs, ha.slot src _ hu, h2⟩
  unfold execOp
  simp [hop, hev, Instr.extract, h2]) k'
def BoxY (b : Nat) (T : TypeId) (y : Nat) (g : Act) (_ : Value) (X : World) : Prop := ∃ u, g.tmps[y]? = some u ∧ Box X b u.cells T
theorem BoxY.get {b : Nat} {T : TypeId} {y : Nat} {v vy : Value} {X : World} (ha : Has ds a N l) (hy : look l y = some vy) (h : BoxY b T y a v X) : Box X b vy.cells T := by
 obtain ⟨u, h1, h2⟩ := h
 have := (ha.slot y _ hy).symm.trans h1
 injection this with this
 rw [this]; exact h2
def RowU (V : Option Addr → Nat → Value) (B : Nat) (T : TypeId) (sz n : Nat) (xs : List Value) (v : Value) (X : World) : Prop := ∃ A c, v = V A c ∧ X.ownsRow B T sz (.slice A n c) n xs
theorem RowU.stable {V : Option Addr → Nat → Value} {B : Nat} {T : TypeId} {sz n : Nat} {xs : List Value} (v : Value) (X X' : World) (h : RowU V B T sz n xs v X) (hb : Below X.heap.size X X') : RowU V B T sz n xs v X' := by
 obtain ⟨A, c, h1, h2⟩ := h; exact ⟨A, c, h1, row_stable h2 hb⟩
theorem RowU.newT {V : Option Addr → Nat → Value} {B B' : Nat} {T T' : TypeId} {sz n : Nat} {xs : List Value} (hT : T ≠ T') (v : Value) (X X' : World) (h : RowU V B T sz n xs v X) (hX : Grw (NewT B' T') X X') : RowU V B T sz n xs v X' := by
 obtain ⟨A, c, h1, h2, h3⟩ := h
 refine ⟨A, c, h1, h2, ?_⟩
 rcases h3 with h3 | ⟨g, cap, cur, e1, e2, e3, e4⟩
 · exact .inl h3
 · refine .inr ⟨g, cap, cur, e1, e2, (hX.block g (Array.getElem?_eq_some_iff.1 e3).1 ?_).trans e3, e4⟩
   rintro ⟨_, cs, fr, e⟩
   rw [e3] at e
   injection e with e; injection e with _ e; exact hT e
end
end Go.Proofs.YtanicpgmbhfipaaGreatDoor
