/-
  SPL, part 7: 'append' in regions that draw their order. No program in sight.
  Walks by steps: calls that hand back a value with facts and a row; four results.
  Values that came in, opened: slices, arrays and structs whose elements are read by a reader of their cells.
  Rows of structs: lists of cells, each struct's cells behind the one before. No program in sight.
  SPL, part 8: 'make' of rows, copies between rows. No program in sight.
  SPL, part 9: maps with numbers as keys. No program in sight.
  SPL, part 10: two entries as one, one as two. No program in sight.
-/
import Derived.Test.YtanicpgmbhfipaaGreatDoorSplB
import Derived.Lib.SliceRun
import Derived.Test.YtanicpgmbhfipaaGreatDoorKitA
import Derived.WalkKit
import Derived.ProofKit
import Derived.Deep.Slices
import Derived.Deep.SlicePairs
import Derived.Lib.SmallJoins
import Derived.OpenShut
import Derived.MapKept
namespace Go.Proofs.YtanicpgmbhfipaaGreatDoor
set_option linter.unusedVariables false
set_option linter.unusedSimpArgs false
open Go.RowKit Go.Sort
variable {ds : List Deferred}
theorem below_of {w X : World} (h : Grw (fun b _ => w.heap.size ≤ b) w X) : Below w.heap.size w X := ⟨h.os, h.tape, h.output, h.size, fun b hb => h.block b hb (fun h => by omega)⟩
theorem IsVal.kp {u : Value} {O : Nat → Prop} {K : Nat} (v : Value) (X X' : World) (h : IsVal u v X) (_ : Kp O K X X') : IsVal u v X' := h
def OwnC (B : Nat) (T : TypeId) (sz n : Nat) (xs : List Value) (v : Value) (X : World) : Prop := OwnB B T sz n xs v X ∧ (n = 0 → ∃ A, v = .slice A n n)
theorem OwnC.stable {B : Nat} {T : TypeId} {sz n : Nat} {xs : List Value} (v : Value) (X X' : World) (h : OwnC B T sz n xs v X) (hb : Below X.heap.size X X') : OwnC B T sz n xs v X' := ⟨OwnB.stable v X X' h.1 hb, h.2⟩
theorem NewB.rd {B m : Nat} {cs : Array Value} {T : TypeId} {v : Value} {X : World} (h : NewB B (fun b => .slice (some ⟨b, 0, none⟩) m m) cs T v X) : ∃ A c, v = .slice A m c ∧ Rd X X.heap.size A cs.toList := by
 obtain ⟨b, h1, _, h3⟩ := h
 exact ⟨_, _, h1, fun j u hj => ⟨b, 0, rfl, h3.lt, by rw [Nat.zero_add]; exact box_cell h3 hj⟩⟩
def AppB (B : Nat) (v0 : Value) (T : TypeId) (sz n : Nat) (xs : List Value) (v : Value) (X : World) : Prop := ∃ A c, v = .slice A n c ∧ X.ownsRow 0 T sz (.slice A n c) n xs ∧ (v.ownBlock = v0.ownBlock ∨ ∀ g, v.ownBlock = some g → B ≤ g)
theorem row_stable {X X' : World} {B n sz : Nat} {v : Value} {xs : List Value} {T : TypeId} (h : X.ownsRow B T sz v n xs) (hX : Below X.heap.size X X') : X'.ownsRow B T sz v n xs := by
 obtain ⟨h1, h2⟩ := h
 refine ⟨h1, ?_⟩
 rcases h2 with h2 | ⟨g, cap, cur, e1, e2, e3, e4⟩
 · exact .inl h2
 · exact .inr ⟨g, cap, cur, e1, e2, (hX.block g (Array.getElem?_eq_some_iff.1 e3).1).trans e3, e4⟩
theorem AppB.stable {B : Nat} {v0 : Value} {T : TypeId} {sz n : Nat} {xs : List Value} (v : Value) (X X' : World) (h : AppB B v0 T sz n xs v X) (hb : Below X.heap.size X X') : AppB B v0 T sz n xs v X' := by
 obtain ⟨A, c, h1, h2, h3⟩ := h
 exact ⟨A, c, h1, row_stable h2 hb, h3⟩
theorem own_base {X : World} {B n sz : Nat} {v : Value} {xs : List Value} {T : TypeId} (h : X.ownsRow 0 T sz v n xs) (hB : ∀ g, v.ownBlock = some g → B ≤ g) : X.ownsRow B T sz v n xs := by
 obtain ⟨h1, h2⟩ := h
 refine ⟨h1, ?_⟩
 rcases h2 with h2 | ⟨g, cap, cur, e1, e2, e3, e4⟩
 · exact .inl h2
 · exact .inr ⟨g, cap, cur, e1, hB g (by rw [e1]; rfl), e3, e4⟩
def IsBox (b : Nat) (T : TypeId) (cs : Array Value) (_ : Value) (X : World) : Prop := Box X b cs T
theorem IsBox.stable {b : Nat} {T : TypeId} {cs : Array Value} (v : Value) (X X' : World) (h : IsBox b T cs v X) (hb : Below X.heap.size X X') : IsBox b T cs v X' := Box.below h hb
section
variable {P : Program} {ρ : Operand → Value} {X : World}
theorem lv_store {o : Oper} {ty T : TypeId} {x' y : Operand} {b j : Nat} {v : Value} {vs : List Value} {cs : Array Value} (ho : o.op = .store ty x' y) (hx : ρ x' = .pointer (some ⟨b, j, none⟩)) (hy : ρ y = v) (hvs : v.cells.toList = vs)
 (hs : (P.info? ty).map (·.size) = some vs.length) (hb : Box X b cs T) (h1 : vs.all (·.oneCell') = true) (hj : Nat.ble (j + vs.length) cs.toList.length = true) :
 LeavesA P (fun k => k = b) 0 (IsBox b T (cs.toList.take j ++ vs ++ cs.toList.drop (j + vs.length)).toArray) X ((execOp ρ o).run P X) := by
 have hle : j + vs.length ≤ cs.size := by have := Nat.le_of_ble_eq_true hj; simpa using this
 have hst := storeCells_mid (P := P) b T vs j 0 cs X hb (by simpa using hle) (fun u hu => List.all_eq_true.1 h1 u hu)
 simp only [Nat.add_zero] at hst
 have hG : Grw (fun k _ => k = b) X (X.setRow b (cs.toList.take j ++ vs ++ cs.toList.drop (j + vs.length)).toArray) := setRow_grw (cs := cs) (T := T) (fr := (0, 0)) hb (by simp; omega)
 have hex : (execOp ρ o).run P X = .ok .skip (X.setRow b (cs.toList.take j ++ vs ++ cs.toList.drop (j + vs.length)).toArray) := by
  cases hq : P.info? ty with
  | none => rw [hq] at hs; cases hs
  | some q =>
   rw [hq] at hs
   have hsz : q.size = vs.length := by simpa using hs
   have hcs : v.cells.size = vs.length := by rw [← hvs]; simp
   unfold execOp
   simp only [ho, hx, hy, Instr.storeAt, Instr.sureAddr, Sem.run_bind, Sem.run_pure, Result.andThen_ok]
   simp [storeVar, sizeOf, typeInfo, hq, hsz, hcs, hvs, hst]
 rw [hex]
 refine ⟨⟨hG, fun k cs' T' fr hk => ?_⟩, setRow_heap X b cs _ T (0, 0) hb⟩
 obtain ⟨cs2, h2, h3⟩ := hG.shape k cs' T' fr hk
 exact ⟨cs2, h3, h2, by simp⟩
theorem lv_store0 {o : Oper} {ty T : TypeId} {x' y : Operand} {b : Nat} {v : Value} {vs : List Value} {cs : Array Value} (ho : o.op = .store ty x' y) (hx : ρ x' = .pointer (some ⟨b, 0, none⟩)) (hy : ρ y = v) (hvs : v.cells.toList = vs)
 (hs : (P.info? ty).map (·.size) = some vs.length) (hb : Box X b cs T) (h1 : vs.all (·.oneCell') = true) (hj : Nat.beq vs.length cs.toList.length = true) :
 LeavesA P (fun k => k = b) 0 (IsBox b T vs.toArray) X ((execOp ρ o).run P X) := by
 have e : vs.length = cs.toList.length := Nat.eq_of_beq_eq_true hj
 have h := lv_store ho hx hy hvs hs hb h1 (j := 0) (Nat.ble_eq_true_of_le (by omega))
 rw [Nat.zero_add, e, List.drop_length, List.take_zero, List.append_nil, List.nil_append] at h
 exact h
end
section
variable {M : List Nat} {w0 w X : World} {L : List Ent}
def nilE : Ent := .rd 0 0 none []
abbrev St.domAt {i : Nat} {e : Ent} (_ : St M w0 w L) (_ : L[i]? = some e) : Nat → Prop := e.dom
theorem St.growO {i : Nat} {e : Ent} (h : St M w0 w L) (hi : L[i]? = some e) (hX : Grw (fun b _ => e.dom b) w X) : St M w0 X (L.set i nilE) :=
 h.turn hi hX.os hX.tape hX.output hX.size (fun b hb hne => hX.block b hb hne) (fun j u hj => by simp at hj) (fun b hb => by have hb' : 0 ≤ b ∧ b < 0 := hb; omega)
theorem St.growBox {i b : Nat} {v : Value} {cs cs' : Array Value} {T : TypeId} (h : St M w0 w L) (hi : L[i]? = some (.box b cs T)) (hX : Grw (fun k _ => k = b) w X) (hq : IsBox b T cs' v X) : St M w0 X (L.set i (.box b cs' T)) := h.wrote hi hX hq
theorem St.ownB {i n sz : Nat} {v : Value} {T : TypeId} {xs : List Value} (h : St [] w X L) (hi : L[i]? = some (.row v n T sz xs)) : X.ownsRow w.heap.size T sz v n xs :=
 own_base (h.at_ hi) fun g hg => ((h.new _ (List.mem_of_getElem? hi) g hg).1).resolve_right (by simp)
end
section
variable {P : Program} {ρ : Operand → Value} {X : World} {d : Option Tmp} {ty : TypeId} {ps : String} {af : Array Edge} {g : Option (Nat × Bool)}
theorem ex_snil {x y : Operand} {t t' e : TypeId} {A : Option Addr} {n c : Nat} (ht : P.underlying t = some (.slice e)) (hgd : P.eqGuardType P.depth t = false) (hx : ρ x = .slice A n c) (hy : ρ y = .slice none 0 0) : (execOp ρ ⟨d, .binOp .eql t x y t', ty, ps, af, g⟩).run P X = .ok (.value (.bool A.isNone)) X := by
 have h := Lib.run_eql_slice_nil (P := P) X t e A n c 0 0 ht
 simp [execOp, hx, hy, eqGuard, hgd, h]
end
section
variable {P : Program} {ops : Array Oper} {rest : List Oper} {o : Oper} {a : Act} {Q : Exit → Act → World → Prop} {X : World} {N d : Nat} {l : List (Nat × Value)} {M : List Nat} {w : World} {E : List Ent}
theorem sl_append0 {s x : Operand} {t e : TypeId} {sz b c : Nat} {A : Option Addr} (ha : Has ds a N l) (hw : Region.wanted o (yielded ops a.tmps) = true) (ho : o.op = .call { callee := .builtin .append, args := #[s, x], argTypes := #[t, t] } ∧ o.dst = some d) (hN : Nat.blt d N = true)
 (ht : P.underlying t = some (.slice e)) (hs : (P.info? e).map (·.size) = some sz) (hv : a.eval s = .slice (some ⟨b, 0, none⟩) 0 0) (hx : a.eval x = .slice A 0 c) (k : ∀ a', Has ds a' N ((d, .slice (some ⟨b, 0, none⟩) 0 0) :: l) → wpList P ops Q rest a' X) : wpList P ops Q (o :: rest) a X := by
 refine sl_val (X' := X) (v := .slice (some ⟨b, 0, none⟩) 0 0) ha hw ?_ ho.2 hN k
 cases hq : P.info? e with
 | none => rw [hq] at hs; cases hs
 | some q =>
  unfold execOp
  simp [ho.1, resolve, invoke, builtin, hv, hx, Builtin.append_, run_underlying ht, sizeOf, typeInfo, hq, Builtin.lenOf, Builtin.firstCells, storeCells]
  cases A <;> simp [loadCells, loadCellsFrom, storeCells]
end
section
variable {P : Program} {ops : Array Oper} {rest : List Oper} {o : Oper} {a : Act} {Q : Exit → Act → World → Prop} {X : World} {N d : Nat} {l : List (Nat × Value)} {M : List Nat} {w : World} {E : List Ent}
theorem sl_updx {ι : Type} {f : FuncId} {args : Array Value} {i : Nat} {e : Ent} {M' : List Nat} {V : ι → Value} {F : ι → Prop} {e' : ι → Ent} (ha : Has ds a N l) (hw : Region.wanted o (yielded ops a.tmps) = true) (hx : (execOp a.eval o).run P X = .ok (.enter f args) X) (hd : o.dst = some d) (hN : Nat.blt d N = true) (hS : St M w X E) (hi : E[i]? = some e) (hM : ∀ b ∈ M', e.dom b)
 (hc : Calls P f args X fun r X' => ∃ p, r = .returned (V p) ∧ F p ∧ St M' X X' [e' p]) (k : ∀ p a' X', Has ds a' N ((d, V p) :: l) → F p → St M w X' (E.set i (e' p)) → wpList P ops Q rest a' X') : wpList P ops Q (o :: rest) a X :=
 sl_step hw fun K hK => by
  unfold Oper.wp
  rw [hx]
  refine hc.mono fun r X' ⟨p, hr, hF, hU⟩ => ?_
  subst hr
  refine hK _ _ ?_
  rw [hd]
  exact k p _ X' (ha.put hN _) hF (hS.calledM hi hU hM)
end
theorem row_dom {v : Value} {n sz : Nat} {T : TypeId} {xs : List Value} : ∀ b ∈ v.ownBlock.toList, (Ent.row v n T sz xs).dom b := fun b hb => by show v.ownBlock = some b; simpa using hb
theorem as_val {r : Result Next} {v v' : Value} {X : World} (hv : v = v') (h : r = .ok (.value v) X) : r = .ok (.value v') X := by rw [← hv]; exact h
theorem byt_below {w X : World} {b : Nat} {l : List UInt8} (h : BytB w b l) (hX : Below w.heap.size w X) : BytB X b l := by
 obtain ⟨cs, T, fr, h1, h2⟩ := h
 exact ⟨cs, T, fr, (hX.block b (Array.getElem?_eq_some_iff.1 h1).1).trans h1, h2⟩
end Go.Proofs.YtanicpgmbhfipaaGreatDoor
namespace Go.Proofs.YtanicpgmbhfipaaGreatDoor
set_option linter.unusedVariables false
set_option linter.unusedSimpArgs false
open Go.RowKit
variable {ds : List Deferred}
section
variable {P : Program} {ops : Array Oper} {rest : List Oper} {o : Oper} {a : Act} {Q : Exit → Act → World → Prop} {X : World} {N d : Nat} {l : List (Nat × Value)} {M : List Nat} {w : World} {E : List Ent}
end
section
variable {P : Program} {fn : Func} {R : Ending → World → Prop} {a : Act} {X : World} {N : Nat} {l : List (Nat × Value)}
end
end Go.Proofs.YtanicpgmbhfipaaGreatDoor
namespace Go.Proofs.YtanicpgmbhfipaaGreatDoor
set_option linter.unusedVariables false
set_option linter.unusedSimpArgs false
open Go.ChangeShapes Go.WideShapes Go.ChangeAt Go.RowKit
theorem flat_len {α : Type} {f : α → List Value} {n : Nat} (hf : ∀ x, (f x).length = n) (l : List α) : (l.flatMap f).length = n * l.length := by
 induction l with
 | nil => rfl
 | cons x l ih => rw [List.flatMap_cons, List.length_append, hf, ih, List.length_cons, Nat.mul_succ, Nat.add_comm]
theorem flatO_get {α : Type} {f : α → List Value} {n : Nat} (hf : ∀ x, (f x).length = n) (l : List α) : ∀ (k : Nat) (h : k < l.length) (j : Nat) (u : Value), (f l[k])[j]? = some u → (l.flatMap f)[k * n + j]? = some u := by
 induction l with
 | nil => intro k h; exact absurd h (by simp)
 | cons x l ih =>
  intro k h j u hu
  have hj : j < n := by rw [← hf]; exact (List.getElem?_eq_some_iff.1 hu).1
  rw [List.flatMap_cons]
  cases k with
  | zero => rw [List.getElem?_append_left (by rw [hf]; omega), Nat.zero_mul, Nat.zero_add]; exact hu
  | succ k =>
   rw [List.getElem?_append_right (by rw [hf, Nat.succ_mul]; omega), hf, ← ih k (by simpa using h) j u (by simpa using hu), Nat.succ_mul]
   congr 1; omega
theorem flat_inv {α : Type} {f : α → List Value} {n : Nat} (hf : ∀ x, (f x).length = n) (l : List α) {j : Nat} {u : Value} (h : (l.flatMap f)[j]? = some u) :
 ∃ (k : Nat) (hk : k < l.length) (r : Nat), r < n ∧ j = k * n + r ∧ (f l[k])[r]? = some u := by
 have hj := (List.getElem?_eq_some_iff.1 h).1
 rw [flat_len hf] at hj
 have hn : 0 < n := by
  rcases Nat.eq_zero_or_pos n with h0 | h0
  · subst h0; simp at hj
  · exact h0
 have hk : j / n < l.length := (Nat.div_lt_iff_lt_mul hn).2 (by rw [Nat.mul_comm]; exact hj)
 have hr : j % n < n := Nat.mod_lt _ hn
 have e : j = j / n * n + j % n := by rw [Nat.mul_comm]; exact (Nat.div_add_mod j n).symm
 refine ⟨j / n, hk, j % n, hr, e, ?_⟩
 have h1 : (f l[j / n])[j % n]? = some ((f l[j / n])[j % n]'(by rw [hf]; exact hr)) := List.getElem?_eq_getElem _
 have h2 := flatO_get hf l _ hk _ _ h1
 rw [← e, h] at h2
 rw [h1, ← h2]
theorem trod_list {H : Type} {enc : TypeId × Value → H} {P : Program} {W : World} {t e : TypeId} {fuel0 : Nat} {cs0 : List Value} {x0 : DataW H × List MemPlace}
 {α : Type} (f : α → List Value) (n : Nat) (hf : ∀ x, (f x).length = n) (G : α → Prop) (ht : P.underlying t = some (.slice e)) (hC : P.cellsOf e = n)
 (each : ∀ (fuel : Nat) (cs : List Value) (x : DataW H × List MemPlace), cs.length = n → DataW.trod enc P W 0 (fun _ => true) true fuel e cs = some x → ∃ y, cs = f y ∧ G y)
 (hfu : DataW.trod enc P W 0 (fun _ => true) true fuel0 t cs0 = some x0) :
 ∃ (A : Option Addr) (c : Nat) (l : List α), cs0 = [.slice A l.length c] ∧ l.length ≤ maxLen ∧ Rd W W.heap.size A (l.flatMap f) ∧ ∀ x ∈ l, G x := by
 rcases Go.Deep.open_slice ht hfu with ⟨hcs, _⟩ | ⟨a, len, cap, m, k, D, Pl, hcs, _, hl, hm, hmm, _, hx⟩
 · exact ⟨none, 0, [], hcs, Nat.zero_le _, Rd.nil _ _ _, fun x hx => absurd hx (List.not_mem_nil)⟩
 · obtain ⟨len0, rfl⟩ : ∃ n, n = len := ⟨_, rfl⟩
   obtain ⟨cap0, rfl⟩ : ∃ n, n = cap := ⟨_, rfl⟩
   subst hcs
   rw [if_pos rfl] at hmm
   rw [hC] at hx
   have each' : ∀ i, i < len0 → ∃ y : α, G y ∧ ∀ j, j < n → W.cell? ((a.add (i * n)).add j) = (f y)[j]? := by
    intro i hi
    obtain ⟨cs', hc, ht'⟩ := hx i (by omega)
    obtain ⟨_, hlen, hat⟩ := World.cells?_some hc
    obtain ⟨y, rfl, hy⟩ := each _ _ _ hlen ht'
    exact ⟨y, hy, hat⟩
   by_cases h0 : len0 = 0
   · subst h0
     exact ⟨some a, cap0, [], rfl, Nat.zero_le _, Rd.nil _ _ _, fun x hx => absurd hx (List.not_mem_nil)⟩
   · obtain ⟨y0, _, _⟩ := each' 0 (by omega)
     have hpos : Nonempty α := ⟨y0⟩
     obtain ⟨q, hq⟩ := Classical.axiomOfChoice (r := fun (i : Nat) (y : α) => i < len0 → G y ∧ ∀ j, j < n → W.cell? ((a.add (i * n)).add j) = (f y)[j]?) (fun i => by
      by_cases hi : i < len0
      · obtain ⟨y, hy⟩ := each' i hi; exact ⟨y, fun _ => hy⟩
      · exact ⟨y0, fun h => absurd h hi⟩)
     have hlen : ((List.range len0).map q).length = len0 := by rw [List.length_map, List.length_range]
     refine ⟨some a, cap0, (List.range len0).map q, by rw [hlen], by rw [hlen]; omega, ?_, ?_⟩
     · intro j u hj
       obtain ⟨i, hi, r', hr, rfl, hu⟩ := flat_inv hf _ hj
       rw [hlen] at hi
       have hc := (hq i hi).2 r' hr
       rw [List.getElem_map, List.getElem_range] at hu
       rw [hu] at hc
       obtain ⟨b, o, sp⟩ := a
       have hs : sp = none := by
        have h0 := (hq 0 (by omega)).2 0 (by omega)
        rw [List.getElem?_eq_getElem (by rw [hf]; omega)] at h0
        have := World.cell?_spot h0
        simpa [Addr.add] using this
       subst hs
       have ea : ((⟨b, o, none⟩ : Addr).add (i * n)).add r' = ⟨b, o + (i * n + r'), none⟩ := by
        unfold Addr.add
        by_cases h1 : i * n = 0 <;> by_cases h2 : r' = 0 <;> simp [h1, h2, Nat.add_assoc]
       rw [ea] at hc
       exact ⟨b, o, rfl, block_lt_of_cell hc, hc⟩
     · intro x hx
       obtain ⟨i, hi, rfl⟩ := List.mem_map.1 hx
       exact (hq i (List.mem_range.1 hi)).1
theorem open_val {H : Type} {enc : TypeId × Value → H} {P : Program} {W : World} {r : Reach} {base : Nat} {t : TypeId} {fs : Array Field} {v : Value} {d : DataW H} {p : List MemPlace}
 {α : Type} (f : α → List Value) (n : Nat) (G : α → Prop) (ht : P.underlying t = some (.struct fs)) (hC : P.cellsOf t = n)
 (each : ∀ (fuel : Nat) (cs : List Value) (x : DataW H × List MemPlace), cs.length = n → DataW.trod enc P W 0 (fun _ => true) true fuel t cs = some x → ∃ y, cs = f y ∧ G y)
 (hv : Value.okWide P W r base t v) (h : DataW.Trod enc P W 0 (fun _ => true) true t v d p) : ∃ y, v = .agg (f y).toArray ∧ G y := by
 obtain ⟨cs, rfl, hsz⟩ := okWide_struct ht hv
 obtain ⟨fuel, hfu⟩ := h
 obtain ⟨y, hy, h1⟩ := each _ _ _ (by show cs.toList.length = n; rw [Array.length_toList]; exact hsz.trans hC) hfu
 have : cs = (f y).toArray := by apply Array.toList_inj.1; exact hy
 exact ⟨y, by rw [this], h1⟩
theorem okWide_array {P : Program} {w : World} {r : Reach} {base : Nat} {t : TypeId} {v : Value} {n : Nat} {e : TypeId} (ht : P.underlying t = some (.array n e)) (h : Value.okWide P w r base t v) : ∃ cs, v = .agg cs ∧ cs.size = P.cellsOf t := by
 simp only [Value.okWide, ht] at h
 obtain ⟨cs, h1, h2, _⟩ := h
 exact ⟨cs, h1, h2⟩
theorem open_arr {H : Type} {enc : TypeId × Value → H} {P : Program} {W : World} {r : Reach} {base : Nat} {t e : TypeId} {k : Nat} {v : Value} {d : DataW H} {p : List MemPlace}
 {α : Type} (f : α → List Value) (n : Nat) (G : α → Prop) (ht : P.underlying t = some (.array k e)) (hC : P.cellsOf t = n)
 (each : ∀ (fuel : Nat) (cs : List Value) (x : DataW H × List MemPlace), cs.length = n → DataW.trod enc P W 0 (fun _ => true) true fuel t cs = some x → ∃ y, cs = f y ∧ G y)
 (hv : Value.okWide P W r base t v) (h : DataW.Trod enc P W 0 (fun _ => true) true t v d p) : ∃ y, v = .agg (f y).toArray ∧ G y := by
 obtain ⟨cs, rfl, hsz⟩ := okWide_array ht hv
 obtain ⟨fuel, hfu⟩ := h
 obtain ⟨y, hy, h1⟩ := each _ _ _ (by show cs.toList.length = n; rw [Array.length_toList]; exact hsz.trans hC) hfu
 have : cs = (f y).toArray := by apply Array.toList_inj.1; exact hy
 exact ⟨y, by rw [this], h1⟩
end Go.Proofs.YtanicpgmbhfipaaGreatDoor
namespace Go.Proofs.YtanicpgmbhfipaaGreatDoor
set_option linter.unusedVariables false
set_option linter.unusedSimpArgs false
open Go.RowKit Go.Sort
section
variable {α : Type} {f : α → List Value} {n : Nat}
theorem flat_drop (hf : ∀ x, (f x).length = n) (l : List α) (k : Nat) : (l.flatMap f).drop (k * n) = (l.drop k).flatMap f := by
 induction l generalizing k with
 | nil => simp
 | cons x l ih =>
  cases k with
  | zero => simp
  | succ k =>
   rw [List.flatMap_cons, List.drop_succ_cons, ← ih k, Nat.succ_mul, Nat.add_comm, ← List.drop_drop, List.drop_left' (hf x)]
theorem flat_take (hf : ∀ x, (f x).length = n) (l : List α) (k : Nat) : (l.flatMap f).take (k * n) = (l.take k).flatMap f := by
 induction l generalizing k with
 | nil => simp
 | cons x l ih =>
  cases k with
  | zero => simp
  | succ k =>
   rw [List.flatMap_cons, List.take_succ_cons, List.flatMap_cons, ← ih k, Nat.succ_mul, Nat.add_comm, List.take_append, List.take_of_length_le (by rw [hf]; omega), hf, Nat.add_sub_cancel_left]
theorem flatF_get (hf : ∀ x, (f x).length = n) (l : List α) {k : Nat} (hk : k < l.length) {j : Nat} {u : Value} (hu : (f l[k])[j]? = some u) : (l.flatMap f)[k * n + j]? = some u := by
 rw [← List.getElem?_drop, flat_drop hf, List.drop_eq_getElem_cons hk, List.flatMap_cons, List.getElem?_append_left (List.getElem?_eq_some_iff.1 hu).1]
 exact hu
theorem flatAt {X : World} {B b o : Nat} {l : List α} {k : Nat} (hf : ∀ x, (f x).length = n) (h : Rd X B (some ⟨b, o, none⟩) (l.flatMap f)) (hk : k < l.length) : ∀ (j : Nat) (u : Value), (f l[k])[j]? = some u → X.cell? ⟨b, o + k * n + j, none⟩ = some u := fun j u hu => by
 obtain ⟨b', o', e, _, hc⟩ := h (k * n + j) u (flatF_get hf l hk hu)
 injection e with e
 injection e with e1 e2
 subst e1 e2
 rw [Nat.add_assoc]; exact hc
end
end Go.Proofs.YtanicpgmbhfipaaGreatDoor
namespace Go.Proofs.YtanicpgmbhfipaaGreatDoor
set_option linter.unusedVariables false
set_option linter.unusedSimpArgs false
open Go.RowKit Go.Sort
variable {ds : List Deferred}
section
variable {P : Program} {ops : Array Oper} {rest : List Oper} {o : Oper} {a : Act} {Q : Exit → Act → World → Prop} {X : World} {N d : Nat} {l : List (Nat × Value)} {M : List Nat} {w : World} {E : List Ent}
def CopB (v0 : Value) (T : TypeId) (sz n : Nat) (xs : List Value) (u v : Value) (X : World) : Prop := v = u ∧ X.ownsRow 0 T sz v0 n xs
theorem CopB.stable {v0 u : Value} {T : TypeId} {sz n : Nat} {xs : List Value} (v : Value) (X X' : World) (h : CopB v0 T sz n xs u v X) (hb : Below X.heap.size X X') : CopB v0 T sz n xs u v X' := ⟨h.1, row_stable h.2 hb⟩
end
theorem wrap_u64 {n : Int} (h : 0 ≤ n ∧ n < 18446744073709551616) : IntKind.u64.wrap n = n := by
 have : IntKind.u64.wrap n = n % 18446744073709551616 := by simp [IntKind.wrap, IntKind.bits, IntKind.signed]
 rw [this]; omega
def NewY (B n : Nat) (l : List UInt8) (v : Value) (X : World) : Prop := ∃ b, v = .slice (some ⟨b, 0, none⟩) n n ∧ B ≤ b ∧ BytB X b l
theorem NewY.stable {B n : Nat} {l : List UInt8} (v : Value) (X X' : World) (h : NewY B n l v X) (hb : Below X.heap.size X X') : NewY B n l v X' := by
 obtain ⟨b, h1, h2, h3⟩ := h
 exact ⟨b, h1, h2, byt_below h3 hb⟩
end Go.Proofs.YtanicpgmbhfipaaGreatDoor
namespace Go.Proofs.YtanicpgmbhfipaaGreatDoor
set_option linter.unusedVariables false
set_option linter.unusedSimpArgs false
open Go.RowKit Go.Sort
section
variable {P : Program} {ρ : Operand → Value} {X : World} {d : Option Tmp} {ty : TypeId} {ps : String} {af : Array Edge} {g : Option (Nat × Bool)}
end
section
variable {M : List Nat} {w X X' : World} {L : List Ent}
end
section
variable {P : Program} {ρ : Operand → Value} {X : World} {d : Option Tmp} {ty : TypeId} {ps : String} {af : Array Edge} {g : Option (Nat × Bool)}
end
section
variable {P : Program} {ops : Array Oper} {rest : List Oper} {o : Oper} {a : Act} {Q : Exit → Act → World → Prop} {X : World}
end
end Go.Proofs.YtanicpgmbhfipaaGreatDoor
namespace Go.Proofs.YtanicpgmbhfipaaGreatDoor
set_option linter.unusedVariables false
set_option linter.unusedSimpArgs false
open Go.RowKit Go.Sort
variable {ds : List Deferred}
section
variable {M : List Nat} {w X X' : World} {L : List Ent}
end
section
variable {M : List Nat} {w X X' : World} {L : List Ent}
end
section
variable {P : Program} {ops : Array Oper} {rest : List Oper} {o : Oper} {a : Act} {Q : Exit → Act → World → Prop} {X : World} {N d : Nat} {l : List (Nat × Value)} {M : List Nat} {w : World} {L : List Ent}
end
section
variable {ι : Type} {V : ι → Value} {F : ι → Prop} {A B : ι → Value} {O : Nat → Prop} {K : Nat}
def PairU (V : ι → Value) (F : ι → Prop) (v : Value) (_ : World) : Prop := ∃ p, v = V p ∧ F p
theorem PairU.stable (v : Value) (X X' : World) (h : PairU V F v X) (_ : Below X.heap.size X X') : PairU V F v X' := h
theorem PairU.kp (v : Value) (X X' : World) (h : PairU V F v X) (_ : Kp O K X X') : PairU V F v X' := h
def ExtU0 (V : ι → Value) (F : ι → Prop) (v : Value) (_ : World) : Prop := ∃ p, F p ∧ ∃ b, V p = .tuple #[v, b]
theorem ExtU0.stable (v : Value) (X X' : World) (h : ExtU0 V F v X) (_ : Below X.heap.size X X') : ExtU0 V F v X' := h
theorem ExtU0.kp (v : Value) (X X' : World) (h : ExtU0 V F v X) (_ : Kp O K X X') : ExtU0 V F v X' := h
def ExtU1 (V : ι → Value) (F : ι → Prop) (v : Value) (_ : World) : Prop := ∃ p, F p ∧ ∃ a, V p = .tuple #[a, v]
theorem ExtU1.stable (v : Value) (X X' : World) (h : ExtU1 V F v X) (_ : Below X.heap.size X X') : ExtU1 V F v X' := h
theorem ExtU1.kp (v : Value) (X X' : World) (h : ExtU1 V F v X) (_ : Kp O K X X') : ExtU1 V F v X' := h
variable {P : Program} {ρ : Operand → Value} {X : World} {d : Option Tmp} {ty : TypeId} {ps : String} {af : Array Edge} {g : Option (Nat × Bool)}
end
end Go.Proofs.YtanicpgmbhfipaaGreatDoor
