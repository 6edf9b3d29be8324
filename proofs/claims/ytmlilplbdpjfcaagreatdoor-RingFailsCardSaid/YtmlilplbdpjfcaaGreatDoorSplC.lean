/-
  SPL, part 7: 'append' in regions that draw their order. No program in sight.
  SPL, part 8: 'make' of rows, copies between rows. No program in sight.
  SPL, part 9: maps with numbers as keys. No program in sight.
  SPL, part 10: two entries as one, one as two. No program in sight.
-/
import Derived.Test.YtmlilplbdpjfcaaGreatDoorFlowK
import Derived.Lib.SliceRun
import Derived.MapKept
namespace Go.Proofs.YtmlilplbdpjfcaaGreatDoor
set_option linter.unusedVariables false
set_option linter.unusedSimpArgs false
open Go.RowKit Go.Sort
theorem below_of {w X : World} (h : Grw (fun b _ => w.heap.size ≤ b) w X) : Below w.heap.size w X := ⟨h.os, h.tape, h.output, h.size, fun b hb => h.block b hb (fun h => by omega)⟩
theorem IsVal.kp {u : Value} {O : Nat → Prop} {K : Nat} (v : Value) (X X' : World) (h : IsVal u v X) (_ : Kp O K X X') : IsVal u v X' := h
theorem box_kp {X X' : World} {b K : Nat} {cs : Array Value} {T : TypeId} {O : Nat → Prop} (h : Box X b cs T) (hK : cs.size ≤ K) (hX : Kp O K X X') : Box X' b cs T := by
 obtain ⟨cs', h1, h2, h3⟩ := hX.2 b cs T (0, 0) h
 have h4 : cs' = cs := by
  apply Array.ext'
  rw [List.take_of_length_le (by simpa [h2] using hK), List.take_of_length_le (by simpa using hK)] at h3
  exact h3
 subst h4
 exact h1
theorem NewB.kpK {B K : Nat} {f : Nat → Value} {cs : Array Value} {T : TypeId} {O : Nat → Prop} (hK : cs.size ≤ K) (v : Value) (X X' : World) (h : NewB B f cs T v X) (hX : Kp O K X X') : NewB B f cs T v X' := by
 obtain ⟨b, h1, h2, h3⟩ := h
 exact ⟨b, h1, h2, box_kp h3 hK hX⟩
theorem NewB.kpO {B K : Nat} {f : Nat → Value} {cs : Array Value} {T : TypeId} {O : Nat → Prop} (hO : ∀ b, O b → b < B) (v : Value) (X X' : World) (h : NewB B f cs T v X) (hX : Kp O K X X') : NewB B f cs T v X' := by
 obtain ⟨b, h1, h2, h3⟩ := h
 exact ⟨b, h1, h2, (hX.1.block b h3.lt (fun h => by have := hO b h; omega)).trans h3⟩
theorem row_kp {X X' : World} {B n sz K : Nat} {v : Value} {xs : List Value} {T : TypeId} {O : Nat → Prop} (h : X.ownsRow B T sz v n xs) (hK : n * sz ≤ K) (hX : Kp O K X X') : X'.ownsRow B T sz v n xs := by
 obtain ⟨h1, h2⟩ := h
 refine ⟨h1, ?_⟩
 rcases h2 with h2 | ⟨g, cap, cur, e1, e2, e3, e4, e5, e6, e7⟩
 · exact .inl h2
 · obtain ⟨cs', k1, k2, k3⟩ := hX.2 g cur T (0, 0) e3
   refine .inr ⟨g, cap, cs', e1, e2, k1, e4, e5, k2.trans e6, ?_⟩
   have := congrArg (List.take (n * sz)) k3
   rw [List.take_take, List.take_take, Nat.min_eq_left hK] at this
   rw [this]; exact e7
theorem row_kpO {X X' : World} {B n sz K : Nat} {v : Value} {xs : List Value} {T : TypeId} {O : Nat → Prop} (h : X.ownsRow B T sz v n xs) (hO : ∀ b, O b → b < B) (hX : Kp O K X X') : X'.ownsRow B T sz v n xs := by
 obtain ⟨h1, h2⟩ := h
 refine ⟨h1, ?_⟩
 rcases h2 with h2 | ⟨g, cap, cur, e1, e2, e3, e4⟩
 · exact .inl h2
 · exact .inr ⟨g, cap, cur, e1, e2, (hX.1.block g (Array.getElem?_eq_some_iff.1 e3).1 (fun h => by have := hO g h; omega)).trans e3, e4⟩
def OwnC (B : Nat) (T : TypeId) (sz n : Nat) (xs : List Value) (v : Value) (X : World) : Prop := OwnB B T sz n xs v X ∧ (n = 0 → ∃ A, v = .slice A n n)
theorem OwnC.stable {B : Nat} {T : TypeId} {sz n : Nat} {xs : List Value} (v : Value) (X X' : World) (h : OwnC B T sz n xs v X) (hb : Below X.heap.size X X') : OwnC B T sz n xs v X' := ⟨OwnB.stable v X X' h.1 hb, h.2⟩
theorem OwnB.kpK {B K : Nat} {T : TypeId} {sz n : Nat} {xs : List Value} {O : Nat → Prop} (hK : n * sz ≤ K) (v : Value) (X X' : World) (h : OwnB B T sz n xs v X) (hX : Kp O K X X') : OwnB B T sz n xs v X' := by
 obtain ⟨A, c, h1, h2⟩ := h
 exact ⟨A, c, h1, row_kp h2 hK hX⟩
theorem OwnB.kpO {B K : Nat} {T : TypeId} {sz n : Nat} {xs : List Value} {O : Nat → Prop} (hO : ∀ b, O b → b < B) (v : Value) (X X' : World) (h : OwnB B T sz n xs v X) (hX : Kp O K X X') : OwnB B T sz n xs v X' := by
 obtain ⟨A, c, h1, h2⟩ := h
 exact ⟨A, c, h1, row_kpO h2 hO hX⟩
theorem OwnC.kpK {B K : Nat} {T : TypeId} {sz n : Nat} {xs : List Value} {O : Nat → Prop} (hK : n * sz ≤ K) (v : Value) (X X' : World) (h : OwnC B T sz n xs v X) (hX : Kp O K X X') : OwnC B T sz n xs v X' := ⟨OwnB.kpK hK v X X' h.1 hX, h.2⟩
theorem OwnC.kpO {B K : Nat} {T : TypeId} {sz n : Nat} {xs : List Value} {O : Nat → Prop} (hO : ∀ b, O b → b < B) (v : Value) (X X' : World) (h : OwnC B T sz n xs v X) (hX : Kp O K X X') : OwnC B T sz n xs v X' := ⟨OwnB.kpO hO v X X' h.1 hX, h.2⟩
theorem NewB.rd {B m : Nat} {cs : Array Value} {T : TypeId} {v : Value} {X : World} (h : NewB B (fun b => .slice (some ⟨b, 0, none⟩) m m) cs T v X) : ∃ A c, v = .slice A m c ∧ Rd X X.heap.size A cs.toList := by
 obtain ⟨b, h1, _, h3⟩ := h
 exact ⟨_, _, h1, fun j u hj => ⟨b, 0, rfl, h3.lt, by rw [Nat.zero_add]; exact box_cell h3 hj⟩⟩
def AppB (B : Nat) (v0 : Value) (T : TypeId) (sz n : Nat) (xs : List Value) (v : Value) (X : World) : Prop := ∃ A c, v = .slice A n c ∧ X.ownsRow 0 T sz (.slice A n c) n xs ∧ (v.ownBlock = v0.ownBlock ∨ ∀ g, v.ownBlock = some g → B ≤ g)
theorem row_stable {X X' : World} {B n sz : Nat} {v : Value} {xs : List Value} {T : TypeId} (h : X.ownsRow B T sz v n xs) (hX : Below X.heap.size X X') : X'.ownsRow B T sz v n xs := by
 obtain ⟨h1, h2⟩ := h
 refine ⟨h1, ?_⟩
 rcases h2 with h2 | ⟨g, cap, cur, e1, e2, e3, e4⟩
 · exact .inl h2
 · exact .inr ⟨g, cap, cur, e1, e2, (hX.block g (Array.getElem?_eq_some_iff.1 e3).1).trans e3, e4⟩
theorem AppB.stable {B : Nat} {v0 : Value} {T : TypeId} {sz n : Nat} {xs : List Value} (v : Value) (X X' : World) (h : AppB B v0 T sz n xs v X) (hb : Below X.heap.size X X') : AppB B v0 T sz n xs v X' := by
 obtain ⟨A, c, h1, h2, h3⟩ := h
 exact ⟨A, c, h1, row_stable h2 hb, h3⟩
theorem own_base {X : World} {B n sz : Nat} {v : Value} {xs : List Value} {T : TypeId} (h : X.ownsRow 0 T sz v n xs) (hB : ∀ g, v.ownBlock = some g → B ≤ g) : X.ownsRow B T sz v n xs := by
 obtain ⟨h1, h2⟩ := h
 refine ⟨h1, ?_⟩
 rcases h2 with h2 | ⟨g, cap, cur, e1, e2, e3, e4⟩
 · exact .inl h2
 · exact .inr ⟨g, cap, cur, e1, hB g (by rw [e1]; rfl), e3, e4⟩
def IsBox (b : Nat) (T : TypeId) (cs : Array Value) (_ : Value) (X : World) : Prop := Box X b cs T
theorem IsBox.stable {b : Nat} {T : TypeId} {cs : Array Value} (v : Value) (X X' : World) (h : IsBox b T cs v X) (hb : Below X.heap.size X X') : IsBox b T cs v X' := Box.below h hb
section
variable {P : Program} {ρ : Operand → Value} {X : World}
theorem lv_app {o : Oper} {s x : Operand} {t e : TypeId} {z v1 v2 : Value} {n m sz bytes B K : Nat} {xs news : List Value} (ho : o.op = .call { callee := .builtin .append, args := #[s, x], argTypes := #[t, t] })
 (ht : P.underlying t = some (.slice e)) (hinfo : (P.info? e).map (fun i => (i.zero, i.size, i.bytes)) = some (some z, sz, bytes)) (hz : z.cells.size = sz) (hsz : Nat.blt 0 sz = true) (hs : ρ s = v1) (hx : ρ x = v2)
 (hO : OwnC B e sz n xs v1 X) (h2 : ∃ A c, v2 = .slice A m c ∧ Rd X X.heap.size A news) (hl : news.length = m * sz) (h1 : ∀ u ∈ news, u.oneCell' = true) (hb : n + m ≤ 1000000 ∧ bytes ≤ 1000000) (hB : B ≤ X.heap.size) (hK : n ≠ 0 → K ≤ n * sz) :
 LeavesA P (fun b => B ≤ b) K (OwnB B e sz (n + m) (xs ++ news)) X ((execOp ρ o).run P X) := by
 obtain ⟨q, hq, hz1, hz2, hz3⟩ := info_all hinfo
 obtain ⟨⟨A1, c1, rfl, hown⟩, hc⟩ := hO
 obtain ⟨A, c, rfl, hr⟩ := h2
 have hmul : (n + m) * bytes ≤ 1000000 * 1000000 := Nat.mul_le_mul hb.1 hb.2
 obtain ⟨v', w', hrun, k2, k3, k5⟩ := run_append_kp (P := P) X t o.type e q z sz bytes ht hq hz1 hz2 hz3 hz (Nat.lt_of_lt_of_le (Nat.lt_succ_self 0) (Nat.le_of_ble_eq_true hsz)) _ n xs (ownsRow_mono hown (Nat.zero_le _)) A m c news hl hr h1 (by unfold maxLen; omega) (by omega) K (by
  by_cases h0 : n = 0
  · exact .inr (hc h0)
  · exact .inl (hK h0))
 have hex : (execOp ρ o).run P X = .ok (.value v') w' := by
  unfold execOp
  simp only [ho, resolve, invoke, builtin, Sem.run_bind, Sem.run_pure, Result.andThen_ok, List.map_toArray, List.map_cons, List.map_nil, hs, hx, hrun]
 rw [hex]
 have hlt : ∀ g, (Value.slice A1 n c1).ownBlock = some g → B ≤ g := fun g hg => (hown.lt g hg).1
 refine ⟨k3.weaken hlt, ?_⟩
 obtain ⟨A', c', rfl, _⟩ := ownsRow_form k2
 refine ⟨A', c', rfl, own_base k2 fun g hg => ?_⟩
 rcases k5 with k5 | k5
 · exact hlt g (k5 ▸ hg)
 · rw [k5] at hg; injection hg with hg; omega
theorem lv_appo {o : Oper} {s x : Operand} {t e : TypeId} {z v1 v2 : Value} {n m sz bytes B : Nat} {xs news : List Value} (ho : o.op = .call { callee := .builtin .append, args := #[s, x], argTypes := #[t, t] })
 (ht : P.underlying t = some (.slice e)) (hinfo : (P.info? e).map (fun i => (i.zero, i.size, i.bytes)) = some (some z, sz, bytes)) (hz : z.cells.size = sz) (hsz : Nat.blt 0 sz = true) (hs : ρ s = v1) (hx : ρ x = v2)
 (hown : X.ownsRow 0 e sz v1 n xs) (h2 : ∃ A c, v2 = .slice A m c ∧ Rd X X.heap.size A news) (hl : news.length = m * sz) (h1 : ∀ u ∈ news, u.oneCell' = true) (hb : n + m ≤ 1000000 ∧ bytes ≤ 1000000) (hB : B ≤ X.heap.size) :
 LeavesA P (fun b => v1.ownBlock = some b) 0 (AppB B v1 e sz (n + m) (xs ++ news)) X ((execOp ρ o).run P X) := by
 obtain ⟨q, hq, hz1, hz2, hz3⟩ := info_all hinfo
 obtain ⟨A, c, rfl, hr⟩ := h2
 have hmul : (n + m) * bytes ≤ 1000000 * 1000000 := Nat.mul_le_mul hb.1 hb.2
 obtain ⟨v', w', hrun, k2, k3, k5⟩ := run_append_kp (P := P) X t o.type e q z sz bytes ht hq hz1 hz2 hz3 hz (Nat.lt_of_lt_of_le (Nat.lt_succ_self 0) (Nat.le_of_ble_eq_true hsz)) v1 n xs hown A m c news hl hr h1 (by unfold maxLen; omega) (by omega) 0 (.inl (Nat.zero_le _))
 have hex : (execOp ρ o).run P X = .ok (.value v') w' := by
  unfold execOp
  simp only [ho, resolve, invoke, builtin, Sem.run_bind, Sem.run_pure, Result.andThen_ok, List.map_toArray, List.map_cons, List.map_nil, hs, hx, hrun]
 rw [hex]
 refine ⟨k3, ?_⟩
 obtain ⟨A', c', rfl, _⟩ := ownsRow_form k2
 refine ⟨A', c', rfl, k2, ?_⟩
 rcases k5 with k5 | k5
 · exact .inl k5
 · exact .inr fun g hg => by rw [k5] at hg; injection hg with hg; omega
theorem lv_store {o : Oper} {ty T : TypeId} {x' y : Operand} {b j : Nat} {v : Value} {vs : List Value} {cs : Array Value} (ho : o.op = .store ty x' y) (hx : ρ x' = .pointer (some ⟨b, j, none⟩)) (hy : ρ y = v) (hvs : v.cells.toList = vs)
 (hs : (P.info? ty).map (·.size) = some vs.length) (hb : Box X b cs T) (h1 : vs.all (·.oneCell') = true) (hj : Nat.ble (j + vs.length) cs.toList.length = true) :
 LeavesA P (fun k => k = b) 0 (IsBox b T (cs.toList.take j ++ vs ++ cs.toList.drop (j + vs.length)).toArray) X ((execOp ρ o).run P X) := by
 have hle : j + vs.length ≤ cs.size := by have := Nat.le_of_ble_eq_true hj; simpa using this
 have hst := storeCells_mid (P := P) b T vs j 0 cs X hb (by simpa using hle) (fun u hu => List.all_eq_true.1 h1 u hu)
 simp only [Nat.add_zero] at hst
 have hG : Grw (fun k _ => k = b) X (X.setRow b (cs.toList.take j ++ vs ++ cs.toList.drop (j + vs.length)).toArray) := setRow_grw (cs := cs) (T := T) (fr := (0, 0)) hb (by simp; omega)
 have hex : (execOp ρ o).run P X = .ok .skip (X.setRow b (cs.toList.take j ++ vs ++ cs.toList.drop (j + vs.length)).toArray) := by
  cases hq : P.info? ty with
  | none => rw [hq] at hs; cases hs
  | some q =>
   rw [hq] at hs
   have hsz : q.size = vs.length := by simpa using hs
   have hcs : v.cells.size = vs.length := by rw [← hvs]; simp
   unfold execOp
   simp only [ho, hx, hy, Instr.storeAt, Instr.sureAddr, Sem.run_bind, Sem.run_pure, Result.andThen_ok]
   simp [storeVar, sizeOf, typeInfo, hq, hsz, hcs, hvs, hst]
 rw [hex]
 refine ⟨⟨hG, fun k cs' T' fr hk => ?_⟩, setRow_heap X b cs _ T (0, 0) hb⟩
 obtain ⟨cs2, h2, h3⟩ := hG.shape k cs' T' fr hk
 exact ⟨cs2, h3, h2, by simp⟩
theorem lv_store0 {o : Oper} {ty T : TypeId} {x' y : Operand} {b : Nat} {v : Value} {vs : List Value} {cs : Array Value} (ho : o.op = .store ty x' y) (hx : ρ x' = .pointer (some ⟨b, 0, none⟩)) (hy : ρ y = v) (hvs : v.cells.toList = vs)
 (hs : (P.info? ty).map (·.size) = some vs.length) (hb : Box X b cs T) (h1 : vs.all (·.oneCell') = true) (hj : Nat.beq vs.length cs.toList.length = true) :
 LeavesA P (fun k => k = b) 0 (IsBox b T vs.toArray) X ((execOp ρ o).run P X) := by
 have e : vs.length = cs.toList.length := Nat.eq_of_beq_eq_true hj
 have h := lv_store ho hx hy hvs hs hb h1 (j := 0) (Nat.ble_eq_true_of_le (by omega))
 rw [Nat.zero_add, e, List.drop_length, List.take_zero, List.append_nil, List.nil_append] at h
 exact h
theorem lv_ownc {f : FuncId} {args : Array Value} {B B' n sz : Nat} {T : TypeId} {xs : List Value} {r : Result Next} (hx : r = .ok (.enter f args) X) (hc : Calls P f args X fun e X' => ∃ A c, e = .returned (.slice A n c) ∧ (n = 0 → c = 0) ∧ X'.ownsRow B' T sz (.slice A n c) n xs ∧ Below X.heap.size X X') (hB : B ≤ B') : LeavesR P (OwnC B T sz n xs) X r := by
 subst hx
 exact ⟨rfl, hc.mono fun e X' ⟨A, c, he, h0, ho, hb⟩ => ⟨_, he, hb, ⟨A, c, rfl, ownsRow_mono ho hB⟩, fun hn => ⟨A, by rw [h0 hn, hn]⟩⟩⟩
end
section
variable {M : List Nat} {w0 w X : World} {L : List Ent}
def nilE : Ent := .rd 0 0 none []
abbrev St.domAt {i : Nat} {e : Ent} (_ : St M w0 w L) (_ : L[i]? = some e) : Nat → Prop := e.dom
theorem St.growO {i : Nat} {e : Ent} (h : St M w0 w L) (hi : L[i]? = some e) (hX : Grw (fun b _ => e.dom b) w X) : St M w0 X (L.set i nilE) :=
 h.turn hi hX.os hX.tape hX.output hX.size (fun b hb hne => hX.block b hb hne) (fun j u hj => by simp at hj) (fun b hb => by have hb' : 0 ≤ b ∧ b < 0 := hb; omega)
theorem St.growBox {i b : Nat} {v : Value} {cs cs' : Array Value} {T : TypeId} (h : St M w0 w L) (hi : L[i]? = some (.box b cs T)) (hX : Grw (fun k _ => k = b) w X) (hq : IsBox b T cs' v X) : St M w0 X (L.set i (.box b cs' T)) := h.wrote hi hX hq
theorem St.growRow {i n n' sz : Nat} {v v' : Value} {T : TypeId} {xs xs' : List Value} (h : St M w0 w L) (hi : L[i]? = some (.row v n T sz xs)) (hX : Grw (fun b _ => v.ownBlock = some b) w X) (hq : AppB w.heap.size v T sz n' xs' v' X) :
 ∃ A c, v' = .slice A n' c ∧ St M w0 X (L.set i (.row (.slice A n' c) n' T sz xs')) := by
 obtain ⟨A, c, rfl, h2, h3⟩ := hq
 refine ⟨A, c, rfl, h.turn hi hX.os hX.tape hX.output hX.size (fun b hb hne => hX.block b hb hne) h2 (fun b hb => ⟨?_, (h2.lt b hb).2⟩)⟩
 rcases h3 with h3 | h3
 · left; show v.ownBlock = some b; rw [← h3]; exact hb
 · right; exact h3 b hb
theorem St.ownB {i n sz : Nat} {v : Value} {T : TypeId} {xs : List Value} (h : St [] w X L) (hi : L[i]? = some (.row v n T sz xs)) : X.ownsRow w.heap.size T sz v n xs :=
 own_base (h.at_ hi) fun g hg => ((h.new _ (List.mem_of_getElem? hi) g hg).1).resolve_right (by simp)
end
section
variable {P : Program} {ρ : Operand → Value} {X : World} {d : Option Tmp} {ty : TypeId} {ps : String} {af : Array Edge} {g : Option (Nat × Bool)}
theorem ex_snil {x y : Operand} {t t' e : TypeId} {A : Option Addr} {n c : Nat} (ht : P.underlying t = some (.slice e)) (hgd : P.eqGuardType P.depth t = false) (hx : ρ x = .slice A n c) (hy : ρ y = .slice none 0 0) : (execOp ρ ⟨d, .binOp .eql t x y t', ty, ps, af, g⟩).run P X = .ok (.value (.bool A.isNone)) X := by
 have h := Lib.run_eql_slice_nil (P := P) X t e A n c 0 0 ht
 simp [execOp, hx, hy, eqGuard, hgd, h]
end
section
variable {P : Program} {ops : Array Oper} {rest : List Oper} {o : Oper} {a : Act} {Q : Exit → Act → World → Prop} {X : World} {N d : Nat} {l : List (Nat × Value)} {M : List Nat} {w : World} {E : List Ent}
theorem sl_append0 {s x : Operand} {t e : TypeId} {sz b c : Nat} {A : Option Addr} (ha : Has a N l) (hw : Region.wanted o (yielded ops a.tmps) = true) (ho : o.op = .call { callee := .builtin .append, args := #[s, x], argTypes := #[t, t] } ∧ o.dst = some d) (hN : Nat.blt d N = true)
 (ht : P.underlying t = some (.slice e)) (hs : (P.info? e).map (·.size) = some sz) (hv : a.eval s = .slice (some ⟨b, 0, none⟩) 0 0) (hx : a.eval x = .slice A 0 c) (k : ∀ a', Has a' N ((d, .slice (some ⟨b, 0, none⟩) 0 0) :: l) → wpList P ops Q rest a' X) : wpList P ops Q (o :: rest) a X := by
 refine sl_val (X' := X) (v := .slice (some ⟨b, 0, none⟩) 0 0) ha hw ?_ ho.2 hN k
 cases hq : P.info? e with
 | none => rw [hq] at hs; cases hs
 | some q =>
  unfold execOp
  simp [ho.1, resolve, invoke, builtin, hv, hx, Builtin.append_, run_underlying ht, sizeOf, typeInfo, hq, Builtin.lenOf, Builtin.firstCells, storeCells]
  cases A <;> simp [loadCells, loadCellsFrom, storeCells]
end
section
variable {P : Program} {ops : Array Oper} {rest : List Oper} {o : Oper} {a : Act} {Q : Exit → Act → World → Prop} {X : World} {N d : Nat} {l : List (Nat × Value)} {M : List Nat} {w : World} {E : List Ent}
theorem sl_ownt {f : FuncId} {args : Array Value} {B n sz : Nat} {T : TypeId} {xs : List Value} {V : Option Addr → Nat → Value} (ha : Has a N l) (hw : Region.wanted o (yielded ops a.tmps) = true) (hx : (execOp a.eval o).run P X = .ok (.enter f args) X) (hd : o.dst = some d) (hN : Nat.blt d N = true) (hS : St M w X E)
 (hc : Calls P f args X fun e X' => ∃ A c, e = .returned (V A c) ∧ X'.ownsRow B T sz (.slice A n c) n xs ∧ Below X.heap.size X X') (hB : X.heap.size ≤ B)
 (k : ∀ A c a' X', Has a' N ((d, V A c) :: l) → St M w X' (.row (.slice A n c) n T sz xs :: E) → wpList P ops Q rest a' X') : wpList P ops Q (o :: rest) a X :=
 sl_step hw fun K hK => by
  unfold Oper.wp
  rw [hx]
  refine hc.mono fun r X' ⟨A, c, hr, ho, hb⟩ => ?_
  subst hr
  refine hK _ _ ?_
  rw [hd]
  exact k A c _ X' (ha.put hN _) (hS.add hb (e := .row _ _ _ _ _) (ownsRow_mono ho (Nat.zero_le _)) (fun g hg => ⟨Nat.le_trans hB (ho.lt g hg).1, (ho.lt g hg).2⟩))
theorem sl_updx {ι : Type} {f : FuncId} {args : Array Value} {i : Nat} {e : Ent} {M' : List Nat} {V : ι → Value} {F : ι → Prop} {e' : ι → Ent} (ha : Has a N l) (hw : Region.wanted o (yielded ops a.tmps) = true) (hx : (execOp a.eval o).run P X = .ok (.enter f args) X) (hd : o.dst = some d) (hN : Nat.blt d N = true) (hS : St M w X E) (hi : E[i]? = some e) (hM : ∀ b ∈ M', e.dom b)
 (hc : Calls P f args X fun r X' => ∃ p, r = .returned (V p) ∧ F p ∧ St M' X X' [e' p]) (k : ∀ p a' X', Has a' N ((d, V p) :: l) → F p → St M w X' (E.set i (e' p)) → wpList P ops Q rest a' X') : wpList P ops Q (o :: rest) a X :=
 sl_step hw fun K hK => by
  unfold Oper.wp
  rw [hx]
  refine hc.mono fun r X' ⟨p, hr, hF, hU⟩ => ?_
  subst hr
  refine hK _ _ ?_
  rw [hd]
  exact k p _ X' (ha.put hN _) hF (hS.calledM hi hU hM)
end
theorem own_prefix {X : World} {B n k c sz : Nat} {A : Option Addr} {xs : List Value} {T : TypeId} (h : X.ownsRow B T sz (.slice A n c) n xs) (hk : k ≤ n) (ha : k = n ∨ A ≠ none) : X.ownsRow B T sz (.slice A k c) k (xs.take (k * sz)) := by
 obtain ⟨h1, h2⟩ := h
 have hle : k * sz ≤ n * sz := Nat.mul_le_mul_right _ hk
 rcases h2 with ⟨e0, e1⟩ | ⟨g, cap, cur, e1, e2, e3, e4, e5, e6, e7⟩
 · injection e0 with a1 a2 a3
   subst a1 a2 a3
   have : k = 0 := by omega
   subst this
   exact ⟨by simp, .inl ⟨rfl, rfl⟩⟩
 · injection e1 with a1 a2 a3
   subst a1 a3
   refine ⟨by rw [List.length_take]; omega, .inr ⟨g, c, cur, rfl, e2, e3, Nat.le_trans hk e4, e5, e6, ?_⟩⟩
   rw [← e7, List.take_take, Nat.min_eq_left hle]
theorem rd_take {X : World} {B n : Nat} {A : Option Addr} {xs : List Value} (h : Rd X B A xs) : Rd X B A (xs.take n) := fun j u hj => h j u (by
 rw [List.getElem?_take] at hj
 split at hj
 · exact hj
 · cases hj)
theorem row_dom {v : Value} {n sz : Nat} {T : TypeId} {xs : List Value} : ∀ b ∈ v.ownBlock.toList, (Ent.row v n T sz xs).dom b := fun b hb => by show v.ownBlock = some b; simpa using hb
theorem bits_or16 {a b : Nat} (ha : a < 256) (hb : b < 256) : bits .or .u16 (a : Int) ((b : Int) * 256) = a + 256 * b := by
 have h : (b : Int) * 256 = ((256 * b : Nat) : Int) := by omega
 rw [h]
 show IntKind.u16.wrap ((BitVec.ofInt 16 (a : Int) ||| BitVec.ofInt 16 ((256 * b : Nat) : Int)).toNat : Int) = _
 rw [BitVec.ofInt_natCast, BitVec.ofInt_natCast, BitVec.toNat_or, BitVec.toNat_ofNat, BitVec.toNat_ofNat, Nat.mod_eq_of_lt (by omega), Nat.mod_eq_of_lt (by omega), Nat.or_comm]
 have := Nat.two_pow_add_eq_or_of_lt (i := 8) (b := a) (by omega) b
 simp only [Nat.reducePow] at this
 rw [← this, wrap_u16 (by omega)]
 omega
theorem bits_or32 {a b : Nat} (ha : a < 65536) (hb : b < 65536) : bits .or .u32 (a : Int) ((b : Int) * 65536) = a + 65536 * b := by
 have h : (b : Int) * 65536 = ((65536 * b : Nat) : Int) := by omega
 rw [h]
 show IntKind.u32.wrap ((BitVec.ofInt 32 (a : Int) ||| BitVec.ofInt 32 ((65536 * b : Nat) : Int)).toNat : Int) = _
 rw [BitVec.ofInt_natCast, BitVec.ofInt_natCast, BitVec.toNat_or, BitVec.toNat_ofNat, BitVec.toNat_ofNat, Nat.mod_eq_of_lt (by omega), Nat.mod_eq_of_lt (by omega), Nat.or_comm]
 have := Nat.two_pow_add_eq_or_of_lt (i := 16) (b := a) (by omega) b
 simp only [Nat.reducePow] at this
 rw [← this, wrap_u32 (by omega)]
 omega
theorem byt_u8 (m : Int) : Value.int .u8 (IntKind.u8.wrap m) = byteV (UInt8.ofNat (m % 256).toNat) := by
 unfold byteV
 congr 1
 have h1 : IntKind.u8.wrap m = m % 256 := by
  have := wrap_u8 (n := m % 256) (by omega)
  rw [← this]
  simp [IntKind.wrap, IntKind.bits, IntKind.signed]
 rw [h1]
 have h2 : (m % 256).toNat < 256 := by omega
 rw [UInt8.toNat_ofNat', Nat.mod_eq_of_lt h2]
 omega
theorem as_val {r : Result Next} {v v' : Value} {X : World} (hv : v = v') (h : r = .ok (.value v) X) : r = .ok (.value v') X := by rw [← hv]; exact h
theorem byt_below {w X : World} {b : Nat} {l : List UInt8} (h : BytB w b l) (hX : Below w.heap.size w X) : BytB X b l := by
 obtain ⟨cs, T, fr, h1, h2⟩ := h
 exact ⟨cs, T, fr, (hX.block b (Array.getElem?_eq_some_iff.1 h1).1).trans h1, h2⟩
theorem bytAt {X : World} {b o i : Nat} {l : List UInt8} (h : BytB X b l) (hi : o + i < l.length) : ∀ (j : Nat) (u : Value), [byteV (l.getD (o + i) 0)][j]? = some u → X.cell? ⟨b, o + i * 1 + j, none⟩ = some u := fun j u hu => by
 have hj : j < 1 := (List.getElem?_eq_some_iff.1 hu).1
 obtain rfl : j = 0 := by omega
 injection hu with hu
 rw [← hu, Nat.mul_one, Nat.add_zero]
 exact byt_cell h hi
theorem bits_or8 {a b : Nat} (ha : a < 256) (hb : b < 256) : bits .or .i64 (a : Int) ((b : Int) * 256) = a + 256 * b := by
 have h : (b : Int) * 256 = ((256 * b : Nat) : Int) := by omega
 rw [h]
 show IntKind.i64.wrap ((BitVec.ofInt 64 (a : Int) ||| BitVec.ofInt 64 ((256 * b : Nat) : Int)).toNat : Int) = _
 rw [BitVec.ofInt_natCast, BitVec.ofInt_natCast, BitVec.toNat_or, BitVec.toNat_ofNat, BitVec.toNat_ofNat, Nat.mod_eq_of_lt (by omega), Nat.mod_eq_of_lt (by omega), Nat.or_comm]
 have := Nat.two_pow_add_eq_or_of_lt (i := 8) (b := a) (by omega) b
 simp only [Nat.reducePow] at this
 rw [← this, wrap_in (by omega)]
 omega
theorem St.byEq {M : List Nat} {w X : World} {L : List Ent} {i b : Nat} {l l' : List UInt8} (h : St M w X L) (hi : L[i]? = some (.byt b l)) (e : l = l') : St M w X (L.set i (.byt b l')) := by
 subst e
 have : L.set i (.byt b l) = L := by
  apply List.ext_getElem?
  intro j
  rw [List.getElem?_set]
  split
  · rename_i hij; subst hij
    split
    · exact hi.symm
    · rename_i h2; rw [List.getElem?_eq_none (by omega)]
  · rfl
 rw [this]; exact h
end Go.Proofs.YtmlilplbdpjfcaaGreatDoor
namespace Go.Proofs.YtmlilplbdpjfcaaGreatDoor
set_option linter.unusedVariables false
set_option linter.unusedSimpArgs false
open Go.RowKit Go.Sort
section
variable {P : Program} {ops : Array Oper} {rest : List Oper} {o : Oper} {a : Act} {Q : Exit → Act → World → Prop} {X : World} {N d : Nat} {l : List (Nat × Value)} {M : List Nat} {w : World} {E : List Ent}
theorem sl_makeR {t e : TypeId} {x y : Operand} {n sz bytes : Nat} {z : Value} {zc : List Value} (ha : Has a N l) (hw : Region.wanted o (yielded ops a.tmps) = true) (ho : o.op = .makeSlice t x y ∧ o.dst = some d) (hN : Nat.blt d N = true) (ht : P.underlying t = some (.slice e)) (hinfo : (P.info? e).map (fun i => (i.zero, i.size, i.bytes)) = some (some z, sz, bytes))
 (hz : z.cells.toList = zc) (hzc : zc.length = sz) (hx : a.eval x = .int .i64 n) (hy : a.eval y = .int .i64 n) (hn : n * sz ≤ 16777216 ∧ n * bytes ≤ 281474976710656 ∧ n ≤ 1000000) (hS : St M w X E)
 (k : ∀ b a' X', w.heap.size ≤ b → Has a' N ((d, .slice (some ⟨b, 0, none⟩) n n) :: l) → St M w X' (.row (.slice (some ⟨b, 0, none⟩) n n) n e sz (List.replicate n zc).flatten :: E) → wpList P ops Q rest a' X') : wpList P ops Q (o :: rest) a X := by
 obtain ⟨q, hq, hz1, hz2, hz3⟩ := info_all hinfo
 have hrun := run_makeSlice (P := P) (w := X) t e q z ht hq hz1 .i64 .i64 (n : Int) (n : Int) (by omega) (Int.le_refl _) (by rw [hz2]; simpa using hn.1) (by rw [hz3]; have h2 : (n : Int) * (bytes : Int) ≤ 281474976710656 := (by have := Int.ofNat_le.2 hn.2.1; simpa using this); rw [Int.mul_comm] at h2; simpa using h2) (by omega)
 simp only [Int.toNat_natCast, hz2] at hrun
 have hfl : (madeCells z.cells (n * sz)).toList = (List.replicate n zc).flatten := by
  have hs : z.cells.size = sz := by rw [← hzc, ← hz]; simp
  unfold madeCells
  rw [Array.toList_map, Array.toList_range, hs]
  apply List.ext_getElem
  · simp [hzc]
  · intro k h1 h2
    simp only [List.length_map, List.length_range] at h1
    have hsz : 0 < sz := Nat.pos_of_ne_zero fun h => by rw [h] at h1; simp at h1
    rw [List.getElem_map, List.getElem_range, flat_get hzc hsz]
    have hmod : k % sz < z.cells.size := by rw [hs]; exact Nat.mod_lt _ hsz
    rw [getElem!_pos z.cells (k % sz) hmod]
    simp [← hz]
 have hlen : (List.replicate n zc).flatten.length = n * sz := by simp [hzc]
 have hcsz : (madeCells z.cells (n * sz)).size = n * sz := by rw [← Array.length_toList, hfl, hlen]
 refine sl_val (X' := X.alloc (.cells (madeCells z.cells (n * sz)) e)) (v := .slice (some ⟨X.heap.size, 0, none⟩) n n) ha hw ?_ ho.2 hN (fun a' ha' => k X.heap.size a' _ hS.size ha' (hS.add (bel_alloc (Below.refl _ _) _) (e := .row _ _ _ _ _) ?_ ?_))
 · unfold execOp
   simp only [ho.1, hx, hy, Sem.run_bind, hrun, Result.andThen_ok, Sem.run_pure]
 · exact ⟨hlen, .inr ⟨X.heap.size, n, _, rfl, Nat.zero_le _, heap_alloc_new X _, Nat.le_refl _, by unfold maxLen; omega, hcsz, by rw [hfl, List.take_of_length_le (by omega)]⟩⟩
 · intro b hb'
   have hb2 : some X.heap.size = some b := hb'
   injection hb2 with hb2
   subst hb2
   simp
theorem ex_copyR {ρ : Operand → Value} {x y : Operand} {t u e : TypeId} {g j m c m2 c2 n cn sz : Nat} {A : Option Addr} {ys xs : List Value} (ho : o.op = .call ⟨.builtin .copy, #[x, y], #[t, u]⟩) (ht : P.underlying t = some (.slice e)) (hinfo : (P.info? e).map (·.size) = some sz)
 (hx : ρ x = .slice (some ⟨g, j, none⟩) m c) (hy : ρ y = .slice A m2 c2) (hr : Rd X X.heap.size A ys) (hl : ys.length = m2 * sz) (h1 : ∀ u ∈ ys, u.oneCell' = true) (hA : A = none → m2 = 0) (hown : X.ownsRow 0 e sz (.slice (some ⟨g, 0, none⟩) n cn) n xs) (hj : j + m * sz ≤ n * sz) :
 ∃ X', (execOp ρ o).run P X = .ok (.value (.int .i64 (min m2 m : Nat))) X' ∧ Grw (fun b _ => b = g) X X' ∧ X'.ownsRow 0 e sz (.slice (some ⟨g, 0, none⟩) n cn) n (xs.take j ++ ys.take (min m2 m * sz) ++ xs.drop (j + min m2 m * sz)) := by
 obtain ⟨hxl, hrow⟩ := hown
 rcases hrow with ⟨h0, _⟩ | ⟨g', cap, cur, e1, _, hg, hcap, hm, hcs, htk⟩
 · cases h0
 injection e1 with e1 e2 e3
 injection e1 with e1
 injection e1 with e1 _
 subst e1 e3
 have hkm : min m2 m * sz ≤ m * sz := Nat.mul_le_mul_right _ (Nat.min_le_right _ _)
 have hkm2 : min m2 m * sz ≤ m2 * sz := Nat.mul_le_mul_right _ (Nat.min_le_left _ _)
 generalize hvs : ys.take (min m2 m * sz) = vs
 have hvl : vs.length = min m2 m * sz := by rw [← hvs, List.length_take]; omega
 rw [← hvl]
 have h1' : ∀ u ∈ vs, u.oneCell' = true := fun u hu => h1 u (by rw [← hvs] at hu; exact List.mem_of_mem_take hu)
 have hnsz : n * sz ≤ cur.size := by rw [hcs]; exact Nat.mul_le_mul_right _ hcap
 have hle : j + vs.length ≤ cur.size := by omega
 have hst := storeCells_mid (P := P) g e vs j 0 cur X hg (by simpa using hle) h1'
 simp only [Nat.add_zero] at hst
 have hfirst : (Builtin.firstCells sz (min m2 m) (.slice A m2 c2)).run P X = .ok vs.toArray X := by
  cases A with
  | none =>
   have : vs = [] := List.eq_nil_of_length_eq_zero (by rw [hvl, hA rfl]; simp)
   subst this
   simp [Builtin.firstCells]
  | some ad =>
   have hl2 := run_loadCells_list (P := P) X ad vs (fun j u hu => by
    have hu2 : ys[j]? = some u := by
     rw [← hvs, List.getElem?_take] at hu
     split at hu
     · exact hu
     · cases hu
    obtain ⟨b', o', e, _, hc⟩ := hr j u hu2
    injection e with e
    subst e
    rw [add_none]; exact hc)
   rw [hvl] at hl2
   simp only [Builtin.firstCells]
   exact hl2
 refine ⟨X.setRow g (cur.toList.take j ++ vs ++ cur.toList.drop (j + vs.length)).toArray, ?_, setRow_grw hg (by simp; omega), ⟨by simp only [List.length_append, List.length_take, List.length_drop]; omega, .inr ⟨g, cn, _, rfl, Nat.zero_le _, setRow_heap X g _ _ _ _ hg, hcap, hm, by simp; omega, ?_⟩⟩⟩
 · cases hq : P.info? e with
   | none => rw [hq] at hinfo; cases hinfo
   | some q =>
    rw [hq] at hinfo
    have hqs : q.size = sz := by simpa using hinfo
    have hmn : Nat.min m2 m = min m2 m := rfl
    unfold execOp
    simp [ho, resolve, invoke, builtin, hx, hy, Builtin.copy_, run_underlying ht, Builtin.lenOf, sizeOf, typeInfo, hq, hqs, hmn, hfirst, hst, goInt]
 · show (cur.toList.take j ++ vs ++ cur.toList.drop (j + vs.length)).take (n * sz) = _
   rw [← htk, List.take_append, List.take_append, List.take_of_length_le (l := vs) (by simp; omega), List.take_take, List.take_take, List.take_drop, List.drop_take]
   have hl1 : (cur.toList.take j ++ vs).length = j + vs.length := by simp; omega
   rw [hl1, Nat.min_eq_right (by omega), Nat.min_eq_left (by omega), show j + vs.length + (n * sz - (j + vs.length)) = n * sz by omega, List.drop_take]
theorem sl_copyR {x y : Operand} {t u e : TypeId} {g j m c m2 c2 n cn i sz : Nat} {A : Option Addr} {ys xs : List Value} (ha : Has a N l) (hw : Region.wanted o (yielded ops a.tmps) = true) (ho : o.op = .call ⟨.builtin .copy, #[x, y], #[t, u]⟩ ∧ o.dst = some d) (hN : Nat.blt d N = true) (ht : P.underlying t = some (.slice e)) (hinfo : (P.info? e).map (·.size) = some sz)
 (hx : a.eval x = .slice (some ⟨g, j, none⟩) m c) (hy : a.eval y = .slice A m2 c2) (hr : Rd X X.heap.size A ys) (hl : ys.length = m2 * sz) (h1 : ∀ u ∈ ys, u.oneCell' = true) (hA : A = none → m2 = 0) (hS : St M w X E) (hi : E[i]? = some (.row (.slice (some ⟨g, 0, none⟩) n cn) n e sz xs)) (hj : j + m * sz ≤ n * sz)
 (k : ∀ a' X', Has a' N ((d, .int .i64 (min m2 m : Nat)) :: l) → St M w X' (E.set i (.row (.slice (some ⟨g, 0, none⟩) n cn) n e sz (xs.take j ++ ys.take (min m2 m * sz) ++ xs.drop (j + min m2 m * sz)))) → wpList P ops Q rest a' X') : wpList P ops Q (o :: rest) a X := by
 obtain ⟨X', h2, hG, h3⟩ := ex_copyR ho.1 ht hinfo hx hy hr hl h1 hA (hS.at_ hi) hj
 refine sl_val (X' := X') ha hw h2 ho.2 hN (fun a' ha' => k a' _ ha' (hS.turn hi hG.os hG.tape hG.output hG.size (fun b hb hne => hG.block b hb (fun e => hne (by rw [e]; rfl))) h3 (fun b hb => ⟨.inl hb, (h3.lt b hb).2⟩)))
def CopB (v0 : Value) (T : TypeId) (sz n : Nat) (xs : List Value) (u v : Value) (X : World) : Prop := v = u ∧ X.ownsRow 0 T sz v0 n xs
theorem CopB.stable {v0 u : Value} {T : TypeId} {sz n : Nat} {xs : List Value} (v : Value) (X X' : World) (h : CopB v0 T sz n xs u v X) (hb : Below X.heap.size X X') : CopB v0 T sz n xs u v X' := ⟨h.1, row_stable h.2 hb⟩
theorem lv_copyR {ρ : Operand → Value} {x y : Operand} {t u e : TypeId} {g j m c m2 c2 n cn sz : Nat} {A : Option Addr} {ys xs : List Value} (ho : o.op = .call ⟨.builtin .copy, #[x, y], #[t, u]⟩) (ht : P.underlying t = some (.slice e)) (hinfo : (P.info? e).map (·.size) = some sz)
 (hx : ρ x = .slice (some ⟨g, j, none⟩) m c) (hy : ρ y = .slice A m2 c2) (hr : Rd X X.heap.size A ys) (hl : ys.length = m2 * sz) (h1 : ∀ u ∈ ys, u.oneCell' = true) (hA : A = none → m2 = 0) (hown : X.ownsRow 0 e sz (.slice (some ⟨g, 0, none⟩) n cn) n xs) (hj : j + m * sz ≤ n * sz) :
 LeavesA P (fun b => (Value.slice (some ⟨g, 0, none⟩) n cn).ownBlock = some b) 0 (CopB (.slice (some ⟨g, 0, none⟩) n cn) e sz n (xs.take j ++ ys.take (min m2 m * sz) ++ xs.drop (j + min m2 m * sz)) (.int .i64 (min m2 m : Nat))) X ((execOp ρ o).run P X) := by
 obtain ⟨X', h2, hG, h3⟩ := ex_copyR ho ht hinfo hx hy hr hl h1 hA hown hj
 rw [h2]
 refine ⟨⟨hG.weaken (fun b _ hb => by rw [hb]; rfl), fun k cs' T' fr hk => ?_⟩, rfl, h3⟩
 obtain ⟨cs2, h4, h5⟩ := hG.shape k cs' T' fr hk
 exact ⟨cs2, h5, h4, by simp⟩
theorem St.copRow {M : List Nat} {w0 w X : World} {L : List Ent} {i n sz : Nat} {v u v' : Value} {T : TypeId} {xs xs' : List Value} (h : St M w0 w L) (hi : L[i]? = some (.row v n T sz xs)) (hX : Grw (fun b _ => v.ownBlock = some b) w X) (hq : CopB v T sz n xs' u v' X) :
 v' = u ∧ St M w0 X (L.set i (.row v n T sz xs')) :=
 ⟨hq.1, h.turn hi hX.os hX.tape hX.output hX.size (fun b hb hne => hX.block b hb hne) hq.2 (fun b hb => ⟨.inl hb, (hq.2.lt b hb).2⟩)⟩
end
theorem St.xsEq {M : List Nat} {w X : World} {L : List Ent} {i n sz : Nat} {v : Value} {T : TypeId} {xs xs' : List Value} (h : St M w X L) (hi : L[i]? = some (.row v n T sz xs)) (e : xs = xs') : St M w X (L.set i (.row v n T sz xs')) := by
 subst e
 exact h.rowEq hi rfl (h.at_ hi)
theorem wrap_u64 {n : Int} (h : 0 ≤ n ∧ n < 18446744073709551616) : IntKind.u64.wrap n = n := by
 have : IntKind.u64.wrap n = n % 18446744073709551616 := by simp [IntKind.wrap, IntKind.bits, IntKind.signed]
 rw [this]; omega
def NewY (B n : Nat) (l : List UInt8) (v : Value) (X : World) : Prop := ∃ b, v = .slice (some ⟨b, 0, none⟩) n n ∧ B ≤ b ∧ BytB X b l
theorem NewY.stable {B n : Nat} {l : List UInt8} (v : Value) (X X' : World) (h : NewY B n l v X) (hb : Below X.heap.size X X') : NewY B n l v X' := by
 obtain ⟨b, h1, h2, h3⟩ := h
 exact ⟨b, h1, h2, byt_below h3 hb⟩
theorem byt_str {X : World} {b o' n : Nat} {l : List UInt8} (h : BytB X b l) (hn : o' + n ≤ l.length) : ((l.drop o').take n).length = n ∧ ∀ j (hj : j < ((l.drop o').take n).length), X.cell? ⟨b, o' + j, none⟩ = some (byteV ((l.drop o').take n)[j]) := by
 have hl : ((l.drop o').take n).length = n := by rw [List.length_take, List.length_drop]; omega
 refine ⟨hl, fun j hj => ?_⟩
 rw [byt_cell h (by omega)]
 congr 2
 rw [List.getElem_take, List.getElem_drop, List.getD_eq_getElem?_getD, List.getElem?_eq_getElem (by omega)]
 rfl
theorem lv_make {P : Program} {ρ : Operand → Value} {X : World} {o : Oper} {t e : TypeId} {x y : Operand} {n B : Nat} (ho : o.op = .makeSlice t x y) (ht : P.underlying t = some (.slice e)) (hinfo : (P.info? e).map (fun i => (i.zero, i.size, i.bytes)) = some (some (.int .u8 0), 1, 1))
 (hx : ρ x = .int .i64 n) (hy : ρ y = .int .i64 n) (hn : n ≤ 16777216) (hB : B ≤ X.heap.size) : LeavesR P (NewY B n (zerosL n)) X ((execOp ρ o).run P X) := by
 obtain ⟨q, hq, hz1, hz2, hz3⟩ := info_all hinfo
 have hrun := run_makeSlice (P := P) (w := X) t e q (.int .u8 0) ht hq hz1 .i64 .i64 (n : Int) (n : Int) (by omega) (Int.le_refl _) (by rw [hz2]; simpa using hn) (by rw [hz3]; omega) (by omega)
 simp only [Int.toNat_natCast, hz2, Nat.mul_one] at hrun
 have hex : (execOp ρ o).run P X = .ok (.value (.slice (some ⟨X.heap.size, 0, none⟩) n n)) (X.alloc (.cells (madeCells (Value.int .u8 0).cells n) e)) := by
  unfold execOp
  simp only [ho, hx, hy, Sem.run_bind, hrun, Result.andThen_ok, Sem.run_pure]
 rw [hex]
 refine ⟨bel_alloc (Below.refl _ _) _, X.heap.size, rfl, hB, _, e, (0, 0), heap_alloc_new X _, ?_, fun j hj => by simp⟩
 rw [List.take_of_length_le (by simp [madeCells, zerosL])]
 apply List.ext_getElem
 · simp [madeCells, zerosL]
 · intro k h1 h2
   simp [madeCells, zerosL, byteV, Value.cells]
   rw [Nat.mod_one]; rfl
theorem row_some {X : World} {B n sz c : Nat} {A : Option Addr} {T : TypeId} {xs : List Value} (h : X.ownsRow B T sz (.slice A n c) n xs) (hn : 0 < n) : ∃ g, A = some ⟨g, 0, none⟩ := by
 rcases h.2 with ⟨_, e1⟩ | ⟨g, cap, cur, e1, _⟩
 · omega
 · injection e1 with e1; exact ⟨g, e1⟩
theorem row_le {X : World} {B n sz c : Nat} {A : Option Addr} {T : TypeId} {xs : List Value} (h : X.ownsRow B T sz (.slice A n c) n xs) : n ≤ c := by
 rcases h.2 with ⟨e0, e1⟩ | ⟨g, cap, cur, e1, _, _, h4, _⟩
 · omega
 · injection e1 with e1 e2 e3; omega
end Go.Proofs.YtmlilplbdpjfcaaGreatDoor
namespace Go.Proofs.YtmlilplbdpjfcaaGreatDoor
set_option linter.unusedVariables false
set_option linter.unusedSimpArgs false
open Go.RowKit Go.Sort
def MapB (X : World) (m : Nat) (ms : List (Int × Value)) : Prop := ∃ es clock, X.heap[m]? = some (.map es clock) ∧ es.toList.map (fun e => (e.key, e.val)) = ms.map (fun p => (Value.int .i64 p.1, p.2))
def lookM (ms : List (Int × Value)) (k : Int) : Option Value := (ms.find? fun p => p.1 == k).map (·.2)
theorem findNow_int (k : Int) : ∀ (es : List MapEntry) (ms : List (Int × Value)) (i : Nat), es.map (fun e => (e.key, e.val)) = ms.map (fun p => (Value.int .i64 p.1, p.2)) →
 ∃ r, Instr.findNow (.int .i64) (.int .i64 k) es i = some r ∧ r.map (·.2) = lookM ms k
 | [], [], i, _ => ⟨none, rfl, rfl⟩
 | [], _ :: _, i, h => by simp at h
 | _ :: _, [], i, h => by simp at h
 | e :: es, p :: ms, i, h => by
  simp only [List.map_cons, List.cons.injEq, Prod.mk.injEq] at h
  obtain ⟨⟨h1, h2⟩, h3⟩ := h
  unfold Instr.findNow
  rw [h1]
  simp only [Instr.sameNow, if_true]
  unfold lookM
  rw [List.find?_cons]
  by_cases hk : k = p.1
  · subst hk
    simp only [beq_self_eq_true]
    exact ⟨_, rfl, by simp [h2]⟩
  · have e1 : (k == p.1) = false := by simpa using hk
    have e2 : (p.1 == k) = false := by simpa using fun h => hk h.symm
    rw [e1, e2]
    exact findNow_int k es ms (i + 1) h3
section
variable {P : Program} {ρ : Operand → Value} {X : World} {d : Option Tmp} {ty : TypeId} {ps : String} {af : Array Edge} {g : Option (Nat × Bool)}
theorem checkKey_int {kt : TypeId} (hk : P.underlying kt = some (.int .i64)) (b : Bool) (k : Int) : (Instr.checkKey b 10000 kt (.int .i64 k)).run P X = .ok () X := by
 rw [show (10000 : Nat) = 9999 + 1 from rfl]
 unfold Instr.checkKey
 simp [run_underlying hk]
theorem ex_lookup {t kt e : TypeId} {x y : Operand} {m : Nat} {k : Int} {z : Value} {ms : List (Int × Value)} (ht : P.underlying t = some (.map kt e)) (hk : P.underlying kt = some (.int .i64)) (hz : (P.info? e).map (·.zero) = some (some z)) (hx : ρ x = .map (some m)) (hy : ρ y = .int .i64 k) (hm : MapB X m ms) :
 (execOp ρ ⟨d, .lookup t x y true, ty, ps, af, g⟩).run P X = .ok (.value (.tuple #[(lookM ms k).getD z, .bool (lookM ms k).isSome])) X := by
 obtain ⟨es, clock, hb, he⟩ := hm
 obtain ⟨r, hr, hr2⟩ := findNow_int k es.toList ms 0 he
 have hf := MapKept.run_findKey (P := P) (w := X) hk hr
 have hg := MapKept.run_getObj_map (P := P) hb
 have hzz : (zeroValue e).run P X = .ok z X := by
  cases hq : P.info? e with
  | none => rw [hq] at hz; cases hz
  | some q =>
   rw [hq] at hz
   have : q.zero = some z := by simpa using hz
   simp [zeroValue, typeInfo, hq, this]
 rw [← hr2]
 cases r with
 | none => simp [execOp, hx, hy, Instr.lookup, run_underlying ht, hg, checkKey_int hk, hf, hzz]
 | some p => simp [execOp, hx, hy, Instr.lookup, run_underlying ht, hg, checkKey_int hk, hf]
theorem run_mapUpdate_new {t kt e : TypeId} {m : Nat} {k : Int} {u : Value} {ms : List (Int × Value)} (ht : P.underlying t = some (.map kt e)) (hk : P.underlying kt = some (.int .i64)) (hm : MapB X m ms) (hn : lookM ms k = none) :
 ∃ X', (Instr.mapUpdate t (.map (some m)) (.int .i64 k) u).run P X = .ok () X' ∧ X'.os = X.os ∧ X'.tape = X.tape ∧ X'.output = X.output ∧ X'.heap.size = X.heap.size ∧ (∀ b, b ≠ m → X'.heap[b]? = X.heap[b]?) ∧ MapB X' m (ms ++ [(k, u)]) := by
 obtain ⟨es, clock, hb, he⟩ := hm
 obtain ⟨r, hr, hr2⟩ := findNow_int k es.toList ms 0 he
 rw [hn] at hr2
 have hr3 : r = none := by cases r with
  | none => rfl
  | some p => cases hr2
 subst hr3
 have hf := MapKept.run_findKey (P := P) (w := X) hk hr
 have hg := MapKept.run_getObj_map (P := P) hb
 have hlt : m < X.heap.size := (Array.getElem?_eq_some_iff.1 hb).1
 refine ⟨{ X with heap := X.heap.setIfInBounds m (.map (es.push { key := .int .i64 k, val := u, born := clock }) (clock + 1)) }, ?_, rfl, rfl, rfl, by simp, fun b hb' => ?_, es.push { key := .int .i64 k, val := u, born := clock }, clock + 1, ?_, ?_⟩
 · have hs := MapKept.run_setObj_map (P := P) (.map (es.push { key := .int .i64 k, val := u, born := clock }) (clock + 1)) hb
   simp [Instr.mapUpdate, run_underlying ht, hg, checkKey_int hk, hf, hs]
 · simp [Array.getElem?_setIfInBounds, Ne.symm hb']
 · simp [Array.getElem?_setIfInBounds, hlt]
 · simp [he]
end
section
variable {M : List Nat} {w X X' : World} {L : List Ent}
theorem St.merge {i : Nat} {e1 e e' : Ent} (h : St M w X (e1 :: L)) (hi : L[i]? = some e) (hos : X'.os = X.os) (htape : X'.tape = X.tape) (hout : X'.output = X.output) (hsz : X.heap.size ≤ X'.heap.size)
 (hblk : ∀ b, b < X.heap.size → ¬ e.dom b → ¬ e1.dom b → X'.heap[b]? = X.heap[b]?) (hok : e'.ok X') (hd : ∀ b, e'.dom b → (e.dom b ∨ e1.dom b ∨ X.heap.size ≤ b) ∧ b < X'.heap.size) : St M w X' (L.set i e') := by
 have hem := List.mem_of_getElem? hi
 have hLi := (List.getElem?_eq_some_iff.1 hi).2
 have hsep := List.pairwise_cons.1 h.sep
 have s1 : ∀ f ∈ L, ∀ b, e1.dom b → ¬ f.dom b := hsep.1
 have s2 : ∀ j (hj : j < L.length), j ≠ i → ∀ b, e.dom b → ¬ L[j].dom b := fun j hj hne b hb hjb => by
  have hp := List.pairwise_iff_getElem.1 hsep.2
  have hlt := (List.getElem?_eq_some_iff.1 hi).1
  rcases Nat.lt_or_gt_of_ne hne with hlt' | hgt
  · exact hp j i hj hlt hlt' b hjb (by rw [hLi]; exact hb)
  · exact hp i j hlt hj hgt b (by rw [hLi]; exact hb) hjb
 have s3 : ∀ j (hj : j < L.length), j ≠ i → ∀ b, e'.dom b → ¬ L[j].dom b := fun j hj hne b hb hjb => by
  rcases (hd b hb).1 with h1 | h1 | h1
  · exact s2 j hj hne b h1 hjb
  · exact s1 _ (List.getElem_mem hj) b h1 hjb
  · have := (h.new _ (List.mem_cons_of_mem _ (List.getElem_mem hj)) b hjb).2; omega
 refine ⟨hos.trans h.os, htape.trans h.tape, hout.trans h.output, Nat.le_trans h.size hsz, fun b hb hM => ?_, fun f hf => ?_, fun f hf b hb => ?_, ?_⟩
 · refine (hblk b (Nat.lt_of_lt_of_le hb h.size) (fun hdom => ?_) (fun hdom => ?_)).trans (h.block b hb hM)
   · rcases (h.new e (List.mem_cons_of_mem _ hem) b hdom).1 with h1 | h1
     · omega
     · exact hM h1
   · rcases (h.new e1 (List.mem_cons_self ..) b hdom).1 with h1 | h1
     · omega
     · exact hM h1
 · obtain ⟨j, hj, rfl⟩ := List.getElem_of_mem hf
   rw [List.length_set] at hj
   rw [List.getElem_set]
   split
   · exact hok
   · rename_i hne
     have hjm := List.mem_cons_of_mem e1 (List.getElem_mem hj)
     exact Ent.ok_of (h.ok _ hjm) (fun b hb => hblk b (h.new _ hjm b hb).2 (fun he => s2 j hj (fun e => hne e.symm) b he hb) (fun he => s1 _ (List.getElem_mem hj) b he hb))
 · obtain ⟨j, hj, rfl⟩ := List.getElem_of_mem hf
   rw [List.length_set] at hj
   rw [List.getElem_set] at hb
   split at hb
   · refine ⟨?_, (hd b hb).2⟩
     rcases (hd b hb).1 with h1 | h1 | h1
     · exact (h.new e (List.mem_cons_of_mem _ hem) b h1).1
     · exact (h.new e1 (List.mem_cons_self ..) b h1).1
     · exact .inl (Nat.le_trans h.size h1)
   · have hjm := List.mem_cons_of_mem e1 (List.getElem_mem hj)
     exact ⟨(h.new _ hjm b hb).1, Nat.lt_of_lt_of_le (h.new _ hjm b hb).2 hsz⟩
 · rw [List.pairwise_iff_getElem]
   intro j k hj hk hjk b hb hb'
   rw [List.length_set] at hj hk
   rw [List.getElem_set] at hb hb'
   split at hb
   · split at hb'
     · omega
     · rename_i h1 h2
       exact s3 k hk (fun e => h2 e.symm) b hb hb'
   · split at hb'
     · rename_i h1 h2
       exact s3 j hj (fun e => h1 e.symm) b hb' hb
     · exact List.pairwise_iff_getElem.1 hsep.2 j k hj hk hjk b hb hb'
theorem St.initInv {M : List Nat} {w : World} {D : Nat → Prop} {φ : World → Prop} {st : ∀ X X' : World, φ X → (∀ b, D b → X'.heap[b]? = X.heap[b]?) → φ X'} (h : φ w) (hD : ∀ b, D b → b ∈ M ∧ b < w.heap.size) : St M w w [.inv D φ st] :=
 ⟨rfl, rfl, rfl, Nat.le_refl _, fun _ _ _ => rfl, fun e he => by rw [List.mem_singleton.1 he]; exact h, fun e he b hb => by
  rw [List.mem_singleton.1 he] at hb
  exact ⟨.inr (hD b hb).1, (hD b hb).2⟩, .cons (fun _ h => by cases h) .nil⟩
end
section
variable {P : Program} {ρ : Operand → Value} {X : World} {d : Option Tmp} {ty : TypeId} {ps : String} {af : Array Edge} {g : Option (Nat × Bool)}
theorem ex_nilck {x : Operand} {A : Addr} (hx : ρ x = .pointer (some A)) : (execOp ρ ⟨d, .nilCheck x, ty, ps, af, g⟩).run P X = .ok (.value (.pointer (some A))) X := by
 simp [execOp, hx]
end
section
variable {P : Program} {ops : Array Oper} {rest : List Oper} {o : Oper} {a : Act} {Q : Exit → Act → World → Prop} {X : World}
theorem sl_mapupd {t kt e : TypeId} {x y z' : Operand} {m : Nat} {k : Int} {u : Value} {ms : List (Int × Value)} (hw : Region.wanted o (yielded ops a.tmps) = true) (ho : o.op = .mapUpdate t x y z' ∧ o.dst = none) (ht : P.underlying t = some (.map kt e)) (hk : P.underlying kt = some (.int .i64)) (hx : a.eval x = .map (some m)) (hy : a.eval y = .int .i64 k) (hz : a.eval z' = u) (hm : MapB X m ms) (hn : lookM ms k = none)
 (K : ∀ X' : World, X'.os = X.os → X'.tape = X.tape → X'.output = X.output → X'.heap.size = X.heap.size → (∀ b, b ≠ m → X'.heap[b]? = X.heap[b]?) → MapB X' m (ms ++ [(k, u)]) → wpList P ops Q rest a X') : wpList P ops Q (o :: rest) a X := by
 obtain ⟨X', hr, h1, h2, h3, h4, h5, h6⟩ := run_mapUpdate_new (P := P) (u := u) ht hk hm hn
 refine sl_unit (X' := X') hw ?_ ho.2 (K X' h1 h2 h3 h4 h5 h6)
 unfold execOp
 simp only [ho.1, hx, hy, hz, Sem.run_bind, hr, Result.andThen_ok, Sem.run_pure]
end
end Go.Proofs.YtmlilplbdpjfcaaGreatDoor
namespace Go.Proofs.YtmlilplbdpjfcaaGreatDoor
set_option linter.unusedVariables false
set_option linter.unusedSimpArgs false
open Go.RowKit Go.Sort
section
variable {M : List Nat} {w X X' : World} {L : List Ent}
theorem St.pack {e1 e2 : Ent} {D : Nat → Prop} {φ : World → Prop} {st : ∀ X X' : World, φ X → (∀ b, D b → X'.heap[b]? = X.heap[b]?) → φ X'} (h : St M w X (e1 :: e2 :: L)) (hD : ∀ b, D b → e1.dom b ∨ e2.dom b) (hφ : φ X) : St M w X (.inv D φ st :: L) := by
 have hs := List.pairwise_cons.1 h.sep
 have hs2 := List.pairwise_cons.1 hs.2
 refine ⟨h.os, h.tape, h.output, h.size, h.block, fun e he => ?_, fun e he b hb => ?_, List.pairwise_cons.2 ⟨fun f hf b hb hfb => ?_, hs2.2⟩⟩
 · rcases List.mem_cons.1 he with rfl | he
   · exact hφ
   · exact h.ok e (List.mem_cons_of_mem _ (List.mem_cons_of_mem _ he))
 · rcases List.mem_cons.1 he with rfl | he
   · rcases hD b hb with h1 | h1
     · exact h.new e1 (List.mem_cons_self ..) b h1
     · exact h.new e2 (List.mem_cons_of_mem _ (List.mem_cons_self ..)) b h1
   · exact h.new e (List.mem_cons_of_mem _ (List.mem_cons_of_mem _ he)) b hb
 · rcases hD b hb with h1 | h1
   · exact hs.1 f (List.mem_cons_of_mem _ hf) b h1 hfb
   · exact hs2.1 f hf b h1 hfb
theorem St.as1 {e1 e : Ent} (h : St M w X (e1 :: L)) (hD : ∀ b, e.dom b → e1.dom b) (hok : e.ok X) : St M w X (e :: L) := by
 have hs := List.pairwise_cons.1 h.sep
 refine ⟨h.os, h.tape, h.output, h.size, h.block, fun f hf => ?_, fun f hf b hb => ?_, List.pairwise_cons.2 ⟨fun f hf b hb hfb => hs.1 f hf b (hD b hb) hfb, hs.2⟩⟩
 · rcases List.mem_cons.1 hf with rfl | hf
   · exact hok
   · exact h.ok f (List.mem_cons_of_mem _ hf)
 · rcases List.mem_cons.1 hf with rfl | hf
   · exact h.new e1 (List.mem_cons_self ..) b (hD b hb)
   · exact h.new f (List.mem_cons_of_mem _ hf) b hb
theorem St.as_i {i : Nat} {e1 e : Ent} (h : St M w X L) (hi : L[i]? = some e1) (hD : ∀ b, e.dom b → e1.dom b) (hok : e.ok X) : St M w X (L.set i e) :=
 h.turn hi rfl rfl rfl (Nat.le_refl _) (fun _ _ _ => rfl) hok (fun b hb => ⟨.inl (hD b hb), (h.new _ (List.mem_of_getElem? hi) b (hD b hb)).2⟩)
theorem St.unpack {e1 e2 : Ent} {D : Nat → Prop} {φ : World → Prop} {st : ∀ X X' : World, φ X → (∀ b, D b → X'.heap[b]? = X.heap[b]?) → φ X'} (h : St M w X (.inv D φ st :: L)) (h1 : e1.ok X) (h2 : e2.ok X) (d1 : ∀ b, e1.dom b → D b ∧ ¬ e2.dom b) (d2 : ∀ b, e2.dom b → D b) : St M w X (e1 :: e2 :: L) := by
 have hs := List.pairwise_cons.1 h.sep
 refine ⟨h.os, h.tape, h.output, h.size, h.block, fun f hf => ?_, fun f hf b hb => ?_, List.pairwise_cons.2 ⟨fun f hf b hb hfb => ?_, List.pairwise_cons.2 ⟨fun f hf b hb hfb => hs.1 f hf b (d2 b hb) hfb, hs.2⟩⟩⟩
 · rcases List.mem_cons.1 hf with rfl | hf
   · exact h1
   · rcases List.mem_cons.1 hf with rfl | hf
     · exact h2
     · exact h.ok f (List.mem_cons_of_mem _ hf)
 · rcases List.mem_cons.1 hf with rfl | hf
   · exact h.new _ (List.mem_cons_self ..) b (d1 b hb).1
   · rcases List.mem_cons.1 hf with rfl | hf
     · exact h.new _ (List.mem_cons_self ..) b (d2 b hb)
     · exact h.new f (List.mem_cons_of_mem _ hf) b hb
 · rcases List.mem_cons.1 hf with rfl | hf
   · exact (d1 b hb).2 hfb
   · exact hs.1 f hf b (d1 b hb).1 hfb
end
section
variable {M : List Nat} {w X X' : World} {L : List Ent}
theorem St.front {i : Nat} {e : Ent} (h : St M w X L) (hi : L[i]? = some e) : St M w X (e :: L.eraseIdx i) := by
 have hlt := (List.getElem?_eq_some_iff.1 hi).1
 have hLi := (List.getElem?_eq_some_iff.1 hi).2
 refine ⟨h.os, h.tape, h.output, h.size, h.block, fun f hf => ?_, fun f hf => ?_, List.pairwise_cons.2 ⟨fun f hf b hb hfb => ?_, h.sep.sublist (List.eraseIdx_sublist ..)⟩⟩
 · rcases List.mem_cons.1 hf with rfl | hf
   · exact h.at_ hi
   · exact h.ok f (List.mem_of_mem_eraseIdx hf)
 · rcases List.mem_cons.1 hf with rfl | hf
   · exact h.new f (List.mem_of_getElem? hi)
   · exact h.new f (List.mem_of_mem_eraseIdx hf)
 · obtain ⟨j, hj, hne, hfj⟩ : ∃ j, ∃ hj : j < L.length, j ≠ i ∧ L[j] = f := by
    obtain ⟨j, hj, hne, e1⟩ := List.mem_eraseIdx_iff_getElem.1 hf
    exact ⟨j, hj, hne, e1⟩
   rw [← hfj] at hfb
   rw [← hLi] at hb
   rcases Nat.lt_or_gt_of_ne hne with hlt' | hgt
   · exact List.pairwise_iff_getElem.1 h.sep j i hj hlt hlt' b hfb hb
   · exact List.pairwise_iff_getElem.1 h.sep i j hlt hj hgt b hb hfb
def mapE (m : Nat) (ms : List (Int × Value)) : Ent := .inv (fun b => b = m) (fun X => MapB X m ms) (fun X X' ⟨es, ck, h1, h2⟩ hb => ⟨es, ck, (hb m rfl).trans h1, h2⟩)
end
section
variable {P : Program} {ops : Array Oper} {rest : List Oper} {o : Oper} {a : Act} {Q : Exit → Act → World → Prop} {X : World} {N d : Nat} {l : List (Nat × Value)} {M : List Nat} {w : World} {L : List Ent}
theorem sl_mkmap {t : TypeId} (ha : Has a N l) (hw : Region.wanted o (yielded ops a.tmps) = true) (ho : o.op = .makeMap t none) (hd : o.dst = some d) (hN : Nat.blt d N = true) (hS : St M w X L)
 (k : ∀ m a' X', w.heap.size ≤ m → Has a' N ((d, .map (some m)) :: l) → St M w X' (mapE m [] :: L) → wpList P ops Q rest a' X') : wpList P ops Q (o :: rest) a X := by
 have hr : (Instr.makeMap t none).run P X = .ok (.map (some X.heap.size)) (X.alloc (.map #[] 0)) := by
  simp [Instr.makeMap]
 refine sl_val (X' := X.alloc (.map #[] 0)) ha hw ?_ hd hN fun a' ha' => k X.heap.size a' _ hS.size ha' (hS.add (bel_alloc (Below.refl _ _) _) (e := mapE X.heap.size []) ?_ (fun b hb => by cases hb; simp))
 · unfold execOp
   simp [ho, hr]
 · exact ⟨#[], 0, by show (X.heap.push (.map #[] 0))[X.heap.size]? = _; simp, rfl⟩
end
section
variable {ι : Type} {V : ι → Value} {F : ι → Prop} {A B : ι → Value} {O : Nat → Prop} {K : Nat}
def PairU (V : ι → Value) (F : ι → Prop) (v : Value) (_ : World) : Prop := ∃ p, v = V p ∧ F p
theorem PairU.stable (v : Value) (X X' : World) (h : PairU V F v X) (_ : Below X.heap.size X X') : PairU V F v X' := h
theorem PairU.kp (v : Value) (X X' : World) (h : PairU V F v X) (_ : Kp O K X X') : PairU V F v X' := h
def ExtU0 (V : ι → Value) (F : ι → Prop) (v : Value) (_ : World) : Prop := ∃ p, F p ∧ ∃ b, V p = .tuple #[v, b]
theorem ExtU0.stable (v : Value) (X X' : World) (h : ExtU0 V F v X) (_ : Below X.heap.size X X') : ExtU0 V F v X' := h
theorem ExtU0.kp (v : Value) (X X' : World) (h : ExtU0 V F v X) (_ : Kp O K X X') : ExtU0 V F v X' := h
def ExtU1 (V : ι → Value) (F : ι → Prop) (v : Value) (_ : World) : Prop := ∃ p, F p ∧ ∃ a, V p = .tuple #[a, v]
theorem ExtU1.stable (v : Value) (X X' : World) (h : ExtU1 V F v X) (_ : Below X.heap.size X X') : ExtU1 V F v X' := h
theorem ExtU1.kp (v : Value) (X X' : World) (h : ExtU1 V F v X) (_ : Kp O K X X') : ExtU1 V F v X' := h
theorem extU0 {v : Value} {X : World} (h : ExtU0 (fun p => .tuple #[A p, B p]) F v X) : ∃ p, F p ∧ v = A p := by
 obtain ⟨p, h1, b, h2⟩ := h
 injection h2 with h2
 simp only [Array.mk.injEq, List.cons.injEq] at h2
 exact ⟨p, h1, h2.1.symm⟩
theorem extU1 {v : Value} {X : World} (h : ExtU1 (fun p => .tuple #[A p, B p]) F v X) : ∃ p, F p ∧ v = B p := by
 obtain ⟨p, h1, b, h2⟩ := h
 injection h2 with h2
 simp only [Array.mk.injEq, List.cons.injEq, and_true] at h2
 exact ⟨p, h1, h2.2.symm⟩
variable {P : Program} {ρ : Operand → Value} {X : World} {d : Option Tmp} {ty : TypeId} {ps : String} {af : Array Edge} {g : Option (Nat × Bool)}
theorem lv_ext0 {x : Operand} {u : Value} (hV : ∀ p, ∃ a b, V p = .tuple #[a, b]) (h : PairU V F u X) (hx : ρ x = u) : LeavesR P (ExtU0 V F) X ((execOp ρ ⟨d, .extract x 0, ty, ps, af, g⟩).run P X) := by
 obtain ⟨p, h1, h2⟩ := h
 obtain ⟨a, b, h3⟩ := hV p
 rw [ex_extract (v := a) (hx.trans (h1.trans h3)) rfl]; exact ⟨Below.refl _ _, p, h2, b, h3⟩
theorem lv_ext1 {x : Operand} {u : Value} (hV : ∀ p, ∃ a b, V p = .tuple #[a, b]) (h : PairU V F u X) (hx : ρ x = u) : LeavesR P (ExtU1 V F) X ((execOp ρ ⟨d, .extract x 1, ty, ps, af, g⟩).run P X) := by
 obtain ⟨p, h1, h2⟩ := h
 obtain ⟨a, b, h3⟩ := hV p
 rw [ex_extract (v := b) (hx.trans (h1.trans h3)) rfl]; exact ⟨Below.refl _ _, p, h2, a, h3⟩
theorem lv_told {R : Value → World → Prop} {u : Value} {r : Result Next} (h : R u X) (hr : r = .ok (.value u) X) : LeavesR P R X r := by
 subst hr; exact ⟨Below.refl _ _, h⟩
end
end Go.Proofs.YtmlilplbdpjfcaaGreatDoor
