/-
  A walk by steps: each operation of a text is met by one law with its terms given; what the slots hold stands in a list ('Has'), what the memory holds in another ('St'). No simp set looks at the context; so no fact has to be hidden.
  A walk by steps: control, results, loops, and regions that draw their order.
  A walk by steps: stores, structs that are built, guards, more operations.
-/
import Derived.Test.YtanicpgmbhfipaaGreatDoorKitC
import Derived.Deep.LoopGhost
namespace Go.Proofs.YtanicpgmbhfipaaGreatDoor
set_option linter.unusedVariables false
set_option linter.unusedSimpArgs false
open Go.RowKit Go.Sort
variable {ds : List Deferred}
def look : List (Nat × Value) → Nat → Option Value
 | [], _ => none
 | (k, v) :: l, t => bif Nat.beq k t then some v else look l t
structure Has (ds : List Deferred) (a : Act) (N : Nat) (l : List (Nat × Value)) : Prop where
 defers : a.defers = ds
 size : a.tmps.size = N
 slot : ∀ t v, look l t = some v → a.tmps[t]? = some v
def evO (l : List (Nat × Value)) : Operand → Option Value
 | .tmp t => look l t
 | .const v => some v
 | .global g => some (.pointer (some ⟨g, 0, none⟩))
 | .func f => some (.func (.func f) #[] #[])
theorem Has.ev {a : Act} {N : Nat} {l : List (Nat × Value)} {o : Operand} {v : Value} (h : Has ds a N l) (he : evO l o = some v) : a.eval o = v := by
 cases o with
 | tmp t =>
  have := h.slot t v he
  show a.tmps.getD t undef = v
  rw [Array.getD_eq_getD_getElem?, this]; rfl
 | const u => exact Option.some.inj he
 | global g => exact Option.some.inj he
 | func f => exact Option.some.inj he
theorem Has.put {a : Act} {N d : Nat} {l : List (Nat × Value)} (h : Has ds a N l) (hd : Nat.blt d N = true) (v : Value) : Has ds (a.put (some d) v) N ((d, v) :: l) := by
 have hd' : d < N := Nat.le_of_ble_eq_true hd
 refine ⟨h.defers, by show (a.tmps.setIfInBounds d v).size = N; rw [Array.size_setIfInBounds]; exact h.size, fun t u hu => ?_⟩
 show (a.tmps.setIfInBounds d v)[t]? = some u
 unfold look at hu
 cases hb : Nat.beq d t with
 | true =>
  rw [hb] at hu
  have e : d = t := Nat.eq_of_beq_eq_true hb
  subst e
  rw [Array.getElem?_setIfInBounds_self_of_lt (by rw [h.size]; exact hd')]
  exact hu
 | false =>
  rw [hb] at hu
  have e : d ≠ t := Nat.ne_of_beq_eq_false hb
  rw [Array.getElem?_setIfInBounds_ne e]
  exact h.slot t u hu
def allIn' (l : List (Nat × Value)) : List (Nat × Value) → Prop
 | [] => True
 | (t, v) :: m => look l t = some v ∧ allIn' l m
theorem Has.re {a : Act} {N : Nat} {l m : List (Nat × Value)} (h : Has ds a N l) (hm : allIn' l m) : Has ds a N m := by
 refine ⟨h.defers, h.size, fun t v hv => ?_⟩
 induction m with
 | nil => cases hv
 | cons p m ih =>
  obtain ⟨k, u⟩ := p
  obtain ⟨h1, h2⟩ := hm
  unfold look at hv
  cases hb : Nat.beq k t with
  | true =>
   rw [hb] at hv
   have e : k = t := Nat.eq_of_beq_eq_true hb
   subst e
   injection hv with hv
   subst hv
   exact h.slot _ _ h1
  | false => rw [hb] at hv; exact ih h2 hv
def evs (l : List (Nat × Value)) : List Operand → Option (List Value)
 | [] => some []
 | o :: r => match evO l o, evs l r with | some v, some vs => some (v :: vs) | _, _ => none
theorem Has.evs {a : Act} {N : Nat} {l : List (Nat × Value)} (h : Has ds a N l) : ∀ {os : List Operand} {vs : List Value}, evs l os = some vs → os.map a.eval = vs
 | [], vs, he => by cases he; rfl
 | o :: r, vs, he => by
  unfold Go.Proofs.YtanicpgmbhfipaaGreatDoor.evs at he
  cases h1 : evO l o with
  | none => rw [h1] at he; cases he
  | some v =>
   cases h2 : Go.Proofs.YtanicpgmbhfipaaGreatDoor.evs l r with
   | none => rw [h1, h2] at he; cases he
   | some ws =>
    rw [h1, h2] at he
    injection he with he
    subst he
    rw [List.map_cons, h.ev h1, h.evs h2]
def argl : Nat → List Value → List (Nat × Value)
 | _, [] => []
 | k, v :: vs => (k, v) :: argl (k + 1) vs
theorem look_argl : ∀ (k : Nat) (vs : List Value) (t : Nat) (v : Value), look (argl k vs) t = some v → k ≤ t ∧ vs[t - k]? = some v
 | k, [], t, v, h => by cases h
 | k, u :: vs, t, v, h => by
  unfold argl look at h
  cases hb : Nat.beq k t with
  | true =>
   rw [hb] at h
   have e : k = t := Nat.eq_of_beq_eq_true hb
   subst e
   exact ⟨Nat.le_refl _, by rw [Nat.sub_self]; exact h⟩
  | false =>
   rw [hb] at h
   have e : k ≠ t := Nat.ne_of_beq_eq_false hb
   obtain ⟨h1, h2⟩ := look_argl (k + 1) vs t v h
   refine ⟨by omega, ?_⟩
   rw [show t - k = (t - (k + 1)) + 1 by omega]
   exact h2
theorem has_args {vs : List Value} {N : Nat} (hN : Nat.ble vs.length N = true) : Has [] { tmps := vs.toArray ++ Array.replicate (N - vs.toArray.size) undef, defers := [] } N (argl 0 vs) := by
 have hN' : vs.length ≤ N := Nat.le_of_ble_eq_true hN
 refine ⟨rfl, by simp; omega, fun t v h => ?_⟩
 obtain ⟨_, h2⟩ := look_argl 0 vs t v h
 rw [Nat.sub_zero] at h2
 have hlt := (List.getElem?_eq_some_iff.1 h2).1
 show (vs.toArray ++ _)[t]? = some v
 rw [Array.getElem?_append_left (by simpa using hlt)]
 simpa using h2
inductive Ent where
 | box (b : Nat) (cs : Array Value) (T : TypeId)
 | row (v : Value) (n : Nat) (T : TypeId) (sz : Nat) (xs : List Value)
 | rd (lo hi : Nat) (A : Option Addr) (xs : List Value)
 | byt (b : Nat) (l : List UInt8)
 | inv (D : Nat → Prop) (φ : World → Prop) (st : ∀ X X' : World, φ X → (∀ b, D b → X'.heap[b]? = X.heap[b]?) → φ X')
def Ent.dom : Ent → Nat → Prop
 | .box b _ _, k => k = b
 | .byt b _, k => k = b
 | .row v _ _ _ _, k => v.ownBlock = some k
 | .rd lo hi _ _, k => lo ≤ k ∧ k < hi
 | .inv D _ _, k => D k
def RdI (X : World) (lo hi : Nat) (A : Option Addr) (xs : List Value) : Prop := ∀ j u, xs[j]? = some u → ∃ b o, A = some ⟨b, o, none⟩ ∧ lo ≤ b ∧ b < hi ∧ X.cell? ⟨b, o + j, none⟩ = some u
def BytB (X : World) (b : Nat) (l : List UInt8) : Prop := ∃ cs T fr, X.heap[b]? = some (.cells cs T fr) ∧ cs.toList.take l.length = l.map byteV ∧ ∀ j, j < cs.size → ¬ (fr.1 ≤ j ∧ j < fr.2)
def Ent.ok (X : World) : Ent → Prop
 | .byt b l => BytB X b l
 | .box b cs T => Box X b cs T
 | .row v n T sz xs => X.ownsRow 0 T sz v n xs
 | .rd lo hi A xs => RdI X lo hi A xs
 | .inv _ φ _ => φ X
theorem Ent.ok_of {X X' : World} {e : Ent} (h : e.ok X) (hb : ∀ b, e.dom b → X'.heap[b]? = X.heap[b]?) : e.ok X' := by
 cases e with
 | box b cs T => exact (hb b rfl).trans h
 | row v n T sz xs =>
  obtain ⟨h1, h2⟩ := h
  refine ⟨h1, ?_⟩
  rcases h2 with h2 | ⟨g, cap, cur, e1, e2, e3, e4⟩
  · exact .inl h2
  · exact .inr ⟨g, cap, cur, e1, e2, (hb g (by show v.ownBlock = some g; rw [e1]; rfl)).trans e3, e4⟩
 | byt b l =>
  obtain ⟨cs, T, fr, h1, h2⟩ := h
  exact ⟨cs, T, fr, (hb b rfl).trans h1, h2⟩
 | inv D φ st => exact st X X' h hb
 | rd lo hi A xs =>
  intro j u hj
  obtain ⟨b, o, h1, h2, h3, h4⟩ := h j u hj
  exact ⟨b, o, h1, h2, h3, (World.cell?_of_block (w := X) (a := ⟨b, o + j, none⟩) (hb b ⟨h2, h3⟩)).trans h4⟩
structure St (M : List Nat) (w X : World) (L : List Ent) : Prop where
 os : X.os = w.os
 tape : X.tape = w.tape
 output : X.output = w.output
 size : w.heap.size ≤ X.heap.size
 block : ∀ b, b < w.heap.size → b ∉ M → X.heap[b]? = w.heap[b]?
 ok : ∀ e ∈ L, e.ok X
 new : ∀ e ∈ L, ∀ b, e.dom b → (w.heap.size ≤ b ∨ b ∈ M) ∧ b < X.heap.size
 sep : L.Pairwise fun e f => ∀ b, e.dom b → ¬ f.dom b
section
variable {M : List Nat} {w X X' : World} {L : List Ent}
theorem St.init (w : World) : St [] w w [] := ⟨rfl, rfl, rfl, Nat.le_refl _, fun _ _ _ => rfl, fun _ h => (by cases h), fun _ h => (by cases h), .nil⟩
theorem St.below (h : St [] w X L) : Below w.heap.size w X := ⟨h.os, h.tape, h.output, h.size, fun b hb => h.block b hb (List.not_mem_nil)⟩
theorem St.grow (h : St M w X L) (hX : Below X.heap.size X X') : St M w X' L :=
 ⟨hX.os.trans h.os, hX.tape.trans h.tape, hX.output.trans h.output, Nat.le_trans h.size hX.size, fun b hb hM => (hX.block b (Nat.lt_of_lt_of_le hb h.size)).trans (h.block b hb hM),
  fun e he => Ent.ok_of (h.ok e he) (fun b hb => hX.block b (h.new e he b hb).2), fun e he b hb => ⟨(h.new e he b hb).1, Nat.lt_of_lt_of_le (h.new e he b hb).2 hX.size⟩, h.sep⟩
theorem St.add (h : St M w X L) (hX : Below X.heap.size X X') {e : Ent} (hok : e.ok X') (hd : ∀ b, e.dom b → X.heap.size ≤ b ∧ b < X'.heap.size) : St M w X' (e :: L) := by
 have h' := h.grow hX
 refine ⟨h'.os, h'.tape, h'.output, h'.size, h'.block, fun f hf => ?_, fun f hf b hb => ?_, ?_⟩
 · rcases List.mem_cons.1 hf with rfl | hf
   · exact hok
   · exact h'.ok f hf
 · rcases List.mem_cons.1 hf with rfl | hf
   · exact ⟨.inl (Nat.le_trans h.size (hd b hb).1), (hd b hb).2⟩
   · exact h'.new f hf b hb
 · refine List.pairwise_cons.2 ⟨fun f hf b hb hfb => ?_, h'.sep⟩
   have := (hd b hb).1
   have := (h.new f hf b hfb).2
   omega
theorem St.sub {L' : List Ent} (h : St M w X L) (hs : L'.Sublist L) : St M w X L' :=
 ⟨h.os, h.tape, h.output, h.size, h.block, fun e he => h.ok e (hs.subset he), fun e he => h.new e (hs.subset he), h.sep.sublist hs⟩
theorem St.at_ (h : St M w X L) {i : Nat} {e : Ent} (hi : L[i]? = some e) : e.ok X := h.ok e (List.mem_of_getElem? hi)
theorem St.turn {i : Nat} {e e' : Ent} (h : St M w X L) (hi : L[i]? = some e) (hos : X'.os = X.os) (htape : X'.tape = X.tape) (hout : X'.output = X.output) (hsz : X.heap.size ≤ X'.heap.size)
 (hblk : ∀ b, b < X.heap.size → ¬ e.dom b → X'.heap[b]? = X.heap[b]?) (hok : e'.ok X') (hd : ∀ b, e'.dom b → (e.dom b ∨ X.heap.size ≤ b) ∧ b < X'.heap.size) : St M w X' (L.set i e') := by
 have hem := List.mem_of_getElem? hi
 have hlt := (List.getElem?_eq_some_iff.1 hi).1
 have hLi := (List.getElem?_eq_some_iff.1 hi).2
 have sep2 : ∀ j (hj : j < L.length), j ≠ i → ∀ b, e.dom b → ¬ L[j].dom b := fun j hj hne b hb hjb => by
  have hp := List.pairwise_iff_getElem.1 h.sep
  rcases Nat.lt_or_gt_of_ne hne with hlt' | hgt
  · exact hp j i hj hlt hlt' b hjb (by rw [hLi]; exact hb)
  · exact hp i j hlt hj hgt b (by rw [hLi]; exact hb) hjb
 have sep3 : ∀ j (hj : j < L.length), j ≠ i → ∀ b, e'.dom b → ¬ L[j].dom b := fun j hj hne b hb hjb => by
  rcases (hd b hb).1 with h1 | h1
  · exact sep2 j hj hne b h1 hjb
  · have := (h.new _ (List.getElem_mem hj) b hjb).2; omega
 refine ⟨hos.trans h.os, htape.trans h.tape, hout.trans h.output, Nat.le_trans h.size hsz, fun b hb hM => ?_, fun f hf => ?_, fun f hf b hb => ?_, ?_⟩
 · refine (hblk b (Nat.lt_of_lt_of_le hb h.size) (fun hdom => ?_)).trans (h.block b hb hM)
   rcases (h.new e hem b hdom).1 with h1 | h1
   · omega
   · exact hM h1
 · obtain ⟨j, hj, rfl⟩ := List.getElem_of_mem hf
   rw [List.length_set] at hj
   rw [List.getElem_set]
   split
   · exact hok
   · rename_i hne
     exact Ent.ok_of (h.ok _ (List.getElem_mem hj)) (fun b hb => hblk b (h.new _ (List.getElem_mem hj) b hb).2 (fun he => sep2 j hj (fun e => hne e.symm) b he hb))
 · obtain ⟨j, hj, rfl⟩ := List.getElem_of_mem hf
   rw [List.length_set] at hj
   rw [List.getElem_set] at hb
   split at hb
   · refine ⟨?_, (hd b hb).2⟩
     rcases (hd b hb).1 with h1 | h1
     · exact (h.new e hem b h1).1
     · exact .inl (Nat.le_trans h.size h1)
   · exact ⟨(h.new _ (List.getElem_mem hj) b hb).1, Nat.lt_of_lt_of_le (h.new _ (List.getElem_mem hj) b hb).2 hsz⟩
 · rw [List.pairwise_iff_getElem]
   intro j k hj hk hjk b hb hb'
   rw [List.length_set] at hj hk
   rw [List.getElem_set] at hb hb'
   split at hb
   · split at hb'
     · omega
     · rename_i h1 h2
       exact sep3 k hk (fun e => h2 e.symm) b hb hb'
   · split at hb'
     · rename_i h1 h2
       exact sep3 j hj (fun e => h1 e.symm) b hb' hb
     · exact List.pairwise_iff_getElem.1 h.sep j k hj hk hjk b hb hb'
theorem St.rd0 (h : St [] w X L) {A : Option Addr} {xs : List Value} (hr : Rd w w.heap.size A xs) : Rd X X.heap.size A xs := hr.below' h.below
theorem St.cell {i b j : Nat} {cs : Array Value} {T : TypeId} {v : Value} (h : St M w X L) (hi : L[i]? = some (.box b cs T)) (hj : cs.toList[j]? = some v) : X.cell? ⟨b, j, none⟩ = some v :=
 (Box.cells (h.at_ hi) j).trans (by rw [← hj]; simp)
theorem St.cellsOf {i b : Nat} {cs : Array Value} {T : TypeId} (h : St M w X L) (hi : L[i]? = some (.box b cs T)) (j n : Nat) : ∀ k u, ((cs.toList.drop j).take n)[k]? = some u → X.cell? ⟨b, j + k, none⟩ = some u := fun k u hk => by
 rw [Box.cells (h.at_ hi) (j + k)]
 rw [List.getElem?_take] at hk
 split at hk
 · rw [List.getElem?_drop] at hk
   simpa using hk
 · cases hk
theorem St.cellsAll {i b : Nat} {cs : Array Value} {T : TypeId} (h : St M w X L) (hi : L[i]? = some (.box b cs T)) : ∀ k u, cs.toList[k]? = some u → X.cell? ⟨b, 0 + k, none⟩ = some u := fun k u hk => by
 rw [Nat.zero_add, Box.cells (h.at_ hi) k]
 simpa using hk
theorem St.rdOf {i n c sz : Nat} {A : Option Addr} {T : TypeId} {xs : List Value} (h : St M w X L) (hi : L[i]? = some (.row (.slice A n c) n T sz xs)) : Rd X X.heap.size A xs := Rd.of_own (h.at_ hi)
theorem St.wrote {i b : Nat} {cs cs' : Array Value} {T : TypeId} (h : St M w X L) (hi : L[i]? = some (.box b cs T)) (hX : Grw (fun k _ => k = b) X X') (hb : Box X' b cs' T) : St M w X' (L.set i (.box b cs' T)) :=
 h.turn hi hX.os hX.tape hX.output hX.size (fun k hk hne => hX.block k hk hne) hb (fun k hk => ⟨.inl hk, by cases hk; exact hb.lt⟩)
theorem St.grown {i n n' sz : Nat} {v v' : Value} {T : TypeId} {xs xs' : List Value} (h : St M w X L) (hi : L[i]? = some (.row v n T sz xs)) (ho : X'.ownsRow 0 T sz v' n' xs') (hg : X.grownBy X' v.ownBlock)
 (hb : v'.ownBlock = v.ownBlock ∨ ∀ g, v'.ownBlock = some g → X.heap.size ≤ g) : St M w X' (L.set i (.row v' n' T sz xs')) :=
 h.turn hi hg.os hg.tape hg.output hg.size (fun k hk hne => hg.block k hk (fun e => hne e.symm)) ho (fun k hk => by
  refine ⟨?_, (ho.lt k hk).2⟩
  rcases hb with hb | hb
  · left; show v.ownBlock = some k; rw [← hb]; exact hk
  · right; exact hb k hk)
end
section
variable {P : Program} {ops : Array Oper} {rest : List Oper} {o : Oper} {a : Act} {Q : Exit → Act → World → Prop} {X X' : World} {N d : Nat} {l : List (Nat × Value)} {v : Value}
theorem wanted_none (a : Act) (ops : Array Oper) (hg : o.guard = none) : Region.wanted o (yielded ops a.tmps) = true := by unfold Region.wanted; rw [hg]
theorem wn {a : Act} {ops : Array Oper} (hg : o.guard = none) : Region.wanted o (yielded ops a.tmps) = true := wanted_none a ops hg
theorem wanted_yes {j t : Nat} {b c : Bool} (ha : Has ds a N l) (ops : Array Oper) (hg : o.guard = some (j, b)) (hj : (ops[j]?).bind (·.dst) = some t) (ht : look l t = some (.bool c)) (hc : c = b) : Region.wanted o (yielded ops a.tmps) = true := by
 unfold Region.wanted yielded
 rw [hg]
 simp only [hj, Option.bind_some, ha.slot _ _ ht, hc, BEq.rfl]
theorem wanted_no {j t : Nat} {b c : Bool} (ha : Has ds a N l) (ops : Array Oper) (hg : o.guard = some (j, b)) (hj : (ops[j]?).bind (·.dst) = some t) (ht : look l t = some (.bool c)) (hc : c = !b) : Region.wanted o (yielded ops a.tmps) = false := by
 unfold Region.wanted yielded
 rw [hg]
 simp only [hj, Option.bind_some, ha.slot _ _ ht, hc]
 cases b <;> rfl
theorem wanted_not {j t : Nat} {b : Bool} (ha : Has ds a N l) (ops : Array Oper) (hg : o.guard = some (j, b)) (hj : (ops[j]?).bind (·.dst) = some t) (ht : look l t = some undef) : Region.wanted o (yielded ops a.tmps) = false := by
 unfold Region.wanted yielded
 rw [hg]
 simp only [hj, Option.bind_some, ha.slot _ _ ht]
 rfl
theorem sl_step (hw : Region.wanted o (yielded ops a.tmps) = true) (h : ∀ K : Act → World → Prop, (∀ a w, wpList P ops Q rest a w → K a w) → o.wp P a X K Q) : wpList P ops Q (o :: rest) a X :=
 wpList_step fun K hK => by rw [if_pos hw]; exact h K hK
theorem sl_val (ha : Has ds a N l) (hw : Region.wanted o (yielded ops a.tmps) = true) (hx : (execOp a.eval o).run P X = .ok (.value v) X') (hd : o.dst = some d) (hN : Nat.blt d N = true)
 (k : ∀ a', Has ds a' N ((d, v) :: l) → wpList P ops Q rest a' X') : wpList P ops Q (o :: rest) a X :=
 sl_step hw fun K hK => by
  unfold Oper.wp
  rw [hx]
  exact hK _ _ (by rw [hd]; exact k _ (ha.put hN v))
theorem sv {ds : List Deferred} (ha : Has ds a N l) (hx : (execOp a.eval o).run P X = .ok (.value v) X') (k : ∀ a', Has ds a' N ((d, v) :: l) → wpList P ops Q rest a' X') (hg : o.guard = none := by rfl) (hd : o.dst = some d := by rfl) (hN : Nat.blt d N = true := by rfl) : wpList P ops Q (o :: rest) a X := sl_val ha (wanted_none a ops hg) hx hd hN k
theorem sl_no (ha : Has ds a N l) (hw : Region.wanted o (yielded ops a.tmps) = false) (hd : o.dst = some d) (hN : Nat.blt d N = true)
 (k : ∀ a', Has ds a' N ((d, undef) :: l) → wpList P ops Q rest a' X) : wpList P ops Q (o :: rest) a X :=
 wpList_step fun K hK => by rw [hw]; exact hK _ _ (by rw [hd]; exact k _ (ha.put hN undef))
theorem no {ds : List Deferred} {P : Program} {ops : Array Oper} {rest : List Oper} {o : Oper} {a : Act} {Q : Exit → Act → World → Prop} {X : World} {N d : Nat} {l : List (Nat × Value)} {j t : Nat} {b c : Bool} (ha : Has ds a N l) (k : ∀ a', Has ds a' N ((d, undef) :: l) → wpList P ops Q rest a' X) (hg : o.guard = some (j, b) := by exact rfl) (hj : (ops[j]?).bind (·.dst) = some t := by exact rfl) (ht : look l t = some (.bool c) := by exact rfl) (hc : c = !b := by assumption) (hd : o.dst = some d := by exact rfl) (hN : Nat.blt d N = true := by exact rfl) : wpList P ops Q (o :: rest) a X := sl_no ha (wanted_no ha _ hg hj ht hc) hd hN k
theorem sy {ds : List Deferred} {P : Program} {ops : Array Oper} {rest : List Oper} {o : Oper} {a : Act} {Q : Exit → Act → World → Prop} {X : World} {N d : Nat} {l : List (Nat × Value)} {X' : World} {j t : Nat} {b c : Bool} {v : Value} (ha : Has ds a N l) (hx : (execOp a.eval o).run P X = .ok (.value v) X') (k : ∀ a', Has ds a' N ((d, v) :: l) → wpList P ops Q rest a' X') (hg : o.guard = some (j, b) := by exact rfl) (hj : (ops[j]?).bind (·.dst) = some t := by exact rfl) (ht : look l t = some (.bool c) := by exact rfl) (hc : c = b := by assumption) (hd : o.dst = some d := by exact rfl) (hN : Nat.blt d N = true := by exact rfl) : wpList P ops Q (o :: rest) a X := sl_val ha (wanted_yes ha _ hg hj ht hc) hx hd hN k
theorem sl_unit (hw : Region.wanted o (yielded ops a.tmps) = true) (hx : (execOp a.eval o).run P X = .ok .skip X') (hd : o.dst = none) (k : wpList P ops Q rest a X') : wpList P ops Q (o :: rest) a X :=
 sl_step hw fun K hK => by
  unfold Oper.wp
  rw [hx]
  exact hK _ _ (by rw [hd]; exact k)
theorem sl_call {f : FuncId} {args : Array Value} {R : Ending → World → Prop} (ha : Has ds a N l) (hw : Region.wanted o (yielded ops a.tmps) = true) (hx : (execOp a.eval o).run P X = .ok (.enter f args) X) (hd : o.dst = some d) (hN : Nat.blt d N = true)
 (hc : Calls P f args X R) (k : ∀ e X', R e X' → ∃ v, e = .returned v ∧ ∀ a', Has ds a' N ((d, v) :: l) → wpList P ops Q rest a' X') : wpList P ops Q (o :: rest) a X :=
 sl_step hw fun K hK => by
  unfold Oper.wp
  rw [hx]
  refine hc.mono fun e X' hR => ?_
  obtain ⟨v, rfl, hk⟩ := k e X' hR
  exact hK _ _ (by rw [hd]; exact hk _ (ha.put hN v))
theorem sl_pure {f : FuncId} {args : Array Value} (ha : Has ds a N l) (hw : Region.wanted o (yielded ops a.tmps) = true) (hx : (execOp a.eval o).run P X = .ok (.enter f args) X) (hd : o.dst = some d) (hN : Nat.blt d N = true)
 (hc : Calls P f args X fun e X' => e = .returned v ∧ X = X') (k : ∀ a', Has ds a' N ((d, v) :: l) → wpList P ops Q rest a' X) : wpList P ops Q (o :: rest) a X :=
 sl_call ha hw hx hd hN hc fun e X' ⟨he, hX⟩ => ⟨v, he, fun a' ha' => by subst hX; exact k a' ha'⟩
theorem sl_bel {M : List Nat} {w : World} {L : List Ent} {f : FuncId} {args : Array Value} (ha : Has ds a N l) (hw : Region.wanted o (yielded ops a.tmps) = true) (hx : (execOp a.eval o).run P X = .ok (.enter f args) X) (hd : o.dst = some d) (hN : Nat.blt d N = true)
 (hS : St M w X L) (hc : Calls P f args X fun e X' => e = .returned v ∧ Below X.heap.size X X') (k : ∀ a' X', Has ds a' N ((d, v) :: l) → St M w X' L → wpList P ops Q rest a' X') : wpList P ops Q (o :: rest) a X :=
 sl_call ha hw hx hd hN hc fun e X' ⟨he, hX⟩ => ⟨v, he, fun a' ha' => k a' X' ha' (hS.grow hX)⟩
theorem sl_own {M : List Nat} {w : World} {L : List Ent} {f : FuncId} {args : Array Value} {B n sz : Nat} {T : TypeId} {xs : List Value} (ha : Has ds a N l) (hw : Region.wanted o (yielded ops a.tmps) = true) (hx : (execOp a.eval o).run P X = .ok (.enter f args) X) (hd : o.dst = some d) (hN : Nat.blt d N = true)
 (hS : St M w X L) (hc : Calls P f args X fun e X' => ∃ A c, e = .returned (.slice A n c) ∧ X'.ownsRow B T sz (.slice A n c) n xs ∧ Below X.heap.size X X') (hB : X.heap.size ≤ B)
 (k : ∀ A c a' X', Has ds a' N ((d, .slice A n c) :: l) → St M w X' (.row (.slice A n c) n T sz xs :: L) → wpList P ops Q rest a' X') : wpList P ops Q (o :: rest) a X :=
 sl_call ha hw hx hd hN hc fun e X' ⟨A, c, he, ho, hX⟩ => ⟨_, he, fun a' ha' => k A c a' X' ha' (hS.add hX (ownsRow_mono ho (Nat.zero_le _)) (fun b hb => ⟨Nat.le_trans hB (ho.lt b hb).1, (ho.lt b hb).2⟩))⟩
theorem sl_new {M : List Nat} {w : World} {L : List Ent} {cs : Array Value} {T : TypeId} {f : Nat → Value} (ha : Has ds a N l) (hw : Region.wanted o (yielded ops a.tmps) = true) (hx : (execOp a.eval o).run P X = .ok (.value (f X.heap.size)) (X.alloc (.cells cs T))) (hd : o.dst = some d) (hN : Nat.blt d N = true)
 (hS : St M w X L) (k : ∀ b a' X', w.heap.size ≤ b → Has ds a' N ((d, f b) :: l) → St M w X' (.box b cs T :: L) → wpList P ops Q rest a' X') : wpList P ops Q (o :: rest) a X :=
 sl_val ha hw hx hd hN fun a' ha' => k X.heap.size a' _ hS.size ha' (hS.add (bel_alloc (Below.refl _ _) _) (Box.new X cs T) (fun b hb => by cases hb; simp))
theorem sl_cut (n : Nat) (R : Act → World → Prop) (h1 : wpList P ops (fun e a' w' => match e with | .normal => R a' w' | e => Q e a' w') ((o :: rest).take n) a X) (h2 : ∀ a' X', R a' X' → wpList P ops Q ((o :: rest).drop n) a' X') : wpList P ops Q (o :: rest) a X := by
 have key : ∀ (l1 l2 : List Oper) (a : Act) (X : World), wpList P ops (fun e a' w' => match e with | .normal => R a' w' | e => Q e a' w') l1 a X → (∀ a' X', R a' X' → wpList P ops Q l2 a' X') → wpList P ops Q (l1 ++ l2) a X := by
  intro l1
  induction l1 with
  | nil => intro l2 a X h hk; exact hk a X h
  | cons x l1 ih =>
   intro l2 a X h hk
   unfold wpList at h
   rw [List.cons_append]
   unfold wpList
   split
   · rename_i hw
     rw [if_pos hw] at h
     have hlet : LetsOut (fun e a' w' => match e with | .normal => R a' w' | e => Q e a' w') → LetsOut Q := fun ⟨a0, w0, h0⟩ => ⟨a0, w0, h0⟩
     rcases h with h | ⟨h1, h2⟩
     · left
       unfold Oper.wp at h ⊢
       generalize (execOp a.eval x).run P X = r at *
       cases r with
       | ok nx w' =>
        cases nx <;> simp only [Oper.upon] at h ⊢
        case value u => exact ih l2 _ _ h hk
        case skip => exact ih l2 _ _ h hk
        case defer d => exact ih l2 _ _ h hk
        case enter f args =>
         exact h.mono fun e w'' he => by
          cases e with
          | returned u => exact ih l2 _ _ he hk
          | panicked ch => exact he
          | outgrown => exact hlet he
        case row row args => exact h.mono fun u w'' he => ih l2 _ _ he hk
       | halt x w' => cases x <;> simp only [Oper.upon] at h ⊢ <;> exact h
     · exact .inr ⟨h1, hlet h2⟩
   · rename_i hw
     rw [if_neg hw] at h
     exact ih l2 _ _ h hk
 have := key ((o :: rest).take n) ((o :: rest).drop n) a X h1 h2
 rwa [List.take_append_drop] at this
end
section
variable {P : Program} {ρ : Operand → Value} {X : World} {d : Option Tmp} {ty : TypeId} {ps : String} {af : Array Edge} {g : Option (Nat × Bool)}
theorem ex_move {x : Operand} {v : Value} (hx : ρ x = v) : (execOp ρ ⟨d, .move x, ty, ps, af, g⟩).run P X = .ok (.value v) X := by subst hx; rfl
theorem ex_assign {x : Operand} {v : Value} (hx : ρ x = v) : (execOp ρ ⟨d, .assign x, ty, ps, af, g⟩).run P X = .ok (.value v) X := by subst hx; rfl
theorem mv {ds : List Deferred} {P : Program} {ops : Array Oper} {rest : List Oper} {a : Act} {Q : Exit → Act → World → Prop} {X : World} {N d : Nat} {l : List (Nat × Value)} {v : Value} {x : Operand} {ty : TypeId} {ps : String} {af : Array Edge} (ha : Has ds a N l)
 (k : ∀ a', Has ds a' N ((d, v) :: l) → wpList P ops Q rest a' X) (hx : evO l x = some v := by exact rfl) (hN : Nat.blt d N = true := by exact rfl) : wpList P ops Q (⟨some d, .move x, ty, ps, af, none⟩ :: rest) a X :=
 sl_val ha (wanted_none a ops rfl) (ex_move (ha.ev hx)) rfl hN k
theorem ma {ds : List Deferred} {P : Program} {ops : Array Oper} {rest : List Oper} {a : Act} {Q : Exit → Act → World → Prop} {X : World} {N d : Nat} {l : List (Nat × Value)} {v : Value} {x : Operand} {ty : TypeId} {ps : String} {af : Array Edge} (ha : Has ds a N l)
 (k : ∀ a', Has ds a' N ((d, v) :: l) → wpList P ops Q rest a' X) (hx : evO l x = some v := by exact rfl) (hN : Nat.blt d N = true := by exact rfl) : wpList P ops Q (⟨some d, .assign x, ty, ps, af, none⟩ :: rest) a X :=
 sl_val ha (wanted_none a ops rfl) (ex_assign (ha.ev hx)) rfl hN k
theorem mvv {ds : List Deferred} {P : Program} {ops : Array Oper} {rest : List Oper} {a : Act} {Q : Exit → Act → World → Prop} {X : World} {N d e : Nat} {l : List (Nat × Value)} {v u : Value} {x y : Operand} {ty ty' : TypeId} {ps ps' : String} {af af' : Array Edge} (ha : Has ds a N l)
 (k : ∀ a', Has ds a' N ((e, u) :: (d, v) :: l) → wpList P ops Q rest a' X) (hx : evO l x = some v := by exact rfl) (hy : evO ((d, v) :: l) y = some u := by exact rfl) (hN : Nat.blt d N = true := by exact rfl) (hN' : Nat.blt e N = true := by exact rfl) : wpList P ops Q (⟨some d, .move x, ty, ps, af, none⟩ :: ⟨some e, .move y, ty', ps', af', none⟩ :: rest) a X :=
 mv ha (fun _ h => mv h k hy hN') hx hN
theorem mva {ds : List Deferred} {P : Program} {ops : Array Oper} {rest : List Oper} {a : Act} {Q : Exit → Act → World → Prop} {X : World} {N d e : Nat} {l : List (Nat × Value)} {v u : Value} {x y : Operand} {ty ty' : TypeId} {ps ps' : String} {af af' : Array Edge} (ha : Has ds a N l)
 (k : ∀ a', Has ds a' N ((e, u) :: (d, v) :: l) → wpList P ops Q rest a' X) (hx : evO l x = some v := by exact rfl) (hy : evO ((d, v) :: l) y = some u := by exact rfl) (hN : Nat.blt d N = true := by exact rfl) (hN' : Nat.blt e N = true := by exact rfl) : wpList P ops Q (⟨some d, .move x, ty, ps, af, none⟩ :: ⟨some e, .assign y, ty', ps', af', none⟩ :: rest) a X :=
 mv ha (fun _ h => ma h k hy hN') hx hN
theorem mav {ds : List Deferred} {P : Program} {ops : Array Oper} {rest : List Oper} {a : Act} {Q : Exit → Act → World → Prop} {X : World} {N d e : Nat} {l : List (Nat × Value)} {v u : Value} {x y : Operand} {ty ty' : TypeId} {ps ps' : String} {af af' : Array Edge} (ha : Has ds a N l)
 (k : ∀ a', Has ds a' N ((e, u) :: (d, v) :: l) → wpList P ops Q rest a' X) (hx : evO l x = some v := by exact rfl) (hy : evO ((d, v) :: l) y = some u := by exact rfl) (hN : Nat.blt d N = true := by exact rfl) (hN' : Nat.blt e N = true := by exact rfl) : wpList P ops Q (⟨some d, .assign x, ty, ps, af, none⟩ :: ⟨some e, .move y, ty', ps', af', none⟩ :: rest) a X :=
 ma ha (fun _ h => mv h k hy hN') hx hN
theorem maa {ds : List Deferred} {P : Program} {ops : Array Oper} {rest : List Oper} {a : Act} {Q : Exit → Act → World → Prop} {X : World} {N d e : Nat} {l : List (Nat × Value)} {v u : Value} {x y : Operand} {ty ty' : TypeId} {ps ps' : String} {af af' : Array Edge} (ha : Has ds a N l)
 (k : ∀ a', Has ds a' N ((e, u) :: (d, v) :: l) → wpList P ops Q rest a' X) (hx : evO l x = some v := by exact rfl) (hy : evO ((d, v) :: l) y = some u := by exact rfl) (hN : Nat.blt d N = true := by exact rfl) (hN' : Nat.blt e N = true := by exact rfl) : wpList P ops Q (⟨some d, .assign x, ty, ps, af, none⟩ :: ⟨some e, .assign y, ty', ps', af', none⟩ :: rest) a X :=
 ma ha (fun _ h => ma h k hy hN') hx hN
theorem ex_pick_t {c x y : Operand} {b : Bool} {v : Value} (hc : ρ c = .bool b) (hb : b = true) (hx : ρ x = v) : (execOp ρ ⟨d, .pick c x y, ty, ps, af, g⟩).run P X = .ok (.value v) X := by
 subst hx hb; simp [execOp, hc, asBool]
theorem ex_pick_f {c x y : Operand} {b : Bool} {v : Value} (hc : ρ c = .bool b) (hb : b = false) (hy : ρ y = v) : (execOp ρ ⟨d, .pick c x y, ty, ps, af, g⟩).run P X = .ok (.value v) X := by
 subst hy hb; simp [execOp, hc, asBool]
theorem ex_pick_and {c x y : Operand} {b u : Bool} {v : Value} (hc : ρ c = .bool b) (hx : ρ x = v) (hv : b = true → v = .bool u) (hy : ρ y = .bool false) : (execOp ρ ⟨d, .pick c x y, ty, ps, af, g⟩).run P X = .ok (.value (.bool (b && u))) X := by
 cases b
 · simp [execOp, hc, hy, asBool]
 · rw [hv rfl] at hx; simp [execOp, hc, hx, asBool]
theorem ex_extract {x : Operand} {i : Nat} {vs : Array Value} {v : Value} (hx : ρ x = .tuple vs) (hi : vs[i]? = some v) : (execOp ρ ⟨d, .extract x i, ty, ps, af, g⟩).run P X = .ok (.value v) X := by
 simp [execOp, hx, Instr.extract, hi]
theorem vx {ds : List Deferred} {P : Program} {ops : Array Oper} {rest : List Oper} {a : Act} {Q : Exit → Act → World → Prop} {X : World} {N d : Nat} {l : List (Nat × Value)} {ty : TypeId} {ps : String} {af : Array Edge} {x : Operand} {i : Nat} {vs : Array Value} {v : Value} (ha : Has ds a N l) (k : ∀ a', Has ds a' N ((d, v) :: l) → wpList P ops Q rest a' X) (hx : evO l x = some (.tuple vs) := by exact rfl) (hi : vs[i]? = some v := by exact rfl) (hN : Nat.blt d N = true := by exact rfl) : wpList P ops Q (⟨some d, .extract x i, ty, ps, af, none⟩ :: rest) a X := sl_val ha (wanted_none _ _ rfl) (ex_extract (ha.ev hx) hi) rfl hN k
def fieldB (P : Program) (s : TypeId) (k : Nat) : Option Nat := match P.underlying s with
 | some (.struct fs) => (fs[k]?).bind fun f => (P.info? f.type).bind fun i => if i.size = 0 then none else some f.offset
 | _ => none
theorem add_none (b o n : Nat) : (⟨b, o, none⟩ : Addr).add n = ⟨b, o + n, none⟩ := by unfold Addr.add; split <;> simp_all
theorem ex_field {s : TypeId} {x : Operand} {k b o off j : Nat} (hf : fieldB P s k = some off) (hx : ρ x = .pointer (some ⟨b, o, none⟩)) (hj : o + off = j) : (execOp ρ ⟨d, .fieldAddr s x k, ty, ps, af, g⟩).run P X = .ok (.value (.pointer (some ⟨b, j, none⟩))) X := by
 subst hj
 unfold fieldB at hf
 cases hu : P.underlying s with
 | none => rw [hu] at hf; cases hf
 | some td =>
  rw [hu] at hf
  cases td <;> try (cases hf)
  rename_i fs
  simp only at hf
  cases hk : fs[k]? with
  | none => rw [hk] at hf; cases hf
  | some f =>
   rw [hk] at hf
   simp only [Option.bind_some] at hf
   cases hi : P.info? f.type with
   | none => rw [hi] at hf; cases hf
   | some i =>
    rw [hi] at hf
    simp only [Option.bind_some] at hf
    split at hf
    · cases hf
    · rename_i h0
      injection hf with hf
      subst hf
      simp [execOp, hx, Instr.fieldAt, run_underlying hu, hk, Instr.sureAddr, fieldPlace, sizeOf, typeInfo, hi, h0, add_none]
theorem vf {ds : List Deferred} {P : Program} {ops : Array Oper} {rest : List Oper} {a : Act} {Q : Exit → Act → World → Prop} {X : World} {N d : Nat} {l : List (Nat × Value)} {ty : TypeId} {ps : String} {af : Array Edge} {s : TypeId} {x : Operand} {kk b oo : Nat} (ha : Has ds a N l) (off j : Nat) (k : ∀ a', Has ds a' N ((d, .pointer (some ⟨b, j, none⟩)) :: l) → wpList P ops Q rest a' X) (hx : evO l x = some (.pointer (some ⟨b, oo, none⟩)) := by exact rfl) (hj : oo + off = j := by exact rfl) (hN : Nat.blt d N = true := by exact rfl) (hf : fieldB P s kk = some off := by kernel_rfl) : wpList P ops Q (⟨some d, .fieldAddr s x kk, ty, ps, af, none⟩ :: rest) a X := sl_val ha (wanted_none _ _ rfl) (ex_field hf (ha.ev hx) hj) rfl hN k
theorem fx {s : TypeId} {x : Operand} {k b o : Nat} (off j : Nat) (hx : ρ x = .pointer (some ⟨b, o, none⟩)) (hj : o + off = j := by exact rfl) (hf : fieldB P s k = some off := by kernel_rfl) : (execOp ρ ⟨d, .fieldAddr s x k, ty, ps, af, g⟩).run P X = .ok (.value (.pointer (some ⟨b, j, none⟩))) X := ex_field hf hx hj
theorem fy {s : TypeId} {x : Operand} {k b o j : Nat} (off : Nat) (hx : ρ x = .pointer (some ⟨b, o, none⟩)) (hj : o + off = j := by exact rfl) (hf : fieldB P s k = some off := by kernel_rfl) : (execOp ρ ⟨d, .fieldAddr s x k, ty, ps, af, g⟩).run P X = .ok (.value (.pointer (some ⟨b, j, none⟩))) X := ex_field hf hx hj
def aggO (P : Program) (t : TypeId) : Option Bool := (P.underlying t).map fun | .struct _ | .array _ _ => true | _ => false
theorem run_isAgg {t : TypeId} {b : Bool} (h : aggO P t = some b) : (isAgg t).run P X = .ok b X := by
 unfold aggO at h
 cases hu : P.underlying t with
 | none => rw [hu] at h; cases h
 | some td =>
  rw [hu] at h
  injection h with h
  subst h
  cases td <;> simp [isAgg, run_underlying hu]
theorem ex_load {t : TypeId} {x : Operand} {p : Addr} {v : Value} (ht : aggO P t = some false) (hx : ρ x = .pointer (some p)) (hc : X.cell? p = some v) : (execOp ρ ⟨d, .load t x, ty, ps, af, g⟩).run P X = .ok (.value v) X := by
 simp [execOp, hx, Instr.loadAt, Instr.sureAddr, loadVar, run_isAgg ht, run_load, hc]
theorem vl {ds : List Deferred} {P : Program} {ops : Array Oper} {rest : List Oper} {a : Act} {Q : Exit → Act → World → Prop} {X : World} {N d : Nat} {l : List (Nat × Value)} {ty : TypeId} {ps : String} {af : Array Edge} {M : List Nat} {w : World} {L : List Ent} {t : TypeId} {x : Operand} {b j : Nat} {cs : Array Value} {T : TypeId} {v : Value} (ha : Has ds a N l) (hS : St M w X L) (i : Nat) (k : ∀ a', Has ds a' N ((d, v) :: l) → wpList P ops Q rest a' X) (hx : evO l x = some (.pointer (some ⟨b, j, none⟩)) := by exact rfl) (hi : L[i]? = some (.box b cs T) := by exact rfl) (hj : cs.toList[j]? = some v := by exact rfl) (hN : Nat.blt d N = true := by exact rfl) (ht : aggO P t = some false := by kernel_rfl) : wpList P ops Q (⟨some d, .load t x, ty, ps, af, none⟩ :: rest) a X := sl_val ha (wanted_none _ _ rfl) (ex_load ht (ha.ev hx) (hS.cell hi hj)) rfl hN k
theorem lx {t : TypeId} {x : Operand} {p : Addr} {v : Value} (hx : ρ x = .pointer (some p)) (hc : X.cell? p = some v) (ht : aggO P t = some false := by kernel_rfl) : (execOp ρ ⟨d, .load t x, ty, ps, af, g⟩).run P X = .ok (.value v) X := ex_load ht hx hc
theorem ex_loads {t : TypeId} {x : Operand} {b j : Nat} {vs : List Value} (ht : aggO P t = some true) (hs : (P.info? t).map (·.size) = some vs.length) (hx : ρ x = .pointer (some ⟨b, j, none⟩)) (hc : ∀ k u, vs[k]? = some u → X.cell? ⟨b, j + k, none⟩ = some u) :
 (execOp ρ ⟨d, .load t x, ty, ps, af, g⟩).run P X = .ok (.value (.agg vs.toArray)) X := by
 have hl := run_loadCells_list (P := P) X ⟨b, j, none⟩ vs (fun k u hk => by rw [add_none]; exact hc k u hk)
 cases hq : P.info? t with
 | none => rw [hq] at hs; cases hs
 | some i =>
  rw [hq] at hs
  have hi : i.size = vs.length := by simpa using hs
  simp [execOp, hx, Instr.loadAt, Instr.sureAddr, loadVar, run_isAgg ht, sizeOf, typeInfo, hq, hi, hl]
theorem ex_box {t : TypeId} {x : Operand} {v : Value} (hx : ρ x = v) : (execOp ρ ⟨d, .box t x, ty, ps, af, g⟩).run P X = .ok (.value (.pointer (some ⟨X.heap.size, 0, none⟩))) (X.alloc (.cells v.cells t)) := by
 subst hx; rfl
theorem nb {ds : List Deferred} {P : Program} {ops : Array Oper} {rest : List Oper} {a : Act} {Q : Exit → Act → World → Prop} {X : World} {N d : Nat} {l : List (Nat × Value)} {ty : TypeId} {ps : String} {af : Array Edge} {M : List Nat} {w : World} {L : List Ent} {t : TypeId} {x : Operand} {v : Value} (ha : Has ds a N l) (hx : evO l x = some v) (hN : Nat.blt d N = true) (hS : St M w X L) (k : ∀ b a' X', w.heap.size ≤ b → Has ds a' N ((d, .pointer (some ⟨b, 0, none⟩)) :: l) → St M w X' (.box b v.cells t :: L) → wpList P ops Q rest a' X') : wpList P ops Q (⟨some d, .box t x, ty, ps, af, none⟩ :: rest) a X := sl_new ha (wanted_none _ _ rfl) (f := fun b => .pointer (some ⟨b, 0, none⟩)) (ex_box (ha.ev hx)) rfl hN hS k
theorem ex_alloc {t : TypeId} {z : Value} (hz : (P.info? t).map (·.zero) = some (some z)) : (execOp ρ ⟨d, .alloc t, ty, ps, af, g⟩).run P X = .ok (.value (.pointer (some ⟨X.heap.size, 0, none⟩))) (X.alloc (.cells z.cells t)) := by
 cases hq : P.info? t with
 | none => rw [hq] at hz; cases hz
 | some i =>
  rw [hq] at hz
  have hi : i.zero = some z := by simpa using hz
  simp [execOp, Instr.alloc, zeroValue, typeInfo, hq, hi, newVar, newRow]
theorem na {ds : List Deferred} {P : Program} {ops : Array Oper} {rest : List Oper} {a : Act} {Q : Exit → Act → World → Prop} {X : World} {N d : Nat} {l : List (Nat × Value)} {ty : TypeId} {ps : String} {af : Array Edge} {M : List Nat} {w : World} {L : List Ent} {t : TypeId} (z : Value) (ha : Has ds a N l) (hN : Nat.blt d N = true) (hS : St M w X L) (k : ∀ b a' X', w.heap.size ≤ b → Has ds a' N ((d, .pointer (some ⟨b, 0, none⟩)) :: l) → St M w X' (.box b z.cells t :: L) → wpList P ops Q rest a' X') (hz : (P.info? t).map (·.zero) = some (some z) := by kernel_rfl) : wpList P ops Q (⟨some d, .alloc t, ty, ps, af, none⟩ :: rest) a X := sl_new ha (wanted_none _ _ rfl) (f := fun b => .pointer (some ⟨b, 0, none⟩)) (ex_alloc hz) rfl hN hS k
theorem ex_not {x : Operand} {t : TypeId} {b : Bool} (hx : ρ x = .bool b) : (execOp ρ ⟨d, .unOp .not t x, ty, ps, af, g⟩).run P X = .ok (.value (.bool (!b))) X := by
 simp [execOp, hx, Op.unary]
theorem wrap_in {n : Int} (h : -9223372036854775808 ≤ n ∧ n < 9223372036854775808) : IntKind.i64.wrap n = n := by rw [IntKind.wrap_i64]; omega
theorem ex_add {x y : Operand} {t t' : TypeId} {m n : Int} (hx : ρ x = .int .i64 m) (hy : ρ y = .int .i64 n) (h : -9223372036854775808 ≤ m + n ∧ m + n < 9223372036854775808) : (execOp ρ ⟨d, .binOp .add t x y t', ty, ps, af, g⟩).run P X = .ok (.value (.int .i64 (m + n))) X := by
 simp [execOp, hx, hy, eqGuard, binOp, Op.intArith, wrap_in h]
theorem ex_sub {x y : Operand} {t t' : TypeId} {m n : Int} (hx : ρ x = .int .i64 m) (hy : ρ y = .int .i64 n) (h : -9223372036854775808 ≤ m - n ∧ m - n < 9223372036854775808) : (execOp ρ ⟨d, .binOp .sub t x y t', ty, ps, af, g⟩).run P X = .ok (.value (.int .i64 (m - n))) X := by
 simp [execOp, hx, hy, eqGuard, binOp, Op.intArith, wrap_in h]
theorem ex_mul {x y : Operand} {t t' : TypeId} {m n : Int} (hx : ρ x = .int .i64 m) (hy : ρ y = .int .i64 n) (h : -9223372036854775808 ≤ m * n ∧ m * n < 9223372036854775808) : (execOp ρ ⟨d, .binOp .mul t x y t', ty, ps, af, g⟩).run P X = .ok (.value (.int .i64 (m * n))) X := by
 simp [execOp, hx, hy, eqGuard, binOp, Op.intArith, wrap_in h]
theorem ex_lss {x y : Operand} {t t' : TypeId} {k : IntKind} {m n : Int} (hx : ρ x = .int k m) (hy : ρ y = .int k n) : (execOp ρ ⟨d, .binOp .lss t x y t', ty, ps, af, g⟩).run P X = .ok (.value (.bool (decide (m < n)))) X := by
 simp [execOp, hx, hy, eqGuard, binOp, Op.intCmp]
theorem ex_leq {x y : Operand} {t t' : TypeId} {k : IntKind} {m n : Int} (hx : ρ x = .int k m) (hy : ρ y = .int k n) : (execOp ρ ⟨d, .binOp .leq t x y t', ty, ps, af, g⟩).run P X = .ok (.value (.bool (decide (m ≤ n)))) X := by
 simp [execOp, hx, hy, eqGuard, binOp, Op.intCmp]
theorem ex_gtr {x y : Operand} {t t' : TypeId} {k : IntKind} {m n : Int} (hx : ρ x = .int k m) (hy : ρ y = .int k n) : (execOp ρ ⟨d, .binOp .gtr t x y t', ty, ps, af, g⟩).run P X = .ok (.value (.bool (decide (m > n)))) X := by
 simp [execOp, hx, hy, eqGuard, binOp, Op.intCmp]
theorem ex_eql {x y : Operand} {t t' : TypeId} {k : IntKind} {m n : Int} (hx : ρ x = .int k m) (hy : ρ y = .int k n) : (execOp ρ ⟨d, .binOp .eql t x y t', ty, ps, af, g⟩).run P X = .ok (.value (.bool (m == n))) X := by
 simp [execOp, hx, hy, eqGuard, binOp, Op.intCmp]
theorem ex_neq {x y : Operand} {t t' : TypeId} {k : IntKind} {m n : Int} (hx : ρ x = .int k m) (hy : ρ y = .int k n) : (execOp ρ ⟨d, .binOp .neq t x y t', ty, ps, af, g⟩).run P X = .ok (.value (.bool (m != n))) X := by
 simp [execOp, hx, hy, eqGuard, binOp, Op.intCmp]
theorem bl_beq (x y : ByteArray) : (x.toList == y.toList) = decide (x = y) := by
 rw [Bool.eq_iff_iff, beq_iff_eq, decide_eq_true_eq]
 constructor
 · intro h
   have e : ∀ z : ByteArray, z.toList = z.data.toList := fun z => ByteArray.toList_eq z
   rw [e, e] at h
   exact bl_inj h
 · rintro rfl; rfl
theorem ex_len {x : Operand} {t : TypeId} {n c : Nat} {A : Option Addr} {e : TypeId} (ht : P.underlying t = some (.slice e)) (hx : ρ x = .slice A n c) : (execOp ρ ⟨d, .call ⟨.builtin .len, #[x], #[t]⟩, ty, ps, af, g⟩).run P X = .ok (.value (.int .i64 n)) X := by
 simp [execOp, resolve, invoke, builtin, Builtin.len_, hx, run_underlying ht, goInt]
theorem ex_index {x y : Operand} {t e : TypeId} {n c b o i sz j : Nat} {m : Int} (ht : P.underlying t = some (.slice e)) (hs : (P.info? e).map (·.size) = some sz) (hx : ρ x = .slice (some ⟨b, o, none⟩) n c) (hy : ρ y = .int .i64 m) (hm : m = (i : Int)) (hi : i < n) (hj : o + i * sz = j) :
 (execOp ρ ⟨d, .indexAddr t x y, ty, ps, af, g⟩).run P X = .ok (.value (.pointer (some ⟨b, j, none⟩))) X := by
 subst hm hj
 cases hq : P.info? e with
 | none => rw [hq] at hs; cases hs
 | some q =>
  rw [hq] at hs
  have hz : q.size = sz := by simpa using hs
  have h1 : (0 : Int) ≤ i ∧ (i : Int) < n := by omega
  simp [execOp, hx, hy, Instr.indexAt, asIntOf, run_underlying ht, hi, sizeOf, typeInfo, hq, hz, add_none]
theorem ex_conv {x : Operand} {s t : TypeId} {k k' : IntKind} {n : Int} {k0 : IntKind} (hs : (P.underlying s).map (fun | .int _ => true | _ => false) = some true) (ht : P.underlying t = some (.int k')) (hx : ρ x = .int k n) : (execOp ρ ⟨d, .convert s t x, ty, ps, af, g⟩).run P X = .ok (.value (.int k' (k'.wrap n))) X := by
 cases hq : P.underlying s with
 | none => rw [hq] at hs; cases hs
 | some td =>
  simp [execOp, hx, convert, run_underlying ht, run_underlying hq, Conv.intToInt]
theorem ex_call {f : FuncId} {args : Array Operand} {ts : Array TypeId} {vs : List Value} (hf : ∀ (vs0 : Array Value) (W : World), (callFunc f vs0).run P W = .ok (.enter f vs0) W) (ha : args.toList.map ρ = vs) (hfn : ρ (.func f) = .func (.func f) #[] #[]) :
 (execOp ρ ⟨d, .call ⟨.value (.func f), args, ts⟩, ty, ps, af, g⟩).run P X = .ok (.enter f vs.toArray) X := by
 have e : args.map ρ = vs.toArray := by rw [← ha]; apply Array.ext'; simp
 simp [execOp, resolve, e, hfn, Deferred.ofValue, invoke, hf]
end
end Go.Proofs.YtanicpgmbhfipaaGreatDoor
namespace Go.Proofs.YtanicpgmbhfipaaGreatDoor
set_option linter.unusedVariables false
set_option linter.unusedSimpArgs false
open Go.RowKit Go.Sort
variable {ds : List Deferred}
section
variable {P : Program} {Q : Exit → Act → World → Prop} {a : Act} {X : World} {N : Nat} {l : List (Nat × Value)}
theorem st_enter {f : FuncId} {fn : Func} {c : Code} {vs : List Value} {R : Ending → World → Prop} (hf : P.funcs[f]? = some fn) (hb : fn.body = some c) (hn : fn.ntmps = N) (hN : Nat.ble vs.length N = true)
 (h : ∀ a, Has [] a N (argl 0 vs) → c.wp P (bodyPost P fn R) a X) : Calls P f vs.toArray X R := by
 refine calls_of_wp hf hb ?_
 rw [hn]
 exact h _ (has_args hN)
theorem st_seq {x y : Code} (h : x.wp P (Exit.then (y.wp P Q) Q) a X) : (Code.seq x y).wp P Q a X := wp_seq h
theorem st_reg {id : Nat} {ol : List Oper} (h : wpList P ol.toArray Q ol a X) : (Code.region id ol.toArray false).wp P Q a X := wp_region_lit h
theorem st_nil {ops : Array Oper} (h : Q .normal a X) : wpList P ops Q [] a X := h
theorem st_if {c : Operand} {x y : Code} {t : Bool} (hc : a.eval c = .bool t) (ht : t = true → x.wp P Q a X) (hf : t = false → y.wp P Q a X) : (Code.cond c x y).wp P Q a X := wp_cond_split hc ht hf
theorem st_if_t {c : Operand} {x y : Code} {t : Bool} (hc : a.eval c = .bool t) (ht : t = true) (h : x.wp P Q a X) : (Code.cond c x y).wp P Q a X := wp_cond_split hc (fun _ => h) (fun h' => by rw [ht] at h'; cases h')
theorem st_if_f {c : Operand} {x y : Code} {t : Bool} (hc : a.eval c = .bool t) (ht : t = false) (h : y.wp P Q a X) : (Code.cond c x y).wp P Q a X := wp_cond_split hc (fun h' => by rw [ht] at h'; cases h') (fun _ => h)
theorem go_then {next : Act → World → Prop} (h : next a X) : Exit.then next Q .normal a X := h
theorem nsr {P : Program} {ops : Array Oper} {a : Act} {X : World} {Q : Exit → Act → World → Prop} {id : Nat} {ol : List Oper} {y : Code} (h : wpList P ol.toArray (Exit.then (y.wp P Q) Q) ol a X) : wpList P ops (Exit.then ((Code.seq (.region id ol.toArray false) y).wp P Q) Q) [] a X := st_nil (go_then (st_seq (st_reg h)))
theorem go_block {id : Nat} (h : Q .normal a X) : Exit.inBlock id Q .normal a X := h
theorem go_exit {id : Nat} (h : Q .normal a X) : Exit.inBlock id Q (.exit id) a X := by show (if id = id then _ else _); rw [if_pos rfl]; exact h
theorem go_exit_then {next : Act → World → Prop} {id : Nat} (h : Q (.exit id) a X) : Exit.then next Q (.exit id) a X := h
def keepL (l : List (Nat × Value)) : List Nat → List (Nat × Value)
 | [] => []
 | k :: ks => match look l k with | some v => (k, v) :: keepL l ks | none => keepL l ks
theorem st_loop {ι : Type} {c : Code} {M : List Nat} {w : World} {L : List Ent} (ha : Has ds a N l) (hS : St M w X L) (ks : List Nat) (J : ι → List (Nat × Value)) (F : ι → Prop) (E : ι → List Ent → List Ent) (μ : ι → Nat) (i0 : ι)
 (h0 : F i0) (hJ : allIn' l (J i0 ++ keepL l ks)) (hE : St M w X (E i0 L))
 (round : ∀ i a' X', F i → Has ds a' N (J i ++ keepL l ks) → St M w X' (E i L) → c.wp P (Exit.then (fun a2 X2 => ∃ i', μ i' < μ i ∧ F i' ∧ Has ds a2 N (J i' ++ keepL l ks) ∧ St M w X2 (E i' L)) Q) a' X') : (Code.loop c).wp P Q a X := by
 refine wp_loop_ghost (fun n a' X' => ∃ i, μ i = n ∧ F i ∧ Has ds a' N (J i ++ keepL l ks) ∧ St M w X' (E i L)) (μ i0) ⟨i0, rfl, h0, ha.re hJ, hE⟩ ?_
 rintro n a' X' ⟨i, rfl, hF, hH, hSt⟩
 refine wp_mono (round i a' X' hF hH hSt) ?_
 intro e a2 X2 hq
 cases e with
 | normal =>
  obtain ⟨i', h1, h2, h3, h4⟩ := hq
  exact ⟨μ i', h1, i', rfl, h2, h3, h4⟩
 | exit id => exact hq
 | goto l => exact hq
 | ret => exact hq
 | panic ch => exact hq
 | outgrown => exact hq
theorem st_join {c : Code} (R : Act → World → Prop) (h1 : c.wp P (Exit.then R Q) a X) (h2 : ∀ a' X', R a' X' → Q .normal a' X') : c.wp P Q a X := by
 refine wp_mono h1 ?_
 intro e a' X' hq
 cases e with
 | normal => exact h2 a' X' hq
 | exit id => exact hq
 | goto l => exact hq
 | ret => exact hq
 | panic ch => exact hq
 | outgrown => exact hq
theorem Has.getD {t : Nat} {v : Value} (ha : Has ds a N l) (h : look l t = some v) : a.tmps.getD t undef = v := by
 rw [Array.getD_eq_getD_getElem?, ha.slot t v h]; rfl
theorem run_cell {M : List Nat} {w : World} {L : List Ent} {i b : Nat} {cs : Array Value} {T ty : TypeId} (hS : St M w X L) (hi : L[i]? = some (.box b cs T)) (ht : aggO P ty = some true) (hs : (P.info? ty).map (·.size) = some cs.toList.length) :
 (loadVar ty ⟨b, 0, none⟩).run P X = .ok (.agg cs) X := by
 unfold aggO at ht
 cases hu : P.underlying ty with
 | none => rw [hu] at ht; cases ht
 | some td =>
  rw [hu] at ht
  have hs' : (P.info? ty).map (·.size) = some cs.size := by rw [hs]; simp
  cases td <;> first | exact run_loadVar_row X b T ty cs (0, 0) _ (hS.at_ hi) hu rfl hs' | (simp at ht)
variable {fn : Func} {R : Ending → World → Prop}
theorem fin0 (ha : Has [] a N l) (hr : fn.results = #[]) (h : R (.returned (.tuple #[])) X) : bodyPost P fn R .normal a X :=
 ⟨ha.defers, .tuple #[], by simp [results, hr], h⟩
theorem fin0r (ha : Has [] a N l) (hr : fn.results = #[]) (h : R (.returned (.tuple #[])) X) : bodyPost P fn R .ret a X :=
 ⟨ha.defers, .tuple #[], by simp [results, hr], h⟩
theorem fin1 {t : Nat} {v : Value} (ha : Has [] a N l) (hr : fn.results = #[.tmp t]) (hv : look l t = some v) (h : R (.returned v) X) : bodyPost P fn R .ret a X :=
 ⟨ha.defers, v, by have := ha.getD hv; simp only [Array.getD_eq_getD_getElem?] at this; simp [results, hr, this], h⟩
theorem fin2 {t u : Nat} {v x : Value} (ha : Has [] a N l) (hr : fn.results = #[.tmp t, .tmp u]) (hv : look l t = some v) (hx : look l u = some x) (h : R (.returned (.tuple #[v, x])) X) : bodyPost P fn R .ret a X :=
 ⟨ha.defers, _, by have h1 := ha.getD hv; have h2 := ha.getD hx; simp only [Array.getD_eq_getD_getElem?] at h1 h2; simp [results, hr, h1, h2], h⟩
theorem finc {M : List Nat} {w : World} {L : List Ent} {p b i : Nat} {cs : Array Value} {T ty : TypeId} (ha : Has [] a N l) (hr : fn.results = #[.cell p ty]) (hp : look l p = some (.pointer (some ⟨b, 0, none⟩))) (hS : St M w X L) (hi : L[i]? = some (.box b cs T)) (ht : aggO P ty = some true) (hs : (P.info? ty).map (·.size) = some cs.toList.length) (h : R (.returned (.agg cs)) X) : bodyPost P fn R .ret a X :=
 ⟨ha.defers, _, by have h1 := ha.getD hp; simp only [Array.getD_eq_getD_getElem?] at h1; simp [results, hr, h1, asAddr, run_cell hS hi ht hs], h⟩
theorem finct {M : List Nat} {w : World} {L : List Ent} {p b i t : Nat} {v : Value} {cs : Array Value} {T ty : TypeId} (ha : Has [] a N l) (hr : fn.results = #[.cell p ty, .tmp t]) (hp : look l p = some (.pointer (some ⟨b, 0, none⟩))) (hv : look l t = some v) (hS : St M w X L) (hi : L[i]? = some (.box b cs T)) (ht : aggO P ty = some true) (hs : (P.info? ty).map (·.size) = some cs.toList.length) (h : R (.returned (.tuple #[.agg cs, v])) X) : bodyPost P fn R .ret a X :=
 ⟨ha.defers, _, by have h1 := ha.getD hp; have h2 := ha.getD hv; simp only [Array.getD_eq_getD_getElem?] at h1 h2; simp [results, hr, h1, h2, asAddr, run_cell hS hi ht hs], h⟩
end
section
variable {P : Program} {ops : Array Oper} {Q : Exit → Act → World → Prop}
theorem an_flow {N : Nat} {a : Act} {w : World} {l : List Oper} {sl : List (Nat × Value)} (ha : Has ds a N sl) (fl : List Bool) (nds : List Nd)
 (h : wpC P l.toArray (fun X => Below w.heap.size w X) (fun g => wpND P l.toArray w Q (l.drop fl.length) nds g []) (pick fl l) a)
 (hB : flowB l.toArray fl fl.length N (nds.map fun d => (d.k, d.deps)) = true) (hst : nds.all (fun d => !d.st) = true) :
 Drawn P l Q a w := by
 obtain ⟨afin, h1, h2⟩ := wpC_take _ _ h
 have hno := wpNO_of_ND nds afin [] h2
 have hall : ∀ d ∈ nds, d.st = false := fun d hd => by simpa using List.all_eq_true.1 hst d hd
 have hf : ((nds.map Nd.lift).filter (·.st)) = [] := by
  rw [List.filter_eq_nil_iff]
  intro d hd
  obtain ⟨e, he, rfl⟩ := List.mem_map.1 hd
  show ¬ (e.st = true)
  rw [hall e he]; simp
 have hne := wpNE_of_NO (nds.map Nd.lift) (fun e he f hf' hes => by
  obtain ⟨x, hx, rfl⟩ := List.mem_map.1 he
  rw [show x.lift.st = x.st from rfl, hall x hx] at hes; cases hes)
  (fun e he f hf' _ => by
   obtain ⟨x, hx, rfl⟩ := List.mem_map.1 he
   obtain ⟨y, hy, rfl⟩ := List.mem_map.1 hf'
   rw [show x.lift.st = x.st from rfl, show y.lift.st = y.st from rfl, hall x hx, hall y hy])
  (nds.map Nd.lift) afin [] (fun d hd => hd) hno
 rw [hf] at hne
 refine an_flowE [] fl ((nds.map Nd.lift).map NdA.lift) (by rw [ha.size, List.map_map, List.map_map]; exact hB) ⟨afin, ?_, hne⟩
 exact wpC_anti (fun X hX => (hX.weaken (O' := fun _ _ => False) (fun x o ⟨p, hp, _⟩ => by cases hp)).below) _ _ h1
theorem dr_flow {id N : Nat} {a : Act} {w : World} {l : List Oper} {sl : List (Nat × Value)} (ha : Has ds a N sl) (fl : List Bool) (nds : List Nd) (hm : P.follows .mixedOrders = true)
 (h : wpC P l.toArray (fun X => Below w.heap.size w X) (fun g => wpND P l.toArray w Q (l.drop fl.length) nds g []) (pick fl l) a)
 (hB : flowB l.toArray fl fl.length N (nds.map fun d => (d.k, d.deps)) = true) (hst : nds.all (fun d => !d.st) = true) :
 (Code.region id l.toArray true).wp P Q a w := wp_region_any hm (an_flow ha fl nds h hB hst)
variable {C : World → Prop} {L : Act → Prop} {rest : List Oper} {o : Oper} {a : Act} {N d : Nat} {l : List (Nat × Value)} {v : Value}
theorem sq_nil (h : L a) : wpC P ops C L [] a := h
theorem sq_val (ha : Has ds a N l) (hw : Region.wanted o (yielded ops a.tmps) = true) (hd : o.dst = some d) (hN : Nat.blt d N = true) (hx : ∀ X, C X → (execOp a.eval o).run P X = .ok (.value v) X)
 (k : ∀ a', Has ds a' N ((d, v) :: l) → wpC P ops C L rest a') : wpC P ops C L (o :: rest) a := by
 unfold wpC
 rw [if_pos hw]
 refine ⟨v, fun X hX => ?_, by rw [hd]; exact k _ (ha.put hN v)⟩
 rw [hx X hX]
 exact ⟨rfl, rfl⟩
theorem qv {ds : List Deferred} (ha : Has ds a N l) (hx : ∀ X, C X → (execOp a.eval o).run P X = .ok (.value v) X) (k : ∀ a', Has ds a' N ((d, v) :: l) → wpC P ops C L rest a') (hg : o.guard = none := by rfl) (hd : o.dst = some d := by rfl) (hN : Nat.blt d N = true := by rfl) : wpC P ops C L (o :: rest) a := sq_val ha (wanted_none a ops hg) hd hN hx k
theorem sq_bel {f : FuncId} {args : Array Value} (ha : Has ds a N l) (hw : Region.wanted o (yielded ops a.tmps) = true) (hd : o.dst = some d) (hN : Nat.blt d N = true) (hx : ∀ X, (execOp a.eval o).run P X = .ok (.enter f args) X)
 (hc : ∀ X, C X → Calls P f args X fun e X' => e = .returned v ∧ Below X.heap.size X X') (k : ∀ a', Has ds a' N ((d, v) :: l) → wpC P ops C L rest a') : wpC P ops C L (o :: rest) a := by
 unfold wpC
 rw [if_pos hw]
 refine ⟨v, fun X hX => ?_, by rw [hd]; exact k _ (ha.put hN v)⟩
 rw [hx X]
 exact ⟨rfl, hc X hX⟩
theorem sq_pure {f : FuncId} {args : Array Value} (ha : Has ds a N l) (hw : Region.wanted o (yielded ops a.tmps) = true) (hd : o.dst = some d) (hN : Nat.blt d N = true) (hx : ∀ X, (execOp a.eval o).run P X = .ok (.enter f args) X)
 (hc : ∀ X, C X → Calls P f args X fun e X' => e = .returned v ∧ X = X') (k : ∀ a', Has ds a' N ((d, v) :: l) → wpC P ops C L rest a') : wpC P ops C L (o :: rest) a :=
 sq_bel ha hw hd hN hx (fun X hX => (hc X hX).mono fun e X' ⟨he, hX'⟩ => ⟨he, by subst hX'; exact Below.refl _ _⟩) k
theorem sq_no (ha : Has ds a N l) (hw : Region.wanted o (yielded ops a.tmps) = false) (hd : o.dst = some d) (hN : Nat.blt d N = true)
 (k : ∀ a', Has ds a' N ((d, undef) :: l) → wpC P ops C L rest a') : wpC P ops C L (o :: rest) a := by
 unfold wpC
 rw [hw]
 exact (by rw [hd]; exact k _ (ha.put hN undef) : wpC P ops C L rest (a.put o.dst undef))
theorem qy {ds : List Deferred} {P : Program} {ops : Array Oper} {rest : List Oper} {o : Oper} {a : Act} {C : World → Prop} {L : Act → Prop} {N d : Nat} {l : List (Nat × Value)} {j t : Nat} {b c : Bool} {v : Value} (ha : Has ds a N l) (hx : ∀ X, C X → (execOp a.eval o).run P X = .ok (.value v) X) (k : ∀ a', Has ds a' N ((d, v) :: l) → wpC P ops C L rest a') (hg : o.guard = some (j, b) := by exact rfl) (hj : (ops[j]?).bind (·.dst) = some t := by exact rfl) (ht : look l t = some (.bool c) := by exact rfl) (hc : c = b := by assumption) (hd : o.dst = some d := by exact rfl) (hN : Nat.blt d N = true := by exact rfl) : wpC P ops C L (o :: rest) a := sq_val ha (wanted_yes ha _ hg hj ht hc) hd hN hx k
theorem qo {ds : List Deferred} {P : Program} {ops : Array Oper} {rest : List Oper} {o : Oper} {a : Act} {C : World → Prop} {L : Act → Prop} {N d : Nat} {l : List (Nat × Value)} {j t : Nat} {b c : Bool} (ha : Has ds a N l) (k : ∀ a', Has ds a' N ((d, undef) :: l) → wpC P ops C L rest a') (hg : o.guard = some (j, b) := by exact rfl) (hj : (ops[j]?).bind (·.dst) = some t := by exact rfl) (ht : look l t = some (.bool c) := by exact rfl) (hc : c = !b := by assumption) (hd : o.dst = some d := by exact rfl) (hN : Nat.blt d N = true := by exact rfl) : wpC P ops C L (o :: rest) a := sq_no ha (wanted_no ha _ hg hj ht hc) hd hN k
theorem sq_cut (n : Nat) (R : Act → Prop) (h1 : wpC P ops C R ((o :: rest).take n) a) (h2 : ∀ a', R a' → wpC P ops C L ((o :: rest).drop n) a') : wpC P ops C L (o :: rest) a := by
 have key : ∀ (l1 l2 : List Oper) (a : Act), wpC P ops C R l1 a → (∀ a', R a' → wpC P ops C L l2 a') → wpC P ops C L (l1 ++ l2) a := by
  intro l1
  induction l1 with
  | nil => intro l2 a h hk; exact hk a h
  | cons x l1 ih =>
   intro l2 a h hk
   unfold wpC at h
   rw [List.cons_append]
   unfold wpC
   split
   · rename_i hw
     rw [if_pos hw] at h
     obtain ⟨v, h3, h4⟩ := h
     exact ⟨v, h3, ih l2 _ h4 hk⟩
   · rename_i hw
     rw [if_neg hw] at h
     exact ih l2 _ h hk
 have := key ((o :: rest).take n) ((o :: rest).drop n) a h1 h2
 rwa [List.take_append_drop] at this
variable {w : World} {tail : List Oper}
theorem nd_end {Φ : List (Nat × (World → Prop))} (h : ∀ X, Below w.heap.size w X → toldAll Φ X → wpList P ops Q tail a X) : wpND P ops w Q tail [] a Φ := h
def NewB (B : Nat) (f : Nat → Value) (cs : Array Value) (T : TypeId) (v : Value) (X : World) : Prop := ∃ b, v = f b ∧ B ≤ b ∧ Box X b cs T
theorem NewB.stable {B : Nat} {f : Nat → Value} {cs : Array Value} {T : TypeId} (v : Value) (X X' : World) (h : NewB B f cs T v X) (hb : Below X.heap.size X X') : NewB B f cs T v X' := by
 obtain ⟨b, h1, h2, h3⟩ := h; exact ⟨b, h1, h2, h3.below hb⟩
def IsVal (u v : Value) (_ : World) : Prop := v = u
theorem IsVal.stable {u : Value} (v : Value) (X X' : World) (h : IsVal u v X) (hb : Below X.heap.size X X') : IsVal u v X' := h
theorem lv_val {X : World} {u : Value} {r : Result Next} (hx : r = .ok (.value u) X) : LeavesR P (IsVal u) X r := by
 subst hx; exact ⟨Below.refl _ _, rfl⟩
def OwnB (B : Nat) (T : TypeId) (sz n : Nat) (xs : List Value) (v : Value) (X : World) : Prop := ∃ A c, v = .slice A n c ∧ X.ownsRow B T sz (.slice A n c) n xs
theorem OwnB.stable {B : Nat} {T : TypeId} {sz n : Nat} {xs : List Value} (v : Value) (X X' : World) (h : OwnB B T sz n xs v X) (hb : Below X.heap.size X X') : OwnB B T sz n xs v X' := by
 obtain ⟨A, c, h1, h2⟩ := h; exact ⟨A, c, h1, ownsRow_below h2 hb⟩
theorem ex_bslice {ρ : Operand → Value} {X : World} {d : Option Tmp} {ty : TypeId} {ps : String} {af : Array Edge} {g : Option (Nat × Bool)} {t e : TypeId} {n : Nat} {parts : Array (Nat × Operand)} {vs : List Value} (ht : P.underlying t = some (.slice e)) (hs : (P.info? e).map (·.size) = some 1) (hz : ((P.info? e).bind (·.zero)).map (·.cells.size) = some 1)
 (hp : parts.toList.map (fun p => ρ p.2) = vs) (hn : vs.length = n) (hix : parts.toList.map (·.1) = List.range n) (h1 : vs.all (·.oneCell') = true) (hn0 : 0 < n) (hn2 : n < 1000) :
 (execOp ρ ⟨d, .buildSlice t n parts, ty, ps, af, g⟩).run P X = .ok (.value (.slice (some ⟨X.heap.size, 0, none⟩) n n)) (X.alloc (.cells vs.toArray e)) := by
 cases hq : P.info? e with
 | none => rw [hq] at hs; cases hs
 | some q =>
  rw [hq] at hs hz
  have hsz : q.size = 1 := by simpa using hs
  cases hqz : q.zero with
  | none => rw [Option.bind_some, hqz] at hz; cases hz
  | some z =>
   rw [Option.bind_some, hqz] at hz
   have hzc : z.cells.size = 1 := by simpa using hz
   have hfill : ∀ (ps : List (Nat × Value)) (k : Nat) (cells : Array Value), ps.map (·.1) = List.range' k ps.length → (∀ p ∈ ps, p.2.oneCell' = true) → cells.size = k + ps.length →
    Instr.fill (fun i => some (i * 1, 1)) cells ps = some ((cells.toList.take k ++ ps.map (·.2)).toArray) := by
    intro ps
    induction ps with
    | nil =>
     intro k cells _ _ hc
     simp only [Instr.fill, List.map_nil, List.append_nil, List.length_nil, Nat.add_zero] at hc ⊢
     rw [List.take_of_length_le (by simp; omega)]
    | cons p ps ih =>
     intro k cells hi h1 hc
     obtain ⟨i, v⟩ := p
     simp only [List.map_cons, List.length_cons, List.range'_succ, List.cons.injEq] at hi
     obtain ⟨rfl, hi⟩ := hi
     have hv : v.cells = #[v] := by
      have := h1 (i, v) (by simp)
      cases v <;> first | rfl | (simp [Value.oneCell'] at this)
     simp only [List.length_cons] at hc
     unfold Instr.fill
     simp only [hv, Nat.mul_one]
     rw [if_neg (by simp; omega)]
     have e1 : (#[v].zipIdx.foldl (fun cs x => cs.setIfInBounds (i + x.2) x.1) cells) = cells.setIfInBounds i v := by simp [Array.zipIdx]
     have e2 := ih (i + 1) (cells.setIfInBounds i v) hi (fun p hp => h1 p (by simp [hp])) (by simp; omega)
     simp only [Nat.mul_one] at e2
     rw [e1, e2]
     congr 2
     rw [Array.toList_setIfInBounds, List.map_cons]
     rw [List.take_succ_eq_append_getElem (by simp; omega)]
     have e3 : (cells.toList.set i v).take i = cells.toList.take i := by rw [List.take_set_of_le (Nat.le_refl _)]
     simp [e3]
   have hl : parts.toList.length = n := by rw [← hn, ← hp, List.length_map]
   have hps : (parts.map fun x => (x.1, ρ x.2)).toList = parts.toList.map fun x => (x.1, ρ x.2) := by simp
   have hf := hfill (parts.toList.map fun x => (x.1, ρ x.2)) 0 ((Array.range (n * 1)).map (z.cells[· % z.cells.size]!)) (by rw [List.map_map, List.length_map, hl, ← List.range_eq_range']; exact hix)
    (fun p hp' => by
     obtain ⟨x, hx, rfl⟩ := List.mem_map.1 hp'
     exact List.all_eq_true.1 h1 _ (by rw [← hp]; exact List.mem_map.2 ⟨x, hx, rfl⟩)) (by simp [hl])
   simp only [Nat.mul_one, List.take_zero, List.nil_append, List.map_map, Nat.zero_add] at hf
   have hvs : (parts.toList.map fun x => (x.1, ρ x.2)).map (·.2) = vs := by rw [← hp, List.map_map]; rfl
   have hfin : (parts.toList.map ((fun x : Nat × Value => x.2) ∘ fun x => (x.1, ρ x.2))) = vs := by rw [← hp]; rfl
   rw [hfin] at hf
   have hne : n ≠ 0 := by omega
   have h24 : ¬ (16777216 < n) := by omega
   simp [execOp, Instr.buildSlice, run_underlying ht, sizeOf, typeInfo, hq, hsz, hne, zeroValue, hqz, hps, hf, newRow, h24]
end
end Go.Proofs.YtanicpgmbhfipaaGreatDoor
namespace Go.Proofs.YtanicpgmbhfipaaGreatDoor
set_option linter.unusedVariables false
set_option linter.unusedSimpArgs false
open Go.RowKit Go.Sort
variable {ds : List Deferred}
def midB (m l : List (Nat × Value)) : Bool := m.all fun q => (look l q.1).isNone
theorem look_app : ∀ (m l : List (Nat × Value)) (t : Nat) (u : Value), midB m l = true → look l t = some u → look (m ++ l) t = some u
 | [], l, t, u, _, h => h
 | q :: m, l, t, u, hm, h => by
  unfold midB at hm
  rw [List.all_cons, Bool.and_eq_true] at hm
  obtain ⟨k, v⟩ := q
  show look ((k, v) :: (m ++ l)) t = some u
  unfold look
  cases hb : Nat.beq k t with
  | true =>
   have e : k = t := Nat.eq_of_beq_eq_true hb
   subst e
   have := hm.1
   rw [show look l (k, v).1 = some u from h] at this
   cases this
  | false => exact look_app m l t u hm.2 h
theorem Has.mid {a : Act} {N p : Nat} {v : Value} {m l : List (Nat × Value)} (h : Has ds a N ((p, v) :: (m ++ l))) (hm : midB m l = true) : Has ds a N ((p, v) :: l) := by
 refine ⟨h.defers, h.size, fun t u hu => h.slot t u ?_⟩
 unfold look at hu ⊢
 cases hb : Nat.beq p t with
 | true => rw [hb] at hu; exact hu
 | false => rw [hb] at hu; exact look_app m l t u hm hu
theorem Has.evs2 {a : Act} {N : Nat} {l : List (Nat × Value)} {os : List (Nat × Operand)} {vs : List Value} (h : Has ds a N l) (he : Go.Proofs.YtanicpgmbhfipaaGreatDoor.evs l (os.map (·.2)) = some vs) : os.map (fun p => a.eval p.2) = vs := by
 have := h.evs he
 rwa [List.map_map] at this
theorem told_get {deps : List Nat} : ∀ {Φ : List (Nat × (World → Prop))} {X : World} {k : Nat} {F : World → Prop}, told deps Φ X → deps.contains k = true → (Φ.find? (fun p => Nat.beq p.1 k)).map (·.2) = some F → F X
 | [], X, k, F, _, _, h => by cases h
 | (j, G) :: Φ, X, k, F, ht, hd, h => by
  unfold told at ht
  rw [List.find?_cons] at h
  cases hb : Nat.beq j k with
  | true =>
   rw [hb] at h
   have e : j = k := Nat.eq_of_beq_eq_true hb
   subst e
   rw [if_pos hd] at ht
   injection h with h
   subst h
   exact ht.1
  | false =>
   rw [hb] at h
   have ht' : told deps Φ X := by
    split at ht
    · exact ht.2
    · exact ht
   exact told_get ht' hd h
theorem told_all : ∀ {Φ : List (Nat × (World → Prop))} {X : World} {k : Nat} {F : World → Prop}, toldAll Φ X → (Φ.find? (fun p => Nat.beq p.1 k)).map (·.2) = some F → F X
 | [], X, k, F, _, h => by cases h
 | (j, G) :: Φ, X, k, F, ht, h => by
  rw [List.find?_cons] at h
  cases hb : Nat.beq j k with
  | true =>
   rw [hb] at h
   injection h with h
   subst h
   exact ht.1
  | false => rw [hb] at h; exact told_all ht.2 h
section
variable {P : Program} {ops : Array Oper} {rest : List Oper} {o : Oper} {a : Act} {N : Nat} {l : List (Nat × Value)} {c x : Bool}
section
variable {C : World → Prop} {L : Act → Prop}
theorem wpC_mono {L' : Act → Prop} (hL : ∀ a, L a → L' a) : ∀ (ol : List Oper) (a : Act), wpC P ops C L ol a → wpC P ops C L' ol a
 | [], a, h => hL a h
 | o :: ol, a, h => by
  unfold wpC at h ⊢
  split
  · rename_i hw
    rw [if_pos hw] at h
    obtain ⟨v, h1, h2⟩ := h
    exact ⟨v, h1, wpC_mono hL ol _ h2⟩
  · rename_i hw
    rw [if_neg hw] at h
    exact wpC_mono hL ol _ h
theorem sq_grp {v : Value} (ha : Has ds a N l) (cs : Nat) (hcs : look l cs = some (.bool c)) (n p : Nat) (ht : c = true → wpC P ops C (fun a' => Has ds a' N ((p, v) :: l)) ((o :: rest).take n) a) (hf : c = false → wpC P ops C (fun a' => ∃ u, Has ds a' N ((p, u) :: l)) ((o :: rest).take n) a)
 (h : ∀ u a', (c = true → u = v) → Has ds a' N ((p, u) :: l) → wpC P ops C L ((o :: rest).drop n) a') : wpC P ops C L (o :: rest) a := by
 refine sq_cut n (fun a' => ∃ u, (c = true → u = v) ∧ Has ds a' N ((p, u) :: l)) ?_ (fun a' h' => (let ⟨u, h1, h2⟩ := h'; h u a' h1 h2))
 cases c
 · refine wpC_mono ?_ _ _ (hf rfl)
   rintro a' ⟨u, hu⟩
   exact ⟨u, fun e => (by cases e), hu⟩
 · refine wpC_mono ?_ _ _ (ht rfl)
   intro a' hu
   exact ⟨v, fun _ => rfl, hu⟩
end
variable {Q : Exit → Act → World → Prop} {X : World} {M : List Nat} {w : World} {E : List Ent}
theorem sl_and (ha : Has ds a N l) (hS : St M w X E) (cs : Nat) (hcs : look l cs = some (.bool c)) (n p : Nat)
 (ht : c = true → wpList P ops (fun e a' X' => match e with | .normal => Has ds a' N ((p, .bool x) :: l) ∧ St M w X' E | e => Q e a' X') ((o :: rest).take n) a X)
 (hf : c = false → wpList P ops (fun e a' X' => match e with | .normal => Has ds a' N ((p, .bool false) :: l) ∧ St M w X' E | e => Q e a' X') ((o :: rest).take n) a X)
 (h : ∀ a' X', Has ds a' N ((p, .bool (c && x)) :: l) ∧ St M w X' E → wpList P ops Q ((o :: rest).drop n) a' X') : wpList P ops Q (o :: rest) a X := by
 refine sl_cut n _ ?_ h
 cases c
 · exact hf rfl
 · exact ht rfl
theorem sl_or (ha : Has ds a N l) (hS : St M w X E) (cs : Nat) (hcs : look l cs = some (.bool c)) (n p : Nat)
 (ht : c = true → wpList P ops (fun e a' X' => match e with | .normal => Has ds a' N ((p, .bool true) :: l) ∧ St M w X' E | e => Q e a' X') ((o :: rest).take n) a X)
 (hf : c = false → wpList P ops (fun e a' X' => match e with | .normal => Has ds a' N ((p, .bool x) :: l) ∧ St M w X' E | e => Q e a' X') ((o :: rest).take n) a X)
 (h : ∀ a' X', Has ds a' N ((p, .bool (c || x)) :: l) ∧ St M w X' E → wpList P ops Q ((o :: rest).drop n) a' X') : wpList P ops Q (o :: rest) a X := by
 refine sl_cut n _ ?_ h
 cases c
 · exact hf rfl
 · exact ht rfl
theorem storeCells_mid (g : Nat) (t : TypeId) : ∀ (vs : List Value) (j i : Nat) (cur : Array Value) (w : World), w.heap[g]? = some (.cells cur t (0, 0)) → j + i + vs.length ≤ cur.size → (∀ v ∈ vs, v.oneCell' = true) →
 (storeCells ⟨g, j, none⟩ vs i).run P w = .ok () (w.setRow g (cur.toList.take (j + i) ++ vs ++ cur.toList.drop (j + i + vs.length)).toArray)
 | [], j, i, cur, w, hg, hl, _ => by
  have e : (cur.toList.take (j + i) ++ [] ++ cur.toList.drop (j + i + ([] : List Value).length)) = cur.toList := by simp
  rw [e]
  have hv : w.heap[g]? = _ := hg
  simp only [storeCells]
  show Result.ok () w = _
  congr 1
  unfold World.setRow
  cases w with
  | mk heap tape drawn os output =>
   congr 1
   apply Array.ext
   · simp
   · intro k h1 h2
     simp only [Array.getElem_modify]
     split
     · rename_i hk; subst hk
       rw [Array.getElem?_eq_getElem h1] at hv
       injection hv with hv
       simp [hv]
     · rfl
 | v :: rest, j, i, cur, w, hg, hl, h1 => by
  have hi : j + i < cur.size := by simp at hl; omega
  have hcell : w.cell? ⟨g, j + i, none⟩ = some cur[j + i] := by simp [World.cell?, hg, hi]
  have hfro : w.frozen? ⟨g, j + i, none⟩ = false := by simp [World.frozen?, hg]
  have hst : (store ((⟨g, j, none⟩ : Addr).add i) v).run P w = .ok () (w.setRow g (cur.setIfInBounds (j + i) v)) := by
   rw [add_none, run_store P w _ v _ (h1 v (by simp)), hcell]
   simp [hfro, setCell_eq_setRow w g (j + i) cur t (0, 0) v hg]
  have ih := storeCells_mid g t rest j (i + 1) (cur.setIfInBounds (j + i) v) (w.setRow g (cur.setIfInBounds (j + i) v)) (setRow_heap w g cur _ t _ hg) (by simp at hl ⊢; omega) (fun x hx => h1 x (by simp [hx]))
  simp only [storeCells, Sem.run_bind, hst, Result.andThen_ok, ih, setRow_setRow]
  congr 3
  simp only [Array.toList_setIfInBounds, List.length_cons]
  have hlt : j + i < cur.toList.length := by simpa using hi
  rw [show j + (i + 1) = j + i + 1 by omega, List.take_succ_eq_append_getElem (by simpa using hi), List.take_set_of_le (Nat.le_refl _), List.drop_set_of_lt (by omega)]
  simp [show j + i + 1 + rest.length = j + i + (rest.length + 1) by omega]
theorem sl_store {ty : TypeId} {x' y : Operand} {b j i : Nat} {v : Value} {vs : List Value} {cs : Array Value} {T : TypeId} (ha : Has ds a N l) (hw : Region.wanted o (yielded ops a.tmps) = true) (ho : o.op = .store ty x' y ∧ o.dst = none) (hx : a.eval x' = .pointer (some ⟨b, j, none⟩)) (hy : a.eval y = v) (hvs : v.cells.toList = vs)
 (hs : (P.info? ty).map (·.size) = some vs.length) (hS : St M w X E) (hi : E[i]? = some (.box b cs T)) (h1 : vs.all (·.oneCell') = true) (hj : Nat.ble (j + vs.length) cs.toList.length = true)
 (k : ∀ X', St M w X' (E.set i (.box b (cs.toList.take j ++ vs ++ cs.toList.drop (j + vs.length)).toArray T)) → wpList P ops Q rest a X') : wpList P ops Q (o :: rest) a X := by
 have hb : Box X b cs T := hS.at_ hi
 have hle : j + vs.length ≤ cs.size := by have := Nat.le_of_ble_eq_true hj; simpa using this
 have hst := storeCells_mid (P := P) b T vs j 0 cs X hb (by simpa using hle) (fun u hu => List.all_eq_true.1 h1 u hu)
 simp only [Nat.add_zero] at hst
 refine sl_unit (X' := X.setRow b (cs.toList.take j ++ vs ++ cs.toList.drop (j + vs.length)).toArray) hw ?_ ho.2 (k _ ?_)
 · cases hq : P.info? ty with
   | none => rw [hq] at hs; cases hs
   | some q =>
    rw [hq] at hs
    have hsz : q.size = vs.length := by simpa using hs
    have hcs : v.cells.size = vs.length := by rw [← hvs]; simp
    unfold execOp
    simp only [ho.1, hx, hy, Instr.storeAt, Instr.sureAddr, Sem.run_bind, Sem.run_pure, Result.andThen_ok]
    simp [storeVar, sizeOf, typeInfo, hq, hsz, hcs, hvs, hst]
 · refine hS.wrote hi ⟨rfl, rfl, rfl, by simp [World.setRow], fun k hk hne => setRow_other X b k _ hne, fun k cs' T' fr hk => ?_⟩ (setRow_heap X b cs _ T (0, 0) hb)
   by_cases e : k = b
   · have hb' : X.heap[b]? = some (Obj.cells cs T (0, 0)) := hb
     rw [e, hb'] at hk
     injection hk with hk
     injection hk with e1 e2 e3
     subst e1 e2 e3
     refine ⟨_, ?_, by rw [e]; exact setRow_heap X b cs _ T (0, 0) hb⟩
     simp; omega
   · exact ⟨cs', rfl, (setRow_other X b k _ e).trans hk⟩
theorem sl_store0 {ty : TypeId} {x' y : Operand} {b i : Nat} {v : Value} {vs : List Value} {cs : Array Value} {T : TypeId} (ha : Has ds a N l) (hw : Region.wanted o (yielded ops a.tmps) = true) (ho : o.op = .store ty x' y ∧ o.dst = none) (hx : a.eval x' = .pointer (some ⟨b, 0, none⟩)) (hy : a.eval y = v) (hvs : v.cells.toList = vs)
 (hs : (P.info? ty).map (·.size) = some vs.length) (hS : St M w X E) (hi : E[i]? = some (.box b cs T)) (h1 : vs.all (·.oneCell') = true) (hj : Nat.beq vs.length cs.toList.length = true)
 (k : ∀ X', St M w X' (E.set i (.box b vs.toArray T)) → wpList P ops Q rest a X') : wpList P ops Q (o :: rest) a X := by
 have e : vs.length = cs.toList.length := Nat.eq_of_beq_eq_true hj
 refine sl_store ha hw ho hx hy hvs hs hS hi h1 (Nat.ble_eq_true_of_le (by omega)) fun X' hS' => k X' ?_
 rw [Nat.zero_add, e, List.drop_length, List.take_zero, List.append_nil, List.nil_append] at hS'
 exact hS'
theorem sw {ds : List Deferred} {P : Program} {ops : Array Oper} {rest : List Oper} {a : Act} {Q : Exit → Act → World → Prop} {X : World} {N : Nat} {l : List (Nat × Value)} {ty : TypeId} {ps : String} {af : Array Edge} {M : List Nat} {w : World} {L : List Ent} {t : TypeId} {x' y : Operand} {b : Nat} {v : Value} {vs : List Value} {cs : Array Value} {T : TypeId} (ha : Has ds a N l) (hS : St M w X L) (i : Nat) (k : ∀ X', St M w X' (L.set i (.box b vs.toArray T)) → wpList P ops Q rest a X') (hx : evO l x' = some (.pointer (some ⟨b, 0, none⟩)) := by exact rfl) (hy : evO l y = some v := by exact rfl) (hvs : v.cells.toList = vs := by exact rfl) (hi : L[i]? = some (.box b cs T) := by exact rfl) (h1 : vs.all (·.oneCell') = true := by exact rfl) (hj : Nat.beq vs.length cs.toList.length = true := by exact rfl) (hs : (P.info? t).map (·.size) = some vs.length := by kernel_rfl) : wpList P ops Q (⟨none, .store t x' y, ty, ps, af, none⟩ :: rest) a X := sl_store0 ha (wanted_none _ _ rfl) ⟨rfl, rfl⟩ (ha.ev hx) (ha.ev hy) hvs hs hS hi h1 hj k
end
theorem ret_then {Q : Exit → Act → World → Prop} {a : Act} {X : World} {next : Act → World → Prop} (h : Q .ret a X) : Exit.then next Q .ret a X := h
theorem ret_block {Q : Exit → Act → World → Prop} {a : Act} {X : World} {id : Nat} (h : Q .ret a X) : Exit.inBlock id Q .ret a X := h
section
variable {P : Program} {ρ : Operand → Value} {X : World} {d : Option Tmp} {ty : TypeId} {ps : String} {af : Array Edge} {g : Option (Nat × Bool)}
theorem ex_beql {x y : Operand} {t t' : TypeId} {m n : Bool} (ht : P.underlying t = some .bool) (hx : ρ x = .bool m) (hy : ρ y = .bool n) : (execOp ρ ⟨d, .binOp .eql t x y t', ty, ps, af, g⟩).run P X = .ok (.value (.bool (m == n))) X := by
 simp [execOp, hx, hy, eqGuard, run_eql_bool X t m n ht]
theorem ex_convin {x : Operand} {s t : TypeId} {k k' : IntKind} {n : Int} (hs : (P.underlying s).map (fun | .int _ => true | _ => false) = some true) (ht : P.underlying t = some (.int k')) (hx : ρ x = .int k n) (h : k'.wrap n = n) : (execOp ρ ⟨d, .convert s t x, ty, ps, af, g⟩).run P X = .ok (.value (.int k' n)) X := by
 rw [ex_conv (k0 := k) hs ht hx, h]
theorem ex_func {f : Fn} {os os' : Array Operand} {vs vs' : List Value} (h : os.toList.map ρ = vs) (h' : os'.toList.map ρ = vs') : (execOp ρ ⟨d, .makeFunc f os os', ty, ps, af, g⟩).run P X = .ok (.value (.func f vs.toArray vs'.toArray)) X := by
 have e : os.map ρ = vs.toArray := by rw [← h]; apply Array.ext'; simp
 have e' : os'.map ρ = vs'.toArray := by rw [← h']; apply Array.ext'; simp
 simp [execOp, Instr.makeFunc, e, e']
theorem ex_callv {f : FuncId} {x : Operand} {args : Array Operand} {ts : Array TypeId} {vs : List Value} {first cap : List Value} (hf : ∀ (vs0 : Array Value) (W : World), (callFunc f vs0).run P W = .ok (.enter f vs0) W) (hx : ρ x = .func (.func f) first.toArray cap.toArray) (ha : args.toList.map ρ = vs) (hfc : first = []) :
 (execOp ρ ⟨d, .call ⟨.value x, args, ts⟩, ty, ps, af, g⟩).run P X = .ok (.enter f (vs ++ cap).toArray) X := by
 subst hfc
 have e : args.map ρ = vs.toArray := by rw [← ha]; apply Array.ext'; simp
 simp [execOp, resolve, e, hx, Deferred.ofValue, invoke, hf]
def placesO (P : Program) (t : TypeId) : Option (List (Nat × Nat)) := match P.underlying t with
 | some (.struct fs) => fs.toList.mapM fun f => (P.info? f.type).map fun i => (f.offset, i.size)
 | _ => none
def fillS (pl : List (Nat × Nat)) : List Value → List (Nat × Value) → Option (List Value)
 | cs, [] => some cs
 | cs, (i, v) :: r => match pl[i]? with
  | none => none
  | some (off, n) => bif Nat.beq v.cells.toList.length n && Nat.ble (off + n) cs.length then fillS pl (cs.take off ++ v.cells.toList ++ cs.drop (off + n)) r else none
theorem foldl_set : ∀ (us : List Value) (off j : Nat) (cs : Array Value), off + j + us.length ≤ cs.size → ((us.zipIdx j).foldl (fun cs x => cs.setIfInBounds (off + x.2) x.1) cs) = (cs.toList.take (off + j) ++ us ++ cs.toList.drop (off + j + us.length)).toArray
 | [], off, j, cs, _ => by apply Array.ext'; simp
 | u :: us, off, j, cs, h => by
  simp only [List.zipIdx_cons, List.foldl_cons, List.length_cons] at h ⊢
  rw [foldl_set us off (j + 1) _ (by simp; omega)]
  congr 1
  simp only [Array.toList_setIfInBounds]
  have hlt : off + j < cs.toList.length := by simp; omega
  rw [show off + (j + 1) = off + j + 1 by omega, List.take_succ_eq_append_getElem (by simpa using hlt), List.take_set_of_le (Nat.le_refl _), List.drop_set_of_lt (by omega)]
  simp [show off + j + 1 + us.length = off + j + (us.length + 1) by omega]
theorem fill_S (pl : List (Nat × Nat)) : ∀ (ps : List (Nat × Value)) (zs cs : List Value), fillS pl zs ps = some cs → Instr.fill (pl.toArray[·]?) zs.toArray ps = some cs.toArray
 | [], zs, cs, h => by unfold fillS at h; injection h with h; subst h; rfl
 | (i, v) :: r, zs, cs, h => by
  unfold fillS at h
  unfold Instr.fill
  cases hp : pl[i]? with
  | none => rw [hp] at h; cases h
  | some q =>
   obtain ⟨off, n⟩ := q
   have hpl : pl.toArray[i]? = some (off, n) := by simp [hp]
   rw [hp] at h
   simp only [hpl] at h ⊢
   cases hc : (Nat.beq v.cells.toList.length n && Nat.ble (off + n) zs.length) with
   | false => rw [hc] at h; cases h
   | true =>
    rw [hc] at h
    rw [Bool.and_eq_true] at hc
    have e1 : v.cells.toList.length = n := Nat.eq_of_beq_eq_true hc.1
    have e2 : off + n ≤ zs.length := Nat.le_of_ble_eq_true hc.2
    have e3 : v.cells.size = n := by simpa using e1
    rw [if_neg (by rw [e3]; simp; omega)]
    have hz : v.cells.zipIdx.foldl (fun cs x => cs.setIfInBounds (off + x.2) x.1) zs.toArray = (zs.take off ++ v.cells.toList ++ zs.drop (off + n)).toArray := by
     have := foldl_set v.cells.toList off 0 zs.toArray (by simp; omega)
     rw [← e1]
     simp only [Nat.add_zero] at this
     rw [← this, ← Array.foldl_toList, Array.toList_zipIdx]
    have := fill_S pl r _ _ h
    rw [← hz] at this
    exact this
theorem ex_build {t : TypeId} {parts : Array (Nat × Operand)} {zs : List Value} {pl : List (Nat × Nat)} {us : List Value} {ixs : List Nat} {cs : List Value} (hz : ((P.info? t).bind (·.zero)).map (·.cells.toList) = some zs) (hp : placesO P t = some pl) (hv : parts.toList.map (fun p => ρ p.2) = us) (hi : parts.toList.map (·.1) = ixs)
 (hf : fillS pl zs (ixs.zip us) = some cs) : (execOp ρ ⟨d, .build t parts, ty, ps, af, g⟩).run P X = .ok (.value (.agg cs.toArray)) X := by
 have hps : parts.toList.map (fun x => (x.1, ρ x.2)) = ixs.zip us := by
  have hz : ∀ l : List (Nat × Operand), l.map (fun x => (x.1, ρ x.2)) = (l.map (·.1)).zip (l.map fun p => ρ p.2) := by
   intro l
   induction l with
   | nil => rfl
   | cons p l ih => simp [ih]
  rw [← hv, ← hi, ← hz parts.toList]
 cases hq : P.info? t with
 | none => rw [hq] at hz; cases hz
 | some q =>
  rw [hq, Option.bind_some] at hz
  cases hqz : q.zero with
  | none => rw [hqz] at hz; cases hz
  | some z =>
   rw [hqz] at hz
   have hzc : z.cells = zs.toArray := by
    have : z.cells.toList = zs := by simpa using hz
    rw [← this]
   unfold placesO at hp
   cases hu : P.underlying t with
   | none => rw [hu] at hp; cases hp
   | some td =>
    rw [hu] at hp
    cases td <;> try (cases hp)
    rename_i fs
    simp only at hp
    have hm : ∀ (l : List Field) (r : List (Nat × Nat)), (l.mapM fun f => (P.info? f.type).map fun i => (f.offset, i.size)) = some r → (l.mapM (m := Sem) fun f => do pure (f.offset, ← sizeOf f.type)).run P X = .ok r X := by
     intro l
     induction l with
     | nil => intro r h; simp at h; subst h; simp
     | cons f l ih =>
      intro r h
      rw [List.mapM_cons] at h
      cases hi : P.info? f.type with
      | none => rw [hi] at h; simp at h
      | some i =>
       rw [hi] at h
       cases hl : (l.mapM fun f => (P.info? f.type).map fun i => (f.offset, i.size)) with
       | none => rw [hl] at h; simp at h
       | some r' =>
        rw [hl] at h
        simp at h
        subst h
        rw [List.mapM_cons]
        have hz : (sizeOf f.type).run P X = .ok i.size X := by simp [sizeOf, typeInfo, hi]
        simp only [Sem.run_bind, hz, Sem.run_pure, Result.andThen_ok, ih r' hl]
    have hm' : (fs.mapM (m := Sem) fun f => do pure (f.offset, ← sizeOf f.type)).run P X = .ok pl.toArray X := by
     rw [Array.mapM_eq_mapM_toList]
     simp only [Sem.run_bind, Sem.run_map, hm _ _ hp, Sem.run_pure, Result.andThen_ok]
    have hfs := fill_S pl _ _ _ hf
    simp only [bind_pure_comp] at hm'
    simp only [List.getElem?_toArray] at hfs
    simp [execOp, Instr.build, zeroValue, typeInfo, hq, hqz, run_underlying hu, hm', hzc, hps, hfs]
end
end Go.Proofs.YtanicpgmbhfipaaGreatDoor
