/-
  A drawn region with several appends, each onto what the one before it gave, the first one onto a literal without elements. No program in sight.
  A drawn region in which several new boxes, maybe of one type, are laid and stored over as a whole, by values that no order turns. No program in sight.
  A drawn region with one operation in its midst that all before it come ahead of and all behind it wait for (a call that turns what stands); what stands behind it has no order of its own. No program in sight.
  A drawn region with several stores into blocks that stand. No program in sight.
-/
import Derived.Test.YtanicpgmbhfipaaGreatDoorSplD
namespace Go.Proofs.YtanicpgmbhfipaaGreatDoor
set_option linter.unusedVariables false
set_option linter.unusedSimpArgs false
open Go.RowKit Go.Sort
variable {ds : List Deferred}
section
variable {P : Program} {ops : Array Oper} {Q : Exit → Act → World → Prop} {w : World} {tail : List Oper} {l : List (Nat × Value)} {o : Oper} {a : Act} {N d : Nat} {cs : List (Nat × Nat)}
end
section
variable {P : Program} {ρ : Operand → Value} {X : World}
end
end Go.Proofs.YtanicpgmbhfipaaGreatDoor
namespace Go.Proofs.YtanicpgmbhfipaaGreatDoor
set_option linter.unusedVariables false
set_option linter.unusedSimpArgs false
open Go.RowKit Go.Sort
variable {ds : List Deferred}
structure BxD where
 a : Nat
 s : Nat
 x : Tmp
 y : Tmp
 T : TypeId
 z : Array Value
 v : Value
section
variable {P : Program} {ops : Array Oper} {Q : Exit → Act → World → Prop} {w : World} {tail : List Oper}
structure BoxI (listed : Array Bool) (w : World) (bs : List BxD) (vals : Nat → Value) (X : World) : Prop where
 box : ∀ q ∈ bs, listed.getD q.a false = true → ∃ b, vals q.a = .pointer (some ⟨b, 0, none⟩) ∧ w.heap.size ≤ b ∧ Box X b (if listed.getD q.s false = true then q.v.cells else q.z) q.T
 ne : ∀ q ∈ bs, ∀ r ∈ bs, q.a ≠ r.a → listed.getD q.a false = true → listed.getD r.a false = true → vals q.a ≠ vals r.a
variable {n N : Nat} {fl : List Bool} {bs : List BxD} {a afin : Act}
end
theorem St.rowTo {M : List Nat} {w X : World} {L : List Ent} {i n n' sz c : Nat} {A : Option Addr} {T : TypeId} {xs xs' : List Value} (h : St M w X L) (hi : L[i]? = some (.row (.slice A n c) n T sz xs)) (hn : n = n') (e : xs = xs') : St M w X (L.set i (.row (.slice A n' c) n' T sz xs')) := by
 subst hn e
 have : L.set i (.row (.slice A n c) n T sz xs) = L := by
  apply List.ext_getElem?
  intro j
  rw [List.getElem?_set]
  split
  · rename_i hij; subst hij
    split
    · exact hi.symm
    · rename_i h2; rw [List.getElem?_eq_none (by omega)]
  · rfl
 rw [this]; exact h
section
variable {P : Program} {ρ : Operand → Value} {X : World} {d : Option Tmp} {ty : TypeId} {ps : String} {af : Array Edge} {g : Option (Nat × Bool)}
end
theorem flat_fld {α : Type} {f : α → List Value} {n : Nat} (hf : ∀ x, (f x).length = n) (l : List α) {k q : Nat} (hk : k < l.length) (hq : q < n) (y : α) (v : Value) (hy : f y = (f l[k]).take q ++ [v] ++ (f l[k]).drop (q + 1)) :
 (l.set k y).flatMap f = (l.flatMap f).take (k * n + q) ++ [v] ++ (l.flatMap f).drop (k * n + q + 1) := by
 have hT : ∀ l : List α, (l.flatMap f).length = l.length * n := by
  intro l
  induction l with
  | nil => simp
  | cons x l ih => rw [List.flatMap_cons, List.length_append, hf, ih, List.length_cons, Nat.add_mul]; omega
 have e0 : l = l.take k ++ l[k] :: l.drop (k + 1) := by rw [← List.drop_eq_getElem_cons hk, List.take_append_drop]
 have e1 : l.set k y = l.take k ++ y :: l.drop (k + 1) := List.set_eq_take_append_cons_drop.trans (if_pos hk)
 have hl : ((l.take k).flatMap f).length = k * n := by rw [hT, List.length_take]; congr 1; omega
 have eF : l.flatMap f = (l.take k).flatMap f ++ (f l[k] ++ (l.drop (k + 1)).flatMap f) := by
  conv => lhs; rw [e0]
  rw [List.flatMap_append, List.flatMap_cons]
 rw [e1, List.flatMap_append, List.flatMap_cons, hy, eF, List.take_append, List.drop_append, hl, List.take_of_length_le (l := (l.take k).flatMap f) (by omega), List.drop_of_length_le (l := (l.take k).flatMap f) (by omega), show k * n + q - k * n = q by omega, show k * n + q + 1 - k * n = q + 1 by omega,
  List.take_append_of_le_length (by rw [hf]; omega), List.drop_append_of_le_length (by rw [hf]; omega)]
 simp only [List.append_assoc, List.nil_append]
end Go.Proofs.YtanicpgmbhfipaaGreatDoor
namespace Go.Proofs.YtanicpgmbhfipaaGreatDoor
set_option linter.unusedVariables false
set_option linter.unusedSimpArgs false
open Go.RowKit Go.Sort
variable {ds : List Deferred}
section
variable {P : Program} {ops : Array Oper} {Q : Exit → Act → World → Prop} {w : World}
structure PostInv (ops : Array Oper) (c : Nat) (a2 afin : Act) (X2 : World) (listed : Array Bool) (b : Act) (X : World) : Prop where
 below : Below X2.heap.size X2 X
 lsz : listed.size = ops.size
 pre : ∀ i, i ≤ c → listed.getD i false = true
 size : b.tmps.size = a2.tmps.size
 defers : b.defers = a2.defers
 done : ∀ i d, c < i → dstAt ops i = some d → listed.getD i false = true → b.tmps[d]? = afin.tmps[d]?
 rest : ∀ t, (∀ i, c < i → dstAt ops i = some t → listed.getD i true = false) → b.tmps[t]? = a2.tmps[t]?
structure PostC (ops : Array Oper) (c i N : Nat) (o : Oper) : Prop where
 dst : ∃ d, o.dst = some d ∧ d < N ∧ ∀ j, c < j → j < ops.size → j ≠ i → dstAt ops j ≠ some d
 wait : ∃ e ∈ o.after, Region.binds .any e = true ∧ c ≤ e.on ∧ e.on < i
 after : ∀ e ∈ o.after, Region.binds .any e = true → e.on < i
 look : ∀ t ∈ o.looksAt ops, ∀ j, c < j → j < ops.size → dstAt ops j = some t → j < i ∧ Region.waitsFor .any ops i j = true
end
end Go.Proofs.YtanicpgmbhfipaaGreatDoor
namespace Go.Proofs.YtanicpgmbhfipaaGreatDoor
set_option linter.unusedVariables false
set_option linter.unusedSimpArgs false
open Go.RowKit Go.Sort
section
variable {ds : List Deferred} {P : Program} {ops : Array Oper} {w : World} {Q : Exit → Act → World → Prop} {tail : List Oper} {a : Act} {o : Oper} {N : Nat} {l : List (Nat × Value)} {oc : List (Nat × (Nat → Prop))} {news : List (Nat × TypeId)}
end
end Go.Proofs.YtanicpgmbhfipaaGreatDoor
