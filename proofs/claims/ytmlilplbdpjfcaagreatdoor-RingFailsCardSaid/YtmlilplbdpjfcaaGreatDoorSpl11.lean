/-
  Walks by steps: calls that hand back a value with facts and a row; four results.
-/
import Derived.Test.YtmlilplbdpjfcaaGreatDoorSplC
namespace Go.Proofs.YtmlilplbdpjfcaaGreatDoor
set_option linter.unusedVariables false
set_option linter.unusedSimpArgs false
open Go.RowKit
section
variable {P : Program} {ops : Array Oper} {rest : List Oper} {o : Oper} {a : Act} {Q : Exit → Act → World → Prop} {X : World} {N d : Nat} {l : List (Nat × Value)} {M : List Nat} {w : World} {E : List Ent}
theorem sl_ownx {ι : Type} {f : FuncId} {args : Array Value} {B sz : Nat} {T : TypeId} {V Vr : ι → Value} {n : ι → Nat} {xs : ι → List Value} {F : ι → Prop} (ha : Has a N l) (hw : Region.wanted o (yielded ops a.tmps) = true) (hx : (execOp a.eval o).run P X = .ok (.enter f args) X) (hd : o.dst = some d) (hN : Nat.blt d N = true) (hS : St M w X E)
 (hc : Calls P f args X fun e X' => ∃ p, e = .returned (V p) ∧ F p ∧ X'.ownsRow B T sz (Vr p) (n p) (xs p) ∧ Below X.heap.size X X') (hB : X.heap.size ≤ B)
 (k : ∀ p a' X', Has a' N ((d, V p) :: l) → F p → St M w X' (.row (Vr p) (n p) T sz (xs p) :: E) → wpList P ops Q rest a' X') : wpList P ops Q (o :: rest) a X :=
 sl_step hw fun K hK => by
  unfold Oper.wp
  rw [hx]
  refine hc.mono fun r X' ⟨p, hr, hF, ho, hb⟩ => ?_
  subst hr
  refine hK _ _ ?_
  rw [hd]
  exact k p _ X' (ha.put hN _) hF (hS.add hb (e := .row _ _ _ _ _) (ownsRow_mono ho (Nat.zero_le _)) (fun g hg => ⟨Nat.le_trans hB (ho.lt g hg).1, (ho.lt g hg).2⟩))
end
section
variable {P : Program} {fn : Func} {R : Ending → World → Prop} {a : Act} {X : World} {N : Nat} {l : List (Nat × Value)}
theorem fintctt {M : List Nat} {w : World} {L : List Ent} {s p b i t u : Nat} {v x y : Value} {cs : Array Value} {T ty : TypeId} (ha : Has a N l) (hr : fn.results = #[.tmp s, .cell p ty, .tmp t, .tmp u]) (hy : look l s = some y) (hp : look l p = some (.pointer (some ⟨b, 0, none⟩))) (hv : look l t = some v) (hx : look l u = some x) (hS : St M w X L) (hi : L[i]? = some (.box b cs T))
 (ht : aggO P ty = some true) (hs : (P.info? ty).map (·.size) = some cs.toList.length) (h : R (.returned (.tuple #[y, .agg cs, v, x])) X) : bodyPost P fn R .ret a X :=
 ⟨ha.defers, _, by have h0 := ha.getD hy; have h1 := ha.getD hp; have h2 := ha.getD hv; have h3 := ha.getD hx; simp only [Array.getD_eq_getD_getElem?] at h0 h1 h2 h3; simp [results, hr, h0, h1, h2, h3, asAddr, run_cell hS hi ht hs], h⟩
end
theorem strAt {X : World} {B b o : Nat} {l : List ByteArray} {k : Nat} (h : Rd X B (some ⟨b, o, none⟩) (l.map fun s => Value.string s)) (hk : k < l.length) : ∀ (j : Nat) (u : Value), [Value.string l[k]][j]? = some u → X.cell? ⟨b, o + k * 1 + j, none⟩ = some u := fun j u hu => by
 have hj : j = 0 := by
  rcases Nat.eq_zero_or_pos j with h1 | h1
  · exact h1
  · rw [List.getElem?_eq_none (by simp; omega)] at hu; cases hu
 subst hj
 obtain ⟨b', o', e, _, hc⟩ := h k u (by rw [List.getElem?_map, List.getElem?_eq_getElem hk]; exact hu)
 injection e with e
 injection e with e1 e2
 subst e1 e2
 rw [Nat.mul_one]; exact hc
theorem boolAt {X : World} {B b o : Nat} {l : List Bool} {k : Nat} (h : Rd X B (some ⟨b, o, none⟩) (l.map fun s => Value.bool s)) (hk : k < l.length) : ∀ (j : Nat) (u : Value), [Value.bool l[k]][j]? = some u → X.cell? ⟨b, o + k * 1 + j, none⟩ = some u := fun j u hu => by
 have hj : j = 0 := by
  rcases Nat.eq_zero_or_pos j with h1 | h1
  · exact h1
  · rw [List.getElem?_eq_none (by simp; omega)] at hu; cases hu
 subst hj
 obtain ⟨b', o', e, _, hc⟩ := h k u (by rw [List.getElem?_map, List.getElem?_eq_getElem hk]; exact hu)
 injection e with e
 injection e with e1 e2
 subst e1 e2
 rw [Nat.mul_one]; exact hc
theorem bs_ext (l : List UInt8) (a b : Nat) : (bs l).extract a b = bs ((l.drop a).take (b - a)) := by
 apply bl_inj
 rw [bl_bs]
 show ((bs l).extract a b).data.toList = _
 rw [ByteArray.data_extract, Array.toList_extract, List.extract_eq_take_drop]; rfl
end Go.Proofs.YtmlilplbdpjfcaaGreatDoor
