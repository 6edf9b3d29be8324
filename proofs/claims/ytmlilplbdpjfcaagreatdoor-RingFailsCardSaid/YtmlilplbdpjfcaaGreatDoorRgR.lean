/-
  Chapter 20: a valid log's records stand in order; a log restarted is valid.
-/
import Derived.Test.YtmlilplbdpjfcaaGreatDoorRg5
import Derived.Test.YtmlilplbdpjfcaaGreatDoorRgP5
namespace Go.Proofs.YtmlilplbdpjfcaaGreatDoor
set_option linter.unusedVariables false
set_option linter.unusedSimpArgs false
open Go.RowKit Go.Sort
theorem OkP.behind {r : RngP} (h : OkP r) {k : Nat} (hk : k + 1 < r.rs.length) : bhR r.rs[k] ≤ r.rs[k + 1].l - 1 := rec_behind h.all h.h.rr.2.2.2 k hk
theorem OkP.rz {r : RngP} (h : OkP r) {k : Nat} (hk : k < r.rs.length) : r.rs[k].b.size ≠ 0 ∧ r.rs[k].b.size ≤ 3000 ∧ ordB r.r.o (bfrR r.rs k) r.rs[k] = true ∧ inB r.rs[k].s 1 r.r.s = true ∧ seqB (bfrR r.rs k) r.rs[k] = true := recE_zero.1 (h.all k hk)
theorem OkP.mono {r : RngP} (h : OkP r) : ∀ (d k : Nat) (hk : k + d < r.rs.length), r.rs[k].l + 16 * d ≤ r.rs[k + d].l
 | 0, k, hk => by show r.rs[k].l + 16 * ((0 : Nat) : Int) ≤ r.rs[k].l; omega
 | d + 1, k, hk => by
  have h1 := h.mono d k (by omega)
  have h2 := h.behind (k := k + d) hk
  have h3 := (h.rz (k := k + d) (by omega)).1
  have h4 := (h.rcd (k + d) (by omega)).2.2
  have h5 := szR_in h4
  have h6 : 16 ≤ szR (r.rs[k + d].b.size : Int) := by unfold szR; omega
  unfold bhR at h2
  show r.rs[k].l + 16 * ((d + 1 : Nat) : Int) ≤ r.rs[k + d + 1].l
  omega
theorem OkP.lt {r : RngP} (h : OkP r) {i j : Nat} (hij : i < j) (hj : j < r.rs.length) : r.rs[i].l < r.rs[j].l := by
 have := h.mono (j - i) i (by omega)
 have e : i + (j - i) = j := by omega
 simp only [e] at this
 omega
theorem OkP.le {r : RngP} (h : OkP r) {i j : Nat} (hij : i ≤ j) (hj : j < r.rs.length) : r.rs[i].l ≤ r.rs[j].l := by
 rcases Nat.lt_or_ge i j with h1 | h1
 · have := h.lt h1 hj; omega
 · have e : i = j := by omega
   subst e; exact Int.le_refl _
theorem OkP.head {r : RngP} (h : OkP r) (h0 : 0 < r.rs.length) : r.rs[0].l = r.r.o := by
 have := (h.rz h0).2.2.1
 unfold ordB bfrR at this
 simp only [if_true, Bool.and_eq_true, beq_iff_eq, decide_eq_true_eq] at this
 exact this.1.1
theorem OkP.l8 {r : RngP} (h : OkP r) : ∀ (k : Nat) (hk : k < r.rs.length), (r.rs[k].l - 1) % 8 = 0
 | 0, hk => by
  have h1 := h.head hk
  have := (h.rz hk).2.2.1
  unfold ordB bfrR at this
  simp only [if_true, Bool.and_eq_true, beq_iff_eq, decide_eq_true_eq] at this
  omega
 | k + 1, hk => by
  have h1 := h.l8 k (by omega)
  have h2 := (h.rz hk).2.2.1
  rw [bfrR_succ hk] at h2
  unfold ordB at h2
  simp only [Bool.or_eq_true, beq_iff_eq] at h2
  have h4 := (h.rcd k (by omega)).2.2
  have h5 := szR_in h4
  have h6 : bhR r.rs[k] % 8 = 0 := by unfold bhR; omega
  have h7 := nxtR_in (p := bhR r.rs[k])
  rcases h2 with h2 | h2 <;> omega
theorem OkP.next {r : RngP} (h : OkP r) : (∀ y, r.rs.getLast? = some y → (r.nx = bhR y ∨ r.nx = nxtR (bhR y)) ∧ (y.s = r.r.s ∨ r.nx % 448 = 0)) ∧ (r.rs = [] → r.nx = r.r.o - 1 ∧ r.nx % 448 = 0) := by
 have h1 := h.tl.1
 unfold nextE at h1
 constructor
 · intro y hy
   rw [hy] at h1
   simp only at h1
   rw [unl_zero (by decide)] at h1
   simp only [Bool.and_eq_true, Bool.or_eq_true, beq_iff_eq] at h1
   exact h1
 · intro hn
   rw [hn] at h1
   simp only [List.getLast?_nil] at h1
   rw [unl_zero (by decide)] at h1
   simp only [Bool.and_eq_true, beq_iff_eq] at h1
   exact h1
theorem lastG {l : List RecP} (h0 : 0 < l.length) : l.getLast? = some (l[l.length - 1]'(by omega)) := by
 rw [List.getLast?_eq_getElem?, List.getElem?_eq_getElem (by omega)]
theorem OkP.bh_nx {r : RngP} (h : OkP r) {k : Nat} (hk : k < r.rs.length) : bhR r.rs[k] ≤ r.nx := by
 have h0 : 0 < r.rs.length := by omega
 have h1 := (h.next.1 _ (lastG h0)).1
 have h2 := nxtR_in (p := bhR (r.rs[r.rs.length - 1]'(by omega)))
 have h3 : bhR r.rs[k] ≤ bhR (r.rs[r.rs.length - 1]'(by omega)) := by
  rcases Nat.lt_or_ge k (r.rs.length - 1) with h4 | h4
  · have h5 := h.behind (k := k) (by omega)
    have h6 := h.le (i := k + 1) (j := r.rs.length - 1) (by omega) (by omega)
    have h7 := (h.rcd (r.rs.length - 1) (by omega)).2.2
    have h8 := szR_in h7
    unfold bhR at h5 ⊢
    omega
  · have e : r.rs.length - 1 = k := by omega
    simp only [e]; exact Int.le_refl _
 omega
theorem OkP.l_nx {r : RngP} (h : OkP r) {k : Nat} (hk : k < r.rs.length) : r.rs[k].l < r.nx := by
 have h1 := h.bh_nx hk
 have h2 := szR_in (h.rcd k hk).2.2
 unfold bhR at h1
 omega
theorem hasR_iff {l : List RecP} {n : Int} : hasR l n = true ↔ ∃ k, ∃ hk : k < l.length, l[k].l = n := by
 unfold hasR
 rw [List.any_eq_true]
 constructor
 · rintro ⟨x, hx, he⟩
   obtain ⟨k, hk, rfl⟩ := List.getElem_of_mem hx
   exact ⟨k, hk, eq_of_beq he⟩
 · rintro ⟨k, hk, he⟩
   exact ⟨l[k], List.getElem_mem _, by simpa using he⟩
theorem OkP.from_ {r : RngP} (h : OkP r) {k : Nat} (hk : k < r.rs.length) : (r.rs.filter fun x => decide (r.rs[k].l ≤ x.l)) = r.rs.drop k := by
 have e1 : r.rs = r.rs.take k ++ r.rs.drop k := (List.take_append_drop k r.rs).symm
 have e2 : (r.rs.take k).filter (fun x => decide (r.rs[k].l ≤ x.l)) = [] := by
  rw [List.filter_eq_nil_iff]
  intro x hx
  obtain ⟨i, hi, rfl⟩ := List.getElem_of_mem hx
  rw [List.length_take] at hi
  rw [List.getElem_take]
  have := h.lt (i := i) (j := k) (by omega) hk
  simp; omega
 have e3 : (r.rs.drop k).filter (fun x => decide (r.rs[k].l ≤ x.l)) = r.rs.drop k := by
  rw [List.filter_eq_self]
  intro x hx
  obtain ⟨i, hi, rfl⟩ := List.getElem_of_mem hx
  rw [List.length_drop] at hi
  rw [List.getElem_drop]
  have := h.le (i := k) (j := k + i) (by omega) (by omega)
  simpa using this
 rw [show (r.rs.filter fun x => decide (r.rs[k].l ≤ x.l)) = (r.rs.take k).filter (fun x => decide (r.rs[k].l ≤ x.l)) ++ (r.rs.drop k).filter (fun x => decide (r.rs[k].l ≤ x.l)) from by rw [← List.filter_append, List.take_append_drop], e2, e3, List.nil_append]
theorem OkP.from_none {r : RngP} (h : OkP r) {o : Int} (ho : r.nx < o) : (r.rs.filter fun x => decide (o ≤ x.l)) = [] := by
 rw [List.filter_eq_nil_iff]
 intro x hx
 obtain ⟨i, hi, rfl⟩ := List.getElem_of_mem hx
 have := h.l_nx hi
 simp; omega
theorem bfr_drop {l : List RecP} {k i : Nat} (hi : i + 1 < (l.drop k).length) : bfrR (l.drop k) (i + 1) = bfrR l (k + i + 1) := by
 rw [List.length_drop] at hi
 rw [bfrR_succ (by rw [List.length_drop]; omega), bfrR_succ (by omega), List.getElem_drop]
theorem OkP.rooms_pos {r : RngP} (h : OkP r) : 0 ≤ (roomsP r).2 := by
 unfold roomsP
 rcases Nat.eq_zero_or_pos r.rs.length with h0 | h0
 · rw [List.eq_nil_of_length_eq_zero h0]; exact Int.le_refl _
 · rw [lastG h0]
   show 0 ≤ (bhR (r.rs[r.rs.length - 1]'(by omega)) - 1) / 448 - (r.r.o - 1) / 448 + 1
   have h1 := h.head h0
   have h2 := h.le (i := 0) (j := r.rs.length - 1) (by omega) (by omega)
   have h3 := szR_in (h.rcd (r.rs.length - 1) (by omega)).2.2
   unfold bhR
   omega
theorem rsa_ok {r : RngP} (h : OkP r) {c o : Int} (hz : rsaE r c o = 0) : (roomsP (rsaV r c o)).2 ≤ (roomsP r).2 ∧ (chkR (rsaV r c o)).2 = 0 := by
 unfold rsaE at hz
 rw [firstE_zero] at hz
 have z1 := (unl_zero (by decide)).1 (hz (cloE r) (by simp))
 have z2 := (unl_zero (by decide)).1 (hz (unl (o == nxtR r.nx + 1 || hasR r.rs o) 6) (by simp))
 have z3 := (unl_zero (by decide)).1 (hz (unl (c == 0 || (decide (o ≤ c) && hasR r.rs c)) 6) (by simp))
 have z4 := (unl_zero (by decide)).1 (hz (unl (decide (r.r.s < 60000)) 2) (by simp))
 simp only [Bool.or_eq_true, Bool.and_eq_true, beq_iff_eq, decide_eq_true_eq] at z1 z2 z3 z4
 have hH := h.h
 have hnx := hH.nx
 have hn := nxtR_in (p := r.nx)
 have hrp := h.rooms_pos
 have hpg := hH.pg
 have hl8 : nxtR r.nx ≤ 99999872 := by unfold nxtR at z1 ⊢; omega
 have hcb : 0 ≤ c ∧ c ≤ 100000000 := by
  rcases z3 with h1 | ⟨_, h1⟩
  · omega
  · obtain ⟨k, hk, he⟩ := hasR_iff.1 h1
    have := h.l_nx hk
    have := (h.rcd k hk).1
    omega
 have hcnt : c ≠ 0 → ∃ k, ∃ hk : k < r.rs.length, r.rs[k].l = c ∧ o ≤ c := fun hc => by
  rcases z3 with h1 | ⟨h0, h1⟩
  · omega
  · obtain ⟨k, hk, he⟩ := hasR_iff.1 h1
    exact ⟨k, hk, he, h0⟩
 have hst : (o = nxtR r.nx + 1 ∧ (rsaV r c o).rs = []) ∨ ∃ k, ∃ hk : k < r.rs.length, r.rs[k].l = o ∧ (rsaV r c o).rs = r.rs.drop k := by
  rcases z2 with h1 | h1
  · exact Or.inl ⟨h1, h.from_none (by omega)⟩
  · obtain ⟨k, hk, he⟩ := hasR_iff.1 h1
    refine Or.inr ⟨k, hk, he, ?_⟩
    subst he
    exact h.from_ hk
 have hob : 1 ≤ o ∧ o ≤ 100000000 := by
  rcases hst with ⟨h1, _⟩ | ⟨k, hk, h1, _⟩
  · omega
  · have := h.l_nx hk
    have := (h.rcd k hk).1
    omega
 have hnn : nxtR (nxtR r.nx) = nxtR r.nx := by unfold nxtR; omega
 have hlen : (rsaV r c o).rs.length ≤ r.rs.length := List.length_filter_le _ _
 have hrooms : (roomsP (rsaV r c o)).2 ≤ (roomsP r).2 := by
  rcases hst with ⟨h1, h2⟩ | ⟨k, hk, h1, h2⟩
  · unfold roomsP at hrp ⊢
    rw [h2]; exact hrp
  · have hd0 : 0 < (r.rs.drop k).length := by rw [List.length_drop]; omega
    have hl : (rsaV r c o).rs.getLast? = r.rs.getLast? := by rw [h2, List.getLast?_drop, if_neg (by omega)]
    have h3 : r.r.o ≤ o := by
     have := h.head (by omega)
     have := h.le (i := 0) (j := k) (by omega) hk
     omega
    unfold roomsP
    rw [hl, lastG (by omega)]
    show (bhR (r.rs[r.rs.length - 1]'(by omega)) - 1) / 448 - (o - 1) / 448 + 1 ≤ (bhR (r.rs[r.rs.length - 1]'(by omega)) - 1) / 448 - (r.r.o - 1) / 448 + 1
    omega
 refine ⟨hrooms, ok_iff.2 ⟨⟨hpg, ?_, ?_, ?_, ?_, by have := hH.len; show (rsaV r c o).rs.length ≤ 100; omega⟩, ?_, ?_⟩⟩
 · unfold rstB posB
   rw [Bool.and_eq_true, Bool.and_eq_true, inB_true, inB_true, inB_true]
   have := hH.rr.1
   show ((1 ≤ r.r.s + 1 ∧ r.r.s + 1 ≤ 60000) ∧ 0 ≤ c ∧ c ≤ 100000000) ∧ 0 ≤ o ∧ o ≤ 100000000
   omega
 · have := hH.rr.1
   show (1 ≤ r.r.s + 1 ∧ r.r.s + 1 ≤ 60000) ∧ (0 ≤ c ∧ c ≤ 100000000) ∧ 0 ≤ o ∧ o ≤ 100000000
   omega
 · exact Or.inr ⟨hH.rb, by show r.r.s = r.r.s + 1 - 1; omega⟩
 · show 0 ≤ nxtR r.nx ∧ nxtR r.nx ≤ 100000000 ∧ nxtR r.nx % 8 = 0
   omega
 · intro m hm
   rcases hst with ⟨_, h2⟩ | ⟨k, hk, h1, h2⟩
   · rw [h2] at hm; exact absurd hm (Nat.not_lt_zero _)
   · have hm' : m < (r.rs.drop k).length := by rw [← h2]; exact hm
     have e1 : (rsaV r c o).rs[m] = (r.rs.drop k)[m] := by simp only [h2]
     rw [e1, h2]
     have hkm : k + m < r.rs.length := by rw [List.length_drop] at hm'; omega
     have hq := h.rz hkm
     have hin := inB_true.1 hq.2.2.2.1
     rw [List.getElem_drop, recE_zero]
     refine ⟨hq.1, hq.2.1, ?_, inB_true.2 ⟨hin.1, by show _ ≤ r.r.s + 1; omega⟩, ?_⟩
     · match m with
       | 0 =>
        show ordB o (bfrR (r.rs.drop k) 0) r.rs[k] = true
        unfold ordB bfrR
        have h8 := h.l8 k hk
        simp only [if_true, Bool.and_eq_true, beq_iff_eq, decide_eq_true_eq]
        omega
       | i + 1 =>
        rw [bfr_drop hm']
        have h3 := hq.2.2.1
        have e3 : k + (i + 1) = (k + i) + 1 := rfl
        rw [bfrR_succ (l := r.rs) (k := k + i) (by omega)]
        rw [show bfrR r.rs (k + (i + 1)) = some (r.rs[k + i]'(by omega)) from bfrR_succ (l := r.rs) (k := k + i) (by omega)] at h3
        exact h3
     · match m with
       | 0 => rfl
       | i + 1 =>
        rw [bfr_drop hm']
        exact hq.2.2.2.2
 · unfold tailE
   rw [firstE_zero]
   intro e he
   simp only [List.mem_cons, List.not_mem_nil, or_false] at he
   rcases he with rfl | rfl | rfl
   · unfold nextE
     rcases hst with ⟨h1, h2⟩ | ⟨k, hk, h1, h2⟩
     · rw [h2]
       show unl (nxtR r.nx == o - 1 && nxtR r.nx % 448 == 0) 9 = 0
       rw [unl_zero (by decide), Bool.and_eq_true, beq_iff_eq, beq_iff_eq]
       omega
     · have hd0 : 0 < (r.rs.drop k).length := by rw [List.length_drop]; omega
       have hl : (rsaV r c o).rs.getLast? = r.rs.getLast? := by rw [h2, List.getLast?_drop, if_neg (by omega)]
       have hy := h.next.1 _ (lastG (by omega))
       rw [hl, lastG (by omega)]
       show unl ((nxtR r.nx == bhR _ || nxtR r.nx == nxtR (bhR _)) && (_ == r.r.s + 1 || nxtR r.nx % 448 == 0)) 9 = 0
       rw [unl_zero (by decide), Bool.and_eq_true, Bool.or_eq_true, Bool.or_eq_true, beq_iff_eq, beq_iff_eq, beq_iff_eq, beq_iff_eq]
       refine ⟨Or.inr ?_, Or.inr hn.2.2⟩
       rcases hy.1 with h5 | h5
       · rw [h5]
       · rw [h5]; unfold nxtR; omega
   · rw [unl_zero (by decide), Bool.or_eq_true, beq_iff_eq]
     show c = 0 ∨ hasR ((r.rs.filter fun x => decide (o ≤ x.l))) c = true
     rcases Decidable.em (c = 0) with h0 | h0
     · exact Or.inl h0
     · obtain ⟨k, hk, h1, h2⟩ := hcnt h0
       refine Or.inr ?_
       unfold hasR
       rw [List.any_eq_true]
       exact ⟨r.rs[k], List.mem_filter.2 ⟨List.getElem_mem _, by rw [h1]; simpa using h2⟩, by simpa using h1⟩
   · rw [unl_zero (by decide), decide_eq_true_eq]
     have := h.tl.2.2
     show (roomsP (rsaV r c o)).2 ≤ r.pg - 2
     omega
end Go.Proofs.YtmlilplbdpjfcaaGreatDoor
