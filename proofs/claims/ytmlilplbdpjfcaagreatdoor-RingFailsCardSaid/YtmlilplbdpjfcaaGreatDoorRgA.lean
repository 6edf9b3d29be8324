/-
  Chapter 20: small functions of logs.
  Chapter 20: the error of a record, of the next position; whether a log has a record.
-/
import Derived.Test.YtmlilplbdpjfcaaGreatDoorSplA
import Derived.Test.YtmlilplbdpjfcaaGreatDoorRgP
import Derived.Test.YtmlilplbdpjfcaaGreatDoorTiny
namespace Go.Proofs.YtmlilplbdpjfcaaGreatDoor
set_option linter.unusedVariables false
set_option linter.unusedSimpArgs false
open Go.RowKit Go.Sort
def rstV (x : RstP) : Value := .agg #[.int .i64 x.s, .int .i64 x.c, .int .i64 x.o]
def recV (x : RecP) : Value := .agg #[.int .i64 x.l, .int .i64 x.s, .string x.b]
theorem up_any (n c : Int) (w : World) (h0 : 0 ≤ n) (h1 : n ≤ 1000000000000) (h2 : 1 ≤ c) (h3 : c ≤ 1000000) :
 Calls Tryz.prog 103 #[.int .i64 n, .int .i64 c] w fun e w' => e = .returned (.int .i64 ((n + c - 1) / c * c)) ∧ w = w' := by
 have hd0 : 0 ≤ (n + c - 1) / c := Int.ediv_nonneg (by omega) (by omega)
 have hd1 : (n + c - 1) / c * c ≤ n + c - 1 := Int.ediv_mul_le _ (by omega)
 have hd2 : 0 ≤ (n + c - 1) / c * c := Int.mul_nonneg hd0 (by omega)
 refine st_enter (N := 13) Tryz.func103 rfl rfl rfl (fun a0 h0 => ?_)
 have S0 := St.init w
 refine st_seq (st_reg ?_)
 refine ma h0 rfl rfl fun a1 h1 => ?_
 refine nsr ?_
 refine mv h1 rfl rfl fun a2 h2 => ?_
 refine mv h2 rfl rfl fun a3 h3 => ?_
 refine sv h3 (ex_add (h3.ev rfl) (h3.ev rfl) (by omega)) fun a4 h4 => ?_
 refine sv h4 (ex_sub (h4.ev rfl) (h4.ev rfl) (by omega)) fun a5 h5 => ?_
 refine mv h5 rfl rfl fun a6 h6 => ?_
 refine sv h6 (ex_quo (h6.ev rfl) (h6.ev rfl) (by omega)) fun a7 h7 => ?_
 refine mv h7 rfl rfl fun a8 h8 => ?_
 refine sv h8 (ex_mul (h8.ev rfl) (h8.ev rfl) (by omega)) fun a9 h9 => ?_
 refine ma h9 rfl rfl fun a10 h10 => ?_
 refine st_nil (go_then (wp_ret ?_))
 refine fin1 h10 rfl rfl ?_
 exact ⟨rfl, rfl⟩
theorem sizeOf_any (n : Int) (w : World) (h0 : 0 ≤ n) (h1 : n ≤ 1000000) :
 Calls Tryz.prog 83 #[.int .i64 n] w fun e w' => e = .returned (.int .i64 (szR n)) ∧ w = w' := by
 refine st_enter (N := 6) Tryz.func83 rfl rfl rfl (fun a0 h0 => ?_)
 have S0 := St.init w
 refine st_seq (st_reg ?_)
 refine ma h0 rfl rfl fun a1 h1 => ?_
 refine nsr ?_
 refine mv h1 rfl rfl fun a2 h2 => ?_
 refine sv h2 (ex_add (h2.ev rfl) (h2.ev rfl) (by omega)) fun a3 h3 => ?_
 refine sl_pure h3 (wn rfl) (ex_call (fun _ _ => by kernel_rfl) (h3.evs rfl) rfl) rfl rfl (up_any _ _ _ (by omega) (by omega) (by omega) (by omega)) fun a4 h4 => ?_
 refine ma h4 rfl rfl fun a5 h5 => ?_
 refine st_nil (go_then (wp_ret ?_))
 refine fin1 h5 rfl rfl ?_
 exact ⟨by unfold szR; congr 2; omega, rfl⟩
theorem next_any (n : Int) (w : World) (h0 : 0 ≤ n) (h1 : n ≤ 1000000000) :
 Calls Tryz.prog 59 #[.int .i64 n] w fun e w' => e = .returned (.int .i64 (nxtR n)) ∧ w = w' := by
 refine st_enter (N := 5) Tryz.func59 rfl rfl rfl (fun a0 h0 => ?_)
 have S0 := St.init w
 refine st_seq (st_reg ?_)
 refine ma h0 rfl rfl fun a1 h1 => ?_
 refine nsr ?_
 refine mv h1 rfl rfl fun a2 h2 => ?_
 refine sl_pure h2 (wn rfl) (ex_call (fun _ _ => by kernel_rfl) (h2.evs rfl) rfl) rfl rfl (up_any _ _ _ (by omega) (by omega) (by omega) (by omega)) fun a3 h3 => ?_
 refine ma h3 rfl rfl fun a4 h4 => ?_
 refine st_nil (go_then (wp_ret ?_))
 refine fin1 h4 rfl rfl ?_
 exact ⟨by unfold nxtR; congr 2; omega, rfl⟩
theorem begins_any (n : Int) (w : World) :
 Calls Tryz.prog 113 #[.int .i64 n] w fun e w' => e = .returned (.bool (n.tmod 448 == 0)) ∧ w = w' := by
 refine st_enter (N := 6) Tryz.func113 rfl rfl rfl (fun a0 h0 => ?_)
 have S0 := St.init w
 refine st_seq (st_reg ?_)
 refine ma h0 rfl rfl fun a1 h1 => ?_
 refine nsr ?_
 refine mv h1 rfl rfl fun a2 h2 => ?_
 refine sv h2 (ex_remt (h2.ev rfl) (h2.ev rfl) (by decide)) fun a3 h3 => ?_
 refine sv h3 (ex_eql (h3.ev rfl) (h3.ev rfl)) fun a4 h4 => ?_
 refine ma h4 rfl rfl fun a5 h5 => ?_
 refine st_nil (go_then (wp_ret ?_))
 refine fin1 h5 rfl rfl ?_
 exact ⟨rfl, rfl⟩
theorem behind_any (x : RecP) (w : World) (h0 : 1 ≤ x.l) (h1 : x.l ≤ 1000000000) (h2 : x.b.size ≤ 100000) :
 Calls Tryz.prog 72 #[recV x] w fun e w' => e = .returned (.int .i64 (bhR x)) ∧ Below w.heap.size w w' := by
 have hz : 0 ≤ szR x.b.size ∧ szR x.b.size ≤ 1000000 := by unfold szR; omega
 refine st_enter (N := 11) Tryz.func72 rfl rfl rfl (fun a0 h0 => ?_)
 have S0 := St.init w
 refine st_seq (st_reg ?_)
 refine nb h0 rfl rfl S0 fun b1 a1 X1 gb1 h1 S1 => ?_
 refine ma h1 rfl rfl fun a2 h2 => ?_
 refine st_nil (go_then (st_seq ?_))
 apply dr_flow h2 [false, false, false, false, false, false, false] _ (by kernel_rfl)
 case h =>
  refine qv h2 (fun X hX => ex_field (off := 0) (j := 0) (by kernel_rfl) (h2.ev rfl) rfl) fun a3 h3 => ?_
  refine qv h3 (fun X hX => ex_load (by kernel_rfl) (h3.ev rfl) ((S1.grow hX).cell (i := 0) rfl rfl)) fun a4 h4 => ?_
  refine qv h4 (fun X hX => ex_sub (h4.ev rfl) (h4.ev rfl) (by omega)) fun a5 h5 => ?_
  refine qv h5 (fun X hX => ex_field (off := 2) (j := 2) (by kernel_rfl) (h5.ev rfl) rfl) fun a6 h6 => ?_
  refine qv h6 (fun X hX => ex_load (by kernel_rfl) (h6.ev rfl) ((S1.grow hX).cell (i := 0) rfl rfl)) fun a7 h7 => ?_
  refine qv h7 (fun X hX => ex_slen Tryz.underlying9 (h7.ev rfl)) fun a8 h8 => ?_
  refine sq_pure h8 (wn rfl) rfl rfl (fun X => (ex_call (fun _ _ => by kernel_rfl) (h8.evs rfl) rfl)) (fun X hX => sizeOf_any _ _ (by omega) (by omega)) fun a9 h9 => ?_
  refine sq_nil ?_
  refine nd_end fun X10 hX10 hΦ10 => ?_
  have S10 := S1.grow hX10
  refine sv h9 (ex_add (h9.ev rfl) (h9.ev rfl) (by omega)) fun a11 h11 => ?_
  refine ma h11 rfl rfl fun a12 h12 => ?_
  refine st_nil (go_then (wp_ret ?_))
  refine fin1 h12 rfl rfl ?_
  exact ⟨rfl, S10.below⟩
 case hB => kernel_rfl
 case hst => rfl
theorem pagesErr_any (n : Int) (w : World) :
 Calls Tryz.prog 68 #[.int .i64 n] w fun e w' => e = .returned (.int .i64 (pgsE n)) ∧ w = w' := by
 refine st_enter (N := 6) Tryz.func68 rfl rfl rfl (fun a0 h0 => ?_)
 have S0 := St.init w
 refine st_seq (st_reg ?_)
 refine ma h0 rfl rfl fun a1 h1 => ?_
 refine nsr ?_
 refine mv h1 rfl rfl fun a2 h2 => ?_
 refine sl_pure h2 (wn rfl) (ex_call (fun _ _ => by kernel_rfl) (h2.evs rfl) rfl) rfl rfl (logring_within_any _ _ _ _) fun a3 h3 => ?_
 refine sl_pure h3 (wn rfl) (ex_call (fun _ _ => by kernel_rfl) (h3.evs rfl) rfl) rfl rfl (logring_unless_any _ _ _) fun a4 h4 => ?_
 refine ma h4 rfl rfl fun a5 h5 => ?_
 refine st_nil (go_then (wp_ret ?_))
 refine fin1 h5 rfl rfl ?_
 exact ⟨rfl, rfl⟩
theorem areaErr_any (x : RstP) (w : World) :
 Calls Tryz.prog 75 #[rstV x] w fun e w' => e = .returned (.int .i64 (rstE x)) ∧ Below w.heap.size w w' := by
 refine st_enter (N := 19) Tryz.func75 rfl rfl rfl (fun a0 h0 => ?_)
 have S0 := St.init w
 refine st_seq (st_reg ?_)
 refine nb h0 rfl rfl S0 fun b1 a1 X1 gb1 h1 S1 => ?_
 refine ma h1 rfl rfl fun a2 h2 => ?_
 refine nsr ?_
 refine vf h2 0 0 rfl rfl rfl fun a3 h3 => ?_
 refine vl h3 S1 0 rfl rfl rfl rfl fun a4 h4 => ?_
 refine sl_pure h4 (wn rfl) (ex_call (fun _ _ => by kernel_rfl) (h4.evs rfl) rfl) rfl rfl (logring_within_any _ _ _ _) fun a5 h5 => ?_
 refine mv h5 rfl rfl fun a6 h6 => ?_
 apply sl_and h6 S1 7 rfl 4 11
 case ht =>
  intro gc7
  refine sy h6 rfl rfl rfl gc7 (ex_field (off := 1) (j := 1) (by kernel_rfl) (h6.ev rfl) rfl) rfl rfl fun a7 h7 => ?_
  refine sy h7 rfl rfl rfl gc7 (ex_load (by kernel_rfl) (h7.ev rfl) (S1.cell (i := 0) rfl rfl)) rfl rfl fun a8 h8 => ?_
  refine sl_pure h8 (wanted_yes h8 _ rfl rfl rfl gc7) (ex_call (fun _ _ => by kernel_rfl) (h8.evs rfl) rfl) rfl rfl (logring_within_any _ _ _ _) fun a9 h9 => ?_
  refine sv h9 (ex_pick_t (h9.ev rfl) gc7 (h9.ev rfl)) fun a10 h10 => ?_
  exact st_nil ⟨h10.mid (m := [(_, _), (_, _), (_, _)]) rfl, S1⟩
 case hf =>
  intro gc7
  refine no h6 rfl rfl rfl gc7 rfl rfl fun a11 h11 => ?_
  refine no h11 rfl rfl rfl gc7 rfl rfl fun a12 h12 => ?_
  refine no h12 rfl rfl rfl gc7 rfl rfl fun a13 h13 => ?_
  refine sv h13 (ex_pick_f (h13.ev rfl) gc7 (h13.ev rfl)) fun a14 h14 => ?_
  exact st_nil ⟨h14.mid (m := [(_, _), (_, _), (_, _)]) rfl, S1⟩
 case h =>
  rintro a15 X15 ⟨h15, S15⟩
  refine mv h15 rfl rfl fun a16 h16 => ?_
  apply sl_and h16 S15 12 rfl 4 16
  case ht =>
   intro gc12
   refine sy h16 rfl rfl rfl gc12 (ex_field (off := 2) (j := 2) (by kernel_rfl) (h16.ev rfl) rfl) rfl rfl fun a17 h17 => ?_
   refine sy h17 rfl rfl rfl gc12 (ex_load (by kernel_rfl) (h17.ev rfl) (S15.cell (i := 0) rfl rfl)) rfl rfl fun a18 h18 => ?_
   refine sl_pure h18 (wanted_yes h18 _ rfl rfl rfl gc12) (ex_call (fun _ _ => by kernel_rfl) (h18.evs rfl) rfl) rfl rfl (logring_within_any _ _ _ _) fun a19 h19 => ?_
   refine sv h19 (ex_pick_t (h19.ev rfl) gc12 (h19.ev rfl)) fun a20 h20 => ?_
   exact st_nil ⟨h20.mid (m := [(_, _), (_, _), (_, _)]) rfl, S15⟩
  case hf =>
   intro gc12
   refine no h16 rfl rfl rfl gc12 rfl rfl fun a21 h21 => ?_
   refine no h21 rfl rfl rfl gc12 rfl rfl fun a22 h22 => ?_
   refine no h22 rfl rfl rfl gc12 rfl rfl fun a23 h23 => ?_
   refine sv h23 (ex_pick_f (h23.ev rfl) gc12 (h23.ev rfl)) fun a24 h24 => ?_
   exact st_nil ⟨h24.mid (m := [(_, _), (_, _), (_, _)]) rfl, S15⟩
  case h =>
   rintro a25 X25 ⟨h25, S25⟩
   refine ma h25 rfl rfl fun a26 h26 => ?_
   refine nsr ?_
   refine mv h26 rfl rfl fun a27 h27 => ?_
   refine sl_pure h27 (wn rfl) (ex_call (fun _ _ => by kernel_rfl) (h27.evs rfl) rfl) rfl rfl (logring_unless_any _ _ _) fun a28 h28 => ?_
   refine ma h28 rfl rfl fun a29 h29 => ?_
   refine st_nil (go_then (wp_ret ?_))
   refine fin1 h29 rfl rfl ?_
   exact ⟨rfl, S25.below⟩
end Go.Proofs.YtmlilplbdpjfcaaGreatDoor
namespace Go.Proofs.YtmlilplbdpjfcaaGreatDoor
set_option linter.unusedVariables false
set_option linter.unusedSimpArgs false
open Go.RowKit Go.Sort
def recC (x : RecP) : List Value := [.int .i64 x.l, .int .i64 x.s, .string x.b]
def recsV (l : List RecP) : List Value := l.flatMap recC
def ringV (r : RngP) (A : Option Addr) (c : Nat) : Value := .agg #[.int .i64 r.pg, .int .i64 r.r.s, .int .i64 r.r.c, .int .i64 r.r.o, .int .i64 r.e.s, .int .i64 r.e.c, .int .i64 r.e.o, .slice A r.rs.length c, .int .i64 r.nx]
theorem recsV_length (l : List RecP) : (recsV l).length = l.length * 3 := by
 induction l with
 | nil => rfl
 | cons x l ih => simp [recsV, recC] at ih ⊢; omega
theorem recsV_get : ∀ (l : List RecP) (k : Nat) (h : k < l.length) (j : Nat) (u : Value), (recC l[k])[j]? = some u → (recsV l)[k * 3 + j]? = some u
 | x :: l, 0, h, j, u, hu => by
  have hj : j < 3 := (List.getElem?_eq_some_iff.1 hu).1
  show (recC x ++ recsV l)[0 * 3 + j]? = some u
  rw [Nat.zero_mul, Nat.zero_add, List.getElem?_append_left (by exact hj)]
  exact hu
 | x :: l, k + 1, h, j, u, hu => by
  show (recC x ++ recsV l)[(k + 1) * 3 + j]? = some u
  have hl : (recC x).length = 3 := rfl
  rw [List.getElem?_append_right (by omega), hl, show (k + 1) * 3 + j - 3 = k * 3 + j by omega]
  exact recsV_get l k (by simpa using h) j u hu
theorem recAt {X : World} {B b o : Nat} {l : List RecP} {k : Nat} (h : Rd X B (some ⟨b, o, none⟩) (recsV l)) (hk : k < l.length) : ∀ (j : Nat) (u : Value), [Value.int .i64 l[k].l, .int .i64 l[k].s, .string l[k].b][j]? = some u → X.cell? ⟨b, o + k * 3 + j, none⟩ = some u := fun j u hu => by
 obtain ⟨b', o', e, _, hc⟩ := h (k * 3 + j) u (recsV_get l k hk j u hu)
 injection e with e
 injection e with e1 e2
 subst e1 e2
 rw [Nat.add_assoc]; exact hc
theorem logring_first2 {X : World} {b : Nat} {e1 e2 : Int} {T : TypeId} (hb : Box X b #[.int .i64 e1, .int .i64 e2] T) : Calls Tryz.prog 60 #[.slice (some ⟨b, 0, none⟩) 2 2] X fun e w' => e = .returned (.int .i64 (firstE [e1, e2])) ∧ X = w' :=
 logring_first_any b 0 [e1, e2] X (by simp) (fun k hk => by
  rw [Nat.zero_add, Box.cells hb k]
  have : k = 0 ∨ k = 1 := by simp at hk; omega
  rcases this with rfl | rfl <;> rfl)
theorem logring_first3 {X : World} {b : Nat} {e1 e2 e3 : Int} {T : TypeId} (hb : Box X b #[.int .i64 e1, .int .i64 e2, .int .i64 e3] T) : Calls Tryz.prog 60 #[.slice (some ⟨b, 0, none⟩) 3 3] X fun e w' => e = .returned (.int .i64 (firstE [e1, e2, e3])) ∧ X = w' :=
 logring_first_any b 0 [e1, e2, e3] X (by simp) (fun k hk => by
  rw [Nat.zero_add, Box.cells hb k]
  have : k = 0 ∨ k = 1 ∨ k = 2 := by simp at hk; omega
  rcases this with rfl | rfl | rfl <;> rfl)
theorem logring_first4 {X : World} {b : Nat} {e1 e2 e3 e4 : Int} {T : TypeId} (hb : Box X b #[.int .i64 e1, .int .i64 e2, .int .i64 e3, .int .i64 e4] T) : Calls Tryz.prog 60 #[.slice (some ⟨b, 0, none⟩) 4 4] X fun e w' => e = .returned (.int .i64 (firstE [e1, e2, e3, e4])) ∧ X = w' :=
 logring_first_any b 0 [e1, e2, e3, e4] X (by simp) (fun k hk => by
  rw [Nat.zero_add, Box.cells hb k]
  have : k = 0 ∨ k = 1 ∨ k = 2 ∨ k = 3 := by simp at hk; omega
  rcases this with rfl | rfl | rfl | rfl <;> rfl)
theorem ba_empty {b : ByteArray} : b = ⟨#[]⟩ ↔ b.size = 0 := by
 constructor
 · rintro rfl; rfl
 · intro h; exact bl_inj (List.eq_nil_of_length_eq_zero (by rw [bl_length]; exact h))
theorem szErr (b : ByteArray) : firstE [unl (!decide (b = ⟨#[]⟩)) 17, unl (decide ((b.size : Int) ≤ 3000)) 8] = if b.size = 0 then 17 else if 3000 < b.size then 8 else 0 := by
 simp only [firstE, unl]
 by_cases h : b.size = 0
 · simp [h, ba_empty]
 · by_cases h2 : 3000 < b.size
   · have h3 : ¬ ((b.size : Int) ≤ 3000) := by omega
     simp [h, ba_empty, h2, h3]
   · have h3 : ((b.size : Int) ≤ 3000) := by omega
     simp [h, ba_empty, h2, h3]
theorem firstE_two (p q : Bool) (a b : Int) (ha : a ≠ 0) : firstE [unl p a, unl q b] = if p = false then a else if q = false then b else 0 := by
 cases p <;> cases q <;> simp [firstE, unl, ha] <;> (intro h; exact h.symm)
theorem firstE_three (p q r : Bool) (a b c : Int) (ha : a ≠ 0) (hb : b ≠ 0) : firstE [unl p a, unl q b, unl r c] = if p = false then a else if q = false then b else unl r c := by
 cases p <;> cases q <;> cases r <;> simp [firstE, unl, ha, hb] <;> (intro h; exact h.symm)
theorem recE_first {o q : Int} {x : RecP} (h0 : x.b.size ≠ 0) (h1 : ¬ 3000 < x.b.size) : recE o q none x = firstE [unl (x.l == o && decide (o ≥ 1) && (o - 1) % 8 == 0) 9, unl (inB x.s 1 q) 2] := by
 rw [firstE_two _ _ _ _ (by decide)]
 unfold recE ordB seqB
 rw [if_neg h0, if_neg h1]
 simp only [unl, ge_iff_le, if_true]
theorem recE_next {o q : Int} {x y : RecP} (h0 : x.b.size ≠ 0) (h1 : ¬ 3000 < x.b.size) (hx : -9223372036854775808 ≤ x.l ∧ x.l < 9223372036854775808) (hy0 : 0 ≤ bhR y) (hy1 : bhR y < 1000000000000) :
 recE o q (some y) x = firstE [unl (IntKind.i64.wrap (x.l - 1) == bhR y || IntKind.i64.wrap (x.l - 1) == nxtR (bhR y)) 9, unl (inB x.s 1 q) 2, unl (x.s == y.s || (decide (x.s > y.s) && (IntKind.i64.wrap (x.l - 1)).tmod 448 == 0)) 9] := by
 rw [firstE_three _ _ _ _ _ _ (by decide) (by decide)]
 unfold recE ordB seqB
 rw [if_neg h0, if_neg h1]
 have hn : 0 ≤ nxtR (bhR y) ∧ nxtR (bhR y) < 2000000000000 := by unfold nxtR; omega
 have hw : ∀ e : Int, 0 ≤ e → e < 2000000000000 → (IntKind.i64.wrap (x.l - 1) == e) = (x.l - 1 == e) := fun e he0 he1 => by
  rw [Bool.eq_iff_iff, beq_iff_eq, beq_iff_eq, IntKind.wrap_i64]
  omega
 simp only [hw _ hy0 (by omega), hw _ hn.1 hn.2]
 cases ho : (x.l - 1 == bhR y || x.l - 1 == nxtR (bhR y)) with
 | false => rfl
 | true =>
  have hp : 0 ≤ x.l - 1 ∧ x.l - 1 < 2000000000000 := by
   rw [Bool.or_eq_true, beq_iff_eq, beq_iff_eq] at ho
   omega
  have e : IntKind.i64.wrap (x.l - 1) = x.l - 1 := wrap_in (by omega)
  rw [e, Int.tmod_eq_emod_of_nonneg hp.1]
def Bfr (y : RecP) : Prop := 1 ≤ y.l ∧ y.l ≤ 500000000 ∧ y.b.size ≤ 3000
theorem Bfr.bd {y : RecP} (h : Bfr y) : 0 ≤ bhR y ∧ bhR y ≤ 600000000 ∧ 0 ≤ nxtR (bhR y) ∧ nxtR (bhR y) ≤ 700000000 ∧ 1 ≤ bhR y := by
 obtain ⟨h1, h2, h3⟩ := h
 unfold nxtR bhR szR
 omega
set_option maxHeartbeats 1000000 in
theorem recordErr_any (r : RngP) (A : Option Addr) (c i : Nat) (w : World) (hr : Rd w w.heap.size A (recsV r.rs)) (hi : i < r.rs.length) (hx : -9223372036854775808 ≤ r.rs[i].l ∧ r.rs[i].l < 9223372036854775808) (hb : ∀ y, bfrR r.rs i = some y → Bfr y) (ho : 0 ≤ r.r.o ∧ r.r.o ≤ 100000000) (hlen : r.rs.length ≤ 1000) :
 Calls Tryz.prog 79 #[ringV r A c, .int .i64 i] w fun e w' => e = .returned (.int .i64 (recE r.r.o r.r.s (bfrR r.rs i) r.rs[i])) ∧ Below w.heap.size w w' := by
 obtain ⟨b, o, rfl, hB, _⟩ := hr.opened (by rw [recsV_length]; omega)
 refine st_enter (N := 104) Tryz.func79 rfl rfl rfl (fun a0 h0 => ?_)
 have S0 := St.init w
 refine st_seq (st_reg ?_)
 refine nb h0 rfl rfl S0 fun b2 a1 X1 gb2 h1 S1 => ?_
 refine ma h1 rfl rfl fun a2 h2 => ?_
 refine nsr ?_
 refine vf h2 7 7 rfl rfl rfl fun a3 h3 => ?_
 refine vl h3 S1 0 rfl rfl rfl rfl fun a4 h4 => ?_
 refine mv h4 rfl rfl fun a5 h5 => ?_
 refine sv h5 (ex_index (i := i) (sz := 3) Tryz.underlying24 (by kernel_rfl) (h5.ev rfl) (h5.ev rfl) rfl hi rfl) fun a6 h6 => ?_
 refine sv h6 (ex_loads (by kernel_rfl) (by kernel_rfl) (h6.ev rfl) (recAt (S1.rd0 hr) hi)) fun a7 h7 => ?_
 refine na (.agg #[.int .i64 0, .int .i64 0, .string ⟨#[]⟩]) h7 rfl S1 fun b5 a8 X8 gb5 h8 S8 => ?_
 refine sl_store0 h8 (wn rfl) ⟨rfl, rfl⟩ (h8.ev rfl) (h8.ev rfl) rfl (by kernel_rfl) S8 (i := 0) rfl rfl rfl fun X9 S9 => ?_
 refine nsr ?_
 refine vf h8 0 0 rfl rfl rfl fun a10 h10 => ?_
 refine vl h10 S9 0 rfl rfl rfl rfl fun a11 h11 => ?_
 refine sv h11 (ex_subw (h11.ev rfl) (h11.ev rfl)) fun a12 h12 => ?_
 refine ma h12 rfl rfl fun a13 h13 => ?_
 refine st_nil (go_then (st_seq (st_seq ?_)))
 apply dr_flow h13 [false, false, false, false, false, false, false, false] _ (by kernel_rfl)
 case h =>
  refine qv h13 (fun X hX => ex_field (off := 2) (j := 2) (by kernel_rfl) (h13.ev rfl) rfl) fun a14 h14 => ?_
  refine qv h14 (fun X hX => ex_load (by kernel_rfl) (h14.ev rfl) ((S9.grow hX).cell (i := 0) rfl rfl)) fun a15 h15 => ?_
  refine qv h15 (fun X hX => ex_sneq (h15.ev rfl) (h15.ev rfl)) fun a16 h16 => ?_
  refine sq_pure h16 (wn rfl) rfl rfl (fun X => (ex_call (fun _ _ => by kernel_rfl) (h16.evs rfl) rfl)) (fun X hX => logring_unless_any _ _ _) fun a17 h17 => ?_
  refine qv h17 (fun X hX => ex_field (off := 2) (j := 2) (by kernel_rfl) (h17.ev rfl) rfl) fun a18 h18 => ?_
  refine qv h18 (fun X hX => ex_load (by kernel_rfl) (h18.ev rfl) ((S9.grow hX).cell (i := 0) rfl rfl)) fun a19 h19 => ?_
  refine qv h19 (fun X hX => ex_slen Tryz.underlying9 (h19.ev rfl)) fun a20 h20 => ?_
  refine qv h20 (fun X hX => ex_leq (h20.ev rfl) (h20.ev rfl)) fun a21 h21 => ?_
  refine sq_nil ?_
  refine nd_end fun X22 hX22 hΦ22 => ?_
  have S22 := S9.grow hX22
  refine sl_pure h21 (wn rfl) (ex_call (fun _ _ => by kernel_rfl) (h21.evs rfl) rfl) rfl rfl (logring_unless_any _ _ _) fun a23 h23 => ?_
  refine sl_new h23 (wn rfl) (f := fun b => .slice (some ⟨b, 0, none⟩) 2 2) (ex_bslice Tryz.underlying140 (by kernel_rfl) (by kernel_rfl) (h23.evs2 rfl) rfl rfl rfl (by decide) (by decide)) rfl rfl S22 fun b30 a24 X24 gb30 h24 S24 => ?_
  refine sl_pure h24 (wn rfl) (ex_call (fun _ _ => by kernel_rfl) (h24.evs rfl) rfl) rfl rfl (logring_first2 (S24.at_ (i := 0) rfl)) fun a25 h25 => ?_
  refine ma h25 rfl rfl fun a26 h26 => ?_
  refine nsr ?_
  refine mv h26 rfl rfl fun a27 h27 => ?_
  refine sv h27 (ex_neq (h27.ev rfl) (h27.ev rfl)) fun a28 h28 => ?_
  refine st_nil (go_then ?_)
  refine st_if (h28.ev rfl) (fun hc0 => ?_) (fun hc0 => ?_)
  ·
   refine st_seq (st_reg ?_)
   refine mv h28 rfl rfl fun a29 h29 => ?_
   refine ma h29 rfl rfl fun a30 h30 => ?_
   refine st_nil (go_then (wp_ret (ret_then ?_)))
   refine fin1 h30 rfl rfl ?_
   refine ⟨?_, S24.below⟩
   rw [szErr] at hc0 ⊢
   congr 2
   unfold recE
   simp only [bne_iff_ne, ne_eq] at hc0
   split
   · rfl
   · rename_i h
     rw [if_neg h] at hc0
     split
     · rfl
     · rename_i h2; rw [if_neg h2] at hc0; exact absurd rfl hc0
  ·
   rw [szErr] at hc0
   have hsz : r.rs[i].b.size ≠ 0 ∧ ¬ 3000 < r.rs[i].b.size := by
    simp only [bne_eq_false_iff_eq] at hc0
    split at hc0
    · cases hc0
    · split at hc0
      · cases hc0
      · exact ⟨by assumption, by assumption⟩
   refine wp_skip (go_then (st_seq (st_reg ?_)))
   refine vf h28 1 1 rfl rfl rfl fun a31 h31 => ?_
   refine vl h31 S24 1 rfl rfl rfl rfl fun a32 h32 => ?_
   refine vf h32 1 1 rfl rfl rfl fun a33 h33 => ?_
   refine vf h33 0 1 rfl rfl rfl fun a34 h34 => ?_
   refine vl h34 S24 2 rfl rfl rfl rfl fun a35 h35 => ?_
   refine sl_pure h35 (wn rfl) (ex_call (fun _ _ => by kernel_rfl) (h35.evs rfl) rfl) rfl rfl (logring_within_any _ _ _ _) fun a36 h36 => ?_
   refine sl_pure h36 (wn rfl) (ex_call (fun _ _ => by kernel_rfl) (h36.evs rfl) rfl) rfl rfl (logring_unless_any _ _ _) fun a37 h37 => ?_
   refine ma h37 rfl rfl fun a38 h38 => ?_
   refine st_nil (go_then (st_seq (st_seq (st_reg ?_))))
   refine mv h38 rfl rfl fun a39 h39 => ?_
   refine sv h39 (ex_eql (h39.ev rfl) (h39.ev rfl)) fun a40 h40 => ?_
   refine st_nil (go_then ?_)
   refine st_if (h40.ev rfl) (fun hc1 => ?_) (fun hc1 => ?_)
   ·
    refine st_seq (st_reg ?_)
    refine vf h40 1 1 rfl rfl rfl fun a41 h41 => ?_
    refine vf h41 2 3 rfl rfl rfl fun a42 h42 => ?_
    refine vl h42 S24 2 rfl rfl rfl rfl fun a43 h43 => ?_
    refine ma h43 rfl rfl fun a44 h44 => ?_
    refine nsr ?_
    refine vf h44 0 0 rfl rfl rfl fun a45 h45 => ?_
    refine vl h45 S24 1 rfl rfl rfl rfl fun a46 h46 => ?_
    refine mv h46 rfl rfl fun a47 h47 => ?_
    refine sv h47 (ex_eql (h47.ev rfl) (h47.ev rfl)) fun a48 h48 => ?_
    refine mv h48 rfl rfl fun a49 h49 => ?_
    apply sl_and h49 S24 51 rfl 3 54
    case ht =>
     intro gc51
     refine sy h49 rfl rfl rfl gc51 (ex_move (h49.ev rfl)) rfl rfl fun a50 h50 => ?_
     refine sy h50 rfl rfl rfl gc51 (ex_geq (h50.ev rfl) (h50.ev rfl)) rfl rfl fun a51 h51 => ?_
     refine sv h51 (ex_pick_t (h51.ev rfl) gc51 (h51.ev rfl)) fun a52 h52 => ?_
     exact st_nil ⟨h52.mid (m := [(_, _), (_, _)]) rfl, S24⟩
    case hf =>
     intro gc51
     refine no h49 rfl rfl rfl gc51 rfl rfl fun a53 h53 => ?_
     refine no h53 rfl rfl rfl gc51 rfl rfl fun a54 h54 => ?_
     refine sv h54 (ex_pick_f (h54.ev rfl) gc51 (h54.ev rfl)) fun a55 h55 => ?_
     exact st_nil ⟨h55.mid (m := [(_, _), (_, _)]) rfl, S24⟩
    case h =>
     rintro a56 X56 ⟨h56, S56⟩
     refine mv h56 rfl rfl fun a57 h57 => ?_
     apply sl_and h57 S56 55 rfl 5 60
     case ht =>
      intro gc55
      refine sy h57 rfl rfl rfl gc55 (ex_move (h57.ev rfl)) rfl rfl fun a58 h58 => ?_
      refine sy h58 rfl rfl rfl gc55 (ex_sub (h58.ev rfl) (h58.ev rfl) (by omega)) rfl rfl fun a59 h59 => ?_
      refine sy h59 rfl rfl rfl gc55 (ex_rem (h59.ev rfl) (h59.ev rfl) (by rw [Bool.and_eq_true, decide_eq_true_eq] at gc55; omega)) rfl rfl fun a60 h60 => ?_
      refine sy h60 rfl rfl rfl gc55 (ex_eql (h60.ev rfl) (h60.ev rfl)) rfl rfl fun a61 h61 => ?_
      refine sv h61 (ex_pick_t (h61.ev rfl) gc55 (h61.ev rfl)) fun a62 h62 => ?_
      exact st_nil ⟨h62.mid (m := [(_, _), (_, _), (_, _), (_, _)]) rfl, S56⟩
     case hf =>
      intro gc55
      refine no h57 rfl rfl rfl gc55 rfl rfl fun a63 h63 => ?_
      refine no h63 rfl rfl rfl gc55 rfl rfl fun a64 h64 => ?_
      refine no h64 rfl rfl rfl gc55 rfl rfl fun a65 h65 => ?_
      refine no h65 rfl rfl rfl gc55 rfl rfl fun a66 h66 => ?_
      refine sv h66 (ex_pick_f (h66.ev rfl) gc55 (h66.ev rfl)) fun a67 h67 => ?_
      exact st_nil ⟨h67.mid (m := [(_, _), (_, _), (_, _), (_, _)]) rfl, S56⟩
     case h =>
      rintro a68 X68 ⟨h68, S68⟩
      refine sl_pure h68 (wn rfl) (ex_call (fun _ _ => by kernel_rfl) (h68.evs rfl) rfl) rfl rfl (logring_unless_any _ _ _) fun a69 h69 => ?_
      refine mv h69 rfl rfl fun a70 h70 => ?_
      refine sl_new h70 (wn rfl) (f := fun b => .slice (some ⟨b, 0, none⟩) 2 2) (ex_bslice Tryz.underlying140 (by kernel_rfl) (by kernel_rfl) (h70.evs2 rfl) rfl rfl rfl (by decide) (by decide)) rfl rfl S68 fun b63 a71 X71 gb63 h71 S71 => ?_
      refine sl_pure h71 (wn rfl) (ex_call (fun _ _ => by kernel_rfl) (h71.evs rfl) rfl) rfl rfl (logring_first2 (S71.at_ (i := 0) rfl)) fun a72 h72 => ?_
      refine ma h72 rfl rfl fun a73 h73 => ?_
      refine st_nil (go_then (wp_ret (ret_then ?_)))
      refine fin1 h73 rfl rfl ?_
      refine ⟨?_, S71.below⟩
      have hi0 : i = 0 := by simp only [beq_iff_eq] at hc1; omega
      have hbf : bfrR r.rs i = none := by unfold bfrR; rw [if_pos hi0]
      rw [hbf, recE_first hsz.1 hsz.2]
   ·
    have hi0 : i ≠ 0 := by simp only [beq_eq_false_iff_ne] at hc1; omega
    have hi1 : i - 1 < r.rs.length := by omega
    have hbf : bfrR r.rs i = some r.rs[i - 1] := by unfold bfrR; rw [if_neg hi0, List.getElem?_eq_getElem hi1]
    have hy := hb _ hbf
    have hbd := hy.bd
    refine wp_skip (go_then (st_seq (st_reg ?_)))
    refine vf h40 7 7 rfl rfl rfl fun a74 h74 => ?_
    refine vl h74 S24 2 rfl rfl rfl rfl fun a75 h75 => ?_
    refine mv h75 rfl rfl fun a76 h76 => ?_
    refine sv h76 (ex_sub (h76.ev rfl) (h76.ev rfl) (by omega)) fun a77 h77 => ?_
    refine sv h77 (ex_index (i := i - 1) (sz := 3) Tryz.underlying24 (by kernel_rfl) (h77.ev rfl) (h77.ev rfl) (by omega) (by omega) rfl) fun a78 h78 => ?_
    refine sv h78 (ex_loads (by kernel_rfl) (by kernel_rfl) (h78.ev rfl) (recAt (S24.rd0 hr) hi1)) fun a79 h79 => ?_
    refine na (.agg #[.int .i64 0, .int .i64 0, .string ⟨#[]⟩]) h79 rfl S24 fun b10 a80 X80 gb10 h80 S80 => ?_
    refine sl_store0 h80 (wn rfl) ⟨rfl, rfl⟩ (h80.ev rfl) (h80.ev rfl) rfl (by kernel_rfl) S80 (i := 0) rfl rfl rfl fun X81 S81 => ?_
    refine nsr ?_
    refine sv h80 (ex_loads (by kernel_rfl) (by kernel_rfl) (h80.ev rfl) (S81.cellsAll (i := 0) rfl)) fun a82 h82 => ?_
    refine sl_bel h82 (wn rfl) (ex_call (fun _ _ => by kernel_rfl) (h82.evs rfl) rfl) rfl rfl S81 (behind_any _ _ hy.1 (by have := hy.2.1; omega) (by have := hy.2.2; omega)) fun a83 X83 h83 S83 => ?_
    refine ma h83 rfl rfl fun a84 h84 => ?_
    refine nsr ?_
    refine vf h84 1 1 rfl rfl rfl fun a85 h85 => ?_
    refine vl h85 S83 2 rfl rfl rfl rfl fun a86 h86 => ?_
    refine vf h86 1 1 rfl rfl rfl fun a87 h87 => ?_
    refine vl h87 S83 0 rfl rfl rfl rfl fun a88 h88 => ?_
    refine sv h88 (ex_eql (h88.ev rfl) (h88.ev rfl)) fun a89 h89 => ?_
    refine mv h89 rfl rfl fun a90 h90 => ?_
    apply sl_or h90 S83 78 rfl 10 88
    case hf =>
     intro gc78
     refine sy h90 rfl rfl rfl gc78 (ex_field (off := 1) (j := 1) (by kernel_rfl) (h90.ev rfl) rfl) rfl rfl fun a91 h91 => ?_
     refine sy h91 rfl rfl rfl gc78 (ex_load (by kernel_rfl) (h91.ev rfl) (S83.cell (i := 2) rfl rfl)) rfl rfl fun a92 h92 => ?_
     refine sy h92 rfl rfl rfl gc78 (ex_field (off := 1) (j := 1) (by kernel_rfl) (h92.ev rfl) rfl) rfl rfl fun a93 h93 => ?_
     refine sy h93 rfl rfl rfl gc78 (ex_load (by kernel_rfl) (h93.ev rfl) (S83.cell (i := 0) rfl rfl)) rfl rfl fun a94 h94 => ?_
     refine sy h94 rfl rfl rfl gc78 (ex_gtr (h94.ev rfl) (h94.ev rfl)) rfl rfl fun a95 h95 => ?_
     refine sy h95 rfl rfl rfl gc78 (ex_move (h95.ev rfl)) rfl rfl fun a96 h96 => ?_
     apply sl_and h96 S83 84 rfl 3 87
     case ht =>
      intro gc84
      refine sy h96 rfl rfl rfl gc84 (ex_move (h96.ev rfl)) rfl rfl fun a97 h97 => ?_
      refine sl_pure h97 (wanted_yes h97 _ rfl rfl rfl gc84) (ex_call (fun _ _ => by kernel_rfl) (h97.evs rfl) rfl) rfl rfl (begins_any _ _) fun a98 h98 => ?_
      refine sy h98 rfl rfl rfl gc78 (ex_pick_t (h98.ev rfl) gc84 (h98.ev rfl)) rfl rfl fun a99 h99 => ?_
      exact st_nil ⟨h99.mid (m := [(_, _), (_, _)]) rfl, S83⟩
     case hf =>
      intro gc84
      refine no h96 rfl rfl rfl gc84 rfl rfl fun a100 h100 => ?_
      refine no h100 rfl rfl rfl gc84 rfl rfl fun a101 h101 => ?_
      refine sy h101 rfl rfl rfl gc78 (ex_pick_f (h101.ev rfl) gc84 (h101.ev rfl)) rfl rfl fun a102 h102 => ?_
      exact st_nil ⟨h102.mid (m := [(_, _), (_, _)]) rfl, S83⟩
     case h =>
      rintro a103 X103 ⟨h103, S103⟩
      refine sv h103 (ex_pick_f (h103.ev rfl) gc78 (h103.ev rfl)) fun a104 h104 => ?_
      exact st_nil ⟨h104.mid (m := [(_, _), (_, _), (_, _), (_, _), (_, _), (_, _), (_, _)]) rfl, S103⟩
    case ht =>
     intro gc78
     refine no h90 rfl rfl rfl gc78 rfl rfl fun a105 h105 => ?_
     refine no h105 rfl rfl rfl gc78 rfl rfl fun a106 h106 => ?_
     refine no h106 rfl rfl rfl gc78 rfl rfl fun a107 h107 => ?_
     refine no h107 rfl rfl rfl gc78 rfl rfl fun a108 h108 => ?_
     refine no h108 rfl rfl rfl gc78 rfl rfl fun a109 h109 => ?_
     refine no h109 rfl rfl rfl gc78 rfl rfl fun a110 h110 => ?_
     refine sl_no h110 (wanted_not h110 _ rfl rfl rfl) rfl rfl fun a111 h111 => ?_
     refine sl_no h111 (wanted_not h111 _ rfl rfl rfl) rfl rfl fun a112 h112 => ?_
     refine no h112 rfl rfl rfl gc78 rfl rfl fun a113 h113 => ?_
     refine sv h113 (ex_pick_t (h113.ev rfl) gc78 (h113.ev rfl)) fun a114 h114 => ?_
     exact st_nil ⟨h114.mid (m := [(_, _), (_, _), (_, _), (_, _), (_, _), (_, _), (_, _), (_, _), (_, _)]) rfl, S83⟩
    case h =>
     rintro a115 X115 ⟨h115, S115⟩
     refine ma h115 rfl rfl fun a116 h116 => ?_
     refine nsr ?_
     refine mv h116 rfl rfl fun a117 h117 => ?_
     refine mv h117 rfl rfl fun a118 h118 => ?_
     refine sv h118 (ex_eql (h118.ev rfl) (h118.ev rfl)) fun a119 h119 => ?_
     refine mv h119 rfl rfl fun a120 h120 => ?_
     apply sl_or h120 S115 92 rfl 5 97
     case hf =>
      intro gc92
      refine sy h120 rfl rfl rfl gc92 (ex_move (h120.ev rfl)) rfl rfl fun a121 h121 => ?_
      refine sy h121 rfl rfl rfl gc92 (ex_move (h121.ev rfl)) rfl rfl fun a122 h122 => ?_
      refine sl_pure h122 (wanted_yes h122 _ rfl rfl rfl gc92) (ex_call (fun _ _ => by kernel_rfl) (h122.evs rfl) rfl) rfl rfl (next_any _ _ hbd.1 (by omega)) fun a123 h123 => ?_
      refine sy h123 rfl rfl rfl gc92 (ex_eql (h123.ev rfl) (h123.ev rfl)) rfl rfl fun a124 h124 => ?_
      refine sv h124 (ex_pick_f (h124.ev rfl) gc92 (h124.ev rfl)) fun a125 h125 => ?_
      exact st_nil ⟨h125.mid (m := [(_, _), (_, _), (_, _), (_, _)]) rfl, S115⟩
     case ht =>
      intro gc92
      refine no h120 rfl rfl rfl gc92 rfl rfl fun a126 h126 => ?_
      refine no h126 rfl rfl rfl gc92 rfl rfl fun a127 h127 => ?_
      refine no h127 rfl rfl rfl gc92 rfl rfl fun a128 h128 => ?_
      refine no h128 rfl rfl rfl gc92 rfl rfl fun a129 h129 => ?_
      refine sv h129 (ex_pick_t (h129.ev rfl) gc92 (h129.ev rfl)) fun a130 h130 => ?_
      exact st_nil ⟨h130.mid (m := [(_, _), (_, _), (_, _), (_, _)]) rfl, S115⟩
     case h =>
      rintro a131 X131 ⟨h131, S131⟩
      refine sl_pure h131 (wn rfl) (ex_call (fun _ _ => by kernel_rfl) (h131.evs rfl) rfl) rfl rfl (logring_unless_any _ _ _) fun a132 h132 => ?_
      refine mv h132 rfl rfl fun a133 h133 => ?_
      refine mv h133 rfl rfl fun a134 h134 => ?_
      refine sl_pure h134 (wn rfl) (ex_call (fun _ _ => by kernel_rfl) (h134.evs rfl) rfl) rfl rfl (logring_unless_any _ _ _) fun a135 h135 => ?_
      refine sl_new h135 (wn rfl) (f := fun b => .slice (some ⟨b, 0, none⟩) 3 3) (ex_bslice Tryz.underlying140 (by kernel_rfl) (by kernel_rfl) (h135.evs2 rfl) rfl rfl rfl (by decide) (by decide)) rfl rfl S131 fun b102 a136 X136 gb102 h136 S136 => ?_
      refine sl_pure h136 (wn rfl) (ex_call (fun _ _ => by kernel_rfl) (h136.evs rfl) rfl) rfl rfl (logring_first3 (S136.at_ (i := 0) rfl)) fun a137 h137 => ?_
      refine ma h137 rfl rfl fun a138 h138 => ?_
      refine st_nil (go_then (wp_ret ?_))
      refine fin1 h138 rfl rfl ?_
      refine ⟨?_, S136.below⟩
      rw [hbf, recE_next hsz.1 hsz.2 hx hbd.1 (by omega)]
 case hB => kernel_rfl
 case hst => rfl
end Go.Proofs.YtmlilplbdpjfcaaGreatDoor
