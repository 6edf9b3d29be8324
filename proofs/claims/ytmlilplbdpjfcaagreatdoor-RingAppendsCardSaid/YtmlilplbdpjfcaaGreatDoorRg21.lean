/-
  Chapter 20: the basic functions of the statements.
-/
import Derived.Test.YtmlilplbdpjfcaaGreatDoorRgB
import Derived.Test.YtmlilplbdpjfcaaGreatDoorNumS
namespace Go.Proofs.YtmlilplbdpjfcaaGreatDoor
set_option linter.unusedVariables false
set_option linter.unusedSimpArgs false
set_option maxRecDepth 4000
open Go.RowKit Go.Sort
section
variable {P : Program} {ρ : Operand → Value} {X : World} {d : Option Tmp} {ty : TypeId} {ps : String} {af : Array Edge} {g : Option (Nat × Bool)}
theorem ex_quot {x y : Operand} {t t' : TypeId} {m n : Int} (hx : ρ x = .int .i64 m) (hy : ρ y = .int .i64 n) (h : 0 < n ∧ -4611686018427387904 ≤ m ∧ m ≤ 4611686018427387904) : (execOp ρ ⟨d, .binOp .quo t x y t', ty, ps, af, g⟩).run P X = .ok (.value (.int .i64 (m.tdiv n))) X := by
  have h0 : n ≠ 0 := by omega
  have h1 : -4611686018427387904 ≤ m.tdiv n ∧ m.tdiv n ≤ 4611686018427387904 := by
    rcases Int.le_total 0 m with h2 | h2
    · rw [Int.tdiv_eq_ediv_of_nonneg h2]
      have h3 : 0 ≤ m / n := Int.ediv_nonneg h2 (by omega)
      have h4 : m / n ≤ m := Int.ediv_le_self n h2
      omega
    · have h5 : m.tdiv n = -((-m) / n) := by
        rw [← Int.tdiv_eq_ediv_of_nonneg (by omega), Int.neg_tdiv, Int.neg_neg]
      have h3 : 0 ≤ (-m) / n := Int.ediv_nonneg (by omega) (by omega)
      have h4 : (-m) / n ≤ -m := Int.ediv_le_self n (by omega)
      omega
  simp [execOp, hx, hy, eqGuard, binOp, Op.intDiv, h0, wrap_in (n := m.tdiv n) (by omega)]
theorem ex_neg {x : Operand} {t : TypeId} {m : Int} (hx : ρ x = .int .i64 m) (h : -9223372036854775807 ≤ m ∧ m < 9223372036854775808) : (execOp ρ ⟨d, .unOp .neg t x, ty, ps, af, g⟩).run P X = .ok (.value (.int .i64 (-m))) X := by
  simp [execOp, hx, Op.unary, Op.intArith, wrap_in (n := -m) (by omega)]
end
theorem floor_eq (n b : Int) (hb : 0 < b) : (if n.tmod b < 0 then n.tdiv b - 1 else n.tdiv b) = n / b := by
  rcases Int.le_total 0 n with h | h
  · rw [Int.tdiv_eq_ediv_of_nonneg h, Int.tmod_eq_emod_of_nonneg h, if_neg (by have := Int.emod_nonneg n (b := b) (by omega); omega)]
  · have h5 : n.tdiv b = -((-n) / b) := by rw [← Int.tdiv_eq_ediv_of_nonneg (by omega), Int.neg_tdiv, Int.neg_neg]
    have h6 : n.tmod b = -((-n) % b) := by rw [← Int.tmod_eq_emod_of_nonneg (by omega), Int.neg_tmod, Int.neg_neg]
    rw [h5, h6]
    have e1 := Int.mul_ediv_add_emod (-n) b
    have e2 := Int.emod_nonneg (-n) (b := b) (by omega)
    have e3 := Int.emod_lt_of_pos (-n) hb
    generalize hq : (-n) / b = q at e1 ⊢
    generalize hr : (-n) % b = r at e1 e2 e3 ⊢
    by_cases hz : r = 0
    · subst hz
      rw [if_neg (by omega)]
      have : n = (-q) * b := by rw [Int.neg_mul, Int.mul_comm]; omega
      rw [this, Int.mul_ediv_cancel _ (by omega)]
    · rw [if_pos (by omega)]
      have : n = (b - r) + b * (-q - 1) := by rw [Int.mul_sub, Int.mul_neg, Int.mul_one]; omega
      rw [this, Int.add_mul_ediv_left _ _ (by omega), Int.ediv_eq_zero_of_lt (by omega) (by omega)]
      omega
theorem Floor_any (n b : Int) (h : 0 < b ∧ -4611686018427387904 ≤ n ∧ n ≤ 4611686018427387904) (w : World) :
    Calls Tryz.prog 117 #[.int .i64 n, .int .i64 b] w fun e w' => e = .returned (.int .i64 (n / b)) ∧ w = w' := by
  have hfe := floor_eq n b h.1
  have hdb : -4611686018427387904 ≤ n.tdiv b ∧ n.tdiv b ≤ 4611686018427387904 := by
    rcases Int.le_total 0 n with h2 | h2
    · rw [Int.tdiv_eq_ediv_of_nonneg h2]
      have h3 : 0 ≤ n / b := Int.ediv_nonneg h2 (by omega)
      have h4 : n / b ≤ n := Int.ediv_le_self b h2
      omega
    · have h5 : n.tdiv b = -((-n) / b) := by rw [← Int.tdiv_eq_ediv_of_nonneg (by omega), Int.neg_tdiv, Int.neg_neg]
      have h3 : 0 ≤ (-n) / b := Int.ediv_nonneg (by omega) (by omega)
      have h4 : (-n) / b ≤ -n := Int.ediv_le_self b (by omega)
      omega
  refine st_enter (N := 16) Tryz.func117 rfl rfl rfl (fun a0 h0 => ?_)
  have S0 := St.init w
  refine st_seq ?_
  refine st_reg ?_
  refine sl_val h0 (wn rfl) (ex_assign (h0.ev rfl)) rfl rfl fun a1 h1 => ?_
  refine st_nil ?_
  refine go_then ?_
  refine st_seq ?_
  refine st_reg ?_
  refine sl_val h1 (wn rfl) (ex_move (h1.ev rfl)) rfl rfl fun a2 h2 => ?_
  refine sl_val h2 (wn rfl) (ex_move (h2.ev rfl)) rfl rfl fun a3 h3 => ?_
  refine sl_val h3 (wn rfl) (ex_quot (h3.ev rfl) (h3.ev rfl) h) rfl rfl fun a4 h4 => ?_
  refine sl_val h4 (wn rfl) (ex_assign (h4.ev rfl)) rfl rfl fun a5 h5 => ?_
  refine st_nil ?_
  refine go_then ?_
  refine st_seq ?_
  refine st_seq ?_
  refine st_reg ?_
  refine sl_val h5 (wn rfl) (ex_move (h5.ev rfl)) rfl rfl fun a6 h6 => ?_
  refine sl_val h6 (wn rfl) (ex_move (h6.ev rfl)) rfl rfl fun a7 h7 => ?_
  refine sl_val h7 (wn rfl) (ex_remt (h7.ev rfl) (h7.ev rfl) (by omega)) rfl rfl fun a8 h8 => ?_
  refine sl_val h8 (wn rfl) (ex_lss (h8.ev rfl) (h8.ev rfl)) rfl rfl fun a9 h9 => ?_
  refine st_nil ?_
  refine go_then ?_
  refine st_if (h9.ev rfl) (fun hc0 => ?_) (fun hc0 => ?_)
  · skip
    rw [if_pos (of_decide_eq_true hc0)] at hfe
    refine st_reg ?_
    refine sl_val h9 (wn rfl) (ex_move (h9.ev rfl)) rfl rfl fun a10 h10 => ?_
    refine sl_val h10 (wn rfl) (ex_sub (h10.ev rfl) (h10.ev rfl) ⟨by omega, by omega⟩) rfl rfl fun a11 h11 => ?_
    refine sl_val h11 (wn rfl) (ex_assign (h11.ev rfl)) rfl rfl fun a12 h12 => ?_
    refine st_nil ?_
    refine go_then ?_
    refine st_seq ?_
    refine st_reg ?_
    refine sl_val h12 (wn rfl) (ex_move (h12.ev rfl)) rfl rfl fun a13 h13 => ?_
    refine sl_val h13 (wn rfl) (ex_assign (h13.ev rfl)) rfl rfl fun a14 h14 => ?_
    refine st_nil ?_
    refine go_then ?_
    refine wp_ret ?_
    refine fin1 h14 rfl rfl ?_
    exact ⟨by rw [hfe], rfl⟩
  · skip
    rw [if_neg (of_decide_eq_false hc0)] at hfe
    refine wp_skip ?_
    refine go_then ?_
    refine st_seq ?_
    refine st_reg ?_
    refine sl_val h9 (wn rfl) (ex_move (h9.ev rfl)) rfl rfl fun a15 h15 => ?_
    refine sl_val h15 (wn rfl) (ex_assign (h15.ev rfl)) rfl rfl fun a16 h16 => ?_
    refine st_nil ?_
    refine go_then ?_
    refine wp_ret ?_
    refine fin1 h16 rfl rfl ?_
    exact ⟨by rw [hfe], rfl⟩
theorem Ceil_any (n b : Int) (h : 0 < b ∧ -4611686018427387904 ≤ n ∧ n ≤ 4611686018427387904) (w : World) :
    Calls Tryz.prog 84 #[.int .i64 n, .int .i64 b] w fun e w' => e = .returned (.int .i64 (-((-n) / b))) ∧ w = w' := by
  have hdb : -4611686018427387904 ≤ (-n) / b ∧ (-n) / b ≤ 4611686018427387904 := by
    rcases Int.le_total 0 (-n) with h2 | h2
    · have h3 : 0 ≤ (-n) / b := Int.ediv_nonneg h2 (by omega)
      have h4 : (-n) / b ≤ -n := Int.ediv_le_self b h2
      omega
    · have h3 : (-n) / b < 1 := Int.ediv_lt_of_lt_mul h.1 (by omega)
      have h4 : -n ≤ (-n) / b := (Int.le_ediv_iff_mul_le h.1).2 (by
        have := Int.mul_le_mul_of_nonpos_left (a := -n) (b := b) (c := 1) h2 (by omega)
        omega)
      omega
  refine st_enter (N := 10) Tryz.func84 rfl rfl rfl (fun a0 h0 => ?_)
  have S0 := St.init w
  refine st_seq ?_
  refine st_reg ?_
  refine sl_val h0 (wn rfl) (ex_assign (h0.ev rfl)) rfl rfl fun a1 h1 => ?_
  refine st_nil ?_
  refine go_then ?_
  refine st_seq ?_
  refine st_reg ?_
  refine sl_val h1 (wn rfl) (ex_move (h1.ev rfl)) rfl rfl fun a2 h2 => ?_
  refine sl_val h2 (wn rfl) (ex_neg (h2.ev rfl) (by omega)) rfl rfl fun a3 h3 => ?_
  refine sl_val h3 (wn rfl) (ex_move (h3.ev rfl)) rfl rfl fun a4 h4 => ?_
  refine sl_pure h4 (wn rfl) (ex_call (fun _ _ => by kernel_rfl) (h4.evs rfl) rfl) rfl rfl (Floor_any _ _ (by omega) _) fun a5 h5 => ?_
  refine sl_val h5 (wn rfl) (ex_neg (h5.ev rfl) (by omega)) rfl rfl fun a6 h6 => ?_
  refine sl_val h6 (wn rfl) (ex_assign (h6.ev rfl)) rfl rfl fun a7 h7 => ?_
  refine st_nil ?_
  refine go_then ?_
  refine wp_ret ?_
  refine fin1 h7 rfl rfl ?_
  exact ⟨rfl, rfl⟩
end Go.Proofs.YtmlilplbdpjfcaaGreatDoor
