/-
  Chapter 20: the basic functions of the statements.
-/
import Derived.Test.YtmlilplbdpjfcaaGreatDoorRgB
import Derived.Test.YtmlilplbdpjfcaaGreatDoorNumS
namespace Go.Proofs.YtmlilplbdpjfcaaGreatDoor
set_option linter.unusedVariables false
set_option linter.unusedSimpArgs false
set_option maxRecDepth 4000
open Go.RowKit Go.Sort
section
variable {P : Program} {ρ : Operand → Value} {X : World} {d : Option Tmp} {ty : TypeId} {ps : String} {af : Array Edge} {g : Option (Nat × Bool)}
theorem ex_quot {x y : Operand} {t t' : TypeId} {m n : Int} (hx : ρ x = .int .i64 m) (hy : ρ y = .int .i64 n) (h : 0 < n ∧ -4611686018427387904 ≤ m ∧ m ≤ 4611686018427387904) : (execOp ρ ⟨d, .binOp .quo t x y t', ty, ps, af, g⟩).run P X = .ok (.value (.int .i64 (m.tdiv n))) X := by
  have h0 : n ≠ 0 := by omega
  have h1 : -4611686018427387904 ≤ m.tdiv n ∧ m.tdiv n ≤ 4611686018427387904 := by
    rcases Int.le_total 0 m with h2 | h2
    · rw [Int.tdiv_eq_ediv_of_nonneg h2]
      have h3 : 0 ≤ m / n := Int.ediv_nonneg h2 (by omega)
      have h4 : m / n ≤ m := Int.ediv_le_self n h2
      omega
    · have h5 : m.tdiv n = -((-m) / n) := by
        rw [← Int.tdiv_eq_ediv_of_nonneg (by omega), Int.neg_tdiv, Int.neg_neg]
      have h3 : 0 ≤ (-m) / n := Int.ediv_nonneg (by omega) (by omega)
      have h4 : (-m) / n ≤ -m := Int.ediv_le_self n (by omega)
      omega
  simp [execOp, hx, hy, eqGuard, binOp, Op.intDiv, h0, wrap_in (n := m.tdiv n) (by omega)]
theorem ex_neg {x : Operand} {t : TypeId} {m : Int} (hx : ρ x = .int .i64 m) (h : -9223372036854775807 ≤ m ∧ m < 9223372036854775808) : (execOp ρ ⟨d, .unOp .neg t x, ty, ps, af, g⟩).run P X = .ok (.value (.int .i64 (-m))) X := by
  simp [execOp, hx, Op.unary, Op.intArith, wrap_in (n := -m) (by omega)]
end
theorem floor_eq (n b : Int) (hb : 0 < b) : (if n.tmod b < 0 then n.tdiv b - 1 else n.tdiv b) = n / b := by
  rcases Int.le_total 0 n with h | h
  · rw [Int.tdiv_eq_ediv_of_nonneg h, Int.tmod_eq_emod_of_nonneg h, if_neg (by have := Int.emod_nonneg n (b := b) (by omega); omega)]
  · have h5 : n.tdiv b = -((-n) / b) := by rw [← Int.tdiv_eq_ediv_of_nonneg (by omega), Int.neg_tdiv, Int.neg_neg]
    have h6 : n.tmod b = -((-n) % b) := by rw [← Int.tmod_eq_emod_of_nonneg (by omega), Int.neg_tmod, Int.neg_neg]
    rw [h5, h6]
    have e1 := Int.mul_ediv_add_emod (-n) b
    have e2 := Int.emod_nonneg (-n) (b := b) (by omega)
    have e3 := Int.emod_lt_of_pos (-n) hb
    generalize hq : (-n) / b = q at e1 ⊢
    generalize hr : (-n) % b = r at e1 e2 e3 ⊢
    by_cases hz : r = 0
    · subst hz
      rw [if_neg (by omega)]
      have : n = (-q) * b := by rw [Int.neg_mul, Int.mul_comm]; omega
      rw [this, Int.mul_ediv_cancel _ (by omega)]
    · rw [if_pos (by omega)]
      have : n = (b - r) + b * (-q - 1) := by rw [Int.mul_sub, Int.mul_neg, Int.mul_one]; omega
      rw [this, Int.add_mul_ediv_left _ _ (by omega), Int.ediv_eq_zero_of_lt (by omega) (by omega)]
      omega
theorem Floor_any (n b : Int) (h : 0 < b ∧ -4611686018427387904 ≤ n ∧ n ≤ 4611686018427387904) (w : World) :
    Calls Tryz.prog 117 #[.int .i64 n, .int .i64 b] w fun e w' => e = .returned (.int .i64 (n / b)) ∧ w = w' := by
  have hfe := floor_eq n b h.1
  have hdb : -4611686018427387904 ≤ n.tdiv b ∧ n.tdiv b ≤ 4611686018427387904 := by
    rcases Int.le_total 0 n with h2 | h2
    · rw [Int.tdiv_eq_ediv_of_nonneg h2]
      have h3 : 0 ≤ n / b := Int.ediv_nonneg h2 (by omega)
      have h4 : n / b ≤ n := Int.ediv_le_self b h2
      omega
    · have h5 : n.tdiv b = -((-n) / b) := by rw [← Int.tdiv_eq_ediv_of_nonneg (by omega), Int.neg_tdiv, Int.neg_neg]
      have h3 : 0 ≤ (-n) / b := Int.ediv_nonneg (by omega) (by omega)
      have h4 : (-n) / b ≤ -n := Int.ediv_le_self b (by omega)
      omega
  refine st_enter (N := 16) Tryz.func117 rfl rfl rfl (fun a0 h0 => ?_)
  have S0 := St.init w
  refine st_seq ?_
  refine st_reg ?_
  refine sl_val h0 (wanted_none _ _ rfl) (ex_assign (h0.ev rfl)) rfl rfl fun a1 h1 => ?_
  refine st_nil ?_
  refine go_then ?_
  refine st_seq ?_
  refine st_reg ?_
  refine sl_val h1 (wanted_none _ _ rfl) (ex_move (h1.ev rfl)) rfl rfl fun a2 h2 => ?_
  refine sl_val h2 (wanted_none _ _ rfl) (ex_move (h2.ev rfl)) rfl rfl fun a3 h3 => ?_
  refine sl_val h3 (wanted_none _ _ rfl) (ex_quot (h3.ev rfl) (h3.ev rfl) h) rfl rfl fun a4 h4 => ?_
  refine sl_val h4 (wanted_none _ _ rfl) (ex_assign (h4.ev rfl)) rfl rfl fun a5 h5 => ?_
  refine st_nil ?_
  refine go_then ?_
  refine st_seq ?_
  refine st_seq ?_
  refine st_reg ?_
  refine sl_val h5 (wanted_none _ _ rfl) (ex_move (h5.ev rfl)) rfl rfl fun a6 h6 => ?_
  refine sl_val h6 (wanted_none _ _ rfl) (ex_move (h6.ev rfl)) rfl rfl fun a7 h7 => ?_
  refine sl_val h7 (wanted_none _ _ rfl) (ex_remt (h7.ev rfl) (h7.ev rfl) (by omega)) rfl rfl fun a8 h8 => ?_
  refine sl_val h8 (wanted_none _ _ rfl) (ex_lss (h8.ev rfl) (h8.ev rfl)) rfl rfl fun a9 h9 => ?_
  refine st_nil ?_
  refine go_then ?_
  refine st_if (h9.ev rfl) (fun hc0 => ?_) (fun hc0 => ?_)
  · skip
    rw [if_pos (of_decide_eq_true hc0)] at hfe
    refine st_reg ?_
    refine sl_val h9 (wanted_none _ _ rfl) (ex_move (h9.ev rfl)) rfl rfl fun a10 h10 => ?_
    refine sl_val h10 (wanted_none _ _ rfl) (ex_sub (h10.ev rfl) (h10.ev rfl) ⟨by omega, by omega⟩) rfl rfl fun a11 h11 => ?_
    refine sl_val h11 (wanted_none _ _ rfl) (ex_assign (h11.ev rfl)) rfl rfl fun a12 h12 => ?_
    refine st_nil ?_
    refine go_then ?_
    refine st_seq ?_
    refine st_reg ?_
    refine sl_val h12 (wanted_none _ _ rfl) (ex_move (h12.ev rfl)) rfl rfl fun a13 h13 => ?_
    refine sl_val h13 (wanted_none _ _ rfl) (ex_assign (h13.ev rfl)) rfl rfl fun a14 h14 => ?_
    refine st_nil ?_
    refine go_then ?_
    refine wp_ret ?_
    refine fin1 h14 rfl rfl ?_
    exact ⟨by rw [hfe], rfl⟩
  · skip
    rw [if_neg (of_decide_eq_false hc0)] at hfe
    refine wp_skip ?_
    refine go_then ?_
    refine st_seq ?_
    refine st_reg ?_
    refine sl_val h9 (wanted_none _ _ rfl) (ex_move (h9.ev rfl)) rfl rfl fun a15 h15 => ?_
    refine sl_val h15 (wanted_none _ _ rfl) (ex_assign (h15.ev rfl)) rfl rfl fun a16 h16 => ?_
    refine st_nil ?_
    refine go_then ?_
    refine wp_ret ?_
    refine fin1 h16 rfl rfl ?_
    exact ⟨by rw [hfe], rfl⟩
theorem Ceil_any (n b : Int) (h : 0 < b ∧ -4611686018427387904 ≤ n ∧ n ≤ 4611686018427387904) (w : World) :
    Calls Tryz.prog 84 #[.int .i64 n, .int .i64 b] w fun e w' => e = .returned (.int .i64 (-((-n) / b))) ∧ w = w' := by
  have hdb : -4611686018427387904 ≤ (-n) / b ∧ (-n) / b ≤ 4611686018427387904 := by
    rcases Int.le_total 0 (-n) with h2 | h2
    · have h3 : 0 ≤ (-n) / b := Int.ediv_nonneg h2 (by omega)
      have h4 : (-n) / b ≤ -n := Int.ediv_le_self b h2
      omega
    · have h3 : (-n) / b < 1 := Int.ediv_lt_of_lt_mul h.1 (by omega)
      have h4 : -n ≤ (-n) / b := (Int.le_ediv_iff_mul_le h.1).2 (by
        have := Int.mul_le_mul_of_nonpos_left (a := -n) (b := b) (c := 1) h2 (by omega)
        omega)
      omega
  refine st_enter (N := 10) Tryz.func84 rfl rfl rfl (fun a0 h0 => ?_)
  have S0 := St.init w
  refine st_seq ?_
  refine st_reg ?_
  refine sl_val h0 (wanted_none _ _ rfl) (ex_assign (h0.ev rfl)) rfl rfl fun a1 h1 => ?_
  refine st_nil ?_
  refine go_then ?_
  refine st_seq ?_
  refine st_reg ?_
  refine sl_val h1 (wanted_none _ _ rfl) (ex_move (h1.ev rfl)) rfl rfl fun a2 h2 => ?_
  refine sl_val h2 (wanted_none _ _ rfl) (ex_neg (h2.ev rfl) (by omega)) rfl rfl fun a3 h3 => ?_
  refine sl_val h3 (wanted_none _ _ rfl) (ex_move (h3.ev rfl)) rfl rfl fun a4 h4 => ?_
  refine sl_pure h4 (wanted_none _ _ rfl) (ex_call (fun _ _ => by kernel_rfl) (h4.evs rfl) rfl) rfl rfl (Floor_any _ _ (by omega) _) fun a5 h5 => ?_
  refine sl_val h5 (wanted_none _ _ rfl) (ex_neg (h5.ev rfl) (by omega)) rfl rfl fun a6 h6 => ?_
  refine sl_val h6 (wanted_none _ _ rfl) (ex_assign (h6.ev rfl)) rfl rfl fun a7 h7 => ?_
  refine st_nil ?_
  refine go_then ?_
  refine wp_ret ?_
  refine fin1 h7 rfl rfl ?_
  exact ⟨rfl, rfl⟩
theorem bs_app (a b : List UInt8) : bs a ++ bs b = bs (a ++ b) := bl_inj (by rw [bl_append, bl_bs, bl_bs, bl_bs])
theorem Patch_l (s b : List UInt8) (a : Nat) (w : World) (hs : s.length ≤ 1000000) (h1 : a + b.length ≤ s.length) :
    Calls Tryz.prog 49 #[.string (bs s), .int .i64 a, .string (bs b)] w fun e w' => e = .returned (.string (bs (patL s a b))) ∧ Below w.heap.size w w' := by
  have := Patch_any (bs s) (bs b) a w (by rw [bs_size]; exact hs) (by rw [bs_size, bs_size]; exact h1)
  rw [show patS (bs s) a (bs b) = bs (patL s a b) from bl_inj (by rw [bl_bs, bl_patL, bl_bs, bl_bs])] at this
  exact this
theorem LittleAt_l (s : List UInt8) (a c : Nat) (h1 : a + c ≤ s.length) (hs : s.length ≤ 1000000) (hc : c ≤ 6) (w : World) :
    Calls Tryz.prog 91 #[.string (bs s), .int .i64 a, .int .i64 c] w fun e w' => e = .returned (.int .i64 (nAt s a c)) ∧ w = w' := by
  have := LittleAt_any (bs s) a c (by rw [bs_size]; exact h1) (by rw [bs_size]; unfold maxLen; omega) hc w
  rw [bl_bs] at this; exact this
theorem Protected_l (b : List UInt8) (n : Int) (hb : b.length = 512) (hn : 0 ≤ n ∧ n < 65536) (w : World) :
    Calls Tryz.prog 93 #[.string (bs b), .int .i64 n] w fun e w' => e = .returned (.string (bs (prL b n))) ∧ Below w.heap.size w w' := by
  have hsp := fun k hk => rpK_spec n b hb k hk
  refine st_enter (N := 32) Tryz.func93 rfl rfl rfl (fun a0 h0 => ?_)
  have S0 := St.init w
  refine st_seq ?_
  refine st_reg ?_
  refine sl_val h0 (wanted_none _ _ rfl) (ex_assign (h0.ev rfl)) rfl rfl fun a1 h1 => ?_
  refine st_nil ?_
  refine go_then ?_
  refine st_seq ?_
  refine st_reg ?_
  refine sl_val h1 (wanted_none _ _ rfl) (ex_move (h1.ev rfl)) rfl rfl fun a2 h2 => ?_
  refine sl_bel h2 (wanted_none _ _ rfl) (ex_call (fun _ _ => by kernel_rfl) (h2.evs rfl) rfl) rfl rfl S0 (Little_any n 2 (by omega) (by omega) (by decide) _) fun a3 X3 h3 S3 => ?_
  refine sl_val h3 (wanted_none _ _ rfl) (ex_assign (h3.ev rfl)) rfl rfl fun a4 h4 => ?_
  refine st_nil ?_
  refine go_then ?_
  refine st_seq ?_
  refine st_seq ?_
  refine st_reg ?_
  refine sl_val h4 (wanted_none _ _ rfl) (ex_assign (h4.ev rfl)) rfl rfl fun a5 h5 => ?_
  refine st_nil ?_
  refine go_then ?_
  refine wp_block ?_
  refine st_loop h5 S3 [4, 1] (fun (k : Nat) => [(6, .int .i64 ((k : Int) + 1)), (5, .string (bs (rpK n b k).1)), (0, .string (bs (rpK n b k).2))]) (fun (k : Nat) => k ≤ 8) (fun (k : Nat) L => L) (fun (k : Nat) => 8 - k) (0) ((by omega)) ⟨rfl, rfl, rfl, rfl, rfl, trivial⟩ (S3) ?_
  intro k a6 X6 hF0 h6 S6
  refine st_seq ?_
  refine st_seq ?_
  refine st_reg ?_
  refine sl_val h6 (wanted_none _ _ rfl) (ex_move (h6.ev rfl)) rfl rfl fun a7 h7 => ?_
  refine sl_val h7 (wanted_none _ _ rfl) (ex_leq (h7.ev rfl) (h7.ev rfl)) rfl rfl fun a8 h8 => ?_
  refine st_nil ?_
  refine go_then ?_
  refine st_if (h8.ev rfl) (fun hc0 => ?_) (fun hc0 => ?_)
  · skip
    have hlt : k < 8 := by have := of_decide_eq_true hc0; omega
    obtain ⟨hl1, hl2, _, _⟩ := hsp k (by omega)
    have hz1 := bs_size (rpK n b k).1
    have hz2 := bs_size (rpK n b k).2
    have hll := lit2_length n
    have htl : tlA k = 64 * k + 62 := rfl
    have hz3 := bs_size (((rpK n b k).2.drop (tlA k)).take 2)
    have hl3 : (((rpK n b k).2.drop (tlA k)).take 2).length = 2 := by rw [List.length_take, List.length_drop]; omega
    refine wp_skip ?_
    refine go_then ?_
    refine st_seq ?_
    refine wp_block ?_
    refine st_seq ?_
    refine st_reg ?_
    refine sl_val h8 (wanted_none _ _ rfl) (ex_move (h8.ev rfl)) rfl rfl fun a9 h9 => ?_
    refine sl_val h9 (wanted_none _ _ rfl) (ex_mul (h9.ev rfl) (h9.ev rfl) (by omega)) rfl rfl fun a10 h10 => ?_
    refine sl_val h10 (wanted_none _ _ rfl) (as_val (v' := .int .i64 ((tlA k : Nat) : Int)) (congrArg _ (by unfold tlA; push_cast; omega)) (ex_sub (h10.ev rfl) (h10.ev rfl) (by omega))) rfl rfl fun a11 h11 => ?_
    refine sl_val h11 (wanted_none _ _ rfl) (ex_assign (h11.ev rfl)) rfl rfl fun a12 h12 => ?_
    refine st_nil ?_
    refine go_then ?_
    refine st_seq ?_
    refine st_reg ?_
    refine sl_val h12 (wanted_none _ _ rfl) (ex_move (h12.ev rfl)) rfl rfl fun a13 h13 => ?_
    refine sl_val h13 (wanted_none _ _ rfl) (ex_move (h13.ev rfl)) rfl rfl fun a14 h14 => ?_
    refine sl_val h14 (wanted_none _ _ rfl) (ex_move (h14.ev rfl)) rfl rfl fun a15 h15 => ?_
    refine sl_val h15 (wanted_none _ _ rfl) (ex_move (h15.ev rfl)) rfl rfl fun a16 h16 => ?_
    refine sl_val h16 (wanted_none _ _ rfl) (as_val (v' := .int .i64 ((tlA k + 2 : Nat) : Int)) (congrArg _ (by omega)) (ex_add (h16.ev rfl) (h16.ev rfl) (by omega))) rfl rfl fun a17 h17 => ?_
    refine sl_val h17 (wanted_none _ _ rfl) (as_val (v' := .string (bs (((rpK n b k).2.drop (tlA k)).take 2))) (congrArg _ (by rw [bs_extract, Nat.add_sub_cancel_left])) (ex_sslice (l := (tlA k)) (h := (tlA k + 2)) Tryz.underlying9 (h17.ev rfl) (h17.ev rfl) (h17.ev rfl) (by omega) (by omega))) rfl rfl fun a18 h18 => ?_
    refine sl_val h18 (wanted_none _ _ rfl) (as_val (v' := .string (bs (rpK n b (k + 1)).1)) (congrArg _ (by rw [bs_app]; rfl)) (ex_sadd (h18.ev rfl) (h18.ev rfl) (by omega))) rfl rfl fun a19 h19 => ?_
    refine sl_val h19 (wanted_none _ _ rfl) (ex_assign (h19.ev rfl)) rfl rfl fun a20 h20 => ?_
    refine st_nil ?_
    refine go_then ?_
    refine st_reg ?_
    refine sl_val h20 (wanted_none _ _ rfl) (ex_move (h20.ev rfl)) rfl rfl fun a21 h21 => ?_
    refine sl_val h21 (wanted_none _ _ rfl) (ex_move (h21.ev rfl)) rfl rfl fun a22 h22 => ?_
    refine sl_val h22 (wanted_none _ _ rfl) (ex_move (h22.ev rfl)) rfl rfl fun a23 h23 => ?_
    refine sl_bel h23 (wanted_none _ _ rfl) (ex_call (fun _ _ => by kernel_rfl) (h23.evs rfl) rfl) rfl rfl S6 (Little_any n 2 (by omega) (by omega) (by decide) _) fun a24 X24 h24 S24 => ?_
    refine sl_bel h24 (wanted_none _ _ rfl) (ex_call (fun _ _ => by kernel_rfl) (h24.evs rfl) rfl) rfl rfl S24 (Patch_l _ _ (tlA k) _ (by omega) (by omega)) fun a25 X25 h25 S25 => ?_
    refine sl_val h25 (wanted_none _ _ rfl) (ex_assign (h25.ev rfl)) rfl rfl fun a26 h26 => ?_
    refine st_nil ?_
    refine go_block ?_
    refine go_then ?_
    refine st_reg ?_
    refine sl_val h26 (wanted_none _ _ rfl) (ex_move (h26.ev rfl)) rfl rfl fun a27 h27 => ?_
    refine sl_val h27 (wanted_none _ _ rfl) (as_val (v' := .int .i64 (((k + 1 : Nat) : Int) + 1)) (congrArg _ (by omega)) (ex_add (h27.ev rfl) (h27.ev rfl) (by omega))) rfl rfl fun a28 h28 => ?_
    refine sl_val h28 (wanted_none _ _ rfl) (ex_assign (h28.ev rfl)) rfl rfl fun a29 h29 => ?_
    refine st_nil ?_
    refine go_then ?_
    exact ⟨k + 1, (by omega), (by omega), h29.re ⟨rfl, rfl, rfl, rfl, rfl, trivial⟩, S25⟩
  · skip
    have hge : k = 8 := by have := of_decide_eq_false hc0; omega
    obtain ⟨hl1, hl2, _, _⟩ := hsp k (by omega)
    refine wp_exit ?_
    refine go_exit_then ?_
    refine go_exit_then ?_
    refine go_exit ?_
    refine go_then ?_
    refine st_seq ?_
    refine st_reg ?_
    refine sl_val h8 (wanted_none _ _ rfl) (ex_move (h8.ev rfl)) rfl rfl fun a30 h30 => ?_
    refine sl_val h30 (wanted_none _ _ rfl) (ex_move (h30.ev rfl)) rfl rfl fun a31 h31 => ?_
    refine sl_bel h31 (wanted_none _ _ rfl) (ex_call (fun _ _ => by kernel_rfl) (h31.evs rfl) rfl) rfl rfl S6 (Patch_l _ _ 40 _ (by omega) (by omega)) fun a32 X32 h32 S32 => ?_
    refine sl_val h32 (wanted_none _ _ rfl) (ex_assign (h32.ev rfl)) rfl rfl fun a33 h33 => ?_
    refine st_nil ?_
    refine go_then ?_
    refine wp_ret ?_
    refine fin1 h33 rfl rfl ?_
    exact ⟨by rw [hge, rp_eq n b hb], S32.below⟩
def roK (s : List UInt8) : Nat → List UInt8
  | 0 => patL s 40 (zerosL 18)
  | k + 1 => patL (roK s k) (tlA k) ((s.drop (42 + 2 * k)).take 2)
theorem patL_comm {l a b : List UInt8} {i j : Nat} (hi : i + a.length ≤ l.length) (hj : j + b.length ≤ l.length) (hd : i + a.length ≤ j ∨ j + b.length ≤ i) : patL (patL l i a) j b = patL (patL l j b) i a := by
  have l1 := patL_length hi
  have l2 := patL_length hj
  refine list_ext_getD (by rw [patL_length (l := patL l i a) (by omega), patL_length (l := patL l j b) (by omega), l1, l2]) fun k hk => ?_
  rw [patL_getD (l := patL l i a) (by omega), patL_getD hi, patL_getD (l := patL l j b) (by omega), patL_getD hj]
  by_cases h1 : j ≤ k ∧ k < j + b.length
  · by_cases h2 : i ≤ k ∧ k < i + a.length
    · omega
    · rw [if_pos h1, if_neg h2, if_pos h1]
  · by_cases h2 : i ≤ k ∧ k < i + a.length
    · rw [if_neg h1, if_pos h2, if_pos h2]
    · rw [if_neg h1, if_neg h2, if_neg h2, if_neg h1]
theorem ro_eq {s : List UInt8} (hs : s.length = 512) : ∀ k, k ≤ 8 → roK s k = patL (opK s k) 40 (zerosL 18) ∧ (roK s k).length = 512
  | 0, _ => ⟨rfl, by show (patL s 40 (zerosL 18)).length = 512; rw [patL_length (by rw [zerosL_length]; omega), hs]⟩
  | k + 1, hk => by
    obtain ⟨h1, h2⟩ := ro_eq hs k (by omega)
    have hl := (opK_spec s hs k (by omega)).1
    have hp : ((s.drop (42 + 2 * k)).take 2).length = 2 := by rw [List.length_take, List.length_drop]; omega
    have ht : tlA k = 64 * k + 62 := rfl
    refine ⟨?_, ?_⟩
    · show patL (roK s k) (tlA k) _ = patL (patL (opK s k) (tlA k) _) 40 _
      rw [h1, patL_comm (by rw [zerosL_length]; omega) (by omega) (by rw [zerosL_length]; omega)]
    · show (patL (roK s k) (tlA k) _).length = 512
      rw [patL_length (by omega), h2]
theorem ro_all {s : List UInt8} (hs : s.length = 512) : roK s 8 = opL s := (ro_eq hs 8 (by omega)).1
theorem nAt_eq2 {s : List UInt8} {a b : Nat} (ha : a + 2 ≤ s.length) (hb : b + 2 ≤ s.length) : nAt s a 2 = nAt s b 2 ↔ (s.drop a).take 2 = (s.drop b).take 2 := by
  constructor
  · intro h
    rw [← nAt_lit ha, ← nAt_lit hb, h]
  · intro h; unfold nAt; rw [h]
theorem Opened_l (s : List UInt8) (hs : s.length = 512) (w : World) :
    Calls Tryz.prog 90 #[.string (bs s)] w fun e w' => e = .returned (.tuple #[.string (if opB s then bs (opL s) else ⟨#[]⟩), .bool (opB s)]) ∧ Below w.heap.size w w' := by
  have hsz := bs_size s
  have hU : nAt s 40 2 = usnL s := rfl
  have hzl := zerosL_length 18
  refine st_enter (N := 42) Tryz.func90 rfl rfl rfl (fun a0 h0 => ?_)
  have S0 := St.init w
  refine st_seq ?_
  refine st_reg ?_
  refine sl_val h0 (wanted_none _ _ rfl) (ex_assign (h0.ev rfl)) rfl rfl fun a1 h1 => ?_
  refine sl_val h1 (wanted_none _ _ rfl) (ex_assign (h1.ev rfl)) rfl rfl fun a2 h2 => ?_
  refine st_nil ?_
  refine go_then ?_
  refine st_seq ?_
  refine st_reg ?_
  refine sl_val h2 (wanted_none _ _ rfl) (ex_move (h2.ev rfl)) rfl rfl fun a3 h3 => ?_
  refine sl_pure h3 (wanted_none _ _ rfl) (ex_call (fun _ _ => by kernel_rfl) (h3.evs rfl) rfl) rfl rfl (LittleAt_l s 40 2 (by omega) (by omega) (by decide) _) fun a4 h4 => ?_
  refine sl_val h4 (wanted_none _ _ rfl) (ex_assign (h4.ev rfl)) rfl rfl fun a5 h5 => ?_
  refine st_nil ?_
  refine go_then ?_
  refine st_seq ?_
  refine st_reg ?_
  refine sl_val h5 (wanted_none _ _ rfl) (ex_move (h5.ev rfl)) rfl rfl fun a6 h6 => ?_
  refine sl_bel h6 (wanted_none _ _ rfl) (ex_call (fun _ _ => by kernel_rfl) (h6.evs rfl) rfl) rfl rfl S0 (Zeros_any 18 _ (by decide)) fun a7 X7 h7 S7 => ?_
  refine sl_bel h7 (wanted_none _ _ rfl) (ex_call (fun _ _ => by kernel_rfl) (h7.evs rfl) rfl) rfl rfl S7 (Patch_l s (zerosL 18) 40 _ (by omega) (by omega)) fun a8 X8 h8 S8 => ?_
  refine sl_val h8 (wanted_none _ _ rfl) (ex_assign (h8.ev rfl)) rfl rfl fun a9 h9 => ?_
  refine st_nil ?_
  refine go_then ?_
  refine st_seq ?_
  refine st_seq ?_
  refine st_reg ?_
  refine sl_val h9 (wanted_none _ _ rfl) (ex_assign (h9.ev rfl)) rfl rfl fun a10 h10 => ?_
  refine st_nil ?_
  refine go_then ?_
  refine wp_block ?_
  refine st_loop h10 S8 [4, 0] (fun (k : Nat) => [(6, .int .i64 ((k : Int) + 1)), (5, .string (bs (roK s k)))]) (fun (k : Nat) => k ≤ 8 ∧ ∀ j, j < k → trnB s j = false) (fun (k : Nat) L => L) (fun (k : Nat) => 8 - k) (0) (⟨by omega, fun j hj => by omega⟩) ⟨rfl, rfl, rfl, rfl, trivial⟩ (S8) ?_
  intro k a11 X11 hF0 h11 S11
  refine st_seq ?_
  refine st_seq ?_
  refine st_reg ?_
  refine sl_val h11 (wanted_none _ _ rfl) (ex_move (h11.ev rfl)) rfl rfl fun a12 h12 => ?_
  refine sl_val h12 (wanted_none _ _ rfl) (ex_leq (h12.ev rfl) (h12.ev rfl)) rfl rfl fun a13 h13 => ?_
  refine st_nil ?_
  refine go_then ?_
  refine st_if (h13.ev rfl) (fun hc0 => ?_) (fun hc0 => ?_)
  · skip
    have hlt : k < 8 := by have := of_decide_eq_true hc0; omega
    have htl : tlA k = 64 * k + 62 := rfl
    obtain ⟨_, hrl⟩ := ro_eq hs k (by omega)
    have hp : ((s.drop (42 + 2 * k)).take 2).length = 2 := by rw [List.length_take, List.length_drop]; omega
    refine wp_skip ?_
    refine go_then ?_
    refine st_seq ?_
    refine wp_block ?_
    refine st_seq ?_
    refine st_reg ?_
    refine sl_val h13 (wanted_none _ _ rfl) (ex_move (h13.ev rfl)) rfl rfl fun a14 h14 => ?_
    refine sl_val h14 (wanted_none _ _ rfl) (ex_mul (h14.ev rfl) (h14.ev rfl) (by omega)) rfl rfl fun a15 h15 => ?_
    refine sl_val h15 (wanted_none _ _ rfl) (as_val (v' := .int .i64 ((tlA k : Nat) : Int)) (congrArg _ (by omega)) (ex_sub (h15.ev rfl) (h15.ev rfl) (by omega))) rfl rfl fun a16 h16 => ?_
    refine sl_val h16 (wanted_none _ _ rfl) (ex_assign (h16.ev rfl)) rfl rfl fun a17 h17 => ?_
    refine st_nil ?_
    refine go_then ?_
    refine st_seq ?_
    refine st_seq ?_
    refine st_reg ?_
    refine sl_val h17 (wanted_none _ _ rfl) (ex_move (h17.ev rfl)) rfl rfl fun a18 h18 => ?_
    refine sl_val h18 (wanted_none _ _ rfl) (ex_eql (h18.ev rfl) (h18.ev rfl)) rfl rfl fun a19 h19 => ?_
    refine sl_val h19 (wanted_none _ _ rfl) (ex_move (h19.ev rfl)) rfl rfl fun a20 h20 => ?_
    apply sl_or h20 S11 22 rfl 6 28
    case hf =>
      intro gc22
      refine sl_val h20 (wanted_yes h20 _ rfl rfl rfl gc22) (ex_move (h20.ev rfl)) rfl rfl fun a21 h21 => ?_
      refine sl_val h21 (wanted_yes h21 _ rfl rfl rfl gc22) (ex_move (h21.ev rfl)) rfl rfl fun a22 h22 => ?_
      refine sl_pure h22 (wanted_yes h22 _ rfl rfl rfl gc22) (ex_call (fun _ _ => by kernel_rfl) (h22.evs rfl) rfl) rfl rfl (LittleAt_l s (tlA k) 2 (by omega) (by omega) (by decide) _) fun a23 h23 => ?_
      refine sl_val h23 (wanted_yes h23 _ rfl rfl rfl gc22) (ex_move (h23.ev rfl)) rfl rfl fun a24 h24 => ?_
      refine sl_val h24 (wanted_yes h24 _ rfl rfl rfl gc22) (ex_neq (h24.ev rfl) (h24.ev rfl)) rfl rfl fun a25 h25 => ?_
      refine sl_val h25 (wanted_none _ _ rfl) (ex_pick_f (h25.ev rfl) gc22 (h25.ev rfl)) rfl rfl fun a26 h26 => ?_
      exact st_nil ⟨h26.mid (m := [(_, _), (_, _), (_, _), (_, _), (_, _)]) rfl, S11⟩
    case ht =>
      intro gc22
      refine sl_no h20 (wanted_no h20 _ rfl rfl rfl gc22) rfl rfl fun a27 h27 => ?_
      refine sl_no h27 (wanted_no h27 _ rfl rfl rfl gc22) rfl rfl fun a28 h28 => ?_
      refine sl_no h28 (wanted_no h28 _ rfl rfl rfl gc22) rfl rfl fun a29 h29 => ?_
      refine sl_no h29 (wanted_no h29 _ rfl rfl rfl gc22) rfl rfl fun a30 h30 => ?_
      refine sl_no h30 (wanted_no h30 _ rfl rfl rfl gc22) rfl rfl fun a31 h31 => ?_
      refine sl_val h31 (wanted_none _ _ rfl) (ex_pick_t (h31.ev rfl) gc22 (h31.ev rfl)) rfl rfl fun a32 h32 => ?_
      exact st_nil ⟨h32.mid (m := [(_, _), (_, _), (_, _), (_, _), (_, _)]) rfl, S11⟩
    case h =>
      rintro a33 X33 ⟨h33, S33⟩
      refine st_nil ?_
      refine go_then ?_
      refine st_if (h33.ev rfl) (fun hc1 => ?_) (fun hc1 => ?_)
      · skip
        have htr : trnB s k = true := by
          unfold trnB
          rw [Bool.or_eq_true] at hc1 ⊢
          rcases hc1 with h | h
          · exact .inl h
          · right
            rw [bne_iff_ne] at h ⊢
            intro h2
            exact h ((nAt_eq2 (by omega) (by omega)).2 h2)
        have hop : opB s = false := by
          unfold opB
          rw [← Bool.not_eq_true, List.all_eq_true]
          intro h
          have := h k (List.mem_range.2 hlt)
          rw [htr] at this; cases this
        refine st_seq ?_
        refine st_reg ?_
        refine sl_val h33 (wanted_none _ _ rfl) (ex_assign (h33.ev rfl)) rfl rfl fun a34 h34 => ?_
        refine sl_val h34 (wanted_none _ _ rfl) (ex_assign (h34.ev rfl)) rfl rfl fun a35 h35 => ?_
        refine st_nil ?_
        refine go_then ?_
        refine wp_ret ?_
        refine ret_then ?_
        refine ret_block ?_
        refine ret_then ?_
        refine ret_then ?_
        refine ret_block ?_
        refine ret_then ?_
        refine fin2 h35 rfl rfl rfl ?_
        exact ⟨by rw [hop]; rfl, S33.below⟩
      · skip
        have htr : trnB s k = false := by
          unfold trnB
          rw [Bool.or_eq_false_iff] at hc1 ⊢
          refine ⟨hc1.1, ?_⟩
          rw [bne_eq_false_iff_eq]
          have h2 := hc1.2
          rw [bne_eq_false_iff_eq] at h2
          exact (nAt_eq2 (by omega) (by omega)).1 h2
        refine wp_skip ?_
        refine go_then ?_
        refine st_reg ?_
        refine sl_val h33 (wanted_none _ _ rfl) (ex_move (h33.ev rfl)) rfl rfl fun a36 h36 => ?_
        refine sl_val h36 (wanted_none _ _ rfl) (ex_move (h36.ev rfl)) rfl rfl fun a37 h37 => ?_
        refine sl_val h37 (wanted_none _ _ rfl) (ex_move (h37.ev rfl)) rfl rfl fun a38 h38 => ?_
        refine sl_val h38 (wanted_none _ _ rfl) (ex_move (h38.ev rfl)) rfl rfl fun a39 h39 => ?_
        refine sl_val h39 (wanted_none _ _ rfl) (ex_mul (h39.ev rfl) (h39.ev rfl) (by omega)) rfl rfl fun a40 h40 => ?_
        refine sl_val h40 (wanted_none _ _ rfl) (as_val (v' := .int .i64 ((42 + 2 * k : Nat) : Int)) (congrArg _ (by push_cast; omega)) (ex_add (h40.ev rfl) (h40.ev rfl) (by omega))) rfl rfl fun a41 h41 => ?_
        refine sl_val h41 (wanted_none _ _ rfl) (ex_move (h41.ev rfl)) rfl rfl fun a42 h42 => ?_
        refine sl_val h42 (wanted_none _ _ rfl) (ex_mul (h42.ev rfl) (h42.ev rfl) (by omega)) rfl rfl fun a43 h43 => ?_
        refine sl_val h43 (wanted_none _ _ rfl) (ex_add (h43.ev rfl) (h43.ev rfl) (by omega)) rfl rfl fun a44 h44 => ?_
        refine sl_val h44 (wanted_none _ _ rfl) (as_val (v' := .int .i64 ((42 + 2 * k + 2 : Nat) : Int)) (congrArg _ (by push_cast; omega)) (ex_add (h44.ev rfl) (h44.ev rfl) (by omega))) rfl rfl fun a45 h45 => ?_
        refine sl_val h45 (wanted_none _ _ rfl) (as_val (v' := .string (bs ((s.drop (42 + 2 * k)).take 2))) (congrArg _ (by rw [bs_extract, Nat.add_sub_cancel_left])) (ex_sslice (l := (42 + 2 * k)) (h := (42 + 2 * k + 2)) Tryz.underlying9 (h45.ev rfl) (h45.ev rfl) (h45.ev rfl) (by omega) (by omega))) rfl rfl fun a46 h46 => ?_
        refine sl_bel h46 (wanted_none _ _ rfl) (ex_call (fun _ _ => by kernel_rfl) (h46.evs rfl) rfl) rfl rfl S33 (Patch_l _ _ (tlA k) _ (by omega) (by omega)) fun a47 X47 h47 S47 => ?_
        refine sl_val h47 (wanted_none _ _ rfl) (ex_assign (h47.ev rfl)) rfl rfl fun a48 h48 => ?_
        refine st_nil ?_
        refine go_block ?_
        refine go_then ?_
        refine st_reg ?_
        refine sl_val h48 (wanted_none _ _ rfl) (ex_move (h48.ev rfl)) rfl rfl fun a49 h49 => ?_
        refine sl_val h49 (wanted_none _ _ rfl) (as_val (v' := .int .i64 (((k + 1 : Nat) : Int) + 1)) (congrArg _ (by omega)) (ex_add (h49.ev rfl) (h49.ev rfl) (by omega))) rfl rfl fun a50 h50 => ?_
        refine sl_val h50 (wanted_none _ _ rfl) (ex_assign (h50.ev rfl)) rfl rfl fun a51 h51 => ?_
        refine st_nil ?_
        refine go_then ?_
        exact ⟨k + 1, (by omega), ⟨by omega, fun j hj => (by rcases Nat.lt_or_ge j k with h | h; exact hF0.2 j h; have e : j = k := (by omega); rw [e]; exact htr)⟩, h51.re ⟨rfl, rfl, rfl, rfl, trivial⟩, S47⟩
  · skip
    have hge : k = 8 := by have := of_decide_eq_false hc0; omega
    have hop : opB s = true := by
      unfold opB
      rw [List.all_eq_true]
      intro j hj
      rw [hF0.2 j (by have := List.mem_range.1 hj; omega)]; rfl
    refine wp_exit ?_
    refine go_exit_then ?_
    refine go_exit_then ?_
    refine go_exit ?_
    refine go_then ?_
    refine st_seq ?_
    refine st_reg ?_
    refine sl_val h13 (wanted_none _ _ rfl) (ex_move (h13.ev rfl)) rfl rfl fun a52 h52 => ?_
    refine sl_val h52 (wanted_none _ _ rfl) (ex_assign (h52.ev rfl)) rfl rfl fun a53 h53 => ?_
    refine sl_val h53 (wanted_none _ _ rfl) (ex_assign (h53.ev rfl)) rfl rfl fun a54 h54 => ?_
    refine st_nil ?_
    refine go_then ?_
    refine wp_ret ?_
    refine fin2 h54 rfl rfl rfl ?_
    exact ⟨by rw [hop, hge, ro_all hs]; rfl, S11.below⟩
end Go.Proofs.YtmlilplbdpjfcaaGreatDoor
