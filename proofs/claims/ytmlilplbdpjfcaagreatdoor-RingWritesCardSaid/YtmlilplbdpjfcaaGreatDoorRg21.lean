/-
  Chapter 20: the basic functions of the statements.
-/
import Derived.Test.YtmlilplbdpjfcaaGreatDoorRgB
import Derived.Test.YtmlilplbdpjfcaaGreatDoorNumS
namespace Go.Proofs.YtmlilplbdpjfcaaGreatDoor
set_option linter.unusedVariables false
set_option linter.unusedSimpArgs false
set_option maxRecDepth 4000
open Go.RowKit Go.Sort
section
variable {P : Program} {ρ : Operand → Value} {X : World} {d : Option Tmp} {ty : TypeId} {ps : String} {af : Array Edge} {g : Option (Nat × Bool)}
theorem ex_quot {x y : Operand} {t t' : TypeId} {m n : Int} (hx : ρ x = .int .i64 m) (hy : ρ y = .int .i64 n) (h : 0 < n ∧ -4611686018427387904 ≤ m ∧ m ≤ 4611686018427387904) : (execOp ρ ⟨d, .binOp .quo t x y t', ty, ps, af, g⟩).run P X = .ok (.value (.int .i64 (m.tdiv n))) X := by
  have h0 : n ≠ 0 := by omega
  have h1 : -4611686018427387904 ≤ m.tdiv n ∧ m.tdiv n ≤ 4611686018427387904 := by
    rcases Int.le_total 0 m with h2 | h2
    · rw [Int.tdiv_eq_ediv_of_nonneg h2]
      have h3 : 0 ≤ m / n := Int.ediv_nonneg h2 (by omega)
      have h4 : m / n ≤ m := Int.ediv_le_self n h2
      omega
    · have h5 : m.tdiv n = -((-m) / n) := by
        rw [← Int.tdiv_eq_ediv_of_nonneg (by omega), Int.neg_tdiv, Int.neg_neg]
      have h3 : 0 ≤ (-m) / n := Int.ediv_nonneg (by omega) (by omega)
      have h4 : (-m) / n ≤ -m := Int.ediv_le_self n (by omega)
      omega
  simp [execOp, hx, hy, eqGuard, binOp, Op.intDiv, h0, wrap_in (n := m.tdiv n) (by omega)]
theorem ex_neg {x : Operand} {t : TypeId} {m : Int} (hx : ρ x = .int .i64 m) (h : -9223372036854775807 ≤ m ∧ m < 9223372036854775808) : (execOp ρ ⟨d, .unOp .neg t x, ty, ps, af, g⟩).run P X = .ok (.value (.int .i64 (-m))) X := by
  simp [execOp, hx, Op.unary, Op.intArith, wrap_in (n := -m) (by omega)]
end
theorem floor_eq (n b : Int) (hb : 0 < b) : (if n.tmod b < 0 then n.tdiv b - 1 else n.tdiv b) = n / b := by
  rcases Int.le_total 0 n with h | h
  · rw [Int.tdiv_eq_ediv_of_nonneg h, Int.tmod_eq_emod_of_nonneg h, if_neg (by have := Int.emod_nonneg n (b := b) (by omega); omega)]
  · have h5 : n.tdiv b = -((-n) / b) := by rw [← Int.tdiv_eq_ediv_of_nonneg (by omega), Int.neg_tdiv, Int.neg_neg]
    have h6 : n.tmod b = -((-n) % b) := by rw [← Int.tmod_eq_emod_of_nonneg (by omega), Int.neg_tmod, Int.neg_neg]
    rw [h5, h6]
    have e1 := Int.mul_ediv_add_emod (-n) b
    have e2 := Int.emod_nonneg (-n) (b := b) (by omega)
    have e3 := Int.emod_lt_of_pos (-n) hb
    generalize hq : (-n) / b = q at e1 ⊢
    generalize hr : (-n) % b = r at e1 e2 e3 ⊢
    by_cases hz : r = 0
    · subst hz
      rw [if_neg (by omega)]
      have : n = (-q) * b := by rw [Int.neg_mul, Int.mul_comm]; omega
      rw [this, Int.mul_ediv_cancel _ (by omega)]
    · rw [if_pos (by omega)]
      have : n = (b - r) + b * (-q - 1) := by rw [Int.mul_sub, Int.mul_neg, Int.mul_one]; omega
      rw [this, Int.add_mul_ediv_left _ _ (by omega), Int.ediv_eq_zero_of_lt (by omega) (by omega)]
      omega
theorem Floor_any (n b : Int) (h : 0 < b ∧ -4611686018427387904 ≤ n ∧ n ≤ 4611686018427387904) (w : World) :
    Calls Tryz.prog 117 #[.int .i64 n, .int .i64 b] w fun e w' => e = .returned (.int .i64 (n / b)) ∧ w = w' := by
  have hfe := floor_eq n b h.1
  have hdb : -4611686018427387904 ≤ n.tdiv b ∧ n.tdiv b ≤ 4611686018427387904 := by
    rcases Int.le_total 0 n with h2 | h2
    · rw [Int.tdiv_eq_ediv_of_nonneg h2]
      have h3 : 0 ≤ n / b := Int.ediv_nonneg h2 (by omega)
      have h4 : n / b ≤ n := Int.ediv_le_self b h2
      omega
    · have h5 : n.tdiv b = -((-n) / b) := by rw [← Int.tdiv_eq_ediv_of_nonneg (by omega), Int.neg_tdiv, Int.neg_neg]
      have h3 : 0 ≤ (-n) / b := Int.ediv_nonneg (by omega) (by omega)
      have h4 : (-n) / b ≤ -n := Int.ediv_le_self b (by omega)
      omega
  refine st_enter (N := 16) Tryz.func117 rfl rfl rfl (fun a0 h0 => ?_)
  have S0 := St.init w
  refine st_seq (st_reg ?_)
  refine ma h0 rfl rfl fun a1 h1 => ?_
  refine st_nil (go_then (st_seq (st_reg ?_)))
  refine mv h1 rfl rfl fun a2 h2 => ?_
  refine mv h2 rfl rfl fun a3 h3 => ?_
  refine sl_val h3 (wn rfl) (ex_quot (h3.ev rfl) (h3.ev rfl) h) rfl rfl fun a4 h4 => ?_
  refine ma h4 rfl rfl fun a5 h5 => ?_
  refine st_nil (go_then (st_seq (st_seq (st_reg ?_))))
  refine mv h5 rfl rfl fun a6 h6 => ?_
  refine mv h6 rfl rfl fun a7 h7 => ?_
  refine sl_val h7 (wn rfl) (ex_remt (h7.ev rfl) (h7.ev rfl) (by omega)) rfl rfl fun a8 h8 => ?_
  refine sl_val h8 (wn rfl) (ex_lss (h8.ev rfl) (h8.ev rfl)) rfl rfl fun a9 h9 => ?_
  refine st_nil (go_then ?_)
  refine st_if (h9.ev rfl) (fun hc0 => ?_) (fun hc0 => ?_)
  · skip
    rw [if_pos (of_decide_eq_true hc0)] at hfe
    refine st_reg ?_
    refine mv h9 rfl rfl fun a10 h10 => ?_
    refine sl_val h10 (wn rfl) (ex_sub (h10.ev rfl) (h10.ev rfl) ⟨by omega, by omega⟩) rfl rfl fun a11 h11 => ?_
    refine ma h11 rfl rfl fun a12 h12 => ?_
    refine st_nil (go_then (st_seq (st_reg ?_)))
    refine mv h12 rfl rfl fun a13 h13 => ?_
    refine ma h13 rfl rfl fun a14 h14 => ?_
    refine st_nil (go_then (wp_ret ?_))
    refine fin1 h14 rfl rfl ?_
    exact ⟨by rw [hfe], rfl⟩
  · skip
    rw [if_neg (of_decide_eq_false hc0)] at hfe
    refine wp_skip (go_then (st_seq (st_reg ?_)))
    refine mv h9 rfl rfl fun a15 h15 => ?_
    refine ma h15 rfl rfl fun a16 h16 => ?_
    refine st_nil (go_then (wp_ret ?_))
    refine fin1 h16 rfl rfl ?_
    exact ⟨by rw [hfe], rfl⟩
theorem Ceil_any (n b : Int) (h : 0 < b ∧ -4611686018427387904 ≤ n ∧ n ≤ 4611686018427387904) (w : World) :
    Calls Tryz.prog 84 #[.int .i64 n, .int .i64 b] w fun e w' => e = .returned (.int .i64 (-((-n) / b))) ∧ w = w' := by
  have hdb : -4611686018427387904 ≤ (-n) / b ∧ (-n) / b ≤ 4611686018427387904 := by
    rcases Int.le_total 0 (-n) with h2 | h2
    · have h3 : 0 ≤ (-n) / b := Int.ediv_nonneg h2 (by omega)
      have h4 : (-n) / b ≤ -n := Int.ediv_le_self b h2
      omega
    · have h3 : (-n) / b < 1 := Int.ediv_lt_of_lt_mul h.1 (by omega)
      have h4 : -n ≤ (-n) / b := (Int.le_ediv_iff_mul_le h.1).2 (by
        have := Int.mul_le_mul_of_nonpos_left (a := -n) (b := b) (c := 1) h2 (by omega)
        omega)
      omega
  refine st_enter (N := 10) Tryz.func84 rfl rfl rfl (fun a0 h0 => ?_)
  have S0 := St.init w
  refine st_seq (st_reg ?_)
  refine ma h0 rfl rfl fun a1 h1 => ?_
  refine st_nil (go_then (st_seq (st_reg ?_)))
  refine mv h1 rfl rfl fun a2 h2 => ?_
  refine sl_val h2 (wn rfl) (ex_neg (h2.ev rfl) (by omega)) rfl rfl fun a3 h3 => ?_
  refine mv h3 rfl rfl fun a4 h4 => ?_
  refine sl_pure h4 (wn rfl) (ex_call (fun _ _ => by kernel_rfl) (h4.evs rfl) rfl) rfl rfl (Floor_any _ _ (by omega) _) fun a5 h5 => ?_
  refine sl_val h5 (wn rfl) (ex_neg (h5.ev rfl) (by omega)) rfl rfl fun a6 h6 => ?_
  refine ma h6 rfl rfl fun a7 h7 => ?_
  refine st_nil (go_then (wp_ret ?_))
  refine fin1 h7 rfl rfl ?_
  exact ⟨rfl, rfl⟩
theorem bs_app (a b : List UInt8) : bs a ++ bs b = bs (a ++ b) := bl_inj (by rw [bl_append, bl_bs, bl_bs, bl_bs])
theorem Patch_l (s b : List UInt8) (a : Nat) (w : World) (hs : s.length ≤ 1000000) (h1 : a + b.length ≤ s.length) :
    Calls Tryz.prog 49 #[.string (bs s), .int .i64 a, .string (bs b)] w fun e w' => e = .returned (.string (bs (patL s a b))) ∧ Below w.heap.size w w' := by
  have := Patch_any (bs s) (bs b) a w (by rw [bs_size]; exact hs) (by rw [bs_size, bs_size]; exact h1)
  rw [show patS (bs s) a (bs b) = bs (patL s a b) from bl_inj (by rw [bl_bs, bl_patL, bl_bs, bl_bs])] at this
  exact this
theorem Protected_l (b : List UInt8) (n : Int) (hb : b.length = 512) (hn : 0 ≤ n ∧ n < 65536) (w : World) :
    Calls Tryz.prog 93 #[.string (bs b), .int .i64 n] w fun e w' => e = .returned (.string (bs (prL b n))) ∧ Below w.heap.size w w' := by
  have hsp := fun k hk => rpK_spec n b hb k hk
  refine st_enter (N := 32) Tryz.func93 rfl rfl rfl (fun a0 h0 => ?_)
  have S0 := St.init w
  refine st_seq (st_reg ?_)
  refine ma h0 rfl rfl fun a1 h1 => ?_
  refine st_nil (go_then (st_seq (st_reg ?_)))
  refine mv h1 rfl rfl fun a2 h2 => ?_
  refine sl_bel h2 (wn rfl) (ex_call (fun _ _ => by kernel_rfl) (h2.evs rfl) rfl) rfl rfl S0 (Little_any n 2 (by omega) (by omega) (by decide) _) fun a3 X3 h3 S3 => ?_
  refine ma h3 rfl rfl fun a4 h4 => ?_
  refine st_nil (go_then (st_seq (st_seq (st_reg ?_))))
  refine ma h4 rfl rfl fun a5 h5 => ?_
  refine st_nil (go_then (wp_block ?_))
  refine st_loop h5 S3 [4, 1] (fun (k : Nat) => [(6, .int .i64 ((k : Int) + 1)), (5, .string (bs (rpK n b k).1)), (0, .string (bs (rpK n b k).2))]) (fun (k : Nat) => k ≤ 8) (fun (k : Nat) L => L) (fun (k : Nat) => 8 - k) (0) ((by omega)) ⟨rfl, rfl, rfl, rfl, rfl, trivial⟩ (S3) ?_
  intro k a6 X6 hF0 h6 S6
  refine st_seq (st_seq (st_reg ?_))
  refine mv h6 rfl rfl fun a7 h7 => ?_
  refine sl_val h7 (wn rfl) (ex_leq (h7.ev rfl) (h7.ev rfl)) rfl rfl fun a8 h8 => ?_
  refine st_nil (go_then ?_)
  refine st_if (h8.ev rfl) (fun hc0 => ?_) (fun hc0 => ?_)
  · skip
    have hlt : k < 8 := by have := of_decide_eq_true hc0; omega
    obtain ⟨hl1, hl2, _, _⟩ := hsp k (by omega)
    have hz1 := bs_size (rpK n b k).1
    have hz2 := bs_size (rpK n b k).2
    have hll := lit2_length n
    have htl : tlA k = 64 * k + 62 := rfl
    have hz3 := bs_size (((rpK n b k).2.drop (tlA k)).take 2)
    have hl3 : (((rpK n b k).2.drop (tlA k)).take 2).length = 2 := by rw [List.length_take, List.length_drop]; omega
    refine wp_skip (go_then (st_seq (wp_block (st_seq (st_reg ?_)))))
    refine mv h8 rfl rfl fun a9 h9 => ?_
    refine sl_val h9 (wn rfl) (ex_mul (h9.ev rfl) (h9.ev rfl) (by omega)) rfl rfl fun a10 h10 => ?_
    refine sl_val h10 (wn rfl) (as_val (v' := .int .i64 ((tlA k : Nat) : Int)) (congrArg _ (by unfold tlA; push_cast; omega)) (ex_sub (h10.ev rfl) (h10.ev rfl) (by omega))) rfl rfl fun a11 h11 => ?_
    refine ma h11 rfl rfl fun a12 h12 => ?_
    refine st_nil (go_then (st_seq (st_reg ?_)))
    refine mv h12 rfl rfl fun a13 h13 => ?_
    refine mv h13 rfl rfl fun a14 h14 => ?_
    refine mv h14 rfl rfl fun a15 h15 => ?_
    refine mv h15 rfl rfl fun a16 h16 => ?_
    refine sl_val h16 (wn rfl) (as_val (v' := .int .i64 ((tlA k + 2 : Nat) : Int)) (congrArg _ (by omega)) (ex_add (h16.ev rfl) (h16.ev rfl) (by omega))) rfl rfl fun a17 h17 => ?_
    refine sl_val h17 (wn rfl) (as_val (v' := .string (bs (((rpK n b k).2.drop (tlA k)).take 2))) (congrArg _ (by rw [bs_extract, Nat.add_sub_cancel_left])) (ex_sslice (l := (tlA k)) (h := (tlA k + 2)) Tryz.underlying9 (h17.ev rfl) (h17.ev rfl) (h17.ev rfl) (by omega) (by omega))) rfl rfl fun a18 h18 => ?_
    refine sl_val h18 (wn rfl) (as_val (v' := .string (bs (rpK n b (k + 1)).1)) (congrArg _ (by rw [bs_app]; rfl)) (ex_sadd (h18.ev rfl) (h18.ev rfl) (by omega))) rfl rfl fun a19 h19 => ?_
    refine ma h19 rfl rfl fun a20 h20 => ?_
    refine st_nil (go_then (st_reg ?_))
    refine mv h20 rfl rfl fun a21 h21 => ?_
    refine mv h21 rfl rfl fun a22 h22 => ?_
    refine mv h22 rfl rfl fun a23 h23 => ?_
    refine sl_bel h23 (wn rfl) (ex_call (fun _ _ => by kernel_rfl) (h23.evs rfl) rfl) rfl rfl S6 (Little_any n 2 (by omega) (by omega) (by decide) _) fun a24 X24 h24 S24 => ?_
    refine sl_bel h24 (wn rfl) (ex_call (fun _ _ => by kernel_rfl) (h24.evs rfl) rfl) rfl rfl S24 (Patch_l _ _ (tlA k) _ (by omega) (by omega)) fun a25 X25 h25 S25 => ?_
    refine ma h25 rfl rfl fun a26 h26 => ?_
    refine st_nil (go_block (go_then (st_reg ?_)))
    refine mv h26 rfl rfl fun a27 h27 => ?_
    refine sl_val h27 (wn rfl) (as_val (v' := .int .i64 (((k + 1 : Nat) : Int) + 1)) (congrArg _ (by omega)) (ex_add (h27.ev rfl) (h27.ev rfl) (by omega))) rfl rfl fun a28 h28 => ?_
    refine ma h28 rfl rfl fun a29 h29 => ?_
    refine st_nil (go_then ?_)
    exact ⟨k + 1, (by omega), (by omega), h29.re ⟨rfl, rfl, rfl, rfl, rfl, trivial⟩, S25⟩
  · skip
    have hge : k = 8 := by have := of_decide_eq_false hc0; omega
    obtain ⟨hl1, hl2, _, _⟩ := hsp k (by omega)
    refine wp_exit ?_
    refine go_exit_then ?_
    refine go_exit_then ?_
    refine go_exit ?_
    refine go_then (st_seq (st_reg ?_))
    refine mv h8 rfl rfl fun a30 h30 => ?_
    refine mv h30 rfl rfl fun a31 h31 => ?_
    refine sl_bel h31 (wn rfl) (ex_call (fun _ _ => by kernel_rfl) (h31.evs rfl) rfl) rfl rfl S6 (Patch_l _ _ 40 _ (by omega) (by omega)) fun a32 X32 h32 S32 => ?_
    refine ma h32 rfl rfl fun a33 h33 => ?_
    refine st_nil (go_then (wp_ret ?_))
    refine fin1 h33 rfl rfl ?_
    exact ⟨by rw [hge, rp_eq n b hb], S32.below⟩
theorem wrsV_get (l : List (Int × List UInt8)) (k : Nat) (hk : k < l.length) : ((wrsV l).drop (k * 2)).take 2 = wrV l[k] := by
  induction l generalizing k with
  | nil => simp at hk
  | cons x l ih =>
   cases k with
   | zero => rfl
   | succ k =>
    have : (wrsV (x :: l)).drop ((k + 1) * 2) = (wrsV l).drop (k * 2) := by
      show (wrV x ++ wrsV l).drop ((k + 1) * 2) = _
      rw [List.drop_append]
      simp [wrV, show (k + 1) * 2 - 2 = k * 2 by omega]; omega
    rw [this]
    exact ih k (by simpa using hk)
end Go.Proofs.YtmlilplbdpjfcaaGreatDoor
