/-
  Chapter 20: the basic functions of the statements.
-/
import Derived.Test.YtmlilplbdpjfcaaGreatDoorRgB
import Derived.Test.YtmlilplbdpjfcaaGreatDoorNumS
namespace Go.Proofs.YtmlilplbdpjfcaaGreatDoor
set_option linter.unusedVariables false
set_option linter.unusedSimpArgs false
set_option maxRecDepth 4000
open Go.RowKit Go.Sort
section
variable {P : Program} {ρ : Operand → Value} {X : World} {d : Option Tmp} {ty : TypeId} {ps : String} {af : Array Edge} {g : Option (Nat × Bool)}
theorem ex_quot {x y : Operand} {t t' : TypeId} {m n : Int} (hx : ρ x = .int .i64 m) (hy : ρ y = .int .i64 n) (h : 0 < n ∧ -4611686018427387904 ≤ m ∧ m ≤ 4611686018427387904) : (execOp ρ ⟨d, .binOp .quo t x y t', ty, ps, af, g⟩).run P X = .ok (.value (.int .i64 (m.tdiv n))) X := by
  have h0 : n ≠ 0 := by omega
  have h1 : -4611686018427387904 ≤ m.tdiv n ∧ m.tdiv n ≤ 4611686018427387904 := by
    rcases Int.le_total 0 m with h2 | h2
    · rw [Int.tdiv_eq_ediv_of_nonneg h2]
      have h3 : 0 ≤ m / n := Int.ediv_nonneg h2 (by omega)
      have h4 : m / n ≤ m := Int.ediv_le_self n h2
      omega
    · have h5 : m.tdiv n = -((-m) / n) := by
        rw [← Int.tdiv_eq_ediv_of_nonneg (by omega), Int.neg_tdiv, Int.neg_neg]
      have h3 : 0 ≤ (-m) / n := Int.ediv_nonneg (by omega) (by omega)
      have h4 : (-m) / n ≤ -m := Int.ediv_le_self n (by omega)
      omega
  simp [execOp, hx, hy, eqGuard, binOp, Op.intDiv, h0, wrap_in (n := m.tdiv n) (by omega)]
theorem ex_neg {x : Operand} {t : TypeId} {m : Int} (hx : ρ x = .int .i64 m) (h : -9223372036854775807 ≤ m ∧ m < 9223372036854775808) : (execOp ρ ⟨d, .unOp .neg t x, ty, ps, af, g⟩).run P X = .ok (.value (.int .i64 (-m))) X := by
  simp [execOp, hx, Op.unary, Op.intArith, wrap_in (n := -m) (by omega)]
end
theorem floor_eq (n b : Int) (hb : 0 < b) : (if n.tmod b < 0 then n.tdiv b - 1 else n.tdiv b) = n / b := by
  rcases Int.le_total 0 n with h | h
  · rw [Int.tdiv_eq_ediv_of_nonneg h, Int.tmod_eq_emod_of_nonneg h, if_neg (by have := Int.emod_nonneg n (b := b) (by omega); omega)]
  · have h5 : n.tdiv b = -((-n) / b) := by rw [← Int.tdiv_eq_ediv_of_nonneg (by omega), Int.neg_tdiv, Int.neg_neg]
    have h6 : n.tmod b = -((-n) % b) := by rw [← Int.tmod_eq_emod_of_nonneg (by omega), Int.neg_tmod, Int.neg_neg]
    rw [h5, h6]
    have e1 := Int.mul_ediv_add_emod (-n) b
    have e2 := Int.emod_nonneg (-n) (b := b) (by omega)
    have e3 := Int.emod_lt_of_pos (-n) hb
    generalize hq : (-n) / b = q at e1 ⊢
    generalize hr : (-n) % b = r at e1 e2 e3 ⊢
    by_cases hz : r = 0
    · subst hz
      rw [if_neg (by omega)]
      have : n = (-q) * b := by rw [Int.neg_mul, Int.mul_comm]; omega
      rw [this, Int.mul_ediv_cancel _ (by omega)]
    · rw [if_pos (by omega)]
      have : n = (b - r) + b * (-q - 1) := by rw [Int.mul_sub, Int.mul_neg, Int.mul_one]; omega
      rw [this, Int.add_mul_ediv_left _ _ (by omega), Int.ediv_eq_zero_of_lt (by omega) (by omega)]
      omega
theorem Floor_any (n b : Int) (h : 0 < b ∧ -4611686018427387904 ≤ n ∧ n ≤ 4611686018427387904) (w : World) :
    Calls Tryz.prog 117 #[.int .i64 n, .int .i64 b] w fun e w' => e = .returned (.int .i64 (n / b)) ∧ w = w' := by
  have hfe := floor_eq n b h.1
  have hdb : -4611686018427387904 ≤ n.tdiv b ∧ n.tdiv b ≤ 4611686018427387904 := by
    rcases Int.le_total 0 n with h2 | h2
    · rw [Int.tdiv_eq_ediv_of_nonneg h2]
      have h3 : 0 ≤ n / b := Int.ediv_nonneg h2 (by omega)
      have h4 : n / b ≤ n := Int.ediv_le_self b h2
      omega
    · have h5 : n.tdiv b = -((-n) / b) := by rw [← Int.tdiv_eq_ediv_of_nonneg (by omega), Int.neg_tdiv, Int.neg_neg]
      have h3 : 0 ≤ (-n) / b := Int.ediv_nonneg (by omega) (by omega)
      have h4 : (-n) / b ≤ -n := Int.ediv_le_self b (by omega)
      omega
  refine st_enter (N := 16) Tryz.func117 rfl rfl rfl (fun a0 h0 => ?_)
  have S0 := St.init w
  refine st_seq (st_reg ?_)
  refine ma h0 rfl rfl fun a1 h1 => ?_
  refine st_nil (go_then (st_seq (st_reg ?_)))
  refine mv h1 rfl rfl fun a2 h2 => ?_
  refine mv h2 rfl rfl fun a3 h3 => ?_
  refine sl_val h3 (wn rfl) (ex_quot (h3.ev rfl) (h3.ev rfl) h) rfl rfl fun a4 h4 => ?_
  refine ma h4 rfl rfl fun a5 h5 => ?_
  refine st_nil (go_then (st_seq (st_seq (st_reg ?_))))
  refine mv h5 rfl rfl fun a6 h6 => ?_
  refine mv h6 rfl rfl fun a7 h7 => ?_
  refine sl_val h7 (wn rfl) (ex_remt (h7.ev rfl) (h7.ev rfl) (by omega)) rfl rfl fun a8 h8 => ?_
  refine sl_val h8 (wn rfl) (ex_lss (h8.ev rfl) (h8.ev rfl)) rfl rfl fun a9 h9 => ?_
  refine st_nil (go_then ?_)
  refine st_if (h9.ev rfl) (fun hc0 => ?_) (fun hc0 => ?_)
  · skip
    rw [if_pos (of_decide_eq_true hc0)] at hfe
    refine st_reg ?_
    refine mv h9 rfl rfl fun a10 h10 => ?_
    refine sl_val h10 (wn rfl) (ex_sub (h10.ev rfl) (h10.ev rfl) ⟨by omega, by omega⟩) rfl rfl fun a11 h11 => ?_
    refine ma h11 rfl rfl fun a12 h12 => ?_
    refine st_nil (go_then (st_seq (st_reg ?_)))
    refine mv h12 rfl rfl fun a13 h13 => ?_
    refine ma h13 rfl rfl fun a14 h14 => ?_
    refine st_nil (go_then (wp_ret ?_))
    refine fin1 h14 rfl rfl ?_
    exact ⟨by rw [hfe], rfl⟩
  · skip
    rw [if_neg (of_decide_eq_false hc0)] at hfe
    refine wp_skip (go_then (st_seq (st_reg ?_)))
    refine mv h9 rfl rfl fun a15 h15 => ?_
    refine ma h15 rfl rfl fun a16 h16 => ?_
    refine st_nil (go_then (wp_ret ?_))
    refine fin1 h16 rfl rfl ?_
    exact ⟨by rw [hfe], rfl⟩
theorem Ceil_any (n b : Int) (h : 0 < b ∧ -4611686018427387904 ≤ n ∧ n ≤ 4611686018427387904) (w : World) :
    Calls Tryz.prog 84 #[.int .i64 n, .int .i64 b] w fun e w' => e = .returned (.int .i64 (-((-n) / b))) ∧ w = w' := by
  have hdb : -4611686018427387904 ≤ (-n) / b ∧ (-n) / b ≤ 4611686018427387904 := by
    rcases Int.le_total 0 (-n) with h2 | h2
    · have h3 : 0 ≤ (-n) / b := Int.ediv_nonneg h2 (by omega)
      have h4 : (-n) / b ≤ -n := Int.ediv_le_self b h2
      omega
    · have h3 : (-n) / b < 1 := Int.ediv_lt_of_lt_mul h.1 (by omega)
      have h4 : -n ≤ (-n) / b := (Int.le_ediv_iff_mul_le h.1).2 (by
        have := Int.mul_le_mul_of_nonpos_left (a := -n) (b := b) (c := 1) h2 (by omega)
        omega)
      omega
  refine st_enter (N := 10) Tryz.func84 rfl rfl rfl (fun a0 h0 => ?_)
  have S0 := St.init w
  refine st_seq (st_reg ?_)
  refine ma h0 rfl rfl fun a1 h1 => ?_
  refine st_nil (go_then (st_seq (st_reg ?_)))
  refine mv h1 rfl rfl fun a2 h2 => ?_
  refine sl_val h2 (wn rfl) (ex_neg (h2.ev rfl) (by omega)) rfl rfl fun a3 h3 => ?_
  refine mv h3 rfl rfl fun a4 h4 => ?_
  refine sl_pure h4 (wn rfl) (ex_call (fun _ _ => by kernel_rfl) (h4.evs rfl) rfl) rfl rfl (Floor_any _ _ (by omega) _) fun a5 h5 => ?_
  refine sl_val h5 (wn rfl) (ex_neg (h5.ev rfl) (by omega)) rfl rfl fun a6 h6 => ?_
  refine ma h6 rfl rfl fun a7 h7 => ?_
  refine st_nil (go_then (wp_ret ?_))
  refine fin1 h7 rfl rfl ?_
  exact ⟨rfl, rfl⟩
theorem IsZeros_l (s : List UInt8) (w : World) (hl : s.length ≤ 1000000) :
    Calls Tryz.prog 115 #[.string (bs s)] w fun e w' => e = .returned (.bool (zeroL s)) ∧ Below w.heap.size w w' := by
  have hsz : (bs s).size = s.length := bs_size s
  refine st_enter (N := 14) Tryz.func115 rfl rfl rfl (fun a0 h0 => ?_)
  have S0 := St.init w
  refine st_seq (st_reg ?_)
  refine ma h0 rfl rfl fun a1 h1 => ?_
  refine st_nil (go_then (st_seq (st_seq (st_reg ?_))))
  refine ma h1 rfl rfl fun a2 h2 => ?_
  refine st_nil (go_then (wp_block ?_))
  refine st_loop h2 S0 [0] (fun (k : Nat) => [(3, .int .i64 (k : Int))]) (fun (k : Nat) => k ≤ s.length ∧ zeroL (s.take k) = true) (fun (k : Nat) L => L) (fun (k : Nat) => s.length - k) (0) (⟨Nat.zero_le _, rfl⟩) ⟨rfl, rfl, trivial⟩ (S0) ?_
  intro k a3 X3 hF0 h3 S3
  refine st_seq (st_seq (st_reg ?_))
  refine mv h3 rfl rfl fun a4 h4 => ?_
  refine mv h4 rfl rfl fun a5 h5 => ?_
  refine sl_val h5 (wn rfl) (ex_slen Tryz.underlying9 (h5.ev rfl)) rfl rfl fun a6 h6 => ?_
  refine sl_val h6 (wn rfl) (ex_lss (h6.ev rfl) (h6.ev rfl)) rfl rfl fun a7 h7 => ?_
  refine st_nil (go_then ?_)
  refine st_if (h7.ev rfl) (fun hc0 => ?_) (fun hc0 => ?_)
  · skip
    have hlt : k < s.length := by have := of_decide_eq_true hc0; omega
    obtain ⟨hF1, hF2⟩ := hF0
    refine wp_skip (go_then (st_seq (wp_block (st_seq (st_reg ?_)))))
    refine mv h7 rfl rfl fun a8 h8 => ?_
    refine mv h8 rfl rfl fun a9 h9 => ?_
    refine sl_val h9 (wn rfl) (ex_sindex (i := k) Tryz.underlying9 (h9.ev rfl) (h9.ev rfl) rfl (by omega)) rfl rfl fun a10 h10 => ?_
    rw [bl_bs] at h10
    refine sl_val h10 (wn rfl) (ex_neq (h10.ev rfl) (h10.ev rfl)) rfl rfl fun a11 h11 => ?_
    refine st_nil (go_then ?_)
    refine st_if (h11.ev rfl) (fun hc1 => ?_) (fun hc1 => ?_)
    · skip
      have hne : s.getD k 0 ≠ 0 := by
        intro h
        rw [h] at hc1
        exact absurd hc1 (by decide)
      have hz : zeroL s = false := by
        rw [← Bool.not_eq_true]
        intro h
        have := List.all_eq_true.1 h (s.getD k 0) (by rw [List.getD_eq_getElem?_getD, List.getElem?_eq_getElem hlt]; exact List.getElem_mem hlt)
        exact hne (by simpa using this)
      refine st_seq (st_reg ?_)
      refine ma h11 rfl rfl fun a12 h12 => ?_
      refine st_nil (go_then (wp_ret (ret_block (ret_then (ret_then (ret_block (ret_then ?_)))))))
      refine fin1 h12 rfl rfl ?_
      exact ⟨by rw [hz], S3.below⟩
    · skip
      have hb0 : s[k] = 0 := by
        have : ((s.getD k 0).toNat : Int) = 0 := by simpa using hc1
        rw [List.getD_eq_getElem?_getD, List.getElem?_eq_getElem hlt] at this
        have h2 : s[k].toNat = 0 := by simpa using this
        exact UInt8.toNat_inj.1 (by simpa using h2)
      refine wp_skip (go_block (go_then (st_reg ?_)))
      refine mv h11 rfl rfl fun a13 h13 => ?_
      refine sl_val h13 (wn rfl) (ex_add (h13.ev rfl) (h13.ev rfl) (by omega)) rfl rfl fun a14 h14 => ?_
      refine ma h14 rfl rfl fun a15 h15 => ?_
      refine st_nil (go_then ?_)
      exact ⟨k + 1, (by omega), ⟨hlt, by rw [List.take_add_one, List.getElem?_eq_getElem hlt]; unfold zeroL at hF2 ⊢; rw [List.all_append, hF2]; simp [hb0]⟩, h15.re ⟨rfl, rfl, trivial⟩, S3⟩
  · skip
    have hge : k = s.length := by have := of_decide_eq_false hc0; omega
    have hall : zeroL s = true := by have := hF0.2; rwa [hge, List.take_length] at this
    refine wp_exit ?_
    refine go_exit_then ?_
    refine go_exit_then ?_
    refine go_exit ?_
    refine go_then (st_seq (st_reg ?_))
    refine ma h7 rfl rfl fun a16 h16 => ?_
    refine st_nil (go_then (wp_ret ?_))
    refine fin1 h16 rfl rfl ?_
    exact ⟨by rw [hall], S3.below⟩
theorem bs_app (a b : List UInt8) : bs a ++ bs b = bs (a ++ b) := bl_inj (by rw [bl_append, bl_bs, bl_bs, bl_bs])
theorem Patch_l (s b : List UInt8) (a : Nat) (w : World) (hs : s.length ≤ 1000000) (h1 : a + b.length ≤ s.length) :
    Calls Tryz.prog 49 #[.string (bs s), .int .i64 a, .string (bs b)] w fun e w' => e = .returned (.string (bs (patL s a b))) ∧ Below w.heap.size w w' := by
  have := Patch_any (bs s) (bs b) a w (by rw [bs_size]; exact hs) (by rw [bs_size, bs_size]; exact h1)
  rw [show patS (bs s) a (bs b) = bs (patL s a b) from bl_inj (by rw [bl_bs, bl_patL, bl_bs, bl_bs])] at this
  exact this
theorem LittleAt_l (s : List UInt8) (a c : Nat) (h1 : a + c ≤ s.length) (hs : s.length ≤ 1000000) (hc : c ≤ 6) (w : World) :
    Calls Tryz.prog 91 #[.string (bs s), .int .i64 a, .int .i64 c] w fun e w' => e = .returned (.int .i64 (nAt s a c)) ∧ w = w' := by
  have := LittleAt_any (bs s) a c (by rw [bs_size]; exact h1) (by rw [bs_size]; unfold maxLen; omega) hc w
  rw [bl_bs] at this; exact this
theorem Protected_l (b : List UInt8) (n : Int) (hb : b.length = 512) (hn : 0 ≤ n ∧ n < 65536) (w : World) :
    Calls Tryz.prog 93 #[.string (bs b), .int .i64 n] w fun e w' => e = .returned (.string (bs (prL b n))) ∧ Below w.heap.size w w' := by
  have hsp := fun k hk => rpK_spec n b hb k hk
  refine st_enter (N := 32) Tryz.func93 rfl rfl rfl (fun a0 h0 => ?_)
  have S0 := St.init w
  refine st_seq (st_reg ?_)
  refine ma h0 rfl rfl fun a1 h1 => ?_
  refine st_nil (go_then (st_seq (st_reg ?_)))
  refine mv h1 rfl rfl fun a2 h2 => ?_
  refine sl_bel h2 (wn rfl) (ex_call (fun _ _ => by kernel_rfl) (h2.evs rfl) rfl) rfl rfl S0 (Little_any n 2 (by omega) (by omega) (by decide) _) fun a3 X3 h3 S3 => ?_
  refine ma h3 rfl rfl fun a4 h4 => ?_
  refine st_nil (go_then (st_seq (st_seq (st_reg ?_))))
  refine ma h4 rfl rfl fun a5 h5 => ?_
  refine st_nil (go_then (wp_block ?_))
  refine st_loop h5 S3 [4, 1] (fun (k : Nat) => [(6, .int .i64 ((k : Int) + 1)), (5, .string (bs (rpK n b k).1)), (0, .string (bs (rpK n b k).2))]) (fun (k : Nat) => k ≤ 8) (fun (k : Nat) L => L) (fun (k : Nat) => 8 - k) (0) ((by omega)) ⟨rfl, rfl, rfl, rfl, rfl, trivial⟩ (S3) ?_
  intro k a6 X6 hF0 h6 S6
  refine st_seq (st_seq (st_reg ?_))
  refine mv h6 rfl rfl fun a7 h7 => ?_
  refine sl_val h7 (wn rfl) (ex_leq (h7.ev rfl) (h7.ev rfl)) rfl rfl fun a8 h8 => ?_
  refine st_nil (go_then ?_)
  refine st_if (h8.ev rfl) (fun hc0 => ?_) (fun hc0 => ?_)
  · skip
    have hlt : k < 8 := by have := of_decide_eq_true hc0; omega
    obtain ⟨hl1, hl2, _, _⟩ := hsp k (by omega)
    have hz1 := bs_size (rpK n b k).1
    have hz2 := bs_size (rpK n b k).2
    have hll := lit2_length n
    have htl : tlA k = 64 * k + 62 := rfl
    have hz3 := bs_size (((rpK n b k).2.drop (tlA k)).take 2)
    have hl3 : (((rpK n b k).2.drop (tlA k)).take 2).length = 2 := by rw [List.length_take, List.length_drop]; omega
    refine wp_skip (go_then (st_seq (wp_block (st_seq (st_reg ?_)))))
    refine mv h8 rfl rfl fun a9 h9 => ?_
    refine sl_val h9 (wn rfl) (ex_mul (h9.ev rfl) (h9.ev rfl) (by omega)) rfl rfl fun a10 h10 => ?_
    refine sl_val h10 (wn rfl) (as_val (v' := .int .i64 ((tlA k : Nat) : Int)) (congrArg _ (by unfold tlA; push_cast; omega)) (ex_sub (h10.ev rfl) (h10.ev rfl) (by omega))) rfl rfl fun a11 h11 => ?_
    refine ma h11 rfl rfl fun a12 h12 => ?_
    refine st_nil (go_then (st_seq (st_reg ?_)))
    refine mv h12 rfl rfl fun a13 h13 => ?_
    refine mv h13 rfl rfl fun a14 h14 => ?_
    refine mv h14 rfl rfl fun a15 h15 => ?_
    refine mv h15 rfl rfl fun a16 h16 => ?_
    refine sl_val h16 (wn rfl) (as_val (v' := .int .i64 ((tlA k + 2 : Nat) : Int)) (congrArg _ (by omega)) (ex_add (h16.ev rfl) (h16.ev rfl) (by omega))) rfl rfl fun a17 h17 => ?_
    refine sl_val h17 (wn rfl) (as_val (v' := .string (bs (((rpK n b k).2.drop (tlA k)).take 2))) (congrArg _ (by rw [bs_extract, Nat.add_sub_cancel_left])) (ex_sslice (l := (tlA k)) (h := (tlA k + 2)) Tryz.underlying9 (h17.ev rfl) (h17.ev rfl) (h17.ev rfl) (by omega) (by omega))) rfl rfl fun a18 h18 => ?_
    refine sl_val h18 (wn rfl) (as_val (v' := .string (bs (rpK n b (k + 1)).1)) (congrArg _ (by rw [bs_app]; rfl)) (ex_sadd (h18.ev rfl) (h18.ev rfl) (by omega))) rfl rfl fun a19 h19 => ?_
    refine ma h19 rfl rfl fun a20 h20 => ?_
    refine st_nil (go_then (st_reg ?_))
    refine mv h20 rfl rfl fun a21 h21 => ?_
    refine mv h21 rfl rfl fun a22 h22 => ?_
    refine mv h22 rfl rfl fun a23 h23 => ?_
    refine sl_bel h23 (wn rfl) (ex_call (fun _ _ => by kernel_rfl) (h23.evs rfl) rfl) rfl rfl S6 (Little_any n 2 (by omega) (by omega) (by decide) _) fun a24 X24 h24 S24 => ?_
    refine sl_bel h24 (wn rfl) (ex_call (fun _ _ => by kernel_rfl) (h24.evs rfl) rfl) rfl rfl S24 (Patch_l _ _ (tlA k) _ (by omega) (by omega)) fun a25 X25 h25 S25 => ?_
    refine ma h25 rfl rfl fun a26 h26 => ?_
    refine st_nil (go_block (go_then (st_reg ?_)))
    refine mv h26 rfl rfl fun a27 h27 => ?_
    refine sl_val h27 (wn rfl) (as_val (v' := .int .i64 (((k + 1 : Nat) : Int) + 1)) (congrArg _ (by omega)) (ex_add (h27.ev rfl) (h27.ev rfl) (by omega))) rfl rfl fun a28 h28 => ?_
    refine ma h28 rfl rfl fun a29 h29 => ?_
    refine st_nil (go_then ?_)
    exact ⟨k + 1, (by omega), (by omega), h29.re ⟨rfl, rfl, rfl, rfl, rfl, trivial⟩, S25⟩
  · skip
    have hge : k = 8 := by have := of_decide_eq_false hc0; omega
    obtain ⟨hl1, hl2, _, _⟩ := hsp k (by omega)
    refine wp_exit ?_
    refine go_exit_then ?_
    refine go_exit_then ?_
    refine go_exit ?_
    refine go_then (st_seq (st_reg ?_))
    refine mv h8 rfl rfl fun a30 h30 => ?_
    refine mv h30 rfl rfl fun a31 h31 => ?_
    refine sl_bel h31 (wn rfl) (ex_call (fun _ _ => by kernel_rfl) (h31.evs rfl) rfl) rfl rfl S6 (Patch_l _ _ 40 _ (by omega) (by omega)) fun a32 X32 h32 S32 => ?_
    refine ma h32 rfl rfl fun a33 h33 => ?_
    refine st_nil (go_then (wp_ret ?_))
    refine fin1 h33 rfl rfl ?_
    exact ⟨by rw [hge, rp_eq n b hb], S32.below⟩
def roK (s : List UInt8) : Nat → List UInt8
  | 0 => patL s 40 (zerosL 18)
  | k + 1 => patL (roK s k) (tlA k) ((s.drop (42 + 2 * k)).take 2)
theorem patL_comm {l a b : List UInt8} {i j : Nat} (hi : i + a.length ≤ l.length) (hj : j + b.length ≤ l.length) (hd : i + a.length ≤ j ∨ j + b.length ≤ i) : patL (patL l i a) j b = patL (patL l j b) i a := by
  have l1 := patL_length hi
  have l2 := patL_length hj
  refine list_ext_getD (by rw [patL_length (l := patL l i a) (by omega), patL_length (l := patL l j b) (by omega), l1, l2]) fun k hk => ?_
  rw [patL_getD (l := patL l i a) (by omega), patL_getD hi, patL_getD (l := patL l j b) (by omega), patL_getD hj]
  by_cases h1 : j ≤ k ∧ k < j + b.length
  · by_cases h2 : i ≤ k ∧ k < i + a.length
    · omega
    · rw [if_pos h1, if_neg h2, if_pos h1]
  · by_cases h2 : i ≤ k ∧ k < i + a.length
    · rw [if_neg h1, if_pos h2, if_pos h2]
    · rw [if_neg h1, if_neg h2, if_neg h2, if_neg h1]
theorem ro_eq {s : List UInt8} (hs : s.length = 512) : ∀ k, k ≤ 8 → roK s k = patL (opK s k) 40 (zerosL 18) ∧ (roK s k).length = 512
  | 0, _ => ⟨rfl, by show (patL s 40 (zerosL 18)).length = 512; rw [patL_length (by rw [zerosL_length]; omega), hs]⟩
  | k + 1, hk => by
    obtain ⟨h1, h2⟩ := ro_eq hs k (by omega)
    have hl := (opK_spec s hs k (by omega)).1
    have hp : ((s.drop (42 + 2 * k)).take 2).length = 2 := by rw [List.length_take, List.length_drop]; omega
    have ht : tlA k = 64 * k + 62 := rfl
    refine ⟨?_, ?_⟩
    · show patL (roK s k) (tlA k) _ = patL (patL (opK s k) (tlA k) _) 40 _
      rw [h1, patL_comm (by rw [zerosL_length]; omega) (by omega) (by rw [zerosL_length]; omega)]
    · show (patL (roK s k) (tlA k) _).length = 512
      rw [patL_length (by omega), h2]
theorem ro_all {s : List UInt8} (hs : s.length = 512) : roK s 8 = opL s := (ro_eq hs 8 (by omega)).1
theorem nAt_eq2 {s : List UInt8} {a b : Nat} (ha : a + 2 ≤ s.length) (hb : b + 2 ≤ s.length) : nAt s a 2 = nAt s b 2 ↔ (s.drop a).take 2 = (s.drop b).take 2 := by
  constructor
  · intro h
    rw [← nAt_lit ha, ← nAt_lit hb, h]
  · intro h; unfold nAt; rw [h]
theorem Opened_l (s : List UInt8) (hs : s.length = 512) (w : World) :
    Calls Tryz.prog 90 #[.string (bs s)] w fun e w' => e = .returned (.tuple #[.string (if opB s then bs (opL s) else ⟨#[]⟩), .bool (opB s)]) ∧ Below w.heap.size w w' := by
  have hsz := bs_size s
  have hU : nAt s 40 2 = usnL s := rfl
  have hzl := zerosL_length 18
  refine st_enter (N := 42) Tryz.func90 rfl rfl rfl (fun a0 h0 => ?_)
  have S0 := St.init w
  refine st_seq (st_reg ?_)
  refine ma h0 rfl rfl fun a1 h1 => ?_
  refine ma h1 rfl rfl fun a2 h2 => ?_
  refine st_nil (go_then (st_seq (st_reg ?_)))
  refine mv h2 rfl rfl fun a3 h3 => ?_
  refine sl_pure h3 (wn rfl) (ex_call (fun _ _ => by kernel_rfl) (h3.evs rfl) rfl) rfl rfl (LittleAt_l s 40 2 (by omega) (by omega) (by decide) _) fun a4 h4 => ?_
  refine ma h4 rfl rfl fun a5 h5 => ?_
  refine st_nil (go_then (st_seq (st_reg ?_)))
  refine mv h5 rfl rfl fun a6 h6 => ?_
  refine sl_bel h6 (wn rfl) (ex_call (fun _ _ => by kernel_rfl) (h6.evs rfl) rfl) rfl rfl S0 (Zeros_any 18 _ (by decide)) fun a7 X7 h7 S7 => ?_
  refine sl_bel h7 (wn rfl) (ex_call (fun _ _ => by kernel_rfl) (h7.evs rfl) rfl) rfl rfl S7 (Patch_l s (zerosL 18) 40 _ (by omega) (by omega)) fun a8 X8 h8 S8 => ?_
  refine ma h8 rfl rfl fun a9 h9 => ?_
  refine st_nil (go_then (st_seq (st_seq (st_reg ?_))))
  refine ma h9 rfl rfl fun a10 h10 => ?_
  refine st_nil (go_then (wp_block ?_))
  refine st_loop h10 S8 [4, 0] (fun (k : Nat) => [(6, .int .i64 ((k : Int) + 1)), (5, .string (bs (roK s k)))]) (fun (k : Nat) => k ≤ 8 ∧ ∀ j, j < k → trnB s j = false) (fun (k : Nat) L => L) (fun (k : Nat) => 8 - k) (0) (⟨by omega, fun j hj => by omega⟩) ⟨rfl, rfl, rfl, rfl, trivial⟩ (S8) ?_
  intro k a11 X11 hF0 h11 S11
  refine st_seq (st_seq (st_reg ?_))
  refine mv h11 rfl rfl fun a12 h12 => ?_
  refine sl_val h12 (wn rfl) (ex_leq (h12.ev rfl) (h12.ev rfl)) rfl rfl fun a13 h13 => ?_
  refine st_nil (go_then ?_)
  refine st_if (h13.ev rfl) (fun hc0 => ?_) (fun hc0 => ?_)
  · skip
    have hlt : k < 8 := by have := of_decide_eq_true hc0; omega
    have htl : tlA k = 64 * k + 62 := rfl
    obtain ⟨_, hrl⟩ := ro_eq hs k (by omega)
    have hp : ((s.drop (42 + 2 * k)).take 2).length = 2 := by rw [List.length_take, List.length_drop]; omega
    refine wp_skip (go_then (st_seq (wp_block (st_seq (st_reg ?_)))))
    refine mv h13 rfl rfl fun a14 h14 => ?_
    refine sl_val h14 (wn rfl) (ex_mul (h14.ev rfl) (h14.ev rfl) (by omega)) rfl rfl fun a15 h15 => ?_
    refine sl_val h15 (wn rfl) (as_val (v' := .int .i64 ((tlA k : Nat) : Int)) (congrArg _ (by omega)) (ex_sub (h15.ev rfl) (h15.ev rfl) (by omega))) rfl rfl fun a16 h16 => ?_
    refine ma h16 rfl rfl fun a17 h17 => ?_
    refine st_nil (go_then (st_seq (st_seq (st_reg ?_))))
    refine mv h17 rfl rfl fun a18 h18 => ?_
    refine sl_val h18 (wn rfl) (ex_eql (h18.ev rfl) (h18.ev rfl)) rfl rfl fun a19 h19 => ?_
    refine mv h19 rfl rfl fun a20 h20 => ?_
    apply sl_or h20 S11 22 rfl 6 28
    case hf =>
     intro gc22
     refine sl_val h20 (wanted_yes h20 _ rfl rfl rfl gc22) (ex_move (h20.ev rfl)) rfl rfl fun a21 h21 => ?_
     refine sl_val h21 (wanted_yes h21 _ rfl rfl rfl gc22) (ex_move (h21.ev rfl)) rfl rfl fun a22 h22 => ?_
     refine sl_pure h22 (wanted_yes h22 _ rfl rfl rfl gc22) (ex_call (fun _ _ => by kernel_rfl) (h22.evs rfl) rfl) rfl rfl (LittleAt_l s (tlA k) 2 (by omega) (by omega) (by decide) _) fun a23 h23 => ?_
     refine sl_val h23 (wanted_yes h23 _ rfl rfl rfl gc22) (ex_move (h23.ev rfl)) rfl rfl fun a24 h24 => ?_
     refine sl_val h24 (wanted_yes h24 _ rfl rfl rfl gc22) (ex_neq (h24.ev rfl) (h24.ev rfl)) rfl rfl fun a25 h25 => ?_
     refine sl_val h25 (wn rfl) (ex_pick_f (h25.ev rfl) gc22 (h25.ev rfl)) rfl rfl fun a26 h26 => ?_
     exact st_nil ⟨h26.mid (m := [(_, _), (_, _), (_, _), (_, _), (_, _)]) rfl, S11⟩
    case ht =>
     intro gc22
     refine sl_no h20 (wanted_no h20 _ rfl rfl rfl gc22) rfl rfl fun a27 h27 => ?_
     refine sl_no h27 (wanted_no h27 _ rfl rfl rfl gc22) rfl rfl fun a28 h28 => ?_
     refine sl_no h28 (wanted_no h28 _ rfl rfl rfl gc22) rfl rfl fun a29 h29 => ?_
     refine sl_no h29 (wanted_no h29 _ rfl rfl rfl gc22) rfl rfl fun a30 h30 => ?_
     refine sl_no h30 (wanted_no h30 _ rfl rfl rfl gc22) rfl rfl fun a31 h31 => ?_
     refine sl_val h31 (wn rfl) (ex_pick_t (h31.ev rfl) gc22 (h31.ev rfl)) rfl rfl fun a32 h32 => ?_
     exact st_nil ⟨h32.mid (m := [(_, _), (_, _), (_, _), (_, _), (_, _)]) rfl, S11⟩
    case h =>
     rintro a33 X33 ⟨h33, S33⟩
     refine st_nil (go_then ?_)
     refine st_if (h33.ev rfl) (fun hc1 => ?_) (fun hc1 => ?_)
     · skip
       have htr : trnB s k = true := by
         unfold trnB
         rw [Bool.or_eq_true] at hc1 ⊢
         rcases hc1 with h | h
         · exact .inl h
         · right
           rw [bne_iff_ne] at h ⊢
           intro h2
           exact h ((nAt_eq2 (by omega) (by omega)).2 h2)
       have hop : opB s = false := by
         unfold opB
         rw [← Bool.not_eq_true, List.all_eq_true]
         intro h
         have := h k (List.mem_range.2 hlt)
         rw [htr] at this; cases this
       refine st_seq (st_reg ?_)
       refine ma h33 rfl rfl fun a34 h34 => ?_
       refine ma h34 rfl rfl fun a35 h35 => ?_
       refine st_nil (go_then (wp_ret (ret_then (ret_block (ret_then (ret_then (ret_block (ret_then ?_))))))))
       refine fin2 h35 rfl rfl rfl ?_
       exact ⟨by rw [hop]; rfl, S33.below⟩
     · skip
       have htr : trnB s k = false := by
         unfold trnB
         rw [Bool.or_eq_false_iff] at hc1 ⊢
         refine ⟨hc1.1, ?_⟩
         rw [bne_eq_false_iff_eq]
         have h2 := hc1.2
         rw [bne_eq_false_iff_eq] at h2
         exact (nAt_eq2 (by omega) (by omega)).1 h2
       refine wp_skip (go_then (st_reg ?_))
       refine mv h33 rfl rfl fun a36 h36 => ?_
       refine mv h36 rfl rfl fun a37 h37 => ?_
       refine mv h37 rfl rfl fun a38 h38 => ?_
       refine mv h38 rfl rfl fun a39 h39 => ?_
       refine sl_val h39 (wn rfl) (ex_mul (h39.ev rfl) (h39.ev rfl) (by omega)) rfl rfl fun a40 h40 => ?_
       refine sl_val h40 (wn rfl) (as_val (v' := .int .i64 ((42 + 2 * k : Nat) : Int)) (congrArg _ (by push_cast; omega)) (ex_add (h40.ev rfl) (h40.ev rfl) (by omega))) rfl rfl fun a41 h41 => ?_
       refine mv h41 rfl rfl fun a42 h42 => ?_
       refine sl_val h42 (wn rfl) (ex_mul (h42.ev rfl) (h42.ev rfl) (by omega)) rfl rfl fun a43 h43 => ?_
       refine sl_val h43 (wn rfl) (ex_add (h43.ev rfl) (h43.ev rfl) (by omega)) rfl rfl fun a44 h44 => ?_
       refine sl_val h44 (wn rfl) (as_val (v' := .int .i64 ((42 + 2 * k + 2 : Nat) : Int)) (congrArg _ (by push_cast; omega)) (ex_add (h44.ev rfl) (h44.ev rfl) (by omega))) rfl rfl fun a45 h45 => ?_
       refine sl_val h45 (wn rfl) (as_val (v' := .string (bs ((s.drop (42 + 2 * k)).take 2))) (congrArg _ (by rw [bs_extract, Nat.add_sub_cancel_left])) (ex_sslice (l := (42 + 2 * k)) (h := (42 + 2 * k + 2)) Tryz.underlying9 (h45.ev rfl) (h45.ev rfl) (h45.ev rfl) (by omega) (by omega))) rfl rfl fun a46 h46 => ?_
       refine sl_bel h46 (wn rfl) (ex_call (fun _ _ => by kernel_rfl) (h46.evs rfl) rfl) rfl rfl S33 (Patch_l _ _ (tlA k) _ (by omega) (by omega)) fun a47 X47 h47 S47 => ?_
       refine ma h47 rfl rfl fun a48 h48 => ?_
       refine st_nil (go_block (go_then (st_reg ?_)))
       refine mv h48 rfl rfl fun a49 h49 => ?_
       refine sl_val h49 (wn rfl) (as_val (v' := .int .i64 (((k + 1 : Nat) : Int) + 1)) (congrArg _ (by omega)) (ex_add (h49.ev rfl) (h49.ev rfl) (by omega))) rfl rfl fun a50 h50 => ?_
       refine ma h50 rfl rfl fun a51 h51 => ?_
       refine st_nil (go_then ?_)
       exact ⟨k + 1, (by omega), ⟨by omega, fun j hj => (by rcases Nat.lt_or_ge j k with h | h; exact hF0.2 j h; have e : j = k := (by omega); rw [e]; exact htr)⟩, h51.re ⟨rfl, rfl, rfl, rfl, trivial⟩, S47⟩
  · skip
    have hge : k = 8 := by have := of_decide_eq_false hc0; omega
    have hop : opB s = true := by
      unfold opB
      rw [List.all_eq_true]
      intro j hj
      rw [hF0.2 j (by have := List.mem_range.1 hj; omega)]; rfl
    refine wp_exit ?_
    refine go_exit_then ?_
    refine go_exit_then ?_
    refine go_exit ?_
    refine go_then (st_seq (st_reg ?_))
    refine mv h13 rfl rfl fun a52 h52 => ?_
    refine ma h52 rfl rfl fun a53 h53 => ?_
    refine ma h53 rfl rfl fun a54 h54 => ?_
    refine st_nil (go_then (wp_ret ?_))
    refine fin2 h54 rfl rfl rfl ?_
    exact ⟨by rw [hop, hge, ro_all hs]; rfl, S11.below⟩
end Go.Proofs.YtmlilplbdpjfcaaGreatDoor
