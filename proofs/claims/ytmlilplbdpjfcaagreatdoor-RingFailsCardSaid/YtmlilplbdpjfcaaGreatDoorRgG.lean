/-
  Chapter 20: the basic functions of the statements.
  Chapter 20: the reference's small functions.
  Chapter 20: the reference's copies and comparisons.
  Chapter 20: the reference's logs closed, appended to and restarted.
-/
import Derived.Test.YtmlilplbdpjfcaaGreatDoorRgB
import Derived.Test.YtmlilplbdpjfcaaGreatDoorNumS
namespace Go.Proofs.YtmlilplbdpjfcaaGreatDoor
set_option linter.unusedVariables false
set_option linter.unusedSimpArgs false
set_option maxRecDepth 4000
open Go.RowKit Go.Sort
section
variable {P : Program} {ρ : Operand → Value} {X : World} {d : Option Tmp} {ty : TypeId} {ps : String} {af : Array Edge} {g : Option (Nat × Bool)}
theorem ex_quot {x y : Operand} {t t' : TypeId} {m n : Int} (hx : ρ x = .int .i64 m) (hy : ρ y = .int .i64 n) (h : 0 < n ∧ -4611686018427387904 ≤ m ∧ m ≤ 4611686018427387904) : (execOp ρ ⟨d, .binOp .quo t x y t', ty, ps, af, g⟩).run P X = .ok (.value (.int .i64 (m.tdiv n))) X := by
 have h0 : n ≠ 0 := by omega
 have h1 : -4611686018427387904 ≤ m.tdiv n ∧ m.tdiv n ≤ 4611686018427387904 := by
  rcases Int.le_total 0 m with h2 | h2
  · rw [Int.tdiv_eq_ediv_of_nonneg h2]
    have h3 : 0 ≤ m / n := Int.ediv_nonneg h2 (by omega)
    have h4 : m / n ≤ m := Int.ediv_le_self n h2
    omega
  · have h5 : m.tdiv n = -((-m) / n) := by
     rw [← Int.tdiv_eq_ediv_of_nonneg (by omega), Int.neg_tdiv, Int.neg_neg]
    have h3 : 0 ≤ (-m) / n := Int.ediv_nonneg (by omega) (by omega)
    have h4 : (-m) / n ≤ -m := Int.ediv_le_self n (by omega)
    omega
 simp [execOp, hx, hy, eqGuard, binOp, Op.intDiv, h0, wrap_in (n := m.tdiv n) (by omega)]
theorem ex_neg {x : Operand} {t : TypeId} {m : Int} (hx : ρ x = .int .i64 m) (h : -9223372036854775807 ≤ m ∧ m < 9223372036854775808) : (execOp ρ ⟨d, .unOp .neg t x, ty, ps, af, g⟩).run P X = .ok (.value (.int .i64 (-m))) X := by
 simp [execOp, hx, Op.unary, Op.intArith, wrap_in (n := -m) (by omega)]
end
theorem floor_eq (n b : Int) (hb : 0 < b) : (if n.tmod b < 0 then n.tdiv b - 1 else n.tdiv b) = n / b := by
 rcases Int.le_total 0 n with h | h
 · rw [Int.tdiv_eq_ediv_of_nonneg h, Int.tmod_eq_emod_of_nonneg h, if_neg (by have := Int.emod_nonneg n (b := b) (by omega); omega)]
 · have h5 : n.tdiv b = -((-n) / b) := by rw [← Int.tdiv_eq_ediv_of_nonneg (by omega), Int.neg_tdiv, Int.neg_neg]
   have h6 : n.tmod b = -((-n) % b) := by rw [← Int.tmod_eq_emod_of_nonneg (by omega), Int.neg_tmod, Int.neg_neg]
   rw [h5, h6]
   have e1 := Int.mul_ediv_add_emod (-n) b
   have e2 := Int.emod_nonneg (-n) (b := b) (by omega)
   have e3 := Int.emod_lt_of_pos (-n) hb
   generalize hq : (-n) / b = q at e1 ⊢
   generalize hr : (-n) % b = r at e1 e2 e3 ⊢
   by_cases hz : r = 0
   · subst hz
     rw [if_neg (by omega)]
     have : n = (-q) * b := by rw [Int.neg_mul, Int.mul_comm]; omega
     rw [this, Int.mul_ediv_cancel _ (by omega)]
   · rw [if_pos (by omega)]
     have : n = (b - r) + b * (-q - 1) := by rw [Int.mul_sub, Int.mul_neg, Int.mul_one]; omega
     rw [this, Int.add_mul_ediv_left _ _ (by omega), Int.ediv_eq_zero_of_lt (by omega) (by omega)]
     omega
theorem Floor_any (n b : Int) (h : 0 < b ∧ -4611686018427387904 ≤ n ∧ n ≤ 4611686018427387904) (w : World) :
 Calls Tryz.prog 117 #[.int .i64 n, .int .i64 b] w fun e w' => e = .returned (.int .i64 (n / b)) ∧ w = w' := by
 have hfe := floor_eq n b h.1
 have hdb : -4611686018427387904 ≤ n.tdiv b ∧ n.tdiv b ≤ 4611686018427387904 := by
  rcases Int.le_total 0 n with h2 | h2
  · rw [Int.tdiv_eq_ediv_of_nonneg h2]
    have h3 : 0 ≤ n / b := Int.ediv_nonneg h2 (by omega)
    have h4 : n / b ≤ n := Int.ediv_le_self b h2
    omega
  · have h5 : n.tdiv b = -((-n) / b) := by rw [← Int.tdiv_eq_ediv_of_nonneg (by omega), Int.neg_tdiv, Int.neg_neg]
    have h3 : 0 ≤ (-n) / b := Int.ediv_nonneg (by omega) (by omega)
    have h4 : (-n) / b ≤ -n := Int.ediv_le_self b (by omega)
    omega
 refine st_enter (N := 16) Tryz.func117 rfl rfl rfl (fun a0 h0 => ?_)
 have S0 := St.init w
 refine st_seq (st_reg ?_)
 refine ma h0 rfl rfl fun a1 h1 => ?_
 refine nsr ?_
 refine mv h1 rfl rfl fun a2 h2 => ?_
 refine mv h2 rfl rfl fun a3 h3 => ?_
 refine sv h3 (ex_quot (h3.ev rfl) (h3.ev rfl) h) fun a4 h4 => ?_
 refine ma h4 rfl rfl fun a5 h5 => ?_
 refine st_nil (go_then (st_seq (st_seq (st_reg ?_))))
 refine mv h5 rfl rfl fun a6 h6 => ?_
 refine mv h6 rfl rfl fun a7 h7 => ?_
 refine sv h7 (ex_remt (h7.ev rfl) (h7.ev rfl) (by omega)) fun a8 h8 => ?_
 refine sv h8 (ex_lss (h8.ev rfl) (h8.ev rfl)) fun a9 h9 => ?_
 refine st_nil (go_then ?_)
 refine st_if (h9.ev rfl) (fun hc0 => ?_) (fun hc0 => ?_)
 ·
  rw [if_pos (of_decide_eq_true hc0)] at hfe
  refine st_reg ?_
  refine mv h9 rfl rfl fun a10 h10 => ?_
  refine sv h10 (ex_sub (h10.ev rfl) (h10.ev rfl) ⟨by omega, by omega⟩) fun a11 h11 => ?_
  refine ma h11 rfl rfl fun a12 h12 => ?_
  refine nsr ?_
  refine mv h12 rfl rfl fun a13 h13 => ?_
  refine ma h13 rfl rfl fun a14 h14 => ?_
  refine st_nil (go_then (wp_ret ?_))
  refine fin1 h14 rfl rfl ?_
  exact ⟨by rw [hfe], rfl⟩
 ·
  rw [if_neg (of_decide_eq_false hc0)] at hfe
  refine wp_skip (go_then (st_seq (st_reg ?_)))
  refine mv h9 rfl rfl fun a15 h15 => ?_
  refine ma h15 rfl rfl fun a16 h16 => ?_
  refine st_nil (go_then (wp_ret ?_))
  refine fin1 h16 rfl rfl ?_
  exact ⟨by rw [hfe], rfl⟩
theorem Ceil_any (n b : Int) (h : 0 < b ∧ -4611686018427387904 ≤ n ∧ n ≤ 4611686018427387904) (w : World) :
 Calls Tryz.prog 84 #[.int .i64 n, .int .i64 b] w fun e w' => e = .returned (.int .i64 (-((-n) / b))) ∧ w = w' := by
 have hdb : -4611686018427387904 ≤ (-n) / b ∧ (-n) / b ≤ 4611686018427387904 := by
  rcases Int.le_total 0 (-n) with h2 | h2
  · have h3 : 0 ≤ (-n) / b := Int.ediv_nonneg h2 (by omega)
    have h4 : (-n) / b ≤ -n := Int.ediv_le_self b h2
    omega
  · have h3 : (-n) / b < 1 := Int.ediv_lt_of_lt_mul h.1 (by omega)
    have h4 : -n ≤ (-n) / b := (Int.le_ediv_iff_mul_le h.1).2 (by
     have := Int.mul_le_mul_of_nonpos_left (a := -n) (b := b) (c := 1) h2 (by omega)
     omega)
    omega
 refine st_enter (N := 10) Tryz.func84 rfl rfl rfl (fun a0 h0 => ?_)
 have S0 := St.init w
 refine st_seq (st_reg ?_)
 refine ma h0 rfl rfl fun a1 h1 => ?_
 refine nsr ?_
 refine mv h1 rfl rfl fun a2 h2 => ?_
 refine sv h2 (ex_neg (h2.ev rfl) (by omega)) fun a3 h3 => ?_
 refine mv h3 rfl rfl fun a4 h4 => ?_
 refine sl_pure h4 (wn rfl) (ex_call (fun _ _ => by kernel_rfl) (h4.evs rfl) rfl) rfl rfl (Floor_any _ _ (by omega) _) fun a5 h5 => ?_
 refine sv h5 (ex_neg (h5.ev rfl) (by omega)) fun a6 h6 => ?_
 refine ma h6 rfl rfl fun a7 h7 => ?_
 refine st_nil (go_then (wp_ret ?_))
 refine fin1 h7 rfl rfl ?_
 exact ⟨rfl, rfl⟩
theorem Patch_l (s b : List UInt8) (a : Nat) (w : World) (hs : s.length ≤ 1000000) (h1 : a + b.length ≤ s.length) :
 Calls Tryz.prog 49 #[.string (bs s), .int .i64 a, .string (bs b)] w fun e w' => e = .returned (.string (bs (patL s a b))) ∧ Below w.heap.size w w' := by
 have := Patch_any (bs s) (bs b) a w (by rw [bs_size]; exact hs) (by rw [bs_size, bs_size]; exact h1)
 rw [show patS (bs s) a (bs b) = bs (patL s a b) from bl_inj (by rw [bl_bs, bl_patL, bl_bs, bl_bs])] at this
 exact this
theorem wrsV_get (l : List (Int × List UInt8)) (k : Nat) (hk : k < l.length) : ((wrsV l).drop (k * 2)).take 2 = wrV l[k] := by
 induction l generalizing k with
 | nil => simp at hk
 | cons x l ih =>
  cases k with
  | zero => rfl
  | succ k =>
   have : (wrsV (x :: l)).drop ((k + 1) * 2) = (wrsV l).drop (k * 2) := by
    show (wrV x ++ wrsV l).drop ((k + 1) * 2) = _
    rw [List.drop_append]
    simp [wrV, show (k + 1) * 2 - 2 = k * 2 by omega]; omega
   rw [this]
   exact ih k (by simpa using hk)
end Go.Proofs.YtmlilplbdpjfcaaGreatDoor
namespace Go.Proofs.YtmlilplbdpjfcaaGreatDoor
set_option linter.unusedVariables false
set_option linter.unusedSimpArgs false
set_option maxRecDepth 4000
open Go.RowKit Go.Sort
theorem rposition_any (n : Int) (w : World) : Calls Tryz.prog 82 #[.int .i64 n] w fun e w' => e = .returned (.bool (posB n)) ∧ w = w' := by
 refine st_enter (N := 5) Tryz.func82 rfl rfl rfl (fun a0 h0 => ?_)
 have S0 := St.init w
 refine st_seq (st_reg ?_)
 refine ma h0 rfl rfl fun a1 h1 => ?_
 refine nsr ?_
 refine mv h1 rfl rfl fun a2 h2 => ?_
 refine sl_pure h2 (wn rfl) (ex_call (fun _ _ => by kernel_rfl) (h2.evs rfl) rfl) rfl rfl (Within_any _ _ _ _) fun a3 h3 => ?_
 refine ma h3 rfl rfl fun a4 h4 => ?_
 refine st_nil (go_then (wp_ret ?_))
 refine fin1 h4 rfl rfl ?_
 exact ⟨rfl, rfl⟩
theorem rroom_any (n : Int) (h : 0 ≤ n ∧ n ≤ 4611686018427387904) (w : World) : Calls Tryz.prog 66 #[.int .i64 n] w fun e w' => e = .returned (.int .i64 (n / 448)) ∧ w = w' := by
 refine st_enter (N := 5) Tryz.func66 rfl rfl rfl (fun a0 h0 => ?_)
 have S0 := St.init w
 refine st_seq (st_reg ?_)
 refine ma h0 rfl rfl fun a1 h1 => ?_
 refine nsr ?_
 refine mv h1 rfl rfl fun a2 h2 => ?_
 refine sv h2 (ex_quo (h2.ev rfl) (h2.ev rfl) ⟨by omega, by omega, by omega⟩) fun a3 h3 => ?_
 refine ma h3 rfl rfl fun a4 h4 => ?_
 refine st_nil (go_then (wp_ret ?_))
 refine fin1 h4 rfl rfl ?_
 exact ⟨rfl, rfl⟩
theorem rbegin_any (n : Int) (h : -1000000000000 ≤ n ∧ n ≤ 1000000000000) (w : World) : Calls Tryz.prog 65 #[.int .i64 n] w fun e w' => e = .returned (.int .i64 (nxtR n)) ∧ w = w' := by
 refine st_enter (N := 6) Tryz.func65 rfl rfl rfl (fun a0 h0 => ?_)
 have S0 := St.init w
 refine st_seq (st_reg ?_)
 refine ma h0 rfl rfl fun a1 h1 => ?_
 refine nsr ?_
 refine mv h1 rfl rfl fun a2 h2 => ?_
 refine sl_pure h2 (wn rfl) (ex_call (fun _ _ => by kernel_rfl) (h2.evs rfl) rfl) rfl rfl (Ceil_any _ _ (by omega) _) fun a3 h3 => ?_
 refine sv h3 (ex_mul (h3.ev rfl) (h3.ev rfl) (by omega)) fun a4 h4 => ?_
 refine ma h4 rfl rfl fun a5 h5 => ?_
 refine st_nil (go_then (wp_ret ?_))
 refine fin1 h5 rfl rfl ?_
 exact ⟨by unfold nxtR; congr 2; omega, rfl⟩
theorem rBehind_any (p c : Int) (h : -1000000000000 ≤ p ∧ p ≤ 1000000000000 ∧ 0 ≤ c ∧ c ≤ 1000000000000) (w : World) : Calls Tryz.prog 33 #[.int .i64 p, .int .i64 c] w fun e w' => e = .returned (.int .i64 (p + szR c)) ∧ w = w' := by
 refine st_enter (N := 11) Tryz.func33 rfl rfl rfl (fun a0 h0 => ?_)
 have S0 := St.init w
 refine st_seq (st_reg ?_)
 refine ma h0 rfl rfl fun a1 h1 => ?_
 refine nsr ?_
 refine mv h1 rfl rfl fun a2 h2 => ?_
 refine mv h2 rfl rfl fun a3 h3 => ?_
 refine sv h3 (ex_add (h3.ev rfl) (h3.ev rfl) (by omega)) fun a4 h4 => ?_
 refine sl_pure h4 (wn rfl) (ex_call (fun _ _ => by kernel_rfl) (h4.evs rfl) rfl) rfl rfl (Ceil_any _ _ (by omega) _) fun a5 h5 => ?_
 refine sv h5 (ex_mul (h5.ev rfl) (h5.ev rfl) (by omega)) fun a6 h6 => ?_
 refine sv h6 (ex_add (h6.ev rfl) (h6.ev rfl) (by omega)) fun a7 h7 => ?_
 refine ma h7 rfl rfl fun a8 h8 => ?_
 refine st_nil (go_then (wp_ret ?_))
 refine fin1 h8 rfl rfl ?_
 exact ⟨by unfold szR; congr 2; omega, rfl⟩
theorem rPagesErr_any (n : Int) (w : World) : Calls Tryz.prog 27 #[.int .i64 n] w fun e w' => e = .returned (.int .i64 (pgsE n)) ∧ w = w' := by
 refine st_enter (N := 6) Tryz.func27 rfl rfl rfl (fun a0 h0 => ?_)
 have S0 := St.init w
 refine st_seq (st_reg ?_)
 refine ma h0 rfl rfl fun a1 h1 => ?_
 refine st_nil (go_then (st_seq (st_seq (st_reg ?_))))
 refine mv h1 rfl rfl fun a2 h2 => ?_
 refine sl_pure h2 (wn rfl) (ex_call (fun _ _ => by kernel_rfl) (h2.evs rfl) rfl) rfl rfl (Within_any _ _ _ _) fun a3 h3 => ?_
 refine sv h3 (ex_not (h3.ev rfl)) fun a4 h4 => ?_
 refine st_nil (go_then ?_)
 refine st_if (h4.ev rfl) (fun hc0 => ?_) (fun hc0 => ?_)
 ·
  have h1 : inB n 4 40 = false := by simpa using hc0
  refine st_seq (st_reg ?_)
  refine ma h4 rfl rfl fun a5 h5 => ?_
  refine st_nil (go_then (wp_ret (ret_then ?_)))
  refine fin1 h5 rfl rfl ?_
  exact ⟨by unfold pgsE; rw [h1]; rfl, rfl⟩
 ·
  have h1 : inB n 4 40 = true := by simpa using hc0
  refine wp_skip (go_then (st_seq (st_reg ?_)))
  refine ma h4 rfl rfl fun a6 h6 => ?_
  refine st_nil (go_then (wp_ret ?_))
  refine fin1 h6 rfl rfl ?_
  exact ⟨by unfold pgsE; rw [h1]; rfl, rfl⟩
theorem rRestartErr_any (x : RstP) (w : World) : Calls Tryz.prog 38 #[rstV x] w fun e w' => e = .returned (.int .i64 (rstE x)) ∧ Below w.heap.size w w' := by
 refine st_enter (N := 19) Tryz.func38 rfl rfl rfl (fun a0 h0 => ?_)
 have S0 := St.init w
 refine st_seq (st_reg ?_)
 refine nb h0 rfl rfl S0 fun b1 a1 X1 gb1 h1 S1 => ?_
 refine ma h1 rfl rfl fun a2 h2 => ?_
 refine st_nil (go_then (st_seq (st_seq (st_reg ?_))))
 refine vf h2 0 0 rfl rfl rfl fun a3 h3 => ?_
 refine vl h3 S1 0 rfl rfl rfl rfl fun a4 h4 => ?_
 refine sl_pure h4 (wn rfl) (ex_call (fun _ _ => by kernel_rfl) (h4.evs rfl) rfl) rfl rfl (Within_any _ _ _ _) fun a5 h5 => ?_
 refine sv h5 (ex_not (h5.ev rfl)) fun a6 h6 => ?_
 refine mv h6 rfl rfl fun a7 h7 => ?_
 apply sl_or h7 S1 7 rfl 5 12
 case hf =>
  intro gc7
  refine sy h7 rfl rfl rfl gc7 (ex_field (off := 1) (j := 1) (by kernel_rfl) (h7.ev rfl) rfl) rfl rfl fun a8 h8 => ?_
  refine sy h8 rfl rfl rfl gc7 (ex_load (by kernel_rfl) (h8.ev rfl) (S1.cell (i := 0) rfl rfl)) rfl rfl fun a9 h9 => ?_
  refine sl_pure h9 (wanted_yes h9 _ rfl rfl rfl gc7) (ex_call (fun _ _ => by kernel_rfl) (h9.evs rfl) rfl) rfl rfl (rposition_any _ _) fun a10 h10 => ?_
  refine sy h10 rfl rfl rfl gc7 (ex_not (h10.ev rfl)) rfl rfl fun a11 h11 => ?_
  refine sv h11 (ex_pick_f (h11.ev rfl) gc7 (h11.ev rfl)) fun a12 h12 => ?_
  exact st_nil ⟨h12.mid (m := [(_, _), (_, _), (_, _), (_, _)]) rfl, S1⟩
 case ht =>
  intro gc7
  refine no h7 rfl rfl rfl gc7 rfl rfl fun a13 h13 => ?_
  refine no h13 rfl rfl rfl gc7 rfl rfl fun a14 h14 => ?_
  refine no h14 rfl rfl rfl gc7 rfl rfl fun a15 h15 => ?_
  refine no h15 rfl rfl rfl gc7 rfl rfl fun a16 h16 => ?_
  refine sv h16 (ex_pick_t (h16.ev rfl) gc7 (h16.ev rfl)) fun a17 h17 => ?_
  exact st_nil ⟨h17.mid (m := [(_, _), (_, _), (_, _), (_, _)]) rfl, S1⟩
 case h =>
  rintro a18 X18 ⟨h18, S18⟩
  refine mv h18 rfl rfl fun a19 h19 => ?_
  apply sl_or h19 S18 13 rfl 5 18
  case hf =>
   intro gc13
   refine sy h19 rfl rfl rfl gc13 (ex_field (off := 2) (j := 2) (by kernel_rfl) (h19.ev rfl) rfl) rfl rfl fun a20 h20 => ?_
   refine sy h20 rfl rfl rfl gc13 (ex_load (by kernel_rfl) (h20.ev rfl) (S18.cell (i := 0) rfl rfl)) rfl rfl fun a21 h21 => ?_
   refine sl_pure h21 (wanted_yes h21 _ rfl rfl rfl gc13) (ex_call (fun _ _ => by kernel_rfl) (h21.evs rfl) rfl) rfl rfl (rposition_any _ _) fun a22 h22 => ?_
   refine sy h22 rfl rfl rfl gc13 (ex_not (h22.ev rfl)) rfl rfl fun a23 h23 => ?_
   refine sv h23 (ex_pick_f (h23.ev rfl) gc13 (h23.ev rfl)) fun a24 h24 => ?_
   exact st_nil ⟨h24.mid (m := [(_, _), (_, _), (_, _), (_, _)]) rfl, S18⟩
  case ht =>
   intro gc13
   refine no h19 rfl rfl rfl gc13 rfl rfl fun a25 h25 => ?_
   refine no h25 rfl rfl rfl gc13 rfl rfl fun a26 h26 => ?_
   refine no h26 rfl rfl rfl gc13 rfl rfl fun a27 h27 => ?_
   refine no h27 rfl rfl rfl gc13 rfl rfl fun a28 h28 => ?_
   refine sv h28 (ex_pick_t (h28.ev rfl) gc13 (h28.ev rfl)) fun a29 h29 => ?_
   exact st_nil ⟨h29.mid (m := [(_, _), (_, _), (_, _), (_, _)]) rfl, S18⟩
  case h =>
   rintro a30 X30 ⟨h30, S30⟩
   refine st_nil (go_then ?_)
   refine st_if (h30.ev rfl) (fun hc0 => ?_) (fun hc0 => ?_)
   ·
    have h1 : rstB x = false := by
     unfold rstB
     cases h2 : inB x.s 1 60000 <;> cases h3 : posB x.c <;> cases h4 : posB x.o <;> simp_all
    refine st_seq (st_reg ?_)
    refine ma h30 rfl rfl fun a31 h31 => ?_
    refine st_nil (go_then (wp_ret (ret_then ?_)))
    refine fin1 h31 rfl rfl ?_
    exact ⟨by unfold rstE; rw [h1]; rfl, S30.below⟩
   ·
    have h1 : rstB x = true := by
     unfold rstB
     cases h2 : inB x.s 1 60000 <;> cases h3 : posB x.c <;> cases h4 : posB x.o <;> simp_all
    refine wp_skip (go_then (st_seq (st_reg ?_)))
    refine ma h30 rfl rfl fun a32 h32 => ?_
    refine st_nil (go_then (wp_ret ?_))
    refine fin1 h32 rfl rfl ?_
    exact ⟨by unfold rstE; rw [h1]; rfl, S30.below⟩
theorem fnd_step {l : List RecP} {n : Int} {k : Nat} (hk : k < l.length) (h : (l.take k).find? (fun x => x.l == n) = none) (hne : (l[k].l == n) = false) : (l.take (k + 1)).find? (fun x => x.l == n) = none := by
 rw [List.take_add_one, List.getElem?_eq_getElem hk, List.find?_append, h]
 simp [hne]
theorem fnd_hit {l : List RecP} {n : Int} {k : Nat} (hk : k < l.length) (h : (l.take k).find? (fun x => x.l == n) = none) (he : (l[k].l == n) = true) : fndR l n = some l[k] := by
 unfold fndR
 conv => lhs; rw [← List.take_append_drop k l]
 rw [List.find?_append, h, List.drop_eq_getElem_cons hk, List.find?_cons, he]; rfl
theorem rRecord_any (r : RngP) (A : Option Addr) (c : Nat) (n : Int) (w : World) (hr : Rd w w.heap.size A (recsV r.rs)) (hlen : r.rs.length ≤ 1000) :
 Calls Tryz.prog 52 #[ringV r A c, .int .i64 n] w fun e w' => e = .returned (.tuple #[.string (match fndR r.rs n with | some x => x.b | none => ⟨#[]⟩), .bool (fndR r.rs n).isSome]) ∧ Below w.heap.size w w' := by
 refine st_enter (N := 28) Tryz.func52 rfl rfl rfl (fun a0 h0 => ?_)
 have S0 := St.init w
 refine st_seq (st_reg ?_)
 refine nb h0 rfl rfl S0 fun b2 a1 X1 gb2 h1 S1 => ?_
 refine ma h1 rfl rfl fun a2 h2 => ?_
 refine ma h2 rfl rfl fun a3 h3 => ?_
 refine st_nil (go_then (st_seq (st_seq (st_reg ?_))))
 refine ma h3 rfl rfl fun a4 h4 => ?_
 refine st_nil (go_then (wp_block ?_))
 refine st_loop h4 S1 [2, 1] (fun (k : Nat) => [(6, .int .i64 (k : Int))]) (fun (k : Nat) => k ≤ r.rs.length ∧ (r.rs.take k).find? (fun x => x.l == n) = none) (fun (k : Nat) L => L) (fun (k : Nat) => r.rs.length - k) (0) (⟨Nat.zero_le _, rfl⟩) ⟨rfl, rfl, rfl, trivial⟩ (S1) ?_
 intro k a5 X5 hF0 h5 S5
 refine st_seq (st_seq (st_reg ?_))
 refine mv h5 rfl rfl fun a6 h6 => ?_
 refine vf h6 7 7 rfl rfl rfl fun a7 h7 => ?_
 refine vl h7 S5 0 rfl rfl rfl rfl fun a8 h8 => ?_
 refine sv h8 (ex_len Tryz.underlying24 (h8.ev rfl)) fun a9 h9 => ?_
 refine sv h9 (ex_lss (h9.ev rfl) (h9.ev rfl)) fun a10 h10 => ?_
 refine st_nil (go_then ?_)
 refine st_if (h10.ev rfl) (fun hc0 => ?_) (fun hc0 => ?_)
 ·
  have hlt : k < r.rs.length := by have := of_decide_eq_true hc0; omega
  obtain ⟨b, o, rfl, hB, _⟩ := hr.opened (by rw [recsV_length]; omega)
  refine wp_skip (go_then (st_seq (wp_block (st_seq (st_reg ?_)))))
  refine vf h10 7 7 rfl rfl rfl fun a11 h11 => ?_
  refine vl h11 S5 0 rfl rfl rfl rfl fun a12 h12 => ?_
  refine mv h12 rfl rfl fun a13 h13 => ?_
  refine sv h13 (ex_index (i := k) (sz := 3) Tryz.underlying24 (by kernel_rfl) (h13.ev rfl) (h13.ev rfl) (by omega) (by omega) rfl) fun a14 h14 => ?_
  refine sv h14 (ex_field (off := 0) (by kernel_rfl) (h14.ev rfl) rfl) fun a15 h15 => ?_
  refine sv h15 (ex_load (by kernel_rfl) (h15.ev rfl) ((recAt (S5.rd0 hr) hlt) 0 _ rfl)) fun a16 h16 => ?_
  refine mv h16 rfl rfl fun a17 h17 => ?_
  refine sv h17 (ex_eql (h17.ev rfl) (h17.ev rfl)) fun a18 h18 => ?_
  refine st_nil (go_then ?_)
  refine st_if (h18.ev rfl) (fun hc1 => ?_) (fun hc1 => ?_)
  ·
   refine st_seq (st_reg ?_)
   refine vf h18 7 7 rfl rfl rfl fun a19 h19 => ?_
   refine vl h19 S5 0 rfl rfl rfl rfl fun a20 h20 => ?_
   refine mv h20 rfl rfl fun a21 h21 => ?_
   refine sv h21 (ex_index (i := k) (sz := 3) Tryz.underlying24 (by kernel_rfl) (h21.ev rfl) (h21.ev rfl) (by omega) (by omega) rfl) fun a22 h22 => ?_
   refine sv h22 (ex_field (off := 2) (by kernel_rfl) (h22.ev rfl) rfl) fun a23 h23 => ?_
   refine sv h23 (ex_load (by kernel_rfl) (h23.ev rfl) ((recAt (S5.rd0 hr) hlt) 2 _ rfl)) fun a24 h24 => ?_
   refine ma h24 rfl rfl fun a25 h25 => ?_
   refine ma h25 rfl rfl fun a26 h26 => ?_
   refine st_nil (go_then (wp_ret (ret_block (ret_then (ret_then (ret_block (ret_then ?_)))))))
   refine fin2 h26 rfl rfl rfl ?_
   exact ⟨by rw [fnd_hit hlt hF0.2 hc1]; rfl, S5.below⟩
  ·
   refine wp_skip (go_block (go_then (st_reg ?_)))
   refine mv h18 rfl rfl fun a27 h27 => ?_
   refine sv h27 (ex_add (h27.ev rfl) (h27.ev rfl) (by omega)) fun a28 h28 => ?_
   refine ma h28 rfl rfl fun a29 h29 => ?_
   refine st_nil (go_then ?_)
   exact ⟨k + 1, (by omega), ⟨hlt, fnd_step hlt hF0.2 hc1⟩, h29.re ⟨rfl, rfl, rfl, trivial⟩, S5⟩
 ·
  have hge : k = r.rs.length := by have := of_decide_eq_false hc0; omega
  have hno : fndR r.rs n = none := by have := hF0.2; rwa [hge, List.take_length] at this
  refine wp_exit ?_
  refine go_exit_then ?_
  refine go_exit_then ?_
  refine go_exit ?_
  refine go_then (st_seq (st_reg ?_))
  refine ma h10 rfl rfl fun a30 h30 => ?_
  refine ma h30 rfl rfl fun a31 h31 => ?_
  refine st_nil (go_then (wp_ret ?_))
  refine fin2 h31 rfl rfl rfl ?_
  exact ⟨by rw [hno]; rfl, S5.below⟩
theorem has_fnd (l : List RecP) (n : Int) : (fndR l n).isSome = hasR l n := by
 unfold fndR hasR
 rw [Bool.eq_iff_iff, List.find?_isSome, List.any_eq_true]
theorem rHas_any (r : RngP) (A : Option Addr) (c : Nat) (n : Int) (w : World) (hr : Rd w w.heap.size A (recsV r.rs)) (hlen : r.rs.length ≤ 1000) :
 Calls Tryz.prog 42 #[ringV r A c, .int .i64 n] w fun e w' => e = .returned (.bool (hasR r.rs n)) ∧ Below w.heap.size w w' := by
 refine st_enter (N := 14) Tryz.func42 rfl rfl rfl (fun a0 h0 => ?_)
 have S0 := St.init w
 refine st_seq (st_reg ?_)
 refine nb h0 rfl rfl S0 fun b2 a1 X1 gb2 h1 S1 => ?_
 refine ma h1 rfl rfl fun a2 h2 => ?_
 refine nsr ?_
 refine sv (v := ringV r A c) h2 (ex_loads (by kernel_rfl) (by kernel_rfl) (h2.ev rfl) (S1.cellsAll (i := 0) rfl)) fun a3 h3 => ?_
 refine mv h3 rfl rfl fun a4 h4 => ?_
 refine sl_bel h4 (wn rfl) (ex_call (fun _ _ => by kernel_rfl) (h4.evs rfl) rfl) rfl rfl S1 (rRecord_any r A c n _ (S1.rd0 hr) hlen) fun a5 X5 h5 S5 => ?_
 refine mv h5 rfl rfl fun a6 h6 => ?_
 refine vx h6 rfl rfl rfl fun a7 h7 => ?_
 refine vx h7 rfl rfl rfl fun a8 h8 => ?_
 refine ma h8 rfl rfl fun a9 h9 => ?_
 refine ma h9 rfl rfl fun a10 h10 => ?_
 refine nsr ?_
 refine mv h10 rfl rfl fun a11 h11 => ?_
 refine ma h11 rfl rfl fun a12 h12 => ?_
 refine st_nil (go_then (wp_ret ?_))
 refine fin1 h12 rfl rfl ?_
 exact ⟨by rw [← has_fnd]; rfl, S5.below⟩
theorem rlast_any (r : RngP) (A : Option Addr) (c : Nat) (w : World) (hr : Rd w w.heap.size A (recsV r.rs)) (y : RecP) (hy : r.rs.getLast? = some y) (hb : Bfr y) (hlen : r.rs.length ≤ 1000) :
 Calls Tryz.prog 67 #[ringV r A c] w fun e w' => e = .returned (.int .i64 (bhR y - 1)) ∧ Below w.heap.size w w' := by
 have hne : r.rs ≠ [] := by intro h; rw [h] at hy; cases hy
 have hpos := List.length_pos_iff.2 hne
 have hyl : r.rs[r.rs.length - 1] = y := by have := last_get hne; rw [hy] at this; injection this with this; exact this.symm
 have hbd := hb.bd
 unfold Bfr at hb
 obtain ⟨b, o, rfl, hB, _⟩ := hr.opened (by rw [recsV_length]; omega)
 have hcl : ∀ {X : World} {B : Nat}, Rd X B (some ⟨b, o, none⟩) (recsV r.rs) → ∀ (j : Nat) (u : Value), [Value.int .i64 y.l, .int .i64 y.s, .string y.b][j]? = some u → X.cell? ⟨b, o + (r.rs.length - 1) * 3 + j, none⟩ = some u := fun h => by rw [← hyl]; exact recAt h (by omega)
 refine st_enter (N := 20) Tryz.func67 rfl rfl rfl (fun a0 h0 => ?_)
 have S0 := St.init w
 refine st_seq (st_reg ?_)
 refine nb h0 rfl rfl S0 fun b1 a1 X1 gb1 h1 S1 => ?_
 refine ma h1 rfl rfl fun a2 h2 => ?_
 refine nsr ?_
 refine vf h2 7 7 rfl rfl rfl fun a3 h3 => ?_
 refine vl h3 S1 0 rfl rfl rfl rfl fun a4 h4 => ?_
 refine vf h4 7 7 rfl rfl rfl fun a5 h5 => ?_
 refine vl h5 S1 0 rfl rfl rfl rfl fun a6 h6 => ?_
 refine sv h6 (ex_len Tryz.underlying24 (h6.ev rfl)) fun a7 h7 => ?_
 refine sv h7 (ex_sub (h7.ev rfl) (h7.ev rfl) (by omega)) fun a8 h8 => ?_
 refine sv h8 (ex_index (i := r.rs.length - 1) (sz := 3) Tryz.underlying24 (by kernel_rfl) (h8.ev rfl) (h8.ev rfl) (by omega) (by omega) rfl) fun a9 h9 => ?_
 refine sv (v := recV y) h9 (ex_loads (by kernel_rfl) (by kernel_rfl) (h9.ev rfl) (hcl (S1.rd0 hr))) fun a10 h10 => ?_
 refine na (.agg #[.int .i64 0, .int .i64 0, .string ⟨#[]⟩]) h10 rfl S1 fun b3 a11 X11 gb3 h11 S11 => ?_
 refine sl_store0 h11 (wn rfl) ⟨rfl, rfl⟩ (h11.ev rfl) (h11.ev rfl) rfl (by kernel_rfl) S11 (i := 0) rfl rfl rfl fun X12 S12 => ?_
 refine nsr ?_
 refine vf h11 0 0 rfl rfl rfl fun a13 h13 => ?_
 refine vl h13 S12 0 rfl rfl rfl rfl fun a14 h14 => ?_
 refine sv h14 (ex_sub (h14.ev rfl) (h14.ev rfl) (by omega)) fun a15 h15 => ?_
 refine vf h15 2 2 rfl rfl rfl fun a16 h16 => ?_
 refine vl h16 S12 0 rfl rfl rfl rfl fun a17 h17 => ?_
 refine sv h17 (ex_slen Tryz.underlying9 (h17.ev rfl)) fun a18 h18 => ?_
 refine sl_pure h18 (wn rfl) (ex_call (fun _ _ => by kernel_rfl) (h18.evs rfl) rfl) rfl rfl (rBehind_any _ _ (by omega) _) fun a19 h19 => ?_
 refine sv h19 (ex_sub (h19.ev rfl) (h19.ev rfl) ⟨by unfold bhR at hbd; omega, by unfold bhR at hbd; omega⟩) fun a20 h20 => ?_
 refine ma h20 rfl rfl fun a21 h21 => ?_
 refine st_nil (go_then (wp_ret ?_))
 refine fin1 h21 rfl rfl ?_
 exact ⟨rfl, S12.below⟩
theorem rRooms_any (r : RngP) (A : Option Addr) (c : Nat) (w : World) (hr : Rd w w.heap.size A (recsV r.rs)) (hb : ∀ y, r.rs.getLast? = some y → Bfr y) (ho : r.rs = [] ∨ (1 ≤ r.r.o ∧ r.r.o ≤ 100000000)) (hlen : r.rs.length ≤ 1000) :
 Calls Tryz.prog 21 #[ringV r A c] w fun e w' => e = .returned (.tuple #[.int .i64 (roomsP r).1, .int .i64 (roomsP r).2]) ∧ Below w.heap.size w w' := by
 refine st_enter (N := 21) Tryz.func21 rfl rfl rfl (fun a0 h0 => ?_)
 have S0 := St.init w
 refine st_seq (st_reg ?_)
 refine nb h0 rfl rfl S0 fun b1 a1 X1 gb1 h1 S1 => ?_
 refine ma h1 rfl rfl fun a2 h2 => ?_
 refine ma h2 rfl rfl fun a3 h3 => ?_
 refine st_nil (go_then (st_seq (st_seq (st_reg ?_))))
 refine vf h3 7 7 rfl rfl rfl fun a4 h4 => ?_
 refine vl h4 S1 0 rfl rfl rfl rfl fun a5 h5 => ?_
 refine sv h5 (ex_len Tryz.underlying24 (h5.ev rfl)) fun a6 h6 => ?_
 refine sv h6 (ex_eql (h6.ev rfl) (h6.ev rfl)) fun a7 h7 => ?_
 refine st_nil (go_then ?_)
 refine st_if (h7.ev rfl) (fun hc0 => ?_) (fun hc0 => ?_)
 ·
  have hnil : r.rs = [] := by simp only [beq_iff_eq] at hc0; exact List.eq_nil_of_length_eq_zero (by omega)
  refine st_seq (st_reg ?_)
  refine ma h7 rfl rfl fun a8 h8 => ?_
  refine ma h8 rfl rfl fun a9 h9 => ?_
  refine st_nil (go_then (wp_ret (ret_then ?_)))
  refine fin2 h9 rfl rfl rfl ?_
  exact ⟨by unfold roomsP; rw [hnil]; rfl, S1.below⟩
 ·
  have hne : r.rs ≠ [] := by intro h; rw [h] at hc0; simp at hc0
  replace ho := ho.resolve_left hne
  have hlast := last_get hne
  obtain ⟨y, hy⟩ : ∃ y, r.rs.getLast? = some y := ⟨_, hlast⟩
  have hyb := hb _ hy
  have hbd := hyb.bd
  refine wp_skip (go_then (st_seq (st_reg ?_)))
  refine vf h7 1 1 rfl rfl rfl fun a10 h10 => ?_
  refine vf h10 2 3 rfl rfl rfl fun a11 h11 => ?_
  refine vl h11 S1 0 rfl rfl rfl rfl fun a12 h12 => ?_
  refine sv h12 (ex_sub (h12.ev rfl) (h12.ev rfl) (by omega)) fun a13 h13 => ?_
  refine sl_pure h13 (wn rfl) (ex_call (fun _ _ => by kernel_rfl) (h13.evs rfl) rfl) rfl rfl (rroom_any _ (by omega) _) fun a14 h14 => ?_
  refine ma h14 rfl rfl fun a15 h15 => ?_
  refine nsr ?_
  refine mv h15 rfl rfl fun a16 h16 => ?_
  refine sv (v := ringV r A c) h16 (ex_loads (by kernel_rfl) (by kernel_rfl) (h16.ev rfl) (S1.cellsAll (i := 0) rfl)) fun a17 h17 => ?_
  refine sl_bel h17 (wn rfl) (ex_call (fun _ _ => by kernel_rfl) (h17.evs rfl) rfl) rfl rfl S1 (rlast_any r A c _ (S1.rd0 hr) y hy hyb hlen) fun a18 X18 h18 S18 => ?_
  refine sl_pure h18 (wn rfl) (ex_call (fun _ _ => by kernel_rfl) (h18.evs rfl) rfl) rfl rfl (rroom_any _ (by omega) _) fun a19 h19 => ?_
  refine mv h19 rfl rfl fun a20 h20 => ?_
  refine sv h20 (ex_sub (h20.ev rfl) (h20.ev rfl) (by omega)) fun a21 h21 => ?_
  refine sv h21 (ex_add (h21.ev rfl) (h21.ev rfl) (by omega)) fun a22 h22 => ?_
  refine ma h22 rfl rfl fun a23 h23 => ?_
  refine ma h23 rfl rfl fun a24 h24 => ?_
  refine st_nil (go_then (wp_ret ?_))
  refine fin2 h24 rfl rfl rfl ?_
  exact ⟨by unfold roomsP; rw [hy], S18.below⟩
theorem rEmpty_any (pg : Int) (w : World) : Calls Tryz.prog 28 #[.int .i64 pg] w fun e w' => e = .returned (ringV ⟨pg, ⟨1, 0, 1⟩, rst0, [], 0⟩ none 0) ∧ Below w.heap.size w w' := by
 refine st_enter (N := 6) Tryz.func28 rfl rfl rfl (fun a0 h0 => ?_)
 have S0 := St.init w
 refine st_seq (st_reg ?_)
 refine na (.agg #[.int .i64 0, .int .i64 0, .int .i64 0, .int .i64 0, .int .i64 0, .int .i64 0, .int .i64 0, .slice none 0 0, .int .i64 0]) h0 rfl S0 fun b2 a1 X1 gb2 h1 S1 => ?_
 refine nsr ?_
 refine mv h1 rfl rfl fun a2 h2 => ?_
 refine sv h2 (ex_build (zs := [.int .i64 0, .int .i64 0, .int .i64 0]) (pl := [(0, 1), (1, 1), (2, 1)]) (by kernel_rfl) (by kernel_rfl) (h2.evs2 rfl) rfl rfl) fun a3 h3 => ?_
 refine sv h3 (ex_build (zs := [.int .i64 0, .int .i64 0, .int .i64 0, .int .i64 0, .int .i64 0, .int .i64 0, .int .i64 0, .slice none 0 0, .int .i64 0]) (pl := [(0, 1), (1, 3), (4, 3), (7, 1), (8, 1)]) (by kernel_rfl) (by kernel_rfl) (h3.evs2 rfl) rfl rfl) fun a4 h4 => ?_
 refine sl_store0 h4 (wn rfl) ⟨rfl, rfl⟩ (h4.ev rfl) (h4.ev rfl) rfl (by kernel_rfl) S1 (i := 0) rfl rfl rfl fun X5 S5 => ?_
 refine st_nil (go_then (wp_ret ?_))
 refine finc h4 rfl rfl S5 (i := 0) rfl (by kernel_rfl) (by kernel_rfl) ?_
 exact ⟨rfl, S5.below⟩
end Go.Proofs.YtmlilplbdpjfcaaGreatDoor
namespace Go.Proofs.YtmlilplbdpjfcaaGreatDoor
set_option linter.unusedVariables false
set_option linter.unusedSimpArgs false
set_option maxRecDepth 4000
open Go.RowKit Go.Sort
theorem rCopy_nil (r : RngP) (A : Option Addr) (c : Nat) (w : World) (hnil : r.rs = []) :
 Calls Tryz.prog 14 #[ringV r A c] w fun e w' => ∃ A' c', e = .returned (ringV r A' c') ∧ w'.ownsRow w.heap.size 98 3 (.slice A' r.rs.length c') r.rs.length (recsV r.rs) ∧ Below w.heap.size w w' := by
 obtain ⟨pg, rr, ee, rs, nx⟩ := r
 have hnil' : rs = [] := hnil
 subst hnil'
 refine st_enter (N := 11) Tryz.func14 rfl rfl rfl (fun a0 h0 => ?_)
 have S0 := St.init w
 refine st_seq (st_reg ?_)
 refine nb h0 rfl rfl S0 fun b1 a1 X1 gb1 h1 S1 => ?_
 refine na (.agg #[.int .i64 0, .int .i64 0, .int .i64 0, .int .i64 0, .int .i64 0, .int .i64 0, .int .i64 0, .slice none 0 0, .int .i64 0]) h1 rfl S1 fun b2 a2 X2 gb2 h2 S2 => ?_
 refine nsr ?_
 refine sv h2 (ex_loads (by kernel_rfl) (by kernel_rfl) (h2.ev rfl) (S2.cellsAll (i := 1) rfl)) fun a3 h3 => ?_
 refine na (.agg #[.int .i64 0, .int .i64 0, .int .i64 0, .int .i64 0, .int .i64 0, .int .i64 0, .int .i64 0, .slice none 0 0, .int .i64 0]) h3 rfl S2 fun b3 a4 X4 gb3 h4 S4 => ?_
 refine sl_store0 h4 (wn rfl) ⟨rfl, rfl⟩ (h4.ev rfl) (h4.ev rfl) rfl (by kernel_rfl) S4 (i := 0) rfl rfl rfl fun X5 S5 => ?_
 refine nsr ?_
 refine sl_bslice (zc := [.int .i64 0, .int .i64 0, .string ⟨#[]⟩]) (sz := 3) h4 (wn rfl) ⟨rfl, rfl⟩ rfl Tryz.underlying24 (by kernel_rfl) (by kernel_rfl) rfl rfl rfl (h4.evs2 rfl) rfl rfl rfl S5 fun b5 a6 X6 gb5 h6 S6 => ?_
 refine vf h6 7 7 rfl rfl rfl fun a7 h7 => ?_
 refine vl h7 S6 3 rfl rfl rfl rfl fun a8 h8 => ?_
 refine sl_append0 (sz := 3) h8 (wn rfl) ⟨rfl, rfl⟩ rfl Tryz.underlying24 (by kernel_rfl) (h8.ev rfl) (h8.ev rfl) fun a9 h9 => ?_
 refine vf h9 7 7 rfl rfl rfl fun a10 h10 => ?_
 refine sl_store h10 (wn rfl) ⟨rfl, rfl⟩ (h10.ev rfl) (h10.ev rfl) rfl (by kernel_rfl) S6 (i := 1) rfl rfl rfl fun X11 S11 => ?_
 refine nsr ?_
 refine sv h10 (ex_loads (by kernel_rfl) (by kernel_rfl) (h10.ev rfl) (S11.cellsAll (i := 1) rfl)) fun a12 h12 => ?_
 refine sl_store0 h12 (wn rfl) ⟨rfl, rfl⟩ (h12.ev rfl) (h12.ev rfl) rfl (by kernel_rfl) S11 (i := 2) rfl rfl rfl fun X13 S13 => ?_
 refine st_nil (go_then (wp_ret ?_))
 refine finc h12 rfl rfl S13 (i := 2) rfl (by kernel_rfl) (by kernel_rfl) ?_
 have q := (S13.toRow (i := 0) (n := 0) (sz := 3) rfl rfl (by decide)).ownB (i := 0) rfl
 exact ⟨some ⟨b5, 0, none⟩, 0, rfl, q, S13.below⟩
theorem rCopy_any (r : RngP) (A : Option Addr) (c : Nat) (w : World) (hr : Rd w w.heap.size A (recsV r.rs)) (hlen : r.rs.length ≤ 1000) :
 Calls Tryz.prog 14 #[ringV r A c] w fun e w' => ∃ A' c', e = .returned (ringV r A' c') ∧ w'.ownsRow w.heap.size 98 3 (.slice A' r.rs.length c') r.rs.length (recsV r.rs) ∧ Below w.heap.size w w' := by
 rcases Nat.eq_zero_or_pos r.rs.length with h0 | h0
 · exact rCopy_nil r A c w (List.eq_nil_of_length_eq_zero h0)
 refine st_enter (N := 11) Tryz.func14 rfl rfl rfl (fun a0 h0 => ?_)
 have S0 := St.init w
 refine st_seq (st_reg ?_)
 refine nb h0 rfl rfl S0 fun b1 a1 X1 gb1 h1 S1 => ?_
 refine na (.agg #[.int .i64 0, .int .i64 0, .int .i64 0, .int .i64 0, .int .i64 0, .int .i64 0, .int .i64 0, .slice none 0 0, .int .i64 0]) h1 rfl S1 fun b2 a2 X2 gb2 h2 S2 => ?_
 refine nsr ?_
 refine sv h2 (ex_loads (by kernel_rfl) (by kernel_rfl) (h2.ev rfl) (S2.cellsAll (i := 1) rfl)) fun a3 h3 => ?_
 refine na (.agg #[.int .i64 0, .int .i64 0, .int .i64 0, .int .i64 0, .int .i64 0, .int .i64 0, .int .i64 0, .slice none 0 0, .int .i64 0]) h3 rfl S2 fun b3 a4 X4 gb3 h4 S4 => ?_
 refine sl_store0 h4 (wn rfl) ⟨rfl, rfl⟩ (h4.ev rfl) (h4.ev rfl) rfl (by kernel_rfl) S4 (i := 0) rfl rfl rfl fun X5 S5 => ?_
 refine nsr ?_
 refine sl_bslice (zc := [.int .i64 0, .int .i64 0, .string ⟨#[]⟩]) (sz := 3) h4 (wn rfl) ⟨rfl, rfl⟩ rfl Tryz.underlying24 (by kernel_rfl) (by kernel_rfl) rfl rfl rfl (h4.evs2 rfl) rfl rfl rfl S5 fun b5 a6 X6 gb5 h6 S6 => ?_
 refine vf h6 7 7 rfl rfl rfl fun a7 h7 => ?_
 refine vl h7 S6 3 rfl rfl rfl rfl fun a8 h8 => ?_
 have S9 := S6.toRow (i := 0) (n := 0) (sz := 3) rfl rfl (by decide)
 refine sl_append (z := .agg #[.int .i64 0, .int .i64 0, .string ⟨#[]⟩]) (sz := 3) (bytes := 32) h8 (wn rfl) ⟨rfl, rfl⟩ rfl Tryz.underlying24 (by kernel_rfl) rfl rfl (h8.ev rfl) (h8.ev rfl) S9 (i := 0) rfl (S9.rd0 hr) (recsV_length r.rs) (recsV_one r.rs) ⟨(by omega), by decide⟩ fun A8 c8 a10 X10 h10 S10 => ?_
 refine vf h10 7 7 rfl rfl rfl fun a11 h11 => ?_
 refine sl_store h11 (wn rfl) ⟨rfl, rfl⟩ (h11.ev rfl) (h11.ev rfl) rfl (by kernel_rfl) S10 (i := 1) rfl rfl rfl fun X12 S12 => ?_
 rw [Nat.zero_add] at S12
 refine nsr ?_
 refine sv h11 (ex_loads (by kernel_rfl) (by kernel_rfl) (h11.ev rfl) (S12.cellsAll (i := 1) rfl)) fun a13 h13 => ?_
 refine sl_store0 h13 (wn rfl) ⟨rfl, rfl⟩ (h13.ev rfl) (h13.ev rfl) rfl (by kernel_rfl) S12 (i := 2) rfl rfl rfl fun X14 S14 => ?_
 refine st_nil (go_then (wp_ret ?_))
 refine finc h13 rfl rfl S14 (i := 2) rfl (by kernel_rfl) (by kernel_rfl) ?_
 exact ⟨A8, c8, rfl, S14.ownB (i := 0) rfl, S14.below⟩
theorem rec_eqL (x y : RecP) : eqL [.int .i64 x.l, .int .i64 x.s, .string x.b] [.int .i64 y.l, .int .i64 y.s, .string y.b] = decide (x = y) := by
 obtain ⟨a, b, c⟩ := x
 obtain ⟨a', b', c'⟩ := y
 rw [Bool.eq_iff_iff]
 simp [eqL, eqV2]
theorem rSame_any (r t : RngP) (A A' : Option Addr) (c c' : Nat) (w : World) (hr : Rd w w.heap.size A (recsV r.rs)) (ht : Rd w w.heap.size A' (recsV t.rs)) (hlen : r.rs.length ≤ 1000) (hlen' : t.rs.length ≤ 1000) :
 Calls Tryz.prog 19 #[ringV r A c, ringV t A' c'] w fun e w' => e = .returned (.bool (decide (r = t))) ∧ Below w.heap.size w w' := by
 refine st_enter (N := 59) Tryz.func19 rfl rfl rfl (fun a0 h0 => ?_)
 have S0 := St.init w
 refine st_seq (st_reg ?_)
 refine nb h0 rfl rfl S0 fun b2 a1 X1 gb2 h1 S1 => ?_
 refine nb h1 rfl rfl S1 fun b3 a2 X2 gb3 h2 S2 => ?_
 refine ma h2 rfl rfl fun a3 h3 => ?_
 refine st_nil (go_then (st_seq (st_seq (st_reg ?_))))
 refine vf h3 0 0 rfl rfl rfl fun a4 h4 => ?_
 refine vl h4 S2 1 rfl rfl rfl rfl fun a5 h5 => ?_
 refine vf h5 0 0 rfl rfl rfl fun a6 h6 => ?_
 refine vl h6 S2 0 rfl rfl rfl rfl fun a7 h7 => ?_
 refine sv h7 (ex_neq (h7.ev rfl) (h7.ev rfl)) fun a8 h8 => ?_
 refine mv h8 rfl rfl fun a9 h9 => ?_
 apply sl_or h9 S2 11 rfl 6 17
 case hf =>
  intro gc11
  refine sy h9 rfl rfl rfl gc11 (ex_field (off := 1) (j := 1) (by kernel_rfl) (h9.ev rfl) rfl) rfl rfl fun a10 h10 => ?_
  refine sl_val (v := rstV r.r) h10 (wanted_yes h10 _ rfl rfl rfl gc11) (ex_loads (by kernel_rfl) (by kernel_rfl) (h10.ev rfl) (S2.cellsOf (i := 1) rfl 1 3)) rfl rfl fun a11 h11 => ?_
  refine sy h11 rfl rfl rfl gc11 (ex_field (off := 1) (j := 1) (by kernel_rfl) (h11.ev rfl) rfl) rfl rfl fun a12 h12 => ?_
  refine sl_val (v := rstV t.r) h12 (wanted_yes h12 _ rfl rfl rfl gc11) (ex_loads (by kernel_rfl) (by kernel_rfl) (h12.ev rfl) (S2.cellsOf (i := 0) rfl 1 3)) rfl rfl fun a13 h13 => ?_
  refine sy h13 rfl rfl rfl gc11 (ex_tneq (ks := [.i .i64, .i .i64, .i .i64]) (by kernel_rfl) Tryz.underlying23 (by kernel_rfl) (h13.ev rfl) (h13.ev rfl) rfl rfl) rfl rfl fun a14 h14 => ?_
  refine sv h14 (ex_pick_f (h14.ev rfl) gc11 (h14.ev rfl)) fun a15 h15 => ?_
  exact st_nil ⟨h15.mid (m := [(_, _), (_, _), (_, _), (_, _), (_, _)]) rfl, S2⟩
 case ht =>
  intro gc11
  refine no h9 rfl rfl rfl gc11 rfl rfl fun a16 h16 => ?_
  refine no h16 rfl rfl rfl gc11 rfl rfl fun a17 h17 => ?_
  refine no h17 rfl rfl rfl gc11 rfl rfl fun a18 h18 => ?_
  refine no h18 rfl rfl rfl gc11 rfl rfl fun a19 h19 => ?_
  refine no h19 rfl rfl rfl gc11 rfl rfl fun a20 h20 => ?_
  refine sv h20 (ex_pick_t (h20.ev rfl) gc11 (h20.ev rfl)) fun a21 h21 => ?_
  exact st_nil ⟨h21.mid (m := [(_, _), (_, _), (_, _), (_, _), (_, _)]) rfl, S2⟩
 case h =>
  rintro a22 X22 ⟨h22, S22⟩
  refine mv h22 rfl rfl fun a23 h23 => ?_
  apply sl_or h23 S22 18 rfl 6 24
  case hf =>
   intro gc18
   refine sy h23 rfl rfl rfl gc18 (ex_field (off := 4) (j := 4) (by kernel_rfl) (h23.ev rfl) rfl) rfl rfl fun a24 h24 => ?_
   refine sl_val (v := rstV r.e) h24 (wanted_yes h24 _ rfl rfl rfl gc18) (ex_loads (by kernel_rfl) (by kernel_rfl) (h24.ev rfl) (S22.cellsOf (i := 1) rfl 4 3)) rfl rfl fun a25 h25 => ?_
   refine sy h25 rfl rfl rfl gc18 (ex_field (off := 4) (j := 4) (by kernel_rfl) (h25.ev rfl) rfl) rfl rfl fun a26 h26 => ?_
   refine sl_val (v := rstV t.e) h26 (wanted_yes h26 _ rfl rfl rfl gc18) (ex_loads (by kernel_rfl) (by kernel_rfl) (h26.ev rfl) (S22.cellsOf (i := 0) rfl 4 3)) rfl rfl fun a27 h27 => ?_
   refine sy h27 rfl rfl rfl gc18 (ex_tneq (ks := [.i .i64, .i .i64, .i .i64]) (by kernel_rfl) Tryz.underlying23 (by kernel_rfl) (h27.ev rfl) (h27.ev rfl) rfl rfl) rfl rfl fun a28 h28 => ?_
   refine sv h28 (ex_pick_f (h28.ev rfl) gc18 (h28.ev rfl)) fun a29 h29 => ?_
   exact st_nil ⟨h29.mid (m := [(_, _), (_, _), (_, _), (_, _), (_, _)]) rfl, S22⟩
  case ht =>
   intro gc18
   refine no h23 rfl rfl rfl gc18 rfl rfl fun a30 h30 => ?_
   refine no h30 rfl rfl rfl gc18 rfl rfl fun a31 h31 => ?_
   refine no h31 rfl rfl rfl gc18 rfl rfl fun a32 h32 => ?_
   refine no h32 rfl rfl rfl gc18 rfl rfl fun a33 h33 => ?_
   refine no h33 rfl rfl rfl gc18 rfl rfl fun a34 h34 => ?_
   refine sv h34 (ex_pick_t (h34.ev rfl) gc18 (h34.ev rfl)) fun a35 h35 => ?_
   exact st_nil ⟨h35.mid (m := [(_, _), (_, _), (_, _), (_, _), (_, _)]) rfl, S22⟩
  case h =>
   rintro a36 X36 ⟨h36, S36⟩
   refine mv h36 rfl rfl fun a37 h37 => ?_
   apply sl_or h37 S36 25 rfl 6 31
   case hf =>
    intro gc25
    refine sy h37 rfl rfl rfl gc25 (ex_field (off := 8) (j := 8) (by kernel_rfl) (h37.ev rfl) rfl) rfl rfl fun a38 h38 => ?_
    refine sy h38 rfl rfl rfl gc25 (ex_load (by kernel_rfl) (h38.ev rfl) (S36.cell (i := 1) rfl rfl)) rfl rfl fun a39 h39 => ?_
    refine sy h39 rfl rfl rfl gc25 (ex_field (off := 8) (j := 8) (by kernel_rfl) (h39.ev rfl) rfl) rfl rfl fun a40 h40 => ?_
    refine sy h40 rfl rfl rfl gc25 (ex_load (by kernel_rfl) (h40.ev rfl) (S36.cell (i := 0) rfl rfl)) rfl rfl fun a41 h41 => ?_
    refine sy h41 rfl rfl rfl gc25 (ex_neq (h41.ev rfl) (h41.ev rfl)) rfl rfl fun a42 h42 => ?_
    refine sv h42 (ex_pick_f (h42.ev rfl) gc25 (h42.ev rfl)) fun a43 h43 => ?_
    exact st_nil ⟨h43.mid (m := [(_, _), (_, _), (_, _), (_, _), (_, _)]) rfl, S36⟩
   case ht =>
    intro gc25
    refine no h37 rfl rfl rfl gc25 rfl rfl fun a44 h44 => ?_
    refine no h44 rfl rfl rfl gc25 rfl rfl fun a45 h45 => ?_
    refine no h45 rfl rfl rfl gc25 rfl rfl fun a46 h46 => ?_
    refine no h46 rfl rfl rfl gc25 rfl rfl fun a47 h47 => ?_
    refine no h47 rfl rfl rfl gc25 rfl rfl fun a48 h48 => ?_
    refine sv h48 (ex_pick_t (h48.ev rfl) gc25 (h48.ev rfl)) fun a49 h49 => ?_
    exact st_nil ⟨h49.mid (m := [(_, _), (_, _), (_, _), (_, _), (_, _)]) rfl, S36⟩
   case h =>
    rintro a50 X50 ⟨h50, S50⟩
    refine mv h50 rfl rfl fun a51 h51 => ?_
    apply sl_or h51 S50 32 rfl 8 40
    case hf =>
     intro gc32
     refine sy h51 rfl rfl rfl gc32 (ex_field (off := 7) (j := 7) (by kernel_rfl) (h51.ev rfl) rfl) rfl rfl fun a52 h52 => ?_
     refine sy h52 rfl rfl rfl gc32 (ex_load (by kernel_rfl) (h52.ev rfl) (S50.cell (i := 1) rfl rfl)) rfl rfl fun a53 h53 => ?_
     refine sy h53 rfl rfl rfl gc32 (ex_len Tryz.underlying24 (h53.ev rfl)) rfl rfl fun a54 h54 => ?_
     refine sy h54 rfl rfl rfl gc32 (ex_field (off := 7) (j := 7) (by kernel_rfl) (h54.ev rfl) rfl) rfl rfl fun a55 h55 => ?_
     refine sy h55 rfl rfl rfl gc32 (ex_load (by kernel_rfl) (h55.ev rfl) (S50.cell (i := 0) rfl rfl)) rfl rfl fun a56 h56 => ?_
     refine sy h56 rfl rfl rfl gc32 (ex_len Tryz.underlying24 (h56.ev rfl)) rfl rfl fun a57 h57 => ?_
     refine sy h57 rfl rfl rfl gc32 (ex_neq (h57.ev rfl) (h57.ev rfl)) rfl rfl fun a58 h58 => ?_
     refine sv h58 (ex_pick_f (h58.ev rfl) gc32 (h58.ev rfl)) fun a59 h59 => ?_
     exact st_nil ⟨h59.mid (m := [(_, _), (_, _), (_, _), (_, _), (_, _), (_, _), (_, _)]) rfl, S50⟩
    case ht =>
     intro gc32
     refine no h51 rfl rfl rfl gc32 rfl rfl fun a60 h60 => ?_
     refine no h60 rfl rfl rfl gc32 rfl rfl fun a61 h61 => ?_
     refine no h61 rfl rfl rfl gc32 rfl rfl fun a62 h62 => ?_
     refine no h62 rfl rfl rfl gc32 rfl rfl fun a63 h63 => ?_
     refine no h63 rfl rfl rfl gc32 rfl rfl fun a64 h64 => ?_
     refine no h64 rfl rfl rfl gc32 rfl rfl fun a65 h65 => ?_
     refine no h65 rfl rfl rfl gc32 rfl rfl fun a66 h66 => ?_
     refine sv h66 (ex_pick_t (h66.ev rfl) gc32 (h66.ev rfl)) fun a67 h67 => ?_
     exact st_nil ⟨h67.mid (m := [(_, _), (_, _), (_, _), (_, _), (_, _), (_, _), (_, _)]) rfl, S50⟩
    case h =>
     rintro a68 X68 ⟨h68, S68⟩
     refine st_nil (go_then ?_)
     refine st_if (h68.ev rfl) (fun hc0 => ?_) (fun hc0 => ?_)
     ·
      have hne : r ≠ t := by
       rintro rfl
       simp only [Bool.or_eq_true, bne_iff_ne] at hc0
       rcases hc0 with (((h | h) | h) | h) | h
       · exact h rfl
       · have e1 : (!eqL [.int .i64 r.r.s, .int .i64 r.r.c, .int .i64 r.r.o] [.int .i64 r.r.s, .int .i64 r.r.c, .int .i64 r.r.o]) = true := h
         rw [rst_eqL] at e1; simp at e1
       · have e1 : (!eqL [.int .i64 r.e.s, .int .i64 r.e.c, .int .i64 r.e.o] [.int .i64 r.e.s, .int .i64 r.e.c, .int .i64 r.e.o]) = true := h
         rw [rst_eqL] at e1; simp at e1
       · exact h rfl
       · exact h rfl
      refine st_seq (st_reg ?_)
      refine ma h68 rfl rfl fun a69 h69 => ?_
      refine st_nil (go_then (wp_ret (ret_then ?_)))
      refine fin1 h69 rfl rfl ?_
      exact ⟨by rw [decide_eq_false hne], S68.below⟩
     ·
      have hq : r.pg = t.pg ∧ r.r = t.r ∧ r.e = t.e ∧ r.nx = t.nx ∧ r.rs.length = t.rs.length := by
       simp only [Bool.or_eq_false_iff, bne_eq_false_iff_eq] at hc0
       obtain ⟨⟨⟨⟨h1, h2⟩, h3⟩, h4⟩, h5⟩ := hc0
       have e1 : (!eqL [.int .i64 r.r.s, .int .i64 r.r.c, .int .i64 r.r.o] [.int .i64 t.r.s, .int .i64 t.r.c, .int .i64 t.r.o]) = false := h2
       have e2 : (!eqL [.int .i64 r.e.s, .int .i64 r.e.c, .int .i64 r.e.o] [.int .i64 t.e.s, .int .i64 t.e.c, .int .i64 t.e.o]) = false := h3
       rw [rst_eqL] at e1 e2
       exact ⟨h1, by simpa using e1, by simpa using e2, h4, by omega⟩
      refine wp_skip (go_then (st_seq (st_seq (st_reg ?_))))
      refine ma h68 rfl rfl fun a70 h70 => ?_
      refine st_nil (go_then (wp_block ?_))
      refine st_loop h70 S68 [3, 2] (fun (k : Nat) => [(5, .int .i64 (k : Int))]) (fun (k : Nat) => k ≤ r.rs.length ∧ r.rs.take k = t.rs.take k) (fun (k : Nat) L => L) (fun (k : Nat) => r.rs.length - k) (0) (⟨Nat.zero_le _, rfl⟩) ⟨rfl, rfl, rfl, trivial⟩ (S68) ?_
      intro k a71 X71 hF0 h71 S71
      refine st_seq (st_seq (st_reg ?_))
      refine mv h71 rfl rfl fun a72 h72 => ?_
      refine vf h72 7 7 rfl rfl rfl fun a73 h73 => ?_
      refine vl h73 S71 1 rfl rfl rfl rfl fun a74 h74 => ?_
      refine sv h74 (ex_len Tryz.underlying24 (h74.ev rfl)) fun a75 h75 => ?_
      refine sv h75 (ex_lss (h75.ev rfl) (h75.ev rfl)) fun a76 h76 => ?_
      refine st_nil (go_then ?_)
      refine st_if (h76.ev rfl) (fun hc1 => ?_) (fun hc1 => ?_)
      ·
       have hlt : k < r.rs.length := by have := of_decide_eq_true hc1; omega
       have hltt : k < t.rs.length := by omega
       obtain ⟨b, o, rfl, _⟩ := hr.opened (by rw [recsV_length]; omega)
       obtain ⟨b', o', rfl, _⟩ := ht.opened (by rw [recsV_length]; omega)
       refine wp_skip (go_then (st_seq (wp_block (st_seq ?_))))
       apply dr_flow h76 [false, false, false, false, false, false, false, false, false, false] _ (by kernel_rfl)
       case h =>
        refine qv h76 (fun X hX => ex_field (off := 7) (j := 7) (by kernel_rfl) (h76.ev rfl) rfl) fun a77 h77 => ?_
        refine qv h77 (fun X hX => ex_load (by kernel_rfl) (h77.ev rfl) ((S71.grow hX).cell (i := 1) rfl rfl)) fun a78 h78 => ?_
        refine qv h78 (fun X hX => ex_move (h78.ev rfl)) fun a79 h79 => ?_
        refine qv h79 (fun X hX => ex_index (i := k) (sz := 3) Tryz.underlying24 (by kernel_rfl) (h79.ev rfl) (h79.ev rfl) (by omega) (by omega) rfl) fun a80 h80 => ?_
        refine qv (v := recV r.rs[k]) h80 (fun X hX => ex_loads (by kernel_rfl) (by kernel_rfl) (h80.ev rfl) (recAt ((S71.grow hX).rd0 hr) hlt)) fun a81 h81 => ?_
        refine qv h81 (fun X hX => ex_field (off := 7) (j := 7) (by kernel_rfl) (h81.ev rfl) rfl) fun a82 h82 => ?_
        refine qv h82 (fun X hX => ex_load (by kernel_rfl) (h82.ev rfl) ((S71.grow hX).cell (i := 0) rfl rfl)) fun a83 h83 => ?_
        refine qv h83 (fun X hX => ex_move (h83.ev rfl)) fun a84 h84 => ?_
        refine qv h84 (fun X hX => ex_index (i := k) (sz := 3) Tryz.underlying24 (by kernel_rfl) (h84.ev rfl) (h84.ev rfl) (by omega) (by omega) rfl) fun a85 h85 => ?_
        refine qv (v := recV t.rs[k]) h85 (fun X hX => ex_loads (by kernel_rfl) (by kernel_rfl) (h85.ev rfl) (recAt ((S71.grow hX).rd0 ht) hltt)) fun a86 h86 => ?_
        refine sq_nil ?_
        refine nd_end fun X87 hX87 hΦ87 => ?_
        have S87 := S71.grow hX87
        refine sv h86 (ex_tneq (ks := [.i .i64, .i .i64, .s]) (by kernel_rfl) Tryz.underlying98 (by kernel_rfl) (h86.ev rfl) (h86.ev rfl) rfl rfl) fun a88 h88 => ?_
        refine st_nil (go_then ?_)
        refine st_if (h88.ev rfl) (fun hc2 => ?_) (fun hc2 => ?_)
        ·
         have hne : r ≠ t := by
          rintro rfl
          have e1 : (!eqL [.int .i64 r.rs[k].l, .int .i64 r.rs[k].s, .string r.rs[k].b] [.int .i64 r.rs[k].l, .int .i64 r.rs[k].s, .string r.rs[k].b]) = true := hc2
          rw [rec_eqL] at e1; simp at e1
         refine st_seq (st_reg ?_)
         refine ma h88 rfl rfl fun a89 h89 => ?_
         refine st_nil (go_then (wp_ret (ret_block (ret_then (ret_then (ret_block (ret_then ?_)))))))
         refine fin1 h89 rfl rfl ?_
         exact ⟨by rw [decide_eq_false hne], S87.below⟩
        ·
         have hek : r.rs[k] = t.rs[k] := by
          have e1 : (!eqL [.int .i64 r.rs[k].l, .int .i64 r.rs[k].s, .string r.rs[k].b] [.int .i64 t.rs[k].l, .int .i64 t.rs[k].s, .string t.rs[k].b]) = false := hc2
          rw [rec_eqL] at e1; simpa using e1
         refine wp_skip (go_block (go_then (st_reg ?_)))
         refine mv h88 rfl rfl fun a90 h90 => ?_
         refine sv h90 (ex_add (h90.ev rfl) (h90.ev rfl) (by omega)) fun a91 h91 => ?_
         refine ma h91 rfl rfl fun a92 h92 => ?_
         refine st_nil (go_then ?_)
         exact ⟨k + 1, (by omega), ⟨hlt, by rw [List.take_add_one, List.take_add_one, hF0.2, List.getElem?_eq_getElem hlt, List.getElem?_eq_getElem hltt, hek]⟩, h92.re ⟨rfl, rfl, rfl, trivial⟩, S87⟩
       case hB => kernel_rfl
       case hst => rfl
      ·
       have hge : k = r.rs.length := by have := of_decide_eq_false hc1; omega
       have heq : r = t := by
        have h1 := hF0.2
        rw [hge, List.take_length, hq.2.2.2.2, List.take_length] at h1
        obtain ⟨p1, p2, p3, p4, p5⟩ := r
        obtain ⟨q1, q2, q3, q4, q5⟩ := t
        obtain ⟨h2, h3, h4, h5, _⟩ := hq
        simp only at h1 h2 h3 h4 h5
        rw [h1, h2, h3, h4, h5]
       refine wp_exit ?_
       refine go_exit_then ?_
       refine go_exit_then ?_
       refine go_exit ?_
       refine go_then (st_seq (st_reg ?_))
       refine ma h76 rfl rfl fun a93 h93 => ?_
       refine st_nil (go_then (wp_ret ?_))
       refine fin1 h93 rfl rfl ?_
       exact ⟨by rw [decide_eq_true heq], S71.below⟩
end Go.Proofs.YtmlilplbdpjfcaaGreatDoor
namespace Go.Proofs.YtmlilplbdpjfcaaGreatDoor
set_option linter.unusedVariables false
set_option linter.unusedSimpArgs false
set_option maxRecDepth 4000
open Go.RowKit Go.Sort
theorem rClosed_any (r : RngP) (A : Option Addr) (c : Nat) (w : World) (hr : Rd w w.heap.size A (recsV r.rs)) (hlen : r.rs.length ≤ 1000) (hnx : 0 ≤ r.nx ∧ r.nx ≤ 200000000) :
 Calls Tryz.prog 18 #[ringV r A c] w fun e w' => ∃ A' c', e = .returned (.tuple #[ringV (cloR r) A' c', .int .i64 (cloE r)]) ∧ w'.ownsRow w.heap.size 98 3 (.slice A' (cloR r).rs.length c') (cloR r).rs.length (recsV (cloR r).rs) ∧ Below w.heap.size w w' := by
 refine st_enter (N := 16) Tryz.func18 rfl rfl rfl (fun a0 h0 => ?_)
 have S0 := St.init w
 refine st_seq (st_reg ?_)
 refine nb h0 rfl rfl S0 fun b1 a1 X1 gb1 h1 S1 => ?_
 refine na (.agg #[.int .i64 0, .int .i64 0, .int .i64 0, .int .i64 0, .int .i64 0, .int .i64 0, .int .i64 0, .slice none 0 0, .int .i64 0]) h1 rfl S1 fun b2 a2 X2 gb2 h2 S2 => ?_
 refine ma h2 rfl rfl fun a3 h3 => ?_
 refine nsr ?_
 refine sv (v := ringV r A c) h3 (ex_loads (by kernel_rfl) (by kernel_rfl) (h3.ev rfl) (S2.cellsAll (i := 1) rfl)) fun a4 h4 => ?_
 refine sl_ownt h4 (wn rfl) (ex_call (fun _ _ => by kernel_rfl) (h4.evs rfl) rfl) rfl rfl S2 (rCopy_any r A c _ (S2.rd0 hr) hlen) (Nat.le_refl _) fun A6 c6 a5 X5 h5 S5 => ?_
 refine na (.agg #[.int .i64 0, .int .i64 0, .int .i64 0, .int .i64 0, .int .i64 0, .int .i64 0, .int .i64 0, .slice none 0 0, .int .i64 0]) h5 rfl S5 fun b4 a6 X6 gb4 h6 S6 => ?_
 refine sl_store0 h6 (wn rfl) ⟨rfl, rfl⟩ (h6.ev rfl) (h6.ev rfl) rfl (by kernel_rfl) S6 (i := 0) rfl rfl rfl fun X7 S7 => ?_
 refine nsr ?_
 refine vf h6 8 8 rfl rfl rfl fun a8 h8 => ?_
 refine vl h8 S7 3 rfl rfl rfl rfl fun a9 h9 => ?_
 refine sl_pure h9 (wn rfl) (ex_call (fun _ _ => by kernel_rfl) (h9.evs rfl) rfl) rfl rfl (rbegin_any _ (by omega) _) fun a10 h10 => ?_
 refine vf h10 8 8 rfl rfl rfl fun a11 h11 => ?_
 refine sl_store h11 (wn rfl) ⟨rfl, rfl⟩ (h11.ev rfl) (h11.ev rfl) rfl (by kernel_rfl) S7 (i := 0) rfl rfl rfl fun X12 S12 => ?_
 refine st_nil (go_then (st_seq (st_seq (st_reg ?_))))
 refine vf h11 8 8 rfl rfl rfl fun a13 h13 => ?_
 refine vl h13 S12 0 rfl rfl rfl rfl fun a14 h14 => ?_
 refine sv h14 (ex_gtr (h14.ev rfl) (h14.ev rfl)) fun a15 h15 => ?_
 refine st_nil (go_then ?_)
 refine st_if (h15.ev rfl) (fun hc0 => ?_) (fun hc0 => ?_)
 ·
  have hf : cloE r = 16 := by
   have h1 : 100000000 < nxtR r.nx := of_decide_eq_true hc0
   unfold cloE; rw [decide_eq_false (by omega)]; rfl
  have e3 : cloR r = rng0 := by unfold cloR; rw [if_neg (by rw [hf]; decide)]
  refine st_seq (st_reg ?_)
  refine sv h15 (ex_build (zs := [.int .i64 0, .int .i64 0, .int .i64 0, .int .i64 0, .int .i64 0, .int .i64 0, .int .i64 0, .slice none 0 0, .int .i64 0]) (pl := [(0, 1), (1, 3), (4, 3), (7, 1), (8, 1)]) (by kernel_rfl) (by kernel_rfl) (h15.evs2 rfl) rfl rfl) fun a16 h16 => ?_
  refine sl_store0 h16 (wn rfl) ⟨rfl, rfl⟩ (h16.ev rfl) (h16.ev rfl) rfl (by kernel_rfl) S12 (i := 2) rfl rfl rfl fun X17 S17 => ?_
  refine ma h16 rfl rfl fun a18 h18 => ?_
  refine st_nil (go_then (wp_ret (ret_then ?_)))
  refine finct h18 rfl rfl rfl S17 (i := 2) rfl (by kernel_rfl) (by kernel_rfl) ?_
  exact ⟨none, 0, by rw [hf, e3]; rfl, by rw [e3]; exact World.ownsRow_nil _ _ _ _, S17.below⟩
 ·
  have hf : cloE r = 0 := by
   have h1 : ¬ 100000000 < nxtR r.nx := of_decide_eq_false hc0
   unfold cloE; rw [decide_eq_true (by omega)]; rfl
  have e3 : cloR r = cloV r := by unfold cloR; rw [if_pos hf]
  refine wp_skip (go_then (st_seq (st_reg ?_)))
  refine sv (v := ringV (cloV r) A6 c6) h15 (ex_loads (by kernel_rfl) (by kernel_rfl) (h15.ev rfl) (S12.cellsAll (i := 0) rfl)) fun a19 h19 => ?_
  refine sl_store0 h19 (wn rfl) ⟨rfl, rfl⟩ (h19.ev rfl) (h19.ev rfl) rfl (by kernel_rfl) S12 (i := 2) rfl rfl rfl fun X20 S20 => ?_
  refine ma h19 rfl rfl fun a21 h21 => ?_
  refine st_nil (go_then (wp_ret ?_))
  refine finct h21 rfl rfl rfl S20 (i := 2) rfl (by kernel_rfl) (by kernel_rfl) ?_
  exact ⟨A6, c6, by rw [hf, e3]; rfl, by rw [e3]; exact S20.ownB (i := 1) rfl, S20.below⟩
theorem rAppended_any (r : RngP) (A : Option Addr) (c : Nat) (s : ByteArray) (w : World) (hr : Rd w w.heap.size A (recsV r.rs)) (hk : OkP r) (hs : s.size ≤ 1000000) :
 Calls Tryz.prog 34 #[ringV r A c, .string s] w fun e w' => ∃ A' c', e = .returned (.tuple #[ringV (appR r s) A' c', .int .i64 (if appE r s = 0 then r.nx + 1 else 0), .int .i64 (appE r s)]) ∧ w'.ownsRow w.heap.size 98 3 (.slice A' (appR r s).rs.length c') (appR r s).rs.length (recsV (appR r s).rs) ∧ Below w.heap.size w w' := by
 have hlen : r.rs.length ≤ 1000 := by have := hk.h.len; omega
 have hnx := hk.h.nx
 have ho := hk.o1
 have hpg := hk.h.pg
 refine st_enter (N := 67) Tryz.func34 rfl rfl rfl (fun a0 h0 => ?_)
 have S0 := St.init w
 refine st_seq (st_reg ?_)
 refine nb h0 rfl rfl S0 fun b2 a1 X1 gb2 h1 S1 => ?_
 refine na (.agg #[.int .i64 0, .int .i64 0, .int .i64 0, .int .i64 0, .int .i64 0, .int .i64 0, .int .i64 0, .slice none 0 0, .int .i64 0]) h1 rfl S1 fun b4 a2 X2 gb4 h2 S2 => ?_
 refine ma h2 rfl rfl fun a3 h3 => ?_
 refine ma h3 rfl rfl fun a4 h4 => ?_
 refine nsr ?_
 refine sv h4 (ex_build (zs := [.int .i64 0, .int .i64 0, .int .i64 0, .int .i64 0, .int .i64 0, .int .i64 0, .int .i64 0, .slice none 0 0, .int .i64 0]) (pl := [(0, 1), (1, 3), (4, 3), (7, 1), (8, 1)]) (by kernel_rfl) (by kernel_rfl) (h4.evs2 rfl) rfl rfl) fun a5 h5 => ?_
 refine na (.agg #[.int .i64 0, .int .i64 0, .int .i64 0, .int .i64 0, .int .i64 0, .int .i64 0, .int .i64 0, .slice none 0 0, .int .i64 0]) h5 rfl S2 fun b7 a6 X6 gb7 h6 S6 => ?_
 refine sl_store0 h6 (wn rfl) ⟨rfl, rfl⟩ (h6.ev rfl) (h6.ev rfl) rfl (by kernel_rfl) S6 (i := 0) rfl rfl rfl fun X7 S7 => ?_
 refine st_nil (go_then (st_seq (st_seq (st_reg ?_))))
 refine mv h6 rfl rfl fun a8 h8 => ?_
 refine sv h8 (ex_slen Tryz.underlying9 (h8.ev rfl)) fun a9 h9 => ?_
 refine sv h9 (ex_eql (h9.ev rfl) (h9.ev rfl)) fun a10 h10 => ?_
 refine st_nil (go_then ?_)
 refine st_if (h10.ev rfl) (fun hc0 => ?_) (fun hc0 => ?_)
 ·
  have hf : appE r s = 17 := by
   have : s.size = 0 := by have := eq_of_beq hc0; omega
   unfold appE; rw [if_pos this]
  have e3 : appR r s = rng0 := by unfold appR; rw [if_neg (by rw [hf]; decide)]
  refine st_seq (st_reg ?_)
  refine sv h10 (ex_loads (by kernel_rfl) (by kernel_rfl) (h10.ev rfl) (S7.cellsAll (i := 0) rfl)) fun a11 h11 => ?_
  refine sl_store0 h11 (wn rfl) ⟨rfl, rfl⟩ (h11.ev rfl) (h11.ev rfl) rfl (by kernel_rfl) S7 (i := 1) rfl rfl rfl fun X12 S12 => ?_
  refine ma h11 rfl rfl fun a13 h13 => ?_
  refine ma h13 rfl rfl fun a14 h14 => ?_
  refine st_nil (go_then (wp_ret (ret_then ?_)))
  refine finctt h14 rfl rfl rfl rfl S12 (i := 1) rfl (by kernel_rfl) (by kernel_rfl) ?_
  exact ⟨none, 0, by rw [hf, e3]; rfl, by rw [e3]; exact World.ownsRow_nil _ _ _ _, S12.below⟩
 ·
  have hs0 : ¬ s.size = 0 := by
   intro h
   rw [h] at hc0; exact absurd hc0 (by decide)
  refine wp_skip (go_then (st_seq (st_seq (st_reg ?_))))
  refine mv h10 rfl rfl fun a15 h15 => ?_
  refine sv h15 (ex_slen Tryz.underlying9 (h15.ev rfl)) fun a16 h16 => ?_
  refine sv h16 (ex_gtr (h16.ev rfl) (h16.ev rfl)) fun a17 h17 => ?_
  refine mv h17 rfl rfl fun a18 h18 => ?_
  apply sl_or h18 S7 19 rfl 5 24
  case hf =>
   intro gc19
   refine sy h18 rfl rfl rfl gc19 (ex_field (off := 7) (j := 7) (by kernel_rfl) (h18.ev rfl) rfl) rfl rfl fun a19 h19 => ?_
   refine sy h19 rfl rfl rfl gc19 (ex_load (by kernel_rfl) (h19.ev rfl) (S7.cell (i := 2) rfl rfl)) rfl rfl fun a20 h20 => ?_
   refine sy h20 rfl rfl rfl gc19 (ex_len Tryz.underlying24 (h20.ev rfl)) rfl rfl fun a21 h21 => ?_
   refine sy h21 rfl rfl rfl gc19 (ex_geq (h21.ev rfl) (h21.ev rfl)) rfl rfl fun a22 h22 => ?_
   refine sv h22 (ex_pick_f (h22.ev rfl) gc19 (h22.ev rfl)) fun a23 h23 => ?_
   exact st_nil ⟨h23.mid (m := [(_, _), (_, _), (_, _), (_, _)]) rfl, S7⟩
  case ht =>
   intro gc19
   refine no h18 rfl rfl rfl gc19 rfl rfl fun a24 h24 => ?_
   refine no h24 rfl rfl rfl gc19 rfl rfl fun a25 h25 => ?_
   refine no h25 rfl rfl rfl gc19 rfl rfl fun a26 h26 => ?_
   refine no h26 rfl rfl rfl gc19 rfl rfl fun a27 h27 => ?_
   refine sv h27 (ex_pick_t (h27.ev rfl) gc19 (h27.ev rfl)) fun a28 h28 => ?_
   exact st_nil ⟨h28.mid (m := [(_, _), (_, _), (_, _), (_, _)]) rfl, S7⟩
  case h =>
   rintro a29 X29 ⟨h29, S29⟩
   refine st_nil (go_then ?_)
   refine st_if (h29.ev rfl) (fun hc1 => ?_) (fun hc1 => ?_)
   ·
    have hf : appE r s = 8 := by
     unfold appE; rw [if_neg hs0]
     by_cases h : 3000 < s.size
     · rw [if_pos h]
     · rw [if_neg h, if_pos]
       have hd : decide ((s.size : Int) > 3000) = false := by rw [decide_eq_false_iff_not]; omega
       rw [hd, Bool.false_or, decide_eq_true_eq] at hc1
       omega
    have e3 : appR r s = rng0 := by unfold appR; rw [if_neg (by rw [hf]; decide)]
    refine st_seq (st_reg ?_)
    refine sv h29 (ex_loads (by kernel_rfl) (by kernel_rfl) (h29.ev rfl) (S29.cellsAll (i := 0) rfl)) fun a30 h30 => ?_
    refine sl_store0 h30 (wn rfl) ⟨rfl, rfl⟩ (h30.ev rfl) (h30.ev rfl) rfl (by kernel_rfl) S29 (i := 1) rfl rfl rfl fun X31 S31 => ?_
    refine ma h30 rfl rfl fun a32 h32 => ?_
    refine ma h32 rfl rfl fun a33 h33 => ?_
    refine st_nil (go_then (wp_ret (ret_then ?_)))
    refine finctt h33 rfl rfl rfl rfl S31 (i := 1) rfl (by kernel_rfl) (by kernel_rfl) ?_
    exact ⟨none, 0, by rw [hf, e3]; rfl, by rw [e3]; exact World.ownsRow_nil _ _ _ _, S31.below⟩
   ·
    have hz : s.size ≤ 3000 ∧ r.rs.length < 100 := by
     rw [Bool.or_eq_false_iff, decide_eq_false_iff_not, decide_eq_false_iff_not] at hc1
     omega
    have hsz := szR_in hz.1
    have hbf : Bfr ⟨r.nx + 1, r.r.s, s⟩ := ⟨by show 1 ≤ r.nx + 1; omega, by show r.nx + 1 ≤ 500000000; omega, hz.1⟩
    have e1 : r.rs.length + 1 = (r.rs ++ [(⟨r.nx + 1, r.r.s, s⟩ : RecP)]).length := by simp
    refine wp_skip (go_then (st_seq (st_reg ?_)))
    refine sv (v := ringV r A c) h29 (ex_loads (by kernel_rfl) (by kernel_rfl) (h29.ev rfl) (S29.cellsAll (i := 2) rfl)) fun a34 h34 => ?_
    refine sl_ownt h34 (wn rfl) (ex_call (fun _ _ => by kernel_rfl) (h34.evs rfl) rfl) rfl rfl S29 (rCopy_any r A c _ (S29.rd0 hr) hlen) (Nat.le_refl _) fun A27 c27 a35 X35 h35 S35 => ?_
    refine na (.agg #[.int .i64 0, .int .i64 0, .int .i64 0, .int .i64 0, .int .i64 0, .int .i64 0, .int .i64 0, .slice none 0 0, .int .i64 0]) h35 rfl S35 fun b8 a36 X36 gb8 h36 S36 => ?_
    refine sl_store0 h36 (wn rfl) ⟨rfl, rfl⟩ (h36.ev rfl) (h36.ev rfl) rfl (by kernel_rfl) S36 (i := 0) rfl rfl rfl fun X37 S37 => ?_
    refine nsr ?_
    refine vf h36 7 7 rfl rfl rfl fun a38 h38 => ?_
    refine vl h38 S37 0 rfl rfl rfl rfl fun a39 h39 => ?_
    refine vf h39 8 8 rfl rfl rfl fun a40 h40 => ?_
    refine vl h40 S37 4 rfl rfl rfl rfl fun a41 h41 => ?_
    refine sv h41 (ex_add (h41.ev rfl) (h41.ev rfl) (by omega)) fun a42 h42 => ?_
    refine vf h42 1 1 rfl rfl rfl fun a43 h43 => ?_
    refine vf h43 0 1 rfl rfl rfl fun a44 h44 => ?_
    refine vl h44 S37 4 rfl rfl rfl rfl fun a45 h45 => ?_
    refine mv h45 rfl rfl fun a46 h46 => ?_
    refine sv (v := recV ⟨r.nx + 1, r.r.s, s⟩) h46 (ex_build (zs := [.int .i64 0, .int .i64 0, .string ⟨#[]⟩]) (pl := [(0, 1), (1, 1), (2, 1)]) (by kernel_rfl) (by kernel_rfl) (h46.evs2 rfl) rfl rfl) fun a47 h47 => ?_
    refine sl_bslice (cs := recC ⟨r.nx + 1, r.r.s, s⟩) (zc := [.int .i64 0, .int .i64 0, .string ⟨#[]⟩]) (sz := 3) h47 (wn rfl) ⟨rfl, rfl⟩ rfl Tryz.underlying24 (by kernel_rfl) (by kernel_rfl) rfl rfl rfl (h47.evs2 rfl) rfl rfl rfl S37 fun b38 a48 X48 gb38 h48 S48 => ?_
    refine sl_append (z := .agg #[.int .i64 0, .int .i64 0, .string ⟨#[]⟩]) (sz := 3) (bytes := 32) h48 (wn rfl) ⟨rfl, rfl⟩ rfl Tryz.underlying24 (by kernel_rfl) rfl rfl (h48.ev rfl) (h48.ev rfl) S48 (i := 2) rfl (S48.boxRd (i := 0) rfl) rfl (List.all_eq_true.1 rfl) ⟨(by omega), by decide⟩ fun A39 c39 a49 X49 h49 S49 => ?_
    refine vf h49 7 7 rfl rfl rfl fun a50 h50 => ?_
    refine sl_store h50 (wn rfl) ⟨rfl, rfl⟩ (h50.ev rfl) (h50.ev rfl) rfl (by kernel_rfl) S49 (i := 1) rfl rfl rfl fun X51 S51 => ?_
    rw [e1] at h50 S51
    refine nsr ?_
    refine vf h50 8 8 rfl rfl rfl fun a52 h52 => ?_
    refine vl h52 S51 5 rfl rfl rfl rfl fun a53 h53 => ?_
    refine mv h53 rfl rfl fun a54 h54 => ?_
    refine sv h54 (ex_slen Tryz.underlying9 (h54.ev rfl)) fun a55 h55 => ?_
    refine sl_pure h55 (wn rfl) (ex_call (fun _ _ => by kernel_rfl) (h55.evs rfl) rfl) rfl rfl (rBehind_any _ _ (by omega) _) fun a56 h56 => ?_
    refine vf h56 8 8 rfl rfl rfl fun a57 h57 => ?_
    refine sl_store h57 (wn rfl) ⟨rfl, rfl⟩ (h57.ev rfl) (h57.ev rfl) rfl (by kernel_rfl) S51 (i := 1) rfl rfl rfl fun X58 S58 => ?_
    refine st_nil (go_then (st_seq (st_seq (st_reg ?_))))
    refine sv (v := ringV (appV r s) A39 c39) h57 (ex_loads (by kernel_rfl) (by kernel_rfl) (h57.ev rfl) (S58.cellsAll (i := 1) rfl)) fun a59 h59 => ?_
    refine sl_bel h59 (wn rfl) (ex_call (fun _ _ => by kernel_rfl) (h59.evs rfl) rfl) rfl rfl S58 (rRooms_any (appV r s) A39 c39 _ (by have q := S58.rdOf (i := 2) rfl; exact (by unfold appV; rw [recsV_append]; exact q)) (fun y hy => by (have : y = ⟨r.nx + 1, r.r.s, s⟩ := by unfold appV at hy; simpa using hy.symm); rw [this]; exact hbf) (.inr ho) (by unfold appV; simp; omega)) fun a60 X60 h60 S60 => ?_
    refine mv h60 rfl rfl fun a61 h61 => ?_
    refine vx h61 rfl rfl rfl fun a62 h62 => ?_
    refine vx h62 rfl rfl rfl fun a63 h63 => ?_
    refine ma h63 rfl rfl fun a64 h64 => ?_
    refine ma h64 rfl rfl fun a65 h65 => ?_
    refine nsr ?_
    refine mv h65 rfl rfl fun a66 h66 => ?_
    refine vf h66 0 0 rfl rfl rfl fun a67 h67 => ?_
    refine vl h67 S60 5 rfl rfl rfl rfl fun a68 h68 => ?_
    refine sv h68 (ex_sub (h68.ev rfl) (h68.ev rfl) (by omega)) fun a69 h69 => ?_
    refine sv h69 (ex_gtr (h69.ev rfl) (h69.ev rfl)) fun a70 h70 => ?_
    refine mv h70 rfl rfl fun a71 h71 => ?_
    apply sl_or h71 S60 57 rfl 4 61
    case hf =>
     intro gc57
     refine sy h71 rfl rfl rfl gc57 (ex_field (off := 8) (j := 8) (by kernel_rfl) (h71.ev rfl) rfl) rfl rfl fun a72 h72 => ?_
     refine sy h72 rfl rfl rfl gc57 (ex_load (by kernel_rfl) (h72.ev rfl) (S60.cell (i := 1) rfl rfl)) rfl rfl fun a73 h73 => ?_
     refine sy h73 rfl rfl rfl gc57 (ex_gtr (h73.ev rfl) (h73.ev rfl)) rfl rfl fun a74 h74 => ?_
     refine sv h74 (ex_pick_f (h74.ev rfl) gc57 (h74.ev rfl)) fun a75 h75 => ?_
     exact st_nil ⟨h75.mid (m := [(_, _), (_, _), (_, _)]) rfl, S60⟩
    case ht =>
     intro gc57
     refine no h71 rfl rfl rfl gc57 rfl rfl fun a76 h76 => ?_
     refine no h76 rfl rfl rfl gc57 rfl rfl fun a77 h77 => ?_
     refine no h77 rfl rfl rfl gc57 rfl rfl fun a78 h78 => ?_
     refine sv h78 (ex_pick_t (h78.ev rfl) gc57 (h78.ev rfl)) fun a79 h79 => ?_
     exact st_nil ⟨h79.mid (m := [(_, _), (_, _), (_, _)]) rfl, S60⟩
    case h =>
     rintro a80 X80 ⟨h80, S80⟩
     refine st_nil (go_then ?_)
     refine st_if (h80.ev rfl) (fun hc2 => ?_) (fun hc2 => ?_)
     ·
      have hf : appE r s = 16 := by
       unfold appE
       rw [if_neg hs0, if_neg (by omega), if_neg (by omega)]
       exact if_pos (show r.pg - 2 < (roomsP (appV r s)).2 ∨ 100000000 < r.nx + szR s.size by simpa [Bool.or_eq_true] using hc2)
      have e3 : appR r s = rng0 := by unfold appR; rw [if_neg (by rw [hf]; decide)]
      refine st_seq (st_reg ?_)
      refine sv h80 (ex_loads (by kernel_rfl) (by kernel_rfl) (h80.ev rfl) (S80.cellsAll (i := 3) rfl)) fun a81 h81 => ?_
      refine sl_store0 h81 (wn rfl) ⟨rfl, rfl⟩ (h81.ev rfl) (h81.ev rfl) rfl (by kernel_rfl) S80 (i := 4) rfl rfl rfl fun X82 S82 => ?_
      refine ma h81 rfl rfl fun a83 h83 => ?_
      refine ma h83 rfl rfl fun a84 h84 => ?_
      refine st_nil (go_then (wp_ret (ret_then ?_)))
      refine finctt h84 rfl rfl rfl rfl S82 (i := 4) rfl (by kernel_rfl) (by kernel_rfl) ?_
      exact ⟨none, 0, by rw [hf, e3]; rfl, by rw [e3]; exact World.ownsRow_nil _ _ _ _, S82.below⟩
     ·
      have hf : appE r s = 0 := by
       unfold appE
       rw [if_neg hs0, if_neg (by omega), if_neg (by omega)]
       exact if_neg (show ¬ (r.pg - 2 < (roomsP (appV r s)).2 ∨ 100000000 < r.nx + szR s.size) by simpa [Bool.or_eq_false_iff, not_or] using hc2)
      have e3 : appR r s = appV r s := by unfold appR; rw [if_pos hf]
      refine wp_skip (go_then (st_seq ?_))
      apply dr_flowA (m := 4) h80 (St.domAt S80 (i := 4) rfl) 0 [false, false, false, false, true] _ (by kernel_rfl)
      case h =>
       refine qv (v := ringV (appV r s) A39 c39) h80 (fun X hX => ex_loads (by kernel_rfl) (by kernel_rfl) (h80.ev rfl) ((S80.growO (i := 4) rfl hX).cellsAll (i := 1) rfl)) fun a85 h85 => ?_
       refine qv h85 (fun X hX => ex_field (off := 8) (j := 8) (by kernel_rfl) (h85.ev rfl) rfl) fun a86 h86 => ?_
       refine qv h86 (fun X hX => ex_load (by kernel_rfl) (h86.ev rfl) ((S80.growO (i := 4) rfl hX).cell (i := 5) rfl rfl)) fun a87 h87 => ?_
       refine qv h87 (fun X hX => ex_add (h87.ev rfl) (h87.ev rfl) (by omega)) fun a88 h88 => ?_
       refine sq_nil ?_
       apply na_store (k := 4) (deps := []) (R := IsBox _ _ _) h88 rfl rfl IsBox.stable (fun X hX hΦ => lv_store0 rfl (h88.ev rfl) (h88.ev rfl) rfl (by kernel_rfl) ((S80.grow hX).at_ (i := 4) rfl) rfl rfl)
       intro vs4
       refine na_end fun X89 hX89 hΦ89 => ?_
       have S89 := S80.growBox (i := 4) (v := vs4) rfl hX89 (told_all hΦ89 (k := 4) rfl)
       refine ma h88 rfl rfl fun a90 h90 => ?_
       refine ma h90 rfl rfl fun a91 h91 => ?_
       refine st_nil (go_then (wp_ret ?_))
       refine finctt h91 rfl rfl rfl rfl S89 (i := 4) rfl (by kernel_rfl) (by kernel_rfl) ?_
       refine ⟨A39, c39, by rw [hf, e3]; rfl, ?_, S89.below⟩
       rw [e3]
       have q := S89.ownB (i := 2) rfl
       have e4 : recsV (appV r s).rs = recsV r.rs ++ recsV [(⟨r.nx + 1, r.r.s, s⟩ : RecP)] := recsV_append _ _
       rw [e4]; exact q
      case hB => kernel_rfl
      case hst => rfl
theorem firstE_c (a : Int) (l : List Int) : firstE (a :: l) = if a = 0 then firstE l else a := by
 by_cases h : a = 0
 · rw [if_pos h, h]; rfl
 · rw [if_neg h]; simp [firstE, h]
end Go.Proofs.YtmlilplbdpjfcaaGreatDoor
