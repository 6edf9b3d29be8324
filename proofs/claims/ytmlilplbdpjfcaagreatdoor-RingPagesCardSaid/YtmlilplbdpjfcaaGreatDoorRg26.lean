/-
  Chapter 20: the reference's restart areas and records.
-/
import Derived.Test.YtmlilplbdpjfcaaGreatDoorRg25
namespace Go.Proofs.YtmlilplbdpjfcaaGreatDoor
set_option linter.unusedVariables false
set_option linter.unusedSimpArgs false
set_option maxRecDepth 4000
open Go.RowKit Go.Sort
theorem cat_lt {a b : List UInt8} (h : a.length + b.length < 1000000) : (bs a).size + (bs b).size < 9223372036854775808 := by rw [bs_size, bs_size]; omega
theorem rRestartPage_any (x : RstP) (pg : Int) (hs : 0 ≤ x.s ∧ x.s < 9223372036854775000) (hc : 0 ≤ x.c ∧ x.c < 9223372036854775808) (ho : 0 ≤ x.o ∧ x.o < 9223372036854775808) (hp : 0 ≤ pg ∧ pg < 9223372036854775808) (w : World) :
 Calls Tryz.prog 39 #[rstV x, .int .i64 pg] w fun e w' => e = .returned (.string (bs (rsL x pg))) ∧ Below w.heap.size w w' := by
 have hZ : ∀ n w, n ≤ 200000 → Calls Tryz.prog 56 #[.int .i64 (n : Nat)] w fun e w' => e = .returned (.string (bs (zerosL n))) ∧ Below w.heap.size w w' := fun n w h => Zeros_any n w h
 have hl22 : ((((([82, 83, 84, 82] ++ zerosL 4) ++ lit x.s 4) ++ lit x.c 4) ++ lit x.o 4) ++ lit pg 2).length = 22 := by simp [zerosL_length, lit_length]
 have hs22 : (bs ((((([82, 83, 84, 82] ++ zerosL 4) ++ lit x.s 4) ++ lit x.c 4) ++ lit x.o 4) ++ lit pg 2)).size = 22 := by rw [bs_size, hl22]
 have hrs : ((((([82, 83, 84, 82] ++ zerosL 4) ++ lit x.s 4) ++ lit x.c 4) ++ lit x.o 4) ++ lit pg 2) ++ zerosL 490 = rsH x pg := by unfold rsH; simp only [List.append_assoc]
 refine st_enter (N := 34) Tryz.func39 rfl rfl rfl (fun a0 h0 => ?_)
 have S0 := St.init w
 refine st_seq (st_reg ?_)
 refine sl_new h0 (wn rfl) (f := fun b => .pointer (some ⟨b, 0, none⟩)) (ex_box (h0.ev rfl)) rfl rfl S0 fun b2 a1 X1 gb2 h1 S1 => ?_
 refine ma h1 rfl rfl fun a2 h2 => ?_
 refine st_nil (go_then (st_seq ?_))
 apply dr_flow h2 [false, false, false, false, false, false, false, false, false, false, false, false, false, false, false, false] _ (by kernel_rfl)
 case h =>
  refine sq_bel h2 (wn rfl) rfl rfl (fun X => (ex_call (fun _ _ => by kernel_rfl) (h2.evs rfl) rfl)) (fun X hX => hZ 4 _ (by decide)) fun a3 h3 => ?_
  refine qv h3 (fun X hX => as_val (v' := .string (bs ([82, 83, 84, 82] ++ zerosL 4))) (congrArg _ (bs_app _ _)) (ex_sadd (h3.ev rfl) (h3.ev rfl) (cat_lt (by simp [zerosL_length, lit_length, bl_length]; try omega)))) fun a4 h4 => ?_
  refine qv h4 (fun X hX => ex_field (off := 0) (j := 0) (by kernel_rfl) (h4.ev rfl) rfl) fun a5 h5 => ?_
  refine qv h5 (fun X hX => ex_load (by kernel_rfl) (h5.ev rfl) ((S1.grow hX).cell (i := 0) rfl rfl)) fun a6 h6 => ?_
  refine sq_bel h6 (wn rfl) rfl rfl (fun X => (ex_call (fun _ _ => by kernel_rfl) (h6.evs rfl) rfl)) (fun X hX => Little_any _ 4 (by omega) (by omega) (by decide) _) fun a7 h7 => ?_
  refine qv h7 (fun X hX => as_val (v' := .string (bs (([82, 83, 84, 82] ++ zerosL 4) ++ lit x.s 4))) (congrArg _ (bs_app _ _)) (ex_sadd (h7.ev rfl) (h7.ev rfl) (cat_lt (by simp [zerosL_length, lit_length, bl_length]; try omega)))) fun a8 h8 => ?_
  refine qv h8 (fun X hX => ex_field (off := 1) (j := 1) (by kernel_rfl) (h8.ev rfl) rfl) fun a9 h9 => ?_
  refine qv h9 (fun X hX => ex_load (by kernel_rfl) (h9.ev rfl) ((S1.grow hX).cell (i := 0) rfl rfl)) fun a10 h10 => ?_
  refine sq_bel h10 (wn rfl) rfl rfl (fun X => (ex_call (fun _ _ => by kernel_rfl) (h10.evs rfl) rfl)) (fun X hX => Little_any _ 4 (by omega) (by omega) (by decide) _) fun a11 h11 => ?_
  refine qv h11 (fun X hX => as_val (v' := .string (bs ((([82, 83, 84, 82] ++ zerosL 4) ++ lit x.s 4) ++ lit x.c 4))) (congrArg _ (bs_app _ _)) (ex_sadd (h11.ev rfl) (h11.ev rfl) (cat_lt (by simp [zerosL_length, lit_length, bl_length]; try omega)))) fun a12 h12 => ?_
  refine qv h12 (fun X hX => ex_field (off := 2) (j := 2) (by kernel_rfl) (h12.ev rfl) rfl) fun a13 h13 => ?_
  refine qv h13 (fun X hX => ex_load (by kernel_rfl) (h13.ev rfl) ((S1.grow hX).cell (i := 0) rfl rfl)) fun a14 h14 => ?_
  refine sq_bel h14 (wn rfl) rfl rfl (fun X => (ex_call (fun _ _ => by kernel_rfl) (h14.evs rfl) rfl)) (fun X hX => Little_any _ 4 (by omega) (by omega) (by decide) _) fun a15 h15 => ?_
  refine qv h15 (fun X hX => as_val (v' := .string (bs (((([82, 83, 84, 82] ++ zerosL 4) ++ lit x.s 4) ++ lit x.c 4) ++ lit x.o 4))) (congrArg _ (bs_app _ _)) (ex_sadd (h15.ev rfl) (h15.ev rfl) (cat_lt (by simp [zerosL_length, lit_length, bl_length]; try omega)))) fun a16 h16 => ?_
  refine qv h16 (fun X hX => ex_move (h16.ev rfl)) fun a17 h17 => ?_
  refine sq_bel h17 (wn rfl) rfl rfl (fun X => (ex_call (fun _ _ => by kernel_rfl) (h17.evs rfl) rfl)) (fun X hX => Little_any _ 2 (by omega) (by omega) (by decide) _) fun a18 h18 => ?_
  refine sq_nil ?_
  refine nd_end fun X19 hX19 hΦ19 => ?_
  have S19 := S1.grow hX19
  refine sv h18 (as_val (v' := .string (bs ((((([82, 83, 84, 82] ++ zerosL 4) ++ lit x.s 4) ++ lit x.c 4) ++ lit x.o 4) ++ lit pg 2))) (congrArg _ (bs_app _ _)) (ex_sadd (h18.ev rfl) (h18.ev rfl) (cat_lt (by simp [zerosL_length, lit_length, bl_length]; try omega)))) fun a20 h20 => ?_
  refine ma h20 rfl rfl fun a21 h21 => ?_
  refine st_nil (go_then (st_seq ?_))
  apply dr_flow h21 [false, false, false, false, false, false, false, false, false, false] _ (by kernel_rfl)
  case h =>
   refine qv h21 (fun X hX => ex_move (h21.ev rfl)) fun a22 h22 => ?_
   refine qv h22 (fun X hX => ex_move (h22.ev rfl)) fun a23 h23 => ?_
   refine qv h23 (fun X hX => ex_slen Tryz.underlying9 (h23.ev rfl)) fun a24 h24 => ?_
   refine qv h24 (fun X hX => as_val (v' := .int .i64 ((490 : Nat) : Int)) (congrArg _ (by rw [hs22]; rfl)) (ex_sub (h24.ev rfl) (h24.ev rfl) (by omega))) fun a25 h25 => ?_
   refine sq_bel h25 (wn rfl) rfl rfl (fun X => (ex_call (fun _ _ => by kernel_rfl) (h25.evs rfl) rfl)) (fun X hX => hZ 490 _ (by decide)) fun a26 h26 => ?_
   refine qv h26 (fun X hX => as_val (v' := .string (bs (rsH x pg))) (congrArg _ (by rw [bs_app, hrs])) (ex_sadd (h26.ev rfl) (h26.ev rfl) (cat_lt (by rw [hl22, zerosL_length]; omega)))) fun a27 h27 => ?_
   refine qv h27 (fun X hX => ex_field (off := 0) (j := 0) (by kernel_rfl) (h27.ev rfl) rfl) fun a28 h28 => ?_
   refine qv h28 (fun X hX => ex_load (by kernel_rfl) (h28.ev rfl) ((S19.grow hX).cell (i := 0) rfl rfl)) fun a29 h29 => ?_
   refine qv h29 (fun X hX => ex_rem (h29.ev rfl) (h29.ev rfl) (by omega)) fun a30 h30 => ?_
   refine qv h30 (fun X hX => ex_add (h30.ev rfl) (h30.ev rfl) (by omega)) fun a31 h31 => ?_
   refine sq_nil ?_
   refine nd_end fun X32 hX32 hΦ32 => ?_
   have S32 := S19.grow hX32
   refine sl_bel h31 (wn rfl) (ex_call (fun _ _ => by kernel_rfl) (h31.evs rfl) rfl) rfl rfl S32 (Protected_l _ _ (rsH_length x pg) (by omega) _) fun a33 X33 h33 S33 => ?_
   refine ma h33 rfl rfl fun a34 h34 => ?_
   refine st_nil (go_then (wp_ret ?_))
   refine fin1 h34 rfl rfl ?_
   exact ⟨rfl, S33.below⟩
  case hB => kernel_rfl
  case hst => rfl
 case hB => kernel_rfl
 case hst => rfl
attribute [local irreducible] nAt opL
end Go.Proofs.YtmlilplbdpjfcaaGreatDoor
