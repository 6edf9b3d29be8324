/-
  Chapter 20: the reference's restart areas and records.
-/
import Derived.Test.YtmlilplbdpjfcaaGreatDoorRg25
namespace Go.Proofs.YtmlilplbdpjfcaaGreatDoor
set_option linter.unusedVariables false
set_option linter.unusedSimpArgs false
set_option maxRecDepth 4000
open Go.RowKit Go.Sort
theorem cat_lt {a b : List UInt8} (h : a.length + b.length < 1000000) : (bs a).size + (bs b).size < 9223372036854775808 := by rw [bs_size, bs_size]; omega
theorem rRestartPage_any (x : RstP) (pg : Int) (hs : 0 ≤ x.s ∧ x.s < 9223372036854775000) (hc : 0 ≤ x.c ∧ x.c < 9223372036854775808) (ho : 0 ≤ x.o ∧ x.o < 9223372036854775808) (hp : 0 ≤ pg ∧ pg < 9223372036854775808) (w : World) :
    Calls Tryz.prog 39 #[rstV x, .int .i64 pg] w fun e w' => e = .returned (.string (bs (rsL x pg))) ∧ Below w.heap.size w w' := by
  have hZ : ∀ n w, n ≤ 200000 → Calls Tryz.prog 56 #[.int .i64 (n : Nat)] w fun e w' => e = .returned (.string (bs (zerosL n))) ∧ Below w.heap.size w w' := fun n w h => Zeros_any n w h
  have hl22 : ((((([82, 83, 84, 82] ++ zerosL 4) ++ lit x.s 4) ++ lit x.c 4) ++ lit x.o 4) ++ lit pg 2).length = 22 := by simp [zerosL_length, lit_length]
  have hs22 : (bs ((((([82, 83, 84, 82] ++ zerosL 4) ++ lit x.s 4) ++ lit x.c 4) ++ lit x.o 4) ++ lit pg 2)).size = 22 := by rw [bs_size, hl22]
  have hrs : ((((([82, 83, 84, 82] ++ zerosL 4) ++ lit x.s 4) ++ lit x.c 4) ++ lit x.o 4) ++ lit pg 2) ++ zerosL 490 = rsH x pg := by unfold rsH; simp only [List.append_assoc]
  refine st_enter (N := 34) Tryz.func39 rfl rfl rfl (fun a0 h0 => ?_)
  have S0 := St.init w
  refine st_seq (st_reg ?_)
  refine sl_new h0 (wn rfl) (f := fun b => .pointer (some ⟨b, 0, none⟩)) (ex_box (h0.ev rfl)) rfl rfl S0 fun b2 a1 X1 gb2 h1 S1 => ?_
  refine ma h1 rfl rfl fun a2 h2 => ?_
  refine st_nil (go_then (st_seq ?_))
  apply dr_flow h2 [false, false, false, false, false, false, false, false, false, false, false, false, false, false, false, false] _ (by kernel_rfl)
  case h =>
   refine sq_bel h2 (wn rfl) rfl rfl (fun X => (ex_call (fun _ _ => by kernel_rfl) (h2.evs rfl) rfl)) (fun X hX => hZ 4 _ (by decide)) fun a3 h3 => ?_
   refine sq_val h3 (wn rfl) rfl rfl (fun X hX => (as_val (v' := .string (bs ([82, 83, 84, 82] ++ zerosL 4))) (congrArg _ (bs_app _ _)) (ex_sadd (h3.ev rfl) (h3.ev rfl) (cat_lt (by simp [zerosL_length, lit_length, bl_length]; try omega))))) fun a4 h4 => ?_
   refine sq_val h4 (wn rfl) rfl rfl (fun X hX => (ex_field (off := 0) (j := 0) (by kernel_rfl) (h4.ev rfl) rfl)) fun a5 h5 => ?_
   refine sq_val h5 (wn rfl) rfl rfl (fun X hX => (ex_load (by kernel_rfl) (h5.ev rfl) ((S1.grow hX).cell (i := 0) rfl rfl))) fun a6 h6 => ?_
   refine sq_bel h6 (wn rfl) rfl rfl (fun X => (ex_call (fun _ _ => by kernel_rfl) (h6.evs rfl) rfl)) (fun X hX => Little_any _ 4 (by omega) (by omega) (by decide) _) fun a7 h7 => ?_
   refine sq_val h7 (wn rfl) rfl rfl (fun X hX => (as_val (v' := .string (bs (([82, 83, 84, 82] ++ zerosL 4) ++ lit x.s 4))) (congrArg _ (bs_app _ _)) (ex_sadd (h7.ev rfl) (h7.ev rfl) (cat_lt (by simp [zerosL_length, lit_length, bl_length]; try omega))))) fun a8 h8 => ?_
   refine sq_val h8 (wn rfl) rfl rfl (fun X hX => (ex_field (off := 1) (j := 1) (by kernel_rfl) (h8.ev rfl) rfl)) fun a9 h9 => ?_
   refine sq_val h9 (wn rfl) rfl rfl (fun X hX => (ex_load (by kernel_rfl) (h9.ev rfl) ((S1.grow hX).cell (i := 0) rfl rfl))) fun a10 h10 => ?_
   refine sq_bel h10 (wn rfl) rfl rfl (fun X => (ex_call (fun _ _ => by kernel_rfl) (h10.evs rfl) rfl)) (fun X hX => Little_any _ 4 (by omega) (by omega) (by decide) _) fun a11 h11 => ?_
   refine sq_val h11 (wn rfl) rfl rfl (fun X hX => (as_val (v' := .string (bs ((([82, 83, 84, 82] ++ zerosL 4) ++ lit x.s 4) ++ lit x.c 4))) (congrArg _ (bs_app _ _)) (ex_sadd (h11.ev rfl) (h11.ev rfl) (cat_lt (by simp [zerosL_length, lit_length, bl_length]; try omega))))) fun a12 h12 => ?_
   refine sq_val h12 (wn rfl) rfl rfl (fun X hX => (ex_field (off := 2) (j := 2) (by kernel_rfl) (h12.ev rfl) rfl)) fun a13 h13 => ?_
   refine sq_val h13 (wn rfl) rfl rfl (fun X hX => (ex_load (by kernel_rfl) (h13.ev rfl) ((S1.grow hX).cell (i := 0) rfl rfl))) fun a14 h14 => ?_
   refine sq_bel h14 (wn rfl) rfl rfl (fun X => (ex_call (fun _ _ => by kernel_rfl) (h14.evs rfl) rfl)) (fun X hX => Little_any _ 4 (by omega) (by omega) (by decide) _) fun a15 h15 => ?_
   refine sq_val h15 (wn rfl) rfl rfl (fun X hX => (as_val (v' := .string (bs (((([82, 83, 84, 82] ++ zerosL 4) ++ lit x.s 4) ++ lit x.c 4) ++ lit x.o 4))) (congrArg _ (bs_app _ _)) (ex_sadd (h15.ev rfl) (h15.ev rfl) (cat_lt (by simp [zerosL_length, lit_length, bl_length]; try omega))))) fun a16 h16 => ?_
   refine sq_val h16 (wn rfl) rfl rfl (fun X hX => (ex_move (h16.ev rfl))) fun a17 h17 => ?_
   refine sq_bel h17 (wn rfl) rfl rfl (fun X => (ex_call (fun _ _ => by kernel_rfl) (h17.evs rfl) rfl)) (fun X hX => Little_any _ 2 (by omega) (by omega) (by decide) _) fun a18 h18 => ?_
   refine sq_nil ?_
   refine nd_end fun X19 hX19 hΦ19 => ?_
   have S19 := S1.grow hX19
   refine sl_val h18 (wn rfl) (as_val (v' := .string (bs ((((([82, 83, 84, 82] ++ zerosL 4) ++ lit x.s 4) ++ lit x.c 4) ++ lit x.o 4) ++ lit pg 2))) (congrArg _ (bs_app _ _)) (ex_sadd (h18.ev rfl) (h18.ev rfl) (cat_lt (by simp [zerosL_length, lit_length, bl_length]; try omega)))) rfl rfl fun a20 h20 => ?_
   refine ma h20 rfl rfl fun a21 h21 => ?_
   refine st_nil (go_then (st_seq ?_))
   apply dr_flow h21 [false, false, false, false, false, false, false, false, false, false] _ (by kernel_rfl)
   case h =>
    refine sq_val h21 (wn rfl) rfl rfl (fun X hX => (ex_move (h21.ev rfl))) fun a22 h22 => ?_
    refine sq_val h22 (wn rfl) rfl rfl (fun X hX => (ex_move (h22.ev rfl))) fun a23 h23 => ?_
    refine sq_val h23 (wn rfl) rfl rfl (fun X hX => (ex_slen Tryz.underlying9 (h23.ev rfl))) fun a24 h24 => ?_
    refine sq_val h24 (wn rfl) rfl rfl (fun X hX => (as_val (v' := .int .i64 ((490 : Nat) : Int)) (congrArg _ (by rw [hs22]; rfl)) (ex_sub (h24.ev rfl) (h24.ev rfl) (by omega)))) fun a25 h25 => ?_
    refine sq_bel h25 (wn rfl) rfl rfl (fun X => (ex_call (fun _ _ => by kernel_rfl) (h25.evs rfl) rfl)) (fun X hX => hZ 490 _ (by decide)) fun a26 h26 => ?_
    refine sq_val h26 (wn rfl) rfl rfl (fun X hX => (as_val (v' := .string (bs (rsH x pg))) (congrArg _ (by rw [bs_app, hrs])) (ex_sadd (h26.ev rfl) (h26.ev rfl) (cat_lt (by rw [hl22, zerosL_length]; omega))))) fun a27 h27 => ?_
    refine sq_val h27 (wn rfl) rfl rfl (fun X hX => (ex_field (off := 0) (j := 0) (by kernel_rfl) (h27.ev rfl) rfl)) fun a28 h28 => ?_
    refine sq_val h28 (wn rfl) rfl rfl (fun X hX => (ex_load (by kernel_rfl) (h28.ev rfl) ((S19.grow hX).cell (i := 0) rfl rfl))) fun a29 h29 => ?_
    refine sq_val h29 (wn rfl) rfl rfl (fun X hX => (ex_rem (h29.ev rfl) (h29.ev rfl) (by omega))) fun a30 h30 => ?_
    refine sq_val h30 (wn rfl) rfl rfl (fun X hX => (ex_add (h30.ev rfl) (h30.ev rfl) (by omega))) fun a31 h31 => ?_
    refine sq_nil ?_
    refine nd_end fun X32 hX32 hΦ32 => ?_
    have S32 := S19.grow hX32
    refine sl_bel h31 (wn rfl) (ex_call (fun _ _ => by kernel_rfl) (h31.evs rfl) rfl) rfl rfl S32 (Protected_l _ _ (rsH_length x pg) (by omega) _) fun a33 X33 h33 S33 => ?_
    refine ma h33 rfl rfl fun a34 h34 => ?_
    refine st_nil (go_then (wp_ret ?_))
    refine fin1 h34 rfl rfl ?_
    exact ⟨rfl, S33.below⟩
   case hB => kernel_rfl
   case hst => rfl
  case hB => kernel_rfl
  case hst => rfl
attribute [local irreducible] nAt opL
theorem rRestartOf_any (s : List UInt8) (pg : Int) (w : World) (hl : s.length ≤ 1000000) :
    Calls Tryz.prog 37 #[.string (bs s), .int .i64 pg] w fun e w' => e = .returned (.tuple #[rstV (rsoR s pg), .int .i64 (rsoE s pg)]) ∧ Below w.heap.size w w' := by
  have hsz := bs_size s
  have hb4 := fun a => nAt_bd (opL s) a 4
  simp only [Int.reducePow] at hb4
  refine st_enter (N := 49) Tryz.func37 rfl rfl rfl (fun a0 h0 => ?_)
  have S0 := St.init w
  refine st_seq (st_reg ?_)
  refine sl_new h0 (wn rfl) (f := fun b => .pointer (some ⟨b, 0, none⟩)) (ex_alloc (z := .agg #[.int .i64 0, .int .i64 0, .int .i64 0]) (by kernel_rfl)) rfl rfl S0 fun b4 a1 X1 gb4 h1 S1 => ?_
  refine ma h1 rfl rfl fun a2 h2 => ?_
  refine st_nil (go_then (st_seq (st_reg ?_)))
  refine sl_val h2 (wn rfl) (ex_build (zs := [.int .i64 0, .int .i64 0, .int .i64 0]) (pl := [(0, 1), (1, 1), (2, 1)]) (by kernel_rfl) (by kernel_rfl) (h2.evs2 rfl) rfl rfl) rfl rfl fun a3 h3 => ?_
  refine sl_new h3 (wn rfl) (f := fun b => .pointer (some ⟨b, 0, none⟩)) (ex_alloc (z := .agg #[.int .i64 0, .int .i64 0, .int .i64 0]) (by kernel_rfl)) rfl rfl S1 fun b6 a4 X4 gb6 h4 S4 => ?_
  refine sl_store0 h4 (wn rfl) ⟨rfl, rfl⟩ (h4.ev rfl) (h4.ev rfl) rfl (by kernel_rfl) S4 (i := 0) rfl rfl rfl fun X5 S5 => ?_
  refine st_nil (go_then (st_seq (st_seq (st_reg ?_))))
  refine mv h4 rfl rfl fun a6 h6 => ?_
  refine sl_val h6 (wn rfl) (ex_slen Tryz.underlying9 (h6.ev rfl)) rfl rfl fun a7 h7 => ?_
  refine sl_val h7 (wn rfl) (ex_neq (h7.ev rfl) (h7.ev rfl)) rfl rfl fun a8 h8 => ?_
  refine st_nil (go_then ?_)
  refine st_if (h8.ev rfl) (fun hc0 => ?_) (fun hc0 => ?_)
  · skip
    have hE : rsoE s pg = 10 := by
      unfold rsoE; rw [if_pos]
      intro h; rw [hsz, h] at hc0; exact absurd hc0 (by decide)
    refine st_seq (st_reg ?_)
    refine sl_val h8 (wn rfl) (ex_loads (by kernel_rfl) (by kernel_rfl) (h8.ev rfl) (S5.cellsAll (i := 0) rfl)) rfl rfl fun a9 h9 => ?_
    refine sl_store0 h9 (wn rfl) ⟨rfl, rfl⟩ (h9.ev rfl) (h9.ev rfl) rfl (by kernel_rfl) S5 (i := 1) rfl rfl rfl fun X10 S10 => ?_
    refine ma h9 rfl rfl fun a11 h11 => ?_
    refine st_nil (go_then (wp_ret (ret_then ?_)))
    refine finct h11 rfl rfl rfl S10 (i := 1) rfl (by kernel_rfl) (by kernel_rfl) ?_
    exact ⟨by unfold rsoR; rw [hE]; rfl, S10.below⟩
  · skip
    have h512 : s.length = 512 := by
      have : ((bs s).size : Int) = 512 := by simpa using hc0
      omega
    have hol := opL_length h512
    refine wp_skip (go_then (st_seq (st_seq (st_reg ?_))))
    refine mv h8 rfl rfl fun a12 h12 => ?_
    refine sl_pure h12 (wn rfl) (ex_call (fun _ _ => by kernel_rfl) (h12.evs rfl) rfl) rfl rfl (rPagesErr_any _ _) fun a13 h13 => ?_
    refine ma h13 rfl rfl fun a14 h14 => ?_
    refine st_nil (go_then (st_seq (st_reg ?_)))
    refine mv h14 rfl rfl fun a15 h15 => ?_
    refine sl_val h15 (wn rfl) (ex_neq (h15.ev rfl) (h15.ev rfl)) rfl rfl fun a16 h16 => ?_
    refine st_nil (go_then ?_)
    refine st_if (h16.ev rfl) (fun hc1 => ?_) (fun hc1 => ?_)
    · skip
      have hp0 : pgsE pg ≠ 0 := by simpa using hc1
      have hE : rsoE s pg = pgsE pg := by unfold rsoE; rw [if_neg (by simpa using h512), if_pos hp0]
      refine st_seq (st_reg ?_)
      refine sl_val h16 (wn rfl) (ex_loads (by kernel_rfl) (by kernel_rfl) (h16.ev rfl) (S5.cellsAll (i := 0) rfl)) rfl rfl fun a17 h17 => ?_
      refine mv h17 rfl rfl fun a18 h18 => ?_
      refine sl_store0 h18 (wn rfl) ⟨rfl, rfl⟩ (h18.ev rfl) (h18.ev rfl) rfl (by kernel_rfl) S5 (i := 1) rfl rfl rfl fun X19 S19 => ?_
      refine ma h18 rfl rfl fun a20 h20 => ?_
      refine st_nil (go_then (wp_ret (ret_then ?_)))
      refine finct h20 rfl rfl rfl S19 (i := 1) rfl (by kernel_rfl) (by kernel_rfl) ?_
      exact ⟨by unfold rsoR; rw [hE, if_neg hp0]; rfl, S19.below⟩
    · skip
      have hp0 : pgsE pg = 0 := by simpa using hc1
      have hpg := inB_true.1 ((unl_zero (by decide)).1 hp0)
      refine wp_skip (go_then (st_seq (st_reg ?_)))
      refine mv h16 rfl rfl fun a21 h21 => ?_
      refine sl_bel h21 (wn rfl) (ex_call (fun _ _ => by kernel_rfl) (h21.evs rfl) rfl) rfl rfl S5 (Opened_l s h512 _) fun a22 X22 h22 S22 => ?_
      refine mv h22 rfl rfl fun a23 h23 => ?_
      refine sl_val h23 (wn rfl) (ex_extract (h23.ev rfl) rfl) rfl rfl fun a24 h24 => ?_
      refine sl_val h24 (wn rfl) (ex_extract (h24.ev rfl) rfl) rfl rfl fun a25 h25 => ?_
      refine ma h25 rfl rfl fun a26 h26 => ?_
      refine ma h26 rfl rfl fun a27 h27 => ?_
      refine st_nil (go_then (st_seq (st_seq (st_reg ?_))))
      refine mv h27 rfl rfl fun a28 h28 => ?_
      refine sl_val h28 (wn rfl) (ex_not (h28.ev rfl)) rfl rfl fun a29 h29 => ?_
      refine st_nil (go_then ?_)
      refine st_if (h29.ev rfl) (fun hc2 => ?_) (fun hc2 => ?_)
      · skip
        have hop : opB s = false := by simpa using hc2
        have hE : rsoE s pg = 31 := by unfold rsoE; rw [if_neg (by simpa using h512), if_neg (by simpa using hp0), if_pos hop]
        refine st_seq (st_reg ?_)
        refine sl_val h29 (wn rfl) (ex_loads (by kernel_rfl) (by kernel_rfl) (h29.ev rfl) (S22.cellsAll (i := 0) rfl)) rfl rfl fun a30 h30 => ?_
        refine sl_store0 h30 (wn rfl) ⟨rfl, rfl⟩ (h30.ev rfl) (h30.ev rfl) rfl (by kernel_rfl) S22 (i := 1) rfl rfl rfl fun X31 S31 => ?_
        refine ma h30 rfl rfl fun a32 h32 => ?_
        refine st_nil (go_then (wp_ret (ret_then ?_)))
        refine finct h32 rfl rfl rfl S31 (i := 1) rfl (by kernel_rfl) (by kernel_rfl) ?_
        exact ⟨by unfold rsoR; rw [hE]; rfl, S31.below⟩
      · skip
        have hop : opB s = true := by simpa using hc2
        rw [show (if opB s = true then bs (opL s) else (⟨#[]⟩ : ByteArray)) = bs (opL s) by rw [if_pos hop]] at h29
        refine wp_skip (go_then (st_seq (st_reg ?_)))
        refine mv h29 rfl rfl fun a33 h33 => ?_
        refine sl_pure h33 (wn rfl) (ex_call (fun _ _ => by kernel_rfl) (h33.evs rfl) rfl) rfl rfl (LittleAt_l (opL s) 8 4 (by omega) (by omega) (by decide) _) fun a34 h34 => ?_
        refine mv h34 rfl rfl fun a35 h35 => ?_
        refine sl_pure h35 (wn rfl) (ex_call (fun _ _ => by kernel_rfl) (h35.evs rfl) rfl) rfl rfl (LittleAt_l (opL s) 12 4 (by omega) (by omega) (by decide) _) fun a36 h36 => ?_
        refine mv h36 rfl rfl fun a37 h37 => ?_
        refine sl_pure h37 (wn rfl) (ex_call (fun _ _ => by kernel_rfl) (h37.evs rfl) rfl) rfl rfl (LittleAt_l (opL s) 16 4 (by omega) (by omega) (by decide) _) fun a38 h38 => ?_
        refine sl_val (v := rstV (rsoV (opL s))) h38 (wn rfl) (ex_build (zs := [.int .i64 0, .int .i64 0, .int .i64 0]) (pl := [(0, 1), (1, 1), (2, 1)]) (by kernel_rfl) (by kernel_rfl) (h38.evs2 rfl) rfl rfl) rfl rfl fun a39 h39 => ?_
        refine sl_new h39 (wn rfl) (f := fun b => .pointer (some ⟨b, 0, none⟩)) (ex_alloc (z := .agg #[.int .i64 0, .int .i64 0, .int .i64 0]) (by kernel_rfl)) rfl rfl S22 fun b10 a40 X40 gb10 h40 S40 => ?_
        refine sl_store0 h40 (wn rfl) ⟨rfl, rfl⟩ (h40.ev rfl) (h40.ev rfl) rfl (by kernel_rfl) S40 (i := 0) rfl rfl rfl fun X41 S41 => ?_
        refine st_nil (go_then (st_seq (st_seq (st_reg ?_))))
        refine sl_val (v := rstV (rsoV (opL s))) h40 (wn rfl) (ex_loads (by kernel_rfl) (by kernel_rfl) (h40.ev rfl) (S41.cellsAll (i := 0) rfl)) rfl rfl fun a42 h42 => ?_
        refine sl_bel h42 (wn rfl) (ex_call (fun _ _ => by kernel_rfl) (h42.evs rfl) rfl) rfl rfl S41 (rRestartErr_any _ _) fun a43 X43 h43 S43 => ?_
        refine sl_val h43 (wn rfl) (ex_neq (h43.ev rfl) (h43.ev rfl)) rfl rfl fun a44 h44 => ?_
        refine mv h44 rfl rfl fun a45 h45 => ?_
        apply sl_or h45 S43 40 rfl 6 46
        case hf =>
         intro gc40
         refine sl_val h45 (wanted_yes h45 _ rfl rfl rfl gc40) (ex_move (h45.ev rfl)) rfl rfl fun a46 h46 => ?_
         refine sl_val (v := rstV (rsoV (opL s))) h46 (wanted_yes h46 _ rfl rfl rfl gc40) (ex_loads (by kernel_rfl) (by kernel_rfl) (h46.ev rfl) (S43.cellsAll (i := 0) rfl)) rfl rfl fun a47 h47 => ?_
         refine sl_val h47 (wanted_yes h47 _ rfl rfl rfl gc40) (ex_move (h47.ev rfl)) rfl rfl fun a48 h48 => ?_
         refine sl_bel h48 (wanted_yes h48 _ rfl rfl rfl gc40) (ex_call (fun _ _ => by kernel_rfl) (h48.evs rfl) rfl) rfl rfl S43 (rRestartPage_any _ _ (by have := hb4 8; show 0 ≤ nAt (opL s) 8 4 ∧ nAt (opL s) 8 4 < _; omega) (by have := hb4 12; show 0 ≤ nAt (opL s) 12 4 ∧ nAt (opL s) 12 4 < _; omega) (by have := hb4 16; show 0 ≤ nAt (opL s) 16 4 ∧ nAt (opL s) 16 4 < _; omega) (by omega) _) fun a49 X49 h49 S49 => ?_
         refine sl_val h49 (wanted_yes h49 _ rfl rfl rfl gc40) (ex_sneq (h49.ev rfl) (h49.ev rfl)) rfl rfl fun a50 h50 => ?_
         refine sl_val h50 (wn rfl) (ex_pick_f (h50.ev rfl) gc40 (h50.ev rfl)) rfl rfl fun a51 h51 => ?_
         exact st_nil ⟨h51.mid (m := [(_, _), (_, _), (_, _), (_, _), (_, _)]) rfl, S49⟩
        case ht =>
         intro gc40
         refine sl_no h45 (wanted_no h45 _ rfl rfl rfl gc40) rfl rfl fun a52 h52 => ?_
         refine sl_no h52 (wanted_no h52 _ rfl rfl rfl gc40) rfl rfl fun a53 h53 => ?_
         refine sl_no h53 (wanted_no h53 _ rfl rfl rfl gc40) rfl rfl fun a54 h54 => ?_
         refine sl_no h54 (wanted_no h54 _ rfl rfl rfl gc40) rfl rfl fun a55 h55 => ?_
         refine sl_no h55 (wanted_no h55 _ rfl rfl rfl gc40) rfl rfl fun a56 h56 => ?_
         refine sl_val h56 (wn rfl) (ex_pick_t (h56.ev rfl) gc40 (h56.ev rfl)) rfl rfl fun a57 h57 => ?_
         exact st_nil ⟨h57.mid (m := [(_, _), (_, _), (_, _), (_, _), (_, _)]) rfl, S43⟩
        case h =>
         rintro a58 X58 ⟨h58, S58⟩
         refine st_nil (go_then ?_)
         refine st_if (h58.ev rfl) (fun hc3 => ?_) (fun hc3 => ?_)
         · skip
           have hE : rsoE s pg = 3 := by
             unfold rsoE
             rw [if_neg (by simpa using h512), if_neg (by simpa using hp0), if_neg (by rw [hop]; decide)]
             by_cases h1 : rstE (rsoV (opL s)) = 0
             · rw [if_neg (by simpa using h1), if_pos]
               intro h2
               rw [h1, h2] at hc3
               simp at hc3
             · rw [if_pos h1]
           refine st_seq (st_reg ?_)
           refine sl_val h58 (wn rfl) (ex_loads (by kernel_rfl) (by kernel_rfl) (h58.ev rfl) (S58.cellsAll (i := 1) rfl)) rfl rfl fun a59 h59 => ?_
           refine sl_store0 h59 (wn rfl) ⟨rfl, rfl⟩ (h59.ev rfl) (h59.ev rfl) rfl (by kernel_rfl) S58 (i := 2) rfl rfl rfl fun X60 S60 => ?_
           refine ma h59 rfl rfl fun a61 h61 => ?_
           refine st_nil (go_then (wp_ret (ret_then ?_)))
           refine finct h61 rfl rfl rfl S60 (i := 2) rfl (by kernel_rfl) (by kernel_rfl) ?_
           exact ⟨by unfold rsoR; rw [hE]; rfl, S60.below⟩
         · skip
           have hE : rsoE s pg = 0 := by
             rw [Bool.or_eq_false_iff] at hc3
             unfold rsoE
             rw [if_neg (by simpa using h512), if_neg (by simpa using hp0), if_neg (by rw [hop]; decide), if_neg (by simpa using hc3.1), if_neg]
             intro h2
             have h3 : bs s = bs (rsL (rsoV (opL s)) pg) := by simpa using hc3.2
             have := congrArg bl h3
             rw [bl_bs, bl_bs] at this
             exact h2 this.symm
           refine wp_skip (go_then (st_seq (st_reg ?_)))
           refine sl_val h58 (wn rfl) (ex_loads (by kernel_rfl) (by kernel_rfl) (h58.ev rfl) (S58.cellsAll (i := 0) rfl)) rfl rfl fun a62 h62 => ?_
           refine sl_store0 h62 (wn rfl) ⟨rfl, rfl⟩ (h62.ev rfl) (h62.ev rfl) rfl (by kernel_rfl) S58 (i := 2) rfl rfl rfl fun X63 S63 => ?_
           refine ma h62 rfl rfl fun a64 h64 => ?_
           refine st_nil (go_then (wp_ret ?_))
           refine finct h64 rfl rfl rfl S63 (i := 2) rfl (by kernel_rfl) (by kernel_rfl) ?_
           exact ⟨by unfold rsoR; rw [hE]; rfl, S63.below⟩
end Go.Proofs.YtmlilplbdpjfcaaGreatDoor
