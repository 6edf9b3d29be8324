/-
  Chapter 20: the reference's bytes of a record, and the page of a room.
-/
import Derived.Test.YtmlilplbdpjfcaaGreatDoorRg22
import Derived.Test.YtmlilplbdpjfcaaGreatDoorRg26
import Derived.Test.YtmlilplbdpjfcaaGreatDoorRg30
import Derived.Test.YtmlilplbdpjfcaaGreatDoorRgR
namespace Go.Proofs.YtmlilplbdpjfcaaGreatDoor
set_option linter.unusedVariables false
set_option linter.unusedSimpArgs false
set_option maxRecDepth 4000
open Go.RowKit Go.Sort
theorem Sum_s (s : ByteArray) (w : World) (hl : s.size ≤ 3000) : Calls Tryz.prog 116 #[.string s] w fun e w' => e = .returned (.int .i64 (sumL (bl s) 0)) ∧ w = w' := Sum_any s w (by omega)
theorem rrecordBytes_any (x : RecP) (hb : x.b.size ≤ 3000) (hl : 0 ≤ x.l ∧ x.l < 4294967296) (w : World) :
    Calls Tryz.prog 101 #[recV x] w fun e w' => e = .returned (.string (bs (encR x))) ∧ Below w.heap.size w w' := by
  have hZ : ∀ n w, n ≤ 200000 → Calls Tryz.prog 56 #[.int .i64 (n : Nat)] w fun e w' => e = .returned (.string (bs (zerosL n))) ∧ Below w.heap.size w w' := fun n w h => Zeros_any n w h
  have hsum := sumL_bd (bl x.b) 0 (by omega) (by omega)
  have hbl : (bl x.b).length = x.b.size := bl_length x.b
  have hsz := szR_in hb
  obtain ⟨A, hA⟩ : ∃ A, A = ((((lit x.b.size 2 ++ zerosL 2) ++ lit x.l 4) ++ lit (sumL (bl x.b) 0) 4) ++ bl x.b) := ⟨_, rfl⟩
  have hlA : A.length = 12 + x.b.size := by rw [hA]; simp [zerosL_length, lit_length, hbl]; omega
  have hsA : (bs A).size = 12 + x.b.size := by rw [bs_size, hlA]
  obtain ⟨Z, hZ2⟩ : ∃ Z, Z = (szR x.b.size).toNat - (12 + x.b.size) := ⟨_, rfl⟩
  have henc : encR x = A ++ zerosL Z := by unfold encR; rw [hA, hZ2]; rfl
  refine st_enter (N := 32) Tryz.func101 rfl rfl rfl (fun a0 h0 => ?_)
  have S0 := St.init w
  refine st_seq (st_reg ?_)
  refine sl_new h0 (wn rfl) (f := fun b => .pointer (some ⟨b, 0, none⟩)) (ex_box (h0.ev rfl)) rfl rfl S0 fun b1 a1 X1 gb1 h1 S1 => ?_
  refine ma h1 rfl rfl fun a2 h2 => ?_
  refine st_nil (go_then (st_seq ?_))
  apply dr_flow h2 [false, false, false, false, false, false, false, false, false, false, false, false, false, false, false, false, false] _ (by kernel_rfl)
  case h =>
   refine sq_val h2 (wn rfl) rfl rfl (fun X hX => (ex_field (off := 2) (j := 2) (by kernel_rfl) (h2.ev rfl) rfl)) fun a3 h3 => ?_
   refine sq_val h3 (wn rfl) rfl rfl (fun X hX => (ex_load (by kernel_rfl) (h3.ev rfl) ((S1.grow hX).cell (i := 0) rfl rfl))) fun a4 h4 => ?_
   refine sq_val h4 (wn rfl) rfl rfl (fun X hX => (ex_slen Tryz.underlying9 (h4.ev rfl))) fun a5 h5 => ?_
   refine sq_bel h5 (wn rfl) rfl rfl (fun X => (ex_call (fun _ _ => by kernel_rfl) (h5.evs rfl) rfl)) (fun X hX => Little_any _ 2 (by omega) (by omega) (by decide) _) fun a6 h6 => ?_
   refine sq_bel h6 (wn rfl) rfl rfl (fun X => (ex_call (fun _ _ => by kernel_rfl) (h6.evs rfl) rfl)) (fun X hX => hZ 2 _ (by decide)) fun a7 h7 => ?_
   refine sq_val h7 (wn rfl) rfl rfl (fun X hX => (as_val (v' := .string (bs (lit x.b.size 2 ++ zerosL 2))) (congrArg _ (bs_app _ _)) (ex_sadd (h7.ev rfl) (h7.ev rfl) (cat_lt (by simp [zerosL_length, lit_length, bl_length]; try omega))))) fun a8 h8 => ?_
   refine sq_val h8 (wn rfl) rfl rfl (fun X hX => (ex_field (off := 0) (j := 0) (by kernel_rfl) (h8.ev rfl) rfl)) fun a9 h9 => ?_
   refine sq_val h9 (wn rfl) rfl rfl (fun X hX => (ex_load (by kernel_rfl) (h9.ev rfl) ((S1.grow hX).cell (i := 0) rfl rfl))) fun a10 h10 => ?_
   refine sq_bel h10 (wn rfl) rfl rfl (fun X => (ex_call (fun _ _ => by kernel_rfl) (h10.evs rfl) rfl)) (fun X hX => Little_any _ 4 (by omega) (by omega) (by decide) _) fun a11 h11 => ?_
   refine sq_val h11 (wn rfl) rfl rfl (fun X hX => (as_val (v' := .string (bs ((lit x.b.size 2 ++ zerosL 2) ++ lit x.l 4))) (congrArg _ (bs_app _ _)) (ex_sadd (h11.ev rfl) (h11.ev rfl) (cat_lt (by simp [zerosL_length, lit_length, bl_length]; try omega))))) fun a12 h12 => ?_
   refine sq_val h12 (wn rfl) rfl rfl (fun X hX => (ex_field (off := 2) (j := 2) (by kernel_rfl) (h12.ev rfl) rfl)) fun a13 h13 => ?_
   refine sq_val h13 (wn rfl) rfl rfl (fun X hX => (ex_load (by kernel_rfl) (h13.ev rfl) ((S1.grow hX).cell (i := 0) rfl rfl))) fun a14 h14 => ?_
   refine sq_pure h14 (wn rfl) rfl rfl (fun X => (ex_call (fun _ _ => by kernel_rfl) (h14.evs rfl) rfl)) (fun X hX => Sum_s _ _ hb) fun a15 h15 => ?_
   refine sq_bel h15 (wn rfl) rfl rfl (fun X => (ex_call (fun _ _ => by kernel_rfl) (h15.evs rfl) rfl)) (fun X hX => Little_any _ 4 (by omega) (by omega) (by decide) _) fun a16 h16 => ?_
   refine sq_val h16 (wn rfl) rfl rfl (fun X hX => (as_val (v' := .string (bs (((lit x.b.size 2 ++ zerosL 2) ++ lit x.l 4) ++ lit (sumL (bl x.b) 0) 4))) (congrArg _ (bs_app _ _)) (ex_sadd (h16.ev rfl) (h16.ev rfl) (cat_lt (by simp [zerosL_length, lit_length, bl_length]; try omega))))) fun a17 h17 => ?_
   refine sq_val h17 (wn rfl) rfl rfl (fun X hX => (ex_field (off := 2) (j := 2) (by kernel_rfl) (h17.ev rfl) rfl)) fun a18 h18 => ?_
   refine sq_val h18 (wn rfl) rfl rfl (fun X hX => (ex_load (by kernel_rfl) (h18.ev rfl) ((S1.grow hX).cell (i := 0) rfl rfl))) fun a19 h19 => ?_
   refine sq_nil ?_
   refine nd_end fun X20 hX20 hΦ20 => ?_
   have S20 := S1.grow hX20
   refine sl_val h19 (wn rfl) (as_val (v' := .string (bs A)) (congrArg _ (by rw [hA, ← bs_app _ (bl x.b), bs_bl])) (ex_sadd (h19.ev rfl) (h19.ev rfl) (by rw [bs_size]; simp [zerosL_length, lit_length]; omega))) rfl rfl fun a21 h21 => ?_
   refine ma h21 rfl rfl fun a22 h22 => ?_
   refine st_nil (go_then (st_seq (st_reg ?_)))
   refine mv h22 rfl rfl fun a23 h23 => ?_
   refine mv h23 rfl rfl fun a24 h24 => ?_
   refine sl_val h24 (wn rfl) (ex_slen Tryz.underlying9 (h24.ev rfl)) rfl rfl fun a25 h25 => ?_
   refine sl_pure h25 (wn rfl) (ex_call (fun _ _ => by kernel_rfl) (h25.evs rfl) rfl) rfl rfl (Ceil_any _ _ (by omega) _) fun a26 h26 => ?_
   refine sl_val h26 (wn rfl) (ex_mul (h26.ev rfl) (h26.ev rfl) (by omega)) rfl rfl fun a27 h27 => ?_
   refine mv h27 rfl rfl fun a28 h28 => ?_
   refine sl_val h28 (wn rfl) (ex_slen Tryz.underlying9 (h28.ev rfl)) rfl rfl fun a29 h29 => ?_
   refine sl_val h29 (wn rfl) (as_val (v' := .int .i64 (Z : Nat)) (congrArg _ (by rw [hsA, hZ2]; unfold szR; omega)) (ex_sub (h29.ev rfl) (h29.ev rfl) (by omega))) rfl rfl fun a30 h30 => ?_
   refine sl_bel h30 (wn rfl) (ex_call (fun _ _ => by kernel_rfl) (h30.evs rfl) rfl) rfl rfl S20 (hZ Z _ (by omega)) fun a31 X31 h31 S31 => ?_
   refine sl_val h31 (wn rfl) (ex_sadd (h31.ev rfl) (h31.ev rfl) (cat_lt (by rw [hlA, zerosL_length]; omega))) rfl rfl fun a32 h32 => ?_
   refine ma h32 rfl rfl fun a33 h33 => ?_
   refine st_nil (go_then (wp_ret ?_))
   refine fin1 h33 rfl rfl ?_
   exact ⟨by rw [bs_app, ← henc], S31.below⟩
  case hB => kernel_rfl
  case hst => rfl
end Go.Proofs.YtmlilplbdpjfcaaGreatDoor
