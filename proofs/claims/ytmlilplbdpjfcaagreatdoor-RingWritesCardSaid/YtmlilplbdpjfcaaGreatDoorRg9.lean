/-
  Chapter 20: pages.
-/
import Derived.Test.YtmlilplbdpjfcaaGreatDoorRg8
import Derived.Test.YtmlilplbdpjfcaaGreatDoorRgP5
namespace Go.Proofs.YtmlilplbdpjfcaaGreatDoor
set_option linter.unusedVariables false
set_option linter.unusedSimpArgs false
set_option maxRecDepth 4000
open Go.RowKit Go.Sort
theorem protect_l (l : List UInt8) (n : Int) (hl : l.length = 512) (hz : ∀ i, 40 ≤ i → i < 58 → l.getD i 0 = 0) (hn : 1 ≤ n ∧ n ≤ 65535) (w : World) :
    Calls Tryz.prog 120 #[.string (bs l), .int .i64 n] w fun e w' => e = .returned (.tuple #[.string (bs (prL l n)), .int .i64 0]) ∧ Below w.heap.size w w' := by
  have := protect_ok (bs l) n (by rw [bs_size]; exact hl) (by rw [bl_bs]; exact hz) hn w
  rw [bl_bs] at this; exact this
def pageV (q s : Int) (c : ByteArray) : Value := .agg #[.int .i64 q, .int .i64 s, .string c]
theorem block_any (q s : Int) (c : List UInt8) (rooms : Int) (hq : 0 ≤ q ∧ q < 4294967296) (hs : 0 ≤ s ∧ s < 4294967296) (hc : c.length ≤ 448) (hr : 1 ≤ rooms) (w : World) :
    Calls Tryz.prog 128 #[pageV q s (bs c), .int .i64 rooms] w fun e w' => e = .returned (.string (bs (prL (pgH q c.length s (c ++ zerosL (448 - c.length))) ((q / rooms + s) % 65535 + 1)))) ∧ Below w.heap.size w w' := by
  have l0 : (patL (zerosL 512) 0 [82, 67, 82, 68]).length = 512 := by rw [patL_length (by rw [zerosL_length]; decide), zerosL_length]
  have l1 : (patL (patL (zerosL 512) 0 [82, 67, 82, 68]) 8 (lit q 4)).length = 512 := by rw [patL_length (by rw [l0, lit_length]; omega), l0]
  have l2 : (patL (patL (patL (zerosL 512) 0 [82, 67, 82, 68]) 8 (lit q 4)) 12 (lit c.length 2)).length = 512 := by rw [patL_length (by rw [l1, lit_length]; omega), l1]
  have l3 : (patL (patL (patL (patL (zerosL 512) 0 [82, 67, 82, 68]) 8 (lit q 4)) 12 (lit c.length 2)) 14 (lit s 4)).length = 512 := by rw [patL_length (by rw [l2, lit_length]; omega), l2]
  have hsz : (bs c).size = c.length := bs_size c
  have hqr : 0 ≤ q / rooms := Int.ediv_nonneg hq.1 (by omega)
  have hqr2 : q / rooms ≤ q := Int.ediv_le_self _ hq.1
  have hP : (pgH q c.length s (c ++ zerosL (448 - c.length))).length = 512 := by rw [pgH_length, List.length_append, zerosL_length]; omega
  have hst : (patL (patL (patL (patL (zerosL 512) 0 [82, 67, 82, 68]) 8 (lit q 4)) 12 (lit c.length 2)) 14 (lit s 4)).take (0 + 64 * 1) ++ (bl (bs c)).take (512 - 64) ++ (patL (patL (patL (patL (zerosL 512) 0 [82, 67, 82, 68]) 8 (lit q 4)) 12 (lit c.length 2)) 14 (lit s 4)).drop (0 + 64 * 1 + min (bs c).size (512 - 64)) = pgH q c.length s (c ++ zerosL (448 - c.length)) := by
    rw [bl_bs, hsz, List.take_of_length_le (l := c) (by omega), Nat.min_eq_left (by omega), ← pgH_steps q c.length s c hc]
    rfl
  refine st_enter (N := 51) Tryz.func128 rfl rfl rfl (fun a0 h0 => ?_)
  have S0 := St.init w
  refine st_seq (st_reg ?_)
  refine sl_new h0 (wn rfl) (f := fun b => .pointer (some ⟨b, 0, none⟩)) (ex_box (h0.ev rfl)) rfl rfl S0 fun b2 a1 X1 gb2 h1 S1 => ?_
  refine ma h1 rfl rfl fun a2 h2 => ?_
  refine st_nil (go_then (st_seq (st_reg ?_)))
  refine sl_make (n := 512) h2 (wn rfl) ⟨rfl, rfl⟩ rfl Tryz.underlying130 (by kernel_rfl) (h2.ev rfl) (h2.ev rfl) (by omega) S1 fun b8 a3 X3 gb8 h3 S3 => ?_
  refine ma h3 rfl rfl fun a4 h4 => ?_
  refine st_nil (go_then (st_seq (st_reg ?_)))
  refine mv h4 rfl rfl fun a5 h5 => ?_
  refine sl_copys h5 (wn rfl) rfl Tryz.underlying130 (by kernel_rfl) (h5.ev rfl) (h5.ev rfl) S3 (i := 0) rfl (by rw [zerosL_length]; omega) fun a6 X6 hq6 S6 => ?_
  have h6 := hq6 rfl
  refine st_nil (go_then (st_seq ?_))
  apply dr_flow h6 [false, false, false, false, false] _ (by kernel_rfl)
  case h =>
   refine sq_val h6 (wn rfl) rfl rfl (fun X hX => (ex_move (h6.ev rfl))) fun a7 h7 => ?_
   refine sq_val h7 (wn rfl) rfl rfl (fun X hX => (ex_slice (l := 8) (h := 512) (sz := 1) Tryz.underlying130 (by kernel_rfl) (h7.ev rfl) (h7.ev rfl) rfl (by omega) (by omega) (.inl (by omega)) rfl)) fun a8 h8 => ?_
   refine sq_val h8 (wn rfl) rfl rfl (fun X hX => (ex_field (off := 0) (j := 0) (by kernel_rfl) (h8.ev rfl) rfl)) fun a9 h9 => ?_
   refine sq_val h9 (wn rfl) rfl rfl (fun X hX => (ex_load (by kernel_rfl) (h9.ev rfl) ((S6.grow hX).cell (i := 1) rfl rfl))) fun a10 h10 => ?_
   refine sq_val h10 (wn rfl) rfl rfl (fun X hX => (ex_convin (by kernel_rfl) Tryz.underlying128 (h10.ev rfl) (wrap_u32 hq))) fun a11 h11 => ?_
   refine sq_nil ?_
   refine nd_end fun X12 hX12 hΦ12 => ?_
   have S12 := S6.grow hX12
   refine sl_upd h11 (wn rfl) (ex_call (fun _ _ => by kernel_rfl) (h11.evs rfl) rfl) S12 (i := 0) rfl rfl (put32_any b8 (0 + 8 * 1) (512 - 8) (512 - 8) (patL (zerosL 512) 0 [82, 67, 82, 68]) _ hq.1 _ (S12.at_ (i := 0) rfl) (by rw [l0]; omega) (by omega) (by omega)) fun a13 X13 hq13 S13 => ?_
   have h13 := hq13 rfl
   refine st_nil (go_then (st_seq ?_))
   apply dr_flow h13 [false, false, false, false, false, false] _ (by kernel_rfl)
   case h =>
    refine sq_val h13 (wn rfl) rfl rfl (fun X hX => (ex_move (h13.ev rfl))) fun a14 h14 => ?_
    refine sq_val h14 (wn rfl) rfl rfl (fun X hX => (ex_slice (l := 12) (h := 512) (sz := 1) Tryz.underlying130 (by kernel_rfl) (h14.ev rfl) (h14.ev rfl) rfl (by omega) (by omega) (.inl (by omega)) rfl)) fun a15 h15 => ?_
    refine sq_val h15 (wn rfl) rfl rfl (fun X hX => (ex_field (off := 2) (j := 2) (by kernel_rfl) (h15.ev rfl) rfl)) fun a16 h16 => ?_
    refine sq_val h16 (wn rfl) rfl rfl (fun X hX => (ex_load (by kernel_rfl) (h16.ev rfl) ((S13.grow hX).cell (i := 1) rfl rfl))) fun a17 h17 => ?_
    refine sq_val h17 (wn rfl) rfl rfl (fun X hX => (ex_slen Tryz.underlying9 (h17.ev rfl))) fun a18 h18 => ?_
    refine sq_val h18 (wn rfl) rfl rfl (fun X hX => (as_val (v' := .int .u16 (c.length : Int)) (by rw [hsz, wrap_u16 (by omega)]) (ex_conv (k0 := .i64) (by kernel_rfl) Tryz.underlying151 (h18.ev rfl)))) fun a19 h19 => ?_
    refine sq_nil ?_
    refine nd_end fun X20 hX20 hΦ20 => ?_
    have S20 := S13.grow hX20
    refine sl_upd h19 (wn rfl) (ex_call (fun _ _ => by kernel_rfl) (h19.evs rfl) rfl) S20 (i := 0) rfl rfl (put16_any b8 (0 + 12 * 1) (512 - 12) (512 - 12) _ _ (by omega) _ (S20.at_ (i := 0) rfl) (by show 0 + 12 * 1 + 2 ≤ (patL (patL (zerosL 512) 0 [82, 67, 82, 68]) 8 (lit q 4)).length; rw [l1]; omega) (by omega)) fun a21 X21 hq21 S21 => ?_
    have h21 := hq21 rfl
    refine st_nil (go_then (st_seq ?_))
    apply dr_flow h21 [false, false, false, false, false] _ (by kernel_rfl)
    case h =>
     refine sq_val h21 (wn rfl) rfl rfl (fun X hX => (ex_move (h21.ev rfl))) fun a22 h22 => ?_
     refine sq_val h22 (wn rfl) rfl rfl (fun X hX => (ex_slice (l := 14) (h := 512) (sz := 1) Tryz.underlying130 (by kernel_rfl) (h22.ev rfl) (h22.ev rfl) rfl (by omega) (by omega) (.inl (by omega)) rfl)) fun a23 h23 => ?_
     refine sq_val h23 (wn rfl) rfl rfl (fun X hX => (ex_field (off := 1) (j := 1) (by kernel_rfl) (h23.ev rfl) rfl)) fun a24 h24 => ?_
     refine sq_val h24 (wn rfl) rfl rfl (fun X hX => (ex_load (by kernel_rfl) (h24.ev rfl) ((S21.grow hX).cell (i := 1) rfl rfl))) fun a25 h25 => ?_
     refine sq_val h25 (wn rfl) rfl rfl (fun X hX => (ex_convin (by kernel_rfl) Tryz.underlying128 (h25.ev rfl) (wrap_u32 hs))) fun a26 h26 => ?_
     refine sq_nil ?_
     refine nd_end fun X27 hX27 hΦ27 => ?_
     have S27 := S21.grow hX27
     refine sl_upd h26 (wn rfl) (ex_call (fun _ _ => by kernel_rfl) (h26.evs rfl) rfl) S27 (i := 0) rfl rfl (put32_any b8 (0 + 14 * 1) (512 - 14) (512 - 14) _ _ hs.1 _ (S27.at_ (i := 0) rfl) (by show 0 + 14 * 1 + 4 ≤ (patL (patL (patL (zerosL 512) 0 [82, 67, 82, 68]) 8 (lit q 4)) 12 (lit c.length 2)).length; rw [l2]; omega) (by omega) (by omega)) fun a28 X28 hq28 S28 => ?_
     have h28 := hq28 rfl
     refine st_nil (go_then (st_seq ?_))
     apply dr_flow h28 [false, false, false, false] _ (by kernel_rfl)
     case h =>
      refine sq_val h28 (wn rfl) rfl rfl (fun X hX => (ex_move (h28.ev rfl))) fun a29 h29 => ?_
      refine sq_val h29 (wn rfl) rfl rfl (fun X hX => (ex_slice (l := 64) (h := 512) (sz := 1) Tryz.underlying130 (by kernel_rfl) (h29.ev rfl) (h29.ev rfl) rfl (by omega) (by omega) (.inl (by omega)) rfl)) fun a30 h30 => ?_
      refine sq_val h30 (wn rfl) rfl rfl (fun X hX => (ex_field (off := 2) (j := 2) (by kernel_rfl) (h30.ev rfl) rfl)) fun a31 h31 => ?_
      refine sq_val h31 (wn rfl) rfl rfl (fun X hX => (ex_load (by kernel_rfl) (h31.ev rfl) ((S28.grow hX).cell (i := 1) rfl rfl))) fun a32 h32 => ?_
      refine sq_nil ?_
      refine nd_end fun X33 hX33 hΦ33 => ?_
      have S33 := S28.grow hX33
      refine sl_copys h32 (wn rfl) rfl Tryz.underlying130 (by kernel_rfl) (h32.ev rfl) (h32.ev rfl) S33 (i := 0) rfl (by show 0 + 64 * 1 + (512 - 64) ≤ (patL (patL (patL (patL (zerosL 512) 0 [82, 67, 82, 68]) 8 (lit q 4)) 12 (lit c.length 2)) 14 (lit s 4)).length; rw [l3]; omega) fun a34 X34 hq34 S34 => ?_
      have h34 := hq34 rfl
      replace S34 := S34.byEq (i := 0) rfl hst
      refine st_nil (go_then (st_seq ?_))
      apply dr_flow h34 [false, false, false, false, false, false, false, false, false, false, false, false, false, false, false, false] _ (by kernel_rfl)
      case h =>
       refine sq_val h34 (wn rfl) rfl rfl (fun X hX => (ex_move (h34.ev rfl))) fun a35 h35 => ?_
       refine sq_val h35 (wn rfl) rfl rfl (fun X hX => (as_val (v' := .string (bs (pgH q c.length s (c ++ zerosL (448 - c.length))))) (by rw [List.drop_zero, List.take_of_length_le (by omega)]) (ex_bstr Tryz.underlying130 Tryz.underlying5 Tryz.underlying9 (h35.ev rfl) ((S34.grow hX).bytStr (i := 0) (n := 512) rfl (by omega)).1 ((S34.grow hX).bytStr (i := 0) (n := 512) rfl (by omega)).2))) fun a36 h36 => ?_
       refine sq_val h36 (wn rfl) rfl rfl (fun X hX => (ex_field (off := 0) (j := 0) (by kernel_rfl) (h36.ev rfl) rfl)) fun a37 h37 => ?_
       refine sq_val h37 (wn rfl) rfl rfl (fun X hX => (ex_load (by kernel_rfl) (h37.ev rfl) ((S34.grow hX).cell (i := 1) rfl rfl))) fun a38 h38 => ?_
       refine sq_val h38 (wn rfl) rfl rfl (fun X hX => (ex_move (h38.ev rfl))) fun a39 h39 => ?_
       refine sq_val h39 (wn rfl) rfl rfl (fun X hX => (ex_quo (h39.ev rfl) (h39.ev rfl) (by omega))) fun a40 h40 => ?_
       refine sq_val h40 (wn rfl) rfl rfl (fun X hX => (ex_field (off := 1) (j := 1) (by kernel_rfl) (h40.ev rfl) rfl)) fun a41 h41 => ?_
       refine sq_val h41 (wn rfl) rfl rfl (fun X hX => (ex_load (by kernel_rfl) (h41.ev rfl) ((S34.grow hX).cell (i := 1) rfl rfl))) fun a42 h42 => ?_
       refine sq_val h42 (wn rfl) rfl rfl (fun X hX => (ex_add (h42.ev rfl) (h42.ev rfl) (by omega))) fun a43 h43 => ?_
       refine sq_val h43 (wn rfl) rfl rfl (fun X hX => (ex_rem (h43.ev rfl) (h43.ev rfl) (by omega))) fun a44 h44 => ?_
       refine sq_val h44 (wn rfl) rfl rfl (fun X hX => (ex_add (h44.ev rfl) (h44.ev rfl) (by omega))) fun a45 h45 => ?_
       refine sq_bel h45 (wn rfl) rfl rfl (fun X => (ex_call (fun _ _ => by kernel_rfl) (h45.evs rfl) rfl)) (fun X hX => protect_l _ _ hP (fun i hi1 hi2 => pgH_zero _ _ _ _ i (by omega) (by omega)) (by omega) _) fun a46 h46 => ?_
       refine sq_val h46 (wn rfl) rfl rfl (fun X hX => (ex_move (h46.ev rfl))) fun a47 h47 => ?_
       refine sq_val h47 (wn rfl) rfl rfl (fun X hX => (ex_extract (h47.ev rfl) rfl)) fun a48 h48 => ?_
       refine sq_val h48 (wn rfl) rfl rfl (fun X hX => (ex_extract (h48.ev rfl) rfl)) fun a49 h49 => ?_
       refine sq_val h49 (wn rfl) rfl rfl (fun X hX => (ex_assign (h49.ev rfl))) fun a50 h50 => ?_
       refine sq_nil ?_
       refine nd_end fun X51 hX51 hΦ51 => ?_
       have S51 := S34.grow hX51
       refine ma h50 rfl rfl fun a52 h52 => ?_
       refine st_nil (go_then (st_seq (st_reg ?_)))
       refine mv h52 rfl rfl fun a53 h53 => ?_
       refine ma h53 rfl rfl fun a54 h54 => ?_
       refine st_nil (go_then (wp_ret ?_))
       refine fin1 h54 rfl rfl ?_
       exact ⟨rfl, S51.below⟩
      case hB => kernel_rfl
      case hst => rfl
     case hB => kernel_rfl
     case hst => rfl
    case hB => kernel_rfl
    case hst => rfl
   case hB => kernel_rfl
   case hst => rfl
  case hB => kernel_rfl
  case hst => rfl
def U4 (n : Int) : Prop := 0 ≤ n ∧ n < 4294967296
theorem restartPage_any (x : RstP) (pg : Int) (hs : U4 x.s) (hc : U4 x.c) (ho : U4 x.o) (hpg : 0 ≤ pg ∧ pg < 65536) (w : World) :
    Calls Tryz.prog 85 #[rstV x, .int .i64 pg] w fun e w' => e = .returned (.string (bs (rsL x pg))) ∧ Below w.heap.size w w' := by
  have l0 : (patL (zerosL 512) 0 [82, 83, 84, 82]).length = 512 := by rw [patL_length (by rw [zerosL_length]; decide), zerosL_length]
  have l1 : (patL (patL (zerosL 512) 0 [82, 83, 84, 82]) 8 (lit x.s 4)).length = 512 := by rw [patL_length (by rw [l0, lit_length]; omega), l0]
  have l2 : (patL (patL (patL (zerosL 512) 0 [82, 83, 84, 82]) 8 (lit x.s 4)) 12 (lit x.c 4)).length = 512 := by rw [patL_length (by rw [l1, lit_length]; omega), l1]
  have l3 : (patL (patL (patL (patL (zerosL 512) 0 [82, 83, 84, 82]) 8 (lit x.s 4)) 12 (lit x.c 4)) 16 (lit x.o 4)).length = 512 := by rw [patL_length (by rw [l2, lit_length]; omega), l2]
  have hP := rsH_length x pg
  refine st_enter (N := 45) Tryz.func85 rfl rfl rfl (fun a0 h0 => ?_)
  have S0 := St.init w
  refine st_seq (st_reg ?_)
  refine sl_new h0 (wn rfl) (f := fun b => .pointer (some ⟨b, 0, none⟩)) (ex_box (h0.ev rfl)) rfl rfl S0 fun b2 a1 X1 gb2 h1 S1 => ?_
  refine ma h1 rfl rfl fun a2 h2 => ?_
  refine st_nil (go_then (st_seq (st_reg ?_)))
  refine sl_make (n := 512) h2 (wn rfl) ⟨rfl, rfl⟩ rfl Tryz.underlying130 (by kernel_rfl) (h2.ev rfl) (h2.ev rfl) (by omega) S1 fun b8 a3 X3 gb8 h3 S3 => ?_
  refine ma h3 rfl rfl fun a4 h4 => ?_
  refine st_nil (go_then (st_seq (st_reg ?_)))
  refine mv h4 rfl rfl fun a5 h5 => ?_
  refine sl_copys h5 (wn rfl) rfl Tryz.underlying130 (by kernel_rfl) (h5.ev rfl) (h5.ev rfl) S3 (i := 0) rfl (by rw [zerosL_length]; omega) fun a6 X6 hq6 S6 => ?_
  have h6 := hq6 rfl
  refine st_nil (go_then (st_seq ?_))
  apply dr_flow h6 [false, false, false, false, false] _ (by kernel_rfl)
  case h =>
   refine sq_val h6 (wn rfl) rfl rfl (fun X hX => (ex_move (h6.ev rfl))) fun a7 h7 => ?_
   refine sq_val h7 (wn rfl) rfl rfl (fun X hX => (ex_slice (l := 8) (h := 512) (sz := 1) Tryz.underlying130 (by kernel_rfl) (h7.ev rfl) (h7.ev rfl) rfl (by omega) (by omega) (.inl (by omega)) rfl)) fun a8 h8 => ?_
   refine sq_val h8 (wn rfl) rfl rfl (fun X hX => (ex_field (off := 0) (j := 0) (by kernel_rfl) (h8.ev rfl) rfl)) fun a9 h9 => ?_
   refine sq_val h9 (wn rfl) rfl rfl (fun X hX => (ex_load (by kernel_rfl) (h9.ev rfl) ((S6.grow hX).cell (i := 1) rfl rfl))) fun a10 h10 => ?_
   refine sq_val h10 (wn rfl) rfl rfl (fun X hX => (ex_convin (by kernel_rfl) Tryz.underlying128 (h10.ev rfl) (wrap_u32 hs))) fun a11 h11 => ?_
   refine sq_nil ?_
   refine nd_end fun X12 hX12 hΦ12 => ?_
   have S12 := S6.grow hX12
   refine sl_upd h11 (wn rfl) (ex_call (fun _ _ => by kernel_rfl) (h11.evs rfl) rfl) S12 (i := 0) rfl rfl (put32_any b8 (0 + 8 * 1) (512 - 8) (512 - 8) (patL (zerosL 512) 0 [82, 83, 84, 82]) _ hs.1 _ (S12.at_ (i := 0) rfl) (by rw [l0]; omega) (by omega) (by omega)) fun a13 X13 hq13 S13 => ?_
   have h13 := hq13 rfl
   refine st_nil (go_then (st_seq ?_))
   apply dr_flow h13 [false, false, false, false, false] _ (by kernel_rfl)
   case h =>
    refine sq_val h13 (wn rfl) rfl rfl (fun X hX => (ex_move (h13.ev rfl))) fun a14 h14 => ?_
    refine sq_val h14 (wn rfl) rfl rfl (fun X hX => (ex_slice (l := 12) (h := 512) (sz := 1) Tryz.underlying130 (by kernel_rfl) (h14.ev rfl) (h14.ev rfl) rfl (by omega) (by omega) (.inl (by omega)) rfl)) fun a15 h15 => ?_
    refine sq_val h15 (wn rfl) rfl rfl (fun X hX => (ex_field (off := 1) (j := 1) (by kernel_rfl) (h15.ev rfl) rfl)) fun a16 h16 => ?_
    refine sq_val h16 (wn rfl) rfl rfl (fun X hX => (ex_load (by kernel_rfl) (h16.ev rfl) ((S13.grow hX).cell (i := 1) rfl rfl))) fun a17 h17 => ?_
    refine sq_val h17 (wn rfl) rfl rfl (fun X hX => (ex_convin (by kernel_rfl) Tryz.underlying128 (h17.ev rfl) (wrap_u32 hc))) fun a18 h18 => ?_
    refine sq_nil ?_
    refine nd_end fun X19 hX19 hΦ19 => ?_
    have S19 := S13.grow hX19
    refine sl_upd h18 (wn rfl) (ex_call (fun _ _ => by kernel_rfl) (h18.evs rfl) rfl) S19 (i := 0) rfl rfl (put32_any b8 (0 + 12 * 1) (512 - 12) (512 - 12) _ _ hc.1 _ (S19.at_ (i := 0) rfl) (by show 0 + 12 * 1 + 4 ≤ (patL (patL (zerosL 512) 0 [82, 83, 84, 82]) 8 (lit x.s 4)).length; rw [l1]; omega) (by omega) (by omega)) fun a20 X20 hq20 S20 => ?_
    have h20 := hq20 rfl
    refine st_nil (go_then (st_seq ?_))
    apply dr_flow h20 [false, false, false, false, false] _ (by kernel_rfl)
    case h =>
     refine sq_val h20 (wn rfl) rfl rfl (fun X hX => (ex_move (h20.ev rfl))) fun a21 h21 => ?_
     refine sq_val h21 (wn rfl) rfl rfl (fun X hX => (ex_slice (l := 16) (h := 512) (sz := 1) Tryz.underlying130 (by kernel_rfl) (h21.ev rfl) (h21.ev rfl) rfl (by omega) (by omega) (.inl (by omega)) rfl)) fun a22 h22 => ?_
     refine sq_val h22 (wn rfl) rfl rfl (fun X hX => (ex_field (off := 2) (j := 2) (by kernel_rfl) (h22.ev rfl) rfl)) fun a23 h23 => ?_
     refine sq_val h23 (wn rfl) rfl rfl (fun X hX => (ex_load (by kernel_rfl) (h23.ev rfl) ((S20.grow hX).cell (i := 1) rfl rfl))) fun a24 h24 => ?_
     refine sq_val h24 (wn rfl) rfl rfl (fun X hX => (ex_convin (by kernel_rfl) Tryz.underlying128 (h24.ev rfl) (wrap_u32 ho))) fun a25 h25 => ?_
     refine sq_nil ?_
     refine nd_end fun X26 hX26 hΦ26 => ?_
     have S26 := S20.grow hX26
     refine sl_upd h25 (wn rfl) (ex_call (fun _ _ => by kernel_rfl) (h25.evs rfl) rfl) S26 (i := 0) rfl rfl (put32_any b8 (0 + 16 * 1) (512 - 16) (512 - 16) _ _ ho.1 _ (S26.at_ (i := 0) rfl) (by show 0 + 16 * 1 + 4 ≤ (patL (patL (patL (zerosL 512) 0 [82, 83, 84, 82]) 8 (lit x.s 4)) 12 (lit x.c 4)).length; rw [l2]; omega) (by omega) (by omega)) fun a27 X27 hq27 S27 => ?_
     have h27 := hq27 rfl
     refine st_nil (go_then (st_seq (st_reg ?_)))
     refine mv h27 rfl rfl fun a28 h28 => ?_
     refine sl_val h28 (wn rfl) (ex_slice (l := 20) (h := 512) (sz := 1) Tryz.underlying130 (by kernel_rfl) (h28.ev rfl) (h28.ev rfl) rfl (by omega) (by omega) (.inl (by omega)) rfl) rfl rfl fun a29 h29 => ?_
     refine mv h29 rfl rfl fun a30 h30 => ?_
     refine sl_val h30 (wn rfl) (ex_convin (by kernel_rfl) Tryz.underlying151 (h30.ev rfl) (wrap_u16 hpg)) rfl rfl fun a31 h31 => ?_
     refine sl_upd h31 (wn rfl) (ex_call (fun _ _ => by kernel_rfl) (h31.evs rfl) rfl) S27 (i := 0) rfl rfl (put16_any b8 (0 + 20 * 1) (512 - 20) (512 - 20) _ _ hpg.1 _ (S27.at_ (i := 0) rfl) (by show 0 + 20 * 1 + 2 ≤ (patL (patL (patL (patL (zerosL 512) 0 [82, 83, 84, 82]) 8 (lit x.s 4)) 12 (lit x.c 4)) 16 (lit x.o 4)).length; rw [l3]; omega) (by omega)) fun a32 X32 hq32 S32 => ?_
     have h32 := hq32 rfl
     replace S32 := S32.byEq (i := 0) rfl (rsH_steps x pg)
     refine st_nil (go_then (st_seq (st_reg ?_)))
     refine mv h32 rfl rfl fun a33 h33 => ?_
     refine sl_val h33 (wn rfl) (as_val (v' := .string (bs (rsH x pg))) (by rw [List.drop_zero, List.take_of_length_le (by omega)]) (ex_bstr Tryz.underlying130 Tryz.underlying5 Tryz.underlying9 (h33.ev rfl) (S32.bytStr (i := 0) (n := 512) rfl (by omega)).1 (S32.bytStr (i := 0) (n := 512) rfl (by omega)).2)) rfl rfl fun a34 h34 => ?_
     refine sl_val h34 (wn rfl) (ex_field (off := 0) (j := 0) (by kernel_rfl) (h34.ev rfl) rfl) rfl rfl fun a35 h35 => ?_
     refine sl_val h35 (wn rfl) (ex_load (by kernel_rfl) (h35.ev rfl) (S32.cell (i := 1) rfl rfl)) rfl rfl fun a36 h36 => ?_
     refine sl_val h36 (wn rfl) (ex_rem (h36.ev rfl) (h36.ev rfl) (by have := hs.1; omega)) rfl rfl fun a37 h37 => ?_
     refine sl_val h37 (wn rfl) (ex_add (h37.ev rfl) (h37.ev rfl) (by have := hs.1; omega)) rfl rfl fun a38 h38 => ?_
     refine sl_bel h38 (wn rfl) (ex_call (fun _ _ => by kernel_rfl) (h38.evs rfl) rfl) rfl rfl S32 (protect_l _ _ hP (fun i hi1 hi2 => rsH_zero _ _ i (by omega)) (by have := hs.1; omega) _) fun a39 X39 h39 S39 => ?_
     refine mv h39 rfl rfl fun a40 h40 => ?_
     refine sl_val h40 (wn rfl) (ex_extract (h40.ev rfl) rfl) rfl rfl fun a41 h41 => ?_
     refine sl_val h41 (wn rfl) (ex_extract (h41.ev rfl) rfl) rfl rfl fun a42 h42 => ?_
     refine ma h42 rfl rfl fun a43 h43 => ?_
     refine ma h43 rfl rfl fun a44 h44 => ?_
     refine st_nil (go_then (st_seq (st_reg ?_)))
     refine mv h44 rfl rfl fun a45 h45 => ?_
     refine ma h45 rfl rfl fun a46 h46 => ?_
     refine st_nil (go_then (wp_ret ?_))
     refine fin1 h46 rfl rfl ?_
     exact ⟨rfl, S39.below⟩
    case hB => kernel_rfl
    case hst => rfl
   case hB => kernel_rfl
   case hst => rfl
  case hB => kernel_rfl
  case hst => rfl
theorem rstB_U4 {x : RstP} (h : rstB x = true) : U4 x.s ∧ U4 x.c ∧ U4 x.o := by
  obtain ⟨h1, h2, h3⟩ := rstB_bd h
  unfold U4; omega
theorem pgsE_zero {n : Int} : pgsE n = 0 ↔ 4 ≤ n ∧ n ≤ 40 := by unfold pgsE; rw [unl_zero (by decide), inB_true]
theorem g32_nAt {l : List UInt8} {o : Nat} (h : o + 4 ≤ l.length) : g32 l o = nAt l o 4 := by
  have e : (l.drop o).take 4 = [l.getD o 0, l.getD (o + 1) 0, l.getD (o + 2) 0, l.getD (o + 3) 0] := by
    rw [show (4 : Nat) = 2 + 2 from rfl, List.take_add, List.drop_drop, take2_drop _ _ (by omega), take2_drop _ _ (by omega)]
    rfl
  unfold nAt
  rw [e]
  unfold g32 g16
  have e2 : o + 2 + 1 = o + 3 := rfl
  rw [e2]
  simp [num]
  omega
theorem rso1_any (s : ByteArray) (i : Nat) (b : Nat) (T : TypeId) (w : World) (hb : Box w b #[.string s] T) (hi : i + 4 ≤ s.size) (hl : s.size ≤ 1000000) :
    Calls Tryz.prog 88 #[.int .i64 i, .pointer (some ⟨b, 0, none⟩)] w fun e w' => e = .returned (.int .i64 (nAt (bl s) i 4)) ∧ Below w.heap.size w w' := by
  have hsz : (s.extract i s.size).size = s.size - i := by rw [ByteArray.size_extract]; omega
  have hbl : bl (s.extract i s.size) = (bl s).drop i := by
    unfold bl; rw [ByteArray.data_extract, Array.toList_extract, List.extract_eq_take_drop, List.take_of_length_le]
    rw [List.length_drop]; show s.size - i ≤ _; omega
  have hg : g32 (bl (s.extract i s.size)) 0 = nAt (bl s) i 4 := by
    rw [g32_nAt (by rw [bl_length]; omega), hbl]
    unfold nAt; rw [List.drop_zero]
  have hbd := g32_bd (bl (s.extract i s.size)) 0
  refine st_enter (N := 10) Tryz.func88 rfl rfl rfl (fun a0 h0 => ?_)
  have S0 := St.init w
  refine st_seq (st_reg ?_)
  refine ma h0 rfl rfl fun a1 h1 => ?_
  refine st_nil (go_then (st_seq (st_reg ?_)))
  refine sl_val h1 (wn rfl) (ex_load (by kernel_rfl) (h1.ev rfl) (box_cell (hb.below S0.below) rfl)) rfl rfl fun a2 h2 => ?_
  refine mv h2 rfl rfl fun a3 h3 => ?_
  refine sl_val h3 (wn rfl) (ex_sslice (l := i) (h := s.size) Tryz.underlying9 (h3.ev rfl) (h3.ev rfl) rfl (by omega) (by omega)) rfl rfl fun a4 h4 => ?_
  refine sl_bytes h4 (wn rfl) ⟨rfl, rfl⟩ rfl Tryz.underlying9 Tryz.underlying130 Tryz.underlying5 (h4.ev rfl) S0 fun b7 cb7 a5 X5 gb7 zb7 h5 S5 => ?_
  refine sl_bel h5 (wn rfl) (ex_call (fun _ _ => by kernel_rfl) (h5.evs rfl) rfl) rfl rfl S5 (get32_any b7 0 (s.extract i s.size).size cb7 (bl (s.extract i s.size)) _ (S5.at_ (i := 0) rfl) (by rw [bl_length]; omega) (by omega) (by omega)) fun a6 X6 h6 S6 => ?_
  refine sl_val h6 (wn rfl) (ex_convin (by kernel_rfl) Tryz.underlying3 (h6.ev rfl) (wrap_in (by omega))) rfl rfl fun a7 h7 => ?_
  refine ma h7 rfl rfl fun a8 h8 => ?_
  refine st_nil (go_then (wp_ret ?_))
  refine fin1 h8 rfl rfl ?_
  exact ⟨by rw [hg], S6.below⟩
theorem rsoV_U4 (l : List UInt8) : U4 (rsoV l).s ∧ U4 (rsoV l).c ∧ U4 (rsoV l).o := by
  have h1 := nAt_bd l 8 4
  have h2 := nAt_bd l 12 4
  have h3 := nAt_bd l 16 4
  simp only [Int.reducePow] at h1 h2 h3
  exact ⟨h1, h2, h3⟩
attribute [local irreducible] nAt opL opB rsL
theorem RestartOf_any (s : ByteArray) (pg : Int) (w : World) (hl : s.size ≤ 1000000) :
    Calls Tryz.prog 36 #[.string s, .int .i64 pg] w fun e w' => e = .returned (.tuple #[rstV (rsoR (bl s) pg), .int .i64 (rsoE (bl s) pg)]) ∧ Below w.heap.size w w' := by
  have hbd : ∀ a, 0 ≤ nAt (opL (bl s)) a 4 ∧ nAt (opL (bl s)) a 4 < 4294967296 := fun a => by
    have := nAt_bd (opL (bl s)) a 4
    simp only [Int.reducePow] at this; exact this
  obtain ⟨v1, v2, v3⟩ := rsoV_U4 (opL (bl s))
  refine st_enter (N := 51) Tryz.func36 rfl rfl rfl (fun a0 h0 => ?_)
  have S0 := St.init w
  refine st_seq (st_reg ?_)
  refine sl_new h0 (wn rfl) (f := fun b => .pointer (some ⟨b, 0, none⟩)) (ex_alloc (z := .agg #[.int .i64 0, .int .i64 0, .int .i64 0]) (by kernel_rfl)) rfl rfl S0 fun b4 a1 X1 gb4 h1 S1 => ?_
  refine ma h1 rfl rfl fun a2 h2 => ?_
  refine st_nil (go_then (st_seq (st_seq (st_reg ?_))))
  refine mv h2 rfl rfl fun a3 h3 => ?_
  refine sl_pure h3 (wn rfl) (ex_call (fun _ _ => by kernel_rfl) (h3.evs rfl) rfl) rfl rfl (CheckBlock_any _ _) fun a4 h4 => ?_
  refine mv h4 rfl rfl fun a5 h5 => ?_
  refine sl_pure h5 (wn rfl) (ex_call (fun _ _ => by kernel_rfl) (h5.evs rfl) rfl) rfl rfl (pagesErr_any _ _) fun a6 h6 => ?_
  refine sl_new h6 (wn rfl) (f := fun b => .slice (some ⟨b, 0, none⟩) 2 2) (ex_bslice Tryz.underlying140 (by kernel_rfl) (by kernel_rfl) (h6.evs2 rfl) rfl rfl rfl (by decide) (by decide)) rfl rfl S1 fun b16 a7 X7 gb16 h7 S7 => ?_
  refine sl_pure h7 (wn rfl) (ex_call (fun _ _ => by kernel_rfl) (h7.evs rfl) rfl) rfl rfl (logring_first2 (S7.at_ (i := 0) rfl)) fun a8 h8 => ?_
  refine ma h8 rfl rfl fun a9 h9 => ?_
  refine st_nil (go_then (st_seq (st_reg ?_)))
  refine mv h9 rfl rfl fun a10 h10 => ?_
  refine sl_val h10 (wn rfl) (ex_neq (h10.ev rfl) (h10.ev rfl)) rfl rfl fun a11 h11 => ?_
  refine st_nil (go_then ?_)
  refine st_if (h11.ev rfl) (fun hc0 => ?_) (fun hc0 => ?_)
  · skip
    have hE : rsoE (bl s) pg = firstE [unl (s.size == 512) 10, pgsE pg] := by
      unfold rsoE
      rw [bl_length]
      by_cases h : s.size = 512
      · have h1 : unl (s.size == 512) 10 = 0 := by rw [h]; rfl
        rw [h1] at hc0 ⊢
        rw [if_neg (by simpa using h)]
        simp only [firstE, if_true] at hc0 ⊢
        by_cases h2 : pgsE pg = 0
        · rw [h2] at hc0; simp at hc0
        · rw [if_pos h2, if_neg h2]
      · have h1 : unl (s.size == 512) 10 = 10 := by rw [show (s.size == 512) = false by simpa using h]; rfl
        rw [h1, if_pos h]; rfl
    have hR : rsoR (bl s) pg = rst0 := by
      unfold rsoR; rw [if_neg (by rw [hE]; simpa using hc0)]
    refine st_seq (st_reg ?_)
    refine sl_val h11 (wn rfl) (ex_build (zs := [.int .i64 0, .int .i64 0, .int .i64 0]) (pl := [(0, 1), (1, 1), (2, 1)]) (by kernel_rfl) (by kernel_rfl) (h11.evs2 rfl) rfl rfl) rfl rfl fun a12 h12 => ?_
    refine mv h12 rfl rfl fun a13 h13 => ?_
    refine sl_store0 h13 (wn rfl) ⟨rfl, rfl⟩ (h13.ev rfl) (h13.ev rfl) rfl (by kernel_rfl) S7 (i := 1) rfl rfl rfl fun X14 S14 => ?_
    refine ma h13 rfl rfl fun a15 h15 => ?_
    refine st_nil (go_then (wp_ret (ret_then ?_)))
    refine finct h15 rfl rfl rfl S14 (i := 1) rfl (by kernel_rfl) (by kernel_rfl) ?_
    exact ⟨by rw [hR, hE]; rfl, S14.below⟩
  · skip
    have hz : unl (s.size == 512) 10 = 0 ∧ pgsE pg = 0 := by
      have : firstE [unl (s.size == 512) 10, pgsE pg] = 0 := by simpa using hc0
      rw [firstE_zero] at this
      exact ⟨this _ (.head _), this _ (.tail _ (.head _))⟩
    have hs : s.size = 512 := by
      have := (unl_zero (by decide)).1 hz.1
      simpa using this
    have hbl : (bl s).length = 512 := by rw [bl_length]; exact hs
    have hpg := pgsE_zero.1 hz.2
    have hE0 : rsoE (bl s) pg = if opB (bl s) = false then 31 else if rstE (rsoV (opL (bl s))) ≠ 0 then 3 else if rsL (rsoV (opL (bl s))) pg ≠ bl s then 3 else 0 := by
      unfold rsoE; rw [if_neg (by simpa using hbl), if_neg (by simpa using hz.2)]
    have hO : opnE (bl s) = if opB (bl s) = false then 31 else 0 := by unfold opnE; rw [if_neg (by simpa using hbl)]
    refine wp_skip (go_then (st_seq (st_reg ?_)))
    refine mv h11 rfl rfl fun a16 h16 => ?_
    refine sl_bel h16 (wn rfl) (ex_call (fun _ _ => by kernel_rfl) (h16.evs rfl) rfl) rfl rfl S7 (OpenBlock_any _ _ hl) fun a17 X17 h17 S17 => ?_
    refine mv h17 rfl rfl fun a18 h18 => ?_
    refine sl_val h18 (wn rfl) (ex_extract (h18.ev rfl) rfl) rfl rfl fun a19 h19 => ?_
    refine sl_val h19 (wn rfl) (ex_extract (h19.ev rfl) rfl) rfl rfl fun a20 h20 => ?_
    refine sl_val h20 (wn rfl) (ex_extract (h20.ev rfl) rfl) rfl rfl fun a21 h21 => ?_
    refine sl_new h21 (wn rfl) (f := fun b => .pointer (some ⟨b, 0, none⟩)) (ex_alloc (z := .string ⟨#[]⟩) (by kernel_rfl)) rfl rfl S17 fun b7 a22 X22 gb7 h22 S22 => ?_
    refine sl_store0 h22 (wn rfl) ⟨rfl, rfl⟩ (h22.ev rfl) (h22.ev rfl) rfl (by kernel_rfl) S22 (i := 0) rfl rfl rfl fun X23 S23 => ?_
    refine ma h22 rfl rfl fun a24 h24 => ?_
    refine ma h24 rfl rfl fun a25 h25 => ?_
    refine st_nil (go_then (st_seq (st_seq (st_reg ?_))))
    refine mv h25 rfl rfl fun a26 h26 => ?_
    refine sl_val h26 (wn rfl) (ex_neq (h26.ev rfl) (h26.ev rfl)) rfl rfl fun a27 h27 => ?_
    refine st_nil (go_then ?_)
    refine st_if (h27.ev rfl) (fun hc1 => ?_) (fun hc1 => ?_)
    · skip
      have hB : opB (bl s) = false := by
        rw [hO] at hc1
        cases h : opB (bl s) with
        | false => rfl
        | true => rw [h] at hc1; simp at hc1
      have hE : rsoE (bl s) pg = 31 := by rw [hE0, if_pos hB]
      have hR : rsoR (bl s) pg = rst0 := by unfold rsoR; rw [if_neg (by rw [hE]; decide)]
      refine st_seq (st_reg ?_)
      refine sl_val h27 (wn rfl) (ex_build (zs := [.int .i64 0, .int .i64 0, .int .i64 0]) (pl := [(0, 1), (1, 1), (2, 1)]) (by kernel_rfl) (by kernel_rfl) (h27.evs2 rfl) rfl rfl) rfl rfl fun a28 h28 => ?_
      refine sl_store0 h28 (wn rfl) ⟨rfl, rfl⟩ (h28.ev rfl) (h28.ev rfl) rfl (by kernel_rfl) S23 (i := 2) rfl rfl rfl fun X29 S29 => ?_
      refine ma h28 rfl rfl fun a30 h30 => ?_
      refine st_nil (go_then (wp_ret (ret_then ?_)))
      refine finct h30 rfl rfl rfl S29 (i := 2) rfl (by kernel_rfl) (by kernel_rfl) ?_
      exact ⟨by rw [hR, hE]; rfl, S29.below⟩
    · skip
      have hB : opB (bl s) = true := by
        rw [hO] at hc1
        cases h : opB (bl s) with
        | true => rfl
        | false => rw [h] at hc1; simp at hc1
      have hO1 : opnE (bl s) = 0 := by rw [hO, if_neg (by rw [hB]; decide)]
      have hst : (if opnE (bl s) = 0 then bs (opL (bl s)) else ⟨#[]⟩) = bs (opL (bl s)) := by rw [if_pos hO1]
      rw [hst] at S23
      have hE1 : rsoE (bl s) pg = if rstE (rsoV (opL (bl s))) ≠ 0 then 3 else if rsL (rsoV (opL (bl s))) pg ≠ bl s then 3 else 0 := by
        rw [hE0, if_neg (by rw [hB]; decide)]
      have hosz : (bs (opL (bl s))).size = 512 := by rw [bs_size, opL_length hbl]
      have hob : bl (bs (opL (bl s))) = opL (bl s) := bl_bs _
      refine wp_skip (go_then (st_seq (st_reg ?_)))
      refine sl_val h27 (wn rfl) (ex_func (h27.evs rfl) (h27.evs rfl)) rfl rfl fun a31 h31 => ?_
      refine ma h31 rfl rfl fun a32 h32 => ?_
      refine st_nil (go_then (st_seq (st_reg ?_)))
      refine mv h32 rfl rfl fun a33 h33 => ?_
      refine sl_bel h33 (wn rfl) (ex_callv (fun _ _ => by kernel_rfl) (h33.ev rfl) (h33.evs rfl) rfl) rfl rfl S23 (rso1_any (bs (opL (bl s))) 8 b7 _ _ (S23.at_ (i := 0) rfl) (by omega) (by omega)) fun a34 X34 h34 S34 => ?_
      rw [hob] at h34
      refine mv h34 rfl rfl fun a35 h35 => ?_
      refine sl_bel h35 (wn rfl) (ex_callv (fun _ _ => by kernel_rfl) (h35.ev rfl) (h35.evs rfl) rfl) rfl rfl S34 (rso1_any (bs (opL (bl s))) 12 b7 _ _ (S34.at_ (i := 0) rfl) (by omega) (by omega)) fun a36 X36 h36 S36 => ?_
      rw [hob] at h36
      refine mv h36 rfl rfl fun a37 h37 => ?_
      refine sl_bel h37 (wn rfl) (ex_callv (fun _ _ => by kernel_rfl) (h37.ev rfl) (h37.evs rfl) rfl) rfl rfl S36 (rso1_any (bs (opL (bl s))) 16 b7 _ _ (S36.at_ (i := 0) rfl) (by omega) (by omega)) fun a38 X38 h38 S38 => ?_
      rw [hob] at h38
      refine sl_val (v := rstV (rsoV (opL (bl s)))) h38 (wn rfl) (ex_build (zs := [.int .i64 0, .int .i64 0, .int .i64 0]) (pl := [(0, 1), (1, 1), (2, 1)]) (by kernel_rfl) (by kernel_rfl) (h38.evs2 rfl) rfl rfl) rfl rfl fun a39 h39 => ?_
      refine sl_new h39 (wn rfl) (f := fun b => .pointer (some ⟨b, 0, none⟩)) (ex_alloc (z := .agg #[.int .i64 0, .int .i64 0, .int .i64 0]) (by kernel_rfl)) rfl rfl S38 fun b11 a40 X40 gb11 h40 S40 => ?_
      refine sl_store0 h40 (wn rfl) ⟨rfl, rfl⟩ (h40.ev rfl) (h40.ev rfl) rfl (by kernel_rfl) S40 (i := 0) rfl rfl rfl fun X41 S41 => ?_
      refine st_nil (go_then (st_seq (st_seq (st_reg ?_))))
      refine sl_val (v := rstV (rsoV (opL (bl s)))) h40 (wn rfl) (ex_loads (by kernel_rfl) (by kernel_rfl) (h40.ev rfl) (S41.cellsAll (i := 0) rfl)) rfl rfl fun a42 h42 => ?_
      refine sl_bel h42 (wn rfl) (ex_call (fun _ _ => by kernel_rfl) (h42.evs rfl) rfl) rfl rfl S41 (areaErr_any (rsoV (opL (bl s))) _) fun a43 X43 h43 S43 => ?_
      refine sl_val h43 (wn rfl) (ex_neq (h43.ev rfl) (h43.ev rfl)) rfl rfl fun a44 h44 => ?_
      refine mv h44 rfl rfl fun a45 h45 => ?_
      apply sl_or h45 S43 42 rfl 6 48
      case hf =>
       intro gc42
       refine sl_val (v := rstV (rsoV (opL (bl s)))) h45 (wanted_yes h45 _ rfl rfl rfl gc42) (ex_loads (by kernel_rfl) (by kernel_rfl) (h45.ev rfl) (S43.cellsAll (i := 0) rfl)) rfl rfl fun a46 h46 => ?_
       refine sl_val h46 (wanted_yes h46 _ rfl rfl rfl gc42) (ex_move (h46.ev rfl)) rfl rfl fun a47 h47 => ?_
       refine sl_bel h47 (wanted_yes h47 _ rfl rfl rfl gc42) (ex_call (fun _ _ => by kernel_rfl) (h47.evs rfl) rfl) rfl rfl S43 (restartPage_any (rsoV (opL (bl s))) pg v1 v2 v3 (by omega) _) fun a48 X48 h48 S48 => ?_
       refine sl_val h48 (wanted_yes h48 _ rfl rfl rfl gc42) (ex_move (h48.ev rfl)) rfl rfl fun a49 h49 => ?_
       refine sl_val h49 (wanted_yes h49 _ rfl rfl rfl gc42) (ex_sneq (h49.ev rfl) (h49.ev rfl)) rfl rfl fun a50 h50 => ?_
       refine sl_val h50 (wn rfl) (ex_pick_f (h50.ev rfl) gc42 (h50.ev rfl)) rfl rfl fun a51 h51 => ?_
       exact st_nil ⟨h51.mid (m := [(_, _), (_, _), (_, _), (_, _), (_, _)]) rfl, S48⟩
      case ht =>
       intro gc42
       refine sl_no h45 (wanted_no h45 _ rfl rfl rfl gc42) rfl rfl fun a52 h52 => ?_
       refine sl_no h52 (wanted_no h52 _ rfl rfl rfl gc42) rfl rfl fun a53 h53 => ?_
       refine sl_no h53 (wanted_no h53 _ rfl rfl rfl gc42) rfl rfl fun a54 h54 => ?_
       refine sl_no h54 (wanted_no h54 _ rfl rfl rfl gc42) rfl rfl fun a55 h55 => ?_
       refine sl_no h55 (wanted_no h55 _ rfl rfl rfl gc42) rfl rfl fun a56 h56 => ?_
       refine sl_val h56 (wn rfl) (ex_pick_t (h56.ev rfl) gc42 (h56.ev rfl)) rfl rfl fun a57 h57 => ?_
       exact st_nil ⟨h57.mid (m := [(_, _), (_, _), (_, _), (_, _), (_, _)]) rfl, S43⟩
      case h =>
       rintro a58 X58 ⟨h58, S58⟩
       refine st_nil (go_then ?_)
       refine st_if (h58.ev rfl) (fun hc2 => ?_) (fun hc2 => ?_)
       · skip
         have hE : rsoE (bl s) pg = 3 := by
           rw [hE1]
           by_cases h1 : rstE (rsoV (opL (bl s))) = 0
           · rw [if_neg (by simpa using h1)]
             rw [h1] at hc2
             have h2 : ¬ bs (rsL (rsoV (opL (bl s))) pg) = s := by simpa using hc2
             rw [if_pos (fun h => h2 (by rw [h, bs_bl]))]
           · rw [if_pos h1]
         have hR : rsoR (bl s) pg = rst0 := by unfold rsoR; rw [if_neg (by rw [hE]; decide)]
         refine st_seq (st_reg ?_)
         refine sl_val h58 (wn rfl) (ex_build (zs := [.int .i64 0, .int .i64 0, .int .i64 0]) (pl := [(0, 1), (1, 1), (2, 1)]) (by kernel_rfl) (by kernel_rfl) (h58.evs2 rfl) rfl rfl) rfl rfl fun a59 h59 => ?_
         refine sl_store0 h59 (wn rfl) ⟨rfl, rfl⟩ (h59.ev rfl) (h59.ev rfl) rfl (by kernel_rfl) S58 (i := 3) rfl rfl rfl fun X60 S60 => ?_
         refine ma h59 rfl rfl fun a61 h61 => ?_
         refine st_nil (go_then (wp_ret (ret_then ?_)))
         refine finct h61 rfl rfl rfl S60 (i := 3) rfl (by kernel_rfl) (by kernel_rfl) ?_
         exact ⟨by rw [hR, hE]; rfl, S60.below⟩
       · skip
         have hE : rsoE (bl s) pg = 0 := by
           rw [Bool.or_eq_false_iff] at hc2
           rw [hE1, if_neg (by have := hc2.1; simpa using this)]
           have h2 : bs (rsL (rsoV (opL (bl s))) pg) = s := by have := hc2.2; simpa using this
           rw [if_neg (fun hne => hne (by have := congrArg bl h2; rw [bl_bs] at this; exact this))]
         have hR : rsoR (bl s) pg = rsoV (opL (bl s)) := by unfold rsoR; rw [if_pos hE]
         refine wp_skip (go_then (st_seq (st_reg ?_)))
         refine sl_val (v := rstV (rsoV (opL (bl s)))) h58 (wn rfl) (ex_loads (by kernel_rfl) (by kernel_rfl) (h58.ev rfl) (S58.cellsAll (i := 0) rfl)) rfl rfl fun a62 h62 => ?_
         refine sl_store0 h62 (wn rfl) ⟨rfl, rfl⟩ (h62.ev rfl) (h62.ev rfl) rfl (by kernel_rfl) S58 (i := 3) rfl rfl rfl fun X63 S63 => ?_
         refine ma h62 rfl rfl fun a64 h64 => ?_
         refine st_nil (go_then (wp_ret ?_))
         refine finct h64 rfl rfl rfl S63 (i := 3) rfl (by kernel_rfl) (by kernel_rfl) ?_
         exact ⟨by rw [hR, hE]; rfl, S63.below⟩
end Go.Proofs.YtmlilplbdpjfcaaGreatDoor
