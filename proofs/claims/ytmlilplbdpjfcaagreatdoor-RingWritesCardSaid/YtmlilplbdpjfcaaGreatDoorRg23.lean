/-
  Chapter 20: the reference's copies and comparisons.
-/
import Derived.Test.YtmlilplbdpjfcaaGreatDoorRg22
namespace Go.Proofs.YtmlilplbdpjfcaaGreatDoor
set_option linter.unusedVariables false
set_option linter.unusedSimpArgs false
set_option maxRecDepth 4000
open Go.RowKit Go.Sort
theorem rCopy_nil (r : RngP) (A : Option Addr) (c : Nat) (w : World) (hnil : r.rs = []) :
    Calls Tryz.prog 14 #[ringV r A c] w fun e w' => ∃ A' c', e = .returned (ringV r A' c') ∧ w'.ownsRow w.heap.size 98 3 (.slice A' r.rs.length c') r.rs.length (recsV r.rs) ∧ Below w.heap.size w w' := by
  obtain ⟨pg, rr, ee, rs, nx⟩ := r
  have hnil' : rs = [] := hnil
  subst hnil'
  refine st_enter (N := 11) Tryz.func14 rfl rfl rfl (fun a0 h0 => ?_)
  have S0 := St.init w
  refine st_seq (st_reg ?_)
  refine sl_new h0 (wn rfl) (f := fun b => .pointer (some ⟨b, 0, none⟩)) (ex_box (h0.ev rfl)) rfl rfl S0 fun b1 a1 X1 gb1 h1 S1 => ?_
  refine sl_new h1 (wn rfl) (f := fun b => .pointer (some ⟨b, 0, none⟩)) (ex_alloc (z := .agg #[.int .i64 0, .int .i64 0, .int .i64 0, .int .i64 0, .int .i64 0, .int .i64 0, .int .i64 0, .slice none 0 0, .int .i64 0]) (by kernel_rfl)) rfl rfl S1 fun b2 a2 X2 gb2 h2 S2 => ?_
  refine st_nil (go_then (st_seq (st_reg ?_)))
  refine sl_val h2 (wn rfl) (ex_loads (by kernel_rfl) (by kernel_rfl) (h2.ev rfl) (S2.cellsAll (i := 1) rfl)) rfl rfl fun a3 h3 => ?_
  refine sl_new h3 (wn rfl) (f := fun b => .pointer (some ⟨b, 0, none⟩)) (ex_alloc (z := .agg #[.int .i64 0, .int .i64 0, .int .i64 0, .int .i64 0, .int .i64 0, .int .i64 0, .int .i64 0, .slice none 0 0, .int .i64 0]) (by kernel_rfl)) rfl rfl S2 fun b3 a4 X4 gb3 h4 S4 => ?_
  refine sl_store0 h4 (wn rfl) ⟨rfl, rfl⟩ (h4.ev rfl) (h4.ev rfl) rfl (by kernel_rfl) S4 (i := 0) rfl rfl rfl fun X5 S5 => ?_
  refine st_nil (go_then (st_seq (st_reg ?_)))
  refine sl_bslice (zc := [.int .i64 0, .int .i64 0, .string ⟨#[]⟩]) (sz := 3) h4 (wn rfl) ⟨rfl, rfl⟩ rfl Tryz.underlying24 (by kernel_rfl) (by kernel_rfl) rfl rfl rfl (h4.evs2 rfl) rfl rfl rfl S5 fun b5 a6 X6 gb5 h6 S6 => ?_
  refine sl_val h6 (wn rfl) (ex_field (off := 7) (j := 7) (by kernel_rfl) (h6.ev rfl) rfl) rfl rfl fun a7 h7 => ?_
  refine sl_val h7 (wn rfl) (ex_load (by kernel_rfl) (h7.ev rfl) (S6.cell (i := 3) rfl rfl)) rfl rfl fun a8 h8 => ?_
  refine sl_append0 (sz := 3) h8 (wn rfl) ⟨rfl, rfl⟩ rfl Tryz.underlying24 (by kernel_rfl) (h8.ev rfl) (h8.ev rfl) fun a9 h9 => ?_
  refine sl_val h9 (wn rfl) (ex_field (off := 7) (j := 7) (by kernel_rfl) (h9.ev rfl) rfl) rfl rfl fun a10 h10 => ?_
  refine sl_store h10 (wn rfl) ⟨rfl, rfl⟩ (h10.ev rfl) (h10.ev rfl) rfl (by kernel_rfl) S6 (i := 1) rfl rfl rfl fun X11 S11 => ?_
  refine st_nil (go_then (st_seq (st_reg ?_)))
  refine sl_val h10 (wn rfl) (ex_loads (by kernel_rfl) (by kernel_rfl) (h10.ev rfl) (S11.cellsAll (i := 1) rfl)) rfl rfl fun a12 h12 => ?_
  refine sl_store0 h12 (wn rfl) ⟨rfl, rfl⟩ (h12.ev rfl) (h12.ev rfl) rfl (by kernel_rfl) S11 (i := 2) rfl rfl rfl fun X13 S13 => ?_
  refine st_nil (go_then (wp_ret ?_))
  refine finc h12 rfl rfl S13 (i := 2) rfl (by kernel_rfl) (by kernel_rfl) ?_
  have q := (S13.toRow (i := 0) (n := 0) (sz := 3) rfl rfl (by decide)).ownB (i := 0) rfl
  exact ⟨some ⟨b5, 0, none⟩, 0, rfl, q, S13.below⟩
theorem rCopy_any (r : RngP) (A : Option Addr) (c : Nat) (w : World) (hr : Rd w w.heap.size A (recsV r.rs)) (hlen : r.rs.length ≤ 1000) :
    Calls Tryz.prog 14 #[ringV r A c] w fun e w' => ∃ A' c', e = .returned (ringV r A' c') ∧ w'.ownsRow w.heap.size 98 3 (.slice A' r.rs.length c') r.rs.length (recsV r.rs) ∧ Below w.heap.size w w' := by
  rcases Nat.eq_zero_or_pos r.rs.length with h0 | h0
  · exact rCopy_nil r A c w (List.eq_nil_of_length_eq_zero h0)
  refine st_enter (N := 11) Tryz.func14 rfl rfl rfl (fun a0 h0 => ?_)
  have S0 := St.init w
  refine st_seq (st_reg ?_)
  refine sl_new h0 (wn rfl) (f := fun b => .pointer (some ⟨b, 0, none⟩)) (ex_box (h0.ev rfl)) rfl rfl S0 fun b1 a1 X1 gb1 h1 S1 => ?_
  refine sl_new h1 (wn rfl) (f := fun b => .pointer (some ⟨b, 0, none⟩)) (ex_alloc (z := .agg #[.int .i64 0, .int .i64 0, .int .i64 0, .int .i64 0, .int .i64 0, .int .i64 0, .int .i64 0, .slice none 0 0, .int .i64 0]) (by kernel_rfl)) rfl rfl S1 fun b2 a2 X2 gb2 h2 S2 => ?_
  refine st_nil (go_then (st_seq (st_reg ?_)))
  refine sl_val h2 (wn rfl) (ex_loads (by kernel_rfl) (by kernel_rfl) (h2.ev rfl) (S2.cellsAll (i := 1) rfl)) rfl rfl fun a3 h3 => ?_
  refine sl_new h3 (wn rfl) (f := fun b => .pointer (some ⟨b, 0, none⟩)) (ex_alloc (z := .agg #[.int .i64 0, .int .i64 0, .int .i64 0, .int .i64 0, .int .i64 0, .int .i64 0, .int .i64 0, .slice none 0 0, .int .i64 0]) (by kernel_rfl)) rfl rfl S2 fun b3 a4 X4 gb3 h4 S4 => ?_
  refine sl_store0 h4 (wn rfl) ⟨rfl, rfl⟩ (h4.ev rfl) (h4.ev rfl) rfl (by kernel_rfl) S4 (i := 0) rfl rfl rfl fun X5 S5 => ?_
  refine st_nil (go_then (st_seq (st_reg ?_)))
  refine sl_bslice (zc := [.int .i64 0, .int .i64 0, .string ⟨#[]⟩]) (sz := 3) h4 (wn rfl) ⟨rfl, rfl⟩ rfl Tryz.underlying24 (by kernel_rfl) (by kernel_rfl) rfl rfl rfl (h4.evs2 rfl) rfl rfl rfl S5 fun b5 a6 X6 gb5 h6 S6 => ?_
  refine sl_val h6 (wn rfl) (ex_field (off := 7) (j := 7) (by kernel_rfl) (h6.ev rfl) rfl) rfl rfl fun a7 h7 => ?_
  refine sl_val h7 (wn rfl) (ex_load (by kernel_rfl) (h7.ev rfl) (S6.cell (i := 3) rfl rfl)) rfl rfl fun a8 h8 => ?_
  have S9 := S6.toRow (i := 0) (n := 0) (sz := 3) rfl rfl (by decide)
  refine sl_append (z := .agg #[.int .i64 0, .int .i64 0, .string ⟨#[]⟩]) (sz := 3) (bytes := 32) h8 (wn rfl) ⟨rfl, rfl⟩ rfl Tryz.underlying24 (by kernel_rfl) rfl rfl (h8.ev rfl) (h8.ev rfl) S9 (i := 0) rfl (S9.rd0 hr) (recsV_length r.rs) (recsV_one r.rs) ⟨(by omega), by decide⟩ fun A8 c8 a10 X10 h10 S10 => ?_
  refine sl_val h10 (wn rfl) (ex_field (off := 7) (j := 7) (by kernel_rfl) (h10.ev rfl) rfl) rfl rfl fun a11 h11 => ?_
  refine sl_store h11 (wn rfl) ⟨rfl, rfl⟩ (h11.ev rfl) (h11.ev rfl) rfl (by kernel_rfl) S10 (i := 1) rfl rfl rfl fun X12 S12 => ?_
  rw [Nat.zero_add] at S12
  refine st_nil (go_then (st_seq (st_reg ?_)))
  refine sl_val h11 (wn rfl) (ex_loads (by kernel_rfl) (by kernel_rfl) (h11.ev rfl) (S12.cellsAll (i := 1) rfl)) rfl rfl fun a13 h13 => ?_
  refine sl_store0 h13 (wn rfl) ⟨rfl, rfl⟩ (h13.ev rfl) (h13.ev rfl) rfl (by kernel_rfl) S12 (i := 2) rfl rfl rfl fun X14 S14 => ?_
  refine st_nil (go_then (wp_ret ?_))
  refine finc h13 rfl rfl S14 (i := 2) rfl (by kernel_rfl) (by kernel_rfl) ?_
  exact ⟨A8, c8, rfl, S14.ownB (i := 0) rfl, S14.below⟩
theorem rec_eqL (x y : RecP) : eqL [.int .i64 x.l, .int .i64 x.s, .string x.b] [.int .i64 y.l, .int .i64 y.s, .string y.b] = decide (x = y) := by
  obtain ⟨a, b, c⟩ := x
  obtain ⟨a', b', c'⟩ := y
  rw [Bool.eq_iff_iff]
  simp [eqL, eqV2]
theorem rSame_any (r t : RngP) (A A' : Option Addr) (c c' : Nat) (w : World) (hr : Rd w w.heap.size A (recsV r.rs)) (ht : Rd w w.heap.size A' (recsV t.rs)) (hlen : r.rs.length ≤ 1000) (hlen' : t.rs.length ≤ 1000) :
    Calls Tryz.prog 19 #[ringV r A c, ringV t A' c'] w fun e w' => e = .returned (.bool (decide (r = t))) ∧ Below w.heap.size w w' := by
  refine st_enter (N := 59) Tryz.func19 rfl rfl rfl (fun a0 h0 => ?_)
  have S0 := St.init w
  refine st_seq (st_reg ?_)
  refine sl_new h0 (wn rfl) (f := fun b => .pointer (some ⟨b, 0, none⟩)) (ex_box (h0.ev rfl)) rfl rfl S0 fun b2 a1 X1 gb2 h1 S1 => ?_
  refine sl_new h1 (wn rfl) (f := fun b => .pointer (some ⟨b, 0, none⟩)) (ex_box (h1.ev rfl)) rfl rfl S1 fun b3 a2 X2 gb3 h2 S2 => ?_
  refine ma h2 rfl rfl fun a3 h3 => ?_
  refine st_nil (go_then (st_seq (st_seq (st_reg ?_))))
  refine sl_val h3 (wn rfl) (ex_field (off := 0) (j := 0) (by kernel_rfl) (h3.ev rfl) rfl) rfl rfl fun a4 h4 => ?_
  refine sl_val h4 (wn rfl) (ex_load (by kernel_rfl) (h4.ev rfl) (S2.cell (i := 1) rfl rfl)) rfl rfl fun a5 h5 => ?_
  refine sl_val h5 (wn rfl) (ex_field (off := 0) (j := 0) (by kernel_rfl) (h5.ev rfl) rfl) rfl rfl fun a6 h6 => ?_
  refine sl_val h6 (wn rfl) (ex_load (by kernel_rfl) (h6.ev rfl) (S2.cell (i := 0) rfl rfl)) rfl rfl fun a7 h7 => ?_
  refine sl_val h7 (wn rfl) (ex_neq (h7.ev rfl) (h7.ev rfl)) rfl rfl fun a8 h8 => ?_
  refine mv h8 rfl rfl fun a9 h9 => ?_
  apply sl_or h9 S2 11 rfl 6 17
  case hf =>
   intro gc11
   refine sl_val h9 (wanted_yes h9 _ rfl rfl rfl gc11) (ex_field (off := 1) (j := 1) (by kernel_rfl) (h9.ev rfl) rfl) rfl rfl fun a10 h10 => ?_
   refine sl_val (v := rstV r.r) h10 (wanted_yes h10 _ rfl rfl rfl gc11) (ex_loads (by kernel_rfl) (by kernel_rfl) (h10.ev rfl) (S2.cellsOf (i := 1) rfl 1 3)) rfl rfl fun a11 h11 => ?_
   refine sl_val h11 (wanted_yes h11 _ rfl rfl rfl gc11) (ex_field (off := 1) (j := 1) (by kernel_rfl) (h11.ev rfl) rfl) rfl rfl fun a12 h12 => ?_
   refine sl_val (v := rstV t.r) h12 (wanted_yes h12 _ rfl rfl rfl gc11) (ex_loads (by kernel_rfl) (by kernel_rfl) (h12.ev rfl) (S2.cellsOf (i := 0) rfl 1 3)) rfl rfl fun a13 h13 => ?_
   refine sl_val h13 (wanted_yes h13 _ rfl rfl rfl gc11) (ex_tneq (ks := [.i .i64, .i .i64, .i .i64]) (by kernel_rfl) Tryz.underlying23 (by kernel_rfl) (h13.ev rfl) (h13.ev rfl) rfl rfl) rfl rfl fun a14 h14 => ?_
   refine sl_val h14 (wn rfl) (ex_pick_f (h14.ev rfl) gc11 (h14.ev rfl)) rfl rfl fun a15 h15 => ?_
   exact st_nil ⟨h15.mid (m := [(_, _), (_, _), (_, _), (_, _), (_, _)]) rfl, S2⟩
  case ht =>
   intro gc11
   refine sl_no h9 (wanted_no h9 _ rfl rfl rfl gc11) rfl rfl fun a16 h16 => ?_
   refine sl_no h16 (wanted_no h16 _ rfl rfl rfl gc11) rfl rfl fun a17 h17 => ?_
   refine sl_no h17 (wanted_no h17 _ rfl rfl rfl gc11) rfl rfl fun a18 h18 => ?_
   refine sl_no h18 (wanted_no h18 _ rfl rfl rfl gc11) rfl rfl fun a19 h19 => ?_
   refine sl_no h19 (wanted_no h19 _ rfl rfl rfl gc11) rfl rfl fun a20 h20 => ?_
   refine sl_val h20 (wn rfl) (ex_pick_t (h20.ev rfl) gc11 (h20.ev rfl)) rfl rfl fun a21 h21 => ?_
   exact st_nil ⟨h21.mid (m := [(_, _), (_, _), (_, _), (_, _), (_, _)]) rfl, S2⟩
  case h =>
   rintro a22 X22 ⟨h22, S22⟩
   refine mv h22 rfl rfl fun a23 h23 => ?_
   apply sl_or h23 S22 18 rfl 6 24
   case hf =>
    intro gc18
    refine sl_val h23 (wanted_yes h23 _ rfl rfl rfl gc18) (ex_field (off := 4) (j := 4) (by kernel_rfl) (h23.ev rfl) rfl) rfl rfl fun a24 h24 => ?_
    refine sl_val (v := rstV r.e) h24 (wanted_yes h24 _ rfl rfl rfl gc18) (ex_loads (by kernel_rfl) (by kernel_rfl) (h24.ev rfl) (S22.cellsOf (i := 1) rfl 4 3)) rfl rfl fun a25 h25 => ?_
    refine sl_val h25 (wanted_yes h25 _ rfl rfl rfl gc18) (ex_field (off := 4) (j := 4) (by kernel_rfl) (h25.ev rfl) rfl) rfl rfl fun a26 h26 => ?_
    refine sl_val (v := rstV t.e) h26 (wanted_yes h26 _ rfl rfl rfl gc18) (ex_loads (by kernel_rfl) (by kernel_rfl) (h26.ev rfl) (S22.cellsOf (i := 0) rfl 4 3)) rfl rfl fun a27 h27 => ?_
    refine sl_val h27 (wanted_yes h27 _ rfl rfl rfl gc18) (ex_tneq (ks := [.i .i64, .i .i64, .i .i64]) (by kernel_rfl) Tryz.underlying23 (by kernel_rfl) (h27.ev rfl) (h27.ev rfl) rfl rfl) rfl rfl fun a28 h28 => ?_
    refine sl_val h28 (wn rfl) (ex_pick_f (h28.ev rfl) gc18 (h28.ev rfl)) rfl rfl fun a29 h29 => ?_
    exact st_nil ⟨h29.mid (m := [(_, _), (_, _), (_, _), (_, _), (_, _)]) rfl, S22⟩
   case ht =>
    intro gc18
    refine sl_no h23 (wanted_no h23 _ rfl rfl rfl gc18) rfl rfl fun a30 h30 => ?_
    refine sl_no h30 (wanted_no h30 _ rfl rfl rfl gc18) rfl rfl fun a31 h31 => ?_
    refine sl_no h31 (wanted_no h31 _ rfl rfl rfl gc18) rfl rfl fun a32 h32 => ?_
    refine sl_no h32 (wanted_no h32 _ rfl rfl rfl gc18) rfl rfl fun a33 h33 => ?_
    refine sl_no h33 (wanted_no h33 _ rfl rfl rfl gc18) rfl rfl fun a34 h34 => ?_
    refine sl_val h34 (wn rfl) (ex_pick_t (h34.ev rfl) gc18 (h34.ev rfl)) rfl rfl fun a35 h35 => ?_
    exact st_nil ⟨h35.mid (m := [(_, _), (_, _), (_, _), (_, _), (_, _)]) rfl, S22⟩
   case h =>
    rintro a36 X36 ⟨h36, S36⟩
    refine mv h36 rfl rfl fun a37 h37 => ?_
    apply sl_or h37 S36 25 rfl 6 31
    case hf =>
     intro gc25
     refine sl_val h37 (wanted_yes h37 _ rfl rfl rfl gc25) (ex_field (off := 8) (j := 8) (by kernel_rfl) (h37.ev rfl) rfl) rfl rfl fun a38 h38 => ?_
     refine sl_val h38 (wanted_yes h38 _ rfl rfl rfl gc25) (ex_load (by kernel_rfl) (h38.ev rfl) (S36.cell (i := 1) rfl rfl)) rfl rfl fun a39 h39 => ?_
     refine sl_val h39 (wanted_yes h39 _ rfl rfl rfl gc25) (ex_field (off := 8) (j := 8) (by kernel_rfl) (h39.ev rfl) rfl) rfl rfl fun a40 h40 => ?_
     refine sl_val h40 (wanted_yes h40 _ rfl rfl rfl gc25) (ex_load (by kernel_rfl) (h40.ev rfl) (S36.cell (i := 0) rfl rfl)) rfl rfl fun a41 h41 => ?_
     refine sl_val h41 (wanted_yes h41 _ rfl rfl rfl gc25) (ex_neq (h41.ev rfl) (h41.ev rfl)) rfl rfl fun a42 h42 => ?_
     refine sl_val h42 (wn rfl) (ex_pick_f (h42.ev rfl) gc25 (h42.ev rfl)) rfl rfl fun a43 h43 => ?_
     exact st_nil ⟨h43.mid (m := [(_, _), (_, _), (_, _), (_, _), (_, _)]) rfl, S36⟩
    case ht =>
     intro gc25
     refine sl_no h37 (wanted_no h37 _ rfl rfl rfl gc25) rfl rfl fun a44 h44 => ?_
     refine sl_no h44 (wanted_no h44 _ rfl rfl rfl gc25) rfl rfl fun a45 h45 => ?_
     refine sl_no h45 (wanted_no h45 _ rfl rfl rfl gc25) rfl rfl fun a46 h46 => ?_
     refine sl_no h46 (wanted_no h46 _ rfl rfl rfl gc25) rfl rfl fun a47 h47 => ?_
     refine sl_no h47 (wanted_no h47 _ rfl rfl rfl gc25) rfl rfl fun a48 h48 => ?_
     refine sl_val h48 (wn rfl) (ex_pick_t (h48.ev rfl) gc25 (h48.ev rfl)) rfl rfl fun a49 h49 => ?_
     exact st_nil ⟨h49.mid (m := [(_, _), (_, _), (_, _), (_, _), (_, _)]) rfl, S36⟩
    case h =>
     rintro a50 X50 ⟨h50, S50⟩
     refine mv h50 rfl rfl fun a51 h51 => ?_
     apply sl_or h51 S50 32 rfl 8 40
     case hf =>
      intro gc32
      refine sl_val h51 (wanted_yes h51 _ rfl rfl rfl gc32) (ex_field (off := 7) (j := 7) (by kernel_rfl) (h51.ev rfl) rfl) rfl rfl fun a52 h52 => ?_
      refine sl_val h52 (wanted_yes h52 _ rfl rfl rfl gc32) (ex_load (by kernel_rfl) (h52.ev rfl) (S50.cell (i := 1) rfl rfl)) rfl rfl fun a53 h53 => ?_
      refine sl_val h53 (wanted_yes h53 _ rfl rfl rfl gc32) (ex_len Tryz.underlying24 (h53.ev rfl)) rfl rfl fun a54 h54 => ?_
      refine sl_val h54 (wanted_yes h54 _ rfl rfl rfl gc32) (ex_field (off := 7) (j := 7) (by kernel_rfl) (h54.ev rfl) rfl) rfl rfl fun a55 h55 => ?_
      refine sl_val h55 (wanted_yes h55 _ rfl rfl rfl gc32) (ex_load (by kernel_rfl) (h55.ev rfl) (S50.cell (i := 0) rfl rfl)) rfl rfl fun a56 h56 => ?_
      refine sl_val h56 (wanted_yes h56 _ rfl rfl rfl gc32) (ex_len Tryz.underlying24 (h56.ev rfl)) rfl rfl fun a57 h57 => ?_
      refine sl_val h57 (wanted_yes h57 _ rfl rfl rfl gc32) (ex_neq (h57.ev rfl) (h57.ev rfl)) rfl rfl fun a58 h58 => ?_
      refine sl_val h58 (wn rfl) (ex_pick_f (h58.ev rfl) gc32 (h58.ev rfl)) rfl rfl fun a59 h59 => ?_
      exact st_nil ⟨h59.mid (m := [(_, _), (_, _), (_, _), (_, _), (_, _), (_, _), (_, _)]) rfl, S50⟩
     case ht =>
      intro gc32
      refine sl_no h51 (wanted_no h51 _ rfl rfl rfl gc32) rfl rfl fun a60 h60 => ?_
      refine sl_no h60 (wanted_no h60 _ rfl rfl rfl gc32) rfl rfl fun a61 h61 => ?_
      refine sl_no h61 (wanted_no h61 _ rfl rfl rfl gc32) rfl rfl fun a62 h62 => ?_
      refine sl_no h62 (wanted_no h62 _ rfl rfl rfl gc32) rfl rfl fun a63 h63 => ?_
      refine sl_no h63 (wanted_no h63 _ rfl rfl rfl gc32) rfl rfl fun a64 h64 => ?_
      refine sl_no h64 (wanted_no h64 _ rfl rfl rfl gc32) rfl rfl fun a65 h65 => ?_
      refine sl_no h65 (wanted_no h65 _ rfl rfl rfl gc32) rfl rfl fun a66 h66 => ?_
      refine sl_val h66 (wn rfl) (ex_pick_t (h66.ev rfl) gc32 (h66.ev rfl)) rfl rfl fun a67 h67 => ?_
      exact st_nil ⟨h67.mid (m := [(_, _), (_, _), (_, _), (_, _), (_, _), (_, _), (_, _)]) rfl, S50⟩
     case h =>
      rintro a68 X68 ⟨h68, S68⟩
      refine st_nil (go_then ?_)
      refine st_if (h68.ev rfl) (fun hc0 => ?_) (fun hc0 => ?_)
      · skip
        have hne : r ≠ t := by
          rintro rfl
          simp only [Bool.or_eq_true, bne_iff_ne] at hc0
          rcases hc0 with (((h | h) | h) | h) | h
          · exact h rfl
          · have e1 : (!eqL [.int .i64 r.r.s, .int .i64 r.r.c, .int .i64 r.r.o] [.int .i64 r.r.s, .int .i64 r.r.c, .int .i64 r.r.o]) = true := h
            rw [rst_eqL] at e1; simp at e1
          · have e1 : (!eqL [.int .i64 r.e.s, .int .i64 r.e.c, .int .i64 r.e.o] [.int .i64 r.e.s, .int .i64 r.e.c, .int .i64 r.e.o]) = true := h
            rw [rst_eqL] at e1; simp at e1
          · exact h rfl
          · exact h rfl
        refine st_seq (st_reg ?_)
        refine ma h68 rfl rfl fun a69 h69 => ?_
        refine st_nil (go_then (wp_ret (ret_then ?_)))
        refine fin1 h69 rfl rfl ?_
        exact ⟨by rw [decide_eq_false hne], S68.below⟩
      · skip
        have hq : r.pg = t.pg ∧ r.r = t.r ∧ r.e = t.e ∧ r.nx = t.nx ∧ r.rs.length = t.rs.length := by
          simp only [Bool.or_eq_false_iff, bne_eq_false_iff_eq] at hc0
          obtain ⟨⟨⟨⟨h1, h2⟩, h3⟩, h4⟩, h5⟩ := hc0
          have e1 : (!eqL [.int .i64 r.r.s, .int .i64 r.r.c, .int .i64 r.r.o] [.int .i64 t.r.s, .int .i64 t.r.c, .int .i64 t.r.o]) = false := h2
          have e2 : (!eqL [.int .i64 r.e.s, .int .i64 r.e.c, .int .i64 r.e.o] [.int .i64 t.e.s, .int .i64 t.e.c, .int .i64 t.e.o]) = false := h3
          rw [rst_eqL] at e1 e2
          exact ⟨h1, by simpa using e1, by simpa using e2, h4, by omega⟩
        refine wp_skip (go_then (st_seq (st_seq (st_reg ?_))))
        refine ma h68 rfl rfl fun a70 h70 => ?_
        refine st_nil (go_then (wp_block ?_))
        refine st_loop h70 S68 [3, 2] (fun (k : Nat) => [(5, .int .i64 (k : Int))]) (fun (k : Nat) => k ≤ r.rs.length ∧ r.rs.take k = t.rs.take k) (fun (k : Nat) L => L) (fun (k : Nat) => r.rs.length - k) (0) (⟨Nat.zero_le _, rfl⟩) ⟨rfl, rfl, rfl, trivial⟩ (S68) ?_
        intro k a71 X71 hF0 h71 S71
        refine st_seq (st_seq (st_reg ?_))
        refine mv h71 rfl rfl fun a72 h72 => ?_
        refine sl_val h72 (wn rfl) (ex_field (off := 7) (j := 7) (by kernel_rfl) (h72.ev rfl) rfl) rfl rfl fun a73 h73 => ?_
        refine sl_val h73 (wn rfl) (ex_load (by kernel_rfl) (h73.ev rfl) (S71.cell (i := 1) rfl rfl)) rfl rfl fun a74 h74 => ?_
        refine sl_val h74 (wn rfl) (ex_len Tryz.underlying24 (h74.ev rfl)) rfl rfl fun a75 h75 => ?_
        refine sl_val h75 (wn rfl) (ex_lss (h75.ev rfl) (h75.ev rfl)) rfl rfl fun a76 h76 => ?_
        refine st_nil (go_then ?_)
        refine st_if (h76.ev rfl) (fun hc1 => ?_) (fun hc1 => ?_)
        · skip
          have hlt : k < r.rs.length := by have := of_decide_eq_true hc1; omega
          have hltt : k < t.rs.length := by omega
          obtain ⟨b, o, rfl, _⟩ := hr.opened (by rw [recsV_length]; omega)
          obtain ⟨b', o', rfl, _⟩ := ht.opened (by rw [recsV_length]; omega)
          refine wp_skip (go_then (st_seq (wp_block (st_seq ?_))))
          apply dr_flow h76 [false, false, false, false, false, false, false, false, false, false] _ (by kernel_rfl)
          case h =>
           refine sq_val h76 (wn rfl) rfl rfl (fun X hX => (ex_field (off := 7) (j := 7) (by kernel_rfl) (h76.ev rfl) rfl)) fun a77 h77 => ?_
           refine sq_val h77 (wn rfl) rfl rfl (fun X hX => (ex_load (by kernel_rfl) (h77.ev rfl) ((S71.grow hX).cell (i := 1) rfl rfl))) fun a78 h78 => ?_
           refine sq_val h78 (wn rfl) rfl rfl (fun X hX => (ex_move (h78.ev rfl))) fun a79 h79 => ?_
           refine sq_val h79 (wn rfl) rfl rfl (fun X hX => (ex_index (i := k) (sz := 3) Tryz.underlying24 (by kernel_rfl) (h79.ev rfl) (h79.ev rfl) (by omega) (by omega) rfl)) fun a80 h80 => ?_
           refine sq_val (v := recV r.rs[k]) h80 (wn rfl) rfl rfl (fun X hX => (ex_loads (by kernel_rfl) (by kernel_rfl) (h80.ev rfl) (recAt ((S71.grow hX).rd0 hr) hlt))) fun a81 h81 => ?_
           refine sq_val h81 (wn rfl) rfl rfl (fun X hX => (ex_field (off := 7) (j := 7) (by kernel_rfl) (h81.ev rfl) rfl)) fun a82 h82 => ?_
           refine sq_val h82 (wn rfl) rfl rfl (fun X hX => (ex_load (by kernel_rfl) (h82.ev rfl) ((S71.grow hX).cell (i := 0) rfl rfl))) fun a83 h83 => ?_
           refine sq_val h83 (wn rfl) rfl rfl (fun X hX => (ex_move (h83.ev rfl))) fun a84 h84 => ?_
           refine sq_val h84 (wn rfl) rfl rfl (fun X hX => (ex_index (i := k) (sz := 3) Tryz.underlying24 (by kernel_rfl) (h84.ev rfl) (h84.ev rfl) (by omega) (by omega) rfl)) fun a85 h85 => ?_
           refine sq_val (v := recV t.rs[k]) h85 (wn rfl) rfl rfl (fun X hX => (ex_loads (by kernel_rfl) (by kernel_rfl) (h85.ev rfl) (recAt ((S71.grow hX).rd0 ht) hltt))) fun a86 h86 => ?_
           refine sq_nil ?_
           refine nd_end fun X87 hX87 hΦ87 => ?_
           have S87 := S71.grow hX87
           refine sl_val h86 (wn rfl) (ex_tneq (ks := [.i .i64, .i .i64, .s]) (by kernel_rfl) Tryz.underlying98 (by kernel_rfl) (h86.ev rfl) (h86.ev rfl) rfl rfl) rfl rfl fun a88 h88 => ?_
           refine st_nil (go_then ?_)
           refine st_if (h88.ev rfl) (fun hc2 => ?_) (fun hc2 => ?_)
           · skip
             have hne : r ≠ t := by
               rintro rfl
               have e1 : (!eqL [.int .i64 r.rs[k].l, .int .i64 r.rs[k].s, .string r.rs[k].b] [.int .i64 r.rs[k].l, .int .i64 r.rs[k].s, .string r.rs[k].b]) = true := hc2
               rw [rec_eqL] at e1; simp at e1
             refine st_seq (st_reg ?_)
             refine ma h88 rfl rfl fun a89 h89 => ?_
             refine st_nil (go_then (wp_ret (ret_block (ret_then (ret_then (ret_block (ret_then ?_)))))))
             refine fin1 h89 rfl rfl ?_
             exact ⟨by rw [decide_eq_false hne], S87.below⟩
           · skip
             have hek : r.rs[k] = t.rs[k] := by
               have e1 : (!eqL [.int .i64 r.rs[k].l, .int .i64 r.rs[k].s, .string r.rs[k].b] [.int .i64 t.rs[k].l, .int .i64 t.rs[k].s, .string t.rs[k].b]) = false := hc2
               rw [rec_eqL] at e1; simpa using e1
             refine wp_skip (go_block (go_then (st_reg ?_)))
             refine mv h88 rfl rfl fun a90 h90 => ?_
             refine sl_val h90 (wn rfl) (ex_add (h90.ev rfl) (h90.ev rfl) (by omega)) rfl rfl fun a91 h91 => ?_
             refine ma h91 rfl rfl fun a92 h92 => ?_
             refine st_nil (go_then ?_)
             exact ⟨k + 1, (by omega), ⟨hlt, by rw [List.take_add_one, List.take_add_one, hF0.2, List.getElem?_eq_getElem hlt, List.getElem?_eq_getElem hltt, hek]⟩, h92.re ⟨rfl, rfl, rfl, trivial⟩, S87⟩
          case hB => kernel_rfl
          case hst => rfl
        · skip
          have hge : k = r.rs.length := by have := of_decide_eq_false hc1; omega
          have heq : r = t := by
            have h1 := hF0.2
            rw [hge, List.take_length, hq.2.2.2.2, List.take_length] at h1
            obtain ⟨p1, p2, p3, p4, p5⟩ := r
            obtain ⟨q1, q2, q3, q4, q5⟩ := t
            obtain ⟨h2, h3, h4, h5, _⟩ := hq
            simp only at h1 h2 h3 h4 h5
            rw [h1, h2, h3, h4, h5]
          refine wp_exit ?_
          refine go_exit_then ?_
          refine go_exit_then ?_
          refine go_exit ?_
          refine go_then (st_seq (st_reg ?_))
          refine ma h76 rfl rfl fun a93 h93 => ?_
          refine st_nil (go_then (wp_ret ?_))
          refine fin1 h93 rfl rfl ?_
          exact ⟨by rw [decide_eq_true heq], S71.below⟩
end Go.Proofs.YtmlilplbdpjfcaaGreatDoor
