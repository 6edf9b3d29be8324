/-
  Chapter 20: the reference's logs closed, appended to and restarted.
-/
import Derived.Test.YtmlilplbdpjfcaaGreatDoorRg23
namespace Go.Proofs.YtmlilplbdpjfcaaGreatDoor
set_option linter.unusedVariables false
set_option linter.unusedSimpArgs false
set_option maxRecDepth 4000
open Go.RowKit Go.Sort
theorem rClosed_any (r : RngP) (A : Option Addr) (c : Nat) (w : World) (hr : Rd w w.heap.size A (recsV r.rs)) (hlen : r.rs.length ≤ 1000) (hnx : 0 ≤ r.nx ∧ r.nx ≤ 200000000) :
    Calls Tryz.prog 18 #[ringV r A c] w fun e w' => ∃ A' c', e = .returned (.tuple #[ringV (cloR r) A' c', .int .i64 (cloE r)]) ∧ w'.ownsRow w.heap.size 98 3 (.slice A' (cloR r).rs.length c') (cloR r).rs.length (recsV (cloR r).rs) ∧ Below w.heap.size w w' := by
  refine st_enter (N := 16) Tryz.func18 rfl rfl rfl (fun a0 h0 => ?_)
  have S0 := St.init w
  refine st_seq ?_
  refine st_reg ?_
  refine sl_new h0 (wn rfl) (f := fun b => .pointer (some ⟨b, 0, none⟩)) (ex_box (h0.ev rfl)) rfl rfl S0 fun b1 a1 X1 gb1 h1 S1 => ?_
  refine sl_new h1 (wn rfl) (f := fun b => .pointer (some ⟨b, 0, none⟩)) (ex_alloc (z := .agg #[.int .i64 0, .int .i64 0, .int .i64 0, .int .i64 0, .int .i64 0, .int .i64 0, .int .i64 0, .slice none 0 0, .int .i64 0]) (by kernel_rfl)) rfl rfl S1 fun b2 a2 X2 gb2 h2 S2 => ?_
  refine sl_val h2 (wn rfl) (ex_assign (h2.ev rfl)) rfl rfl fun a3 h3 => ?_
  refine st_nil ?_
  refine go_then ?_
  refine st_seq ?_
  refine st_reg ?_
  refine sl_val (v := ringV r A c) h3 (wn rfl) (ex_loads (by kernel_rfl) (by kernel_rfl) (h3.ev rfl) (S2.cellsAll (i := 1) rfl)) rfl rfl fun a4 h4 => ?_
  refine sl_ownt h4 (wn rfl) (ex_call (fun _ _ => by kernel_rfl) (h4.evs rfl) rfl) rfl rfl S2 (rCopy_any r A c _ (S2.rd0 hr) hlen) (Nat.le_refl _) fun A6 c6 a5 X5 h5 S5 => ?_
  refine sl_new h5 (wn rfl) (f := fun b => .pointer (some ⟨b, 0, none⟩)) (ex_alloc (z := .agg #[.int .i64 0, .int .i64 0, .int .i64 0, .int .i64 0, .int .i64 0, .int .i64 0, .int .i64 0, .slice none 0 0, .int .i64 0]) (by kernel_rfl)) rfl rfl S5 fun b4 a6 X6 gb4 h6 S6 => ?_
  refine sl_store0 h6 (wn rfl) ⟨rfl, rfl⟩ (h6.ev rfl) (h6.ev rfl) rfl (by kernel_rfl) S6 (i := 0) rfl rfl rfl fun X7 S7 => ?_
  refine st_nil ?_
  refine go_then ?_
  refine st_seq ?_
  refine st_reg ?_
  refine sl_val h6 (wn rfl) (ex_field (off := 8) (j := 8) (by kernel_rfl) (h6.ev rfl) rfl) rfl rfl fun a8 h8 => ?_
  refine sl_val h8 (wn rfl) (ex_load (by kernel_rfl) (h8.ev rfl) (S7.cell (i := 3) rfl rfl)) rfl rfl fun a9 h9 => ?_
  refine sl_pure h9 (wn rfl) (ex_call (fun _ _ => by kernel_rfl) (h9.evs rfl) rfl) rfl rfl (rbegin_any _ (by omega) _) fun a10 h10 => ?_
  refine sl_val h10 (wn rfl) (ex_field (off := 8) (j := 8) (by kernel_rfl) (h10.ev rfl) rfl) rfl rfl fun a11 h11 => ?_
  refine sl_store h11 (wn rfl) ⟨rfl, rfl⟩ (h11.ev rfl) (h11.ev rfl) rfl (by kernel_rfl) S7 (i := 0) rfl rfl rfl fun X12 S12 => ?_
  refine st_nil ?_
  refine go_then ?_
  refine st_seq ?_
  refine st_seq ?_
  refine st_reg ?_
  refine sl_val h11 (wn rfl) (ex_field (off := 8) (j := 8) (by kernel_rfl) (h11.ev rfl) rfl) rfl rfl fun a13 h13 => ?_
  refine sl_val h13 (wn rfl) (ex_load (by kernel_rfl) (h13.ev rfl) (S12.cell (i := 0) rfl rfl)) rfl rfl fun a14 h14 => ?_
  refine sl_val h14 (wn rfl) (ex_gtr (h14.ev rfl) (h14.ev rfl)) rfl rfl fun a15 h15 => ?_
  refine st_nil ?_
  refine go_then ?_
  refine st_if (h15.ev rfl) (fun hc0 => ?_) (fun hc0 => ?_)
  · skip
    have hf : cloE r = 16 := by
      have h1 : 100000000 < nxtR r.nx := of_decide_eq_true hc0
      unfold cloE; rw [decide_eq_false (by omega)]; rfl
    have e3 : cloR r = rng0 := by unfold cloR; rw [if_neg (by rw [hf]; decide)]
    refine st_seq ?_
    refine st_reg ?_
    refine sl_val h15 (wn rfl) (ex_build (zs := [.int .i64 0, .int .i64 0, .int .i64 0, .int .i64 0, .int .i64 0, .int .i64 0, .int .i64 0, .slice none 0 0, .int .i64 0]) (pl := [(0, 1), (1, 3), (4, 3), (7, 1), (8, 1)]) (by kernel_rfl) (by kernel_rfl) (h15.evs2 rfl) rfl rfl) rfl rfl fun a16 h16 => ?_
    refine sl_store0 h16 (wn rfl) ⟨rfl, rfl⟩ (h16.ev rfl) (h16.ev rfl) rfl (by kernel_rfl) S12 (i := 2) rfl rfl rfl fun X17 S17 => ?_
    refine sl_val h16 (wn rfl) (ex_assign (h16.ev rfl)) rfl rfl fun a18 h18 => ?_
    refine st_nil ?_
    refine go_then ?_
    refine wp_ret ?_
    refine ret_then ?_
    refine finct h18 rfl rfl rfl S17 (i := 2) rfl (by kernel_rfl) (by kernel_rfl) ?_
    exact ⟨none, 0, by rw [hf, e3]; rfl, by rw [e3]; exact World.ownsRow_nil _ _ _ _, S17.below⟩
  · skip
    have hf : cloE r = 0 := by
      have h1 : ¬ 100000000 < nxtR r.nx := of_decide_eq_false hc0
      unfold cloE; rw [decide_eq_true (by omega)]; rfl
    have e3 : cloR r = cloV r := by unfold cloR; rw [if_pos hf]
    refine wp_skip ?_
    refine go_then ?_
    refine st_seq ?_
    refine st_reg ?_
    refine sl_val (v := ringV (cloV r) A6 c6) h15 (wn rfl) (ex_loads (by kernel_rfl) (by kernel_rfl) (h15.ev rfl) (S12.cellsAll (i := 0) rfl)) rfl rfl fun a19 h19 => ?_
    refine sl_store0 h19 (wn rfl) ⟨rfl, rfl⟩ (h19.ev rfl) (h19.ev rfl) rfl (by kernel_rfl) S12 (i := 2) rfl rfl rfl fun X20 S20 => ?_
    refine sl_val h19 (wn rfl) (ex_assign (h19.ev rfl)) rfl rfl fun a21 h21 => ?_
    refine st_nil ?_
    refine go_then ?_
    refine wp_ret ?_
    refine finct h21 rfl rfl rfl S20 (i := 2) rfl (by kernel_rfl) (by kernel_rfl) ?_
    exact ⟨A6, c6, by rw [hf, e3]; rfl, by rw [e3]; exact S20.ownB (i := 1) rfl, S20.below⟩
theorem rAppended_any (r : RngP) (A : Option Addr) (c : Nat) (s : ByteArray) (w : World) (hr : Rd w w.heap.size A (recsV r.rs)) (hk : OkP r) (hs : s.size ≤ 1000000) :
    Calls Tryz.prog 34 #[ringV r A c, .string s] w fun e w' => ∃ A' c', e = .returned (.tuple #[ringV (appR r s) A' c', .int .i64 (if appE r s = 0 then r.nx + 1 else 0), .int .i64 (appE r s)]) ∧ w'.ownsRow w.heap.size 98 3 (.slice A' (appR r s).rs.length c') (appR r s).rs.length (recsV (appR r s).rs) ∧ Below w.heap.size w w' := by
  have hlen : r.rs.length ≤ 1000 := by have := hk.h.len; omega
  have hnx := hk.h.nx
  have ho := hk.o1
  have hpg := hk.h.pg
  refine st_enter (N := 67) Tryz.func34 rfl rfl rfl (fun a0 h0 => ?_)
  have S0 := St.init w
  refine st_seq ?_
  refine st_reg ?_
  refine sl_new h0 (wn rfl) (f := fun b => .pointer (some ⟨b, 0, none⟩)) (ex_box (h0.ev rfl)) rfl rfl S0 fun b2 a1 X1 gb2 h1 S1 => ?_
  refine sl_new h1 (wn rfl) (f := fun b => .pointer (some ⟨b, 0, none⟩)) (ex_alloc (z := .agg #[.int .i64 0, .int .i64 0, .int .i64 0, .int .i64 0, .int .i64 0, .int .i64 0, .int .i64 0, .slice none 0 0, .int .i64 0]) (by kernel_rfl)) rfl rfl S1 fun b4 a2 X2 gb4 h2 S2 => ?_
  refine sl_val h2 (wn rfl) (ex_assign (h2.ev rfl)) rfl rfl fun a3 h3 => ?_
  refine sl_val h3 (wn rfl) (ex_assign (h3.ev rfl)) rfl rfl fun a4 h4 => ?_
  refine st_nil ?_
  refine go_then ?_
  refine st_seq ?_
  refine st_reg ?_
  refine sl_val h4 (wn rfl) (ex_build (zs := [.int .i64 0, .int .i64 0, .int .i64 0, .int .i64 0, .int .i64 0, .int .i64 0, .int .i64 0, .slice none 0 0, .int .i64 0]) (pl := [(0, 1), (1, 3), (4, 3), (7, 1), (8, 1)]) (by kernel_rfl) (by kernel_rfl) (h4.evs2 rfl) rfl rfl) rfl rfl fun a5 h5 => ?_
  refine sl_new h5 (wn rfl) (f := fun b => .pointer (some ⟨b, 0, none⟩)) (ex_alloc (z := .agg #[.int .i64 0, .int .i64 0, .int .i64 0, .int .i64 0, .int .i64 0, .int .i64 0, .int .i64 0, .slice none 0 0, .int .i64 0]) (by kernel_rfl)) rfl rfl S2 fun b7 a6 X6 gb7 h6 S6 => ?_
  refine sl_store0 h6 (wn rfl) ⟨rfl, rfl⟩ (h6.ev rfl) (h6.ev rfl) rfl (by kernel_rfl) S6 (i := 0) rfl rfl rfl fun X7 S7 => ?_
  refine st_nil ?_
  refine go_then ?_
  refine st_seq ?_
  refine st_seq ?_
  refine st_reg ?_
  refine sl_val h6 (wn rfl) (ex_move (h6.ev rfl)) rfl rfl fun a8 h8 => ?_
  refine sl_val h8 (wn rfl) (ex_slen Tryz.underlying9 (h8.ev rfl)) rfl rfl fun a9 h9 => ?_
  refine sl_val h9 (wn rfl) (ex_eql (h9.ev rfl) (h9.ev rfl)) rfl rfl fun a10 h10 => ?_
  refine st_nil ?_
  refine go_then ?_
  refine st_if (h10.ev rfl) (fun hc0 => ?_) (fun hc0 => ?_)
  · skip
    have hf : appE r s = 17 := by
      have : s.size = 0 := by have := eq_of_beq hc0; omega
      unfold appE; rw [if_pos this]
    have e3 : appR r s = rng0 := by unfold appR; rw [if_neg (by rw [hf]; decide)]
    refine st_seq ?_
    refine st_reg ?_
    refine sl_val h10 (wn rfl) (ex_loads (by kernel_rfl) (by kernel_rfl) (h10.ev rfl) (S7.cellsAll (i := 0) rfl)) rfl rfl fun a11 h11 => ?_
    refine sl_store0 h11 (wn rfl) ⟨rfl, rfl⟩ (h11.ev rfl) (h11.ev rfl) rfl (by kernel_rfl) S7 (i := 1) rfl rfl rfl fun X12 S12 => ?_
    refine sl_val h11 (wn rfl) (ex_assign (h11.ev rfl)) rfl rfl fun a13 h13 => ?_
    refine sl_val h13 (wn rfl) (ex_assign (h13.ev rfl)) rfl rfl fun a14 h14 => ?_
    refine st_nil ?_
    refine go_then ?_
    refine wp_ret ?_
    refine ret_then ?_
    refine finctt h14 rfl rfl rfl rfl S12 (i := 1) rfl (by kernel_rfl) (by kernel_rfl) ?_
    exact ⟨none, 0, by rw [hf, e3]; rfl, by rw [e3]; exact World.ownsRow_nil _ _ _ _, S12.below⟩
  · skip
    have hs0 : ¬ s.size = 0 := by
      intro h
      rw [h] at hc0; exact absurd hc0 (by decide)
    refine wp_skip ?_
    refine go_then ?_
    refine st_seq ?_
    refine st_seq ?_
    refine st_reg ?_
    refine sl_val h10 (wn rfl) (ex_move (h10.ev rfl)) rfl rfl fun a15 h15 => ?_
    refine sl_val h15 (wn rfl) (ex_slen Tryz.underlying9 (h15.ev rfl)) rfl rfl fun a16 h16 => ?_
    refine sl_val h16 (wn rfl) (ex_gtr (h16.ev rfl) (h16.ev rfl)) rfl rfl fun a17 h17 => ?_
    refine sl_val h17 (wn rfl) (ex_move (h17.ev rfl)) rfl rfl fun a18 h18 => ?_
    apply sl_or h18 S7 19 rfl 5 24
    case hf =>
     intro gc19
     refine sl_val h18 (wanted_yes h18 _ rfl rfl rfl gc19) (ex_field (off := 7) (j := 7) (by kernel_rfl) (h18.ev rfl) rfl) rfl rfl fun a19 h19 => ?_
     refine sl_val h19 (wanted_yes h19 _ rfl rfl rfl gc19) (ex_load (by kernel_rfl) (h19.ev rfl) (S7.cell (i := 2) rfl rfl)) rfl rfl fun a20 h20 => ?_
     refine sl_val h20 (wanted_yes h20 _ rfl rfl rfl gc19) (ex_len Tryz.underlying24 (h20.ev rfl)) rfl rfl fun a21 h21 => ?_
     refine sl_val h21 (wanted_yes h21 _ rfl rfl rfl gc19) (ex_geq (h21.ev rfl) (h21.ev rfl)) rfl rfl fun a22 h22 => ?_
     refine sl_val h22 (wn rfl) (ex_pick_f (h22.ev rfl) gc19 (h22.ev rfl)) rfl rfl fun a23 h23 => ?_
     exact st_nil ⟨h23.mid (m := [(_, _), (_, _), (_, _), (_, _)]) rfl, S7⟩
    case ht =>
     intro gc19
     refine sl_no h18 (wanted_no h18 _ rfl rfl rfl gc19) rfl rfl fun a24 h24 => ?_
     refine sl_no h24 (wanted_no h24 _ rfl rfl rfl gc19) rfl rfl fun a25 h25 => ?_
     refine sl_no h25 (wanted_no h25 _ rfl rfl rfl gc19) rfl rfl fun a26 h26 => ?_
     refine sl_no h26 (wanted_no h26 _ rfl rfl rfl gc19) rfl rfl fun a27 h27 => ?_
     refine sl_val h27 (wn rfl) (ex_pick_t (h27.ev rfl) gc19 (h27.ev rfl)) rfl rfl fun a28 h28 => ?_
     exact st_nil ⟨h28.mid (m := [(_, _), (_, _), (_, _), (_, _)]) rfl, S7⟩
    case h =>
     rintro a29 X29 ⟨h29, S29⟩
     refine st_nil ?_
     refine go_then ?_
     refine st_if (h29.ev rfl) (fun hc1 => ?_) (fun hc1 => ?_)
     · skip
       have hf : appE r s = 8 := by
         unfold appE; rw [if_neg hs0]
         by_cases h : 3000 < s.size
         · rw [if_pos h]
         · rw [if_neg h, if_pos]
           have hd : decide ((s.size : Int) > 3000) = false := by rw [decide_eq_false_iff_not]; omega
           rw [hd, Bool.false_or, decide_eq_true_eq] at hc1
           omega
       have e3 : appR r s = rng0 := by unfold appR; rw [if_neg (by rw [hf]; decide)]
       refine st_seq ?_
       refine st_reg ?_
       refine sl_val h29 (wn rfl) (ex_loads (by kernel_rfl) (by kernel_rfl) (h29.ev rfl) (S29.cellsAll (i := 0) rfl)) rfl rfl fun a30 h30 => ?_
       refine sl_store0 h30 (wn rfl) ⟨rfl, rfl⟩ (h30.ev rfl) (h30.ev rfl) rfl (by kernel_rfl) S29 (i := 1) rfl rfl rfl fun X31 S31 => ?_
       refine sl_val h30 (wn rfl) (ex_assign (h30.ev rfl)) rfl rfl fun a32 h32 => ?_
       refine sl_val h32 (wn rfl) (ex_assign (h32.ev rfl)) rfl rfl fun a33 h33 => ?_
       refine st_nil ?_
       refine go_then ?_
       refine wp_ret ?_
       refine ret_then ?_
       refine finctt h33 rfl rfl rfl rfl S31 (i := 1) rfl (by kernel_rfl) (by kernel_rfl) ?_
       exact ⟨none, 0, by rw [hf, e3]; rfl, by rw [e3]; exact World.ownsRow_nil _ _ _ _, S31.below⟩
     · skip
       have hz : s.size ≤ 3000 ∧ r.rs.length < 100 := by
         rw [Bool.or_eq_false_iff, decide_eq_false_iff_not, decide_eq_false_iff_not] at hc1
         omega
       have hsz := szR_in hz.1
       have hbf : Bfr ⟨r.nx + 1, r.r.s, s⟩ := ⟨by show 1 ≤ r.nx + 1; omega, by show r.nx + 1 ≤ 500000000; omega, hz.1⟩
       have e1 : r.rs.length + 1 = (r.rs ++ [(⟨r.nx + 1, r.r.s, s⟩ : RecP)]).length := by simp
       refine wp_skip ?_
       refine go_then ?_
       refine st_seq ?_
       refine st_reg ?_
       refine sl_val (v := ringV r A c) h29 (wn rfl) (ex_loads (by kernel_rfl) (by kernel_rfl) (h29.ev rfl) (S29.cellsAll (i := 2) rfl)) rfl rfl fun a34 h34 => ?_
       refine sl_ownt h34 (wn rfl) (ex_call (fun _ _ => by kernel_rfl) (h34.evs rfl) rfl) rfl rfl S29 (rCopy_any r A c _ (S29.rd0 hr) hlen) (Nat.le_refl _) fun A27 c27 a35 X35 h35 S35 => ?_
       refine sl_new h35 (wn rfl) (f := fun b => .pointer (some ⟨b, 0, none⟩)) (ex_alloc (z := .agg #[.int .i64 0, .int .i64 0, .int .i64 0, .int .i64 0, .int .i64 0, .int .i64 0, .int .i64 0, .slice none 0 0, .int .i64 0]) (by kernel_rfl)) rfl rfl S35 fun b8 a36 X36 gb8 h36 S36 => ?_
       refine sl_store0 h36 (wn rfl) ⟨rfl, rfl⟩ (h36.ev rfl) (h36.ev rfl) rfl (by kernel_rfl) S36 (i := 0) rfl rfl rfl fun X37 S37 => ?_
       refine st_nil ?_
       refine go_then ?_
       refine st_seq ?_
       refine st_reg ?_
       refine sl_val h36 (wn rfl) (ex_field (off := 7) (j := 7) (by kernel_rfl) (h36.ev rfl) rfl) rfl rfl fun a38 h38 => ?_
       refine sl_val h38 (wn rfl) (ex_load (by kernel_rfl) (h38.ev rfl) (S37.cell (i := 0) rfl rfl)) rfl rfl fun a39 h39 => ?_
       refine sl_val h39 (wn rfl) (ex_field (off := 8) (j := 8) (by kernel_rfl) (h39.ev rfl) rfl) rfl rfl fun a40 h40 => ?_
       refine sl_val h40 (wn rfl) (ex_load (by kernel_rfl) (h40.ev rfl) (S37.cell (i := 4) rfl rfl)) rfl rfl fun a41 h41 => ?_
       refine sl_val h41 (wn rfl) (ex_add (h41.ev rfl) (h41.ev rfl) (by omega)) rfl rfl fun a42 h42 => ?_
       refine sl_val h42 (wn rfl) (ex_field (off := 1) (j := 1) (by kernel_rfl) (h42.ev rfl) rfl) rfl rfl fun a43 h43 => ?_
       refine sl_val h43 (wn rfl) (ex_field (off := 0) (j := 1) (by kernel_rfl) (h43.ev rfl) rfl) rfl rfl fun a44 h44 => ?_
       refine sl_val h44 (wn rfl) (ex_load (by kernel_rfl) (h44.ev rfl) (S37.cell (i := 4) rfl rfl)) rfl rfl fun a45 h45 => ?_
       refine sl_val h45 (wn rfl) (ex_move (h45.ev rfl)) rfl rfl fun a46 h46 => ?_
       refine sl_val (v := recV ⟨r.nx + 1, r.r.s, s⟩) h46 (wn rfl) (ex_build (zs := [.int .i64 0, .int .i64 0, .string ⟨#[]⟩]) (pl := [(0, 1), (1, 1), (2, 1)]) (by kernel_rfl) (by kernel_rfl) (h46.evs2 rfl) rfl rfl) rfl rfl fun a47 h47 => ?_
       refine sl_bslice (cs := recC ⟨r.nx + 1, r.r.s, s⟩) (zc := [.int .i64 0, .int .i64 0, .string ⟨#[]⟩]) (sz := 3) h47 (wn rfl) ⟨rfl, rfl⟩ rfl Tryz.underlying24 (by kernel_rfl) (by kernel_rfl) rfl rfl rfl (h47.evs2 rfl) rfl rfl rfl S37 fun b38 a48 X48 gb38 h48 S48 => ?_
       refine sl_append (z := .agg #[.int .i64 0, .int .i64 0, .string ⟨#[]⟩]) (sz := 3) (bytes := 32) h48 (wn rfl) ⟨rfl, rfl⟩ rfl Tryz.underlying24 (by kernel_rfl) rfl rfl (h48.ev rfl) (h48.ev rfl) S48 (i := 2) rfl (S48.boxRd (i := 0) rfl) rfl (List.all_eq_true.1 rfl) ⟨(by omega), by decide⟩ fun A39 c39 a49 X49 h49 S49 => ?_
       refine sl_val h49 (wn rfl) (ex_field (off := 7) (j := 7) (by kernel_rfl) (h49.ev rfl) rfl) rfl rfl fun a50 h50 => ?_
       refine sl_store h50 (wn rfl) ⟨rfl, rfl⟩ (h50.ev rfl) (h50.ev rfl) rfl (by kernel_rfl) S49 (i := 1) rfl rfl rfl fun X51 S51 => ?_
       rw [e1] at h50 S51
       refine st_nil ?_
       refine go_then ?_
       refine st_seq ?_
       refine st_reg ?_
       refine sl_val h50 (wn rfl) (ex_field (off := 8) (j := 8) (by kernel_rfl) (h50.ev rfl) rfl) rfl rfl fun a52 h52 => ?_
       refine sl_val h52 (wn rfl) (ex_load (by kernel_rfl) (h52.ev rfl) (S51.cell (i := 5) rfl rfl)) rfl rfl fun a53 h53 => ?_
       refine sl_val h53 (wn rfl) (ex_move (h53.ev rfl)) rfl rfl fun a54 h54 => ?_
       refine sl_val h54 (wn rfl) (ex_slen Tryz.underlying9 (h54.ev rfl)) rfl rfl fun a55 h55 => ?_
       refine sl_pure h55 (wn rfl) (ex_call (fun _ _ => by kernel_rfl) (h55.evs rfl) rfl) rfl rfl (rBehind_any _ _ (by omega) _) fun a56 h56 => ?_
       refine sl_val h56 (wn rfl) (ex_field (off := 8) (j := 8) (by kernel_rfl) (h56.ev rfl) rfl) rfl rfl fun a57 h57 => ?_
       refine sl_store h57 (wn rfl) ⟨rfl, rfl⟩ (h57.ev rfl) (h57.ev rfl) rfl (by kernel_rfl) S51 (i := 1) rfl rfl rfl fun X58 S58 => ?_
       refine st_nil ?_
       refine go_then ?_
       refine st_seq ?_
       refine st_seq ?_
       refine st_reg ?_
       refine sl_val (v := ringV (appV r s) A39 c39) h57 (wn rfl) (ex_loads (by kernel_rfl) (by kernel_rfl) (h57.ev rfl) (S58.cellsAll (i := 1) rfl)) rfl rfl fun a59 h59 => ?_
       refine sl_bel h59 (wn rfl) (ex_call (fun _ _ => by kernel_rfl) (h59.evs rfl) rfl) rfl rfl S58 (rRooms_any (appV r s) A39 c39 _ (by have q := S58.rdOf (i := 2) rfl; exact (by unfold appV; rw [recsV_append]; exact q)) (fun y hy => by (have : y = ⟨r.nx + 1, r.r.s, s⟩ := by unfold appV at hy; simpa using hy.symm); rw [this]; exact hbf) (.inr ho) (by unfold appV; simp; omega)) fun a60 X60 h60 S60 => ?_
       refine sl_val h60 (wn rfl) (ex_move (h60.ev rfl)) rfl rfl fun a61 h61 => ?_
       refine sl_val h61 (wn rfl) (ex_extract (h61.ev rfl) rfl) rfl rfl fun a62 h62 => ?_
       refine sl_val h62 (wn rfl) (ex_extract (h62.ev rfl) rfl) rfl rfl fun a63 h63 => ?_
       refine sl_val h63 (wn rfl) (ex_assign (h63.ev rfl)) rfl rfl fun a64 h64 => ?_
       refine sl_val h64 (wn rfl) (ex_assign (h64.ev rfl)) rfl rfl fun a65 h65 => ?_
       refine st_nil ?_
       refine go_then ?_
       refine st_seq ?_
       refine st_reg ?_
       refine sl_val h65 (wn rfl) (ex_move (h65.ev rfl)) rfl rfl fun a66 h66 => ?_
       refine sl_val h66 (wn rfl) (ex_field (off := 0) (j := 0) (by kernel_rfl) (h66.ev rfl) rfl) rfl rfl fun a67 h67 => ?_
       refine sl_val h67 (wn rfl) (ex_load (by kernel_rfl) (h67.ev rfl) (S60.cell (i := 5) rfl rfl)) rfl rfl fun a68 h68 => ?_
       refine sl_val h68 (wn rfl) (ex_sub (h68.ev rfl) (h68.ev rfl) (by omega)) rfl rfl fun a69 h69 => ?_
       refine sl_val h69 (wn rfl) (ex_gtr (h69.ev rfl) (h69.ev rfl)) rfl rfl fun a70 h70 => ?_
       refine sl_val h70 (wn rfl) (ex_move (h70.ev rfl)) rfl rfl fun a71 h71 => ?_
       apply sl_or h71 S60 57 rfl 4 61
       case hf =>
        intro gc57
        refine sl_val h71 (wanted_yes h71 _ rfl rfl rfl gc57) (ex_field (off := 8) (j := 8) (by kernel_rfl) (h71.ev rfl) rfl) rfl rfl fun a72 h72 => ?_
        refine sl_val h72 (wanted_yes h72 _ rfl rfl rfl gc57) (ex_load (by kernel_rfl) (h72.ev rfl) (S60.cell (i := 1) rfl rfl)) rfl rfl fun a73 h73 => ?_
        refine sl_val h73 (wanted_yes h73 _ rfl rfl rfl gc57) (ex_gtr (h73.ev rfl) (h73.ev rfl)) rfl rfl fun a74 h74 => ?_
        refine sl_val h74 (wn rfl) (ex_pick_f (h74.ev rfl) gc57 (h74.ev rfl)) rfl rfl fun a75 h75 => ?_
        exact st_nil ⟨h75.mid (m := [(_, _), (_, _), (_, _)]) rfl, S60⟩
       case ht =>
        intro gc57
        refine sl_no h71 (wanted_no h71 _ rfl rfl rfl gc57) rfl rfl fun a76 h76 => ?_
        refine sl_no h76 (wanted_no h76 _ rfl rfl rfl gc57) rfl rfl fun a77 h77 => ?_
        refine sl_no h77 (wanted_no h77 _ rfl rfl rfl gc57) rfl rfl fun a78 h78 => ?_
        refine sl_val h78 (wn rfl) (ex_pick_t (h78.ev rfl) gc57 (h78.ev rfl)) rfl rfl fun a79 h79 => ?_
        exact st_nil ⟨h79.mid (m := [(_, _), (_, _), (_, _)]) rfl, S60⟩
       case h =>
        rintro a80 X80 ⟨h80, S80⟩
        refine st_nil ?_
        refine go_then ?_
        refine st_if (h80.ev rfl) (fun hc2 => ?_) (fun hc2 => ?_)
        · skip
          have hf : appE r s = 16 := by
            unfold appE
            rw [if_neg hs0, if_neg (by omega), if_neg (by omega)]
            exact if_pos (show r.pg - 2 < (roomsP (appV r s)).2 ∨ 100000000 < r.nx + szR s.size by simpa [Bool.or_eq_true] using hc2)
          have e3 : appR r s = rng0 := by unfold appR; rw [if_neg (by rw [hf]; decide)]
          refine st_seq ?_
          refine st_reg ?_
          refine sl_val h80 (wn rfl) (ex_loads (by kernel_rfl) (by kernel_rfl) (h80.ev rfl) (S80.cellsAll (i := 3) rfl)) rfl rfl fun a81 h81 => ?_
          refine sl_store0 h81 (wn rfl) ⟨rfl, rfl⟩ (h81.ev rfl) (h81.ev rfl) rfl (by kernel_rfl) S80 (i := 4) rfl rfl rfl fun X82 S82 => ?_
          refine sl_val h81 (wn rfl) (ex_assign (h81.ev rfl)) rfl rfl fun a83 h83 => ?_
          refine sl_val h83 (wn rfl) (ex_assign (h83.ev rfl)) rfl rfl fun a84 h84 => ?_
          refine st_nil ?_
          refine go_then ?_
          refine wp_ret ?_
          refine ret_then ?_
          refine finctt h84 rfl rfl rfl rfl S82 (i := 4) rfl (by kernel_rfl) (by kernel_rfl) ?_
          exact ⟨none, 0, by rw [hf, e3]; rfl, by rw [e3]; exact World.ownsRow_nil _ _ _ _, S82.below⟩
        · skip
          have hf : appE r s = 0 := by
            unfold appE
            rw [if_neg hs0, if_neg (by omega), if_neg (by omega)]
            exact if_neg (show ¬ (r.pg - 2 < (roomsP (appV r s)).2 ∨ 100000000 < r.nx + szR s.size) by simpa [Bool.or_eq_false_iff, not_or] using hc2)
          have e3 : appR r s = appV r s := by unfold appR; rw [if_pos hf]
          refine wp_skip ?_
          refine go_then ?_
          refine st_seq ?_
          apply dr_flowA (m := 4) h80 (St.domAt S80 (i := 4) rfl) 0 [false, false, false, false, true] _ (by kernel_rfl)
          case h =>
           refine sq_val (v := ringV (appV r s) A39 c39) h80 (wn rfl) rfl rfl (fun X hX => (ex_loads (by kernel_rfl) (by kernel_rfl) (h80.ev rfl) ((S80.growO (i := 4) rfl hX).cellsAll (i := 1) rfl))) fun a85 h85 => ?_
           refine sq_val h85 (wn rfl) rfl rfl (fun X hX => (ex_field (off := 8) (j := 8) (by kernel_rfl) (h85.ev rfl) rfl)) fun a86 h86 => ?_
           refine sq_val h86 (wn rfl) rfl rfl (fun X hX => (ex_load (by kernel_rfl) (h86.ev rfl) ((S80.growO (i := 4) rfl hX).cell (i := 5) rfl rfl))) fun a87 h87 => ?_
           refine sq_val h87 (wn rfl) rfl rfl (fun X hX => (ex_add (h87.ev rfl) (h87.ev rfl) (by omega))) fun a88 h88 => ?_
           refine sq_nil ?_
           apply na_store (k := 4) (deps := []) (R := IsBox _ _ _) h88 rfl rfl IsBox.stable (fun X hX hΦ => lv_store0 rfl (h88.ev rfl) (h88.ev rfl) rfl (by kernel_rfl) ((S80.grow hX).at_ (i := 4) rfl) rfl rfl)
           intro vs4
           refine na_end fun X89 hX89 hΦ89 => ?_
           have S89 := S80.growBox (i := 4) (v := vs4) rfl hX89 (told_all hΦ89 (k := 4) rfl)
           refine sl_val h88 (wn rfl) (ex_assign (h88.ev rfl)) rfl rfl fun a90 h90 => ?_
           refine sl_val h90 (wn rfl) (ex_assign (h90.ev rfl)) rfl rfl fun a91 h91 => ?_
           refine st_nil ?_
           refine go_then ?_
           refine wp_ret ?_
           refine finctt h91 rfl rfl rfl rfl S89 (i := 4) rfl (by kernel_rfl) (by kernel_rfl) ?_
           refine ⟨A39, c39, by rw [hf, e3]; rfl, ?_, S89.below⟩
           rw [e3]
           have q := S89.ownB (i := 2) rfl
           have e4 : recsV (appV r s).rs = recsV r.rs ++ recsV [(⟨r.nx + 1, r.r.s, s⟩ : RecP)] := recsV_append _ _
           rw [e4]; exact q
          case hB => kernel_rfl
          case hst => rfl
theorem firstE_c (a : Int) (l : List Int) : firstE (a :: l) = if a = 0 then firstE l else a := by
  by_cases h : a = 0
  · rw [if_pos h, h]; rfl
  · rw [if_neg h]; simp [firstE, h]
def kepO (r : RngP) (o : Int) (i : Nat) : List RecP := (r.rs.take i).filter fun x => decide (o ≤ x.l)
theorem kepO_succ {r : RngP} {o : Int} {i : Nat} (h : i < r.rs.length) : kepO r o (i + 1) = if o ≤ r.rs[i].l then kepO r o i ++ [r.rs[i]] else kepO r o i := by
  unfold kepO
  rw [List.take_add_one, List.getElem?_eq_getElem h, Option.toList, List.filter_append]
  by_cases h2 : o ≤ r.rs[i].l
  · rw [if_pos h2]; simp [h2]
  · rw [if_neg h2]; simp [h2]
theorem kepO_length (r : RngP) (o : Int) (i : Nat) : (kepO r o i).length ≤ i := by
  unfold kepO
  have := List.length_filter_le (fun x => decide (o ≤ x.l)) (r.rs.take i)
  have := List.length_take_le i r.rs
  omega
theorem rRestarted_any (r : RngP) (A : Option Addr) (c : Nat) (cp ol : Int) (w : World) (hr : Rd w w.heap.size A (recsV r.rs)) (hk : OkP r) (hi : I6 cp ∧ I6 ol) :
    Calls Tryz.prog 20 #[ringV r A c, .int .i64 cp, .int .i64 ol] w fun e w' => ∃ A' c', e = .returned (.tuple #[ringV (rsaR r cp ol) A' c', .int .i64 (rsaE r cp ol)]) ∧ w'.ownsRow w.heap.size 98 3 (.slice A' (rsaR r cp ol).rs.length c') (rsaR r cp ol).rs.length (recsV (rsaR r cp ol).rs) ∧ Below w.heap.size w w' := by
  have hlen : r.rs.length ≤ 1000 := by have := hk.h.len; omega
  have hnx := hk.h.nx
  have hrr := hk.h.rr
  have hnxr := nxtR_in (p := r.nx)
  unfold I6 at hi
  refine st_enter (N := 91) Tryz.func20 rfl rfl rfl (fun a0 h0 => ?_)
  have S0 := St.init w
  refine st_seq ?_
  refine st_reg ?_
  refine sl_new h0 (wn rfl) (f := fun b => .pointer (some ⟨b, 0, none⟩)) (ex_box (h0.ev rfl)) rfl rfl S0 fun b3 a1 X1 gb3 h1 S1 => ?_
  refine sl_new h1 (wn rfl) (f := fun b => .pointer (some ⟨b, 0, none⟩)) (ex_alloc (z := .agg #[.int .i64 0, .int .i64 0, .int .i64 0, .int .i64 0, .int .i64 0, .int .i64 0, .int .i64 0, .slice none 0 0, .int .i64 0]) (by kernel_rfl)) rfl rfl S1 fun b6 a2 X2 gb6 h2 S2 => ?_
  refine sl_val h2 (wn rfl) (ex_assign (h2.ev rfl)) rfl rfl fun a3 h3 => ?_
  refine st_nil ?_
  refine go_then ?_
  refine st_seq ?_
  refine st_reg ?_
  refine sl_val h3 (wn rfl) (ex_build (zs := [.int .i64 0, .int .i64 0, .int .i64 0, .int .i64 0, .int .i64 0, .int .i64 0, .int .i64 0, .slice none 0 0, .int .i64 0]) (pl := [(0, 1), (1, 3), (4, 3), (7, 1), (8, 1)]) (by kernel_rfl) (by kernel_rfl) (h3.evs2 rfl) rfl rfl) rfl rfl fun a4 h4 => ?_
  refine sl_new h4 (wn rfl) (f := fun b => .pointer (some ⟨b, 0, none⟩)) (ex_alloc (z := .agg #[.int .i64 0, .int .i64 0, .int .i64 0, .int .i64 0, .int .i64 0, .int .i64 0, .int .i64 0, .slice none 0 0, .int .i64 0]) (by kernel_rfl)) rfl rfl S2 fun b8 a5 X5 gb8 h5 S5 => ?_
  refine sl_store0 h5 (wn rfl) ⟨rfl, rfl⟩ (h5.ev rfl) (h5.ev rfl) rfl (by kernel_rfl) S5 (i := 0) rfl rfl rfl fun X6 S6 => ?_
  refine st_nil ?_
  refine go_then ?_
  refine st_seq ?_
  refine st_reg ?_
  refine sl_val (v := ringV r A c) h5 (wn rfl) (ex_loads (by kernel_rfl) (by kernel_rfl) (h5.ev rfl) (S6.cellsAll (i := 2) rfl)) rfl rfl fun a7 h7 => ?_
  refine sl_ownt h7 (wn rfl) (ex_call (fun _ _ => by kernel_rfl) (h7.evs rfl) rfl) rfl rfl S6 (rClosed_any r A c _ (S6.rd0 hr) hlen (by omega)) (Nat.le_refl _) fun A15 c15 a8 X8 h8 S8 => ?_
  refine sl_val h8 (wn rfl) (ex_move (h8.ev rfl)) rfl rfl fun a9 h9 => ?_
  refine sl_val h9 (wn rfl) (ex_extract (h9.ev rfl) rfl) rfl rfl fun a10 h10 => ?_
  refine sl_val h10 (wn rfl) (ex_extract (h10.ev rfl) rfl) rfl rfl fun a11 h11 => ?_
  refine sl_new h11 (wn rfl) (f := fun b => .pointer (some ⟨b, 0, none⟩)) (ex_alloc (z := .agg #[.int .i64 0, .int .i64 0, .int .i64 0, .int .i64 0, .int .i64 0, .int .i64 0, .int .i64 0, .slice none 0 0, .int .i64 0]) (by kernel_rfl)) rfl rfl S8 fun b9 a12 X12 gb9 h12 S12 => ?_
  refine sl_store0 h12 (wn rfl) ⟨rfl, rfl⟩ (h12.ev rfl) (h12.ev rfl) rfl (by kernel_rfl) S12 (i := 0) rfl rfl rfl fun X13 S13 => ?_
  refine sl_val h12 (wn rfl) (ex_assign (h12.ev rfl)) rfl rfl fun a14 h14 => ?_
  refine st_nil ?_
  refine go_then ?_
  refine st_seq ?_
  refine st_seq ?_
  refine st_reg ?_
  refine sl_val h14 (wn rfl) (ex_move (h14.ev rfl)) rfl rfl fun a15 h15 => ?_
  refine sl_val h15 (wn rfl) (ex_neq (h15.ev rfl) (h15.ev rfl)) rfl rfl fun a16 h16 => ?_
  refine st_nil ?_
  refine go_then ?_
  refine st_if (h16.ev rfl) (fun hc0 => ?_) (fun hc0 => ?_)
  · skip
    have hE : rsaE r cp ol = cloE r := by
      unfold rsaE
      rw [firstE_c, if_neg (by simpa using hc0)]
    have hne : cloE r ≠ 0 := by simpa using hc0
    have e3 : rsaR r cp ol = rng0 := by unfold rsaR; rw [if_neg (by rw [hE]; exact hne)]
    refine st_seq ?_
    refine st_reg ?_
    refine sl_val h16 (wn rfl) (ex_loads (by kernel_rfl) (by kernel_rfl) (h16.ev rfl) (S13.cellsAll (i := 2) rfl)) rfl rfl fun a17 h17 => ?_
    refine sl_val h17 (wn rfl) (ex_move (h17.ev rfl)) rfl rfl fun a18 h18 => ?_
    refine sl_store0 h18 (wn rfl) ⟨rfl, rfl⟩ (h18.ev rfl) (h18.ev rfl) rfl (by kernel_rfl) S13 (i := 3) rfl rfl rfl fun X19 S19 => ?_
    refine sl_val h18 (wn rfl) (ex_assign (h18.ev rfl)) rfl rfl fun a20 h20 => ?_
    refine st_nil ?_
    refine go_then ?_
    refine wp_ret ?_
    refine ret_then ?_
    refine finct h20 rfl rfl rfl S19 (i := 3) rfl (by kernel_rfl) (by kernel_rfl) ?_
    exact ⟨none, 0, by rw [hE, e3]; rfl, by rw [e3]; exact World.ownsRow_nil _ _ _ _, S19.below⟩
  · skip
    have hz : cloE r = 0 := by simpa using hc0
    have e3 : cloR r = cloV r := by unfold cloR; rw [if_pos hz]
    rw [e3] at h16 S13
    refine wp_skip ?_
    refine go_then ?_
    refine st_seq ?_
    refine st_seq ?_
    refine st_reg ?_
    refine sl_val (v := ringV r A c) h16 (wn rfl) (ex_loads (by kernel_rfl) (by kernel_rfl) (h16.ev rfl) (S13.cellsAll (i := 4) rfl)) rfl rfl fun a21 h21 => ?_
    refine sl_val h21 (wn rfl) (ex_move (h21.ev rfl)) rfl rfl fun a22 h22 => ?_
    refine sl_bel h22 (wn rfl) (ex_call (fun _ _ => by kernel_rfl) (h22.evs rfl) rfl) rfl rfl S13 (rHas_any r A c ol _ (S13.rd0 hr) hlen) fun a23 X23 h23 S23 => ?_
    refine sl_val h23 (wn rfl) (ex_not (h23.ev rfl)) rfl rfl fun a24 h24 => ?_
    refine sl_val h24 (wn rfl) (ex_move (h24.ev rfl)) rfl rfl fun a25 h25 => ?_
    apply sl_and h25 S23 26 rfl 6 32
    case ht =>
     intro gc26
     refine sl_val h25 (wanted_yes h25 _ rfl rfl rfl gc26) (ex_move (h25.ev rfl)) rfl rfl fun a26 h26 => ?_
     refine sl_val h26 (wanted_yes h26 _ rfl rfl rfl gc26) (ex_field (off := 8) (j := 8) (by kernel_rfl) (h26.ev rfl) rfl) rfl rfl fun a27 h27 => ?_
     refine sl_val h27 (wanted_yes h27 _ rfl rfl rfl gc26) (ex_load (by kernel_rfl) (h27.ev rfl) (S23.cell (i := 0) rfl rfl)) rfl rfl fun a28 h28 => ?_
     refine sl_val h28 (wanted_yes h28 _ rfl rfl rfl gc26) (ex_add (h28.ev rfl) (h28.ev rfl) ⟨by show _ ≤ nxtR r.nx + 1; omega, by show nxtR r.nx + 1 < _; omega⟩) rfl rfl fun a29 h29 => ?_
     refine sl_val h29 (wanted_yes h29 _ rfl rfl rfl gc26) (ex_neq (h29.ev rfl) (h29.ev rfl)) rfl rfl fun a30 h30 => ?_
     refine sl_val h30 (wn rfl) (ex_pick_t (h30.ev rfl) gc26 (h30.ev rfl)) rfl rfl fun a31 h31 => ?_
     exact st_nil ⟨h31.mid (m := [(_, _), (_, _), (_, _), (_, _), (_, _)]) rfl, S23⟩
    case hf =>
     intro gc26
     refine sl_no h25 (wanted_no h25 _ rfl rfl rfl gc26) rfl rfl fun a32 h32 => ?_
     refine sl_no h32 (wanted_no h32 _ rfl rfl rfl gc26) rfl rfl fun a33 h33 => ?_
     refine sl_no h33 (wanted_no h33 _ rfl rfl rfl gc26) rfl rfl fun a34 h34 => ?_
     refine sl_no h34 (wanted_no h34 _ rfl rfl rfl gc26) rfl rfl fun a35 h35 => ?_
     refine sl_no h35 (wanted_no h35 _ rfl rfl rfl gc26) rfl rfl fun a36 h36 => ?_
     refine sl_val h36 (wn rfl) (ex_pick_f (h36.ev rfl) gc26 (h36.ev rfl)) rfl rfl fun a37 h37 => ?_
     exact st_nil ⟨h37.mid (m := [(_, _), (_, _), (_, _), (_, _), (_, _)]) rfl, S23⟩
    case h =>
     rintro a38 X38 ⟨h38, S38⟩
     refine st_nil ?_
     refine go_then ?_
     refine st_if (h38.ev rfl) (fun hc1 => ?_) (fun hc1 => ?_)
     · skip
       have hE : rsaE r cp ol = 6 := by
         rw [Bool.and_eq_true, Bool.not_eq_true', bne_iff_ne] at hc1
         unfold rsaE
         rw [firstE_c, if_pos hz, firstE_c]
         have : (ol == nxtR r.nx + 1 || hasR r.rs ol) = false := by
           rw [Bool.or_eq_false_iff, hc1.1]
           exact ⟨by rw [beq_eq_false_iff_ne]; exact hc1.2, rfl⟩
         rw [this]; rfl
       have e4 : rsaR r cp ol = rng0 := by unfold rsaR; rw [if_neg (by rw [hE]; decide)]
       refine st_seq ?_
       refine st_reg ?_
       refine sl_val h38 (wn rfl) (ex_loads (by kernel_rfl) (by kernel_rfl) (h38.ev rfl) (S38.cellsAll (i := 2) rfl)) rfl rfl fun a39 h39 => ?_
       refine sl_store0 h39 (wn rfl) ⟨rfl, rfl⟩ (h39.ev rfl) (h39.ev rfl) rfl (by kernel_rfl) S38 (i := 3) rfl rfl rfl fun X40 S40 => ?_
       refine sl_val h39 (wn rfl) (ex_assign (h39.ev rfl)) rfl rfl fun a41 h41 => ?_
       refine st_nil ?_
       refine go_then ?_
       refine wp_ret ?_
       refine ret_then ?_
       refine finct h41 rfl rfl rfl S40 (i := 3) rfl (by kernel_rfl) (by kernel_rfl) ?_
       exact ⟨none, 0, by rw [hE, e4]; rfl, by rw [e4]; exact World.ownsRow_nil _ _ _ _, S40.below⟩
     · skip
       have h1 : (ol == nxtR r.nx + 1 || hasR r.rs ol) = true := by
         cases h : hasR r.rs ol with
         | true => simp
         | false =>
          rw [h] at hc1
          have h2 : (ol != nxtR r.nx + 1) = false := by
            have h3 : (!false && (ol != nxtR r.nx + 1)) = false := hc1
            simpa using h3
          rw [bne_eq_false_iff_eq] at h2
          rw [h2]; simp
       refine wp_skip ?_
       refine go_then ?_
       refine st_seq ?_
       refine st_seq ?_
       refine st_reg ?_
       refine sl_val h38 (wn rfl) (ex_move (h38.ev rfl)) rfl rfl fun a42 h42 => ?_
       refine sl_val h42 (wn rfl) (ex_neq (h42.ev rfl) (h42.ev rfl)) rfl rfl fun a43 h43 => ?_
       refine sl_val h43 (wn rfl) (ex_move (h43.ev rfl)) rfl rfl fun a44 h44 => ?_
       apply sl_and h44 S38 36 rfl 10 46
       case ht =>
        intro gc36
        refine sl_val (v := ringV r A c) h44 (wanted_yes h44 _ rfl rfl rfl gc36) (ex_loads (by kernel_rfl) (by kernel_rfl) (h44.ev rfl) (S38.cellsAll (i := 4) rfl)) rfl rfl fun a45 h45 => ?_
        refine sl_val h45 (wanted_yes h45 _ rfl rfl rfl gc36) (ex_move (h45.ev rfl)) rfl rfl fun a46 h46 => ?_
        refine sl_bel h46 (wanted_yes h46 _ rfl rfl rfl gc36) (ex_call (fun _ _ => by kernel_rfl) (h46.evs rfl) rfl) rfl rfl S38 (rHas_any r A c cp _ (S38.rd0 hr) hlen) fun a47 X47 h47 S47 => ?_
        refine sl_val h47 (wanted_yes h47 _ rfl rfl rfl gc36) (ex_not (h47.ev rfl)) rfl rfl fun a48 h48 => ?_
        refine sl_val h48 (wanted_yes h48 _ rfl rfl rfl gc36) (ex_move (h48.ev rfl)) rfl rfl fun a49 h49 => ?_
        apply sl_or h49 S47 41 rfl 4 45
        case hf =>
         intro gc41
         refine sl_val h49 (wanted_yes h49 _ rfl rfl rfl gc41) (ex_move (h49.ev rfl)) rfl rfl fun a50 h50 => ?_
         refine sl_val h50 (wanted_yes h50 _ rfl rfl rfl gc41) (ex_move (h50.ev rfl)) rfl rfl fun a51 h51 => ?_
         refine sl_val h51 (wanted_yes h51 _ rfl rfl rfl gc41) (ex_lss (h51.ev rfl) (h51.ev rfl)) rfl rfl fun a52 h52 => ?_
         refine sl_val h52 (wanted_yes h52 _ rfl rfl rfl gc36) (ex_pick_f (h52.ev rfl) gc41 (h52.ev rfl)) rfl rfl fun a53 h53 => ?_
         exact st_nil ⟨h53.mid (m := [(_, _), (_, _), (_, _)]) rfl, S47⟩
        case ht =>
         intro gc41
         refine sl_no h49 (wanted_no h49 _ rfl rfl rfl gc41) rfl rfl fun a54 h54 => ?_
         refine sl_no h54 (wanted_no h54 _ rfl rfl rfl gc41) rfl rfl fun a55 h55 => ?_
         refine sl_no h55 (wanted_no h55 _ rfl rfl rfl gc41) rfl rfl fun a56 h56 => ?_
         refine sl_val h56 (wanted_yes h56 _ rfl rfl rfl gc36) (ex_pick_t (h56.ev rfl) gc41 (h56.ev rfl)) rfl rfl fun a57 h57 => ?_
         exact st_nil ⟨h57.mid (m := [(_, _), (_, _), (_, _)]) rfl, S47⟩
        case h =>
         rintro a58 X58 ⟨h58, S58⟩
         refine sl_val h58 (wn rfl) (ex_pick_t (h58.ev rfl) gc36 (h58.ev rfl)) rfl rfl fun a59 h59 => ?_
         exact st_nil ⟨h59.mid (m := [(_, _), (_, _), (_, _), (_, _), (_, _), (_, _)]) rfl, S58⟩
       case hf =>
        intro gc36
        refine sl_no h44 (wanted_no h44 _ rfl rfl rfl gc36) rfl rfl fun a60 h60 => ?_
        refine sl_no h60 (wanted_no h60 _ rfl rfl rfl gc36) rfl rfl fun a61 h61 => ?_
        refine sl_no h61 (wanted_no h61 _ rfl rfl rfl gc36) rfl rfl fun a62 h62 => ?_
        refine sl_no h62 (wanted_no h62 _ rfl rfl rfl gc36) rfl rfl fun a63 h63 => ?_
        refine sl_no h63 (wanted_no h63 _ rfl rfl rfl gc36) rfl rfl fun a64 h64 => ?_
        refine sl_no h64 (wanted_not h64 _ rfl rfl rfl) rfl rfl fun a65 h65 => ?_
        refine sl_no h65 (wanted_not h65 _ rfl rfl rfl) rfl rfl fun a66 h66 => ?_
        refine sl_no h66 (wanted_not h66 _ rfl rfl rfl) rfl rfl fun a67 h67 => ?_
        refine sl_no h67 (wanted_no h67 _ rfl rfl rfl gc36) rfl rfl fun a68 h68 => ?_
        refine sl_val h68 (wn rfl) (ex_pick_f (h68.ev rfl) gc36 (h68.ev rfl)) rfl rfl fun a69 h69 => ?_
        exact st_nil ⟨h69.mid (m := [(_, _), (_, _), (_, _), (_, _), (_, _), (_, _), (_, _), (_, _), (_, _)]) rfl, S38⟩
       case h =>
        rintro a70 X70 ⟨h70, S70⟩
        refine st_nil ?_
        refine go_then ?_
        refine st_if (h70.ev rfl) (fun hc2 => ?_) (fun hc2 => ?_)
        · skip
          have hE : rsaE r cp ol = 6 := by
            rw [Bool.and_eq_true, bne_iff_ne] at hc2
            unfold rsaE
            rw [firstE_c, if_pos hz, firstE_c, h1, if_pos (unl_true 6), firstE_c]
            have : (cp == 0 || (decide (ol ≤ cp) && hasR r.rs cp)) = false := by
              rw [Bool.or_eq_false_iff]
              refine ⟨by rw [beq_eq_false_iff_ne]; exact hc2.1, ?_⟩
              cases h : hasR r.rs cp with
              | false => simp
              | true =>
               rw [h] at hc2
               have h3 : cp < ol := by simpa using hc2.2
               rw [decide_eq_false (by omega)]; rfl
            rw [this]; rfl
          have e4 : rsaR r cp ol = rng0 := by unfold rsaR; rw [if_neg (by rw [hE]; decide)]
          refine st_seq ?_
          refine st_reg ?_
          refine sl_val h70 (wn rfl) (ex_loads (by kernel_rfl) (by kernel_rfl) (h70.ev rfl) (S70.cellsAll (i := 2) rfl)) rfl rfl fun a71 h71 => ?_
          refine sl_store0 h71 (wn rfl) ⟨rfl, rfl⟩ (h71.ev rfl) (h71.ev rfl) rfl (by kernel_rfl) S70 (i := 3) rfl rfl rfl fun X72 S72 => ?_
          refine sl_val h71 (wn rfl) (ex_assign (h71.ev rfl)) rfl rfl fun a73 h73 => ?_
          refine st_nil ?_
          refine go_then ?_
          refine wp_ret ?_
          refine ret_then ?_
          refine finct h73 rfl rfl rfl S72 (i := 3) rfl (by kernel_rfl) (by kernel_rfl) ?_
          exact ⟨none, 0, by rw [hE, e4]; rfl, by rw [e4]; exact World.ownsRow_nil _ _ _ _, S72.below⟩
        · skip
          have h2 : (cp == 0 || (decide (ol ≤ cp) && hasR r.rs cp)) = true := by
            by_cases h0 : cp = 0
            · rw [h0]; rfl
            · have h00 : (cp != 0) = true := by rw [bne_iff_ne]; exact h0
              rw [h00, Bool.true_and, Bool.or_eq_false_iff, decide_eq_false_iff_not] at hc2
              rw [show hasR r.rs cp = true by simpa using hc2.1, decide_eq_true (by omega)]; simp
          refine wp_skip ?_
          refine go_then ?_
          refine st_seq ?_
          refine st_seq ?_
          refine st_reg ?_
          refine sl_val h70 (wn rfl) (ex_field (off := 1) (j := 1) (by kernel_rfl) (h70.ev rfl) rfl) rfl rfl fun a74 h74 => ?_
          refine sl_val h74 (wn rfl) (ex_field (off := 0) (j := 1) (by kernel_rfl) (h74.ev rfl) rfl) rfl rfl fun a75 h75 => ?_
          refine sl_val h75 (wn rfl) (ex_load (by kernel_rfl) (h75.ev rfl) (S70.cell (i := 4) rfl rfl)) rfl rfl fun a76 h76 => ?_
          refine sl_val h76 (wn rfl) (ex_eql (h76.ev rfl) (h76.ev rfl)) rfl rfl fun a77 h77 => ?_
          refine st_nil ?_
          refine go_then ?_
          refine st_if (h77.ev rfl) (fun hc3 => ?_) (fun hc3 => ?_)
          · skip
            have hE : rsaE r cp ol = 2 := by
              have h3 := eq_of_beq hc3
              unfold rsaE
              rw [firstE_c, if_pos hz, firstE_c, h1, if_pos (unl_true 6), firstE_c, h2, if_pos (unl_true 6), firstE_c, h3]; rfl
            have e4 : rsaR r cp ol = rng0 := by unfold rsaR; rw [if_neg (by rw [hE]; decide)]
            refine st_seq ?_
            refine st_reg ?_
            refine sl_val h77 (wn rfl) (ex_loads (by kernel_rfl) (by kernel_rfl) (h77.ev rfl) (S70.cellsAll (i := 2) rfl)) rfl rfl fun a78 h78 => ?_
            refine sl_store0 h78 (wn rfl) ⟨rfl, rfl⟩ (h78.ev rfl) (h78.ev rfl) rfl (by kernel_rfl) S70 (i := 3) rfl rfl rfl fun X79 S79 => ?_
            refine sl_val h78 (wn rfl) (ex_assign (h78.ev rfl)) rfl rfl fun a80 h80 => ?_
            refine st_nil ?_
            refine go_then ?_
            refine wp_ret ?_
            refine ret_then ?_
            refine finct h80 rfl rfl rfl S79 (i := 3) rfl (by kernel_rfl) (by kernel_rfl) ?_
            exact ⟨none, 0, by rw [hE, e4]; rfl, by rw [e4]; exact World.ownsRow_nil _ _ _ _, S79.below⟩
          · skip
            have hE : rsaE r cp ol = 0 := by
              have h3 : r.r.s < 60000 := by
                have : ¬ r.r.s = 60000 := by intro h; rw [h] at hc3; exact absurd hc3 (by decide)
                omega
              unfold rsaE
              rw [firstE_c, if_pos hz, firstE_c, h1, if_pos (unl_true 6), firstE_c, h2, if_pos (unl_true 6), firstE_c, decide_eq_true h3]; rfl
            have e4 : rsaR r cp ol = rsaV r cp ol := by unfold rsaR; rw [if_pos hE]
            refine wp_skip ?_
            refine go_then ?_
            refine st_seq ?_
            refine st_reg ?_
            refine sl_val h77 (wn rfl) (ex_field (off := 1) (j := 1) (by kernel_rfl) (h77.ev rfl) rfl) rfl rfl fun a81 h81 => ?_
            refine sl_val h81 (wn rfl) (ex_loads (by kernel_rfl) (by kernel_rfl) (h81.ev rfl) (S70.cellsOf (i := 4) rfl 1 3)) rfl rfl fun a82 h82 => ?_
            refine sl_val h82 (wn rfl) (ex_field (off := 4) (j := 4) (by kernel_rfl) (h82.ev rfl) rfl) rfl rfl fun a83 h83 => ?_
            refine sl_store h83 (wn rfl) ⟨rfl, rfl⟩ (h83.ev rfl) (h83.ev rfl) rfl (by kernel_rfl) S70 (i := 0) rfl rfl rfl fun X84 S84 => ?_
            refine st_nil ?_
            refine go_then ?_
            refine st_seq ?_
            refine st_reg ?_
            refine sl_val h83 (wn rfl) (ex_field (off := 1) (j := 1) (by kernel_rfl) (h83.ev rfl) rfl) rfl rfl fun a85 h85 => ?_
            refine sl_val h85 (wn rfl) (ex_field (off := 0) (j := 1) (by kernel_rfl) (h85.ev rfl) rfl) rfl rfl fun a86 h86 => ?_
            refine sl_val h86 (wn rfl) (ex_load (by kernel_rfl) (h86.ev rfl) (S84.cell (i := 4) rfl rfl)) rfl rfl fun a87 h87 => ?_
            refine sl_val h87 (wn rfl) (ex_add (h87.ev rfl) (h87.ev rfl) (by omega)) rfl rfl fun a88 h88 => ?_
            refine sl_val h88 (wn rfl) (ex_move (h88.ev rfl)) rfl rfl fun a89 h89 => ?_
            refine sl_val h89 (wn rfl) (ex_move (h89.ev rfl)) rfl rfl fun a90 h90 => ?_
            refine sl_val h90 (wn rfl) (ex_build (zs := [.int .i64 0, .int .i64 0, .int .i64 0]) (pl := [(0, 1), (1, 1), (2, 1)]) (by kernel_rfl) (by kernel_rfl) (h90.evs2 rfl) rfl rfl) rfl rfl fun a91 h91 => ?_
            refine sl_val h91 (wn rfl) (ex_field (off := 1) (j := 1) (by kernel_rfl) (h91.ev rfl) rfl) rfl rfl fun a92 h92 => ?_
            refine sl_store h92 (wn rfl) ⟨rfl, rfl⟩ (h92.ev rfl) (h92.ev rfl) rfl (by kernel_rfl) S84 (i := 0) rfl rfl rfl fun X93 S93 => ?_
            refine st_nil ?_
            refine go_then ?_
            refine st_seq ?_
            refine st_reg ?_
            refine sl_val h92 (wn rfl) (ex_field (off := 7) (j := 7) (by kernel_rfl) (h92.ev rfl) rfl) rfl rfl fun a94 h94 => ?_
            refine sl_store h94 (wn rfl) ⟨rfl, rfl⟩ (h94.ev rfl) (h94.ev rfl) rfl (by kernel_rfl) S93 (i := 0) rfl rfl rfl fun X95 S95 => ?_
            refine st_nil ?_
            refine go_then ?_
            refine st_seq ?_
            refine st_seq ?_
            refine st_reg ?_
            refine sl_val h94 (wn rfl) (ex_assign (h94.ev rfl)) rfl rfl fun a96 h96 => ?_
            replace S95 := St.nilRow S95 98 3
            refine st_nil ?_
            refine go_then ?_
            refine wp_block ?_
            refine st_loop h96 S95 [9, 7, 6, 3, 2] (fun (q : Nat × Option Addr × Nat) => [(11, .int .i64 (q.1 : Int))]) (fun (q : Nat × Option Addr × Nat) => q.1 ≤ r.rs.length) (fun q L => (L.set 0 (.row (.slice q.2.1 (kepO r ol q.1).length q.2.2) (kepO r ol q.1).length 98 3 (recsV (kepO r ol q.1)))).set 1 (.box b9 #[.int .i64 r.pg, .int .i64 (r.r.s + 1), .int .i64 cp, .int .i64 ol, .int .i64 r.r.s, .int .i64 r.r.c, .int .i64 r.r.o, .slice q.2.1 (kepO r ol q.1).length q.2.2, .int .i64 (nxtR r.nx)] 26)) (fun (q : Nat × Option Addr × Nat) => r.rs.length - q.1) ((0, none, 0)) ((Nat.zero_le _)) ⟨rfl, rfl, rfl, rfl, rfl, rfl, trivial⟩ (S95) ?_
            intro q a97 X97 hF0 h97 S97
            refine st_seq ?_
            refine st_seq ?_
            refine st_reg ?_
            refine sl_val h97 (wn rfl) (ex_move (h97.ev rfl)) rfl rfl fun a98 h98 => ?_
            refine sl_val h98 (wn rfl) (ex_field (off := 7) (j := 7) (by kernel_rfl) (h98.ev rfl) rfl) rfl rfl fun a99 h99 => ?_
            refine sl_val h99 (wn rfl) (ex_load (by kernel_rfl) (h99.ev rfl) (S97.cell (i := 5) rfl rfl)) rfl rfl fun a100 h100 => ?_
            refine sl_val h100 (wn rfl) (ex_len Tryz.underlying24 (h100.ev rfl)) rfl rfl fun a101 h101 => ?_
            refine sl_val h101 (wn rfl) (ex_lss (h101.ev rfl) (h101.ev rfl)) rfl rfl fun a102 h102 => ?_
            refine st_nil ?_
            refine go_then ?_
            refine st_if (h102.ev rfl) (fun hc4 => ?_) (fun hc4 => ?_)
            · skip
              have hlt : q.1 < r.rs.length := by have := of_decide_eq_true hc4; omega
              obtain ⟨b, o, rfl, _⟩ := hr.opened (by rw [recsV_length]; omega)
              have hkl := kepO_length r ol q.1
              refine wp_skip ?_
              refine go_then ?_
              refine st_seq ?_
              refine wp_block ?_
              refine st_seq ?_
              refine st_reg ?_
              refine sl_val h102 (wn rfl) (ex_field (off := 7) (j := 7) (by kernel_rfl) (h102.ev rfl) rfl) rfl rfl fun a103 h103 => ?_
              refine sl_val h103 (wn rfl) (ex_load (by kernel_rfl) (h103.ev rfl) (S97.cell (i := 5) rfl rfl)) rfl rfl fun a104 h104 => ?_
              refine sl_val h104 (wn rfl) (ex_move (h104.ev rfl)) rfl rfl fun a105 h105 => ?_
              refine sl_val h105 (wn rfl) (ex_index (i := q.1) (sz := 3) Tryz.underlying24 (by kernel_rfl) (h105.ev rfl) (h105.ev rfl) (by omega) (by omega) rfl) rfl rfl fun a106 h106 => ?_
              refine sl_val h106 (wn rfl) (ex_field (off := 0) (by kernel_rfl) (h106.ev rfl) rfl) rfl rfl fun a107 h107 => ?_
              refine sl_val h107 (wn rfl) (ex_load (by kernel_rfl) (h107.ev rfl) ((recAt (S97.rd0 hr) hlt) 0 _ rfl)) rfl rfl fun a108 h108 => ?_
              refine sl_val h108 (wn rfl) (ex_move (h108.ev rfl)) rfl rfl fun a109 h109 => ?_
              refine sl_val h109 (wn rfl) (ex_geq (h109.ev rfl) (h109.ev rfl)) rfl rfl fun a110 h110 => ?_
              refine st_nil ?_
              refine go_then ?_
              refine st_if (h110.ev rfl) (fun hc5 => ?_) (fun hc5 => ?_)
              · skip
                have hks := kepO_succ (o := ol) hlt
                rw [if_pos (of_decide_eq_true hc5)] at hks
                have e5 : (kepO r ol (q.1 + 1)).length = (kepO r ol q.1).length + 1 := by rw [hks, List.length_append]; rfl
                apply dr_flow h110 [false, false, false, false, false, false, false, true] _ (by kernel_rfl)
                case h =>
                 refine sq_val h110 (wn rfl) rfl rfl (fun X hX => (ex_field (off := 7) (j := 7) (by kernel_rfl) (h110.ev rfl) rfl)) fun a111 h111 => ?_
                 refine sq_val h111 (wn rfl) rfl rfl (fun X hX => (ex_load (by kernel_rfl) (h111.ev rfl) ((S97.grow hX).cell (i := 1) rfl rfl))) fun a112 h112 => ?_
                 refine sq_val h112 (wn rfl) rfl rfl (fun X hX => (ex_field (off := 7) (j := 7) (by kernel_rfl) (h112.ev rfl) rfl)) fun a113 h113 => ?_
                 refine sq_val h113 (wn rfl) rfl rfl (fun X hX => (ex_load (by kernel_rfl) (h113.ev rfl) ((S97.grow hX).cell (i := 5) rfl rfl))) fun a114 h114 => ?_
                 refine sq_val h114 (wn rfl) rfl rfl (fun X hX => (ex_move (h114.ev rfl))) fun a115 h115 => ?_
                 refine sq_val h115 (wn rfl) rfl rfl (fun X hX => (ex_index (i := q.1) (sz := 3) Tryz.underlying24 (by kernel_rfl) (h115.ev rfl) (h115.ev rfl) (by omega) (by omega) rfl)) fun a116 h116 => ?_
                 refine sq_val (v := recV r.rs[q.1]) h116 (wn rfl) rfl rfl (fun X hX => (ex_loads (by kernel_rfl) (by kernel_rfl) (h116.ev rfl) (recAt ((S97.grow hX).rd0 hr) hlt))) fun a117 h117 => ?_
                 refine sq_nil ?_
                 apply nd_step (k := 7) (deps := []) (R := NewB _ (fun b => .slice (some ⟨b, 0, none⟩) 1 1) _ _) h117 rfl rfl rfl NewB.stable (fun X hX hΦ => lv_new (ex_bslice2 (cs := recC r.rs[q.1]) (zc := [.int .i64 0, .int .i64 0, .string ⟨#[]⟩]) (sz := 3) rfl Tryz.underlying24 (by kernel_rfl) (by kernel_rfl) rfl rfl rfl (h117.evs2 rfl) rfl rfl rfl) hX.size)
                 intro v87 a118 h118
                 refine nd_end fun X119 hX119 hΦ119 => ?_
                 have S119 := S97.grow hX119
                 have qv87 := told_all hΦ119 (k := 7) rfl
                 obtain ⟨b87, rfl, gb87, qv87⟩ := qv87
                 have S120 := S97.add hX119 (e := .box _ _ _) qv87 (fun b hb => by cases hb; exact ⟨gb87, Box.lt qv87⟩)
                 refine sl_append (z := .agg #[.int .i64 0, .int .i64 0, .string ⟨#[]⟩]) (sz := 3) (bytes := 32) h118 (wn rfl) ⟨rfl, rfl⟩ rfl Tryz.underlying24 (by kernel_rfl) rfl rfl (h118.ev rfl) (h118.ev rfl) S120 (i := 1) rfl (S120.boxRd (i := 0) rfl) rfl (List.all_eq_true.1 rfl) ⟨(by omega), by decide⟩ fun A88 c88 a121 X121 h121 S121 => ?_
                 refine sl_val h121 (wn rfl) (ex_field (off := 7) (j := 7) (by kernel_rfl) (h121.ev rfl) rfl) rfl rfl fun a122 h122 => ?_
                 refine sl_store h122 (wn rfl) ⟨rfl, rfl⟩ (h122.ev rfl) (h122.ev rfl) rfl (by kernel_rfl) S121 (i := 2) rfl rfl rfl fun X123 S123 => ?_
                 replace S123 := S123.xsEq (i := 1) (xs' := recsV (kepO r ol (q.1 + 1))) rfl (by rw [hks, recsV_append]; rfl)
                 rw [← e5] at S123
                 refine st_nil ?_
                 refine go_block ?_
                 refine go_then ?_
                 refine st_reg ?_
                 refine sl_val h122 (wn rfl) (ex_move (h122.ev rfl)) rfl rfl fun a124 h124 => ?_
                 refine sl_val h124 (wn rfl) (ex_add (h124.ev rfl) (h124.ev rfl) (by omega)) rfl rfl fun a125 h125 => ?_
                 refine sl_val h125 (wn rfl) (ex_assign (h125.ev rfl)) rfl rfl fun a126 h126 => ?_
                 refine st_nil ?_
                 refine go_then ?_
                 exact ⟨(q.1 + 1, A88, c88), (by show r.rs.length - (q.1 + 1) < r.rs.length - q.1; omega), (by show q.1 + 1 ≤ r.rs.length; omega), h126.re ⟨rfl, rfl, rfl, rfl, rfl, rfl, trivial⟩, S123.sub (.cons _ (.cons_cons _ (.cons_cons _ (.cons_cons _ (.cons_cons _ (.cons_cons _ (.cons_cons _ .slnil)))))))⟩
                case hB => kernel_rfl
                case hst => rfl
              · skip
                have hks := kepO_succ (o := ol) hlt
                rw [if_neg (of_decide_eq_false hc5)] at hks
                rw [← hks] at S97
                refine wp_skip ?_
                refine go_block ?_
                refine go_then ?_
                refine st_reg ?_
                refine sl_val h110 (wn rfl) (ex_move (h110.ev rfl)) rfl rfl fun a127 h127 => ?_
                refine sl_val h127 (wn rfl) (ex_add (h127.ev rfl) (h127.ev rfl) (by omega)) rfl rfl fun a128 h128 => ?_
                refine sl_val h128 (wn rfl) (ex_assign (h128.ev rfl)) rfl rfl fun a129 h129 => ?_
                refine st_nil ?_
                refine go_then ?_
                exact ⟨(q.1 + 1, q.2.1, q.2.2), (by show r.rs.length - (q.1 + 1) < r.rs.length - q.1; omega), (by show q.1 + 1 ≤ r.rs.length; omega), h129.re ⟨rfl, rfl, rfl, rfl, rfl, rfl, trivial⟩, S97⟩
            · skip
              have hge : q.1 = r.rs.length := by have := of_decide_eq_false hc4; omega
              refine wp_exit ?_
              refine go_exit_then ?_
              refine go_exit_then ?_
              refine go_exit ?_
              refine go_then ?_
              refine st_seq ?_
              refine st_reg ?_
              refine sl_val h102 (wn rfl) (ex_loads (by kernel_rfl) (by kernel_rfl) (h102.ev rfl) (S97.cellsAll (i := 1) rfl)) rfl rfl fun a130 h130 => ?_
              refine sl_store0 h130 (wn rfl) ⟨rfl, rfl⟩ (h130.ev rfl) (h130.ev rfl) rfl (by kernel_rfl) S97 (i := 4) rfl rfl rfl fun X131 S131 => ?_
              refine sl_val h130 (wn rfl) (ex_assign (h130.ev rfl)) rfl rfl fun a132 h132 => ?_
              refine st_nil ?_
              refine go_then ?_
              refine wp_ret ?_
              refine finct h132 rfl rfl rfl S131 (i := 4) rfl (by kernel_rfl) (by kernel_rfl) ?_
              have e6 : kepO r ol q.1 = r.rs.filter fun x => decide (ol ≤ x.l) := by unfold kepO; rw [hge, List.take_length]
              rw [e6] at S131
              exact ⟨q.2.1, q.2.2, by rw [hE, e4, e6]; rfl, by rw [e4]; exact S131.ownB (i := 0) rfl, S131.below⟩
end Go.Proofs.YtmlilplbdpjfcaaGreatDoor
