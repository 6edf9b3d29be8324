/-
  Chapter 20: the reference's logs closed, appended to and restarted.
-/
import Derived.Test.YtmlilplbdpjfcaaGreatDoorRg23
namespace Go.Proofs.YtmlilplbdpjfcaaGreatDoor
set_option linter.unusedVariables false
set_option linter.unusedSimpArgs false
set_option maxRecDepth 4000
open Go.RowKit Go.Sort
theorem rClosed_any (r : RngP) (A : Option Addr) (c : Nat) (w : World) (hr : Rd w w.heap.size A (recsV r.rs)) (hlen : r.rs.length ≤ 1000) (hnx : 0 ≤ r.nx ∧ r.nx ≤ 200000000) :
    Calls Tryz.prog 18 #[ringV r A c] w fun e w' => ∃ A' c', e = .returned (.tuple #[ringV (cloR r) A' c', .int .i64 (cloE r)]) ∧ w'.ownsRow w.heap.size 98 3 (.slice A' (cloR r).rs.length c') (cloR r).rs.length (recsV (cloR r).rs) ∧ Below w.heap.size w w' := by
  refine st_enter (N := 16) Tryz.func18 rfl rfl rfl (fun a0 h0 => ?_)
  have S0 := St.init w
  refine st_seq (st_reg ?_)
  refine sl_new h0 (wn rfl) (f := fun b => .pointer (some ⟨b, 0, none⟩)) (ex_box (h0.ev rfl)) rfl rfl S0 fun b1 a1 X1 gb1 h1 S1 => ?_
  refine sl_new h1 (wn rfl) (f := fun b => .pointer (some ⟨b, 0, none⟩)) (ex_alloc (z := .agg #[.int .i64 0, .int .i64 0, .int .i64 0, .int .i64 0, .int .i64 0, .int .i64 0, .int .i64 0, .slice none 0 0, .int .i64 0]) (by kernel_rfl)) rfl rfl S1 fun b2 a2 X2 gb2 h2 S2 => ?_
  refine ma h2 rfl rfl fun a3 h3 => ?_
  refine st_nil (go_then (st_seq (st_reg ?_)))
  refine sl_val (v := ringV r A c) h3 (wn rfl) (ex_loads (by kernel_rfl) (by kernel_rfl) (h3.ev rfl) (S2.cellsAll (i := 1) rfl)) rfl rfl fun a4 h4 => ?_
  refine sl_ownt h4 (wn rfl) (ex_call (fun _ _ => by kernel_rfl) (h4.evs rfl) rfl) rfl rfl S2 (rCopy_any r A c _ (S2.rd0 hr) hlen) (Nat.le_refl _) fun A6 c6 a5 X5 h5 S5 => ?_
  refine sl_new h5 (wn rfl) (f := fun b => .pointer (some ⟨b, 0, none⟩)) (ex_alloc (z := .agg #[.int .i64 0, .int .i64 0, .int .i64 0, .int .i64 0, .int .i64 0, .int .i64 0, .int .i64 0, .slice none 0 0, .int .i64 0]) (by kernel_rfl)) rfl rfl S5 fun b4 a6 X6 gb4 h6 S6 => ?_
  refine sl_store0 h6 (wn rfl) ⟨rfl, rfl⟩ (h6.ev rfl) (h6.ev rfl) rfl (by kernel_rfl) S6 (i := 0) rfl rfl rfl fun X7 S7 => ?_
  refine st_nil (go_then (st_seq (st_reg ?_)))
  refine sl_val h6 (wn rfl) (ex_field (off := 8) (j := 8) (by kernel_rfl) (h6.ev rfl) rfl) rfl rfl fun a8 h8 => ?_
  refine sl_val h8 (wn rfl) (ex_load (by kernel_rfl) (h8.ev rfl) (S7.cell (i := 3) rfl rfl)) rfl rfl fun a9 h9 => ?_
  refine sl_pure h9 (wn rfl) (ex_call (fun _ _ => by kernel_rfl) (h9.evs rfl) rfl) rfl rfl (rbegin_any _ (by omega) _) fun a10 h10 => ?_
  refine sl_val h10 (wn rfl) (ex_field (off := 8) (j := 8) (by kernel_rfl) (h10.ev rfl) rfl) rfl rfl fun a11 h11 => ?_
  refine sl_store h11 (wn rfl) ⟨rfl, rfl⟩ (h11.ev rfl) (h11.ev rfl) rfl (by kernel_rfl) S7 (i := 0) rfl rfl rfl fun X12 S12 => ?_
  refine st_nil (go_then (st_seq (st_seq (st_reg ?_))))
  refine sl_val h11 (wn rfl) (ex_field (off := 8) (j := 8) (by kernel_rfl) (h11.ev rfl) rfl) rfl rfl fun a13 h13 => ?_
  refine sl_val h13 (wn rfl) (ex_load (by kernel_rfl) (h13.ev rfl) (S12.cell (i := 0) rfl rfl)) rfl rfl fun a14 h14 => ?_
  refine sl_val h14 (wn rfl) (ex_gtr (h14.ev rfl) (h14.ev rfl)) rfl rfl fun a15 h15 => ?_
  refine st_nil (go_then ?_)
  refine st_if (h15.ev rfl) (fun hc0 => ?_) (fun hc0 => ?_)
  · skip
    have hf : cloE r = 16 := by
      have h1 : 100000000 < nxtR r.nx := of_decide_eq_true hc0
      unfold cloE; rw [decide_eq_false (by omega)]; rfl
    have e3 : cloR r = rng0 := by unfold cloR; rw [if_neg (by rw [hf]; decide)]
    refine st_seq (st_reg ?_)
    refine sl_val h15 (wn rfl) (ex_build (zs := [.int .i64 0, .int .i64 0, .int .i64 0, .int .i64 0, .int .i64 0, .int .i64 0, .int .i64 0, .slice none 0 0, .int .i64 0]) (pl := [(0, 1), (1, 3), (4, 3), (7, 1), (8, 1)]) (by kernel_rfl) (by kernel_rfl) (h15.evs2 rfl) rfl rfl) rfl rfl fun a16 h16 => ?_
    refine sl_store0 h16 (wn rfl) ⟨rfl, rfl⟩ (h16.ev rfl) (h16.ev rfl) rfl (by kernel_rfl) S12 (i := 2) rfl rfl rfl fun X17 S17 => ?_
    refine ma h16 rfl rfl fun a18 h18 => ?_
    refine st_nil (go_then (wp_ret (ret_then ?_)))
    refine finct h18 rfl rfl rfl S17 (i := 2) rfl (by kernel_rfl) (by kernel_rfl) ?_
    exact ⟨none, 0, by rw [hf, e3]; rfl, by rw [e3]; exact World.ownsRow_nil _ _ _ _, S17.below⟩
  · skip
    have hf : cloE r = 0 := by
      have h1 : ¬ 100000000 < nxtR r.nx := of_decide_eq_false hc0
      unfold cloE; rw [decide_eq_true (by omega)]; rfl
    have e3 : cloR r = cloV r := by unfold cloR; rw [if_pos hf]
    refine wp_skip (go_then (st_seq (st_reg ?_)))
    refine sl_val (v := ringV (cloV r) A6 c6) h15 (wn rfl) (ex_loads (by kernel_rfl) (by kernel_rfl) (h15.ev rfl) (S12.cellsAll (i := 0) rfl)) rfl rfl fun a19 h19 => ?_
    refine sl_store0 h19 (wn rfl) ⟨rfl, rfl⟩ (h19.ev rfl) (h19.ev rfl) rfl (by kernel_rfl) S12 (i := 2) rfl rfl rfl fun X20 S20 => ?_
    refine ma h19 rfl rfl fun a21 h21 => ?_
    refine st_nil (go_then (wp_ret ?_))
    refine finct h21 rfl rfl rfl S20 (i := 2) rfl (by kernel_rfl) (by kernel_rfl) ?_
    exact ⟨A6, c6, by rw [hf, e3]; rfl, by rw [e3]; exact S20.ownB (i := 1) rfl, S20.below⟩
theorem rAppended_any (r : RngP) (A : Option Addr) (c : Nat) (s : ByteArray) (w : World) (hr : Rd w w.heap.size A (recsV r.rs)) (hk : OkP r) (hs : s.size ≤ 1000000) :
    Calls Tryz.prog 34 #[ringV r A c, .string s] w fun e w' => ∃ A' c', e = .returned (.tuple #[ringV (appR r s) A' c', .int .i64 (if appE r s = 0 then r.nx + 1 else 0), .int .i64 (appE r s)]) ∧ w'.ownsRow w.heap.size 98 3 (.slice A' (appR r s).rs.length c') (appR r s).rs.length (recsV (appR r s).rs) ∧ Below w.heap.size w w' := by
  have hlen : r.rs.length ≤ 1000 := by have := hk.h.len; omega
  have hnx := hk.h.nx
  have ho := hk.o1
  have hpg := hk.h.pg
  refine st_enter (N := 67) Tryz.func34 rfl rfl rfl (fun a0 h0 => ?_)
  have S0 := St.init w
  refine st_seq (st_reg ?_)
  refine sl_new h0 (wn rfl) (f := fun b => .pointer (some ⟨b, 0, none⟩)) (ex_box (h0.ev rfl)) rfl rfl S0 fun b2 a1 X1 gb2 h1 S1 => ?_
  refine sl_new h1 (wn rfl) (f := fun b => .pointer (some ⟨b, 0, none⟩)) (ex_alloc (z := .agg #[.int .i64 0, .int .i64 0, .int .i64 0, .int .i64 0, .int .i64 0, .int .i64 0, .int .i64 0, .slice none 0 0, .int .i64 0]) (by kernel_rfl)) rfl rfl S1 fun b4 a2 X2 gb4 h2 S2 => ?_
  refine ma h2 rfl rfl fun a3 h3 => ?_
  refine ma h3 rfl rfl fun a4 h4 => ?_
  refine st_nil (go_then (st_seq (st_reg ?_)))
  refine sl_val h4 (wn rfl) (ex_build (zs := [.int .i64 0, .int .i64 0, .int .i64 0, .int .i64 0, .int .i64 0, .int .i64 0, .int .i64 0, .slice none 0 0, .int .i64 0]) (pl := [(0, 1), (1, 3), (4, 3), (7, 1), (8, 1)]) (by kernel_rfl) (by kernel_rfl) (h4.evs2 rfl) rfl rfl) rfl rfl fun a5 h5 => ?_
  refine sl_new h5 (wn rfl) (f := fun b => .pointer (some ⟨b, 0, none⟩)) (ex_alloc (z := .agg #[.int .i64 0, .int .i64 0, .int .i64 0, .int .i64 0, .int .i64 0, .int .i64 0, .int .i64 0, .slice none 0 0, .int .i64 0]) (by kernel_rfl)) rfl rfl S2 fun b7 a6 X6 gb7 h6 S6 => ?_
  refine sl_store0 h6 (wn rfl) ⟨rfl, rfl⟩ (h6.ev rfl) (h6.ev rfl) rfl (by kernel_rfl) S6 (i := 0) rfl rfl rfl fun X7 S7 => ?_
  refine st_nil (go_then (st_seq (st_seq (st_reg ?_))))
  refine mv h6 rfl rfl fun a8 h8 => ?_
  refine sl_val h8 (wn rfl) (ex_slen Tryz.underlying9 (h8.ev rfl)) rfl rfl fun a9 h9 => ?_
  refine sl_val h9 (wn rfl) (ex_eql (h9.ev rfl) (h9.ev rfl)) rfl rfl fun a10 h10 => ?_
  refine st_nil (go_then ?_)
  refine st_if (h10.ev rfl) (fun hc0 => ?_) (fun hc0 => ?_)
  · skip
    have hf : appE r s = 17 := by
      have : s.size = 0 := by have := eq_of_beq hc0; omega
      unfold appE; rw [if_pos this]
    have e3 : appR r s = rng0 := by unfold appR; rw [if_neg (by rw [hf]; decide)]
    refine st_seq (st_reg ?_)
    refine sl_val h10 (wn rfl) (ex_loads (by kernel_rfl) (by kernel_rfl) (h10.ev rfl) (S7.cellsAll (i := 0) rfl)) rfl rfl fun a11 h11 => ?_
    refine sl_store0 h11 (wn rfl) ⟨rfl, rfl⟩ (h11.ev rfl) (h11.ev rfl) rfl (by kernel_rfl) S7 (i := 1) rfl rfl rfl fun X12 S12 => ?_
    refine ma h11 rfl rfl fun a13 h13 => ?_
    refine ma h13 rfl rfl fun a14 h14 => ?_
    refine st_nil (go_then (wp_ret (ret_then ?_)))
    refine finctt h14 rfl rfl rfl rfl S12 (i := 1) rfl (by kernel_rfl) (by kernel_rfl) ?_
    exact ⟨none, 0, by rw [hf, e3]; rfl, by rw [e3]; exact World.ownsRow_nil _ _ _ _, S12.below⟩
  · skip
    have hs0 : ¬ s.size = 0 := by
      intro h
      rw [h] at hc0; exact absurd hc0 (by decide)
    refine wp_skip (go_then (st_seq (st_seq (st_reg ?_))))
    refine mv h10 rfl rfl fun a15 h15 => ?_
    refine sl_val h15 (wn rfl) (ex_slen Tryz.underlying9 (h15.ev rfl)) rfl rfl fun a16 h16 => ?_
    refine sl_val h16 (wn rfl) (ex_gtr (h16.ev rfl) (h16.ev rfl)) rfl rfl fun a17 h17 => ?_
    refine mv h17 rfl rfl fun a18 h18 => ?_
    apply sl_or h18 S7 19 rfl 5 24
    case hf =>
     intro gc19
     refine sl_val h18 (wanted_yes h18 _ rfl rfl rfl gc19) (ex_field (off := 7) (j := 7) (by kernel_rfl) (h18.ev rfl) rfl) rfl rfl fun a19 h19 => ?_
     refine sl_val h19 (wanted_yes h19 _ rfl rfl rfl gc19) (ex_load (by kernel_rfl) (h19.ev rfl) (S7.cell (i := 2) rfl rfl)) rfl rfl fun a20 h20 => ?_
     refine sl_val h20 (wanted_yes h20 _ rfl rfl rfl gc19) (ex_len Tryz.underlying24 (h20.ev rfl)) rfl rfl fun a21 h21 => ?_
     refine sl_val h21 (wanted_yes h21 _ rfl rfl rfl gc19) (ex_geq (h21.ev rfl) (h21.ev rfl)) rfl rfl fun a22 h22 => ?_
     refine sl_val h22 (wn rfl) (ex_pick_f (h22.ev rfl) gc19 (h22.ev rfl)) rfl rfl fun a23 h23 => ?_
     exact st_nil ⟨h23.mid (m := [(_, _), (_, _), (_, _), (_, _)]) rfl, S7⟩
    case ht =>
     intro gc19
     refine sl_no h18 (wanted_no h18 _ rfl rfl rfl gc19) rfl rfl fun a24 h24 => ?_
     refine sl_no h24 (wanted_no h24 _ rfl rfl rfl gc19) rfl rfl fun a25 h25 => ?_
     refine sl_no h25 (wanted_no h25 _ rfl rfl rfl gc19) rfl rfl fun a26 h26 => ?_
     refine sl_no h26 (wanted_no h26 _ rfl rfl rfl gc19) rfl rfl fun a27 h27 => ?_
     refine sl_val h27 (wn rfl) (ex_pick_t (h27.ev rfl) gc19 (h27.ev rfl)) rfl rfl fun a28 h28 => ?_
     exact st_nil ⟨h28.mid (m := [(_, _), (_, _), (_, _), (_, _)]) rfl, S7⟩
    case h =>
     rintro a29 X29 ⟨h29, S29⟩
     refine st_nil (go_then ?_)
     refine st_if (h29.ev rfl) (fun hc1 => ?_) (fun hc1 => ?_)
     · skip
       have hf : appE r s = 8 := by
         unfold appE; rw [if_neg hs0]
         by_cases h : 3000 < s.size
         · rw [if_pos h]
         · rw [if_neg h, if_pos]
           have hd : decide ((s.size : Int) > 3000) = false := by rw [decide_eq_false_iff_not]; omega
           rw [hd, Bool.false_or, decide_eq_true_eq] at hc1
           omega
       have e3 : appR r s = rng0 := by unfold appR; rw [if_neg (by rw [hf]; decide)]
       refine st_seq (st_reg ?_)
       refine sl_val h29 (wn rfl) (ex_loads (by kernel_rfl) (by kernel_rfl) (h29.ev rfl) (S29.cellsAll (i := 0) rfl)) rfl rfl fun a30 h30 => ?_
       refine sl_store0 h30 (wn rfl) ⟨rfl, rfl⟩ (h30.ev rfl) (h30.ev rfl) rfl (by kernel_rfl) S29 (i := 1) rfl rfl rfl fun X31 S31 => ?_
       refine ma h30 rfl rfl fun a32 h32 => ?_
       refine ma h32 rfl rfl fun a33 h33 => ?_
       refine st_nil (go_then (wp_ret (ret_then ?_)))
       refine finctt h33 rfl rfl rfl rfl S31 (i := 1) rfl (by kernel_rfl) (by kernel_rfl) ?_
       exact ⟨none, 0, by rw [hf, e3]; rfl, by rw [e3]; exact World.ownsRow_nil _ _ _ _, S31.below⟩
     · skip
       have hz : s.size ≤ 3000 ∧ r.rs.length < 100 := by
         rw [Bool.or_eq_false_iff, decide_eq_false_iff_not, decide_eq_false_iff_not] at hc1
         omega
       have hsz := szR_in hz.1
       have hbf : Bfr ⟨r.nx + 1, r.r.s, s⟩ := ⟨by show 1 ≤ r.nx + 1; omega, by show r.nx + 1 ≤ 500000000; omega, hz.1⟩
       have e1 : r.rs.length + 1 = (r.rs ++ [(⟨r.nx + 1, r.r.s, s⟩ : RecP)]).length := by simp
       refine wp_skip (go_then (st_seq (st_reg ?_)))
       refine sl_val (v := ringV r A c) h29 (wn rfl) (ex_loads (by kernel_rfl) (by kernel_rfl) (h29.ev rfl) (S29.cellsAll (i := 2) rfl)) rfl rfl fun a34 h34 => ?_
       refine sl_ownt h34 (wn rfl) (ex_call (fun _ _ => by kernel_rfl) (h34.evs rfl) rfl) rfl rfl S29 (rCopy_any r A c _ (S29.rd0 hr) hlen) (Nat.le_refl _) fun A27 c27 a35 X35 h35 S35 => ?_
       refine sl_new h35 (wn rfl) (f := fun b => .pointer (some ⟨b, 0, none⟩)) (ex_alloc (z := .agg #[.int .i64 0, .int .i64 0, .int .i64 0, .int .i64 0, .int .i64 0, .int .i64 0, .int .i64 0, .slice none 0 0, .int .i64 0]) (by kernel_rfl)) rfl rfl S35 fun b8 a36 X36 gb8 h36 S36 => ?_
       refine sl_store0 h36 (wn rfl) ⟨rfl, rfl⟩ (h36.ev rfl) (h36.ev rfl) rfl (by kernel_rfl) S36 (i := 0) rfl rfl rfl fun X37 S37 => ?_
       refine st_nil (go_then (st_seq (st_reg ?_)))
       refine sl_val h36 (wn rfl) (ex_field (off := 7) (j := 7) (by kernel_rfl) (h36.ev rfl) rfl) rfl rfl fun a38 h38 => ?_
       refine sl_val h38 (wn rfl) (ex_load (by kernel_rfl) (h38.ev rfl) (S37.cell (i := 0) rfl rfl)) rfl rfl fun a39 h39 => ?_
       refine sl_val h39 (wn rfl) (ex_field (off := 8) (j := 8) (by kernel_rfl) (h39.ev rfl) rfl) rfl rfl fun a40 h40 => ?_
       refine sl_val h40 (wn rfl) (ex_load (by kernel_rfl) (h40.ev rfl) (S37.cell (i := 4) rfl rfl)) rfl rfl fun a41 h41 => ?_
       refine sl_val h41 (wn rfl) (ex_add (h41.ev rfl) (h41.ev rfl) (by omega)) rfl rfl fun a42 h42 => ?_
       refine sl_val h42 (wn rfl) (ex_field (off := 1) (j := 1) (by kernel_rfl) (h42.ev rfl) rfl) rfl rfl fun a43 h43 => ?_
       refine sl_val h43 (wn rfl) (ex_field (off := 0) (j := 1) (by kernel_rfl) (h43.ev rfl) rfl) rfl rfl fun a44 h44 => ?_
       refine sl_val h44 (wn rfl) (ex_load (by kernel_rfl) (h44.ev rfl) (S37.cell (i := 4) rfl rfl)) rfl rfl fun a45 h45 => ?_
       refine mv h45 rfl rfl fun a46 h46 => ?_
       refine sl_val (v := recV ⟨r.nx + 1, r.r.s, s⟩) h46 (wn rfl) (ex_build (zs := [.int .i64 0, .int .i64 0, .string ⟨#[]⟩]) (pl := [(0, 1), (1, 1), (2, 1)]) (by kernel_rfl) (by kernel_rfl) (h46.evs2 rfl) rfl rfl) rfl rfl fun a47 h47 => ?_
       refine sl_bslice (cs := recC ⟨r.nx + 1, r.r.s, s⟩) (zc := [.int .i64 0, .int .i64 0, .string ⟨#[]⟩]) (sz := 3) h47 (wn rfl) ⟨rfl, rfl⟩ rfl Tryz.underlying24 (by kernel_rfl) (by kernel_rfl) rfl rfl rfl (h47.evs2 rfl) rfl rfl rfl S37 fun b38 a48 X48 gb38 h48 S48 => ?_
       refine sl_append (z := .agg #[.int .i64 0, .int .i64 0, .string ⟨#[]⟩]) (sz := 3) (bytes := 32) h48 (wn rfl) ⟨rfl, rfl⟩ rfl Tryz.underlying24 (by kernel_rfl) rfl rfl (h48.ev rfl) (h48.ev rfl) S48 (i := 2) rfl (S48.boxRd (i := 0) rfl) rfl (List.all_eq_true.1 rfl) ⟨(by omega), by decide⟩ fun A39 c39 a49 X49 h49 S49 => ?_
       refine sl_val h49 (wn rfl) (ex_field (off := 7) (j := 7) (by kernel_rfl) (h49.ev rfl) rfl) rfl rfl fun a50 h50 => ?_
       refine sl_store h50 (wn rfl) ⟨rfl, rfl⟩ (h50.ev rfl) (h50.ev rfl) rfl (by kernel_rfl) S49 (i := 1) rfl rfl rfl fun X51 S51 => ?_
       rw [e1] at h50 S51
       refine st_nil (go_then (st_seq (st_reg ?_)))
       refine sl_val h50 (wn rfl) (ex_field (off := 8) (j := 8) (by kernel_rfl) (h50.ev rfl) rfl) rfl rfl fun a52 h52 => ?_
       refine sl_val h52 (wn rfl) (ex_load (by kernel_rfl) (h52.ev rfl) (S51.cell (i := 5) rfl rfl)) rfl rfl fun a53 h53 => ?_
       refine mv h53 rfl rfl fun a54 h54 => ?_
       refine sl_val h54 (wn rfl) (ex_slen Tryz.underlying9 (h54.ev rfl)) rfl rfl fun a55 h55 => ?_
       refine sl_pure h55 (wn rfl) (ex_call (fun _ _ => by kernel_rfl) (h55.evs rfl) rfl) rfl rfl (rBehind_any _ _ (by omega) _) fun a56 h56 => ?_
       refine sl_val h56 (wn rfl) (ex_field (off := 8) (j := 8) (by kernel_rfl) (h56.ev rfl) rfl) rfl rfl fun a57 h57 => ?_
       refine sl_store h57 (wn rfl) ⟨rfl, rfl⟩ (h57.ev rfl) (h57.ev rfl) rfl (by kernel_rfl) S51 (i := 1) rfl rfl rfl fun X58 S58 => ?_
       refine st_nil (go_then (st_seq (st_seq (st_reg ?_))))
       refine sl_val (v := ringV (appV r s) A39 c39) h57 (wn rfl) (ex_loads (by kernel_rfl) (by kernel_rfl) (h57.ev rfl) (S58.cellsAll (i := 1) rfl)) rfl rfl fun a59 h59 => ?_
       refine sl_bel h59 (wn rfl) (ex_call (fun _ _ => by kernel_rfl) (h59.evs rfl) rfl) rfl rfl S58 (rRooms_any (appV r s) A39 c39 _ (by have q := S58.rdOf (i := 2) rfl; exact (by unfold appV; rw [recsV_append]; exact q)) (fun y hy => by (have : y = ⟨r.nx + 1, r.r.s, s⟩ := by unfold appV at hy; simpa using hy.symm); rw [this]; exact hbf) (.inr ho) (by unfold appV; simp; omega)) fun a60 X60 h60 S60 => ?_
       refine mv h60 rfl rfl fun a61 h61 => ?_
       refine sl_val h61 (wn rfl) (ex_extract (h61.ev rfl) rfl) rfl rfl fun a62 h62 => ?_
       refine sl_val h62 (wn rfl) (ex_extract (h62.ev rfl) rfl) rfl rfl fun a63 h63 => ?_
       refine ma h63 rfl rfl fun a64 h64 => ?_
       refine ma h64 rfl rfl fun a65 h65 => ?_
       refine st_nil (go_then (st_seq (st_reg ?_)))
       refine mv h65 rfl rfl fun a66 h66 => ?_
       refine sl_val h66 (wn rfl) (ex_field (off := 0) (j := 0) (by kernel_rfl) (h66.ev rfl) rfl) rfl rfl fun a67 h67 => ?_
       refine sl_val h67 (wn rfl) (ex_load (by kernel_rfl) (h67.ev rfl) (S60.cell (i := 5) rfl rfl)) rfl rfl fun a68 h68 => ?_
       refine sl_val h68 (wn rfl) (ex_sub (h68.ev rfl) (h68.ev rfl) (by omega)) rfl rfl fun a69 h69 => ?_
       refine sl_val h69 (wn rfl) (ex_gtr (h69.ev rfl) (h69.ev rfl)) rfl rfl fun a70 h70 => ?_
       refine mv h70 rfl rfl fun a71 h71 => ?_
       apply sl_or h71 S60 57 rfl 4 61
       case hf =>
        intro gc57
        refine sl_val h71 (wanted_yes h71 _ rfl rfl rfl gc57) (ex_field (off := 8) (j := 8) (by kernel_rfl) (h71.ev rfl) rfl) rfl rfl fun a72 h72 => ?_
        refine sl_val h72 (wanted_yes h72 _ rfl rfl rfl gc57) (ex_load (by kernel_rfl) (h72.ev rfl) (S60.cell (i := 1) rfl rfl)) rfl rfl fun a73 h73 => ?_
        refine sl_val h73 (wanted_yes h73 _ rfl rfl rfl gc57) (ex_gtr (h73.ev rfl) (h73.ev rfl)) rfl rfl fun a74 h74 => ?_
        refine sl_val h74 (wn rfl) (ex_pick_f (h74.ev rfl) gc57 (h74.ev rfl)) rfl rfl fun a75 h75 => ?_
        exact st_nil ⟨h75.mid (m := [(_, _), (_, _), (_, _)]) rfl, S60⟩
       case ht =>
        intro gc57
        refine sl_no h71 (wanted_no h71 _ rfl rfl rfl gc57) rfl rfl fun a76 h76 => ?_
        refine sl_no h76 (wanted_no h76 _ rfl rfl rfl gc57) rfl rfl fun a77 h77 => ?_
        refine sl_no h77 (wanted_no h77 _ rfl rfl rfl gc57) rfl rfl fun a78 h78 => ?_
        refine sl_val h78 (wn rfl) (ex_pick_t (h78.ev rfl) gc57 (h78.ev rfl)) rfl rfl fun a79 h79 => ?_
        exact st_nil ⟨h79.mid (m := [(_, _), (_, _), (_, _)]) rfl, S60⟩
       case h =>
        rintro a80 X80 ⟨h80, S80⟩
        refine st_nil (go_then ?_)
        refine st_if (h80.ev rfl) (fun hc2 => ?_) (fun hc2 => ?_)
        · skip
          have hf : appE r s = 16 := by
            unfold appE
            rw [if_neg hs0, if_neg (by omega), if_neg (by omega)]
            exact if_pos (show r.pg - 2 < (roomsP (appV r s)).2 ∨ 100000000 < r.nx + szR s.size by simpa [Bool.or_eq_true] using hc2)
          have e3 : appR r s = rng0 := by unfold appR; rw [if_neg (by rw [hf]; decide)]
          refine st_seq (st_reg ?_)
          refine sl_val h80 (wn rfl) (ex_loads (by kernel_rfl) (by kernel_rfl) (h80.ev rfl) (S80.cellsAll (i := 3) rfl)) rfl rfl fun a81 h81 => ?_
          refine sl_store0 h81 (wn rfl) ⟨rfl, rfl⟩ (h81.ev rfl) (h81.ev rfl) rfl (by kernel_rfl) S80 (i := 4) rfl rfl rfl fun X82 S82 => ?_
          refine ma h81 rfl rfl fun a83 h83 => ?_
          refine ma h83 rfl rfl fun a84 h84 => ?_
          refine st_nil (go_then (wp_ret (ret_then ?_)))
          refine finctt h84 rfl rfl rfl rfl S82 (i := 4) rfl (by kernel_rfl) (by kernel_rfl) ?_
          exact ⟨none, 0, by rw [hf, e3]; rfl, by rw [e3]; exact World.ownsRow_nil _ _ _ _, S82.below⟩
        · skip
          have hf : appE r s = 0 := by
            unfold appE
            rw [if_neg hs0, if_neg (by omega), if_neg (by omega)]
            exact if_neg (show ¬ (r.pg - 2 < (roomsP (appV r s)).2 ∨ 100000000 < r.nx + szR s.size) by simpa [Bool.or_eq_false_iff, not_or] using hc2)
          have e3 : appR r s = appV r s := by unfold appR; rw [if_pos hf]
          refine wp_skip (go_then (st_seq ?_))
          apply dr_flowA (m := 4) h80 (St.domAt S80 (i := 4) rfl) 0 [false, false, false, false, true] _ (by kernel_rfl)
          case h =>
           refine sq_val (v := ringV (appV r s) A39 c39) h80 (wn rfl) rfl rfl (fun X hX => (ex_loads (by kernel_rfl) (by kernel_rfl) (h80.ev rfl) ((S80.growO (i := 4) rfl hX).cellsAll (i := 1) rfl))) fun a85 h85 => ?_
           refine sq_val h85 (wn rfl) rfl rfl (fun X hX => (ex_field (off := 8) (j := 8) (by kernel_rfl) (h85.ev rfl) rfl)) fun a86 h86 => ?_
           refine sq_val h86 (wn rfl) rfl rfl (fun X hX => (ex_load (by kernel_rfl) (h86.ev rfl) ((S80.growO (i := 4) rfl hX).cell (i := 5) rfl rfl))) fun a87 h87 => ?_
           refine sq_val h87 (wn rfl) rfl rfl (fun X hX => (ex_add (h87.ev rfl) (h87.ev rfl) (by omega))) fun a88 h88 => ?_
           refine sq_nil ?_
           apply na_store (k := 4) (deps := []) (R := IsBox _ _ _) h88 rfl rfl IsBox.stable (fun X hX hΦ => lv_store0 rfl (h88.ev rfl) (h88.ev rfl) rfl (by kernel_rfl) ((S80.grow hX).at_ (i := 4) rfl) rfl rfl)
           intro vs4
           refine na_end fun X89 hX89 hΦ89 => ?_
           have S89 := S80.growBox (i := 4) (v := vs4) rfl hX89 (told_all hΦ89 (k := 4) rfl)
           refine ma h88 rfl rfl fun a90 h90 => ?_
           refine ma h90 rfl rfl fun a91 h91 => ?_
           refine st_nil (go_then (wp_ret ?_))
           refine finctt h91 rfl rfl rfl rfl S89 (i := 4) rfl (by kernel_rfl) (by kernel_rfl) ?_
           refine ⟨A39, c39, by rw [hf, e3]; rfl, ?_, S89.below⟩
           rw [e3]
           have q := S89.ownB (i := 2) rfl
           have e4 : recsV (appV r s).rs = recsV r.rs ++ recsV [(⟨r.nx + 1, r.r.s, s⟩ : RecP)] := recsV_append _ _
           rw [e4]; exact q
          case hB => kernel_rfl
          case hst => rfl
theorem firstE_c (a : Int) (l : List Int) : firstE (a :: l) = if a = 0 then firstE l else a := by
  by_cases h : a = 0
  · rw [if_pos h, h]; rfl
  · rw [if_neg h]; simp [firstE, h]
end Go.Proofs.YtmlilplbdpjfcaaGreatDoor
