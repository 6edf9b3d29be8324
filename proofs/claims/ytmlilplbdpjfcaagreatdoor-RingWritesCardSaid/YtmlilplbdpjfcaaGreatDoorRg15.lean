/-
  Chapter 20: the reader's records.
-/
import Derived.Test.YtmlilplbdpjfcaaGreatDoorRg14
namespace Go.Proofs.YtmlilplbdpjfcaaGreatDoor
set_option linter.unusedVariables false
set_option linter.unusedSimpArgs false
set_option maxRecDepth 4000
open Go.RowKit Go.Sort
def rcO (x : RdrP) (at' aft : Int) : Option RecP := rcIn x.s x.pg x.top at' aft
theorem rc_some {x : RdrP} {a : Nat} {aft sq : Int} {b : List UInt8} (h8 : (a : Int) % 8 = 0) (hp : pgIn x.s x.pg x.top (a / 448) = some (sq, b)) (hq : ¬ sq < aft) : rcO x a aft = match byO x sq 12 a with
    | none => none
    | some hd =>
     if inB (nAt hd 0 2) 1 3000 = false then none else
     match byO x sq (szR (nAt hd 0 2)).toNat a with
     | none => none
     | some wh => if encR ⟨(a : Int) + 1, sq, bs ((wh.drop 12).take (nAt hd 0 2).toNat)⟩ = wh then some ⟨(a : Int) + 1, sq, bs ((wh.drop 12).take (nAt hd 0 2).toNat)⟩ else none := by
  unfold rcO rcIn
  rw [if_neg (by omega)]
  simp only [Int.toNat_natCast, hp]
  rw [if_neg hq, by_fuel 3500 12 12 a (by omega) (by omega)]
  unfold byO
  cases byIn x.s x.pg x.top sq 12 12 a with
  | none => rfl
  | some hd =>
   simp only
   split
   · rfl
   · rename_i h1
     have h2 : 1 ≤ nAt hd 0 2 ∧ nAt hd 0 2 ≤ 3000 := by
       have : inB (nAt hd 0 2) 1 3000 = true := by simpa using h1
       exact inB_true.1 this
     have h3 : (szR (nAt hd 0 2)).toNat ≤ 3500 := by unfold szR; omega
     rw [by_fuel 3500 _ _ a h3 (Nat.le_refl _)]
     rfl
theorem rdrecord_any (x : RdrP) (hx : RdrB x) (R m G n c : Nat) (ks : List (Nat × Option Nat)) (at' aft : Int) (ha : -9000000000 < at' ∧ at' < 900000000) (w : World) (hok : RdrOk x R m G n c ks w) (hM : ∀ b, rdrD R m G ks b → b < w.heap.size) :
    Calls Tryz.prog 70 #[.pointer (some ⟨R, 0, none⟩), .int .i64 at', .int .i64 aft] w fun r w' => ∃ p : RecP × List (Nat × Option Nat), r = .returned (.tuple #[recV p.1, .bool (rcO x at' aft).isSome]) ∧ ((∀ y, rcO x at' aft = some y → p.1 = y) ∧ ∀ y ∈ ks, y ∈ p.2) ∧ St (rdrM R m G ks) w w' [rdrE x R m G n c ks w p.2] := by
  refine st_enter (N := 90) Tryz.func70 rfl rfl rfl (fun a0 h0 => ?_)
  have S0 := (St.initInv ⟨hok, RdrRel.refl⟩ (fun b hb => ⟨mem_rdrM.2 hb, hM b hb⟩) : St (rdrM R m G ks) w w [rdrE x R m G n c ks w ks])
  refine st_seq (st_reg ?_)
  refine sl_new h0 (wn rfl) (f := fun b => .pointer (some ⟨b, 0, none⟩)) (ex_alloc (z := .agg #[.int .i64 0, .int .i64 0, .string ⟨#[]⟩]) (by kernel_rfl)) rfl rfl S0 fun b6 a1 X1 gb6 h1 S1 => ?_
  refine ma h1 rfl rfl fun a2 h2 => ?_
  refine st_nil (go_then (st_seq (st_reg ?_)))
  refine sl_new h2 (wn rfl) (f := fun b => .pointer (some ⟨b, 0, none⟩)) (ex_alloc (z := .agg #[.int .i64 0, .int .i64 0, .string ⟨#[]⟩]) (by kernel_rfl)) rfl rfl S1 fun b8 a3 X3 gb8 h3 S3 => ?_
  refine st_nil (go_then (st_seq (st_seq (st_reg ?_))))
  refine mv h3 rfl rfl fun a4 h4 => ?_
  refine sl_val h4 (wn rfl) (ex_lss (h4.ev rfl) (h4.ev rfl)) rfl rfl fun a5 h5 => ?_
  refine mv h5 rfl rfl fun a6 h6 => ?_
  apply sl_or h6 S3 17 rfl 4 21
  case hf =>
   intro gc17
   refine sl_val h6 (wanted_yes h6 _ rfl rfl rfl gc17) (ex_move (h6.ev rfl)) rfl rfl fun a7 h7 => ?_
   refine sl_val h7 (wanted_yes h7 _ rfl rfl rfl gc17) (ex_rem (h7.ev rfl) (h7.ev rfl) ⟨by have := of_decide_eq_false gc17; omega, by omega⟩) rfl rfl fun a8 h8 => ?_
   refine sl_val h8 (wanted_yes h8 _ rfl rfl rfl gc17) (ex_neq (h8.ev rfl) (h8.ev rfl)) rfl rfl fun a9 h9 => ?_
   refine sl_val h9 (wn rfl) (ex_pick_f (h9.ev rfl) gc17 (h9.ev rfl)) rfl rfl fun a10 h10 => ?_
   exact st_nil ⟨h10.mid (m := [(_, _), (_, _), (_, _)]) rfl, S3⟩
  case ht =>
   intro gc17
   refine sl_no h6 (wanted_no h6 _ rfl rfl rfl gc17) rfl rfl fun a11 h11 => ?_
   refine sl_no h11 (wanted_no h11 _ rfl rfl rfl gc17) rfl rfl fun a12 h12 => ?_
   refine sl_no h12 (wanted_no h12 _ rfl rfl rfl gc17) rfl rfl fun a13 h13 => ?_
   refine sl_val h13 (wn rfl) (ex_pick_t (h13.ev rfl) gc17 (h13.ev rfl)) rfl rfl fun a14 h14 => ?_
   exact st_nil ⟨h14.mid (m := [(_, _), (_, _), (_, _)]) rfl, S3⟩
  case h =>
   rintro a15 X15 ⟨h15, S15⟩
   refine st_nil (go_then ?_)
   refine st_if (h15.ev rfl) (fun hc0 => ?_) (fun hc0 => ?_)
   · skip
     have hno : rcO x at' aft = none := by
       unfold rcO rcIn
       rw [if_pos]
       rw [Bool.or_eq_true, decide_eq_true_eq, bne_iff_ne] at hc0
       exact hc0
     refine st_seq (st_reg ?_)
     refine sl_val h15 (wn rfl) (ex_loads (by kernel_rfl) (by kernel_rfl) (h15.ev rfl) (S15.cellsAll (i := 0) rfl)) rfl rfl fun a16 h16 => ?_
     refine sl_store0 h16 (wn rfl) ⟨rfl, rfl⟩ (h16.ev rfl) (h16.ev rfl) rfl (by kernel_rfl) S15 (i := 1) rfl rfl rfl fun X17 S17 => ?_
     refine ma h16 rfl rfl fun a18 h18 => ?_
     refine st_nil (go_then (wp_ret (ret_then ?_)))
     refine finct h18 rfl rfl rfl S17 (i := 1) rfl (by kernel_rfl) (by kernel_rfl) ?_
     exact ⟨(rec0, ks), (by rw [hno]; rfl), ⟨fun y hy => (by rw [hno] at hy; cases hy), fun y hy => hy⟩, (S17.sub (.cons _ (.cons _ (.cons_cons _ .slnil))))⟩
   · skip
     rw [Bool.or_eq_false_iff, decide_eq_false_iff_not, bne_eq_false_iff_eq] at hc0
     obtain ⟨h00, h08⟩ := hc0
     obtain ⟨a, rfl⟩ := Int.eq_ofNat_of_zero_le (by omega : 0 ≤ at')
     obtain ⟨Y, hY⟩ : ∃ Y, pgY x (a / 448) = Y := ⟨_, rfl⟩
     refine wp_skip (go_then (st_seq (st_reg ?_)))
     refine mv h15 rfl rfl fun a19 h19 => ?_
     refine mv h19 rfl rfl fun a20 h20 => ?_
     refine sl_val h20 (wn rfl) (as_val (v' := .int .i64 ((a / 448 : Nat) : Int)) (congrArg _ (by omega)) (ex_quo (h20.ev rfl) (h20.ev rfl) (by omega))) rfl rfl fun a21 h21 => ?_
     refine sl_updx h21 (wn rfl) (ex_call (fun _ _ => by kernel_rfl) (h21.evs rfl) rfl) rfl rfl S15 (i := 2) rfl (fun b hb => mem_rdrM.1 hb) (rdpage_any x hx R m G n c ks (a / 448) (by omega) _ (S15.at_ (i := 2) rfl).1 (fun b hb => (S15.new _ (List.mem_of_getElem? (i := 2) rfl) b hb).2)) fun p26 a22 X22 h22 hF26 S22 => ?_
     replace S22 := St.rdrTrans (i := 2) (j := 2) S15 rfl S22 rfl
     refine ma h22 rfl rfl fun a23 h23 => ?_
     refine st_nil (go_then (st_seq (st_seq (st_reg ?_))))
     refine mv h23 rfl rfl fun a24 h24 => ?_
     refine sl_val h24 (wn rfl) (ex_pnil Tryz.underlying146 (by kernel_rfl) (by kernel_rfl) (h24.ev rfl) (h24.ev rfl)) rfl rfl fun a25 h25 => ?_
     refine mv h25 rfl rfl fun a26 h26 => ?_
     apply sl_or h26 S22 29 rfl 7 36
     case hf =>
      intro gc29
      refine sl_val h26 (wanted_yes h26 _ rfl rfl rfl gc29) (ex_move (h26.ev rfl)) rfl rfl fun a27 h27 => ?_
      refine sl_val h27 (wanted_yes h27 _ rfl rfl rfl gc29) (ex_nilck ((h27.ev rfl).trans (ptrV_some gc29))) rfl rfl fun a28 h28 => ?_
      refine sl_val h28 (wanted_yes h28 _ rfl rfl rfl gc29) (ex_field (off := 1) (by kernel_rfl) (h28.ev rfl) rfl) rfl rfl fun a29 h29 => ?_
      refine sl_val h29 (wanted_yes h29 _ rfl rfl rfl gc29) (ex_load (by kernel_rfl) (h29.ev rfl) (box_cell (RdrOk.box_of (S22.at_ (i := 2) rfl).1 hF26.1 gc29) rfl)) rfl rfl fun a30 h30 => ?_
      refine sl_val h30 (wanted_yes h30 _ rfl rfl rfl gc29) (ex_move (h30.ev rfl)) rfl rfl fun a31 h31 => ?_
      refine sl_val h31 (wanted_yes h31 _ rfl rfl rfl gc29) (ex_lss (h31.ev rfl) (h31.ev rfl)) rfl rfl fun a32 h32 => ?_
      refine sl_val h32 (wn rfl) (ex_pick_f (h32.ev rfl) gc29 (h32.ev rfl)) rfl rfl fun a33 h33 => ?_
      exact st_nil ⟨h33.mid (m := [(_, _), (_, _), (_, _), (_, _), (_, _), (_, _)]) rfl, S22⟩
     case ht =>
      intro gc29
      refine sl_no h26 (wanted_no h26 _ rfl rfl rfl gc29) rfl rfl fun a34 h34 => ?_
      refine sl_no h34 (wanted_no h34 _ rfl rfl rfl gc29) rfl rfl fun a35 h35 => ?_
      refine sl_no h35 (wanted_no h35 _ rfl rfl rfl gc29) rfl rfl fun a36 h36 => ?_
      refine sl_no h36 (wanted_no h36 _ rfl rfl rfl gc29) rfl rfl fun a37 h37 => ?_
      refine sl_no h37 (wanted_no h37 _ rfl rfl rfl gc29) rfl rfl fun a38 h38 => ?_
      refine sl_no h38 (wanted_no h38 _ rfl rfl rfl gc29) rfl rfl fun a39 h39 => ?_
      refine sl_val h39 (wn rfl) (ex_pick_t (h39.ev rfl) gc29 (h39.ev rfl)) rfl rfl fun a40 h40 => ?_
      exact st_nil ⟨h40.mid (m := [(_, _), (_, _), (_, _), (_, _), (_, _), (_, _)]) rfl, S22⟩
     case h =>
      rintro a41 X41 ⟨h41, S41⟩
      refine st_nil (go_then ?_)
      refine st_if (h41.ev rfl) (fun hc1 => ?_) (fun hc1 => ?_)
      · skip
        have hno : rcO x a aft = none := by
          unfold rcO rcIn
          rw [if_neg (by omega)]
          simp only [Int.toNat_natCast]
          cases hn : p26.1.isNone with
          | true => rw [RdrOk.none_of (S41.at_ (i := 2) rfl).1 hF26.1 hn]
          | false =>
           rw [RdrOk.some_of (S41.at_ (i := 2) rfl).1 hF26.1 hn]
           rw [hn, Bool.false_or, decide_eq_true_eq] at hc1
           simp only
           rw [if_pos hc1]
        refine st_seq (st_reg ?_)
        refine sl_val h41 (wn rfl) (ex_loads (by kernel_rfl) (by kernel_rfl) (h41.ev rfl) (S41.cellsAll (i := 0) rfl)) rfl rfl fun a42 h42 => ?_
        refine sl_store0 h42 (wn rfl) ⟨rfl, rfl⟩ (h42.ev rfl) (h42.ev rfl) rfl (by kernel_rfl) S41 (i := 1) rfl rfl rfl fun X43 S43 => ?_
        refine ma h42 rfl rfl fun a44 h44 => ?_
        refine st_nil (go_then (wp_ret (ret_then ?_)))
        refine finct h44 rfl rfl rfl S43 (i := 1) rfl (by kernel_rfl) (by kernel_rfl) ?_
        exact ⟨(rec0, p26.2), (by rw [hno]; rfl), ⟨fun y hy => (by rw [hno] at hy; cases hy), fun y hy => hF26.2 y hy⟩, (S43.sub (.cons _ (.cons _ (.cons_cons _ .slnil))))⟩
      · skip
        rw [Bool.or_eq_false_iff, decide_eq_false_iff_not] at hc1
        obtain ⟨hn, hsq⟩ := hc1
        have hpi := RdrOk.some_of (S41.at_ (i := 2) rfl).1 hF26.1 hn
        rw [hY] at hpi hsq
        have hrc := rc_some (aft := aft) (x := x) (sq := Y.1) (b := Y.2) h08 hpi hsq
        have hbd := pgIn_bd hpi
        refine wp_skip (go_then (st_seq (st_reg ?_)))
        refine mv h41 rfl rfl fun a45 h45 => ?_
        refine mv h45 rfl rfl fun a46 h46 => ?_
        refine mv h46 rfl rfl fun a47 h47 => ?_
        refine sl_val h47 (wn rfl) (ex_nilck ((h47.ev rfl).trans (ptrV_some hn))) rfl rfl fun a48 h48 => ?_
        refine sl_val h48 (wn rfl) (ex_field (off := 1) (by kernel_rfl) (h48.ev rfl) rfl) rfl rfl fun a49 h49 => ?_
        refine sl_val h49 (wn rfl) (ex_load (by kernel_rfl) (h49.ev rfl) (by have q := RdrOk.box_of (S41.at_ (i := 2) rfl).1 hF26.1 hn; rw [hY] at q; exact box_cell q rfl)) rfl rfl fun a50 h50 => ?_
        refine sl_updx h50 (wn rfl) (ex_call (fun _ _ => by kernel_rfl) (h50.evs rfl) rfl) rfl rfl S41 (i := 2) rfl (fun b hb => mem_rdrM.1 hb) (rdbytes_any x hx R m G n c p26.2 a 12 Y.1 (by omega) (by omega) _ (S41.at_ (i := 2) rfl).1 (fun b hb => (S41.new _ (List.mem_of_getElem? (i := 2) rfl) b hb).2)) fun p45 a51 X51 h51 hF45 S51 => ?_
        replace S51 := St.rdrTrans (i := 2) (j := 2) S41 rfl S51 rfl
        refine mv h51 rfl rfl fun a52 h52 => ?_
        refine sl_val h52 (wn rfl) (ex_extract (h52.ev rfl) rfl) rfl rfl fun a53 h53 => ?_
        refine sl_val h53 (wn rfl) (ex_extract (h53.ev rfl) rfl) rfl rfl fun a54 h54 => ?_
        refine ma h54 rfl rfl fun a55 h55 => ?_
        refine ma h55 rfl rfl fun a56 h56 => ?_
        refine st_nil (go_then (st_seq (st_seq (st_reg ?_))))
        refine mv h56 rfl rfl fun a57 h57 => ?_
        refine sl_val h57 (wn rfl) (ex_not (h57.ev rfl)) rfl rfl fun a58 h58 => ?_
        refine st_nil (go_then ?_)
        refine st_if (h58.ev rfl) (fun hc2 => ?_) (fun hc2 => ?_)
        · skip
          have hno : rcO x a aft = none := by
            rw [hrc]
            cases hb : byO x Y.1 12 a with
            | none => rfl
            | some hd => rw [hb] at hc2; simp at hc2
          refine st_seq (st_reg ?_)
          refine sl_val h58 (wn rfl) (ex_loads (by kernel_rfl) (by kernel_rfl) (h58.ev rfl) (S51.cellsAll (i := 0) rfl)) rfl rfl fun a59 h59 => ?_
          refine sl_store0 h59 (wn rfl) ⟨rfl, rfl⟩ (h59.ev rfl) (h59.ev rfl) rfl (by kernel_rfl) S51 (i := 1) rfl rfl rfl fun X60 S60 => ?_
          refine ma h59 rfl rfl fun a61 h61 => ?_
          refine st_nil (go_then (wp_ret (ret_then ?_)))
          refine finct h61 rfl rfl rfl S60 (i := 1) rfl (by kernel_rfl) (by kernel_rfl) ?_
          exact ⟨(rec0, p45), (by rw [hno]; rfl), ⟨fun y hy => (by rw [hno] at hy; cases hy), fun y hy => hF45 y (hF26.2 y hy)⟩, (S60.sub (.cons _ (.cons _ (.cons_cons _ .slnil))))⟩
        · skip
          obtain ⟨hd, hhd⟩ : ∃ hd, byO x Y.1 12 a = some hd := Option.isSome_iff_exists.1 (by simpa using hc2)
          have hdl : hd.length = 12 := by_length _ _ _ _ hhd
          rw [hhd] at hrc
          simp only at hrc
          rw [hhd] at h58
          have hbs := bs_size hd
          obtain ⟨nn, hnn⟩ : ∃ y, nAt hd 0 2 = y := ⟨_, rfl⟩
          have hnb := nAt_bd hd 0 2
          have e02 : g16 hd 0 = nAt hd 0 2 := g16_nAt (by omega)
          rw [hnn] at hrc hnb e02
          have hm45 := hF45 _ hF26.1
          refine wp_skip (go_then (st_seq (st_reg ?_)))
          refine sl_val h58 (wn rfl) (as_val (v' := .string (bs hd)) rfl (ex_move (h58.ev rfl))) rfl rfl fun a62 h62 => ?_
          refine sl_bytes h62 (wn rfl) ⟨rfl, rfl⟩ rfl Tryz.underlying9 Tryz.underlying130 Tryz.underlying5 (h62.ev rfl) S51 fun b52 cb52 a63 X63 gb52 zb52 h63 S63 => ?_
          replace S63 := S63.byEq (i := 0) (l' := hd) rfl (bl_bs _)
          refine sl_bel h63 (wn rfl) (ex_call (fun _ _ => by kernel_rfl) (h63.evs rfl) rfl) rfl rfl S63 (get16_any b52 0 _ _ hd _ (S63.at_ (i := 0) rfl) (by omega) (by omega)) fun a64 X64 h64 S64 => ?_
          rw [e02] at h64
          refine sl_val h64 (wn rfl) (ex_convin (by kernel_rfl) Tryz.underlying3 (h64.ev rfl) (wrap_in (by omega))) rfl rfl fun a65 h65 => ?_
          refine ma h65 rfl rfl fun a66 h66 => ?_
          refine st_nil (go_then (st_seq (st_seq (st_reg ?_))))
          refine mv h66 rfl rfl fun a67 h67 => ?_
          refine sl_pure h67 (wn rfl) (ex_call (fun _ _ => by kernel_rfl) (h67.evs rfl) rfl) rfl rfl (logring_within_any _ _ _ _) fun a68 h68 => ?_
          refine sl_val h68 (wn rfl) (ex_not (h68.ev rfl)) rfl rfl fun a69 h69 => ?_
          refine st_nil (go_then ?_)
          refine st_if (h69.ev rfl) (fun hc3 => ?_) (fun hc3 => ?_)
          · skip
            have hno : rcO x a aft = none := by
              rw [hrc, if_pos (by simpa using hc3)]
            refine st_seq (st_reg ?_)
            refine sl_val h69 (wn rfl) (ex_loads (by kernel_rfl) (by kernel_rfl) (h69.ev rfl) (S64.cellsAll (i := 1) rfl)) rfl rfl fun a70 h70 => ?_
            refine sl_store0 h70 (wn rfl) ⟨rfl, rfl⟩ (h70.ev rfl) (h70.ev rfl) rfl (by kernel_rfl) S64 (i := 2) rfl rfl rfl fun X71 S71 => ?_
            refine ma h70 rfl rfl fun a72 h72 => ?_
            refine st_nil (go_then (wp_ret (ret_then ?_)))
            refine finct h72 rfl rfl rfl S71 (i := 2) rfl (by kernel_rfl) (by kernel_rfl) ?_
            exact ⟨(rec0, p45), (by rw [hno]; rfl), ⟨fun y hy => (by rw [hno] at hy; cases hy), fun y hy => hF45 y (hF26.2 y hy)⟩, (S71.sub (.cons _ (.cons _ (.cons _ (.cons_cons _ .slnil)))))⟩
          · skip
            have hin : inB nn 1 3000 = true := by simpa using hc3
            have hin2 := inB_true.1 hin
            rw [if_neg (by rw [hin]; decide)] at hrc
            have hsz : 12 + nn ≤ szR nn ∧ szR nn ≤ 3019 := by unfold szR; omega
            obtain ⟨zz, hzz⟩ : ∃ z : Nat, szR nn = z := ⟨(szR nn).toNat, by omega⟩
            rw [hzz, Int.toNat_natCast] at hrc
            rw [hzz] at hsz
            have hso : ∀ w, Calls Tryz.prog 83 #[.int .i64 nn] w fun e w' => e = .returned (.int .i64 (zz : Int)) ∧ w = w' := fun w => by rw [← hzz]; exact sizeOf_any nn w (by omega) (by omega)
            refine wp_skip (go_then (st_seq ?_))
            apply dr_flowA (m := 8) h69 (fun b => b = m) 0 [false, false, false, false, false, false, false, false, true, true, true, true, true] _ (by kernel_rfl)
            case h =>
             refine sq_val h69 (wn rfl) rfl rfl (fun X hX => (ex_move (h69.ev rfl))) fun a73 h73 => ?_
             refine sq_val h73 (wn rfl) rfl rfl (fun X hX => (ex_move (h73.ev rfl))) fun a74 h74 => ?_
             refine sq_val h74 (wn rfl) rfl rfl (fun X hX => (ex_move (h74.ev rfl))) fun a75 h75 => ?_
             refine sq_pure h75 (wn rfl) rfl rfl (fun X => (ex_call (fun _ _ => by kernel_rfl) (h75.evs rfl) rfl)) (fun X hX => hso _) fun a76 h76 => ?_
             refine sq_val h76 (wn rfl) rfl rfl (fun X hX => (ex_move (h76.ev rfl))) fun a77 h77 => ?_
             refine sq_val h77 (wn rfl) rfl rfl (fun X hX => (ex_nilck ((h77.ev rfl).trans (ptrV_some hn)))) fun a78 h78 => ?_
             refine sq_val h78 (wn rfl) rfl rfl (fun X hX => (ex_field (off := 1) (by kernel_rfl) (h78.ev rfl) rfl)) fun a79 h79 => ?_
             refine sq_val h79 (wn rfl) rfl rfl (fun X hX => (ex_load (by kernel_rfl) (h79.ev rfl) (by have q := RdrNo.box_of ((S64.growMap (i := 3) rfl hX).at_ (i := 3) rfl) hm45 hn; rw [hY] at q; exact box_cell q rfl))) fun a80 h80 => ?_
             refine sq_nil ?_
             apply na_app (k := 8) (deps := []) (R := RdrU _ _ _ _ _ _ _ _ _ _ _) h80 rfl rfl rfl RdrU.stable (fun X hX hΦ => lv_updR (ex_call (fun _ _ => by kernel_rfl) (h80.evs rfl) rfl) ((S64.grow hX).at_ (i := 3) rfl).1 (rdbytes_any x hx R m G n c p45 a zz Y.1 (by omega) (by omega) _ ((S64.grow hX).at_ (i := 3) rfl).1 (fun b hb => ((S64.grow hX).new _ (List.mem_of_getElem? (i := 3) rfl) b hb).2)) hX.size)
             intro v68 a81 h81
             apply na_step (k := 9) (deps := [8]) (R := PairU _ _) h81 rfl rfl rfl PairU.stable
             case hx => exact fun X hX hΦ => lv_told (RdrU.pair (told_get (k := 8) hΦ rfl rfl)) (ex_move (h81.ev rfl))
             case hst2 => exact PairU.kp
             intro v59 a82 h82
             apply na_step (k := 10) (deps := [9]) (R := ExtU0 _ _) h82 rfl rfl rfl ExtU0.stable
             case hx => exact fun X hX hΦ => lv_ext0 (fun p => ⟨_, _, rfl⟩) (told_get (k := 9) hΦ rfl rfl) (h82.ev rfl)
             case hst2 => exact ExtU0.kp
             intro v69 a83 h83
             apply na_step (k := 11) (deps := [9]) (R := ExtU1 _ _) h83 rfl rfl rfl ExtU1.stable
             case hx => exact fun X hX hΦ => lv_ext1 (fun p => ⟨_, _, rfl⟩) (told_get (k := 9) hΦ rfl rfl) (h83.ev rfl)
             case hst2 => exact ExtU1.kp
             intro v70 a84 h84
             apply na_step (k := 12) (deps := [10]) (R := ExtU0 _ _) h84 rfl rfl rfl ExtU0.stable
             case hx => exact fun X hX hΦ => lv_told (told_get (k := 10) hΦ rfl rfl) (ex_assign (h84.ev rfl))
             case hst2 => exact ExtU0.kp
             intro v13 a85 h85
             refine na_end fun X86 hX86 hΦ86 => ?_
             obtain ⟨p68, q86, hF68, S86⟩ := S64.growUpd (i := 3) rfl hX86 (told_all hΦ86 (k := 8) rfl)
             subst q86
             obtain ⟨p69, hG69, rfl⟩ := extU0 (told_all hΦ86 (k := 10) rfl)
             obtain ⟨p70, hG70, rfl⟩ := extU1 (told_all hΦ86 (k := 11) rfl)
             obtain ⟨p13, hG13, rfl⟩ := extU0 (told_all hΦ86 (k := 12) rfl)
             refine ma h85 rfl rfl fun a87 h87 => ?_
             refine st_nil (go_then (st_seq (st_seq (st_reg ?_))))
             refine mv h87 rfl rfl fun a88 h88 => ?_
             refine sl_val h88 (wn rfl) (ex_not (h88.ev rfl)) rfl rfl fun a89 h89 => ?_
             refine st_nil (go_then ?_)
             refine st_if (h89.ev rfl) (fun hc4 => ?_) (fun hc4 => ?_)
             · skip
               have hno : rcO x a aft = none := by
                 rw [hrc]
                 cases hb : byO x Y.1 zz a with
                 | none => rfl
                 | some hd => rw [hb] at hc4; simp at hc4
               refine st_seq (st_reg ?_)
               refine sl_val h89 (wn rfl) (ex_loads (by kernel_rfl) (by kernel_rfl) (h89.ev rfl) (S86.cellsAll (i := 1) rfl)) rfl rfl fun a90 h90 => ?_
               refine sl_store0 h90 (wn rfl) ⟨rfl, rfl⟩ (h90.ev rfl) (h90.ev rfl) rfl (by kernel_rfl) S86 (i := 2) rfl rfl rfl fun X91 S91 => ?_
               refine ma h90 rfl rfl fun a92 h92 => ?_
               refine st_nil (go_then (wp_ret (ret_then ?_)))
               refine finct h92 rfl rfl rfl S91 (i := 2) rfl (by kernel_rfl) (by kernel_rfl) ?_
               exact ⟨(rec0, p68), (by rw [hno]; rfl), ⟨fun y hy => (by rw [hno] at hy; cases hy), fun y hy => hF68 y (hF45 y (hF26.2 y hy))⟩, (S91.sub (.cons _ (.cons _ (.cons _ (.cons_cons _ .slnil)))))⟩
             · skip
               obtain ⟨wh, hwh⟩ : ∃ hd, byO x Y.1 zz a = some hd := Option.isSome_iff_exists.1 (by simpa using hc4)
               have hwl : wh.length = zz := by_length _ _ _ _ hwh
               rw [hwh] at hrc
               simp only at hrc
               rw [hwh] at h89
               have hwbs := bs_size wh
               obtain ⟨cb, hcb⟩ : ∃ y, (wh.drop 12).take nn.toNat = y := ⟨_, rfl⟩
               have hcl : (bs cb).size = nn.toNat := by rw [bs_size, ← hcb, List.length_take, List.length_drop]; omega
               rw [hcb] at hrc
               have hm68 := hF68 _ hm45
               refine wp_skip (go_then (st_seq ?_))
               apply dr_flow h89 [false, false, false, false, false, false, false, false, false, false, false, true] _ (by kernel_rfl)
               case h =>
                refine sq_val h89 (wn rfl) rfl rfl (fun X hX => (ex_move (h89.ev rfl))) fun a93 h93 => ?_
                refine sq_val h93 (wn rfl) rfl rfl (fun X hX => (ex_add (h93.ev rfl) (h93.ev rfl) (by omega))) fun a94 h94 => ?_
                refine sq_val h94 (wn rfl) rfl rfl (fun X hX => (ex_move (h94.ev rfl))) fun a95 h95 => ?_
                refine sq_val h95 (wn rfl) rfl rfl (fun X hX => (ex_nilck ((h95.ev rfl).trans (ptrV_some hn)))) fun a96 h96 => ?_
                refine sq_val h96 (wn rfl) rfl rfl (fun X hX => (ex_field (off := 1) (by kernel_rfl) (h96.ev rfl) rfl)) fun a97 h97 => ?_
                refine sq_val h97 (wn rfl) rfl rfl (fun X hX => (ex_load (by kernel_rfl) (h97.ev rfl) (by have q := RdrOk.box_of ((S86.grow hX).at_ (i := 3) rfl).1 hm68 hn; rw [hY] at q; exact box_cell q rfl))) fun a98 h98 => ?_
                refine sq_val h98 (wn rfl) rfl rfl (fun X hX => (as_val (v' := .string (bs wh)) rfl (ex_move (h98.ev rfl)))) fun a99 h99 => ?_
                refine sq_val h99 (wn rfl) rfl rfl (fun X hX => (ex_move (h99.ev rfl))) fun a100 h100 => ?_
                refine sq_val h100 (wn rfl) rfl rfl (fun X hX => (as_val (v' := .int .i64 ((12 + nn.toNat : Nat) : Int)) (congrArg _ (by omega)) (ex_add (h100.ev rfl) (h100.ev rfl) (by omega)))) fun a101 h101 => ?_
                refine sq_val h101 (wn rfl) rfl rfl (fun X hX => (as_val (v' := .string (bs cb)) (congrArg _ (by rw [bs_extract, Nat.add_sub_cancel_left, hcb])) (ex_sslice (l := 12) (h := (12 + nn.toNat)) Tryz.underlying9 (h101.ev rfl) (h101.ev rfl) (h101.ev rfl) (by omega) (by omega)))) fun a102 h102 => ?_
                refine sq_val (v := recV ⟨(a : Int) + 1, Y.1, bs cb⟩) h102 (wn rfl) rfl rfl (fun X hX => (ex_build (zs := [.int .i64 0, .int .i64 0, .string ⟨#[]⟩]) (pl := [(0, 1), (1, 1), (2, 1)]) (by kernel_rfl) (by kernel_rfl) (h102.evs2 rfl) rfl rfl)) fun a103 h103 => ?_
                refine sq_nil ?_
                apply nd_step (k := 11) (deps := []) (R := NewB _ (fun b => .pointer (some ⟨b, 0, none⟩)) _ _) h103 rfl rfl rfl NewB.stable (fun X hX hΦ => lv_new (ex_alloc (z := .agg #[.int .i64 0, .int .i64 0, .string ⟨#[]⟩]) (by kernel_rfl)) hX.size)
                intro v14 a104 h104
                refine nd_end fun X105 hX105 hΦ105 => ?_
                have S105 := S86.grow hX105
                have qv14 := told_all hΦ105 (k := 11) rfl
                obtain ⟨b14, rfl, gb14, qv14⟩ := qv14
                have S106 := S86.add hX105 (e := .box _ _ _) qv14 (fun b hb => by cases hb; exact ⟨gb14, Box.lt qv14⟩)
                refine sl_store0 h104 (wn rfl) ⟨rfl, rfl⟩ (h104.ev rfl) (h104.ev rfl) rfl (by kernel_rfl) S106 (i := 0) rfl rfl rfl fun X107 S107 => ?_
                refine st_nil (go_then (st_seq ?_))
                apply dr_flowA (m := 5) h104 (St.domAt S107 (i := 3) rfl) 0 [false, false, false, false, false, true] _ (by kernel_rfl)
                case h =>
                 refine sq_val h104 (wn rfl) rfl rfl (fun X hX => (ex_loads (by kernel_rfl) (by kernel_rfl) (h104.ev rfl) ((S107.growO (i := 3) rfl hX).cellsAll (i := 0) rfl))) fun a108 h108 => ?_
                 refine sq_val (v := recV ⟨(a : Int) + 1, Y.1, bs cb⟩) h108 (wn rfl) rfl rfl (fun X hX => (ex_loads (by kernel_rfl) (by kernel_rfl) (h108.ev rfl) ((S107.growO (i := 3) rfl hX).cellsAll (i := 0) rfl))) fun a109 h109 => ?_
                 refine sq_bel h109 (wn rfl) rfl rfl (fun X => (ex_call (fun _ _ => by kernel_rfl) (h109.evs rfl) rfl)) (fun X hX => encoded_any ⟨(a : Int) + 1, Y.1, bs cb⟩ (by show 0 ≤ (a : Int) + 1; omega) (by show (a : Int) + 1 < _; omega) (by show (bs cb).size ≤ _; omega) _) fun a110 h110 => ?_
                 refine sq_val h110 (wn rfl) rfl rfl (fun X hX => (as_val (v' := .string (bs wh)) rfl (ex_move (h110.ev rfl)))) fun a111 h111 => ?_
                 refine sq_val h111 (wn rfl) rfl rfl (fun X hX => (ex_seql (h111.ev rfl) (h111.ev rfl))) fun a112 h112 => ?_
                 refine sq_nil ?_
                 apply na_store (k := 5) (deps := []) (R := IsBox _ _ _) h112 rfl rfl IsBox.stable (fun X hX hΦ => lv_store0 rfl (h112.ev rfl) (h112.ev rfl) rfl (by kernel_rfl) ((S107.grow hX).at_ (i := 3) rfl) rfl rfl)
                 intro vs5
                 refine na_end fun X113 hX113 hΦ113 => ?_
                 have S113 := S107.growBox (i := 3) (v := vs5) rfl hX113 (told_all hΦ113 (k := 5) rfl)
                 refine ma h112 rfl rfl fun a114 h114 => ?_
                 refine st_nil (go_then (wp_ret ?_))
                 refine finct h114 rfl rfl rfl S113 (i := 3) rfl (by kernel_rfl) (by kernel_rfl) ?_
                 refine ⟨(⟨(a : Int) + 1, Y.1, bs cb⟩, p68), ?_, ⟨fun y hy => ?_, fun y hy => hF68 y (hF45 y (hF26.2 y hy))⟩, (S113.sub (.cons _ (.cons _ (.cons _ (.cons _ (.cons_cons _ .slnil))))))⟩
                 · have hd : (rcO x a aft).isSome = decide (bs (encR ⟨(a : Int) + 1, Y.1, bs cb⟩) = bs wh) := by
                     rw [hrc]
                     by_cases he : encR ⟨(a : Int) + 1, Y.1, bs cb⟩ = wh
                     · rw [if_pos he, he]; simp
                     · rw [if_neg he]
                       have : ¬ bs (encR ⟨(a : Int) + 1, Y.1, bs cb⟩) = bs wh := fun h => he (by have := congrArg bl h; rwa [bl_bs, bl_bs] at this)
                       simp [this]
                   rw [hd]; rfl
                 · rw [hrc] at hy
                   split at hy
                   · injection hy
                   · cases hy
                case hB => kernel_rfl
                case hst => rfl
               case hB => kernel_rfl
               case hst => rfl
            case hB => kernel_rfl
            case hst => rfl
end Go.Proofs.YtmlilplbdpjfcaaGreatDoor
