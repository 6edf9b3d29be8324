/-
  Chapter 20: the reader's record behind another one.
-/
import Derived.Test.YtmlilplbdpjfcaaGreatDoorRg15
namespace Go.Proofs.YtmlilplbdpjfcaaGreatDoor
set_option linter.unusedVariables false
set_option linter.unusedSimpArgs false
set_option maxRecDepth 4000
open Go.RowKit Go.Sort
def afO (x : RdrP) (y : RecP) : Option RecP := afIn x.s x.pg x.top y
theorem ex_pnnil {P : Program} {ρ : Operand → Value} {X : World} {d : Option Tmp} {ty : TypeId} {ps : String} {af : Array Edge} {g : Option (Nat × Bool)} {x y : Operand} {t t' e : TypeId} {o : Option Nat} (ht : P.underlying t = some (.pointer e)) (hq : (P.info? e).isSome = true) (hgd : P.eqGuardType P.depth t = false) (hx : ρ x = ptrV o) (hy : ρ y = .pointer none) :
    (execOp ρ ⟨d, .binOp .neq t x y t', ty, ps, af, g⟩).run P X = .ok (.value (.bool (!o.isNone))) X := by
  obtain ⟨q, hq⟩ := Option.isSome_iff_exists.1 hq
  have h : ∀ d : Nat, (Op.equalIn (d + 1) t (ptrV o) (.pointer none)).run P X = .ok o.isNone X := fun d => by
    cases o <;> simp [ptrV, Op.equalIn, run_underlying ht, sizeOf, typeInfo, hq]
  have h2 : (binOp .neq t (ptrV o) (.pointer none)).run P X = .ok (.bool (!o.isNone)) X := by
    simp only [binOp]
    simp [Op.equal, Op.maxDepth, h 9999]
  simp [execOp, hx, hy, eqGuard, hgd, h2]
theorem af_first {x : RdrP} {y z : RecP} (h : rcO x (bhR y) y.s = some z) (hc : (bhR y % 448 == 0 || z.s == y.s) = true) : afO x y = some z := by
  unfold rcO at h
  unfold afO afIn
  rw [h, Option.filter_some, if_pos hc]
theorem af_none {x : RdrP} {y : RecP} (h : ∀ z, rcO x (bhR y) y.s = some z → (bhR y % 448 == 0 || z.s == y.s) = false) : (rcIn x.s x.pg x.top (bhR y) y.s).filter (fun z => bhR y % 448 == 0 || z.s == y.s) = none := by
  unfold rcO at h
  cases hr : rcIn x.s x.pg x.top (bhR y) y.s with
  | none => rfl
  | some z => rw [Option.filter_some, if_neg (by rw [h z hr]; decide)]
theorem af_zero {x : RdrP} {y : RecP} (h : ∀ z, rcO x (bhR y) y.s = some z → (bhR y % 448 == 0 || z.s == y.s) = false) (hb : bhR y % 448 = 0) : afO x y = none := by
  unfold afO afIn
  rw [af_none h]
  simp only
  rw [if_pos hb]
theorem af_second {x : RdrP} {y : RecP} (h : ∀ z, rcO x (bhR y) y.s = some z → (bhR y % 448 == 0 || z.s == y.s) = false) (hb : ¬ bhR y % 448 = 0) : afO x y = match rcO x (nxtR (bhR y)) y.s with
    | none => none
    | some z => if y.s < z.s then some z else
      match pgIn x.s x.pg x.top ((bhR y).toNat / 448) with
      | none => none
      | some (_, b) => if (b.length : Int) = bhR y % 448 then some z else none := by
  unfold afO afIn
  rw [af_none h]
  simp only
  rw [if_neg hb]
  rfl
theorem rdafter_any (x : RdrP) (hx : RdrB x) (R m G n c : Nat) (ks : List (Nat × Option Nat)) (y : RecP) (hy : 1 ≤ y.l ∧ y.l ≤ 500000000 ∧ y.b.size ≤ 3000) (w : World) (hok : RdrOk x R m G n c ks w) (hM : ∀ b, rdrD R m G ks b → b < w.heap.size) :
    Calls Tryz.prog 71 #[.pointer (some ⟨R, 0, none⟩), recV y] w fun r w' => ∃ p : RecP × List (Nat × Option Nat), r = .returned (.tuple #[recV p.1, .bool (afO x y).isSome]) ∧ ((∀ z, afO x y = some z → p.1 = z) ∧ ∀ z ∈ ks, z ∈ p.2) ∧ St (rdrM R m G ks) w w' [rdrE x R m G n c ks w p.2] := by
  have hn : 0 < n := by have := hok.n; have := hx.pg; omega
  have hszb : 12 ≤ szR y.b.size ∧ szR y.b.size ≤ 3020 := by unfold szR; omega
  have hbh : bhR y = y.l - 1 + szR y.b.size := rfl
  have hnx := nxtR_in (p := bhR y)
  have htm : (bhR y).tmod 448 = bhR y % 448 := Int.tmod_eq_emod_of_nonneg (by omega)
  have hbg : ∀ w, Calls Tryz.prog 113 #[.int .i64 (bhR y)] w fun e w' => e = .returned (.bool (bhR y % 448 == 0)) ∧ w = w' := fun w => by
    have q := begins_any (bhR y) w
    rw [htm] at q; exact q
  refine st_enter (N := 74) Tryz.func71 rfl rfl rfl (fun a0 h0 => ?_)
  have S0 := (St.initInv ⟨hok, RdrRel.refl⟩ (fun b hb => ⟨mem_rdrM.2 hb, hM b hb⟩) : St (rdrM R m G ks) w w [rdrE x R m G n c ks w ks])
  refine st_seq (st_reg ?_)
  refine sl_new h0 (wn rfl) (f := fun b => .pointer (some ⟨b, 0, none⟩)) (ex_box (h0.ev rfl)) rfl rfl S0 fun b3 a1 X1 gb3 h1 S1 => ?_
  refine sl_new h1 (wn rfl) (f := fun b => .pointer (some ⟨b, 0, none⟩)) (ex_alloc (z := .agg #[.int .i64 0, .int .i64 0, .string ⟨#[]⟩]) (by kernel_rfl)) rfl rfl S1 fun b4 a2 X2 gb4 h2 S2 => ?_
  refine ma h2 rfl rfl fun a3 h3 => ?_
  refine st_nil (go_then (st_seq (st_reg ?_)))
  refine sl_val (v := recV y) h3 (wn rfl) (ex_loads (by kernel_rfl) (by kernel_rfl) (h3.ev rfl) (S2.cellsAll (i := 1) rfl)) rfl rfl fun a4 h4 => ?_
  refine sl_bel h4 (wn rfl) (ex_call (fun _ _ => by kernel_rfl) (h4.evs rfl) rfl) rfl rfl S2 (behind_any y _ (by omega) (by omega) (by omega)) fun a5 X5 h5 S5 => ?_
  refine ma h5 rfl rfl fun a6 h6 => ?_
  refine st_nil (go_then (st_seq (st_seq (st_reg ?_))))
  refine mv h6 rfl rfl fun a7 h7 => ?_
  refine mv h7 rfl rfl fun a8 h8 => ?_
  refine sl_val h8 (wn rfl) (ex_field (off := 1) (j := 1) (by kernel_rfl) (h8.ev rfl) rfl) rfl rfl fun a9 h9 => ?_
  refine sl_val h9 (wn rfl) (ex_load (by kernel_rfl) (h9.ev rfl) (S5.cell (i := 1) rfl rfl)) rfl rfl fun a10 h10 => ?_
  refine sl_updx h10 (wn rfl) (ex_call (fun _ _ => by kernel_rfl) (h10.evs rfl) rfl) rfl rfl S5 (i := 2) rfl (fun b hb => mem_rdrM.1 hb) (rdrecord_any x hx R m G n c ks (bhR y) y.s (by omega) _ (S5.at_ (i := 2) rfl).1 (fun b hb => (S5.new _ (List.mem_of_getElem? (i := 2) rfl) b hb).2)) fun p19 a11 X11 h11 hF19 S11 => ?_
  replace S11 := St.rdrTrans (i := 2) (j := 2) S5 rfl S11 rfl
  refine mv h11 rfl rfl fun a12 h12 => ?_
  refine sl_val h12 (wn rfl) (ex_extract (h12.ev rfl) rfl) rfl rfl fun a13 h13 => ?_
  refine sl_val h13 (wn rfl) (ex_extract (h13.ev rfl) rfl) rfl rfl fun a14 h14 => ?_
  refine sl_new h14 (wn rfl) (f := fun b => .pointer (some ⟨b, 0, none⟩)) (ex_alloc (z := .agg #[.int .i64 0, .int .i64 0, .string ⟨#[]⟩]) (by kernel_rfl)) rfl rfl S11 fun b7 a15 X15 gb7 h15 S15 => ?_
  refine sl_store0 h15 (wn rfl) ⟨rfl, rfl⟩ (h15.ev rfl) (h15.ev rfl) rfl (by kernel_rfl) S15 (i := 0) rfl rfl rfl fun X16 S16 => ?_
  refine ma h15 rfl rfl fun a17 h17 => ?_
  refine st_nil (go_then (st_seq (st_reg ?_)))
  refine mv h17 rfl rfl fun a18 h18 => ?_
  refine mv h18 rfl rfl fun a19 h19 => ?_
  apply sl_and h19 S16 23 rfl 10 33
  case ht =>
   intro gc23
   refine sl_val h19 (wanted_yes h19 _ rfl rfl rfl gc23) (ex_move (h19.ev rfl)) rfl rfl fun a20 h20 => ?_
   refine sl_pure h20 (wanted_yes h20 _ rfl rfl rfl gc23) (ex_call (fun _ _ => by kernel_rfl) (h20.evs rfl) rfl) rfl rfl (hbg _) fun a21 h21 => ?_
   refine sl_val h21 (wanted_yes h21 _ rfl rfl rfl gc23) (ex_move (h21.ev rfl)) rfl rfl fun a22 h22 => ?_
   apply sl_or h22 S16 26 rfl 6 32
   case hf =>
    intro gc26
    refine sl_val h22 (wanted_yes h22 _ rfl rfl rfl gc26) (ex_field (off := 1) (j := 1) (by kernel_rfl) (h22.ev rfl) rfl) rfl rfl fun a23 h23 => ?_
    refine sl_val h23 (wanted_yes h23 _ rfl rfl rfl gc26) (ex_load (by kernel_rfl) (h23.ev rfl) (S16.cell (i := 0) rfl rfl)) rfl rfl fun a24 h24 => ?_
    refine sl_val h24 (wanted_yes h24 _ rfl rfl rfl gc26) (ex_field (off := 1) (j := 1) (by kernel_rfl) (h24.ev rfl) rfl) rfl rfl fun a25 h25 => ?_
    refine sl_val h25 (wanted_yes h25 _ rfl rfl rfl gc26) (ex_load (by kernel_rfl) (h25.ev rfl) (S16.cell (i := 2) rfl rfl)) rfl rfl fun a26 h26 => ?_
    refine sl_val h26 (wanted_yes h26 _ rfl rfl rfl gc26) (ex_eql (h26.ev rfl) (h26.ev rfl)) rfl rfl fun a27 h27 => ?_
    refine sl_val h27 (wanted_yes h27 _ rfl rfl rfl gc23) (ex_pick_f (h27.ev rfl) gc26 (h27.ev rfl)) rfl rfl fun a28 h28 => ?_
    exact st_nil ⟨h28.mid (m := [(_, _), (_, _), (_, _), (_, _), (_, _)]) rfl, S16⟩
   case ht =>
    intro gc26
    refine sl_no h22 (wanted_no h22 _ rfl rfl rfl gc26) rfl rfl fun a29 h29 => ?_
    refine sl_no h29 (wanted_no h29 _ rfl rfl rfl gc26) rfl rfl fun a30 h30 => ?_
    refine sl_no h30 (wanted_no h30 _ rfl rfl rfl gc26) rfl rfl fun a31 h31 => ?_
    refine sl_no h31 (wanted_no h31 _ rfl rfl rfl gc26) rfl rfl fun a32 h32 => ?_
    refine sl_no h32 (wanted_no h32 _ rfl rfl rfl gc26) rfl rfl fun a33 h33 => ?_
    refine sl_val h33 (wanted_yes h33 _ rfl rfl rfl gc23) (ex_pick_t (h33.ev rfl) gc26 (h33.ev rfl)) rfl rfl fun a34 h34 => ?_
    exact st_nil ⟨h34.mid (m := [(_, _), (_, _), (_, _), (_, _), (_, _)]) rfl, S16⟩
   case h =>
    rintro a35 X35 ⟨h35, S35⟩
    refine sl_val h35 (wn rfl) (ex_pick_t (h35.ev rfl) gc23 (h35.ev rfl)) rfl rfl fun a36 h36 => ?_
    exact st_nil ⟨h36.mid (m := [(_, _), (_, _), (_, _), (_, _)]) rfl, S35⟩
  case hf =>
   intro gc23
   refine sl_no h19 (wanted_no h19 _ rfl rfl rfl gc23) rfl rfl fun a37 h37 => ?_
   refine sl_no h37 (wanted_no h37 _ rfl rfl rfl gc23) rfl rfl fun a38 h38 => ?_
   refine sl_no h38 (wanted_no h38 _ rfl rfl rfl gc23) rfl rfl fun a39 h39 => ?_
   refine sl_no h39 (wanted_not h39 _ rfl rfl rfl) rfl rfl fun a40 h40 => ?_
   refine sl_no h40 (wanted_not h40 _ rfl rfl rfl) rfl rfl fun a41 h41 => ?_
   refine sl_no h41 (wanted_not h41 _ rfl rfl rfl) rfl rfl fun a42 h42 => ?_
   refine sl_no h42 (wanted_not h42 _ rfl rfl rfl) rfl rfl fun a43 h43 => ?_
   refine sl_no h43 (wanted_not h43 _ rfl rfl rfl) rfl rfl fun a44 h44 => ?_
   refine sl_no h44 (wanted_no h44 _ rfl rfl rfl gc23) rfl rfl fun a45 h45 => ?_
   refine sl_val h45 (wn rfl) (ex_pick_f (h45.ev rfl) gc23 (h45.ev rfl)) rfl rfl fun a46 h46 => ?_
   exact st_nil ⟨h46.mid (m := [(_, _), (_, _), (_, _), (_, _), (_, _), (_, _), (_, _), (_, _), (_, _)]) rfl, S16⟩
  case h =>
   rintro a47 X47 ⟨h47, S47⟩
   refine st_nil (go_then ?_)
   refine st_if (h47.ev rfl) (fun hc0 => ?_) (fun hc0 => ?_)
   · skip
     rw [Bool.and_eq_true] at hc0
     obtain ⟨z, hz⟩ := Option.isSome_iff_exists.1 hc0.1
     have hpz : p19.1 = z := hF19.1 z hz
     have haf : afO x y = some z := af_first hz (by rw [← hpz]; exact hc0.2)
     refine st_seq (st_reg ?_)
     refine sl_val h47 (wn rfl) (ex_loads (by kernel_rfl) (by kernel_rfl) (h47.ev rfl) (S47.cellsAll (i := 0) rfl)) rfl rfl fun a48 h48 => ?_
     refine sl_store0 h48 (wn rfl) ⟨rfl, rfl⟩ (h48.ev rfl) (h48.ev rfl) rfl (by kernel_rfl) S47 (i := 1) rfl rfl rfl fun X49 S49 => ?_
     refine ma h48 rfl rfl fun a50 h50 => ?_
     refine st_nil (go_then (wp_ret (ret_then ?_)))
     refine finct h50 rfl rfl rfl S49 (i := 1) rfl (by kernel_rfl) (by kernel_rfl) ?_
     exact ⟨p19, (by rw [haf]; rfl), ⟨fun u hu => (by rw [haf] at hu; injection hu with hu; rw [← hu]; exact hpz), hF19.2⟩, (S49.sub (.cons _ (.cons _ (.cons _ (.cons_cons _ .slnil)))))⟩
   · skip
     have hfst : ∀ z, rcO x (bhR y) y.s = some z → (bhR y % 448 == 0 || z.s == y.s) = false := fun z hz => by
       rw [hz, Option.isSome_some, Bool.true_and, hF19.1 z hz] at hc0
       exact hc0
     refine wp_skip (go_then (st_seq (st_seq (st_reg ?_))))
     refine mv h47 rfl rfl fun a51 h51 => ?_
     refine sl_pure h51 (wn rfl) (ex_call (fun _ _ => by kernel_rfl) (h51.evs rfl) rfl) rfl rfl (hbg _) fun a52 h52 => ?_
     refine st_nil (go_then ?_)
     refine st_if (h52.ev rfl) (fun hc1 => ?_) (fun hc1 => ?_)
     · skip
       have haf : afO x y = none := af_zero hfst (eq_of_beq hc1)
       refine st_seq (st_reg ?_)
       refine sl_val (v := recV rec0) h52 (wn rfl) (ex_build (zs := [.int .i64 0, .int .i64 0, .string ⟨#[]⟩]) (pl := [(0, 1), (1, 1), (2, 1)]) (by kernel_rfl) (by kernel_rfl) (h52.evs2 rfl) rfl rfl) rfl rfl fun a53 h53 => ?_
       refine sl_store0 h53 (wn rfl) ⟨rfl, rfl⟩ (h53.ev rfl) (h53.ev rfl) rfl (by kernel_rfl) S47 (i := 1) rfl rfl rfl fun X54 S54 => ?_
       refine ma h53 rfl rfl fun a55 h55 => ?_
       refine st_nil (go_then (wp_ret (ret_then ?_)))
       refine finct h55 rfl rfl rfl S54 (i := 1) rfl (by kernel_rfl) (by kernel_rfl) ?_
       exact ⟨(rec0, p19.2), (by rw [haf]; rfl), ⟨fun u hu => (by rw [haf] at hu; cases hu), hF19.2⟩, (S54.sub (.cons _ (.cons _ (.cons _ (.cons_cons _ .slnil)))))⟩
     · skip
       have haf := af_second hfst (by simpa using hc1)
       refine wp_skip (go_then (st_seq ?_))
       apply dr_flowM h52 (fun b => b = m) [(5, (fun b => b = m))] [(10, 98)] [false, false, false, false, false, true, true, true, true, true, true] _ (by kernel_rfl) (all1 (fun b hb => hb))
       case h =>
        refine sq_val h52 (wn rfl) rfl rfl (fun X hX => (ex_move (h52.ev rfl))) fun a56 h56 => ?_
        refine sq_val h56 (wn rfl) rfl rfl (fun X hX => (ex_move (h56.ev rfl))) fun a57 h57 => ?_
        refine sq_pure h57 (wn rfl) rfl rfl (fun X => (ex_call (fun _ _ => by kernel_rfl) (h57.evs rfl) rfl)) (fun X hX => next_any _ _ (by omega) (by omega)) fun a58 h58 => ?_
        refine sq_val h58 (wn rfl) rfl rfl (fun X hX => (ex_field (off := 1) (j := 1) (by kernel_rfl) (h58.ev rfl) rfl)) fun a59 h59 => ?_
        refine sq_val h59 (wn rfl) rfl rfl (fun X hX => (ex_load (by kernel_rfl) (h59.ev rfl) ((S47.growMap (i := 3) rfl hX).cell (i := 2) rfl rfl))) fun a60 h60 => ?_
        refine sq_nil ?_
        apply nm_call (k := 5) (deps := []) (R := RdrU _ _ _ _ _ _ _ _ _ _ _) h60 rfl rfl rfl rfl RdrU.stable (all1 (RdrU.newT hn (by unfold rdrTy; decide)))
        case hx => exact fun X hX hΦ => lv_updR (ex_call (fun _ _ => by kernel_rfl) (h60.evs rfl) rfl) ((S47.grow hX).at_ (i := 3) rfl).1 (rdrecord_any x hx R m G n c p19.2 (nxtR (bhR y)) y.s (by omega) _ ((S47.grow hX).at_ (i := 3) rfl).1 (fun b hb => ((S47.grow hX).new _ (List.mem_of_getElem? (i := 3) rfl) b hb).2)) hX.size
        intro v44 a61 h61
        apply nm_step (O := (fun b => b = m)) (k := 6) (deps := [5]) (R := PairU _ _) h61 rfl rfl rfl (all1 (fun b hb => hb)) PairU.stable (all1 PairU.kp) (all1 PairU.newT)
        case hx => exact fun X hX hΦ => lv_told (RdrU.pair (told_get (k := 5) hΦ rfl rfl)) (ex_move (h61.ev rfl))
        intro v38 a62 h62
        apply nm_step (O := (fun b => b = m)) (k := 7) (deps := [6]) (R := ExtU0 _ _) h62 rfl rfl rfl (all1 (fun b hb => hb)) ExtU0.stable (all1 ExtU0.kp) (all1 ExtU0.newT)
        case hx => exact fun X hX hΦ => lv_ext0 (fun p => ⟨_, _, rfl⟩) (told_get (k := 6) hΦ rfl rfl) (h62.ev rfl)
        intro v45 a63 h63
        apply nm_step (O := (fun b => b = m)) (k := 8) (deps := [6]) (R := ExtU1 _ _) h63 rfl rfl rfl (all1 (fun b hb => hb)) ExtU1.stable (all1 ExtU1.kp) (all1 ExtU1.newT)
        case hx => exact fun X hX hΦ => lv_ext1 (fun p => ⟨_, _, rfl⟩) (told_get (k := 6) hΦ rfl rfl) (h63.ev rfl)
        intro v46 a64 h64
        apply nm_step (O := (fun b => b = m)) (k := 9) (deps := []) (R := NewAny _ 3 _) h64 rfl rfl rfl (all1 (fun b hb => hb)) NewAny.stable (all1 (NewAny.kpO (fun b hb => by rw [hb]; exact (S47.new _ (List.mem_of_getElem? (i := 3) rfl) m (.inr (.inl rfl))).2))) (all1 NewAny.newT)
        case hx => exact fun X hX hΦ => lv_any (ex_alloc (z := .agg #[.int .i64 0, .int .i64 0, .string ⟨#[]⟩]) (by kernel_rfl)) hX.size rfl
        intro v9 a65 h65
        apply nm_store (k := 10) (deps := [7, 9]) (kx := 9) (x := 9) (y := 45) (Y := slotY 45) h65 rfl ⟨rfl, rfl⟩ rfl (all1 (fun b hb => by rw [hb]; exact (S47.new _ (List.mem_of_getElem? (i := 3) rfl) m (.inr (.inl rfl))).2)) ⟨rfl, rfl⟩ (h65.slot 45 _ rfl) (slotY_dep (ky := 7) ⟨rfl, rfl⟩) rfl rfl (n := 3) (by kernel_rfl) (all1 (by show (5 : Nat) ∉ [7, 9]; decide))
        case hx =>
         intro X hX hΦ
         obtain ⟨p, _, e⟩ := extU0 (told_get (k := 7) hΦ rfl rfl)
         rw [e]
         exact ⟨(told_get (k := 9) hΦ rfl rfl), rfl, rfl⟩
        intro vs10
        refine nm_end (O := (fun b => b = m)) (all1 (fun b hb => hb)) fun X66 hX66 hΦ66 => ?_
        obtain ⟨p45, hG45, rfl⟩ := extU0 (told_all hΦ66 (k := 7) rfl)
        obtain ⟨p46, hG46, rfl⟩ := extU1 (told_all hΦ66 (k := 8) rfl)
        obtain ⟨b9, rfl, gb9, qb9⟩ := StoY.slot (v := vs10) h65 rfl rfl (told_all hΦ66 (k := 10) rfl)
        obtain ⟨p44, q66, hF44, S66⟩ := S47.growUpd1 (i := 3) rfl hX66 (told_all hΦ66 (k := 5) rfl) hn qb9 gb9 (by unfold rdrTy; decide)
        subst q66
        refine ma h65 rfl rfl fun a67 h67 => ?_
        refine st_nil (go_then (st_seq (st_seq (st_reg ?_))))
        refine mv h67 rfl rfl fun a68 h68 => ?_
        refine sl_val h68 (wn rfl) (ex_not (h68.ev rfl)) rfl rfl fun a69 h69 => ?_
        refine st_nil (go_then ?_)
        refine st_if (h69.ev rfl) (fun hc2 => ?_) (fun hc2 => ?_)
        · skip
          have haf2 : afO x y = none := by
            rw [haf]
            cases hr : rcO x (nxtR (bhR y)) y.s with
            | none => rfl
            | some z => rw [hr] at hc2; simp at hc2
          refine st_seq (st_reg ?_)
          refine sl_val h69 (wn rfl) (ex_loads (by kernel_rfl) (by kernel_rfl) (h69.ev rfl) (S66.cellsAll (i := 0) rfl)) rfl rfl fun a70 h70 => ?_
          refine sl_store0 h70 (wn rfl) ⟨rfl, rfl⟩ (h70.ev rfl) (h70.ev rfl) rfl (by kernel_rfl) S66 (i := 2) rfl rfl rfl fun X71 S71 => ?_
          refine ma h70 rfl rfl fun a72 h72 => ?_
          refine st_nil (go_then (wp_ret (ret_then ?_)))
          refine finct h72 rfl rfl rfl S71 (i := 2) rfl (by kernel_rfl) (by kernel_rfl) ?_
          exact ⟨(p45.1, p44.2), (by rw [haf2]; rfl), ⟨fun u hu => (by rw [haf2] at hu; cases hu), fun u hu => hF44.2 u (hF19.2 u hu)⟩, (S71.sub (.cons _ (.cons _ (.cons _ (.cons _ (.cons_cons _ .slnil))))))⟩
        · skip
          obtain ⟨z, hz⟩ : ∃ z, rcO x (nxtR (bhR y)) y.s = some z := Option.isSome_iff_exists.1 (by simpa using hc2)
          have hpz : p45.1 = z := hG45.1 z hz
          rw [hz] at haf
          simp only at haf
          refine wp_skip (go_then (st_seq (st_reg ?_)))
          refine mv h69 rfl rfl fun a73 h73 => ?_
          refine mv h73 rfl rfl fun a74 h74 => ?_
          refine sl_val h74 (wn rfl) (as_val (v' := .int .i64 (((bhR y).toNat / 448 : Nat) : Int)) (congrArg _ (by omega)) (ex_quo (h74.ev rfl) (h74.ev rfl) (by omega))) rfl rfl fun a75 h75 => ?_
          refine sl_updx h75 (wn rfl) (ex_call (fun _ _ => by kernel_rfl) (h75.evs rfl) rfl) rfl rfl S66 (i := 4) rfl (fun b hb => mem_rdrM.1 hb) (rdpage_any x hx R m G n c p44.2 ((bhR y).toNat / 448) (by omega) _ (S66.at_ (i := 4) rfl).1 (fun b hb => (S66.new _ (List.mem_of_getElem? (i := 4) rfl) b hb).2)) fun p53 a76 X76 h76 hF53 S76 => ?_
          replace S76 := St.rdrTrans (i := 4) (j := 4) S66 rfl S76 rfl
          refine ma h76 rfl rfl fun a77 h77 => ?_
          refine st_nil (go_then (st_seq ?_))
          apply dr_flowA (m := 20) h77 (St.domAt S76 (i := 2) rfl) 0 [false, false, false, false, false, false, false, false, false, false, false, false, false, false, false, false, false, false, false, false, true] _ (by kernel_rfl)
          case h =>
           refine sq_val h77 (wn rfl) rfl rfl (fun X hX => (ex_loads (by kernel_rfl) (by kernel_rfl) (h77.ev rfl) ((S76.growO (i := 2) rfl hX).cellsAll (i := 0) rfl))) fun a78 h78 => ?_
           refine sq_val h78 (wn rfl) rfl rfl (fun X hX => (ex_field (off := 1) (j := 1) (by kernel_rfl) (h78.ev rfl) rfl)) fun a79 h79 => ?_
           refine sq_val h79 (wn rfl) rfl rfl (fun X hX => (ex_load (by kernel_rfl) (h79.ev rfl) ((S76.growO (i := 2) rfl hX).cell (i := 0) rfl rfl))) fun a80 h80 => ?_
           refine sq_val h80 (wn rfl) rfl rfl (fun X hX => (ex_field (off := 1) (j := 1) (by kernel_rfl) (h80.ev rfl) rfl)) fun a81 h81 => ?_
           refine sq_val h81 (wn rfl) rfl rfl (fun X hX => (ex_load (by kernel_rfl) (h81.ev rfl) ((S76.growO (i := 2) rfl hX).cell (i := 3) rfl rfl))) fun a82 h82 => ?_
           refine sq_val h82 (wn rfl) rfl rfl (fun X hX => (ex_gtr (h82.ev rfl) (h82.ev rfl))) fun a83 h83 => ?_
           refine sq_val h83 (wn rfl) rfl rfl (fun X hX => (ex_move (h83.ev rfl))) fun a84 h84 => ?_
           apply sq_or h84 60 rfl 13 73
           case hf =>
            intro gc60
            refine sq_val h84 (wanted_yes h84 _ rfl rfl rfl gc60) rfl rfl (fun X hX => (ex_move (h84.ev rfl))) fun a85 h85 => ?_
            refine sq_val h85 (wanted_yes h85 _ rfl rfl rfl gc60) rfl rfl (fun X hX => (ex_pnnil Tryz.underlying146 (by kernel_rfl) (by kernel_rfl) (h85.ev rfl) (h85.ev rfl))) fun a86 h86 => ?_
            refine sq_val h86 (wanted_yes h86 _ rfl rfl rfl gc60) rfl rfl (fun X hX => (ex_move (h86.ev rfl))) fun a87 h87 => ?_
            apply sq_and h87 63 rfl 9 72
            case ht =>
             intro gc63
             refine sq_val h87 (wanted_yes h87 _ rfl rfl rfl gc63) rfl rfl (fun X hX => (ex_move (h87.ev rfl))) fun a88 h88 => ?_
             refine sq_val h88 (wanted_yes h88 _ rfl rfl rfl gc63) rfl rfl (fun X hX => (ex_nilck ((h88.ev rfl).trans (ptrV_some (by simpa using gc63))))) fun a89 h89 => ?_
             refine sq_val h89 (wanted_yes h89 _ rfl rfl rfl gc63) rfl rfl (fun X hX => (ex_field (off := 2) (by kernel_rfl) (h89.ev rfl) rfl)) fun a90 h90 => ?_
             refine sq_val h90 (wanted_yes h90 _ rfl rfl rfl gc63) rfl rfl (fun X hX => (ex_load (by kernel_rfl) (h90.ev rfl) (box_cell (RdrOk.box_of ((S76.growO (i := 2) rfl hX).at_ (i := 4) rfl).1 hF53.1 (by simpa using gc63)) rfl))) fun a91 h91 => ?_
             refine sq_val h91 (wanted_yes h91 _ rfl rfl rfl gc63) rfl rfl (fun X hX => (ex_slen Tryz.underlying9 (h91.ev rfl))) fun a92 h92 => ?_
             refine sq_val h92 (wanted_yes h92 _ rfl rfl rfl gc63) rfl rfl (fun X hX => (ex_move (h92.ev rfl))) fun a93 h93 => ?_
             refine sq_val h93 (wanted_yes h93 _ rfl rfl rfl gc63) rfl rfl (fun X hX => (ex_rem (h93.ev rfl) (h93.ev rfl) ⟨by omega, by omega⟩)) fun a94 h94 => ?_
             refine sq_val h94 (wanted_yes h94 _ rfl rfl rfl gc63) rfl rfl (fun X hX => (ex_eql (h94.ev rfl) (h94.ev rfl))) fun a95 h95 => ?_
             refine sq_val h95 (wanted_yes h95 _ rfl rfl rfl gc60) rfl rfl (fun X hX => (ex_pick_t (h95.ev rfl) gc63 (h95.ev rfl))) fun a96 h96 => ?_
             exact sq_nil (h96.mid (m := [(_, _), (_, _), (_, _), (_, _), (_, _), (_, _), (_, _), (_, _)]) rfl)
            case hf =>
             intro gc63
             refine sq_no h87 (wanted_no h87 _ rfl rfl rfl gc63) rfl rfl fun a97 h97 => ?_
             refine sq_no h97 (wanted_no h97 _ rfl rfl rfl gc63) rfl rfl fun a98 h98 => ?_
             refine sq_no h98 (wanted_no h98 _ rfl rfl rfl gc63) rfl rfl fun a99 h99 => ?_
             refine sq_no h99 (wanted_no h99 _ rfl rfl rfl gc63) rfl rfl fun a100 h100 => ?_
             refine sq_no h100 (wanted_no h100 _ rfl rfl rfl gc63) rfl rfl fun a101 h101 => ?_
             refine sq_no h101 (wanted_no h101 _ rfl rfl rfl gc63) rfl rfl fun a102 h102 => ?_
             refine sq_no h102 (wanted_no h102 _ rfl rfl rfl gc63) rfl rfl fun a103 h103 => ?_
             refine sq_no h103 (wanted_no h103 _ rfl rfl rfl gc63) rfl rfl fun a104 h104 => ?_
             refine sq_val h104 (wanted_yes h104 _ rfl rfl rfl gc60) rfl rfl (fun X hX => (ex_pick_f (h104.ev rfl) gc63 (h104.ev rfl))) fun a105 h105 => ?_
             exact sq_nil (h105.mid (m := [(_, _), (_, _), (_, _), (_, _), (_, _), (_, _), (_, _), (_, _)]) rfl)
            case h =>
             intro a106 h106
             refine sq_val h106 (wn rfl) rfl rfl (fun X hX => (ex_pick_f (h106.ev rfl) gc60 (h106.ev rfl))) fun a107 h107 => ?_
             exact sq_nil (h107.mid (m := [(_, _), (_, _), (_, _), (_, _)]) rfl)
           case ht =>
            intro gc60
            refine sq_no h84 (wanted_no h84 _ rfl rfl rfl gc60) rfl rfl fun a108 h108 => ?_
            refine sq_no h108 (wanted_no h108 _ rfl rfl rfl gc60) rfl rfl fun a109 h109 => ?_
            refine sq_no h109 (wanted_no h109 _ rfl rfl rfl gc60) rfl rfl fun a110 h110 => ?_
            refine sq_no h110 (wanted_not h110 _ rfl rfl rfl) rfl rfl fun a111 h111 => ?_
            refine sq_no h111 (wanted_not h111 _ rfl rfl rfl) rfl rfl fun a112 h112 => ?_
            refine sq_no h112 (wanted_not h112 _ rfl rfl rfl) rfl rfl fun a113 h113 => ?_
            refine sq_no h113 (wanted_not h113 _ rfl rfl rfl) rfl rfl fun a114 h114 => ?_
            refine sq_no h114 (wanted_not h114 _ rfl rfl rfl) rfl rfl fun a115 h115 => ?_
            refine sq_no h115 (wanted_not h115 _ rfl rfl rfl) rfl rfl fun a116 h116 => ?_
            refine sq_no h116 (wanted_not h116 _ rfl rfl rfl) rfl rfl fun a117 h117 => ?_
            refine sq_no h117 (wanted_not h117 _ rfl rfl rfl) rfl rfl fun a118 h118 => ?_
            refine sq_no h118 (wanted_no h118 _ rfl rfl rfl gc60) rfl rfl fun a119 h119 => ?_
            refine sq_val h119 (wn rfl) rfl rfl (fun X hX => (ex_pick_t (h119.ev rfl) gc60 (h119.ev rfl))) fun a120 h120 => ?_
            exact sq_nil (h120.mid (m := [(_, _), (_, _), (_, _), (_, _), (_, _), (_, _), (_, _), (_, _), (_, _), (_, _), (_, _), (_, _)]) rfl)
           case h =>
            intro a121 h121
            refine sq_nil ?_
            apply na_store (k := 20) (deps := []) (R := IsBox _ _ _) h121 rfl rfl IsBox.stable (fun X hX hΦ => lv_store0 rfl (h121.ev rfl) (h121.ev rfl) rfl (by kernel_rfl) ((S76.grow hX).at_ (i := 2) rfl) rfl rfl)
            intro vs20
            refine na_end fun X122 hX122 hΦ122 => ?_
            have S122 := S76.growBox (i := 2) (v := vs20) rfl hX122 (told_all hΦ122 (k := 20) rfl)
            refine ma h121 rfl rfl fun a123 h123 => ?_
            refine st_nil (go_then (wp_ret ?_))
            refine finct h123 rfl rfl rfl S122 (i := 2) rfl (by kernel_rfl) (by kernel_rfl) ?_
            refine ⟨(p45.1, p53.2), ?_, ⟨fun u hu => ?_, fun u hu => hF53.2 u (hF44.2 u (hF19.2 u hu))⟩, (S122.sub (.cons _ (.cons _ (.cons _ (.cons _ (.cons_cons _ .slnil))))))⟩
            · have hv : (afO x y).isSome = (decide (p45.1.s > y.s) || (!p53.1.isNone && (((bs (pgY x ((bhR y).toNat / 448)).2).size : Int) == bhR y % 448))) := by
                rw [haf, hpz, bs_size]
                by_cases h1 : y.s < z.s
                · rw [if_pos h1]; simp [h1]
                · rw [if_neg h1]
                  have h1' : decide (z.s > y.s) = false := by simpa using h1
                  rw [h1', Bool.false_or]
                  cases hn1 : p53.1.isNone with
                  | true => rw [RdrOk.none_of (S122.at_ (i := 4) rfl).1 hF53.1 hn1]; rfl
                  | false =>
                   rw [RdrOk.some_of (S122.at_ (i := 4) rfl).1 hF53.1 hn1]
                   simp only
                   by_cases h2 : ((pgY x ((bhR y).toNat / 448)).2.length : Int) = bhR y % 448
                   · rw [if_pos h2, h2]; simp
                   · rw [if_neg h2]; simp [h2]
              rw [hv]; rfl
            · rw [haf] at hu
              have : u = z := by
                split at hu
                · injection hu with hu; exact hu.symm
                · split at hu
                  · cases hu
                  · split at hu
                    · injection hu with hu; exact hu.symm
                    · cases hu
              rw [this]; exact hpz
          case hB => kernel_rfl
          case hst => rfl
       case hB => kernel_rfl
end Go.Proofs.YtmlilplbdpjfcaaGreatDoor
