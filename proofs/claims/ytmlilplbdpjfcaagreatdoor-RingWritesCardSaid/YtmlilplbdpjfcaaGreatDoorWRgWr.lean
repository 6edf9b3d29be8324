/-
  RingWrites: the walk.
-/
import Derived.Test.YtmlilplbdpjfcaaGreatDoorRg29
import Derived.Test.YtmlilplbdpjfcaaGreatDoorRg25
import Derived.Test.YtmlilplbdpjfcaaGreatDoorRg36
namespace Go.Proofs.YtmlilplbdpjfcaaGreatDoor
set_option linter.unusedVariables false
set_option linter.unusedSimpArgs false
set_option maxRecDepth 4000
open Go.RowKit Go.Sort
def wfX (r : RngP) (n sec : Int) : List (Int × List UInt8) := if wfrE r n sec = 0 then wfrL r n sec else []
theorem wfX_le {r : RngP} (n sec : Int) : (wfX r n sec).length ≤ 100000 := by
  unfold wfX
  split
  · rename_i h
    unfold wfrE at h
    rw [firstE_zero] at h
    have hk := ok_iff.1 (h (chkR r).2 (.head _))
    have hn := (unl_zero (by decide)).1 (h (unl (decide (n ≥ 0) && hasR r.rs n) 6) (.tail _ (.head _)))
    rw [has_pos hk] at hn
    have h1 := has_bd hk hn
    have h2 := hk.tl.2.2
    have h3 := hk.h.pg
    have h4 := rooms_bd hk
    obtain ⟨k, hk1, hk2⟩ := hasR_iff.1 hn
    have h5 := hk.le (i := 0) (j := k) (by omega) hk1
    have h6 := hk.head (by omega)
    have h7 : (roomsP r).1 = (r.r.o - 1) / 448 := by
      unfold roomsP; rw [lastG (by omega)]
    unfold wfrL
    rw [wrK_length]
    omega
  · exact Nat.zero_le _
theorem wf2_any (r : RngP) (A : Option Addr) (c : Nat) (n sec : Int) (w : World) (hr : Rd w w.heap.size A (recsV r.rs)) (hlen : r.rs.length ≤ 1000) (hx : ∀ x ∈ r.rs, I6 x.l) :
    Calls Tryz.prog 40 #[ringV r A c, .int .i64 n, .int .i64 sec] w fun e w' => ∃ A' c', e = .returned (.tuple #[.slice A' (wfX r n sec).length c', .int .i64 (wfrE r n sec)]) ∧ w'.ownsRow w.heap.size 74 2 (.slice A' (wfX r n sec).length c') (wfX r n sec).length (wrsV (wfX r n sec)) ∧ Below w.heap.size w w' := WritesFrom_any r A c n sec w hr hlen hx
theorem rw2_any (r : RngP) (A : Option Addr) (c : Nat) (sec : Int) (w : World) (hr : Rd w w.heap.size A (recsV r.rs)) (hlen : r.rs.length ≤ 1000) (hx : ∀ x ∈ r.rs, I6 x.l) :
    Calls Tryz.prog 41 #[ringV r A c, .int .i64 sec] w fun e w' => e = .returned (.tuple #[diskV (rwrV r sec), .int .i64 (rwrE r sec)]) ∧ Below w.heap.size w w' := RestartWrite_any r A c sec w hr hlen hx
set_option maxHeartbeats 2000000 in
theorem RingWrites_any (r : RngP) (hI : RngI r) (A : Option Addr) (c : Nat) (n : Int) (hn : (Lit.int .i64 n).wf = true) (sec : Int) (hsec : (Lit.int .i64 sec).wf = true) (w : World) (hr : Rd w w.heap.size A (recsV r.rs)) :
    Calls Tryz.prog 8 #[ringV r A c, .int .i64 n, .int .i64 sec] w fun e w' => e = .returned (.bool true) ∧ Below w.heap.size w w' := by
  have hwl := wfX_le (r := r) n sec
  obtain ⟨dA, hdA⟩ : ∃ d, d = firstE [(chkR r).2, unl (hasR r.rs n) 6] := ⟨_, rfl⟩
  obtain ⟨dB, hdB⟩ : ∃ d, d = firstE [dA, unl (inB sec 0 2048) 2] := ⟨_, rfl⟩
  have hwe : wfrE r n sec = dB := by
    rw [hdB, hdA]
    unfold wfrE
    rw [firstE_c, firstE_c, firstE_c, firstE_c, firstE_c, firstE_c]
    by_cases h0 : (chkR r).2 = 0
    · rw [has_pos (ok_iff.1 h0)]
      rw [if_pos h0, if_pos h0]
      by_cases h1 : unl (hasR r.rs n) 6 = 0
      · rw [if_pos h1, if_pos h1]; simp [firstE]
      · rw [if_neg h1, if_neg h1, if_neg h1]
    · rw [if_neg h0, if_neg h0, if_neg h0]
  have hzz : dB = 0 → OkP r ∧ hasR r.rs n = true ∧ 0 ≤ sec ∧ sec ≤ 2048 := fun hz => by
    rw [hdB, firstE_zero] at hz
    have h1 := hz dA (.head _)
    have h2 := inB_true.1 ((unl_zero (by decide)).1 (hz (unl (inB sec 0 2048) 2) (.tail _ (.head _))))
    rw [hdA, firstE_zero] at h1
    exact ⟨ok_iff.1 (h1 _ (.head _)), (unl_zero (by decide)).1 (h1 (unl (hasR r.rs n) 6) (.tail _ (.head _))), h2⟩
  have hwx : dB ≠ 0 → wfX r n sec = [] := fun h => by unfold wfX; rw [if_neg (by rw [hwe]; exact h)]
  have hwy : dB = 0 → wfX r n sec = wfrL r n sec := fun h => by unfold wfX; rw [if_pos (by rw [hwe]; exact h)]
  have hif4 : (dB != 0 && (wfrE r n sec != dB || ((wfX r n sec).length : Int) != 0) || dB == 0 && (wfrE r n sec != 0 || !decide (wfX r n sec = wfrL r n sec))) = false := by
    rw [hwe]
    by_cases h0 : dB = 0
    · rw [hwy h0, h0]; simp
    · rw [hwx h0]; simp [h0]
  refine st_enter (N := 107) Tryz.func8 rfl rfl rfl (fun a0 h0 => ?_)
  have S0 := St.init w
  refine st_seq (st_reg ?_)
  refine sl_new h0 (wn rfl) (f := fun b => .pointer (some ⟨b, 0, none⟩)) (ex_box (h0.ev rfl)) rfl rfl S0 fun b3 a1 X1 gb3 h1 S1 => ?_
  refine ma h1 rfl rfl fun a2 h2 => ?_
  refine st_nil (go_then (st_seq (st_seq (st_reg ?_))))
  refine sl_bel h2 (wn rfl) (ex_call (fun _ _ => by kernel_rfl) (h2.evs rfl) rfl) rfl rfl S1 (awake_any _) fun a3 X3 h3 S3 => ?_
  refine sl_val h3 (wn rfl) (ex_not (h3.ev rfl)) rfl rfl fun a4 h4 => ?_
  refine st_nil (go_then ?_)
  refine st_if_f (h4.ev rfl) (rfl) ?_
  refine wp_skip (go_then (st_seq (st_seq (st_reg ?_))))
  refine sl_val (v := ringV r A c) h4 (wn rfl) (ex_loads (by kernel_rfl) (by kernel_rfl) (h4.ev rfl) (S3.cellsAll (i := 0) rfl)) rfl rfl fun a5 h5 => ?_
  refine sl_bel h5 (wn rfl) (ex_call (fun _ _ => by kernel_rfl) (h5.evs rfl) rfl) rfl rfl S3 (Few_any r A c _ (S3.rd0 hr)) fun a6 X6 h6 S6 => ?_
  refine sl_val h6 (wn rfl) (ex_not (h6.ev rfl)) rfl rfl fun a7 h7 => ?_
  refine st_nil (go_then ?_)
  refine st_if (h7.ev rfl) (fun hc1 => ?_) (fun hc1 => ?_)
  · skip
    refine st_seq (st_reg ?_)
    refine ma h7 rfl rfl fun a8 h8 => ?_
    refine st_nil (go_then (wp_ret (ret_then ?_)))
    refine fin1 h8 rfl rfl ?_
    exact ⟨rfl, S6.below⟩
  · skip
    have hf : fewB r = true := by simpa using hc1
    have hlen := few_le hf
    have hx : ∀ x ∈ r.rs, I6 x.l := fun x hx => (hI.rs x hx).1
    refine wp_skip (go_then (st_seq (st_reg ?_)))
    refine sl_val (v := ringV r A c) h7 (wn rfl) (ex_loads (by kernel_rfl) (by kernel_rfl) (h7.ev rfl) (S6.cellsAll (i := 0) rfl)) rfl rfl fun a9 h9 => ?_
    refine sl_ownt h9 (wn rfl) (ex_call (fun _ _ => by kernel_rfl) (h9.evs rfl) rfl) rfl rfl S6 (rCopy_any r A c _ (S6.rd0 hr) hlen) (Nat.le_refl _) fun A20 c20 a10 X10 h10 S10 => ?_
    refine mv h10 rfl rfl fun a11 h11 => ?_
    refine mv h11 rfl rfl fun a12 h12 => ?_
    refine sl_ownt h12 (wn rfl) (ex_call (fun _ _ => by kernel_rfl) (h12.evs rfl) rfl) rfl rfl S10 (wf2_any r A20 c20 n sec _ (S10.rdOf (i := 0) rfl) hlen hx) (Nat.le_refl _) fun A23 c23 a13 X13 h13 S13 => ?_
    refine mv h13 rfl rfl fun a14 h14 => ?_
    refine sl_val h14 (wn rfl) (ex_extract (h14.ev rfl) rfl) rfl rfl fun a15 h15 => ?_
    refine sl_val h15 (wn rfl) (ex_extract (h15.ev rfl) rfl) rfl rfl fun a16 h16 => ?_
    refine ma h16 rfl rfl fun a17 h17 => ?_
    refine ma h17 rfl rfl fun a18 h18 => ?_
    refine st_nil (go_then (st_seq (st_reg ?_)))
    refine sl_val (v := ringV r A c) h18 (wn rfl) (ex_loads (by kernel_rfl) (by kernel_rfl) (h18.ev rfl) (S13.cellsAll (i := 2) rfl)) rfl rfl fun a19 h19 => ?_
    refine sl_ownt h19 (wn rfl) (ex_call (fun _ _ => by kernel_rfl) (h19.evs rfl) rfl) rfl rfl S13 (rCopy_any r A c _ (S13.rd0 hr) hlen) (Nat.le_refl _) fun A28 c28 a20 X20 h20 S20 => ?_
    refine mv h20 rfl rfl fun a21 h21 => ?_
    refine sl_bel h21 (wn rfl) (ex_call (fun _ _ => by kernel_rfl) (h21.evs rfl) rfl) rfl rfl S20 (rw2_any r A28 c28 sec _ (S20.rdOf (i := 0) rfl) hlen hx) fun a22 X22 h22 S22 => ?_
    refine mv h22 rfl rfl fun a23 h23 => ?_
    refine sl_val (v := diskV (rwrV r sec)) h23 (wn rfl) (ex_extract (h23.ev rfl) rfl) rfl rfl fun a24 h24 => ?_
    refine sl_val h24 (wn rfl) (ex_extract (h24.ev rfl) rfl) rfl rfl fun a25 h25 => ?_
    refine sl_new h25 (wn rfl) (f := fun b => .pointer (some ⟨b, 0, none⟩)) (ex_alloc (z := .agg #[.int .i64 0, .string ⟨#[]⟩]) (by kernel_rfl)) rfl rfl S22 fun b9 a26 X26 gb9 h26 S26 => ?_
    refine sl_store0 h26 (wn rfl) ⟨rfl, rfl⟩ (h26.ev rfl) (h26.ev rfl) rfl (by kernel_rfl) S26 (i := 0) rfl rfl rfl fun X27 S27 => ?_
    refine ma h26 rfl rfl fun a28 h28 => ?_
    refine st_nil (go_then (st_seq (st_reg ?_)))
    refine sl_val (v := ringV r A c) h28 (wn rfl) (ex_loads (by kernel_rfl) (by kernel_rfl) (h28.ev rfl) (S27.cellsAll (i := 4) rfl)) rfl rfl fun a29 h29 => ?_
    refine sl_bel h29 (wn rfl) (ex_call (fun _ _ => by kernel_rfl) (h29.evs rfl) rfl) rfl rfl S27 (rRingErr_any r A c _ (S27.rd0 hr) hlen hx) fun a30 X30 h30 S30 => ?_
    refine ma h30 rfl rfl fun a31 h31 => ?_
    refine st_nil (go_then (st_seq (st_seq (st_reg ?_))))
    refine mv h31 rfl rfl fun a32 h32 => ?_
    refine sl_val h32 (wn rfl) (ex_eql (h32.ev rfl) (h32.ev rfl)) rfl rfl fun a33 h33 => ?_
    refine mv h33 rfl rfl fun a34 h34 => ?_
    apply sl_and h34 S30 37 rfl 5 42
    case ht =>
     intro gc37
     refine sl_val (v := ringV r A c) h34 (wanted_yes h34 _ rfl rfl rfl gc37) (ex_loads (by kernel_rfl) (by kernel_rfl) (h34.ev rfl) (S30.cellsAll (i := 4) rfl)) rfl rfl fun a35 h35 => ?_
     refine sl_val h35 (wanted_yes h35 _ rfl rfl rfl gc37) (ex_move (h35.ev rfl)) rfl rfl fun a36 h36 => ?_
     refine sl_bel h36 (wanted_yes h36 _ rfl rfl rfl gc37) (ex_call (fun _ _ => by kernel_rfl) (h36.evs rfl) rfl) rfl rfl S30 (rHas_any r A c n _ (S30.rd0 hr) hlen) fun a37 X37 h37 S37 => ?_
     refine sl_val h37 (wanted_yes h37 _ rfl rfl rfl gc37) (ex_not (h37.ev rfl)) rfl rfl fun a38 h38 => ?_
     refine sl_val h38 (wn rfl) (ex_pick_t (h38.ev rfl) gc37 (h38.ev rfl)) rfl rfl fun a39 h39 => ?_
     exact st_nil ⟨h39.mid (m := [(_, _), (_, _), (_, _), (_, _)]) rfl, S37⟩
    case hf =>
     intro gc37
     refine sl_no h34 (wanted_no h34 _ rfl rfl rfl gc37) rfl rfl fun a40 h40 => ?_
     refine sl_no h40 (wanted_no h40 _ rfl rfl rfl gc37) rfl rfl fun a41 h41 => ?_
     refine sl_no h41 (wanted_no h41 _ rfl rfl rfl gc37) rfl rfl fun a42 h42 => ?_
     refine sl_no h42 (wanted_no h42 _ rfl rfl rfl gc37) rfl rfl fun a43 h43 => ?_
     refine sl_val h43 (wn rfl) (ex_pick_f (h43.ev rfl) gc37 (h43.ev rfl)) rfl rfl fun a44 h44 => ?_
     exact st_nil ⟨h44.mid (m := [(_, _), (_, _), (_, _), (_, _)]) rfl, S30⟩
    case h =>
     rintro a45 X45 ⟨h45, S45⟩
     refine st_nil (go_then ?_)
     refine st_joinH h45 S45 [(11, .int .i64 dA)] [10, 9, 8, 7, 6, 3, 1, 2] ?_ (fun a46 X46 h46 S46 => ?_)
     · skip
       refine st_if (h45.ev rfl) (fun hc2 => ?_) (fun hc2 => ?_)
       · skip
         refine st_reg ?_
         refine ma h45 rfl rfl fun a47 h47 => ?_
         refine st_nil (go_then ?_)
         have hq : (6 : Int) = dA := by
           simp only [Bool.and_eq_true, beq_iff_eq, Bool.not_eq_true'] at hc2
           rw [hdA, hc2.1, hc2.2]; rfl
         rw [hq] at h47
         exact ⟨h47.re ⟨rfl, rfl, rfl, rfl, rfl, rfl, rfl, rfl, rfl, trivial⟩, S45⟩
       · skip
         refine wp_skip (go_then ?_)
         have hq : (chkR r).2 = dA := by
           rw [hdA, firstE_c]
           by_cases h0 : (chkR r).2 = 0
           · rw [h0] at hc2 ⊢
             have h1 : hasR r.rs n = true := by simpa using hc2
             rw [h1]; rfl
           · rw [if_neg h0]
         rw [hq] at h45
         exact ⟨h45.re ⟨rfl, rfl, rfl, rfl, rfl, rfl, rfl, rfl, rfl, trivial⟩, S45⟩
     · skip
       refine go_then (st_seq (st_reg ?_))
       refine mv h46 rfl rfl fun a48 h48 => ?_
       refine sl_pure h48 (wn rfl) (ex_call (fun _ _ => by kernel_rfl) (h48.evs rfl) rfl) rfl rfl (Within_any _ _ _ _) fun a49 h49 => ?_
       refine ma h49 rfl rfl fun a50 h50 => ?_
       refine st_nil (go_then (st_seq (st_seq (st_reg ?_))))
       refine mv h50 rfl rfl fun a51 h51 => ?_
       refine sl_val h51 (wn rfl) (ex_eql (h51.ev rfl) (h51.ev rfl)) rfl rfl fun a52 h52 => ?_
       refine mv h52 rfl rfl fun a53 h53 => ?_
       apply sl_and h53 S46 47 rfl 3 50
       case ht =>
        intro gc47
        refine sl_val h53 (wanted_yes h53 _ rfl rfl rfl gc47) (ex_move (h53.ev rfl)) rfl rfl fun a54 h54 => ?_
        refine sl_val h54 (wanted_yes h54 _ rfl rfl rfl gc47) (ex_not (h54.ev rfl)) rfl rfl fun a55 h55 => ?_
        refine sl_val h55 (wn rfl) (ex_pick_t (h55.ev rfl) gc47 (h55.ev rfl)) rfl rfl fun a56 h56 => ?_
        exact st_nil ⟨h56.mid (m := [(_, _), (_, _)]) rfl, S46⟩
       case hf =>
        intro gc47
        refine sl_no h53 (wanted_no h53 _ rfl rfl rfl gc47) rfl rfl fun a57 h57 => ?_
        refine sl_no h57 (wanted_no h57 _ rfl rfl rfl gc47) rfl rfl fun a58 h58 => ?_
        refine sl_val h58 (wn rfl) (ex_pick_f (h58.ev rfl) gc47 (h58.ev rfl)) rfl rfl fun a59 h59 => ?_
        exact st_nil ⟨h59.mid (m := [(_, _), (_, _)]) rfl, S46⟩
       case h =>
        rintro a60 X60 ⟨h60, S60⟩
        refine st_nil (go_then ?_)
        refine st_joinH h60 S60 [(11, .int .i64 dB)] [12, 10, 9, 8, 7, 6, 3, 1, 2] ?_ (fun a61 X61 h61 S61 => ?_)
        · skip
          refine st_if (h60.ev rfl) (fun hc3 => ?_) (fun hc3 => ?_)
          · skip
            refine st_reg ?_
            refine ma h60 rfl rfl fun a62 h62 => ?_
            refine st_nil (go_then ?_)
            have hq : (2 : Int) = dB := by
              simp only [Bool.and_eq_true, beq_iff_eq, Bool.not_eq_true'] at hc3
              rw [hdB, hc3.1, hc3.2]; rfl
            rw [hq] at h62
            exact ⟨h62.re ⟨rfl, rfl, rfl, rfl, rfl, rfl, rfl, rfl, rfl, rfl, trivial⟩, S60⟩
          · skip
            refine wp_skip (go_then ?_)
            have hq : dA = dB := by
              rw [hdB, firstE_c]
              by_cases h0 : dA = 0
              · rw [h0] at hc3 ⊢
                have h1 : inB sec 0 2048 = true := by simpa using hc3
                rw [h1]; rfl
              · rw [if_neg h0]
            rw [hq] at h60
            exact ⟨h60.re ⟨rfl, rfl, rfl, rfl, rfl, rfl, rfl, rfl, rfl, rfl, trivial⟩, S60⟩
        · skip
          refine go_then (st_seq (st_seq (st_reg ?_)))
          refine mv h61 rfl rfl fun a63 h63 => ?_
          refine sl_val h63 (wn rfl) (ex_neq (h63.ev rfl) (h63.ev rfl)) rfl rfl fun a64 h64 => ?_
          refine mv h64 rfl rfl fun a65 h65 => ?_
          apply sl_and h65 S61 53 rfl 9 62
          case ht =>
           intro gc53
           refine sl_val h65 (wanted_yes h65 _ rfl rfl rfl gc53) (ex_move (h65.ev rfl)) rfl rfl fun a66 h66 => ?_
           refine sl_val h66 (wanted_yes h66 _ rfl rfl rfl gc53) (ex_move (h66.ev rfl)) rfl rfl fun a67 h67 => ?_
           refine sl_val h67 (wanted_yes h67 _ rfl rfl rfl gc53) (ex_neq (h67.ev rfl) (h67.ev rfl)) rfl rfl fun a68 h68 => ?_
           refine sl_val h68 (wanted_yes h68 _ rfl rfl rfl gc53) (ex_move (h68.ev rfl)) rfl rfl fun a69 h69 => ?_
           apply sl_or h69 S61 57 rfl 4 61
           case hf =>
            intro gc57
            refine sl_val h69 (wanted_yes h69 _ rfl rfl rfl gc57) (ex_move (h69.ev rfl)) rfl rfl fun a70 h70 => ?_
            refine sl_val h70 (wanted_yes h70 _ rfl rfl rfl gc57) (ex_len Tryz.underlying70 (h70.ev rfl)) rfl rfl fun a71 h71 => ?_
            refine sl_val h71 (wanted_yes h71 _ rfl rfl rfl gc57) (ex_neq (h71.ev rfl) (h71.ev rfl)) rfl rfl fun a72 h72 => ?_
            refine sl_val h72 (wanted_yes h72 _ rfl rfl rfl gc53) (ex_pick_f (h72.ev rfl) gc57 (h72.ev rfl)) rfl rfl fun a73 h73 => ?_
            exact st_nil ⟨h73.mid (m := [(_, _), (_, _), (_, _)]) rfl, S61⟩
           case ht =>
            intro gc57
            refine sl_no h69 (wanted_no h69 _ rfl rfl rfl gc57) rfl rfl fun a74 h74 => ?_
            refine sl_no h74 (wanted_no h74 _ rfl rfl rfl gc57) rfl rfl fun a75 h75 => ?_
            refine sl_no h75 (wanted_no h75 _ rfl rfl rfl gc57) rfl rfl fun a76 h76 => ?_
            refine sl_val h76 (wanted_yes h76 _ rfl rfl rfl gc53) (ex_pick_t (h76.ev rfl) gc57 (h76.ev rfl)) rfl rfl fun a77 h77 => ?_
            exact st_nil ⟨h77.mid (m := [(_, _), (_, _), (_, _)]) rfl, S61⟩
           case h =>
            rintro a78 X78 ⟨h78, S78⟩
            refine sl_val h78 (wn rfl) (ex_pick_t (h78.ev rfl) gc53 (h78.ev rfl)) rfl rfl fun a79 h79 => ?_
            exact st_nil ⟨h79.mid (m := [(_, _), (_, _), (_, _), (_, _), (_, _)]) rfl, S78⟩
          case hf =>
           intro gc53
           refine sl_no h65 (wanted_no h65 _ rfl rfl rfl gc53) rfl rfl fun a80 h80 => ?_
           refine sl_no h80 (wanted_no h80 _ rfl rfl rfl gc53) rfl rfl fun a81 h81 => ?_
           refine sl_no h81 (wanted_no h81 _ rfl rfl rfl gc53) rfl rfl fun a82 h82 => ?_
           refine sl_no h82 (wanted_no h82 _ rfl rfl rfl gc53) rfl rfl fun a83 h83 => ?_
           refine sl_no h83 (wanted_not h83 _ rfl rfl rfl) rfl rfl fun a84 h84 => ?_
           refine sl_no h84 (wanted_not h84 _ rfl rfl rfl) rfl rfl fun a85 h85 => ?_
           refine sl_no h85 (wanted_not h85 _ rfl rfl rfl) rfl rfl fun a86 h86 => ?_
           refine sl_no h86 (wanted_no h86 _ rfl rfl rfl gc53) rfl rfl fun a87 h87 => ?_
           refine sl_val h87 (wn rfl) (ex_pick_f (h87.ev rfl) gc53 (h87.ev rfl)) rfl rfl fun a88 h88 => ?_
           exact st_nil ⟨h88.mid (m := [(_, _), (_, _), (_, _), (_, _), (_, _), (_, _), (_, _), (_, _)]) rfl, S61⟩
          case h =>
           rintro a89 X89 ⟨h89, S89⟩
           refine mv h89 rfl rfl fun a90 h90 => ?_
           apply sl_or (x := dB == 0 && (wfrE r n sec != 0 || !decide (wfX r n sec = wfrL r n sec))) h90 S89 63 rfl 16 79
           case hf =>
            intro gc63
            refine sl_val h90 (wanted_yes h90 _ rfl rfl rfl gc63) (ex_move (h90.ev rfl)) rfl rfl fun a91 h91 => ?_
            refine sl_val h91 (wanted_yes h91 _ rfl rfl rfl gc63) (ex_eql (h91.ev rfl) (h91.ev rfl)) rfl rfl fun a92 h92 => ?_
            refine sl_val h92 (wanted_yes h92 _ rfl rfl rfl gc63) (ex_move (h92.ev rfl)) rfl rfl fun a93 h93 => ?_
            apply sl_and (x := wfrE r n sec != 0 || !decide (wfX r n sec = wfrL r n sec)) h93 S89 66 rfl 12 78
            case ht =>
             intro gc66
             refine sl_val h93 (wanted_yes h93 _ rfl rfl rfl gc66) (ex_move (h93.ev rfl)) rfl rfl fun a94 h94 => ?_
             refine sl_val h94 (wanted_yes h94 _ rfl rfl rfl gc66) (ex_neq (h94.ev rfl) (h94.ev rfl)) rfl rfl fun a95 h95 => ?_
             refine sl_val h95 (wanted_yes h95 _ rfl rfl rfl gc66) (ex_move (h95.ev rfl)) rfl rfl fun a96 h96 => ?_
             apply sl_or (x := !decide (wfX r n sec = wfrL r n sec)) h96 S89 69 rfl 8 77
             case hf =>
              intro gc69
              refine sl_val h96 (wanted_yes h96 _ rfl rfl rfl gc69) (ex_move (h96.ev rfl)) rfl rfl fun a97 h97 => ?_
              refine sl_val (v := ringV r A c) h97 (wanted_yes h97 _ rfl rfl rfl gc69) (ex_loads (by kernel_rfl) (by kernel_rfl) (h97.ev rfl) (S89.cellsAll (i := 4) rfl)) rfl rfl fun a98 h98 => ?_
              refine sl_val h98 (wanted_yes h98 _ rfl rfl rfl gc69) (ex_move (h98.ev rfl)) rfl rfl fun a99 h99 => ?_
              refine sl_val h99 (wanted_yes h99 _ rfl rfl rfl gc69) (ex_move (h99.ev rfl)) rfl rfl fun a100 h100 => ?_
              refine sl_own h100 (wanted_yes h100 _ rfl rfl rfl gc69) (ex_call (fun _ _ => by kernel_rfl) (h100.evs rfl) rfl) rfl rfl S89 (rWrites_any r A c n sec _ (S89.rd0 hr) (hzz (eq_of_beq gc66)).1 (hzz (eq_of_beq gc66)).2.1 (by have := (hzz (eq_of_beq gc66)).2.2; omega)) (Nat.le_refl _) fun A74 c74 a101 X101 h101 S101 => ?_
              refine sl_bel h101 (wanted_yes h101 _ rfl rfl rfl gc69) (ex_call (fun _ _ => by kernel_rfl) (h101.evs rfl) rfl) rfl rfl S101 (sameWrites_any (wfX r n sec) (wfrL r n sec) A23 A74 c23 c74 _ (S101.rdOf (i := 3) rfl) (S101.rdOf (i := 0) rfl) hwl) fun a102 X102 h102 S102 => ?_
              refine sl_val h102 (wanted_yes h102 _ rfl rfl rfl gc69) (ex_not (h102.ev rfl)) rfl rfl fun a103 h103 => ?_
              refine sl_val h103 (wanted_yes h103 _ rfl rfl rfl gc66) (ex_pick_f (h103.ev rfl) gc69 (h103.ev rfl)) rfl rfl fun a104 h104 => ?_
              exact st_nil ⟨h104.mid (m := [(_, _), (_, _), (_, _), (_, _), (_, _), (_, _), (_, _)]) rfl, S102.sub (.cons _ (.cons_cons _ (.cons_cons _ (.cons_cons _ (.cons_cons _ (.cons_cons _ .slnil))))))⟩
             case ht =>
              intro gc69
              refine sl_no h96 (wanted_no h96 _ rfl rfl rfl gc69) rfl rfl fun a105 h105 => ?_
              refine sl_no h105 (wanted_no h105 _ rfl rfl rfl gc69) rfl rfl fun a106 h106 => ?_
              refine sl_no h106 (wanted_no h106 _ rfl rfl rfl gc69) rfl rfl fun a107 h107 => ?_
              refine sl_no h107 (wanted_no h107 _ rfl rfl rfl gc69) rfl rfl fun a108 h108 => ?_
              refine sl_no h108 (wanted_no h108 _ rfl rfl rfl gc69) rfl rfl fun a109 h109 => ?_
              refine sl_no h109 (wanted_no h109 _ rfl rfl rfl gc69) rfl rfl fun a110 h110 => ?_
              refine sl_no h110 (wanted_no h110 _ rfl rfl rfl gc69) rfl rfl fun a111 h111 => ?_
              refine sl_val h111 (wanted_yes h111 _ rfl rfl rfl gc66) (ex_pick_t (h111.ev rfl) gc69 (h111.ev rfl)) rfl rfl fun a112 h112 => ?_
              exact st_nil ⟨h112.mid (m := [(_, _), (_, _), (_, _), (_, _), (_, _), (_, _), (_, _)]) rfl, S89⟩
             case h =>
              rintro a113 X113 ⟨h113, S113⟩
              refine sl_val h113 (wanted_yes h113 _ rfl rfl rfl gc63) (ex_pick_t (h113.ev rfl) gc66 (h113.ev rfl)) rfl rfl fun a114 h114 => ?_
              exact st_nil ⟨h114.mid (m := [(_, _), (_, _), (_, _), (_, _)]) rfl, S113⟩
            case hf =>
             intro gc66
             refine sl_no h93 (wanted_no h93 _ rfl rfl rfl gc66) rfl rfl fun a115 h115 => ?_
             refine sl_no h115 (wanted_no h115 _ rfl rfl rfl gc66) rfl rfl fun a116 h116 => ?_
             refine sl_no h116 (wanted_no h116 _ rfl rfl rfl gc66) rfl rfl fun a117 h117 => ?_
             refine sl_no h117 (wanted_not h117 _ rfl rfl rfl) rfl rfl fun a118 h118 => ?_
             refine sl_no h118 (wanted_not h118 _ rfl rfl rfl) rfl rfl fun a119 h119 => ?_
             refine sl_no h119 (wanted_not h119 _ rfl rfl rfl) rfl rfl fun a120 h120 => ?_
             refine sl_no h120 (wanted_not h120 _ rfl rfl rfl) rfl rfl fun a121 h121 => ?_
             refine sl_no h121 (wanted_not h121 _ rfl rfl rfl) rfl rfl fun a122 h122 => ?_
             refine sl_no h122 (wanted_not h122 _ rfl rfl rfl) rfl rfl fun a123 h123 => ?_
             refine sl_no h123 (wanted_not h123 _ rfl rfl rfl) rfl rfl fun a124 h124 => ?_
             refine sl_no h124 (wanted_no h124 _ rfl rfl rfl gc66) rfl rfl fun a125 h125 => ?_
             refine sl_val h125 (wanted_yes h125 _ rfl rfl rfl gc63) (ex_pick_f (h125.ev rfl) gc66 (h125.ev rfl)) rfl rfl fun a126 h126 => ?_
             exact st_nil ⟨h126.mid (m := [(_, _), (_, _), (_, _), (_, _), (_, _), (_, _), (_, _), (_, _), (_, _), (_, _), (_, _)]) rfl, S89⟩
            case h =>
             rintro a127 X127 ⟨h127, S127⟩
             refine sl_val h127 (wn rfl) (ex_pick_f (h127.ev rfl) gc63 (h127.ev rfl)) rfl rfl fun a128 h128 => ?_
             exact st_nil ⟨h128.mid (m := [(_, _), (_, _), (_, _), (_, _)]) rfl, S127⟩
           case ht =>
            intro gc63
            refine sl_no h90 (wanted_no h90 _ rfl rfl rfl gc63) rfl rfl fun a129 h129 => ?_
            refine sl_no h129 (wanted_no h129 _ rfl rfl rfl gc63) rfl rfl fun a130 h130 => ?_
            refine sl_no h130 (wanted_no h130 _ rfl rfl rfl gc63) rfl rfl fun a131 h131 => ?_
            refine sl_no h131 (wanted_not h131 _ rfl rfl rfl) rfl rfl fun a132 h132 => ?_
            refine sl_no h132 (wanted_not h132 _ rfl rfl rfl) rfl rfl fun a133 h133 => ?_
            refine sl_no h133 (wanted_not h133 _ rfl rfl rfl) rfl rfl fun a134 h134 => ?_
            refine sl_no h134 (wanted_not h134 _ rfl rfl rfl) rfl rfl fun a135 h135 => ?_
            refine sl_no h135 (wanted_not h135 _ rfl rfl rfl) rfl rfl fun a136 h136 => ?_
            refine sl_no h136 (wanted_not h136 _ rfl rfl rfl) rfl rfl fun a137 h137 => ?_
            refine sl_no h137 (wanted_not h137 _ rfl rfl rfl) rfl rfl fun a138 h138 => ?_
            refine sl_no h138 (wanted_not h138 _ rfl rfl rfl) rfl rfl fun a139 h139 => ?_
            refine sl_no h139 (wanted_not h139 _ rfl rfl rfl) rfl rfl fun a140 h140 => ?_
            refine sl_no h140 (wanted_not h140 _ rfl rfl rfl) rfl rfl fun a141 h141 => ?_
            refine sl_no h141 (wanted_not h141 _ rfl rfl rfl) rfl rfl fun a142 h142 => ?_
            refine sl_no h142 (wanted_no h142 _ rfl rfl rfl gc63) rfl rfl fun a143 h143 => ?_
            refine sl_val h143 (wn rfl) (ex_pick_t (h143.ev rfl) gc63 (h143.ev rfl)) rfl rfl fun a144 h144 => ?_
            exact st_nil ⟨h144.mid (m := [(_, _), (_, _), (_, _), (_, _), (_, _), (_, _), (_, _), (_, _), (_, _), (_, _), (_, _), (_, _), (_, _), (_, _), (_, _)]) rfl, S89⟩
           case h =>
            rintro a145 X145 ⟨h145, S145⟩
            refine st_nil (go_then ?_)
            refine st_if_f (h145.ev rfl) (hif4) ?_
            refine wp_skip (go_then (st_seq (st_seq (st_reg ?_))))
            refine sl_val (v := ringV r A c) h145 (wn rfl) (ex_loads (by kernel_rfl) (by kernel_rfl) (h145.ev rfl) (S145.cellsAll (i := 4) rfl)) rfl rfl fun a146 h146 => ?_
            refine sl_bel h146 (wn rfl) (ex_call (fun _ _ => by kernel_rfl) (h146.evs rfl) rfl) rfl rfl S145 (rRingErr_any r A c _ (S145.rd0 hr) hlen hx) fun a147 X147 h147 S147 => ?_
            refine ma h147 rfl rfl fun a148 h148 => ?_
            refine st_nil (go_then (st_seq (st_reg ?_)))
            refine mv h148 rfl rfl fun a149 h149 => ?_
            refine sl_val h149 (wn rfl) (ex_eql (h149.ev rfl) (h149.ev rfl)) rfl rfl fun a150 h150 => ?_
            refine mv h150 rfl rfl fun a151 h151 => ?_
            apply sl_and h151 S147 84 rfl 3 87
            case ht =>
             intro gc84
             refine sl_val h151 (wanted_yes h151 _ rfl rfl rfl gc84) (ex_move (h151.ev rfl)) rfl rfl fun a152 h152 => ?_
             refine sl_val h152 (wanted_yes h152 _ rfl rfl rfl gc84) (ex_not (h152.ev rfl)) rfl rfl fun a153 h153 => ?_
             refine sl_val h153 (wn rfl) (ex_pick_t (h153.ev rfl) gc84 (h153.ev rfl)) rfl rfl fun a154 h154 => ?_
             exact st_nil ⟨h154.mid (m := [(_, _), (_, _)]) rfl, S147⟩
            case hf =>
             intro gc84
             refine sl_no h151 (wanted_no h151 _ rfl rfl rfl gc84) rfl rfl fun a155 h155 => ?_
             refine sl_no h155 (wanted_no h155 _ rfl rfl rfl gc84) rfl rfl fun a156 h156 => ?_
             refine sl_val h156 (wn rfl) (ex_pick_f (h156.ev rfl) gc84 (h156.ev rfl)) rfl rfl fun a157 h157 => ?_
             exact st_nil ⟨h157.mid (m := [(_, _), (_, _)]) rfl, S147⟩
            case h =>
             rintro a158 X158 ⟨h158, S158⟩
             refine st_nil (go_then ?_)
             refine st_joinH h158 S158 [(11, .int .i64 (rwrE r sec))] [10, 9, 6, 3, 2] ?_ (fun a159 X159 h159 S159 => ?_)
             · skip
               refine st_if (h158.ev rfl) (fun hc5 => ?_) (fun hc5 => ?_)
               · skip
                 refine st_reg ?_
                 refine ma h158 rfl rfl fun a160 h160 => ?_
                 refine st_nil (go_then ?_)
                 have hq : (2 : Int) = rwrE r sec := by
                   simp only [Bool.and_eq_true, beq_iff_eq, Bool.not_eq_true'] at hc5
                   unfold rwrE
                   rw [hc5.1, hc5.2]; rfl
                 rw [hq] at h160
                 exact ⟨h160.re ⟨rfl, rfl, rfl, rfl, rfl, rfl, trivial⟩, S158⟩
               · skip
                 refine wp_skip (go_then ?_)
                 have hq : (chkR r).2 = rwrE r sec := by
                   unfold rwrE
                   rw [firstE_c]
                   by_cases h0 : (chkR r).2 = 0
                   · rw [h0] at hc5 ⊢
                     have h1 : inB sec 0 2048 = true := by simpa using hc5
                     rw [h1]; rfl
                   · rw [if_neg h0]
                 rw [hq] at h158
                 exact ⟨h158.re ⟨rfl, rfl, rfl, rfl, rfl, rfl, trivial⟩, S158⟩
             · skip
               refine go_then (st_seq (st_seq (st_reg ?_)))
               refine mv h159 rfl rfl fun a161 h161 => ?_
               refine sl_val h161 (wn rfl) (ex_neq (h161.ev rfl) (h161.ev rfl)) rfl rfl fun a162 h162 => ?_
               refine st_nil (go_then ?_)
               refine st_if (h162.ev rfl) (fun hc6 => ?_) (fun hc6 => ?_)
               · skip
                 have hne : ¬ rwrE r sec = 0 := by simpa using hc6
                 have hv : rwrV r sec = (0, []) := by unfold rwrV; rw [if_neg hne]
                 refine st_seq (st_reg ?_)
                 refine mv h162 rfl rfl fun a163 h163 => ?_
                 refine mv h163 rfl rfl fun a164 h164 => ?_
                 refine sl_val h164 (wn rfl) (ex_eql (h164.ev rfl) (h164.ev rfl)) rfl rfl fun a165 h165 => ?_
                 refine mv h165 rfl rfl fun a166 h166 => ?_
                 apply sl_and h166 S159 93 rfl 4 97
                 case ht =>
                  intro gc93
                  refine sl_val (v := diskV (rwrV r sec)) h166 (wanted_yes h166 _ rfl rfl rfl gc93) (ex_loads (by kernel_rfl) (by kernel_rfl) (h166.ev rfl) (S159.cellsAll (i := 0) rfl)) rfl rfl fun a167 h167 => ?_
                  refine sl_val h167 (wanted_yes h167 _ rfl rfl rfl gc93) (ex_build (zs := [.int .i64 0, .string ⟨#[]⟩]) (pl := [(0, 1), (1, 1)]) (by kernel_rfl) (by kernel_rfl) (h167.evs2 rfl) rfl rfl) rfl rfl fun a168 h168 => ?_
                  refine sl_val h168 (wanted_yes h168 _ rfl rfl rfl gc93) (ex_teql (ks := [.i .i64, .s]) (by kernel_rfl) Tryz.underlying74 (by kernel_rfl) (h168.ev rfl) (h168.ev rfl) rfl rfl) rfl rfl fun a169 h169 => ?_
                  refine sl_val h169 (wn rfl) (ex_pick_t (h169.ev rfl) gc93 (h169.ev rfl)) rfl rfl fun a170 h170 => ?_
                  exact st_nil ⟨h170.mid (m := [(_, _), (_, _), (_, _)]) rfl, S159⟩
                 case hf =>
                  intro gc93
                  refine sl_no h166 (wanted_no h166 _ rfl rfl rfl gc93) rfl rfl fun a171 h171 => ?_
                  refine sl_no h171 (wanted_no h171 _ rfl rfl rfl gc93) rfl rfl fun a172 h172 => ?_
                  refine sl_no h172 (wanted_no h172 _ rfl rfl rfl gc93) rfl rfl fun a173 h173 => ?_
                  refine sl_val h173 (wn rfl) (ex_pick_f (h173.ev rfl) gc93 (h173.ev rfl)) rfl rfl fun a174 h174 => ?_
                  exact st_nil ⟨h174.mid (m := [(_, _), (_, _), (_, _)]) rfl, S159⟩
                 case h =>
                  rintro a175 X175 ⟨h175, S175⟩
                  refine ma h175 rfl rfl fun a176 h176 => ?_
                  refine st_nil (go_then (wp_ret (ret_then ?_)))
                  refine fin1 h176 rfl rfl ?_
                  refine ⟨?_, S175.below⟩
                  have e1 : eqL [.int .i64 (rwrV r sec).1, .string (bs (rwrV r sec).2)] [.int .i64 0, .string (⟨#[]⟩ : ByteArray)] = true := by
                    rw [show (⟨#[]⟩ : ByteArray) = bs ([] : List UInt8) from rfl]
                    exact (disk_eqL (rwrV r sec) (0, [])).trans (decide_eq_true hv)
                  rw [e1]; simp
               · skip
                 have hz : rwrE r sec = 0 := by simpa using hc6
                 have hz2 := hz
                 unfold rwrE at hz2
                 rw [firstE_zero] at hz2
                 have hok := ok_iff.1 (hz2 (chkR r).2 (.head _))
                 have hsb := inB_true.1 ((unl_zero (by decide)).1 (hz2 (unl (inB sec 0 2048) 2) (.tail _ (.head _))))
                 have hv : rwrV r sec = (sec + 8 * (r.r.s % 2), rsL r.r r.pg) := by unfold rwrV; rw [if_pos hz]
                 refine wp_skip (go_then (st_seq ?_))
                 apply dr_flow h162 [false, false, false, false, false, false, false, false, false] _ (by kernel_rfl)
                 case h =>
                  refine sq_val h162 (wn rfl) rfl rfl (fun X hX => (ex_move (h162.ev rfl))) fun a177 h177 => ?_
                  refine sq_val h177 (wn rfl) rfl rfl (fun X hX => (ex_eql (h177.ev rfl) (h177.ev rfl))) fun a178 h178 => ?_
                  refine sq_val h178 (wn rfl) rfl rfl (fun X hX => (ex_move (h178.ev rfl))) fun a179 h179 => ?_
                  refine sq_val (v := diskV (rwrV r sec)) h179 (wanted_yes h179 _ rfl rfl rfl ((by rw [hz]; rfl))) rfl rfl (fun X hX => (ex_loads (by kernel_rfl) (by kernel_rfl) (h179.ev rfl) ((S159.grow hX).cellsAll (i := 0) rfl))) fun a180 h180 => ?_
                  refine sq_val (v := ringV r A c) h180 (wanted_yes h180 _ rfl rfl rfl ((by rw [hz]; rfl))) rfl rfl (fun X hX => (ex_loads (by kernel_rfl) (by kernel_rfl) (h180.ev rfl) ((S159.grow hX).cellsAll (i := 4) rfl))) fun a181 h181 => ?_
                  refine sq_val h181 (wanted_yes h181 _ rfl rfl rfl ((by rw [hz]; rfl))) rfl rfl (fun X hX => (ex_move (h181.ev rfl))) fun a182 h182 => ?_
                  refine sq_bel h182 (wanted_yes h182 _ rfl rfl rfl ((by rw [hz]; rfl))) rfl rfl (fun X => (ex_call (fun _ _ => by kernel_rfl) (h182.evs rfl) rfl)) (fun X hX => rRestartWrite_any r A c sec _ hok (by omega)) fun a183 h183 => ?_
                  refine sq_val h183 (wanted_yes h183 _ rfl rfl rfl ((by rw [hz]; rfl))) rfl rfl (fun X hX => (ex_teql (ks := [.i .i64, .s]) (by kernel_rfl) Tryz.underlying74 (by kernel_rfl) (h183.ev rfl) (h183.ev rfl) rfl rfl)) fun a184 h184 => ?_
                  refine sq_val h184 (wn rfl) rfl rfl (fun X hX => (ex_pick_t (h184.ev rfl) ((by rw [hz]; rfl)) (h184.ev rfl))) fun a185 h185 => ?_
                  refine sq_nil ?_
                  refine nd_end fun X186 hX186 hΦ186 => ?_
                  have S186 := S159.grow hX186
                  refine ma h185 rfl rfl fun a187 h187 => ?_
                  refine st_nil (go_then (wp_ret ?_))
                  refine fin1 h187 rfl rfl ?_
                  refine ⟨?_, S186.below⟩
                  have e1 : eqL [.int .i64 (rwrV r sec).1, .string (bs (rwrV r sec).2)] [.int .i64 (sec + 8 * (r.r.s % 2)), .string (bs (rsL r.r r.pg))] = true := (disk_eqL (rwrV r sec) (sec + 8 * (r.r.s % 2), rsL r.r r.pg)).trans (decide_eq_true hv)
                  show Ending.returned (Value.bool (eqL [.int .i64 (rwrV r sec).1, .string (bs (rwrV r sec).2)] [.int .i64 (sec + 8 * (r.r.s % 2)), .string (bs (rsL r.r r.pg))])) = _
                  rw [e1]
                 case hB => kernel_rfl
                 case hst => rfl
end Go.Proofs.YtmlilplbdpjfcaaGreatDoor
