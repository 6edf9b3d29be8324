/-
  RingRestarts: the walk.
-/
import Derived.Test.YtmlilplbdpjfcaaGreatDoorRg29
import Derived.Test.YtmlilplbdpjfcaaGreatDoorRg25
import Derived.Test.YtmlilplbdpjfcaaGreatDoorRgR
namespace Go.Proofs.YtmlilplbdpjfcaaGreatDoor
set_option linter.unusedVariables false
set_option linter.unusedSimpArgs false
set_option maxRecDepth 4000
open Go.RowKit Go.Sort
def clX (r : RngP) : RngP := if (chkR r).2 = 0 then cloR r else rng0
def clE (r : RngP) : Int := if (chkR r).2 = 0 then cloE r else (chkR r).2
def rsX (r : RngP) (c o : Int) : RngP := if rs2E r c o = 0 then rsaV r c o else rng0
theorem cloR_le (r : RngP) (hlen : r.rs.length ≤ 1000) : (cloR r).rs.length ≤ 1000 := by unfold cloR; split; exact hlen; exact Nat.zero_le _
theorem clX_le {r : RngP} (hlen : r.rs.length ≤ 1000) : (clX r).rs.length ≤ 1000 := by unfold clX; split; exact cloR_le r hlen; exact Nat.zero_le _
theorem rsaV_le (r : RngP) (c o : Int) (hlen : r.rs.length ≤ 1000) : (rsaV r c o).rs.length ≤ 1000 := Nat.le_trans (List.length_filter_le _ _) hlen
theorem rsX_le {r : RngP} (c o : Int) (hlen : r.rs.length ≤ 1000) : (rsX r c o).rs.length ≤ 1000 := by unfold rsX; split; exact rsaV_le r c o hlen; exact Nat.zero_le _
theorem clo2_any (r : RngP) (A : Option Addr) (c : Nat) (w : World) (hr : Rd w w.heap.size A (recsV r.rs)) (hlen : r.rs.length ≤ 1000) (hx : ∀ x ∈ r.rs, I6 x.l) :
    Calls Tryz.prog 13 #[ringV r A c] w fun e w' => ∃ A' c', e = .returned (.tuple #[ringV (clX r) A' c', .int .i64 (clE r)]) ∧ w'.ownsRow w.heap.size 98 3 (.slice A' (clX r).rs.length c') (clX r).rs.length (recsV (clX r).rs) ∧ Below w.heap.size w w' := Closed_any r A c w hr hlen hx
theorem rst2_any (r : RngP) (A : Option Addr) (c : Nat) (cp ol : Int) (w : World) (hr : Rd w w.heap.size A (recsV r.rs)) (hlen : r.rs.length ≤ 1000) (hx : ∀ x ∈ r.rs, I6 x.l) :
    Calls Tryz.prog 15 #[ringV r A c, .int .i64 cp, .int .i64 ol] w fun e w' => ∃ A' c', e = .returned (.tuple #[ringV (rsX r cp ol) A' c', .int .i64 (rs2E r cp ol)]) ∧ w'.ownsRow w.heap.size 98 3 (.slice A' (rsX r cp ol).rs.length c') (rsX r cp ol).rs.length (recsV (rsX r cp ol).rs) ∧ Below w.heap.size w w' := Restarted_any r A c cp ol w hr hlen hx
theorem RingRestarts_any (r : RngP) (hI : RngI r) (A : Option Addr) (c : Nat) (cp : Int) (hcp : (Lit.int .i64 cp).wf = true) (ol : Int) (hol : (Lit.int .i64 ol).wf = true) (w : World) (hr : Rd w w.heap.size A (recsV r.rs)) :
    Calls Tryz.prog 3 #[ringV r A c, .int .i64 cp, .int .i64 ol] w fun e w' => e = .returned (.bool true) ∧ Below w.heap.size w w' := by
  have hi : I6 cp ∧ I6 ol := ⟨wf_i64 hcp, wf_i64 hol⟩
  refine st_enter (N := 108) Tryz.func3 rfl rfl rfl (fun a0 h0 => ?_)
  have S0 := St.init w
  refine st_seq ?_
  refine st_reg ?_
  refine sl_new h0 (wn rfl) (f := fun b => .pointer (some ⟨b, 0, none⟩)) (ex_box (h0.ev rfl)) rfl rfl S0 fun b3 a1 X1 gb3 h1 S1 => ?_
  refine sl_val h1 (wn rfl) (ex_assign (h1.ev rfl)) rfl rfl fun a2 h2 => ?_
  refine st_nil ?_
  refine go_then ?_
  refine st_seq ?_
  refine st_seq ?_
  refine st_reg ?_
  refine sl_bel h2 (wn rfl) (ex_call (fun _ _ => by kernel_rfl) (h2.evs rfl) rfl) rfl rfl S1 (awake_any _) fun a3 X3 h3 S3 => ?_
  refine sl_val h3 (wn rfl) (ex_not (h3.ev rfl)) rfl rfl fun a4 h4 => ?_
  refine st_nil ?_
  refine go_then ?_
  refine st_if_f (h4.ev rfl) (rfl) ?_
  refine wp_skip ?_
  refine go_then ?_
  refine st_seq ?_
  refine st_seq ?_
  refine st_reg ?_
  refine sl_val (v := ringV r A c) h4 (wn rfl) (ex_loads (by kernel_rfl) (by kernel_rfl) (h4.ev rfl) (S3.cellsAll (i := 0) rfl)) rfl rfl fun a5 h5 => ?_
  refine sl_bel h5 (wn rfl) (ex_call (fun _ _ => by kernel_rfl) (h5.evs rfl) rfl) rfl rfl S3 (Few_any r A c _ (S3.rd0 hr)) fun a6 X6 h6 S6 => ?_
  refine sl_val h6 (wn rfl) (ex_not (h6.ev rfl)) rfl rfl fun a7 h7 => ?_
  refine st_nil ?_
  refine go_then ?_
  refine st_if (h7.ev rfl) (fun hc1 => ?_) (fun hc1 => ?_)
  · skip
    refine st_seq ?_
    refine st_reg ?_
    refine sl_val h7 (wn rfl) (ex_assign (h7.ev rfl)) rfl rfl fun a8 h8 => ?_
    refine st_nil ?_
    refine go_then ?_
    refine wp_ret ?_
    refine ret_then ?_
    refine fin1 h8 rfl rfl ?_
    exact ⟨rfl, S6.below⟩
  · skip
    have hf : fewB r = true := by simpa using hc1
    have hlen := few_le hf
    have hx : ∀ x ∈ r.rs, I6 x.l := fun x hx => (hI.rs x hx).1
    have hcl := clX_le hlen
    have hrl := rsX_le cp ol hlen
    refine wp_skip ?_
    refine go_then ?_
    refine st_seq ?_
    refine st_reg ?_
    refine sl_val (v := ringV r A c) h7 (wn rfl) (ex_loads (by kernel_rfl) (by kernel_rfl) (h7.ev rfl) (S6.cellsAll (i := 0) rfl)) rfl rfl fun a9 h9 => ?_
    refine sl_ownt h9 (wn rfl) (ex_call (fun _ _ => by kernel_rfl) (h9.evs rfl) rfl) rfl rfl S6 (rCopy_any r A c _ (S6.rd0 hr) hlen) (Nat.le_refl _) fun A26 c26 a10 X10 h10 S10 => ?_
    refine sl_ownt h10 (wn rfl) (ex_call (fun _ _ => by kernel_rfl) (h10.evs rfl) rfl) rfl rfl S10 (clo2_any r A26 c26 _ (S10.rdOf (i := 0) rfl) hlen hx) (Nat.le_refl _) fun A27 c27 a11 X11 h11 S11 => ?_
    refine sl_val h11 (wn rfl) (ex_move (h11.ev rfl)) rfl rfl fun a12 h12 => ?_
    refine sl_val h12 (wn rfl) (ex_extract (h12.ev rfl) rfl) rfl rfl fun a13 h13 => ?_
    refine sl_val h13 (wn rfl) (ex_extract (h13.ev rfl) rfl) rfl rfl fun a14 h14 => ?_
    refine sl_new h14 (wn rfl) (f := fun b => .pointer (some ⟨b, 0, none⟩)) (ex_alloc (z := .agg #[.int .i64 0, .int .i64 0, .int .i64 0, .int .i64 0, .int .i64 0, .int .i64 0, .int .i64 0, .slice none 0 0, .int .i64 0]) (by kernel_rfl)) rfl rfl S11 fun b7 a15 X15 gb7 h15 S15 => ?_
    refine sl_store0 h15 (wn rfl) ⟨rfl, rfl⟩ (h15.ev rfl) (h15.ev rfl) rfl (by kernel_rfl) S15 (i := 0) rfl rfl rfl fun X16 S16 => ?_
    refine sl_val h15 (wn rfl) (ex_assign (h15.ev rfl)) rfl rfl fun a17 h17 => ?_
    refine st_nil ?_
    refine go_then ?_
    refine st_seq ?_
    refine st_reg ?_
    refine sl_val (v := ringV r A c) h17 (wn rfl) (ex_loads (by kernel_rfl) (by kernel_rfl) (h17.ev rfl) (S16.cellsAll (i := 3) rfl)) rfl rfl fun a18 h18 => ?_
    refine sl_ownt h18 (wn rfl) (ex_call (fun _ _ => by kernel_rfl) (h18.evs rfl) rfl) rfl rfl S16 (rCopy_any r A c _ (S16.rd0 hr) hlen) (Nat.le_refl _) fun A32 c32 a19 X19 h19 S19 => ?_
    refine sl_val h19 (wn rfl) (ex_move (h19.ev rfl)) rfl rfl fun a20 h20 => ?_
    refine sl_val h20 (wn rfl) (ex_move (h20.ev rfl)) rfl rfl fun a21 h21 => ?_
    refine sl_ownt h21 (wn rfl) (ex_call (fun _ _ => by kernel_rfl) (h21.evs rfl) rfl) rfl rfl S19 (rst2_any r A32 c32 cp ol _ (S19.rdOf (i := 0) rfl) hlen hx) (Nat.le_refl _) fun A35 c35 a22 X22 h22 S22 => ?_
    refine sl_val h22 (wn rfl) (ex_move (h22.ev rfl)) rfl rfl fun a23 h23 => ?_
    refine sl_val h23 (wn rfl) (ex_extract (h23.ev rfl) rfl) rfl rfl fun a24 h24 => ?_
    refine sl_val h24 (wn rfl) (ex_extract (h24.ev rfl) rfl) rfl rfl fun a25 h25 => ?_
    refine sl_new h25 (wn rfl) (f := fun b => .pointer (some ⟨b, 0, none⟩)) (ex_alloc (z := .agg #[.int .i64 0, .int .i64 0, .int .i64 0, .int .i64 0, .int .i64 0, .int .i64 0, .int .i64 0, .slice none 0 0, .int .i64 0]) (by kernel_rfl)) rfl rfl S22 fun b9 a26 X26 gb9 h26 S26 => ?_
    refine sl_store0 h26 (wn rfl) ⟨rfl, rfl⟩ (h26.ev rfl) (h26.ev rfl) rfl (by kernel_rfl) S26 (i := 0) rfl rfl rfl fun X27 S27 => ?_
    refine sl_val h26 (wn rfl) (ex_assign (h26.ev rfl)) rfl rfl fun a28 h28 => ?_
    refine st_nil ?_
    refine go_then ?_
    refine st_seq ?_
    refine st_seq ?_
    refine st_reg ?_
    refine sl_val (v := ringV r A c) h28 (wn rfl) (ex_loads (by kernel_rfl) (by kernel_rfl) (h28.ev rfl) (S27.cellsAll (i := 6) rfl)) rfl rfl fun a29 h29 => ?_
    refine sl_bel h29 (wn rfl) (ex_call (fun _ _ => by kernel_rfl) (h29.evs rfl) rfl) rfl rfl S27 (rRingErr_any r A c _ (S27.rd0 hr) hlen hx) fun a30 X30 h30 S30 => ?_
    refine sl_val h30 (wn rfl) (ex_assign (h30.ev rfl)) rfl rfl fun a31 h31 => ?_
    refine st_nil ?_
    refine go_then ?_
    refine st_seq ?_
    refine st_reg ?_
    refine sl_val h31 (wn rfl) (ex_move (h31.ev rfl)) rfl rfl fun a32 h32 => ?_
    refine sl_val h32 (wn rfl) (ex_neq (h32.ev rfl) (h32.ev rfl)) rfl rfl fun a33 h33 => ?_
    refine st_nil ?_
    refine go_then ?_
    refine st_if (h33.ev rfl) (fun hc2 => ?_) (fun hc2 => ?_)
    · skip
      have hne : ¬ (chkR r).2 = 0 := by simpa using hc2
      have e1 : clE r = (chkR r).2 := by unfold clE; rw [if_neg hne]
      have e2 : clX r = rng0 := by unfold clX; rw [if_neg hne]
      have e3 : rs2E r cp ol = (chkR r).2 := by rw [rs2E_eq, if_neg hne]
      have e4 : rsX r cp ol = rng0 := by unfold rsX; rw [if_neg (by rw [e3]; exact hne)]
      refine st_seq ?_
      refine st_reg ?_
      refine sl_val h33 (wn rfl) (ex_move (h33.ev rfl)) rfl rfl fun a34 h34 => ?_
      refine sl_val h34 (wn rfl) (ex_move (h34.ev rfl)) rfl rfl fun a35 h35 => ?_
      refine sl_val h35 (wn rfl) (ex_eql (h35.ev rfl) (h35.ev rfl)) rfl rfl fun a36 h36 => ?_
      refine sl_val h36 (wn rfl) (ex_move (h36.ev rfl)) rfl rfl fun a37 h37 => ?_
      apply sl_and h37 S30 45 rfl 4 49
      case ht =>
       intro gc45
       refine sl_val h37 (wanted_yes h37 _ rfl rfl rfl gc45) (ex_move (h37.ev rfl)) rfl rfl fun a38 h38 => ?_
       refine sl_val h38 (wanted_yes h38 _ rfl rfl rfl gc45) (ex_move (h38.ev rfl)) rfl rfl fun a39 h39 => ?_
       refine sl_val h39 (wanted_yes h39 _ rfl rfl rfl gc45) (ex_eql (h39.ev rfl) (h39.ev rfl)) rfl rfl fun a40 h40 => ?_
       refine sl_val h40 (wn rfl) (ex_pick_t (h40.ev rfl) gc45 (h40.ev rfl)) rfl rfl fun a41 h41 => ?_
       exact st_nil ⟨h41.mid (m := [(_, _), (_, _), (_, _)]) rfl, S30⟩
      case hf =>
       intro gc45
       refine sl_no h37 (wanted_no h37 _ rfl rfl rfl gc45) rfl rfl fun a42 h42 => ?_
       refine sl_no h42 (wanted_no h42 _ rfl rfl rfl gc45) rfl rfl fun a43 h43 => ?_
       refine sl_no h43 (wanted_no h43 _ rfl rfl rfl gc45) rfl rfl fun a44 h44 => ?_
       refine sl_val h44 (wn rfl) (ex_pick_f (h44.ev rfl) gc45 (h44.ev rfl)) rfl rfl fun a45 h45 => ?_
       exact st_nil ⟨h45.mid (m := [(_, _), (_, _), (_, _)]) rfl, S30⟩
      case h =>
       rintro a46 X46 ⟨h46, S46⟩
       refine sl_val h46 (wn rfl) (ex_move (h46.ev rfl)) rfl rfl fun a47 h47 => ?_
       apply sl_and h47 S46 50 rfl 3 53
       case ht =>
        intro gc50
        refine sl_val (v := ringV (clX r) A27 c27) h47 (wanted_yes h47 _ rfl rfl rfl gc50) (ex_loads (by kernel_rfl) (by kernel_rfl) (h47.ev rfl) (S46.cellsAll (i := 3) rfl)) rfl rfl fun a48 h48 => ?_
        refine sl_bel h48 (wanted_yes h48 _ rfl rfl rfl gc50) (ex_call (fun _ _ => by kernel_rfl) (h48.evs rfl) rfl) rfl rfl S46 (none_any (clX r) A27 c27 _ (S46.rdOf (i := 4) rfl) hcl) fun a49 X49 h49 S49 => ?_
        refine sl_val h49 (wn rfl) (ex_pick_t (h49.ev rfl) gc50 (h49.ev rfl)) rfl rfl fun a50 h50 => ?_
        exact st_nil ⟨h50.mid (m := [(_, _), (_, _)]) rfl, S49⟩
       case hf =>
        intro gc50
        refine sl_no h47 (wanted_no h47 _ rfl rfl rfl gc50) rfl rfl fun a51 h51 => ?_
        refine sl_no h51 (wanted_no h51 _ rfl rfl rfl gc50) rfl rfl fun a52 h52 => ?_
        refine sl_val h52 (wn rfl) (ex_pick_f (h52.ev rfl) gc50 (h52.ev rfl)) rfl rfl fun a53 h53 => ?_
        exact st_nil ⟨h53.mid (m := [(_, _), (_, _)]) rfl, S46⟩
       case h =>
        rintro a54 X54 ⟨h54, S54⟩
        refine sl_val h54 (wn rfl) (ex_move (h54.ev rfl)) rfl rfl fun a55 h55 => ?_
        apply sl_and h55 S54 54 rfl 3 57
        case ht =>
         intro gc54
         refine sl_val (v := ringV (rsX r cp ol) A35 c35) h55 (wanted_yes h55 _ rfl rfl rfl gc54) (ex_loads (by kernel_rfl) (by kernel_rfl) (h55.ev rfl) (S54.cellsAll (i := 0) rfl)) rfl rfl fun a56 h56 => ?_
         refine sl_bel h56 (wanted_yes h56 _ rfl rfl rfl gc54) (ex_call (fun _ _ => by kernel_rfl) (h56.evs rfl) rfl) rfl rfl S54 (none_any (rsX r cp ol) A35 c35 _ (S54.rdOf (i := 1) rfl) hrl) fun a57 X57 h57 S57 => ?_
         refine sl_val h57 (wn rfl) (ex_pick_t (h57.ev rfl) gc54 (h57.ev rfl)) rfl rfl fun a58 h58 => ?_
         exact st_nil ⟨h58.mid (m := [(_, _), (_, _)]) rfl, S57⟩
        case hf =>
         intro gc54
         refine sl_no h55 (wanted_no h55 _ rfl rfl rfl gc54) rfl rfl fun a59 h59 => ?_
         refine sl_no h59 (wanted_no h59 _ rfl rfl rfl gc54) rfl rfl fun a60 h60 => ?_
         refine sl_val h60 (wn rfl) (ex_pick_f (h60.ev rfl) gc54 (h60.ev rfl)) rfl rfl fun a61 h61 => ?_
         exact st_nil ⟨h61.mid (m := [(_, _), (_, _)]) rfl, S54⟩
        case h =>
         rintro a62 X62 ⟨h62, S62⟩
         refine sl_val h62 (wn rfl) (ex_assign (h62.ev rfl)) rfl rfl fun a63 h63 => ?_
         refine st_nil ?_
         refine go_then ?_
         refine wp_ret ?_
         refine ret_then ?_
         refine fin1 h63 rfl rfl ?_
         refine ⟨?_, S62.below⟩
         rw [e1, e2, e3, e4]; simp
    · skip
      have hz : (chkR r).2 = 0 := by simpa using hc2
      have hok := ok_iff.1 hz
      have hnx := hok.h.nx
      have e1 : clE r = cloE r := by unfold clE; rw [if_pos hz]
      have e2 : clX r = cloR r := by unfold clX; rw [if_pos hz]
      have e3 : rs2E r cp ol = rsaE r cp ol := by rw [rs2E_eq, if_pos hz]
      have e4 : rsX r cp ol = rsaR r cp ol := by unfold rsX rsaR; rw [e3]
      refine wp_skip ?_
      refine go_then ?_
      refine st_seq ?_
      refine st_reg ?_
      refine sl_val (v := ringV r A c) h33 (wn rfl) (ex_loads (by kernel_rfl) (by kernel_rfl) (h33.ev rfl) (S30.cellsAll (i := 6) rfl)) rfl rfl fun a64 h64 => ?_
      refine sl_ownt h64 (wn rfl) (ex_call (fun _ _ => by kernel_rfl) (h64.evs rfl) rfl) rfl rfl S30 (rClosed_any r A c _ (S30.rd0 hr) hlen (by omega)) (Nat.le_refl _) fun A60 c60 a65 X65 h65 S65 => ?_
      refine sl_val h65 (wn rfl) (ex_move (h65.ev rfl)) rfl rfl fun a66 h66 => ?_
      refine sl_val h66 (wn rfl) (ex_extract (h66.ev rfl) rfl) rfl rfl fun a67 h67 => ?_
      refine sl_val h67 (wn rfl) (ex_extract (h67.ev rfl) rfl) rfl rfl fun a68 h68 => ?_
      refine sl_new h68 (wn rfl) (f := fun b => .pointer (some ⟨b, 0, none⟩)) (ex_alloc (z := .agg #[.int .i64 0, .int .i64 0, .int .i64 0, .int .i64 0, .int .i64 0, .int .i64 0, .int .i64 0, .slice none 0 0, .int .i64 0]) (by kernel_rfl)) rfl rfl S65 fun b12 a69 X69 gb12 h69 S69 => ?_
      refine sl_store0 h69 (wn rfl) ⟨rfl, rfl⟩ (h69.ev rfl) (h69.ev rfl) rfl (by kernel_rfl) S69 (i := 0) rfl rfl rfl fun X70 S70 => ?_
      refine sl_val h69 (wn rfl) (ex_assign (h69.ev rfl)) rfl rfl fun a71 h71 => ?_
      refine st_nil ?_
      refine go_then ?_
      refine st_seq ?_
      refine st_seq ?_
      refine st_reg ?_
      refine sl_val h71 (wn rfl) (ex_move (h71.ev rfl)) rfl rfl fun a72 h72 => ?_
      refine sl_val h72 (wn rfl) (ex_move (h72.ev rfl)) rfl rfl fun a73 h73 => ?_
      refine sl_val h73 (wn rfl) (ex_neq (h73.ev rfl) (h73.ev rfl)) rfl rfl fun a74 h74 => ?_
      refine sl_val h74 (wn rfl) (ex_move (h74.ev rfl)) rfl rfl fun a75 h75 => ?_
      apply sl_or h75 S70 66 rfl 5 71
      case hf =>
       intro gc66
       refine sl_val (v := ringV (clX r) A27 c27) h75 (wanted_yes h75 _ rfl rfl rfl gc66) (ex_loads (by kernel_rfl) (by kernel_rfl) (h75.ev rfl) (S70.cellsAll (i := 5) rfl)) rfl rfl fun a76 h76 => ?_
       refine sl_val (v := ringV (cloR r) A60 c60) h76 (wanted_yes h76 _ rfl rfl rfl gc66) (ex_loads (by kernel_rfl) (by kernel_rfl) (h76.ev rfl) (S70.cellsAll (i := 0) rfl)) rfl rfl fun a77 h77 => ?_
       refine sl_bel h77 (wanted_yes h77 _ rfl rfl rfl gc66) (ex_call (fun _ _ => by kernel_rfl) (h77.evs rfl) rfl) rfl rfl S70 (rSame_any (clX r) (cloR r) A27 A60 c27 c60 _ (S70.rdOf (i := 6) rfl) (S70.rdOf (i := 1) rfl) hcl (cloR_le r hlen)) fun a78 X78 h78 S78 => ?_
       refine sl_val h78 (wanted_yes h78 _ rfl rfl rfl gc66) (ex_not (h78.ev rfl)) rfl rfl fun a79 h79 => ?_
       refine sl_val h79 (wn rfl) (ex_pick_f (h79.ev rfl) gc66 (h79.ev rfl)) rfl rfl fun a80 h80 => ?_
       exact st_nil ⟨h80.mid (m := [(_, _), (_, _), (_, _), (_, _)]) rfl, S78⟩
      case ht =>
       intro gc66
       refine sl_no h75 (wanted_no h75 _ rfl rfl rfl gc66) rfl rfl fun a81 h81 => ?_
       refine sl_no h81 (wanted_no h81 _ rfl rfl rfl gc66) rfl rfl fun a82 h82 => ?_
       refine sl_no h82 (wanted_no h82 _ rfl rfl rfl gc66) rfl rfl fun a83 h83 => ?_
       refine sl_no h83 (wanted_no h83 _ rfl rfl rfl gc66) rfl rfl fun a84 h84 => ?_
       refine sl_val h84 (wn rfl) (ex_pick_t (h84.ev rfl) gc66 (h84.ev rfl)) rfl rfl fun a85 h85 => ?_
       exact st_nil ⟨h85.mid (m := [(_, _), (_, _), (_, _), (_, _)]) rfl, S70⟩
      case h =>
       rintro a86 X86 ⟨h86, S86⟩
       refine st_nil ?_
       refine go_then ?_
       refine st_if_f (h86.ev rfl) ((by rw [e1, e2]; simp)) ?_
       refine wp_skip ?_
       refine go_then ?_
       refine st_seq ?_
       refine st_reg ?_
       refine sl_val (v := ringV r A c) h86 (wn rfl) (ex_loads (by kernel_rfl) (by kernel_rfl) (h86.ev rfl) (S86.cellsAll (i := 8) rfl)) rfl rfl fun a87 h87 => ?_
       refine sl_val h87 (wn rfl) (ex_move (h87.ev rfl)) rfl rfl fun a88 h88 => ?_
       refine sl_val h88 (wn rfl) (ex_move (h88.ev rfl)) rfl rfl fun a89 h89 => ?_
       refine sl_ownt h89 (wn rfl) (ex_call (fun _ _ => by kernel_rfl) (h89.evs rfl) rfl) rfl rfl S86 (rRestarted_any r A c cp ol _ (S86.rd0 hr) hok hi) (Nat.le_refl _) fun A76 c76 a90 X90 h90 S90 => ?_
       refine sl_val h90 (wn rfl) (ex_move (h90.ev rfl)) rfl rfl fun a91 h91 => ?_
       refine sl_val h91 (wn rfl) (ex_extract (h91.ev rfl) rfl) rfl rfl fun a92 h92 => ?_
       refine sl_val h92 (wn rfl) (ex_extract (h92.ev rfl) rfl) rfl rfl fun a93 h93 => ?_
       refine sl_new h93 (wn rfl) (f := fun b => .pointer (some ⟨b, 0, none⟩)) (ex_alloc (z := .agg #[.int .i64 0, .int .i64 0, .int .i64 0, .int .i64 0, .int .i64 0, .int .i64 0, .int .i64 0, .slice none 0 0, .int .i64 0]) (by kernel_rfl)) rfl rfl S90 fun b14 a94 X94 gb14 h94 S94 => ?_
       refine sl_store0 h94 (wn rfl) ⟨rfl, rfl⟩ (h94.ev rfl) (h94.ev rfl) rfl (by kernel_rfl) S94 (i := 0) rfl rfl rfl fun X95 S95 => ?_
       refine sl_val h94 (wn rfl) (ex_assign (h94.ev rfl)) rfl rfl fun a96 h96 => ?_
       refine st_nil ?_
       refine go_then ?_
       refine st_seq ?_
       refine st_seq ?_
       refine st_reg ?_
       refine sl_val h96 (wn rfl) (ex_move (h96.ev rfl)) rfl rfl fun a97 h97 => ?_
       refine sl_val h97 (wn rfl) (ex_move (h97.ev rfl)) rfl rfl fun a98 h98 => ?_
       refine sl_val h98 (wn rfl) (ex_neq (h98.ev rfl) (h98.ev rfl)) rfl rfl fun a99 h99 => ?_
       refine sl_val h99 (wn rfl) (ex_move (h99.ev rfl)) rfl rfl fun a100 h100 => ?_
       apply sl_or h100 S95 82 rfl 5 87
       case hf =>
        intro gc82
        refine sl_val (v := ringV (rsX r cp ol) A35 c35) h100 (wanted_yes h100 _ rfl rfl rfl gc82) (ex_loads (by kernel_rfl) (by kernel_rfl) (h100.ev rfl) (S95.cellsAll (i := 4) rfl)) rfl rfl fun a101 h101 => ?_
        refine sl_val (v := ringV (rsaR r cp ol) A76 c76) h101 (wanted_yes h101 _ rfl rfl rfl gc82) (ex_loads (by kernel_rfl) (by kernel_rfl) (h101.ev rfl) (S95.cellsAll (i := 0) rfl)) rfl rfl fun a102 h102 => ?_
        refine sl_bel h102 (wanted_yes h102 _ rfl rfl rfl gc82) (ex_call (fun _ _ => by kernel_rfl) (h102.evs rfl) rfl) rfl rfl S95 (rSame_any (rsX r cp ol) (rsaR r cp ol) A35 A76 c35 c76 _ (S95.rdOf (i := 5) rfl) (S95.rdOf (i := 1) rfl) hrl (by rw [← e4]; exact hrl)) fun a103 X103 h103 S103 => ?_
        refine sl_val h103 (wanted_yes h103 _ rfl rfl rfl gc82) (ex_not (h103.ev rfl)) rfl rfl fun a104 h104 => ?_
        refine sl_val h104 (wn rfl) (ex_pick_f (h104.ev rfl) gc82 (h104.ev rfl)) rfl rfl fun a105 h105 => ?_
        exact st_nil ⟨h105.mid (m := [(_, _), (_, _), (_, _), (_, _)]) rfl, S103⟩
       case ht =>
        intro gc82
        refine sl_no h100 (wanted_no h100 _ rfl rfl rfl gc82) rfl rfl fun a106 h106 => ?_
        refine sl_no h106 (wanted_no h106 _ rfl rfl rfl gc82) rfl rfl fun a107 h107 => ?_
        refine sl_no h107 (wanted_no h107 _ rfl rfl rfl gc82) rfl rfl fun a108 h108 => ?_
        refine sl_no h108 (wanted_no h108 _ rfl rfl rfl gc82) rfl rfl fun a109 h109 => ?_
        refine sl_val h109 (wn rfl) (ex_pick_t (h109.ev rfl) gc82 (h109.ev rfl)) rfl rfl fun a110 h110 => ?_
        exact st_nil ⟨h110.mid (m := [(_, _), (_, _), (_, _), (_, _)]) rfl, S95⟩
       case h =>
        rintro a111 X111 ⟨h111, S111⟩
        refine st_nil ?_
        refine go_then ?_
        refine st_if_f (h111.ev rfl) ((by rw [e3, e4]; simp)) ?_
        refine wp_skip ?_
        refine go_then ?_
        refine st_seq ?_
        refine st_seq ?_
        refine st_reg ?_
        refine sl_val h111 (wn rfl) (ex_move (h111.ev rfl)) rfl rfl fun a112 h112 => ?_
        refine sl_val h112 (wn rfl) (ex_neq (h112.ev rfl) (h112.ev rfl)) rfl rfl fun a113 h113 => ?_
        refine st_nil ?_
        refine go_then ?_
        refine st_if (h113.ev rfl) (fun hc5 => ?_) (fun hc5 => ?_)
        · skip
          refine st_seq ?_
          refine st_reg ?_
          refine sl_val h113 (wn rfl) (ex_assign (h113.ev rfl)) rfl rfl fun a114 h114 => ?_
          refine st_nil ?_
          refine go_then ?_
          refine wp_ret ?_
          refine ret_then ?_
          refine fin1 h114 rfl rfl ?_
          exact ⟨rfl, S111.below⟩
        · skip
          have hrz : rsaE r cp ol = 0 := by simpa using hc5
          have e5 : rsX r cp ol = rsaV r cp ol := by unfold rsX; rw [if_pos (by rw [e3]; exact hrz)]
          obtain ⟨hm, hrok⟩ := rsa_ok hok hrz
          have hk2 : OkP (rsX r cp ol) := by rw [e5]; exact ok_iff.1 hrok
          have hx2 : ∀ x ∈ (rsX r cp ol).rs, I6 x.l := fun x hx' => hx x (by rw [e5] at hx'; exact (List.mem_filter.1 hx').1)
          refine wp_skip ?_
          refine go_then ?_
          refine st_seq ?_
          refine st_reg ?_
          refine sl_val (v := ringV r A c) h113 (wn rfl) (ex_loads (by kernel_rfl) (by kernel_rfl) (h113.ev rfl) (S111.cellsAll (i := 10) rfl)) rfl rfl fun a115 h115 => ?_
          refine sl_bel h115 (wn rfl) (ex_call (fun _ _ => by kernel_rfl) (h115.evs rfl) rfl) rfl rfl S111 (rRooms_any r A c _ (S111.rd0 hr) hok.last hok.o hlen) fun a116 X116 h116 S116 => ?_
          refine sl_val h116 (wn rfl) (ex_move (h116.ev rfl)) rfl rfl fun a117 h117 => ?_
          refine sl_val h117 (wn rfl) (ex_extract (h117.ev rfl) rfl) rfl rfl fun a118 h118 => ?_
          refine sl_val h118 (wn rfl) (ex_extract (h118.ev rfl) rfl) rfl rfl fun a119 h119 => ?_
          refine sl_val h119 (wn rfl) (ex_assign (h119.ev rfl)) rfl rfl fun a120 h120 => ?_
          refine sl_val h120 (wn rfl) (ex_assign (h120.ev rfl)) rfl rfl fun a121 h121 => ?_
          refine st_nil ?_
          refine go_then ?_
          refine st_seq ?_
          refine st_reg ?_
          refine sl_val (v := ringV (rsX r cp ol) A35 c35) h121 (wn rfl) (ex_loads (by kernel_rfl) (by kernel_rfl) (h121.ev rfl) (S116.cellsAll (i := 4) rfl)) rfl rfl fun a122 h122 => ?_
          refine sl_bel h122 (wn rfl) (ex_call (fun _ _ => by kernel_rfl) (h122.evs rfl) rfl) rfl rfl S116 (rRooms_any (rsX r cp ol) A35 c35 _ (S116.rdOf (i := 5) rfl) hk2.last hk2.o hrl) fun a123 X123 h123 S123 => ?_
          refine sl_val h123 (wn rfl) (ex_move (h123.ev rfl)) rfl rfl fun a124 h124 => ?_
          refine sl_val h124 (wn rfl) (ex_extract (h124.ev rfl) rfl) rfl rfl fun a125 h125 => ?_
          refine sl_val h125 (wn rfl) (ex_extract (h125.ev rfl) rfl) rfl rfl fun a126 h126 => ?_
          refine sl_val h126 (wn rfl) (ex_assign (h126.ev rfl)) rfl rfl fun a127 h127 => ?_
          refine sl_val h127 (wn rfl) (ex_assign (h127.ev rfl)) rfl rfl fun a128 h128 => ?_
          refine st_nil ?_
          refine go_then ?_
          refine st_seq ?_
          refine st_reg ?_
          refine sl_val h128 (wn rfl) (ex_move (h128.ev rfl)) rfl rfl fun a129 h129 => ?_
          refine sl_val h129 (wn rfl) (ex_move (h129.ev rfl)) rfl rfl fun a130 h130 => ?_
          refine sl_val h130 (wn rfl) (ex_leq (h130.ev rfl) (h130.ev rfl)) rfl rfl fun a131 h131 => ?_
          refine sl_val h131 (wn rfl) (ex_move (h131.ev rfl)) rfl rfl fun a132 h132 => ?_
          apply sl_and h132 S123 103 rfl 4 107
          case ht =>
           intro gc103
           refine sl_val (v := ringV (rsX r cp ol) A35 c35) h132 (wanted_yes h132 _ rfl rfl rfl gc103) (ex_loads (by kernel_rfl) (by kernel_rfl) (h132.ev rfl) (S123.cellsAll (i := 4) rfl)) rfl rfl fun a133 h133 => ?_
           refine sl_bel h133 (wanted_yes h133 _ rfl rfl rfl gc103) (ex_call (fun _ _ => by kernel_rfl) (h133.evs rfl) rfl) rfl rfl S123 (rRingErr_any (rsX r cp ol) A35 c35 _ (S123.rdOf (i := 5) rfl) hrl hx2) fun a134 X134 h134 S134 => ?_
           refine sl_val h134 (wanted_yes h134 _ rfl rfl rfl gc103) (ex_eql (h134.ev rfl) (h134.ev rfl)) rfl rfl fun a135 h135 => ?_
           refine sl_val h135 (wn rfl) (ex_pick_t (h135.ev rfl) gc103 (h135.ev rfl)) rfl rfl fun a136 h136 => ?_
           exact st_nil ⟨h136.mid (m := [(_, _), (_, _), (_, _)]) rfl, S134⟩
          case hf =>
           intro gc103
           refine sl_no h132 (wanted_no h132 _ rfl rfl rfl gc103) rfl rfl fun a137 h137 => ?_
           refine sl_no h137 (wanted_no h137 _ rfl rfl rfl gc103) rfl rfl fun a138 h138 => ?_
           refine sl_no h138 (wanted_no h138 _ rfl rfl rfl gc103) rfl rfl fun a139 h139 => ?_
           refine sl_val h139 (wn rfl) (ex_pick_f (h139.ev rfl) gc103 (h139.ev rfl)) rfl rfl fun a140 h140 => ?_
           exact st_nil ⟨h140.mid (m := [(_, _), (_, _), (_, _)]) rfl, S123⟩
          case h =>
           rintro a141 X141 ⟨h141, S141⟩
           refine sl_val h141 (wn rfl) (ex_assign (h141.ev rfl)) rfl rfl fun a142 h142 => ?_
           refine st_nil ?_
           refine go_then ?_
           refine wp_ret ?_
           refine fin1 h142 rfl rfl ?_
           refine ⟨?_, S141.below⟩
           rw [e5, hrok, decide_eq_true hm]; rfl
end Go.Proofs.YtmlilplbdpjfcaaGreatDoor
