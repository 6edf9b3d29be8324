/-
  RingAppends: the walk.
-/
import Derived.Test.YtmlilplbdpjfcaaGreatDoorRg29
import Derived.Test.YtmlilplbdpjfcaaGreatDoorRg25
namespace Go.Proofs.YtmlilplbdpjfcaaGreatDoor
set_option linter.unusedVariables false
set_option linter.unusedSimpArgs false
set_option maxRecDepth 4000
open Go.RowKit Go.Sort
def apX (r : RngP) (s : ByteArray) : RngP := if (chkR r).2 = 0 then appR r s else rng0
def apE (r : RngP) (s : ByteArray) : Int := if (chkR r).2 = 0 then appE r s else (chkR r).2
def apN (r : RngP) (s : ByteArray) : Int := if (chkR r).2 = 0 ∧ appE r s = 0 then r.nx + 1 else 0
def spN (r : RngP) (n : Int) : Int := if spcE r n = 0 then r.nx + szR n else 0
theorem apX_le {r : RngP} (s : ByteArray) (hlen : r.rs.length ≤ 999) : (apX r s).rs.length ≤ 1000 := by
  unfold apX
  split
  · unfold appR
    split
    · have : (appV r s).rs.length = r.rs.length + 1 := by unfold appV; simp
      omega
    · exact Nat.zero_le _
  · exact Nat.zero_le _
theorem app2_any (r : RngP) (A : Option Addr) (c : Nat) (s : ByteArray) (w : World) (hr : Rd w w.heap.size A (recsV r.rs)) (hlen : r.rs.length ≤ 1000) (hx : ∀ x ∈ r.rs, I6 x.l) :
    Calls Tryz.prog 30 #[ringV r A c, .string s] w fun e w' => ∃ A' c', e = .returned (.tuple #[ringV (apX r s) A' c', .int .i64 (apN r s), .int .i64 (apE r s)]) ∧ w'.ownsRow w.heap.size 98 3 (.slice A' (apX r s).rs.length c') (apX r s).rs.length (recsV (apX r s).rs) ∧ Below w.heap.size w w' := Appended_any r A c s w hr hlen hx
theorem spc2_any (r : RngP) (A : Option Addr) (c : Nat) (n : Int) (w : World) (hr : Rd w w.heap.size A (recsV r.rs)) (hlen : r.rs.length ≤ 1000) (hx : ∀ x ∈ r.rs, I6 x.l) :
    Calls Tryz.prog 31 #[ringV r A c, .int .i64 n] w fun e w' => e = .returned (.tuple #[.int .i64 (spN r n), .int .i64 (spcE r n)]) ∧ Below w.heap.size w w' := SpaceFor_any r A c n w hr hlen hx
theorem RingAppends_any (r : RngP) (hI : RngI r) (A : Option Addr) (c : Nat) (s : ByteArray) (hs : s.size ≤ maxLen) (n : Int) (hn : (Lit.int .i64 n).wf = true) (w : World) (hr : Rd w w.heap.size A (recsV r.rs)) :
    Calls Tryz.prog 6 #[ringV r A c, .string s, .int .i64 n] w fun e w' => e = .returned (.bool true) ∧ Below w.heap.size w w' := by
  refine st_enter (N := 104) Tryz.func6 rfl rfl rfl (fun a0 h0 => ?_)
  have S0 := St.init w
  refine st_seq ?_
  refine st_reg ?_
  refine sl_new h0 (wn rfl) (f := fun b => .pointer (some ⟨b, 0, none⟩)) (ex_box (h0.ev rfl)) rfl rfl S0 fun b3 a1 X1 gb3 h1 S1 => ?_
  refine sl_val h1 (wn rfl) (ex_assign (h1.ev rfl)) rfl rfl fun a2 h2 => ?_
  refine st_nil ?_
  refine go_then ?_
  refine st_seq ?_
  refine st_seq ?_
  refine st_reg ?_
  refine sl_bel h2 (wn rfl) (ex_call (fun _ _ => by kernel_rfl) (h2.evs rfl) rfl) rfl rfl S1 (awake_any _) fun a3 X3 h3 S3 => ?_
  refine sl_val h3 (wn rfl) (ex_not (h3.ev rfl)) rfl rfl fun a4 h4 => ?_
  refine st_nil ?_
  refine go_then ?_
  refine st_if_f (h4.ev rfl) (rfl) ?_
  refine wp_skip ?_
  refine go_then ?_
  refine st_seq ?_
  refine st_seq ?_
  refine st_reg ?_
  refine sl_val (v := ringV r A c) h4 (wn rfl) (ex_loads (by kernel_rfl) (by kernel_rfl) (h4.ev rfl) (S3.cellsAll (i := 0) rfl)) rfl rfl fun a5 h5 => ?_
  refine sl_bel h5 (wn rfl) (ex_call (fun _ _ => by kernel_rfl) (h5.evs rfl) rfl) rfl rfl S3 (Few_any r A c _ (S3.rd0 hr)) fun a6 X6 h6 S6 => ?_
  refine sl_val h6 (wn rfl) (ex_not (h6.ev rfl)) rfl rfl fun a7 h7 => ?_
  refine sl_val h7 (wn rfl) (ex_move (h7.ev rfl)) rfl rfl fun a8 h8 => ?_
  apply sl_or h8 S6 21 rfl 4 25
  case hf =>
   intro gc21
   refine sl_val h8 (wanted_yes h8 _ rfl rfl rfl gc21) (ex_move (h8.ev rfl)) rfl rfl fun a9 h9 => ?_
   refine sl_val h9 (wanted_yes h9 _ rfl rfl rfl gc21) (ex_slen Tryz.underlying9 (h9.ev rfl)) rfl rfl fun a10 h10 => ?_
   refine sl_val h10 (wanted_yes h10 _ rfl rfl rfl gc21) (ex_gtr (h10.ev rfl) (h10.ev rfl)) rfl rfl fun a11 h11 => ?_
   refine sl_val h11 (wn rfl) (ex_pick_f (h11.ev rfl) gc21 (h11.ev rfl)) rfl rfl fun a12 h12 => ?_
   exact st_nil ⟨h12.mid (m := [(_, _), (_, _), (_, _)]) rfl, S6⟩
  case ht =>
   intro gc21
   refine sl_no h8 (wanted_no h8 _ rfl rfl rfl gc21) rfl rfl fun a13 h13 => ?_
   refine sl_no h13 (wanted_no h13 _ rfl rfl rfl gc21) rfl rfl fun a14 h14 => ?_
   refine sl_no h14 (wanted_no h14 _ rfl rfl rfl gc21) rfl rfl fun a15 h15 => ?_
   refine sl_val h15 (wn rfl) (ex_pick_t (h15.ev rfl) gc21 (h15.ev rfl)) rfl rfl fun a16 h16 => ?_
   exact st_nil ⟨h16.mid (m := [(_, _), (_, _), (_, _)]) rfl, S6⟩
  case h =>
   rintro a17 X17 ⟨h17, S17⟩
   refine st_nil ?_
   refine go_then ?_
   refine st_if (h17.ev rfl) (fun hc1 => ?_) (fun hc1 => ?_)
   · skip
     refine st_seq ?_
     refine st_reg ?_
     refine sl_val h17 (wn rfl) (ex_assign (h17.ev rfl)) rfl rfl fun a18 h18 => ?_
     refine st_nil ?_
     refine go_then ?_
     refine wp_ret ?_
     refine ret_then ?_
     refine fin1 h18 rfl rfl ?_
     exact ⟨rfl, S17.below⟩
   · skip
     have hfs : fewB r = true ∧ s.size ≤ 3010 := by
       simp only [Bool.or_eq_false_iff, Bool.not_eq_false', decide_eq_false_iff_not] at hc1
       exact ⟨hc1.1, by omega⟩
     obtain ⟨hf, hs2⟩ := hfs
     have hle := few_len hf
     have hlen := few_le hf
     have hx : ∀ x ∈ r.rs, I6 x.l := fun x hx => (hI.rs x hx).1
     have hxl := apX_le (r := r) s (by omega)
     refine wp_skip ?_
     refine go_then ?_
     refine st_seq ?_
     refine st_reg ?_
     refine sl_val (v := ringV r A c) h17 (wn rfl) (ex_loads (by kernel_rfl) (by kernel_rfl) (h17.ev rfl) (S17.cellsAll (i := 0) rfl)) rfl rfl fun a19 h19 => ?_
     refine sl_ownt h19 (wn rfl) (ex_call (fun _ _ => by kernel_rfl) (h19.evs rfl) rfl) rfl rfl S17 (rCopy_any r A c _ (S17.rd0 hr) hlen) (Nat.le_refl _) fun A28 c28 a20 X20 h20 S20 => ?_
     refine sl_val h20 (wn rfl) (ex_move (h20.ev rfl)) rfl rfl fun a21 h21 => ?_
     refine sl_ownt h21 (wn rfl) (ex_call (fun _ _ => by kernel_rfl) (h21.evs rfl) rfl) rfl rfl S20 (app2_any r A28 c28 s _ (S20.rdOf (i := 0) rfl) hlen hx) (Nat.le_refl _) fun A30 c30 a22 X22 h22 S22 => ?_
     refine sl_val h22 (wn rfl) (ex_move (h22.ev rfl)) rfl rfl fun a23 h23 => ?_
     refine sl_val h23 (wn rfl) (ex_extract (h23.ev rfl) rfl) rfl rfl fun a24 h24 => ?_
     refine sl_val h24 (wn rfl) (ex_extract (h24.ev rfl) rfl) rfl rfl fun a25 h25 => ?_
     refine sl_val h25 (wn rfl) (ex_extract (h25.ev rfl) rfl) rfl rfl fun a26 h26 => ?_
     refine sl_new h26 (wn rfl) (f := fun b => .pointer (some ⟨b, 0, none⟩)) (ex_alloc (z := .agg #[.int .i64 0, .int .i64 0, .int .i64 0, .int .i64 0, .int .i64 0, .int .i64 0, .int .i64 0, .slice none 0 0, .int .i64 0]) (by kernel_rfl)) rfl rfl S22 fun b7 a27 X27 gb7 h27 S27 => ?_
     refine sl_store0 h27 (wn rfl) ⟨rfl, rfl⟩ (h27.ev rfl) (h27.ev rfl) rfl (by kernel_rfl) S27 (i := 0) rfl rfl rfl fun X28 S28 => ?_
     refine sl_val h27 (wn rfl) (ex_assign (h27.ev rfl)) rfl rfl fun a29 h29 => ?_
     refine sl_val h29 (wn rfl) (ex_assign (h29.ev rfl)) rfl rfl fun a30 h30 => ?_
     refine st_nil ?_
     refine go_then ?_
     refine st_seq ?_
     refine st_reg ?_
     refine sl_val (v := ringV r A c) h30 (wn rfl) (ex_loads (by kernel_rfl) (by kernel_rfl) (h30.ev rfl) (S28.cellsAll (i := 3) rfl)) rfl rfl fun a31 h31 => ?_
     refine sl_ownt h31 (wn rfl) (ex_call (fun _ _ => by kernel_rfl) (h31.evs rfl) rfl) rfl rfl S28 (rCopy_any r A c _ (S28.rd0 hr) hlen) (Nat.le_refl _) fun A36 c36 a32 X32 h32 S32 => ?_
     refine sl_val h32 (wn rfl) (ex_move (h32.ev rfl)) rfl rfl fun a33 h33 => ?_
     refine sl_bel h33 (wn rfl) (ex_call (fun _ _ => by kernel_rfl) (h33.evs rfl) rfl) rfl rfl S32 (spc2_any r A36 c36 n _ (S32.rdOf (i := 0) rfl) hlen hx) fun a34 X34 h34 S34 => ?_
     refine sl_val h34 (wn rfl) (ex_move (h34.ev rfl)) rfl rfl fun a35 h35 => ?_
     refine sl_val h35 (wn rfl) (ex_extract (h35.ev rfl) rfl) rfl rfl fun a36 h36 => ?_
     refine sl_val h36 (wn rfl) (ex_extract (h36.ev rfl) rfl) rfl rfl fun a37 h37 => ?_
     refine sl_val h37 (wn rfl) (ex_assign (h37.ev rfl)) rfl rfl fun a38 h38 => ?_
     refine sl_val h38 (wn rfl) (ex_assign (h38.ev rfl)) rfl rfl fun a39 h39 => ?_
     refine st_nil ?_
     refine go_then ?_
     refine st_seq ?_
     refine st_seq ?_
     refine st_reg ?_
     refine sl_val (v := ringV r A c) h39 (wn rfl) (ex_loads (by kernel_rfl) (by kernel_rfl) (h39.ev rfl) (S34.cellsAll (i := 4) rfl)) rfl rfl fun a40 h40 => ?_
     refine sl_bel h40 (wn rfl) (ex_call (fun _ _ => by kernel_rfl) (h40.evs rfl) rfl) rfl rfl S34 (rRingErr_any r A c _ (S34.rd0 hr) hlen hx) fun a41 X41 h41 S41 => ?_
     refine sl_val h41 (wn rfl) (ex_assign (h41.ev rfl)) rfl rfl fun a42 h42 => ?_
     refine st_nil ?_
     refine go_then ?_
     refine st_seq ?_
     refine st_reg ?_
     refine sl_val h42 (wn rfl) (ex_move (h42.ev rfl)) rfl rfl fun a43 h43 => ?_
     refine sl_val h43 (wn rfl) (ex_neq (h43.ev rfl) (h43.ev rfl)) rfl rfl fun a44 h44 => ?_
     refine st_nil ?_
     refine go_then ?_
     refine st_if (h44.ev rfl) (fun hc2 => ?_) (fun hc2 => ?_)
     · skip
       have hne : ¬ (chkR r).2 = 0 := by simpa using hc2
       have e1 : apE r s = (chkR r).2 := by unfold apE; rw [if_neg hne]
       have e2 : apX r s = rng0 := by unfold apX; rw [if_neg hne]
       have e3 : apN r s = 0 := by unfold apN; rw [if_neg (fun q => hne q.1)]
       have e5 : spcE r n = (chkR r).2 := by unfold spcE; rw [firstE_c, if_neg hne]
       have e4 : spN r n = 0 := by unfold spN; rw [if_neg (by rw [e5]; exact hne)]
       refine st_seq ?_
       refine st_reg ?_
       refine sl_val h44 (wn rfl) (ex_move (h44.ev rfl)) rfl rfl fun a45 h45 => ?_
       refine sl_val h45 (wn rfl) (ex_move (h45.ev rfl)) rfl rfl fun a46 h46 => ?_
       refine sl_val h46 (wn rfl) (ex_eql (h46.ev rfl) (h46.ev rfl)) rfl rfl fun a47 h47 => ?_
       refine sl_val h47 (wn rfl) (ex_move (h47.ev rfl)) rfl rfl fun a48 h48 => ?_
       apply sl_and h48 S41 48 rfl 4 52
       case ht =>
        intro gc48
        refine sl_val h48 (wanted_yes h48 _ rfl rfl rfl gc48) (ex_move (h48.ev rfl)) rfl rfl fun a49 h49 => ?_
        refine sl_val h49 (wanted_yes h49 _ rfl rfl rfl gc48) (ex_move (h49.ev rfl)) rfl rfl fun a50 h50 => ?_
        refine sl_val h50 (wanted_yes h50 _ rfl rfl rfl gc48) (ex_eql (h50.ev rfl) (h50.ev rfl)) rfl rfl fun a51 h51 => ?_
        refine sl_val h51 (wn rfl) (ex_pick_t (h51.ev rfl) gc48 (h51.ev rfl)) rfl rfl fun a52 h52 => ?_
        exact st_nil ⟨h52.mid (m := [(_, _), (_, _), (_, _)]) rfl, S41⟩
       case hf =>
        intro gc48
        refine sl_no h48 (wanted_no h48 _ rfl rfl rfl gc48) rfl rfl fun a53 h53 => ?_
        refine sl_no h53 (wanted_no h53 _ rfl rfl rfl gc48) rfl rfl fun a54 h54 => ?_
        refine sl_no h54 (wanted_no h54 _ rfl rfl rfl gc48) rfl rfl fun a55 h55 => ?_
        refine sl_val h55 (wn rfl) (ex_pick_f (h55.ev rfl) gc48 (h55.ev rfl)) rfl rfl fun a56 h56 => ?_
        exact st_nil ⟨h56.mid (m := [(_, _), (_, _), (_, _)]) rfl, S41⟩
       case h =>
        rintro a57 X57 ⟨h57, S57⟩
        refine sl_val h57 (wn rfl) (ex_move (h57.ev rfl)) rfl rfl fun a58 h58 => ?_
        apply sl_and h58 S57 53 rfl 3 56
        case ht =>
         intro gc53
         refine sl_val (v := ringV (apX r s) A30 c30) h58 (wanted_yes h58 _ rfl rfl rfl gc53) (ex_loads (by kernel_rfl) (by kernel_rfl) (h58.ev rfl) (S57.cellsAll (i := 1) rfl)) rfl rfl fun a59 h59 => ?_
         refine sl_bel h59 (wanted_yes h59 _ rfl rfl rfl gc53) (ex_call (fun _ _ => by kernel_rfl) (h59.evs rfl) rfl) rfl rfl S57 (none_any (apX r s) A30 c30 _ (S57.rdOf (i := 2) rfl) hxl) fun a60 X60 h60 S60 => ?_
         refine sl_val h60 (wn rfl) (ex_pick_t (h60.ev rfl) gc53 (h60.ev rfl)) rfl rfl fun a61 h61 => ?_
         exact st_nil ⟨h61.mid (m := [(_, _), (_, _)]) rfl, S60⟩
        case hf =>
         intro gc53
         refine sl_no h58 (wanted_no h58 _ rfl rfl rfl gc53) rfl rfl fun a62 h62 => ?_
         refine sl_no h62 (wanted_no h62 _ rfl rfl rfl gc53) rfl rfl fun a63 h63 => ?_
         refine sl_val h63 (wn rfl) (ex_pick_f (h63.ev rfl) gc53 (h63.ev rfl)) rfl rfl fun a64 h64 => ?_
         exact st_nil ⟨h64.mid (m := [(_, _), (_, _)]) rfl, S57⟩
        case h =>
         rintro a65 X65 ⟨h65, S65⟩
         refine sl_val h65 (wn rfl) (ex_move (h65.ev rfl)) rfl rfl fun a66 h66 => ?_
         apply sl_and h66 S65 57 rfl 3 60
         case ht =>
          intro gc57
          refine sl_val h66 (wanted_yes h66 _ rfl rfl rfl gc57) (ex_move (h66.ev rfl)) rfl rfl fun a67 h67 => ?_
          refine sl_val h67 (wanted_yes h67 _ rfl rfl rfl gc57) (ex_eql (h67.ev rfl) (h67.ev rfl)) rfl rfl fun a68 h68 => ?_
          refine sl_val h68 (wn rfl) (ex_pick_t (h68.ev rfl) gc57 (h68.ev rfl)) rfl rfl fun a69 h69 => ?_
          exact st_nil ⟨h69.mid (m := [(_, _), (_, _)]) rfl, S65⟩
         case hf =>
          intro gc57
          refine sl_no h66 (wanted_no h66 _ rfl rfl rfl gc57) rfl rfl fun a70 h70 => ?_
          refine sl_no h70 (wanted_no h70 _ rfl rfl rfl gc57) rfl rfl fun a71 h71 => ?_
          refine sl_val h71 (wn rfl) (ex_pick_f (h71.ev rfl) gc57 (h71.ev rfl)) rfl rfl fun a72 h72 => ?_
          exact st_nil ⟨h72.mid (m := [(_, _), (_, _)]) rfl, S65⟩
         case h =>
          rintro a73 X73 ⟨h73, S73⟩
          refine sl_val h73 (wn rfl) (ex_move (h73.ev rfl)) rfl rfl fun a74 h74 => ?_
          apply sl_and h74 S73 61 rfl 3 64
          case ht =>
           intro gc61
           refine sl_val h74 (wanted_yes h74 _ rfl rfl rfl gc61) (ex_move (h74.ev rfl)) rfl rfl fun a75 h75 => ?_
           refine sl_val h75 (wanted_yes h75 _ rfl rfl rfl gc61) (ex_eql (h75.ev rfl) (h75.ev rfl)) rfl rfl fun a76 h76 => ?_
           refine sl_val h76 (wn rfl) (ex_pick_t (h76.ev rfl) gc61 (h76.ev rfl)) rfl rfl fun a77 h77 => ?_
           exact st_nil ⟨h77.mid (m := [(_, _), (_, _)]) rfl, S73⟩
          case hf =>
           intro gc61
           refine sl_no h74 (wanted_no h74 _ rfl rfl rfl gc61) rfl rfl fun a78 h78 => ?_
           refine sl_no h78 (wanted_no h78 _ rfl rfl rfl gc61) rfl rfl fun a79 h79 => ?_
           refine sl_val h79 (wn rfl) (ex_pick_f (h79.ev rfl) gc61 (h79.ev rfl)) rfl rfl fun a80 h80 => ?_
           exact st_nil ⟨h80.mid (m := [(_, _), (_, _)]) rfl, S73⟩
          case h =>
           rintro a81 X81 ⟨h81, S81⟩
           refine sl_val h81 (wn rfl) (ex_assign (h81.ev rfl)) rfl rfl fun a82 h82 => ?_
           refine st_nil ?_
           refine go_then ?_
           refine wp_ret ?_
           refine ret_then ?_
           refine fin1 h82 rfl rfl ?_
           refine ⟨?_, S81.below⟩
           rw [e1, e2, e3, e4, e5]; simp
     · skip
       have hz : (chkR r).2 = 0 := by simpa using hc2
       have hok := ok_iff.1 hz
       have hnx := hok.h.nx
       have e1 : apE r s = appE r s := by unfold apE; rw [if_pos hz]
       have e2 : apX r s = appR r s := by unfold apX; rw [if_pos hz]
       have e3 : apN r s = if appE r s = 0 then r.nx + 1 else 0 := by unfold apN; simp only [hz, true_and]
       have e5 : spcE r n = unl (inB n 1 3000) 2 := by unfold spcE; rw [firstE_c, if_pos hz]; simp only [firstE]; split <;> simp_all
       refine wp_skip ?_
       refine go_then ?_
       refine st_seq ?_
       refine st_seq ?_
       refine st_reg ?_
       refine sl_val h44 (wn rfl) (ex_move (h44.ev rfl)) rfl rfl fun a83 h83 => ?_
       refine sl_pure h83 (wn rfl) (ex_call (fun _ _ => by kernel_rfl) (h83.evs rfl) rfl) rfl rfl (Within_any _ _ _ _) fun a84 h84 => ?_
       refine sl_val h84 (wn rfl) (ex_not (h84.ev rfl)) rfl rfl fun a85 h85 => ?_
       refine st_nil ?_
       refine go_then ?_
       refine st_if (h85.ev rfl) (fun hc3 => ?_) (fun hc3 => ?_)
       · skip
         have e4 : spN r n = 0 ∧ spcE r n = 2 := by
           have hb : inB n 1 3000 = false := by simpa using hc3
           have : spcE r n = 2 := by rw [e5, hb]; rfl
           exact ⟨by unfold spN; rw [if_neg (by rw [this]; decide)], this⟩
         refine st_seq ?_
         refine st_reg ?_
         refine sl_val h85 (wn rfl) (ex_move (h85.ev rfl)) rfl rfl fun a86 h86 => ?_
         refine sl_val h86 (wn rfl) (ex_neq (h86.ev rfl) (h86.ev rfl)) rfl rfl fun a87 h87 => ?_
         refine sl_val h87 (wn rfl) (ex_move (h87.ev rfl)) rfl rfl fun a88 h88 => ?_
         apply sl_or h88 S41 70 rfl 3 73
         case hf =>
          intro gc70
          refine sl_val h88 (wanted_yes h88 _ rfl rfl rfl gc70) (ex_move (h88.ev rfl)) rfl rfl fun a89 h89 => ?_
          refine sl_val h89 (wanted_yes h89 _ rfl rfl rfl gc70) (ex_neq (h89.ev rfl) (h89.ev rfl)) rfl rfl fun a90 h90 => ?_
          refine sl_val h90 (wn rfl) (ex_pick_f (h90.ev rfl) gc70 (h90.ev rfl)) rfl rfl fun a91 h91 => ?_
          exact st_nil ⟨h91.mid (m := [(_, _), (_, _)]) rfl, S41⟩
         case ht =>
          intro gc70
          refine sl_no h88 (wanted_no h88 _ rfl rfl rfl gc70) rfl rfl fun a92 h92 => ?_
          refine sl_no h92 (wanted_no h92 _ rfl rfl rfl gc70) rfl rfl fun a93 h93 => ?_
          refine sl_val h93 (wn rfl) (ex_pick_t (h93.ev rfl) gc70 (h93.ev rfl)) rfl rfl fun a94 h94 => ?_
          exact st_nil ⟨h94.mid (m := [(_, _), (_, _)]) rfl, S41⟩
         case h =>
          rintro a95 X95 ⟨h95, S95⟩
          refine st_nil ?_
          refine go_then ?_
          refine st_if_f (h95.ev rfl) ((by simp [e4.1, e4.2])) ?_
          refine wp_skip ?_
          refine go_then ?_
          refine st_seq ?_
          refine st_reg ?_
          refine sl_val (v := ringV r A c) h95 (wn rfl) (ex_loads (by kernel_rfl) (by kernel_rfl) (h95.ev rfl) (S95.cellsAll (i := 4) rfl)) rfl rfl fun a96 h96 => ?_
          refine sl_val h96 (wn rfl) (ex_move (h96.ev rfl)) rfl rfl fun a97 h97 => ?_
          refine sl_ownt h97 (wn rfl) (ex_call (fun _ _ => by kernel_rfl) (h97.evs rfl) rfl) rfl rfl S95 (rAppended_any r A c s _ (S95.rd0 hr) hok (by omega)) (Nat.le_refl _) fun A87 c87 a98 X98 h98 S98 => ?_
          refine sl_val h98 (wn rfl) (ex_move (h98.ev rfl)) rfl rfl fun a99 h99 => ?_
          refine sl_val h99 (wn rfl) (ex_extract (h99.ev rfl) rfl) rfl rfl fun a100 h100 => ?_
          refine sl_val h100 (wn rfl) (ex_extract (h100.ev rfl) rfl) rfl rfl fun a101 h101 => ?_
          refine sl_val h101 (wn rfl) (ex_extract (h101.ev rfl) rfl) rfl rfl fun a102 h102 => ?_
          refine sl_new h102 (wn rfl) (f := fun b => .pointer (some ⟨b, 0, none⟩)) (ex_alloc (z := .agg #[.int .i64 0, .int .i64 0, .int .i64 0, .int .i64 0, .int .i64 0, .int .i64 0, .int .i64 0, .slice none 0 0, .int .i64 0]) (by kernel_rfl)) rfl rfl S98 fun b13 a103 X103 gb13 h103 S103 => ?_
          refine sl_store0 h103 (wn rfl) ⟨rfl, rfl⟩ (h103.ev rfl) (h103.ev rfl) rfl (by kernel_rfl) S103 (i := 0) rfl rfl rfl fun X104 S104 => ?_
          refine sl_val h103 (wn rfl) (ex_assign (h103.ev rfl)) rfl rfl fun a105 h105 => ?_
          refine sl_val h105 (wn rfl) (ex_assign (h105.ev rfl)) rfl rfl fun a106 h106 => ?_
          refine st_nil ?_
          refine go_then ?_
          refine st_seq ?_
          refine st_reg ?_
          refine sl_val h106 (wn rfl) (ex_move (h106.ev rfl)) rfl rfl fun a107 h107 => ?_
          refine sl_val h107 (wn rfl) (ex_move (h107.ev rfl)) rfl rfl fun a108 h108 => ?_
          refine sl_val h108 (wn rfl) (ex_eql (h108.ev rfl) (h108.ev rfl)) rfl rfl fun a109 h109 => ?_
          refine sl_val h109 (wn rfl) (ex_move (h109.ev rfl)) rfl rfl fun a110 h110 => ?_
          apply sl_and h110 S104 94 rfl 4 98
          case ht =>
           intro gc94
           refine sl_val h110 (wanted_yes h110 _ rfl rfl rfl gc94) (ex_move (h110.ev rfl)) rfl rfl fun a111 h111 => ?_
           refine sl_val h111 (wanted_yes h111 _ rfl rfl rfl gc94) (ex_move (h111.ev rfl)) rfl rfl fun a112 h112 => ?_
           refine sl_val h112 (wanted_yes h112 _ rfl rfl rfl gc94) (ex_eql (h112.ev rfl) (h112.ev rfl)) rfl rfl fun a113 h113 => ?_
           refine sl_val h113 (wn rfl) (ex_pick_t (h113.ev rfl) gc94 (h113.ev rfl)) rfl rfl fun a114 h114 => ?_
           exact st_nil ⟨h114.mid (m := [(_, _), (_, _), (_, _)]) rfl, S104⟩
          case hf =>
           intro gc94
           refine sl_no h110 (wanted_no h110 _ rfl rfl rfl gc94) rfl rfl fun a115 h115 => ?_
           refine sl_no h115 (wanted_no h115 _ rfl rfl rfl gc94) rfl rfl fun a116 h116 => ?_
           refine sl_no h116 (wanted_no h116 _ rfl rfl rfl gc94) rfl rfl fun a117 h117 => ?_
           refine sl_val h117 (wn rfl) (ex_pick_f (h117.ev rfl) gc94 (h117.ev rfl)) rfl rfl fun a118 h118 => ?_
           exact st_nil ⟨h118.mid (m := [(_, _), (_, _), (_, _)]) rfl, S104⟩
          case h =>
           rintro a119 X119 ⟨h119, S119⟩
           refine sl_val h119 (wn rfl) (ex_move (h119.ev rfl)) rfl rfl fun a120 h120 => ?_
           apply sl_and h120 S119 99 rfl 4 103
           case ht =>
            intro gc99
            refine sl_val (v := ringV (apX r s) A30 c30) h120 (wanted_yes h120 _ rfl rfl rfl gc99) (ex_loads (by kernel_rfl) (by kernel_rfl) (h120.ev rfl) (S119.cellsAll (i := 3) rfl)) rfl rfl fun a121 h121 => ?_
            refine sl_val (v := ringV (appR r s) A87 c87) h121 (wanted_yes h121 _ rfl rfl rfl gc99) (ex_loads (by kernel_rfl) (by kernel_rfl) (h121.ev rfl) (S119.cellsAll (i := 0) rfl)) rfl rfl fun a122 h122 => ?_
            refine sl_bel h122 (wanted_yes h122 _ rfl rfl rfl gc99) (ex_call (fun _ _ => by kernel_rfl) (h122.evs rfl) rfl) rfl rfl S119 (rSame_any (apX r s) (appR r s) A30 A87 c30 c87 _ (S119.rdOf (i := 4) rfl) (S119.rdOf (i := 1) rfl) hxl (by rw [← e2]; exact hxl)) fun a123 X123 h123 S123 => ?_
            refine sl_val h123 (wn rfl) (ex_pick_t (h123.ev rfl) gc99 (h123.ev rfl)) rfl rfl fun a124 h124 => ?_
            exact st_nil ⟨h124.mid (m := [(_, _), (_, _), (_, _)]) rfl, S123⟩
           case hf =>
            intro gc99
            refine sl_no h120 (wanted_no h120 _ rfl rfl rfl gc99) rfl rfl fun a125 h125 => ?_
            refine sl_no h125 (wanted_no h125 _ rfl rfl rfl gc99) rfl rfl fun a126 h126 => ?_
            refine sl_no h126 (wanted_no h126 _ rfl rfl rfl gc99) rfl rfl fun a127 h127 => ?_
            refine sl_val h127 (wn rfl) (ex_pick_f (h127.ev rfl) gc99 (h127.ev rfl)) rfl rfl fun a128 h128 => ?_
            exact st_nil ⟨h128.mid (m := [(_, _), (_, _), (_, _)]) rfl, S119⟩
           case h =>
            rintro a129 X129 ⟨h129, S129⟩
            refine sl_val h129 (wn rfl) (ex_assign (h129.ev rfl)) rfl rfl fun a130 h130 => ?_
            refine st_nil ?_
            refine go_then ?_
            refine wp_ret ?_
            refine fin1 h130 rfl rfl ?_
            refine ⟨?_, S129.below⟩
            rw [e1, e2, e3]; simp
       · skip
         have hb : inB n 1 3000 = true := by simpa using hc3
         have hnb := inB_true.1 hb
         have e4 : spN r n = r.nx + szR n ∧ spcE r n = 0 := by
           have : spcE r n = 0 := by rw [e5, hb]; rfl
           exact ⟨by unfold spN; rw [if_pos this], this⟩
         refine st_seq ?_
         refine st_reg ?_
         refine sl_val h85 (wn rfl) (ex_move (h85.ev rfl)) rfl rfl fun a131 h131 => ?_
         refine sl_val h131 (wn rfl) (ex_neq (h131.ev rfl) (h131.ev rfl)) rfl rfl fun a132 h132 => ?_
         refine sl_val h132 (wn rfl) (ex_move (h132.ev rfl)) rfl rfl fun a133 h133 => ?_
         apply sl_or h133 S41 76 rfl 7 83
         case hf =>
          intro gc76
          refine sl_val h133 (wanted_yes h133 _ rfl rfl rfl gc76) (ex_move (h133.ev rfl)) rfl rfl fun a134 h134 => ?_
          refine sl_val h134 (wanted_yes h134 _ rfl rfl rfl gc76) (ex_field (off := 8) (j := 8) (by kernel_rfl) (h134.ev rfl) rfl) rfl rfl fun a135 h135 => ?_
          refine sl_val h135 (wanted_yes h135 _ rfl rfl rfl gc76) (ex_load (by kernel_rfl) (h135.ev rfl) (S41.cell (i := 4) rfl rfl)) rfl rfl fun a136 h136 => ?_
          refine sl_val h136 (wanted_yes h136 _ rfl rfl rfl gc76) (ex_move (h136.ev rfl)) rfl rfl fun a137 h137 => ?_
          refine sl_pure h137 (wanted_yes h137 _ rfl rfl rfl gc76) (ex_call (fun _ _ => by kernel_rfl) (h137.evs rfl) rfl) rfl rfl (rBehind_any _ _ (by omega) _) fun a138 h138 => ?_
          refine sl_val h138 (wanted_yes h138 _ rfl rfl rfl gc76) (ex_neq (h138.ev rfl) (h138.ev rfl)) rfl rfl fun a139 h139 => ?_
          refine sl_val h139 (wn rfl) (ex_pick_f (h139.ev rfl) gc76 (h139.ev rfl)) rfl rfl fun a140 h140 => ?_
          exact st_nil ⟨h140.mid (m := [(_, _), (_, _), (_, _), (_, _), (_, _), (_, _)]) rfl, S41⟩
         case ht =>
          intro gc76
          refine sl_no h133 (wanted_no h133 _ rfl rfl rfl gc76) rfl rfl fun a141 h141 => ?_
          refine sl_no h141 (wanted_no h141 _ rfl rfl rfl gc76) rfl rfl fun a142 h142 => ?_
          refine sl_no h142 (wanted_no h142 _ rfl rfl rfl gc76) rfl rfl fun a143 h143 => ?_
          refine sl_no h143 (wanted_no h143 _ rfl rfl rfl gc76) rfl rfl fun a144 h144 => ?_
          refine sl_no h144 (wanted_no h144 _ rfl rfl rfl gc76) rfl rfl fun a145 h145 => ?_
          refine sl_no h145 (wanted_no h145 _ rfl rfl rfl gc76) rfl rfl fun a146 h146 => ?_
          refine sl_val h146 (wn rfl) (ex_pick_t (h146.ev rfl) gc76 (h146.ev rfl)) rfl rfl fun a147 h147 => ?_
          exact st_nil ⟨h147.mid (m := [(_, _), (_, _), (_, _), (_, _), (_, _), (_, _)]) rfl, S41⟩
         case h =>
          rintro a148 X148 ⟨h148, S148⟩
          refine st_nil ?_
          refine go_then ?_
          refine st_if_f (h148.ev rfl) ((by simp [e4.1, e4.2])) ?_
          refine wp_skip ?_
          refine go_then ?_
          refine st_seq ?_
          refine st_reg ?_
          refine sl_val (v := ringV r A c) h148 (wn rfl) (ex_loads (by kernel_rfl) (by kernel_rfl) (h148.ev rfl) (S148.cellsAll (i := 4) rfl)) rfl rfl fun a149 h149 => ?_
          refine sl_val h149 (wn rfl) (ex_move (h149.ev rfl)) rfl rfl fun a150 h150 => ?_
          refine sl_ownt h150 (wn rfl) (ex_call (fun _ _ => by kernel_rfl) (h150.evs rfl) rfl) rfl rfl S148 (rAppended_any r A c s _ (S148.rd0 hr) hok (by omega)) (Nat.le_refl _) fun A87 c87 a151 X151 h151 S151 => ?_
          refine sl_val h151 (wn rfl) (ex_move (h151.ev rfl)) rfl rfl fun a152 h152 => ?_
          refine sl_val h152 (wn rfl) (ex_extract (h152.ev rfl) rfl) rfl rfl fun a153 h153 => ?_
          refine sl_val h153 (wn rfl) (ex_extract (h153.ev rfl) rfl) rfl rfl fun a154 h154 => ?_
          refine sl_val h154 (wn rfl) (ex_extract (h154.ev rfl) rfl) rfl rfl fun a155 h155 => ?_
          refine sl_new h155 (wn rfl) (f := fun b => .pointer (some ⟨b, 0, none⟩)) (ex_alloc (z := .agg #[.int .i64 0, .int .i64 0, .int .i64 0, .int .i64 0, .int .i64 0, .int .i64 0, .int .i64 0, .slice none 0 0, .int .i64 0]) (by kernel_rfl)) rfl rfl S151 fun b13 a156 X156 gb13 h156 S156 => ?_
          refine sl_store0 h156 (wn rfl) ⟨rfl, rfl⟩ (h156.ev rfl) (h156.ev rfl) rfl (by kernel_rfl) S156 (i := 0) rfl rfl rfl fun X157 S157 => ?_
          refine sl_val h156 (wn rfl) (ex_assign (h156.ev rfl)) rfl rfl fun a158 h158 => ?_
          refine sl_val h158 (wn rfl) (ex_assign (h158.ev rfl)) rfl rfl fun a159 h159 => ?_
          refine st_nil ?_
          refine go_then ?_
          refine st_seq ?_
          refine st_reg ?_
          refine sl_val h159 (wn rfl) (ex_move (h159.ev rfl)) rfl rfl fun a160 h160 => ?_
          refine sl_val h160 (wn rfl) (ex_move (h160.ev rfl)) rfl rfl fun a161 h161 => ?_
          refine sl_val h161 (wn rfl) (ex_eql (h161.ev rfl) (h161.ev rfl)) rfl rfl fun a162 h162 => ?_
          refine sl_val h162 (wn rfl) (ex_move (h162.ev rfl)) rfl rfl fun a163 h163 => ?_
          apply sl_and h163 S157 94 rfl 4 98
          case ht =>
           intro gc94
           refine sl_val h163 (wanted_yes h163 _ rfl rfl rfl gc94) (ex_move (h163.ev rfl)) rfl rfl fun a164 h164 => ?_
           refine sl_val h164 (wanted_yes h164 _ rfl rfl rfl gc94) (ex_move (h164.ev rfl)) rfl rfl fun a165 h165 => ?_
           refine sl_val h165 (wanted_yes h165 _ rfl rfl rfl gc94) (ex_eql (h165.ev rfl) (h165.ev rfl)) rfl rfl fun a166 h166 => ?_
           refine sl_val h166 (wn rfl) (ex_pick_t (h166.ev rfl) gc94 (h166.ev rfl)) rfl rfl fun a167 h167 => ?_
           exact st_nil ⟨h167.mid (m := [(_, _), (_, _), (_, _)]) rfl, S157⟩
          case hf =>
           intro gc94
           refine sl_no h163 (wanted_no h163 _ rfl rfl rfl gc94) rfl rfl fun a168 h168 => ?_
           refine sl_no h168 (wanted_no h168 _ rfl rfl rfl gc94) rfl rfl fun a169 h169 => ?_
           refine sl_no h169 (wanted_no h169 _ rfl rfl rfl gc94) rfl rfl fun a170 h170 => ?_
           refine sl_val h170 (wn rfl) (ex_pick_f (h170.ev rfl) gc94 (h170.ev rfl)) rfl rfl fun a171 h171 => ?_
           exact st_nil ⟨h171.mid (m := [(_, _), (_, _), (_, _)]) rfl, S157⟩
          case h =>
           rintro a172 X172 ⟨h172, S172⟩
           refine sl_val h172 (wn rfl) (ex_move (h172.ev rfl)) rfl rfl fun a173 h173 => ?_
           apply sl_and h173 S172 99 rfl 4 103
           case ht =>
            intro gc99
            refine sl_val (v := ringV (apX r s) A30 c30) h173 (wanted_yes h173 _ rfl rfl rfl gc99) (ex_loads (by kernel_rfl) (by kernel_rfl) (h173.ev rfl) (S172.cellsAll (i := 3) rfl)) rfl rfl fun a174 h174 => ?_
            refine sl_val (v := ringV (appR r s) A87 c87) h174 (wanted_yes h174 _ rfl rfl rfl gc99) (ex_loads (by kernel_rfl) (by kernel_rfl) (h174.ev rfl) (S172.cellsAll (i := 0) rfl)) rfl rfl fun a175 h175 => ?_
            refine sl_bel h175 (wanted_yes h175 _ rfl rfl rfl gc99) (ex_call (fun _ _ => by kernel_rfl) (h175.evs rfl) rfl) rfl rfl S172 (rSame_any (apX r s) (appR r s) A30 A87 c30 c87 _ (S172.rdOf (i := 4) rfl) (S172.rdOf (i := 1) rfl) hxl (by rw [← e2]; exact hxl)) fun a176 X176 h176 S176 => ?_
            refine sl_val h176 (wn rfl) (ex_pick_t (h176.ev rfl) gc99 (h176.ev rfl)) rfl rfl fun a177 h177 => ?_
            exact st_nil ⟨h177.mid (m := [(_, _), (_, _), (_, _)]) rfl, S176⟩
           case hf =>
            intro gc99
            refine sl_no h173 (wanted_no h173 _ rfl rfl rfl gc99) rfl rfl fun a178 h178 => ?_
            refine sl_no h178 (wanted_no h178 _ rfl rfl rfl gc99) rfl rfl fun a179 h179 => ?_
            refine sl_no h179 (wanted_no h179 _ rfl rfl rfl gc99) rfl rfl fun a180 h180 => ?_
            refine sl_val h180 (wn rfl) (ex_pick_f (h180.ev rfl) gc99 (h180.ev rfl)) rfl rfl fun a181 h181 => ?_
            exact st_nil ⟨h181.mid (m := [(_, _), (_, _), (_, _)]) rfl, S172⟩
           case h =>
            rintro a182 X182 ⟨h182, S182⟩
            refine sl_val h182 (wn rfl) (ex_assign (h182.ev rfl)) rfl rfl fun a183 h183 => ?_
            refine st_nil ?_
            refine go_then ?_
            refine wp_ret ?_
            refine fin1 h183 rfl rfl ?_
            refine ⟨?_, S182.below⟩
            rw [e1, e2, e3]; simp
end Go.Proofs.YtmlilplbdpjfcaaGreatDoor
