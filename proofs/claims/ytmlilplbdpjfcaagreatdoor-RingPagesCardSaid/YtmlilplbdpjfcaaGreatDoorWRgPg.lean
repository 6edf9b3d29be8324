/-
  RingPages: the walk.
-/
import Derived.Test.YtmlilplbdpjfcaaGreatDoorRg29
import Derived.Test.YtmlilplbdpjfcaaGreatDoorRg33
import Derived.Test.YtmlilplbdpjfcaaGreatDoorRgF
namespace Go.Proofs.YtmlilplbdpjfcaaGreatDoor
set_option linter.unusedVariables false
set_option linter.unusedSimpArgs false
set_option maxRecDepth 4000
open Go.RowKit Go.Sort
def ratS (r : RngP) (n : Int) : ByteArray := if (chkR r).2 = 0 then (match fndR r.rs n with | some x => x.b | none => ⟨#[]⟩) else ⟨#[]⟩
def ratE (r : RngP) (n : Int) : Int := if (chkR r).2 = 0 then (if (fndR r.rs n).isSome then 0 else 6) else (chkR r).2
theorem rat_any (r : RngP) (A : Option Addr) (c : Nat) (n : Int) (w : World) (hr : Rd w w.heap.size A (recsV r.rs)) (hlen : r.rs.length ≤ 1000) (hx : ∀ x ∈ r.rs, I6 x.l) :
 Calls Tryz.prog 50 #[ringV r A c, .int .i64 n] w fun e w' => e = .returned (.tuple #[.string (ratS r n), .int .i64 (ratE r n)]) ∧ Below w.heap.size w w' :=
 (RecordAt_any r A c n w hr hlen hx).mono fun e w' ⟨h1, h2⟩ => ⟨by
  rw [h1]
  unfold ratS ratE
  by_cases h0 : (chkR r).2 = 0
  · rw [if_pos h0, if_pos h0, if_pos h0]
    cases fndR r.rs n <;> rfl
  · rw [if_neg h0, if_neg h0, if_neg h0], h2⟩
def pofS (r : RngP) (q : Int) : ByteArray := if pofE r q = 0 then bs (pgR r q) else ⟨#[]⟩
def rbS (r : RngP) : List UInt8 := if (chkR r).2 = 0 then (rbL r).flatten else []
theorem rbs_any (r : RngP) (A : Option Addr) (c : Nat) (w : World) (hr : Rd w w.heap.size A (recsV r.rs)) (hlen : r.rs.length ≤ 1000) (hx : ∀ x ∈ r.rs, I6 x.l) :
 Calls Tryz.prog 46 #[ringV r A c] w fun e w' => e = .returned (.tuple #[.string (bs (rbS r)), .int .i64 (chkR r).2]) ∧ Below w.heap.size w w' :=
 (RingBytes_any r A c w hr hlen hx).mono fun e w' ⟨h1, h2⟩ => ⟨by
  rw [h1]
  unfold rbS
  split <;> rfl, h2⟩
theorem rrec_any (r : RngP) (A : Option Addr) (c : Nat) (n : Int) (w : World) (hr : Rd w w.heap.size A (recsV r.rs)) (hlen : r.rs.length ≤ 1000) (hz : (chkR r).2 = 0) :
 Calls Tryz.prog 52 #[ringV r A c, .int .i64 n] w fun e w' => e = .returned (.tuple #[.string (ratS r n), .bool (ratE r n == 0)]) ∧ Below w.heap.size w w' :=
 (rRecord_any r A c n w hr hlen).mono fun e w' ⟨h1, h2⟩ => ⟨by
  rw [h1]
  unfold ratS ratE
  rw [if_pos hz, if_pos hz]
  cases fndR r.rs n <;> rfl, h2⟩
theorem pof_any (r : RngP) (A : Option Addr) (c : Nat) (q : Int) (w : World) (hr : Rd w w.heap.size A (recsV r.rs)) (hlen : r.rs.length ≤ 1000) (hx : ∀ x ∈ r.rs, I6 x.l) :
 Calls Tryz.prog 51 #[ringV r A c, .int .i64 q] w fun e w' => e = .returned (.tuple #[.string (pofS r q), .int .i64 (pofE r q)]) ∧ Below w.heap.size w w' := PageOf_any r A c q w hr hlen hx
theorem inR_le2 (s : List UInt8) : (inR s).rs.length ≤ 1000 := by
 unfold inR
 split
 · rename_i h
   unfold inE at h
   split at h
   · rename_i h2; exact absurd h h2
   · have := (ok_iff.1 h).h.len; omega
 · exact Nat.zero_le _
set_option maxHeartbeats 2000000 in
theorem RingPages_any (r : RngP) (hI : RngI r) (A : Option Addr) (c : Nat) (n : Int) (hn : (Lit.int .i64 n).wf = true) (q : Int) (hq : (Lit.int .i64 q).wf = true) (w : World) (hr : Rd w w.heap.size A (recsV r.rs)) :
 Calls Tryz.prog 10 #[ringV r A c, .int .i64 n, .int .i64 q] w fun e w' => e = .returned (.bool true) ∧ Below w.heap.size w w' := by
 refine st_enter (N := 160) Tryz.func10 rfl rfl rfl (fun a0 h0 => ?_)
 have S0 := St.init w
 refine st_seq (st_reg ?_)
 refine sl_new h0 (wn rfl) (f := fun b => .pointer (some ⟨b, 0, none⟩)) (ex_box (h0.ev rfl)) rfl rfl S0 fun b3 a1 X1 gb3 h1 S1 => ?_
 refine ma h1 rfl rfl fun a2 h2 => ?_
 refine st_nil (go_then (st_seq (st_seq (st_reg ?_))))
 refine sl_bel h2 (wn rfl) (ex_call (fun _ _ => by kernel_rfl) (h2.evs rfl) rfl) rfl rfl S1 (awake_any _) fun a3 X3 h3 S3 => ?_
 refine sv h3 (ex_not (h3.ev rfl)) fun a4 h4 => ?_
 refine st_nil (go_then ?_)
 refine st_if_f (h4.ev rfl) (rfl) ?_
 refine wp_skip (go_then (st_seq (st_seq (st_reg ?_))))
 refine sv (v := ringV r A c) h4 (ex_loads (by kernel_rfl) (by kernel_rfl) (h4.ev rfl) (S3.cellsAll (i := 0) rfl)) fun a5 h5 => ?_
 refine sl_bel h5 (wn rfl) (ex_call (fun _ _ => by kernel_rfl) (h5.evs rfl) rfl) rfl rfl S3 (Few_any r A c _ (S3.rd0 hr)) fun a6 X6 h6 S6 => ?_
 refine sv h6 (ex_not (h6.ev rfl)) fun a7 h7 => ?_
 refine st_nil (go_then ?_)
 refine st_if (h7.ev rfl) (fun hc1 => ?_) (fun hc1 => ?_)
 ·
  refine st_seq (st_reg ?_)
  refine ma h7 rfl rfl fun a8 h8 => ?_
  refine st_nil (go_then (wp_ret (ret_then ?_)))
  refine fin1 h8 rfl rfl ?_
  exact ⟨rfl, S6.below⟩
 ·
  have hf : fewB r = true := by simpa using hc1
  have hlen := few_le hf
  have hx : ∀ x ∈ r.rs, I6 x.l := fun x hx => (hI.rs x hx).1
  refine wp_skip (go_then (st_seq (st_reg ?_)))
  refine sv (v := ringV r A c) h7 (ex_loads (by kernel_rfl) (by kernel_rfl) (h7.ev rfl) (S6.cellsAll (i := 0) rfl)) fun a9 h9 => ?_
  refine sl_ownt h9 (wn rfl) (ex_call (fun _ _ => by kernel_rfl) (h9.evs rfl) rfl) rfl rfl S6 (rCopy_any r A c _ (S6.rd0 hr) hlen) (Nat.le_refl _) fun A29 c29 a10 X10 h10 S10 => ?_
  refine mv h10 rfl rfl fun a11 h11 => ?_
  refine sl_bel h11 (wn rfl) (ex_call (fun _ _ => by kernel_rfl) (h11.evs rfl) rfl) rfl rfl S10 (rat_any r A29 c29 n _ (S10.rdOf (i := 0) rfl) hlen hx) fun a12 X12 h12 S12 => ?_
  refine mv h12 rfl rfl fun a13 h13 => ?_
  refine sv h13 (ex_extract (h13.ev rfl) rfl) fun a14 h14 => ?_
  refine sv h14 (ex_extract (h14.ev rfl) rfl) fun a15 h15 => ?_
  refine ma h15 rfl rfl fun a16 h16 => ?_
  refine ma h16 rfl rfl fun a17 h17 => ?_
  refine st_nil (go_then (st_seq (st_reg ?_)))
  refine sv (v := ringV r A c) h17 (ex_loads (by kernel_rfl) (by kernel_rfl) (h17.ev rfl) (S12.cellsAll (i := 1) rfl)) fun a18 h18 => ?_
  refine sl_ownt h18 (wn rfl) (ex_call (fun _ _ => by kernel_rfl) (h18.evs rfl) rfl) rfl rfl S12 (rCopy_any r A c _ (S12.rd0 hr) hlen) (Nat.le_refl _) fun A36 c36 a19 X19 h19 S19 => ?_
  refine mv h19 rfl rfl fun a20 h20 => ?_
  refine sl_bel h20 (wn rfl) (ex_call (fun _ _ => by kernel_rfl) (h20.evs rfl) rfl) rfl rfl S19 (pof_any r A36 c36 q _ (S19.rdOf (i := 0) rfl) hlen hx) fun a21 X21 h21 S21 => ?_
  refine mv h21 rfl rfl fun a22 h22 => ?_
  refine sv h22 (ex_extract (h22.ev rfl) rfl) fun a23 h23 => ?_
  refine sv h23 (ex_extract (h23.ev rfl) rfl) fun a24 h24 => ?_
  refine ma h24 rfl rfl fun a25 h25 => ?_
  refine ma h25 rfl rfl fun a26 h26 => ?_
  refine st_nil (go_then (st_seq (st_reg ?_)))
  refine sv (v := ringV r A c) h26 (ex_loads (by kernel_rfl) (by kernel_rfl) (h26.ev rfl) (S21.cellsAll (i := 2) rfl)) fun a27 h27 => ?_
  refine sl_ownt h27 (wn rfl) (ex_call (fun _ _ => by kernel_rfl) (h27.evs rfl) rfl) rfl rfl S21 (rCopy_any r A c _ (S21.rd0 hr) hlen) (Nat.le_refl _) fun A43 c43 a28 X28 h28 S28 => ?_
  refine sl_bel h28 (wn rfl) (ex_call (fun _ _ => by kernel_rfl) (h28.evs rfl) rfl) rfl rfl S28 (rbs_any r A43 c43 _ (S28.rdOf (i := 0) rfl) hlen hx) fun a29 X29 h29 S29 => ?_
  refine mv h29 rfl rfl fun a30 h30 => ?_
  refine sv h30 (ex_extract (h30.ev rfl) rfl) fun a31 h31 => ?_
  refine sv h31 (ex_extract (h31.ev rfl) rfl) fun a32 h32 => ?_
  refine ma h32 rfl rfl fun a33 h33 => ?_
  refine ma h33 rfl rfl fun a34 h34 => ?_
  refine st_nil (go_then (st_seq (st_seq (st_reg ?_))))
  refine sv (v := ringV r A c) h34 (ex_loads (by kernel_rfl) (by kernel_rfl) (h34.ev rfl) (S29.cellsAll (i := 3) rfl)) fun a35 h35 => ?_
  refine sl_bel h35 (wn rfl) (ex_call (fun _ _ => by kernel_rfl) (h35.evs rfl) rfl) rfl rfl S29 (rRingErr_any r A c _ (S29.rd0 hr) hlen hx) fun a36 X36 h36 S36 => ?_
  refine ma h36 rfl rfl fun a37 h37 => ?_
  refine st_nil (go_then (st_seq (st_reg ?_)))
  refine mv h37 rfl rfl fun a38 h38 => ?_
  refine sv h38 (ex_neq (h38.ev rfl) (h38.ev rfl)) fun a39 h39 => ?_
  refine st_nil (go_then ?_)
  refine st_if (h39.ev rfl) (fun hc2 => ?_) (fun hc2 => ?_)
  ·
   have hne : (chkR r).2 ≠ 0 := by simpa using hc2
   have k1 : ratE r n = (chkR r).2 := by unfold ratE; rw [if_neg hne]
   have k2 : pofE r q = (chkR r).2 := by unfold pofE; rw [if_pos hne]
   have k3 : ratS r n = ⟨#[]⟩ := by unfold ratS; rw [if_neg hne]
   have k4 : pofS r q = ⟨#[]⟩ := by unfold pofS; rw [if_neg (by rw [k2]; exact hne)]
   have k5 : bs (rbS r) = ⟨#[]⟩ := by unfold rbS; rw [if_neg hne]; rfl
   refine st_seq (st_reg ?_)
   refine mv h39 rfl rfl fun a40 h40 => ?_
   refine mv h40 rfl rfl fun a41 h41 => ?_
   refine sv h41 (ex_eql (h41.ev rfl) (h41.ev rfl)) fun a42 h42 => ?_
   refine mv h42 rfl rfl fun a43 h43 => ?_
   refine sl_val h43 (wanted_yes h43 _ rfl rfl rfl ((by simp [k1]))) (ex_move (h43.ev rfl)) rfl rfl fun a44 h44 => ?_
   refine sl_val h44 (wanted_yes h44 _ rfl rfl rfl ((by simp [k1]))) (ex_move (h44.ev rfl)) rfl rfl fun a45 h45 => ?_
   refine sl_val h45 (wanted_yes h45 _ rfl rfl rfl ((by simp [k1]))) (ex_eql (h45.ev rfl) (h45.ev rfl)) rfl rfl fun a46 h46 => ?_
   refine sv h46 (ex_pick_t (h46.ev rfl) ((by simp [k1])) (h46.ev rfl)) fun a47 h47 => ?_
   refine mv h47 rfl rfl fun a48 h48 => ?_
   refine sl_val h48 (wanted_yes h48 _ rfl rfl rfl ((by simp [k2]))) (ex_move (h48.ev rfl)) rfl rfl fun a49 h49 => ?_
   refine sl_val h49 (wanted_yes h49 _ rfl rfl rfl ((by simp [k2]))) (ex_move (h49.ev rfl)) rfl rfl fun a50 h50 => ?_
   refine sl_val h50 (wanted_yes h50 _ rfl rfl rfl ((by simp [k2]))) (ex_eql (h50.ev rfl) (h50.ev rfl)) rfl rfl fun a51 h51 => ?_
   refine sv h51 (ex_pick_t (h51.ev rfl) ((by simp [k2])) (h51.ev rfl)) fun a52 h52 => ?_
   refine mv h52 rfl rfl fun a53 h53 => ?_
   refine sl_val h53 (wanted_yes h53 _ rfl rfl rfl ((by simp))) (ex_move (h53.ev rfl)) rfl rfl fun a54 h54 => ?_
   refine sl_val h54 (wanted_yes h54 _ rfl rfl rfl ((by simp))) (ex_seql (h54.ev rfl) (h54.ev rfl)) rfl rfl fun a55 h55 => ?_
   refine sv h55 (ex_pick_t (h55.ev rfl) ((by simp)) (h55.ev rfl)) fun a56 h56 => ?_
   refine mv h56 rfl rfl fun a57 h57 => ?_
   refine sl_val h57 (wanted_yes h57 _ rfl rfl rfl ((by simp [k3]))) (ex_move (h57.ev rfl)) rfl rfl fun a58 h58 => ?_
   refine sl_val h58 (wanted_yes h58 _ rfl rfl rfl ((by simp [k3]))) (ex_seql (h58.ev rfl) (h58.ev rfl)) rfl rfl fun a59 h59 => ?_
   refine sv h59 (ex_pick_t (h59.ev rfl) ((by simp [k3])) (h59.ev rfl)) fun a60 h60 => ?_
   refine mv h60 rfl rfl fun a61 h61 => ?_
   refine sl_val h61 (wanted_yes h61 _ rfl rfl rfl ((by simp [k4]))) (ex_move (h61.ev rfl)) rfl rfl fun a62 h62 => ?_
   refine sl_val h62 (wanted_yes h62 _ rfl rfl rfl ((by simp [k4]))) (ex_seql (h62.ev rfl) (h62.ev rfl)) rfl rfl fun a63 h63 => ?_
   refine sv h63 (ex_pick_t (h63.ev rfl) ((by simp [k4])) (h63.ev rfl)) fun a64 h64 => ?_
   refine ma h64 rfl rfl fun a65 h65 => ?_
   refine st_nil (go_then (wp_ret (ret_then ?_)))
   refine fin1 h65 rfl rfl ?_
   exact ⟨by simp [k5], S36.below⟩
  ·
   have hz : (chkR r).2 = 0 := by simpa using hc2
   have hok := ok_iff.1 hz
   have hrb := rooms_bd hok
   have hbs : rbS r = (rbL r).flatten := by unfold rbS; rw [if_pos hz]
   have hfl : (rbL r).flatten.length ≤ 1000000 := by
    have h1 := flat512 (rbL r) (rbK_all r hok _)
    have h2 : (rbL r).length = r.pg.toNat := rbK_length r _
    have := hok.h.pg
    omega
   have hE : ratE r n = 0 ∨ ratE r n = 6 ∧ ratS r n = ⟨#[]⟩ := by
    unfold ratE ratS
    rw [if_pos hz, if_pos hz]
    cases fndR r.rs n with
    | some x => exact .inl rfl
    | none => exact .inr ⟨rfl, rfl⟩
   have hif3 : ((ratE r n == 0) && (ratE r n != 0 || !decide (ratS r n = ratS r n)) || !(ratE r n == 0) && (ratE r n != 6 || !decide (ratS r n = ⟨#[]⟩))) = false := by
    rcases hE with h1 | ⟨h1, h2⟩
    · simp [h1]
    · simp [h1, h2]
   have hclo : cloE r = 0 → (inE (rbS r) == 0) = true ∧ inR (rbS r) = cloR r := fun h => by
    obtain ⟨h1, h2⟩ := ring_back hok h
    rw [hbs, h1, h2]; exact ⟨rfl, rfl⟩
   have hcl : (cloR r).rs.length ≤ 1000 := by
    unfold cloR
    split
    · exact hlen
    · exact Nat.zero_le _
   refine wp_skip (go_then (st_seq (st_reg ?_)))
   refine sv (v := ringV r A c) h39 (ex_loads (by kernel_rfl) (by kernel_rfl) (h39.ev rfl) (S36.cellsAll (i := 3) rfl)) fun a66 h66 => ?_
   refine mv h66 rfl rfl fun a67 h67 => ?_
   refine sl_bel h67 (wn rfl) (ex_call (fun _ _ => by kernel_rfl) (h67.evs rfl) rfl) rfl rfl S36 (rrec_any r A c n _ (S36.rd0 hr) hlen hz) fun a68 X68 h68 S68 => ?_
   refine mv h68 rfl rfl fun a69 h69 => ?_
   refine sv h69 (ex_extract (h69.ev rfl) rfl) fun a70 h70 => ?_
   refine sv h70 (ex_extract (h70.ev rfl) rfl) fun a71 h71 => ?_
   refine ma h71 rfl rfl fun a72 h72 => ?_
   refine ma h72 rfl rfl fun a73 h73 => ?_
   refine st_nil (go_then (st_seq (st_seq (st_reg ?_))))
   refine mv h73 rfl rfl fun a74 h74 => ?_
   refine mv h74 rfl rfl fun a75 h75 => ?_
   apply sl_and h75 S68 83 rfl 8 91
   case ht =>
    intro gc83
    refine sl_val h75 (wanted_yes h75 _ rfl rfl rfl gc83) (ex_move (h75.ev rfl)) rfl rfl fun a76 h76 => ?_
    refine sl_val h76 (wanted_yes h76 _ rfl rfl rfl gc83) (ex_neq (h76.ev rfl) (h76.ev rfl)) rfl rfl fun a77 h77 => ?_
    refine sl_val h77 (wanted_yes h77 _ rfl rfl rfl gc83) (ex_move (h77.ev rfl)) rfl rfl fun a78 h78 => ?_
    apply sl_or h78 S68 86 rfl 4 90
    case hf =>
     intro gc86
     refine sl_val h78 (wanted_yes h78 _ rfl rfl rfl gc86) (ex_move (h78.ev rfl)) rfl rfl fun a79 h79 => ?_
     refine sl_val h79 (wanted_yes h79 _ rfl rfl rfl gc86) (ex_move (h79.ev rfl)) rfl rfl fun a80 h80 => ?_
     refine sl_val h80 (wanted_yes h80 _ rfl rfl rfl gc86) (ex_sneq (h80.ev rfl) (h80.ev rfl)) rfl rfl fun a81 h81 => ?_
     refine sl_val h81 (wanted_yes h81 _ rfl rfl rfl gc83) (ex_pick_f (h81.ev rfl) gc86 (h81.ev rfl)) rfl rfl fun a82 h82 => ?_
     exact st_nil ⟨h82.mid (m := [(_, _), (_, _), (_, _)]) rfl, S68⟩
    case ht =>
     intro gc86
     refine sl_no h78 (wanted_no h78 _ rfl rfl rfl gc86) rfl rfl fun a83 h83 => ?_
     refine sl_no h83 (wanted_no h83 _ rfl rfl rfl gc86) rfl rfl fun a84 h84 => ?_
     refine sl_no h84 (wanted_no h84 _ rfl rfl rfl gc86) rfl rfl fun a85 h85 => ?_
     refine sl_val h85 (wanted_yes h85 _ rfl rfl rfl gc83) (ex_pick_t (h85.ev rfl) gc86 (h85.ev rfl)) rfl rfl fun a86 h86 => ?_
     exact st_nil ⟨h86.mid (m := [(_, _), (_, _), (_, _)]) rfl, S68⟩
    case h =>
     rintro a87 X87 ⟨h87, S87⟩
     refine sv h87 (ex_pick_t (h87.ev rfl) gc83 (h87.ev rfl)) fun a88 h88 => ?_
     exact st_nil ⟨h88.mid (m := [(_, _), (_, _), (_, _), (_, _)]) rfl, S87⟩
   case hf =>
    intro gc83
    refine sl_no h75 (wanted_no h75 _ rfl rfl rfl gc83) rfl rfl fun a89 h89 => ?_
    refine sl_no h89 (wanted_no h89 _ rfl rfl rfl gc83) rfl rfl fun a90 h90 => ?_
    refine sl_no h90 (wanted_no h90 _ rfl rfl rfl gc83) rfl rfl fun a91 h91 => ?_
    refine sl_no h91 (wanted_not h91 _ rfl rfl rfl) rfl rfl fun a92 h92 => ?_
    refine sl_no h92 (wanted_not h92 _ rfl rfl rfl) rfl rfl fun a93 h93 => ?_
    refine sl_no h93 (wanted_not h93 _ rfl rfl rfl) rfl rfl fun a94 h94 => ?_
    refine sl_no h94 (wanted_no h94 _ rfl rfl rfl gc83) rfl rfl fun a95 h95 => ?_
    refine sv h95 (ex_pick_f (h95.ev rfl) gc83 (h95.ev rfl)) fun a96 h96 => ?_
    exact st_nil ⟨h96.mid (m := [(_, _), (_, _), (_, _), (_, _), (_, _), (_, _), (_, _)]) rfl, S68⟩
   case h =>
    rintro a97 X97 ⟨h97, S97⟩
    refine mv h97 rfl rfl fun a98 h98 => ?_
    apply sl_or (x := !(ratE r n == 0) && (ratE r n != 6 || !decide (ratS r n = ⟨#[]⟩))) h98 S97 92 rfl 11 103
    case hf =>
     intro gc92
     refine sl_val h98 (wanted_yes h98 _ rfl rfl rfl gc92) (ex_move (h98.ev rfl)) rfl rfl fun a99 h99 => ?_
     refine sl_val h99 (wanted_yes h99 _ rfl rfl rfl gc92) (ex_not (h99.ev rfl)) rfl rfl fun a100 h100 => ?_
     refine sl_val h100 (wanted_yes h100 _ rfl rfl rfl gc92) (ex_move (h100.ev rfl)) rfl rfl fun a101 h101 => ?_
     apply sl_and (x := ratE r n != 6 || !decide (ratS r n = ⟨#[]⟩)) h101 S97 95 rfl 7 102
     case ht =>
      intro gc95
      refine sl_val h101 (wanted_yes h101 _ rfl rfl rfl gc95) (ex_move (h101.ev rfl)) rfl rfl fun a102 h102 => ?_
      refine sl_val h102 (wanted_yes h102 _ rfl rfl rfl gc95) (ex_neq (h102.ev rfl) (h102.ev rfl)) rfl rfl fun a103 h103 => ?_
      refine sl_val h103 (wanted_yes h103 _ rfl rfl rfl gc95) (ex_move (h103.ev rfl)) rfl rfl fun a104 h104 => ?_
      apply sl_or (x := !decide (ratS r n = ⟨#[]⟩)) h104 S97 98 rfl 3 101
      case hf =>
       intro gc98
       refine sl_val h104 (wanted_yes h104 _ rfl rfl rfl gc98) (ex_move (h104.ev rfl)) rfl rfl fun a105 h105 => ?_
       refine sl_val h105 (wanted_yes h105 _ rfl rfl rfl gc98) (ex_sneq (h105.ev rfl) (h105.ev rfl)) rfl rfl fun a106 h106 => ?_
       refine sl_val h106 (wanted_yes h106 _ rfl rfl rfl gc95) (ex_pick_f (h106.ev rfl) gc98 (h106.ev rfl)) rfl rfl fun a107 h107 => ?_
       exact st_nil ⟨h107.mid (m := [(_, _), (_, _)]) rfl, S97⟩
      case ht =>
       intro gc98
       refine sl_no h104 (wanted_no h104 _ rfl rfl rfl gc98) rfl rfl fun a108 h108 => ?_
       refine sl_no h108 (wanted_no h108 _ rfl rfl rfl gc98) rfl rfl fun a109 h109 => ?_
       refine sl_val h109 (wanted_yes h109 _ rfl rfl rfl gc95) (ex_pick_t (h109.ev rfl) gc98 (h109.ev rfl)) rfl rfl fun a110 h110 => ?_
       exact st_nil ⟨h110.mid (m := [(_, _), (_, _)]) rfl, S97⟩
      case h =>
       rintro a111 X111 ⟨h111, S111⟩
       refine sl_val h111 (wanted_yes h111 _ rfl rfl rfl gc92) (ex_pick_t (h111.ev rfl) gc95 (h111.ev rfl)) rfl rfl fun a112 h112 => ?_
       exact st_nil ⟨h112.mid (m := [(_, _), (_, _), (_, _), (_, _)]) rfl, S111⟩
     case hf =>
      intro gc95
      refine sl_no h101 (wanted_no h101 _ rfl rfl rfl gc95) rfl rfl fun a113 h113 => ?_
      refine sl_no h113 (wanted_no h113 _ rfl rfl rfl gc95) rfl rfl fun a114 h114 => ?_
      refine sl_no h114 (wanted_no h114 _ rfl rfl rfl gc95) rfl rfl fun a115 h115 => ?_
      refine sl_no h115 (wanted_not h115 _ rfl rfl rfl) rfl rfl fun a116 h116 => ?_
      refine sl_no h116 (wanted_not h116 _ rfl rfl rfl) rfl rfl fun a117 h117 => ?_
      refine sl_no h117 (wanted_no h117 _ rfl rfl rfl gc95) rfl rfl fun a118 h118 => ?_
      refine sl_val h118 (wanted_yes h118 _ rfl rfl rfl gc92) (ex_pick_f (h118.ev rfl) gc95 (h118.ev rfl)) rfl rfl fun a119 h119 => ?_
      exact st_nil ⟨h119.mid (m := [(_, _), (_, _), (_, _), (_, _), (_, _), (_, _)]) rfl, S97⟩
     case h =>
      rintro a120 X120 ⟨h120, S120⟩
      refine sv h120 (ex_pick_f (h120.ev rfl) gc92 (h120.ev rfl)) fun a121 h121 => ?_
      exact st_nil ⟨h121.mid (m := [(_, _), (_, _), (_, _), (_, _)]) rfl, S120⟩
    case ht =>
     intro gc92
     refine sl_no h98 (wanted_no h98 _ rfl rfl rfl gc92) rfl rfl fun a122 h122 => ?_
     refine sl_no h122 (wanted_no h122 _ rfl rfl rfl gc92) rfl rfl fun a123 h123 => ?_
     refine sl_no h123 (wanted_no h123 _ rfl rfl rfl gc92) rfl rfl fun a124 h124 => ?_
     refine sl_no h124 (wanted_not h124 _ rfl rfl rfl) rfl rfl fun a125 h125 => ?_
     refine sl_no h125 (wanted_not h125 _ rfl rfl rfl) rfl rfl fun a126 h126 => ?_
     refine sl_no h126 (wanted_not h126 _ rfl rfl rfl) rfl rfl fun a127 h127 => ?_
     refine sl_no h127 (wanted_not h127 _ rfl rfl rfl) rfl rfl fun a128 h128 => ?_
     refine sl_no h128 (wanted_not h128 _ rfl rfl rfl) rfl rfl fun a129 h129 => ?_
     refine sl_no h129 (wanted_not h129 _ rfl rfl rfl) rfl rfl fun a130 h130 => ?_
     refine sl_no h130 (wanted_no h130 _ rfl rfl rfl gc92) rfl rfl fun a131 h131 => ?_
     refine sv h131 (ex_pick_t (h131.ev rfl) gc92 (h131.ev rfl)) fun a132 h132 => ?_
     exact st_nil ⟨h132.mid (m := [(_, _), (_, _), (_, _), (_, _), (_, _), (_, _), (_, _), (_, _), (_, _), (_, _)]) rfl, S97⟩
    case h =>
     rintro a133 X133 ⟨h133, S133⟩
     refine st_nil (go_then ?_)
     refine st_if_f (h133.ev rfl) (hif3) ?_
     refine wp_skip (go_then (st_seq (st_reg ?_)))
     refine sv (v := ringV r A c) h133 (ex_loads (by kernel_rfl) (by kernel_rfl) (h133.ev rfl) (S133.cellsAll (i := 3) rfl)) fun a134 h134 => ?_
     refine sl_bel h134 (wn rfl) (ex_call (fun _ _ => by kernel_rfl) (h134.evs rfl) rfl) rfl rfl S133 (rRooms_any r A c _ (S133.rd0 hr) hok.last hok.o hlen) fun a135 X135 h135 S135 => ?_
     refine mv h135 rfl rfl fun a136 h136 => ?_
     refine sv h136 (ex_extract (h136.ev rfl) rfl) fun a137 h137 => ?_
     refine sv h137 (ex_extract (h137.ev rfl) rfl) fun a138 h138 => ?_
     refine ma h138 rfl rfl fun a139 h139 => ?_
     refine ma h139 rfl rfl fun a140 h140 => ?_
     refine st_nil (go_then (st_seq (st_seq (st_reg ?_))))
     refine mv h140 rfl rfl fun a141 h141 => ?_
     refine mv h141 rfl rfl fun a142 h142 => ?_
     refine mv h142 rfl rfl fun a143 h143 => ?_
     refine mv h143 rfl rfl fun a144 h144 => ?_
     refine sv h144 (ex_add (h144.ev rfl) (h144.ev rfl) (by omega)) fun a145 h145 => ?_
     refine sv h145 (ex_sub (h145.ev rfl) (h145.ev rfl) (by omega)) fun a146 h146 => ?_
     refine sl_pure h146 (wn rfl) (ex_call (fun _ _ => by kernel_rfl) (h146.evs rfl) rfl) rfl rfl (Within_any _ _ _ _) fun a147 h147 => ?_
     refine st_nil (go_then ?_)
     refine st_if (h147.ev rfl) (fun hc4 => ?_) (fun hc4 => ?_)
     ·
      have hp : pofE r q = 0 := by unfold pofE; rw [if_neg (by simpa using hz), if_neg (by simpa using hc4)]
      have hps : pofS r q = bs (pgR r q) := by unfold pofS; rw [if_pos hp]
      have hqb := inB_true.1 hc4
      refine st_seq (st_reg ?_)
      refine mv h147 rfl rfl fun a148 h148 => ?_
      refine sv h148 (ex_neq (h148.ev rfl) (h148.ev rfl)) fun a149 h149 => ?_
      refine mv h149 rfl rfl fun a150 h150 => ?_
      refine sl_val h150 (wanted_yes h150 _ rfl rfl rfl ((by simp [hp]))) (ex_move (h150.ev rfl)) rfl rfl fun a151 h151 => ?_
      refine sl_val (v := ringV r A c) h151 (wanted_yes h151 _ rfl rfl rfl ((by simp [hp]))) (ex_loads (by kernel_rfl) (by kernel_rfl) (h151.ev rfl) (S135.cellsAll (i := 3) rfl)) rfl rfl fun a152 h152 => ?_
      refine sl_val h152 (wanted_yes h152 _ rfl rfl rfl ((by simp [hp]))) (ex_move (h152.ev rfl)) rfl rfl fun a153 h153 => ?_
      refine sl_bel h153 (wanted_yes h153 _ rfl rfl rfl ((by simp [hp]))) (ex_call (fun _ _ => by kernel_rfl) (h153.evs rfl) rfl) rfl rfl S135 (rPage_any r A c q _ (S135.rd0 hr) hok (by omega)) fun a154 X154 h154 S154 => ?_
      refine sl_val h154 (wanted_yes h154 _ rfl rfl rfl ((by simp [hp]))) (ex_sneq (h154.ev rfl) (h154.ev rfl)) rfl rfl fun a155 h155 => ?_
      refine sv h155 (ex_pick_f (h155.ev rfl) ((by simp [hp])) (h155.ev rfl)) fun a156 h156 => ?_
      refine st_nil (go_then ?_)
      refine st_if_f (h156.ev rfl) ((by simp [hps])) ?_
      refine wp_skip (go_then (st_seq (st_reg ?_)))
      refine mv h156 rfl rfl fun a157 h157 => ?_
      refine sl_ownt h157 (wn rfl) (ex_call (fun _ _ => by kernel_rfl) (h157.evs rfl) rfl) rfl rfl S154 (RingIn_l (rbS r) _ (by rw [hbs]; exact hfl)) (Nat.le_refl _) fun A133 c133 a158 X158 h158 S158 => ?_
      refine mv h158 rfl rfl fun a159 h159 => ?_
      refine sv h159 (ex_extract (h159.ev rfl) rfl) fun a160 h160 => ?_
      refine sv h160 (ex_extract (h160.ev rfl) rfl) fun a161 h161 => ?_
      refine sl_new h161 (wn rfl) (f := fun b => .pointer (some ⟨b, 0, none⟩)) (ex_alloc (z := .agg #[.int .i64 0, .int .i64 0, .int .i64 0, .int .i64 0, .int .i64 0, .int .i64 0, .int .i64 0, .slice none 0 0, .int .i64 0]) (by kernel_rfl)) rfl rfl S158 fun b18 a162 X162 gb18 h162 S162 => ?_
      refine sl_store0 h162 (wn rfl) ⟨rfl, rfl⟩ (h162.ev rfl) (h162.ev rfl) rfl (by kernel_rfl) S162 (i := 0) rfl rfl rfl fun X163 S163 => ?_
      refine ma h162 rfl rfl fun a164 h164 => ?_
      refine st_nil (go_then (st_seq (st_seq (st_reg ?_))))
      refine mv h164 rfl rfl fun a165 h165 => ?_
      refine sv h165 (ex_neq (h165.ev rfl) (h165.ev rfl)) fun a166 h166 => ?_
      refine mv h166 rfl rfl fun a167 h167 => ?_
      refine sl_val h167 (wanted_yes h167 _ rfl rfl rfl ((by simp [hz]))) (ex_move (h167.ev rfl)) rfl rfl fun a168 h168 => ?_
      refine sl_val (v := ringV r A c) h168 (wanted_yes h168 _ rfl rfl rfl ((by simp [hz]))) (ex_loads (by kernel_rfl) (by kernel_rfl) (h168.ev rfl) (S163.cellsAll (i := 5) rfl)) rfl rfl fun a169 h169 => ?_
      refine sl_bel h169 (wanted_yes h169 _ rfl rfl rfl ((by simp [hz]))) (ex_call (fun _ _ => by kernel_rfl) (h169.evs rfl) rfl) rfl rfl S163 (rBytes_any r A c _ (S163.rd0 hr) hok) fun a170 X170 h170 S170 => ?_
      refine sl_val h170 (wanted_yes h170 _ rfl rfl rfl ((by simp [hz]))) (ex_sneq (h170.ev rfl) (h170.ev rfl)) rfl rfl fun a171 h171 => ?_
      refine sv h171 (ex_pick_f (h171.ev rfl) ((by simp [hz])) (h171.ev rfl)) fun a172 h172 => ?_
      refine st_nil (go_then ?_)
      refine st_if_f (h172.ev rfl) ((by simp [hbs])) ?_
      refine wp_skip (go_then (st_seq (st_reg ?_)))
      refine sv (v := ringV r A c) h172 (ex_loads (by kernel_rfl) (by kernel_rfl) (h172.ev rfl) (S170.cellsAll (i := 5) rfl)) fun a173 h173 => ?_
      refine sl_ownt h173 (wn rfl) (ex_call (fun _ _ => by kernel_rfl) (h173.evs rfl) rfl) rfl rfl S170 (rClosed_any r A c _ (S170.rd0 hr) hlen (by have := hok.h.nx; omega)) (Nat.le_refl _) fun A146 c146 a174 X174 h174 S174 => ?_
      refine mv h174 rfl rfl fun a175 h175 => ?_
      refine sv h175 (ex_extract (h175.ev rfl) rfl) fun a176 h176 => ?_
      refine sv h176 (ex_extract (h176.ev rfl) rfl) fun a177 h177 => ?_
      refine sl_new h177 (wn rfl) (f := fun b => .pointer (some ⟨b, 0, none⟩)) (ex_alloc (z := .agg #[.int .i64 0, .int .i64 0, .int .i64 0, .int .i64 0, .int .i64 0, .int .i64 0, .int .i64 0, .slice none 0 0, .int .i64 0]) (by kernel_rfl)) rfl rfl S174 fun b20 a178 X178 gb20 h178 S178 => ?_
      refine sl_store0 h178 (wn rfl) ⟨rfl, rfl⟩ (h178.ev rfl) (h178.ev rfl) rfl (by kernel_rfl) S178 (i := 0) rfl rfl rfl fun X179 S179 => ?_
      refine ma h178 rfl rfl fun a180 h180 => ?_
      refine st_nil (go_then (st_seq (st_reg ?_)))
      refine mv h180 rfl rfl fun a181 h181 => ?_
      refine sv h181 (ex_neq (h181.ev rfl) (h181.ev rfl)) fun a182 h182 => ?_
      refine mv h182 rfl rfl fun a183 h183 => ?_
      apply sl_or h183 S179 151 rfl 8 159
      case hf =>
       intro gc151
       refine sl_val h183 (wanted_yes h183 _ rfl rfl rfl gc151) (ex_move (h183.ev rfl)) rfl rfl fun a184 h184 => ?_
       refine sl_val h184 (wanted_yes h184 _ rfl rfl rfl gc151) (ex_eql (h184.ev rfl) (h184.ev rfl)) rfl rfl fun a185 h185 => ?_
       refine sl_val h185 (wanted_yes h185 _ rfl rfl rfl gc151) (ex_move (h185.ev rfl)) rfl rfl fun a186 h186 => ?_
       refine sl_val (v := ringV (inR (rbS r)) A133 c133) h186 (wanted_yes h186 _ rfl rfl rfl ((hclo (by simpa using gc151)).1)) (ex_loads (by kernel_rfl) (by kernel_rfl) (h186.ev rfl) (S179.cellsAll (i := 2) rfl)) rfl rfl fun a187 h187 => ?_
       refine sl_val (v := ringV (cloR r) A146 c146) h187 (wanted_yes h187 _ rfl rfl rfl ((hclo (by simpa using gc151)).1)) (ex_loads (by kernel_rfl) (by kernel_rfl) (h187.ev rfl) (S179.cellsAll (i := 0) rfl)) rfl rfl fun a188 h188 => ?_
       refine sl_bel h188 (wanted_yes h188 _ rfl rfl rfl ((hclo (by simpa using gc151)).1)) (ex_call (fun _ _ => by kernel_rfl) (h188.evs rfl) rfl) rfl rfl S179 (rSame_any (inR (rbS r)) (cloR r) A133 A146 c133 c146 _ (S179.rdOf (i := 3) rfl) (S179.rdOf (i := 1) rfl) (inR_le2 _) hcl) fun a189 X189 h189 S189 => ?_
       refine sl_val h189 (wanted_yes h189 _ rfl rfl rfl gc151) (ex_pick_t (h189.ev rfl) ((hclo (by simpa using gc151)).1) (h189.ev rfl)) rfl rfl fun a190 h190 => ?_
       refine sv h190 (ex_pick_f (h190.ev rfl) gc151 (h190.ev rfl)) fun a191 h191 => ?_
       exact st_nil ⟨h191.mid (m := [(_, _), (_, _), (_, _), (_, _), (_, _), (_, _), (_, _)]) rfl, S189⟩
      case ht =>
       intro gc151
       refine sl_no h183 (wanted_no h183 _ rfl rfl rfl gc151) rfl rfl fun a192 h192 => ?_
       refine sl_no h192 (wanted_no h192 _ rfl rfl rfl gc151) rfl rfl fun a193 h193 => ?_
       refine sl_no h193 (wanted_no h193 _ rfl rfl rfl gc151) rfl rfl fun a194 h194 => ?_
       refine sl_no h194 (wanted_not h194 _ rfl rfl rfl) rfl rfl fun a195 h195 => ?_
       refine sl_no h195 (wanted_not h195 _ rfl rfl rfl) rfl rfl fun a196 h196 => ?_
       refine sl_no h196 (wanted_not h196 _ rfl rfl rfl) rfl rfl fun a197 h197 => ?_
       refine sl_no h197 (wanted_no h197 _ rfl rfl rfl gc151) rfl rfl fun a198 h198 => ?_
       refine sv h198 (ex_pick_t (h198.ev rfl) gc151 (h198.ev rfl)) fun a199 h199 => ?_
       exact st_nil ⟨h199.mid (m := [(_, _), (_, _), (_, _), (_, _), (_, _), (_, _), (_, _)]) rfl, S179⟩
      case h =>
       rintro a200 X200 ⟨h200, S200⟩
       refine ma h200 rfl rfl fun a201 h201 => ?_
       refine st_nil (go_then (wp_ret ?_))
       refine fin1 h201 rfl rfl ?_
       refine ⟨?_, S200.below⟩
       have hfin : (cloE r != 0 || decide (inR (rbS r) = cloR r)) = true := by
        by_cases h0 : cloE r = 0
        · rw [(hclo h0).2]; simp
        · simp [h0]
       have h9 := congrArg (fun b => Ending.returned (Value.bool b)) hfin
       exact h9
     ·
      have hp : pofE r q = 6 := by unfold pofE; rw [if_neg (by simpa using hz), if_pos hc4]
      have hps : pofS r q = ⟨#[]⟩ := by unfold pofS; rw [hp, if_neg (by decide)]
      refine st_seq (st_reg ?_)
      refine mv h147 rfl rfl fun a202 h202 => ?_
      refine sv h202 (ex_neq (h202.ev rfl) (h202.ev rfl)) fun a203 h203 => ?_
      refine mv h203 rfl rfl fun a204 h204 => ?_
      refine sl_val h204 (wanted_yes h204 _ rfl rfl rfl ((by simp [hp]))) (ex_move (h204.ev rfl)) rfl rfl fun a205 h205 => ?_
      refine sl_val h205 (wanted_yes h205 _ rfl rfl rfl ((by simp [hp]))) (ex_sneq (h205.ev rfl) (h205.ev rfl)) rfl rfl fun a206 h206 => ?_
      refine sv h206 (ex_pick_f (h206.ev rfl) ((by simp [hp])) (h206.ev rfl)) fun a207 h207 => ?_
      refine st_nil (go_then ?_)
      refine st_if_f (h207.ev rfl) ((by simp [hps])) ?_
      refine wp_skip (go_then (st_seq (st_reg ?_)))
      refine mv h207 rfl rfl fun a208 h208 => ?_
      refine sl_ownt h208 (wn rfl) (ex_call (fun _ _ => by kernel_rfl) (h208.evs rfl) rfl) rfl rfl S135 (RingIn_l (rbS r) _ (by rw [hbs]; exact hfl)) (Nat.le_refl _) fun A133 c133 a209 X209 h209 S209 => ?_
      refine mv h209 rfl rfl fun a210 h210 => ?_
      refine sv h210 (ex_extract (h210.ev rfl) rfl) fun a211 h211 => ?_
      refine sv h211 (ex_extract (h211.ev rfl) rfl) fun a212 h212 => ?_
      refine sl_new h212 (wn rfl) (f := fun b => .pointer (some ⟨b, 0, none⟩)) (ex_alloc (z := .agg #[.int .i64 0, .int .i64 0, .int .i64 0, .int .i64 0, .int .i64 0, .int .i64 0, .int .i64 0, .slice none 0 0, .int .i64 0]) (by kernel_rfl)) rfl rfl S209 fun b18 a213 X213 gb18 h213 S213 => ?_
      refine sl_store0 h213 (wn rfl) ⟨rfl, rfl⟩ (h213.ev rfl) (h213.ev rfl) rfl (by kernel_rfl) S213 (i := 0) rfl rfl rfl fun X214 S214 => ?_
      refine ma h213 rfl rfl fun a215 h215 => ?_
      refine st_nil (go_then (st_seq (st_seq (st_reg ?_))))
      refine mv h215 rfl rfl fun a216 h216 => ?_
      refine sv h216 (ex_neq (h216.ev rfl) (h216.ev rfl)) fun a217 h217 => ?_
      refine mv h217 rfl rfl fun a218 h218 => ?_
      refine sl_val h218 (wanted_yes h218 _ rfl rfl rfl ((by simp [hz]))) (ex_move (h218.ev rfl)) rfl rfl fun a219 h219 => ?_
      refine sl_val (v := ringV r A c) h219 (wanted_yes h219 _ rfl rfl rfl ((by simp [hz]))) (ex_loads (by kernel_rfl) (by kernel_rfl) (h219.ev rfl) (S214.cellsAll (i := 5) rfl)) rfl rfl fun a220 h220 => ?_
      refine sl_bel h220 (wanted_yes h220 _ rfl rfl rfl ((by simp [hz]))) (ex_call (fun _ _ => by kernel_rfl) (h220.evs rfl) rfl) rfl rfl S214 (rBytes_any r A c _ (S214.rd0 hr) hok) fun a221 X221 h221 S221 => ?_
      refine sl_val h221 (wanted_yes h221 _ rfl rfl rfl ((by simp [hz]))) (ex_sneq (h221.ev rfl) (h221.ev rfl)) rfl rfl fun a222 h222 => ?_
      refine sv h222 (ex_pick_f (h222.ev rfl) ((by simp [hz])) (h222.ev rfl)) fun a223 h223 => ?_
      refine st_nil (go_then ?_)
      refine st_if_f (h223.ev rfl) ((by simp [hbs])) ?_
      refine wp_skip (go_then (st_seq (st_reg ?_)))
      refine sv (v := ringV r A c) h223 (ex_loads (by kernel_rfl) (by kernel_rfl) (h223.ev rfl) (S221.cellsAll (i := 5) rfl)) fun a224 h224 => ?_
      refine sl_ownt h224 (wn rfl) (ex_call (fun _ _ => by kernel_rfl) (h224.evs rfl) rfl) rfl rfl S221 (rClosed_any r A c _ (S221.rd0 hr) hlen (by have := hok.h.nx; omega)) (Nat.le_refl _) fun A146 c146 a225 X225 h225 S225 => ?_
      refine mv h225 rfl rfl fun a226 h226 => ?_
      refine sv h226 (ex_extract (h226.ev rfl) rfl) fun a227 h227 => ?_
      refine sv h227 (ex_extract (h227.ev rfl) rfl) fun a228 h228 => ?_
      refine sl_new h228 (wn rfl) (f := fun b => .pointer (some ⟨b, 0, none⟩)) (ex_alloc (z := .agg #[.int .i64 0, .int .i64 0, .int .i64 0, .int .i64 0, .int .i64 0, .int .i64 0, .int .i64 0, .slice none 0 0, .int .i64 0]) (by kernel_rfl)) rfl rfl S225 fun b20 a229 X229 gb20 h229 S229 => ?_
      refine sl_store0 h229 (wn rfl) ⟨rfl, rfl⟩ (h229.ev rfl) (h229.ev rfl) rfl (by kernel_rfl) S229 (i := 0) rfl rfl rfl fun X230 S230 => ?_
      refine ma h229 rfl rfl fun a231 h231 => ?_
      refine st_nil (go_then (st_seq (st_reg ?_)))
      refine mv h231 rfl rfl fun a232 h232 => ?_
      refine sv h232 (ex_neq (h232.ev rfl) (h232.ev rfl)) fun a233 h233 => ?_
      refine mv h233 rfl rfl fun a234 h234 => ?_
      apply sl_or h234 S230 151 rfl 8 159
      case hf =>
       intro gc151
       refine sl_val h234 (wanted_yes h234 _ rfl rfl rfl gc151) (ex_move (h234.ev rfl)) rfl rfl fun a235 h235 => ?_
       refine sl_val h235 (wanted_yes h235 _ rfl rfl rfl gc151) (ex_eql (h235.ev rfl) (h235.ev rfl)) rfl rfl fun a236 h236 => ?_
       refine sl_val h236 (wanted_yes h236 _ rfl rfl rfl gc151) (ex_move (h236.ev rfl)) rfl rfl fun a237 h237 => ?_
       refine sl_val (v := ringV (inR (rbS r)) A133 c133) h237 (wanted_yes h237 _ rfl rfl rfl ((hclo (by simpa using gc151)).1)) (ex_loads (by kernel_rfl) (by kernel_rfl) (h237.ev rfl) (S230.cellsAll (i := 2) rfl)) rfl rfl fun a238 h238 => ?_
       refine sl_val (v := ringV (cloR r) A146 c146) h238 (wanted_yes h238 _ rfl rfl rfl ((hclo (by simpa using gc151)).1)) (ex_loads (by kernel_rfl) (by kernel_rfl) (h238.ev rfl) (S230.cellsAll (i := 0) rfl)) rfl rfl fun a239 h239 => ?_
       refine sl_bel h239 (wanted_yes h239 _ rfl rfl rfl ((hclo (by simpa using gc151)).1)) (ex_call (fun _ _ => by kernel_rfl) (h239.evs rfl) rfl) rfl rfl S230 (rSame_any (inR (rbS r)) (cloR r) A133 A146 c133 c146 _ (S230.rdOf (i := 3) rfl) (S230.rdOf (i := 1) rfl) (inR_le2 _) hcl) fun a240 X240 h240 S240 => ?_
       refine sl_val h240 (wanted_yes h240 _ rfl rfl rfl gc151) (ex_pick_t (h240.ev rfl) ((hclo (by simpa using gc151)).1) (h240.ev rfl)) rfl rfl fun a241 h241 => ?_
       refine sv h241 (ex_pick_f (h241.ev rfl) gc151 (h241.ev rfl)) fun a242 h242 => ?_
       exact st_nil ⟨h242.mid (m := [(_, _), (_, _), (_, _), (_, _), (_, _), (_, _), (_, _)]) rfl, S240⟩
      case ht =>
       intro gc151
       refine sl_no h234 (wanted_no h234 _ rfl rfl rfl gc151) rfl rfl fun a243 h243 => ?_
       refine sl_no h243 (wanted_no h243 _ rfl rfl rfl gc151) rfl rfl fun a244 h244 => ?_
       refine sl_no h244 (wanted_no h244 _ rfl rfl rfl gc151) rfl rfl fun a245 h245 => ?_
       refine sl_no h245 (wanted_not h245 _ rfl rfl rfl) rfl rfl fun a246 h246 => ?_
       refine sl_no h246 (wanted_not h246 _ rfl rfl rfl) rfl rfl fun a247 h247 => ?_
       refine sl_no h247 (wanted_not h247 _ rfl rfl rfl) rfl rfl fun a248 h248 => ?_
       refine sl_no h248 (wanted_no h248 _ rfl rfl rfl gc151) rfl rfl fun a249 h249 => ?_
       refine sv h249 (ex_pick_t (h249.ev rfl) gc151 (h249.ev rfl)) fun a250 h250 => ?_
       exact st_nil ⟨h250.mid (m := [(_, _), (_, _), (_, _), (_, _), (_, _), (_, _), (_, _)]) rfl, S230⟩
      case h =>
       rintro a251 X251 ⟨h251, S251⟩
       refine ma h251 rfl rfl fun a252 h252 => ?_
       refine st_nil (go_then (wp_ret ?_))
       refine fin1 h252 rfl rfl ?_
       refine ⟨?_, S251.below⟩
       have hfin : (cloE r != 0 || decide (inR (rbS r) = cloR r)) = true := by
        by_cases h0 : cloE r = 0
        · rw [(hclo h0).2]; simp
        · simp [h0]
       have h9 := congrArg (fun b => Ending.returned (Value.bool b)) hfin
       exact h9
end Go.Proofs.YtmlilplbdpjfcaaGreatDoor
