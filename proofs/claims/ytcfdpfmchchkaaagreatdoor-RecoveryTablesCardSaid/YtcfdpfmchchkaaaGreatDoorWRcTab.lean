/-
  RecoveryTables: the walk.
-/
import Derived.Test.YtcfdpfmchchkaaaGreatDoorRcM
import Derived.Test.YtcfdpfmchchkaaaGreatDoorRc30
namespace Go.Proofs.YtcfdpfmchchkaaaGreatDoor
set_option linter.unusedVariables false
set_option linter.unusedSimpArgs false
set_option maxRecDepth 4000
open Go.RowKit Go.Sort Go.Shelf
theorem fewTable_any (t : Tbl) (A : Option Addr) (c : Nat) (B : Option Addr) (d : Nat) (w : World) :
 Calls Tryz.prog 14 #[tblV t A c B d] w fun e w' => e = .returned (.bool (decide (t.ts.length ≤ 62 ∧ t.ds.length ≤ 62))) ∧ Below w.heap.size w w' := by
 refine st_enter (N := 13) Tryz.func14 rfl rfl rfl (fun a0 h0 => ?_)
 have S0 := St.init w
 refine st_seq (st_reg ?_)
 refine nb h0 rfl rfl S0 fun b1 a1 X1 gb1 h1 S1 => ?_
 refine ma h1 rfl rfl fun a2 h2 => ?_
 refine nsr ?_
 refine vf h2 0 0 rfl rfl rfl fun a3 h3 => ?_
 refine vl h3 S1 0 rfl rfl rfl rfl fun a4 h4 => ?_
 refine sv h4 (ex_len Tryz.underlying22 (h4.ev rfl)) fun a5 h5 => ?_
 refine sv h5 (ex_leq (h5.ev rfl) (h5.ev rfl)) fun a6 h6 => ?_
 refine mv h6 rfl rfl fun a7 h7 => ?_
 apply sl_and (x := decide ((t.ds.length : Int) ≤ 62)) h7 S1 7 rfl 5 12
 case ht =>
  intro gc7
  refine sy h7 rfl rfl rfl gc7 (ex_field (off := 1) (j := 1) (by kernel_rfl) (h7.ev rfl) rfl) rfl rfl fun a8 h8 => ?_
  refine sy h8 rfl rfl rfl gc7 (ex_load (by kernel_rfl) (h8.ev rfl) (S1.cell (i := 0) rfl rfl)) rfl rfl fun a9 h9 => ?_
  refine sy h9 rfl rfl rfl gc7 (ex_len Tryz.underlying23 (h9.ev rfl)) rfl rfl fun a10 h10 => ?_
  refine sy h10 rfl rfl rfl gc7 (ex_leq (h10.ev rfl) (h10.ev rfl)) rfl rfl fun a11 h11 => ?_
  refine sv h11 (ex_pick_t (h11.ev rfl) gc7 (h11.ev rfl)) fun a12 h12 => ?_
  exact st_nil ⟨h12.mid (m := [(_, _), (_, _), (_, _), (_, _)]) rfl, S1⟩
 case hf =>
  intro gc7
  refine no h7 rfl rfl rfl gc7 rfl rfl fun a13 h13 => ?_
  refine no h13 rfl rfl rfl gc7 rfl rfl fun a14 h14 => ?_
  refine no h14 rfl rfl rfl gc7 rfl rfl fun a15 h15 => ?_
  refine no h15 rfl rfl rfl gc7 rfl rfl fun a16 h16 => ?_
  refine sv h16 (ex_pick_f (h16.ev rfl) gc7 (h16.ev rfl)) fun a17 h17 => ?_
  exact st_nil ⟨h17.mid (m := [(_, _), (_, _), (_, _), (_, _)]) rfl, S1⟩
 case h =>
  rintro a18 X18 ⟨h18, S18⟩
  refine ma h18 rfl rfl fun a19 h19 => ?_
  refine st_nil (go_then (wp_ret ?_))
  refine fin1 h19 rfl rfl ?_
  refine ⟨?_, S18.below⟩
  have e : decide (t.ts.length ≤ 62 ∧ t.ds.length ≤ 62) = (decide ((t.ts.length : Int) ≤ 62) && decide ((t.ds.length : Int) ≤ 62)) := by
   rw [Bool.eq_iff_iff]
   simp
   omega
  rw [e]
theorem tblL_len {t : Tbl} (h : TblOk t) : (tblL t).length ≤ 100000 := by
 rw [← tbD_end]
 have := tbD_len t t.ds.length
 have := h.n
 have := h.m
 omega
theorem tof_back {l : List UInt8} (h : tofE l = 0) : tblE (tofR l) = 0 ∧ tblL (tofR l) = l := by
 have hR : tofR l = tofV l := by unfold tofR; rw [if_pos h]
 rw [hR]
 refine ⟨?_, tblL_back h⟩
 unfold tofE at h
 split at h
 · cases h
 split at h
 · cases h
 rw [firstE_zero] at h
 exact h _ (.tail _ (.head _))
theorem tof_of {t : Tbl} (h : tblE t = 0) : tofE (tblL t) = 0 ∧ tofR (tblL t) = t := by
 obtain ⟨h1, h2⟩ := tofE_back h
 exact ⟨h1, by unfold tofR; rw [if_pos h1, h2]⟩
theorem tofR_len (l : List UInt8) : (tofR l).ts.length ≤ 100000 ∧ (tofR l).ds.length ≤ 100000 := by
 by_cases h : tofE l = 0
 · have := tblE_zero.1 (tof_back h).1
   have := this.n
   have := (tblE_zero.1 (tof_back h).1).m
   omega
 · unfold tofR
   rw [if_neg h]
   exact ⟨by decide, by decide⟩
theorem tblb_ok {t : Tbl} (h : tblE t = 0) : (if tblE t = 0 then bs (tblL t) else ⟨#[]⟩) = bs (tblL t) := if_pos h
theorem RecoveryTables_any (t : Tbl) (A : Option Addr) (c : Nat) (B : Option Addr) (d : Nat) (s : ByteArray) (hs : s.size ≤ maxLen) (w : World) (hr : Rd w w.heap.size A (t.ts.flatMap trsL)) (hs2 : Rd w w.heap.size B (t.ds.flatMap dtyL)) (hF : FolT w) :
 Calls Tryz.prog 3 #[tblV t A c B d, .string s] w fun e w' => e = .returned (.bool true) ∧ Below w.heap.size w w' := by
 obtain ⟨l, rfl⟩ : ∃ l, s = bs l := ⟨bl s, (bs_bl s).symm⟩
 have hsz : (bs l).size = l.length := bs_size l
 have hTl := tofR_len l
 refine st_enter (N := 111) Tryz.func3 rfl rfl rfl (fun a0 h0 => ?_)
 have S0 := St.init w
 refine st_seq (st_reg ?_)
 refine nb h0 rfl rfl S0 fun b2 a1 X1 gb2 h1 S1 => ?_
 refine ma h1 rfl rfl fun a2 h2 => ?_
 refine st_nil (go_then (st_seq (st_seq (st_reg ?_))))
 refine sl_bel h2 (wn rfl) (ex_call (fun _ _ => by kernel_rfl) (h2.evs rfl) rfl) rfl rfl S1 (awake_any _ (hF.below S1.below)) fun a3 X3 h3 S3 => ?_
 refine sv h3 (ex_not (h3.ev rfl)) fun a4 h4 => ?_
 refine st_nil (go_then ?_)
 refine st_if_f (h4.ev rfl) (rfl) ?_
 refine wp_skip (go_then (st_seq (st_seq (st_reg ?_))))
 refine sv (v := tblV t A c B d) h4 (ex_loads (by kernel_rfl) (by kernel_rfl) (h4.ev rfl) (S3.cellsAll (i := 0) rfl)) fun a5 h5 => ?_
 refine sl_bel h5 (wn rfl) (ex_call (fun _ _ => by kernel_rfl) (h5.evs rfl) rfl) rfl rfl S3 (fewTable_any t A c B d _) fun a6 X6 h6 S6 => ?_
 refine sv h6 (ex_not (h6.ev rfl)) fun a7 h7 => ?_
 refine mv h7 rfl rfl fun a8 h8 => ?_
 apply sl_or (x := decide (((bs l).size : Int) > 700)) h8 S6 21 rfl 4 25
 case hf =>
  intro gc21
  refine sy h8 rfl rfl rfl gc21 (ex_move (h8.ev rfl)) rfl rfl fun a9 h9 => ?_
  refine sy h9 rfl rfl rfl gc21 (ex_slen Tryz.underlying9 (h9.ev rfl)) rfl rfl fun a10 h10 => ?_
  refine sy h10 rfl rfl rfl gc21 (ex_gtr (h10.ev rfl) (h10.ev rfl)) rfl rfl fun a11 h11 => ?_
  refine sv h11 (ex_pick_f (h11.ev rfl) gc21 (h11.ev rfl)) fun a12 h12 => ?_
  exact st_nil ⟨h12.mid (m := [(_, _), (_, _), (_, _)]) rfl, S6⟩
 case ht =>
  intro gc21
  refine no h8 rfl rfl rfl gc21 rfl rfl fun a13 h13 => ?_
  refine no h13 rfl rfl rfl gc21 rfl rfl fun a14 h14 => ?_
  refine no h14 rfl rfl rfl gc21 rfl rfl fun a15 h15 => ?_
  refine sv h15 (ex_pick_t (h15.ev rfl) gc21 (h15.ev rfl)) fun a16 h16 => ?_
  exact st_nil ⟨h16.mid (m := [(_, _), (_, _), (_, _)]) rfl, S6⟩
 case h =>
  rintro a17 X17 ⟨h17, S17⟩
  refine st_nil (go_then ?_)
  refine st_if (h17.ev rfl) (fun hc1 => ?_) (fun hc1 => ?_)
  ·
   refine st_seq (st_reg ?_)
   refine ma h17 rfl rfl fun a18 h18 => ?_
   refine st_nil (go_then (wp_ret (ret_then ?_)))
   refine fin1 h18 rfl rfl ?_
   first | exact ⟨rfl, S17.below⟩ | exact ⟨by simp, S17.below⟩
  ·
   have hfew : t.ts.length ≤ 62 ∧ t.ds.length ≤ 62 := by
    have h := (Bool.or_eq_false_iff.1 hc1).1
    simpa using h
   have hll : l.length ≤ 700 := by
    have h := of_decide_eq_false (Bool.or_eq_false_iff.1 hc1).2
    rw [hsz] at h
    omega
   refine wp_skip (go_then (st_seq (st_reg ?_)))
   refine sv (v := tblV t A c B d) h17 (ex_loads (by kernel_rfl) (by kernel_rfl) (h17.ev rfl) (S17.cellsAll (i := 0) rfl)) fun a19 h19 => ?_
   refine sl_more h19 (wn rfl) (ex_call (fun _ _ => by kernel_rfl) (h19.evs rfl) rfl) rfl rfl S17 (rCopyT_any t A c B d _ (S17.rd0 hr) (S17.rd0 hs2) (by omega)) fun p27 a20 X20 h20 S20 => ?_
   refine sl_bel h20 (wn rfl) (ex_call (fun _ _ => by kernel_rfl) (h20.evs rfl) rfl) rfl rfl S20 (CheckTable_any t p27.1 p27.2.1 p27.2.2.1 p27.2.2.2 _ (S20.rdOf (i := 0) rfl) (S20.rdOf (i := 1) rfl)) fun a21 X21 h21 S21 => ?_
   refine ma h21 rfl rfl fun a22 h22 => ?_
   refine nsr ?_
   refine sv (v := tblV t A c B d) h22 (ex_loads (by kernel_rfl) (by kernel_rfl) (h22.ev rfl) (S21.cellsAll (i := 2) rfl)) fun a23 h23 => ?_
   refine sl_more h23 (wn rfl) (ex_call (fun _ _ => by kernel_rfl) (h23.evs rfl) rfl) rfl rfl S21 (rCopyT_any t A c B d _ (S21.rd0 hr) (S21.rd0 hs2) (by omega)) fun p31 a24 X24 h24 S24 => ?_
   refine sl_bel h24 (wn rfl) (ex_call (fun _ _ => by kernel_rfl) (h24.evs rfl) rfl) rfl rfl S24 (TableBytes_any t p31.1 p31.2.1 p31.2.2.1 p31.2.2.2 _ (S24.rdOf (i := 0) rfl) (S24.rdOf (i := 1) rfl)) fun a25 X25 h25 S25 => ?_
   refine mv h25 rfl rfl fun a26 h26 => ?_
   refine vx h26 rfl rfl rfl fun a27 h27 => ?_
   refine vx h27 rfl rfl rfl fun a28 h28 => ?_
   refine ma h28 rfl rfl fun a29 h29 => ?_
   refine ma h29 rfl rfl fun a30 h30 => ?_
   refine nsr ?_
   refine mv h30 rfl rfl fun a31 h31 => ?_
   refine sl_more h31 (wn rfl) (ex_call (fun _ _ => by kernel_rfl) (h31.evs rfl) rfl) rfl rfl S25 (TableOf_any l _ (by omega)) fun p37 a32 X32 h32 S32 => ?_
   refine mv h32 rfl rfl fun a33 h33 => ?_
   refine sv (v := tblV (tofR l) p37.1 p37.2.1 p37.2.2.1 p37.2.2.2) h33 (ex_extract (h33.ev rfl) rfl) fun a34 h34 => ?_
   refine vx h34 rfl rfl rfl fun a35 h35 => ?_
   refine na (.agg #[.slice none 0 0, .slice none 0 0]) h35 rfl S32 fun b8 a36 X36 gb8 h36 S36 => ?_
   refine sl_store0 h36 (wn rfl) ⟨rfl, rfl⟩ (h36.ev rfl) (h36.ev rfl) rfl (by kernel_rfl) S36 (i := 0) rfl rfl rfl fun X37 S37 => ?_
   refine ma h36 rfl rfl fun a38 h38 => ?_
   refine nsr ?_
   refine mv h38 rfl rfl fun a39 h39 => ?_
   refine sl_more h39 (wn rfl) (ex_call (fun _ _ => by kernel_rfl) (h39.evs rfl) rfl) rfl rfl S37 (rTableOf_any l _ (by omega)) fun p42 a40 X40 h40 S40 => ?_
   refine mv h40 rfl rfl fun a41 h41 => ?_
   refine sv (v := tblV (tofR l) p42.1 p42.2.1 p42.2.2.1 p42.2.2.2) h41 (ex_extract (h41.ev rfl) rfl) fun a42 h42 => ?_
   refine vx h42 rfl rfl rfl fun a43 h43 => ?_
   refine na (.agg #[.slice none 0 0, .slice none 0 0]) h43 rfl S40 fun b10 a44 X44 gb10 h44 S44 => ?_
   refine sl_store0 h44 (wn rfl) ⟨rfl, rfl⟩ (h44.ev rfl) (h44.ev rfl) rfl (by kernel_rfl) S44 (i := 0) rfl rfl rfl fun X45 S45 => ?_
   refine ma h44 rfl rfl fun a46 h46 => ?_
   refine st_nil (go_then (st_seq (st_seq (st_reg ?_))))
   refine mv h46 rfl rfl fun a47 h47 => ?_
   refine mv h47 rfl rfl fun a48 h48 => ?_
   refine sv h48 (ex_neq (h48.ev rfl) (h48.ev rfl)) fun a49 h49 => ?_
   refine mv h49 rfl rfl fun a50 h50 => ?_
   refine sl_val (v := tblV (tofR l) p37.1 p37.2.1 p37.2.2.1 p37.2.2.2) h50 (wanted_yes h50 _ rfl rfl rfl ((by simp))) (ex_loads (by kernel_rfl) (by kernel_rfl) (h50.ev rfl) (S45.cellsAll (i := 3) rfl)) rfl rfl fun a51 h51 => ?_
   refine sl_val (v := tblV (tofR l) p42.1 p42.2.1 p42.2.2.1 p42.2.2.2) h51 (wanted_yes h51 _ rfl rfl rfl ((by simp))) (ex_loads (by kernel_rfl) (by kernel_rfl) (h51.ev rfl) (S45.cellsAll (i := 0) rfl)) rfl rfl fun a52 h52 => ?_
   refine sl_bel h52 (wanted_yes h52 _ rfl rfl rfl ((by simp))) (ex_call (fun _ _ => by kernel_rfl) (h52.evs rfl) rfl) rfl rfl S45 (rSameT_any (tofR l) p37.1 p37.2.1 p37.2.2.1 p37.2.2.2 p42.1 p42.2.1 p42.2.2.1 p42.2.2.2 _ (S45.rdOf (i := 4) rfl) (S45.rdOf (i := 5) rfl) (S45.rdOf (i := 1) rfl) (S45.rdOf (i := 2) rfl) hTl) fun a53 X53 h53 S53 => ?_
   refine sl_val h53 (wanted_yes h53 _ rfl rfl rfl ((by simp))) (ex_not (h53.ev rfl)) rfl rfl fun a54 h54 => ?_
   refine sv h54 (ex_pick_f (h54.ev rfl) ((by simp)) (h54.ev rfl)) fun a55 h55 => ?_
   refine st_nil (go_then ?_)
   refine st_if_f (h55.ev rfl) (rfl) ?_
   refine wp_skip (go_then (st_seq (st_seq (st_reg ?_))))
   refine mv h55 rfl rfl fun a56 h56 => ?_
   refine sv h56 (ex_eql (h56.ev rfl) (h56.ev rfl)) fun a57 h57 => ?_
   refine st_nil (go_then ?_)
   refine st_if (h57.ev rfl) (fun hc3 => ?_) (fun hc3 => ?_)
   ·
    have hz : tofE l = 0 := by simpa using hc3
    obtain ⟨hz1, hz2⟩ := tof_back hz
    have hk := tblE_zero.1 hz1
    have hkn := hk.n
    have hkm := hk.m
    refine st_seq (st_reg ?_)
    refine sv (v := tblV (tofR l) p37.1 p37.2.1 p37.2.2.1 p37.2.2.2) h57 (ex_loads (by kernel_rfl) (by kernel_rfl) (h57.ev rfl) (S53.cellsAll (i := 3) rfl)) fun a58 h58 => ?_
    refine sl_more h58 (wn rfl) (ex_call (fun _ _ => by kernel_rfl) (h58.evs rfl) rfl) rfl rfl S53 (rCopyT_any (tofR l) p37.1 p37.2.1 p37.2.2.1 p37.2.2.2 _ (S53.rdOf (i := 4) rfl) (S53.rdOf (i := 5) rfl) (by omega)) fun p58 a59 X59 h59 S59 => ?_
    refine sl_bel h59 (wn rfl) (ex_call (fun _ _ => by kernel_rfl) (h59.evs rfl) rfl) rfl rfl S59 (TableBytes_any (tofR l) p58.1 p58.2.1 p58.2.2.1 p58.2.2.2 _ (S59.rdOf (i := 0) rfl) (S59.rdOf (i := 1) rfl)) fun a60 X60 h60 S60 => ?_
    rw [tblb_ok hz1, hz2, hz1] at h60
    refine mv h60 rfl rfl fun a61 h61 => ?_
    refine vx h61 rfl rfl rfl fun a62 h62 => ?_
    refine vx h62 rfl rfl rfl fun a63 h63 => ?_
    refine ma h63 rfl rfl fun a64 h64 => ?_
    refine ma h64 rfl rfl fun a65 h65 => ?_
    refine nsr ?_
    refine mv h65 rfl rfl fun a66 h66 => ?_
    refine sv h66 (ex_neq (h66.ev rfl) (h66.ev rfl)) fun a67 h67 => ?_
    refine mv h67 rfl rfl fun a68 h68 => ?_
    refine sl_val h68 (wanted_yes h68 _ rfl rfl rfl (rfl)) (ex_move (h68.ev rfl)) rfl rfl fun a69 h69 => ?_
    refine sl_val h69 (wanted_yes h69 _ rfl rfl rfl (rfl)) (ex_move (h69.ev rfl)) rfl rfl fun a70 h70 => ?_
    refine sl_val h70 (wanted_yes h70 _ rfl rfl rfl (rfl)) (ex_sneq (h70.ev rfl) (h70.ev rfl)) rfl rfl fun a71 h71 => ?_
    refine sv h71 (ex_pick_f (h71.ev rfl) (rfl) (h71.ev rfl)) fun a72 h72 => ?_
    refine st_nil (go_then ?_)
    refine st_if_f (h72.ev rfl) ((by simp)) ?_
    refine wp_skip (go_then (st_seq (st_seq (st_reg ?_))))
    refine sv (v := tblV t A c B d) h72 (ex_loads (by kernel_rfl) (by kernel_rfl) (h72.ev rfl) (S60.cellsAll (i := 12) rfl)) fun a73 h73 => ?_
    refine sl_bel h73 (wn rfl) (ex_call (fun _ _ => by kernel_rfl) (h73.evs rfl) rfl) rfl rfl S60 (rTableErr_any t A c B d _ (S60.rd0 hr) (S60.rd0 hs2)) fun a74 X74 h74 S74 => ?_
    refine ma h74 rfl rfl fun a75 h75 => ?_
    refine nsr ?_
    refine mv h75 rfl rfl fun a76 h76 => ?_
    refine sv h76 (ex_neq (h76.ev rfl) (h76.ev rfl)) fun a77 h77 => ?_
    refine st_nil (go_then ?_)
    refine st_if (h77.ev rfl) (fun hc5 => ?_) (fun hc5 => ?_)
    ·
     have hne : tblE t ≠ 0 := by simpa using hc5
     rw [if_neg hne] at h77
     refine st_seq (st_reg ?_)
     refine mv h77 rfl rfl fun a78 h78 => ?_
     refine mv h78 rfl rfl fun a79 h79 => ?_
     refine sv h79 (ex_eql (h79.ev rfl) (h79.ev rfl)) fun a80 h80 => ?_
     refine mv h80 rfl rfl fun a81 h81 => ?_
     refine sl_val h81 (wanted_yes h81 _ rfl rfl rfl ((by simp))) (ex_move (h81.ev rfl)) rfl rfl fun a82 h82 => ?_
     refine sl_val h82 (wanted_yes h82 _ rfl rfl rfl ((by simp))) (ex_move (h82.ev rfl)) rfl rfl fun a83 h83 => ?_
     refine sl_val h83 (wanted_yes h83 _ rfl rfl rfl ((by simp))) (ex_eql (h83.ev rfl) (h83.ev rfl)) rfl rfl fun a84 h84 => ?_
     refine sv h84 (ex_pick_t (h84.ev rfl) ((by simp)) (h84.ev rfl)) fun a85 h85 => ?_
     refine mv h85 rfl rfl fun a86 h86 => ?_
     refine sl_val h86 (wanted_yes h86 _ rfl rfl rfl ((by simp))) (ex_move (h86.ev rfl)) rfl rfl fun a87 h87 => ?_
     refine sl_val h87 (wanted_yes h87 _ rfl rfl rfl ((by simp))) (ex_seql (h87.ev rfl) (h87.ev rfl)) rfl rfl fun a88 h88 => ?_
     refine sv h88 (ex_pick_t (h88.ev rfl) ((by simp)) (h88.ev rfl)) fun a89 h89 => ?_
     refine ma h89 rfl rfl fun a90 h90 => ?_
     refine st_nil (go_then (wp_ret (ret_then ?_)))
     refine fin1 h90 rfl rfl ?_
     first | exact ⟨rfl, S74.below⟩ | exact ⟨by simp, S74.below⟩
    ·
     have he0 : tblE t = 0 := by simpa using hc5
     rw [tblb_ok he0, he0] at h77
     have hk0 := tblE_zero.1 he0
     obtain ⟨hb1, hb2⟩ := tof_of he0
     refine wp_skip (go_then (st_seq (st_reg ?_)))
     refine mv h77 rfl rfl fun a91 h91 => ?_
     refine sl_more h91 (wn rfl) (ex_call (fun _ _ => by kernel_rfl) (h91.evs rfl) rfl) rfl rfl S74 (hb1 ▸ hb2 ▸ TableOf_any (tblL t) _ (tblL_len hk0)) fun p87 a92 X92 h92 S92 => ?_
     refine mv h92 rfl rfl fun a93 h93 => ?_
     refine sv (v := tblV t p87.1 p87.2.1 p87.2.2.1 p87.2.2.2) h93 (ex_extract (h93.ev rfl) rfl) fun a94 h94 => ?_
     refine vx h94 rfl rfl rfl fun a95 h95 => ?_
     refine na (.agg #[.slice none 0 0, .slice none 0 0]) h95 rfl S92 fun b14 a96 X96 gb14 h96 S96 => ?_
     refine sl_store0 h96 (wn rfl) ⟨rfl, rfl⟩ (h96.ev rfl) (h96.ev rfl) rfl (by kernel_rfl) S96 (i := 0) rfl rfl rfl fun X97 S97 => ?_
     refine ma h96 rfl rfl fun a98 h98 => ?_
     refine nsr ?_
     refine mv h98 rfl rfl fun a99 h99 => ?_
     refine sv h99 (ex_eql (h99.ev rfl) (h99.ev rfl)) fun a100 h100 => ?_
     refine mv h100 rfl rfl fun a101 h101 => ?_
     refine sl_val h101 (wanted_yes h101 _ rfl rfl rfl (rfl)) (ex_move (h101.ev rfl)) rfl rfl fun a102 h102 => ?_
     refine sl_val h102 (wanted_yes h102 _ rfl rfl rfl (rfl)) (ex_eql (h102.ev rfl) (h102.ev rfl)) rfl rfl fun a103 h103 => ?_
     refine sv h103 (ex_pick_t (h103.ev rfl) (rfl) (h103.ev rfl)) fun a104 h104 => ?_
     refine mv h104 rfl rfl fun a105 h105 => ?_
     refine sl_val h105 (wanted_yes h105 _ rfl rfl rfl (rfl)) (ex_move (h105.ev rfl)) rfl rfl fun a106 h106 => ?_
     refine sl_val (v := tblV t A c B d) h106 (wanted_yes h106 _ rfl rfl rfl (rfl)) (ex_loads (by kernel_rfl) (by kernel_rfl) (h106.ev rfl) (S97.cellsAll (i := 15) rfl)) rfl rfl fun a107 h107 => ?_
     refine sl_bel h107 (wanted_yes h107 _ rfl rfl rfl (rfl)) (ex_call (fun _ _ => by kernel_rfl) (h107.evs rfl) rfl) rfl rfl S97 (rTableBytes_any t A c B d _ hk0 (S97.rd0 hr) (S97.rd0 hs2)) fun a108 X108 h108 S108 => ?_
     refine sl_val h108 (wanted_yes h108 _ rfl rfl rfl (rfl)) (ex_seql (h108.ev rfl) (h108.ev rfl)) rfl rfl fun a109 h109 => ?_
     refine sv h109 (ex_pick_t (h109.ev rfl) (rfl) (h109.ev rfl)) fun a110 h110 => ?_
     refine mv h110 rfl rfl fun a111 h111 => ?_
     refine sl_val h111 (wanted_yes h111 _ rfl rfl rfl ((by simp))) (ex_move (h111.ev rfl)) rfl rfl fun a112 h112 => ?_
     refine sl_val h112 (wanted_yes h112 _ rfl rfl rfl ((by simp))) (ex_eql (h112.ev rfl) (h112.ev rfl)) rfl rfl fun a113 h113 => ?_
     refine sv h113 (ex_pick_t (h113.ev rfl) ((by simp)) (h113.ev rfl)) fun a114 h114 => ?_
     refine mv h114 rfl rfl fun a115 h115 => ?_
     refine sl_val (v := tblV t p87.1 p87.2.1 p87.2.2.1 p87.2.2.2) h115 (wanted_yes h115 _ rfl rfl rfl (rfl)) (ex_loads (by kernel_rfl) (by kernel_rfl) (h115.ev rfl) (S108.cellsAll (i := 0) rfl)) rfl rfl fun a116 h116 => ?_
     refine sl_val (v := tblV t A c B d) h116 (wanted_yes h116 _ rfl rfl rfl (rfl)) (ex_loads (by kernel_rfl) (by kernel_rfl) (h116.ev rfl) (S108.cellsAll (i := 15) rfl)) rfl rfl fun a117 h117 => ?_
     refine sl_bel h117 (wanted_yes h117 _ rfl rfl rfl (rfl)) (ex_call (fun _ _ => by kernel_rfl) (h117.evs rfl) rfl) rfl rfl S108 (rSameT_any t p87.1 p87.2.1 p87.2.2.1 p87.2.2.2 A c B d _ (S108.rdOf (i := 1) rfl) (S108.rdOf (i := 2) rfl) (S108.rd0 hr) (S108.rd0 hs2) (by omega)) fun a118 X118 h118 S118 => ?_
     refine sv h118 (ex_pick_t (h118.ev rfl) (rfl) (h118.ev rfl)) fun a119 h119 => ?_
     refine ma h119 rfl rfl fun a120 h120 => ?_
     refine st_nil (go_then (wp_ret ?_))
     refine fin1 h120 rfl rfl ?_
     first | exact ⟨rfl, S118.below⟩ | exact ⟨by simp, S118.below⟩
   ·
    refine wp_skip (go_then (st_seq (st_seq (st_reg ?_))))
    refine sv (v := tblV t A c B d) h57 (ex_loads (by kernel_rfl) (by kernel_rfl) (h57.ev rfl) (S53.cellsAll (i := 10) rfl)) fun a121 h121 => ?_
    refine sl_bel h121 (wn rfl) (ex_call (fun _ _ => by kernel_rfl) (h121.evs rfl) rfl) rfl rfl S53 (rTableErr_any t A c B d _ (S53.rd0 hr) (S53.rd0 hs2)) fun a122 X122 h122 S122 => ?_
    refine ma h122 rfl rfl fun a123 h123 => ?_
    refine nsr ?_
    refine mv h123 rfl rfl fun a124 h124 => ?_
    refine sv h124 (ex_neq (h124.ev rfl) (h124.ev rfl)) fun a125 h125 => ?_
    refine st_nil (go_then ?_)
    refine st_if (h125.ev rfl) (fun hc5 => ?_) (fun hc5 => ?_)
    ·
     have hne : tblE t ≠ 0 := by simpa using hc5
     rw [if_neg hne] at h125
     refine st_seq (st_reg ?_)
     refine mv h125 rfl rfl fun a126 h126 => ?_
     refine mv h126 rfl rfl fun a127 h127 => ?_
     refine sv h127 (ex_eql (h127.ev rfl) (h127.ev rfl)) fun a128 h128 => ?_
     refine mv h128 rfl rfl fun a129 h129 => ?_
     refine sl_val h129 (wanted_yes h129 _ rfl rfl rfl ((by simp))) (ex_move (h129.ev rfl)) rfl rfl fun a130 h130 => ?_
     refine sl_val h130 (wanted_yes h130 _ rfl rfl rfl ((by simp))) (ex_move (h130.ev rfl)) rfl rfl fun a131 h131 => ?_
     refine sl_val h131 (wanted_yes h131 _ rfl rfl rfl ((by simp))) (ex_eql (h131.ev rfl) (h131.ev rfl)) rfl rfl fun a132 h132 => ?_
     refine sv h132 (ex_pick_t (h132.ev rfl) ((by simp)) (h132.ev rfl)) fun a133 h133 => ?_
     refine mv h133 rfl rfl fun a134 h134 => ?_
     refine sl_val h134 (wanted_yes h134 _ rfl rfl rfl ((by simp))) (ex_move (h134.ev rfl)) rfl rfl fun a135 h135 => ?_
     refine sl_val h135 (wanted_yes h135 _ rfl rfl rfl ((by simp))) (ex_seql (h135.ev rfl) (h135.ev rfl)) rfl rfl fun a136 h136 => ?_
     refine sv h136 (ex_pick_t (h136.ev rfl) ((by simp)) (h136.ev rfl)) fun a137 h137 => ?_
     refine ma h137 rfl rfl fun a138 h138 => ?_
     refine st_nil (go_then (wp_ret (ret_then ?_)))
     refine fin1 h138 rfl rfl ?_
     first | exact ⟨rfl, S122.below⟩ | exact ⟨by simp, S122.below⟩
    ·
     have he0 : tblE t = 0 := by simpa using hc5
     rw [tblb_ok he0, he0] at h125
     have hk0 := tblE_zero.1 he0
     obtain ⟨hb1, hb2⟩ := tof_of he0
     refine wp_skip (go_then (st_seq (st_reg ?_)))
     refine mv h125 rfl rfl fun a139 h139 => ?_
     refine sl_more h139 (wn rfl) (ex_call (fun _ _ => by kernel_rfl) (h139.evs rfl) rfl) rfl rfl S122 (hb1 ▸ hb2 ▸ TableOf_any (tblL t) _ (tblL_len hk0)) fun p87 a140 X140 h140 S140 => ?_
     refine mv h140 rfl rfl fun a141 h141 => ?_
     refine sv (v := tblV t p87.1 p87.2.1 p87.2.2.1 p87.2.2.2) h141 (ex_extract (h141.ev rfl) rfl) fun a142 h142 => ?_
     refine vx h142 rfl rfl rfl fun a143 h143 => ?_
     refine na (.agg #[.slice none 0 0, .slice none 0 0]) h143 rfl S140 fun b14 a144 X144 gb14 h144 S144 => ?_
     refine sl_store0 h144 (wn rfl) ⟨rfl, rfl⟩ (h144.ev rfl) (h144.ev rfl) rfl (by kernel_rfl) S144 (i := 0) rfl rfl rfl fun X145 S145 => ?_
     refine ma h144 rfl rfl fun a146 h146 => ?_
     refine nsr ?_
     refine mv h146 rfl rfl fun a147 h147 => ?_
     refine sv h147 (ex_eql (h147.ev rfl) (h147.ev rfl)) fun a148 h148 => ?_
     refine mv h148 rfl rfl fun a149 h149 => ?_
     refine sl_val h149 (wanted_yes h149 _ rfl rfl rfl (rfl)) (ex_move (h149.ev rfl)) rfl rfl fun a150 h150 => ?_
     refine sl_val h150 (wanted_yes h150 _ rfl rfl rfl (rfl)) (ex_eql (h150.ev rfl) (h150.ev rfl)) rfl rfl fun a151 h151 => ?_
     refine sv h151 (ex_pick_t (h151.ev rfl) (rfl) (h151.ev rfl)) fun a152 h152 => ?_
     refine mv h152 rfl rfl fun a153 h153 => ?_
     refine sl_val h153 (wanted_yes h153 _ rfl rfl rfl (rfl)) (ex_move (h153.ev rfl)) rfl rfl fun a154 h154 => ?_
     refine sl_val (v := tblV t A c B d) h154 (wanted_yes h154 _ rfl rfl rfl (rfl)) (ex_loads (by kernel_rfl) (by kernel_rfl) (h154.ev rfl) (S145.cellsAll (i := 13) rfl)) rfl rfl fun a155 h155 => ?_
     refine sl_bel h155 (wanted_yes h155 _ rfl rfl rfl (rfl)) (ex_call (fun _ _ => by kernel_rfl) (h155.evs rfl) rfl) rfl rfl S145 (rTableBytes_any t A c B d _ hk0 (S145.rd0 hr) (S145.rd0 hs2)) fun a156 X156 h156 S156 => ?_
     refine sl_val h156 (wanted_yes h156 _ rfl rfl rfl (rfl)) (ex_seql (h156.ev rfl) (h156.ev rfl)) rfl rfl fun a157 h157 => ?_
     refine sv h157 (ex_pick_t (h157.ev rfl) (rfl) (h157.ev rfl)) fun a158 h158 => ?_
     refine mv h158 rfl rfl fun a159 h159 => ?_
     refine sl_val h159 (wanted_yes h159 _ rfl rfl rfl ((by simp))) (ex_move (h159.ev rfl)) rfl rfl fun a160 h160 => ?_
     refine sl_val h160 (wanted_yes h160 _ rfl rfl rfl ((by simp))) (ex_eql (h160.ev rfl) (h160.ev rfl)) rfl rfl fun a161 h161 => ?_
     refine sv h161 (ex_pick_t (h161.ev rfl) ((by simp)) (h161.ev rfl)) fun a162 h162 => ?_
     refine mv h162 rfl rfl fun a163 h163 => ?_
     refine sl_val (v := tblV t p87.1 p87.2.1 p87.2.2.1 p87.2.2.2) h163 (wanted_yes h163 _ rfl rfl rfl (rfl)) (ex_loads (by kernel_rfl) (by kernel_rfl) (h163.ev rfl) (S156.cellsAll (i := 0) rfl)) rfl rfl fun a164 h164 => ?_
     refine sl_val (v := tblV t A c B d) h164 (wanted_yes h164 _ rfl rfl rfl (rfl)) (ex_loads (by kernel_rfl) (by kernel_rfl) (h164.ev rfl) (S156.cellsAll (i := 13) rfl)) rfl rfl fun a165 h165 => ?_
     refine sl_bel h165 (wanted_yes h165 _ rfl rfl rfl (rfl)) (ex_call (fun _ _ => by kernel_rfl) (h165.evs rfl) rfl) rfl rfl S156 (rSameT_any t p87.1 p87.2.1 p87.2.2.1 p87.2.2.2 A c B d _ (S156.rdOf (i := 1) rfl) (S156.rdOf (i := 2) rfl) (S156.rd0 hr) (S156.rd0 hs2) (by omega)) fun a166 X166 h166 S166 => ?_
     refine sv h166 (ex_pick_t (h166.ev rfl) (rfl) (h166.ev rfl)) fun a167 h167 => ?_
     refine ma h167 rfl rfl fun a168 h168 => ?_
     refine st_nil (go_then (wp_ret ?_))
     refine fin1 h168 rfl rfl ?_
     first | exact ⟨rfl, S166.below⟩ | exact ⟨by simp, S166.below⟩
end Go.Proofs.YtcfdpfmchchkaaaGreatDoor
