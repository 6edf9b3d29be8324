/-
  Chapter 22: what the error of a record is made of.
  Chapter 22: the error of a record.
  Chapter 22: the error of a record.
  Chapter 22: the error of a history.
  A drawn region whose head writes into blocks that stand (one operation) and into boxes that it makes itself (stores). No program in sight.
  Chapter 22: a table by numbers.
-/
import Derived.Test.YtcfdpfmchchkaaaGreatDoorRcC
import Derived.Test.YtcfdpfmchchkaaaGreatDoorRcD
import Derived.Test.YtcfdpfmchchkaaaGreatDoorOpH
import Derived.Test.YtcfdpfmchchkaaaGreatDoorOpEnt3
import Derived.Test.YtcfdpfmchchkaaaGreatDoorSplD
import Derived.Test.YtcfdpfmchchkaaaGreatDoorRcA
namespace Go.Proofs.YtcfdpfmchchkaaaGreatDoor
set_option linter.unusedVariables false
set_option linter.unusedSimpArgs false
set_option maxRecDepth 4000
open Go.RowKit Go.Sort
def chnV (c : Chn) : Value := .agg #[.int .i64 c.l, .int .i64 c.k, .int .i64 c.u]
theorem after_any (c : Chn) (n : Int) (x : Lge) (w : World) :
 Calls Tryz.prog 159 #[chnV c, .int .i64 n, entV x] w fun e w' => e = .returned (chnV (aftC c n x)) ∧ Below w.heap.size w w' := by
 refine st_enter (N := 24) Tryz.func159 rfl rfl rfl (fun a0 h0 => ?_)
 have S0 := St.init w
 refine st_seq (st_reg ?_)
 refine nb h0 rfl rfl S0 fun b3 a1 X1 gb3 h1 S1 => ?_
 refine nb h1 rfl rfl S1 fun b5 a2 X2 gb5 h2 S2 => ?_
 refine na (.agg #[.int .i64 0, .int .i64 0, .int .i64 0]) h2 rfl S2 fun b6 a3 X3 gb6 h3 S3 => ?_
 refine st_nil (go_then (st_seq ?_))
 apply dr_flowA (m := 4) h3 (St.domAt S3 (i := 2) rfl) 0 [false, false, false, false, true] _ (by kernel_rfl)
 case h =>
  refine qv h3 (fun X hX => ex_move (h3.ev rfl)) fun a4 h4 => ?_
  refine qv h4 (fun X hX => ex_field (off := 0) (j := 0) (by kernel_rfl) (h4.ev rfl) rfl) fun a5 h5 => ?_
  refine qv h5 (fun X hX => ex_load (by kernel_rfl) (h5.ev rfl) ((S3.growO (i := 2) rfl hX).cell (i := 1) rfl rfl)) fun a6 h6 => ?_
  refine qv h6 (fun X hX => ex_field (off := 0) (j := 0) (by kernel_rfl) (h6.ev rfl) rfl) fun a7 h7 => ?_
  refine sq_nil ?_
  apply na_store (k := 4) (deps := []) (R := IsBox _ _ _) h7 rfl rfl IsBox.stable (fun X hX hΦ => lv_store rfl (h7.ev rfl) (h7.ev rfl) rfl (by kernel_rfl) ((S3.grow hX).at_ (i := 2) rfl) rfl rfl)
  intro vs4
  refine na_end fun X8 hX8 hΦ8 => ?_
  have S8 := S3.growBox (i := 2) (v := vs4) rfl hX8 (told_all hΦ8 (k := 4) rfl)
  refine vf h7 1 1 rfl rfl rfl fun a9 h9 => ?_
  refine sl_store h9 (wn rfl) ⟨rfl, rfl⟩ (h9.ev rfl) (h9.ev rfl) rfl (by kernel_rfl) S8 (i := 2) rfl rfl rfl fun X10 S10 => ?_
  refine st_nil (go_then (st_seq (st_seq (st_reg ?_))))
  refine vf h9 0 0 rfl rfl rfl fun a11 h11 => ?_
  refine vl h11 S10 1 rfl rfl rfl rfl fun a12 h12 => ?_
  refine st_nil (go_then (wp_block (st_seq (st_reg ?_))))
  refine sv h12 (ex_eql (h12.ev rfl) (h12.ev rfl)) fun a13 h13 => ?_
  refine ma h13 rfl rfl fun a14 h14 => ?_
  refine st_nil (go_then ?_)
  refine st_if (h14.ev rfl) (fun hc0 => ?_) (fun hc0 => ?_)
  ·
   refine st_reg ?_
   refine mv h14 rfl rfl fun a15 h15 => ?_
   refine vf h15 2 2 rfl rfl rfl fun a16 h16 => ?_
   refine sl_store h16 (wn rfl) ⟨rfl, rfl⟩ (h16.ev rfl) (h16.ev rfl) rfl (by kernel_rfl) S10 (i := 2) rfl rfl rfl fun X17 S17 => ?_
   refine st_nil (go_block (go_then (st_seq (st_reg ?_))))
   refine sv h16 (ex_loads (by kernel_rfl) (by kernel_rfl) (h16.ev rfl) (S17.cellsAll (i := 2) rfl)) fun a18 h18 => ?_
   refine sl_store0 h18 (wn rfl) ⟨rfl, rfl⟩ (h18.ev rfl) (h18.ev rfl) rfl (by kernel_rfl) S17 (i := 0) rfl rfl rfl fun X19 S19 => ?_
   refine st_nil (go_then (wp_ret ?_))
   refine finc h18 rfl rfl S19 (i := 0) rfl (by kernel_rfl) (by kernel_rfl) ?_
   have hk : x.k = 0 := by simpa using hc0
   exact ⟨by unfold aftC; rw [if_pos hk]; rfl, S19.below⟩
  ·
   refine st_seq (st_reg ?_)
   refine sv h14 (ex_eql (h14.ev rfl) (h14.ev rfl)) fun a20 h20 => ?_
   refine ma h20 rfl rfl fun a21 h21 => ?_
   refine st_nil (go_then ?_)
   refine st_if (h21.ev rfl) (fun hc1 => ?_) (fun hc1 => ?_)
   ·
    refine st_reg ?_
    refine vf h21 3 3 rfl rfl rfl fun a22 h22 => ?_
    refine vl h22 S10 1 rfl rfl rfl rfl fun a23 h23 => ?_
    refine vf h23 2 2 rfl rfl rfl fun a24 h24 => ?_
    refine sl_store h24 (wn rfl) ⟨rfl, rfl⟩ (h24.ev rfl) (h24.ev rfl) rfl (by kernel_rfl) S10 (i := 2) rfl rfl rfl fun X25 S25 => ?_
    refine st_nil (go_block (go_then (st_seq (st_reg ?_))))
    refine sv h24 (ex_loads (by kernel_rfl) (by kernel_rfl) (h24.ev rfl) (S25.cellsAll (i := 2) rfl)) fun a26 h26 => ?_
    refine sl_store0 h26 (wn rfl) ⟨rfl, rfl⟩ (h26.ev rfl) (h26.ev rfl) rfl (by kernel_rfl) S25 (i := 0) rfl rfl rfl fun X27 S27 => ?_
    refine st_nil (go_then (wp_ret ?_))
    refine finc h26 rfl rfl S27 (i := 0) rfl (by kernel_rfl) (by kernel_rfl) ?_
    have hk : x.k ≠ 0 := by simpa using hc0
    have hk1 : x.k = 1 := by simpa using hc1
    exact ⟨by unfold aftC; rw [if_neg hk, if_pos hk1]; rfl, S27.below⟩
   ·
    refine wp_skip (go_block (go_then (st_seq (st_reg ?_))))
    refine sv h21 (ex_loads (by kernel_rfl) (by kernel_rfl) (h21.ev rfl) (S10.cellsAll (i := 2) rfl)) fun a28 h28 => ?_
    refine sl_store0 h28 (wn rfl) ⟨rfl, rfl⟩ (h28.ev rfl) (h28.ev rfl) rfl (by kernel_rfl) S10 (i := 0) rfl rfl rfl fun X29 S29 => ?_
    refine st_nil (go_then (wp_ret ?_))
    refine finc h28 rfl rfl S29 (i := 0) rfl (by kernel_rfl) (by kernel_rfl) ?_
    have hk : x.k ≠ 0 := by simpa using hc0
    have hk1 : x.k ≠ 1 := by simpa using hc1
    exact ⟨by unfold aftC; rw [if_neg hk, if_neg hk1]; rfl, S29.below⟩
 case hB => kernel_rfl
 case hst => rfl
theorem begR_bad {h0 m : Int} {x : Lge} {b : Bool} (hm : (if b = true then 0 else h0 - 1) = m) (h : x.p > m) : begR h0 x b = (⟨0, 0, 0⟩, 14) := by unfold begR; rw [if_pos (by rw [hm]; exact h)]
theorem begR_p {h0 m : Int} {x : Lge} {b : Bool} (hm : (if b = true then 0 else h0 - 1) = m) (h : ¬ x.p > m) (hp : x.p ≠ 0) : begR h0 x b = (⟨x.p, -1, -1⟩, 0) := by unfold begR; rw [if_neg (by rw [hm]; exact h), if_pos hp]
theorem begR_z {h0 m : Int} {x : Lge} {b : Bool} (hm : (if b = true then 0 else h0 - 1) = m) (h : ¬ x.p > m) (hp : x.p = 0) : begR h0 x b = (⟨x.p, 0, 0⟩, 0) := by unfold begR; rw [if_neg (by rw [hm]; exact h), if_neg (by rw [hp]; decide)]
theorem begin_any (l : List Rcd) (A : Option Addr) (c : Nat) (x : Lge) (b : Bool) (w : World) (hr : Rd w w.heap.size A (l.flatMap rcdL)) (hn : 0 < l.length) (hb : 1 ≤ fstL l ∧ fstL l ≤ 2147483647) :
 Calls Tryz.prog 156 #[.slice A l.length c, entV x, .bool b] w fun e w' => e = .returned (.tuple #[chnV (begR (fstL l) x b).1, .int .i64 (begR (fstL l) x b).2]) ∧ Below w.heap.size w w' := by
 have hf := fstL_get hn
 rw [hf] at hb
 obtain ⟨b', o', rfl, hB, _⟩ := hr.opened (flat_pos rcdL_len (by decide) hn)
 refine st_enter (N := 30) Tryz.func156 rfl rfl rfl (fun a0 h0 => ?_)
 have S0 := St.init w
 refine st_seq (st_reg ?_)
 refine nb h0 rfl rfl S0 fun b4 a1 X1 gb4 h1 S1 => ?_
 refine na (.agg #[.int .i64 0, .int .i64 0, .int .i64 0]) h1 rfl S1 fun b6 a2 X2 gb6 h2 S2 => ?_
 refine ma h2 rfl rfl fun a3 h3 => ?_
 refine nsr ?_
 refine mv h3 rfl rfl fun a4 h4 => ?_
 refine sv h4 (ex_index (i := 0) (sz := 14) Tryz.underlying180 (by kernel_rfl) (h4.ev rfl) (h4.ev rfl) (by omega) (by omega) rfl) fun a5 h5 => ?_
 refine sv h5 (ex_field (off := 0) (by kernel_rfl) (h5.ev rfl) rfl) fun a6 h6 => ?_
 refine sv h6 (ex_load (by kernel_rfl) (h6.ev rfl) ((flatAt rcdL_len (S2.rd0 hr) hn) 0 _ rfl)) fun a7 h7 => ?_
 refine sv h7 (ex_sub (h7.ev rfl) (h7.ev rfl) (by omega)) fun a8 h8 => ?_
 refine ma h8 rfl rfl fun a9 h9 => ?_
 refine st_nil (go_then (st_seq (st_seq (st_reg ?_))))
 refine mv h9 rfl rfl fun a10 h10 => ?_
 refine st_nil (go_then ?_)
 refine st_if (h10.ev rfl) (fun hc0 => ?_) (fun hc0 => ?_)
 ·
  subst hc0
  refine st_reg ?_
  refine ma h10 rfl rfl fun a11 h11 => ?_
  refine st_nil (go_then (st_seq (st_seq (st_reg ?_))))
  refine vf h11 2 2 rfl rfl rfl fun a12 h12 => ?_
  refine vl h12 S2 1 rfl rfl rfl rfl fun a13 h13 => ?_
  refine mv h13 rfl rfl fun a14 h14 => ?_
  refine sv h14 (ex_gtr (h14.ev rfl) (h14.ev rfl)) fun a15 h15 => ?_
  refine st_nil (go_then ?_)
  refine st_if (h15.ev rfl) (fun hc1 => ?_) (fun hc1 => ?_)
  ·
   have h1 := of_decide_eq_true hc1
   refine st_seq (st_reg ?_)
   refine sv h15 (ex_build (zs := [.int .i64 0, .int .i64 0, .int .i64 0]) (pl := [(0, 1), (1, 1), (2, 1)]) (by kernel_rfl) (by kernel_rfl) (h15.evs2 rfl) rfl rfl) fun a16 h16 => ?_
   refine sl_store0 h16 (wn rfl) ⟨rfl, rfl⟩ (h16.ev rfl) (h16.ev rfl) rfl (by kernel_rfl) S2 (i := 0) rfl rfl rfl fun X17 S17 => ?_
   refine ma h16 rfl rfl fun a18 h18 => ?_
   refine st_nil (go_then (wp_ret (ret_then ?_)))
   refine finct h18 rfl rfl rfl S17 (i := 0) rfl (by kernel_rfl) (by kernel_rfl) ?_
   exact ⟨by rw [begR_bad (m := 0) rfl h1]; rfl, S17.below⟩
  ·
   have h1 := of_decide_eq_false hc1
   refine wp_skip (go_then (st_seq (st_reg ?_)))
   refine vf h15 2 2 rfl rfl rfl fun a19 h19 => ?_
   refine vl h19 S2 1 rfl rfl rfl rfl fun a20 h20 => ?_
   refine sv h20 (ex_build (zs := [.int .i64 0, .int .i64 0, .int .i64 0]) (pl := [(0, 1), (1, 1), (2, 1)]) (by kernel_rfl) (by kernel_rfl) (h20.evs2 rfl) rfl rfl) fun a21 h21 => ?_
   refine na (.agg #[.int .i64 0, .int .i64 0, .int .i64 0]) h21 rfl S2 fun b9 a22 X22 gb9 h22 S22 => ?_
   refine sl_store0 h22 (wn rfl) ⟨rfl, rfl⟩ (h22.ev rfl) (h22.ev rfl) rfl (by kernel_rfl) S22 (i := 0) rfl rfl rfl fun X23 S23 => ?_
   refine st_nil (go_then (st_seq (st_seq (st_reg ?_))))
   refine vf h22 2 2 rfl rfl rfl fun a24 h24 => ?_
   refine vl h24 S23 2 rfl rfl rfl rfl fun a25 h25 => ?_
   refine sv h25 (ex_neq (h25.ev rfl) (h25.ev rfl)) fun a26 h26 => ?_
   refine st_nil (go_then ?_)
   refine st_if (h26.ev rfl) (fun hc2 => ?_) (fun hc2 => ?_)
   ·
    have h2 : x.p ≠ 0 := by simpa using hc2
    refine st_reg ?_
    refine vf h26 1 1 rfl rfl rfl fun a27 h27 => ?_
    refine sl_store h27 (wn rfl) ⟨rfl, rfl⟩ (h27.ev rfl) (h27.ev rfl) rfl (by kernel_rfl) S23 (i := 0) rfl rfl rfl fun X28 S28 => ?_
    refine vf h27 2 2 rfl rfl rfl fun a29 h29 => ?_
    refine sl_store h29 (wn rfl) ⟨rfl, rfl⟩ (h29.ev rfl) (h29.ev rfl) rfl (by kernel_rfl) S28 (i := 0) rfl rfl rfl fun X30 S30 => ?_
    refine nsr ?_
    refine sv h29 (ex_loads (by kernel_rfl) (by kernel_rfl) (h29.ev rfl) (S30.cellsAll (i := 0) rfl)) fun a31 h31 => ?_
    refine sl_store0 h31 (wn rfl) ⟨rfl, rfl⟩ (h31.ev rfl) (h31.ev rfl) rfl (by kernel_rfl) S30 (i := 1) rfl rfl rfl fun X32 S32 => ?_
    refine ma h31 rfl rfl fun a33 h33 => ?_
    refine st_nil (go_then (wp_ret ?_))
    refine finct h33 rfl rfl rfl S32 (i := 1) rfl (by kernel_rfl) (by kernel_rfl) ?_
    exact ⟨by rw [begR_p (m := 0) rfl h1 h2]; rfl, S32.below⟩
   ·
    have h2 : x.p = 0 := by simpa using hc2
    refine wp_skip (go_then (st_seq (st_reg ?_)))
    refine sv h26 (ex_loads (by kernel_rfl) (by kernel_rfl) (h26.ev rfl) (S23.cellsAll (i := 0) rfl)) fun a34 h34 => ?_
    refine sl_store0 h34 (wn rfl) ⟨rfl, rfl⟩ (h34.ev rfl) (h34.ev rfl) rfl (by kernel_rfl) S23 (i := 1) rfl rfl rfl fun X35 S35 => ?_
    refine ma h34 rfl rfl fun a36 h36 => ?_
    refine st_nil (go_then (wp_ret ?_))
    refine finct h36 rfl rfl rfl S35 (i := 1) rfl (by kernel_rfl) (by kernel_rfl) ?_
    exact ⟨by rw [begR_z (m := 0) rfl h1 h2]; rfl, S35.below⟩
 ·
  subst hc0
  refine wp_skip (go_then (st_seq (st_seq (st_reg ?_))))
  refine vf h10 2 2 rfl rfl rfl fun a37 h37 => ?_
  refine vl h37 S2 1 rfl rfl rfl rfl fun a38 h38 => ?_
  refine mv h38 rfl rfl fun a39 h39 => ?_
  refine sv h39 (ex_gtr (h39.ev rfl) (h39.ev rfl)) fun a40 h40 => ?_
  refine st_nil (go_then ?_)
  refine st_if (h40.ev rfl) (fun hc1 => ?_) (fun hc1 => ?_)
  ·
   have h1 := of_decide_eq_true hc1
   refine st_seq (st_reg ?_)
   refine sv h40 (ex_build (zs := [.int .i64 0, .int .i64 0, .int .i64 0]) (pl := [(0, 1), (1, 1), (2, 1)]) (by kernel_rfl) (by kernel_rfl) (h40.evs2 rfl) rfl rfl) fun a41 h41 => ?_
   refine sl_store0 h41 (wn rfl) ⟨rfl, rfl⟩ (h41.ev rfl) (h41.ev rfl) rfl (by kernel_rfl) S2 (i := 0) rfl rfl rfl fun X42 S42 => ?_
   refine ma h41 rfl rfl fun a43 h43 => ?_
   refine st_nil (go_then (wp_ret (ret_then ?_)))
   refine finct h43 rfl rfl rfl S42 (i := 0) rfl (by kernel_rfl) (by kernel_rfl) ?_
   exact ⟨by rw [begR_bad (m := l[0].l - 1) (by rw [hf]; rfl) h1]; rfl, S42.below⟩
  ·
   have h1 := of_decide_eq_false hc1
   refine wp_skip (go_then (st_seq (st_reg ?_)))
   refine vf h40 2 2 rfl rfl rfl fun a44 h44 => ?_
   refine vl h44 S2 1 rfl rfl rfl rfl fun a45 h45 => ?_
   refine sv h45 (ex_build (zs := [.int .i64 0, .int .i64 0, .int .i64 0]) (pl := [(0, 1), (1, 1), (2, 1)]) (by kernel_rfl) (by kernel_rfl) (h45.evs2 rfl) rfl rfl) fun a46 h46 => ?_
   refine na (.agg #[.int .i64 0, .int .i64 0, .int .i64 0]) h46 rfl S2 fun b9 a47 X47 gb9 h47 S47 => ?_
   refine sl_store0 h47 (wn rfl) ⟨rfl, rfl⟩ (h47.ev rfl) (h47.ev rfl) rfl (by kernel_rfl) S47 (i := 0) rfl rfl rfl fun X48 S48 => ?_
   refine st_nil (go_then (st_seq (st_seq (st_reg ?_))))
   refine vf h47 2 2 rfl rfl rfl fun a49 h49 => ?_
   refine vl h49 S48 2 rfl rfl rfl rfl fun a50 h50 => ?_
   refine sv h50 (ex_neq (h50.ev rfl) (h50.ev rfl)) fun a51 h51 => ?_
   refine st_nil (go_then ?_)
   refine st_if (h51.ev rfl) (fun hc2 => ?_) (fun hc2 => ?_)
   ·
    have h2 : x.p ≠ 0 := by simpa using hc2
    refine st_reg ?_
    refine vf h51 1 1 rfl rfl rfl fun a52 h52 => ?_
    refine sl_store h52 (wn rfl) ⟨rfl, rfl⟩ (h52.ev rfl) (h52.ev rfl) rfl (by kernel_rfl) S48 (i := 0) rfl rfl rfl fun X53 S53 => ?_
    refine vf h52 2 2 rfl rfl rfl fun a54 h54 => ?_
    refine sl_store h54 (wn rfl) ⟨rfl, rfl⟩ (h54.ev rfl) (h54.ev rfl) rfl (by kernel_rfl) S53 (i := 0) rfl rfl rfl fun X55 S55 => ?_
    refine nsr ?_
    refine sv h54 (ex_loads (by kernel_rfl) (by kernel_rfl) (h54.ev rfl) (S55.cellsAll (i := 0) rfl)) fun a56 h56 => ?_
    refine sl_store0 h56 (wn rfl) ⟨rfl, rfl⟩ (h56.ev rfl) (h56.ev rfl) rfl (by kernel_rfl) S55 (i := 1) rfl rfl rfl fun X57 S57 => ?_
    refine ma h56 rfl rfl fun a58 h58 => ?_
    refine st_nil (go_then (wp_ret ?_))
    refine finct h58 rfl rfl rfl S57 (i := 1) rfl (by kernel_rfl) (by kernel_rfl) ?_
    exact ⟨by rw [begR_p (m := l[0].l - 1) (by rw [hf]; rfl) h1 h2]; rfl, S57.below⟩
   ·
    have h2 : x.p = 0 := by simpa using hc2
    refine wp_skip (go_then (st_seq (st_reg ?_)))
    refine sv h51 (ex_loads (by kernel_rfl) (by kernel_rfl) (h51.ev rfl) (S48.cellsAll (i := 0) rfl)) fun a59 h59 => ?_
    refine sl_store0 h59 (wn rfl) ⟨rfl, rfl⟩ (h59.ev rfl) (h59.ev rfl) rfl (by kernel_rfl) S48 (i := 1) rfl rfl rfl fun X60 S60 => ?_
    refine ma h59 rfl rfl fun a61 h61 => ?_
    refine st_nil (go_then (wp_ret ?_))
    refine finct h61 rfl rfl rfl S60 (i := 1) rfl (by kernel_rfl) (by kernel_rfl) ?_
    exact ⟨by rw [begR_z (m := l[0].l - 1) (by rw [hf]; rfl) h1 h2]; rfl, S60.below⟩
theorem checkpointErr_any (x : Lge) (w : World) (hd : x.d.size ≤ 100000) :
 Calls Tryz.prog 155 #[entV x] w fun e w' => e = .returned (.int .i64 (cpE x)) ∧ Below w.heap.size w w' := by
 refine st_enter (N := 20) Tryz.func155 rfl rfl rfl (fun a0 h0 => ?_)
 have S0 := St.init w
 refine st_seq (st_reg ?_)
 refine nb h0 rfl rfl S0 fun b1 a1 X1 gb1 h1 S1 => ?_
 refine ma h1 rfl rfl fun a2 h2 => ?_
 refine st_nil (go_then (st_seq (st_seq (st_reg ?_))))
 refine vf h2 1 1 rfl rfl rfl fun a3 h3 => ?_
 refine vl h3 S1 0 rfl rfl rfl rfl fun a4 h4 => ?_
 refine sv h4 (ex_neq (h4.ev rfl) (h4.ev rfl)) fun a5 h5 => ?_
 refine mv h5 rfl rfl fun a6 h6 => ?_
 apply sl_or h6 S1 8 rfl 4 12
 case hf =>
  intro gc8
  refine sy h6 rfl rfl rfl gc8 (ex_field (off := 2) (j := 2) (by kernel_rfl) (h6.ev rfl) rfl) rfl rfl fun a7 h7 => ?_
  refine sy h7 rfl rfl rfl gc8 (ex_load (by kernel_rfl) (h7.ev rfl) (S1.cell (i := 0) rfl rfl)) rfl rfl fun a8 h8 => ?_
  refine sy h8 rfl rfl rfl gc8 (ex_neq (h8.ev rfl) (h8.ev rfl)) rfl rfl fun a9 h9 => ?_
  refine sv h9 (ex_pick_f (h9.ev rfl) gc8 (h9.ev rfl)) fun a10 h10 => ?_
  exact st_nil ⟨h10.mid (m := [(_, _), (_, _), (_, _)]) rfl, S1⟩
 case ht =>
  intro gc8
  refine no h6 rfl rfl rfl gc8 rfl rfl fun a11 h11 => ?_
  refine no h11 rfl rfl rfl gc8 rfl rfl fun a12 h12 => ?_
  refine no h12 rfl rfl rfl gc8 rfl rfl fun a13 h13 => ?_
  refine sv h13 (ex_pick_t (h13.ev rfl) gc8 (h13.ev rfl)) fun a14 h14 => ?_
  exact st_nil ⟨h14.mid (m := [(_, _), (_, _), (_, _)]) rfl, S1⟩
 case h =>
  rintro a15 X15 ⟨h15, S15⟩
  refine st_nil (go_then ?_)
  refine st_if (h15.ev rfl) (fun hc0 => ?_) (fun hc0 => ?_)
  ·
   refine st_seq (st_reg ?_)
   refine ma h15 rfl rfl fun a16 h16 => ?_
   refine st_nil (go_then (wp_ret (ret_then ?_)))
   refine fin1 h16 rfl rfl ?_
   have h1 : x.t ≠ 0 ∨ x.p ≠ 0 := by simpa using hc0
   exact ⟨by unfold cpE; rw [if_pos h1]; (try rfl), S15.below⟩
  ·
   refine wp_skip (go_then (st_seq (st_reg ?_)))
   refine vf h15 12 12 rfl rfl rfl fun a17 h17 => ?_
   refine vl h17 S15 0 rfl rfl rfl rfl fun a18 h18 => ?_
   refine sl_more h18 (wn rfl) (ex_call (fun _ _ => by kernel_rfl) (h18.evs rfl) rfl) rfl rfl S15 (TableOf_any (bl x.d) _ hd) fun p16 a19 X19 h19 S19 => ?_
   refine mv h19 rfl rfl fun a20 h20 => ?_
   refine sv (v := tblV (tofR (bl x.d)) p16.1 p16.2.1 p16.2.2.1 p16.2.2.2) h20 (ex_extract (h20.ev rfl) rfl) fun a21 h21 => ?_
   refine vx h21 rfl rfl rfl fun a22 h22 => ?_
   refine na (.agg #[.slice none 0 0, .slice none 0 0]) h22 rfl S19 fun b3 a23 X23 gb3 h23 S23 => ?_
   refine sl_store0 h23 (wn rfl) ⟨rfl, rfl⟩ (h23.ev rfl) (h23.ev rfl) rfl (by kernel_rfl) S23 (i := 0) rfl rfl rfl fun X24 S24 => ?_
   refine ma h23 rfl rfl fun a25 h25 => ?_
   refine nsr ?_
   refine mv h25 rfl rfl fun a26 h26 => ?_
   refine ma h26 rfl rfl fun a27 h27 => ?_
   refine st_nil (go_then (wp_ret ?_))
   refine fin1 h27 rfl rfl ?_
   have h1 : ¬ (x.t ≠ 0 ∨ x.p ≠ 0) := by simpa using hc0
   exact ⟨by unfold cpE; rw [if_neg h1]; (try rfl), S24.below⟩
theorem VldH.srt {l : List Rcd} {i : Nat} (h : VldH l i) : SrtK Rcd.l (l.take i) := by
 refine List.pairwise_iff_getElem.2 fun j k hj hk hjk => ?_
 have h1 := h.1
 rw [List.length_take] at hj hk
 rw [List.getElem_take, List.getElem_take]
 exact h.lt hjk (by omega)
theorem eqL_op (x y : Op) : eqL [.int .i64 x.k, .int .i64 x.a, .int .i64 x.e, .int .i64 x.c, .string x.o, .string x.n] [.int .i64 y.k, .int .i64 y.a, .int .i64 y.e, .int .i64 y.c, .string y.o, .string y.n] = decide (x = y) := by
 obtain ⟨k, a, e, c, o, n⟩ := x
 obtain ⟨k', a', e', c', o', n'⟩ := y
 rw [Bool.eq_iff_iff, decide_eq_true_eq]
 simp [eqL, eqV2]
theorem entE_op {x : Lge} (h : entE x = 0) : opE x.o = 0 := by
 unfold entE at h
 rw [firstE_zero] at h
 exact h _ (.tail _ (.tail _ (.tail _ (.tail _ (.head _)))))
theorem Rd.takeF {α : Type} {f : α → List Value} {n : Nat} (hf : ∀ x, (f x).length = n) {w : World} {B : Nat} {A : Option Addr} {l : List α} (h : Rd w B A (l.flatMap f)) (k : Nat) : Rd w B A ((l.take k).flatMap f) := fun j u hj => by
 rw [← flat_take hf, List.getElem?_take] at hj
 split at hj
 · exact h j u hj
 · cases hj
theorem undoes_any (l : List Rcd) (A : Option Addr) (c : Nat) (i : Nat) (ch : Chn) (x : Lge) (w : World) (hr : Rd w w.heap.size A (l.flatMap rcdL)) (hi : i < l.length) (hl : l.length ≤ 1000) (hc : l.length ≤ c) (hv : VldH l i) (hb0 : 1 ≤ fstL l ∧ fstL l ≤ 2147483647) :
 Calls Tryz.prog 158 #[.slice A l.length c, .int .i64 i, chnV ch, entV x] w fun e w' => e = .returned (.int .i64 (undE l i ch x)) ∧ Below w.heap.size w w' := by
 have hs := hv.srt
 have hf := fstL_get (l := l) (by omega)
 have hlt : (l.take i).length = i := by rw [List.length_take]; omega
 have hrt : Rd w w.heap.size A ((l.take i).flatMap rcdL) := hr.takeF rcdL_len i
 obtain ⟨b', o', rfl, hB, _⟩ := hr.opened (flat_pos rcdL_len (by decide) (by omega))
 refine st_enter (N := 80) Tryz.func158 rfl rfl rfl (fun a0 h0 => ?_)
 have S0 := St.init w
 refine st_seq (st_reg ?_)
 refine nb h0 rfl rfl S0 fun b6 a1 X1 gb6 h1 S1 => ?_
 refine nb h1 rfl rfl S1 fun b7 a2 X2 gb7 h2 S2 => ?_
 refine ma h2 rfl rfl fun a3 h3 => ?_
 refine st_nil (go_then (st_seq (st_seq (st_reg ?_))))
 refine vf h3 2 2 rfl rfl rfl fun a4 h4 => ?_
 refine vl h4 S2 1 rfl rfl rfl rfl fun a5 h5 => ?_
 refine sv h5 (ex_eql (h5.ev rfl) (h5.ev rfl)) fun a6 h6 => ?_
 refine st_nil (go_then ?_)
 refine st_if (h6.ev rfl) (fun hc0 => ?_) (fun hc0 => ?_)
 ·
  have hu : ch.u = 0 := by simpa using hc0
  refine st_seq (st_reg ?_)
  refine ma h6 rfl rfl fun a7 h7 => ?_
  refine st_nil (go_then (wp_ret (ret_then ?_)))
  refine fin1 h7 rfl rfl ?_
  exact ⟨by unfold undE; rw [if_pos hu], S2.below⟩
 ·
  have hu : ch.u ≠ 0 := by simpa using hc0
  refine wp_skip (go_then (st_seq ?_))
  apply dr_flow h6 [false, false, false, false, false] _ (by kernel_rfl)
  case h =>
   refine qv h6 (fun X hX => ex_move (h6.ev rfl)) fun a8 h8 => ?_
   refine qv h8 (fun X hX => ex_move (h8.ev rfl)) fun a9 h9 => ?_
   refine qv h9 (fun X hX => ex_slice (l := 0) (h := i) (sz := 14) Tryz.underlying180 (by kernel_rfl) (h9.ev rfl) rfl (h9.ev rfl) (by omega) (by omega) (.inr rfl) rfl) fun a10 h10 => ?_
   refine qv h10 (fun X hX => ex_field (off := 2) (j := 2) (by kernel_rfl) (h10.ev rfl) rfl) fun a11 h11 => ?_
   refine qv h11 (fun X hX => ex_load (by kernel_rfl) (h11.ev rfl) ((S2.grow hX).cell (i := 1) rfl rfl)) fun a12 h12 => ?_
   refine sq_nil ?_
   refine nd_end fun X13 hX13 hΦ13 => ?_
   have S13 := S2.grow hX13
   refine sl_bel h12 (wn rfl) (ex_call (fun _ _ => by kernel_rfl) (h12.evs rfl) rfl) rfl rfl S13 (hlt ▸ findA_any (l.take i) hs _ c ch.u _ (S13.rd0 hrt) (by omega)) fun a14 X14 h14 S14 => ?_
   refine ma h14 rfl rfl fun a15 h15 => ?_
   refine st_nil (go_then (st_seq (st_seq (st_reg ?_))))
   refine mv h15 rfl rfl fun a16 h16 => ?_
   refine sv h16 (ex_pnil Tryz.underlying219 (by kernel_rfl) (h16.ev rfl) (h16.ev rfl)) fun a17 h17 => ?_
   refine st_nil (go_then ?_)
   refine st_if (h17.ev rfl) (fun hc1 => ?_) (fun hc1 => ?_)
   ·
    have hn := fndA_none hc1
    refine st_seq ?_
    apply dr_flow h17 [false, false, false, false, false, false] _ (by kernel_rfl)
    case h =>
     refine qv h17 (fun X hX => ex_field (off := 3) (j := 3) (by kernel_rfl) (h17.ev rfl) rfl) fun a18 h18 => ?_
     refine qv h18 (fun X hX => ex_load (by kernel_rfl) (h18.ev rfl) ((S14.grow hX).cell (i := 0) rfl rfl)) fun a19 h19 => ?_
     refine qv h19 (fun X hX => ex_move (h19.ev rfl)) fun a20 h20 => ?_
     refine qv h20 (fun X hX => ex_index (i := 0) (sz := 14) Tryz.underlying180 (by kernel_rfl) (h20.ev rfl) (h20.ev rfl) (by omega) (by omega) rfl) fun a21 h21 => ?_
     refine qv h21 (fun X hX => ex_field (off := 0) (by kernel_rfl) (h21.ev rfl) rfl) fun a22 h22 => ?_
     refine qv h22 (fun X hX => ex_load (by kernel_rfl) (h22.ev rfl) ((flatAt rcdL_len ((S14.grow hX).rd0 hr) (show 0 < l.length by omega)) 0 _ rfl)) fun a23 h23 => ?_
     refine sq_nil ?_
     refine nd_end fun X24 hX24 hΦ24 => ?_
     have S24 := S14.grow hX24
     refine sv h23 (ex_lss (h23.ev rfl) (h23.ev rfl)) fun a25 h25 => ?_
     refine sl_pure h25 (wn rfl) (ex_call (fun _ _ => by kernel_rfl) (h25.evs rfl) rfl) rfl rfl (recovery_unless_any _ _ _) fun a26 h26 => ?_
     refine ma h26 rfl rfl fun a27 h27 => ?_
     refine st_nil (go_then (wp_ret (ret_then ?_)))
     refine fin1 h27 rfl rfl ?_
     exact ⟨by unfold undE; rw [if_neg hu, hn, hf], S24.below⟩
    case hB => kernel_rfl
    case hst => rfl
   ·
    obtain ⟨qk, q1, q2, q3⟩ := fndA_some hs hc1
    rw [show fndA (some ⟨b', o', none⟩) (l.take i) ch.u = some ⟨b', o' + bsN Rcd.l (l.take i) ch.u * 14 + 1, none⟩ from q3] at h17
    generalize bsN Rcd.l (l.take i) ch.u = k at qk q1 q2 q3 h17
    have hki : k < i := by omega
    have hge : (l.take i)[k] = l[k]'(by omega) := List.getElem_take ..
    have hoE : opE (l.take i)[k].e.o = 0 := by rw [hge]; exact entE_op (hv.e0 hki).2.2
    refine wp_skip (go_then (st_seq (st_reg ?_)))
    refine mv h17 rfl rfl fun a28 h28 => ?_
    refine sv h28 (ex_nilck (h28.ev rfl)) fun a29 h29 => ?_
    refine sv h29 (ex_field (off := 6) (by kernel_rfl) (h29.ev rfl) rfl) fun a30 h30 => ?_
    refine sv (v := opV (l.take i)[k].e.o) h30 (ex_loads (by kernel_rfl) (by kernel_rfl) (h30.ev rfl) (opcAt (S14.rd0 hrt) qk)) fun a31 h31 => ?_
    refine sl_bel h31 (wn rfl) (ex_call (fun _ _ => by kernel_rfl) (h31.evs rfl) rfl) rfl rfl S14 (Inverse_ok (l.take i)[k].e.o _ hoE) fun a32 X32 h32 S32 => ?_
    refine mv h32 rfl rfl fun a33 h33 => ?_
    refine vx h33 rfl rfl rfl fun a34 h34 => ?_
    refine vx h34 rfl rfl rfl fun a35 h35 => ?_
    refine na (.agg #[.int .i64 0, .int .i64 0, .int .i64 0, .int .i64 0, .string ⟨#[]⟩, .string ⟨#[]⟩]) h35 rfl S32 fun b10 a36 X36 gb10 h36 S36 => ?_
    refine sl_store0 h36 (wn rfl) ⟨rfl, rfl⟩ (h36.ev rfl) (h36.ev rfl) rfl (by kernel_rfl) S36 (i := 0) rfl rfl rfl fun X37 S37 => ?_
    refine ma h36 rfl rfl fun a38 h38 => ?_
    refine st_nil (go_then (st_seq ?_))
    apply dr_flow h38 [false, false, false, false, false, false, false, false, false, false, false, false, false, false, false, false, false, false, false, false, false, false, false, false, false, false, false, false, false, false, false, false, false, false, false, false, false, false] _ (by kernel_rfl)
    case h =>
     refine qv h38 (fun X hX => ex_move (h38.ev rfl)) fun a39 h39 => ?_
     refine qv h39 (fun X hX => ex_nilck (h39.ev rfl)) fun a40 h40 => ?_
     refine qv h40 (fun X hX => ex_field (off := 0) (by kernel_rfl) (h40.ev rfl) rfl) fun a41 h41 => ?_
     refine qv h41 (fun X hX => ex_load (by kernel_rfl) (h41.ev rfl) ((entAt ((S37.grow hX).rd0 hrt) qk) 0 _ rfl)) fun a42 h42 => ?_
     refine qv h42 (fun X hX => ex_eql (h42.ev rfl) (h42.ev rfl)) fun a43 h43 => ?_
     refine qv h43 (fun X hX => ex_move (h43.ev rfl)) fun a44 h44 => ?_
     apply sq_and h44 45 rfl 8 53
     case ht =>
      intro gc45
      refine sq_val h44 (wanted_yes h44 _ rfl rfl rfl gc45) rfl rfl (fun X hX => (ex_field (off := 3) (j := 3) (by kernel_rfl) (h44.ev rfl) rfl)) fun a45 h45 => ?_
      refine sq_val h45 (wanted_yes h45 _ rfl rfl rfl gc45) rfl rfl (fun X hX => (ex_load (by kernel_rfl) (h45.ev rfl) ((S37.grow hX).cell (i := 1) rfl rfl))) fun a46 h46 => ?_
      refine sq_val h46 (wanted_yes h46 _ rfl rfl rfl gc45) rfl rfl (fun X hX => (ex_move (h46.ev rfl))) fun a47 h47 => ?_
      refine sq_val h47 (wanted_yes h47 _ rfl rfl rfl gc45) rfl rfl (fun X hX => (ex_nilck (h47.ev rfl))) fun a48 h48 => ?_
      refine sq_val h48 (wanted_yes h48 _ rfl rfl rfl gc45) rfl rfl (fun X hX => (ex_field (off := 2) (by kernel_rfl) (h48.ev rfl) rfl)) fun a49 h49 => ?_
      refine sq_val h49 (wanted_yes h49 _ rfl rfl rfl gc45) rfl rfl (fun X hX => (ex_load (by kernel_rfl) (h49.ev rfl) ((entAt ((S37.grow hX).rd0 hrt) qk) 2 _ rfl))) fun a50 h50 => ?_
      refine sq_val h50 (wanted_yes h50 _ rfl rfl rfl gc45) rfl rfl (fun X hX => (ex_eql (h50.ev rfl) (h50.ev rfl))) fun a51 h51 => ?_
      refine qv h51 (fun X hX => ex_pick_t (h51.ev rfl) gc45 (h51.ev rfl)) fun a52 h52 => ?_
      exact sq_nil (h52.mid (m := [(_, _), (_, _), (_, _), (_, _), (_, _), (_, _), (_, _)]) rfl)
     case hf =>
      intro gc45
      refine qo h44 rfl rfl rfl gc45 rfl rfl fun a53 h53 => ?_
      refine qo h53 rfl rfl rfl gc45 rfl rfl fun a54 h54 => ?_
      refine qo h54 rfl rfl rfl gc45 rfl rfl fun a55 h55 => ?_
      refine qo h55 rfl rfl rfl gc45 rfl rfl fun a56 h56 => ?_
      refine qo h56 rfl rfl rfl gc45 rfl rfl fun a57 h57 => ?_
      refine qo h57 rfl rfl rfl gc45 rfl rfl fun a58 h58 => ?_
      refine qo h58 rfl rfl rfl gc45 rfl rfl fun a59 h59 => ?_
      refine qv h59 (fun X hX => ex_pick_f (h59.ev rfl) gc45 (h59.ev rfl)) fun a60 h60 => ?_
      exact sq_nil (h60.mid (m := [(_, _), (_, _), (_, _), (_, _), (_, _), (_, _), (_, _)]) rfl)
     case h =>
      intro a61 h61
      refine qv h61 (fun X hX => ex_move (h61.ev rfl)) fun a62 h62 => ?_
      apply sq_and h62 54 rfl 8 62
      case ht =>
       intro gc54
       refine sq_val h62 (wanted_yes h62 _ rfl rfl rfl gc54) rfl rfl (fun X hX => (ex_field (off := 4) (j := 4) (by kernel_rfl) (h62.ev rfl) rfl)) fun a63 h63 => ?_
       refine sq_val h63 (wanted_yes h63 _ rfl rfl rfl gc54) rfl rfl (fun X hX => (ex_load (by kernel_rfl) (h63.ev rfl) ((S37.grow hX).cell (i := 1) rfl rfl))) fun a64 h64 => ?_
       refine sq_val h64 (wanted_yes h64 _ rfl rfl rfl gc54) rfl rfl (fun X hX => (ex_move (h64.ev rfl))) fun a65 h65 => ?_
       refine sq_val h65 (wanted_yes h65 _ rfl rfl rfl gc54) rfl rfl (fun X hX => (ex_nilck (h65.ev rfl))) fun a66 h66 => ?_
       refine sq_val h66 (wanted_yes h66 _ rfl rfl rfl gc54) rfl rfl (fun X hX => (ex_field (off := 4) (by kernel_rfl) (h66.ev rfl) rfl)) fun a67 h67 => ?_
       refine sq_val h67 (wanted_yes h67 _ rfl rfl rfl gc54) rfl rfl (fun X hX => (ex_load (by kernel_rfl) (h67.ev rfl) ((entAt ((S37.grow hX).rd0 hrt) qk) 4 _ rfl))) fun a68 h68 => ?_
       refine sq_val h68 (wanted_yes h68 _ rfl rfl rfl gc54) rfl rfl (fun X hX => (ex_eql (h68.ev rfl) (h68.ev rfl))) fun a69 h69 => ?_
       refine qv h69 (fun X hX => ex_pick_t (h69.ev rfl) gc54 (h69.ev rfl)) fun a70 h70 => ?_
       exact sq_nil (h70.mid (m := [(_, _), (_, _), (_, _), (_, _), (_, _), (_, _), (_, _)]) rfl)
      case hf =>
       intro gc54
       refine qo h62 rfl rfl rfl gc54 rfl rfl fun a71 h71 => ?_
       refine qo h71 rfl rfl rfl gc54 rfl rfl fun a72 h72 => ?_
       refine qo h72 rfl rfl rfl gc54 rfl rfl fun a73 h73 => ?_
       refine qo h73 rfl rfl rfl gc54 rfl rfl fun a74 h74 => ?_
       refine qo h74 rfl rfl rfl gc54 rfl rfl fun a75 h75 => ?_
       refine qo h75 rfl rfl rfl gc54 rfl rfl fun a76 h76 => ?_
       refine qo h76 rfl rfl rfl gc54 rfl rfl fun a77 h77 => ?_
       refine qv h77 (fun X hX => ex_pick_f (h77.ev rfl) gc54 (h77.ev rfl)) fun a78 h78 => ?_
       exact sq_nil (h78.mid (m := [(_, _), (_, _), (_, _), (_, _), (_, _), (_, _), (_, _)]) rfl)
      case h =>
       intro a79 h79
       refine qv h79 (fun X hX => ex_move (h79.ev rfl)) fun a80 h80 => ?_
       apply sq_and h80 63 rfl 8 71
       case ht =>
        intro gc63
        refine sq_val h80 (wanted_yes h80 _ rfl rfl rfl gc63) rfl rfl (fun X hX => (ex_field (off := 5) (j := 5) (by kernel_rfl) (h80.ev rfl) rfl)) fun a81 h81 => ?_
        refine sq_val h81 (wanted_yes h81 _ rfl rfl rfl gc63) rfl rfl (fun X hX => (ex_load (by kernel_rfl) (h81.ev rfl) ((S37.grow hX).cell (i := 1) rfl rfl))) fun a82 h82 => ?_
        refine sq_val h82 (wanted_yes h82 _ rfl rfl rfl gc63) rfl rfl (fun X hX => (ex_move (h82.ev rfl))) fun a83 h83 => ?_
        refine sq_val h83 (wanted_yes h83 _ rfl rfl rfl gc63) rfl rfl (fun X hX => (ex_nilck (h83.ev rfl))) fun a84 h84 => ?_
        refine sq_val h84 (wanted_yes h84 _ rfl rfl rfl gc63) rfl rfl (fun X hX => (ex_field (off := 5) (by kernel_rfl) (h84.ev rfl) rfl)) fun a85 h85 => ?_
        refine sq_val h85 (wanted_yes h85 _ rfl rfl rfl gc63) rfl rfl (fun X hX => (ex_load (by kernel_rfl) (h85.ev rfl) ((entAt ((S37.grow hX).rd0 hrt) qk) 5 _ rfl))) fun a86 h86 => ?_
        refine sq_val h86 (wanted_yes h86 _ rfl rfl rfl gc63) rfl rfl (fun X hX => (ex_beql Tryz.underlying4 (h86.ev rfl) (h86.ev rfl))) fun a87 h87 => ?_
        refine qv h87 (fun X hX => ex_pick_t (h87.ev rfl) gc63 (h87.ev rfl)) fun a88 h88 => ?_
        exact sq_nil (h88.mid (m := [(_, _), (_, _), (_, _), (_, _), (_, _), (_, _), (_, _)]) rfl)
       case hf =>
        intro gc63
        refine qo h80 rfl rfl rfl gc63 rfl rfl fun a89 h89 => ?_
        refine qo h89 rfl rfl rfl gc63 rfl rfl fun a90 h90 => ?_
        refine qo h90 rfl rfl rfl gc63 rfl rfl fun a91 h91 => ?_
        refine qo h91 rfl rfl rfl gc63 rfl rfl fun a92 h92 => ?_
        refine qo h92 rfl rfl rfl gc63 rfl rfl fun a93 h93 => ?_
        refine qo h93 rfl rfl rfl gc63 rfl rfl fun a94 h94 => ?_
        refine qo h94 rfl rfl rfl gc63 rfl rfl fun a95 h95 => ?_
        refine qv h95 (fun X hX => ex_pick_f (h95.ev rfl) gc63 (h95.ev rfl)) fun a96 h96 => ?_
        exact sq_nil (h96.mid (m := [(_, _), (_, _), (_, _), (_, _), (_, _), (_, _), (_, _)]) rfl)
       case h =>
        intro a97 h97
        refine qv h97 (fun X hX => ex_move (h97.ev rfl)) fun a98 h98 => ?_
        apply sq_and h98 72 rfl 5 77
        case ht =>
         intro gc72
         refine sq_val h98 (wanted_yes h98 _ rfl rfl rfl gc72) rfl rfl (fun X hX => (ex_field (off := 6) (j := 6) (by kernel_rfl) (h98.ev rfl) rfl)) fun a99 h99 => ?_
         refine sq_val h99 (wanted_yes h99 _ rfl rfl rfl gc72) rfl rfl (fun X hX => (ex_loads (by kernel_rfl) (by kernel_rfl) (h99.ev rfl) ((S37.grow hX).cellsOf (i := 1) rfl 6 6))) fun a100 h100 => ?_
         refine sq_val h100 (wanted_yes h100 _ rfl rfl rfl gc72) rfl rfl (fun X hX => (ex_loads (by kernel_rfl) (by kernel_rfl) (h100.ev rfl) ((S37.grow hX).cellsAll (i := 0) rfl))) fun a101 h101 => ?_
         refine sq_val h101 (wanted_yes h101 _ rfl rfl rfl gc72) rfl rfl (fun X hX => (ex_teql (ks := [.i .i64, .i .i64, .i .i64, .i .i64, .s, .s]) (by kernel_rfl) Tryz.underlying141 (by kernel_rfl) (h101.ev rfl) (h101.ev rfl) rfl rfl)) fun a102 h102 => ?_
         refine qv h102 (fun X hX => ex_pick_t (h102.ev rfl) gc72 (h102.ev rfl)) fun a103 h103 => ?_
         exact sq_nil (h103.mid (m := [(_, _), (_, _), (_, _), (_, _)]) rfl)
        case hf =>
         intro gc72
         refine qo h98 rfl rfl rfl gc72 rfl rfl fun a104 h104 => ?_
         refine qo h104 rfl rfl rfl gc72 rfl rfl fun a105 h105 => ?_
         refine qo h105 rfl rfl rfl gc72 rfl rfl fun a106 h106 => ?_
         refine qo h106 rfl rfl rfl gc72 rfl rfl fun a107 h107 => ?_
         refine qv h107 (fun X hX => ex_pick_f (h107.ev rfl) gc72 (h107.ev rfl)) fun a108 h108 => ?_
         exact sq_nil (h108.mid (m := [(_, _), (_, _), (_, _), (_, _)]) rfl)
        case h =>
         intro a109 h109
         refine sq_nil ?_
         refine nd_end fun X110 hX110 hΦ110 => ?_
         have S110 := S37.grow hX110
         refine ma h109 rfl rfl fun a111 h111 => ?_
         refine nsr ?_
         refine mv h111 rfl rfl fun a112 h112 => ?_
         refine sl_pure h112 (wn rfl) (ex_call (fun _ _ => by kernel_rfl) (h112.evs rfl) rfl) rfl rfl (recovery_unless_any _ _ _) fun a113 h113 => ?_
         refine ma h113 rfl rfl fun a114 h114 => ?_
         refine st_nil (go_then (wp_ret ?_))
         refine fin1 h114 rfl rfl ?_
         refine ⟨?_, S110.below⟩
         have e := eqL_op x.o (opInv (l.take i)[k].e.o)
         unfold undE
         rw [if_neg hu, q2]
         show _ = Ending.returned (.int .i64 (unl (_ && _ && _ && _ && decide (x.o = opInv (l.take i)[k].e.o)) 13))
         rw [← e]; rfl
    case hB => kernel_rfl
    case hst => rfl
  case hB => kernel_rfl
  case hst => rfl
end Go.Proofs.YtcfdpfmchchkaaaGreatDoor
namespace Go.Proofs.YtcfdpfmchchkaaaGreatDoor
set_option linter.unusedVariables false
set_option linter.unusedSimpArgs false
set_option maxRecDepth 4000
open Go.RowKit Go.Sort
def ixI : List Int → Int → Nat → Int
 | [], _, _ => -1
 | x :: r, v, k => if v = x then k else ixI r v (k + 1)
theorem ixI_any : ∀ (l : List Int) (v : Int) (k : Nat), decide (ixI l v k ≥ 0) = l.any fun x => x == v
 | [], v, k => rfl
 | x :: r, v, k => by
  unfold ixI
  rw [List.any_cons]
  by_cases h : v = x
  · rw [if_pos h, decide_eq_true (by omega), show (x == v) = true by rw [h]; exact beq_self_eq_true x]; rfl
  · rw [if_neg h, ixI_any r v (k + 1), show (x == v) = false by rw [beq_eq_false_iff_ne]; exact fun e => h e.symm]; rfl
theorem rd_one {X : World} {B b o k : Nat} {l : List Int} (hr : Rd X B (some ⟨b, o, none⟩) (l.map (.int .i64))) (hk : k < l.length) : ∀ (j : Nat) (u : Value), [Value.int .i64 l[k]][j]? = some u → X.cell? ⟨b, o + k * 1 + j, none⟩ = some u
 | 0, u, hu => by
  obtain ⟨b', o', e, _, hc⟩ := hr k u (by rw [List.getElem?_map, List.getElem?_eq_getElem hk]; exact hu)
  injection e with e
  injection e with e1 e2
  subst e1 e2
  rw [Nat.mul_one, Nat.add_zero]; exact hc
 | j + 1, u, hu => by simp at hu
theorem Index_any (l : List Int) (A : Option Addr) (c : Nat) (v : Int) (w : World) (hr : Rd w w.heap.size A (l.map (.int .i64))) (hl : l.length ≤ 1000) :
 Calls Tryz.prog 218 #[.slice A l.length c, .int .i64 v] w fun e w' => e = .returned (.int .i64 (ixI l v 0)) ∧ Below w.heap.size w w' := by
 refine st_enter (N := 19) Tryz.func218 rfl rfl rfl (fun a0 h0 => ?_)
 have S0 := St.init w
 refine st_seq (st_reg ?_)
 refine ma h0 rfl rfl fun a1 h1 => ?_
 refine st_nil (go_then (st_seq (st_seq (st_reg ?_))))
 refine mv h1 rfl rfl fun a2 h2 => ?_
 refine sv h2 (ex_len Tryz.underlying53 (h2.ev rfl)) fun a3 h3 => ?_
 refine mv h3 rfl rfl fun a4 h4 => ?_
 refine st_nil (go_then (wp_block ?_))
 refine st_loop h4 S0 [7, 0, 1] (fun (j : Nat) => [(8, .int .i64 j)]) (fun (j : Nat) => j ≤ l.length ∧ ixI l v 0 = ixI (l.drop j) v j) (fun (j : Nat) L => L) (fun (j : Nat) => l.length - j) (0) (⟨Nat.zero_le _, rfl⟩) ⟨rfl, rfl, rfl, rfl, trivial⟩ (S0) ?_
 intro j a5 X5 hF0 h5 S5
 refine st_seq (st_reg ?_)
 refine sv h5 (ex_lss (h5.ev rfl) (h5.ev rfl)) fun a6 h6 => ?_
 refine st_nil (go_then (st_seq ?_))
 refine st_if (h6.ev rfl) (fun hc0 => ?_) (fun hc0 => ?_)
 ·
  have hlt : j < l.length := by have := of_decide_eq_true hc0; omega
  obtain ⟨b, o, rfl, hB, hcc⟩ := hr.opened (by rw [List.length_map]; omega)
  have hd : l.drop j = l[j] :: l.drop (j + 1) := List.drop_eq_getElem_cons hlt
  refine wp_skip (go_then (st_seq (wp_block (st_seq (st_reg ?_)))))
  refine mv h6 rfl rfl fun a7 h7 => ?_
  refine ma h7 rfl rfl fun a8 h8 => ?_
  refine nsr ?_
  refine mv h8 rfl rfl fun a9 h9 => ?_
  refine mv h9 rfl rfl fun a10 h10 => ?_
  refine mv h10 rfl rfl fun a11 h11 => ?_
  refine sv h11 (ex_index (i := j) (sz := 1) Tryz.underlying53 (by kernel_rfl) (h11.ev rfl) (h11.ev rfl) (by omega) (by omega) rfl) fun a12 h12 => ?_
  refine sv h12 (ex_load (by kernel_rfl) (h12.ev rfl) ((rd_one (S5.rd0 hr) hlt) 0 _ rfl)) fun a13 h13 => ?_
  refine sv h13 (ex_eql (h13.ev rfl) (h13.ev rfl)) fun a14 h14 => ?_
  refine st_nil (go_then ?_)
  refine st_if (h14.ev rfl) (fun hc1 => ?_) (fun hc1 => ?_)
  ·
   refine st_seq (st_reg ?_)
   refine mv h14 rfl rfl fun a15 h15 => ?_
   refine ma h15 rfl rfl fun a16 h16 => ?_
   refine st_nil (go_then (wp_ret (ret_block (ret_then (ret_then (ret_block (ret_then ?_)))))))
   refine fin1 h16 rfl rfl ?_
   exact ⟨by rw [hF0.2, hd, ixI, if_pos (by simpa using hc1)], S5.below⟩
  ·
   refine wp_skip (go_block (go_then (st_reg ?_)))
   refine sv h14 (ex_add (h14.ev rfl) (h14.ev rfl) (by omega)) fun a17 h17 => ?_
   refine mv h17 rfl rfl fun a18 h18 => ?_
   refine st_nil (go_then ?_)
   exact ⟨j + 1, by omega, ⟨hlt, by rw [hF0.2, hd, ixI, if_neg (by simpa using hc1)]⟩, h18.re ⟨rfl, rfl, rfl, rfl, trivial⟩, S5⟩
 ·
  have hge : l.length ≤ j := by have := of_decide_eq_false hc0; omega
  refine wp_exit ?_
  refine go_exit_then ?_
  refine go_exit_then ?_
  refine go_exit ?_
  refine go_then (st_seq (st_reg ?_))
  refine ma h6 rfl rfl fun a19 h19 => ?_
  refine st_nil (go_then (wp_ret ?_))
  refine fin1 h19 rfl rfl ?_
  exact ⟨by rw [hF0.2, List.drop_of_length_le hge]; rfl, S5.below⟩
theorem Contains_any (l : List Int) (A : Option Addr) (c : Nat) (v : Int) (w : World) (hr : Rd w w.heap.size A (l.map (.int .i64))) (hl : l.length ≤ 1000) :
 Calls Tryz.prog 157 #[.slice A l.length c, .int .i64 v] w fun e w' => e = .returned (.bool (l.any fun x => x == v)) ∧ Below w.heap.size w w' := by
 refine st_enter (N := 9) Tryz.func157 rfl rfl rfl (fun a0 h0 => ?_)
 have S0 := St.init w
 refine st_seq (st_reg ?_)
 refine ma h0 rfl rfl fun a1 h1 => ?_
 refine nsr ?_
 refine mv h1 rfl rfl fun a2 h2 => ?_
 refine mv h2 rfl rfl fun a3 h3 => ?_
 refine sl_bel h3 (wn rfl) (ex_call (fun _ _ => by kernel_rfl) (h3.evs rfl) rfl) rfl rfl S0 (Index_any l A c v _ (S0.rd0 hr) hl) fun a4 X4 h4 S4 => ?_
 refine sv h4 (ex_geq (h4.ev rfl) (h4.ev rfl)) fun a5 h5 => ?_
 refine ma h5 rfl rfl fun a6 h6 => ?_
 refine st_nil (go_then (wp_ret ?_))
 refine fin1 h6 rfl rfl ?_
 exact ⟨by rw [← ixI_any l v 0], S4.below⟩
end Go.Proofs.YtcfdpfmchchkaaaGreatDoor
namespace Go.Proofs.YtcfdpfmchchkaaaGreatDoor
set_option linter.unusedVariables false
set_option linter.unusedSimpArgs false
set_option maxRecDepth 4000
open Go.RowKit Go.Sort
structure FolT (w : World) : Prop where
 cells : ∀ k : Nat, k < 6 → ∃ A c, w.cell? ⟨0, k, none⟩ = some (.slice A (folL k).length c) ∧ Rd w w.heap.size A ((folL k).map (.int .i64))
theorem FolT.below {w w' : World} (h : FolT w) (hb : Below w.heap.size w w') : FolT w' := ⟨fun k hk => by
 obtain ⟨A, c, h1, h2⟩ := h.cells k hk
 exact ⟨A, c, (hb.cell (p := ⟨0, k, none⟩) (block_lt_of_cell h1)).trans h1, h2.below' hb⟩⟩
structure KeptM (m : Nat) (w X : World) : Prop where
 size : w.heap.size ≤ X.heap.size
 block : ∀ b, b < w.heap.size → b ≠ m → X.heap[b]? = w.heap[b]?
theorem St.keptM {m : Nat} {w X : World} {L : List Ent} (h : St [m] w X L) : KeptM m w X := ⟨h.size, fun b hb hne => h.block b hb (by simpa using hne)⟩
theorem KeptM.cell {m : Nat} {w X : World} (h : KeptM m w X) (hm : ∃ es ck, w.heap[m]? = some (.map es ck)) {a : Addr} {v : Value} (hc : w.cell? a = some v) : X.cell? a = some v := by
 obtain ⟨es, ck, hm⟩ := hm
 have hlt := block_lt_of_cell hc
 refine (World.cell?_of_block (h.block _ hlt (fun e => ?_))).trans hc
 unfold World.cell? at hc
 rw [e, hm] at hc
 cases hc
theorem KeptM.rd {m : Nat} {w X : World} (h : KeptM m w X) (hm : ∃ es ck, w.heap[m]? = some (.map es ck)) {A : Option Addr} {xs : List Value} (hr : Rd w w.heap.size A xs) : Rd X X.heap.size A xs := fun j u hj => by
 obtain ⟨b, o, h1, h2, h3⟩ := hr j u hj
 exact ⟨b, o, h1, Nat.lt_of_lt_of_le h2 h.size, h.cell hm h3⟩
theorem KeptM.fol {m : Nat} {w X : World} (h : KeptM m w X) (hm : ∃ es ck, w.heap[m]? = some (.map es ck)) (hf : FolT w) : FolT X := ⟨fun k hk => by
 obtain ⟨A, c, h1, h2⟩ := hf.cells k hk
 exact ⟨A, c, h.cell hm h1, h.rd hm h2⟩⟩
structure FewE (x : Lge) : Prop where
 o : x.o.o.size ≤ 3100
 n : x.o.n.size ≤ 3100
 d : x.d.size ≤ 100000
def bfRB (l : List Rcd) (i : Nat) : Bool := match bfrL l i with
 | none => true
 | some y => match l[i]? with | none => true | some x => decide (y.l < x.l)
def chnF (g : Int → Option Chn) : Int → Option Value := fun t => (g t).map chnV
theorem chnF_put (g : Int → Option Chn) (t : Int) (c : Chn) : putF (chnF g) t (some (chnV c)) = chnF (updG g t c) := by
 funext s; unfold putF chnF updG; split <;> rfl
def chn0 : Chn := ⟨0, 0, 0⟩
theorem rcdE0_eq {l : List Rcd} {i : Nat} (hi : i < l.length) : rcdE0 l i l[i] = firstE [unl (inB l[i].l 1 2147483647) 2, unl ((i : Int) == 0 || bfRB l i) 9, entE l[i].e] := by
 have e : ((i : Int) == 0 || bfRB l i) = bfRB l i := by
  rcases Nat.eq_zero_or_pos i with h0 | h0
  · subst h0; rfl
  · rw [show ((i : Int) == 0) = false by rw [beq_eq_false_iff_ne]; omega]; rfl
 rw [e]
 unfold rcdE0 bfRB
 rw [List.getElem?_eq_getElem hi]
 cases bfrL l i <;> rfl
theorem fst_ok {l : List Rcd} {i : Nat} (hv : VldH l i) (hi : i < l.length) (h0 : rcdE0 l i l[i] = 0) : 1 ≤ fstL l ∧ fstL l ≤ 2147483647 := by
 rw [fstL_get (by omega)]
 rcases Nat.eq_zero_or_pos i with h | h
 · subst h
   unfold rcdE0 at h0
   rw [firstE_zero] at h0
   exact inB_true.1 ((unl_zero (by decide)).1 (h0 _ (.head _)))
 · have := hv.e0 h
   exact ⟨this.1, this.2.1⟩
theorem rcdC_own {h0 : Int} {g : Int → Option Chn} {x : Lge} (h : ((g x.t).isSome && ((g x.t).getD chn0).k != 4) = true) : rcdC h0 g x = ((g x.t).getD chn0, unl (x.p == ((g x.t).getD chn0).l) 14) := by
 unfold rcdC
 cases hg : g x.t with
 | none => rw [hg] at h; cases h
 | some c =>
  rw [hg] at h
  have hk : c.k ≠ 4 := by simpa using h
  simp only []
  rw [if_neg hk]; rfl
theorem rcdC_beg {h0 : Int} {g : Int → Option Chn} {x : Lge} (h : ((g x.t).isSome && ((g x.t).getD chn0).k != 4) = false) : rcdC h0 g x = begR h0 x (g x.t).isSome := by
 unfold rcdC
 cases hg : g x.t with
 | none => rfl
 | some c =>
  rw [hg] at h
  have hk : c.k = 4 := by simpa using h
  simp only []
  rw [if_pos hk]; rfl
theorem rcdC_kind {l : List Rcd} {i : Nat} (hv : VldH l i) (x : Lge) (h0 : (rcdC (fstL l) (chsH l i) x).2 = 0) (hk : (rcdC (fstL l) (chsH l i) x).1.k ≠ -1) : ∃ k : Nat, k < 6 ∧ (rcdC (fstL l) (chsH l i) x).1.k = (k : Int) := by
 have hbeg : ∀ b, (begR (fstL l) x b).2 = 0 → (begR (fstL l) x b).1.k ≠ -1 → ∃ k : Nat, k < 6 ∧ (begR (fstL l) x b).1.k = (k : Int) := fun b q0 qk => by
  obtain ⟨_, h1⟩ := begR_ok q0
  rw [h1] at qk ⊢
  simp only [] at qk ⊢
  split at qk
  · exact absurd rfl qk
  · rename_i hp; exact ⟨0, by decide, by rw [if_neg hp]; rfl⟩
 unfold rcdC at h0 hk ⊢
 have hc := chs_bfr i (by have := hv.1; omega) hv.2 x.t
 cases hg : chsH l i x.t with
 | none => rw [hg] at h0 hk; simp only [] at h0 hk ⊢; exact hbeg _ h0 hk
 | some c =>
  rw [hg] at h0 hk
  simp only [] at h0 hk ⊢
  split at h0
  · rename_i h4; rw [if_pos h4] at hk ⊢; exact hbeg _ h0 hk
  · rename_i h4
    rw [if_neg h4] at hk ⊢
    rw [hg] at hc
    cases hb : bfrH l x.t i with
    | none => rw [hb] at hc; cases hc
    | some k =>
     rw [hb] at hc
     obtain ⟨hki, y, hy, h5, ht⟩ := bfrH_lt hb
     have hkl : k < l.length := (List.getElem?_eq_some_iff.1 hy).1
     have e1 : c = chnH l k := by simpa using hc
     have e2 := entE_k (hv.e0 hki).2.2
     have e3 : c.k = l[k].e.k := by rw [e1]; exact kndH_get hkl
     refine ⟨c.k.toNat, ?_, ?_⟩ <;> (show _; rw [e3]; omega)
def e2E (c : Chn × Int) (x : Lge) : Int := firstE [c.2, if c.1.k = -1 then 0 else unl (folB c.1.k x.k) 20]
theorem rcdE1_eq (l : List Rcd) (i : Nat) (c : Chn × Int) (x : Lge) : rcdE1 l i c x = if e2E c x = 0 then (if x.k = 1 then undE l i c.1 x else 0) else e2E c x := by
 unfold rcdE1 e2E
 generalize (if c.1.k = -1 then 0 else unl (folB c.1.k x.k) 20) = b
 generalize (if x.k = 1 then undE l i c.1 x else 0) = d
 by_cases h1 : c.2 = 0 <;> by_cases h2 : b = 0 <;> simp [firstE, h1, h2] <;> (intro h; exact h.symm)
theorem folL_len (k : Int) : (folL k).length ≤ 1000 := by
 unfold folL; split <;> (try split) <;> (try split) <;> (try split) <;> decide
theorem firstE_0 (b : Int) : firstE [0, b] = b := by by_cases h : b = 0 <;> simp [firstE, h]
set_option maxHeartbeats 2000000 in
theorem rcdErr_any (l : List Rcd) (A : Option Addr) (c : Nat) (i : Nat) (m : Nat) (w : World) (hr : Rd w w.heap.size A (l.flatMap rcdL)) (hi : i < l.length) (hl : l.length ≤ 1000) (hc : l.length ≤ c) (hv : VldH l i)
 (hm : MapF w m (chnF (chsH l i))) (hF : FolT w) (hx : ∀ x ∈ l, FewE x.e) :
 Calls Tryz.prog 104 #[.slice A l.length c, .int .i64 i, .map (some m)] w fun e w' => ∃ g, e = .returned (.int .i64 (rcdE l i (chsH l i) l[i])) ∧ (rcdE l i (chsH l i) l[i] = 0 → g = chsH l (i + 1)) ∧ St [m] w w' [mapFE m (chnF g)] := by
 have hmm : ∃ es ck, w.heap[m]? = some (.map es ck) := by obtain ⟨es, ck, h1, _⟩ := hm; exact ⟨es, ck, h1⟩
 have hfe := hx _ (List.getElem_mem hi)
 obtain ⟨b', o', rfl, hB, _⟩ := hr.opened (flat_pos rcdL_len (by decide) (by omega))
 obtain ⟨RC, hRC⟩ : ∃ RC, RC = rcdC (fstL l) (chsH l i) l[i].e := ⟨_, rfl⟩
 have q9 := rcdE0_eq hi
 refine st_enter (N := 118) Tryz.func104 rfl rfl rfl (fun a0 h0 => ?_)
 have S0 := (St.initInv hm (fun b hb => ⟨by rw [hb]; exact List.mem_singleton.2 rfl, by rw [hb]; exact hm.lt⟩) : St [m] w w [mapFE m (chnF (chsH l i))])
 refine st_seq (st_reg ?_)
 refine ma h0 rfl rfl fun a1 h1 => ?_
 refine st_nil (go_then (st_seq ?_))
 apply dr_flow h1 [false, false, false, false, false, false, false, false, false, false, true, false] _ (by kernel_rfl)
 case h =>
  refine qv h1 (fun X hX => ex_move (h1.ev rfl)) fun a2 h2 => ?_
  refine qv h2 (fun X hX => ex_move (h2.ev rfl)) fun a3 h3 => ?_
  refine qv h3 (fun X hX => ex_index (i := i) (sz := 14) Tryz.underlying180 (by kernel_rfl) (h3.ev rfl) (h3.ev rfl) (by omega) (by omega) rfl) fun a4 h4 => ?_
  refine qv h4 (fun X hX => ex_field (off := 0) (by kernel_rfl) (h4.ev rfl) rfl) fun a5 h5 => ?_
  refine qv h5 (fun X hX => ex_load (by kernel_rfl) (h5.ev rfl) ((flatAt rcdL_len (((S0.grow hX).keptM).rd hmm hr) hi) 0 _ rfl)) fun a6 h6 => ?_
  refine qv h6 (fun X hX => ex_move (h6.ev rfl)) fun a7 h7 => ?_
  refine qv h7 (fun X hX => ex_move (h7.ev rfl)) fun a8 h8 => ?_
  refine qv h8 (fun X hX => ex_index (i := i) (sz := 14) Tryz.underlying180 (by kernel_rfl) (h8.ev rfl) (h8.ev rfl) (by omega) (by omega) rfl) fun a9 h9 => ?_
  refine qv h9 (fun X hX => ex_field (off := 1) (by kernel_rfl) (h9.ev rfl) rfl) fun a10 h10 => ?_
  refine qv (v := entV l[i].e) h10 (fun X hX => ex_loads (by kernel_rfl) (by kernel_rfl) (h10.ev rfl) (entAt (((S0.grow hX).keptM).rd hmm hr) hi)) fun a11 h11 => ?_
  refine qv h11 (fun X hX => ex_assign (h11.ev rfl)) fun a12 h12 => ?_
  refine sq_nil ?_
  apply nd_step (k := 10) (deps := []) (R := NewB _ (fun b => .pointer (some ⟨b, 0, none⟩)) _ _) h12 rfl rfl rfl NewB.stable (fun X hX hΦ => lv_new (ex_alloc (z := .agg #[.int .i64 0, .int .i64 0, .int .i64 0, .int .i64 0, .int .i64 0, .bool false, .int .i64 0, .int .i64 0, .int .i64 0, .int .i64 0, .string ⟨#[]⟩, .string ⟨#[]⟩, .string ⟨#[]⟩]) (by kernel_rfl)) hX.size)
  intro v8 a13 h13
  refine nd_end fun X14 hX14 hΦ14 => ?_
  have S14 := S0.grow hX14
  have qv8 := told_all hΦ14 (k := 10) rfl
  obtain ⟨b8, rfl, gb8, qv8⟩ := qv8
  have S15 := S0.add hX14 (e := .box _ _ _) qv8 (fun b hb => by cases hb; exact ⟨gb8, Box.lt qv8⟩)
  refine sl_store0 h13 (wn rfl) ⟨rfl, rfl⟩ (h13.ev rfl) (h13.ev rfl) rfl (by kernel_rfl) S15 (i := 0) rfl rfl rfl fun X16 S16 => ?_
  refine st_nil (go_then (st_seq ?_))
  apply dr_flow h13 [false, false, false, false, false, false, false, false, false, false, false, false, false, false, false, false, false, false] _ (by kernel_rfl)
  case h =>
   refine qv h13 (fun X hX => ex_move (h13.ev rfl)) fun a17 h17 => ?_
   refine sq_pure h17 (wn rfl) rfl rfl (fun X => (ex_call (fun _ _ => by kernel_rfl) (h17.evs rfl) rfl)) (fun X hX => recovery_within_any _ _ _ _) fun a18 h18 => ?_
   refine sq_pure h18 (wn rfl) rfl rfl (fun X => (ex_call (fun _ _ => by kernel_rfl) (h18.evs rfl) rfl)) (fun X hX => recovery_unless_any _ _ _) fun a19 h19 => ?_
   refine qv h19 (fun X hX => ex_move (h19.ev rfl)) fun a20 h20 => ?_
   refine qv h20 (fun X hX => ex_eql (h20.ev rfl) (h20.ev rfl)) fun a21 h21 => ?_
   refine qv h21 (fun X hX => ex_move (h21.ev rfl)) fun a22 h22 => ?_
   apply sq_or (x := bfRB l i) h22 27 rfl 10 37
   case hf =>
    intro gc27
    have hi0 : i ≠ 0 := by simp only [beq_eq_false_iff_ne] at gc27; omega
    have hi1 : i - 1 < l.length := by omega
    have hbf : bfrL l i = some l[i - 1] := by unfold bfrL; rw [if_neg hi0, List.getElem?_eq_getElem hi1]
    refine sq_val h22 (wanted_yes h22 _ rfl rfl rfl gc27) rfl rfl (fun X hX => (ex_move (h22.ev rfl))) fun a23 h23 => ?_
    refine sq_val h23 (wanted_yes h23 _ rfl rfl rfl gc27) rfl rfl (fun X hX => (ex_move (h23.ev rfl))) fun a24 h24 => ?_
    refine sq_val h24 (wanted_yes h24 _ rfl rfl rfl gc27) rfl rfl (fun X hX => (ex_sub (h24.ev rfl) (h24.ev rfl) (by omega))) fun a25 h25 => ?_
    refine sq_val h25 (wanted_yes h25 _ rfl rfl rfl gc27) rfl rfl (fun X hX => (ex_max (by kernel_rfl) (h25.ev rfl) (h25.ev rfl))) fun a26 h26 => ?_
    refine sq_val h26 (wanted_yes h26 _ rfl rfl rfl gc27) rfl rfl (fun X hX => (ex_index (i := i - 1) (sz := 14) Tryz.underlying180 (by kernel_rfl) (h26.ev rfl) (h26.ev rfl) (by omega) (by omega) rfl)) fun a27 h27 => ?_
    refine sq_val h27 (wanted_yes h27 _ rfl rfl rfl gc27) rfl rfl (fun X hX => (ex_field (off := 0) (by kernel_rfl) (h27.ev rfl) rfl)) fun a28 h28 => ?_
    refine sq_val h28 (wanted_yes h28 _ rfl rfl rfl gc27) rfl rfl (fun X hX => (ex_load (by kernel_rfl) (h28.ev rfl) ((flatAt rcdL_len (((S16.grow hX).keptM).rd hmm hr) hi1) 0 _ rfl))) fun a29 h29 => ?_
    refine sq_val h29 (wanted_yes h29 _ rfl rfl rfl gc27) rfl rfl (fun X hX => (ex_move (h29.ev rfl))) fun a30 h30 => ?_
    refine sq_val h30 (wanted_yes h30 _ rfl rfl rfl gc27) rfl rfl (fun X hX => (as_val (v' := .bool (bfRB l i)) (congrArg Value.bool (by unfold bfRB; rw [hbf, List.getElem?_eq_getElem hi])) (ex_lss (h30.ev rfl) (h30.ev rfl)))) fun a31 h31 => ?_
    refine qv h31 (fun X hX => ex_pick_f (h31.ev rfl) gc27 (h31.ev rfl)) fun a32 h32 => ?_
    exact sq_nil (h32.mid (m := [(_, _), (_, _), (_, _), (_, _), (_, _), (_, _), (_, _), (_, _), (_, _)]) rfl)
   case ht =>
    intro gc27
    refine qo h22 rfl rfl rfl gc27 rfl rfl fun a33 h33 => ?_
    refine qo h33 rfl rfl rfl gc27 rfl rfl fun a34 h34 => ?_
    refine qo h34 rfl rfl rfl gc27 rfl rfl fun a35 h35 => ?_
    refine qo h35 rfl rfl rfl gc27 rfl rfl fun a36 h36 => ?_
    refine qo h36 rfl rfl rfl gc27 rfl rfl fun a37 h37 => ?_
    refine qo h37 rfl rfl rfl gc27 rfl rfl fun a38 h38 => ?_
    refine qo h38 rfl rfl rfl gc27 rfl rfl fun a39 h39 => ?_
    refine qo h39 rfl rfl rfl gc27 rfl rfl fun a40 h40 => ?_
    refine qo h40 rfl rfl rfl gc27 rfl rfl fun a41 h41 => ?_
    refine qv h41 (fun X hX => ex_pick_t (h41.ev rfl) gc27 (h41.ev rfl)) fun a42 h42 => ?_
    exact sq_nil (h42.mid (m := [(_, _), (_, _), (_, _), (_, _), (_, _), (_, _), (_, _), (_, _), (_, _)]) rfl)
   case h =>
    intro a43 h43
    refine sq_pure h43 (wn rfl) rfl rfl (fun X => (ex_call (fun _ _ => by kernel_rfl) (h43.evs rfl) rfl)) (fun X hX => recovery_unless_any _ _ _) fun a44 h44 => ?_
    refine qv h44 (fun X hX => ex_loads (by kernel_rfl) (by kernel_rfl) (h44.ev rfl) ((S16.grow hX).cellsAll (i := 0) rfl)) fun a45 h45 => ?_
    refine sq_nil ?_
    refine nd_end fun X46 hX46 hΦ46 => ?_
    have S46 := S16.grow hX46
    refine sl_bel h45 (wn rfl) (ex_call (fun _ _ => by kernel_rfl) (h45.evs rfl) rfl) rfl rfl S46 (CheckEntry_any l[i].e _ hfe.o hfe.n (by have := hfe.d; unfold maxLen; omega)) fun a47 X47 h47 S47 => ?_
    refine sl_new h47 (wn rfl) (f := fun b => .slice (some ⟨b, 0, none⟩) 3 3) (ex_bslice Tryz.underlying214 (by kernel_rfl) (by kernel_rfl) (h47.evs2 rfl) rfl rfl rfl (by decide) (by decide)) rfl rfl S47 fun b41 a48 X48 gb41 h48 S48 => ?_
    refine sl_pure h48 (wn rfl) (ex_call (fun _ _ => by kernel_rfl) (h48.evs rfl) rfl) rfl rfl (recovery_first3 (S48.at_ (i := 0) rfl)) fun a49 h49 => ?_
    refine ma h49 rfl rfl fun a50 h50 => ?_
    refine st_nil (go_then (st_seq (wp_block (st_seq (st_reg ?_)))))
    refine mv h50 rfl rfl fun a51 h51 => ?_
    refine sv h51 (ex_neq (h51.ev rfl) (h51.ev rfl)) fun a52 h52 => ?_
    refine ma h52 rfl rfl fun a53 h53 => ?_
    refine st_nil (go_then ?_)
    refine st_if (h53.ev rfl) (fun hc0 => ?_) (fun hc0 => ?_)
    ·
     have q0 : rcdE0 l i l[i] ≠ 0 := by rw [q9]; simpa using hc0
     refine st_seq (st_reg ?_)
     refine mv h53 rfl rfl fun a54 h54 => ?_
     refine ma h54 rfl rfl fun a55 h55 => ?_
     refine st_nil (go_then (wp_ret (ret_block (ret_then ?_))))
     refine fin1 h55 rfl rfl ?_
     exact ⟨chsH l i, by unfold rcdE; rw [if_pos q0, q9], fun h => absurd h (by unfold rcdE; rw [if_pos q0]; exact q0), (S48.sub (.cons _ (.cons _ (.cons_cons _ .slnil))))⟩
    ·
     have q0 : rcdE0 l i l[i] = 0 := by rw [q9]; simpa using hc0
     have q0' : ¬ rcdE0 l i l[i] ≠ 0 := fun h => h q0
     have hfst := fst_ok hv hi q0
     refine st_seq (st_reg ?_)
     refine vf h53 0 0 rfl rfl rfl fun a56 h56 => ?_
     refine vl h56 S48 1 rfl rfl rfl rfl fun a57 h57 => ?_
     refine sv h57 (ex_eql (h57.ev rfl) (h57.ev rfl)) fun a58 h58 => ?_
     refine ma h58 rfl rfl fun a59 h59 => ?_
     refine st_nil (go_then ?_)
     refine st_if (h59.ev rfl) (fun hc1 => ?_) (fun hc1 => ?_)
     ·
      have q1 : l[i].e.k = 5 := by simpa using hc1
      refine st_seq (st_reg ?_)
      refine sv h59 (ex_loads (by kernel_rfl) (by kernel_rfl) (h59.ev rfl) (S48.cellsAll (i := 1) rfl)) fun a60 h60 => ?_
      refine sl_bel h60 (wn rfl) (ex_call (fun _ _ => by kernel_rfl) (h60.evs rfl) rfl) rfl rfl S48 (checkpointErr_any l[i].e _ hfe.d) fun a61 X61 h61 S61 => ?_
      refine ma h61 rfl rfl fun a62 h62 => ?_
      refine st_nil (go_then (wp_ret (ret_block (ret_then ?_))))
      refine fin1 h62 rfl rfl ?_
      exact ⟨chsH l i, by unfold rcdE; rw [if_neg q0', if_pos q1], fun _ => by rw [chsH_get hi, if_pos q1], (S61.sub (.cons _ (.cons _ (.cons_cons _ .slnil))))⟩
     ·
      have q1 : l[i].e.k ≠ 5 := by simpa using hc1
      refine st_seq (st_reg ?_)
      refine vf h59 1 1 rfl rfl rfl fun a63 h63 => ?_
      refine vl h63 S48 1 rfl rfl rfl rfl fun a64 h64 => ?_
      refine sv h64 (ex_eql (h64.ev rfl) (h64.ev rfl)) fun a65 h65 => ?_
      refine ma h65 rfl rfl fun a66 h66 => ?_
      refine st_nil (go_then ?_)
      refine st_if (h66.ev rfl) (fun hc2 => ?_) (fun hc2 => ?_)
      ·
       have q2 : l[i].e.t = 0 := by simpa using hc2
       refine st_seq (st_reg ?_)
       refine ma h66 rfl rfl fun a67 h67 => ?_
       refine st_nil (go_then (wp_ret (ret_block (ret_then ?_))))
       refine fin1 h67 rfl rfl ?_
       exact ⟨chsH l i, by unfold rcdE; rw [if_neg q0', if_neg q1, if_pos q2]; (try rfl), fun h => absurd h (by unfold rcdE; rw [if_neg q0', if_neg q1, if_pos q2]; decide), (S48.sub (.cons _ (.cons _ (.cons_cons _ .slnil))))⟩
      ·
       have q2 : l[i].e.t ≠ 0 := by simpa using hc2
       refine wp_skip (go_block (go_then (st_seq (st_reg ?_))))
       refine mv h66 rfl rfl fun a68 h68 => ?_
       refine vf h68 1 1 rfl rfl rfl fun a69 h69 => ?_
       refine vl h69 S48 1 rfl rfl rfl rfl fun a70 h70 => ?_
       refine sv h70 (as_val (v' := .tuple #[chnV ((chsH l i l[i].e.t).getD chn0), .bool (chsH l i l[i].e.t).isSome]) (by unfold chnF; cases chsH l i l[i].e.t <;> rfl) (ex_look2 (z := .agg #[.int .i64 0, .int .i64 0, .int .i64 0]) Tryz.underlying178 Tryz.underlying3 (by kernel_rfl) (h70.ev rfl) (h70.ev rfl) (S48.at_ (i := 2) rfl))) fun a71 h71 => ?_
       refine mv h71 rfl rfl fun a72 h72 => ?_
       refine vx h72 rfl rfl rfl fun a73 h73 => ?_
       refine vx h73 rfl rfl rfl fun a74 h74 => ?_
       refine na (.agg #[.int .i64 0, .int .i64 0, .int .i64 0]) h74 rfl S48 fun b10 a75 X75 gb10 h75 S75 => ?_
       refine sl_store0 h75 (wn rfl) ⟨rfl, rfl⟩ (h75.ev rfl) (h75.ev rfl) rfl (by kernel_rfl) S75 (i := 0) rfl rfl rfl fun X76 S76 => ?_
       refine ma h75 rfl rfl fun a77 h77 => ?_
       refine st_nil (go_then (st_seq (st_seq (st_reg ?_))))
       refine mv h77 rfl rfl fun a78 h78 => ?_
       refine mv h78 rfl rfl fun a79 h79 => ?_
       apply sl_and (x := ((chsH l i l[i].e.t).getD chn0).k != 4) h79 S76 65 rfl 4 69
       case ht =>
        intro gc65
        refine sy h79 rfl rfl rfl gc65 (ex_field (off := 1) (j := 1) (by kernel_rfl) (h79.ev rfl) rfl) rfl rfl fun a80 h80 => ?_
        refine sy h80 rfl rfl rfl gc65 (ex_load (by kernel_rfl) (h80.ev rfl) (S76.cell (i := 0) rfl rfl)) rfl rfl fun a81 h81 => ?_
        refine sy h81 rfl rfl rfl gc65 (ex_neq (h81.ev rfl) (h81.ev rfl)) rfl rfl fun a82 h82 => ?_
        refine sv h82 (ex_pick_t (h82.ev rfl) gc65 (h82.ev rfl)) fun a83 h83 => ?_
        exact st_nil ⟨h83.mid (m := [(_, _), (_, _), (_, _)]) rfl, S76⟩
       case hf =>
        intro gc65
        refine no h79 rfl rfl rfl gc65 rfl rfl fun a84 h84 => ?_
        refine no h84 rfl rfl rfl gc65 rfl rfl fun a85 h85 => ?_
        refine no h85 rfl rfl rfl gc65 rfl rfl fun a86 h86 => ?_
        refine sv h86 (ex_pick_f (h86.ev rfl) gc65 (h86.ev rfl)) fun a87 h87 => ?_
        exact st_nil ⟨h87.mid (m := [(_, _), (_, _), (_, _)]) rfl, S76⟩
       case h =>
        rintro a88 X88 ⟨h88, S88⟩
        refine st_nil (go_then ?_)
        refine st_joinE (F := True) h88 S88 [(9, .int .i64 RC.2)] [10, 8, 7, 6, 0, 1, 2] (fun L => L.set 0 (.box b10 (chnV RC.1).cells 250)) ?_ (fun a89 X89 h89 S89 hjT => ?_)
        ·
         refine st_if (h88.ev rfl) (fun hc3 => ?_) (fun hc3 => ?_)
         ·
          have eRC : RC = ((chsH l i l[i].e.t).getD chn0, unl (l[i].e.p == ((chsH l i l[i].e.t).getD chn0).l) 14) := by rw [hRC]; exact rcdC_own hc3
          refine st_reg ?_
          refine vf h88 2 2 rfl rfl rfl fun a90 h90 => ?_
          refine vl h90 S88 2 rfl rfl rfl rfl fun a91 h91 => ?_
          refine vf h91 0 0 rfl rfl rfl fun a92 h92 => ?_
          refine vl h92 S88 0 rfl rfl rfl rfl fun a93 h93 => ?_
          refine sv h93 (ex_eql (h93.ev rfl) (h93.ev rfl)) fun a94 h94 => ?_
          refine sl_pure h94 (wn rfl) (ex_call (fun _ _ => by kernel_rfl) (h94.evs rfl) rfl) rfl rfl (recovery_unless_any _ _ _) fun a95 h95 => ?_
          refine ma h95 rfl rfl fun a96 h96 => ?_
          refine st_nil (go_then ?_)
          have hjT := trivial
          rw [show unl (l[i].e.p == ((chsH l i l[i].e.t).getD chn0).l) 14 = RC.2 by rw [eRC]] at h96
          rw [show (chsH l i l[i].e.t).getD chn0 = RC.1 by rw [eRC]] at S88
          exact ⟨h96.re ⟨rfl, rfl, rfl, rfl, rfl, rfl, rfl, rfl, trivial⟩, S88, hjT⟩
         ·
          have eRC : RC = begR (fstL l) l[i].e (chsH l i l[i].e.t).isSome := by rw [hRC]; exact rcdC_beg hc3
          refine st_reg ?_
          refine mv h88 rfl rfl fun a97 h97 => ?_
          refine sv h97 (ex_loads (by kernel_rfl) (by kernel_rfl) (h97.ev rfl) (S88.cellsAll (i := 2) rfl)) fun a98 h98 => ?_
          refine mv h98 rfl rfl fun a99 h99 => ?_
          refine sl_bel h99 (wn rfl) (ex_call (fun _ _ => by kernel_rfl) (h99.evs rfl) rfl) rfl rfl S88 (begin_any l _ c l[i].e _ _ ((S88.keptM).rd hmm hr) (by omega) hfst) fun a100 X100 h100 S100 => ?_
          refine mv h100 rfl rfl fun a101 h101 => ?_
          refine sv (v := chnV (begR (fstL l) l[i].e (chsH l i l[i].e.t).isSome).1) h101 (ex_extract (h101.ev rfl) rfl) fun a102 h102 => ?_
          refine vx h102 rfl rfl rfl fun a103 h103 => ?_
          refine sl_store0 h103 (wn rfl) ⟨rfl, rfl⟩ (h103.ev rfl) (h103.ev rfl) rfl (by kernel_rfl) S100 (i := 0) rfl rfl rfl fun X104 S104 => ?_
          refine ma h103 rfl rfl fun a105 h105 => ?_
          refine st_nil (go_then ?_)
          have hjT := trivial
          rw [← eRC] at h105 S104
          exact ⟨h105.re ⟨rfl, rfl, rfl, rfl, rfl, rfl, rfl, rfl, trivial⟩, S104, hjT⟩
        ·
         obtain ⟨E2, hE2⟩ : ∃ E2 : Int, E2 = e2E RC l[i].e := ⟨_, rfl⟩
         obtain ⟨E3, hE3⟩ : ∃ E3 : Int, E3 = rcdE1 l i RC l[i].e := ⟨_, rfl⟩
         have h23 := rcdE1_eq l i RC l[i].e
         rw [← hE2, ← hE3] at h23
         refine go_then (st_seq (st_seq (st_reg ?_)))
         refine mv h89 rfl rfl fun a106 h106 => ?_
         refine sv h106 (ex_eql (h106.ev rfl) (h106.ev rfl)) fun a107 h107 => ?_
         refine mv h107 rfl rfl fun a108 h108 => ?_
         apply sl_and (x := RC.1.k != -1) h108 S89 85 rfl 4 89
         case ht =>
          intro gc85
          refine sy h108 rfl rfl rfl gc85 (ex_field (off := 1) (j := 1) (by kernel_rfl) (h108.ev rfl) rfl) rfl rfl fun a109 h109 => ?_
          refine sy h109 rfl rfl rfl gc85 (ex_load (by kernel_rfl) (h109.ev rfl) (S89.cell (i := 0) rfl rfl)) rfl rfl fun a110 h110 => ?_
          refine sy h110 rfl rfl rfl gc85 (ex_neq (h110.ev rfl) (h110.ev rfl)) rfl rfl fun a111 h111 => ?_
          refine sv h111 (ex_pick_t (h111.ev rfl) gc85 (h111.ev rfl)) fun a112 h112 => ?_
          exact st_nil ⟨h112.mid (m := [(_, _), (_, _), (_, _)]) rfl, S89⟩
         case hf =>
          intro gc85
          refine no h108 rfl rfl rfl gc85 rfl rfl fun a113 h113 => ?_
          refine no h113 rfl rfl rfl gc85 rfl rfl fun a114 h114 => ?_
          refine no h114 rfl rfl rfl gc85 rfl rfl fun a115 h115 => ?_
          refine sv h115 (ex_pick_f (h115.ev rfl) gc85 (h115.ev rfl)) fun a116 h116 => ?_
          exact st_nil ⟨h116.mid (m := [(_, _), (_, _), (_, _)]) rfl, S89⟩
         case h =>
          rintro a117 X117 ⟨h117, S117⟩
          refine st_nil (go_then ?_)
          refine st_joinH h117 S117 [(9, .int .i64 E2)] [10, 8, 7, 6, 0, 1, 2] ?_ (fun a118 X118 h118 S118 => ?_)
          ·
           refine st_if (h117.ev rfl) (fun hc4 => ?_) (fun hc4 => ?_)
           ·
            obtain ⟨r0, r1⟩ := Bool.and_eq_true_iff.1 hc4
            have r0 : RC.2 = 0 := by simpa using r0
            have r1 : RC.1.k ≠ -1 := by simpa using r1
            obtain ⟨k, hk6, hk1⟩ : ∃ k : Nat, k < 6 ∧ RC.1.k = (k : Int) := by
             have := rcdC_kind hv l[i].e
             rw [← hRC] at this
             exact this r0 r1
            obtain ⟨Af, cf, hfc, hfr⟩ := hF.cells k hk6
            apply dr_flow h117 [false, false, false, false, false, false] _ (by kernel_rfl)
            case h =>
             refine qv h117 (fun X hX => ex_field (off := 1) (j := 1) (by kernel_rfl) (h117.ev rfl) rfl) fun a119 h119 => ?_
             refine qv h119 (fun X hX => ex_load (by kernel_rfl) (h119.ev rfl) ((S117.grow hX).cell (i := 0) rfl rfl)) fun a120 h120 => ?_
             refine qv h120 (fun X hX => ex_aindex (i := k) (sz := 1) (j := k) Tryz.underlying255 (by kernel_rfl) (h120.ev rfl) (h120.ev rfl) hk1 hk6 (by omega)) fun a121 h121 => ?_
             refine qv h121 (fun X hX => ex_load (by kernel_rfl) (h121.ev rfl) (((S117.grow hX).keptM).cell hmm hfc)) fun a122 h122 => ?_
             refine qv h122 (fun X hX => ex_field (off := 0) (j := 0) (by kernel_rfl) (h122.ev rfl) rfl) fun a123 h123 => ?_
             refine qv h123 (fun X hX => ex_load (by kernel_rfl) (h123.ev rfl) ((S117.grow hX).cell (i := 2) rfl rfl)) fun a124 h124 => ?_
             refine sq_nil ?_
             refine nd_end fun X125 hX125 hΦ125 => ?_
             have S125 := S117.grow hX125
             refine sl_bel h124 (wn rfl) (ex_call (fun _ _ => by kernel_rfl) (h124.evs rfl) rfl) rfl rfl S125 (Contains_any (folL k) Af cf l[i].e.k _ ((S125.keptM).rd hmm hfr) (folL_len _)) fun a126 X126 h126 S126 => ?_
             refine sl_pure h126 (wn rfl) (ex_call (fun _ _ => by kernel_rfl) (h126.evs rfl) rfl) rfl rfl (recovery_unless_any _ _ _) fun a127 h127 => ?_
             refine ma h127 rfl rfl fun a128 h128 => ?_
             refine st_nil (go_then ?_)
             rw [show unl ((folL k).any fun x => x == l[i].e.k) 20 = E2 by rw [hE2]; unfold e2E; rw [r0, if_neg r1, hk1, firstE_0]; rfl] at h128
             exact ⟨h128.re ⟨rfl, rfl, rfl, rfl, rfl, rfl, rfl, rfl, trivial⟩, S126⟩
            case hB => kernel_rfl
            case hst => rfl
           ·
            refine wp_skip (go_then ?_)
            rw [show RC.2 = E2 by
             rw [hE2]; unfold e2E
             rcases Bool.and_eq_false_iff.1 hc4 with r0 | r1
             · have r0 : RC.2 ≠ 0 := by simpa using r0
               simp [firstE, r0]
             · have r1 : RC.1.k = -1 := by simpa using r1
               rw [if_pos r1]
               by_cases r2 : RC.2 = 0 <;> simp [firstE, r2]] at h117
            exact ⟨h117.re ⟨rfl, rfl, rfl, rfl, rfl, rfl, rfl, rfl, trivial⟩, S117⟩
          ·
           refine go_then (st_seq (st_seq (st_reg ?_)))
           refine mv h118 rfl rfl fun a129 h129 => ?_
           refine sv h129 (ex_eql (h129.ev rfl) (h129.ev rfl)) fun a130 h130 => ?_
           refine mv h130 rfl rfl fun a131 h131 => ?_
           apply sl_and (x := l[i].e.k == 1) h131 S118 100 rfl 4 104
           case ht =>
            intro gc100
            refine sy h131 rfl rfl rfl gc100 (ex_field (off := 0) (j := 0) (by kernel_rfl) (h131.ev rfl) rfl) rfl rfl fun a132 h132 => ?_
            refine sy h132 rfl rfl rfl gc100 (ex_load (by kernel_rfl) (h132.ev rfl) (S118.cell (i := 2) rfl rfl)) rfl rfl fun a133 h133 => ?_
            refine sy h133 rfl rfl rfl gc100 (ex_eql (h133.ev rfl) (h133.ev rfl)) rfl rfl fun a134 h134 => ?_
            refine sv h134 (ex_pick_t (h134.ev rfl) gc100 (h134.ev rfl)) fun a135 h135 => ?_
            exact st_nil ⟨h135.mid (m := [(_, _), (_, _), (_, _)]) rfl, S118⟩
           case hf =>
            intro gc100
            refine no h131 rfl rfl rfl gc100 rfl rfl fun a136 h136 => ?_
            refine no h136 rfl rfl rfl gc100 rfl rfl fun a137 h137 => ?_
            refine no h137 rfl rfl rfl gc100 rfl rfl fun a138 h138 => ?_
            refine sv h138 (ex_pick_f (h138.ev rfl) gc100 (h138.ev rfl)) fun a139 h139 => ?_
            exact st_nil ⟨h139.mid (m := [(_, _), (_, _), (_, _)]) rfl, S118⟩
           case h =>
            rintro a140 X140 ⟨h140, S140⟩
            refine st_nil (go_then ?_)
            refine st_joinH h140 S140 [(9, .int .i64 E3)] [10, 8, 7, 6, 2] ?_ (fun a141 X141 h141 S141 => ?_)
            ·
             refine st_if (h140.ev rfl) (fun hc5 => ?_) (fun hc5 => ?_)
             ·
              refine st_reg ?_
              refine mv h140 rfl rfl fun a142 h142 => ?_
              refine mv h142 rfl rfl fun a143 h143 => ?_
              refine sv (v := chnV RC.1) h143 (ex_loads (by kernel_rfl) (by kernel_rfl) (h143.ev rfl) (S140.cellsAll (i := 0) rfl)) fun a144 h144 => ?_
              refine sv (v := entV l[i].e) h144 (ex_loads (by kernel_rfl) (by kernel_rfl) (h144.ev rfl) (S140.cellsAll (i := 2) rfl)) fun a145 h145 => ?_
              refine sl_bel h145 (wn rfl) (ex_call (fun _ _ => by kernel_rfl) (h145.evs rfl) rfl) rfl rfl S140 (undoes_any l _ c i RC.1 l[i].e _ ((S140.keptM).rd hmm hr) hi hl hc hv hfst) fun a146 X146 h146 S146 => ?_
              refine ma h146 rfl rfl fun a147 h147 => ?_
              refine st_nil (go_then ?_)
              rw [show undE l i RC.1 l[i].e = E3 by
               obtain ⟨r0, r1⟩ := Bool.and_eq_true_iff.1 hc5
               rw [h23, if_pos (by simpa using r0), if_pos (by simpa using r1)]] at h147
              exact ⟨h147.re ⟨rfl, rfl, rfl, rfl, rfl, rfl, trivial⟩, S146⟩
             ·
              refine wp_skip (go_then ?_)
              rw [show E2 = E3 by
               rw [h23]
               rcases Bool.and_eq_false_iff.1 hc5 with r0 | r1
               · rw [if_neg (by simpa using r0)]
               · rw [if_neg (show ¬ l[i].e.k = 1 by simpa using r1)]
                 split
                 · assumption
                 · rfl] at h140
              exact ⟨h140.re ⟨rfl, rfl, rfl, rfl, rfl, rfl, trivial⟩, S140⟩
            ·
             refine go_then (st_seq ?_)
             apply dr_flow h141 [false, false, false, false, false, false, false] _ (by kernel_rfl)
             case h =>
              refine qv h141 (fun X hX => ex_move (h141.ev rfl)) fun a148 h148 => ?_
              refine qv h148 (fun X hX => ex_field (off := 1) (j := 1) (by kernel_rfl) (h148.ev rfl) rfl) fun a149 h149 => ?_
              refine qv h149 (fun X hX => ex_load (by kernel_rfl) (h149.ev rfl) ((S141.grow hX).cell (i := 2) rfl rfl)) fun a150 h150 => ?_
              refine qv (v := chnV RC.1) h150 (fun X hX => ex_loads (by kernel_rfl) (by kernel_rfl) (h150.ev rfl) ((S141.grow hX).cellsAll (i := 0) rfl)) fun a151 h151 => ?_
              refine qv h151 (fun X hX => ex_move (h151.ev rfl)) fun a152 h152 => ?_
              refine qv (v := entV l[i].e) h152 (fun X hX => ex_loads (by kernel_rfl) (by kernel_rfl) (h152.ev rfl) ((S141.grow hX).cellsAll (i := 2) rfl)) fun a153 h153 => ?_
              refine sq_bel h153 (wn rfl) rfl rfl (fun X => (ex_call (fun _ _ => by kernel_rfl) (h153.evs rfl) rfl)) (fun X hX => after_any RC.1 l[i].l l[i].e _) fun a154 h154 => ?_
              refine sq_nil ?_
              refine nd_end fun X155 hX155 hΦ155 => ?_
              have S155 := S141.grow hX155
              refine sl_mapput (wn rfl) ⟨rfl, rfl⟩ Tryz.underlying178 Tryz.underlying3 (h154.ev rfl) (h154.ev rfl) (h154.ev rfl) S155 (i := 3) rfl fun X156 S156 => ?_
              refine nsr ?_
              refine mv h154 rfl rfl fun a157 h157 => ?_
              refine ma h157 rfl rfl fun a158 h158 => ?_
              refine st_nil (go_then (wp_ret ?_))
              refine fin1 h158 rfl rfl ?_
              refine ⟨updG (chsH l i) l[i].e.t (aftC RC.1 l[i].l l[i].e), by unfold rcdE; rw [if_neg q0', if_neg q1, if_neg q2, ← hRC, ← hE3], fun _ => by rw [chsH_get hi, if_neg q1, hRC], ?_⟩
              rw [← chnF_put]
              exact (S156.sub (.cons _ (.cons _ (.cons _ (.cons_cons _ .slnil)))))
             case hB => kernel_rfl
             case hst => rfl
  case hB => kernel_rfl
  case hst => rfl
 case hB => kernel_rfl
 case hst => rfl
end Go.Proofs.YtcfdpfmchchkaaaGreatDoor
namespace Go.Proofs.YtcfdpfmchchkaaaGreatDoor
set_option linter.unusedVariables false
set_option linter.unusedSimpArgs false
set_option maxRecDepth 4000
open Go.RowKit Go.Sort
theorem KeptM.box {m : Nat} {w X : World} (h : KeptM m w X) (hm : ∃ es ck, w.heap[m]? = some (.map es ck)) {b : Nat} {cs : Array Value} {T : TypeId} (hb : Box w b cs T) : Box X b cs T := by
 obtain ⟨es, ck, hm⟩ := hm
 refine (h.block b hb.lt (fun e => ?_)).trans hb
 have hb' : w.heap[b]? = some (.cells cs T (0, 0)) := hb
 rw [e, hm] at hb'
 cases hb'
structure ChkR (l : List Rcd) (A : Option Addr) (c b1 b4 m : Nat) (w : World) : Prop where
 hr : Rd w w.heap.size A (l.flatMap rcdL)
 hb1 : Box w b1 #[.slice A l.length c] 41
 hb4 : Box w b4 #[.map (some m)] 178
 hF : FolT w
theorem ChkR.kept {l : List Rcd} {A : Option Addr} {c b1 b4 m : Nat} {w X : World} (h : ChkR l A c b1 b4 m w) (hm : ∃ es ck, w.heap[m]? = some (.map es ck)) (hk : KeptM m w X) : ChkR l A c b1 b4 m X :=
 ⟨hk.rd hm h.hr, hk.box hm h.hb1, hk.box hm h.hb4, hk.fol hm h.hF⟩
theorem MapF.ex {m : Nat} {w : World} {g : Int → Option Value} (h : MapF w m g) : ∃ es ck, w.heap[m]? = some (.map es ck) := by obtain ⟨es, ck, h1, _⟩ := h; exact ⟨es, ck, h1⟩
theorem hchk1_any (l : List Rcd) (A : Option Addr) (c : Nat) (i : Nat) (b1 b4 m : Nat) (w : World) (hR : ChkR l A c b1 b4 m w) (hi : i < l.length) (hl : l.length ≤ 1000) (hc : l.length ≤ c) (hv : VldH l i) (hm : MapF w m (chnF (chsH l i))) (hx : ∀ x ∈ l, FewE x.e) :
 Calls Tryz.prog 103 #[.int .i64 i, rcdV l[i], .pointer (some ⟨b1, 0, none⟩), .pointer (some ⟨b4, 0, none⟩)] w fun e w' => ∃ g, e = .returned (.int .i64 (rcdE l i (chsH l i) l[i])) ∧ (rcdE l i (chsH l i) l[i] = 0 → g = chsH l (i + 1)) ∧ St [m] w w' [mapFE m (chnF g)] := by
 refine st_enter (N := 11) Tryz.func103 rfl rfl rfl (fun a0 h0 => ?_)
 have S0 := (St.initInv hm (fun b hb => ⟨by rw [hb]; exact List.mem_singleton.2 rfl, by rw [hb]; exact hm.lt⟩) : St [m] w w [mapFE m (chnF (chsH l i))])
 have hmm := hm.ex
 refine st_seq (st_reg ?_)
 refine nb h0 rfl rfl S0 fun b5 a1 X1 gb5 h1 S1 => ?_
 refine ma h1 rfl rfl fun a2 h2 => ?_
 refine nsr ?_
 refine sv h2 (ex_load (by kernel_rfl) (h2.ev rfl) (((S1.keptM).box hmm hR.hb1).cells 0)) fun a3 h3 => ?_
 refine mv h3 rfl rfl fun a4 h4 => ?_
 refine sv h4 (ex_load (by kernel_rfl) (h4.ev rfl) (((S1.keptM).box hmm hR.hb4).cells 0)) fun a5 h5 => ?_
 refine sl_updx h5 (wn rfl) (ex_call (fun _ _ => by kernel_rfl) (h5.evs rfl) rfl) rfl rfl S1 (i := 1) rfl (fun b hb => List.mem_singleton.1 hb) (rcdErr_any l A c i m _ ((S1.keptM).rd hmm hR.hr) hi hl hc hv (S1.at_ (i := 1) rfl) ((S1.keptM).fol hmm hR.hF) hx) fun p10 a6 X6 h6 hF10 S6 => ?_
 refine ma h6 rfl rfl fun a7 h7 => ?_
 refine st_nil (go_then (wp_ret ?_))
 refine fin1 h7 rfl rfl ?_
 exact ⟨p10, rfl, hF10, (S6.sub (.cons _ (.cons_cons _ .slnil)))⟩
theorem eachC_any (l : List Rcd) (A : Option Addr) (c : Nat) (b1 b4 m : Nat) (w : World) (hR : ChkR l A c b1 b4 m w) (hl : l.length ≤ 1000) (hc : l.length ≤ c) (hm : MapF w m (chnF (chsH l 0))) (hx : ∀ x ∈ l, FewE x.e) :
 Calls Tryz.prog 102 #[.slice A l.length c, .func (.func 103) #[] #[.pointer (some ⟨b1, 0, none⟩), .pointer (some ⟨b4, 0, none⟩)]] w fun e w' => ∃ g : Int → Option Chn, e = .returned (.tuple #[.int .i64 (eachE (fun i x => rcdE l i (chsH l i) x) 0 l).1, .int .i64 (eachE (fun i x => rcdE l i (chsH l i) x) 0 l).2]) ∧ True ∧ St [m] w w' [mapFE m (chnF g)] := by
 have hmm := hm.ex
 refine st_enter (N := 25) Tryz.func102 rfl rfl rfl (fun a0 h0 => ?_)
 have S0 := (St.initInv hm (fun b hb => ⟨by rw [hb]; exact List.mem_singleton.2 rfl, by rw [hb]; exact hm.lt⟩) : St [m] w w [mapFE m (chnF (chsH l 0))])
 refine st_seq (st_reg ?_)
 refine ma h0 rfl rfl fun a1 h1 => ?_
 refine ma h1 rfl rfl fun a2 h2 => ?_
 refine st_nil (go_then (st_seq (st_seq (st_reg ?_))))
 refine mv h2 rfl rfl fun a3 h3 => ?_
 refine sv h3 (ex_len Tryz.underlying41 (h3.ev rfl)) fun a4 h4 => ?_
 refine mv h4 rfl rfl fun a5 h5 => ?_
 refine st_nil (go_then (wp_block ?_))
 refine st_loop h5 S0 [10, 9, 1] (fun (j : Nat) => [(11, .int .i64 j)]) (fun (j : Nat) => j ≤ l.length ∧ ∀ k (hk : k < l.length), k < j → rcdE l k (chsH l k) l[k] = 0) (fun j L => L.set 0 (mapFE m (chnF (chsH l j)))) (fun (j : Nat) => l.length - j) (0) (⟨Nat.zero_le _, fun k _ h => by omega⟩) ⟨rfl, rfl, rfl, rfl, trivial⟩ (S0) ?_
 intro j a6 X6 hF0 h6 S6
 refine st_seq (st_reg ?_)
 refine sv h6 (ex_lss (h6.ev rfl) (h6.ev rfl)) fun a7 h7 => ?_
 refine st_nil (go_then (st_seq ?_))
 refine st_if (h7.ev rfl) (fun hc0 => ?_) (fun hc0 => ?_)
 ·
  have hlt : j < l.length := by have := of_decide_eq_true hc0; omega
  obtain ⟨b, o, rfl, hB, _⟩ := hR.hr.opened (flat_pos rcdL_len (by decide) (by omega))
  have hvj : VldH l j := ⟨hF0.1, hF0.2⟩
  refine wp_skip (go_then (st_seq (wp_block (st_seq (st_reg ?_)))))
  refine mv h7 rfl rfl fun a8 h8 => ?_
  refine sv h8 (ex_index (i := j) (sz := 14) Tryz.underlying41 (by kernel_rfl) (h8.ev rfl) (h8.ev rfl) (by omega) (by omega) rfl) fun a9 h9 => ?_
  refine sv (v := rcdV l[j]) h9 (ex_loads (by kernel_rfl) (by kernel_rfl) (h9.ev rfl) (flatAt rcdL_len ((S6.keptM).rd hmm hR.hr) hlt)) fun a10 h10 => ?_
  refine na (.agg #[.int .i64 0, .int .i64 0, .int .i64 0, .int .i64 0, .int .i64 0, .int .i64 0, .bool false, .int .i64 0, .int .i64 0, .int .i64 0, .int .i64 0, .string ⟨#[]⟩, .string ⟨#[]⟩, .string ⟨#[]⟩]) h10 rfl S6 fun b7 a11 X11 gb7 h11 S11 => ?_
  refine ma h11 rfl rfl fun a12 h12 => ?_
  refine sl_store0 h12 (wn rfl) ⟨rfl, rfl⟩ (h12.ev rfl) (h12.ev rfl) rfl (by kernel_rfl) S11 (i := 0) rfl rfl rfl fun X13 S13 => ?_
  refine nsr ?_
  refine mv h12 rfl rfl fun a14 h14 => ?_
  refine mv h14 rfl rfl fun a15 h15 => ?_
  refine sv (v := rcdV l[j]) h15 (ex_loads (by kernel_rfl) (by kernel_rfl) (h15.ev rfl) (S13.cellsAll (i := 0) rfl)) fun a16 h16 => ?_
  refine sl_updx h16 (wn rfl) (ex_callv (fun _ _ => by kernel_rfl) (h16.ev rfl) (h16.evs rfl) rfl) rfl rfl S13 (i := 1) rfl (fun b hb => List.mem_singleton.1 hb) (hchk1_any l _ c j b1 b4 m _ (hR.kept hmm S13.keptM) hlt hl hc hvj (S13.at_ (i := 1) rfl) hx) fun p19 a17 X17 h17 hF19 S17 => ?_
  refine ma h17 rfl rfl fun a18 h18 => ?_
  refine nsr ?_
  refine mv h18 rfl rfl fun a19 h19 => ?_
  refine sv h19 (ex_neq (h19.ev rfl) (h19.ev rfl)) fun a20 h20 => ?_
  refine st_nil (go_then ?_)
  refine st_if (h20.ev rfl) (fun hc1 => ?_) (fun hc1 => ?_)
  ·
   refine st_seq (st_reg ?_)
   refine mv h20 rfl rfl fun a21 h21 => ?_
   refine mv h21 rfl rfl fun a22 h22 => ?_
   refine ma h22 rfl rfl fun a23 h23 => ?_
   refine ma h23 rfl rfl fun a24 h24 => ?_
   refine st_nil (go_then (wp_ret (ret_block (ret_then (ret_then (ret_block (ret_then ?_)))))))
   refine fin2 h24 rfl rfl rfl ?_
   have r1 : rcdE l j (chsH l j) l[j] ≠ 0 := by simpa using hc1
   have r2 := eachE_hit (fun i x => rcdE l i (chsH l i) x) l 0 j hlt (fun k hk h => by rw [Nat.zero_add]; exact hF0.2 k hk h) (by rw [Nat.zero_add]; exact r1)
   exact ⟨p19, by rw [r2]; simp only [Nat.zero_add], trivial, (S17.sub (.cons _ (.cons_cons _ .slnil)))⟩
  ·
   refine wp_skip (go_block (go_then (st_reg ?_)))
   refine sv h20 (ex_add (h20.ev rfl) (h20.ev rfl) (by omega)) fun a25 h25 => ?_
   refine mv h25 rfl rfl fun a26 h26 => ?_
   refine st_nil (go_then ?_)
   exact ⟨j + 1, by omega, ⟨hlt, fun k hk h => (Nat.lt_or_ge k j).elim (fun q => hF0.2 k hk q) (fun q => by (obtain rfl : k = j := by omega); simpa using hc1)⟩, h26.re ⟨rfl, rfl, rfl, rfl, trivial⟩, (hF19 (by simpa using hc1) ▸ (S17.sub (.cons _ (.cons_cons _ .slnil))))⟩
 ·
  have hge : l.length ≤ j := by have := of_decide_eq_false hc0; omega
  refine wp_exit ?_
  refine go_exit_then ?_
  refine go_exit_then ?_
  refine go_exit ?_
  refine go_then (st_seq (st_reg ?_))
  refine ma h7 rfl rfl fun a27 h27 => ?_
  refine ma h27 rfl rfl fun a28 h28 => ?_
  refine st_nil (go_then (wp_ret ?_))
  refine fin2 h28 rfl rfl rfl ?_
  exact ⟨chsH l j, by rw [eachE_none (fun i x => rcdE l i (chsH l i) x) l 0 (fun k hk => by rw [Nat.zero_add]; exact hF0.2 k hk (by omega))], trivial, (S6.sub (.cons_cons _ .slnil))⟩
theorem CheckHistory_any (l : List Rcd) (A : Option Addr) (c : Nat) (w : World) (hr : Rd w w.heap.size A (l.flatMap rcdL)) (hl : l.length ≤ 1000) (hc : l.length ≤ c) (hF : FolT w) (hx : ∀ x ∈ l, FewE x.e) :
 Calls Tryz.prog 42 #[.slice A l.length c] w fun e w' => e = .returned (.tuple #[.int .i64 (chkH l).1, .int .i64 (chkH l).2]) ∧ Below w.heap.size w w' := by
 refine st_enter (N := 14) Tryz.func42 rfl rfl rfl (fun a0 h0 => ?_)
 have S0 := St.init w
 refine st_seq (st_reg ?_)
 refine nb h0 rfl rfl S0 fun b1 a1 X1 gb1 h1 S1 => ?_
 refine ma h1 rfl rfl fun a2 h2 => ?_
 refine ma h2 rfl rfl fun a3 h3 => ?_
 refine st_nil (go_then (st_seq (st_seq (st_reg ?_))))
 refine vl h3 S1 0 rfl rfl rfl rfl fun a4 h4 => ?_
 refine sv h4 (ex_len Tryz.underlying41 (h4.ev rfl)) fun a5 h5 => ?_
 refine sv h5 (ex_gtr (h5.ev rfl) (h5.ev rfl)) fun a6 h6 => ?_
 refine st_nil (go_then ?_)
 refine st_if (h6.ev rfl) (fun hc0 => ?_) (fun hc0 => ?_)
 ·
  have r0 : 100 < l.length := by have := of_decide_eq_true hc0; omega
  refine st_seq (st_reg ?_)
  refine ma h6 rfl rfl fun a7 h7 => ?_
  refine ma h7 rfl rfl fun a8 h8 => ?_
  refine st_nil (go_then (wp_ret (ret_then ?_)))
  refine fin2 h8 rfl rfl rfl ?_
  exact ⟨by unfold chkH; rw [if_pos r0]; (try rfl), S1.below⟩
 ·
  have r0 : ¬ 100 < l.length := by have := of_decide_eq_false hc0; omega
  refine wp_skip (go_then (st_seq (st_reg ?_)))
  refine sl_mkmapF h6 (wn rfl) rfl rfl rfl S1 fun m8 a9 X9 hm8 h9 S9 => ?_
  refine na (.map none) h9 rfl S9 fun b4 a10 X10 gb4 h10 S10 => ?_
  refine sl_store0 h10 (wn rfl) ⟨rfl, rfl⟩ (h10.ev rfl) (h10.ev rfl) rfl (by kernel_rfl) S10 (i := 0) rfl rfl rfl fun X11 S11 => ?_
  refine nsr ?_
  refine vl h10 S11 2 rfl rfl rfl rfl fun a12 h12 => ?_
  refine sv h12 (ex_func (h12.evs rfl) (h12.evs rfl)) fun a13 h13 => ?_
  refine sl_updx h13 (wn rfl) (ex_call (fun _ _ => by kernel_rfl) (h13.evs rfl) rfl) rfl rfl S11 (i := 1) rfl (fun b hb => List.mem_singleton.1 hb) (eachC_any l A c b1 b4 m8 _ ⟨S11.rd0 hr, S11.at_ (i := 2) rfl, S11.at_ (i := 0) rfl, hF.below S11.below⟩ hl hc (S11.at_ (i := 1) rfl) hx) fun p11 a14 X14 h14 hF11 S14 => ?_
  refine vx h14 rfl rfl rfl fun a15 h15 => ?_
  refine vx h15 rfl rfl rfl fun a16 h16 => ?_
  refine ma h16 rfl rfl fun a17 h17 => ?_
  refine ma h17 rfl rfl fun a18 h18 => ?_
  refine st_nil (go_then (wp_ret ?_))
  refine fin2 h18 rfl rfl rfl ?_
  exact ⟨by unfold chkH; rw [if_neg r0]; (try rfl), S14.below⟩
theorem historyErr_any (l : List Rcd) (A : Option Addr) (c : Nat) (w : World) (hr : Rd w w.heap.size A (l.flatMap rcdL)) (hl : l.length ≤ 1000) (hc : l.length ≤ c) (hF : FolT w) (hx : ∀ x ∈ l, FewE x.e) :
 Calls Tryz.prog 77 #[.slice A l.length c] w fun e w' => e = .returned (.int .i64 (chkH l).2) ∧ Below w.heap.size w w' := by
 refine st_enter (N := 11) Tryz.func77 rfl rfl rfl (fun a0 h0 => ?_)
 have S0 := St.init w
 refine st_seq (st_reg ?_)
 refine ma h0 rfl rfl fun a1 h1 => ?_
 refine nsr ?_
 refine mv h1 rfl rfl fun a2 h2 => ?_
 refine sl_bel h2 (wn rfl) (ex_call (fun _ _ => by kernel_rfl) (h2.evs rfl) rfl) rfl rfl S0 (CheckHistory_any l A c _ (S0.rd0 hr) hl hc (hF.below S0.below) hx) fun a3 X3 h3 S3 => ?_
 refine mv h3 rfl rfl fun a4 h4 => ?_
 refine vx h4 rfl rfl rfl fun a5 h5 => ?_
 refine vx h5 rfl rfl rfl fun a6 h6 => ?_
 refine ma h6 rfl rfl fun a7 h7 => ?_
 refine ma h7 rfl rfl fun a8 h8 => ?_
 refine nsr ?_
 refine mv h8 rfl rfl fun a9 h9 => ?_
 refine ma h9 rfl rfl fun a10 h10 => ?_
 refine st_nil (go_then (wp_ret ?_))
 refine fin1 h10 rfl rfl ?_
 exact ⟨rfl, S3.below⟩
end Go.Proofs.YtcfdpfmchchkaaaGreatDoor
namespace Go.Proofs.YtcfdpfmchchkaaaGreatDoor
set_option linter.unusedVariables false
set_option linter.unusedSimpArgs false
open Go.RowKit Go.Sort
variable {ds : List Deferred}
def NewT (B : Nat) (T : TypeId) (b : Nat) (o : Option Obj) : Prop := B ≤ b ∧ ∃ cs fr, o = some (.cells cs T fr)
def stsM (B : Nat) (oc : List (Nat × (Nat → Prop))) (news : List (Nat × TypeId)) : List StK := oc.map (fun p => (p.1, (fun b _ => p.2 b), Keeps 0)) ++ news.map (fun p => (p.1, NewT B p.2, fun _ _ => True))
theorem all1 {α : Type} {φ : α → Prop} {a : α} (h : φ a) : ∀ p ∈ [a], φ p := fun p hp => by rw [List.mem_singleton.1 hp]; exact h
theorem all0 {α : Type} {φ : α → Prop} : ∀ p ∈ ([] : List α), φ p := fun p hp => by cases hp
theorem mem_stsM {B : Nat} {oc : List (Nat × (Nat → Prop))} {news : List (Nat × TypeId)} {p : StK} (h : p ∈ stsM B oc news) : (∃ q ∈ oc, p = (q.1, (fun b _ => q.2 b), Keeps 0)) ∨ ∃ q ∈ news, p = (q.1, NewT B q.2, fun _ _ => True) := by
 unfold stsM at h
 rcases List.mem_append.1 h with h | h
 · obtain ⟨q, h1, h2⟩ := List.mem_map.1 h; exact .inl ⟨q, h1, h2.symm⟩
 · obtain ⟨q, h1, h2⟩ := List.mem_map.1 h; exact .inr ⟨q, h1, h2.symm⟩
theorem Grw.conv {O O' : Nat → Option Obj → Prop} {w X : World} (h : Grw O w X) (hO : ∀ b, b < w.heap.size → O b w.heap[b]? → O' b w.heap[b]?) : Grw O' w X :=
 ⟨h.os, h.tape, h.output, h.size, fun b hb hne => h.block b hb (fun ho => hne (hO b hb ho)), h.shape⟩
section
variable {P : Program} {ops : Array Oper} {Q : Exit → Act → World → Prop} {w : World} {tail : List Oper} {l : List (Nat × Value)} {o : Oper} {a : Act} {N d : Nat} {O : Nat → Prop} {oc : List (Nat × (Nat → Prop))} {news : List (Nat × TypeId)}
theorem oall_M {B : Nat} (hB : B = w.heap.size) (hO : ∀ p ∈ oc, ∀ b, p.2 b → O b) {X : World} (h : Grw (OallK (stsM B oc news)) w X) : Grw (fun b _ => O b) w X := h.conv fun b hb ⟨p, hp, hpo⟩ => by
 rcases mem_stsM hp with ⟨q, h1, rfl⟩ | ⟨q, h1, rfl⟩
 · exact hO q h1 b hpo
 · have h2 : B ≤ b := hpo.1; omega
theorem ooth_M {k B : Nat} (hB : B = w.heap.size) (hO : ∀ p ∈ oc, ∀ b, p.2 b → O b) {X : World} (h : Grw (OothK (stsM B oc news) k) w X) : Grw (fun b _ => O b) w X :=
 oall_M hB hO (news := news) (h.conv fun b _ ⟨p, hp, _, hpo⟩ => ⟨p, hp, hpo⟩)
theorem an_flowM {N : Nat} {a : Act} {w : World} {l : List Oper} {sl : List (Nat × Value)} (ha : Has ds a N sl) (O : Nat → Prop) (oc : List (Nat × (Nat → Prop))) (news : List (Nat × TypeId)) (fl : List Bool) (nds : List NdB) (hO : ∀ p ∈ oc, ∀ b, p.2 b → O b)
 (h : wpC P l.toArray (Grw (fun b _ => O b) w) (fun g => wpNK P l.toArray (stsM w.heap.size oc news) w Q (l.drop fl.length) nds g []) (pick fl l) a)
 (hB : flowBK l.toArray fl fl.length N (nds.map fun d => (d.k, d.deps)) = true) :
 Drawn P l Q a w := by
 obtain ⟨afin, h1, h2⟩ := wpC_take _ _ h
 exact an_flowK0 (stsM w.heap.size oc news) fl nds (by rw [ha.size]; exact hB) ⟨afin, wpC_anti (fun X hX => oall_M rfl hO hX) _ _ h1, h2⟩
theorem dr_flowM {id N : Nat} {a : Act} {w : World} {l : List Oper} {sl : List (Nat × Value)} (ha : Has ds a N sl) (O : Nat → Prop) (oc : List (Nat × (Nat → Prop))) (news : List (Nat × TypeId)) (fl : List Bool) (nds : List NdB) (hm : P.follows .mixedOrders = true) (hO : ∀ p ∈ oc, ∀ b, p.2 b → O b)
 (h : wpC P l.toArray (Grw (fun b _ => O b) w) (fun g => wpNK P l.toArray (stsM w.heap.size oc news) w Q (l.drop fl.length) nds g []) (pick fl l) a)
 (hB : flowBK l.toArray fl fl.length N (nds.map fun d => (d.k, d.deps)) = true) :
 (Code.region id l.toArray true).wp P Q a w := wp_region_any hm (an_flowM ha O oc news fl nds hO h hB)
theorem leaves_RK {sts : List StK} {k : Nat} {R : Value → World → Prop} {X : World} {r : Result Next} (h : LeavesR P R X r) : LeavesK P sts k R X r := by
 cases r with
 | ok nx w' =>
  cases nx <;> simp only [LeavesR] at h <;> simp only [LeavesK]
  case value u => exact ⟨.inl h.1, h.2⟩
  case enter f args => exact ⟨h.1, h.2.mono fun e X'' ⟨v, h1, h2, h3⟩ => ⟨v, h1, .inl h2, h3⟩⟩
 | halt x w' => simp only [LeavesR] at h
theorem nm_step {nds : List NdB} {k : Nat} {deps : List Nat} {R : Value → World → Prop} {Φ : List (Nat × (World → Prop))} (ha : Has ds a N l) (ho : ops[k]? = some o) (hd : o.dst = some d) (hN : Nat.blt d N = true) (hO : ∀ p ∈ oc, ∀ b, p.2 b → O b)
 (hst : ∀ v X X', R v X → Below X.heap.size X X' → R v X') (hst2 : ∀ p ∈ oc, ∀ v X X', R v X → Kp p.2 0 X X' → R v X') (hst3 : ∀ p ∈ news, ∀ v X X', R v X → Grw (NewT w.heap.size p.2) X X' → R v X') (hx : ∀ X, Grw (fun b _ => O b) w X → told deps Φ X → LeavesR P R X ((execOp a.eval o).run P X))
 (k' : ∀ v a', Has ds a' N ((d, v) :: l) → wpNK P ops (stsM w.heap.size oc news) w Q tail nds a' ((k, R v) :: Φ)) : wpNK P ops (stsM w.heap.size oc news) w Q tail (⟨k, deps, fun _ => R⟩ :: nds) a Φ := by
 refine ⟨⟨fun v X X' => hst v X X', fun p hp _ _ v X X' hR hX => ?_, fun _ _ _ _ h => h⟩, fun o' ho' X hX hE hΦ => ?_, fun v => ?_⟩
 · rcases mem_stsM hp with ⟨q, h1, rfl⟩ | ⟨q, h1, rfl⟩
   · exact hst2 q h1 v X X' hR hX
   · exact hst3 q h1 v X X' hR hX.1
 · rw [ho] at ho'; cases ho'
   exact leaves_RK (hx X (ooth_M rfl hO hX) hΦ)
 · have e : dstAt ops k = some d := by unfold dstAt; rw [ho]; exact hd
   show wpNK P ops (stsM w.heap.size oc news) w Q tail nds (a.put (dstAt ops k) v) _
   rw [e]
   exact k' v _ (ha.put hN v)
def IsRow (v : Value) (T : TypeId) (sz n : Nat) (xs : List Value) (_ : Value) (X : World) : Prop := X.ownsRow 0 T sz v n xs
theorem IsRow.stable {v : Value} {T : TypeId} {sz n : Nat} {xs : List Value} (u : Value) (X X' : World) (h : IsRow v T sz n xs u X) (hb : Below X.heap.size X X') : IsRow v T sz n xs u X' := row_stable h hb
def NewAny (B n : Nat) (T : TypeId) (v : Value) (X : World) : Prop := ∃ b, v = .pointer (some ⟨b, 0, none⟩) ∧ B ≤ b ∧ ∃ cs, Box X b cs T ∧ cs.size = n
theorem NewAny.stable {B n : Nat} {T : TypeId} (v : Value) (X X' : World) (h : NewAny B n T v X) (hb : Below X.heap.size X X') : NewAny B n T v X' := by
 obtain ⟨b, h1, h2, cs, h3, h4⟩ := h; exact ⟨b, h1, h2, cs, h3.below hb, h4⟩
theorem NewAny.newT {B n B' : Nat} {T T' : TypeId} (v : Value) (X X' : World) (h : NewAny B n T v X) (hX : Grw (NewT B' T') X X') : NewAny B n T v X' := by
 obtain ⟨b, h1, h2, cs, h3, h4⟩ := h
 obtain ⟨cs', h5, h6⟩ := hX.shape b cs T (0, 0) h3
 exact ⟨b, h1, h2, cs', h6, by rw [h5]; exact h4⟩
theorem NewB.newT {B B' : Nat} {f : Nat → Value} {cs : Array Value} {T T' : TypeId} (hT : T ≠ T') (v : Value) (X X' : World) (h : NewB B f cs T v X) (hX : Grw (NewT B' T') X X') : NewB B f cs T v X' := by
 obtain ⟨b, h1, h2, h3⟩ := h
 refine ⟨b, h1, h2, (hX.block b h3.lt ?_).trans h3⟩
 rintro ⟨_, cs', fr, e⟩
 rw [show X.heap[b]? = some (.cells cs T (0, 0)) from h3] at e
 injection e with e; injection e with _ e; exact hT e
theorem lv_any {X : World} {B n : Nat} {cs : Array Value} {T : TypeId} {r : Result Next} (hx : r = .ok (.value (.pointer (some ⟨X.heap.size, 0, none⟩))) (X.alloc (.cells cs T))) (hB : B ≤ X.heap.size) (hn : cs.size = n) : LeavesR P (NewAny B n T) X r := by
 subst hx
 exact ⟨bel_alloc (Below.refl _ _) _, X.heap.size, rfl, hB, cs, Box.new X cs T, hn⟩
def StoY (B : Nat) (T : TypeId) (x : Nat) (Y : Act → Value → Prop) (g : Act) (_ : Value) (X : World) : Prop := ∃ b, g.tmps[x]? = some (.pointer (some ⟨b, 0, none⟩)) ∧ B ≤ b ∧ ∃ v, Y g v ∧ Box X b v.cells T
def slotY (y : Nat) (g : Act) (v : Value) : Prop := g.tmps[y]? = some v
def valY (u : Value) (_ : Act) (v : Value) : Prop := v = u
theorem nm_store {nds : List NdB} {k kx x y : Nat} {T : TypeId} {Y : Act → Value → Prop} {deps : List Nat} {Φ : List (Nat × (World → Prop))} (ha : Has ds a N l) (ho : ops[k]? = some o) (hop : o.op = .store T (.tmp x) (.tmp y) ∧ o.dst = none) (hk : news = [(k, T)]) (hO : ∀ p ∈ oc, ∀ b, p.2 b → b < w.heap.size)
 (hdx : deps.contains kx = true ∧ dstAt ops kx = some x) {vx vy : Value} (hYa : Y a vy) (hYg : ∀ g' v, (∀ j ∈ deps, ∀ t, dstAt ops j = some t → g'.tmps[t]? = a.tmps[t]?) → Y a v → Y g' v) (hvx : look l x = some vx) (hvy : look l y = some vy) {n : Nat} (hs : (P.info? T).map (·.size) = some n) (hin : ∀ q ∈ oc, q.1 ∉ deps)
 (hx : ∀ X, Grw (fun b _ => ∃ p ∈ oc, p.2 b) w X → told deps Φ X → NewAny w.heap.size n T vx X ∧ vy.cells.size = n ∧ vy.cells.toList.all (·.oneCell') = true)
 (k' : ∀ v, wpNK P ops (stsM w.heap.size oc news) w Q tail nds a ((k, StoY w.heap.size T x Y a v) :: Φ)) : wpNK P ops (stsM w.heap.size oc news) w Q tail (⟨k, deps, StoY w.heap.size T x Y⟩ :: nds) a Φ := by
 refine ⟨⟨fun v X X' ⟨b, h1, h2, u, h3, h4⟩ hb => ⟨b, h1, h2, u, h3, h4.below hb⟩, fun p hp hne _ v X X' ⟨b, h1, h2, u, h3, h4⟩ hX => ?_, fun g' v X hg ⟨b, h1, h2, u, h3, h4⟩ => ?_⟩, fun o' ho' X hX hE hΦ => ?_, fun v => ?_⟩
 · rcases mem_stsM hp with ⟨q, q1, rfl⟩ | ⟨q, q1, rfl⟩
   · exact ⟨b, h1, h2, u, h3, (hX.1.block b h4.lt (fun h => by have := hO q q1 b h; omega)).trans h4⟩
   · rw [hk] at q1; rw [List.mem_singleton.1 q1] at hne; exact absurd rfl hne
 · exact ⟨b, (hg kx (List.contains_iff_mem.1 hdx.1) x hdx.2).trans h1, h2, u, hYg g' u hg h3, h4⟩
 · rw [ho] at ho'; cases ho'
   obtain ⟨⟨b, rfl, h2, cs, h3, h4⟩, h5, h6⟩ := hx X (by
    refine hX.conv fun b hb ⟨p, hp, _, hpo⟩ => ?_
    rcases mem_stsM hp with ⟨q, q1, rfl⟩ | ⟨q, q1, rfl⟩
    · exact ⟨q, q1, hpo⟩
    · have h2 : w.heap.size ≤ b := hpo.1; omega) hΦ
   have hl := lv_store0 (P := P) (ρ := a.eval) (o := o) (ty := T) (X := X) hop.1 (ha.ev (o := .tmp x) hvx) (ha.ev (o := .tmp y) hvy) rfl (by rw [hs]; simp [h5]) h3 h6 (by rw [show vy.cells.toList.length = cs.toList.length by simp [h4, h5]]; exact Nat.beq_refl _)
   have hmem : (k, NewT w.heap.size T, fun _ _ => True) ∈ stsM w.heap.size oc news := by unfold stsM; rw [hk]; exact List.mem_append_right _ (List.mem_singleton.2 rfl)
   have hcv : ∀ X', Kp (fun k' => k' = b) 0 X X' → EffK (stsM w.heap.size oc news) k X X' := fun X' hK => .inr ⟨_, hmem, rfl, hK.1.conv fun b' hb' e => by
    have e' : b' = b := e
    subst e'
    exact ⟨h2, cs, (0, 0), h3⟩, trivial⟩
   have hR : ∀ u X', IsBox b T vy.cells.toList.toArray u X' → StoY w.heap.size T x Y a u X' := fun u X' hB => ⟨b, ha.slot x _ hvx, h2, vy, hYa, by simpa [IsBox] using hB⟩
   generalize (execOp a.eval o).run P X = r at hl
   cases r with
   | halt e X' => simp only [LeavesA] at hl
   | ok nx X' =>
    cases nx <;> simp only [LeavesA] at hl <;> simp only [LeavesK]
    case value u => exact ⟨hcv _ hl.1, hR _ _ hl.2⟩
    case skip => exact ⟨hcv _ hl.1, hR _ _ hl.2⟩
    case enter f args => exact ⟨hl.1, hl.2.mono fun e X'' ⟨v, g1, g2, g3⟩ => ⟨v, g1, hcv _ g2, hR _ _ g3⟩⟩
 · have e : dstAt ops k = none := by unfold dstAt; rw [ho]; exact hop.2
   show wpNK P ops (stsM w.heap.size oc news) w Q tail nds (a.put (dstAt ops k) v) _
   rw [e]
   exact k' v
theorem nm_end {Φ : List (Nat × (World → Prop))} (hO : ∀ p ∈ oc, ∀ b, p.2 b → O b) (h : ∀ X, Grw (fun b _ => O b) w X → toldAll Φ X → wpList P ops Q tail a X) : wpNK P ops (stsM w.heap.size oc news) w Q tail [] a Φ := fun X hX hΦ => h X (oall_M rfl hO hX) hΦ
theorem valY_dep {deps : List Nat} {u : Value} : ∀ g' v, (∀ j ∈ deps, ∀ t, dstAt ops j = some t → g'.tmps[t]? = a.tmps[t]?) → valY u a v → valY u g' v := fun g' v hg h => h
theorem StoY.slot {B : Nat} {T : TypeId} {x y : Nat} {v vx vy : Value} {X : World} (ha : Has ds a N l) (hx : look l x = some vx) (hy : look l y = some vy) (h : StoY B T x (slotY y) a v X) : ∃ b, vx = .pointer (some ⟨b, 0, none⟩) ∧ B ≤ b ∧ Box X b vy.cells T := by
 obtain ⟨b, h1, h2, u, h3, h4⟩ := h
 have e1 := (ha.slot x _ hx).symm.trans h1
 have e2 := (ha.slot y _ hy).symm.trans h3
 injection e1 with e1
 injection e2 with e2
 exact ⟨b, e1, h2, by rw [e2]; exact h4⟩
theorem StoY.val {B : Nat} {T : TypeId} {x : Nat} {v vx u : Value} {X : World} (ha : Has ds a N l) (hx : look l x = some vx) (h : StoY B T x (valY u) a v X) : ∃ b, vx = .pointer (some ⟨b, 0, none⟩) ∧ B ≤ b ∧ Box X b u.cells T := by
 obtain ⟨b, h1, h2, u', h3, h4⟩ := h
 have e1 := (ha.slot x _ hx).symm.trans h1
 injection e1 with e1
 exact ⟨b, e1, h2, by rw [show u' = u from h3] at h4; exact h4⟩
theorem IsVal.newT {u : Value} {B : Nat} {T : TypeId} (v : Value) (X X' : World) (h : IsVal u v X) (_ : Grw (NewT B T) X X') : IsVal u v X' := h
theorem PairU.newT {ι : Type} {V : ι → Value} {F : ι → Prop} {B : Nat} {T : TypeId} (v : Value) (X X' : World) (h : PairU V F v X) (_ : Grw (NewT B T) X X') : PairU V F v X' := h
theorem ExtU0.newT {ι : Type} {V : ι → Value} {F : ι → Prop} {B : Nat} {T : TypeId} (v : Value) (X X' : World) (h : ExtU0 V F v X) (_ : Grw (NewT B T) X X') : ExtU0 V F v X' := h
theorem ExtU1.newT {ι : Type} {V : ι → Value} {F : ι → Prop} {B : Nat} {T : TypeId} (v : Value) (X X' : World) (h : ExtU1 V F v X) (_ : Grw (NewT B T) X X') : ExtU1 V F v X' := h
def MovS (src : Nat) (g : Act) (v : Value) (_ : World) : Prop := g.tmps[src]? = some v
def ExtS (src i : Nat) (g : Act) (v : Value) (_ : World) : Prop := ∃ vs, g.tmps[src]? = some (.tuple vs) ∧ vs[i]? = some v
theorem MovS.get {src : Nat} {u v : Value} {X : World} (ha : Has ds a N l) (hu : look l src = some u) (h : MovS src a v X) : v = u := by
 have := (ha.slot src _ hu).symm.trans h
 injection this with this; exact this.symm
theorem ExtS.get {src i : Nat} {vs : Array Value} {v y : Value} {X : World} (ha : Has ds a N l) (hu : look l src = some (.tuple vs)) (hi : vs[i]? = some y) (h : ExtS src i a v X) : v = y := by
 obtain ⟨us, h1, h2⟩ := h
 have := (ha.slot src _ hu).symm.trans h1
 injection this with this
 injection this with this
 rw [← this, hi] at h2
 exact (Option.some.inj h2).symm
theorem nm_link {nds : List NdB} {k : Nat} {deps : List Nat} {R : Act → Value → World → Prop} {Φ : List (Nat × (World → Prop))} (ha : Has ds a N l) (ho : ops[k]? = some o) (hd : o.dst = some d) (hN : Nat.blt d N = true)
 (hR : ∀ g v X X', R g v X → R g v X') (hdep : ∀ g' v X, (∀ j ∈ deps, ∀ t, dstAt ops j = some t → g'.tmps[t]? = a.tmps[t]?) → R a v X → R g' v X) (hx : ∀ X, told deps Φ X → ∃ v, (execOp a.eval o).run P X = .ok (.value v) X ∧ R a v X)
 (k' : ∀ v a', Has ds a' N ((d, v) :: l) → wpNK P ops (stsM w.heap.size oc news) w Q tail nds a' ((k, R a v) :: Φ)) : wpNK P ops (stsM w.heap.size oc news) w Q tail (⟨k, deps, R⟩ :: nds) a Φ := by
 refine ⟨⟨fun v X X' h _ => hR a v X X' h, fun p hp _ _ v X X' h _ => hR a v X X' h, hdep⟩, fun o' ho' X hX hE hΦ => ?_, fun v => ?_⟩
 · rw [ho] at ho'; cases ho'
   obtain ⟨v, h1, h2⟩ := hx X hΦ
   rw [h1]
   exact ⟨.inl (Below.refl _ _), h2⟩
 · have e : dstAt ops k = some d := by unfold dstAt; rw [ho]; exact hd
   show wpNK P ops (stsM w.heap.size oc news) w Q tail nds (a.put (dstAt ops k) v) _
   rw [e]
   exact k' v _ (ha.put hN v)
theorem nm_mov {nds : List NdB} {k kx src : Nat} {deps : List Nat} {Φ : List (Nat × (World → Prop))} (ha : Has ds a N l) (ho : ops[k]? = some o) (hop : o.op = .move (.tmp src) ∨ o.op = .assign (.tmp src)) (hd : o.dst = some d) (hN : Nat.blt d N = true) (hdx : deps.contains kx = true ∧ dstAt ops kx = some src) {u : Value} (hu : look l src = some u)
 (k' : ∀ v a', Has ds a' N ((d, v) :: l) → wpNK P ops (stsM w.heap.size oc news) w Q tail nds a' ((k, MovS src a v) :: Φ)) : wpNK P ops (stsM w.heap.size oc news) w Q tail (⟨k, deps, MovS src⟩ :: nds) a Φ :=
 nm_link ha ho hd hN (fun _ _ _ _ h => h) (fun g' v X hg h => (hg kx (List.contains_iff_mem.1 hdx.1) src hdx.2).trans h) (fun X _ => ⟨u, by
  have hev : a.eval (.tmp src) = u := ha.ev (o := .tmp src) hu
  unfold execOp
  rcases hop with h | h <;> simp [h, hev], ha.slot src _ hu⟩) k'
theorem nm_ext {nds : List NdB} {k kx src i : Nat} {deps : List Nat} {Φ : List (Nat × (World → Prop))} (ha : Has ds a N l) (ho : ops[k]? = some o) (hop : o.op = .extract (.tmp src) i) (hd : o.dst = some d) (hN : Nat.blt d N = true) (hdx : deps.contains kx = true ∧ dstAt ops kx = some src) {u : Value} (hu : look l src = some u)
 (hx : ∀ X, told deps Φ X → ∃ vs y, u = .tuple vs ∧ vs[i]? = some y)
 (k' : ∀ v a', Has ds a' N ((d, v) :: l) → wpNK P ops (stsM w.heap.size oc news) w Q tail nds a' ((k, ExtS src i a v) :: Φ)) : wpNK P ops (stsM w.heap.size oc news) w Q tail (⟨k, deps, ExtS src i⟩ :: nds) a Φ :=
 nm_link ha ho hd hN (fun _ _ _ _ h => h) (fun g' v X hg ⟨vs, h, h2⟩ => ⟨vs, (hg kx (List.contains_iff_mem.1 hdx.1) src hdx.2).trans h, h2⟩) (fun X hΦ => by
  obtain ⟨vs, y, h1, h2⟩ := hx X hΦ
  subst h1
  have hev : a.eval (.tmp src) = .tuple vs := ha.ev (o := .tmp src) hu
  refine ⟨y, ?_, vs, ha.slot src _ hu, h2⟩
  unfold execOp
  simp [hop, hev, Instr.extract, h2]) k'
def BoxY (b : Nat) (T : TypeId) (y : Nat) (g : Act) (_ : Value) (X : World) : Prop := ∃ u, g.tmps[y]? = some u ∧ Box X b u.cells T
theorem BoxY.get {b : Nat} {T : TypeId} {y : Nat} {v vy : Value} {X : World} (ha : Has ds a N l) (hy : look l y = some vy) (h : BoxY b T y a v X) : Box X b vy.cells T := by
 obtain ⟨u, h1, h2⟩ := h
 have := (ha.slot y _ hy).symm.trans h1
 injection this with this
 rw [this]; exact h2
def RowU (V : Option Addr → Nat → Value) (B : Nat) (T : TypeId) (sz n : Nat) (xs : List Value) (v : Value) (X : World) : Prop := ∃ A c, v = V A c ∧ X.ownsRow B T sz (.slice A n c) n xs
theorem RowU.stable {V : Option Addr → Nat → Value} {B : Nat} {T : TypeId} {sz n : Nat} {xs : List Value} (v : Value) (X X' : World) (h : RowU V B T sz n xs v X) (hb : Below X.heap.size X X') : RowU V B T sz n xs v X' := by
 obtain ⟨A, c, h1, h2⟩ := h; exact ⟨A, c, h1, row_stable h2 hb⟩
theorem RowU.newT {V : Option Addr → Nat → Value} {B B' : Nat} {T T' : TypeId} {sz n : Nat} {xs : List Value} (hT : T ≠ T') (v : Value) (X X' : World) (h : RowU V B T sz n xs v X) (hX : Grw (NewT B' T') X X') : RowU V B T sz n xs v X' := by
 obtain ⟨A, c, h1, h2, h3⟩ := h
 refine ⟨A, c, h1, h2, ?_⟩
 rcases h3 with h3 | ⟨g, cap, cur, e1, e2, e3, e4⟩
 · exact .inl h3
 · refine .inr ⟨g, cap, cur, e1, e2, (hX.block g (Array.getElem?_eq_some_iff.1 e3).1 ?_).trans e3, e4⟩
   rintro ⟨_, cs, fr, e⟩
   rw [e3] at e
   injection e with e; injection e with _ e; exact hT e
theorem lv_ownt {V : Option Addr → Nat → Value} {f : FuncId} {args : Array Value} {X : World} {B B' n sz : Nat} {T : TypeId} {xs : List Value} {r : Result Next} (hx : r = .ok (.enter f args) X) (hc : Calls P f args X fun e X' => ∃ A c, e = .returned (V A c) ∧ X'.ownsRow B' T sz (.slice A n c) n xs ∧ Below X.heap.size X X') (hB : B ≤ B') : LeavesR P (RowU V B T sz n xs) X r := by
 subst hx
 exact ⟨rfl, hc.mono fun e X' ⟨A, c, he, ho, hb⟩ => ⟨_, he, hb, A, c, rfl, ownsRow_mono ho hB⟩⟩
end
theorem St.addRow {M : List Nat} {w0 w X : World} {L L' : List Ent} {T2 : TypeId} {sz n : Nat} {v : Value} {xs : List Value} (h : St M w0 w L) (h' : St M w0 X L') (hL : ∀ e ∈ L', ∀ b, e.dom b → b < w.heap.size) (hr : X.ownsRow w.heap.size T2 sz v n xs) : St M w0 X (.row v n T2 sz xs :: L') := by
 refine ⟨h'.os, h'.tape, h'.output, h'.size, h'.block, fun e he => ?_, fun e he k hk => ?_, List.pairwise_cons.2 ⟨fun e he k hk hek => ?_, h'.sep⟩⟩
 · rcases List.mem_cons.1 he with rfl | he
   · exact ownsRow_mono hr (Nat.zero_le _)
   · exact h'.ok e he
 · rcases List.mem_cons.1 he with rfl | he
   · have := hr.lt k hk
     exact ⟨.inl (Nat.le_trans h.size this.1), this.2⟩
   · exact h'.new e he k hk
 · have h1 := (hr.lt k hk).1
   have h2 := hL e he k hek
   omega
end Go.Proofs.YtcfdpfmchchkaaaGreatDoor
namespace Go.Proofs.YtcfdpfmchchkaaaGreatDoor
set_option linter.unusedVariables false
set_option linter.unusedSimpArgs false
set_option maxRecDepth 4000
open Go.RowKit Go.Sort
theorem fndK_snoc {α : Type} {κ : α → Int} {l : List α} {x : α} (h : SrtK κ (l ++ [x])) (i : Int) : fndK κ (l ++ [x]) i = if i = κ x then some x else fndK κ l i := by
 unfold fndK
 rw [List.find?_append]
 unfold SrtK at h
 rw [List.pairwise_append] at h
 by_cases hi : i = κ x
 · rw [if_pos hi]
   have hn : l.find? (fun y => κ y == i) = none := by
    rw [List.find?_eq_none]
    intro y hy
    have := h.2.2 y hy x (List.mem_singleton.2 rfl)
    simp; omega
   rw [hn, hi]
   simp
 · rw [if_neg hi]
   have hx : [x].find? (fun y => κ y == i) = none := by
    rw [List.find?_eq_none]
    intro y hy
    rw [List.mem_singleton.1 hy]
    simp; omega
   rw [hx]
   cases l.find? (fun y => κ y == i) <;> rfl
def trF (g : Int → Option Trn) : Int → Option Value := fun i => (g i).map trnV
def dtF (g : Int → Option Dty) : Int → Option Value := fun i => (g i).map dtyV
theorem trF_put {l : List Trn} {x : Trn} (h : SrtK Trn.i (l ++ [x])) : putF (trF (fndT l)) x.i (some (trnV x)) = trF (fndT (l ++ [x])) := by
 funext i
 unfold putF trF fndT
 rw [fndK_snoc h]
 split <;> rfl
theorem dtF_put {l : List Dty} {x : Dty} (h : SrtK Dty.g (l ++ [x])) : putF (dtF (fndD l)) x.g (some (dtyV x)) = dtF (fndD (l ++ [x])) := by
 funext i
 unfold putF dtF fndD
 rw [fndK_snoc h]
 split <;> rfl
theorem srt_take {α : Type} {κ : α → Int} {l : List α} (h : SrtK κ l) (k : Nat) : SrtK κ (l.take k) := List.Pairwise.sublist (List.take_sublist _ _) h
theorem tableOf_any (t : Tbl) (A : Option Addr) (c : Nat) (B : Option Addr) (d : Nat) (w : World) (hr : Rd w w.heap.size A (t.ts.flatMap trsL)) (hq : Rd w w.heap.size B (t.ds.flatMap dtyL)) (hs : SrtT t) (hl : t.ts.length ≤ 1000 ∧ t.ds.length ≤ 1000) :
 Calls Tryz.prog 128 #[tblV t A c B d] w fun e w' => ∃ i : Nat × Nat × Nat, e = .returned (.pointer (some ⟨i.1, 0, none⟩)) ∧ St [] w w' [.box i.1 #[.map (some i.2.1), .map (some i.2.2)] 228, mapFE i.2.2 (dtF (fndD t.ds)), mapFE i.2.1 (trF (fndT t.ts))] := by
 refine st_enter (N := 43) Tryz.func128 rfl rfl rfl (fun a0 h0 => ?_)
 have S0 := St.init w
 refine st_seq (st_reg ?_)
 refine nb h0 rfl rfl S0 fun b1 a1 X1 gb1 h1 S1 => ?_
 refine ma h1 rfl rfl fun a2 h2 => ?_
 refine nsr ?_
 refine sl_mkmapF h2 (wn rfl) rfl rfl rfl S1 fun m8 a3 X3 hm8 h3 S3 => ?_
 refine sl_mkmapF h3 (wn rfl) rfl rfl rfl S3 fun m9 a4 X4 hm9 h4 S4 => ?_
 refine sv h4 (ex_build (zs := [.map none, .map none]) (pl := [(0, 1), (1, 1)]) (by kernel_rfl) (by kernel_rfl) (h4.evs2 rfl) rfl rfl) fun a5 h5 => ?_
 refine nb h5 rfl rfl S4 fun b11 a6 X6 gb11 h6 S6 => ?_
 refine ma h6 rfl rfl fun a7 h7 => ?_
 replace S6 : St [] w X6 [.box b11 #[.map (some m8), .map (some m9)] 228, mapFE m9 (dtF (fndD (t.ds.take 0))), mapFE m8 (trF (fndT (t.ts.take 0))), .box b1 (tblV t A c B d).cells 25] := S6
 refine st_nil (go_then (st_seq (st_seq (st_reg ?_))))
 refine vf h7 0 0 rfl rfl rfl fun a8 h8 => ?_
 refine vl h8 S6 3 rfl rfl rfl rfl fun a9 h9 => ?_
 refine sv h9 (ex_len Tryz.underlying22 (h9.ev rfl)) fun a10 h10 => ?_
 refine mv h10 rfl rfl fun a11 h11 => ?_
 refine st_nil (go_then (wp_block ?_))
 refine st_loop h11 S6 [14, 13, 3, 2, 1] (fun (j : Nat) => [(15, .int .i64 j)]) (fun (j : Nat) => j ≤ t.ts.length) (fun j L => L.set 2 (mapFE m8 (trF (fndT (t.ts.take j))))) (fun (j : Nat) => t.ts.length - j) (0) (Nat.zero_le _) ⟨rfl, rfl, rfl, rfl, rfl, rfl, trivial⟩ (S6) ?_
 intro j a12 X12 hF0 h12 S12
 refine st_seq (st_reg ?_)
 refine sv h12 (ex_lss (h12.ev rfl) (h12.ev rfl)) fun a13 h13 => ?_
 refine st_nil (go_then (st_seq ?_))
 refine st_if (h13.ev rfl) (fun hc0 => ?_) (fun hc0 => ?_)
 ·
  have hlt : j < t.ts.length := by have := of_decide_eq_true hc0; omega
  obtain ⟨b, o, rfl, hB, _⟩ := hr.opened (flat_pos trsL_len (by decide) (by omega))
  have hput : putF (trF (fndT (t.ts.take j))) t.ts[j].i (some (trnV t.ts[j])) = trF (fndT (t.ts.take (j + 1))) := by
   rw [List.take_succ_eq_append_getElem hlt]
   exact trF_put (by rw [← List.take_succ_eq_append_getElem hlt]; exact srt_take hs.ts _)
  refine wp_skip (go_then (st_seq (wp_block (st_seq (st_reg ?_)))))
  refine sv h13 (ex_index (i := j) (sz := 4) Tryz.underlying22 (by kernel_rfl) (h13.ev rfl) (h13.ev rfl) (by omega) (by omega) rfl) fun a14 h14 => ?_
  refine sv (v := trnV t.ts[j]) h14 (ex_loads (by kernel_rfl) (by kernel_rfl) (h14.ev rfl) (flatAt trsL_len (S12.rd0 hr) hlt)) fun a15 h15 => ?_
  refine na (.agg #[.int .i64 0, .int .i64 0, .int .i64 0, .bool false]) h15 rfl S12 fun b5 a16 X16 gb5 h16 S16 => ?_
  refine sl_store0 h16 (wn rfl) ⟨rfl, rfl⟩ (h16.ev rfl) (h16.ev rfl) rfl (by kernel_rfl) S16 (i := 0) rfl rfl rfl fun X17 S17 => ?_
  refine st_nil (go_then ?_)
  apply dr_flow h16 [false, false, false, false, false, false, false] _ (by kernel_rfl)
  case h =>
   refine qv h16 (fun X hX => ex_move (h16.ev rfl)) fun a18 h18 => ?_
   refine qv h18 (fun X hX => ex_nilck (h18.ev rfl)) fun a19 h19 => ?_
   refine qv h19 (fun X hX => ex_field (off := 0) (j := 0) (by kernel_rfl) (h19.ev rfl) rfl) fun a20 h20 => ?_
   refine qv h20 (fun X hX => ex_load (by kernel_rfl) (h20.ev rfl) ((S17.grow hX).cell (i := 1) rfl rfl)) fun a21 h21 => ?_
   refine qv h21 (fun X hX => ex_field (off := 0) (j := 0) (by kernel_rfl) (h21.ev rfl) rfl) fun a22 h22 => ?_
   refine qv h22 (fun X hX => ex_load (by kernel_rfl) (h22.ev rfl) ((S17.grow hX).cell (i := 0) rfl rfl)) fun a23 h23 => ?_
   refine qv (v := trnV t.ts[j]) h23 (fun X hX => ex_loads (by kernel_rfl) (by kernel_rfl) (h23.ev rfl) ((S17.grow hX).cellsAll (i := 0) rfl)) fun a24 h24 => ?_
   refine sq_nil ?_
   refine nd_end fun X25 hX25 hΦ25 => ?_
   have S25 := S17.grow hX25
   refine sl_mapput (wn rfl) ⟨rfl, rfl⟩ Tryz.underlying225 Tryz.underlying3 (h24.ev rfl) (h24.ev rfl) (h24.ev rfl) S25 (i := 3) rfl fun X26 S26 => ?_
   refine st_nil (go_block (go_then (st_reg ?_)))
   refine sv h24 (ex_add (h24.ev rfl) (h24.ev rfl) (by omega)) fun a27 h27 => ?_
   refine mv h27 rfl rfl fun a28 h28 => ?_
   refine st_nil (go_then ?_)
   exact ⟨j + 1, by omega, hlt, h28.re ⟨rfl, rfl, rfl, rfl, rfl, rfl, trivial⟩, (hput ▸ (S26.sub (.cons _ (.cons_cons _ (.cons_cons _ (.cons_cons _ (.cons_cons _ .slnil)))))))⟩
  case hB => kernel_rfl
  case hst => rfl
 ·
  have hge : t.ts.length ≤ j := by have := of_decide_eq_false hc0; omega
  obtain rfl : j = t.ts.length := by have := hF0; omega
  rw [List.take_length] at S12
  refine wp_exit ?_
  refine go_exit_then ?_
  refine go_exit_then ?_
  refine go_exit ?_
  refine go_then (st_seq (st_seq (st_reg ?_)))
  refine vf h13 1 1 rfl rfl rfl fun a29 h29 => ?_
  refine vl h29 S12 3 rfl rfl rfl rfl fun a30 h30 => ?_
  refine sv h30 (ex_len Tryz.underlying23 (h30.ev rfl)) fun a31 h31 => ?_
  refine mv h31 rfl rfl fun a32 h32 => ?_
  refine st_nil (go_then (wp_block ?_))
  refine st_loop h32 S12 [29, 28, 3, 2] (fun (k : Nat) => [(30, .int .i64 k)]) (fun (k : Nat) => k ≤ t.ds.length) (fun k L => L.set 1 (mapFE m9 (dtF (fndD (t.ds.take k))))) (fun (k : Nat) => t.ds.length - k) (0) (Nat.zero_le _) ⟨rfl, rfl, rfl, rfl, rfl, trivial⟩ (S12) ?_
  intro k a33 X33 hF1 h33 S33
  refine st_seq (st_reg ?_)
  refine sv h33 (ex_lss (h33.ev rfl) (h33.ev rfl)) fun a34 h34 => ?_
  refine st_nil (go_then (st_seq ?_))
  refine st_if (h34.ev rfl) (fun hc1 => ?_) (fun hc1 => ?_)
  ·
   have hlt : k < t.ds.length := by have := of_decide_eq_true hc1; omega
   obtain ⟨b, o, rfl, hB, _⟩ := hq.opened (flat_pos dtyL_len (by decide) (by omega))
   have hput : putF (dtF (fndD (t.ds.take k))) t.ds[k].g (some (dtyV t.ds[k])) = dtF (fndD (t.ds.take (k + 1))) := by
    rw [List.take_succ_eq_append_getElem hlt]
    exact dtF_put (by rw [← List.take_succ_eq_append_getElem hlt]; exact srt_take hs.ds _)
   refine wp_skip (go_then (st_seq (wp_block (st_seq (st_reg ?_)))))
   refine sv h34 (ex_index (i := k) (sz := 3) Tryz.underlying23 (by kernel_rfl) (h34.ev rfl) (h34.ev rfl) (by omega) (by omega) rfl) fun a35 h35 => ?_
   refine sv (v := dtyV t.ds[k]) h35 (ex_loads (by kernel_rfl) (by kernel_rfl) (h35.ev rfl) (flatAt dtyL_len (S33.rd0 hq) hlt)) fun a36 h36 => ?_
   refine na (.agg #[.int .i64 0, .bool false, .int .i64 0]) h36 rfl S33 fun b7 a37 X37 gb7 h37 S37 => ?_
   refine sl_store0 h37 (wn rfl) ⟨rfl, rfl⟩ (h37.ev rfl) (h37.ev rfl) rfl (by kernel_rfl) S37 (i := 0) rfl rfl rfl fun X38 S38 => ?_
   refine st_nil (go_then ?_)
   apply dr_flow h37 [false, false, false, false, false, false, false] _ (by kernel_rfl)
   case h =>
    refine qv h37 (fun X hX => ex_move (h37.ev rfl)) fun a39 h39 => ?_
    refine qv h39 (fun X hX => ex_nilck (h39.ev rfl)) fun a40 h40 => ?_
    refine qv h40 (fun X hX => ex_field (off := 1) (j := 1) (by kernel_rfl) (h40.ev rfl) rfl) fun a41 h41 => ?_
    refine qv h41 (fun X hX => ex_load (by kernel_rfl) (h41.ev rfl) ((S38.grow hX).cell (i := 1) rfl rfl)) fun a42 h42 => ?_
    refine qv h42 (fun X hX => ex_field (off := 0) (j := 0) (by kernel_rfl) (h42.ev rfl) rfl) fun a43 h43 => ?_
    refine qv h43 (fun X hX => ex_load (by kernel_rfl) (h43.ev rfl) ((S38.grow hX).cell (i := 0) rfl rfl)) fun a44 h44 => ?_
    refine qv (v := dtyV t.ds[k]) h44 (fun X hX => ex_loads (by kernel_rfl) (by kernel_rfl) (h44.ev rfl) ((S38.grow hX).cellsAll (i := 0) rfl)) fun a45 h45 => ?_
    refine sq_nil ?_
    refine nd_end fun X46 hX46 hΦ46 => ?_
    have S46 := S38.grow hX46
    refine sl_mapput (wn rfl) ⟨rfl, rfl⟩ Tryz.underlying226 Tryz.underlying3 (h45.ev rfl) (h45.ev rfl) (h45.ev rfl) S46 (i := 2) rfl fun X47 S47 => ?_
    refine st_nil (go_block (go_then (st_reg ?_)))
    refine sv h45 (ex_add (h45.ev rfl) (h45.ev rfl) (by omega)) fun a48 h48 => ?_
    refine mv h48 rfl rfl fun a49 h49 => ?_
    refine st_nil (go_then ?_)
    exact ⟨k + 1, by omega, hlt, h49.re ⟨rfl, rfl, rfl, rfl, rfl, trivial⟩, (hput ▸ (S47.sub (.cons _ (.cons_cons _ (.cons_cons _ (.cons_cons _ (.cons_cons _ .slnil)))))))⟩
   case hB => kernel_rfl
   case hst => rfl
  ·
   have hge : t.ds.length ≤ k := by have := of_decide_eq_false hc1; omega
   obtain rfl : k = t.ds.length := by have := hF1; omega
   rw [List.take_length] at S33
   refine wp_exit ?_
   refine go_exit_then ?_
   refine go_exit_then ?_
   refine go_exit ?_
   refine go_then (st_seq (st_reg ?_))
   refine mv h34 rfl rfl fun a50 h50 => ?_
   refine ma h50 rfl rfl fun a51 h51 => ?_
   refine st_nil (go_then (wp_ret ?_))
   refine fin1 h51 rfl rfl ?_
   exact ⟨(b11, m8, m9), rfl, (S33.sub (.cons_cons _ (.cons_cons _ (.cons_cons _ (.cons _ .slnil)))))⟩
def tabE (bt m1 m2 : Nat) (t : Tbl) : Ent := .inv (fun b => b = bt ∨ b = m1 ∨ b = m2) (fun X => Box X bt #[.map (some m1), .map (some m2)] 228 ∧ MapF X m1 (trF (fndT t.ts)) ∧ MapF X m2 (dtF (fndD t.ds)) ∧ m1 ≠ m2)
 (fun X X' ⟨h1, ⟨es, ck, h2, h2'⟩, ⟨es', ck', h3, h3'⟩, h4⟩ hb => ⟨(hb bt (.inl rfl)).trans h1, ⟨es, ck, (hb m1 (.inr (.inl rfl))).trans h2, h2'⟩, ⟨es', ck', (hb m2 (.inr (.inr rfl))).trans h3, h3'⟩, h4⟩)
theorem tab_join {M : List Nat} {w X : World} {bt m1 m2 : Nat} {t : Tbl} {L : List Ent} (h : St M w X (.box bt #[.map (some m1), .map (some m2)] 228 :: mapFE m2 (dtF (fndD t.ds)) :: mapFE m1 (trF (fndT t.ts)) :: L)) : St M w X (tabE bt m1 m2 t :: L) := by
 have k1 := h.at_ (i := 0) rfl
 have k2 := h.at_ (i := 1) rfl
 have k3 := h.at_ (i := 2) rfl
 have hne : m1 ≠ m2 := fun e => by
  have h1 := (List.pairwise_cons.1 (List.pairwise_cons.1 h.sep).2).1 (mapFE m1 (trF (fndT t.ts))) (List.mem_cons_self) m2
  exact h1 rfl e.symm
 have h2 : St M w X (.inv (fun b => b = bt ∨ b = m2) (fun _ => True) (fun _ _ h _ => h) :: mapFE m1 (trF (fndT t.ts)) :: L) := h.fuse2 (fun b hb => hb) trivial
 exact h2.fuse2 (fun b hb => by
  rcases hb with hb | hb | hb
  · exact .inl (.inl hb)
  · exact .inr hb
  · exact .inl (.inr hb)) ⟨k1, k3, k2, hne⟩
theorem fndT_chg {t : Tbl} {r : Rcd} (h5 : r.e.k ≠ 5) (h4 : r.e.k ≠ 4) : putF (trF (fndT t.ts)) r.e.t (some (trnV (ownT t r))) = trF (fndT (chgT t r).ts) := by
 funext i
 unfold chgT
 rw [if_neg h5]
 unfold putF trF
 show _ = (fndT (if r.e.k = 4 then delK Trn.i t.ts r.e.t else insK Trn.i t.ts (ownT t r)) i).map trnV
 rw [if_neg h4]
 unfold fndT
 rw [fndK_ins]
 show (if i = r.e.t then _ else _) = (if i = r.e.t then _ else _ : Option Trn).map trnV
 split <;> rfl
theorem fndT_del {t : Tbl} {r : Rcd} (h5 : r.e.k ≠ 5) (h4 : r.e.k = 4) : putF (trF (fndT t.ts)) r.e.t none = trF (fndT (chgT t r).ts) := by
 funext i
 unfold chgT
 rw [if_neg h5]
 unfold putF trF
 show _ = (fndT (if r.e.k = 4 then delK Trn.i t.ts r.e.t else insK Trn.i t.ts (ownT t r)) i).map trnV
 rw [if_pos h4]
 unfold fndT
 rw [fndK_del]
 split <;> rfl
theorem chgT_ds {t : Tbl} {r : Rcd} (h5 : r.e.k ≠ 5) : (chgT t r).ds = chgD t r := by unfold chgT; rw [if_neg h5]
theorem fndD_chg {t : Tbl} {r : Rcd} (h1 : isOpE r.e = true) (h2 : fndD t.ds r.e.g = none) : putF (dtF (fndD t.ds)) r.e.g (some (dtyV ⟨r.e.g, r.e.f, r.l⟩)) = dtF (fndD (chgD t r)) := by
 funext i
 unfold chgD
 rw [if_pos ⟨h1, h2⟩]
 unfold putF dtF fndD
 rw [fndK_ins]
 split <;> rfl
theorem chgD_no {t : Tbl} {r : Rcd} (h : ¬ (isOpE r.e = true ∧ fndD t.ds r.e.g = none)) : chgD t r = t.ds := by unfold chgD; rw [if_neg h]
theorem add_any (t : Tbl) (r : Rcd) (bt m1 m2 : Nat) (w : World) (hB : Box w bt #[.map (some m1), .map (some m2)] 228) (hm1 : MapF w m1 (trF (fndT t.ts))) (hm2 : MapF w m2 (dtF (fndD t.ds))) (hne : m1 ≠ m2) :
 Calls Tryz.prog 130 #[.pointer (some ⟨bt, 0, none⟩), .int .i64 r.l, entV r.e] w fun e w' => e = .returned (.tuple #[]) ∧ St [m1, m2] w w' [mapFE m1 (trF (fndT (chgT t r).ts)), mapFE m2 (dtF (fndD (chgT t r).ds))] := by
 have hmm : NoCells w [m1, m2] := fun b hb => by
  rcases List.mem_cons.1 hb with rfl | hb
  · exact hm1.noCells
  · rw [List.mem_singleton.1 hb]; exact hm2.noCells
 refine st_enter (N := 82) Tryz.func130 rfl rfl rfl (fun a0 h0 => ?_)
 have S0 := St.initM2 hm1 hm2 hne
 refine st_seq (st_reg ?_)
 refine nb h0 rfl rfl S0 fun b5 a1 X1 gb5 h1 S1 => ?_
 refine st_nil (go_then (st_seq (st_seq (st_reg ?_))))
 refine vf h1 0 0 rfl rfl rfl fun a2 h2 => ?_
 refine vl h2 S1 0 rfl rfl rfl rfl fun a3 h3 => ?_
 refine sv h3 (ex_eql (h3.ev rfl) (h3.ev rfl)) fun a4 h4 => ?_
 refine st_nil (go_then ?_)
 refine st_if (h4.ev rfl) (fun hc0 => ?_) (fun hc0 => ?_)
 ·
  have r5 : r.e.k = 5 := by simpa using hc0
  have r5' : chgT t r = t := by unfold chgT; rw [if_pos r5]
  refine wp_ret (ret_then ?_)
  refine fin0r h4 rfl ?_
  exact ⟨rfl, by rw [r5']; exact (S1.sub (.cons _ (.cons_cons _ (.cons_cons _ .slnil))))⟩
 ·
  have r5 : r.e.k ≠ 5 := by simpa using hc0
  refine wp_skip (go_then (st_seq (st_seq ?_)))
  apply dr_flowM h4 (fun _ => False) [] [(11, 124)] [false, false, false, false, false, false, false, false, false, false, true, true] _ (by kernel_rfl) all0
  case h =>
   refine qv h4 (fun X hX => ex_move (h4.ev rfl)) fun a5 h5 => ?_
   refine qv h5 (fun X hX => ex_nilck (h5.ev rfl)) fun a6 h6 => ?_
   refine qv h6 (fun X hX => ex_field (off := 1) (by kernel_rfl) (h6.ev rfl) rfl) fun a7 h7 => ?_
   refine qv h7 (fun X hX => ex_load (by kernel_rfl) (h7.ev rfl) ((((S1.grow (Grw.below hX)).keptL).box hmm hB).cells 1)) fun a8 h8 => ?_
   refine qv h8 (fun X hX => ex_field (off := 4) (j := 4) (by kernel_rfl) (h8.ev rfl) rfl) fun a9 h9 => ?_
   refine qv h9 (fun X hX => ex_load (by kernel_rfl) (h9.ev rfl) ((S1.grow (Grw.below hX)).cell (i := 0) rfl rfl)) fun a10 h10 => ?_
   refine qv h10 (fun X hX => as_val (v' := .tuple #[dtyV ((fndD t.ds r.e.g).getD ⟨0, false, 0⟩), .bool (fndD t.ds r.e.g).isSome]) (by unfold dtF; cases fndD t.ds r.e.g <;> rfl) (ex_look2 (z := .agg #[.int .i64 0, .bool false, .int .i64 0]) Tryz.underlying226 Tryz.underlying3 (by kernel_rfl) (h10.ev rfl) (h10.ev rfl) ((S1.grow (Grw.below hX)).at_ (i := 2) rfl))) fun a11 h11 => ?_
   refine qv h11 (fun X hX => ex_move (h11.ev rfl)) fun a12 h12 => ?_
   refine qv h12 (fun X hX => ex_extract (h12.ev rfl) rfl) fun a13 h13 => ?_
   refine qv h13 (fun X hX => ex_extract (h13.ev rfl) rfl) fun a14 h14 => ?_
   refine sq_nil ?_
   apply nm_step (O := (fun _ => False)) (k := 10) (deps := []) (R := NewAny _ 3 _) h14 rfl rfl rfl all0 NewAny.stable all0 (all1 NewAny.newT)
   case hx => exact fun X hX hΦ => lv_any (ex_alloc (z := .agg #[.int .i64 0, .bool false, .int .i64 0]) (by kernel_rfl)) hX.size rfl
   intro v6 a15 h15
   apply nm_store (k := 11) (deps := [10]) (kx := 10) (x := 6) (y := 21) (Y := valY _) h15 rfl ⟨rfl, rfl⟩ rfl all0 ⟨rfl, rfl⟩ rfl valY_dep rfl rfl (n := 3) (by kernel_rfl) all0
   case hx =>
    intro X hX hΦ
    exact ⟨(told_get (k := 10) hΦ rfl rfl), rfl, rfl⟩
   intro vs11
   refine nm_end (O := (fun _ => False)) all0 fun X16 hX16 hΦ16 => ?_
   obtain ⟨b6, rfl, gb6, qb6⟩ := StoY.val (v := vs11) h15 rfl (told_all hΦ16 (k := 11) rfl)
   have S16 := S1.add (Grw.below hX16) (e := .box _ _ _) qb6 (fun b hb => by cases hb; exact ⟨gb6, Box.lt qb6⟩)
   refine ma h15 rfl rfl fun a17 h17 => ?_
   refine nsr ?_
   refine sv (v := entV r.e) h17 (ex_loads (by kernel_rfl) (by kernel_rfl) (h17.ev rfl) (S16.cellsAll (i := 1) rfl)) fun a18 h18 => ?_
   refine sl_bel h18 (wn rfl) (ex_call (fun _ _ => by kernel_rfl) (h18.evs rfl) rfl) rfl rfl S16 (isop_any _ _) fun a19 X19 h19 S19 => ?_
   refine mv h19 rfl rfl fun a20 h20 => ?_
   apply sl_and (x := !(fndD t.ds r.e.g).isSome) h20 S19 25 rfl 3 28
   case ht =>
    intro gc25
    refine sy h20 rfl rfl rfl gc25 (ex_move (h20.ev rfl)) rfl rfl fun a21 h21 => ?_
    refine sy h21 rfl rfl rfl gc25 (ex_not (h21.ev rfl)) rfl rfl fun a22 h22 => ?_
    refine sv h22 (ex_pick_t (h22.ev rfl) gc25 (h22.ev rfl)) fun a23 h23 => ?_
    exact st_nil ⟨h23.mid (m := [(_, _), (_, _)]) rfl, S19⟩
   case hf =>
    intro gc25
    refine no h20 rfl rfl rfl gc25 rfl rfl fun a24 h24 => ?_
    refine no h24 rfl rfl rfl gc25 rfl rfl fun a25 h25 => ?_
    refine sv h25 (ex_pick_f (h25.ev rfl) gc25 (h25.ev rfl)) fun a26 h26 => ?_
    exact st_nil ⟨h26.mid (m := [(_, _), (_, _)]) rfl, S19⟩
   case h =>
    rintro a27 X27 ⟨h27, S27⟩
    refine st_nil (go_then ?_)
    refine st_joinE (F := True) h27 S27 [] [5, 0, 1] (fun L => L.set 3 (mapFE m2 (dtF (fndD (chgD t r))))) ?_ (fun a28 X28 h28 S28 hjT => ?_)
    ·
     refine st_if (h27.ev rfl) (fun hc1 => ?_) (fun hc1 => ?_)
     ·
      apply dr_flow h27 [false, false, false, false, false, false, false, false, false, false, false, false] _ (by kernel_rfl)
      case h =>
       refine qv h27 (fun X hX => ex_move (h27.ev rfl)) fun a29 h29 => ?_
       refine qv h29 (fun X hX => ex_nilck (h29.ev rfl)) fun a30 h30 => ?_
       refine qv h30 (fun X hX => ex_field (off := 1) (by kernel_rfl) (h30.ev rfl) rfl) fun a31 h31 => ?_
       refine qv h31 (fun X hX => ex_load (by kernel_rfl) (h31.ev rfl) ((((S27.grow hX).keptL).box hmm hB).cells 1)) fun a32 h32 => ?_
       refine qv h32 (fun X hX => ex_field (off := 4) (j := 4) (by kernel_rfl) (h32.ev rfl) rfl) fun a33 h33 => ?_
       refine qv h33 (fun X hX => ex_load (by kernel_rfl) (h33.ev rfl) ((S27.grow hX).cell (i := 1) rfl rfl)) fun a34 h34 => ?_
       refine qv h34 (fun X hX => ex_field (off := 4) (j := 4) (by kernel_rfl) (h34.ev rfl) rfl) fun a35 h35 => ?_
       refine qv h35 (fun X hX => ex_load (by kernel_rfl) (h35.ev rfl) ((S27.grow hX).cell (i := 1) rfl rfl)) fun a36 h36 => ?_
       refine qv h36 (fun X hX => ex_field (off := 5) (j := 5) (by kernel_rfl) (h36.ev rfl) rfl) fun a37 h37 => ?_
       refine qv h37 (fun X hX => ex_load (by kernel_rfl) (h37.ev rfl) ((S27.grow hX).cell (i := 1) rfl rfl)) fun a38 h38 => ?_
       refine qv h38 (fun X hX => ex_move (h38.ev rfl)) fun a39 h39 => ?_
       refine qv (v := dtyV ⟨r.e.g, r.e.f, r.l⟩) h39 (fun X hX => ex_build (zs := [.int .i64 0, .bool false, .int .i64 0]) (pl := [(0, 1), (1, 1), (2, 1)]) (by kernel_rfl) (by kernel_rfl) (h39.evs2 rfl) rfl rfl) fun a40 h40 => ?_
       refine sq_nil ?_
       refine nd_end fun X41 hX41 hΦ41 => ?_
       have S41 := S27.grow hX41
       refine sl_mapput (wn rfl) ⟨rfl, rfl⟩ Tryz.underlying226 Tryz.underlying3 (h40.ev rfl) (h40.ev rfl) (h40.ev rfl) S41 (i := 3) rfl fun X42 S42 => ?_
       refine st_nil (go_then ?_)
       have hjT := trivial
       obtain ⟨u1, u2⟩ := Bool.and_eq_true_iff.1 hc1
       rw [fndD_chg u1 (by cases hq : fndD t.ds r.e.g with | none => rfl | some y => rw [hq] at u2; cases u2)] at S42
       exact ⟨h40.re ⟨rfl, rfl, rfl, trivial⟩, S42, hjT⟩
      case hB => kernel_rfl
      case hst => rfl
     ·
      refine wp_skip (go_then ?_)
      have hjT := trivial
      have u0 : chgD t r = t.ds := chgD_no (fun ⟨u1, u2⟩ => by rw [u1, u2] at hc1; cases hc1)
      have u1 : mapFE m2 (dtF (fndD t.ds)) = mapFE m2 (dtF (fndD (chgD t r))) := by rw [u0]
      rw [u1] at S27
      exact ⟨h27.re ⟨rfl, rfl, rfl, trivial⟩, S27, hjT⟩
    ·
     refine go_then (st_seq (st_seq (st_reg ?_)))
     refine vf h28 0 0 rfl rfl rfl fun a43 h43 => ?_
     refine vl h43 S28 1 rfl rfl rfl rfl fun a44 h44 => ?_
     refine sv h44 (ex_eql (h44.ev rfl) (h44.ev rfl)) fun a45 h45 => ?_
     refine st_nil (go_then ?_)
     refine st_if (h45.ev rfl) (fun hc2 => ?_) (fun hc2 => ?_)
     ·
      have r4 : r.e.k = 4 := by simpa using hc2
      refine st_seq ?_
      apply dr_flow h45 [false, false, false, false, false, false] _ (by kernel_rfl)
      case h =>
       refine qv h45 (fun X hX => ex_move (h45.ev rfl)) fun a46 h46 => ?_
       refine qv h46 (fun X hX => ex_nilck (h46.ev rfl)) fun a47 h47 => ?_
       refine qv h47 (fun X hX => ex_field (off := 0) (by kernel_rfl) (h47.ev rfl) rfl) fun a48 h48 => ?_
       refine qv h48 (fun X hX => ex_load (by kernel_rfl) (h48.ev rfl) ((((S28.grow hX).keptL).box hmm hB).cells 0)) fun a49 h49 => ?_
       refine qv h49 (fun X hX => ex_field (off := 1) (j := 1) (by kernel_rfl) (h49.ev rfl) rfl) fun a50 h50 => ?_
       refine qv h50 (fun X hX => ex_load (by kernel_rfl) (h50.ev rfl) ((S28.grow hX).cell (i := 1) rfl rfl)) fun a51 h51 => ?_
       refine sq_nil ?_
       refine nd_end fun X52 hX52 hΦ52 => ?_
       have S52 := S28.grow hX52
       refine sl_mapdel (wn rfl) ⟨rfl, rfl⟩ Tryz.underlying225 Tryz.underlying3 (h51.ev rfl) (h51.ev rfl) S52 (i := 2) rfl fun X53 S53 => ?_
       refine st_nil (go_then (wp_ret (ret_then ?_)))
       refine fin0r h51 rfl ?_
       exact ⟨rfl, by rw [← fndT_del r5 r4, chgT_ds r5]; exact (S53.sub (.cons _ (.cons _ (.cons_cons _ (.cons_cons _ .slnil)))))⟩
      case hB => kernel_rfl
      case hst => rfl
     ·
      have r4 : r.e.k ≠ 4 := by simpa using hc2
      refine wp_skip (go_then (st_seq ?_))
      apply dr_flow h45 [false, false, false, false, false, false, false, true] _ (by kernel_rfl)
      case h =>
       refine qv h45 (fun X hX => ex_move (h45.ev rfl)) fun a54 h54 => ?_
       refine qv h54 (fun X hX => ex_nilck (h54.ev rfl)) fun a55 h55 => ?_
       refine qv h55 (fun X hX => ex_field (off := 0) (by kernel_rfl) (h55.ev rfl) rfl) fun a56 h56 => ?_
       refine qv h56 (fun X hX => ex_load (by kernel_rfl) (h56.ev rfl) ((((S28.grow hX).keptL).box hmm hB).cells 0)) fun a57 h57 => ?_
       refine qv h57 (fun X hX => ex_field (off := 1) (j := 1) (by kernel_rfl) (h57.ev rfl) rfl) fun a58 h58 => ?_
       refine qv h58 (fun X hX => ex_load (by kernel_rfl) (h58.ev rfl) ((S28.grow hX).cell (i := 1) rfl rfl)) fun a59 h59 => ?_
       refine qv h59 (fun X hX => as_val (v' := trnV ((fndT t.ts r.e.t).getD trn0)) (by unfold trF; cases fndT t.ts r.e.t <;> rfl) (ex_look1 (z := .agg #[.int .i64 0, .int .i64 0, .int .i64 0, .bool false]) Tryz.underlying225 Tryz.underlying3 (by kernel_rfl) (h59.ev rfl) (h59.ev rfl) ((S28.grow hX).at_ (i := 2) rfl))) fun a60 h60 => ?_
       refine sq_nil ?_
       apply nd_step (k := 7) (deps := []) (R := NewB _ (fun b => .pointer (some ⟨b, 0, none⟩)) _ _) h60 rfl rfl rfl NewB.stable (fun X hX hΦ => lv_new (ex_alloc (z := .agg #[.int .i64 0, .int .i64 0, .int .i64 0, .bool false]) (by kernel_rfl)) hX.size)
       intro v8 a61 h61
       refine nd_end fun X62 hX62 hΦ62 => ?_
       have S62 := S28.grow hX62
       have qv8 := told_all hΦ62 (k := 7) rfl
       obtain ⟨b8, rfl, gb8, qv8⟩ := qv8
       have S63 := S28.add hX62 (e := .box _ _ _) qv8 (fun b hb => by cases hb; exact ⟨gb8, Box.lt qv8⟩)
       refine sl_store0 h61 (wn rfl) ⟨rfl, rfl⟩ (h61.ev rfl) (h61.ev rfl) rfl (by kernel_rfl) S63 (i := 0) rfl rfl rfl fun X64 S64 => ?_
       refine nsr ?_
       refine vf h61 2 2 rfl rfl rfl fun a65 h65 => ?_
       refine vl h65 S64 0 rfl rfl rfl rfl fun a66 h66 => ?_
       refine sv (v := chnV ⟨0, 0, ((fndT t.ts r.e.t).getD trn0).u⟩) h66 (ex_build (zs := [.int .i64 0, .int .i64 0, .int .i64 0]) (pl := [(0, 1), (1, 1), (2, 1)]) (by kernel_rfl) (by kernel_rfl) (h66.evs2 rfl) rfl rfl) fun a67 h67 => ?_
       refine mv h67 rfl rfl fun a68 h68 => ?_
       refine sv (v := entV r.e) h68 (ex_loads (by kernel_rfl) (by kernel_rfl) (h68.ev rfl) (S64.cellsAll (i := 2) rfl)) fun a69 h69 => ?_
       refine sl_bel h69 (wn rfl) (ex_call (fun _ _ => by kernel_rfl) (h69.evs rfl) rfl) rfl rfl S64 (after_any ⟨0, 0, ((fndT t.ts r.e.t).getD trn0).u⟩ r.l r.e _) fun a70 X70 h70 S70 => ?_
       refine na (.agg #[.int .i64 0, .int .i64 0, .int .i64 0]) h70 rfl S70 fun b9 a71 X71 gb9 h71 S71 => ?_
       refine sl_store0 h71 (wn rfl) ⟨rfl, rfl⟩ (h71.ev rfl) (h71.ev rfl) rfl (by kernel_rfl) S71 (i := 0) rfl rfl rfl fun X72 S72 => ?_
       refine st_nil (go_then ?_)
       apply dr_flow h71 [false, false, false, false, false, false, false, false, false, false, false, false, false, false, false, false, false, false, false] _ (by kernel_rfl)
       case h =>
        refine qv h71 (fun X hX => ex_move (h71.ev rfl)) fun a73 h73 => ?_
        refine qv h73 (fun X hX => ex_nilck (h73.ev rfl)) fun a74 h74 => ?_
        refine qv h74 (fun X hX => ex_field (off := 0) (by kernel_rfl) (h74.ev rfl) rfl) fun a75 h75 => ?_
        refine qv h75 (fun X hX => ex_load (by kernel_rfl) (h75.ev rfl) ((((S72.grow hX).keptL).box hmm hB).cells 0)) fun a76 h76 => ?_
        refine qv h76 (fun X hX => ex_field (off := 1) (j := 1) (by kernel_rfl) (h76.ev rfl) rfl) fun a77 h77 => ?_
        refine qv h77 (fun X hX => ex_load (by kernel_rfl) (h77.ev rfl) ((S72.grow hX).cell (i := 3) rfl rfl)) fun a78 h78 => ?_
        refine qv h78 (fun X hX => ex_field (off := 1) (j := 1) (by kernel_rfl) (h78.ev rfl) rfl) fun a79 h79 => ?_
        refine qv h79 (fun X hX => ex_load (by kernel_rfl) (h79.ev rfl) ((S72.grow hX).cell (i := 3) rfl rfl)) fun a80 h80 => ?_
        refine qv h80 (fun X hX => ex_move (h80.ev rfl)) fun a81 h81 => ?_
        refine qv h81 (fun X hX => ex_field (off := 2) (j := 2) (by kernel_rfl) (h81.ev rfl) rfl) fun a82 h82 => ?_
        refine qv h82 (fun X hX => ex_load (by kernel_rfl) (h82.ev rfl) ((S72.grow hX).cell (i := 0) rfl rfl)) fun a83 h83 => ?_
        refine qv h83 (fun X hX => ex_field (off := 0) (j := 0) (by kernel_rfl) (h83.ev rfl) rfl) fun a84 h84 => ?_
        refine qv h84 (fun X hX => ex_load (by kernel_rfl) (h84.ev rfl) ((S72.grow hX).cell (i := 3) rfl rfl)) fun a85 h85 => ?_
        refine qv h85 (fun X hX => ex_eql (h85.ev rfl) (h85.ev rfl)) fun a86 h86 => ?_
        refine qv h86 (fun X hX => ex_move (h86.ev rfl)) fun a87 h87 => ?_
        apply sq_or (x := ((fndT t.ts r.e.t).getD trn0).c) h87 77 rfl 3 80
        case hf =>
         intro gc77
         refine sq_val h87 (wanted_yes h87 _ rfl rfl rfl gc77) rfl rfl (fun X hX => (ex_field (off := 3) (j := 3) (by kernel_rfl) (h87.ev rfl) rfl)) fun a88 h88 => ?_
         refine sq_val h88 (wanted_yes h88 _ rfl rfl rfl gc77) rfl rfl (fun X hX => (ex_load (by kernel_rfl) (h88.ev rfl) ((S72.grow hX).cell (i := 1) rfl rfl))) fun a89 h89 => ?_
         refine qv h89 (fun X hX => ex_pick_f (h89.ev rfl) gc77 (h89.ev rfl)) fun a90 h90 => ?_
         exact sq_nil (h90.mid (m := [(_, _), (_, _)]) rfl)
        case ht =>
         intro gc77
         refine qo h87 rfl rfl rfl gc77 rfl rfl fun a91 h91 => ?_
         refine qo h91 rfl rfl rfl gc77 rfl rfl fun a92 h92 => ?_
         refine qv h92 (fun X hX => ex_pick_t (h92.ev rfl) gc77 (h92.ev rfl)) fun a93 h93 => ?_
         exact sq_nil (h93.mid (m := [(_, _), (_, _)]) rfl)
        case h =>
         intro a94 h94
         refine qv (v := trnV (ownT t r)) h94 (fun X hX => ex_build (zs := [.int .i64 0, .int .i64 0, .int .i64 0, .bool false]) (pl := [(0, 1), (1, 1), (2, 1), (3, 1)]) (by kernel_rfl) (by kernel_rfl) (h94.evs2 rfl) rfl rfl) fun a95 h95 => ?_
         refine sq_nil ?_
         refine nd_end fun X96 hX96 hΦ96 => ?_
         have S96 := S72.grow hX96
         refine sl_mapput (wn rfl) ⟨rfl, rfl⟩ Tryz.underlying225 Tryz.underlying3 (h95.ev rfl) (h95.ev rfl) (h95.ev rfl) S96 (i := 4) rfl fun X97 S97 => ?_
         refine st_nil ?_
         refine fin0 h95 rfl ?_
         exact ⟨rfl, by rw [← fndT_chg r5 r4, chgT_ds r5]; exact (S97.sub (.cons _ (.cons _ (.cons _ (.cons _ (.cons_cons _ (.cons_cons _ .slnil)))))))⟩
       case hB => kernel_rfl
       case hst => rfl
      case hB => kernel_rfl
      case hst => rfl
  case hB => kernel_rfl
end Go.Proofs.YtcfdpfmchchkaaaGreatDoor
