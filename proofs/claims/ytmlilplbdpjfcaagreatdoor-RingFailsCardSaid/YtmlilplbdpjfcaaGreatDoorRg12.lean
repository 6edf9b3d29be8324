/-
  Chapter 20: the writes of a log.
-/
import Derived.Test.YtmlilplbdpjfcaaGreatDoorRg11
namespace Go.Proofs.YtmlilplbdpjfcaaGreatDoor
set_option linter.unusedVariables false
set_option linter.unusedSimpArgs false
set_option maxRecDepth 4000
open Go.RowKit Go.Sort
def wrV (x : Int × List UInt8) : List Value := [.int .i64 x.1, .string (bs x.2)]
def wrsV (l : List (Int × List UInt8)) : List Value := l.flatMap wrV
def wrR (r : RngP) (sec q : Int) : Int × List UInt8 := (sec + 8 * (2 + q % (r.pg - 2)), pgR r q)
def wrK (r : RngP) (sec q0 : Int) (k : Nat) : List (Int × List UInt8) := (List.range k).map fun i : Nat => wrR r sec (q0 + (i : Int))
theorem wrK_succ (r : RngP) (sec q0 : Int) (k : Nat) : wrK r sec q0 (k + 1) = wrK r sec q0 k ++ [wrR r sec (q0 + k)] := by unfold wrK; rw [List.range_succ, List.map_append]; rfl
theorem wrK_length (r : RngP) (sec q0 : Int) (k : Nat) : (wrK r sec q0 k).length = k := by unfold wrK; simp
theorem wrsV_append (l m : List (Int × List UInt8)) : wrsV (l ++ m) = wrsV l ++ wrsV m := by unfold wrsV; rw [List.flatMap_append]
def wfrE (r : RngP) (n sec : Int) : Int := firstE [(chkR r).2, unl (decide (n ≥ 0) && hasR r.rs n) 6, unl (inB sec 0 2048) 2]
def wfrL (r : RngP) (n sec : Int) : List (Int × List UInt8) := wrK r sec ((n - 1) / 448) ((roomsP r).1 + (roomsP r).2 - (n - 1) / 448).toNat
theorem has_bd {r : RngP} (h : OkP r) {n : Int} (hh : hasR r.rs n = true) : 1 ≤ n ∧ n ≤ 100400000 := by
 unfold hasR at hh
 obtain ⟨x, hx, h2⟩ := List.any_eq_true.1 hh
 obtain ⟨k, hk, rfl⟩ := List.getElem_of_mem hx
 have h1 := h.rcd k hk
 have h3 : r.rs[k].l = n := by simpa using h2
 have := h.h.len
 omega
theorem WritesFrom_any (r : RngP) (A : Option Addr) (c : Nat) (n sec : Int) (w : World) (hr : Rd w w.heap.size A (recsV r.rs)) (hlen : r.rs.length ≤ 1000) (hx : ∀ x ∈ r.rs, I6 x.l) :
 Calls Tryz.prog 40 #[ringV r A c, .int .i64 n, .int .i64 sec] w fun e w' => ∃ A' c', e = .returned (.tuple #[.slice A' (if wfrE r n sec = 0 then wfrL r n sec else []).length c', .int .i64 (wfrE r n sec)]) ∧ w'.ownsRow w.heap.size 74 2 (.slice A' (if wfrE r n sec = 0 then wfrL r n sec else []).length c') (if wfrE r n sec = 0 then wfrL r n sec else []).length (wrsV (if wfrE r n sec = 0 then wfrL r n sec else [])) ∧ Below w.heap.size w w' := by
 refine st_enter (N := 56) Tryz.func40 rfl rfl rfl (fun a0 h0 => ?_)
 have S0 := St.init w
 refine st_seq (st_reg ?_)
 refine nb h0 rfl rfl S0 fun b3 a1 X1 gb3 h1 S1 => ?_
 refine ma h1 rfl rfl fun a2 h2 => ?_
 refine ma h2 rfl rfl fun a3 h3 => ?_
 refine st_nil (go_then (st_seq (st_seq ?_)))
 apply dr_flow h3 [false, false, false, false, false, false, false, false] _ (by kernel_rfl)
 case h =>
  refine qv h3 (fun X hX => ex_loads (by kernel_rfl) (by kernel_rfl) (h3.ev rfl) ((S1.grow hX).cellsAll (i := 0) rfl)) fun a4 h4 => ?_
  refine sq_bel h4 (wn rfl) rfl rfl (fun X => (ex_call (fun _ _ => by kernel_rfl) (h4.evs rfl) rfl)) (fun X hX => ringErr_any r A c _ ((S1.grow hX).rd0 hr) hlen hx) fun a5 h5 => ?_
  refine qv h5 (fun X hX => ex_field (off := 7) (j := 7) (by kernel_rfl) (h5.ev rfl) rfl) fun a6 h6 => ?_
  refine qv h6 (fun X hX => ex_load (by kernel_rfl) (h6.ev rfl) ((S1.grow hX).cell (i := 0) rfl rfl)) fun a7 h7 => ?_
  refine qv h7 (fun X hX => ex_move (h7.ev rfl)) fun a8 h8 => ?_
  refine sq_bel h8 (wn rfl) rfl rfl (fun X => (ex_call (fun _ _ => by kernel_rfl) (h8.evs rfl) rfl)) (fun X hX => has_rec r.rs A c n 0 _ ((S1.grow hX).rd0 hr) hlen) fun a9 h9 => ?_
  refine sq_pure h9 (wn rfl) rfl rfl (fun X => (ex_call (fun _ _ => by kernel_rfl) (h9.evs rfl) rfl)) (fun X hX => logring_unless_any _ _ _) fun a10 h10 => ?_
  refine qv h10 (fun X hX => ex_move (h10.ev rfl)) fun a11 h11 => ?_
  refine sq_nil ?_
  refine nd_end fun X12 hX12 hΦ12 => ?_
  have S12 := S1.grow hX12
  refine sl_pure h11 (wn rfl) (ex_call (fun _ _ => by kernel_rfl) (h11.evs rfl) rfl) rfl rfl (sectorErr_any _ _) fun a13 h13 => ?_
  refine sl_new h13 (wn rfl) (f := fun b => .slice (some ⟨b, 0, none⟩) 3 3) (ex_bslice Tryz.underlying140 (by kernel_rfl) (by kernel_rfl) (h13.evs2 rfl) rfl rfl rfl (by decide) (by decide)) rfl rfl S12 fun b22 a14 X14 gb22 h14 S14 => ?_
  refine sl_pure h14 (wn rfl) (ex_call (fun _ _ => by kernel_rfl) (h14.evs rfl) rfl) rfl rfl (logring_first3 (S14.at_ (i := 0) rfl)) fun a15 h15 => ?_
  refine ma h15 rfl rfl fun a16 h16 => ?_
  refine nsr ?_
  refine mv h16 rfl rfl fun a17 h17 => ?_
  refine sv h17 (ex_neq (h17.ev rfl) (h17.ev rfl)) fun a18 h18 => ?_
  refine st_nil (go_then ?_)
  refine st_if (h18.ev rfl) (fun hc0 => ?_) (fun hc0 => ?_)
  ·
   have hne : ¬ wfrE r n sec = 0 := by unfold wfrE; simpa using hc0
   refine st_seq (st_reg ?_)
   refine mv h18 rfl rfl fun a19 h19 => ?_
   refine ma h19 rfl rfl fun a20 h20 => ?_
   refine ma h20 rfl rfl fun a21 h21 => ?_
   refine st_nil (go_then (wp_ret (ret_then ?_)))
   refine fin2 h21 rfl rfl rfl ?_
   refine ⟨none, 0, ?_, ?_, S14.below⟩
   · rw [if_neg hne]; rfl
   · rw [if_neg hne]; exact World.ownsRow_nil _ _ _ _
  ·
   have hz : wfrE r n sec = 0 := by unfold wfrE; simpa using hc0
   have hz' := hz
   unfold wfrE at hz'
   rw [firstE_zero] at hz'
   have hk := ok_iff.1 (hz' (chkR r).2 (.head _))
   have hh := (unl_zero (by decide)).1 (hz' (unl (decide (n ≥ 0) && hasR r.rs n) 6) (.tail _ (.head _)))
   have hs := inB_true.1 ((unl_zero (by decide)).1 (hz' (unl (inB sec 0 2048) 2) (.tail _ (.tail _ (.head _)))))
   rw [has_pos hk] at hh
   have hn := has_bd hk hh
   have hpg := hk.h.pg
   have hb := rooms_bd hk
   refine wp_skip (go_then (st_seq (st_reg ?_)))
   refine ma h18 rfl rfl fun a22 h22 => ?_
   have S23 := S14.nilRow 74 2
   refine nsr ?_
   refine sv (v := ringV r A c) h22 (ex_loads (by kernel_rfl) (by kernel_rfl) (h22.ev rfl) (S23.cellsAll (i := 2) rfl)) fun a24 h24 => ?_
   refine sl_bel h24 (wn rfl) (ex_call (fun _ _ => by kernel_rfl) (h24.evs rfl) rfl) rfl rfl S23 (rooms_any r A c _ (S23.rd0 hr) hk.last hk.o hlen) fun a25 X25 h25 S25 => ?_
   refine mv h25 rfl rfl fun a26 h26 => ?_
   refine vx h26 rfl rfl rfl fun a27 h27 => ?_
   refine vx h27 rfl rfl rfl fun a28 h28 => ?_
   refine ma h28 rfl rfl fun a29 h29 => ?_
   refine ma h29 rfl rfl fun a30 h30 => ?_
   refine st_nil (go_then (st_seq (st_seq (st_reg ?_))))
   refine mv h30 rfl rfl fun a31 h31 => ?_
   refine sv h31 (ex_sub (h31.ev rfl) (h31.ev rfl) (by omega)) fun a32 h32 => ?_
   refine sv h32 (as_val (v' := .int .i64 ((n - 1) / 448 + ((0 : Nat) : Int))) (congrArg _ (by omega)) (ex_quo (h32.ev rfl) (h32.ev rfl) (by omega))) fun a33 h33 => ?_
   refine ma h33 rfl rfl fun a34 h34 => ?_
   refine st_nil (go_then (wp_block ?_))
   refine st_loop h34 S25 [11, 10, 7, 6, 3, 2] (fun (q : Nat × Option Addr × Nat) => [(12, .int .i64 ((n - 1) / 448 + (q.1 : Int))), (9, .slice q.2.1 q.1 q.2.2)]) (fun (q : Nat × Option Addr × Nat) => q.1 ≤ ((roomsP r).1 + (roomsP r).2 - (n - 1) / 448).toNat) (fun q L => L.set 0 (.row (.slice q.2.1 q.1 q.2.2) q.1 74 2 (wrsV (wrK r sec ((n - 1) / 448) q.1)))) (fun (q : Nat × Option Addr × Nat) => ((roomsP r).1 + (roomsP r).2 - (n - 1) / 448).toNat - q.1) ((0, none, 0)) (Nat.zero_le _) ⟨rfl, rfl, rfl, rfl, rfl, rfl, rfl, rfl, trivial⟩ (S25) ?_
   intro q a35 X35 hF0 h35 S35
   refine st_seq (st_seq (st_reg ?_))
   refine mv h35 rfl rfl fun a36 h36 => ?_
   refine mv h36 rfl rfl fun a37 h37 => ?_
   refine mv h37 rfl rfl fun a38 h38 => ?_
   refine sv h38 (ex_add (h38.ev rfl) (h38.ev rfl) (by omega)) fun a39 h39 => ?_
   refine sv h39 (ex_lss (h39.ev rfl) (h39.ev rfl)) fun a40 h40 => ?_
   refine st_nil (go_then ?_)
   refine st_if (h40.ev rfl) (fun hc1 => ?_) (fun hc1 => ?_)
   ·
    have hlt : (n - 1) / 448 + (q.1 : Int) < (roomsP r).1 + (roomsP r).2 := of_decide_eq_true hc1
    have hm : 0 ≤ ((n - 1) / 448 + (q.1 : Int)) % (r.pg - 2) ∧ ((n - 1) / 448 + (q.1 : Int)) % (r.pg - 2) < r.pg - 2 := ⟨Int.emod_nonneg _ (by omega), Int.emod_lt_of_pos _ (by omega)⟩
    refine wp_skip (go_then (st_seq (wp_block ?_)))
    apply dr_flow h40 [false, false, false, false, false, false, false, false, false, false, false, true] _ (by kernel_rfl)
    case h =>
     refine qv h40 (fun X hX => ex_move (h40.ev rfl)) fun a41 h41 => ?_
     refine qv h41 (fun X hX => ex_move (h41.ev rfl)) fun a42 h42 => ?_
     refine qv (v := ringV r A c) h42 (fun X hX => ex_loads (by kernel_rfl) (by kernel_rfl) (h42.ev rfl) ((S35.grow hX).cellsAll (i := 2) rfl)) fun a43 h43 => ?_
     refine qv h43 (fun X hX => ex_move (h43.ev rfl)) fun a44 h44 => ?_
     refine sq_bel h44 (wn rfl) rfl rfl (fun X => (ex_call (fun _ _ => by kernel_rfl) (h44.evs rfl) rfl)) (fun X hX => inPage_any r A c _ (by omega) hpg _) fun a45 h45 => ?_
     refine qv h45 (fun X hX => ex_mul (h45.ev rfl) (h45.ev rfl) (by omega)) fun a46 h46 => ?_
     refine qv h46 (fun X hX => ex_add (h46.ev rfl) (h46.ev rfl) (by omega)) fun a47 h47 => ?_
     refine qv (v := ringV r A c) h47 (fun X hX => ex_loads (by kernel_rfl) (by kernel_rfl) (h47.ev rfl) ((S35.grow hX).cellsAll (i := 2) rfl)) fun a48 h48 => ?_
     refine qv h48 (fun X hX => ex_move (h48.ev rfl)) fun a49 h49 => ?_
     refine sq_bel h49 (wn rfl) rfl rfl (fun X => (ex_call (fun _ _ => by kernel_rfl) (h49.evs rfl) rfl)) (fun X hX => pageOf_any r A c _ _ ((S35.grow hX).rd0 hr) hk (by omega)) fun a50 h50 => ?_
     refine qv (v := .agg (wrV (wrR r sec ((n - 1) / 448 + (q.1 : Int)))).toArray) h50 (fun X hX => ex_build (zs := [.int .i64 0, .string ⟨#[]⟩]) (pl := [(0, 1), (1, 1)]) (by kernel_rfl) (by kernel_rfl) (h50.evs2 rfl) rfl rfl) fun a51 h51 => ?_
     refine sq_nil ?_
     apply nd_step (k := 11) (deps := []) (R := NewB _ (fun b => .slice (some ⟨b, 0, none⟩) 1 1) _ _) h51 rfl rfl rfl NewB.stable (fun X hX hΦ => lv_new (ex_bslice2 (cs := wrV (wrR r sec ((n - 1) / 448 + (q.1 : Int)))) (zc := [.int .i64 0, .string ⟨#[]⟩]) (sz := 2) rfl Tryz.underlying70 (by kernel_rfl) (by kernel_rfl) rfl rfl rfl (h51.evs2 rfl) rfl rfl rfl) hX.size)
     intro v53 a52 h52
     refine nd_end fun X53 hX53 hΦ53 => ?_
     have S53 := S35.grow hX53
     have qv53 := told_all hΦ53 (k := 11) rfl
     obtain ⟨b53, rfl, gb53, qv53⟩ := qv53
     have S54 := S35.add hX53 (e := .box _ _ _) qv53 (fun b hb => by cases hb; exact ⟨gb53, Box.lt qv53⟩)
     refine sl_append (z := .agg #[.int .i64 0, .string ⟨#[]⟩]) (sz := 2) (bytes := 24) h52 (wn rfl) ⟨rfl, rfl⟩ rfl Tryz.underlying70 (by kernel_rfl) rfl rfl (h52.ev rfl) (h52.ev rfl) S54 (i := 1) rfl (S54.boxRd (i := 0) rfl) rfl (List.all_eq_true.1 rfl) ⟨(by show q.1 + 1 ≤ 1000000; omega), by decide⟩ fun A54 c54 a55 X55 h55 S55 => ?_
     refine ma h55 rfl rfl fun a56 h56 => ?_
     replace S55 := S55.xsEq (i := 1) (xs' := wrsV (wrK r sec ((n - 1) / 448) (q.1 + 1))) rfl (by rw [wrK_succ, wrsV_append]; rfl)
     refine st_nil (go_block (go_then (st_reg ?_)))
     refine mv h56 rfl rfl fun a57 h57 => ?_
     refine sv h57 (as_val (v' := .int .i64 ((n - 1) / 448 + ((q.1 + 1 : Nat) : Int))) (congrArg _ (by omega)) (ex_add (h57.ev rfl) (h57.ev rfl) (by omega))) fun a58 h58 => ?_
     refine ma h58 rfl rfl fun a59 h59 => ?_
     refine st_nil (go_then ?_)
     exact ⟨(q.1 + 1, A54, c54), (by show _ - (q.1 + 1) < _; omega), (by show q.1 + 1 ≤ _; omega), h59.re ⟨rfl, rfl, rfl, rfl, rfl, rfl, rfl, rfl, trivial⟩, S55.sub (.cons _ (.cons_cons _ (.cons_cons _ (.cons_cons _ .slnil))))⟩
    case hB => kernel_rfl
    case hst => rfl
   ·
    have hge : q.1 = ((roomsP r).1 + (roomsP r).2 - (n - 1) / 448).toNat := by have := of_decide_eq_false hc1; omega
    refine wp_exit ?_
    refine go_exit_then ?_
    refine go_exit_then ?_
    refine go_exit ?_
    refine go_then (st_seq (st_reg ?_))
    refine mv h40 rfl rfl fun a60 h60 => ?_
    refine ma h60 rfl rfl fun a61 h61 => ?_
    refine ma h61 rfl rfl fun a62 h62 => ?_
    refine st_nil (go_then (wp_ret ?_))
    refine fin2 h62 rfl rfl rfl ?_
    have q2 := S35.ownB (i := 0) rfl
    have hl : (wfrL r n sec).length = q.1 := by unfold wfrL; rw [wrK_length, hge]
    refine ⟨q.2.1, q.2.2, ?_, ?_, S35.below⟩
    · rw [if_pos hz, hz, hl]
    · rw [if_pos hz, hl]; unfold wfrL; rw [← hge]; exact q2
 case hB => kernel_rfl
 case hst => rfl
def rwrE (r : RngP) (sec : Int) : Int := firstE [(chkR r).2, unl (inB sec 0 2048) 2]
def rwrV (r : RngP) (sec : Int) : Int × List UInt8 := if rwrE r sec = 0 then (sec + 8 * (r.r.s % 2), rsL r.r r.pg) else (0, [])
theorem RestartWrite_any (r : RngP) (A : Option Addr) (c : Nat) (sec : Int) (w : World) (hr : Rd w w.heap.size A (recsV r.rs)) (hlen : r.rs.length ≤ 1000) (hx : ∀ x ∈ r.rs, I6 x.l) :
 Calls Tryz.prog 41 #[ringV r A c, .int .i64 sec] w fun e w' => e = .returned (.tuple #[.agg (wrV (rwrV r sec)).toArray, .int .i64 (rwrE r sec)]) ∧ Below w.heap.size w w' := by
 refine st_enter (N := 29) Tryz.func41 rfl rfl rfl (fun a0 h0 => ?_)
 have S0 := St.init w
 refine st_seq (st_reg ?_)
 refine nb h0 rfl rfl S0 fun b2 a1 X1 gb2 h1 S1 => ?_
 refine na (.agg #[.int .i64 0, .string ⟨#[]⟩]) h1 rfl S1 fun b4 a2 X2 gb4 h2 S2 => ?_
 refine ma h2 rfl rfl fun a3 h3 => ?_
 refine st_nil (go_then (st_seq (st_seq (st_reg ?_))))
 refine sv h3 (ex_loads (by kernel_rfl) (by kernel_rfl) (h3.ev rfl) (S2.cellsAll (i := 1) rfl)) fun a4 h4 => ?_
 refine sl_bel h4 (wn rfl) (ex_call (fun _ _ => by kernel_rfl) (h4.evs rfl) rfl) rfl rfl S2 (ringErr_any r A c _ (S2.rd0 hr) hlen hx) fun a5 X5 h5 S5 => ?_
 refine mv h5 rfl rfl fun a6 h6 => ?_
 refine sl_pure h6 (wn rfl) (ex_call (fun _ _ => by kernel_rfl) (h6.evs rfl) rfl) rfl rfl (sectorErr_any _ _) fun a7 h7 => ?_
 refine sl_new h7 (wn rfl) (f := fun b => .slice (some ⟨b, 0, none⟩) 2 2) (ex_bslice Tryz.underlying140 (by kernel_rfl) (by kernel_rfl) (h7.evs2 rfl) rfl rfl rfl (by decide) (by decide)) rfl rfl S5 fun b11 a8 X8 gb11 h8 S8 => ?_
 refine sl_pure h8 (wn rfl) (ex_call (fun _ _ => by kernel_rfl) (h8.evs rfl) rfl) rfl rfl (logring_first2 (S8.at_ (i := 0) rfl)) fun a9 h9 => ?_
 refine ma h9 rfl rfl fun a10 h10 => ?_
 refine nsr ?_
 refine mv h10 rfl rfl fun a11 h11 => ?_
 refine sv h11 (ex_neq (h11.ev rfl) (h11.ev rfl)) fun a12 h12 => ?_
 refine st_nil (go_then ?_)
 refine st_if (h12.ev rfl) (fun hc0 => ?_) (fun hc0 => ?_)
 ·
  have hne : ¬ rwrE r sec = 0 := by unfold rwrE; simpa using hc0
  refine st_seq (st_reg ?_)
  refine sv h12 (ex_build (zs := [.int .i64 0, .string ⟨#[]⟩]) (pl := [(0, 1), (1, 1)]) (by kernel_rfl) (by kernel_rfl) (h12.evs2 rfl) rfl rfl) fun a13 h13 => ?_
  refine mv h13 rfl rfl fun a14 h14 => ?_
  refine sl_store0 h14 (wn rfl) ⟨rfl, rfl⟩ (h14.ev rfl) (h14.ev rfl) rfl (by kernel_rfl) S8 (i := 1) rfl rfl rfl fun X15 S15 => ?_
  refine ma h14 rfl rfl fun a16 h16 => ?_
  refine st_nil (go_then (wp_ret (ret_then ?_)))
  refine finct h16 rfl rfl rfl S15 (i := 1) rfl (by kernel_rfl) (by kernel_rfl) ?_
  exact ⟨by unfold rwrV; rw [if_neg hne]; rfl, S15.below⟩
 ·
  have hz : rwrE r sec = 0 := by unfold rwrE; simpa using hc0
  have hz' := hz
  unfold rwrE at hz'
  rw [firstE_zero] at hz'
  have hk := ok_iff.1 (hz' (chkR r).2 (.head _))
  have hs := inB_true.1 ((unl_zero (by decide)).1 (hz' (unl (inB sec 0 2048) 2) (.tail _ (.head _))))
  have hpg := hk.h.pg
  obtain ⟨u1, u2, u3⟩ := rstB_U4 hk.h.rb
  have u0 := u1.1
  refine wp_skip (go_then (st_seq ?_))
  apply dr_flow h12 [false, false, false, false, false, false, false, false, false, false, false] _ (by kernel_rfl)
  case h =>
   refine qv h12 (fun X hX => ex_move (h12.ev rfl)) fun a17 h17 => ?_
   refine qv h17 (fun X hX => ex_field (off := 1) (j := 1) (by kernel_rfl) (h17.ev rfl) rfl) fun a18 h18 => ?_
   refine qv (v := rstV r.r) h18 (fun X hX => ex_loads (by kernel_rfl) (by kernel_rfl) (h18.ev rfl) ((S8.grow hX).cellsOf (i := 2) rfl 1 3)) fun a19 h19 => ?_
   refine sq_bel h19 (wn rfl) rfl rfl (fun X => (ex_call (fun _ _ => by kernel_rfl) (h19.evs rfl) rfl)) (fun X hX => restartIn_any r.r u0 _) fun a20 h20 => ?_
   refine qv h20 (fun X hX => ex_mul (h20.ev rfl) (h20.ev rfl) (by omega)) fun a21 h21 => ?_
   refine qv h21 (fun X hX => ex_add (h21.ev rfl) (h21.ev rfl) (by omega)) fun a22 h22 => ?_
   refine qv h22 (fun X hX => ex_field (off := 1) (j := 1) (by kernel_rfl) (h22.ev rfl) rfl) fun a23 h23 => ?_
   refine qv (v := rstV r.r) h23 (fun X hX => ex_loads (by kernel_rfl) (by kernel_rfl) (h23.ev rfl) ((S8.grow hX).cellsOf (i := 2) rfl 1 3)) fun a24 h24 => ?_
   refine qv h24 (fun X hX => ex_field (off := 0) (j := 0) (by kernel_rfl) (h24.ev rfl) rfl) fun a25 h25 => ?_
   refine qv h25 (fun X hX => ex_load (by kernel_rfl) (h25.ev rfl) ((S8.grow hX).cell (i := 2) rfl rfl)) fun a26 h26 => ?_
   refine sq_bel h26 (wn rfl) rfl rfl (fun X => (ex_call (fun _ _ => by kernel_rfl) (h26.evs rfl) rfl)) (fun X hX => restartPage_any r.r r.pg u1 u2 u3 (by omega) _) fun a27 h27 => ?_
   refine sq_nil ?_
   refine nd_end fun X28 hX28 hΦ28 => ?_
   have S28 := S8.grow hX28
   refine sv (v := .agg (wrV (sec + 8 * (r.r.s % 2), rsL r.r r.pg)).toArray) h27 (ex_build (zs := [.int .i64 0, .string ⟨#[]⟩]) (pl := [(0, 1), (1, 1)]) (by kernel_rfl) (by kernel_rfl) (h27.evs2 rfl) rfl rfl) fun a29 h29 => ?_
   refine sl_store0 h29 (wn rfl) ⟨rfl, rfl⟩ (h29.ev rfl) (h29.ev rfl) rfl (by kernel_rfl) S28 (i := 1) rfl rfl rfl fun X30 S30 => ?_
   refine ma h29 rfl rfl fun a31 h31 => ?_
   refine st_nil (go_then (wp_ret ?_))
   refine finct h31 rfl rfl rfl S30 (i := 1) rfl (by kernel_rfl) (by kernel_rfl) ?_
   exact ⟨by unfold rwrV; rw [if_pos hz, hz]; rfl, S30.below⟩
  case hB => kernel_rfl
  case hst => rfl
end Go.Proofs.YtmlilplbdpjfcaaGreatDoor
