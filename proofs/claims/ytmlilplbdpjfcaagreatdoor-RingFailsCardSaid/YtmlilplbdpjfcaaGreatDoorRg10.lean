/-
  Chapter 20: what stands in a room, its page.
-/
import Derived.Test.YtmlilplbdpjfcaaGreatDoorRgC
namespace Go.Proofs.YtmlilplbdpjfcaaGreatDoor
set_option linter.unusedVariables false
set_option linter.unusedSimpArgs false
set_option maxRecDepth 4000
open Go.RowKit Go.Sort
theorem inPage_any (r : RngP) (A : Option Addr) (c : Nat) (q : Int) (hq : 0 ≤ q ∧ q ≤ 1000000000) (hpg : 4 ≤ r.pg ∧ r.pg ≤ 40) (w : World) :
 Calls Tryz.prog 95 #[ringV r A c, .int .i64 q] w fun e w' => e = .returned (.int .i64 (2 + q % (r.pg - 2))) ∧ Below w.heap.size w w' := by
 have h1 : 0 ≤ q % (r.pg - 2) ∧ q % (r.pg - 2) < r.pg - 2 := ⟨Int.emod_nonneg _ (by omega), Int.emod_lt_of_pos _ (by omega)⟩
 refine st_enter (N := 11) Tryz.func95 rfl rfl rfl (fun a0 h0 => ?_)
 have S0 := St.init w
 refine st_seq (st_reg ?_)
 refine nb h0 rfl rfl S0 fun b2 a1 X1 gb2 h1 S1 => ?_
 refine ma h1 rfl rfl fun a2 h2 => ?_
 refine nsr ?_
 refine mv h2 rfl rfl fun a3 h3 => ?_
 refine vf h3 0 0 rfl rfl rfl fun a4 h4 => ?_
 refine vl h4 S1 0 rfl rfl rfl rfl fun a5 h5 => ?_
 refine sv h5 (ex_sub (h5.ev rfl) (h5.ev rfl) (by omega)) fun a6 h6 => ?_
 refine sv h6 (ex_rem (h6.ev rfl) (h6.ev rfl) (by omega)) fun a7 h7 => ?_
 refine sv h7 (ex_add (h7.ev rfl) (h7.ev rfl) (by omega)) fun a8 h8 => ?_
 refine ma h8 rfl rfl fun a9 h9 => ?_
 refine st_nil (go_then (wp_ret ?_))
 refine fin1 h9 rfl rfl ?_
 exact ⟨rfl, S1.below⟩
theorem restartIn_any (x : RstP) (h : 0 ≤ x.s) (w : World) :
 Calls Tryz.prog 97 #[rstV x] w fun e w' => e = .returned (.int .i64 (x.s % 2)) ∧ Below w.heap.size w w' := by
 refine st_enter (N := 6) Tryz.func97 rfl rfl rfl (fun a0 h0 => ?_)
 have S0 := St.init w
 refine st_seq (st_reg ?_)
 refine nb h0 rfl rfl S0 fun b1 a1 X1 gb1 h1 S1 => ?_
 refine ma h1 rfl rfl fun a2 h2 => ?_
 refine nsr ?_
 refine vf h2 0 0 rfl rfl rfl fun a3 h3 => ?_
 refine vl h3 S1 0 rfl rfl rfl rfl fun a4 h4 => ?_
 refine sv h4 (ex_rem (h4.ev rfl) (h4.ev rfl) (by omega)) fun a5 h5 => ?_
 refine ma h5 rfl rfl fun a6 h6 => ?_
 refine st_nil (go_then (wp_ret ?_))
 refine fin1 h6 rfl rfl ?_
 exact ⟨rfl, S1.below⟩
theorem sectorErr_any (n : Int) (w : World) : Calls Tryz.prog 94 #[.int .i64 n] w fun e w' => e = .returned (.int .i64 (unl (inB n 0 2048) 2)) ∧ w = w' := by
 refine st_enter (N := 6) Tryz.func94 rfl rfl rfl (fun a0 h0 => ?_)
 have S0 := St.init w
 refine st_seq (st_reg ?_)
 refine ma h0 rfl rfl fun a1 h1 => ?_
 refine nsr ?_
 refine mv h1 rfl rfl fun a2 h2 => ?_
 refine sl_pure h2 (wn rfl) (ex_call (fun _ _ => by kernel_rfl) (h2.evs rfl) rfl) rfl rfl (logring_within_any _ _ _ _) fun a3 h3 => ?_
 refine sl_pure h3 (wn rfl) (ex_call (fun _ _ => by kernel_rfl) (h3.evs rfl) rfl) rfl rfl (logring_unless_any _ _ _) fun a4 h4 => ?_
 refine ma h4 rfl rfl fun a5 h5 => ?_
 refine st_nil (go_then (wp_ret ?_))
 refine fin1 h5 rfl rfl ?_
 exact ⟨rfl, rfl⟩
theorem copy_cut {q : Int} {x : RecP} {l : List UInt8} (hl : l.length = 448) (hs : x.b.size ≤ 3000) (hw : ¬ toR q x ≤ frR q x) :
 l.take (0 + (frR q x - q * 448).toNat * 1) ++ (bl ((bs (encR x)).extract (frR q x - (x.l - 1)).toNat (bs (encR x)).size)).take ((toR q x - q * 448).toNat - (frR q x - q * 448).toNat) ++ l.drop (0 + (frR q x - q * 448).toNat * 1 + min ((bs (encR x)).extract (frR q x - (x.l - 1)).toNat (bs (encR x)).size).size ((toR q x - q * 448).toNat - (frR q x - q * 448).toNat)) = patL l (frR q x - q * 448).toNat (cutR q x) := by
 have h1 := cutR_length hs hw
 have h2 := room_in hw
 have h3 := encR_length hs
 have h5 : x.l - 1 ≤ frR q x := by unfold frR; omega
 have h6 : toR q x ≤ x.l - 1 + szR x.b.size := by unfold toR bhR; omega
 have hsz : ((bs (encR x)).extract (frR q x - (x.l - 1)).toNat (bs (encR x)).size).size = (encR x).length - (frR q x - (x.l - 1)).toNat := by rw [ByteArray.size_extract, bs_size]; omega
 have hbl : bl ((bs (encR x)).extract (frR q x - (x.l - 1)).toNat (bs (encR x)).size) = (encR x).drop (frR q x - (x.l - 1)).toNat := by
  have : bl ((bs (encR x)).extract (frR q x - (x.l - 1)).toNat (bs (encR x)).size) = ((bl (bs (encR x))).drop (frR q x - (x.l - 1)).toNat).take ((bs (encR x)).size - (frR q x - (x.l - 1)).toNat) := by
   unfold bl; rw [ByteArray.data_extract, Array.toList_extract, List.extract_eq_take_drop]
  rw [this, bl_bs, bs_size, List.take_of_length_le (by rw [List.length_drop]; omega)]
 have e1 : (toR q x - q * 448).toNat - (frR q x - q * 448).toNat = (toR q x - frR q x).toNat := by omega
 rw [hsz, hbl, e1, Nat.zero_add, Nat.mul_one, Nat.min_eq_right (by omega)]
 unfold patL
 have e2 : (cutR q x).length = (toR q x - frR q x).toNat := by omega
 rw [e2]
 rfl
theorem pageIn_any (r : RngP) (A : Option Addr) (c : Nat) (q : Int) (w : World) (hr : Rd w w.heap.size A (recsV r.rs)) (hk : OkP r) (hq : 0 ≤ q ∧ q ≤ 1000000) :
 Calls Tryz.prog 127 #[ringV r A c, .int .i64 q] w fun e w' => e = .returned (pageV q (pgFld q r.rs).2.2 (bs ((pgFld q r.rs).1.take (pgFld q r.rs).2.1.toNat))) ∧ Below w.heap.size w w' := by
 have hlen := hk.h.len
 have hinv := pgK_inv q hk.all hk.h.rr.2.2.2
 refine st_enter (N := 71) Tryz.func127 rfl rfl rfl (fun a0 h0 => ?_)
 have S0 := St.init w
 refine st_seq (st_reg ?_)
 refine nb h0 rfl rfl S0 fun b2 a1 X1 gb2 h1 S1 => ?_
 refine na (.agg #[.int .i64 0, .int .i64 0, .string ⟨#[]⟩]) h1 rfl S1 fun b4 a2 X2 gb4 h2 S2 => ?_
 refine nsr ?_
 refine mv h2 rfl rfl fun a3 h3 => ?_
 refine sv (v := pageV q 0 ⟨#[]⟩) h3 (ex_build (zs := [.int .i64 0, .int .i64 0, .string ⟨#[]⟩]) (pl := [(0, 1), (1, 1), (2, 1)]) (by kernel_rfl) (by kernel_rfl) (h3.evs2 rfl) rfl rfl) fun a4 h4 => ?_
 refine na (.agg #[.int .i64 0, .int .i64 0, .string ⟨#[]⟩]) h4 rfl S2 fun b5 a5 X5 gb5 h5 S5 => ?_
 refine sl_store0 h5 (wn rfl) ⟨rfl, rfl⟩ (h5.ev rfl) (h5.ev rfl) rfl (by kernel_rfl) S5 (i := 0) rfl rfl rfl fun X6 S6 => ?_
 refine nsr ?_
 refine sl_make (n := 448) h5 (wn rfl) ⟨rfl, rfl⟩ rfl Tryz.underlying130 (by kernel_rfl) (h5.ev rfl) (h5.ev rfl) (by omega) S6 fun b16 a7 X7 gb16 h7 S7 => ?_
 refine ma h7 rfl rfl fun a8 h8 => ?_
 refine nsr ?_
 refine ma h8 rfl rfl fun a9 h9 => ?_
 refine nsr ?_
 refine mv h9 rfl rfl fun a10 h10 => ?_
 refine sv h10 (ex_mul (h10.ev rfl) (h10.ev rfl) (by omega)) fun a11 h11 => ?_
 refine mv h11 rfl rfl fun a12 h12 => ?_
 refine sv h12 (ex_add (h12.ev rfl) (h12.ev rfl) (by omega)) fun a13 h13 => ?_
 refine sv h13 (ex_mul (h13.ev rfl) (h13.ev rfl) (by omega)) fun a14 h14 => ?_
 refine ma h14 rfl rfl fun a15 h15 => ?_
 refine ma h15 rfl rfl fun a16 h16 => ?_
 refine st_nil (go_then (st_seq (st_seq (st_reg ?_))))
 refine vf h16 7 7 rfl rfl rfl fun a17 h17 => ?_
 refine vl h17 S7 3 rfl rfl rfl rfl fun a18 h18 => ?_
 refine sv h18 (ex_len Tryz.underlying24 (h18.ev rfl)) fun a19 h19 => ?_
 refine mv h19 rfl rfl fun a20 h20 => ?_
 refine st_nil (go_then (wp_block ?_))
 refine st_loop h20 S7 [24, 23, 9, 8, 6, 5, 4] (fun (k : Nat) => [(25, .int .i64 k), (7, .int .i64 (pgK q r.rs k).2.1)]) (fun (k : Nat) => k ≤ r.rs.length) (fun k L => (L.set 0 (.byt b16 (pgK q r.rs k).1)).set 1 (.box b5 #[.int .i64 q, .int .i64 (pgK q r.rs k).2.2, .string ⟨#[]⟩] 149)) (fun (k : Nat) => r.rs.length - k) (0) (Nat.zero_le _) ⟨rfl, rfl, rfl, rfl, rfl, rfl, rfl, rfl, rfl, trivial⟩ (S7) ?_
 intro k a21 X21 hF0 h21 S21
 obtain ⟨e0, hI, he0⟩ := hinv k hF0
 refine st_seq (st_reg ?_)
 refine sv h21 (ex_lss (h21.ev rfl) (h21.ev rfl)) fun a22 h22 => ?_
 refine st_nil (go_then (st_seq ?_))
 refine st_if (h22.ev rfl) (fun hc0 => ?_) (fun hc0 => ?_)
 ·
  have hlt : k < r.rs.length := by have := of_decide_eq_true hc0; omega
  obtain ⟨b, o, rfl, hB, _⟩ := hr.opened (by rw [recsV_length]; omega)
  have hx := hk.rcd k hlt
  have hz := szR_in hx.2.2
  have hst := pgK_succ q r.rs k hlt
  rw [pgStp_eq] at hst
  refine wp_skip (go_then (st_seq (wp_block (st_seq (st_reg ?_)))))
  refine sv h22 (ex_index (i := k) (sz := 3) Tryz.underlying24 (by kernel_rfl) (h22.ev rfl) (h22.ev rfl) (by omega) (by omega) rfl) fun a23 h23 => ?_
  refine sv (v := recV r.rs[k]) h23 (ex_loads (by kernel_rfl) (by kernel_rfl) (h23.ev rfl) (recAt (S21.rd0 hr) hlt)) fun a24 h24 => ?_
  refine na (.agg #[.int .i64 0, .int .i64 0, .string ⟨#[]⟩]) h24 rfl S21 fun b11 a25 X25 gb11 h25 S25 => ?_
  refine sl_store0 h25 (wn rfl) ⟨rfl, rfl⟩ (h25.ev rfl) (h25.ev rfl) rfl (by kernel_rfl) S25 (i := 0) rfl rfl rfl fun X26 S26 => ?_
  refine st_nil (go_then (st_seq ?_))
  apply dr_flow h25 [false, false, false, false, false, false, false, false, false, false] _ (by kernel_rfl)
  case h =>
   refine qv h25 (fun X hX => ex_move (h25.ev rfl)) fun a27 h27 => ?_
   refine qv h27 (fun X hX => ex_field (off := 0) (j := 0) (by kernel_rfl) (h27.ev rfl) rfl) fun a28 h28 => ?_
   refine qv h28 (fun X hX => ex_load (by kernel_rfl) (h28.ev rfl) ((S26.grow hX).cell (i := 0) rfl rfl)) fun a29 h29 => ?_
   refine qv h29 (fun X hX => ex_sub (h29.ev rfl) (h29.ev rfl) (by show -9223372036854775808 ≤ r.rs[k].l - 1 ∧ r.rs[k].l - 1 < 9223372036854775808; omega)) fun a30 h30 => ?_
   refine qv h30 (fun X hX => ex_max (by kernel_rfl) (h30.ev rfl) (h30.ev rfl)) fun a31 h31 => ?_
   refine qv h31 (fun X hX => ex_move (h31.ev rfl)) fun a32 h32 => ?_
   refine qv (v := recV r.rs[k]) h32 (fun X hX => ex_loads (by kernel_rfl) (by kernel_rfl) (h32.ev rfl) ((S26.grow hX).cellsAll (i := 0) rfl)) fun a33 h33 => ?_
   refine sq_bel h33 (wn rfl) rfl rfl (fun X => (ex_call (fun _ _ => by kernel_rfl) (h33.evs rfl) rfl)) (fun X hX => behind_any r.rs[k] _ hx.1 (by omega) (by omega)) fun a34 h34 => ?_
   refine qv h34 (fun X hX => ex_min (by kernel_rfl) (h34.ev rfl) (h34.ev rfl)) fun a35 h35 => ?_
   refine qv h35 (fun X hX => ex_assign (h35.ev rfl)) fun a36 h36 => ?_
   refine sq_nil ?_
   refine nd_end fun X37 hX37 hΦ37 => ?_
   have S37 := S26.grow hX37
   refine ma h36 rfl rfl fun a38 h38 => ?_
   refine st_nil (go_then (st_seq (st_seq (st_reg ?_))))
   refine mv h38 rfl rfl fun a39 h39 => ?_
   refine mv h39 rfl rfl fun a40 h40 => ?_
   refine sv h40 (ex_geq (h40.ev rfl) (h40.ev rfl)) fun a41 h41 => ?_
   refine st_nil (go_then ?_)
   refine st_if (h41.ev rfl) (fun hc1 => ?_) (fun hc1 => ?_)
   ·
    have hw : toR q r.rs[k] ≤ frR q r.rs[k] := of_decide_eq_true hc1
    have e1 : pgK q r.rs (k + 1) = pgK q r.rs k := by rw [hst, if_pos hw]
    rw [← e1] at h41 S37
    refine wp_exit ?_
    refine go_exit_then ?_
    refine go_exit ?_
    refine go_then (st_reg ?_)
    refine sv h41 (ex_add (h41.ev rfl) (h41.ev rfl) (by omega)) fun a42 h42 => ?_
    refine mv h42 rfl rfl fun a43 h43 => ?_
    refine st_nil (go_then ?_)
    exact ⟨k + 1, by omega, hlt, h43.re ⟨rfl, rfl, rfl, rfl, rfl, rfl, rfl, rfl, rfl, trivial⟩, S37.sub (.cons _ (.cons_cons _ (.cons_cons _ (.cons_cons _ (.cons_cons _ .slnil)))))⟩
   ·
    have hw : ¬ toR q r.rs[k] ≤ frR q r.rs[k] := of_decide_eq_false hc1
    rw [if_neg hw] at hst
    have hri := room_in hw
    have hfr : r.rs[k].l - 1 ≤ frR q r.rs[k] := by unfold frR; omega
    have hto : toR q r.rs[k] ≤ r.rs[k].l - 1 + szR r.rs[k].b.size := by unfold toR bhR; omega
    have hel := encR_length hx.2.2
    have hpl := hI.len
    refine wp_skip (go_then (st_seq ?_))
    apply dr_flow h41 [false, false, false, false, false, false, false, false, false, false, false, false, false, false, false, false] _ (by kernel_rfl)
    case h =>
     refine qv h41 (fun X hX => ex_move (h41.ev rfl)) fun a44 h44 => ?_
     refine qv h44 (fun X hX => ex_move (h44.ev rfl)) fun a45 h45 => ?_
     refine qv h45 (fun X hX => ex_move (h45.ev rfl)) fun a46 h46 => ?_
     refine qv h46 (fun X hX => as_val (v' := .int .i64 ((frR q r.rs[k] - q * 448).toNat : Int)) (by show Value.int .i64 (frR q r.rs[k] - q * 448) = _; congr 1; omega) (ex_sub (h46.ev rfl) (h46.ev rfl) (by show -9223372036854775808 ≤ frR q r.rs[k] - q * 448 ∧ _; omega))) fun a47 h47 => ?_
     refine qv h47 (fun X hX => ex_move (h47.ev rfl)) fun a48 h48 => ?_
     refine qv h48 (fun X hX => ex_move (h48.ev rfl)) fun a49 h49 => ?_
     refine qv h49 (fun X hX => as_val (v' := .int .i64 ((toR q r.rs[k] - q * 448).toNat : Int)) (by show Value.int .i64 (toR q r.rs[k] - q * 448) = _; congr 1; omega) (ex_sub (h49.ev rfl) (h49.ev rfl) (by show -9223372036854775808 ≤ toR q r.rs[k] - q * 448 ∧ _; omega))) fun a50 h50 => ?_
     refine qv h50 (fun X hX => ex_slice (c := 448) (l := (frR q r.rs[k] - q * 448).toNat) (h := (toR q r.rs[k] - q * 448).toNat) (sz := 1) Tryz.underlying130 (by kernel_rfl) (h50.ev rfl) (h50.ev rfl) (h50.ev rfl) (by omega) (by omega) (.inl (by omega)) rfl) fun a51 h51 => ?_
     refine qv (v := recV r.rs[k]) h51 (fun X hX => ex_loads (by kernel_rfl) (by kernel_rfl) (h51.ev rfl) ((S37.grow hX).cellsAll (i := 0) rfl)) fun a52 h52 => ?_
     refine sq_bel h52 (wn rfl) rfl rfl (fun X => (ex_call (fun _ _ => by kernel_rfl) (h52.evs rfl) rfl)) (fun X hX => encoded_any r.rs[k] (by omega) (by omega) hx.2.2 _) fun a53 h53 => ?_
     refine qv h53 (fun X hX => ex_move (h53.ev rfl)) fun a54 h54 => ?_
     refine qv h54 (fun X hX => ex_field (off := 0) (j := 0) (by kernel_rfl) (h54.ev rfl) rfl) fun a55 h55 => ?_
     refine qv h55 (fun X hX => ex_load (by kernel_rfl) (h55.ev rfl) ((S37.grow hX).cell (i := 0) rfl rfl)) fun a56 h56 => ?_
     refine qv h56 (fun X hX => ex_sub (h56.ev rfl) (h56.ev rfl) (by show -9223372036854775808 ≤ frR q r.rs[k] - r.rs[k].l ∧ _; omega)) fun a57 h57 => ?_
     refine qv h57 (fun X hX => as_val (v' := .int .i64 ((frR q r.rs[k] - (r.rs[k].l - 1)).toNat : Int)) (by show Value.int .i64 (frR q r.rs[k] - r.rs[k].l + 1) = _; congr 1; omega) (ex_add (h57.ev rfl) (h57.ev rfl) (by show -9223372036854775808 ≤ frR q r.rs[k] - r.rs[k].l + 1 ∧ _; omega))) fun a58 h58 => ?_
     refine qv h58 (fun X hX => ex_sslice (l := (frR q r.rs[k] - (r.rs[k].l - 1)).toNat) (h := (bs (encR r.rs[k])).size) Tryz.underlying9 (h58.ev rfl) (h58.ev rfl) rfl (by rw [bs_size]; omega) (Nat.le_refl _)) fun a59 h59 => ?_
     refine sq_nil ?_
     refine nd_end fun X60 hX60 hΦ60 => ?_
     have S60 := S37.grow hX60
     refine sl_copys h59 (wn rfl) rfl Tryz.underlying130 (by kernel_rfl) (h59.ev rfl) (h59.ev rfl) S60 (i := 1) rfl (by show 0 + (frR q r.rs[k] - q * 448).toNat * 1 + ((toR q r.rs[k] - q * 448).toNat - (frR q r.rs[k] - q * 448).toNat) ≤ (pgK q r.rs k).1.length; omega) fun a61 X61 hq61 S61 => ?_
     have h61 := hq61 rfl
     replace S61 := S61.byEq (i := 1) (l' := (pgK q r.rs (k + 1)).1) rfl (by rw [hst]; exact copy_cut hpl hx.2.2 hw)
     refine st_nil (go_then ?_)
     apply dr_flow h61 [false, false, false, false, false, false] _ (by kernel_rfl)
     case h =>
      refine qv h61 (fun X hX => ex_move (h61.ev rfl)) fun a62 h62 => ?_
      refine qv h62 (fun X hX => ex_move (h62.ev rfl)) fun a63 h63 => ?_
      refine qv h63 (fun X hX => as_val (v' := .int .i64 (pgK q r.rs (k + 1)).2.1) (by rw [hst]; rfl) (ex_sub (h63.ev rfl) (h63.ev rfl) (by show -9223372036854775808 ≤ toR q r.rs[k] - q * 448 ∧ _; omega))) fun a64 h64 => ?_
      refine qv h64 (fun X hX => ex_field (off := 1) (j := 1) (by kernel_rfl) (h64.ev rfl) rfl) fun a65 h65 => ?_
      refine qv h65 (fun X hX => as_val (v' := .int .i64 (pgK q r.rs (k + 1)).2.2) (by rw [hst]) (ex_load (by kernel_rfl) (h65.ev rfl) ((S61.grow hX).cell (i := 0) rfl rfl))) fun a66 h66 => ?_
      refine qv h66 (fun X hX => ex_assign (h66.ev rfl)) fun a67 h67 => ?_
      refine sq_nil ?_
      refine nd_end fun X68 hX68 hΦ68 => ?_
      have S68 := S61.grow hX68
      refine vf h67 1 1 rfl rfl rfl fun a69 h69 => ?_
      refine sl_store h69 (wn rfl) ⟨rfl, rfl⟩ (h69.ev rfl) (h69.ev rfl) rfl (by kernel_rfl) S68 (i := 2) rfl rfl rfl fun X70 S70 => ?_
      refine st_nil (go_block (go_then (st_reg ?_)))
      refine sv h69 (ex_add (h69.ev rfl) (h69.ev rfl) (by omega)) fun a71 h71 => ?_
      refine mv h71 rfl rfl fun a72 h72 => ?_
      refine st_nil (go_then ?_)
      exact ⟨k + 1, by omega, hlt, h72.re ⟨rfl, rfl, rfl, rfl, rfl, rfl, rfl, rfl, rfl, trivial⟩, S70.sub (.cons _ (.cons_cons _ (.cons_cons _ (.cons_cons _ (.cons_cons _ .slnil)))))⟩
     case hB => kernel_rfl
     case hst => rfl
    case hB => kernel_rfl
    case hst => rfl
  case hB => kernel_rfl
  case hst => rfl
 ·
  have hge : k = r.rs.length := by have := of_decide_eq_false hc0; omega
  rw [hge, pgK_all] at hI
  rw [hge, pgK_all] at S21 h22
  have hu0 := hI.u0
  have hu1 := hI.u1
  have hil := hI.len
  refine wp_exit ?_
  refine go_exit_then ?_
  refine go_exit_then ?_
  refine go_exit ?_
  refine go_then (st_seq (st_reg ?_))
  refine mv h22 rfl rfl fun a73 h73 => ?_
  refine sv h73 (as_val (v' := .int .i64 ((pgFld q r.rs).2.1.toNat : Int)) (by congr 1; omega) (ex_move (h73.ev rfl))) fun a74 h74 => ?_
  refine sv h74 (ex_slice (l := 0) (h := (pgFld q r.rs).2.1.toNat) (sz := 1) Tryz.underlying130 (by kernel_rfl) (h74.ev rfl) rfl (h74.ev rfl) (Nat.zero_le _) (by omega) (.inr rfl) rfl) fun a75 h75 => ?_
  refine sv h75 (as_val (v' := .string (bs ((pgFld q r.rs).1.take (pgFld q r.rs).2.1.toNat))) (by simp only [Nat.zero_mul, Nat.add_zero, List.drop_zero, Nat.sub_zero]) (ex_bstr Tryz.underlying130 Tryz.underlying5 Tryz.underlying9 (h75.ev rfl) (S21.bytStr (i := 0) (o' := (0 + 0 * 1)) (n := ((pgFld q r.rs).2.1.toNat - 0)) rfl (by omega)).1 (S21.bytStr (i := 0) (o' := (0 + 0 * 1)) (n := ((pgFld q r.rs).2.1.toNat - 0)) rfl (by omega)).2)) fun a76 h76 => ?_
  refine vf h76 2 2 rfl rfl rfl fun a77 h77 => ?_
  refine sl_store h77 (wn rfl) ⟨rfl, rfl⟩ (h77.ev rfl) (h77.ev rfl) rfl (by kernel_rfl) S21 (i := 1) rfl rfl rfl fun X78 S78 => ?_
  refine nsr ?_
  refine sv h77 (ex_loads (by kernel_rfl) (by kernel_rfl) (h77.ev rfl) (S78.cellsAll (i := 1) rfl)) fun a79 h79 => ?_
  refine sl_store0 h79 (wn rfl) ⟨rfl, rfl⟩ (h79.ev rfl) (h79.ev rfl) rfl (by kernel_rfl) S78 (i := 2) rfl rfl rfl fun X80 S80 => ?_
  refine st_nil (go_then (wp_ret ?_))
  refine finc h79 rfl rfl S80 (i := 2) rfl (by kernel_rfl) (by kernel_rfl) ?_
  exact ⟨rfl, S80.below⟩
theorem pageOf_any (r : RngP) (A : Option Addr) (c : Nat) (q : Int) (w : World) (hr : Rd w w.heap.size A (recsV r.rs)) (hk : OkP r) (hq : 0 ≤ q ∧ q ≤ 1000000) :
 Calls Tryz.prog 96 #[ringV r A c, .int .i64 q] w fun e w' => e = .returned (.string (bs (pgR r q))) ∧ Below w.heap.size w w' := by
 have hlen := hk.h.len
 have hpg := hk.h.pg
 obtain ⟨e0, hI, _⟩ := pgK_inv q hk.all hk.h.rr.2.2.2 r.rs.length (Nat.le_refl _)
 rw [pgK_all] at hI
 obtain ⟨hw1, hw2⟩ := hI.whole
 have hs : 0 ≤ (pgFld q r.rs).2.2 ∧ (pgFld q r.rs).2.2 ≤ 60000 := by
  have key : ∀ (l : List RecP) (st : List UInt8 × Int × Int), (∀ x ∈ l, 0 ≤ x.s ∧ x.s ≤ 60000) → (0 ≤ st.2.2 ∧ st.2.2 ≤ 60000) → 0 ≤ (l.foldl (pgStp q) st).2.2 ∧ (l.foldl (pgStp q) st).2.2 ≤ 60000 := by
   intro l
   induction l with
   | nil => intro st _ h; exact h
   | cons x l ih =>
    intro st h1 h2
    refine ih _ (fun y hy => h1 y (by simp [hy])) ?_
    rw [pgStp_eq]
    split
    · exact h2
    · exact h1 x (by simp)
  refine key r.rs _ (fun x hx => ?_) ⟨by decide, by decide⟩
  obtain ⟨k, hk2, rfl⟩ := List.getElem_of_mem hx
  have h1 := inB_true.1 (recE_zero.1 (hk.all k hk2)).2.2.2.1
  have h2 := hk.h.rr.1
  omega
 have he : prL (pgH q ((pgFld q r.rs).1.take (pgFld q r.rs).2.1.toNat).length (pgFld q r.rs).2.2 ((pgFld q r.rs).1.take (pgFld q r.rs).2.1.toNat ++ zerosL (448 - ((pgFld q r.rs).1.take (pgFld q r.rs).2.1.toNat).length))) ((q / (r.pg - 2) + (pgFld q r.rs).2.2) % 65535 + 1) = pgR r q := by
  rw [hw1, hw2]; rfl
 have hcl : ((pgFld q r.rs).1.take (pgFld q r.rs).2.1.toNat).length ≤ 448 := by have := hI.u1; omega
 refine st_enter (N := 12) Tryz.func96 rfl rfl rfl (fun a0 h0 => ?_)
 have S0 := St.init w
 refine st_seq (st_reg ?_)
 refine nb h0 rfl rfl S0 fun b2 a1 X1 gb2 h1 S1 => ?_
 refine ma h1 rfl rfl fun a2 h2 => ?_
 refine st_nil (go_then (st_seq ?_))
 apply dr_flow h2 [false, false, false, false, false, false] _ (by kernel_rfl)
 case h =>
  refine qv (v := ringV r A c) h2 (fun X hX => ex_loads (by kernel_rfl) (by kernel_rfl) (h2.ev rfl) ((S1.grow hX).cellsAll (i := 0) rfl)) fun a3 h3 => ?_
  refine qv h3 (fun X hX => ex_move (h3.ev rfl)) fun a4 h4 => ?_
  refine sq_bel h4 (wn rfl) rfl rfl (fun X => (ex_call (fun _ _ => by kernel_rfl) (h4.evs rfl) rfl)) (fun X hX => pageIn_any r A c q _ ((S1.grow hX).rd0 hr) hk hq) fun a5 h5 => ?_
  refine qv h5 (fun X hX => ex_field (off := 0) (j := 0) (by kernel_rfl) (h5.ev rfl) rfl) fun a6 h6 => ?_
  refine qv h6 (fun X hX => ex_load (by kernel_rfl) (h6.ev rfl) ((S1.grow hX).cell (i := 0) rfl rfl)) fun a7 h7 => ?_
  refine qv h7 (fun X hX => ex_sub (h7.ev rfl) (h7.ev rfl) (by omega)) fun a8 h8 => ?_
  refine sq_nil ?_
  refine nd_end fun X9 hX9 hΦ9 => ?_
  have S9 := S1.grow hX9
  refine sl_bel h8 (wn rfl) (ex_call (fun _ _ => by kernel_rfl) (h8.evs rfl) rfl) rfl rfl S9 (block_any q _ _ _ (by omega) (by omega) hcl (by omega) _) fun a10 X10 h10 S10 => ?_
  refine ma h10 rfl rfl fun a11 h11 => ?_
  refine st_nil (go_then (wp_ret ?_))
  refine fin1 h11 rfl rfl ?_
  exact ⟨by rw [he], S10.below⟩
 case hB => kernel_rfl
 case hst => rfl
theorem rooms_bd {r : RngP} (h : OkP r) : 0 ≤ (roomsP r).1 ∧ (roomsP r).1 ≤ 300000 ∧ (roomsP r).2 ≤ 38 ∧ 0 ≤ (roomsP r).2 := by
 have h1 := h.tl.2.2
 have h2 := h.h.pg
 have h3 := h.o1
 unfold roomsP at h1 ⊢
 cases hg : r.rs.getLast? with
 | none => simp
 | some y =>
  rw [hg] at h1
  simp only at h1 ⊢
  have hy : r.r.o ≤ bhR y := by
   have hne : r.rs ≠ [] := fun e => by rw [e] at hg; cases hg
   have hpos := List.length_pos_iff.2 hne
   have hmono : ∀ k (hk : k < r.rs.length), r.r.o ≤ r.rs[k].l := by
    intro k
    induction k with
    | zero =>
     intro hk
     have := (recE_zero.1 (h.all 0 hk)).2.2.1
     unfold bfrR ordB at this
     simp only [if_true, Bool.and_eq_true, beq_iff_eq, decide_eq_true_eq] at this
     omega
    | succ k ih =>
     intro hk
     have h5 := rec_behind h.all h.h.rr.2.2.2 k hk
     have h6 := ih (by omega)
     have h7 := szR_in (h.rcd k (by omega)).2.2
     unfold bhR at h5; omega
   have hl := last_get hne
   rw [hl] at hg
   injection hg with hg
   rw [← hg]
   have := hmono (r.rs.length - 1) (by omega)
   have h8 := szR_in (h.rcd (r.rs.length - 1) (by omega)).2.2
   unfold bhR; omega
  omega
end Go.Proofs.YtmlilplbdpjfcaaGreatDoor
