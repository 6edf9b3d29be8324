/-
  RingReads: the walk.
-/
import Derived.Test.YtmlilplbdpjfcaaGreatDoorRg29
import Derived.Test.YtmlilplbdpjfcaaGreatDoorRg33
namespace Go.Proofs.YtmlilplbdpjfcaaGreatDoor
set_option linter.unusedVariables false
set_option linter.unusedSimpArgs false
set_option maxRecDepth 4000
open Go.RowKit Go.Sort
theorem inR_le (s : List UInt8) : (inR s).rs.length ≤ 1000 := by
  unfold inR
  split
  · rename_i h
    unfold inE at h
    split at h
    · rename_i h2; exact absurd h h2
    · have := (ok_iff.1 h).h.len; omega
  · exact Nat.zero_le _
theorem RingReads_any (s : ByteArray) (hs : s.size ≤ maxLen) (w : World) :
    Calls Tryz.prog 4 #[.string s] w fun e w' => e = .returned (.bool true) ∧ Below w.heap.size w w' := by
  obtain ⟨l, rfl⟩ : ∃ l, s = bs l := ⟨bl s, (bs_bl s).symm⟩
  have hsz := bs_size l
  have hle := inR_le l
  refine st_enter (N := 30) Tryz.func4 rfl rfl rfl (fun a0 h0 => ?_)
  have S0 := St.init w
  refine st_seq (st_reg ?_)
  refine ma h0 rfl rfl fun a1 h1 => ?_
  refine st_nil (go_then (st_seq (st_seq (st_reg ?_))))
  refine sl_bel h1 (wn rfl) (ex_call (fun _ _ => by kernel_rfl) (h1.evs rfl) rfl) rfl rfl S0 (awake_any _) fun a2 X2 h2 S2 => ?_
  refine sl_val h2 (wn rfl) (ex_not (h2.ev rfl)) rfl rfl fun a3 h3 => ?_
  refine st_nil (go_then ?_)
  refine st_if_f (h3.ev rfl) (rfl) ?_
  refine wp_skip (go_then (st_seq (st_seq (st_reg ?_))))
  refine mv h3 rfl rfl fun a4 h4 => ?_
  refine sl_val h4 (wn rfl) (ex_slen Tryz.underlying9 (h4.ev rfl)) rfl rfl fun a5 h5 => ?_
  refine sl_val h5 (wn rfl) (ex_gtr (h5.ev rfl) (h5.ev rfl)) rfl rfl fun a6 h6 => ?_
  refine st_nil (go_then ?_)
  refine st_if (h6.ev rfl) (fun hc1 => ?_) (fun hc1 => ?_)
  · skip
    refine st_seq (st_reg ?_)
    refine ma h6 rfl rfl fun a7 h7 => ?_
    refine st_nil (go_then (wp_ret (ret_then ?_)))
    refine fin1 h7 rfl rfl ?_
    exact ⟨rfl, S2.below⟩
  · skip
    have hl : l.length ≤ 1000000 := by have := of_decide_eq_false hc1; omega
    refine wp_skip (go_then (st_seq (st_reg ?_)))
    refine mv h6 rfl rfl fun a8 h8 => ?_
    refine sl_ownt h8 (wn rfl) (ex_call (fun _ _ => by kernel_rfl) (h8.evs rfl) rfl) rfl rfl S2 (RingIn_l l _ hl) (Nat.le_refl _) fun A14 c14 a9 X9 h9 S9 => ?_
    refine mv h9 rfl rfl fun a10 h10 => ?_
    refine sl_val h10 (wn rfl) (ex_extract (h10.ev rfl) rfl) rfl rfl fun a11 h11 => ?_
    refine sl_val h11 (wn rfl) (ex_extract (h11.ev rfl) rfl) rfl rfl fun a12 h12 => ?_
    refine sl_new h12 (wn rfl) (f := fun b => .pointer (some ⟨b, 0, none⟩)) (ex_alloc (z := .agg #[.int .i64 0, .int .i64 0, .int .i64 0, .int .i64 0, .int .i64 0, .int .i64 0, .int .i64 0, .slice none 0 0, .int .i64 0]) (by kernel_rfl)) rfl rfl S9 fun b3 a13 X13 gb3 h13 S13 => ?_
    refine sl_store0 h13 (wn rfl) ⟨rfl, rfl⟩ (h13.ev rfl) (h13.ev rfl) rfl (by kernel_rfl) S13 (i := 0) rfl rfl rfl fun X14 S14 => ?_
    refine ma h13 rfl rfl fun a15 h15 => ?_
    refine st_nil (go_then (st_seq (st_reg ?_)))
    refine mv h15 rfl rfl fun a16 h16 => ?_
    refine sl_ownt h16 (wn rfl) (ex_call (fun _ _ => by kernel_rfl) (h16.evs rfl) rfl) rfl rfl S14 (rIn_l l _ hl) (Nat.le_refl _) fun A19 c19 a17 X17 h17 S17 => ?_
    refine mv h17 rfl rfl fun a18 h18 => ?_
    refine sl_val h18 (wn rfl) (ex_extract (h18.ev rfl) rfl) rfl rfl fun a19 h19 => ?_
    refine sl_val h19 (wn rfl) (ex_extract (h19.ev rfl) rfl) rfl rfl fun a20 h20 => ?_
    refine sl_new h20 (wn rfl) (f := fun b => .pointer (some ⟨b, 0, none⟩)) (ex_alloc (z := .agg #[.int .i64 0, .int .i64 0, .int .i64 0, .int .i64 0, .int .i64 0, .int .i64 0, .int .i64 0, .slice none 0 0, .int .i64 0]) (by kernel_rfl)) rfl rfl S17 fun b5 a21 X21 gb5 h21 S21 => ?_
    refine sl_store0 h21 (wn rfl) ⟨rfl, rfl⟩ (h21.ev rfl) (h21.ev rfl) rfl (by kernel_rfl) S21 (i := 0) rfl rfl rfl fun X22 S22 => ?_
    refine ma h21 rfl rfl fun a23 h23 => ?_
    refine st_nil (go_then (st_seq (st_reg ?_)))
    refine mv h23 rfl rfl fun a24 h24 => ?_
    refine mv h24 rfl rfl fun a25 h25 => ?_
    refine sl_val h25 (wn rfl) (ex_eql (h25.ev rfl) (h25.ev rfl)) rfl rfl fun a26 h26 => ?_
    refine mv h26 rfl rfl fun a27 h27 => ?_
    refine sl_val (v := ringV (inR l) A14 c14) h27 (wanted_yes h27 _ rfl rfl rfl ((by simp))) (ex_loads (by kernel_rfl) (by kernel_rfl) (h27.ev rfl) (S22.cellsAll (i := 2) rfl)) rfl rfl fun a28 h28 => ?_
    refine sl_val (v := ringV (inR l) A19 c19) h28 (wanted_yes h28 _ rfl rfl rfl ((by simp))) (ex_loads (by kernel_rfl) (by kernel_rfl) (h28.ev rfl) (S22.cellsAll (i := 0) rfl)) rfl rfl fun a29 h29 => ?_
    refine sl_bel h29 (wanted_yes h29 _ rfl rfl rfl ((by simp))) (ex_call (fun _ _ => by kernel_rfl) (h29.evs rfl) rfl) rfl rfl S22 (rSame_any (inR l) (inR l) A14 A19 c14 c19 _ (S22.rdOf (i := 3) rfl) (S22.rdOf (i := 1) rfl) hle hle) fun a30 X30 h30 S30 => ?_
    refine sl_val h30 (wn rfl) (ex_pick_t (h30.ev rfl) ((by simp)) (h30.ev rfl)) rfl rfl fun a31 h31 => ?_
    refine ma h31 rfl rfl fun a32 h32 => ?_
    refine st_nil (go_then (wp_ret ?_))
    refine fin1 h32 rfl rfl ?_
    exact ⟨by simp, S30.below⟩
end Go.Proofs.YtmlilplbdpjfcaaGreatDoor
