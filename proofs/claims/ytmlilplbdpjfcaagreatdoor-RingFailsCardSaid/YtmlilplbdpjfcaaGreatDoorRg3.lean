/-
  Chapter 20: logs checked.
-/
import Derived.Test.YtmlilplbdpjfcaaGreatDoorRgA
import Derived.Test.YtmlilplbdpjfcaaGreatDoorSplB
namespace Go.Proofs.YtmlilplbdpjfcaaGreatDoor
set_option linter.unusedVariables false
set_option linter.unusedSimpArgs false
open Go.RowKit Go.Sort
theorem last_get {l : List RecP} (h : l ≠ []) : l.getLast? = some (l[l.length - 1]'(by have := List.length_pos_iff.2 h; omega)) := by
 rw [List.getLast?_eq_getElem?, List.getElem?_eq_getElem]
theorem rooms_any (r : RngP) (A : Option Addr) (c : Nat) (w : World) (hr : Rd w w.heap.size A (recsV r.rs)) (hb : ∀ y, r.rs.getLast? = some y → Bfr y) (ho : r.rs = [] ∨ (1 ≤ r.r.o ∧ r.r.o ≤ 100000000)) (hlen : r.rs.length ≤ 1000) :
 Calls Tryz.prog 80 #[ringV r A c] w fun e w' => e = .returned (.tuple #[.int .i64 (roomsP r).1, .int .i64 (roomsP r).2]) ∧ Below w.heap.size w w' := by
 refine st_enter (N := 29) Tryz.func80 rfl rfl rfl (fun a0 h0 => ?_)
 have S0 := St.init w
 refine st_seq (st_reg ?_)
 refine nb h0 rfl rfl S0 fun b1 a1 X1 gb1 h1 S1 => ?_
 refine ma h1 rfl rfl fun a2 h2 => ?_
 refine ma h2 rfl rfl fun a3 h3 => ?_
 refine st_nil (go_then (st_seq (st_seq (st_reg ?_))))
 refine vf h3 7 7 rfl rfl rfl fun a4 h4 => ?_
 refine vl h4 S1 0 rfl rfl rfl rfl fun a5 h5 => ?_
 refine sv h5 (ex_len Tryz.underlying24 (h5.ev rfl)) fun a6 h6 => ?_
 refine sv h6 (ex_eql (h6.ev rfl) (h6.ev rfl)) fun a7 h7 => ?_
 refine st_nil (go_then ?_)
 refine st_if (h7.ev rfl) (fun hc0 => ?_) (fun hc0 => ?_)
 ·
  have hnil : r.rs = [] := by simp only [beq_iff_eq] at hc0; exact List.eq_nil_of_length_eq_zero (by omega)
  refine st_seq (st_reg ?_)
  refine ma h7 rfl rfl fun a8 h8 => ?_
  refine ma h8 rfl rfl fun a9 h9 => ?_
  refine st_nil (go_then (wp_ret (ret_then ?_)))
  refine fin2 h9 rfl rfl rfl ?_
  exact ⟨by unfold roomsP; rw [hnil]; rfl, S1.below⟩
 ·
  have hne : r.rs ≠ [] := by intro h; rw [h] at hc0; simp at hc0
  replace ho := ho.resolve_left hne
  have hpos := List.length_pos_iff.2 hne
  have hlast := last_get hne
  have hy := hb _ hlast
  have hbd := hy.bd
  obtain ⟨b, o, rfl, hB, _⟩ := hr.opened (by rw [recsV_length]; omega)
  refine wp_skip (go_then (st_seq (st_reg ?_)))
  refine vf h7 1 1 rfl rfl rfl fun a10 h10 => ?_
  refine vf h10 2 3 rfl rfl rfl fun a11 h11 => ?_
  refine vl h11 S1 0 rfl rfl rfl rfl fun a12 h12 => ?_
  refine sv h12 (ex_sub (h12.ev rfl) (h12.ev rfl) (by omega)) fun a13 h13 => ?_
  refine sv h13 (ex_quo (h13.ev rfl) (h13.ev rfl) (by omega)) fun a14 h14 => ?_
  refine ma h14 rfl rfl fun a15 h15 => ?_
  refine nsr ?_
  refine mv h15 rfl rfl fun a16 h16 => ?_
  refine vf h16 7 7 rfl rfl rfl fun a17 h17 => ?_
  refine vl h17 S1 0 rfl rfl rfl rfl fun a18 h18 => ?_
  refine vf h18 7 7 rfl rfl rfl fun a19 h19 => ?_
  refine vl h19 S1 0 rfl rfl rfl rfl fun a20 h20 => ?_
  refine sv h20 (ex_len Tryz.underlying24 (h20.ev rfl)) fun a21 h21 => ?_
  refine sv h21 (ex_sub (h21.ev rfl) (h21.ev rfl) (by omega)) fun a22 h22 => ?_
  refine sv h22 (ex_index (i := r.rs.length - 1) (sz := 3) Tryz.underlying24 (by kernel_rfl) (h22.ev rfl) (h22.ev rfl) (by omega) (by omega) rfl) fun a23 h23 => ?_
  refine sv h23 (ex_loads (by kernel_rfl) (by kernel_rfl) (h23.ev rfl) (recAt (S1.rd0 hr) (by omega))) fun a24 h24 => ?_
  refine sl_bel h24 (wn rfl) (ex_call (fun _ _ => by kernel_rfl) (h24.evs rfl) rfl) rfl rfl S1 (behind_any (r.rs[r.rs.length - 1]) _ hy.1 (by have := hy.2.1; omega) (by have := hy.2.2; omega)) fun a25 X25 h25 S25 => ?_
  refine sv h25 (ex_sub (h25.ev rfl) (h25.ev rfl) (by omega)) fun a26 h26 => ?_
  refine sv h26 (ex_quo (h26.ev rfl) (h26.ev rfl) (by omega)) fun a27 h27 => ?_
  refine mv h27 rfl rfl fun a28 h28 => ?_
  refine sv h28 (ex_sub (h28.ev rfl) (h28.ev rfl) (by omega)) fun a29 h29 => ?_
  refine sv h29 (ex_add (h29.ev rfl) (h29.ev rfl) (by omega)) fun a30 h30 => ?_
  refine ma h30 rfl rfl fun a31 h31 => ?_
  refine ma h31 rfl rfl fun a32 h32 => ?_
  refine st_nil (go_then (wp_ret ?_))
  refine fin2 h32 rfl rfl rfl ?_
  exact ⟨by unfold roomsP; rw [hlast], S25.below⟩
theorem nextErr_any (r : RngP) (A : Option Addr) (c : Nat) (w : World) (hr : Rd w w.heap.size A (recsV r.rs)) (hb : ∀ y, r.rs.getLast? = some y → Bfr y) (ho : 0 ≤ r.r.o ∧ r.r.o ≤ 100000000) (hn : 0 ≤ r.nx ∧ r.nx ≤ 100000000) (hlen : r.rs.length ≤ 1000) :
 Calls Tryz.prog 81 #[ringV r A c] w fun e w' => e = .returned (.int .i64 (nextE r)) ∧ Below w.heap.size w w' := by
 have htm : r.nx.tmod 448 = r.nx % 448 := Int.tmod_eq_emod_of_nonneg hn.1
 refine st_enter (N := 59) Tryz.func81 rfl rfl rfl (fun a0 h0 => ?_)
 have S0 := St.init w
 refine st_seq (st_reg ?_)
 refine nb h0 rfl rfl S0 fun b1 a1 X1 gb1 h1 S1 => ?_
 refine ma h1 rfl rfl fun a2 h2 => ?_
 refine nsr ?_
 refine vf h2 7 7 rfl rfl rfl fun a3 h3 => ?_
 refine vl h3 S1 0 rfl rfl rfl rfl fun a4 h4 => ?_
 refine sv h4 (ex_len Tryz.underlying24 (h4.ev rfl)) fun a5 h5 => ?_
 refine ma h5 rfl rfl fun a6 h6 => ?_
 refine st_nil (go_then (st_seq (st_seq (st_reg ?_))))
 refine mv h6 rfl rfl fun a7 h7 => ?_
 refine sv h7 (ex_eql (h7.ev rfl) (h7.ev rfl)) fun a8 h8 => ?_
 refine st_nil (go_then ?_)
 refine st_if (h8.ev rfl) (fun hc0 => ?_) (fun hc0 => ?_)
 ·
  have hnil : r.rs = [] := by simp only [beq_iff_eq] at hc0; exact List.eq_nil_of_length_eq_zero (by omega)
  refine st_seq (st_reg ?_)
  refine vf h8 8 8 rfl rfl rfl fun a9 h9 => ?_
  refine vl h9 S1 0 rfl rfl rfl rfl fun a10 h10 => ?_
  refine vf h10 1 1 rfl rfl rfl fun a11 h11 => ?_
  refine vf h11 2 3 rfl rfl rfl fun a12 h12 => ?_
  refine vl h12 S1 0 rfl rfl rfl rfl fun a13 h13 => ?_
  refine sv h13 (ex_sub (h13.ev rfl) (h13.ev rfl) (by omega)) fun a14 h14 => ?_
  refine sv h14 (ex_eql (h14.ev rfl) (h14.ev rfl)) fun a15 h15 => ?_
  refine mv h15 rfl rfl fun a16 h16 => ?_
  apply sl_and h16 S1 19 rfl 4 23
  case ht =>
   intro gc19
   refine sy h16 rfl rfl rfl gc19 (ex_field (off := 8) (j := 8) (by kernel_rfl) (h16.ev rfl) rfl) rfl rfl fun a17 h17 => ?_
   refine sy h17 rfl rfl rfl gc19 (ex_load (by kernel_rfl) (h17.ev rfl) (S1.cell (i := 0) rfl rfl)) rfl rfl fun a18 h18 => ?_
   refine sl_pure h18 (wanted_yes h18 _ rfl rfl rfl gc19) (ex_call (fun _ _ => by kernel_rfl) (h18.evs rfl) rfl) rfl rfl (begins_any _ _) fun a19 h19 => ?_
   refine sv h19 (ex_pick_t (h19.ev rfl) gc19 (h19.ev rfl)) fun a20 h20 => ?_
   exact st_nil ⟨h20.mid (m := [(_, _), (_, _), (_, _)]) rfl, S1⟩
  case hf =>
   intro gc19
   refine no h16 rfl rfl rfl gc19 rfl rfl fun a21 h21 => ?_
   refine no h21 rfl rfl rfl gc19 rfl rfl fun a22 h22 => ?_
   refine no h22 rfl rfl rfl gc19 rfl rfl fun a23 h23 => ?_
   refine sv h23 (ex_pick_f (h23.ev rfl) gc19 (h23.ev rfl)) fun a24 h24 => ?_
   exact st_nil ⟨h24.mid (m := [(_, _), (_, _), (_, _)]) rfl, S1⟩
  case h =>
   rintro a25 X25 ⟨h25, S25⟩
   refine sl_pure h25 (wn rfl) (ex_call (fun _ _ => by kernel_rfl) (h25.evs rfl) rfl) rfl rfl (logring_unless_any _ _ _) fun a26 h26 => ?_
   refine ma h26 rfl rfl fun a27 h27 => ?_
   refine st_nil (go_then (wp_ret (ret_then ?_)))
   refine fin1 h27 rfl rfl ?_
   exact ⟨by unfold nextE; rw [hnil, htm]; rfl, S25.below⟩
 ·
  have hne : r.rs ≠ [] := by intro h; rw [h] at hc0; simp at hc0
  have hpos := List.length_pos_iff.2 hne
  have hlast := last_get hne
  have hy := hb _ hlast
  have hbd := hy.bd
  obtain ⟨b, o, rfl, hB, _⟩ := hr.opened (by rw [recsV_length]; omega)
  refine wp_skip (go_then (st_seq (st_reg ?_)))
  refine vf h8 7 7 rfl rfl rfl fun a28 h28 => ?_
  refine vl h28 S1 0 rfl rfl rfl rfl fun a29 h29 => ?_
  refine mv h29 rfl rfl fun a30 h30 => ?_
  refine sv h30 (ex_sub (h30.ev rfl) (h30.ev rfl) (by omega)) fun a31 h31 => ?_
  refine sv h31 (ex_index (i := r.rs.length - 1) (sz := 3) Tryz.underlying24 (by kernel_rfl) (h31.ev rfl) (h31.ev rfl) (by omega) (by omega) rfl) fun a32 h32 => ?_
  refine sv h32 (ex_loads (by kernel_rfl) (by kernel_rfl) (h32.ev rfl) (recAt (S1.rd0 hr) (by omega))) fun a33 h33 => ?_
  refine na (.agg #[.int .i64 0, .int .i64 0, .string ⟨#[]⟩]) h33 rfl S1 fun b4 a34 X34 gb4 h34 S34 => ?_
  refine sl_store0 h34 (wn rfl) ⟨rfl, rfl⟩ (h34.ev rfl) (h34.ev rfl) rfl (by kernel_rfl) S34 (i := 0) rfl rfl rfl fun X35 S35 => ?_
  refine nsr ?_
  refine sv h34 (ex_loads (by kernel_rfl) (by kernel_rfl) (h34.ev rfl) (S35.cellsAll (i := 0) rfl)) fun a36 h36 => ?_
  refine sl_bel h36 (wn rfl) (ex_call (fun _ _ => by kernel_rfl) (h36.evs rfl) rfl) rfl rfl S35 (behind_any (r.rs[r.rs.length - 1]) _ hy.1 (by have := hy.2.1; omega) (by have := hy.2.2; omega)) fun a37 X37 h37 S37 => ?_
  refine ma h37 rfl rfl fun a38 h38 => ?_
  refine st_nil (go_then (st_seq ?_))
  apply dr_flow h38 [false, false, false, false, false, false, false, false, false, false, false, false, false, false, false, false, false, false, false, false, false, false, false, false] _ (by kernel_rfl)
  case h =>
   refine qv h38 (fun X hX => ex_field (off := 8) (j := 8) (by kernel_rfl) (h38.ev rfl) rfl) fun a39 h39 => ?_
   refine qv h39 (fun X hX => ex_load (by kernel_rfl) (h39.ev rfl) ((S37.grow hX).cell (i := 1) rfl rfl)) fun a40 h40 => ?_
   refine qv h40 (fun X hX => ex_move (h40.ev rfl)) fun a41 h41 => ?_
   refine qv h41 (fun X hX => ex_eql (h41.ev rfl) (h41.ev rfl)) fun a42 h42 => ?_
   refine qv h42 (fun X hX => ex_move (h42.ev rfl)) fun a43 h43 => ?_
   apply sq_or h43 37 rfl 6 43
   case hf =>
    intro gc37
    refine sq_val h43 (wanted_yes h43 _ rfl rfl rfl gc37) rfl rfl (fun X hX => (ex_field (off := 8) (j := 8) (by kernel_rfl) (h43.ev rfl) rfl)) fun a44 h44 => ?_
    refine sq_val h44 (wanted_yes h44 _ rfl rfl rfl gc37) rfl rfl (fun X hX => (ex_load (by kernel_rfl) (h44.ev rfl) ((S37.grow hX).cell (i := 1) rfl rfl))) fun a45 h45 => ?_
    refine sq_val h45 (wanted_yes h45 _ rfl rfl rfl gc37) rfl rfl (fun X hX => (ex_move (h45.ev rfl))) fun a46 h46 => ?_
    refine sq_pure h46 (wanted_yes h46 _ rfl rfl rfl gc37) rfl rfl (fun X => (ex_call (fun _ _ => by kernel_rfl) (h46.evs rfl) rfl)) (fun X hX => next_any _ _ hbd.1 (by omega)) fun a47 h47 => ?_
    refine sq_val h47 (wanted_yes h47 _ rfl rfl rfl gc37) rfl rfl (fun X hX => (ex_eql (h47.ev rfl) (h47.ev rfl))) fun a48 h48 => ?_
    refine qv h48 (fun X hX => ex_pick_f (h48.ev rfl) gc37 (h48.ev rfl)) fun a49 h49 => ?_
    exact sq_nil (h49.mid (m := [(_, _), (_, _), (_, _), (_, _), (_, _)]) rfl)
   case ht =>
    intro gc37
    refine qo h43 rfl rfl rfl gc37 rfl rfl fun a50 h50 => ?_
    refine qo h50 rfl rfl rfl gc37 rfl rfl fun a51 h51 => ?_
    refine qo h51 rfl rfl rfl gc37 rfl rfl fun a52 h52 => ?_
    refine qo h52 rfl rfl rfl gc37 rfl rfl fun a53 h53 => ?_
    refine qo h53 rfl rfl rfl gc37 rfl rfl fun a54 h54 => ?_
    refine qv h54 (fun X hX => ex_pick_t (h54.ev rfl) gc37 (h54.ev rfl)) fun a55 h55 => ?_
    exact sq_nil (h55.mid (m := [(_, _), (_, _), (_, _), (_, _), (_, _)]) rfl)
   case h =>
    intro a56 h56
    refine qv h56 (fun X hX => ex_move (h56.ev rfl)) fun a57 h57 => ?_
    apply sq_and h57 44 rfl 12 56
    case ht =>
     intro gc44
     refine sq_val h57 (wanted_yes h57 _ rfl rfl rfl gc44) rfl rfl (fun X hX => (ex_field (off := 1) (j := 1) (by kernel_rfl) (h57.ev rfl) rfl)) fun a58 h58 => ?_
     refine sq_val h58 (wanted_yes h58 _ rfl rfl rfl gc44) rfl rfl (fun X hX => (ex_load (by kernel_rfl) (h58.ev rfl) ((S37.grow hX).cell (i := 0) rfl rfl))) fun a59 h59 => ?_
     refine sq_val h59 (wanted_yes h59 _ rfl rfl rfl gc44) rfl rfl (fun X hX => (ex_field (off := 1) (j := 1) (by kernel_rfl) (h59.ev rfl) rfl)) fun a60 h60 => ?_
     refine sq_val h60 (wanted_yes h60 _ rfl rfl rfl gc44) rfl rfl (fun X hX => (ex_field (off := 0) (j := 1) (by kernel_rfl) (h60.ev rfl) rfl)) fun a61 h61 => ?_
     refine sq_val h61 (wanted_yes h61 _ rfl rfl rfl gc44) rfl rfl (fun X hX => (ex_load (by kernel_rfl) (h61.ev rfl) ((S37.grow hX).cell (i := 1) rfl rfl))) fun a62 h62 => ?_
     refine sq_val h62 (wanted_yes h62 _ rfl rfl rfl gc44) rfl rfl (fun X hX => (ex_eql (h62.ev rfl) (h62.ev rfl))) fun a63 h63 => ?_
     refine sq_val h63 (wanted_yes h63 _ rfl rfl rfl gc44) rfl rfl (fun X hX => (ex_move (h63.ev rfl))) fun a64 h64 => ?_
     apply sq_or h64 51 rfl 4 55
     case hf =>
      intro gc51
      refine sq_val h64 (wanted_yes h64 _ rfl rfl rfl gc51) rfl rfl (fun X hX => (ex_field (off := 8) (j := 8) (by kernel_rfl) (h64.ev rfl) rfl)) fun a65 h65 => ?_
      refine sq_val h65 (wanted_yes h65 _ rfl rfl rfl gc51) rfl rfl (fun X hX => (ex_load (by kernel_rfl) (h65.ev rfl) ((S37.grow hX).cell (i := 1) rfl rfl))) fun a66 h66 => ?_
      refine sq_pure h66 (wanted_yes h66 _ rfl rfl rfl gc51) rfl rfl (fun X => (ex_call (fun _ _ => by kernel_rfl) (h66.evs rfl) rfl)) (fun X hX => begins_any _ _) fun a67 h67 => ?_
      refine sq_val h67 (wanted_yes h67 _ rfl rfl rfl gc44) rfl rfl (fun X hX => (ex_pick_f (h67.ev rfl) gc51 (h67.ev rfl))) fun a68 h68 => ?_
      exact sq_nil (h68.mid (m := [(_, _), (_, _), (_, _)]) rfl)
     case ht =>
      intro gc51
      refine qo h64 rfl rfl rfl gc51 rfl rfl fun a69 h69 => ?_
      refine qo h69 rfl rfl rfl gc51 rfl rfl fun a70 h70 => ?_
      refine qo h70 rfl rfl rfl gc51 rfl rfl fun a71 h71 => ?_
      refine sq_val h71 (wanted_yes h71 _ rfl rfl rfl gc44) rfl rfl (fun X hX => (ex_pick_t (h71.ev rfl) gc51 (h71.ev rfl))) fun a72 h72 => ?_
      exact sq_nil (h72.mid (m := [(_, _), (_, _), (_, _)]) rfl)
     case h =>
      intro a73 h73
      refine qv h73 (fun X hX => ex_pick_t (h73.ev rfl) gc44 (h73.ev rfl)) fun a74 h74 => ?_
      exact sq_nil (h74.mid (m := [(_, _), (_, _), (_, _), (_, _), (_, _), (_, _), (_, _), (_, _)]) rfl)
    case hf =>
     intro gc44
     refine qo h57 rfl rfl rfl gc44 rfl rfl fun a75 h75 => ?_
     refine qo h75 rfl rfl rfl gc44 rfl rfl fun a76 h76 => ?_
     refine qo h76 rfl rfl rfl gc44 rfl rfl fun a77 h77 => ?_
     refine qo h77 rfl rfl rfl gc44 rfl rfl fun a78 h78 => ?_
     refine qo h78 rfl rfl rfl gc44 rfl rfl fun a79 h79 => ?_
     refine qo h79 rfl rfl rfl gc44 rfl rfl fun a80 h80 => ?_
     refine qo h80 rfl rfl rfl gc44 rfl rfl fun a81 h81 => ?_
     refine sq_no h81 (wanted_not h81 _ rfl rfl rfl) rfl rfl fun a82 h82 => ?_
     refine sq_no h82 (wanted_not h82 _ rfl rfl rfl) rfl rfl fun a83 h83 => ?_
     refine sq_no h83 (wanted_not h83 _ rfl rfl rfl) rfl rfl fun a84 h84 => ?_
     refine qo h84 rfl rfl rfl gc44 rfl rfl fun a85 h85 => ?_
     refine qv h85 (fun X hX => ex_pick_f (h85.ev rfl) gc44 (h85.ev rfl)) fun a86 h86 => ?_
     exact sq_nil (h86.mid (m := [(_, _), (_, _), (_, _), (_, _), (_, _), (_, _), (_, _), (_, _), (_, _), (_, _), (_, _)]) rfl)
    case h =>
     intro a87 h87
     refine sq_nil ?_
     refine nd_end fun X88 hX88 hΦ88 => ?_
     have S88 := S37.grow hX88
     refine ma h87 rfl rfl fun a89 h89 => ?_
     refine nsr ?_
     refine mv h89 rfl rfl fun a90 h90 => ?_
     refine sl_pure h90 (wn rfl) (ex_call (fun _ _ => by kernel_rfl) (h90.evs rfl) rfl) rfl rfl (logring_unless_any _ _ _) fun a91 h91 => ?_
     refine ma h91 rfl rfl fun a92 h92 => ?_
     refine st_nil (go_then (wp_ret ?_))
     refine fin1 h92 rfl rfl ?_
     exact ⟨by unfold nextE; rw [hlast, htm], S88.below⟩
  case hB => kernel_rfl
  case hst => rfl
def fIdx (g : RecP → Bool) (l : List RecP) : Int := match l.findIdx? g with | some i => i | none => -1
theorem fIdx_hit {g : RecP → Bool} {l : List RecP} {j : Nat} (h : j < l.length) (h1 : g l[j] = true) (h2 : ∀ k (hk : k < l.length), k < j → g l[k] = false) : fIdx g l = j := by
 unfold fIdx
 rw [List.findIdx?_eq_some_iff_getElem.2 ⟨h, h1, fun k hk => by rw [h2 k (by omega) hk]; simp⟩]
theorem fIdx_none {g : RecP → Bool} {l : List RecP} (h2 : ∀ k (hk : k < l.length), g l[k] = false) : fIdx g l = -1 := by
 unfold fIdx
 rw [List.findIdx?_eq_none_iff.2 (fun x hx => by obtain ⟨k, hk, rfl⟩ := List.getElem_of_mem hx; exact h2 k hk)]
theorem fIdx_any (g : RecP → Bool) (l : List RecP) : decide (fIdx g l ≥ 0) = l.any g := by
 unfold fIdx
 cases h : l.findIdx? g with
 | none =>
  rw [List.findIdx?_eq_none_iff] at h
  have : l.any g = false := by rw [List.any_eq_false]; intro x hx; rw [h x hx]; simp
  rw [this]; rfl
 | some i =>
  rw [List.findIdx?_eq_some_iff_getElem] at h
  obtain ⟨h1, h2, _⟩ := h
  have : l.any g = true := List.any_eq_true.2 ⟨l[i], List.getElem_mem h1, h2⟩
  rw [this]; simp
theorem recIndexFunc_any (g : RecP → Bool) (l : List RecP) (A : Option Addr) (c : Nat) (f : FuncId) (cap : List Value) (w : World) (hr : Rd w w.heap.size A (recsV l)) (hlen : l.length ≤ 1000) (hfc : ∀ (vs : Array Value) (W : World), (callFunc f vs).run Tryz.prog W = .ok (.enter f vs) W)
 (hcl : ∀ X, Below w.heap.size w X → ∀ x ∈ l, Calls Tryz.prog f ([recV x] ++ cap).toArray X fun e X' => e = .returned (.bool (g x)) ∧ Below X.heap.size X X') :
 Calls Tryz.prog 106 #[.slice A l.length c, .func (.func f) #[] cap.toArray] w fun e w' => e = .returned (.int .i64 (fIdx g l)) ∧ Below w.heap.size w w' := by
 refine st_enter (N := 19) Tryz.func106 rfl rfl rfl (fun a0 h0 => ?_)
 have S0 := St.init w
 refine st_seq (st_reg ?_)
 refine ma h0 rfl rfl fun a1 h1 => ?_
 refine st_nil (go_then (st_seq (st_seq (st_reg ?_))))
 refine mv h1 rfl rfl fun a2 h2 => ?_
 refine sv h2 (ex_len Tryz.underlying24 (h2.ev rfl)) fun a3 h3 => ?_
 refine mv h3 rfl rfl fun a4 h4 => ?_
 refine st_nil (go_then (wp_block ?_))
 refine st_loop h4 S0 [7, 0, 1] (fun (j : Nat) => [(8, .int .i64 j)]) (fun (j : Nat) => j ≤ l.length ∧ ∀ k (hk : k < l.length), k < j → g l[k] = false) (fun (j : Nat) L => L) (fun (j : Nat) => l.length - j) (0) (⟨Nat.zero_le _, fun k _ h => by omega⟩) ⟨rfl, rfl, rfl, rfl, trivial⟩ (S0) ?_
 intro j a5 X5 hF0 h5 S5
 refine st_seq (st_reg ?_)
 refine sv h5 (ex_lss (h5.ev rfl) (h5.ev rfl)) fun a6 h6 => ?_
 refine st_nil (go_then (st_seq ?_))
 refine st_if (h6.ev rfl) (fun hc0 => ?_) (fun hc0 => ?_)
 ·
  have hlt : j < l.length := by have := of_decide_eq_true hc0; omega
  obtain ⟨b, o, rfl, hB, _⟩ := hr.opened (by rw [recsV_length]; omega)
  refine wp_skip (go_then (st_seq (wp_block (st_seq (st_reg ?_)))))
  refine mv h6 rfl rfl fun a7 h7 => ?_
  refine ma h7 rfl rfl fun a8 h8 => ?_
  refine nsr ?_
  refine mv h8 rfl rfl fun a9 h9 => ?_
  refine mv h9 rfl rfl fun a10 h10 => ?_
  refine mv h10 rfl rfl fun a11 h11 => ?_
  refine sv h11 (ex_index (i := j) (sz := 3) Tryz.underlying24 (by kernel_rfl) (h11.ev rfl) (h11.ev rfl) (by omega) (by omega) rfl) fun a12 h12 => ?_
  refine sv h12 (ex_loads (by kernel_rfl) (by kernel_rfl) (h12.ev rfl) (recAt (S5.rd0 hr) hlt)) fun a13 h13 => ?_
  refine sl_bel h13 (wn rfl) (ex_callv hfc (h13.ev rfl) (h13.evs rfl) rfl) rfl rfl S5 (hcl _ S5.below l[j] (List.getElem_mem _)) fun a14 X14 h14 S14 => ?_
  refine st_nil (go_then ?_)
  refine st_if (h14.ev rfl) (fun hc1 => ?_) (fun hc1 => ?_)
  ·
   refine st_seq (st_reg ?_)
   refine mv h14 rfl rfl fun a15 h15 => ?_
   refine ma h15 rfl rfl fun a16 h16 => ?_
   refine st_nil (go_then (wp_ret (ret_block (ret_then (ret_then (ret_block (ret_then ?_)))))))
   refine fin1 h16 rfl rfl ?_
   exact ⟨by rw [fIdx_hit hlt hc1 hF0.2], S14.below⟩
  ·
   refine wp_skip (go_block (go_then (st_reg ?_)))
   refine sv h14 (ex_add (h14.ev rfl) (h14.ev rfl) (by omega)) fun a17 h17 => ?_
   refine mv h17 rfl rfl fun a18 h18 => ?_
   refine st_nil (go_then ?_)
   exact ⟨j + 1, by omega, ⟨hlt, fun k hk h => (Nat.lt_or_ge k j).elim (fun q => hF0.2 k hk q) (fun q => by (obtain rfl : k = j := by omega); exact hc1)⟩, h18.re ⟨rfl, rfl, rfl, rfl, trivial⟩, S14⟩
 ·
  have hge : l.length ≤ j := by have := of_decide_eq_false hc0; omega
  refine wp_exit ?_
  refine go_exit_then ?_
  refine go_exit_then ?_
  refine go_exit ?_
  refine go_then (st_seq (st_reg ?_))
  refine ma h6 rfl rfl fun a19 h19 => ?_
  refine st_nil (go_then (wp_ret ?_))
  refine fin1 h19 rfl rfl ?_
  exact ⟨by rw [fIdx_none (fun k hk => hF0.2 k hk (by omega))], S5.below⟩
theorem recContains_any (g : RecP → Bool) (l : List RecP) (A : Option Addr) (c : Nat) (f : FuncId) (cap : List Value) (w : World) (hr : Rd w w.heap.size A (recsV l)) (hlen : l.length ≤ 1000) (hfc : ∀ (vs : Array Value) (W : World), (callFunc f vs).run Tryz.prog W = .ok (.enter f vs) W)
 (hcl : ∀ X, Below w.heap.size w X → ∀ x ∈ l, Calls Tryz.prog f ([recV x] ++ cap).toArray X fun e X' => e = .returned (.bool (g x)) ∧ Below X.heap.size X X') :
 Calls Tryz.prog 104 #[.slice A l.length c, .func (.func f) #[] cap.toArray] w fun e w' => e = .returned (.bool (l.any g)) ∧ Below w.heap.size w w' := by
 refine st_enter (N := 9) Tryz.func104 rfl rfl rfl (fun a0 h0 => ?_)
 have S0 := St.init w
 refine st_seq (st_reg ?_)
 refine ma h0 rfl rfl fun a1 h1 => ?_
 refine nsr ?_
 refine mv h1 rfl rfl fun a2 h2 => ?_
 refine mv h2 rfl rfl fun a3 h3 => ?_
 refine sl_bel h3 (wn rfl) (ex_call (fun _ _ => by kernel_rfl) (h3.evs rfl) rfl) rfl rfl S0 (recIndexFunc_any g l A c f cap _ (S0.rd0 hr) hlen hfc (fun X hX x hx => hcl X (bel_trans S0.below hX) x hx)) fun a4 X4 h4 S4 => ?_
 refine sv h4 (ex_geq (h4.ev rfl) (h4.ev rfl)) fun a5 h5 => ?_
 refine ma h5 rfl rfl fun a6 h6 => ?_
 refine st_nil (go_then (wp_ret ?_))
 refine fin1 h6 rfl rfl ?_
 exact ⟨by rw [← fIdx_any], S4.below⟩
theorem has1_any (x : RecP) (n : Int) (b : Nat) (T : TypeId) (w : World) (hb : Box w b #[.int .i64 n] T) :
 Calls Tryz.prog 105 #[recV x, .pointer (some ⟨b, 0, none⟩)] w fun e w' => e = .returned (.bool (x.l == n)) ∧ Below w.heap.size w w' := by
 refine st_enter (N := 8) Tryz.func105 rfl rfl rfl (fun a0 h0 => ?_)
 have S0 := St.init w
 refine st_seq (st_reg ?_)
 refine nb h0 rfl rfl S0 fun b2 a1 X1 gb2 h1 S1 => ?_
 refine ma h1 rfl rfl fun a2 h2 => ?_
 refine nsr ?_
 refine vf h2 0 0 rfl rfl rfl fun a3 h3 => ?_
 refine vl h3 S1 0 rfl rfl rfl rfl fun a4 h4 => ?_
 refine sv h4 (ex_load (by kernel_rfl) (h4.ev rfl) (box_cell (hb.below S1.below) rfl)) fun a5 h5 => ?_
 refine sv h5 (ex_eql (h5.ev rfl) (h5.ev rfl)) fun a6 h6 => ?_
 refine ma h6 rfl rfl fun a7 h7 => ?_
 refine st_nil (go_then (wp_ret ?_))
 refine fin1 h7 rfl rfl ?_
 exact ⟨rfl, S1.below⟩
theorem has_rec (l : List RecP) (A : Option Addr) (c : Nat) (n f : Int) (w : World) (hr : Rd w w.heap.size A (recsV l)) (hlen : l.length ≤ 1000) :
 Calls Tryz.prog 62 #[.slice A l.length c, .int .i64 n, .int .i64 f] w fun e w' => e = .returned (.bool (decide (n ≥ f) && hasR l n)) ∧ Below w.heap.size w w' := by
 refine st_enter (N := 15) Tryz.func62 rfl rfl rfl (fun a0 h0 => ?_)
 have S0 := St.init w
 refine st_seq (st_reg ?_)
 refine nb h0 rfl rfl S0 fun b4 a1 X1 gb4 h1 S1 => ?_
 refine ma h1 rfl rfl fun a2 h2 => ?_
 refine nsr ?_
 refine vl h2 S1 0 rfl rfl rfl rfl fun a3 h3 => ?_
 refine mv h3 rfl rfl fun a4 h4 => ?_
 refine sv h4 (ex_geq (h4.ev rfl) (h4.ev rfl)) fun a5 h5 => ?_
 refine mv h5 rfl rfl fun a6 h6 => ?_
 apply sl_and h6 S1 10 rfl 4 14
 case ht =>
  intro gc10
  refine sy h6 rfl rfl rfl gc10 (ex_move (h6.ev rfl)) rfl rfl fun a7 h7 => ?_
  refine sy h7 rfl rfl rfl gc10 (ex_func (h7.evs rfl) (h7.evs rfl)) rfl rfl fun a8 h8 => ?_
  refine sl_bel h8 (wanted_yes h8 _ rfl rfl rfl gc10) (ex_call (fun _ _ => by kernel_rfl) (h8.evs rfl) rfl) rfl rfl S1 (recContains_any (fun x => x.l == n) l A c 105 [.pointer (some ⟨b4, 0, none⟩)] _ (S1.rd0 hr) hlen (fun _ _ => by kernel_rfl) (fun X hX x _ => has1_any x n b4 _ X (Box.below (S1.at_ (i := 0) rfl) hX))) fun a9 X9 h9 S9 => ?_
  refine sv h9 (ex_pick_t (h9.ev rfl) gc10 (h9.ev rfl)) fun a10 h10 => ?_
  exact st_nil ⟨h10.mid (m := [(_, _), (_, _), (_, _)]) rfl, S9⟩
 case hf =>
  intro gc10
  refine no h6 rfl rfl rfl gc10 rfl rfl fun a11 h11 => ?_
  refine no h11 rfl rfl rfl gc10 rfl rfl fun a12 h12 => ?_
  refine no h12 rfl rfl rfl gc10 rfl rfl fun a13 h13 => ?_
  refine sv h13 (ex_pick_f (h13.ev rfl) gc10 (h13.ev rfl)) fun a14 h14 => ?_
  exact st_nil ⟨h14.mid (m := [(_, _), (_, _), (_, _)]) rfl, S1⟩
 case h =>
  rintro a15 X15 ⟨h15, S15⟩
  refine ma h15 rfl rfl fun a16 h16 => ?_
  refine st_nil (go_then (wp_ret ?_))
  refine fin1 h16 rfl rfl ?_
  exact ⟨rfl, S15.below⟩
end Go.Proofs.YtmlilplbdpjfcaaGreatDoor
