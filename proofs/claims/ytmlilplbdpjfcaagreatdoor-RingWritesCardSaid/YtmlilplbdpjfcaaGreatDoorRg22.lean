/-
  Chapter 20: the reference's small functions.
-/
import Derived.Test.YtmlilplbdpjfcaaGreatDoorRg21
namespace Go.Proofs.YtmlilplbdpjfcaaGreatDoor
set_option linter.unusedVariables false
set_option linter.unusedSimpArgs false
set_option maxRecDepth 4000
open Go.RowKit Go.Sort
theorem rposition_any (n : Int) (w : World) : Calls Tryz.prog 82 #[.int .i64 n] w fun e w' => e = .returned (.bool (posB n)) ∧ w = w' := by
  refine st_enter (N := 5) Tryz.func82 rfl rfl rfl (fun a0 h0 => ?_)
  have S0 := St.init w
  refine st_seq (st_reg ?_)
  refine ma h0 rfl rfl fun a1 h1 => ?_
  refine st_nil (go_then (st_seq (st_reg ?_)))
  refine mv h1 rfl rfl fun a2 h2 => ?_
  refine sl_pure h2 (wn rfl) (ex_call (fun _ _ => by kernel_rfl) (h2.evs rfl) rfl) rfl rfl (Within_any _ _ _ _) fun a3 h3 => ?_
  refine ma h3 rfl rfl fun a4 h4 => ?_
  refine st_nil (go_then (wp_ret ?_))
  refine fin1 h4 rfl rfl ?_
  exact ⟨rfl, rfl⟩
theorem rroom_any (n : Int) (h : 0 ≤ n ∧ n ≤ 4611686018427387904) (w : World) : Calls Tryz.prog 66 #[.int .i64 n] w fun e w' => e = .returned (.int .i64 (n / 448)) ∧ w = w' := by
  refine st_enter (N := 5) Tryz.func66 rfl rfl rfl (fun a0 h0 => ?_)
  have S0 := St.init w
  refine st_seq (st_reg ?_)
  refine ma h0 rfl rfl fun a1 h1 => ?_
  refine st_nil (go_then (st_seq (st_reg ?_)))
  refine mv h1 rfl rfl fun a2 h2 => ?_
  refine sl_val h2 (wn rfl) (ex_quo (h2.ev rfl) (h2.ev rfl) ⟨by omega, by omega, by omega⟩) rfl rfl fun a3 h3 => ?_
  refine ma h3 rfl rfl fun a4 h4 => ?_
  refine st_nil (go_then (wp_ret ?_))
  refine fin1 h4 rfl rfl ?_
  exact ⟨rfl, rfl⟩
theorem rbegin_any (n : Int) (h : -1000000000000 ≤ n ∧ n ≤ 1000000000000) (w : World) : Calls Tryz.prog 65 #[.int .i64 n] w fun e w' => e = .returned (.int .i64 (nxtR n)) ∧ w = w' := by
  refine st_enter (N := 6) Tryz.func65 rfl rfl rfl (fun a0 h0 => ?_)
  have S0 := St.init w
  refine st_seq (st_reg ?_)
  refine ma h0 rfl rfl fun a1 h1 => ?_
  refine st_nil (go_then (st_seq (st_reg ?_)))
  refine mv h1 rfl rfl fun a2 h2 => ?_
  refine sl_pure h2 (wn rfl) (ex_call (fun _ _ => by kernel_rfl) (h2.evs rfl) rfl) rfl rfl (Ceil_any _ _ (by omega) _) fun a3 h3 => ?_
  refine sl_val h3 (wn rfl) (ex_mul (h3.ev rfl) (h3.ev rfl) (by omega)) rfl rfl fun a4 h4 => ?_
  refine ma h4 rfl rfl fun a5 h5 => ?_
  refine st_nil (go_then (wp_ret ?_))
  refine fin1 h5 rfl rfl ?_
  exact ⟨by unfold nxtR; congr 2; omega, rfl⟩
theorem rBehind_any (p c : Int) (h : -1000000000000 ≤ p ∧ p ≤ 1000000000000 ∧ 0 ≤ c ∧ c ≤ 1000000000000) (w : World) : Calls Tryz.prog 33 #[.int .i64 p, .int .i64 c] w fun e w' => e = .returned (.int .i64 (p + szR c)) ∧ w = w' := by
  refine st_enter (N := 11) Tryz.func33 rfl rfl rfl (fun a0 h0 => ?_)
  have S0 := St.init w
  refine st_seq (st_reg ?_)
  refine ma h0 rfl rfl fun a1 h1 => ?_
  refine st_nil (go_then (st_seq (st_reg ?_)))
  refine mv h1 rfl rfl fun a2 h2 => ?_
  refine mv h2 rfl rfl fun a3 h3 => ?_
  refine sl_val h3 (wn rfl) (ex_add (h3.ev rfl) (h3.ev rfl) (by omega)) rfl rfl fun a4 h4 => ?_
  refine sl_pure h4 (wn rfl) (ex_call (fun _ _ => by kernel_rfl) (h4.evs rfl) rfl) rfl rfl (Ceil_any _ _ (by omega) _) fun a5 h5 => ?_
  refine sl_val h5 (wn rfl) (ex_mul (h5.ev rfl) (h5.ev rfl) (by omega)) rfl rfl fun a6 h6 => ?_
  refine sl_val h6 (wn rfl) (ex_add (h6.ev rfl) (h6.ev rfl) (by omega)) rfl rfl fun a7 h7 => ?_
  refine ma h7 rfl rfl fun a8 h8 => ?_
  refine st_nil (go_then (wp_ret ?_))
  refine fin1 h8 rfl rfl ?_
  exact ⟨by unfold szR; congr 2; omega, rfl⟩
theorem rPagesErr_any (n : Int) (w : World) : Calls Tryz.prog 27 #[.int .i64 n] w fun e w' => e = .returned (.int .i64 (pgsE n)) ∧ w = w' := by
  refine st_enter (N := 6) Tryz.func27 rfl rfl rfl (fun a0 h0 => ?_)
  have S0 := St.init w
  refine st_seq (st_reg ?_)
  refine ma h0 rfl rfl fun a1 h1 => ?_
  refine st_nil (go_then (st_seq (st_seq (st_reg ?_))))
  refine mv h1 rfl rfl fun a2 h2 => ?_
  refine sl_pure h2 (wn rfl) (ex_call (fun _ _ => by kernel_rfl) (h2.evs rfl) rfl) rfl rfl (Within_any _ _ _ _) fun a3 h3 => ?_
  refine sl_val h3 (wn rfl) (ex_not (h3.ev rfl)) rfl rfl fun a4 h4 => ?_
  refine st_nil (go_then ?_)
  refine st_if (h4.ev rfl) (fun hc0 => ?_) (fun hc0 => ?_)
  · skip
    have h1 : inB n 4 40 = false := by simpa using hc0
    refine st_seq (st_reg ?_)
    refine ma h4 rfl rfl fun a5 h5 => ?_
    refine st_nil (go_then (wp_ret (ret_then ?_)))
    refine fin1 h5 rfl rfl ?_
    exact ⟨by unfold pgsE; rw [h1]; rfl, rfl⟩
  · skip
    have h1 : inB n 4 40 = true := by simpa using hc0
    refine wp_skip (go_then (st_seq (st_reg ?_)))
    refine ma h4 rfl rfl fun a6 h6 => ?_
    refine st_nil (go_then (wp_ret ?_))
    refine fin1 h6 rfl rfl ?_
    exact ⟨by unfold pgsE; rw [h1]; rfl, rfl⟩
theorem rRestartErr_any (x : RstP) (w : World) : Calls Tryz.prog 38 #[rstV x] w fun e w' => e = .returned (.int .i64 (rstE x)) ∧ Below w.heap.size w w' := by
  refine st_enter (N := 19) Tryz.func38 rfl rfl rfl (fun a0 h0 => ?_)
  have S0 := St.init w
  refine st_seq (st_reg ?_)
  refine sl_new h0 (wn rfl) (f := fun b => .pointer (some ⟨b, 0, none⟩)) (ex_box (h0.ev rfl)) rfl rfl S0 fun b1 a1 X1 gb1 h1 S1 => ?_
  refine ma h1 rfl rfl fun a2 h2 => ?_
  refine st_nil (go_then (st_seq (st_seq (st_reg ?_))))
  refine sl_val h2 (wn rfl) (ex_field (off := 0) (j := 0) (by kernel_rfl) (h2.ev rfl) rfl) rfl rfl fun a3 h3 => ?_
  refine sl_val h3 (wn rfl) (ex_load (by kernel_rfl) (h3.ev rfl) (S1.cell (i := 0) rfl rfl)) rfl rfl fun a4 h4 => ?_
  refine sl_pure h4 (wn rfl) (ex_call (fun _ _ => by kernel_rfl) (h4.evs rfl) rfl) rfl rfl (Within_any _ _ _ _) fun a5 h5 => ?_
  refine sl_val h5 (wn rfl) (ex_not (h5.ev rfl)) rfl rfl fun a6 h6 => ?_
  refine mv h6 rfl rfl fun a7 h7 => ?_
  apply sl_or h7 S1 7 rfl 5 12
  case hf =>
   intro gc7
   refine sl_val h7 (wanted_yes h7 _ rfl rfl rfl gc7) (ex_field (off := 1) (j := 1) (by kernel_rfl) (h7.ev rfl) rfl) rfl rfl fun a8 h8 => ?_
   refine sl_val h8 (wanted_yes h8 _ rfl rfl rfl gc7) (ex_load (by kernel_rfl) (h8.ev rfl) (S1.cell (i := 0) rfl rfl)) rfl rfl fun a9 h9 => ?_
   refine sl_pure h9 (wanted_yes h9 _ rfl rfl rfl gc7) (ex_call (fun _ _ => by kernel_rfl) (h9.evs rfl) rfl) rfl rfl (rposition_any _ _) fun a10 h10 => ?_
   refine sl_val h10 (wanted_yes h10 _ rfl rfl rfl gc7) (ex_not (h10.ev rfl)) rfl rfl fun a11 h11 => ?_
   refine sl_val h11 (wn rfl) (ex_pick_f (h11.ev rfl) gc7 (h11.ev rfl)) rfl rfl fun a12 h12 => ?_
   exact st_nil ⟨h12.mid (m := [(_, _), (_, _), (_, _), (_, _)]) rfl, S1⟩
  case ht =>
   intro gc7
   refine sl_no h7 (wanted_no h7 _ rfl rfl rfl gc7) rfl rfl fun a13 h13 => ?_
   refine sl_no h13 (wanted_no h13 _ rfl rfl rfl gc7) rfl rfl fun a14 h14 => ?_
   refine sl_no h14 (wanted_no h14 _ rfl rfl rfl gc7) rfl rfl fun a15 h15 => ?_
   refine sl_no h15 (wanted_no h15 _ rfl rfl rfl gc7) rfl rfl fun a16 h16 => ?_
   refine sl_val h16 (wn rfl) (ex_pick_t (h16.ev rfl) gc7 (h16.ev rfl)) rfl rfl fun a17 h17 => ?_
   exact st_nil ⟨h17.mid (m := [(_, _), (_, _), (_, _), (_, _)]) rfl, S1⟩
  case h =>
   rintro a18 X18 ⟨h18, S18⟩
   refine mv h18 rfl rfl fun a19 h19 => ?_
   apply sl_or h19 S18 13 rfl 5 18
   case hf =>
    intro gc13
    refine sl_val h19 (wanted_yes h19 _ rfl rfl rfl gc13) (ex_field (off := 2) (j := 2) (by kernel_rfl) (h19.ev rfl) rfl) rfl rfl fun a20 h20 => ?_
    refine sl_val h20 (wanted_yes h20 _ rfl rfl rfl gc13) (ex_load (by kernel_rfl) (h20.ev rfl) (S18.cell (i := 0) rfl rfl)) rfl rfl fun a21 h21 => ?_
    refine sl_pure h21 (wanted_yes h21 _ rfl rfl rfl gc13) (ex_call (fun _ _ => by kernel_rfl) (h21.evs rfl) rfl) rfl rfl (rposition_any _ _) fun a22 h22 => ?_
    refine sl_val h22 (wanted_yes h22 _ rfl rfl rfl gc13) (ex_not (h22.ev rfl)) rfl rfl fun a23 h23 => ?_
    refine sl_val h23 (wn rfl) (ex_pick_f (h23.ev rfl) gc13 (h23.ev rfl)) rfl rfl fun a24 h24 => ?_
    exact st_nil ⟨h24.mid (m := [(_, _), (_, _), (_, _), (_, _)]) rfl, S18⟩
   case ht =>
    intro gc13
    refine sl_no h19 (wanted_no h19 _ rfl rfl rfl gc13) rfl rfl fun a25 h25 => ?_
    refine sl_no h25 (wanted_no h25 _ rfl rfl rfl gc13) rfl rfl fun a26 h26 => ?_
    refine sl_no h26 (wanted_no h26 _ rfl rfl rfl gc13) rfl rfl fun a27 h27 => ?_
    refine sl_no h27 (wanted_no h27 _ rfl rfl rfl gc13) rfl rfl fun a28 h28 => ?_
    refine sl_val h28 (wn rfl) (ex_pick_t (h28.ev rfl) gc13 (h28.ev rfl)) rfl rfl fun a29 h29 => ?_
    exact st_nil ⟨h29.mid (m := [(_, _), (_, _), (_, _), (_, _)]) rfl, S18⟩
   case h =>
    rintro a30 X30 ⟨h30, S30⟩
    refine st_nil (go_then ?_)
    refine st_if (h30.ev rfl) (fun hc0 => ?_) (fun hc0 => ?_)
    · skip
      have h1 : rstB x = false := by
        unfold rstB
        cases h2 : inB x.s 1 60000 <;> cases h3 : posB x.c <;> cases h4 : posB x.o <;> simp_all
      refine st_seq (st_reg ?_)
      refine ma h30 rfl rfl fun a31 h31 => ?_
      refine st_nil (go_then (wp_ret (ret_then ?_)))
      refine fin1 h31 rfl rfl ?_
      exact ⟨by unfold rstE; rw [h1]; rfl, S30.below⟩
    · skip
      have h1 : rstB x = true := by
        unfold rstB
        cases h2 : inB x.s 1 60000 <;> cases h3 : posB x.c <;> cases h4 : posB x.o <;> simp_all
      refine wp_skip (go_then (st_seq (st_reg ?_)))
      refine ma h30 rfl rfl fun a32 h32 => ?_
      refine st_nil (go_then (wp_ret ?_))
      refine fin1 h32 rfl rfl ?_
      exact ⟨by unfold rstE; rw [h1]; rfl, S30.below⟩
theorem fnd_step {l : List RecP} {n : Int} {k : Nat} (hk : k < l.length) (h : (l.take k).find? (fun x => x.l == n) = none) (hne : (l[k].l == n) = false) : (l.take (k + 1)).find? (fun x => x.l == n) = none := by
  rw [List.take_add_one, List.getElem?_eq_getElem hk, List.find?_append, h]
  simp [hne]
theorem fnd_hit {l : List RecP} {n : Int} {k : Nat} (hk : k < l.length) (h : (l.take k).find? (fun x => x.l == n) = none) (he : (l[k].l == n) = true) : fndR l n = some l[k] := by
  unfold fndR
  conv => lhs; rw [← List.take_append_drop k l]
  rw [List.find?_append, h, List.drop_eq_getElem_cons hk, List.find?_cons, he]; rfl
theorem rRecord_any (r : RngP) (A : Option Addr) (c : Nat) (n : Int) (w : World) (hr : Rd w w.heap.size A (recsV r.rs)) (hlen : r.rs.length ≤ 1000) :
    Calls Tryz.prog 52 #[ringV r A c, .int .i64 n] w fun e w' => e = .returned (.tuple #[.string (match fndR r.rs n with | some x => x.b | none => ⟨#[]⟩), .bool (fndR r.rs n).isSome]) ∧ Below w.heap.size w w' := by
  refine st_enter (N := 28) Tryz.func52 rfl rfl rfl (fun a0 h0 => ?_)
  have S0 := St.init w
  refine st_seq (st_reg ?_)
  refine sl_new h0 (wn rfl) (f := fun b => .pointer (some ⟨b, 0, none⟩)) (ex_box (h0.ev rfl)) rfl rfl S0 fun b2 a1 X1 gb2 h1 S1 => ?_
  refine ma h1 rfl rfl fun a2 h2 => ?_
  refine ma h2 rfl rfl fun a3 h3 => ?_
  refine st_nil (go_then (st_seq (st_seq (st_reg ?_))))
  refine ma h3 rfl rfl fun a4 h4 => ?_
  refine st_nil (go_then (wp_block ?_))
  refine st_loop h4 S1 [2, 1] (fun (k : Nat) => [(6, .int .i64 (k : Int))]) (fun (k : Nat) => k ≤ r.rs.length ∧ (r.rs.take k).find? (fun x => x.l == n) = none) (fun (k : Nat) L => L) (fun (k : Nat) => r.rs.length - k) (0) (⟨Nat.zero_le _, rfl⟩) ⟨rfl, rfl, rfl, trivial⟩ (S1) ?_
  intro k a5 X5 hF0 h5 S5
  refine st_seq (st_seq (st_reg ?_))
  refine mv h5 rfl rfl fun a6 h6 => ?_
  refine sl_val h6 (wn rfl) (ex_field (off := 7) (j := 7) (by kernel_rfl) (h6.ev rfl) rfl) rfl rfl fun a7 h7 => ?_
  refine sl_val h7 (wn rfl) (ex_load (by kernel_rfl) (h7.ev rfl) (S5.cell (i := 0) rfl rfl)) rfl rfl fun a8 h8 => ?_
  refine sl_val h8 (wn rfl) (ex_len Tryz.underlying24 (h8.ev rfl)) rfl rfl fun a9 h9 => ?_
  refine sl_val h9 (wn rfl) (ex_lss (h9.ev rfl) (h9.ev rfl)) rfl rfl fun a10 h10 => ?_
  refine st_nil (go_then ?_)
  refine st_if (h10.ev rfl) (fun hc0 => ?_) (fun hc0 => ?_)
  · skip
    have hlt : k < r.rs.length := by have := of_decide_eq_true hc0; omega
    obtain ⟨b, o, rfl, hB, _⟩ := hr.opened (by rw [recsV_length]; omega)
    refine wp_skip (go_then (st_seq (wp_block (st_seq (st_reg ?_)))))
    refine sl_val h10 (wn rfl) (ex_field (off := 7) (j := 7) (by kernel_rfl) (h10.ev rfl) rfl) rfl rfl fun a11 h11 => ?_
    refine sl_val h11 (wn rfl) (ex_load (by kernel_rfl) (h11.ev rfl) (S5.cell (i := 0) rfl rfl)) rfl rfl fun a12 h12 => ?_
    refine mv h12 rfl rfl fun a13 h13 => ?_
    refine sl_val h13 (wn rfl) (ex_index (i := k) (sz := 3) Tryz.underlying24 (by kernel_rfl) (h13.ev rfl) (h13.ev rfl) (by omega) (by omega) rfl) rfl rfl fun a14 h14 => ?_
    refine sl_val h14 (wn rfl) (ex_field (off := 0) (by kernel_rfl) (h14.ev rfl) rfl) rfl rfl fun a15 h15 => ?_
    refine sl_val h15 (wn rfl) (ex_load (by kernel_rfl) (h15.ev rfl) ((recAt (S5.rd0 hr) hlt) 0 _ rfl)) rfl rfl fun a16 h16 => ?_
    refine mv h16 rfl rfl fun a17 h17 => ?_
    refine sl_val h17 (wn rfl) (ex_eql (h17.ev rfl) (h17.ev rfl)) rfl rfl fun a18 h18 => ?_
    refine st_nil (go_then ?_)
    refine st_if (h18.ev rfl) (fun hc1 => ?_) (fun hc1 => ?_)
    · skip
      refine st_seq (st_reg ?_)
      refine sl_val h18 (wn rfl) (ex_field (off := 7) (j := 7) (by kernel_rfl) (h18.ev rfl) rfl) rfl rfl fun a19 h19 => ?_
      refine sl_val h19 (wn rfl) (ex_load (by kernel_rfl) (h19.ev rfl) (S5.cell (i := 0) rfl rfl)) rfl rfl fun a20 h20 => ?_
      refine mv h20 rfl rfl fun a21 h21 => ?_
      refine sl_val h21 (wn rfl) (ex_index (i := k) (sz := 3) Tryz.underlying24 (by kernel_rfl) (h21.ev rfl) (h21.ev rfl) (by omega) (by omega) rfl) rfl rfl fun a22 h22 => ?_
      refine sl_val h22 (wn rfl) (ex_field (off := 2) (by kernel_rfl) (h22.ev rfl) rfl) rfl rfl fun a23 h23 => ?_
      refine sl_val h23 (wn rfl) (ex_load (by kernel_rfl) (h23.ev rfl) ((recAt (S5.rd0 hr) hlt) 2 _ rfl)) rfl rfl fun a24 h24 => ?_
      refine ma h24 rfl rfl fun a25 h25 => ?_
      refine ma h25 rfl rfl fun a26 h26 => ?_
      refine st_nil (go_then (wp_ret (ret_block (ret_then (ret_then (ret_block (ret_then ?_)))))))
      refine fin2 h26 rfl rfl rfl ?_
      exact ⟨by rw [fnd_hit hlt hF0.2 hc1]; rfl, S5.below⟩
    · skip
      refine wp_skip (go_block (go_then (st_reg ?_)))
      refine mv h18 rfl rfl fun a27 h27 => ?_
      refine sl_val h27 (wn rfl) (ex_add (h27.ev rfl) (h27.ev rfl) (by omega)) rfl rfl fun a28 h28 => ?_
      refine ma h28 rfl rfl fun a29 h29 => ?_
      refine st_nil (go_then ?_)
      exact ⟨k + 1, (by omega), ⟨hlt, fnd_step hlt hF0.2 hc1⟩, h29.re ⟨rfl, rfl, rfl, trivial⟩, S5⟩
  · skip
    have hge : k = r.rs.length := by have := of_decide_eq_false hc0; omega
    have hno : fndR r.rs n = none := by have := hF0.2; rwa [hge, List.take_length] at this
    refine wp_exit ?_
    refine go_exit_then ?_
    refine go_exit_then ?_
    refine go_exit ?_
    refine go_then (st_seq (st_reg ?_))
    refine ma h10 rfl rfl fun a30 h30 => ?_
    refine ma h30 rfl rfl fun a31 h31 => ?_
    refine st_nil (go_then (wp_ret ?_))
    refine fin2 h31 rfl rfl rfl ?_
    exact ⟨by rw [hno]; rfl, S5.below⟩
theorem has_fnd (l : List RecP) (n : Int) : (fndR l n).isSome = hasR l n := by
  unfold fndR hasR
  rw [Bool.eq_iff_iff, List.find?_isSome, List.any_eq_true]
theorem rHas_any (r : RngP) (A : Option Addr) (c : Nat) (n : Int) (w : World) (hr : Rd w w.heap.size A (recsV r.rs)) (hlen : r.rs.length ≤ 1000) :
    Calls Tryz.prog 42 #[ringV r A c, .int .i64 n] w fun e w' => e = .returned (.bool (hasR r.rs n)) ∧ Below w.heap.size w w' := by
  refine st_enter (N := 14) Tryz.func42 rfl rfl rfl (fun a0 h0 => ?_)
  have S0 := St.init w
  refine st_seq (st_reg ?_)
  refine sl_new h0 (wn rfl) (f := fun b => .pointer (some ⟨b, 0, none⟩)) (ex_box (h0.ev rfl)) rfl rfl S0 fun b2 a1 X1 gb2 h1 S1 => ?_
  refine ma h1 rfl rfl fun a2 h2 => ?_
  refine st_nil (go_then (st_seq (st_reg ?_)))
  refine sl_val (v := ringV r A c) h2 (wn rfl) (ex_loads (by kernel_rfl) (by kernel_rfl) (h2.ev rfl) (S1.cellsAll (i := 0) rfl)) rfl rfl fun a3 h3 => ?_
  refine mv h3 rfl rfl fun a4 h4 => ?_
  refine sl_bel h4 (wn rfl) (ex_call (fun _ _ => by kernel_rfl) (h4.evs rfl) rfl) rfl rfl S1 (rRecord_any r A c n _ (S1.rd0 hr) hlen) fun a5 X5 h5 S5 => ?_
  refine mv h5 rfl rfl fun a6 h6 => ?_
  refine sl_val h6 (wn rfl) (ex_extract (h6.ev rfl) rfl) rfl rfl fun a7 h7 => ?_
  refine sl_val h7 (wn rfl) (ex_extract (h7.ev rfl) rfl) rfl rfl fun a8 h8 => ?_
  refine ma h8 rfl rfl fun a9 h9 => ?_
  refine ma h9 rfl rfl fun a10 h10 => ?_
  refine st_nil (go_then (st_seq (st_reg ?_)))
  refine mv h10 rfl rfl fun a11 h11 => ?_
  refine ma h11 rfl rfl fun a12 h12 => ?_
  refine st_nil (go_then (wp_ret ?_))
  refine fin1 h12 rfl rfl ?_
  exact ⟨by rw [← has_fnd]; rfl, S5.below⟩
theorem rlast_any (r : RngP) (A : Option Addr) (c : Nat) (w : World) (hr : Rd w w.heap.size A (recsV r.rs)) (y : RecP) (hy : r.rs.getLast? = some y) (hb : Bfr y) (hlen : r.rs.length ≤ 1000) :
    Calls Tryz.prog 67 #[ringV r A c] w fun e w' => e = .returned (.int .i64 (bhR y - 1)) ∧ Below w.heap.size w w' := by
  have hne : r.rs ≠ [] := by intro h; rw [h] at hy; cases hy
  have hpos := List.length_pos_iff.2 hne
  have hyl : r.rs[r.rs.length - 1] = y := by have := last_get hne; rw [hy] at this; injection this with this; exact this.symm
  have hbd := hb.bd
  unfold Bfr at hb
  obtain ⟨b, o, rfl, hB, _⟩ := hr.opened (by rw [recsV_length]; omega)
  have hcl : ∀ {X : World} {B : Nat}, Rd X B (some ⟨b, o, none⟩) (recsV r.rs) → ∀ (j : Nat) (u : Value), [Value.int .i64 y.l, .int .i64 y.s, .string y.b][j]? = some u → X.cell? ⟨b, o + (r.rs.length - 1) * 3 + j, none⟩ = some u := fun h => by rw [← hyl]; exact recAt h (by omega)
  refine st_enter (N := 20) Tryz.func67 rfl rfl rfl (fun a0 h0 => ?_)
  have S0 := St.init w
  refine st_seq (st_reg ?_)
  refine sl_new h0 (wn rfl) (f := fun b => .pointer (some ⟨b, 0, none⟩)) (ex_box (h0.ev rfl)) rfl rfl S0 fun b1 a1 X1 gb1 h1 S1 => ?_
  refine ma h1 rfl rfl fun a2 h2 => ?_
  refine st_nil (go_then (st_seq (st_reg ?_)))
  refine sl_val h2 (wn rfl) (ex_field (off := 7) (j := 7) (by kernel_rfl) (h2.ev rfl) rfl) rfl rfl fun a3 h3 => ?_
  refine sl_val h3 (wn rfl) (ex_load (by kernel_rfl) (h3.ev rfl) (S1.cell (i := 0) rfl rfl)) rfl rfl fun a4 h4 => ?_
  refine sl_val h4 (wn rfl) (ex_field (off := 7) (j := 7) (by kernel_rfl) (h4.ev rfl) rfl) rfl rfl fun a5 h5 => ?_
  refine sl_val h5 (wn rfl) (ex_load (by kernel_rfl) (h5.ev rfl) (S1.cell (i := 0) rfl rfl)) rfl rfl fun a6 h6 => ?_
  refine sl_val h6 (wn rfl) (ex_len Tryz.underlying24 (h6.ev rfl)) rfl rfl fun a7 h7 => ?_
  refine sl_val h7 (wn rfl) (ex_sub (h7.ev rfl) (h7.ev rfl) (by omega)) rfl rfl fun a8 h8 => ?_
  refine sl_val h8 (wn rfl) (ex_index (i := r.rs.length - 1) (sz := 3) Tryz.underlying24 (by kernel_rfl) (h8.ev rfl) (h8.ev rfl) (by omega) (by omega) rfl) rfl rfl fun a9 h9 => ?_
  refine sl_val (v := recV y) h9 (wn rfl) (ex_loads (by kernel_rfl) (by kernel_rfl) (h9.ev rfl) (hcl (S1.rd0 hr))) rfl rfl fun a10 h10 => ?_
  refine sl_new h10 (wn rfl) (f := fun b => .pointer (some ⟨b, 0, none⟩)) (ex_alloc (z := .agg #[.int .i64 0, .int .i64 0, .string ⟨#[]⟩]) (by kernel_rfl)) rfl rfl S1 fun b3 a11 X11 gb3 h11 S11 => ?_
  refine sl_store0 h11 (wn rfl) ⟨rfl, rfl⟩ (h11.ev rfl) (h11.ev rfl) rfl (by kernel_rfl) S11 (i := 0) rfl rfl rfl fun X12 S12 => ?_
  refine st_nil (go_then (st_seq (st_reg ?_)))
  refine sl_val h11 (wn rfl) (ex_field (off := 0) (j := 0) (by kernel_rfl) (h11.ev rfl) rfl) rfl rfl fun a13 h13 => ?_
  refine sl_val h13 (wn rfl) (ex_load (by kernel_rfl) (h13.ev rfl) (S12.cell (i := 0) rfl rfl)) rfl rfl fun a14 h14 => ?_
  refine sl_val h14 (wn rfl) (ex_sub (h14.ev rfl) (h14.ev rfl) (by omega)) rfl rfl fun a15 h15 => ?_
  refine sl_val h15 (wn rfl) (ex_field (off := 2) (j := 2) (by kernel_rfl) (h15.ev rfl) rfl) rfl rfl fun a16 h16 => ?_
  refine sl_val h16 (wn rfl) (ex_load (by kernel_rfl) (h16.ev rfl) (S12.cell (i := 0) rfl rfl)) rfl rfl fun a17 h17 => ?_
  refine sl_val h17 (wn rfl) (ex_slen Tryz.underlying9 (h17.ev rfl)) rfl rfl fun a18 h18 => ?_
  refine sl_pure h18 (wn rfl) (ex_call (fun _ _ => by kernel_rfl) (h18.evs rfl) rfl) rfl rfl (rBehind_any _ _ (by omega) _) fun a19 h19 => ?_
  refine sl_val h19 (wn rfl) (ex_sub (h19.ev rfl) (h19.ev rfl) ⟨by unfold bhR at hbd; omega, by unfold bhR at hbd; omega⟩) rfl rfl fun a20 h20 => ?_
  refine ma h20 rfl rfl fun a21 h21 => ?_
  refine st_nil (go_then (wp_ret ?_))
  refine fin1 h21 rfl rfl ?_
  exact ⟨rfl, S12.below⟩
theorem rRooms_any (r : RngP) (A : Option Addr) (c : Nat) (w : World) (hr : Rd w w.heap.size A (recsV r.rs)) (hb : ∀ y, r.rs.getLast? = some y → Bfr y) (ho : r.rs = [] ∨ (1 ≤ r.r.o ∧ r.r.o ≤ 100000000)) (hlen : r.rs.length ≤ 1000) :
    Calls Tryz.prog 21 #[ringV r A c] w fun e w' => e = .returned (.tuple #[.int .i64 (roomsP r).1, .int .i64 (roomsP r).2]) ∧ Below w.heap.size w w' := by
  refine st_enter (N := 21) Tryz.func21 rfl rfl rfl (fun a0 h0 => ?_)
  have S0 := St.init w
  refine st_seq (st_reg ?_)
  refine sl_new h0 (wn rfl) (f := fun b => .pointer (some ⟨b, 0, none⟩)) (ex_box (h0.ev rfl)) rfl rfl S0 fun b1 a1 X1 gb1 h1 S1 => ?_
  refine ma h1 rfl rfl fun a2 h2 => ?_
  refine ma h2 rfl rfl fun a3 h3 => ?_
  refine st_nil (go_then (st_seq (st_seq (st_reg ?_))))
  refine sl_val h3 (wn rfl) (ex_field (off := 7) (j := 7) (by kernel_rfl) (h3.ev rfl) rfl) rfl rfl fun a4 h4 => ?_
  refine sl_val h4 (wn rfl) (ex_load (by kernel_rfl) (h4.ev rfl) (S1.cell (i := 0) rfl rfl)) rfl rfl fun a5 h5 => ?_
  refine sl_val h5 (wn rfl) (ex_len Tryz.underlying24 (h5.ev rfl)) rfl rfl fun a6 h6 => ?_
  refine sl_val h6 (wn rfl) (ex_eql (h6.ev rfl) (h6.ev rfl)) rfl rfl fun a7 h7 => ?_
  refine st_nil (go_then ?_)
  refine st_if (h7.ev rfl) (fun hc0 => ?_) (fun hc0 => ?_)
  · skip
    have hnil : r.rs = [] := by simp only [beq_iff_eq] at hc0; exact List.eq_nil_of_length_eq_zero (by omega)
    refine st_seq (st_reg ?_)
    refine ma h7 rfl rfl fun a8 h8 => ?_
    refine ma h8 rfl rfl fun a9 h9 => ?_
    refine st_nil (go_then (wp_ret (ret_then ?_)))
    refine fin2 h9 rfl rfl rfl ?_
    exact ⟨by unfold roomsP; rw [hnil]; rfl, S1.below⟩
  · skip
    have hne : r.rs ≠ [] := by intro h; rw [h] at hc0; simp at hc0
    replace ho := ho.resolve_left hne
    have hlast := last_get hne
    obtain ⟨y, hy⟩ : ∃ y, r.rs.getLast? = some y := ⟨_, hlast⟩
    have hyb := hb _ hy
    have hbd := hyb.bd
    refine wp_skip (go_then (st_seq (st_reg ?_)))
    refine sl_val h7 (wn rfl) (ex_field (off := 1) (j := 1) (by kernel_rfl) (h7.ev rfl) rfl) rfl rfl fun a10 h10 => ?_
    refine sl_val h10 (wn rfl) (ex_field (off := 2) (j := 3) (by kernel_rfl) (h10.ev rfl) rfl) rfl rfl fun a11 h11 => ?_
    refine sl_val h11 (wn rfl) (ex_load (by kernel_rfl) (h11.ev rfl) (S1.cell (i := 0) rfl rfl)) rfl rfl fun a12 h12 => ?_
    refine sl_val h12 (wn rfl) (ex_sub (h12.ev rfl) (h12.ev rfl) (by omega)) rfl rfl fun a13 h13 => ?_
    refine sl_pure h13 (wn rfl) (ex_call (fun _ _ => by kernel_rfl) (h13.evs rfl) rfl) rfl rfl (rroom_any _ (by omega) _) fun a14 h14 => ?_
    refine ma h14 rfl rfl fun a15 h15 => ?_
    refine st_nil (go_then (st_seq (st_reg ?_)))
    refine mv h15 rfl rfl fun a16 h16 => ?_
    refine sl_val (v := ringV r A c) h16 (wn rfl) (ex_loads (by kernel_rfl) (by kernel_rfl) (h16.ev rfl) (S1.cellsAll (i := 0) rfl)) rfl rfl fun a17 h17 => ?_
    refine sl_bel h17 (wn rfl) (ex_call (fun _ _ => by kernel_rfl) (h17.evs rfl) rfl) rfl rfl S1 (rlast_any r A c _ (S1.rd0 hr) y hy hyb hlen) fun a18 X18 h18 S18 => ?_
    refine sl_pure h18 (wn rfl) (ex_call (fun _ _ => by kernel_rfl) (h18.evs rfl) rfl) rfl rfl (rroom_any _ (by omega) _) fun a19 h19 => ?_
    refine mv h19 rfl rfl fun a20 h20 => ?_
    refine sl_val h20 (wn rfl) (ex_sub (h20.ev rfl) (h20.ev rfl) (by omega)) rfl rfl fun a21 h21 => ?_
    refine sl_val h21 (wn rfl) (ex_add (h21.ev rfl) (h21.ev rfl) (by omega)) rfl rfl fun a22 h22 => ?_
    refine ma h22 rfl rfl fun a23 h23 => ?_
    refine ma h23 rfl rfl fun a24 h24 => ?_
    refine st_nil (go_then (wp_ret ?_))
    refine fin2 h24 rfl rfl rfl ?_
    exact ⟨by unfold roomsP; rw [hy], S18.below⟩
theorem rEmpty_any (pg : Int) (w : World) : Calls Tryz.prog 28 #[.int .i64 pg] w fun e w' => e = .returned (ringV ⟨pg, ⟨1, 0, 1⟩, rst0, [], 0⟩ none 0) ∧ Below w.heap.size w w' := by
  refine st_enter (N := 6) Tryz.func28 rfl rfl rfl (fun a0 h0 => ?_)
  have S0 := St.init w
  refine st_seq (st_reg ?_)
  refine sl_new h0 (wn rfl) (f := fun b => .pointer (some ⟨b, 0, none⟩)) (ex_alloc (z := .agg #[.int .i64 0, .int .i64 0, .int .i64 0, .int .i64 0, .int .i64 0, .int .i64 0, .int .i64 0, .slice none 0 0, .int .i64 0]) (by kernel_rfl)) rfl rfl S0 fun b2 a1 X1 gb2 h1 S1 => ?_
  refine st_nil (go_then (st_seq (st_reg ?_)))
  refine mv h1 rfl rfl fun a2 h2 => ?_
  refine sl_val h2 (wn rfl) (ex_build (zs := [.int .i64 0, .int .i64 0, .int .i64 0]) (pl := [(0, 1), (1, 1), (2, 1)]) (by kernel_rfl) (by kernel_rfl) (h2.evs2 rfl) rfl rfl) rfl rfl fun a3 h3 => ?_
  refine sl_val h3 (wn rfl) (ex_build (zs := [.int .i64 0, .int .i64 0, .int .i64 0, .int .i64 0, .int .i64 0, .int .i64 0, .int .i64 0, .slice none 0 0, .int .i64 0]) (pl := [(0, 1), (1, 3), (4, 3), (7, 1), (8, 1)]) (by kernel_rfl) (by kernel_rfl) (h3.evs2 rfl) rfl rfl) rfl rfl fun a4 h4 => ?_
  refine sl_store0 h4 (wn rfl) ⟨rfl, rfl⟩ (h4.ev rfl) (h4.ev rfl) rfl (by kernel_rfl) S1 (i := 0) rfl rfl rfl fun X5 S5 => ?_
  refine st_nil (go_then (wp_ret ?_))
  refine finc h4 rfl rfl S5 (i := 0) rfl (by kernel_rfl) (by kernel_rfl) ?_
  exact ⟨rfl, S5.below⟩
end Go.Proofs.YtmlilplbdpjfcaaGreatDoor
