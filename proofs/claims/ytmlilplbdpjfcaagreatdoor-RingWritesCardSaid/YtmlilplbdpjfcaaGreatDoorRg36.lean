/-
  Chapter 20: the writes, the reference's way.
-/
import Derived.Test.YtmlilplbdpjfcaaGreatDoorRg35
import Derived.Test.YtmlilplbdpjfcaaGreatDoorRg12
namespace Go.Proofs.YtmlilplbdpjfcaaGreatDoor
set_option linter.unusedVariables false
set_option linter.unusedSimpArgs false
set_option maxRecDepth 4000
open Go.RowKit Go.Sort
def diskV (x : Int × List UInt8) : Value := .agg #[.int .i64 x.1, .string (bs x.2)]
theorem disk_eqL (x y : Int × List UInt8) : eqL [.int .i64 x.1, .string (bs x.2)] [.int .i64 y.1, .string (bs y.2)] = decide (x = y) := by
  obtain ⟨a, b⟩ := x
  obtain ⟨a', b'⟩ := y
  rw [Bool.eq_iff_iff]
  have : bs b = bs b' ↔ b = b' := ⟨fun h => by have := congrArg bl h; rwa [bl_bs, bl_bs] at this, fun h => by rw [h]⟩
  simp [eqL, eqV2, this]
theorem rRestartWrite_any (r : RngP) (A : Option Addr) (c : Nat) (sec : Int) (w : World) (hok : OkP r) (hs : 0 ≤ sec ∧ sec ≤ 1000000) :
    Calls Tryz.prog 45 #[ringV r A c, .int .i64 sec] w fun e w' => e = .returned (diskV (sec + 8 * (r.r.s % 2), rsL r.r r.pg)) ∧ Below w.heap.size w w' := by
  have hrr := hok.h.rr
  have hpg := hok.h.pg
  refine st_enter (N := 18) Tryz.func45 rfl rfl rfl (fun a0 h0 => ?_)
  have S0 := St.init w
  refine st_seq (st_reg ?_)
  refine sl_new h0 (wn rfl) (f := fun b => .pointer (some ⟨b, 0, none⟩)) (ex_box (h0.ev rfl)) rfl rfl S0 fun b2 a1 X1 gb2 h1 S1 => ?_
  refine sl_new h1 (wn rfl) (f := fun b => .pointer (some ⟨b, 0, none⟩)) (ex_alloc (z := .agg #[.int .i64 0, .string ⟨#[]⟩]) (by kernel_rfl)) rfl rfl S1 fun b4 a2 X2 gb4 h2 S2 => ?_
  refine st_nil (go_then (st_seq ?_))
  apply dr_flow h2 [false, false, false, false, false, false, false, false, false, false, false, false] _ (by kernel_rfl)
  case h =>
   refine sq_val h2 (wn rfl) rfl rfl (fun X hX => (ex_move (h2.ev rfl))) fun a3 h3 => ?_
   refine sq_val h3 (wn rfl) rfl rfl (fun X hX => (ex_field (off := 1) (j := 1) (by kernel_rfl) (h3.ev rfl) rfl)) fun a4 h4 => ?_
   refine sq_val h4 (wn rfl) rfl rfl (fun X hX => (ex_field (off := 0) (j := 1) (by kernel_rfl) (h4.ev rfl) rfl)) fun a5 h5 => ?_
   refine sq_val h5 (wn rfl) rfl rfl (fun X hX => (ex_load (by kernel_rfl) (h5.ev rfl) ((S2.grow hX).cell (i := 1) rfl rfl))) fun a6 h6 => ?_
   refine sq_val h6 (wn rfl) rfl rfl (fun X hX => (ex_rem (h6.ev rfl) (h6.ev rfl) (by omega))) fun a7 h7 => ?_
   refine sq_val h7 (wn rfl) rfl rfl (fun X hX => (as_val (v' := .int .i64 (8 * (r.r.s % 2))) (congrArg _ (show r.r.s % 2 * 8 = 8 * (r.r.s % 2) by omega)) (ex_mul (h7.ev rfl) (h7.ev rfl) (by omega)))) fun a8 h8 => ?_
   refine sq_val h8 (wn rfl) rfl rfl (fun X hX => (ex_add (h8.ev rfl) (h8.ev rfl) (by omega))) fun a9 h9 => ?_
   refine sq_val h9 (wn rfl) rfl rfl (fun X hX => (ex_field (off := 1) (j := 1) (by kernel_rfl) (h9.ev rfl) rfl)) fun a10 h10 => ?_
   refine sq_val (v := rstV r.r) h10 (wn rfl) rfl rfl (fun X hX => (ex_loads (by kernel_rfl) (by kernel_rfl) (h10.ev rfl) ((S2.grow hX).cellsOf (i := 1) rfl 1 3))) fun a11 h11 => ?_
   refine sq_val h11 (wn rfl) rfl rfl (fun X hX => (ex_field (off := 0) (j := 0) (by kernel_rfl) (h11.ev rfl) rfl)) fun a12 h12 => ?_
   refine sq_val h12 (wn rfl) rfl rfl (fun X hX => (ex_load (by kernel_rfl) (h12.ev rfl) ((S2.grow hX).cell (i := 1) rfl rfl))) fun a13 h13 => ?_
   refine sq_bel h13 (wn rfl) rfl rfl (fun X => (ex_call (fun _ _ => by kernel_rfl) (h13.evs rfl) rfl)) (fun X hX => rRestartPage_any r.r r.pg (by omega) (by omega) (by omega) (by omega) _) fun a14 h14 => ?_
   refine sq_nil ?_
   refine nd_end fun X15 hX15 hΦ15 => ?_
   have S15 := S2.grow hX15
   refine sl_val (v := diskV (sec + 8 * (r.r.s % 2), rsL r.r r.pg)) h14 (wn rfl) (ex_build (zs := [.int .i64 0, .string ⟨#[]⟩]) (pl := [(0, 1), (1, 1)]) (by kernel_rfl) (by kernel_rfl) (h14.evs2 rfl) rfl rfl) rfl rfl fun a16 h16 => ?_
   refine sl_store0 h16 (wn rfl) ⟨rfl, rfl⟩ (h16.ev rfl) (h16.ev rfl) rfl (by kernel_rfl) S15 (i := 0) rfl rfl rfl fun X17 S17 => ?_
   refine st_nil (go_then (wp_ret ?_))
   refine finc h16 rfl rfl S17 (i := 0) rfl (by kernel_rfl) (by kernel_rfl) ?_
   exact ⟨rfl, S17.below⟩
  case hB => kernel_rfl
  case hst => rfl
theorem wrAt {X : World} {B b o : Nat} {l : List (Int × List UInt8)} {k : Nat} (h : Rd X B (some ⟨b, o, none⟩) (wrsV l)) (hk : k < l.length) : ∀ (j : Nat) (u : Value), [Value.int .i64 l[k].1, .string (bs l[k].2)][j]? = some u → X.cell? ⟨b, o + k * 2 + j, none⟩ = some u := fun j u hu => by
  have hj : j < 2 := by
    rcases Nat.lt_or_ge j 2 with h1 | h1
    · exact h1
    · rw [List.getElem?_eq_none (by simpa using h1)] at hu; cases hu
  have hg : (wrsV l)[k * 2 + j]? = some u := by
    have h2 := wrsV_get l k hk
    rw [← List.getElem?_drop]
    have h3 : (((wrsV l).drop (k * 2)).take 2)[j]? = some u := by rw [h2]; exact hu
    rwa [List.getElem?_take, if_pos hj] at h3
  obtain ⟨b', o', e, _, hc⟩ := h (k * 2 + j) u hg
  injection e with e
  injection e with e1 e2
  subst e1 e2
  rw [Nat.add_assoc]; exact hc
theorem sameWrites_any (l m : List (Int × List UInt8)) (A A' : Option Addr) (c c' : Nat) (w : World) (hl : Rd w w.heap.size A (wrsV l)) (hm : Rd w w.heap.size A' (wrsV m)) (hll : l.length ≤ 100000) :
    Calls Tryz.prog 43 #[.slice A l.length c, .slice A' m.length c'] w fun e w' => e = .returned (.bool (decide (l = m))) ∧ Below w.heap.size w w' := by
  have hW : ∀ l : List (Int × List UInt8), (wrsV l).length = l.length * 2 := fun l => by
    induction l with
    | nil => rfl
    | cons x l ih => show (wrV x ++ wrsV l).length = _; rw [List.length_append, ih]; show 2 + l.length * 2 = (l.length + 1) * 2; omega
  refine st_enter (N := 26) Tryz.func43 rfl rfl rfl (fun a0 h0 => ?_)
  have S0 := St.init w
  refine st_seq (st_reg ?_)
  refine ma h0 rfl rfl fun a1 h1 => ?_
  refine st_nil (go_then (st_seq (st_seq (st_reg ?_))))
  refine mv h1 rfl rfl fun a2 h2 => ?_
  refine sl_val h2 (wn rfl) (ex_len Tryz.underlying70 (h2.ev rfl)) rfl rfl fun a3 h3 => ?_
  refine mv h3 rfl rfl fun a4 h4 => ?_
  refine sl_val h4 (wn rfl) (ex_len Tryz.underlying70 (h4.ev rfl)) rfl rfl fun a5 h5 => ?_
  refine sl_val h5 (wn rfl) (ex_neq (h5.ev rfl) (h5.ev rfl)) rfl rfl fun a6 h6 => ?_
  refine st_nil (go_then ?_)
  refine st_if (h6.ev rfl) (fun hc0 => ?_) (fun hc0 => ?_)
  · skip
    have hne : l ≠ m := by
      rintro rfl
      simp at hc0
    refine st_seq (st_reg ?_)
    refine ma h6 rfl rfl fun a7 h7 => ?_
    refine st_nil (go_then (wp_ret (ret_then ?_)))
    refine fin1 h7 rfl rfl ?_
    exact ⟨by rw [decide_eq_false hne], S0.below⟩
  · skip
    have hlen : l.length = m.length := by
      have : (l.length : Int) = m.length := by simpa using hc0
      omega
    refine wp_skip (go_then (st_seq (st_seq (st_reg ?_))))
    refine ma h6 rfl rfl fun a8 h8 => ?_
    refine st_nil (go_then (wp_block ?_))
    refine st_loop h8 S0 [0, 1] (fun (k : Nat) => [(5, .int .i64 (k : Nat))]) (fun (k : Nat) => k ≤ l.length ∧ l.take k = m.take k) (fun (k : Nat) L => L) (fun (k : Nat) => l.length - k) (0) (⟨Nat.zero_le _, rfl⟩) ⟨rfl, rfl, rfl, trivial⟩ (S0) ?_
    intro k a9 X9 hF0 h9 S9
    refine st_seq (st_seq (st_reg ?_))
    refine mv h9 rfl rfl fun a10 h10 => ?_
    refine mv h10 rfl rfl fun a11 h11 => ?_
    refine sl_val h11 (wn rfl) (ex_len Tryz.underlying70 (h11.ev rfl)) rfl rfl fun a12 h12 => ?_
    refine sl_val h12 (wn rfl) (ex_lss (h12.ev rfl) (h12.ev rfl)) rfl rfl fun a13 h13 => ?_
    refine st_nil (go_then ?_)
    refine st_if (h13.ev rfl) (fun hc1 => ?_) (fun hc1 => ?_)
    · skip
      have hlt : k < l.length := by have := of_decide_eq_true hc1; omega
      have hltm : k < m.length := by omega
      obtain ⟨b, o, rfl, _⟩ := hl.opened (by rw [hW]; omega)
      obtain ⟨b', o', rfl, _⟩ := hm.opened (by rw [hW]; omega)
      refine wp_skip (go_then (st_seq (wp_block (st_seq ?_))))
      apply dr_flow h13 [false, false, false, false, false, false, false, false] _ (by kernel_rfl)
      case h =>
       refine sq_val h13 (wn rfl) rfl rfl (fun X hX => (ex_move (h13.ev rfl))) fun a14 h14 => ?_
       refine sq_val h14 (wn rfl) rfl rfl (fun X hX => (ex_move (h14.ev rfl))) fun a15 h15 => ?_
       refine sq_val h15 (wn rfl) rfl rfl (fun X hX => (ex_index (i := k) (sz := 2) Tryz.underlying70 (by kernel_rfl) (h15.ev rfl) (h15.ev rfl) (by omega) (by omega) rfl)) fun a16 h16 => ?_
       refine sq_val (v := diskV l[k]) h16 (wn rfl) rfl rfl (fun X hX => (ex_loads (by kernel_rfl) (by kernel_rfl) (h16.ev rfl) (wrAt ((S9.grow hX).rd0 hl) hlt))) fun a17 h17 => ?_
       refine sq_val h17 (wn rfl) rfl rfl (fun X hX => (ex_move (h17.ev rfl))) fun a18 h18 => ?_
       refine sq_val h18 (wn rfl) rfl rfl (fun X hX => (ex_move (h18.ev rfl))) fun a19 h19 => ?_
       refine sq_val h19 (wn rfl) rfl rfl (fun X hX => (ex_index (i := k) (sz := 2) Tryz.underlying70 (by kernel_rfl) (h19.ev rfl) (h19.ev rfl) (by omega) (by omega) rfl)) fun a20 h20 => ?_
       refine sq_val (v := diskV m[k]) h20 (wn rfl) rfl rfl (fun X hX => (ex_loads (by kernel_rfl) (by kernel_rfl) (h20.ev rfl) (wrAt ((S9.grow hX).rd0 hm) hltm))) fun a21 h21 => ?_
       refine sq_nil ?_
       refine nd_end fun X22 hX22 hΦ22 => ?_
       have S22 := S9.grow hX22
       refine sl_val h21 (wn rfl) (ex_tneq (ks := [.i .i64, .s]) (by kernel_rfl) Tryz.underlying74 (by kernel_rfl) (h21.ev rfl) (h21.ev rfl) rfl rfl) rfl rfl fun a23 h23 => ?_
       refine st_nil (go_then ?_)
       refine st_if (h23.ev rfl) (fun hc2 => ?_) (fun hc2 => ?_)
       · skip
         have hne : l ≠ m := by
           rintro rfl
           have h : (!eqL [.int .i64 l[k].1, .string (bs l[k].2)] [.int .i64 l[k].1, .string (bs l[k].2)]) = true := hc2
           rw [disk_eqL] at h; simp at h
         refine st_seq (st_reg ?_)
         refine ma h23 rfl rfl fun a24 h24 => ?_
         refine st_nil (go_then (wp_ret (ret_block (ret_then (ret_then (ret_block (ret_then ?_)))))))
         refine fin1 h24 rfl rfl ?_
         exact ⟨by rw [decide_eq_false hne], S22.below⟩
       · skip
         have hek : l[k] = m[k] := by
           have h : (!eqL [.int .i64 l[k].1, .string (bs l[k].2)] [.int .i64 m[k].1, .string (bs m[k].2)]) = false := hc2
           rw [disk_eqL] at h; simpa using h
         refine wp_skip (go_block (go_then (st_reg ?_)))
         refine mv h23 rfl rfl fun a25 h25 => ?_
         refine sl_val h25 (wn rfl) (ex_add (h25.ev rfl) (h25.ev rfl) (by omega)) rfl rfl fun a26 h26 => ?_
         refine ma h26 rfl rfl fun a27 h27 => ?_
         refine st_nil (go_then ?_)
         exact ⟨k + 1, (by omega), ⟨hlt, by rw [List.take_add_one, List.take_add_one, hF0.2, List.getElem?_eq_getElem hlt, List.getElem?_eq_getElem hltm, hek]⟩, h27.re ⟨rfl, rfl, rfl, trivial⟩, S22⟩
      case hB => kernel_rfl
      case hst => rfl
    · skip
      have hge : k = l.length := by have := of_decide_eq_false hc1; omega
      have heq : l = m := by
        have h := hF0.2
        rwa [hge, List.take_length, hlen, List.take_length] at h
      refine wp_exit ?_
      refine go_exit_then ?_
      refine go_exit_then ?_
      refine go_exit ?_
      refine go_then (st_seq (st_reg ?_))
      refine ma h13 rfl rfl fun a28 h28 => ?_
      refine st_nil (go_then (wp_ret ?_))
      refine fin1 h28 rfl rfl ?_
      exact ⟨by rw [decide_eq_true heq], S9.below⟩
theorem rWrites_any (r : RngP) (A : Option Addr) (c : Nat) (n sec : Int) (w : World) (hr : Rd w w.heap.size A (recsV r.rs)) (hok : OkP r) (hh : hasR r.rs n = true) (hs : 0 ≤ sec ∧ sec ≤ 1000000) :
    Calls Tryz.prog 44 #[ringV r A c, .int .i64 n, .int .i64 sec] w fun e w' => ∃ A' c', e = .returned (.slice A' (wfrL r n sec).length c') ∧ w'.ownsRow w.heap.size 74 2 (.slice A' (wfrL r n sec).length c') (wfrL r n sec).length (wrsV (wfrL r n sec)) ∧ Below w.heap.size w w' := by
  have hlen : r.rs.length ≤ 1000 := by have := hok.h.len; omega
  have hpg := hok.h.pg
  have hn := has_bd hok hh
  have hb := rooms_bd hok
  refine st_enter (N := 41) Tryz.func44 rfl rfl rfl (fun a0 h0 => ?_)
  have S0 := St.init w
  refine st_seq (st_reg ?_)
  refine sl_new h0 (wn rfl) (f := fun b => .pointer (some ⟨b, 0, none⟩)) (ex_box (h0.ev rfl)) rfl rfl S0 fun b3 a1 X1 gb3 h1 S1 => ?_
  refine ma h1 rfl rfl fun a2 h2 => ?_
  refine st_nil (go_then (st_seq (st_reg ?_)))
  refine ma h2 rfl rfl fun a3 h3 => ?_
  have S4 := S1.nilRow 74 2
  refine st_nil (go_then (st_seq (st_reg ?_)))
  refine sl_val (v := ringV r A c) h3 (wn rfl) (ex_loads (by kernel_rfl) (by kernel_rfl) (h3.ev rfl) (S4.cellsAll (i := 1) rfl)) rfl rfl fun a5 h5 => ?_
  refine sl_bel h5 (wn rfl) (ex_call (fun _ _ => by kernel_rfl) (h5.evs rfl) rfl) rfl rfl S4 (rRooms_any r A c _ (S4.rd0 hr) hok.last hok.o hlen) fun a6 X6 h6 S6 => ?_
  refine mv h6 rfl rfl fun a7 h7 => ?_
  refine sl_val h7 (wn rfl) (ex_extract (h7.ev rfl) rfl) rfl rfl fun a8 h8 => ?_
  refine sl_val h8 (wn rfl) (ex_extract (h8.ev rfl) rfl) rfl rfl fun a9 h9 => ?_
  refine ma h9 rfl rfl fun a10 h10 => ?_
  refine ma h10 rfl rfl fun a11 h11 => ?_
  refine st_nil (go_then (st_seq (st_seq (st_reg ?_))))
  refine mv h11 rfl rfl fun a12 h12 => ?_
  refine sl_val h12 (wn rfl) (ex_sub (h12.ev rfl) (h12.ev rfl) (by omega)) rfl rfl fun a13 h13 => ?_
  refine sl_pure h13 (wn rfl) (ex_call (fun _ _ => by kernel_rfl) (h13.evs rfl) rfl) rfl rfl (rroom_any _ (by omega) _) fun a14 h14 => ?_
  refine ma h14 rfl rfl fun a15 h15 => ?_
  rw [show (n - 1) / 448 = (n - 1) / 448 + ((0 : Nat) : Int) by omega] at h15
  refine st_nil (go_then (wp_block ?_))
  refine st_loop h15 S6 [9, 8, 6, 3, 2] (fun (q : Nat × Option Addr × Nat) => [(10, .int .i64 ((n - 1) / 448 + (q.1 : Int))), (7, .slice q.2.1 q.1 q.2.2)]) (fun (q : Nat × Option Addr × Nat) => q.1 ≤ ((roomsP r).1 + (roomsP r).2 - (n - 1) / 448).toNat) (fun q L => L.set 0 (.row (.slice q.2.1 q.1 q.2.2) q.1 74 2 (wrsV (wrK r sec ((n - 1) / 448) q.1)))) (fun (q : Nat × Option Addr × Nat) => ((roomsP r).1 + (roomsP r).2 - (n - 1) / 448).toNat - q.1) ((0, none, 0)) (Nat.zero_le _) ⟨rfl, rfl, rfl, rfl, rfl, rfl, rfl, trivial⟩ (S6) ?_
  intro q a16 X16 hF0 h16 S16
  refine st_seq (st_seq (st_reg ?_))
  refine mv h16 rfl rfl fun a17 h17 => ?_
  refine mv h17 rfl rfl fun a18 h18 => ?_
  refine mv h18 rfl rfl fun a19 h19 => ?_
  refine sl_val h19 (wn rfl) (ex_add (h19.ev rfl) (h19.ev rfl) (by omega)) rfl rfl fun a20 h20 => ?_
  refine sl_val h20 (wn rfl) (ex_lss (h20.ev rfl) (h20.ev rfl)) rfl rfl fun a21 h21 => ?_
  refine st_nil (go_then ?_)
  refine st_if (h21.ev rfl) (fun hc0 => ?_) (fun hc0 => ?_)
  · skip
    have hlt : (n - 1) / 448 + (q.1 : Int) < (roomsP r).1 + (roomsP r).2 := of_decide_eq_true hc0
    obtain ⟨Q, hQ⟩ := Int.eq_ofNat_of_zero_le (show 0 ≤ (n - 1) / 448 + (q.1 : Int) by omega)
    have hP : ∀ w, Calls Tryz.prog 98 #[.int .i64 ((n - 1) / 448 + (q.1 : Int)), .int .i64 r.pg] w fun e w' => e = .returned (.int .i64 (2 + ((n - 1) / 448 + (q.1 : Int)) % (r.pg - 2))) ∧ w = w' := fun w => by
      obtain ⟨P, hP⟩ := Int.eq_ofNat_of_zero_le (show 0 ≤ r.pg by omega)
      have h := rPageOf_any Q P (by omega) (by omega) w
      rw [hQ, hP, show (2 + (Q : Int) % ((P : Int) - 2)) = ((2 + Q % (P - 2) : Nat) : Int) by rw [show ((P : Int) - 2) = ((P - 2 : Nat) : Int) by omega, ← Int.natCast_emod]; push_cast; rfl]
      exact h
    have hm : 0 ≤ ((n - 1) / 448 + (q.1 : Int)) % (r.pg - 2) ∧ ((n - 1) / 448 + (q.1 : Int)) % (r.pg - 2) < r.pg - 2 := ⟨Int.emod_nonneg _ (by omega), Int.emod_lt_of_pos _ (by omega)⟩
    refine wp_skip (go_then (st_seq (wp_block ?_)))
    apply dr_flow h21 [false, false, false, false, false, false, false, false, false, false, false, false, true] _ (by kernel_rfl)
    case h =>
     refine sq_val h21 (wn rfl) rfl rfl (fun X hX => (ex_move (h21.ev rfl))) fun a22 h22 => ?_
     refine sq_val h22 (wn rfl) rfl rfl (fun X hX => (ex_move (h22.ev rfl))) fun a23 h23 => ?_
     refine sq_val h23 (wn rfl) rfl rfl (fun X hX => (ex_move (h23.ev rfl))) fun a24 h24 => ?_
     refine sq_val h24 (wn rfl) rfl rfl (fun X hX => (ex_field (off := 0) (j := 0) (by kernel_rfl) (h24.ev rfl) rfl)) fun a25 h25 => ?_
     refine sq_val h25 (wn rfl) rfl rfl (fun X hX => (ex_load (by kernel_rfl) (h25.ev rfl) ((S16.grow hX).cell (i := 1) rfl rfl))) fun a26 h26 => ?_
     refine sq_pure h26 (wn rfl) rfl rfl (fun X => (ex_call (fun _ _ => by kernel_rfl) (h26.evs rfl) rfl)) (fun X hX => hP _) fun a27 h27 => ?_
     refine sq_val h27 (wn rfl) rfl rfl (fun X hX => (ex_mul (h27.ev rfl) (h27.ev rfl) (by omega))) fun a28 h28 => ?_
     refine sq_val h28 (wn rfl) rfl rfl (fun X hX => (as_val (v' := .int .i64 (sec + 8 * (2 + ((n - 1) / 448 + (q.1 : Int)) % (r.pg - 2)))) (congrArg _ (show sec + (2 + ((n - 1) / 448 + (q.1 : Int)) % (r.pg - 2)) * 8 = sec + 8 * (2 + ((n - 1) / 448 + (q.1 : Int)) % (r.pg - 2)) by omega)) (ex_add (h28.ev rfl) (h28.ev rfl) (by omega)))) fun a29 h29 => ?_
     refine sq_val (v := ringV r A c) h29 (wn rfl) rfl rfl (fun X hX => (ex_loads (by kernel_rfl) (by kernel_rfl) (h29.ev rfl) ((S16.grow hX).cellsAll (i := 1) rfl))) fun a30 h30 => ?_
     refine sq_val h30 (wn rfl) rfl rfl (fun X hX => (ex_move (h30.ev rfl))) fun a31 h31 => ?_
     refine sq_bel h31 (wn rfl) rfl rfl (fun X => (ex_call (fun _ _ => by kernel_rfl) (h31.evs rfl) rfl)) (fun X hX => rPage_any r A c _ _ ((S16.grow hX).rd0 hr) hok (by omega)) fun a32 h32 => ?_
     refine sq_val (v := .agg (wrV (wrR r sec ((n - 1) / 448 + (q.1 : Int)))).toArray) h32 (wn rfl) rfl rfl (fun X hX => (ex_build (zs := [.int .i64 0, .string ⟨#[]⟩]) (pl := [(0, 1), (1, 1)]) (by kernel_rfl) (by kernel_rfl) (h32.evs2 rfl) rfl rfl)) fun a33 h33 => ?_
     refine sq_nil ?_
     apply nd_step (k := 12) (deps := []) (R := NewB _ (fun b => .slice (some ⟨b, 0, none⟩) 1 1) _ _) h33 rfl rfl rfl NewB.stable (fun X hX hΦ => lv_new (ex_bslice2 (cs := wrV (wrR r sec ((n - 1) / 448 + (q.1 : Int)))) (zc := [.int .i64 0, .string ⟨#[]⟩]) (sz := 2) rfl Tryz.underlying70 (by kernel_rfl) (by kernel_rfl) rfl rfl rfl (h33.evs2 rfl) rfl rfl rfl) hX.size)
     intro v38 a34 h34
     refine nd_end fun X35 hX35 hΦ35 => ?_
     have S35 := S16.grow hX35
     have qv38 := told_all hΦ35 (k := 12) rfl
     obtain ⟨b38, rfl, gb38, qv38⟩ := qv38
     have S36 := S16.add hX35 (e := .box _ _ _) qv38 (fun b hb => by cases hb; exact ⟨gb38, Box.lt qv38⟩)
     refine sl_append (z := .agg #[.int .i64 0, .string ⟨#[]⟩]) (sz := 2) (bytes := 24) h34 (wn rfl) ⟨rfl, rfl⟩ rfl Tryz.underlying70 (by kernel_rfl) rfl rfl (h34.ev rfl) (h34.ev rfl) S36 (i := 1) rfl (S36.boxRd (i := 0) rfl) rfl (List.all_eq_true.1 rfl) ⟨(by show q.1 + 1 ≤ 1000000; omega), by decide⟩ fun A39 c39 a37 X37 h37 S37 => ?_
     refine ma h37 rfl rfl fun a38 h38 => ?_
     replace S37 := S37.xsEq (i := 1) (xs' := wrsV (wrK r sec ((n - 1) / 448) (q.1 + 1))) rfl (by rw [wrK_succ, wrsV_append]; rfl)
     refine st_nil (go_block (go_then (st_reg ?_)))
     refine mv h38 rfl rfl fun a39 h39 => ?_
     refine sl_val h39 (wn rfl) (as_val (v' := .int .i64 ((n - 1) / 448 + ((q.1 + 1 : Nat) : Int))) (congrArg _ (by omega)) (ex_add (h39.ev rfl) (h39.ev rfl) (by omega))) rfl rfl fun a40 h40 => ?_
     refine ma h40 rfl rfl fun a41 h41 => ?_
     refine st_nil (go_then ?_)
     exact ⟨(q.1 + 1, A39, c39), (by show _ - (q.1 + 1) < _; omega), (by show q.1 + 1 ≤ _; omega), h41.re ⟨rfl, rfl, rfl, rfl, rfl, rfl, rfl, trivial⟩, S37.sub (.cons _ (.cons_cons _ (.cons_cons _ .slnil)))⟩
    case hB => kernel_rfl
    case hst => rfl
  · skip
    have hge : q.1 = ((roomsP r).1 + (roomsP r).2 - (n - 1) / 448).toNat := by have := of_decide_eq_false hc0; omega
    refine wp_exit ?_
    refine go_exit_then ?_
    refine go_exit_then ?_
    refine go_exit ?_
    refine go_then (st_seq (st_reg ?_))
    refine mv h21 rfl rfl fun a42 h42 => ?_
    refine ma h42 rfl rfl fun a43 h43 => ?_
    refine st_nil (go_then (wp_ret ?_))
    refine fin1 h43 rfl rfl ?_
    have q2 := S16.ownB (i := 0) rfl
    have hl : (wfrL r n sec).length = q.1 := by unfold wfrL; rw [wrK_length, hge]
    refine ⟨q.2.1, q.2.2, ?_, ?_, S16.below⟩
    · rw [hl]
    · rw [hl]; unfold wfrL; rw [← hge]; exact q2
end Go.Proofs.YtmlilplbdpjfcaaGreatDoor
