/-
  Chapter 16: the stable sort of more than nineteen entries: no more is said than that as many come back, with flags in range.
  Chapter 16: the descriptor of a child that has nothing of its own.
-/
import Derived.Test.YtanicpgmbhfipaaGreatDoorAcH
import Derived.Test.YtanicpgmbhfipaaGreatDoorAcK
namespace Go.Proofs.YtanicpgmbhfipaaGreatDoor
set_option linter.unusedVariables false
set_option linter.unusedSimpArgs false
set_option maxRecDepth 4000
open Go.RowKit Go.Sort Go.Shelf
theorem okF_set {l : List AceP} (hl : okF l) {x : AceP} (hx : 0 ≤ x.f ∧ x.f ≤ 31) (k : Nat) : okF (l.set k x) := fun y hy => by
 rcases List.mem_or_eq_of_mem_set hy with h | rfl
 · exact hl _ h
 · exact hx
def swR (l : List AceP) (a b : Nat) : List AceP := (l.set a (l.getD b ace0)).set b (l.getD a ace0)
theorem swR_len (l : List AceP) (a b : Nat) : (swR l a b).length = l.length := by unfold swR; rw [List.length_set, List.length_set]
theorem swR_ok {l : List AceP} (hl : okF l) (a b : Nat) : okF (swR l a b) := okF_set (okF_set hl (okF_getD hl b) a) (okF_getD hl a) b
theorem acesV_swR {l : List AceP} {a b : Nat} (ha : a < l.length) (hb : b < l.length) :
 ((acesV l).take (a * 4) ++ aceV (l.getD b ace0) ++ (acesV l).drop (a * 4 + 4)).take (b * 4) ++ aceV (l.getD a ace0) ++ ((acesV l).take (a * 4) ++ aceV (l.getD b ace0) ++ (acesV l).drop (a * 4 + 4)).drop (b * 4 + 4) = acesV (swR l a b) := by
 rw [acesV_set ha, acesV_set (by rw [List.length_set]; exact hb)]; rfl
theorem swr_any (g c n a b m : Nat) (ys : List AceP) (F : Value) (hn : n = ys.length) (ha : a + m ≤ n) (hb : b + m ≤ n) (hlen : n ≤ 1000) (hf : okF ys) (w : World) (hr : w.ownsRow 0 111 4 (.slice (some ⟨g, 0, none⟩) n c) n (acesV ys)) :
 Calls Tryz.prog 168 #[.slice (some ⟨g, 0, none⟩) n c, .int .i64 a, .int .i64 b, .int .i64 m, F] w fun e X' => ∃ zs : List AceP, e = .returned (.tuple #[]) ∧ (zs.length = n ∧ okF zs) ∧ St (Value.slice (some ⟨g, 0, none⟩) n c).ownBlock.toList w X' [.row (.slice (some ⟨g, 0, none⟩) n c) n 111 4 (acesV zs)] := by
 refine st_enter (N := 38) Tryz.func168 rfl rfl rfl (fun a0 h0 => ?_)
 have S0 := St.initO hr
 refine st_seq (st_reg ?_)
 refine ma h0 fun a1 h1 => ?_
 refine st_nil (go_then (wp_block ?_))
 refine st_loop h1 S0 [0, 1, 2, 3] (fun (q : Nat × List AceP) => [(10, .int .i64 q.1)]) (fun (q : Nat × List AceP) => q.1 ≤ m ∧ q.2.length = n ∧ okF q.2) (fun q L => [.row (.slice (some ⟨g, 0, none⟩) n c) n 111 4 (acesV q.2)]) (fun (q : Nat × List AceP) => m - q.1) ((0, ys)) (⟨Nat.zero_le _, hn.symm, hf⟩) ⟨rfl, rfl, rfl, rfl, rfl, trivial⟩ (S0) ?_
 intro q a2 X2 hF0 h2 S2
 refine st_seq (st_seq (st_reg ?_))
 refine mvv h2 fun a4 h4 => ?_
 refine sv h4 (ex_lss (h4.ev rfl) (h4.ev rfl)) fun a5 h5 => ?_
 refine st_nil (go_then ?_)
 refine st_if (h5.ev rfl) (fun hc0 => ?_) (fun hc0 => ?_)
 ·
  obtain ⟨hq1, hq2, hq3⟩ := hF0
  have hlt : q.1 < m := by have := of_decide_eq_true hc0; omega
  refine wp_skip (go_then (st_seq (wp_block ?_)))
  apply dr_flowM h5 (St.domAt S2 (i := 0) rfl) [(21, (St.domAt S2 (i := 0) rfl))] [] [false, false, false, false, false, false, false, false, false, false, false, false, false, true, false, false, false, false, false, true, false, true] _ (by kernel_rfl) (all1 (fun b hb => hb))
  case h =>
   refine qv h5 (fun X hX => ex_move (h5.ev rfl)) fun a6 h6 => ?_
   refine qv h6 (fun X hX => ex_move (h6.ev rfl)) fun a7 h7 => ?_
   refine qv h7 (fun X hX => ex_move (h7.ev rfl)) fun a8 h8 => ?_
   refine qv h8 (fun X hX => as_val (v' := .int .i64 ((a + q.1 : Nat) : Int)) (congrArg _ (by omega)) (ex_add (h8.ev rfl) (h8.ev rfl) (by omega))) fun a9 h9 => ?_
   refine qv h9 (fun X hX => ex_move (h9.ev rfl)) fun a10 h10 => ?_
   refine qv h10 (fun X hX => ex_move (h10.ev rfl)) fun a11 h11 => ?_
   refine qv h11 (fun X hX => ex_move (h11.ev rfl)) fun a12 h12 => ?_
   refine qv h12 (fun X hX => as_val (v' := .int .i64 ((b + q.1 : Nat) : Int)) (congrArg _ (by omega)) (ex_add (h12.ev rfl) (h12.ev rfl) (by omega))) fun a13 h13 => ?_
   refine qv h13 (fun X hX => ex_move (h13.ev rfl)) fun a14 h14 => ?_
   refine qv h14 (fun X hX => ex_move (h14.ev rfl)) fun a15 h15 => ?_
   refine qv h15 (fun X hX => ex_move (h15.ev rfl)) fun a16 h16 => ?_
   refine qv h16 (fun X hX => as_val (v' := .int .i64 ((b + q.1 : Nat) : Int)) (congrArg _ (by omega)) (ex_add (h16.ev rfl) (h16.ev rfl) (by omega))) fun a17 h17 => ?_
   refine qv h17 (fun X hX => ex_index (i := b + q.1) (sz := 4) Tryz.underlying22 (by kernel_rfl) (h17.ev rfl) (h17.ev rfl) (by omega) (by omega) rfl) fun a18 h18 => ?_
   refine qv h18 (fun X hX => ex_move (h18.ev rfl)) fun a19 h19 => ?_
   refine qv h19 (fun X hX => ex_move (h19.ev rfl)) fun a20 h20 => ?_
   refine qv h20 (fun X hX => ex_move (h20.ev rfl)) fun a21 h21 => ?_
   refine qv h21 (fun X hX => as_val (v' := .int .i64 ((a + q.1 : Nat) : Int)) (congrArg _ (by omega)) (ex_add (h21.ev rfl) (h21.ev rfl) (by omega))) fun a22 h22 => ?_
   refine qv h22 (fun X hX => ex_index (i := a + q.1) (sz := 4) Tryz.underlying22 (by kernel_rfl) (h22.ev rfl) (h22.ev rfl) (by omega) (by omega) rfl) fun a23 h23 => ?_
   refine qv h23 (fun X hX => ex_index (i := a + q.1) (sz := 4) Tryz.underlying22 (by kernel_rfl) (h23.ev rfl) (h23.ev rfl) (by omega) (by omega) rfl) fun a24 h24 => ?_
   refine sq_nil ?_
   apply nm_early (k := 13) (deps := []) (R := IsVal (aceU (q.2.getD (b + q.1) ace0))) h24 rfl rfl rfl (by kernel_rfl) IsVal.stable (all1 IsVal.kp) all0
   case hx => exact fun X hX hΦ => lv_val (ex_loads (by kernel_rfl) (by kernel_rfl) (h24.ev rfl) (acesAtD ((S2.grow hX).rdOf (i := 0) rfl) (by omega)))
   intro v29 a25 h25
   apply nm_early (k := 19) (deps := []) (R := IsVal (aceU (q.2.getD (a + q.1) ace0))) h25 rfl rfl rfl (by kernel_rfl) IsVal.stable (all1 IsVal.kp) all0
   case hx => exact fun X hX hΦ => lv_val (ex_loads (by kernel_rfl) (by kernel_rfl) (h25.ev rfl) (acesAtD ((S2.grow hX).rdOf (i := 0) rfl) (by omega)))
   intro v35 a26 h26
   apply nm_sto (k := 21) (deps := [13]) (R := IsRow _ _ _ _ _) h26 rfl rfl rfl IsRow.stable all0
   case hx => exact fun X hX hΦ => lv_rowset rfl (h26.ev rfl) ((h26.ev rfl).trans (told_get (k := 13) hΦ rfl rfl)) rfl (by kernel_rfl) ((S2.grow hX).at_ (i := 0) rfl) rfl (le4 (by omega))
   intro vs21
   refine nm_end (O := (St.domAt S2 (i := 0) rfl)) (all1 (fun b hb => hb)) fun X27 hX27 hΦ27 => ?_
   have q13 : v29 = _ := told_all hΦ27 (k := 13) rfl
   subst q13
   have q19 : v35 = _ := told_all hΦ27 (k := 19) rfl
   subst q19
   have S27 := S2.growSet (i := 0) rfl hX27 (told_all hΦ27 (k := 21) rfl : IsRow _ _ _ _ _ vs21 X27)
   refine sv h26 (ex_index (i := b + q.1) (sz := 4) Tryz.underlying22 (by kernel_rfl) (h26.ev rfl) (h26.ev rfl) (by omega) (by omega) rfl) fun a28 h28 => ?_
   refine sl_rowset h28 (wn rfl) ⟨rfl, rfl⟩ (h28.ev rfl) (h28.ev rfl) rfl (by kernel_rfl) S27 (i := 0) rfl rfl (le4 (by omega)) fun X29 S29 => ?_
   replace S29 := S29.rowTo (i := 0) (n' := n) (xs' := acesV (swR q.2 (a + q.1) (b + q.1))) rfl rfl (by
    simp only [Nat.zero_add]
    exact acesV_swR (by omega) (by omega))
   refine st_nil (go_block (go_then (st_reg ?_)))
   refine mv h28 fun a30 h30 => ?_
   refine sv h30 (ex_add (h30.ev rfl) (h30.ev rfl) (by omega)) fun a31 h31 => ?_
   refine ma h31 fun a32 h32 => ?_
   refine st_nil (go_then ?_)
   exact ⟨(q.1 + 1, swR q.2 (a + q.1) (b + q.1)), (by show m - (q.1 + 1) < m - q.1; omega), ⟨hlt, (swR_len ..).trans hq2, swR_ok hq3 _ _⟩, h32.re ⟨rfl, rfl, rfl, rfl, rfl, trivial⟩, S29⟩
  case hB => kernel_rfl
 ·
  obtain ⟨hq1, hq2, hq3⟩ := hF0
  refine wp_exit ?_
  refine go_exit_then ?_
  refine go_exit_then ?_
  refine go_exit ?_
  refine fin0 h5 rfl ?_
  exact ⟨q.2, rfl, ⟨hq2, hq3⟩, S2⟩
theorem rot_any (g c n a m b : Nat) (ys : List AceP) (F : Value) (hn : n = ys.length) (ha : a < m) (hm : m < b) (hb : b ≤ n) (hlen : n ≤ 1000) (hf : okF ys) (w : World) (hr : w.ownsRow 0 111 4 (.slice (some ⟨g, 0, none⟩) n c) n (acesV ys)) :
 Calls Tryz.prog 166 #[.slice (some ⟨g, 0, none⟩) n c, .int .i64 a, .int .i64 m, .int .i64 b, F] w fun e X' => ∃ zs : List AceP, e = .returned (.tuple #[]) ∧ (zs.length = n ∧ okF zs) ∧ St (Value.slice (some ⟨g, 0, none⟩) n c).ownBlock.toList w X' [.row (.slice (some ⟨g, 0, none⟩) n c) n 111 4 (acesV zs)] := by
 refine st_enter (N := 58) Tryz.func166 rfl rfl rfl (fun a0 h0 => ?_)
 have S0 := St.initO hr
 refine st_seq (st_reg ?_)
 refine mvv h0 fun a2 h2 => ?_
 refine sv h2 (as_val (v' := .int .i64 ((m - a : Nat) : Int)) (congrArg _ (by omega)) (ex_sub (h2.ev rfl) (h2.ev rfl) (by omega))) fun a3 h3 => ?_
 refine ma h3 fun a4 h4 => ?_
 refine nsr ?_
 refine mvv h4 fun a6 h6 => ?_
 refine sv h6 (as_val (v' := .int .i64 ((b - m : Nat) : Int)) (congrArg _ (by omega)) (ex_sub (h6.ev rfl) (h6.ev rfl) (by omega))) fun a7 h7 => ?_
 refine ma h7 fun a8 h8 => ?_
 refine st_nil (go_then (st_seq (wp_block ?_)))
 refine st_loop h8 S0 [0, 2, 4] (fun (q : (Nat × Nat) × List AceP) => [(10, .int .i64 q.1.1), (11, .int .i64 q.1.2)]) (fun (q : (Nat × Nat) × List AceP) => (0 < q.1.1 ∧ q.1.1 ≤ m ∧ 0 < q.1.2 ∧ m + q.1.2 ≤ n) ∧ q.2.length = n ∧ okF q.2) (fun q L => [.row (.slice (some ⟨g, 0, none⟩) n c) n 111 4 (acesV q.2)]) (fun (q : (Nat × Nat) × List AceP) => q.1.1 + q.1.2) (((m - a, b - m), ys)) (⟨⟨by show 0 < m - a; omega, by show m - a ≤ m; omega, by show 0 < b - m; omega, by show m + (b - m) ≤ n; omega⟩, hn.symm, hf⟩) ⟨rfl, rfl, rfl, rfl, rfl, trivial⟩ (S0) ?_
 intro q a9 X9 hF0 h9 S9
 obtain ⟨⟨hq1, hq2, hq3, hq4⟩, hq5, hq6⟩ := hF0
 refine st_seq (st_seq (st_reg ?_))
 refine mvv h9 fun a11 h11 => ?_
 refine sv h11 (ex_neq (h11.ev rfl) (h11.ev rfl)) fun a12 h12 => ?_
 refine st_nil (go_then ?_)
 refine st_if (h12.ev rfl) (fun hc0 => ?_) (fun hc0 => ?_)
 ·
  have hne : q.1.1 ≠ q.1.2 := by have : ((q.1.1 : Int) != (q.1.2 : Int)) = true := hc0; simp at this; omega
  refine wp_skip (go_then (wp_block (st_seq (st_reg ?_))))
  refine mvv h12 fun a14 h14 => ?_
  refine sv h14 (ex_gtr (h14.ev rfl) (h14.ev rfl)) fun a15 h15 => ?_
  refine st_nil (go_then ?_)
  refine st_if (h15.ev rfl) (fun hc1 => ?_) (fun hc1 => ?_)
  ·
   have hgt : q.1.2 < q.1.1 := by have := of_decide_eq_true hc1; omega
   refine st_seq (st_reg ?_)
   refine mvv h15 fun a17 h17 => ?_
   refine mv h17 fun a18 h18 => ?_
   refine sv h18 (as_val (v' := .int .i64 ((m - q.1.1 : Nat) : Int)) (congrArg _ (by omega)) (ex_sub (h18.ev rfl) (h18.ev rfl) (by omega))) fun a19 h19 => ?_
   refine mvv h19 fun a21 h21 => ?_
   refine mv h21 fun a22 h22 => ?_
   refine sl_updx h22 (wn rfl) (ex_call (fun _ _ => by kernel_rfl) (h22.evs rfl) rfl) rfl rfl S9 (i := 0) rfl row_dom (swr_any g c n (m - q.1.1) m q.1.2 q.2 F hq5.symm (by omega) (by omega) hlen hq6 _ (S9.at_ (i := 0) rfl)) fun p31 a23 X23 h23 hF31 S23 => ?_
   refine st_nil (go_then (st_reg ?_))
   refine mvv h23 fun a25 h25 => ?_
   refine sv h25 (as_val (v' := .int .i64 ((q.1.1 - q.1.2 : Nat) : Int)) (congrArg _ (by omega)) (ex_sub (h25.ev rfl) (h25.ev rfl) (by omega))) fun a26 h26 => ?_
   refine ma h26 fun a27 h27 => ?_
   refine st_nil (go_block (go_then ?_))
   exact ⟨((q.1.1 - q.1.2, q.1.2), p31), (by show q.1.1 - q.1.2 + q.1.2 < q.1.1 + q.1.2; omega), ⟨⟨by show 0 < q.1.1 - q.1.2; omega, by show q.1.1 - q.1.2 ≤ m; omega, hq3, hq4⟩, hF31⟩, h27.re ⟨rfl, rfl, rfl, rfl, rfl, trivial⟩, S23⟩
  ·
   have hgt : q.1.1 < q.1.2 := by have := of_decide_eq_false hc1; omega
   refine st_seq (st_reg ?_)
   refine mvv h15 fun a29 h29 => ?_
   refine mv h29 fun a30 h30 => ?_
   refine sv h30 (as_val (v' := .int .i64 ((m - q.1.1 : Nat) : Int)) (congrArg _ (by omega)) (ex_sub (h30.ev rfl) (h30.ev rfl) (by omega))) fun a31 h31 => ?_
   refine mvv h31 fun a33 h33 => ?_
   refine sv h33 (as_val (v' := .int .i64 ((m + q.1.2 : Nat) : Int)) (congrArg _ (by omega)) (ex_add (h33.ev rfl) (h33.ev rfl) (by omega))) fun a34 h34 => ?_
   refine mv h34 fun a35 h35 => ?_
   refine sv h35 (as_val (v' := .int .i64 ((m + q.1.2 - q.1.1 : Nat) : Int)) (congrArg _ (by omega)) (ex_sub (h35.ev rfl) (h35.ev rfl) (by omega))) fun a36 h36 => ?_
   refine mvv h36 fun a38 h38 => ?_
   refine sl_updx h38 (wn rfl) (ex_call (fun _ _ => by kernel_rfl) (h38.evs rfl) rfl) rfl rfl S9 (i := 0) rfl row_dom (swr_any g c n (m - q.1.1) (m + q.1.2 - q.1.1) q.1.1 q.2 F hq5.symm (by omega) (by omega) hlen hq6 _ (S9.at_ (i := 0) rfl)) fun p46 a39 X39 h39 hF46 S39 => ?_
   refine st_nil (go_then (st_reg ?_))
   refine mvv h39 fun a41 h41 => ?_
   refine sv h41 (as_val (v' := .int .i64 ((q.1.2 - q.1.1 : Nat) : Int)) (congrArg _ (by omega)) (ex_sub (h41.ev rfl) (h41.ev rfl) (by omega))) fun a42 h42 => ?_
   refine ma h42 fun a43 h43 => ?_
   refine st_nil (go_block (go_then ?_))
   exact ⟨((q.1.1, q.1.2 - q.1.1), p46), (by show q.1.1 + (q.1.2 - q.1.1) < q.1.1 + q.1.2; omega), ⟨⟨hq1, hq2, by show 0 < q.1.2 - q.1.1; omega, by show m + (q.1.2 - q.1.1) ≤ n; omega⟩, hF46⟩, h43.re ⟨rfl, rfl, rfl, rfl, rfl, trivial⟩, S39⟩
 ·
  have heq : q.1.1 = q.1.2 := by have : ((q.1.1 : Int) != (q.1.2 : Int)) = false := hc0; simp at this; omega
  refine wp_exit ?_
  refine go_exit_then ?_
  refine go_exit_then ?_
  refine go_exit ?_
  refine go_then (st_reg ?_)
  refine mvv h12 fun a45 h45 => ?_
  refine mv h45 fun a46 h46 => ?_
  refine sv h46 (as_val (v' := .int .i64 ((m - q.1.1 : Nat) : Int)) (congrArg _ (by omega)) (ex_sub (h46.ev rfl) (h46.ev rfl) (by omega))) fun a47 h47 => ?_
  refine mvv h47 fun a49 h49 => ?_
  refine mv h49 fun a50 h50 => ?_
  refine sl_updx h50 (wn rfl) (ex_call (fun _ _ => by kernel_rfl) (h50.evs rfl) rfl) rfl rfl S9 (i := 0) rfl row_dom (swr_any g c n (m - q.1.1) m q.1.1 q.2 F hq5.symm (by omega) (by omega) hlen hq6 _ (S9.at_ (i := 0) rfl)) fun p57 a51 X51 h51 hF57 S51 => ?_
  refine st_nil ?_
  refine fin0 h51 rfl ?_
  exact ⟨p57, rfl, hF57, S51⟩
set_option maxHeartbeats 4000000 in
theorem sym_step (g c n K : Nat) (hlen : n ≤ 1000)
 (IH : ∀ (a m b : Nat) (ys : List AceP), a < m → m < b → b ≤ n → b - a ≤ K → (ys.length = n ∧ okF ys) → ∀ w : World, w.ownsRow 0 111 4 (.slice (some ⟨g, 0, none⟩) n c) n (acesV ys) →
  Calls Tryz.prog 159 #[.slice (some ⟨g, 0, none⟩) n c, .int .i64 a, .int .i64 m, .int .i64 b, .func (.func 101) #[] #[]] w fun e X' => ∃ zs : List AceP, e = .returned (.tuple #[]) ∧ (zs.length = n ∧ okF zs) ∧ St (Value.slice (some ⟨g, 0, none⟩) n c).ownBlock.toList w X' [.row (.slice (some ⟨g, 0, none⟩) n c) n 111 4 (acesV zs)])
 (a m b : Nat) (ys : List AceP) (ha : a < m) (hm : m < b) (hb : b ≤ n) (hK : b - a ≤ K + 1) (hcur : ys.length = n ∧ okF ys) (w : World) (hr : w.ownsRow 0 111 4 (.slice (some ⟨g, 0, none⟩) n c) n (acesV ys)) :
 Calls Tryz.prog 159 #[.slice (some ⟨g, 0, none⟩) n c, .int .i64 a, .int .i64 m, .int .i64 b, .func (.func 101) #[] #[]] w fun e X' => ∃ zs : List AceP, e = .returned (.tuple #[]) ∧ (zs.length = n ∧ okF zs) ∧ St (Value.slice (some ⟨g, 0, none⟩) n c).ownBlock.toList w X' [.row (.slice (some ⟨g, 0, none⟩) n c) n 111 4 (acesV zs)] := by
 obtain ⟨hyl, hyf⟩ := hcur
 obtain ⟨s0, r0, hsr⟩ : ∃ s0 r0 : Nat, ((a + b) / 2 < m ∧ s0 = (a + b) / 2 + m - b ∧ r0 = (a + b) / 2) ∨ (m ≤ (a + b) / 2 ∧ s0 = a ∧ r0 = m) := by
  by_cases h : (a + b) / 2 < m
  · exact ⟨_, _, .inl ⟨h, rfl, rfl⟩⟩
  · exact ⟨_, _, .inr ⟨by omega, rfl, rfl⟩⟩
 refine st_enter (N := 220) Tryz.func159 rfl rfl rfl (fun a0 h0 => ?_)
 have S0 := St.initO hr
 refine st_seq (st_seq (st_reg ?_))
 refine mv h0 fun a1 h1 => ?_
 refine mv h1 fun a2 h2 => ?_
 refine sv h2 (as_val (v' := .int .i64 ((m - a : Nat) : Int)) (congrArg _ (by omega)) (ex_sub (h2.ev rfl) (h2.ev rfl) (by omega))) fun a3 h3 => ?_
 refine sv h3 (ex_eql (h3.ev rfl) (h3.ev rfl)) fun a4 h4 => ?_
 refine st_nil (go_then ?_)
 refine st_if (h4.ev rfl) (fun hc0 => ?_) (fun hc0 => ?_)
 ·
  have h1 : m - a = 1 := by have : ((m - a : Nat) : Int) = 1 := (by simpa using hc0); omega
  refine st_seq (st_reg ?_)
  refine mva h4 fun a6 h6 => ?_
  refine nsr ?_
  refine mva h6 fun a8 h8 => ?_
  refine st_nil (go_then (st_seq (wp_block ?_)))
  refine st_loop h8 S0 [0, 1, 2, 3, 4] (fun (q : Nat × Nat) => [(10, .int .i64 (q.1 : Nat)), (11, .int .i64 (q.2 : Nat))]) (fun (q : Nat × Nat) => m ≤ q.1 ∧ q.1 ≤ q.2 ∧ q.2 ≤ b) (fun q L => L) (fun (q : Nat × Nat) => q.2 - q.1) ((m, b)) (⟨Nat.le_refl _, by omega, Nat.le_refl _⟩) ⟨rfl, rfl, rfl, rfl, rfl, rfl, rfl, trivial⟩ (S0) ?_
  intro q a9 X9 hF0 h9 S9
  obtain ⟨i, j⟩ := q
  dsimp only at h9 S9 hF0
  obtain ⟨hq1, hq2, hq3⟩ := hF0
  refine st_seq (st_seq (st_reg ?_))
  refine mvv h9 fun a11 h11 => ?_
  refine sv h11 (ex_lss (h11.ev rfl) (h11.ev rfl)) fun a12 h12 => ?_
  refine st_nil (go_then ?_)
  refine st_if (h12.ev rfl) (fun hc1 => ?_) (fun hc1 => ?_)
  ·
   have hlt : i < j := by have := of_decide_eq_true hc1; omega
   refine wp_skip (go_then (wp_block (st_seq (st_reg ?_))))
   refine mvv h12 fun a14 h14 => ?_
   refine sv h14 (ex_add (h14.ev rfl) (h14.ev rfl) (by omega)) fun a15 h15 => ?_
   refine sv h15 (ex_convin (by kernel_rfl) Tryz.underlying159 (h15.ev rfl) (wrap_u64 (by omega))) fun a16 h16 => ?_
   refine sv h16 (ex_shr (n := 1) (h16.ev rfl) (h16.ev rfl) rfl (by omega)) fun a17 h17 => ?_
   refine sv h17 (as_val (v' := .int .i64 (((i + j) / 2 : Nat) : Int)) (congrArg _ (by omega)) (ex_convin (by kernel_rfl) Tryz.underlying3 (h17.ev rfl) (wrap_in (by omega)))) fun a18 h18 => ?_
   refine ma h18 fun a19 h19 => ?_
   refine st_nil (go_then (st_seq ?_))
   apply dr_flow h19 [false, false, false, false, false, false, false, false, false] _ (by kernel_rfl)
   case h =>
    refine qv h19 (fun X hX => ex_move (h19.ev rfl)) fun a20 h20 => ?_
    refine qv h20 (fun X hX => ex_move (h20.ev rfl)) fun a21 h21 => ?_
    refine qv h21 (fun X hX => ex_move (h21.ev rfl)) fun a22 h22 => ?_
    refine qv h22 (fun X hX => ex_index (i := (i + j) / 2) (sz := 4) Tryz.underlying22 (by kernel_rfl) (h22.ev rfl) (h22.ev rfl) (by omega) (by omega) rfl) fun a23 h23 => ?_
    refine qv (v := aceU (ys.getD ((i + j) / 2) ace0)) h23 (fun X hX => ex_loads (by kernel_rfl) (by kernel_rfl) (h23.ev rfl) (acesAtD ((S9.grow hX).rdOf (i := 0) rfl) (by omega))) fun a24 h24 => ?_
    refine qv h24 (fun X hX => ex_move (h24.ev rfl)) fun a25 h25 => ?_
    refine qv h25 (fun X hX => ex_move (h25.ev rfl)) fun a26 h26 => ?_
    refine qv h26 (fun X hX => ex_index (i := a) (sz := 4) Tryz.underlying22 (by kernel_rfl) (h26.ev rfl) (h26.ev rfl) (by omega) (by omega) rfl) fun a27 h27 => ?_
    refine qv (v := aceU (ys.getD a ace0)) h27 (fun X hX => ex_loads (by kernel_rfl) (by kernel_rfl) (h27.ev rfl) (acesAtD ((S9.grow hX).rdOf (i := 0) rfl) (by omega))) fun a28 h28 => ?_
    refine sq_nil ?_
    refine nd_end fun X29 hX29 hΦ29 => ?_
    have S29 := S9.grow hX29
    refine sl_bel h28 (wn rfl) (ex_callv (fun _ _ => by kernel_rfl) (h28.ev rfl) (h28.evs rfl) rfl) rfl rfl S29 (byRank_any (ys.getD ((i + j) / 2) ace0) (ys.getD a ace0) _ (okF_getD hyf _).1 (okF_getD hyf _).2 (okF_getD hyf _).1 (okF_getD hyf _).2) fun a30 X30 h30 S30 => ?_
    refine sv h30 (ex_lss (h30.ev rfl) (h30.ev rfl)) fun a31 h31 => ?_
    refine st_nil (go_then ?_)
    refine st_if (h31.ev rfl) (fun hc2 => ?_) (fun hc2 => ?_)
    ·
     refine st_reg ?_
     refine mv h31 fun a32 h32 => ?_
     refine sv h32 (ex_add (h32.ev rfl) (h32.ev rfl) (by omega)) fun a33 h33 => ?_
     refine ma h33 fun a34 h34 => ?_
     refine st_nil (go_block (go_then ?_))
     exact ⟨((i + j) / 2 + 1, j), (by show j - ((i + j) / 2 + 1) < j - i; omega), ⟨by show m ≤ (i + j) / 2 + 1; omega, by show (i + j) / 2 + 1 ≤ j; omega, hq3⟩, h34.re ⟨rfl, rfl, rfl, rfl, rfl, rfl, rfl, trivial⟩, S30⟩
    ·
     refine st_reg ?_
     refine mva h31 fun a36 h36 => ?_
     refine st_nil (go_block (go_then ?_))
     exact ⟨(i, (i + j) / 2), (by show (i + j) / 2 - i < j - i; omega), ⟨hq1, by show i ≤ (i + j) / 2; omega, by show (i + j) / 2 ≤ b; omega⟩, h36.re ⟨rfl, rfl, rfl, rfl, rfl, rfl, rfl, trivial⟩, S30⟩
   case hB => kernel_rfl
   case hst => rfl
  ·
   have hge : j ≤ i := by have := of_decide_eq_false hc1; omega
   refine wp_exit ?_
   refine go_exit_then ?_
   refine go_exit_then ?_
   refine go_exit ?_
   refine go_then (st_seq (st_seq (st_reg ?_)))
   refine mva h12 fun a38 h38 => ?_
   refine st_nil (go_then (wp_block ?_))
   refine st_loop h38 S9 [10, 0, 1, 2, 3, 4] (fun (p : Nat × List AceP) => [(13, .int .i64 (p.1 : Nat))]) (fun (p : Nat × List AceP) => p.2.length = n ∧ okF p.2) (fun p L => [.row (.slice (some ⟨g, 0, none⟩) n c) n 111 4 (acesV p.2)]) (fun (p : Nat × List AceP) => b - p.1) ((a, ys)) (⟨hyl, hyf⟩) ⟨rfl, rfl, rfl, rfl, rfl, rfl, rfl, trivial⟩ (S9) ?_
   intro p a39 X39 hF1 h39 S39
   obtain ⟨hp1, hp2⟩ := hF1
   refine st_seq (st_seq (st_reg ?_))
   refine mvv h39 fun a41 h41 => ?_
   refine sv h41 (ex_sub (h41.ev rfl) (h41.ev rfl) (by omega)) fun a42 h42 => ?_
   refine sv h42 (ex_lss (h42.ev rfl) (h42.ev rfl)) fun a43 h43 => ?_
   refine st_nil (go_then ?_)
   refine st_if (h43.ev rfl) (fun hc3 => ?_) (fun hc3 => ?_)
   ·
    have hlt3 : p.1 + 1 < i := by have := of_decide_eq_true hc3; omega
    refine wp_skip (go_then (st_seq (wp_block ?_)))
    apply dr_flowM h43 (St.domAt S39 (i := 0) rfl) [(15, (St.domAt S39 (i := 0) rfl))] [] [false, false, false, false, false, false, false, false, false, true, false, false, false, true, false, true] _ (by kernel_rfl) (all1 (fun b hb => hb))
    case h =>
     refine qv h43 (fun X hX => ex_move (h43.ev rfl)) fun a44 h44 => ?_
     refine qv h44 (fun X hX => ex_move (h44.ev rfl)) fun a45 h45 => ?_
     refine qv h45 (fun X hX => ex_move (h45.ev rfl)) fun a46 h46 => ?_
     refine qv h46 (fun X hX => ex_move (h46.ev rfl)) fun a47 h47 => ?_
     refine qv h47 (fun X hX => as_val (v' := .int .i64 ((p.1 + 1 : Nat) : Int)) (congrArg _ (by omega)) (ex_add (h47.ev rfl) (h47.ev rfl) (by omega))) fun a48 h48 => ?_
     refine qv h48 (fun X hX => ex_move (h48.ev rfl)) fun a49 h49 => ?_
     refine qv h49 (fun X hX => ex_move (h49.ev rfl)) fun a50 h50 => ?_
     refine qv h50 (fun X hX => as_val (v' := .int .i64 ((p.1 + 1 : Nat) : Int)) (congrArg _ (by omega)) (ex_add (h50.ev rfl) (h50.ev rfl) (by omega))) fun a51 h51 => ?_
     refine qv h51 (fun X hX => ex_index (i := p.1 + 1) (sz := 4) Tryz.underlying22 (by kernel_rfl) (h51.ev rfl) (h51.ev rfl) (by omega) (by omega) rfl) fun a52 h52 => ?_
     refine qv h52 (fun X hX => ex_move (h52.ev rfl)) fun a53 h53 => ?_
     refine qv h53 (fun X hX => ex_move (h53.ev rfl)) fun a54 h54 => ?_
     refine qv h54 (fun X hX => ex_index (i := p.1) (sz := 4) Tryz.underlying22 (by kernel_rfl) (h54.ev rfl) (h54.ev rfl) (by omega) (by omega) rfl) fun a55 h55 => ?_
     refine qv h55 (fun X hX => ex_index (i := p.1) (sz := 4) Tryz.underlying22 (by kernel_rfl) (h55.ev rfl) (h55.ev rfl) (by omega) (by omega) rfl) fun a56 h56 => ?_
     refine sq_nil ?_
     apply nm_early (k := 9) (deps := []) (R := IsVal (aceU (p.2.getD (p.1 + 1) ace0))) h56 rfl rfl rfl (by kernel_rfl) IsVal.stable (all1 IsVal.kp) all0
     case hx => exact fun X hX hΦ => lv_val (ex_loads (by kernel_rfl) (by kernel_rfl) (h56.ev rfl) (acesAtD ((S39.grow hX).rdOf (i := 0) rfl) (by omega)))
     intro v70 a57 h57
     apply nm_early (k := 13) (deps := []) (R := IsVal (aceU (p.2.getD p.1 ace0))) h57 rfl rfl rfl (by kernel_rfl) IsVal.stable (all1 IsVal.kp) all0
     case hx => exact fun X hX hΦ => lv_val (ex_loads (by kernel_rfl) (by kernel_rfl) (h57.ev rfl) (acesAtD ((S39.grow hX).rdOf (i := 0) rfl) (by omega)))
     intro v74 a58 h58
     apply nm_sto (k := 15) (deps := [9]) (R := IsRow _ _ _ _ _) h58 rfl rfl rfl IsRow.stable all0
     case hx => exact fun X hX hΦ => lv_rowset rfl (h58.ev rfl) ((h58.ev rfl).trans (told_get (k := 9) hΦ rfl rfl)) rfl (by kernel_rfl) ((S39.grow hX).at_ (i := 0) rfl) rfl (le4 (by omega))
     intro vs15
     refine nm_end (O := (St.domAt S39 (i := 0) rfl)) (all1 (fun b hb => hb)) fun X59 hX59 hΦ59 => ?_
     have q9 : v70 = _ := told_all hΦ59 (k := 9) rfl
     subst q9
     have q13 : v74 = _ := told_all hΦ59 (k := 13) rfl
     subst q13
     have S59 := S39.growSet (i := 0) rfl hX59 (told_all hΦ59 (k := 15) rfl : IsRow _ _ _ _ _ vs15 X59)
     refine sv h58 (ex_index (i := p.1 + 1) (sz := 4) Tryz.underlying22 (by kernel_rfl) (h58.ev rfl) (h58.ev rfl) (by omega) (by omega) rfl) fun a60 h60 => ?_
     refine sl_rowset h60 (wn rfl) ⟨rfl, rfl⟩ (h60.ev rfl) (h60.ev rfl) rfl (by kernel_rfl) S59 (i := 0) rfl rfl (le4 (by omega)) fun X61 S61 => ?_
     replace S61 := S61.rowTo (i := 0) (n' := n) (xs' := acesV (swR p.2 p.1 (p.1 + 1))) rfl rfl (by
      simp only [Nat.zero_add]
      exact acesV_swR (by omega) (by omega))
     refine st_nil (go_block (go_then (st_reg ?_)))
     refine mv h60 fun a62 h62 => ?_
     refine sv h62 (ex_add (h62.ev rfl) (h62.ev rfl) (by omega)) fun a63 h63 => ?_
     refine ma h63 fun a64 h64 => ?_
     refine st_nil (go_then ?_)
     exact ⟨(p.1 + 1, swR p.2 p.1 (p.1 + 1)), (by show b - (p.1 + 1) < b - p.1; omega), ⟨(swR_len ..).trans hp1, swR_ok hp2 _ _⟩, h64.re ⟨rfl, rfl, rfl, rfl, rfl, rfl, rfl, trivial⟩, S61⟩
    case hB => kernel_rfl
   ·
    refine wp_exit ?_
    refine go_exit_then ?_
    refine go_exit_then ?_
    refine go_exit ?_
    refine go_then (wp_ret (ret_then ?_))
    refine fin0r h43 rfl ?_
    exact ⟨p.2, rfl, ⟨hp1, hp2⟩, S39⟩
 ·
  have h1 : m - a ≠ 1 := by intro h; rw [h] at hc0; cases hc0
  refine wp_skip (go_then (st_seq (st_seq (st_reg ?_))))
  refine mvv h4 fun a66 h66 => ?_
  refine sv h66 (as_val (v' := .int .i64 ((b - m : Nat) : Int)) (congrArg _ (by omega)) (ex_sub (h66.ev rfl) (h66.ev rfl) (by omega))) fun a67 h67 => ?_
  refine sv h67 (ex_eql (h67.ev rfl) (h67.ev rfl)) fun a68 h68 => ?_
  refine st_nil (go_then ?_)
  refine st_if (h68.ev rfl) (fun hc4 => ?_) (fun hc4 => ?_)
  ·
   have h2 : b - m = 1 := by have : ((b - m : Nat) : Int) = 1 := (by simpa using hc4); omega
   refine st_seq (st_reg ?_)
   refine mva h68 fun a70 h70 => ?_
   refine nsr ?_
   refine mva h70 fun a72 h72 => ?_
   refine st_nil (go_then (st_seq (wp_block ?_)))
   refine st_loop h72 S0 [0, 1, 2, 3, 4] (fun (q : Nat × Nat) => [(14, .int .i64 (q.1 : Nat)), (15, .int .i64 (q.2 : Nat))]) (fun (q : Nat × Nat) => q.1 ≤ q.2 ∧ q.2 ≤ m) (fun q L => L) (fun (q : Nat × Nat) => q.2 - q.1) ((a, m)) (⟨by show a ≤ m; omega, Nat.le_refl _⟩) ⟨rfl, rfl, rfl, rfl, rfl, rfl, rfl, trivial⟩ (S0) ?_
   intro q a73 X73 hF2 h73 S73
   obtain ⟨i, j⟩ := q
   dsimp only at h73 S73 hF2
   obtain ⟨hq2, hq3⟩ := hF2
   refine st_seq (st_seq (st_reg ?_))
   refine mvv h73 fun a75 h75 => ?_
   refine sv h75 (ex_lss (h75.ev rfl) (h75.ev rfl)) fun a76 h76 => ?_
   refine st_nil (go_then ?_)
   refine st_if (h76.ev rfl) (fun hc5 => ?_) (fun hc5 => ?_)
   ·
    have hlt : i < j := by have := of_decide_eq_true hc5; omega
    refine wp_skip (go_then (wp_block (st_seq (st_reg ?_))))
    refine mvv h76 fun a78 h78 => ?_
    refine sv h78 (ex_add (h78.ev rfl) (h78.ev rfl) (by omega)) fun a79 h79 => ?_
    refine sv h79 (ex_convin (by kernel_rfl) Tryz.underlying159 (h79.ev rfl) (wrap_u64 (by omega))) fun a80 h80 => ?_
    refine sv h80 (ex_shr (n := 1) (h80.ev rfl) (h80.ev rfl) rfl (by omega)) fun a81 h81 => ?_
    refine sv h81 (as_val (v' := .int .i64 (((i + j) / 2 : Nat) : Int)) (congrArg _ (by omega)) (ex_convin (by kernel_rfl) Tryz.underlying3 (h81.ev rfl) (wrap_in (by omega)))) fun a82 h82 => ?_
    refine ma h82 fun a83 h83 => ?_
    refine st_nil (go_then (st_seq ?_))
    apply dr_flow h83 [false, false, false, false, false, false, false, false, false] _ (by kernel_rfl)
    case h =>
     refine qv h83 (fun X hX => ex_move (h83.ev rfl)) fun a84 h84 => ?_
     refine qv h84 (fun X hX => ex_move (h84.ev rfl)) fun a85 h85 => ?_
     refine qv h85 (fun X hX => ex_move (h85.ev rfl)) fun a86 h86 => ?_
     refine qv h86 (fun X hX => ex_index (i := m) (sz := 4) Tryz.underlying22 (by kernel_rfl) (h86.ev rfl) (h86.ev rfl) (by omega) (by omega) rfl) fun a87 h87 => ?_
     refine qv (v := aceU (ys.getD m ace0)) h87 (fun X hX => ex_loads (by kernel_rfl) (by kernel_rfl) (h87.ev rfl) (acesAtD ((S73.grow hX).rdOf (i := 0) rfl) (by omega))) fun a88 h88 => ?_
     refine qv h88 (fun X hX => ex_move (h88.ev rfl)) fun a89 h89 => ?_
     refine qv h89 (fun X hX => ex_move (h89.ev rfl)) fun a90 h90 => ?_
     refine qv h90 (fun X hX => ex_index (i := (i + j) / 2) (sz := 4) Tryz.underlying22 (by kernel_rfl) (h90.ev rfl) (h90.ev rfl) (by omega) (by omega) rfl) fun a91 h91 => ?_
     refine qv (v := aceU (ys.getD ((i + j) / 2) ace0)) h91 (fun X hX => ex_loads (by kernel_rfl) (by kernel_rfl) (h91.ev rfl) (acesAtD ((S73.grow hX).rdOf (i := 0) rfl) (by omega))) fun a92 h92 => ?_
     refine sq_nil ?_
     refine nd_end fun X93 hX93 hΦ93 => ?_
     have S93 := S73.grow hX93
     refine sl_bel h92 (wn rfl) (ex_callv (fun _ _ => by kernel_rfl) (h92.ev rfl) (h92.evs rfl) rfl) rfl rfl S93 (byRank_any (ys.getD m ace0) (ys.getD ((i + j) / 2) ace0) _ (okF_getD hyf _).1 (okF_getD hyf _).2 (okF_getD hyf _).1 (okF_getD hyf _).2) fun a94 X94 h94 S94 => ?_
     refine sv h94 (ex_lss (h94.ev rfl) (h94.ev rfl)) fun a95 h95 => ?_
     refine sv h95 (ex_not (h95.ev rfl)) fun a96 h96 => ?_
     refine st_nil (go_then ?_)
     refine st_if (h96.ev rfl) (fun hc6 => ?_) (fun hc6 => ?_)
     ·
      refine st_reg ?_
      refine mv h96 fun a97 h97 => ?_
      refine sv h97 (ex_add (h97.ev rfl) (h97.ev rfl) (by omega)) fun a98 h98 => ?_
      refine ma h98 fun a99 h99 => ?_
      refine st_nil (go_block (go_then ?_))
      exact ⟨((i + j) / 2 + 1, j), (by show j - ((i + j) / 2 + 1) < j - i; omega), ⟨by show (i + j) / 2 + 1 ≤ j; omega, hq3⟩, h99.re ⟨rfl, rfl, rfl, rfl, rfl, rfl, rfl, trivial⟩, S94⟩
     ·
      refine st_reg ?_
      refine mva h96 fun a101 h101 => ?_
      refine st_nil (go_block (go_then ?_))
      exact ⟨(i, (i + j) / 2), (by show (i + j) / 2 - i < j - i; omega), ⟨by show i ≤ (i + j) / 2; omega, by show (i + j) / 2 ≤ m; omega⟩, h101.re ⟨rfl, rfl, rfl, rfl, rfl, rfl, rfl, trivial⟩, S94⟩
    case hB => kernel_rfl
    case hst => rfl
   ·
    refine wp_exit ?_
    refine go_exit_then ?_
    refine go_exit_then ?_
    refine go_exit ?_
    refine go_then (st_seq (st_seq (st_reg ?_)))
    refine mva h76 fun a103 h103 => ?_
    refine st_nil (go_then (wp_block ?_))
    refine st_loop h103 S73 [14, 0, 1, 2, 3, 4] (fun (p : Nat × List AceP) => [(17, .int .i64 (p.1 : Nat))]) (fun (p : Nat × List AceP) => p.1 ≤ m ∧ p.2.length = n ∧ okF p.2) (fun p L => [.row (.slice (some ⟨g, 0, none⟩) n c) n 111 4 (acesV p.2)]) (fun (p : Nat × List AceP) => p.1) ((m, ys)) (⟨Nat.le_refl _, hyl, hyf⟩) ⟨rfl, rfl, rfl, rfl, rfl, rfl, rfl, trivial⟩ (S73) ?_
    intro p a104 X104 hF3 h104 S104
    obtain ⟨hp0, hp1, hp2⟩ := hF3
    refine st_seq (st_seq (st_reg ?_))
    refine mvv h104 fun a106 h106 => ?_
    refine sv h106 (ex_gtr (h106.ev rfl) (h106.ev rfl)) fun a107 h107 => ?_
    refine st_nil (go_then ?_)
    refine st_if (h107.ev rfl) (fun hc7 => ?_) (fun hc7 => ?_)
    ·
     have hlt3 : i < p.1 := by have := of_decide_eq_true hc7; omega
     refine wp_skip (go_then (st_seq (wp_block ?_)))
     apply dr_flowM h107 (St.domAt S104 (i := 0) rfl) [(15, (St.domAt S104 (i := 0) rfl))] [] [false, false, false, false, false, false, false, false, false, true, false, false, false, true, false, true] _ (by kernel_rfl) (all1 (fun b hb => hb))
     case h =>
      refine qv h107 (fun X hX => ex_move (h107.ev rfl)) fun a108 h108 => ?_
      refine qv h108 (fun X hX => ex_move (h108.ev rfl)) fun a109 h109 => ?_
      refine qv h109 (fun X hX => ex_move (h109.ev rfl)) fun a110 h110 => ?_
      refine qv h110 (fun X hX => ex_move (h110.ev rfl)) fun a111 h111 => ?_
      refine qv h111 (fun X hX => as_val (v' := .int .i64 ((p.1 - 1 : Nat) : Int)) (congrArg _ (by omega)) (ex_sub (h111.ev rfl) (h111.ev rfl) (by omega))) fun a112 h112 => ?_
      refine qv h112 (fun X hX => ex_move (h112.ev rfl)) fun a113 h113 => ?_
      refine qv h113 (fun X hX => ex_move (h113.ev rfl)) fun a114 h114 => ?_
      refine qv h114 (fun X hX => as_val (v' := .int .i64 ((p.1 - 1 : Nat) : Int)) (congrArg _ (by omega)) (ex_sub (h114.ev rfl) (h114.ev rfl) (by omega))) fun a115 h115 => ?_
      refine qv h115 (fun X hX => ex_index (i := p.1 - 1) (sz := 4) Tryz.underlying22 (by kernel_rfl) (h115.ev rfl) (h115.ev rfl) (by omega) (by omega) rfl) fun a116 h116 => ?_
      refine qv h116 (fun X hX => ex_move (h116.ev rfl)) fun a117 h117 => ?_
      refine qv h117 (fun X hX => ex_move (h117.ev rfl)) fun a118 h118 => ?_
      refine qv h118 (fun X hX => ex_index (i := p.1) (sz := 4) Tryz.underlying22 (by kernel_rfl) (h118.ev rfl) (h118.ev rfl) (by omega) (by omega) rfl) fun a119 h119 => ?_
      refine qv h119 (fun X hX => ex_index (i := p.1) (sz := 4) Tryz.underlying22 (by kernel_rfl) (h119.ev rfl) (h119.ev rfl) (by omega) (by omega) rfl) fun a120 h120 => ?_
      refine sq_nil ?_
      apply nm_early (k := 9) (deps := []) (R := IsVal (aceU (p.2.getD (p.1 - 1) ace0))) h120 rfl rfl rfl (by kernel_rfl) IsVal.stable (all1 IsVal.kp) all0
      case hx => exact fun X hX hΦ => lv_val (ex_loads (by kernel_rfl) (by kernel_rfl) (h120.ev rfl) (acesAtD ((S104.grow hX).rdOf (i := 0) rfl) (by omega)))
      intro v122 a121 h121
      apply nm_early (k := 13) (deps := []) (R := IsVal (aceU (p.2.getD p.1 ace0))) h121 rfl rfl rfl (by kernel_rfl) IsVal.stable (all1 IsVal.kp) all0
      case hx => exact fun X hX hΦ => lv_val (ex_loads (by kernel_rfl) (by kernel_rfl) (h121.ev rfl) (acesAtD ((S104.grow hX).rdOf (i := 0) rfl) (by omega)))
      intro v126 a122 h122
      apply nm_sto (k := 15) (deps := [9]) (R := IsRow _ _ _ _ _) h122 rfl rfl rfl IsRow.stable all0
      case hx => exact fun X hX hΦ => lv_rowset rfl (h122.ev rfl) ((h122.ev rfl).trans (told_get (k := 9) hΦ rfl rfl)) rfl (by kernel_rfl) ((S104.grow hX).at_ (i := 0) rfl) rfl (le4 (by omega))
      intro vs15
      refine nm_end (O := (St.domAt S104 (i := 0) rfl)) (all1 (fun b hb => hb)) fun X123 hX123 hΦ123 => ?_
      have q9 : v122 = _ := told_all hΦ123 (k := 9) rfl
      subst q9
      have q13 : v126 = _ := told_all hΦ123 (k := 13) rfl
      subst q13
      have S123 := S104.growSet (i := 0) rfl hX123 (told_all hΦ123 (k := 15) rfl : IsRow _ _ _ _ _ vs15 X123)
      refine sv h122 (ex_index (i := p.1 - 1) (sz := 4) Tryz.underlying22 (by kernel_rfl) (h122.ev rfl) (h122.ev rfl) (by omega) (by omega) rfl) fun a124 h124 => ?_
      refine sl_rowset h124 (wn rfl) ⟨rfl, rfl⟩ (h124.ev rfl) (h124.ev rfl) rfl (by kernel_rfl) S123 (i := 0) rfl rfl (le4 (by omega)) fun X125 S125 => ?_
      replace S125 := S125.rowTo (i := 0) (n' := n) (xs' := acesV (swR p.2 p.1 (p.1 - 1))) rfl rfl (by
       simp only [Nat.zero_add]
       exact acesV_swR (by omega) (by omega))
      refine st_nil (go_block (go_then (st_reg ?_)))
      refine mv h124 fun a126 h126 => ?_
      refine sv h126 (as_val (v' := .int .i64 ((p.1 - 1 : Nat) : Int)) (congrArg _ (by omega)) (ex_sub (h126.ev rfl) (h126.ev rfl) (by omega))) fun a127 h127 => ?_
      refine ma h127 fun a128 h128 => ?_
      refine st_nil (go_then ?_)
      exact ⟨(p.1 - 1, swR p.2 p.1 (p.1 - 1)), (by show p.1 - 1 < p.1; omega), ⟨by show p.1 - 1 ≤ m; omega, (swR_len ..).trans hp1, swR_ok hp2 _ _⟩, h128.re ⟨rfl, rfl, rfl, rfl, rfl, rfl, rfl, trivial⟩, S125⟩
     case hB => kernel_rfl
    ·
     refine wp_exit ?_
     refine go_exit_then ?_
     refine go_exit_then ?_
     refine go_exit ?_
     refine go_then (wp_ret (ret_then ?_))
     refine fin0r h107 rfl ?_
     exact ⟨p.2, rfl, ⟨hp1, hp2⟩, S104⟩
  ·
   have h2 : b - m ≠ 1 := by intro h; rw [h] at hc4; cases hc4
   refine wp_skip (go_then (st_seq (st_reg ?_)))
   refine mvv h68 fun a130 h130 => ?_
   refine sv h130 (ex_add (h130.ev rfl) (h130.ev rfl) (by omega)) fun a131 h131 => ?_
   refine sv h131 (ex_convin (by kernel_rfl) Tryz.underlying159 (h131.ev rfl) (wrap_u64 (by omega))) fun a132 h132 => ?_
   refine sv h132 (ex_shr (n := 1) (h132.ev rfl) (h132.ev rfl) rfl (by omega)) fun a133 h133 => ?_
   refine sv h133 (as_val (v' := .int .i64 (((a + b) / 2 : Nat) : Int)) (congrArg _ (by omega)) (ex_convin (by kernel_rfl) Tryz.underlying3 (h133.ev rfl) (wrap_in (by omega)))) fun a134 h134 => ?_
   refine ma h134 fun a135 h135 => ?_
   refine nsr ?_
   refine mvv h135 fun a137 h137 => ?_
   refine sv h137 (as_val (v' := .int .i64 (((a + b) / 2 + m : Nat) : Int)) (congrArg _ (by omega)) (ex_add (h137.ev rfl) (h137.ev rfl) (by omega))) fun a138 h138 => ?_
   refine ma h138 fun a139 h139 => ?_
   refine nsr ?_
   refine maa h139 fun a141 h141 => ?_
   refine st_nil (go_then (st_seq (st_seq (st_reg ?_))))
   refine mvv h141 fun a143 h143 => ?_
   refine sv h143 (ex_gtr (h143.ev rfl) (h143.ev rfl)) fun a144 h144 => ?_
   refine st_nil (go_then ?_)
   refine st_joinH h144 S0 [(20, .int .i64 (s0 : Int)), (21, .int .i64 (r0 : Int))] [19, 18, 0, 1, 2, 3, 4] ?_ (fun a145 X145 h145 S145 => ?_)
   ·
    refine st_if (h144.ev rfl) (fun hc8 => ?_) (fun hc8 => ?_)
    ·
     have h8 : (a + b) / 2 < m := by have := of_decide_eq_true hc8; omega
     refine st_seq (st_reg ?_)
     refine mvv h144 fun a147 h147 => ?_
     refine sv h147 (as_val (v' := .int .i64 (s0 : Int)) (congrArg _ (by omega)) (ex_sub (h147.ev rfl) (h147.ev rfl) (by omega))) fun a148 h148 => ?_
     refine ma h148 fun a149 h149 => ?_
     refine st_nil (go_then (st_reg ?_))
     refine sv h149 (as_val (v' := .int .i64 (r0 : Int)) (congrArg _ (by omega)) (ex_move (h149.ev rfl))) fun a150 h150 => ?_
     refine ma h150 fun a151 h151 => ?_
     refine st_nil (go_then ?_)
     exact ⟨h151.re ⟨rfl, rfl, rfl, rfl, rfl, rfl, rfl, rfl, rfl, trivial⟩, S0⟩
    ·
     have h8 : m ≤ (a + b) / 2 := by have := of_decide_eq_false hc8; omega
     refine st_seq (st_reg ?_)
     refine sv h144 (as_val (v' := .int .i64 (s0 : Int)) (congrArg _ (by omega)) (ex_move (h144.ev rfl))) fun a152 h152 => ?_
     refine ma h152 fun a153 h153 => ?_
     refine st_nil (go_then (st_reg ?_))
     refine sv h153 (as_val (v' := .int .i64 (r0 : Int)) (congrArg _ (by omega)) (ex_move (h153.ev rfl))) fun a154 h154 => ?_
     refine ma h154 fun a155 h155 => ?_
     refine st_nil (go_then ?_)
     exact ⟨h155.re ⟨rfl, rfl, rfl, rfl, rfl, rfl, rfl, rfl, rfl, trivial⟩, S0⟩
   ·
    refine go_then (st_seq (st_reg ?_))
    refine mv h145 fun a156 h156 => ?_
    refine sv h156 (as_val (v' := .int .i64 (((a + b) / 2 + m - 1 : Nat) : Int)) (congrArg _ (by omega)) (ex_sub (h156.ev rfl) (h156.ev rfl) (by omega))) fun a157 h157 => ?_
    refine ma h157 fun a158 h158 => ?_
    refine st_nil (go_then (st_seq (wp_block ?_)))
    refine st_loop h158 S145 [22, 19, 18, 0, 1, 2, 3, 4] (fun (q : Nat × Nat) => [(20, .int .i64 (q.1 : Nat)), (21, .int .i64 (q.2 : Nat))]) (fun (q : Nat × Nat) => s0 ≤ q.1 ∧ q.1 ≤ q.2 ∧ q.2 ≤ r0) (fun q L => L) (fun (q : Nat × Nat) => q.2 - q.1) ((s0, r0)) (⟨Nat.le_refl _, by show s0 ≤ r0; omega, Nat.le_refl _⟩) ⟨rfl, rfl, rfl, rfl, rfl, rfl, rfl, rfl, rfl, rfl, trivial⟩ (S145) ?_
    intro q a159 X159 hF4 h159 S159
    obtain ⟨i, j⟩ := q
    dsimp only at h159 S159 hF4
    obtain ⟨hq1, hq2, hq3⟩ := hF4
    refine st_seq (st_seq (st_reg ?_))
    refine mvv h159 fun a161 h161 => ?_
    refine sv h161 (ex_lss (h161.ev rfl) (h161.ev rfl)) fun a162 h162 => ?_
    refine st_nil (go_then ?_)
    refine st_if (h162.ev rfl) (fun hc9 => ?_) (fun hc9 => ?_)
    ·
     have hlt : i < j := by have := of_decide_eq_true hc9; omega
     refine wp_skip (go_then (wp_block (st_seq (st_reg ?_))))
     refine mvv h162 fun a164 h164 => ?_
     refine sv h164 (ex_add (h164.ev rfl) (h164.ev rfl) (by omega)) fun a165 h165 => ?_
     refine sv h165 (ex_convin (by kernel_rfl) Tryz.underlying159 (h165.ev rfl) (wrap_u64 (by omega))) fun a166 h166 => ?_
     refine sv h166 (ex_shr (n := 1) (h166.ev rfl) (h166.ev rfl) rfl (by omega)) fun a167 h167 => ?_
     refine sv h167 (as_val (v' := .int .i64 (((i + j) / 2 : Nat) : Int)) (congrArg _ (by omega)) (ex_convin (by kernel_rfl) Tryz.underlying3 (h167.ev rfl) (wrap_in (by omega)))) fun a168 h168 => ?_
     refine ma h168 fun a169 h169 => ?_
     refine st_nil (go_then (st_seq ?_))
     apply dr_flow h169 [false, false, false, false, false, false, false, false, false, false, false] _ (by kernel_rfl)
     case h =>
      refine qv h169 (fun X hX => ex_move (h169.ev rfl)) fun a170 h170 => ?_
      refine qv h170 (fun X hX => ex_move (h170.ev rfl)) fun a171 h171 => ?_
      refine qv h171 (fun X hX => ex_move (h171.ev rfl)) fun a172 h172 => ?_
      refine qv h172 (fun X hX => ex_move (h172.ev rfl)) fun a173 h173 => ?_
      refine qv h173 (fun X hX => as_val (v' := .int .i64 (((a + b) / 2 + m - 1 - (i + j) / 2 : Nat) : Int)) (congrArg _ (by omega)) (ex_sub (h173.ev rfl) (h173.ev rfl) (by omega))) fun a174 h174 => ?_
      refine qv h174 (fun X hX => ex_index (i := (a + b) / 2 + m - 1 - (i + j) / 2) (sz := 4) Tryz.underlying22 (by kernel_rfl) (h174.ev rfl) (h174.ev rfl) (by omega) (by omega) rfl) fun a175 h175 => ?_
      refine qv (v := aceU (ys.getD ((a + b) / 2 + m - 1 - (i + j) / 2) ace0)) h175 (fun X hX => ex_loads (by kernel_rfl) (by kernel_rfl) (h175.ev rfl) (acesAtD ((S159.grow hX).rdOf (i := 0) rfl) (by omega))) fun a176 h176 => ?_
      refine qv h176 (fun X hX => ex_move (h176.ev rfl)) fun a177 h177 => ?_
      refine qv h177 (fun X hX => ex_move (h177.ev rfl)) fun a178 h178 => ?_
      refine qv h178 (fun X hX => ex_index (i := (i + j) / 2) (sz := 4) Tryz.underlying22 (by kernel_rfl) (h178.ev rfl) (h178.ev rfl) (by omega) (by omega) rfl) fun a179 h179 => ?_
      refine qv (v := aceU (ys.getD ((i + j) / 2) ace0)) h179 (fun X hX => ex_loads (by kernel_rfl) (by kernel_rfl) (h179.ev rfl) (acesAtD ((S159.grow hX).rdOf (i := 0) rfl) (by omega))) fun a180 h180 => ?_
      refine sq_nil ?_
      refine nd_end fun X181 hX181 hΦ181 => ?_
      have S181 := S159.grow hX181
      refine sl_bel h180 (wn rfl) (ex_callv (fun _ _ => by kernel_rfl) (h180.ev rfl) (h180.evs rfl) rfl) rfl rfl S181 (byRank_any (ys.getD ((a + b) / 2 + m - 1 - (i + j) / 2) ace0) (ys.getD ((i + j) / 2) ace0) _ (okF_getD hyf _).1 (okF_getD hyf _).2 (okF_getD hyf _).1 (okF_getD hyf _).2) fun a182 X182 h182 S182 => ?_
      refine sv h182 (ex_lss (h182.ev rfl) (h182.ev rfl)) fun a183 h183 => ?_
      refine sv h183 (ex_not (h183.ev rfl)) fun a184 h184 => ?_
      refine st_nil (go_then ?_)
      refine st_if (h184.ev rfl) (fun hc10 => ?_) (fun hc10 => ?_)
      ·
       refine st_reg ?_
       refine mv h184 fun a185 h185 => ?_
       refine sv h185 (ex_add (h185.ev rfl) (h185.ev rfl) (by omega)) fun a186 h186 => ?_
       refine ma h186 fun a187 h187 => ?_
       refine st_nil (go_block (go_then ?_))
       exact ⟨((i + j) / 2 + 1, j), (by show j - ((i + j) / 2 + 1) < j - i; omega), ⟨by show s0 ≤ (i + j) / 2 + 1; omega, by show (i + j) / 2 + 1 ≤ j; omega, hq3⟩, h187.re ⟨rfl, rfl, rfl, rfl, rfl, rfl, rfl, rfl, rfl, rfl, trivial⟩, S182⟩
      ·
       refine st_reg ?_
       refine mva h184 fun a189 h189 => ?_
       refine st_nil (go_block (go_then ?_))
       exact ⟨(i, (i + j) / 2), (by show (i + j) / 2 - i < j - i; omega), ⟨hq1, by show i ≤ (i + j) / 2; omega, by show (i + j) / 2 ≤ r0; omega⟩, h189.re ⟨rfl, rfl, rfl, rfl, rfl, rfl, rfl, rfl, rfl, rfl, trivial⟩, S182⟩
     case hB => kernel_rfl
     case hst => rfl
    ·
     have hge : j ≤ i := by have := of_decide_eq_false hc9; omega
     refine wp_exit ?_
     refine go_exit_then ?_
     refine go_exit_then ?_
     refine go_exit ?_
     refine go_then (st_seq (st_reg ?_))
     refine mvv h162 fun a191 h191 => ?_
     refine sv h191 (as_val (v' := .int .i64 (((a + b) / 2 + m - i : Nat) : Int)) (congrArg _ (by omega)) (ex_sub (h191.ev rfl) (h191.ev rfl) (by omega))) fun a192 h192 => ?_
     refine ma h192 fun a193 h193 => ?_
     refine st_nil (go_then (st_seq (st_seq (st_reg ?_))))
     refine mvv h193 fun a195 h195 => ?_
     refine sv h195 (ex_lss (h195.ev rfl) (h195.ev rfl)) fun a196 h196 => ?_
     refine mv h196 fun a197 h197 => ?_
     apply sl_and h197 S159 181 rfl 4 185
     case ht =>
      intro gc181
      refine sy h197 (ex_move (h197.ev rfl)) fun a198 h198 => ?_
      refine sy h198 (ex_move (h198.ev rfl)) fun a199 h199 => ?_
      refine sy h199 (ex_lss (h199.ev rfl) (h199.ev rfl)) fun a200 h200 => ?_
      refine sv h200 (ex_pick_t (h200.ev rfl) gc181 (h200.ev rfl)) fun a201 h201 => ?_
      exact st_nil ⟨h201.mid (m := [(_, _), (_, _), (_, _)]) rfl, S159⟩
     case hf =>
      intro gc181
      refine no h197 fun a202 h202 => ?_
      refine no h202 fun a203 h203 => ?_
      refine no h203 fun a204 h204 => ?_
      refine sv h204 (ex_pick_f (h204.ev rfl) gc181 (h204.ev rfl)) fun a205 h205 => ?_
      exact st_nil ⟨h205.mid (m := [(_, _), (_, _), (_, _)]) rfl, S159⟩
     case h =>
      rintro a206 X206 ⟨h206, S206⟩
      refine st_nil (go_then ?_)
      refine st_if (h206.ev rfl) (fun hc11 => ?_) (fun hc11 => ?_)
      ·
       obtain ⟨u1, u2⟩ := Bool.and_eq_true_iff.1 hc11
       have v1 : i < m := by have := of_decide_eq_true u1; omega
       have v2 : m < (a + b) / 2 + m - i := by have := of_decide_eq_true u2; omega
       refine st_reg ?_
       refine mvv h206 fun a208 h208 => ?_
       refine mvv h208 fun a210 h210 => ?_
       refine mv h210 fun a211 h211 => ?_
       refine sl_updx h211 (wn rfl) (ex_call (fun _ _ => by kernel_rfl) (h211.evs rfl) rfl) rfl rfl S206 (i := 0) rfl row_dom (rot_any g c n i m ((a + b) / 2 + m - i) ys _ hyl.symm v1 v2 (by omega) hlen hyf _ (S206.at_ (i := 0) rfl)) fun p191 a212 X212 h212 hF191 S212 => ?_
       have hcur := hF191
       refine st_nil (go_then (st_seq (st_seq (st_reg ?_))))
       refine mvv h212 fun a214 h214 => ?_
       refine sv h214 (ex_lss (h214.ev rfl) (h214.ev rfl)) fun a215 h215 => ?_
       refine mv h215 fun a216 h216 => ?_
       apply sl_and h216 S212 195 rfl 4 199
       case ht =>
        intro gc195
        refine sy h216 (ex_move (h216.ev rfl)) fun a217 h217 => ?_
        refine sy h217 (ex_move (h217.ev rfl)) fun a218 h218 => ?_
        refine sy h218 (ex_lss (h218.ev rfl) (h218.ev rfl)) fun a219 h219 => ?_
        refine sv h219 (ex_pick_t (h219.ev rfl) gc195 (h219.ev rfl)) fun a220 h220 => ?_
        exact st_nil ⟨h220.mid (m := [(_, _), (_, _), (_, _)]) rfl, S212⟩
       case hf =>
        intro gc195
        refine no h216 fun a221 h221 => ?_
        refine no h221 fun a222 h222 => ?_
        refine no h222 fun a223 h223 => ?_
        refine sv h223 (ex_pick_f (h223.ev rfl) gc195 (h223.ev rfl)) fun a224 h224 => ?_
        exact st_nil ⟨h224.mid (m := [(_, _), (_, _), (_, _)]) rfl, S212⟩
       case h =>
        rintro a225 X225 ⟨h225, S225⟩
        refine st_nil (go_then ?_)
        refine st_if (h225.ev rfl) (fun hc12 => ?_) (fun hc12 => ?_)
        ·
         obtain ⟨u1, u2⟩ := Bool.and_eq_true_iff.1 hc12
         have v1 : a < i := by have := of_decide_eq_true u1; omega
         have v2 : i < (a + b) / 2 := by have := of_decide_eq_true u2; omega
         refine st_reg ?_
         refine mvv h225 fun a227 h227 => ?_
         refine mvv h227 fun a229 h229 => ?_
         refine mv h229 fun a230 h230 => ?_
         refine sl_updx h230 (wn rfl) (ex_call (fun _ _ => by kernel_rfl) (h230.evs rfl) rfl) rfl rfl S225 (i := 0) rfl row_dom (IH a i ((a + b) / 2) _ v1 v2 (by omega) (by omega) hcur _ (S225.at_ (i := 0) rfl)) fun p205 a231 X231 h231 hF205 S231 => ?_
         have hcur := hF205
         refine nsr ?_
         refine mvv h231 fun a233 h233 => ?_
         refine sv h233 (ex_lss (h233.ev rfl) (h233.ev rfl)) fun a234 h234 => ?_
         refine mv h234 fun a235 h235 => ?_
         apply sl_and h235 S231 209 rfl 4 213
         case ht =>
          intro gc209
          refine sy h235 (ex_move (h235.ev rfl)) fun a236 h236 => ?_
          refine sy h236 (ex_move (h236.ev rfl)) fun a237 h237 => ?_
          refine sy h237 (ex_lss (h237.ev rfl) (h237.ev rfl)) fun a238 h238 => ?_
          refine sv h238 (ex_pick_t (h238.ev rfl) gc209 (h238.ev rfl)) fun a239 h239 => ?_
          exact st_nil ⟨h239.mid (m := [(_, _), (_, _), (_, _)]) rfl, S231⟩
         case hf =>
          intro gc209
          refine no h235 fun a240 h240 => ?_
          refine no h240 fun a241 h241 => ?_
          refine no h241 fun a242 h242 => ?_
          refine sv h242 (ex_pick_f (h242.ev rfl) gc209 (h242.ev rfl)) fun a243 h243 => ?_
          exact st_nil ⟨h243.mid (m := [(_, _), (_, _), (_, _)]) rfl, S231⟩
         case h =>
          rintro a244 X244 ⟨h244, S244⟩
          refine st_nil (go_then ?_)
          refine st_if (h244.ev rfl) (fun hc13 => ?_) (fun hc13 => ?_)
          ·
           obtain ⟨u1, u2⟩ := Bool.and_eq_true_iff.1 hc13
           have v1 : (a + b) / 2 < (a + b) / 2 + m - i := by have := of_decide_eq_true u1; omega
           have v2 : (a + b) / 2 + m - i < b := by have := of_decide_eq_true u2; omega
           refine st_reg ?_
           refine mvv h244 fun a246 h246 => ?_
           refine mvv h246 fun a248 h248 => ?_
           refine mv h248 fun a249 h249 => ?_
           refine sl_updx h249 (wn rfl) (ex_call (fun _ _ => by kernel_rfl) (h249.evs rfl) rfl) rfl rfl S244 (i := 0) rfl row_dom (IH ((a + b) / 2) ((a + b) / 2 + m - i) b _ v1 v2 hb (by omega) hcur _ (S244.at_ (i := 0) rfl)) fun p219 a250 X250 h250 hF219 S250 => ?_
           have hcur := hF219
           refine st_nil ?_
           refine fin0 h250 rfl ?_
           exact ⟨_, rfl, hcur, S250⟩
          ·
           refine wp_skip ?_
           refine fin0 h244 rfl ?_
           exact ⟨_, rfl, hcur, S244⟩
        ·
         refine wp_skip (go_then (st_seq (st_reg ?_)))
         refine mvv h225 fun a252 h252 => ?_
         refine sv h252 (ex_lss (h252.ev rfl) (h252.ev rfl)) fun a253 h253 => ?_
         refine mv h253 fun a254 h254 => ?_
         apply sl_and h254 S225 209 rfl 4 213
         case ht =>
          intro gc209
          refine sy h254 (ex_move (h254.ev rfl)) fun a255 h255 => ?_
          refine sy h255 (ex_move (h255.ev rfl)) fun a256 h256 => ?_
          refine sy h256 (ex_lss (h256.ev rfl) (h256.ev rfl)) fun a257 h257 => ?_
          refine sv h257 (ex_pick_t (h257.ev rfl) gc209 (h257.ev rfl)) fun a258 h258 => ?_
          exact st_nil ⟨h258.mid (m := [(_, _), (_, _), (_, _)]) rfl, S225⟩
         case hf =>
          intro gc209
          refine no h254 fun a259 h259 => ?_
          refine no h259 fun a260 h260 => ?_
          refine no h260 fun a261 h261 => ?_
          refine sv h261 (ex_pick_f (h261.ev rfl) gc209 (h261.ev rfl)) fun a262 h262 => ?_
          exact st_nil ⟨h262.mid (m := [(_, _), (_, _), (_, _)]) rfl, S225⟩
         case h =>
          rintro a263 X263 ⟨h263, S263⟩
          refine st_nil (go_then ?_)
          refine st_if (h263.ev rfl) (fun hc13 => ?_) (fun hc13 => ?_)
          ·
           obtain ⟨u1, u2⟩ := Bool.and_eq_true_iff.1 hc13
           have v1 : (a + b) / 2 < (a + b) / 2 + m - i := by have := of_decide_eq_true u1; omega
           have v2 : (a + b) / 2 + m - i < b := by have := of_decide_eq_true u2; omega
           refine st_reg ?_
           refine mvv h263 fun a265 h265 => ?_
           refine mvv h265 fun a267 h267 => ?_
           refine mv h267 fun a268 h268 => ?_
           refine sl_updx h268 (wn rfl) (ex_call (fun _ _ => by kernel_rfl) (h268.evs rfl) rfl) rfl rfl S263 (i := 0) rfl row_dom (IH ((a + b) / 2) ((a + b) / 2 + m - i) b _ v1 v2 hb (by omega) hcur _ (S263.at_ (i := 0) rfl)) fun p219 a269 X269 h269 hF219 S269 => ?_
           have hcur := hF219
           refine st_nil ?_
           refine fin0 h269 rfl ?_
           exact ⟨_, rfl, hcur, S269⟩
          ·
           refine wp_skip ?_
           refine fin0 h263 rfl ?_
           exact ⟨_, rfl, hcur, S263⟩
      ·
       have hcur : ys.length = n ∧ okF ys := ⟨hyl, hyf⟩
       refine wp_skip (go_then (st_seq (st_seq (st_reg ?_))))
       refine mvv h206 fun a271 h271 => ?_
       refine sv h271 (ex_lss (h271.ev rfl) (h271.ev rfl)) fun a272 h272 => ?_
       refine mv h272 fun a273 h273 => ?_
       apply sl_and h273 S206 195 rfl 4 199
       case ht =>
        intro gc195
        refine sy h273 (ex_move (h273.ev rfl)) fun a274 h274 => ?_
        refine sy h274 (ex_move (h274.ev rfl)) fun a275 h275 => ?_
        refine sy h275 (ex_lss (h275.ev rfl) (h275.ev rfl)) fun a276 h276 => ?_
        refine sv h276 (ex_pick_t (h276.ev rfl) gc195 (h276.ev rfl)) fun a277 h277 => ?_
        exact st_nil ⟨h277.mid (m := [(_, _), (_, _), (_, _)]) rfl, S206⟩
       case hf =>
        intro gc195
        refine no h273 fun a278 h278 => ?_
        refine no h278 fun a279 h279 => ?_
        refine no h279 fun a280 h280 => ?_
        refine sv h280 (ex_pick_f (h280.ev rfl) gc195 (h280.ev rfl)) fun a281 h281 => ?_
        exact st_nil ⟨h281.mid (m := [(_, _), (_, _), (_, _)]) rfl, S206⟩
       case h =>
        rintro a282 X282 ⟨h282, S282⟩
        refine st_nil (go_then ?_)
        refine st_if (h282.ev rfl) (fun hc12 => ?_) (fun hc12 => ?_)
        ·
         obtain ⟨u1, u2⟩ := Bool.and_eq_true_iff.1 hc12
         have v1 : a < i := by have := of_decide_eq_true u1; omega
         have v2 : i < (a + b) / 2 := by have := of_decide_eq_true u2; omega
         refine st_reg ?_
         refine mvv h282 fun a284 h284 => ?_
         refine mvv h284 fun a286 h286 => ?_
         refine mv h286 fun a287 h287 => ?_
         refine sl_updx h287 (wn rfl) (ex_call (fun _ _ => by kernel_rfl) (h287.evs rfl) rfl) rfl rfl S282 (i := 0) rfl row_dom (IH a i ((a + b) / 2) _ v1 v2 (by omega) (by omega) hcur _ (S282.at_ (i := 0) rfl)) fun p205 a288 X288 h288 hF205 S288 => ?_
         have hcur := hF205
         refine nsr ?_
         refine mvv h288 fun a290 h290 => ?_
         refine sv h290 (ex_lss (h290.ev rfl) (h290.ev rfl)) fun a291 h291 => ?_
         refine mv h291 fun a292 h292 => ?_
         apply sl_and h292 S288 209 rfl 4 213
         case ht =>
          intro gc209
          refine sy h292 (ex_move (h292.ev rfl)) fun a293 h293 => ?_
          refine sy h293 (ex_move (h293.ev rfl)) fun a294 h294 => ?_
          refine sy h294 (ex_lss (h294.ev rfl) (h294.ev rfl)) fun a295 h295 => ?_
          refine sv h295 (ex_pick_t (h295.ev rfl) gc209 (h295.ev rfl)) fun a296 h296 => ?_
          exact st_nil ⟨h296.mid (m := [(_, _), (_, _), (_, _)]) rfl, S288⟩
         case hf =>
          intro gc209
          refine no h292 fun a297 h297 => ?_
          refine no h297 fun a298 h298 => ?_
          refine no h298 fun a299 h299 => ?_
          refine sv h299 (ex_pick_f (h299.ev rfl) gc209 (h299.ev rfl)) fun a300 h300 => ?_
          exact st_nil ⟨h300.mid (m := [(_, _), (_, _), (_, _)]) rfl, S288⟩
         case h =>
          rintro a301 X301 ⟨h301, S301⟩
          refine st_nil (go_then ?_)
          refine st_if (h301.ev rfl) (fun hc13 => ?_) (fun hc13 => ?_)
          ·
           obtain ⟨u1, u2⟩ := Bool.and_eq_true_iff.1 hc13
           have v1 : (a + b) / 2 < (a + b) / 2 + m - i := by have := of_decide_eq_true u1; omega
           have v2 : (a + b) / 2 + m - i < b := by have := of_decide_eq_true u2; omega
           refine st_reg ?_
           refine mvv h301 fun a303 h303 => ?_
           refine mvv h303 fun a305 h305 => ?_
           refine mv h305 fun a306 h306 => ?_
           refine sl_updx h306 (wn rfl) (ex_call (fun _ _ => by kernel_rfl) (h306.evs rfl) rfl) rfl rfl S301 (i := 0) rfl row_dom (IH ((a + b) / 2) ((a + b) / 2 + m - i) b _ v1 v2 hb (by omega) hcur _ (S301.at_ (i := 0) rfl)) fun p219 a307 X307 h307 hF219 S307 => ?_
           have hcur := hF219
           refine st_nil ?_
           refine fin0 h307 rfl ?_
           exact ⟨_, rfl, hcur, S307⟩
          ·
           refine wp_skip ?_
           refine fin0 h301 rfl ?_
           exact ⟨_, rfl, hcur, S301⟩
        ·
         refine wp_skip (go_then (st_seq (st_reg ?_)))
         refine mvv h282 fun a309 h309 => ?_
         refine sv h309 (ex_lss (h309.ev rfl) (h309.ev rfl)) fun a310 h310 => ?_
         refine mv h310 fun a311 h311 => ?_
         apply sl_and h311 S282 209 rfl 4 213
         case ht =>
          intro gc209
          refine sy h311 (ex_move (h311.ev rfl)) fun a312 h312 => ?_
          refine sy h312 (ex_move (h312.ev rfl)) fun a313 h313 => ?_
          refine sy h313 (ex_lss (h313.ev rfl) (h313.ev rfl)) fun a314 h314 => ?_
          refine sv h314 (ex_pick_t (h314.ev rfl) gc209 (h314.ev rfl)) fun a315 h315 => ?_
          exact st_nil ⟨h315.mid (m := [(_, _), (_, _), (_, _)]) rfl, S282⟩
         case hf =>
          intro gc209
          refine no h311 fun a316 h316 => ?_
          refine no h316 fun a317 h317 => ?_
          refine no h317 fun a318 h318 => ?_
          refine sv h318 (ex_pick_f (h318.ev rfl) gc209 (h318.ev rfl)) fun a319 h319 => ?_
          exact st_nil ⟨h319.mid (m := [(_, _), (_, _), (_, _)]) rfl, S282⟩
         case h =>
          rintro a320 X320 ⟨h320, S320⟩
          refine st_nil (go_then ?_)
          refine st_if (h320.ev rfl) (fun hc13 => ?_) (fun hc13 => ?_)
          ·
           obtain ⟨u1, u2⟩ := Bool.and_eq_true_iff.1 hc13
           have v1 : (a + b) / 2 < (a + b) / 2 + m - i := by have := of_decide_eq_true u1; omega
           have v2 : (a + b) / 2 + m - i < b := by have := of_decide_eq_true u2; omega
           refine st_reg ?_
           refine mvv h320 fun a322 h322 => ?_
           refine mvv h322 fun a324 h324 => ?_
           refine mv h324 fun a325 h325 => ?_
           refine sl_updx h325 (wn rfl) (ex_call (fun _ _ => by kernel_rfl) (h325.evs rfl) rfl) rfl rfl S320 (i := 0) rfl row_dom (IH ((a + b) / 2) ((a + b) / 2 + m - i) b _ v1 v2 hb (by omega) hcur _ (S320.at_ (i := 0) rfl)) fun p219 a326 X326 h326 hF219 S326 => ?_
           have hcur := hF219
           refine st_nil ?_
           refine fin0 h326 rfl ?_
           exact ⟨_, rfl, hcur, S326⟩
          ·
           refine wp_skip ?_
           refine fin0 h320 rfl ?_
           exact ⟨_, rfl, hcur, S320⟩
theorem sym_any (g c n : Nat) (hlen : n ≤ 1000) : ∀ (K a m b : Nat) (ys : List AceP), a < m → m < b → b ≤ n → b - a ≤ K → (ys.length = n ∧ okF ys) → ∀ w : World, w.ownsRow 0 111 4 (.slice (some ⟨g, 0, none⟩) n c) n (acesV ys) →
 Calls Tryz.prog 159 #[.slice (some ⟨g, 0, none⟩) n c, .int .i64 a, .int .i64 m, .int .i64 b, .func (.func 101) #[] #[]] w fun e X' => ∃ zs : List AceP, e = .returned (.tuple #[]) ∧ (zs.length = n ∧ okF zs) ∧ St (Value.slice (some ⟨g, 0, none⟩) n c).ownBlock.toList w X' [.row (.slice (some ⟨g, 0, none⟩) n c) n 111 4 (acesV zs)]
 | 0, a, m, b, _, ha, hm, _, hK, _, _, _ => by omega
 | K + 1, a, m, b, ys, ha, hm, hb, hK, hcur, w, hr => sym_step g c n K hlen (fun a m b ys h1 h2 h3 h4 h5 w h6 => sym_any g c n hlen K a m b ys h1 h2 h3 h4 h5 w h6) a m b ys ha hm hb hK hcur w hr
theorem stabL_any (g c n : Nat) (ys : List AceP) (hn : n = ys.length) (h1 : 20 ≤ n) (h2 : n ≤ 32) (hf : okF ys) (w : World) (hr : w.ownsRow 0 111 4 (.slice (some ⟨g, 0, none⟩) n c) n (acesV ys)) :
 Calls Tryz.prog 144 #[.slice (some ⟨g, 0, none⟩) n c, .int .i64 n, .func (.func 101) #[] #[]] w fun e X' => ∃ zs : List AceP, e = .returned (.tuple #[]) ∧ (zs.length = n ∧ okF zs) ∧ St (Value.slice (some ⟨g, 0, none⟩) n c).ownBlock.toList w X' [.row (.slice (some ⟨g, 0, none⟩) n c) n 111 4 (acesV zs)] := by
 refine st_enter (N := 63) Tryz.func144 rfl rfl rfl (fun a0 h0 => ?_)
 have S0 := St.initO hr
 refine st_seq (st_reg ?_)
 refine ma h0 fun a1 h1 => ?_
 refine nsr ?_
 refine mv h1 fun a2 h2 => ?_
 refine maa h2 fun a4 h4 => ?_
 refine st_nil (go_then (st_seq (wp_block ?_)))
 refine st_loop h4 S0 [6, 0, 1, 2] (fun (q : Nat × List AceP) => [(8, .int .i64 (20 + 20 * q.1 : Nat)), (7, .int .i64 (20 * q.1 : Nat))]) (fun (q : Nat × List AceP) => q.1 ≤ 1 ∧ q.2.length = n ∧ okF q.2) (fun q L => [.row (.slice (some ⟨g, 0, none⟩) n c) n 111 4 (acesV q.2)]) (fun (q : Nat × List AceP) => 1 - q.1) ((0, ys)) (⟨Nat.zero_le _, hn.symm, hf⟩) ⟨rfl, rfl, rfl, rfl, rfl, rfl, trivial⟩ (S0) ?_
 intro q a5 X5 hF0 h5 S5
 obtain ⟨k, zs⟩ := q
 dsimp only at h5 S5 hF0
 obtain ⟨hq1, hq2, hq3⟩ := hF0
 refine st_seq (st_seq (st_reg ?_))
 refine mvv h5 fun a7 h7 => ?_
 refine sv h7 (ex_leq (h7.ev rfl) (h7.ev rfl)) fun a8 h8 => ?_
 refine st_nil (go_then ?_)
 refine st_if (h8.ev rfl) (fun hc0 => ?_) (fun hc0 => ?_)
 ·
  have hk : k = 0 := by have := of_decide_eq_true hc0; omega
  subst hk
  refine wp_skip (go_then (wp_block (st_seq (st_reg ?_))))
  refine mvv h8 fun a10 h10 => ?_
  refine mvv h10 fun a12 h12 => ?_
  refine sl_updx h12 (wn rfl) (ex_call (fun _ _ => by kernel_rfl) (h12.evs rfl) rfl) rfl rfl S5 (i := 0) rfl row_dom (ins_any g c n zs 0 20 hq2.symm (Nat.zero_le _) (by omega) (by omega) hq3 _ (S5.at_ (i := 0) rfl)) fun p18 a13 X13 h13 hF18 S13 => ?_
  refine nsr ?_
  refine mva h13 fun a15 h15 => ?_
  refine st_nil (go_then (st_reg ?_))
  refine mvv h15 fun a17 h17 => ?_
  refine sv h17 (ex_add (h17.ev rfl) (h17.ev rfl) (by omega)) fun a18 h18 => ?_
  refine ma h18 fun a19 h19 => ?_
  refine st_nil (go_block (go_then ?_))
  exact ⟨(1, p18), (Nat.lt_succ_self 0), ⟨Nat.le_refl _, hF18.1.1.trans hq2, okF_same hF18.1 hq3⟩, h19.re ⟨rfl, rfl, rfl, rfl, rfl, rfl, trivial⟩, S13⟩
 ·
  have hk : k = 1 := by have := of_decide_eq_false hc0; omega
  subst hk
  refine wp_exit ?_
  refine go_exit_then ?_
  refine go_exit_then ?_
  refine go_exit ?_
  refine go_then (st_seq (st_reg ?_))
  refine mv h8 fun a20 h20 => ?_
  refine mvv h20 fun a22 h22 => ?_
  refine mv h22 fun a23 h23 => ?_
  refine sl_updx h23 (wn rfl) (ex_call (fun _ _ => by kernel_rfl) (h23.evs rfl) rfl) rfl rfl S5 (i := 0) rfl row_dom (ins_any g c n zs 20 n hq2.symm (by omega) (Nat.le_refl _) (by omega) hq3 _ (S5.at_ (i := 0) rfl)) fun p27 a24 X24 h24 hF27 S24 => ?_
  have hz1 : p27.length = n ∧ okF p27 := ⟨hF27.1.1.trans hq2, okF_same hF27.1 hq3⟩
  refine st_nil (go_then (wp_block ?_))
  refine st_loop h24 S24 [0, 1, 2] (fun (q : Nat × List AceP) => [(6, .int .i64 (20 + 20 * q.1 : Nat))]) (fun (q : Nat × List AceP) => q.1 ≤ 1 ∧ q.2.length = n ∧ okF q.2) (fun q L => [.row (.slice (some ⟨g, 0, none⟩) n c) n 111 4 (acesV q.2)]) (fun (q : Nat × List AceP) => 1 - q.1) ((0, p27)) (⟨Nat.zero_le _, hz1⟩) ⟨rfl, rfl, rfl, rfl, trivial⟩ (S24) ?_
  intro q a25 X25 hF1 h25 S25
  obtain ⟨k, us⟩ := q
  dsimp only at h25 S25 hF1
  obtain ⟨hv1, hv2, hv3⟩ := hF1
  refine st_seq (st_seq (st_reg ?_))
  refine mvv h25 fun a27 h27 => ?_
  refine sv h27 (ex_lss (h27.ev rfl) (h27.ev rfl)) fun a28 h28 => ?_
  refine st_nil (go_then ?_)
  refine st_if (h28.ev rfl) (fun hc1 => ?_) (fun hc1 => ?_)
  ·
   have hk : k = 0 := by have := of_decide_eq_true hc1; omega
   subst hk
   have h20 : 20 < n := by have := of_decide_eq_true hc1; omega
   refine wp_skip (go_then (wp_block (st_seq (st_reg ?_))))
   refine mv h28 fun a29 h29 => ?_
   refine sv h29 (ex_mul (h29.ev rfl) (h29.ev rfl) (by omega)) fun a30 h30 => ?_
   refine maa h30 fun a32 h32 => ?_
   refine st_nil (go_then (st_seq (wp_block ?_)))
   refine st_loop h32 S25 [32, 31, 30, 29, 28, 6, 0, 1, 2] (fun (i : Nat) => [(8, .int .i64 (40 : Nat)), (7, .int .i64 (0 : Nat))]) (fun (i : Nat) => True) (fun i L => L) (fun (i : Nat) => i) (0) (trivial) ⟨rfl, rfl, rfl, rfl, rfl, rfl, rfl, rfl, rfl, rfl, rfl, trivial⟩ (S25) ?_
   intro i a33 X33 hF2 h33 S33
   refine st_seq (st_seq (st_reg ?_))
   refine mvv h33 fun a35 h35 => ?_
   refine sv h35 (ex_leq (h35.ev rfl) (h35.ev rfl)) fun a36 h36 => ?_
   refine st_nil (go_then ?_)
   refine st_if_f (h36.ev rfl) ((by rw [decide_eq_false]; omega)) ?_
   refine wp_exit ?_
   refine go_exit_then ?_
   refine go_exit_then ?_
   refine go_exit ?_
   refine go_then (st_seq (st_seq (st_reg ?_)))
   refine mvv h36 fun a38 h38 => ?_
   refine sv h38 (ex_add (h38.ev rfl) (h38.ev rfl) (by omega)) fun a39 h39 => ?_
   refine ma h39 fun a40 h40 => ?_
   refine nsr ?_
   refine mvv h40 fun a42 h42 => ?_
   refine sv h42 (ex_lss (h42.ev rfl) (h42.ev rfl)) fun a43 h43 => ?_
   refine st_nil (go_then ?_)
   refine st_if_t (h43.ev rfl) ((by rw [decide_eq_true]; omega)) ?_
   refine st_reg ?_
   refine mvv h43 fun a45 h45 => ?_
   refine mvv h45 fun a47 h47 => ?_
   refine mv h47 fun a48 h48 => ?_
   refine sl_updx h48 (wn rfl) (ex_call (fun _ _ => by kernel_rfl) (h48.evs rfl) rfl) rfl rfl S33 (i := 0) rfl row_dom (sym_any g c n (by omega) n 0 20 n us (by omega) (by omega) (Nat.le_refl _) (by omega) ⟨hv2, hv3⟩ _ (S33.at_ (i := 0) rfl)) fun p60 a49 X49 h49 hF60 S49 => ?_
   refine st_nil (go_then (st_reg ?_))
   refine mv h49 fun a50 h50 => ?_
   refine sv h50 (ex_mul (h50.ev rfl) (h50.ev rfl) (by omega)) fun a51 h51 => ?_
   refine ma h51 fun a52 h52 => ?_
   refine st_nil (go_block (go_then ?_))
   exact ⟨(1, p60), (Nat.lt_succ_self 0), ⟨Nat.le_refl _, hF60⟩, h52.re ⟨rfl, rfl, rfl, rfl, trivial⟩, S49⟩
  ·
   refine wp_exit ?_
   refine go_exit_then ?_
   refine go_exit_then ?_
   refine go_exit ?_
   refine fin0 h28 rfl ?_
   exact ⟨us, rfl, ⟨hv2, hv3⟩, S25⟩
def stL (ys zs : List AceP) : Prop := zs.length = ys.length ∧ (ys.length ≤ 19 → zs = canL ys)
theorem stab3_any (ys : List AceP) (hlen : ys.length ≤ 32) (hf : okF ys) (v : Value) (w : World) (hr : w.ownsRow 0 111 4 v ys.length (acesV ys)) :
 Calls Tryz.prog 144 #[v, .int .i64 ys.length, .func (.func 101) #[] #[]] w fun e w' => ∃ zs : List AceP, e = .returned (.tuple #[]) ∧ stL ys zs ∧ St v.ownBlock.toList w w' [.row v ys.length 111 4 (acesV zs)] := by
 by_cases h : ys.length ≤ 19
 · refine (stab_any ys h hf v w hr).mono ?_
   rintro e w' ⟨_, rfl, _, h3⟩
   exact ⟨canL ys, rfl, ⟨canL_len ys, fun _ => rfl⟩, h3⟩
 · rcases hr.2 with ⟨_, h0⟩ | ⟨g, c, _, rfl, _⟩
   · omega
   · refine (stabL_any g c ys.length ys rfl (by omega) hlen hf w hr).mono ?_
     rintro e w' ⟨zs, rfl, h2, h3⟩
     exact ⟨zs, rfl, ⟨h2.1, fun q => absurd q h⟩, h3⟩
theorem sstab3_any (ys : List AceP) (hlen : ys.length ≤ 32) (hf : okF ys) (v : Value) (w : World) (hr : w.ownsRow 0 111 4 v ys.length (acesV ys)) :
 Calls Tryz.prog 128 #[v, .func (.func 101) #[] #[]] w fun e w' => ∃ zs : List AceP, e = .returned (.tuple #[]) ∧ stL ys zs ∧ St v.ownBlock.toList w w' [.row v ys.length 111 4 (acesV zs)] := by
 obtain ⟨A, c, rfl, _⟩ := ownsRow_form hr
 refine st_enter (N := 9) Tryz.func128 rfl rfl rfl (fun a0 h0 => ?_)
 have S0 := (St.initO hr : St (Value.slice A ys.length c).ownBlock.toList w w _)
 refine st_reg ?_
 refine mvv h0 fun a2 h2 => ?_
 refine sv h2 (ex_len Tryz.underlying22 (h2.ev rfl)) fun a3 h3 => ?_
 refine mv h3 fun a4 h4 => ?_
 refine sl_updx h4 (wn rfl) (ex_call (fun _ _ => by kernel_rfl) (h4.evs rfl) rfl) rfl rfl S0 (i := 0) rfl row_dom (stab3_any ys hlen hf (.slice A ys.length c) _ (S0.at_ (i := 0) rfl)) fun p8 a5 X5 h5 hF8 S5 => ?_
 refine st_nil ?_
 refine fin0 h5 rfl ?_
 exact ⟨p8, rfl, hF8, S5⟩
theorem sorted3_any (es : List AceP) (A : Option Addr) (c b1 : Nat) (w : World) (hes : es.length ≤ 32) (hf : okF es) (hb : Box w b1 #[.slice A es.length c] 22) (hr : Rd w w.heap.size A (acesV es)) :
 Calls Tryz.prog 99 #[.func (.func 129) #[] #[.pointer (some ⟨b1, 0, none⟩)], .func (.func 101) #[] #[]] w fun e w' => ∃ i : { p : List AceP × Option Addr × Nat // stL es p.1 }, e = .returned (.slice i.1.2.1 es.length i.1.2.2) ∧ St [] w w' [.row (.slice i.1.2.1 es.length i.1.2.2) es.length 111 4 (acesV i.1.1)] := by
 refine st_enter (N := 12) Tryz.func99 rfl rfl rfl (fun a0 h0 => ?_)
 have S0 := St.init w
 refine st_seq (st_reg ?_)
 refine ma h0 fun a1 h1 => ?_
 refine nsr ?_
 refine mv h1 fun a2 h2 => ?_
 refine sl_more h2 (wn rfl) (ex_call (fun _ _ => by kernel_rfl) (h2.evs rfl) rfl) rfl rfl S0 (Collect_any es A c b1 _ (by omega) (hb.below S0.below) (S0.rd0 hr)) fun p7 a3 X3 h3 S3 => ?_
 refine ma h3 fun a4 h4 => ?_
 refine nsr ?_
 refine mvv h4 fun a6 h6 => ?_
 refine sl_updx h6 (wn rfl) (ex_call (fun _ _ => by kernel_rfl) (h6.evs rfl) rfl) rfl rfl S3 (i := 0) rfl row_dom (sstab3_any es hes hf _ _ (S3.at_ (i := 0) rfl)) fun p10 a7 X7 h7 hF10 S7 => ?_
 refine nsr ?_
 refine mva h7 fun a9 h9 => ?_
 refine st_nil (go_then (wp_ret ?_))
 refine fin1 h9 rfl rfl ?_
 exact ⟨⟨(p10, p7), hF10⟩, rfl, S7⟩
theorem canon3_any (es : List AceP) (A : Option Addr) (c : Nat) (w : World) (hes : es.length ≤ 32) (hf : okF es) (hr : Rd w w.heap.size A (acesV es)) :
 Calls Tryz.prog 79 #[.slice A es.length c] w fun e w' => ∃ i : { p : List AceP × Option Addr × Nat // stL es p.1 }, e = .returned (.slice i.1.2.1 es.length i.1.2.2) ∧ St [] w w' [.row (.slice i.1.2.1 es.length i.1.2.2) es.length 111 4 (acesV i.1.1)] := by
 refine st_enter (N := 6) Tryz.func79 rfl rfl rfl (fun a0 h0 => ?_)
 have S0 := St.init w
 refine st_seq (st_reg ?_)
 refine ma h0 fun a1 h1 => ?_
 refine nsr ?_
 refine mv h1 fun a2 h2 => ?_
 refine sl_more h2 (wn rfl) (ex_call (fun _ _ => by kernel_rfl) (h2.evs rfl) rfl) rfl rfl S0 (Values_any A es.length c _) fun p4 a3 X3 h3 S3 => ?_
 refine sl_more h3 (wn rfl) (ex_call (fun _ _ => by kernel_rfl) (h3.evs rfl) rfl) rfl rfl S3 (sorted3_any es A c p4 _ hes hf (S3.at_ (i := 0) rfl) (S3.rd0 hr)) fun p5 a4 X4 h4 S4 => ?_
 refine ma h4 fun a5 h5 => ?_
 refine st_nil (go_then (wp_ret ?_))
 refine fin1 h5 rfl rfl ?_
 exact ⟨p5, rfl, (S4.sub (.cons_cons _ (.cons _ .slnil)))⟩
end Go.Proofs.YtanicpgmbhfipaaGreatDoor
namespace Go.Proofs.YtanicpgmbhfipaaGreatDoor
set_option linter.unusedVariables false
set_option linter.unusedSimpArgs false
set_option maxRecDepth 4000
open Go.RowKit Go.Sort Go.Shelf
theorem okF_inh {dir : Bool} {o g : Int} {l : List AceP} (hf : okF l) (ho : hldB o = true) (hg : hldB g = true) : okF (ihG dir o g l) := by
 rw [ihG_eq hf ho hg]
 intro x hx
 unfold inhL at hx
 obtain ⟨a, ha, hx⟩ := List.mem_flatMap.1 hx
 have h1 := hf a ha
 obtain ⟨n, hn⟩ := Int.eq_ofNat_of_zero_le h1.1
 obtain ⟨_, _, q3, q4⟩ := hfl_all ⟨n, by omega⟩
 dsimp only at q3 q4
 rw [← hn] at q3 q4
 unfold inhR at hx
 repeat' split at hx
 all_goals simp only [List.mem_cons, List.not_mem_nil, or_false] at hx
 all_goals (first | (obtain rfl := hx; constructor <;> (dsimp only; omega)) | (rcases hx with rfl | rfl <;> constructor <;> (dsimp only; omega)))
theorem cloneA_nil (w : World) :
 Calls Tryz.prog 74 #[.slice none 0 0] w fun e w' => ∃ A' c', e = .returned (.slice A' 0 c') ∧ w'.ownsRow w.heap.size 111 4 (.slice A' 0 c') 0 [] ∧ Below w.heap.size w w' :=
 cloneA_any [] none 0 w (Rd.nil _ _ _) (Nat.zero_le _)
theorem inhA_any (dir : Bool) (o g : Int) (l : List AceP) (A : Option Addr) (c b : Nat) (w : World) (hlen : l.length ≤ 16) (hf : okF l) (ho : hldB o = true) (hg : hldB g = true) (hb : Box w b (heirV dir o g).cells 149) (hr : Rd w w.heap.size A (acesV l)) :
 Calls Tryz.prog 131 #[.slice none 0 0, .slice A l.length c, .bool false, .pointer (some ⟨b, 0, none⟩)] w fun e w' => ∃ i : { p : List AceP × Option Addr × Nat // stL (ihG dir o g l) p.1 }, e = .returned (.slice i.1.2.1 (ihG dir o g l).length i.1.2.2) ∧ St [] w w' [.row (.slice i.1.2.1 (ihG dir o g l).length i.1.2.2) (ihG dir o g l).length 111 4 (acesV i.1.1)] := by
 have hil := ihG_len dir o g l
 have hfi := okF_inh (dir := dir) hf ho hg
 refine st_enter (N := 21) Tryz.func131 rfl rfl rfl (fun a0 h0 => ?_)
 have S0 := St.init w
 refine st_seq (st_reg ?_)
 refine ma h0 fun a1 h1 => ?_
 refine nsr ?_
 refine mv h1 fun a2 h2 => ?_
 refine sl_own h2 (wn rfl) (ex_call (fun _ _ => by kernel_rfl) (h2.evs rfl) rfl) rfl rfl S0 (cloneA_nil _) (Nat.le_refl _) fun A10 c10 a3 X3 h3 S3 => ?_
 refine sl_bel h3 (wn rfl) (ex_call (fun _ _ => by kernel_rfl) (h3.evs rfl) rfl) rfl rfl S3 (del0_any A10 c10 _ _) fun a4 X4 h4 S4 => ?_
 refine ma h4 fun a5 h5 => ?_
 refine st_nil (go_then (st_seq (st_seq (st_reg ?_))))
 refine mv h5 fun a6 h6 => ?_
 refine sv h6 (ex_not (h6.ev rfl)) fun a7 h7 => ?_
 refine st_nil (go_then ?_)
 refine st_if_t (h7.ev rfl) (rfl) ?_
 refine st_reg ?_
 refine mv h7 fun a8 h8 => ?_
 refine sv (v := heirV dir o g) h8 (ex_loads (by kernel_rfl) (by kernel_rfl) (h8.ev rfl) (fun j u hj => by rw [Nat.zero_add, Box.cells (hb.below S4.below) j]; show (#[.bool dir, .int .i64 o, .int .i64 g] : Array Value)[j]? = some u; simpa using hj)) fun a9 h9 => ?_
 refine mv h9 fun a10 h10 => ?_
 refine sl_more h10 (wn rfl) (ex_call (fun _ _ => by kernel_rfl) (h10.evs rfl) rfl) rfl rfl S4 (inherited_any dir o g l A c _ (by omega) (S4.rd0 hr)) fun p17 a11 X11 h11 S11 => ?_
 refine sl_append (z := .agg #[.int .i64 0, .int .i64 0, .int .i64 0, .int .i64 0]) (sz := 4) (bytes := 32) h11 (wn rfl) ⟨rfl, rfl⟩ rfl Tryz.underlying22 (by kernel_rfl) rfl rfl (h11.ev rfl) (h11.ev rfl) S11 (i := 1) rfl (S11.rdOf (i := 0) rfl) (acesF_len _) (aceV_one _) ⟨(by omega), by decide⟩ fun A18 c18 a12 X12 h12 S12 => ?_
 refine ma h12 fun a13 h13 => ?_
 rw [Nat.zero_add] at h13
 rw [Nat.zero_add, List.nil_append] at S12
 refine nsr ?_
 refine mv h13 fun a14 h14 => ?_
 refine sl_more h14 (wn rfl) (ex_call (fun _ _ => by kernel_rfl) (h14.evs rfl) rfl) rfl rfl S12 (canon3_any (ihG dir o g l) A18 c18 _ (by omega) hfi (S12.rdOf (i := 1) rfl)) fun p20 a15 X15 h15 S15 => ?_
 refine ma h15 fun a16 h16 => ?_
 refine st_nil (go_then (wp_ret ?_))
 refine fin1 h16 rfl rfl ?_
 exact ⟨p20, rfl, (S15.sub (.cons_cons _ (.cons _ (.cons _ .slnil))))⟩
def slS (l : List AceP) (i : { p : List AceP × Option Addr × Nat // stL l p.1 }) : Value := .slice i.1.2.1 l.length i.1.2.2
def OwS (l : List AceP) (B : Nat) (i : { p : List AceP × Option Addr × Nat // stL l p.1 }) (X : World) : Prop := X.ownsRow B 111 4 (.slice i.1.2.1 l.length i.1.2.2) l.length (acesV i.1.1)
theorem OwS.grow {l : List AceP} {B : Nat} (i : { p : List AceP × Option Addr × Nat // stL l p.1 }) (X X' : World) (h : OwS l B i X) (hb : Below X.heap.size X X') : OwS l B i X' := ownsRow_below h hb
theorem inhA_ow (dir : Bool) (o g : Int) (l : List AceP) (A : Option Addr) (c b B : Nat) (w : World) (hB : B ≤ w.heap.size) (hlen : l.length ≤ 16) (hf : okF l) (ho : hldB o = true) (hg : hldB g = true) (hb : Box w b (heirV dir o g).cells 149) (hr : Rd w w.heap.size A (acesV l)) :
 Calls Tryz.prog 131 #[.slice none 0 0, .slice A l.length c, .bool false, .pointer (some ⟨b, 0, none⟩)] w fun e w' => ∃ i, e = .returned (slS (ihG dir o g l) i) ∧ OwS (ihG dir o g l) B i w' ∧ Below w.heap.size w w' := by
 refine (inhA_any dir o g l A c b w hlen hf ho hg hb hr).mono ?_
 rintro e w' ⟨i, rfl, h⟩
 refine ⟨i, rfl, own_base (h.at_ (i := 0) rfl) (fun k hk => ?_), h.below⟩
 rcases (h.new _ (List.mem_cons_self ..) k hk).1 with h1 | h1
 · omega
 · cases h1
def wnD (o g : Int) : DscP := ⟨o, g, false, false, [], []⟩
def chE (dir : Bool) (o g : Int) (d : DscP) : Int := firstE [unl (decide ((ihG dir o g d.es).length ≤ 16)) 16, unl (decide ((ihG dir o g d.us).length ≤ 16)) 16]
def chO (dir : Bool) (o g : Int) (d : DscP) : DscP := if chE dir o g d = 0 then ⟨o, g, false, d.he, canL (ihG dir o g d.es), canL (ihG dir o g d.us)⟩ else zD
theorem acl_Bfirst2 {X : World} {b : Nat} {e1 e2 : Int} {T : TypeId} (hb : Box X b #[.int .i64 e1, .int .i64 e2] T) : Calls Tryz.prog 103 #[.slice (some ⟨b, 0, none⟩) 2 2] X fun e w' => e = .returned (.int .i64 (firstE [e1, e2])) ∧ X = w' :=
 acl_first_any b 0 [e1, e2] X (by simp) (fun k hk => by
  rw [Nat.zero_add, Box.cells hb k]
  have : k = 0 ∨ k = 1 := by simp at hk; omega
  rcases this with rfl | rfl <;> rfl)
theorem child_any (dir : Bool) (o g : Int) (d : DscP) (A1 A2 : Option Addr) (c1 c2 : Nat) (w : World) (hL1 : d.es.length ≤ 16) (hL2 : d.us.length ≤ 16) (hf1 : okF d.es) (hf2 : okF d.us) (ho : hldB o = true) (hg : hldB g = true) (hr1 : Rd w w.heap.size A1 (acesV d.es)) (hr2 : Rd w w.heap.size A2 (acesV d.us)) :
 Calls Tryz.prog 105 #[dscV d A1 A2 c1 c2, dscV (wnD o g) none none 0 0, .bool dir] w fun e w' => ∃ i : (Option Addr × Nat) × Option Addr × Nat, e = .returned (.tuple #[dscV (chO dir o g d) i.1.1 i.2.1 i.1.2 i.2.2, .int .i64 (chE dir o g d)]) ∧ St [] w w' [row2E 111 4 (.slice i.1.1 (chO dir o g d).es.length i.1.2) (chO dir o g d).es.length (acesV (chO dir o g d).es) (.slice i.2.1 (chO dir o g d).us.length i.2.2) (chO dir o g d).us.length (acesV (chO dir o g d).us)] := by
 obtain ⟨E, hE⟩ : ∃ E, E = chE dir o g d := ⟨_, rfl⟩
 obtain ⟨D, hD⟩ : ∃ D, D = chO dir o g d := ⟨_, rfl⟩
 have hEd := hE
 unfold chE at hEd
 have hDd := hD
 unfold chO at hDd
 rw [← hE] at hDd
 rw [← hE, ← hD]
 have hl1 := ihG_len dir o g d.es
 have hl2 := ihG_len dir o g d.us
 refine st_enter (N := 63) Tryz.func105 rfl rfl rfl (fun a0 h0 => ?_)
 have S0 := St.init w
 refine st_seq (st_reg ?_)
 refine nb h0 rfl rfl S0 fun b3 a1 X1 gb3 h1 S1 => ?_
 refine nb h1 rfl rfl S1 fun b4 a2 X2 gb4 h2 S2 => ?_
 refine na (.agg #[.int .i64 0, .int .i64 0, .bool false, .bool false, .slice none 0 0, .slice none 0 0]) h2 rfl S2 fun b6 a3 X3 gb6 h3 S3 => ?_
 refine ma h3 fun a4 h4 => ?_
 refine nsr ?_
 refine mv h4 fun a5 h5 => ?_
 refine vf h5 0 0 fun a6 h6 => ?_
 refine vl h6 S3 1 fun a7 h7 => ?_
 refine vf h7 1 1 fun a8 h8 => ?_
 refine vl h8 S3 1 fun a9 h9 => ?_
 refine sv h9 (ex_build (zs := [.bool false, .int .i64 0, .int .i64 0]) (pl := [(0, 1), (1, 1), (2, 1)]) (by kernel_rfl) (by kernel_rfl) (h9.evs2 rfl) rfl rfl) fun a10 h10 => ?_
 refine na (.agg #[.bool false, .int .i64 0, .int .i64 0]) h10 rfl S3 fun b8 a11 X11 gb8 h11 S11 => ?_
 refine sw h11 S11 0 fun X12 S12 => ?_
 have hbx := S12.at_ (i := 0) rfl
 refine nsr ?_
 refine sv h11 (ex_func (h11.evs rfl) (h11.evs rfl)) fun a13 h13 => ?_
 refine ma h13 fun a14 h14 => ?_
 refine nsr ?_
 refine sv h14 (ex_loads (by kernel_rfl) (by kernel_rfl) (h14.ev rfl) (S12.cellsAll (i := 2) rfl)) fun a15 h15 => ?_
 refine na (.agg #[.int .i64 0, .int .i64 0, .bool false, .bool false, .slice none 0 0, .slice none 0 0]) h15 rfl S12 fun b10 a16 X16 gb10 h16 S16 => ?_
 refine sw h16 S16 0 fun X17 S17 => ?_
 refine nsr ?_
 refine vf h16 3 3 fun a18 h18 => ?_
 refine vl h18 S17 3 fun a19 h19 => ?_
 refine mv h19 fun a20 h20 => ?_
 apply sl_or h20 S17 22 rfl 8 30
 case hf =>
  intro gc22
  refine sy h20 (fx 3 3 (h20.ev rfl)) fun a21 h21 => ?_
  refine sy h21 (lx (h21.ev rfl) (S17.cell (i := 4) rfl rfl)) fun a22 h22 => ?_
  refine sy h22 (ex_move (h22.ev rfl)) fun a23 h23 => ?_
  apply sl_and h23 S17 25 rfl 4 29
  case ht =>
   intro gc25
   refine sy h23 (fx 2 2 (h23.ev rfl)) fun a24 h24 => ?_
   refine sy h24 (lx (h24.ev rfl) (S17.cell (i := 3) rfl rfl)) fun a25 h25 => ?_
   refine sy h25 (ex_not (h25.ev rfl)) fun a26 h26 => ?_
   refine sy h26 (ex_pick_t (h26.ev rfl) gc25 (h26.ev rfl)) fun a27 h27 => ?_
   exact st_nil ⟨h27.mid (m := [(_, _), (_, _), (_, _)]) rfl, S17⟩
  case hf =>
   intro gc25
   refine no h23 fun a28 h28 => ?_
   refine no h28 fun a29 h29 => ?_
   refine no h29 fun a30 h30 => ?_
   refine sy h30 (ex_pick_f (h30.ev rfl) gc25 (h30.ev rfl)) fun a31 h31 => ?_
   exact st_nil ⟨h31.mid (m := [(_, _), (_, _), (_, _)]) rfl, S17⟩
  case h =>
   rintro a32 X32 ⟨h32, S32⟩
   refine sv h32 (ex_pick_f (h32.ev rfl) gc22 (h32.ev rfl)) fun a33 h33 => ?_
   exact st_nil ⟨h33.mid (m := [(_, _), (_, _), (_, _), (_, _)]) rfl, S32⟩
 case ht =>
  intro gc22
  refine no h20 fun a34 h34 => ?_
  refine no h34 fun a35 h35 => ?_
  refine no h35 fun a36 h36 => ?_
  refine sl_no h36 (wanted_not h36 _ rfl rfl rfl) rfl rfl fun a37 h37 => ?_
  refine sl_no h37 (wanted_not h37 _ rfl rfl rfl) rfl rfl fun a38 h38 => ?_
  refine sl_no h38 (wanted_not h38 _ rfl rfl rfl) rfl rfl fun a39 h39 => ?_
  refine no h39 fun a40 h40 => ?_
  refine sv h40 (ex_pick_t (h40.ev rfl) gc22 (h40.ev rfl)) fun a41 h41 => ?_
  exact st_nil ⟨h41.mid (m := [(_, _), (_, _), (_, _), (_, _), (_, _), (_, _), (_, _)]) rfl, S17⟩
 case h =>
  rintro a42 X42 ⟨h42, S42⟩
  refine vf h42 3 3 fun a43 h43 => ?_
  refine sl_store h43 (wn rfl) ⟨rfl, rfl⟩ (h43.ev rfl) (h43.ev rfl) rfl (by kernel_rfl) S42 (i := 0) rfl rfl rfl fun X44 S44 => ?_
  rw [show ((wnD o g).he || (d.he && !(wnD o g).pr)) = d.he from (by show (false || (d.he && !false)) = d.he; cases d.he <;> rfl)] at S44
  refine st_nil (go_then (st_seq ?_))
  apply dr_flowM h43 (fun _ => False) [] [] [false, false, false, false, false, false, false, true, false, false, false, false, false, false, false, true, false] _ (by kernel_rfl) all0
  case h =>
   refine qv h43 (fun X hX => ex_move (h43.ev rfl)) fun a45 h45 => ?_
   refine qv h45 (fun X hX => fx 4 4 (h45.ev rfl)) fun a46 h46 => ?_
   refine qv h46 (fun X hX => lx (h46.ev rfl) ((S44.grow (Grw.below hX)).cell (i := 3) rfl rfl)) fun a47 h47 => ?_
   refine qv h47 (fun X hX => fx 4 4 (h47.ev rfl)) fun a48 h48 => ?_
   refine qv h48 (fun X hX => lx (h48.ev rfl) ((S44.grow (Grw.below hX)).cell (i := 4) rfl rfl)) fun a49 h49 => ?_
   refine qv h49 (fun X hX => fx 2 2 (h49.ev rfl)) fun a50 h50 => ?_
   refine qv h50 (fun X hX => lx (h50.ev rfl) ((S44.grow (Grw.below hX)).cell (i := 3) rfl rfl)) fun a51 h51 => ?_
   refine qv h51 (fun X hX => ex_move (h51.ev rfl)) fun a52 h52 => ?_
   refine qv h52 (fun X hX => fx 5 5 (h52.ev rfl)) fun a53 h53 => ?_
   refine qv h53 (fun X hX => lx (h53.ev rfl) ((S44.grow (Grw.below hX)).cell (i := 3) rfl rfl)) fun a54 h54 => ?_
   refine qv h54 (fun X hX => fx 5 5 (h54.ev rfl)) fun a55 h55 => ?_
   refine qv h55 (fun X hX => lx (h55.ev rfl) ((S44.grow (Grw.below hX)).cell (i := 4) rfl rfl)) fun a56 h56 => ?_
   refine qv h56 (fun X hX => fx 2 2 (h56.ev rfl)) fun a57 h57 => ?_
   refine qv h57 (fun X hX => lx (h57.ev rfl) ((S44.grow (Grw.below hX)).cell (i := 3) rfl rfl)) fun a58 h58 => ?_
   refine qv h58 (fun X hX => fx 4 4 (h58.ev rfl)) fun a59 h59 => ?_
   refine sq_nil ?_
   apply nm_step (O := (fun _ => False)) (k := 7) (deps := []) (R := TelJ (slS (ihG dir o g d.es)) (OwS (ihG dir o g d.es) X44.heap.size)) h59 rfl rfl rfl all0 (TelJ.stable OwS.grow) all0 all0
   case hx => exact fun X hX hΦ => lv_telj (ex_callv (fun _ _ => by kernel_rfl) (h59.ev rfl) (h59.evs rfl) rfl) (inhA_ow dir o g d.es A1 c1 b8 X44.heap.size _ hX.size hL1 hf1 ho hg ((S44.grow (Grw.below hX)).at_ (i := 1) rfl) ((S44.grow (Grw.below hX)).rd0 hr1))
   intro v39 a39 h39
   apply nm_step (O := (fun _ => False)) (k := 15) (deps := []) (R := TelJ (slS (ihG dir o g d.us)) (OwS (ihG dir o g d.us) X44.heap.size)) h39 rfl rfl rfl all0 (TelJ.stable OwS.grow) all0 all0
   case hx => exact fun X hX hΦ => lv_telj (ex_callv (fun _ _ => by kernel_rfl) (h39.ev rfl) (h39.evs rfl) rfl) (inhA_ow dir o g d.us A2 c2 b8 X44.heap.size _ hX.size hL2 hf2 ho hg ((S44.grow (Grw.below hX)).at_ (i := 1) rfl) ((S44.grow (Grw.below hX)).rd0 hr2))
   intro v47 a60 h60
   refine nm_end (O := (fun _ => False)) all0 fun X60 hX9 hΦ9 => ?_
   obtain ⟨⟨⟨z1, B1, k1⟩, hz1⟩, rfl, q1⟩ := told_all hΦ9 (k := 7) rfl
   obtain ⟨⟨⟨z2, B2, k2⟩, hz2⟩, rfl, q2⟩ := told_all hΦ9 (k := 15) rfl
   have S60 := S44.add (Grw.below hX9) (e := row2E 111 4 (.slice B1 (ihG dir o g d.es).length k1) (ihG dir o g d.es).length (acesV z1) (.slice B2 (ihG dir o g d.us).length k2) (ihG dir o g d.us).length (acesV z2)) ⟨ownsRow_mono q1 (Nat.zero_le _), ownsRow_mono q2 (Nat.zero_le _)⟩ (fun k hk => hk.elim (fun hk => q1.lt k hk) (fun hk => q2.lt k hk))
   refine sl_store h60 (wn rfl) ⟨rfl, rfl⟩ (h60.ev rfl) (h60.ev rfl) rfl (by kernel_rfl) S60 (i := 1) rfl rfl rfl fun X61 S61 => ?_
   refine vf h60 5 5 fun a62 h62 => ?_
   refine sl_store h62 (wn rfl) ⟨rfl, rfl⟩ (h62.ev rfl) (h62.ev rfl) rfl (by kernel_rfl) S61 (i := 1) rfl rfl rfl fun X63 S63 => ?_
   refine st_nil (go_then (st_seq (st_seq ?_)))
   apply dr_flow h62 [false, false, false, false, false] _ (by kernel_rfl)
   case h =>
    refine qv h62 (fun X hX => fx 4 4 (h62.ev rfl)) fun a64 h64 => ?_
    refine qv h64 (fun X hX => lx (h64.ev rfl) ((S63.grow hX).cell (i := 1) rfl rfl)) fun a65 h65 => ?_
    refine sq_bel h65 (wn rfl) rfl rfl (fun X => (ex_call (fun _ _ => by kernel_rfl) (h65.evs rfl) rfl)) (fun X hX => full_any _ _ _ _) fun a66 h66 => ?_
    refine qv h66 (fun X hX => fx 5 5 (h66.ev rfl)) fun a67 h67 => ?_
    refine qv h67 (fun X hX => lx (h67.ev rfl) ((S63.grow hX).cell (i := 1) rfl rfl)) fun a68 h68 => ?_
    refine sq_nil ?_
    refine nd_end fun X69 hX69 hΦ69 => ?_
    have S69 := S63.grow hX69
    refine sl_bel h68 (wn rfl) (ex_call (fun _ _ => by kernel_rfl) (h68.evs rfl) rfl) rfl rfl S69 (full_any _ _ _ _) fun a70 X70 h70 S70 => ?_
    refine sl_new h70 (wn rfl) (f := fun b => .slice (some ⟨b, 0, none⟩) 2 2) (ex_bslice Tryz.underlying123 (by kernel_rfl) (by kernel_rfl) (h70.evs2 rfl) rfl rfl rfl (by decide) (by decide)) rfl rfl S70 fun b56 a71 X71 gb56 h71 S71 => ?_
    refine sl_pure h71 (wn rfl) (ex_call (fun _ _ => by kernel_rfl) (h71.evs rfl) rfl) rfl rfl (acl_Bfirst2 (S71.at_ (i := 0) rfl)) fun a72 h72 => ?_
    refine ma h72 fun a73 h73 => ?_
    refine nsr ?_
    refine mv h73 fun a74 h74 => ?_
    refine sv h74 (ex_neq (h74.ev rfl) (h74.ev rfl)) fun a75 h75 => ?_
    refine st_nil (go_then ?_)
    refine st_if (h75.ev rfl) (fun hc0 => ?_) (fun hc0 => ?_)
    ·
     have hne : E ≠ 0 := by rw [hEd]; simpa using hc0
     have e1 : D = zD := by rw [hDd, if_neg hne]
     refine st_seq (st_reg ?_)
     refine sv h75 (ex_build (zs := [.int .i64 0, .int .i64 0, .bool false, .bool false, .slice none 0 0, .slice none 0 0]) (pl := [(0, 1), (1, 1), (2, 1), (3, 1), (4, 1), (5, 1)]) (by kernel_rfl) (by kernel_rfl) (h75.evs2 rfl) rfl rfl) fun a76 h76 => ?_
     refine mv h76 fun a77 h77 => ?_
     refine sw h77 S71 4 fun X78 S78 => ?_
     refine ma h77 fun a79 h79 => ?_
     refine st_nil (go_then (wp_ret (ret_then ?_)))
     refine finct h79 rfl rfl rfl S78 (i := 4) rfl (by kernel_rfl) (by kernel_rfl) ?_
     rw [e1]
     exact ⟨((none, 0), none, 0), by rw [hEd]; rfl, (S78.sub (List.nil_sublist _)).nil2 _ _⟩
    ·
     have hz : E = 0 := by rw [hEd]; simpa using hc0
     have hle := firstE_zero (show firstE [unl (decide ((ihG dir o g d.es).length ≤ 16)) 16, unl (decide ((ihG dir o g d.us).length ≤ 16)) 16] = 0 by rw [← hEd]; exact hz)
     have hle1 : (ihG dir o g d.es).length ≤ 16 := by have := hle _ (List.mem_cons_self ..); unfold unl at this; split at this; (rename_i q; exact of_decide_eq_true q); cases this
     have hle2 : (ihG dir o g d.us).length ≤ 16 := by have := hle _ (List.mem_cons_of_mem _ (List.mem_cons_self ..)); unfold unl at this; split at this; (rename_i q; exact of_decide_eq_true q); cases this
     obtain rfl : z1 = canL (ihG dir o g d.es) := hz1.2 (by omega)
     obtain rfl : z2 = canL (ihG dir o g d.us) := hz2.2 (by omega)
     have e1 : D = ⟨o, g, false, d.he, canL (ihG dir o g d.es), canL (ihG dir o g d.us)⟩ := by rw [hDd, if_pos hz]
     refine wp_skip (go_then (st_seq (st_reg ?_)))
     refine sv h75 (ex_loads (by kernel_rfl) (by kernel_rfl) (h75.ev rfl) (S71.cellsAll (i := 2) rfl)) fun a80 h80 => ?_
     refine sw h80 S71 4 fun X81 S81 => ?_
     refine ma h80 fun a82 h82 => ?_
     refine st_nil (go_then (wp_ret ?_))
     refine finct h82 rfl rfl rfl S81 (i := 4) rfl (by kernel_rfl) (by kernel_rfl) ?_
     rw [e1, hz]
     refine ⟨((B1, k1), B2, k2), ?_, ?_⟩
     · show _ = Ending.returned (.tuple #[.agg #[.int .i64 o, .int .i64 g, .bool false, .bool d.he, .slice B1 (canL (ihG dir o g d.es)).length k1, .slice B2 (canL (ihG dir o g d.us)).length k2], .int .i64 0])
       rw [canL_len, canL_len]; rfl
     · dsimp only
       rw [canL_len, canL_len]; exact (S81.sub (.cons _ (.cons_cons _ (.cons _ (.cons _ (.cons _ (.cons _ (.cons _ .slnil))))))))
   case hB => kernel_rfl
   case hst => rfl
  case hB => kernel_rfl
end Go.Proofs.YtanicpgmbhfipaaGreatDoor
