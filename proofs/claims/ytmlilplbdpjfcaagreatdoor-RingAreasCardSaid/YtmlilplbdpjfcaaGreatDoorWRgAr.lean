/-
  RingAreas: the walk.
-/
import Derived.Test.YtmlilplbdpjfcaaGreatDoorRg28
import Derived.Test.YtmlilplbdpjfcaaGreatDoorArgA
namespace Go.Proofs.YtmlilplbdpjfcaaGreatDoor
set_option linter.unusedVariables false
set_option linter.unusedSimpArgs false
set_option maxRecDepth 4000
open Go.RowKit Go.Sort
theorem rsp_ok {x : RstP} {pg : Int} (h1 : rstE x = 0) (h2 : pgsE pg = 0) : rsoE (rsL x pg) pg = 0 ∧ rsoR (rsL x pg) pg = x := by
  have hrb := (unl_zero (by decide)).1 h1
  have hb := rstB_bd hrb
  have hpg := inB_true.1 ((unl_zero (by decide)).1 h2)
  have hl := rsH_length x pg
  have hlen : (rsL x pg).length = 512 := prL_length hl _
  have hop : opB (rsL x pg) = true := op_pr_ok hl (by omega) (by omega)
  have hoe : opL (rsL x pg) = rsH x pg := op_pr hl fun i h3 h4 => rsH_zero x pg i (by omega)
  have key : rsoV (rsH x pg) = x := by
    have e8 : nAt (rsH x pg) 8 4 = x.s := by
      have e : rsH x pg = ([82, 83, 84, 82] ++ zerosL 4) ++ (lit x.s 4 ++ (lit x.c 4 ++ (lit x.o 4 ++ (lit pg 2 ++ zerosL 490)))) := by unfold rsH; simp only [List.append_assoc]
      have h := nAt_app ([82, 83, 84, 82] ++ zerosL 4) (lit x.s 4) (lit x.c 4 ++ (lit x.o 4 ++ (lit pg 2 ++ zerosL 490)))
      rw [lit_length, ← e] at h
      exact h.trans (by rw [num_lit]; omega)
    have e12 : nAt (rsH x pg) 12 4 = x.c := by
      have e : rsH x pg = ([82, 83, 84, 82] ++ (zerosL 4 ++ lit x.s 4)) ++ (lit x.c 4 ++ (lit x.o 4 ++ (lit pg 2 ++ zerosL 490))) := by unfold rsH; simp only [List.append_assoc]
      have h := nAt_app ([82, 83, 84, 82] ++ (zerosL 4 ++ lit x.s 4)) (lit x.c 4) (lit x.o 4 ++ (lit pg 2 ++ zerosL 490))
      rw [lit_length, ← e] at h
      exact h.trans (by rw [num_lit]; omega)
    have e16 : nAt (rsH x pg) 16 4 = x.o := by
      have e : rsH x pg = ([82, 83, 84, 82] ++ (zerosL 4 ++ (lit x.s 4 ++ lit x.c 4))) ++ (lit x.o 4 ++ (lit pg 2 ++ zerosL 490)) := by unfold rsH; simp only [List.append_assoc]
      have h := nAt_app ([82, 83, 84, 82] ++ (zerosL 4 ++ (lit x.s 4 ++ lit x.c 4))) (lit x.o 4) (lit pg 2 ++ zerosL 490)
      rw [lit_length, ← e] at h
      exact h.trans (by rw [num_lit]; omega)
    unfold rsoV
    rw [e8, e12, e16]
  have hE : rsoE (rsL x pg) pg = 0 := by
    unfold rsoE
    rw [if_neg (by simpa using hlen), if_neg (by simpa using h2), if_neg (by rw [hop]; decide), hoe, key, if_neg (by simpa using h1), if_neg (by simp)]
  refine ⟨hE, ?_⟩
  unfold rsoR
  rw [if_pos hE, hoe, key]
theorem RingAreas_any (x : RstP) (hx : RstI x) (pg : Int) (hpg : (Lit.int .i64 pg).wf = true) (s : ByteArray) (hs : s.size ≤ maxLen) (w : World) :
    Calls Tryz.prog 7 #[rstV x, .int .i64 pg, .string s] w fun e w' => e = .returned (.bool true) ∧ Below w.heap.size w w' := by
  obtain ⟨l, rfl⟩ : ∃ l, s = bs l := ⟨bl s, (bs_bl s).symm⟩
  have hsz := bs_size l
  refine st_enter (N := 85) Tryz.func7 rfl rfl rfl (fun a0 h0 => ?_)
  have S0 := St.init w
  refine st_seq ?_
  refine st_reg ?_
  refine sl_new h0 (wanted_none _ _ rfl) (f := fun b => .pointer (some ⟨b, 0, none⟩)) (ex_box (h0.ev rfl)) rfl rfl S0 fun b3 a1 X1 gb3 h1 S1 => ?_
  refine sl_val h1 (wanted_none _ _ rfl) (ex_assign (h1.ev rfl)) rfl rfl fun a2 h2 => ?_
  refine st_nil ?_
  refine go_then ?_
  refine st_seq ?_
  refine st_seq ?_
  refine st_reg ?_
  refine sl_bel h2 (wanted_none _ _ rfl) (ex_call (fun _ _ => by kernel_rfl) (h2.evs rfl) rfl) rfl rfl S1 (awake_any _) fun a3 X3 h3 S3 => ?_
  refine sl_val h3 (wanted_none _ _ rfl) (ex_not (h3.ev rfl)) rfl rfl fun a4 h4 => ?_
  refine st_nil ?_
  refine go_then ?_
  refine st_if_f (h4.ev rfl) (rfl) ?_
  refine wp_skip ?_
  refine go_then ?_
  refine st_seq ?_
  refine st_seq ?_
  refine st_reg ?_
  refine sl_val h4 (wanted_none _ _ rfl) (ex_move (h4.ev rfl)) rfl rfl fun a5 h5 => ?_
  refine sl_val h5 (wanted_none _ _ rfl) (ex_slen Tryz.underlying9 (h5.ev rfl)) rfl rfl fun a6 h6 => ?_
  refine sl_val h6 (wanted_none _ _ rfl) (ex_gtr (h6.ev rfl) (h6.ev rfl)) rfl rfl fun a7 h7 => ?_
  refine st_nil ?_
  refine go_then ?_
  refine st_if (h7.ev rfl) (fun hc1 => ?_) (fun hc1 => ?_)
  · skip
    refine st_seq ?_
    refine st_reg ?_
    refine sl_val h7 (wanted_none _ _ rfl) (ex_assign (h7.ev rfl)) rfl rfl fun a8 h8 => ?_
    refine st_nil ?_
    refine go_then ?_
    refine wp_ret ?_
    refine ret_then ?_
    refine fin1 h8 rfl rfl ?_
    exact ⟨rfl, S3.below⟩
  · skip
    have hl : l.length ≤ 513 := by have := of_decide_eq_false hc1; omega
    refine wp_skip ?_
    refine go_then ?_
    refine st_seq ?_
    refine st_reg ?_
    refine sl_val (v := rstV x) h7 (wanted_none _ _ rfl) (ex_loads (by kernel_rfl) (by kernel_rfl) (h7.ev rfl) (S3.cellsAll (i := 0) rfl)) rfl rfl fun a9 h9 => ?_
    refine sl_val h9 (wanted_none _ _ rfl) (ex_move (h9.ev rfl)) rfl rfl fun a10 h10 => ?_
    refine sl_bel h10 (wanted_none _ _ rfl) (ex_call (fun _ _ => by kernel_rfl) (h10.evs rfl) rfl) rfl rfl S3 (RestartPage_any x pg _) fun a11 X11 h11 S11 => ?_
    refine sl_val h11 (wanted_none _ _ rfl) (ex_move (h11.ev rfl)) rfl rfl fun a12 h12 => ?_
    refine sl_val h12 (wanted_none _ _ rfl) (ex_extract (h12.ev rfl) rfl) rfl rfl fun a13 h13 => ?_
    refine sl_val h13 (wanted_none _ _ rfl) (ex_extract (h13.ev rfl) rfl) rfl rfl fun a14 h14 => ?_
    refine sl_val h14 (wanted_none _ _ rfl) (ex_assign (h14.ev rfl)) rfl rfl fun a15 h15 => ?_
    refine sl_val h15 (wanted_none _ _ rfl) (ex_assign (h15.ev rfl)) rfl rfl fun a16 h16 => ?_
    refine st_nil ?_
    refine go_then ?_
    refine st_seq ?_
    refine st_reg ?_
    refine sl_val h16 (wanted_none _ _ rfl) (ex_move (h16.ev rfl)) rfl rfl fun a17 h17 => ?_
    refine sl_val h17 (wanted_none _ _ rfl) (ex_move (h17.ev rfl)) rfl rfl fun a18 h18 => ?_
    refine sl_bel h18 (wanted_none _ _ rfl) (ex_call (fun _ _ => by kernel_rfl) (h18.evs rfl) rfl) rfl rfl S11 (rso_l l pg _ (by omega)) fun a19 X19 h19 S19 => ?_
    refine sl_val h19 (wanted_none _ _ rfl) (ex_move (h19.ev rfl)) rfl rfl fun a20 h20 => ?_
    refine sl_val h20 (wanted_none _ _ rfl) (ex_extract (h20.ev rfl) rfl) rfl rfl fun a21 h21 => ?_
    refine sl_val h21 (wanted_none _ _ rfl) (ex_extract (h21.ev rfl) rfl) rfl rfl fun a22 h22 => ?_
    refine sl_new h22 (wanted_none _ _ rfl) (f := fun b => .pointer (some ⟨b, 0, none⟩)) (ex_alloc (z := .agg #[.int .i64 0, .int .i64 0, .int .i64 0]) (by kernel_rfl)) rfl rfl S19 fun b9 a23 X23 gb9 h23 S23 => ?_
    refine sl_store0 h23 (wanted_none _ _ rfl) ⟨rfl, rfl⟩ (h23.ev rfl) (h23.ev rfl) rfl (by kernel_rfl) S23 (i := 0) rfl rfl rfl fun X24 S24 => ?_
    refine sl_val h23 (wanted_none _ _ rfl) (ex_assign (h23.ev rfl)) rfl rfl fun a25 h25 => ?_
    refine st_nil ?_
    refine go_then ?_
    refine st_seq ?_
    refine st_reg ?_
    refine sl_val h25 (wanted_none _ _ rfl) (ex_move (h25.ev rfl)) rfl rfl fun a26 h26 => ?_
    refine sl_val h26 (wanted_none _ _ rfl) (ex_move (h26.ev rfl)) rfl rfl fun a27 h27 => ?_
    refine sl_bel h27 (wanted_none _ _ rfl) (ex_call (fun _ _ => by kernel_rfl) (h27.evs rfl) rfl) rfl rfl S24 (rRestartOf_any l pg _ (by omega)) fun a28 X28 h28 S28 => ?_
    refine sl_val h28 (wanted_none _ _ rfl) (ex_move (h28.ev rfl)) rfl rfl fun a29 h29 => ?_
    refine sl_val h29 (wanted_none _ _ rfl) (ex_extract (h29.ev rfl) rfl) rfl rfl fun a30 h30 => ?_
    refine sl_val h30 (wanted_none _ _ rfl) (ex_extract (h30.ev rfl) rfl) rfl rfl fun a31 h31 => ?_
    refine sl_new h31 (wanted_none _ _ rfl) (f := fun b => .pointer (some ⟨b, 0, none⟩)) (ex_alloc (z := .agg #[.int .i64 0, .int .i64 0, .int .i64 0]) (by kernel_rfl)) rfl rfl S28 fun b11 a32 X32 gb11 h32 S32 => ?_
    refine sl_store0 h32 (wanted_none _ _ rfl) ⟨rfl, rfl⟩ (h32.ev rfl) (h32.ev rfl) rfl (by kernel_rfl) S32 (i := 0) rfl rfl rfl fun X33 S33 => ?_
    refine sl_val h32 (wanted_none _ _ rfl) (ex_assign (h32.ev rfl)) rfl rfl fun a34 h34 => ?_
    refine st_nil ?_
    refine go_then ?_
    refine st_seq ?_
    refine st_seq ?_
    refine st_reg ?_
    refine sl_val h34 (wanted_none _ _ rfl) (ex_move (h34.ev rfl)) rfl rfl fun a35 h35 => ?_
    refine sl_val h35 (wanted_none _ _ rfl) (ex_move (h35.ev rfl)) rfl rfl fun a36 h36 => ?_
    refine sl_val h36 (wanted_none _ _ rfl) (ex_neq (h36.ev rfl) (h36.ev rfl)) rfl rfl fun a37 h37 => ?_
    refine sl_val h37 (wanted_none _ _ rfl) (ex_move (h37.ev rfl)) rfl rfl fun a38 h38 => ?_
    apply sl_or h38 S33 41 rfl 4 45
    case hf =>
      intro gc41
      refine sl_val (v := rstV (rsoR l pg)) h38 (wanted_yes h38 _ rfl rfl rfl gc41) (ex_loads (by kernel_rfl) (by kernel_rfl) (h38.ev rfl) (S33.cellsAll (i := 1) rfl)) rfl rfl fun a39 h39 => ?_
      refine sl_val (v := rstV (rsoR l pg)) h39 (wanted_yes h39 _ rfl rfl rfl gc41) (ex_loads (by kernel_rfl) (by kernel_rfl) (h39.ev rfl) (S33.cellsAll (i := 0) rfl)) rfl rfl fun a40 h40 => ?_
      refine sl_val h40 (wanted_yes h40 _ rfl rfl rfl gc41) (ex_tneq (ks := [.i .i64, .i .i64, .i .i64]) (by kernel_rfl) Tryz.underlying23 (by kernel_rfl) (h40.ev rfl) (h40.ev rfl) rfl rfl) rfl rfl fun a41 h41 => ?_
      refine sl_val h41 (wanted_none _ _ rfl) (ex_pick_f (h41.ev rfl) gc41 (h41.ev rfl)) rfl rfl fun a42 h42 => ?_
      exact st_nil ⟨h42.mid (m := [(_, _), (_, _), (_, _)]) rfl, S33⟩
    case ht =>
      intro gc41
      refine sl_no h38 (wanted_no h38 _ rfl rfl rfl gc41) rfl rfl fun a43 h43 => ?_
      refine sl_no h43 (wanted_no h43 _ rfl rfl rfl gc41) rfl rfl fun a44 h44 => ?_
      refine sl_no h44 (wanted_no h44 _ rfl rfl rfl gc41) rfl rfl fun a45 h45 => ?_
      refine sl_val h45 (wanted_none _ _ rfl) (ex_pick_t (h45.ev rfl) gc41 (h45.ev rfl)) rfl rfl fun a46 h46 => ?_
      exact st_nil ⟨h46.mid (m := [(_, _), (_, _), (_, _)]) rfl, S33⟩
    case h =>
      rintro a47 X47 ⟨h47, S47⟩
      refine st_nil ?_
      refine go_then ?_
      refine st_if_f (h47.ev rfl) ((by
    have e1 : eqL [.int .i64 (rsoR l pg).s, .int .i64 (rsoR l pg).c, .int .i64 (rsoR l pg).o] [.int .i64 (rsoR l pg).s, .int .i64 (rsoR l pg).c, .int .i64 (rsoR l pg).o] = true := by rw [rst_eqL]; simp
    show ((rsoE l pg != rsoE l pg) || !eqL [.int .i64 (rsoR l pg).s, .int .i64 (rsoR l pg).c, .int .i64 (rsoR l pg).o] [.int .i64 (rsoR l pg).s, .int .i64 (rsoR l pg).c, .int .i64 (rsoR l pg).o]) = false
    rw [e1]; simp)) ?_
      refine wp_skip ?_
      refine go_then ?_
      refine st_seq ?_
      refine st_reg ?_
      refine sl_val (v := rstV x) h47 (wanted_none _ _ rfl) (ex_loads (by kernel_rfl) (by kernel_rfl) (h47.ev rfl) (S47.cellsAll (i := 2) rfl)) rfl rfl fun a48 h48 => ?_
      refine sl_bel h48 (wanted_none _ _ rfl) (ex_call (fun _ _ => by kernel_rfl) (h48.evs rfl) rfl) rfl rfl S47 (rRestartErr_any x _) fun a49 X49 h49 S49 => ?_
      refine sl_val h49 (wanted_none _ _ rfl) (ex_assign (h49.ev rfl)) rfl rfl fun a50 h50 => ?_
      refine st_nil ?_
      refine go_then ?_
      refine st_seq ?_
      refine st_seq ?_
      refine st_reg ?_
      refine sl_val h50 (wanted_none _ _ rfl) (ex_move (h50.ev rfl)) rfl rfl fun a51 h51 => ?_
      refine sl_val h51 (wanted_none _ _ rfl) (ex_eql (h51.ev rfl) (h51.ev rfl)) rfl rfl fun a52 h52 => ?_
      refine st_nil ?_
      refine go_then ?_
      refine st_joinH h52 S49 [(12, .int .i64 (rspE x pg))] [8, 7, 6, 3, 1] ?_ (fun a53 X53 h53 S53 => ?_)
      · skip
        refine st_if (h52.ev rfl) (fun hc3 => ?_) (fun hc3 => ?_)
        · skip
          have he : rspE x pg = pgsE pg := by
            unfold rspE
            rw [firstE_c, if_pos (eq_of_beq hc3), firstE_c]
            split
            · rename_i h; rw [h]; rfl
            · rfl
          refine st_reg ?_
          refine sl_val h52 (wanted_none _ _ rfl) (ex_move (h52.ev rfl)) rfl rfl fun a54 h54 => ?_
          refine sl_pure h54 (wanted_none _ _ rfl) (ex_call (fun _ _ => by kernel_rfl) (h54.evs rfl) rfl) rfl rfl (rPagesErr_any _ _) fun a55 h55 => ?_
          refine sl_val h55 (wanted_none _ _ rfl) (ex_assign (h55.ev rfl)) rfl rfl fun a56 h56 => ?_
          refine st_nil ?_
          refine go_then ?_
          rw [← he] at h56
          exact ⟨h56.re ⟨rfl, rfl, rfl, rfl, rfl, rfl, trivial⟩, S49⟩
        · skip
          have he : rspE x pg = rstE x := by
            unfold rspE
            rw [firstE_c, if_neg (by simpa using hc3)]
          rw [← he] at h52
          refine wp_skip ?_
          refine go_then ?_
          exact ⟨h52.re ⟨rfl, rfl, rfl, rfl, rfl, rfl, trivial⟩, S49⟩
      · skip
        refine go_then ?_
        refine st_seq ?_
        refine st_seq ?_
        refine st_reg ?_
        refine sl_val h53 (wanted_none _ _ rfl) (ex_move (h53.ev rfl)) rfl rfl fun a57 h57 => ?_
        refine sl_val h57 (wanted_none _ _ rfl) (ex_neq (h57.ev rfl) (h57.ev rfl)) rfl rfl fun a58 h58 => ?_
        refine st_nil ?_
        refine go_then ?_
        refine st_if (h58.ev rfl) (fun hc4 => ?_) (fun hc4 => ?_)
        · skip
          have hne : ¬ rspE x pg = 0 := by simpa using hc4
          rw [if_neg hne] at h58
          refine st_seq ?_
          refine st_reg ?_
          refine sl_val h58 (wanted_none _ _ rfl) (ex_move (h58.ev rfl)) rfl rfl fun a59 h59 => ?_
          refine sl_val h59 (wanted_none _ _ rfl) (ex_move (h59.ev rfl)) rfl rfl fun a60 h60 => ?_
          refine sl_val h60 (wanted_none _ _ rfl) (ex_eql (h60.ev rfl) (h60.ev rfl)) rfl rfl fun a61 h61 => ?_
          refine sl_val h61 (wanted_none _ _ rfl) (ex_move (h61.ev rfl)) rfl rfl fun a62 h62 => ?_
          refine sl_val h62 (wanted_yes h62 _ rfl rfl rfl ((by simp))) (ex_move (h62.ev rfl)) rfl rfl fun a63 h63 => ?_
          refine sl_val h63 (wanted_yes h63 _ rfl rfl rfl ((by simp))) (ex_seql (h63.ev rfl) (h63.ev rfl)) rfl rfl fun a64 h64 => ?_
          refine sl_val h64 (wanted_none _ _ rfl) (ex_pick_t (h64.ev rfl) ((by simp)) (h64.ev rfl)) rfl rfl fun a65 h65 => ?_
          refine sl_val h65 (wanted_none _ _ rfl) (ex_assign (h65.ev rfl)) rfl rfl fun a66 h66 => ?_
          refine st_nil ?_
          refine go_then ?_
          refine wp_ret ?_
          refine ret_then ?_
          refine fin1 h66 rfl rfl ?_
          exact ⟨by simp, S53.below⟩
        · skip
          have hz : rspE x pg = 0 := by simpa using hc4
          have hz2 : rstE x = 0 ∧ pgsE pg = 0 := by
            unfold rspE at hz
            rw [firstE_zero] at hz
            exact ⟨hz _ (by simp), hz _ (by simp)⟩
          have hb := rstB_bd ((unl_zero (by decide)).1 hz2.1)
          have hpgb := inB_true.1 ((unl_zero (by decide)).1 hz2.2)
          obtain ⟨hk1, hk2⟩ := rsp_ok hz2.1 hz2.2
          have hlr : (rsL x pg).length = 512 := prL_length (rsH_length x pg) _
          have hro : ∀ w, Calls Tryz.prog 36 #[.string (bs (rsL x pg)), .int .i64 pg] w fun e w' => e = .returned (.tuple #[rstV x, .int .i64 0]) ∧ Below w.heap.size w w' := fun w => by
            have h := rso_l (rsL x pg) pg w (by omega)
            rw [hk1, hk2] at h; exact h
          rw [if_pos hz, hz] at h58
          refine wp_skip ?_
          refine go_then ?_
          refine st_seq ?_
          refine st_reg ?_
          refine sl_val h58 (wanted_none _ _ rfl) (ex_move (h58.ev rfl)) rfl rfl fun a67 h67 => ?_
          refine sl_val h67 (wanted_none _ _ rfl) (ex_move (h67.ev rfl)) rfl rfl fun a68 h68 => ?_
          refine sl_bel h68 (wanted_none _ _ rfl) (ex_call (fun _ _ => by kernel_rfl) (h68.evs rfl) rfl) rfl rfl S53 (hro _) fun a69 X69 h69 S69 => ?_
          refine sl_val h69 (wanted_none _ _ rfl) (ex_move (h69.ev rfl)) rfl rfl fun a70 h70 => ?_
          refine sl_val h70 (wanted_none _ _ rfl) (ex_extract (h70.ev rfl) rfl) rfl rfl fun a71 h71 => ?_
          refine sl_val h71 (wanted_none _ _ rfl) (ex_extract (h71.ev rfl) rfl) rfl rfl fun a72 h72 => ?_
          refine sl_new h72 (wanted_none _ _ rfl) (f := fun b => .pointer (some ⟨b, 0, none⟩)) (ex_alloc (z := .agg #[.int .i64 0, .int .i64 0, .int .i64 0]) (by kernel_rfl)) rfl rfl S69 fun b13 a73 X73 gb13 h73 S73 => ?_
          refine sl_store0 h73 (wanted_none _ _ rfl) ⟨rfl, rfl⟩ (h73.ev rfl) (h73.ev rfl) rfl (by kernel_rfl) S73 (i := 0) rfl rfl rfl fun X74 S74 => ?_
          refine sl_val h73 (wanted_none _ _ rfl) (ex_assign (h73.ev rfl)) rfl rfl fun a75 h75 => ?_
          refine st_nil ?_
          refine go_then ?_
          refine st_seq ?_
          refine st_reg ?_
          refine sl_val h75 (wanted_none _ _ rfl) (ex_move (h75.ev rfl)) rfl rfl fun a76 h76 => ?_
          refine sl_val h76 (wanted_none _ _ rfl) (ex_eql (h76.ev rfl) (h76.ev rfl)) rfl rfl fun a77 h77 => ?_
          refine sl_val h77 (wanted_none _ _ rfl) (ex_move (h77.ev rfl)) rfl rfl fun a78 h78 => ?_
          refine sl_val h78 (wanted_yes h78 _ rfl rfl rfl (rfl)) (ex_move (h78.ev rfl)) rfl rfl fun a79 h79 => ?_
          refine sl_val (v := rstV x) h79 (wanted_yes h79 _ rfl rfl rfl (rfl)) (ex_loads (by kernel_rfl) (by kernel_rfl) (h79.ev rfl) (S74.cellsAll (i := 3) rfl)) rfl rfl fun a80 h80 => ?_
          refine sl_val h80 (wanted_yes h80 _ rfl rfl rfl (rfl)) (ex_move (h80.ev rfl)) rfl rfl fun a81 h81 => ?_
          refine sl_bel h81 (wanted_yes h81 _ rfl rfl rfl (rfl)) (ex_call (fun _ _ => by kernel_rfl) (h81.evs rfl) rfl) rfl rfl S74 (rRestartPage_any x pg (by omega) (by omega) (by omega) (by omega) _) fun a82 X82 h82 S82 => ?_
          refine sl_val h82 (wanted_yes h82 _ rfl rfl rfl (rfl)) (ex_seql (h82.ev rfl) (h82.ev rfl)) rfl rfl fun a83 h83 => ?_
          refine sl_val h83 (wanted_none _ _ rfl) (ex_pick_t (h83.ev rfl) (rfl) (h83.ev rfl)) rfl rfl fun a84 h84 => ?_
          refine sl_val h84 (wanted_none _ _ rfl) (ex_move (h84.ev rfl)) rfl rfl fun a85 h85 => ?_
          refine sl_val h85 (wanted_yes h85 _ rfl rfl rfl ((by simp))) (ex_move (h85.ev rfl)) rfl rfl fun a86 h86 => ?_
          refine sl_val h86 (wanted_yes h86 _ rfl rfl rfl ((by simp))) (ex_eql (h86.ev rfl) (h86.ev rfl)) rfl rfl fun a87 h87 => ?_
          refine sl_val h87 (wanted_none _ _ rfl) (ex_pick_t (h87.ev rfl) ((by simp)) (h87.ev rfl)) rfl rfl fun a88 h88 => ?_
          refine sl_val h88 (wanted_none _ _ rfl) (ex_move (h88.ev rfl)) rfl rfl fun a89 h89 => ?_
          refine sl_val (v := rstV x) h89 (wanted_yes h89 _ rfl rfl rfl (rfl)) (ex_loads (by kernel_rfl) (by kernel_rfl) (h89.ev rfl) (S82.cellsAll (i := 0) rfl)) rfl rfl fun a90 h90 => ?_
          refine sl_val (v := rstV x) h90 (wanted_yes h90 _ rfl rfl rfl (rfl)) (ex_loads (by kernel_rfl) (by kernel_rfl) (h90.ev rfl) (S82.cellsAll (i := 3) rfl)) rfl rfl fun a91 h91 => ?_
          refine sl_val h91 (wanted_yes h91 _ rfl rfl rfl (rfl)) (ex_teql (ks := [.i .i64, .i .i64, .i .i64]) (by kernel_rfl) Tryz.underlying23 (by kernel_rfl) (h91.ev rfl) (h91.ev rfl) rfl rfl) rfl rfl fun a92 h92 => ?_
          refine sl_val h92 (wanted_none _ _ rfl) (ex_pick_t (h92.ev rfl) (rfl) (h92.ev rfl)) rfl rfl fun a93 h93 => ?_
          refine sl_val h93 (wanted_none _ _ rfl) (ex_assign (h93.ev rfl)) rfl rfl fun a94 h94 => ?_
          refine st_nil ?_
          refine go_then ?_
          refine wp_ret ?_
          refine fin1 h94 rfl rfl ?_
          refine ⟨?_, S82.below⟩
          have e1 : eqL [.int .i64 x.s, .int .i64 x.c, .int .i64 x.o] [.int .i64 x.s, .int .i64 x.c, .int .i64 x.o] = true := by rw [rst_eqL]; simp
          show Ending.returned (Value.bool (eqL [.int .i64 x.s, .int .i64 x.c, .int .i64 x.o] [.int .i64 x.s, .int .i64 x.c, .int .i64 x.o])) = _
          rw [e1]
end Go.Proofs.YtmlilplbdpjfcaaGreatDoor
