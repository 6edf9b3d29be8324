/-
  Chapter 20: the log that is read, the reference's way.
-/
import Derived.Test.YtmlilplbdpjfcaaGreatDoorRg32
namespace Go.Proofs.YtmlilplbdpjfcaaGreatDoor
set_option linter.unusedVariables false
set_option linter.unusedSimpArgs false
set_option maxRecDepth 4000
open Go.RowKit Go.Sort
attribute [local irreducible] nAt opL opB
theorem ars_nn (s : List UInt8) (pg : Int) : 0 ≤ (rsoR s pg).s := by
  unfold rsoR
  split
  · exact (nAt_bd _ _ _).1
  · exact Int.le_refl _
set_option maxHeartbeats 2000000 in
theorem rIn_l (s : List UInt8) (w : World) (hl : s.length ≤ 1000000) :
    Calls Tryz.prog 23 #[.string (bs s)] w fun e w' => ∃ A c, e = .returned (.tuple #[ringV (inR s) A c, .int .i64 (inE s)]) ∧ w'.ownsRow w.heap.size 98 3 (.slice A (inR s).rs.length c) (inR s).rs.length (recsV (inR s).rs) ∧ Below w.heap.size w w' := by
  have hsz : (bs s).size = s.length := bs_size s
  refine st_enter (N := 213) Tryz.func23 rfl rfl rfl (fun a0 h0 => ?_)
  have S0 := St.init w
  refine st_seq (st_reg ?_)
  refine sl_new h0 (wn rfl) (f := fun b => .pointer (some ⟨b, 0, none⟩)) (ex_alloc (z := .agg #[.int .i64 0, .int .i64 0, .int .i64 0, .int .i64 0, .int .i64 0, .int .i64 0, .int .i64 0, .slice none 0 0, .int .i64 0]) (by kernel_rfl)) rfl rfl S0 fun b2 a1 X1 gb2 h1 S1 => ?_
  refine ma h1 rfl rfl fun a2 h2 => ?_
  refine st_nil (go_then (st_seq (st_reg ?_)))
  refine sl_val h2 (wn rfl) (ex_build (zs := [.int .i64 0, .int .i64 0, .int .i64 0, .int .i64 0, .int .i64 0, .int .i64 0, .int .i64 0, .slice none 0 0, .int .i64 0]) (pl := [(0, 1), (1, 3), (4, 3), (7, 1), (8, 1)]) (by kernel_rfl) (by kernel_rfl) (h2.evs2 rfl) rfl rfl) rfl rfl fun a3 h3 => ?_
  refine sl_new h3 (wn rfl) (f := fun b => .pointer (some ⟨b, 0, none⟩)) (ex_alloc (z := .agg #[.int .i64 0, .int .i64 0, .int .i64 0, .int .i64 0, .int .i64 0, .int .i64 0, .int .i64 0, .slice none 0 0, .int .i64 0]) (by kernel_rfl)) rfl rfl S1 fun b4 a4 X4 gb4 h4 S4 => ?_
  refine sl_store0 h4 (wn rfl) ⟨rfl, rfl⟩ (h4.ev rfl) (h4.ev rfl) rfl (by kernel_rfl) S4 (i := 0) rfl rfl rfl fun X5 S5 => ?_
  refine st_nil (go_then (st_seq (st_reg ?_)))
  refine mv h4 rfl rfl fun a6 h6 => ?_
  refine sl_val h6 (wn rfl) (ex_slen Tryz.underlying9 (h6.ev rfl)) rfl rfl fun a7 h7 => ?_
  refine sl_val h7 (wn rfl) (ex_quo (h7.ev rfl) (h7.ev rfl) (by omega)) rfl rfl fun a8 h8 => ?_
  refine ma h8 rfl rfl fun a9 h9 => ?_
  refine st_nil (go_then (st_seq (st_seq (st_reg ?_))))
  refine mv h9 rfl rfl fun a10 h10 => ?_
  refine sl_val h10 (wn rfl) (ex_slen Tryz.underlying9 (h10.ev rfl)) rfl rfl fun a11 h11 => ?_
  refine sl_val h11 (wn rfl) (ex_rem (h11.ev rfl) (h11.ev rfl) (by omega)) rfl rfl fun a12 h12 => ?_
  refine sl_val h12 (wn rfl) (ex_neq (h12.ev rfl) (h12.ev rfl)) rfl rfl fun a13 h13 => ?_
  refine mv h13 rfl rfl fun a14 h14 => ?_
  apply sl_or h14 S5 30 rfl 4 34
  case hf =>
   intro gc30
   refine sl_val h14 (wanted_yes h14 _ rfl rfl rfl gc30) (ex_move (h14.ev rfl)) rfl rfl fun a15 h15 => ?_
   refine sl_pure h15 (wanted_yes h15 _ rfl rfl rfl gc30) (ex_call (fun _ _ => by kernel_rfl) (h15.evs rfl) rfl) rfl rfl (rPagesErr_any _ _) fun a16 h16 => ?_
   refine sl_val h16 (wanted_yes h16 _ rfl rfl rfl gc30) (ex_neq (h16.ev rfl) (h16.ev rfl)) rfl rfl fun a17 h17 => ?_
   refine sl_val h17 (wn rfl) (ex_pick_f (h17.ev rfl) gc30 (h17.ev rfl)) rfl rfl fun a18 h18 => ?_
   exact st_nil ⟨h18.mid (m := [(_, _), (_, _), (_, _)]) rfl, S5⟩
  case ht =>
   intro gc30
   refine sl_no h14 (wanted_no h14 _ rfl rfl rfl gc30) rfl rfl fun a19 h19 => ?_
   refine sl_no h19 (wanted_no h19 _ rfl rfl rfl gc30) rfl rfl fun a20 h20 => ?_
   refine sl_no h20 (wanted_no h20 _ rfl rfl rfl gc30) rfl rfl fun a21 h21 => ?_
   refine sl_val h21 (wn rfl) (ex_pick_t (h21.ev rfl) gc30 (h21.ev rfl)) rfl rfl fun a22 h22 => ?_
   exact st_nil ⟨h22.mid (m := [(_, _), (_, _), (_, _)]) rfl, S5⟩
  case h =>
   rintro a23 X23 ⟨h23, S23⟩
   refine st_nil (go_then ?_)
   refine st_if (h23.ev rfl) (fun hc0 => ?_) (fun hc0 => ?_)
   · skip
     have hbad : inV s = (rng0, 10) := by
       unfold inV
       rw [if_pos]
       rw [Bool.or_eq_true, bne_iff_ne, bne_iff_ne, hsz] at hc0
       rcases hc0 with h | h
       · left; omega
       · right; intro h2; exact h (by rw [← h2]; congr 1)
     refine st_seq (st_reg ?_)
     refine sl_val h23 (wn rfl) (ex_loads (by kernel_rfl) (by kernel_rfl) (h23.ev rfl) (S23.cellsAll (i := 0) rfl)) rfl rfl fun a24 h24 => ?_
     refine sl_store0 h24 (wn rfl) ⟨rfl, rfl⟩ (h24.ev rfl) (h24.ev rfl) rfl (by kernel_rfl) S23 (i := 1) rfl rfl rfl fun X25 S25 => ?_
     refine ma h24 rfl rfl fun a26 h26 => ?_
     refine st_nil (go_then (wp_ret (ret_then ?_)))
     refine finct h26 rfl rfl rfl S25 (i := 1) rfl (by kernel_rfl) (by kernel_rfl) ?_
     obtain ⟨g1, g2⟩ := in_bad hbad (by decide)
     rw [g1, g2]
     exact ⟨none, 0, rfl, World.ownsRow_nil _ _ _ _, S25.below⟩
   · skip
     have hgood : s.length % 512 = 0 ∧ pgsE ((s.length / 512 : Nat) : Int) = 0 := by
       rw [Bool.or_eq_false_iff, bne_eq_false_iff_eq, bne_eq_false_iff_eq, hsz] at hc0
       exact ⟨by omega, by rw [← hc0.2]; congr 1⟩
     obtain ⟨pg, hpg⟩ : ∃ y, s.length / 512 = y := ⟨_, rfl⟩
     have hlen : s.length = 512 * pg := by omega
     have hpb : 4 ≤ pg ∧ pg ≤ 40 := by
       have := inB_true.1 ((unl_zero (by decide)).1 hgood.2)
       omega
     rw [show ((bs s).size : Int) / 512 = (pg : Int) by omega] at h23
     refine wp_skip (go_then (st_seq (st_reg ?_)))
     refine mv h23 rfl rfl fun a27 h27 => ?_
     refine sl_val h27 (wn rfl) (ex_build (zs := [.int .i64 0, .int .i64 0, .int .i64 0, .int .i64 0, .int .i64 0, .int .i64 0, .int .i64 0, .slice none 0 0, .int .i64 0]) (pl := [(0, 1), (1, 3), (4, 3), (7, 1), (8, 1)]) (by kernel_rfl) (by kernel_rfl) (h27.evs2 rfl) rfl rfl) rfl rfl fun a28 h28 => ?_
     refine sl_new h28 (wn rfl) (f := fun b => .pointer (some ⟨b, 0, none⟩)) (ex_alloc (z := .agg #[.int .i64 0, .int .i64 0, .int .i64 0, .int .i64 0, .int .i64 0, .int .i64 0, .int .i64 0, .slice none 0 0, .int .i64 0]) (by kernel_rfl)) rfl rfl S23 fun b6 a29 X29 gb6 h29 S29 => ?_
     refine sl_store0 h29 (wn rfl) ⟨rfl, rfl⟩ (h29.ev rfl) (h29.ev rfl) rfl (by kernel_rfl) S29 (i := 0) rfl rfl rfl fun X30 S30 => ?_
     refine st_nil (go_then (st_seq (st_reg ?_)))
     refine ma h29 rfl rfl fun a31 h31 => ?_
     refine st_nil (go_then (st_seq (st_seq (st_reg ?_))))
     refine ma h31 rfl rfl fun a32 h32 => ?_
     refine st_nil (go_then (wp_block ?_))
     refine st_loop h32 S30 [6, 5, 4, 3, 2, 0] (fun (q : Nat × Bool × RstP × RstP) => [(8, .int .i64 (q.1 : Nat)), (7, .bool q.2.1)]) (fun (q : Nat × Bool × RstP × RstP) => q.1 ≤ 2 ∧ q.2 = rsS s pg q.1) (fun q L => L.set 0 (.box b6 #[.int .i64 pg, .int .i64 q.2.2.1.s, .int .i64 q.2.2.1.c, .int .i64 q.2.2.1.o, .int .i64 q.2.2.2.s, .int .i64 q.2.2.2.c, .int .i64 q.2.2.2.o, .slice none 0 0, .int .i64 0] 26)) (fun (q : Nat × Bool × RstP × RstP) => 2 - q.1) ((0, false, rst0, rst0)) (⟨Nat.zero_le _, rfl⟩) ⟨rfl, rfl, rfl, rfl, rfl, rfl, rfl, rfl, trivial⟩ (S30) ?_
     intro q a33 X33 hF0 h33 S33
     refine st_seq (st_seq (st_reg ?_))
     refine mv h33 rfl rfl fun a34 h34 => ?_
     refine sl_val h34 (wn rfl) (ex_lss (h34.ev rfl) (h34.ev rfl)) rfl rfl fun a35 h35 => ?_
     refine st_nil (go_then ?_)
     refine st_if (h35.ev rfl) (fun hc1 => ?_) (fun hc1 => ?_)
     · skip
       have hlt : q.1 < 2 := by have := of_decide_eq_true hc1; omega
       obtain ⟨b, hb⟩ : ∃ b, b = blkL s q.1 := ⟨_, rfl⟩
       have hbl : b.length = 512 := by rw [hb]; exact blkL_length hlen (by omega)
       obtain ⟨x, hx⟩ : ∃ x, x = rsoR b pg := ⟨_, rfl⟩
       have hxn : 0 ≤ x.s := by rw [hx]; exact ars_nn _ _
       have hR : ∀ w, Calls Tryz.prog 37 #[.string (bs b), .int .i64 pg] w fun e w' => e = .returned (.tuple #[rstV x, .int .i64 (rsoE b pg)]) ∧ Below w.heap.size w w' := fun w => by
         rw [hx]; exact rRestartOf_any b pg w (by omega)
       refine wp_skip (go_then (st_seq (wp_block (st_seq (st_reg ?_)))))
       refine mv h35 rfl rfl fun a36 h36 => ?_
       refine mv h36 rfl rfl fun a37 h37 => ?_
       refine sl_val h37 (wn rfl) (as_val (v' := .int .i64 ((512 * q.1 : Nat) : Int)) (congrArg _ (by push_cast; omega)) (ex_mul (h37.ev rfl) (h37.ev rfl) (by omega))) rfl rfl fun a38 h38 => ?_
       refine mv h38 rfl rfl fun a39 h39 => ?_
       refine sl_val h39 (wn rfl) (ex_add (h39.ev rfl) (h39.ev rfl) (by omega)) rfl rfl fun a40 h40 => ?_
       refine sl_val h40 (wn rfl) (as_val (v' := .int .i64 ((512 * q.1 + 512 : Nat) : Int)) (congrArg _ (by push_cast; omega)) (ex_mul (h40.ev rfl) (h40.ev rfl) (by omega))) rfl rfl fun a41 h41 => ?_
       refine sl_val h41 (wn rfl) (as_val (v' := .string (bs b)) (congrArg _ (by rw [bs_extract, Nat.add_sub_cancel_left, hb]; rfl)) (ex_sslice (l := (512 * q.1)) (h := (512 * q.1 + 512)) Tryz.underlying9 (h41.ev rfl) (h41.ev rfl) (h41.ev rfl) (by omega) (by omega))) rfl rfl fun a42 h42 => ?_
       refine mv h42 rfl rfl fun a43 h43 => ?_
       refine sl_bel h43 (wn rfl) (ex_call (fun _ _ => by kernel_rfl) (h43.evs rfl) rfl) rfl rfl S33 (hR _) fun a44 X44 h44 S44 => ?_
       refine mv h44 rfl rfl fun a45 h45 => ?_
       refine sl_val h45 (wn rfl) (ex_extract (h45.ev rfl) rfl) rfl rfl fun a46 h46 => ?_
       refine sl_val h46 (wn rfl) (ex_extract (h46.ev rfl) rfl) rfl rfl fun a47 h47 => ?_
       refine sl_new h47 (wn rfl) (f := fun b => .pointer (some ⟨b, 0, none⟩)) (ex_alloc (z := .agg #[.int .i64 0, .int .i64 0, .int .i64 0]) (by kernel_rfl)) rfl rfl S44 fun b9 a48 X48 gb9 h48 S48 => ?_
       refine sl_store0 h48 (wn rfl) ⟨rfl, rfl⟩ (h48.ev rfl) (h48.ev rfl) rfl (by kernel_rfl) S48 (i := 0) rfl rfl rfl fun X49 S49 => ?_
       refine ma h48 rfl rfl fun a50 h50 => ?_
       refine st_nil (go_then (st_seq (st_seq (st_reg ?_))))
       refine mv h50 rfl rfl fun a51 h51 => ?_
       refine sl_val h51 (wn rfl) (ex_neq (h51.ev rfl) (h51.ev rfl)) rfl rfl fun a52 h52 => ?_
       refine mv h52 rfl rfl fun a53 h53 => ?_
       apply sl_or h53 S49 56 rfl 6 62
       case hf =>
        intro gc56
        refine sl_val h53 (wanted_yes h53 _ rfl rfl rfl gc56) (ex_field (off := 0) (j := 0) (by kernel_rfl) (h53.ev rfl) rfl) rfl rfl fun a54 h54 => ?_
        refine sl_val h54 (wanted_yes h54 _ rfl rfl rfl gc56) (ex_load (by kernel_rfl) (h54.ev rfl) (S49.cell (i := 0) rfl rfl)) rfl rfl fun a55 h55 => ?_
        refine sl_val h55 (wanted_yes h55 _ rfl rfl rfl gc56) (ex_rem (h55.ev rfl) (h55.ev rfl) ⟨hxn, by decide⟩) rfl rfl fun a56 h56 => ?_
        refine sl_val h56 (wanted_yes h56 _ rfl rfl rfl gc56) (ex_move (h56.ev rfl)) rfl rfl fun a57 h57 => ?_
        refine sl_val h57 (wanted_yes h57 _ rfl rfl rfl gc56) (ex_neq (h57.ev rfl) (h57.ev rfl)) rfl rfl fun a58 h58 => ?_
        refine sl_val h58 (wn rfl) (ex_pick_f (h58.ev rfl) gc56 (h58.ev rfl)) rfl rfl fun a59 h59 => ?_
        exact st_nil ⟨h59.mid (m := [(_, _), (_, _), (_, _), (_, _), (_, _)]) rfl, S49⟩
       case ht =>
        intro gc56
        refine sl_no h53 (wanted_no h53 _ rfl rfl rfl gc56) rfl rfl fun a60 h60 => ?_
        refine sl_no h60 (wanted_no h60 _ rfl rfl rfl gc56) rfl rfl fun a61 h61 => ?_
        refine sl_no h61 (wanted_no h61 _ rfl rfl rfl gc56) rfl rfl fun a62 h62 => ?_
        refine sl_no h62 (wanted_no h62 _ rfl rfl rfl gc56) rfl rfl fun a63 h63 => ?_
        refine sl_no h63 (wanted_no h63 _ rfl rfl rfl gc56) rfl rfl fun a64 h64 => ?_
        refine sl_val h64 (wn rfl) (ex_pick_t (h64.ev rfl) gc56 (h64.ev rfl)) rfl rfl fun a65 h65 => ?_
        exact st_nil ⟨h65.mid (m := [(_, _), (_, _), (_, _), (_, _), (_, _)]) rfl, S49⟩
       case h =>
        rintro a66 X66 ⟨h66, S66⟩
        refine st_nil (go_then ?_)
        refine st_if (h66.ev rfl) (fun hc2 => ?_) (fun hc2 => ?_)
        · skip
          have hnone : q.2 = rsS s pg (q.1 + 1) := by
            have h1 : arIn s pg q.1 = none := by
              unfold arIn
              rw [← hb, ← hx, if_neg]
              rintro ⟨h1, h2⟩
              rw [h1, h2] at hc2
              simp at hc2
            rw [rsS, h1]; exact hF0.2
          refine wp_exit ?_
          refine go_exit_then ?_
          refine go_exit ?_
          refine go_then (st_reg ?_)
          refine mv h66 rfl rfl fun a67 h67 => ?_
          refine sl_val h67 (wn rfl) (ex_add (h67.ev rfl) (h67.ev rfl) (by omega)) rfl rfl fun a68 h68 => ?_
          refine ma h68 rfl rfl fun a69 h69 => ?_
          refine st_nil (go_then ?_)
          exact ⟨(q.1 + 1, q.2), (by show 2 - (q.1 + 1) < 2 - q.1; omega), ⟨by show q.1 + 1 ≤ 2; omega, hnone⟩, h69.re ⟨rfl, rfl, rfl, rfl, rfl, rfl, rfl, rfl, trivial⟩, S66.sub (.cons _ (.cons_cons _ (.cons_cons _ (.cons_cons _ .slnil))))⟩
        · skip
          have hsome : arIn s pg q.1 = some x := by
            simp only [Bool.or_eq_false_iff, bne_eq_false_iff_eq] at hc2
            unfold arIn
            rw [← hb, ← hx, if_pos hc2]
          refine wp_skip (go_then (st_seq (st_seq (st_reg ?_))))
          refine mv h66 rfl rfl fun a70 h70 => ?_
          refine sl_val h70 (wn rfl) (ex_not (h70.ev rfl)) rfl rfl fun a71 h71 => ?_
          refine mv h71 rfl rfl fun a72 h72 => ?_
          apply sl_or h72 S66 65 rfl 7 72
          case hf =>
           intro gc65
           refine sl_val h72 (wanted_yes h72 _ rfl rfl rfl gc65) (ex_field (off := 0) (j := 0) (by kernel_rfl) (h72.ev rfl) rfl) rfl rfl fun a73 h73 => ?_
           refine sl_val h73 (wanted_yes h73 _ rfl rfl rfl gc65) (ex_load (by kernel_rfl) (h73.ev rfl) (S66.cell (i := 0) rfl rfl)) rfl rfl fun a74 h74 => ?_
           refine sl_val h74 (wanted_yes h74 _ rfl rfl rfl gc65) (ex_field (off := 1) (j := 1) (by kernel_rfl) (h74.ev rfl) rfl) rfl rfl fun a75 h75 => ?_
           refine sl_val h75 (wanted_yes h75 _ rfl rfl rfl gc65) (ex_field (off := 0) (j := 1) (by kernel_rfl) (h75.ev rfl) rfl) rfl rfl fun a76 h76 => ?_
           refine sl_val h76 (wanted_yes h76 _ rfl rfl rfl gc65) (ex_load (by kernel_rfl) (h76.ev rfl) (S66.cell (i := 1) rfl rfl)) rfl rfl fun a77 h77 => ?_
           refine sl_val h77 (wanted_yes h77 _ rfl rfl rfl gc65) (ex_gtr (h77.ev rfl) (h77.ev rfl)) rfl rfl fun a78 h78 => ?_
           refine sl_val h78 (wn rfl) (ex_pick_f (h78.ev rfl) gc65 (h78.ev rfl)) rfl rfl fun a79 h79 => ?_
           exact st_nil ⟨h79.mid (m := [(_, _), (_, _), (_, _), (_, _), (_, _), (_, _)]) rfl, S66⟩
          case ht =>
           intro gc65
           refine sl_no h72 (wanted_no h72 _ rfl rfl rfl gc65) rfl rfl fun a80 h80 => ?_
           refine sl_no h80 (wanted_no h80 _ rfl rfl rfl gc65) rfl rfl fun a81 h81 => ?_
           refine sl_no h81 (wanted_no h81 _ rfl rfl rfl gc65) rfl rfl fun a82 h82 => ?_
           refine sl_no h82 (wanted_no h82 _ rfl rfl rfl gc65) rfl rfl fun a83 h83 => ?_
           refine sl_no h83 (wanted_no h83 _ rfl rfl rfl gc65) rfl rfl fun a84 h84 => ?_
           refine sl_no h84 (wanted_no h84 _ rfl rfl rfl gc65) rfl rfl fun a85 h85 => ?_
           refine sl_val h85 (wn rfl) (ex_pick_t (h85.ev rfl) gc65 (h85.ev rfl)) rfl rfl fun a86 h86 => ?_
           exact st_nil ⟨h86.mid (m := [(_, _), (_, _), (_, _), (_, _), (_, _), (_, _)]) rfl, S66⟩
          case h =>
           rintro a87 X87 ⟨h87, S87⟩
           refine st_nil (go_then ?_)
           refine st_if (h87.ev rfl) (fun hc3 => ?_) (fun hc3 => ?_)
           · skip
             have hstep : (true, x, q.2.2.1) = rsS s pg (q.1 + 1) := by
               rw [rsS, hsome, ← hF0.2]
               simp only
               rw [if_pos hc3]
             refine st_reg ?_
             refine sl_val (v := rstV x) h87 (wn rfl) (ex_loads (by kernel_rfl) (by kernel_rfl) (h87.ev rfl) (S87.cellsAll (i := 0) rfl)) rfl rfl fun a88 h88 => ?_
             refine sl_val h88 (wn rfl) (ex_field (off := 1) (j := 1) (by kernel_rfl) (h88.ev rfl) rfl) rfl rfl fun a89 h89 => ?_
             refine sl_val (v := rstV q.2.2.1) h89 (wn rfl) (ex_loads (by kernel_rfl) (by kernel_rfl) (h89.ev rfl) (S87.cellsOf (i := 1) rfl 1 3)) rfl rfl fun a90 h90 => ?_
             refine sl_val h90 (wn rfl) (ex_field (off := 1) (j := 1) (by kernel_rfl) (h90.ev rfl) rfl) rfl rfl fun a91 h91 => ?_
             refine sl_store h91 (wn rfl) ⟨rfl, rfl⟩ (h91.ev rfl) (h91.ev rfl) rfl (by kernel_rfl) S87 (i := 1) rfl rfl rfl fun X92 S92 => ?_
             refine sl_val h91 (wn rfl) (ex_field (off := 4) (j := 4) (by kernel_rfl) (h91.ev rfl) rfl) rfl rfl fun a93 h93 => ?_
             refine sl_store h93 (wn rfl) ⟨rfl, rfl⟩ (h93.ev rfl) (h93.ev rfl) rfl (by kernel_rfl) S92 (i := 1) rfl rfl rfl fun X94 S94 => ?_
             refine st_nil (go_then (st_reg ?_))
             refine ma h93 rfl rfl fun a95 h95 => ?_
             refine st_nil (go_block (go_then (st_reg ?_)))
             refine mv h95 rfl rfl fun a96 h96 => ?_
             refine sl_val h96 (wn rfl) (ex_add (h96.ev rfl) (h96.ev rfl) (by omega)) rfl rfl fun a97 h97 => ?_
             refine ma h97 rfl rfl fun a98 h98 => ?_
             refine st_nil (go_then ?_)
             exact ⟨(q.1 + 1, true, x, q.2.2.1), (by show 2 - (q.1 + 1) < 2 - q.1; omega), ⟨by show q.1 + 1 ≤ 2; omega, hstep⟩, h98.re ⟨rfl, rfl, rfl, rfl, rfl, rfl, rfl, rfl, trivial⟩, S94.sub (.cons _ (.cons_cons _ (.cons_cons _ (.cons_cons _ .slnil))))⟩
           · skip
             have hstep : (true, q.2.2.1, x) = rsS s pg (q.1 + 1) := by
               rw [rsS, hsome, ← hF0.2]
               simp only
               rw [if_neg (by rw [hc3]; decide)]
             refine st_reg ?_
             refine sl_val (v := rstV x) h87 (wn rfl) (ex_loads (by kernel_rfl) (by kernel_rfl) (h87.ev rfl) (S87.cellsAll (i := 0) rfl)) rfl rfl fun a99 h99 => ?_
             refine sl_val h99 (wn rfl) (ex_field (off := 4) (j := 4) (by kernel_rfl) (h99.ev rfl) rfl) rfl rfl fun a100 h100 => ?_
             refine sl_store h100 (wn rfl) ⟨rfl, rfl⟩ (h100.ev rfl) (h100.ev rfl) rfl (by kernel_rfl) S87 (i := 1) rfl rfl rfl fun X101 S101 => ?_
             refine st_nil (go_then (st_reg ?_))
             refine ma h100 rfl rfl fun a102 h102 => ?_
             refine st_nil (go_block (go_then (st_reg ?_)))
             refine mv h102 rfl rfl fun a103 h103 => ?_
             refine sl_val h103 (wn rfl) (ex_add (h103.ev rfl) (h103.ev rfl) (by omega)) rfl rfl fun a104 h104 => ?_
             refine ma h104 rfl rfl fun a105 h105 => ?_
             refine st_nil (go_then ?_)
             exact ⟨(q.1 + 1, true, q.2.2.1, x), (by show 2 - (q.1 + 1) < 2 - q.1; omega), ⟨by show q.1 + 1 ≤ 2; omega, hstep⟩, h105.re ⟨rfl, rfl, rfl, rfl, rfl, rfl, rfl, rfl, trivial⟩, S101.sub (.cons _ (.cons_cons _ (.cons_cons _ (.cons_cons _ .slnil))))⟩
     · skip
       have hq2 : q.1 = 2 := by have := of_decide_eq_false hc1; have := hF0.1; omega
       refine wp_exit ?_
       refine go_exit_then ?_
       refine go_exit_then ?_
       refine go_exit ?_
       refine go_then (st_seq (st_seq (st_reg ?_)))
       refine mv h35 rfl rfl fun a106 h106 => ?_
       refine sl_val h106 (wn rfl) (ex_not (h106.ev rfl)) rfl rfl fun a107 h107 => ?_
       refine st_nil (go_then ?_)
       refine st_if (h107.ev rfl) (fun hc4 => ?_) (fun hc4 => ?_)
       · skip
         have hbad : inV s = (rng0, 31) := by
           have h1 : q.2.1 = false := by simpa using hc4
           have h2 := rs_final s pg
           rw [← hq2, ← hF0.2, h1, if_neg (by decide)] at h2
           unfold inV
           rw [if_neg (by rintro (h | h); exact h hgood.1; exact h hgood.2), hpg, h2]
         refine st_seq (st_reg ?_)
         refine sl_val h107 (wn rfl) (ex_loads (by kernel_rfl) (by kernel_rfl) (h107.ev rfl) (S33.cellsAll (i := 1) rfl)) rfl rfl fun a108 h108 => ?_
         refine sl_store0 h108 (wn rfl) ⟨rfl, rfl⟩ (h108.ev rfl) (h108.ev rfl) rfl (by kernel_rfl) S33 (i := 2) rfl rfl rfl fun X109 S109 => ?_
         refine ma h108 rfl rfl fun a110 h110 => ?_
         refine st_nil (go_then (wp_ret (ret_then ?_)))
         refine finct h110 rfl rfl rfl S109 (i := 2) rfl (by kernel_rfl) (by kernel_rfl) ?_
         obtain ⟨g1, g2⟩ := in_bad hbad (by decide)
         rw [g1, g2]
         exact ⟨none, 0, rfl, World.ownsRow_nil _ _ _ _, S109.below⟩
       · skip
         have h1 : q.2.1 = true := by simpa using hc4
         obtain ⟨la, hla⟩ : ∃ y, y = q.2.2.1 := ⟨_, rfl⟩
         obtain ⟨ea, hea⟩ : ∃ y, y = if q.2.2.2.s = q.2.2.1.s - 1 then q.2.2.2 else rst0 := ⟨_, rfl⟩
         have hrs : rsIn s pg = some (la, ea) := by
           have h2 := rs_final s pg
           rw [← hq2, ← hF0.2, h1, if_pos rfl] at h2
           rw [h2, hla, hea]
         have hlb := rs_bd (x := ⟨s, pg, 0⟩) hrs
         have hlb2 := hlb
         rw [hla] at hlb2
         refine wp_skip (go_then (st_seq (st_seq (st_reg ?_))))
         refine sl_val h107 (wn rfl) (ex_field (off := 4) (j := 4) (by kernel_rfl) (h107.ev rfl) rfl) rfl rfl fun a111 h111 => ?_
         refine sl_val h111 (wn rfl) (ex_field (off := 0) (j := 4) (by kernel_rfl) (h111.ev rfl) rfl) rfl rfl fun a112 h112 => ?_
         refine sl_val h112 (wn rfl) (ex_load (by kernel_rfl) (h112.ev rfl) (S33.cell (i := 0) rfl rfl)) rfl rfl fun a113 h113 => ?_
         refine sl_val h113 (wn rfl) (ex_field (off := 1) (j := 1) (by kernel_rfl) (h113.ev rfl) rfl) rfl rfl fun a114 h114 => ?_
         refine sl_val h114 (wn rfl) (ex_field (off := 0) (j := 1) (by kernel_rfl) (h114.ev rfl) rfl) rfl rfl fun a115 h115 => ?_
         refine sl_val h115 (wn rfl) (ex_load (by kernel_rfl) (h115.ev rfl) (S33.cell (i := 0) rfl rfl)) rfl rfl fun a116 h116 => ?_
         refine sl_val h116 (wn rfl) (ex_sub (h116.ev rfl) (h116.ev rfl) ⟨by omega, by omega⟩) rfl rfl fun a117 h117 => ?_
         refine sl_val h117 (wn rfl) (ex_neq (h117.ev rfl) (h117.ev rfl)) rfl rfl fun a118 h118 => ?_
         refine st_nil (go_then ?_)
         refine st_joinE (F := True) h118 S33 [(7, .bool q.2.1)] [6, 5, 4, 3, 2, 0] (fun L => L.set 0 (.box b6 #[.int .i64 pg, .int .i64 la.s, .int .i64 la.c, .int .i64 la.o, .int .i64 ea.s, .int .i64 ea.c, .int .i64 ea.o, .slice none 0 0, .int .i64 0] 26)) ?_ (fun a119 X119 h119 S119 hj5 => ?_)
         · skip
           refine st_if (h118.ev rfl) (fun hc5 => ?_) (fun hc5 => ?_)
           · skip
             refine st_reg ?_
             refine sl_val (v := rstV rst0) h118 (wn rfl) (ex_build (zs := [.int .i64 0, .int .i64 0, .int .i64 0]) (pl := [(0, 1), (1, 1), (2, 1)]) (by kernel_rfl) (by kernel_rfl) (h118.evs2 rfl) rfl rfl) rfl rfl fun a120 h120 => ?_
             refine sl_val h120 (wn rfl) (ex_field (off := 4) (j := 4) (by kernel_rfl) (h120.ev rfl) rfl) rfl rfl fun a121 h121 => ?_
             refine sl_store h121 (wn rfl) ⟨rfl, rfl⟩ (h121.ev rfl) (h121.ev rfl) rfl (by kernel_rfl) S33 (i := 0) rfl rfl rfl fun X122 S122 => ?_
             refine st_nil (go_then ?_)
             have hea0 : ea = rst0 := by rw [hea, if_neg (by simpa using hc5)]
             subst hea0
             rw [← hla] at S122
             have hj5 := trivial
             exact ⟨h121.re ⟨rfl, rfl, rfl, rfl, rfl, rfl, rfl, trivial⟩, S122, hj5⟩
           · skip
             refine wp_skip (go_then ?_)
             have hea0 : ea = q.2.2.2 := by rw [hea, if_pos (by simpa using hc5)]
             rw [← hla, ← hea0] at S33
             have hj5 := trivial
             exact ⟨h118.re ⟨rfl, rfl, rfl, rfl, rfl, rfl, rfl, trivial⟩, S33, hj5⟩
         · skip
           refine go_then (st_seq (st_reg ?_))
           refine sl_val h119 (wn rfl) (ex_field (off := 1) (j := 1) (by kernel_rfl) (h119.ev rfl) rfl) rfl rfl fun a123 h123 => ?_
           refine sl_val h123 (wn rfl) (ex_field (off := 0) (j := 1) (by kernel_rfl) (h123.ev rfl) rfl) rfl rfl fun a124 h124 => ?_
           refine sl_val (v := .int .i64 la.s) h124 (wn rfl) (ex_load (by kernel_rfl) (h124.ev rfl) (S119.cell (i := 0) rfl rfl)) rfl rfl fun a125 h125 => ?_
           refine ma h125 rfl rfl fun a126 h126 => ?_
           refine st_nil (go_then (st_seq (st_reg ?_)))
           refine sl_val h126 (wn rfl) (ex_field (off := 1) (j := 1) (by kernel_rfl) (h126.ev rfl) rfl) rfl rfl fun a127 h127 => ?_
           refine sl_val h127 (wn rfl) (ex_field (off := 2) (j := 3) (by kernel_rfl) (h127.ev rfl) rfl) rfl rfl fun a128 h128 => ?_
           refine sl_val (v := .int .i64 la.o) h128 (wn rfl) (ex_load (by kernel_rfl) (h128.ev rfl) (S119.cell (i := 0) rfl rfl)) rfl rfl fun a129 h129 => ?_
           refine sl_val h129 (wn rfl) (ex_sub (h129.ev rfl) (h129.ev rfl) ⟨by omega, by omega⟩) rfl rfl fun a130 h130 => ?_
           refine ma h130 rfl rfl fun a131 h131 => ?_
           refine st_nil (go_then (st_seq (st_reg ?_)))
           refine mv h131 rfl rfl fun a132 h132 => ?_
           refine sl_val h132 (wn rfl) (ex_field (off := 8) (j := 8) (by kernel_rfl) (h132.ev rfl) rfl) rfl rfl fun a133 h133 => ?_
           refine sl_store h133 (wn rfl) ⟨rfl, rfl⟩ (h133.ev rfl) (h133.ev rfl) rfl (by kernel_rfl) S119 (i := 0) rfl rfl rfl fun X134 S134 => ?_
           replace S134 := St.nilRow S134 98 3
           refine st_nil (go_then (st_seq (st_seq (st_reg ?_))))
           refine mv h133 rfl rfl fun a135 h135 => ?_
           refine sl_val h135 (wn rfl) (ex_geq (h135.ev rfl) (h135.ev rfl)) rfl rfl fun a136 h136 => ?_
           refine mv h136 rfl rfl fun a137 h137 => ?_
           apply sl_and h137 S134 104 rfl 4 108
           case ht =>
            intro gc104
            refine sl_val h137 (wanted_yes h137 _ rfl rfl rfl gc104) (ex_move (h137.ev rfl)) rfl rfl fun a138 h138 => ?_
            refine sl_val h138 (wanted_yes h138 _ rfl rfl rfl gc104) (ex_rem (h138.ev rfl) (h138.ev rfl) ⟨by have := of_decide_eq_true gc104; omega, by decide⟩) rfl rfl fun a139 h139 => ?_
            refine sl_val h139 (wanted_yes h139 _ rfl rfl rfl gc104) (ex_eql (h139.ev rfl) (h139.ev rfl)) rfl rfl fun a140 h140 => ?_
            refine sl_val h140 (wn rfl) (ex_pick_t (h140.ev rfl) gc104 (h140.ev rfl)) rfl rfl fun a141 h141 => ?_
            exact st_nil ⟨h141.mid (m := [(_, _), (_, _), (_, _)]) rfl, S134⟩
           case hf =>
            intro gc104
            refine sl_no h137 (wanted_no h137 _ rfl rfl rfl gc104) rfl rfl fun a142 h142 => ?_
            refine sl_no h142 (wanted_no h142 _ rfl rfl rfl gc104) rfl rfl fun a143 h143 => ?_
            refine sl_no h143 (wanted_no h143 _ rfl rfl rfl gc104) rfl rfl fun a144 h144 => ?_
            refine sl_val h144 (wn rfl) (ex_pick_f (h144.ev rfl) gc104 (h144.ev rfl)) rfl rfl fun a145 h145 => ?_
            exact st_nil ⟨h145.mid (m := [(_, _), (_, _), (_, _)]) rfl, S134⟩
           case h =>
            rintro a146 X146 ⟨h146, S146⟩
            refine st_nil (go_then ?_)
            refine st_if (h146.ev rfl) (fun hc6 => ?_) (fun hc6 => ?_)
            · skip
              have h0p : 0 ≤ la.o - 1 ∧ (la.o - 1) % 8 = 0 := by
                simp only [Bool.and_eq_true, decide_eq_true_eq, beq_iff_eq] at hc6
                omega
              obtain ⟨p, hp⟩ := Int.eq_ofNat_of_zero_le h0p.1
              have hst : stIn s pg la.s p 1 = rcIn s pg la.s (la.o - 1) 0 := by
                rw [hp]; exact st_rc hlen hpb.1 la.s (by omega) p (by omega) (by omega) 1 0 (.inr ⟨rfl, rfl⟩)
              have hS1 : ∀ w, Calls Tryz.prog 73 #[.string (bs s), .int .i64 pg, .int .i64 la.s, .int .i64 (la.o - 1), .int .i64 1] w fun e w' => e = .returned (.tuple #[recV (stO s pg la.s p 1), .bool (rcIn s pg la.s (la.o - 1) 0).isSome]) ∧ Below w.heap.size w w' := fun w => by
                rw [← hst, hp]; exact rstanding_any s pg la.s p 1 hlen hpb (by omega) (by omega) w
              refine st_seq (st_reg ?_)
              refine mv h146 rfl rfl fun a147 h147 => ?_
              refine mv h147 rfl rfl fun a148 h148 => ?_
              refine mv h148 rfl rfl fun a149 h149 => ?_
              refine mv h149 rfl rfl fun a150 h150 => ?_
              refine sl_bel h150 (wn rfl) (ex_call (fun _ _ => by kernel_rfl) (h150.evs rfl) rfl) rfl rfl S146 (hS1 _) fun a151 X151 h151 S151 => ?_
              refine mv h151 rfl rfl fun a152 h152 => ?_
              refine sl_val (v := recV (stO s pg la.s p 1)) h152 (wn rfl) (ex_extract (h152.ev rfl) rfl) rfl rfl fun a153 h153 => ?_
              refine sl_val h153 (wn rfl) (ex_extract (h153.ev rfl) rfl) rfl rfl fun a154 h154 => ?_
              refine sl_new h154 (wn rfl) (f := fun b => .pointer (some ⟨b, 0, none⟩)) (ex_alloc (z := .agg #[.int .i64 0, .int .i64 0, .string ⟨#[]⟩]) (by kernel_rfl)) rfl rfl S151 fun b13 a155 X155 gb13 h155 S155 => ?_
              refine sl_store0 h155 (wn rfl) ⟨rfl, rfl⟩ (h155.ev rfl) (h155.ev rfl) rfl (by kernel_rfl) S155 (i := 0) rfl rfl rfl fun X156 S156 => ?_
              refine ma h155 rfl rfl fun a157 h157 => ?_
              refine st_nil (go_then (wp_block ?_))
              refine st_loop h157 S156 [13, 11, 6, 5, 4, 2, 0] (fun (u : RiS) => [(14, .bool u.cur.isSome)]) (fun (u : RiS) => RiF ⟨s, pg, la.s⟩ (rcIn s pg la.s (la.o - 1) 0) u ∧ ∀ z, u.cur = some z → (z.l - 1) % 8 = 0) (fun u L => ((L.set 0 (.box b13 #[.int .i64 u.y.l, .int .i64 u.y.s, .string u.y.b] 98)).set 1 (.row (.slice u.A u.rs.length u.c) u.rs.length 98 3 (recsV u.rs))).set 2 (.box b6 #[.int .i64 pg, .int .i64 la.s, .int .i64 la.c, .int .i64 la.o, .int .i64 ea.s, .int .i64 ea.c, .int .i64 ea.o, .slice u.A u.rs.length u.c, .int .i64 (nxRs la.o u.rs)] 26)) (fun (u : RiS) => 101 - u.rs.length) (⟨b13, stO s pg la.s p 1, rcIn s pg la.s (la.o - 1) 0, [], none, 0, []⟩) (⟨⟨fun z hz => by show stO s pg la.s p 1 = z; unfold stO; rw [hst]; show (rcIn s pg la.s (la.o - 1) 0).getD rec0 = z; rw [show rcIn s pg la.s (la.o - 1) 0 = some z from hz]; rfl, (by show allIn s pg la.s 100 _ = (allIn s pg la.s 100 _).map _; cases allIn s pg la.s 100 (rcIn s pg la.s (la.o - 1) 0) <;> rfl), Nat.zero_le _, fun z hz => (by have := rc_fields (x := ⟨s, pg, la.s⟩) hz; show 1 ≤ z.l ∧ z.l ≤ 100000001 + 4000 * ((0 : Nat) : Int) ∧ _; omega), fun z hz => by cases hz⟩, fun z hz => rc_mod hz⟩) ⟨rfl, rfl, rfl, rfl, rfl, rfl, rfl, rfl, trivial⟩ (S156) ?_
              intro u a158 X158 hF1 h158 S158
              refine st_seq (st_seq (st_reg ?_))
              refine mv h158 rfl rfl fun a159 h159 => ?_
              refine st_nil (go_then ?_)
              refine st_if (h159.ev rfl) (fun hc7 => ?_) (fun hc7 => ?_)
              · skip
                obtain ⟨z, hz⟩ := Option.isSome_iff_exists.1 hc7
                have hcur : u.cur = some u.y := by rw [hz, hF1.1.y z hz]
                have hub := hF1.1.bd _ hcur
                have hul := hF1.1.len
                have hum := hF1.2 _ hcur
                have huz := szR_in (n := u.y.b.size) hub.2.2
                have hbh : bhR u.y = u.y.l - 1 + szR u.y.b.size := rfl
                have hnxb := nxtR_in (p := bhR u.y)
                obtain ⟨B, hB⟩ := Int.eq_ofNat_of_zero_le (show 0 ≤ bhR u.y by omega)
                obtain ⟨C, hC⟩ := Int.eq_ofNat_of_zero_le (show 0 ≤ nxtR (bhR u.y) by omega)
                have hBe : ∀ w, Calls Tryz.prog 33 #[.int .i64 (u.y.l - 1), .int .i64 u.y.b.size] w fun e w' => e = .returned (.int .i64 (B : Nat)) ∧ w = w' := fun w => by
                  rw [← hB]; exact rBehind_any _ _ (by omega) w
                have hCe : ∀ w, Calls Tryz.prog 65 #[.int .i64 (B : Nat)] w fun e w' => e = .returned (.int .i64 (C : Nat)) ∧ w = w' := fun w => by
                  rw [← hC, ← hB]; exact rbegin_any _ (by omega) w
                obtain ⟨y1, hy1⟩ : ∃ y, y = stO s pg la.s B u.y.s := ⟨_, rfl⟩
                obtain ⟨i1, hi1⟩ : ∃ y, y = (stIn s pg la.s B u.y.s).isSome := ⟨_, rfl⟩
                obtain ⟨y2, hy2⟩ : ∃ y, y = stO s pg la.s C u.y.s := ⟨_, rfl⟩
                obtain ⟨i2, hi2⟩ : ∃ y, y = (stIn s pg la.s C u.y.s).isSome := ⟨_, rfl⟩
                obtain ⟨u5, t5, b5, k5, hrt⟩ : ∃ u t b ok, rtT s pg la.s (B / 448) = (u, t, b, ok) := ⟨_, _, _, _, rfl⟩
                have hS2 : ∀ w, Calls Tryz.prog 73 #[.string (bs s), .int .i64 pg, .int .i64 la.s, .int .i64 (B : Nat), .int .i64 u.y.s] w fun e w' => e = .returned (.tuple #[recV y1, .bool i1]) ∧ Below w.heap.size w w' := fun w => by
                  rw [hy1, hi1]; exact rstanding_any s pg la.s B u.y.s hlen hpb (by omega) (by omega) w
                have hS3 : ∀ w, Calls Tryz.prog 73 #[.string (bs s), .int .i64 pg, .int .i64 la.s, .int .i64 (C : Nat), .int .i64 u.y.s] w fun e w' => e = .returned (.tuple #[recV y2, .bool i2]) ∧ Below w.heap.size w w' := fun w => by
                  rw [hy2, hi2]; exact rstanding_any s pg la.s C u.y.s hlen hpb (by omega) (by omega) w
                have hR : ∀ w, Calls Tryz.prog 74 #[.string (bs s), .int .i64 pg, .int .i64 la.s, .int .i64 ((B : Int) / 448)] w fun e w' => e = .returned (.tuple #[.int .i64 u5, .int .i64 t5, .string (bs b5), .bool k5]) ∧ Below w.heap.size w w' := fun w => by
                  have h := rright_any s pg la.s (B / 448) hlen hpb (by omega) (by omega) w
                  rw [hrt] at h; exact h
                have haf := af_by hlen hpb.1 la.s (by omega) (x := u.y) (by omega)
                unfold ok1 ok2 at haf
                rw [hC, hB, Int.toNat_natCast, Int.toNat_natCast, ← hy1, ← hi1, ← hy2, ← hi2, hrt] at haf
                simp only at haf
                refine wp_skip (go_then (wp_block (st_seq (st_reg ?_))))
                refine sl_val h159 (wn rfl) (ex_field (off := 7) (j := 7) (by kernel_rfl) (h159.ev rfl) rfl) rfl rfl fun a160 h160 => ?_
                refine sl_val h160 (wn rfl) (ex_load (by kernel_rfl) (h160.ev rfl) (S158.cell (i := 2) rfl rfl)) rfl rfl fun a161 h161 => ?_
                refine sl_val (v := recV u.y) h161 (wn rfl) (ex_loads (by kernel_rfl) (by kernel_rfl) (h161.ev rfl) (S158.cellsAll (i := 0) rfl)) rfl rfl fun a162 h162 => ?_
                refine sl_bslice (cs := [.int .i64 u.y.l, .int .i64 u.y.s, .string u.y.b]) (zc := [.int .i64 0, .int .i64 0, .string ⟨#[]⟩]) (sz := 3) h162 (wn rfl) ⟨rfl, rfl⟩ rfl Tryz.underlying24 (by kernel_rfl) (by kernel_rfl) rfl rfl rfl (h162.evs2 rfl) rfl rfl rfl S158 fun b121 a163 X163 gb121 h163 S163 => ?_
                refine sl_append (z := .agg #[.int .i64 0, .int .i64 0, .string ⟨#[]⟩]) (sz := 3) (bytes := 32) h163 (wn rfl) ⟨rfl, rfl⟩ rfl Tryz.underlying24 (by kernel_rfl) rfl rfl (h163.ev rfl) (h163.ev rfl) S163 (i := 2) rfl (S163.boxRd (i := 0) rfl) rfl (List.all_eq_true.1 rfl) ⟨(by omega), by decide⟩ fun A122 c122 a164 X164 h164 S164 => ?_
                refine sl_val h164 (wn rfl) (ex_field (off := 7) (j := 7) (by kernel_rfl) (h164.ev rfl) rfl) rfl rfl fun a165 h165 => ?_
                refine sl_store h165 (wn rfl) ⟨rfl, rfl⟩ (h165.ev rfl) (h165.ev rfl) rfl (by kernel_rfl) S164 (i := 3) rfl rfl rfl fun X166 S166 => ?_
                replace S166 := S166.xsEq (i := 2) (xs' := recsV (u.rs ++ [u.y])) rfl (by rw [recsV_append]; rfl)
                rw [show u.rs.length + 1 = (u.rs ++ [u.y]).length by simp] at S166
                refine st_nil (go_then (st_seq (st_seq (st_reg ?_))))
                refine sl_val h165 (wn rfl) (ex_field (off := 7) (j := 7) (by kernel_rfl) (h165.ev rfl) rfl) rfl rfl fun a167 h167 => ?_
                refine sl_val h167 (wn rfl) (ex_load (by kernel_rfl) (h167.ev rfl) (S166.cell (i := 3) rfl rfl)) rfl rfl fun a168 h168 => ?_
                refine sl_val h168 (wn rfl) (ex_len Tryz.underlying24 (h168.ev rfl)) rfl rfl fun a169 h169 => ?_
                refine sl_val h169 (wn rfl) (ex_gtr (h169.ev rfl) (h169.ev rfl)) rfl rfl fun a170 h170 => ?_
                refine st_nil (go_then ?_)
                refine st_if (h170.ev rfl) (fun hc8 => ?_) (fun hc8 => ?_)
                · skip
                  have h100 : u.rs.length = 100 := by have := of_decide_eq_true hc8; simp at this; omega
                  have hbad : inV s = (rng0, 8) := by
                    have hall := hF1.1.all
                    rw [h100, hcur] at hall
                    have hall2 : allIn s pg la.s 100 (rcIn s pg la.s (la.o - 1) 0) = none := hall
                    unfold inV
                    rw [if_neg (by rintro (h | h); exact h hgood.1; exact h hgood.2), hpg, hrs]
                    simp only
                    rw [hall2]
                  refine st_seq (st_reg ?_)
                  refine sl_val h170 (wn rfl) (ex_loads (by kernel_rfl) (by kernel_rfl) (h170.ev rfl) (S166.cellsAll (i := 4) rfl)) rfl rfl fun a171 h171 => ?_
                  refine sl_store0 h171 (wn rfl) ⟨rfl, rfl⟩ (h171.ev rfl) (h171.ev rfl) rfl (by kernel_rfl) S166 (i := 5) rfl rfl rfl fun X172 S172 => ?_
                  refine ma h171 rfl rfl fun a173 h173 => ?_
                  refine st_nil (go_then (wp_ret (ret_then (ret_block (ret_then (ret_block (ret_then ?_)))))))
                  refine finct h173 rfl rfl rfl S172 (i := 5) rfl (by kernel_rfl) (by kernel_rfl) ?_
                  obtain ⟨g1, g2⟩ := in_bad hbad (by decide)
                  rw [g1, g2]
                  exact ⟨none, 0, rfl, World.ownsRow_nil _ _ _ _, S172.below⟩
                · skip
                  have hl100 : u.rs.length < 100 := by have := of_decide_eq_false hc8; simp at this; omega
                  refine wp_skip (go_then (st_seq (st_reg ?_)))
                  refine sl_val h170 (wn rfl) (ex_field (off := 0) (j := 0) (by kernel_rfl) (h170.ev rfl) rfl) rfl rfl fun a174 h174 => ?_
                  refine sl_val h174 (wn rfl) (ex_load (by kernel_rfl) (h174.ev rfl) (S166.cell (i := 1) rfl rfl)) rfl rfl fun a175 h175 => ?_
                  refine sl_val h175 (wn rfl) (ex_sub (h175.ev rfl) (h175.ev rfl) ⟨by omega, by omega⟩) rfl rfl fun a176 h176 => ?_
                  refine sl_val h176 (wn rfl) (ex_field (off := 2) (j := 2) (by kernel_rfl) (h176.ev rfl) rfl) rfl rfl fun a177 h177 => ?_
                  refine sl_val h177 (wn rfl) (ex_load (by kernel_rfl) (h177.ev rfl) (S166.cell (i := 1) rfl rfl)) rfl rfl fun a178 h178 => ?_
                  refine sl_val h178 (wn rfl) (ex_slen Tryz.underlying9 (h178.ev rfl)) rfl rfl fun a179 h179 => ?_
                  refine sl_pure h179 (wn rfl) (ex_call (fun _ _ => by kernel_rfl) (h179.evs rfl) rfl) rfl rfl (hBe _) fun a180 h180 => ?_
                  refine ma h180 rfl rfl fun a181 h181 => ?_
                  refine st_nil (go_then (st_seq (st_reg ?_)))
                  refine mv h181 rfl rfl fun a182 h182 => ?_
                  refine sl_pure h182 (wn rfl) (ex_call (fun _ _ => by kernel_rfl) (h182.evs rfl) rfl) rfl rfl (hCe _) fun a183 h183 => ?_
                  refine sl_val h183 (wn rfl) (ex_field (off := 8) (j := 8) (by kernel_rfl) (h183.ev rfl) rfl) rfl rfl fun a184 h184 => ?_
                  refine sl_store h184 (wn rfl) ⟨rfl, rfl⟩ (h184.ev rfl) (h184.ev rfl) rfl (by kernel_rfl) S166 (i := 3) rfl rfl rfl fun X185 S185 => ?_
                  rw [show ((C : Nat) : Int) = nxRs la.o (u.rs ++ [u.y]) from by rw [nxRs_snoc, hC]] at S185
                  refine st_nil (go_then (st_seq (st_reg ?_)))
                  refine mv h184 rfl rfl fun a186 h186 => ?_
                  refine mv h186 rfl rfl fun a187 h187 => ?_
                  refine mv h187 rfl rfl fun a188 h188 => ?_
                  refine mv h188 rfl rfl fun a189 h189 => ?_
                  refine sl_val h189 (wn rfl) (ex_field (off := 1) (j := 1) (by kernel_rfl) (h189.ev rfl) rfl) rfl rfl fun a190 h190 => ?_
                  refine sl_val h190 (wn rfl) (ex_load (by kernel_rfl) (h190.ev rfl) (S185.cell (i := 1) rfl rfl)) rfl rfl fun a191 h191 => ?_
                  refine sl_bel h191 (wn rfl) (ex_call (fun _ _ => by kernel_rfl) (h191.evs rfl) rfl) rfl rfl S185 (hS2 _) fun a192 X192 h192 S192 => ?_
                  refine mv h192 rfl rfl fun a193 h193 => ?_
                  refine sl_val (v := recV y1) h193 (wn rfl) (ex_extract (h193.ev rfl) rfl) rfl rfl fun a194 h194 => ?_
                  refine sl_val h194 (wn rfl) (ex_extract (h194.ev rfl) rfl) rfl rfl fun a195 h195 => ?_
                  refine sl_new h195 (wn rfl) (f := fun b => .pointer (some ⟨b, 0, none⟩)) (ex_alloc (z := .agg #[.int .i64 0, .int .i64 0, .string ⟨#[]⟩]) (by kernel_rfl)) rfl rfl S192 fun b15 a196 X196 gb15 h196 S196 => ?_
                  refine sl_store0 h196 (wn rfl) ⟨rfl, rfl⟩ (h196.ev rfl) (h196.ev rfl) rfl (by kernel_rfl) S196 (i := 0) rfl rfl rfl fun X197 S197 => ?_
                  refine ma h196 rfl rfl fun a198 h198 => ?_
                  refine st_nil (go_then (st_seq (st_reg ?_)))
                  refine mv h198 rfl rfl fun a199 h199 => ?_
                  refine mv h199 rfl rfl fun a200 h200 => ?_
                  apply sl_and h200 S197 150 rfl 11 161
                  case ht =>
                   intro gc150
                   refine sl_val h200 (wanted_yes h200 _ rfl rfl rfl gc150) (ex_move (h200.ev rfl)) rfl rfl fun a201 h201 => ?_
                   refine sl_val h201 (wanted_yes h201 _ rfl rfl rfl gc150) (ex_rem (h201.ev rfl) (h201.ev rfl) (by omega)) rfl rfl fun a202 h202 => ?_
                   refine sl_val h202 (wanted_yes h202 _ rfl rfl rfl gc150) (ex_eql (h202.ev rfl) (h202.ev rfl)) rfl rfl fun a203 h203 => ?_
                   refine sl_val h203 (wanted_yes h203 _ rfl rfl rfl gc150) (ex_move (h203.ev rfl)) rfl rfl fun a204 h204 => ?_
                   apply sl_or h204 S197 154 rfl 6 160
                   case hf =>
                    intro gc154
                    refine sl_val h204 (wanted_yes h204 _ rfl rfl rfl gc154) (ex_field (off := 1) (j := 1) (by kernel_rfl) (h204.ev rfl) rfl) rfl rfl fun a205 h205 => ?_
                    refine sl_val h205 (wanted_yes h205 _ rfl rfl rfl gc154) (ex_load (by kernel_rfl) (h205.ev rfl) (S197.cell (i := 0) rfl rfl)) rfl rfl fun a206 h206 => ?_
                    refine sl_val h206 (wanted_yes h206 _ rfl rfl rfl gc154) (ex_field (off := 1) (j := 1) (by kernel_rfl) (h206.ev rfl) rfl) rfl rfl fun a207 h207 => ?_
                    refine sl_val h207 (wanted_yes h207 _ rfl rfl rfl gc154) (ex_load (by kernel_rfl) (h207.ev rfl) (S197.cell (i := 2) rfl rfl)) rfl rfl fun a208 h208 => ?_
                    refine sl_val h208 (wanted_yes h208 _ rfl rfl rfl gc154) (ex_eql (h208.ev rfl) (h208.ev rfl)) rfl rfl fun a209 h209 => ?_
                    refine sl_val h209 (wanted_yes h209 _ rfl rfl rfl gc150) (ex_pick_f (h209.ev rfl) gc154 (h209.ev rfl)) rfl rfl fun a210 h210 => ?_
                    exact st_nil ⟨h210.mid (m := [(_, _), (_, _), (_, _), (_, _), (_, _)]) rfl, S197⟩
                   case ht =>
                    intro gc154
                    refine sl_no h204 (wanted_no h204 _ rfl rfl rfl gc154) rfl rfl fun a211 h211 => ?_
                    refine sl_no h211 (wanted_no h211 _ rfl rfl rfl gc154) rfl rfl fun a212 h212 => ?_
                    refine sl_no h212 (wanted_no h212 _ rfl rfl rfl gc154) rfl rfl fun a213 h213 => ?_
                    refine sl_no h213 (wanted_no h213 _ rfl rfl rfl gc154) rfl rfl fun a214 h214 => ?_
                    refine sl_no h214 (wanted_no h214 _ rfl rfl rfl gc154) rfl rfl fun a215 h215 => ?_
                    refine sl_val h215 (wanted_yes h215 _ rfl rfl rfl gc150) (ex_pick_t (h215.ev rfl) gc154 (h215.ev rfl)) rfl rfl fun a216 h216 => ?_
                    exact st_nil ⟨h216.mid (m := [(_, _), (_, _), (_, _), (_, _), (_, _)]) rfl, S197⟩
                   case h =>
                    rintro a217 X217 ⟨h217, S217⟩
                    refine sl_val h217 (wn rfl) (ex_pick_t (h217.ev rfl) gc150 (h217.ev rfl)) rfl rfl fun a218 h218 => ?_
                    exact st_nil ⟨h218.mid (m := [(_, _), (_, _), (_, _), (_, _), (_, _)]) rfl, S217⟩
                  case hf =>
                   intro gc150
                   refine sl_no h200 (wanted_no h200 _ rfl rfl rfl gc150) rfl rfl fun a219 h219 => ?_
                   refine sl_no h219 (wanted_no h219 _ rfl rfl rfl gc150) rfl rfl fun a220 h220 => ?_
                   refine sl_no h220 (wanted_no h220 _ rfl rfl rfl gc150) rfl rfl fun a221 h221 => ?_
                   refine sl_no h221 (wanted_no h221 _ rfl rfl rfl gc150) rfl rfl fun a222 h222 => ?_
                   refine sl_no h222 (wanted_not h222 _ rfl rfl rfl) rfl rfl fun a223 h223 => ?_
                   refine sl_no h223 (wanted_not h223 _ rfl rfl rfl) rfl rfl fun a224 h224 => ?_
                   refine sl_no h224 (wanted_not h224 _ rfl rfl rfl) rfl rfl fun a225 h225 => ?_
                   refine sl_no h225 (wanted_not h225 _ rfl rfl rfl) rfl rfl fun a226 h226 => ?_
                   refine sl_no h226 (wanted_not h226 _ rfl rfl rfl) rfl rfl fun a227 h227 => ?_
                   refine sl_no h227 (wanted_no h227 _ rfl rfl rfl gc150) rfl rfl fun a228 h228 => ?_
                   refine sl_val h228 (wn rfl) (ex_pick_f (h228.ev rfl) gc150 (h228.ev rfl)) rfl rfl fun a229 h229 => ?_
                   exact st_nil ⟨h229.mid (m := [(_, _), (_, _), (_, _), (_, _), (_, _), (_, _), (_, _), (_, _), (_, _), (_, _)]) rfl, S197⟩
                  case h =>
                   rintro a230 X230 ⟨h230, S230⟩
                   refine ma h230 rfl rfl fun a231 h231 => ?_
                   refine st_nil (go_then (st_seq (st_seq (st_reg ?_))))
                   refine mv h231 rfl rfl fun a232 h232 => ?_
                   refine sl_val h232 (wn rfl) (ex_not (h232.ev rfl)) rfl rfl fun a233 h233 => ?_
                   refine mv h233 rfl rfl fun a234 h234 => ?_
                   apply sl_and h234 S230 164 rfl 4 168
                   case ht =>
                    intro gc164
                    refine sl_val h234 (wanted_yes h234 _ rfl rfl rfl gc164) (ex_move (h234.ev rfl)) rfl rfl fun a235 h235 => ?_
                    refine sl_val h235 (wanted_yes h235 _ rfl rfl rfl gc164) (ex_rem (h235.ev rfl) (h235.ev rfl) (by omega)) rfl rfl fun a236 h236 => ?_
                    refine sl_val h236 (wanted_yes h236 _ rfl rfl rfl gc164) (ex_neq (h236.ev rfl) (h236.ev rfl)) rfl rfl fun a237 h237 => ?_
                    refine sl_val h237 (wn rfl) (ex_pick_t (h237.ev rfl) gc164 (h237.ev rfl)) rfl rfl fun a238 h238 => ?_
                    exact st_nil ⟨h238.mid (m := [(_, _), (_, _), (_, _)]) rfl, S230⟩
                   case hf =>
                    intro gc164
                    refine sl_no h234 (wanted_no h234 _ rfl rfl rfl gc164) rfl rfl fun a239 h239 => ?_
                    refine sl_no h239 (wanted_no h239 _ rfl rfl rfl gc164) rfl rfl fun a240 h240 => ?_
                    refine sl_no h240 (wanted_no h240 _ rfl rfl rfl gc164) rfl rfl fun a241 h241 => ?_
                    refine sl_val h241 (wn rfl) (ex_pick_f (h241.ev rfl) gc164 (h241.ev rfl)) rfl rfl fun a242 h242 => ?_
                    exact st_nil ⟨h242.mid (m := [(_, _), (_, _), (_, _)]) rfl, S230⟩
                   case h =>
                    rintro a243 X243 ⟨h243, S243⟩
                    refine st_nil (go_then ?_)
                    refine st_if (h243.ev rfl) (fun hc9 => ?_) (fun hc9 => ?_)
                    · skip
                      have hno1 : (i1 && (B % 448 == (0 : Int) || y1.s == u.y.s)) = false ∧ ¬ ((B : Int) % 448 = 0) := by
                        simp only [Bool.and_eq_true, Bool.not_eq_true', bne_iff_ne, ne_eq] at hc9
                        exact hc9
                      rw [if_neg (by rw [hno1.1]; decide), if_neg hno1.2] at haf
                      let yn : RecP := y2
                      have hz2 : ∀ z, afIn s pg la.s u.y = some z → y2 = z := fun z hz => by
                        rw [haf] at hz
                        split at hz
                        · injection hz
                        · cases hz
                      refine st_seq ?_
                      apply dr_flowA (m := 11) h243 (St.domAt S243 (i := 0) rfl) 0 [false, false, false, false, false, false, false, false, false, false, false, true] _ (by kernel_rfl)
                      case h =>
                       refine sq_val h243 (wn rfl) rfl rfl (fun X hX => (ex_move (h243.ev rfl))) fun a244 h244 => ?_
                       refine sq_val h244 (wn rfl) rfl rfl (fun X hX => (ex_move (h244.ev rfl))) fun a245 h245 => ?_
                       refine sq_val h245 (wn rfl) rfl rfl (fun X hX => (ex_move (h245.ev rfl))) fun a246 h246 => ?_
                       refine sq_val h246 (wn rfl) rfl rfl (fun X hX => (ex_move (h246.ev rfl))) fun a247 h247 => ?_
                       refine sq_pure h247 (wn rfl) rfl rfl (fun X => (ex_call (fun _ _ => by kernel_rfl) (h247.evs rfl) rfl)) (fun X hX => hCe _) fun a248 h248 => ?_
                       refine sq_val h248 (wn rfl) rfl rfl (fun X hX => (ex_field (off := 1) (j := 1) (by kernel_rfl) (h248.ev rfl) rfl)) fun a249 h249 => ?_
                       refine sq_val h249 (wn rfl) rfl rfl (fun X hX => (ex_load (by kernel_rfl) (h249.ev rfl) ((S243.growO (i := 0) rfl hX).cell (i := 2) rfl rfl))) fun a250 h250 => ?_
                       refine sq_bel h250 (wn rfl) rfl rfl (fun X => (ex_call (fun _ _ => by kernel_rfl) (h250.evs rfl) rfl)) (fun X hX => hS3 _) fun a251 h251 => ?_
                       refine sq_val h251 (wn rfl) rfl rfl (fun X hX => (ex_move (h251.ev rfl))) fun a252 h252 => ?_
                       refine sq_val (v := recV y2) h252 (wn rfl) rfl rfl (fun X hX => (ex_extract (h252.ev rfl) rfl)) fun a253 h253 => ?_
                       refine sq_val h253 (wn rfl) rfl rfl (fun X hX => (ex_extract (h253.ev rfl) rfl)) fun a254 h254 => ?_
                       refine sq_nil ?_
                       apply na_store (k := 11) (deps := []) (R := IsBox _ _ _) h254 rfl rfl IsBox.stable (fun X hX hΦ => lv_store0 rfl (h254.ev rfl) (h254.ev rfl) rfl (by kernel_rfl) ((S243.grow hX).at_ (i := 0) rfl) rfl rfl)
                       intro vs11
                       refine na_end fun X255 hX255 hΦ255 => ?_
                       have S255 := S243.growBox (i := 0) (v := vs11) rfl hX255 (told_all hΦ255 (k := 11) rfl)
                       refine ma h254 rfl rfl fun a256 h256 => ?_
                       refine st_nil (go_then (st_seq (st_reg ?_)))
                       refine mv h256 rfl rfl fun a257 h257 => ?_
                       refine mv h257 rfl rfl fun a258 h258 => ?_
                       refine mv h258 rfl rfl fun a259 h259 => ?_
                       refine mv h259 rfl rfl fun a260 h260 => ?_
                       refine sl_pure h260 (wn rfl) (ex_call (fun _ _ => by kernel_rfl) (h260.evs rfl) rfl) rfl rfl (rroom_any _ (by omega) _) fun a261 h261 => ?_
                       refine sl_bel h261 (wn rfl) (ex_call (fun _ _ => by kernel_rfl) (h261.evs rfl) rfl) rfl rfl S255 (hR _) fun a262 X262 h262 S262 => ?_
                       refine mv h262 rfl rfl fun a263 h263 => ?_
                       refine sl_val h263 (wn rfl) (ex_extract (h263.ev rfl) rfl) rfl rfl fun a264 h264 => ?_
                       refine sl_val h264 (wn rfl) (ex_extract (h264.ev rfl) rfl) rfl rfl fun a265 h265 => ?_
                       refine sl_val h265 (wn rfl) (ex_extract (h265.ev rfl) rfl) rfl rfl fun a266 h266 => ?_
                       refine sl_val h266 (wn rfl) (ex_extract (h266.ev rfl) rfl) rfl rfl fun a267 h267 => ?_
                       refine ma h267 rfl rfl fun a268 h268 => ?_
                       refine ma h268 rfl rfl fun a269 h269 => ?_
                       refine ma h269 rfl rfl fun a270 h270 => ?_
                       refine ma h270 rfl rfl fun a271 h271 => ?_
                       refine st_nil (go_then (st_reg ?_))
                       refine mv h271 rfl rfl fun a272 h272 => ?_
                       refine mv h272 rfl rfl fun a273 h273 => ?_
                       apply sl_and h273 S262 192 rfl 12 204
                       case ht =>
                        intro gc192
                        refine sl_val h273 (wanted_yes h273 _ rfl rfl rfl gc192) (ex_field (off := 1) (j := 1) (by kernel_rfl) (h273.ev rfl) rfl) rfl rfl fun a274 h274 => ?_
                        refine sl_val h274 (wanted_yes h274 _ rfl rfl rfl gc192) (ex_load (by kernel_rfl) (h274.ev rfl) (S262.cell (i := 0) rfl rfl)) rfl rfl fun a275 h275 => ?_
                        refine sl_val h275 (wanted_yes h275 _ rfl rfl rfl gc192) (ex_field (off := 1) (j := 1) (by kernel_rfl) (h275.ev rfl) rfl) rfl rfl fun a276 h276 => ?_
                        refine sl_val h276 (wanted_yes h276 _ rfl rfl rfl gc192) (ex_load (by kernel_rfl) (h276.ev rfl) (S262.cell (i := 2) rfl rfl)) rfl rfl fun a277 h277 => ?_
                        refine sl_val h277 (wanted_yes h277 _ rfl rfl rfl gc192) (ex_gtr (h277.ev rfl) (h277.ev rfl)) rfl rfl fun a278 h278 => ?_
                        refine sl_val h278 (wanted_yes h278 _ rfl rfl rfl gc192) (ex_move (h278.ev rfl)) rfl rfl fun a279 h279 => ?_
                        apply sl_or h279 S262 198 rfl 5 203
                        case hf =>
                         intro gc198
                         refine sl_val h279 (wanted_yes h279 _ rfl rfl rfl gc198) (ex_move (h279.ev rfl)) rfl rfl fun a280 h280 => ?_
                         refine sl_val h280 (wanted_yes h280 _ rfl rfl rfl gc198) (ex_move (h280.ev rfl)) rfl rfl fun a281 h281 => ?_
                         refine sl_val h281 (wanted_yes h281 _ rfl rfl rfl gc198) (ex_rem (h281.ev rfl) (h281.ev rfl) (by omega)) rfl rfl fun a282 h282 => ?_
                         refine sl_val h282 (wanted_yes h282 _ rfl rfl rfl gc198) (ex_eql (h282.ev rfl) (h282.ev rfl)) rfl rfl fun a283 h283 => ?_
                         refine sl_val h283 (wanted_yes h283 _ rfl rfl rfl gc192) (ex_pick_f (h283.ev rfl) gc198 (h283.ev rfl)) rfl rfl fun a284 h284 => ?_
                         exact st_nil ⟨h284.mid (m := [(_, _), (_, _), (_, _), (_, _)]) rfl, S262⟩
                        case ht =>
                         intro gc198
                         refine sl_no h279 (wanted_no h279 _ rfl rfl rfl gc198) rfl rfl fun a285 h285 => ?_
                         refine sl_no h285 (wanted_no h285 _ rfl rfl rfl gc198) rfl rfl fun a286 h286 => ?_
                         refine sl_no h286 (wanted_no h286 _ rfl rfl rfl gc198) rfl rfl fun a287 h287 => ?_
                         refine sl_no h287 (wanted_no h287 _ rfl rfl rfl gc198) rfl rfl fun a288 h288 => ?_
                         refine sl_val h288 (wanted_yes h288 _ rfl rfl rfl gc192) (ex_pick_t (h288.ev rfl) gc198 (h288.ev rfl)) rfl rfl fun a289 h289 => ?_
                         exact st_nil ⟨h289.mid (m := [(_, _), (_, _), (_, _), (_, _)]) rfl, S262⟩
                        case h =>
                         rintro a290 X290 ⟨h290, S290⟩
                         refine sl_val h290 (wn rfl) (ex_pick_t (h290.ev rfl) gc192 (h290.ev rfl)) rfl rfl fun a291 h291 => ?_
                         exact st_nil ⟨h291.mid (m := [(_, _), (_, _), (_, _), (_, _), (_, _), (_, _), (_, _)]) rfl, S290⟩
                       case hf =>
                        intro gc192
                        refine sl_no h273 (wanted_no h273 _ rfl rfl rfl gc192) rfl rfl fun a292 h292 => ?_
                        refine sl_no h292 (wanted_no h292 _ rfl rfl rfl gc192) rfl rfl fun a293 h293 => ?_
                        refine sl_no h293 (wanted_no h293 _ rfl rfl rfl gc192) rfl rfl fun a294 h294 => ?_
                        refine sl_no h294 (wanted_no h294 _ rfl rfl rfl gc192) rfl rfl fun a295 h295 => ?_
                        refine sl_no h295 (wanted_no h295 _ rfl rfl rfl gc192) rfl rfl fun a296 h296 => ?_
                        refine sl_no h296 (wanted_no h296 _ rfl rfl rfl gc192) rfl rfl fun a297 h297 => ?_
                        refine sl_no h297 (wanted_not h297 _ rfl rfl rfl) rfl rfl fun a298 h298 => ?_
                        refine sl_no h298 (wanted_not h298 _ rfl rfl rfl) rfl rfl fun a299 h299 => ?_
                        refine sl_no h299 (wanted_not h299 _ rfl rfl rfl) rfl rfl fun a300 h300 => ?_
                        refine sl_no h300 (wanted_not h300 _ rfl rfl rfl) rfl rfl fun a301 h301 => ?_
                        refine sl_no h301 (wanted_no h301 _ rfl rfl rfl gc192) rfl rfl fun a302 h302 => ?_
                        refine sl_val h302 (wn rfl) (ex_pick_f (h302.ev rfl) gc192 (h302.ev rfl)) rfl rfl fun a303 h303 => ?_
                        exact st_nil ⟨h303.mid (m := [(_, _), (_, _), (_, _), (_, _), (_, _), (_, _), (_, _), (_, _), (_, _), (_, _), (_, _)]) rfl, S262⟩
                       case h =>
                        rintro a304 X304 ⟨h304, S304⟩
                        refine ma h304 rfl rfl fun a305 h305 => ?_
                        rw [show (i2 && (decide (y2.s > u.y.s) || u5 == (B : Int) % 448)) = (afIn s pg la.s u.y).isSome from by rw [haf]; cases (i2 && (decide (y2.s > u.y.s) || u5 == (B : Int) % 448)) <;> rfl] at h305
                        refine st_nil (go_then (st_reg ?_))
                        refine sl_val (v := recV yn) h305 (wn rfl) (ex_loads (by kernel_rfl) (by kernel_rfl) (h305.ev rfl) (S304.cellsAll (i := 0) rfl)) rfl rfl fun a306 h306 => ?_
                        refine sl_store0 h306 (wn rfl) ⟨rfl, rfl⟩ (h306.ev rfl) (h306.ev rfl) rfl (by kernel_rfl) S304 (i := 2) rfl rfl rfl fun X307 S307 => ?_
                        refine st_nil (go_block (go_then ?_))
                        exact ⟨⟨b13, y2, afIn s pg la.s u.y, u.rs ++ [u.y], A122, c122, []⟩, (by show 101 - (u.rs ++ [u.y]).length < 101 - u.rs.length; simp; omega), ⟨hF1.1.next hcur hl100 b13 y2 hz2 A122 c122 [], fun z hz => af_mod hz⟩, h306.re ⟨rfl, rfl, rfl, rfl, rfl, rfl, rfl, rfl, trivial⟩, S307.sub (.cons _ (.cons _ (.cons_cons _ (.cons_cons _ (.cons_cons _ (.cons_cons _ (.cons_cons _ .slnil)))))))⟩
                      case hB => kernel_rfl
                      case hst => rfl
                    · skip
                      have hz12 : (i1 && (B % 448 == (0 : Int) || y1.s == u.y.s)) = (afIn s pg la.s u.y).isSome ∧ ∀ z, afIn s pg la.s u.y = some z → y1 = z := by
                        rw [haf]
                        by_cases h1 : (i1 && (B % 448 == (0 : Int) || y1.s == u.y.s)) = true
                        · rw [if_pos h1, h1]; exact ⟨rfl, fun z hz => by injection hz⟩
                        · rw [if_neg h1]
                          have h2 : (B : Int) % 448 = 0 := by
                            simp only [Bool.and_eq_false_iff, Bool.not_eq_false', bne_eq_false_iff_eq] at hc9
                            rcases hc9 with h | h
                            · exact absurd h h1
                            · exact h
                          rw [if_pos h2]
                          exact ⟨by simpa using h1, fun z hz => by cases hz⟩
                      have hz1 := hz12.2
                      let yn : RecP := y1
                      rw [hz12.1] at h243
                      refine wp_skip (go_then (st_reg ?_))
                      refine sl_val (v := recV yn) h243 (wn rfl) (ex_loads (by kernel_rfl) (by kernel_rfl) (h243.ev rfl) (S243.cellsAll (i := 0) rfl)) rfl rfl fun a308 h308 => ?_
                      refine sl_store0 h308 (wn rfl) ⟨rfl, rfl⟩ (h308.ev rfl) (h308.ev rfl) rfl (by kernel_rfl) S243 (i := 2) rfl rfl rfl fun X309 S309 => ?_
                      refine st_nil (go_block (go_then ?_))
                      exact ⟨⟨b13, y1, afIn s pg la.s u.y, u.rs ++ [u.y], A122, c122, []⟩, (by show 101 - (u.rs ++ [u.y]).length < 101 - u.rs.length; simp; omega), ⟨hF1.1.next hcur hl100 b13 y1 hz1 A122 c122 [], fun z hz => af_mod hz⟩, h308.re ⟨rfl, rfl, rfl, rfl, rfl, rfl, rfl, rfl, trivial⟩, S309.sub (.cons _ (.cons _ (.cons_cons _ (.cons_cons _ (.cons_cons _ (.cons_cons _ (.cons_cons _ .slnil)))))))⟩
              · skip
                have hcur : u.cur = none := by
                  cases h : u.cur with
                  | none => rfl
                  | some z => rw [h] at hc7; cases hc7
                have hul : u.rs.length ≤ 1000 := by have := hF1.1.len; omega
                have hu6 := hF1.1.i6
                have hinV : inV s = (⟨pg, la, ea, u.rs, nxRs la.o u.rs⟩, 0) := by
                  have hall := hF1.1.all
                  rw [hcur] at hall
                  have hall2 : allIn s pg la.s 100 (rcIn s pg la.s (la.o - 1) 0) = some u.rs := by
                    refine Eq.trans hall ?_
                    show (allIn s pg la.s (100 - u.rs.length) none).map _ = _
                    rw [allIn_none]; simp
                  unfold inV
                  rw [if_neg (by rintro (h | h); exact h hgood.1; exact h hgood.2), hpg, hrs]
                  simp only
                  rw [hall2]
                  rfl
                obtain ⟨g1, g2⟩ := in_good hinV
                refine wp_exit ?_
                refine go_exit_then ?_
                refine go_exit_then ?_
                refine go_exit ?_
                refine go_then (st_seq (st_seq (st_reg ?_)))
                refine sl_val (v := ringV ⟨pg, la, ea, u.rs, nxRs la.o u.rs⟩ u.A u.c) h159 (wn rfl) (ex_loads (by kernel_rfl) (by kernel_rfl) (h159.ev rfl) (S158.cellsAll (i := 2) rfl)) rfl rfl fun a310 h310 => ?_
                refine sl_bel h310 (wn rfl) (ex_call (fun _ _ => by kernel_rfl) (h310.evs rfl) rfl) rfl rfl S158 (rRingErr_any ⟨pg, la, ea, u.rs, nxRs la.o u.rs⟩ u.A u.c _ (S158.rdOf (i := 1) rfl) hul hu6) fun a311 X311 h311 S311 => ?_
                refine ma h311 rfl rfl fun a312 h312 => ?_
                refine st_nil (go_then (st_seq (st_reg ?_)))
                refine mv h312 rfl rfl fun a313 h313 => ?_
                refine sl_val h313 (wn rfl) (ex_neq (h313.ev rfl) (h313.ev rfl)) rfl rfl fun a314 h314 => ?_
                refine st_nil (go_then ?_)
                refine st_if (h314.ev rfl) (fun hc10 => ?_) (fun hc10 => ?_)
                · skip
                  have hne : ¬ (chkR ⟨pg, la, ea, u.rs, nxRs la.o u.rs⟩).2 = 0 := by simpa using hc10
                  rw [if_neg hne] at g2
                  refine st_seq (st_reg ?_)
                  refine sl_val h314 (wn rfl) (ex_loads (by kernel_rfl) (by kernel_rfl) (h314.ev rfl) (S311.cellsAll (i := 3) rfl)) rfl rfl fun a315 h315 => ?_
                  refine mv h315 rfl rfl fun a316 h316 => ?_
                  refine sl_store0 h316 (wn rfl) ⟨rfl, rfl⟩ (h316.ev rfl) (h316.ev rfl) rfl (by kernel_rfl) S311 (i := 4) rfl rfl rfl fun X317 S317 => ?_
                  refine ma h316 rfl rfl fun a318 h318 => ?_
                  refine st_nil (go_then (wp_ret (ret_then ?_)))
                  refine finct h318 rfl rfl rfl S317 (i := 4) rfl (by kernel_rfl) (by kernel_rfl) ?_
                  rw [g1, g2]
                  exact ⟨none, 0, rfl, World.ownsRow_nil _ _ _ _, S317.below⟩
                · skip
                  have hz : (chkR ⟨pg, la, ea, u.rs, nxRs la.o u.rs⟩).2 = 0 := by simpa using hc10
                  rw [if_pos hz] at g2
                  rw [hz] at g1
                  refine wp_skip (go_then (st_seq (st_reg ?_)))
                  refine sl_val h314 (wn rfl) (ex_loads (by kernel_rfl) (by kernel_rfl) (h314.ev rfl) (S311.cellsAll (i := 2) rfl)) rfl rfl fun a319 h319 => ?_
                  refine sl_store0 h319 (wn rfl) ⟨rfl, rfl⟩ (h319.ev rfl) (h319.ev rfl) rfl (by kernel_rfl) S311 (i := 4) rfl rfl rfl fun X320 S320 => ?_
                  refine ma h319 rfl rfl fun a321 h321 => ?_
                  refine st_nil (go_then (wp_ret ?_))
                  refine finct h321 rfl rfl rfl S320 (i := 4) rfl (by kernel_rfl) (by kernel_rfl) ?_
                  rw [g1, g2]
                  exact ⟨u.A, u.c, rfl, S320.ownB (i := 1) rfl, S320.below⟩
            · skip
              have hno : rcIn s pg la.s (la.o - 1) 0 = none := by
                unfold rcIn
                rw [if_pos]
                simp only [Bool.and_eq_false_iff, decide_eq_false_iff_not, beq_eq_false_iff_ne] at hc6
                omega
              let u : RiS := ⟨0, rec0, none, [], none, 0, []⟩
              have hinV : inV s = (⟨pg, la, ea, u.rs, nxRs la.o u.rs⟩, 0) := by
                unfold inV
                rw [if_neg (by rintro (h | h); exact h hgood.1; exact h hgood.2), hpg, hrs]
                simp only
                rw [hno, allIn_none]
                rfl
              have hu6 : ∀ x ∈ u.rs, I6 x.l := fun x hx => by cases hx
              have hul : u.rs.length ≤ 1000 := Nat.zero_le _
              obtain ⟨g1, g2⟩ := in_good hinV
              refine wp_skip (go_then (st_seq (st_seq (st_reg ?_))))
              refine sl_val (v := ringV ⟨pg, la, ea, u.rs, nxRs la.o u.rs⟩ u.A u.c) h146 (wn rfl) (ex_loads (by kernel_rfl) (by kernel_rfl) (h146.ev rfl) (S146.cellsAll (i := 1) rfl)) rfl rfl fun a322 h322 => ?_
              refine sl_bel h322 (wn rfl) (ex_call (fun _ _ => by kernel_rfl) (h322.evs rfl) rfl) rfl rfl S146 (rRingErr_any ⟨pg, la, ea, u.rs, nxRs la.o u.rs⟩ u.A u.c _ (S146.rdOf (i := 0) rfl) hul hu6) fun a323 X323 h323 S323 => ?_
              refine ma h323 rfl rfl fun a324 h324 => ?_
              refine st_nil (go_then (st_seq (st_reg ?_)))
              refine mv h324 rfl rfl fun a325 h325 => ?_
              refine sl_val h325 (wn rfl) (ex_neq (h325.ev rfl) (h325.ev rfl)) rfl rfl fun a326 h326 => ?_
              refine st_nil (go_then ?_)
              refine st_if (h326.ev rfl) (fun hc10 => ?_) (fun hc10 => ?_)
              · skip
                have hne : ¬ (chkR ⟨pg, la, ea, u.rs, nxRs la.o u.rs⟩).2 = 0 := by simpa using hc10
                rw [if_neg hne] at g2
                refine st_seq (st_reg ?_)
                refine sl_val h326 (wn rfl) (ex_loads (by kernel_rfl) (by kernel_rfl) (h326.ev rfl) (S323.cellsAll (i := 2) rfl)) rfl rfl fun a327 h327 => ?_
                refine mv h327 rfl rfl fun a328 h328 => ?_
                refine sl_store0 h328 (wn rfl) ⟨rfl, rfl⟩ (h328.ev rfl) (h328.ev rfl) rfl (by kernel_rfl) S323 (i := 3) rfl rfl rfl fun X329 S329 => ?_
                refine ma h328 rfl rfl fun a330 h330 => ?_
                refine st_nil (go_then (wp_ret (ret_then ?_)))
                refine finct h330 rfl rfl rfl S329 (i := 3) rfl (by kernel_rfl) (by kernel_rfl) ?_
                rw [g1, g2]
                exact ⟨none, 0, rfl, World.ownsRow_nil _ _ _ _, S329.below⟩
              · skip
                have hz : (chkR ⟨pg, la, ea, u.rs, nxRs la.o u.rs⟩).2 = 0 := by simpa using hc10
                rw [if_pos hz] at g2
                rw [hz] at g1
                refine wp_skip (go_then (st_seq (st_reg ?_)))
                refine sl_val h326 (wn rfl) (ex_loads (by kernel_rfl) (by kernel_rfl) (h326.ev rfl) (S323.cellsAll (i := 1) rfl)) rfl rfl fun a331 h331 => ?_
                refine sl_store0 h331 (wn rfl) ⟨rfl, rfl⟩ (h331.ev rfl) (h331.ev rfl) rfl (by kernel_rfl) S323 (i := 3) rfl rfl rfl fun X332 S332 => ?_
                refine ma h331 rfl rfl fun a333 h333 => ?_
                refine st_nil (go_then (wp_ret ?_))
                refine finct h333 rfl rfl rfl S332 (i := 3) rfl (by kernel_rfl) (by kernel_rfl) ?_
                rw [g1, g2]
                exact ⟨u.A, u.c, rfl, S332.ownB (i := 0) rfl, S332.below⟩
end Go.Proofs.YtmlilplbdpjfcaaGreatDoor
