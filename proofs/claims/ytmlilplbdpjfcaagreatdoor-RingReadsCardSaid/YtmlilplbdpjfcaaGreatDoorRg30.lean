/-
  Chapter 20: the reference's reading: a page that is right, bytes of the stream, a standing record.
-/
import Derived.Test.YtmlilplbdpjfcaaGreatDoorRg26
namespace Go.Proofs.YtmlilplbdpjfcaaGreatDoor
set_option linter.unusedVariables false
set_option linter.unusedSimpArgs false
set_option maxRecDepth 4000
open Go.RowKit Go.Sort
theorem fin4 {P : Program} {fn : Func} {R : Ending → World → Prop} {a : Act} {X : World} {N : Nat} {l : List (Nat × Value)} {t u r q : Nat} {v x y z : Value} (ha : Has a N l) (hr : fn.results = #[.tmp t, .tmp u, .tmp r, .tmp q]) (hv : look l t = some v) (hx : look l u = some x) (hy : look l r = some y) (hz : look l q = some z) (h : R (.returned (.tuple #[v, x, y, z])) X) : bodyPost P fn R .ret a X :=
  ⟨ha.defers, _, by have h1 := ha.getD hv; have h2 := ha.getD hx; have h3 := ha.getD hy; have h4 := ha.getD hz; simp only [Array.getD_eq_getD_getElem?] at h1 h2 h3 h4; simp [results, hr, h1, h2, h3, h4], h⟩
theorem rPageOf_any (q pg : Nat) (hpg : 4 ≤ pg ∧ pg ≤ 1000000) (hq : q < 4294967296) (w : World) : Calls Tryz.prog 98 #[.int .i64 q, .int .i64 pg] w fun e w' => e = .returned (.int .i64 ((2 + q % (pg - 2) : Nat) : Int)) ∧ w = w' := by
  have hm := Nat.mod_lt q (show 0 < pg - 2 by omega)
  have e1 : (q : Int) % ((pg : Int) - 2) = ((q % (pg - 2) : Nat) : Int) := by rw [show ((pg : Int) - 2) = ((pg - 2 : Nat) : Int) by omega]; exact (Int.natCast_emod _ _).symm
  refine st_enter (N := 10) Tryz.func98 rfl rfl rfl (fun a0 h0 => ?_)
  have S0 := St.init w
  refine st_seq (st_reg ?_)
  refine ma h0 rfl rfl fun a1 h1 => ?_
  refine st_nil (go_then (st_seq (st_reg ?_)))
  refine mv h1 rfl rfl fun a2 h2 => ?_
  refine mv h2 rfl rfl fun a3 h3 => ?_
  refine sl_val h3 (wn rfl) (ex_sub (h3.ev rfl) (h3.ev rfl) (by omega)) rfl rfl fun a4 h4 => ?_
  refine sl_val h4 (wn rfl) (as_val (v' := .int .i64 ((q % (pg - 2) : Nat) : Int)) (congrArg _ e1) (ex_rem (h4.ev rfl) (h4.ev rfl) (by omega))) rfl rfl fun a5 h5 => ?_
  refine sl_val h5 (wn rfl) (ex_add (h5.ev rfl) (h5.ev rfl) (by omega)) rfl rfl fun a6 h6 => ?_
  refine ma h6 rfl rfl fun a7 h7 => ?_
  refine st_nil (go_then (wp_ret ?_))
  refine fin1 h7 rfl rfl ?_
  exact ⟨rfl, rfl⟩
theorem rUsn_any (q s pg : Int) (hq : 0 ≤ q ∧ q < 4294967296) (hs : 0 ≤ s ∧ s < 4294967296) (hpg : 4 ≤ pg ∧ pg ≤ 1000000) (w : World) : Calls Tryz.prog 102 #[.int .i64 q, .int .i64 s, .int .i64 pg] w fun e w' => e = .returned (.int .i64 (usnP q s pg)) ∧ w = w' := by
  have h1 : 0 ≤ q / (pg - 2) := Int.ediv_nonneg hq.1 (by omega)
  have h2 : q / (pg - 2) ≤ q := Int.ediv_le_self _ hq.1
  refine st_enter (N := 15) Tryz.func102 rfl rfl rfl (fun a0 h0 => ?_)
  have S0 := St.init w
  refine st_seq (st_reg ?_)
  refine ma h0 rfl rfl fun a1 h1 => ?_
  refine st_nil (go_then (st_seq (st_reg ?_)))
  refine mv h1 rfl rfl fun a2 h2 => ?_
  refine mv h2 rfl rfl fun a3 h3 => ?_
  refine sl_val h3 (wn rfl) (ex_sub (h3.ev rfl) (h3.ev rfl) (by omega)) rfl rfl fun a4 h4 => ?_
  refine sl_val h4 (wn rfl) (ex_quo (h4.ev rfl) (h4.ev rfl) (by omega)) rfl rfl fun a5 h5 => ?_
  refine mv h5 rfl rfl fun a6 h6 => ?_
  refine sl_val h6 (wn rfl) (ex_add (h6.ev rfl) (h6.ev rfl) (by omega)) rfl rfl fun a7 h7 => ?_
  refine sl_val h7 (wn rfl) (ex_rem (h7.ev rfl) (h7.ev rfl) (by omega)) rfl rfl fun a8 h8 => ?_
  refine sl_val h8 (wn rfl) (ex_add (h8.ev rfl) (h8.ev rfl) (by omega)) rfl rfl fun a9 h9 => ?_
  refine ma h9 rfl rfl fun a10 h10 => ?_
  refine st_nil (go_then (wp_ret ?_))
  refine fin1 h10 rfl rfl ?_
  exact ⟨rfl, rfl⟩
theorem bs_ne (l : List UInt8) (a b c d : UInt8) : decide (bs l = (⟨#[a, b, c, d]⟩ : ByteArray)) = (l == [a, b, c, d]) := by
  rw [Bool.eq_iff_iff, decide_eq_true_eq, beq_iff_eq]
  constructor
  · intro h
    have := congrArg bl h
    rw [bl_bs] at this
    exact this
  · intro h; rw [h]; rfl
theorem gt_not (a b : Int) : decide (a > b) = !decide (a ≤ b) := by rw [← decide_not]; exact decide_eq_decide.2 (by omega)
attribute [local irreducible] nAt opL opB
def rtT (s : List UInt8) (pg : Nat) (top : Int) (q : Nat) : Int × Int × List UInt8 × Bool := match rtIn s pg top q with
  | none => (0, 0, [], false)
  | some (u, t, c) => (u, t, c, true)
theorem rright_any (s : List UInt8) (pg : Nat) (top : Int) (q : Nat) (hs : s.length = 512 * pg) (hpg : 4 ≤ pg ∧ pg ≤ 40) (hq : q < 4294967296) (htop : top < 4294967296) (w : World) :
    Calls Tryz.prog 74 #[.string (bs s), .int .i64 pg, .int .i64 top, .int .i64 q] w fun e w' => e = .returned (.tuple #[.int .i64 (rtT s pg top q).1, .int .i64 (rtT s pg top q).2.1, .string (bs (rtT s pg top q).2.2.1), .bool (rtT s pg top q).2.2.2]) ∧ Below w.heap.size w w' := by
  have hsz := bs_size s
  obtain ⟨K, hK⟩ : ∃ K, K = 2 + q % (pg - 2) := ⟨_, rfl⟩
  have hKl : K < pg := by rw [hK]; exact room_lt hpg.1
  have hP : ∀ w, Calls Tryz.prog 98 #[.int .i64 q, .int .i64 pg] w fun e w' => e = .returned (.int .i64 (K : Int)) ∧ w = w' := fun w => by
    rw [hK]; exact rPageOf_any q pg (by omega) hq w
  obtain ⟨b, hb⟩ : ∃ b, b = blkL s K := ⟨_, rfl⟩
  have hbl : b.length = 512 := by rw [hb]; exact blkL_length hs hKl
  have hol := opL_length hbl
  have hbsz := bs_size (opL b)
  have n12 := nAt_bd (opL b) 12 2
  have n14 := nAt_bd (opL b) 14 4
  simp only [Int.reducePow] at n12 n14
  have hrt : rtT s pg top q = if opB b = false then (0, 0, [], false) else if rtB b pg top q then (nAt (opL b) 12 2, nAt (opL b) 14 4, (opL b).drop 64, true) else (0, 0, [], false) := by
    unfold rtT rtIn
    rw [← hK, ← hb]
    split
    · rename_i h; split at h
      · rw [if_pos (by assumption)]
      · split at h
        · cases h
        · rw [if_neg (by assumption), if_neg (by assumption)]
    · rename_i u t c h
      split at h
      · cases h
      · split at h
        · injection h with h; injection h with h1 h2; injection h2 with h2 h3
          rw [if_neg (by assumption), if_pos (by assumption), h1, h2, h3]
        · cases h
  refine st_enter (N := 89) Tryz.func74 rfl rfl rfl (fun a0 h0 => ?_)
  have S0 := St.init w
  refine st_seq (st_reg ?_)
  refine ma h0 rfl rfl fun a1 h1 => ?_
  refine ma h1 rfl rfl fun a2 h2 => ?_
  refine ma h2 rfl rfl fun a3 h3 => ?_
  refine ma h3 rfl rfl fun a4 h4 => ?_
  refine st_nil (go_then (st_seq (st_reg ?_)))
  refine mv h4 rfl rfl fun a5 h5 => ?_
  refine mv h5 rfl rfl fun a6 h6 => ?_
  refine sl_pure h6 (wn rfl) (ex_call (fun _ _ => by kernel_rfl) (h6.evs rfl) rfl) rfl rfl (hP _) fun a7 h7 => ?_
  refine sl_val h7 (wn rfl) (as_val (v' := .int .i64 ((512 * K : Nat) : Int)) (congrArg _ (by push_cast; omega)) (ex_mul (h7.ev rfl) (h7.ev rfl) (by omega))) rfl rfl fun a8 h8 => ?_
  refine ma h8 rfl rfl fun a9 h9 => ?_
  refine st_nil (go_then (st_seq (st_reg ?_)))
  refine mv h9 rfl rfl fun a10 h10 => ?_
  refine mv h10 rfl rfl fun a11 h11 => ?_
  refine mv h11 rfl rfl fun a12 h12 => ?_
  refine sl_val h12 (wn rfl) (as_val (v' := .int .i64 ((512 * K + 512 : Nat) : Int)) (congrArg _ (by push_cast; omega)) (ex_add (h12.ev rfl) (h12.ev rfl) (by omega))) rfl rfl fun a13 h13 => ?_
  refine sl_val h13 (wn rfl) (as_val (v' := .string (bs b)) (congrArg _ (by rw [bs_extract, Nat.add_sub_cancel_left, hb]; rfl)) (ex_sslice (l := (512 * K)) (h := (512 * K + 512)) Tryz.underlying9 (h13.ev rfl) (h13.ev rfl) (h13.ev rfl) (by omega) (by omega))) rfl rfl fun a14 h14 => ?_
  refine ma h14 rfl rfl fun a15 h15 => ?_
  refine st_nil (go_then (st_seq (st_reg ?_)))
  refine mv h15 rfl rfl fun a16 h16 => ?_
  refine sl_bel h16 (wn rfl) (ex_call (fun _ _ => by kernel_rfl) (h16.evs rfl) rfl) rfl rfl S0 (Opened_l b hbl _) fun a17 X17 h17 S17 => ?_
  refine mv h17 rfl rfl fun a18 h18 => ?_
  refine sl_val h18 (wn rfl) (ex_extract (h18.ev rfl) rfl) rfl rfl fun a19 h19 => ?_
  refine sl_val h19 (wn rfl) (ex_extract (h19.ev rfl) rfl) rfl rfl fun a20 h20 => ?_
  refine ma h20 rfl rfl fun a21 h21 => ?_
  refine ma h21 rfl rfl fun a22 h22 => ?_
  refine st_nil (go_then (st_seq (st_seq (st_reg ?_))))
  refine mv h22 rfl rfl fun a23 h23 => ?_
  refine sl_val h23 (wn rfl) (ex_not (h23.ev rfl)) rfl rfl fun a24 h24 => ?_
  refine st_nil (go_then ?_)
  refine st_if (h24.ev rfl) (fun hc0 => ?_) (fun hc0 => ?_)
  · skip
    have hop : opB b = false := by simpa using hc0
    refine st_seq (st_reg ?_)
    refine ma h24 rfl rfl fun a25 h25 => ?_
    refine ma h25 rfl rfl fun a26 h26 => ?_
    refine ma h26 rfl rfl fun a27 h27 => ?_
    refine ma h27 rfl rfl fun a28 h28 => ?_
    refine st_nil (go_then (wp_ret (ret_then ?_)))
    refine fin4 h28 rfl rfl rfl rfl rfl ?_
    exact ⟨by rw [hrt, if_pos hop]; rfl, S17.below⟩
  · skip
    have hop : opB b = true := by simpa using hc0
    rw [show (if opB b = true then bs (opL b) else (⟨#[]⟩ : ByteArray)) = bs (opL b) by rw [if_pos hop]] at h24
    refine wp_skip (go_then (st_seq ?_))
    apply dr_flow h24 [false, false, false, false, false, false, false, false] _ (by kernel_rfl)
    case h =>
     refine sq_val h24 (wn rfl) rfl rfl (fun X hX => (ex_move (h24.ev rfl))) fun a29 h29 => ?_
     refine sq_pure h29 (wn rfl) rfl rfl (fun X => (ex_call (fun _ _ => by kernel_rfl) (h29.evs rfl) rfl)) (fun X hX => LittleAt_l (opL b) 12 2 (by omega) (by omega) (by decide) _) fun a30 h30 => ?_
     refine sq_val h30 (wn rfl) rfl rfl (fun X hX => (ex_move (h30.ev rfl))) fun a31 h31 => ?_
     refine sq_pure h31 (wn rfl) rfl rfl (fun X => (ex_call (fun _ _ => by kernel_rfl) (h31.evs rfl) rfl)) (fun X hX => LittleAt_l (opL b) 14 4 (by omega) (by omega) (by decide) _) fun a32 h32 => ?_
     refine sq_val h32 (wn rfl) rfl rfl (fun X hX => (ex_move (h32.ev rfl))) fun a33 h33 => ?_
     refine sq_val h33 (wn rfl) rfl rfl (fun X hX => (as_val (v' := .string (bs ((opL b).drop 64))) (congrArg _ (by rw [bs_extract, List.take_of_length_le (by rw [List.length_drop]; omega)])) (ex_sslice (l := 64) (h := 512) Tryz.underlying9 (h33.ev rfl) (h33.ev rfl) (by show 512 = (bs (opL b)).size; omega) (by omega) (by omega)))) fun a34 h34 => ?_
     refine sq_val h34 (wn rfl) rfl rfl (fun X hX => (ex_assign (h34.ev rfl))) fun a35 h35 => ?_
     refine sq_val h35 (wn rfl) rfl rfl (fun X hX => (ex_assign (h35.ev rfl))) fun a36 h36 => ?_
     refine sq_nil ?_
     refine nd_end fun X37 hX37 hΦ37 => ?_
     have S37 := S17.grow hX37
     refine ma h36 rfl rfl fun a38 h38 => ?_
     refine st_nil (go_then (st_seq (st_seq (st_reg ?_))))
     refine mv h38 rfl rfl fun a39 h39 => ?_
     refine sl_val h39 (wn rfl) (as_val (v' := .string (bs ((opL b).take 4))) (congrArg _ (by rw [bs_extract, List.drop_zero])) (ex_sslice (l := 0) (h := 4) Tryz.underlying9 (h39.ev rfl) rfl (h39.ev rfl) (by omega) (by omega))) rfl rfl fun a40 h40 => ?_
     refine sl_val h40 (wn rfl) (ex_sneq (h40.ev rfl) (h40.ev rfl)) rfl rfl fun a41 h41 => ?_
     refine mv h41 rfl rfl fun a42 h42 => ?_
     apply sl_or h42 S37 44 rfl 5 49
     case hf =>
      intro gc44
      refine sl_val h42 (wanted_yes h42 _ rfl rfl rfl gc44) (ex_move (h42.ev rfl)) rfl rfl fun a43 h43 => ?_
      refine sl_val h43 (wanted_yes h43 _ rfl rfl rfl gc44) (as_val (v' := .string (bs (((opL b).drop 4).take 4))) (congrArg _ (by rw [bs_extract])) (ex_sslice (l := 4) (h := 8) Tryz.underlying9 (h43.ev rfl) (h43.ev rfl) (h43.ev rfl) (by omega) (by omega))) rfl rfl fun a44 h44 => ?_
      refine sl_bel h44 (wanted_yes h44 _ rfl rfl rfl gc44) (ex_call (fun _ _ => by kernel_rfl) (h44.evs rfl) rfl) rfl rfl S37 (IsZeros_l _ _ (by rw [List.length_take, List.length_drop]; omega)) fun a45 X45 h45 S45 => ?_
      refine sl_val h45 (wanted_yes h45 _ rfl rfl rfl gc44) (ex_not (h45.ev rfl)) rfl rfl fun a46 h46 => ?_
      refine sl_val h46 (wn rfl) (ex_pick_f (h46.ev rfl) gc44 (h46.ev rfl)) rfl rfl fun a47 h47 => ?_
      exact st_nil ⟨h47.mid (m := [(_, _), (_, _), (_, _), (_, _)]) rfl, S45⟩
     case ht =>
      intro gc44
      refine sl_no h42 (wanted_no h42 _ rfl rfl rfl gc44) rfl rfl fun a48 h48 => ?_
      refine sl_no h48 (wanted_no h48 _ rfl rfl rfl gc44) rfl rfl fun a49 h49 => ?_
      refine sl_no h49 (wanted_no h49 _ rfl rfl rfl gc44) rfl rfl fun a50 h50 => ?_
      refine sl_no h50 (wanted_no h50 _ rfl rfl rfl gc44) rfl rfl fun a51 h51 => ?_
      refine sl_val h51 (wn rfl) (ex_pick_t (h51.ev rfl) gc44 (h51.ev rfl)) rfl rfl fun a52 h52 => ?_
      exact st_nil ⟨h52.mid (m := [(_, _), (_, _), (_, _), (_, _)]) rfl, S37⟩
     case h =>
      rintro a53 X53 ⟨h53, S53⟩
      refine mv h53 rfl rfl fun a54 h54 => ?_
      apply sl_or h54 S53 50 rfl 5 55
      case hf =>
       intro gc50
       refine sl_val h54 (wanted_yes h54 _ rfl rfl rfl gc50) (ex_move (h54.ev rfl)) rfl rfl fun a55 h55 => ?_
       refine sl_pure h55 (wanted_yes h55 _ rfl rfl rfl gc50) (ex_call (fun _ _ => by kernel_rfl) (h55.evs rfl) rfl) rfl rfl (LittleAt_l (opL b) 8 4 (by omega) (by omega) (by decide) _) fun a56 h56 => ?_
       refine sl_val h56 (wanted_yes h56 _ rfl rfl rfl gc50) (ex_move (h56.ev rfl)) rfl rfl fun a57 h57 => ?_
       refine sl_val h57 (wanted_yes h57 _ rfl rfl rfl gc50) (ex_neq (h57.ev rfl) (h57.ev rfl)) rfl rfl fun a58 h58 => ?_
       refine sl_val h58 (wn rfl) (ex_pick_f (h58.ev rfl) gc50 (h58.ev rfl)) rfl rfl fun a59 h59 => ?_
       exact st_nil ⟨h59.mid (m := [(_, _), (_, _), (_, _), (_, _)]) rfl, S53⟩
      case ht =>
       intro gc50
       refine sl_no h54 (wanted_no h54 _ rfl rfl rfl gc50) rfl rfl fun a60 h60 => ?_
       refine sl_no h60 (wanted_no h60 _ rfl rfl rfl gc50) rfl rfl fun a61 h61 => ?_
       refine sl_no h61 (wanted_no h61 _ rfl rfl rfl gc50) rfl rfl fun a62 h62 => ?_
       refine sl_no h62 (wanted_no h62 _ rfl rfl rfl gc50) rfl rfl fun a63 h63 => ?_
       refine sl_val h63 (wn rfl) (ex_pick_t (h63.ev rfl) gc50 (h63.ev rfl)) rfl rfl fun a64 h64 => ?_
       exact st_nil ⟨h64.mid (m := [(_, _), (_, _), (_, _), (_, _)]) rfl, S53⟩
      case h =>
       rintro a65 X65 ⟨h65, S65⟩
       refine mv h65 rfl rfl fun a66 h66 => ?_
       apply sl_or h66 S65 56 rfl 3 59
       case hf =>
        intro gc56
        refine sl_val h66 (wanted_yes h66 _ rfl rfl rfl gc56) (ex_move (h66.ev rfl)) rfl rfl fun a67 h67 => ?_
        refine sl_val h67 (wanted_yes h67 _ rfl rfl rfl gc56) (ex_gtr (h67.ev rfl) (h67.ev rfl)) rfl rfl fun a68 h68 => ?_
        refine sl_val h68 (wn rfl) (ex_pick_f (h68.ev rfl) gc56 (h68.ev rfl)) rfl rfl fun a69 h69 => ?_
        exact st_nil ⟨h69.mid (m := [(_, _), (_, _)]) rfl, S65⟩
       case ht =>
        intro gc56
        refine sl_no h66 (wanted_no h66 _ rfl rfl rfl gc56) rfl rfl fun a70 h70 => ?_
        refine sl_no h70 (wanted_no h70 _ rfl rfl rfl gc56) rfl rfl fun a71 h71 => ?_
        refine sl_val h71 (wn rfl) (ex_pick_t (h71.ev rfl) gc56 (h71.ev rfl)) rfl rfl fun a72 h72 => ?_
        exact st_nil ⟨h72.mid (m := [(_, _), (_, _)]) rfl, S65⟩
       case h =>
        rintro a73 X73 ⟨h73, S73⟩
        refine mv h73 rfl rfl fun a74 h74 => ?_
        apply sl_or h74 S73 60 rfl 5 65
        case hf =>
         intro gc60
         refine sl_val h74 (wanted_yes h74 _ rfl rfl rfl gc60) (ex_move (h74.ev rfl)) rfl rfl fun a75 h75 => ?_
         refine sl_val h75 (wanted_yes h75 _ rfl rfl rfl gc60) (ex_move (h75.ev rfl)) rfl rfl fun a76 h76 => ?_
         refine sl_pure h76 (wanted_yes h76 _ rfl rfl rfl gc60) (ex_call (fun _ _ => by kernel_rfl) (h76.evs rfl) rfl) rfl rfl (Within_any _ _ _ _) fun a77 h77 => ?_
         refine sl_val h77 (wanted_yes h77 _ rfl rfl rfl gc60) (ex_not (h77.ev rfl)) rfl rfl fun a78 h78 => ?_
         refine sl_val h78 (wn rfl) (ex_pick_f (h78.ev rfl) gc60 (h78.ev rfl)) rfl rfl fun a79 h79 => ?_
         exact st_nil ⟨h79.mid (m := [(_, _), (_, _), (_, _), (_, _)]) rfl, S73⟩
        case ht =>
         intro gc60
         refine sl_no h74 (wanted_no h74 _ rfl rfl rfl gc60) rfl rfl fun a80 h80 => ?_
         refine sl_no h80 (wanted_no h80 _ rfl rfl rfl gc60) rfl rfl fun a81 h81 => ?_
         refine sl_no h81 (wanted_no h81 _ rfl rfl rfl gc60) rfl rfl fun a82 h82 => ?_
         refine sl_no h82 (wanted_no h82 _ rfl rfl rfl gc60) rfl rfl fun a83 h83 => ?_
         refine sl_val h83 (wn rfl) (ex_pick_t (h83.ev rfl) gc60 (h83.ev rfl)) rfl rfl fun a84 h84 => ?_
         exact st_nil ⟨h84.mid (m := [(_, _), (_, _), (_, _), (_, _)]) rfl, S73⟩
        case h =>
         rintro a85 X85 ⟨h85, S85⟩
         refine mv h85 rfl rfl fun a86 h86 => ?_
         apply sl_or h86 S85 66 rfl 5 71
         case hf =>
          intro gc66
          refine sl_val h86 (wanted_yes h86 _ rfl rfl rfl gc66) (ex_move (h86.ev rfl)) rfl rfl fun a87 h87 => ?_
          refine sl_val h87 (wanted_yes h87 _ rfl rfl rfl gc66) (as_val (v' := .string (bs (((opL b).drop 18).take 46))) (congrArg _ (by rw [bs_extract])) (ex_sslice (l := 18) (h := 64) Tryz.underlying9 (h87.ev rfl) (h87.ev rfl) (h87.ev rfl) (by omega) (by omega))) rfl rfl fun a88 h88 => ?_
          refine sl_bel h88 (wanted_yes h88 _ rfl rfl rfl gc66) (ex_call (fun _ _ => by kernel_rfl) (h88.evs rfl) rfl) rfl rfl S85 (IsZeros_l _ _ (by rw [List.length_take, List.length_drop]; omega)) fun a89 X89 h89 S89 => ?_
          refine sl_val h89 (wanted_yes h89 _ rfl rfl rfl gc66) (ex_not (h89.ev rfl)) rfl rfl fun a90 h90 => ?_
          refine sl_val h90 (wn rfl) (ex_pick_f (h90.ev rfl) gc66 (h90.ev rfl)) rfl rfl fun a91 h91 => ?_
          exact st_nil ⟨h91.mid (m := [(_, _), (_, _), (_, _), (_, _)]) rfl, S89⟩
         case ht =>
          intro gc66
          refine sl_no h86 (wanted_no h86 _ rfl rfl rfl gc66) rfl rfl fun a92 h92 => ?_
          refine sl_no h92 (wanted_no h92 _ rfl rfl rfl gc66) rfl rfl fun a93 h93 => ?_
          refine sl_no h93 (wanted_no h93 _ rfl rfl rfl gc66) rfl rfl fun a94 h94 => ?_
          refine sl_no h94 (wanted_no h94 _ rfl rfl rfl gc66) rfl rfl fun a95 h95 => ?_
          refine sl_val h95 (wn rfl) (ex_pick_t (h95.ev rfl) gc66 (h95.ev rfl)) rfl rfl fun a96 h96 => ?_
          exact st_nil ⟨h96.mid (m := [(_, _), (_, _), (_, _), (_, _)]) rfl, S85⟩
         case h =>
          rintro a97 X97 ⟨h97, S97⟩
          refine st_nil (go_then ?_)
          refine st_if (h97.ev rfl) (fun hc1 => ?_) (fun hc1 => ?_)
          · skip
            have hrb : rtB b pg top q = false := by
              have h1 := hc1
              rw [bs_ne, gt_not] at h1
              unfold rtB
              rw [← Bool.not_eq_true, Bool.and_eq_true, Bool.and_eq_true]
              rintro ⟨⟨h2, _⟩, _⟩
              simp only [Bool.and_eq_true, beq_iff_eq] at h2
              obtain ⟨⟨⟨⟨⟨z1, z2⟩, z3⟩, z4⟩, z5⟩, z6⟩ := h2
              rw [z1, z2, z3, z4, z5, z6] at h1
              simp at h1
            refine st_seq (st_reg ?_)
            refine ma h97 rfl rfl fun a98 h98 => ?_
            refine ma h98 rfl rfl fun a99 h99 => ?_
            refine ma h99 rfl rfl fun a100 h100 => ?_
            refine ma h100 rfl rfl fun a101 h101 => ?_
            refine st_nil (go_then (wp_ret (ret_then ?_)))
            refine fin4 h101 rfl rfl rfl rfl rfl ?_
            exact ⟨by rw [hrt, if_neg (by rw [hop]; decide), hrb]; rfl, S97.below⟩
          · skip
            have hrb : rtB b pg top q = (zeroL (((opL b).drop 64).drop (nAt (opL b) 12 2).toNat) && usnL b == usnP q (nAt (opL b) 14 4) pg) := by
              have h1 := hc1
              rw [bs_ne, gt_not] at h1
              simp only [Bool.or_eq_false_iff, Bool.not_eq_false', bne_eq_false_iff_eq] at h1
              obtain ⟨⟨⟨⟨⟨z1, z2⟩, z3⟩, z4⟩, z5⟩, z6⟩ := h1
              unfold rtB
              rw [z1, z2, z3, z4, z5, z6]
              simp
            have hut : nAt (opL b) 12 2 ≤ 448 ∧ 1 ≤ nAt (opL b) 14 4 := by
              have h1 := hc1
              rw [gt_not] at h1
              simp only [Bool.or_eq_false_iff, Bool.not_eq_false', decide_eq_true_eq, inB_true] at h1
              exact ⟨h1.1.1.2, h1.1.2.1⟩
            obtain ⟨hu, ht⟩ := hut
            obtain ⟨u, hu2⟩ := Int.eq_ofNat_of_zero_le n12.1
            have hbsz2 := bs_size ((opL b).drop 64)
            have hld : ((opL b).drop 64).length = 448 := by rw [List.length_drop]; omega
            refine wp_skip (go_then (st_seq (st_seq (st_reg ?_))))
            refine mv h97 rfl rfl fun a102 h102 => ?_
            refine sl_val h102 (wn rfl) (as_val (v' := .int .i64 (u : Nat)) (congrArg _ hu2) (ex_move (h102.ev rfl))) rfl rfl fun a103 h103 => ?_
            refine sl_val h103 (wn rfl) (as_val (v' := .string (bs (((opL b).drop 64).drop (nAt (opL b) 12 2).toNat))) (congrArg _ (by rw [bs_extract, hu2, Int.toNat_natCast, List.take_of_length_le (by rw [List.length_drop]; omega)])) (ex_sslice (l := u) (h := 448) Tryz.underlying9 (h103.ev rfl) (h103.ev rfl) (by show 448 = (bs ((opL b).drop 64)).size; omega) (by omega) (by omega))) rfl rfl fun a104 h104 => ?_
            refine sl_bel h104 (wn rfl) (ex_call (fun _ _ => by kernel_rfl) (h104.evs rfl) rfl) rfl rfl S97 (IsZeros_l _ _ (by rw [List.length_drop]; omega)) fun a105 X105 h105 S105 => ?_
            refine sl_val h105 (wn rfl) (ex_not (h105.ev rfl)) rfl rfl fun a106 h106 => ?_
            refine mv h106 rfl rfl fun a107 h107 => ?_
            apply sl_or h107 S105 77 rfl 8 85
            case hf =>
             intro gc77
             refine sl_val h107 (wanted_yes h107 _ rfl rfl rfl gc77) (ex_move (h107.ev rfl)) rfl rfl fun a108 h108 => ?_
             refine sl_pure h108 (wanted_yes h108 _ rfl rfl rfl gc77) (ex_call (fun _ _ => by kernel_rfl) (h108.evs rfl) rfl) rfl rfl (LittleAt_l b 40 2 (by omega) (by omega) (by decide) _) fun a109 h109 => ?_
             refine sl_val h109 (wanted_yes h109 _ rfl rfl rfl gc77) (ex_move (h109.ev rfl)) rfl rfl fun a110 h110 => ?_
             refine sl_val h110 (wanted_yes h110 _ rfl rfl rfl gc77) (ex_move (h110.ev rfl)) rfl rfl fun a111 h111 => ?_
             refine sl_val h111 (wanted_yes h111 _ rfl rfl rfl gc77) (ex_move (h111.ev rfl)) rfl rfl fun a112 h112 => ?_
             refine sl_pure h112 (wanted_yes h112 _ rfl rfl rfl gc77) (ex_call (fun _ _ => by kernel_rfl) (h112.evs rfl) rfl) rfl rfl (rUsn_any _ _ _ (by omega) (by omega) (by omega) _) fun a113 h113 => ?_
             refine sl_val h113 (wanted_yes h113 _ rfl rfl rfl gc77) (ex_neq (h113.ev rfl) (h113.ev rfl)) rfl rfl fun a114 h114 => ?_
             refine sl_val h114 (wn rfl) (ex_pick_f (h114.ev rfl) gc77 (h114.ev rfl)) rfl rfl fun a115 h115 => ?_
             exact st_nil ⟨h115.mid (m := [(_, _), (_, _), (_, _), (_, _), (_, _), (_, _), (_, _)]) rfl, S105⟩
            case ht =>
             intro gc77
             refine sl_no h107 (wanted_no h107 _ rfl rfl rfl gc77) rfl rfl fun a116 h116 => ?_
             refine sl_no h116 (wanted_no h116 _ rfl rfl rfl gc77) rfl rfl fun a117 h117 => ?_
             refine sl_no h117 (wanted_no h117 _ rfl rfl rfl gc77) rfl rfl fun a118 h118 => ?_
             refine sl_no h118 (wanted_no h118 _ rfl rfl rfl gc77) rfl rfl fun a119 h119 => ?_
             refine sl_no h119 (wanted_no h119 _ rfl rfl rfl gc77) rfl rfl fun a120 h120 => ?_
             refine sl_no h120 (wanted_no h120 _ rfl rfl rfl gc77) rfl rfl fun a121 h121 => ?_
             refine sl_no h121 (wanted_no h121 _ rfl rfl rfl gc77) rfl rfl fun a122 h122 => ?_
             refine sl_val h122 (wn rfl) (ex_pick_t (h122.ev rfl) gc77 (h122.ev rfl)) rfl rfl fun a123 h123 => ?_
             exact st_nil ⟨h123.mid (m := [(_, _), (_, _), (_, _), (_, _), (_, _), (_, _), (_, _)]) rfl, S105⟩
            case h =>
             rintro a124 X124 ⟨h124, S124⟩
             refine st_nil (go_then ?_)
             refine st_if (h124.ev rfl) (fun hc2 => ?_) (fun hc2 => ?_)
             · skip
               have hrb2 : rtB b pg top q = false := by
                 rw [hrb, ← Bool.not_eq_true, Bool.and_eq_true]
                 rintro ⟨z1, z2⟩
                 have h1 := hc2
                 rw [z1, show nAt b 40 2 = usnL b by unfold nAt usnL; rfl, eq_of_beq z2] at h1
                 simp at h1
               refine st_seq (st_reg ?_)
               refine ma h124 rfl rfl fun a125 h125 => ?_
               refine ma h125 rfl rfl fun a126 h126 => ?_
               refine ma h126 rfl rfl fun a127 h127 => ?_
               refine ma h127 rfl rfl fun a128 h128 => ?_
               refine st_nil (go_then (wp_ret (ret_then ?_)))
               refine fin4 h128 rfl rfl rfl rfl rfl ?_
               exact ⟨by rw [hrt, if_neg (by rw [hop]; decide), hrb2]; rfl, S124.below⟩
             · skip
               have hrb2 : rtB b pg top q = true := by
                 have h1 := hc2
                 simp only [Bool.or_eq_false_iff, Bool.not_eq_false', bne_eq_false_iff_eq] at h1
                 rw [hrb, h1.1, show usnL b = nAt b 40 2 by unfold nAt usnL; rfl, h1.2]
                 simp
               refine wp_skip (go_then (st_seq (st_reg ?_)))
               refine mv h124 rfl rfl fun a129 h129 => ?_
               refine mv h129 rfl rfl fun a130 h130 => ?_
               refine mv h130 rfl rfl fun a131 h131 => ?_
               refine ma h131 rfl rfl fun a132 h132 => ?_
               refine ma h132 rfl rfl fun a133 h133 => ?_
               refine ma h133 rfl rfl fun a134 h134 => ?_
               refine ma h134 rfl rfl fun a135 h135 => ?_
               refine st_nil (go_then (wp_ret ?_))
               refine fin4 h135 rfl rfl rfl rfl rfl ?_
               exact ⟨by rw [hrt, if_neg (by rw [hop]; decide), hrb2]; rfl, S124.below⟩
    case hB => kernel_rfl
    case hst => rfl
end Go.Proofs.YtmlilplbdpjfcaaGreatDoor
