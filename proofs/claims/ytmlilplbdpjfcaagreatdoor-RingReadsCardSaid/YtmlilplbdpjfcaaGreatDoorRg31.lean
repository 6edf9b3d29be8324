/-
  Chapter 20: the reference's reading: bytes of the stream, a standing record.
-/
import Derived.Test.YtmlilplbdpjfcaaGreatDoorRg30
namespace Go.Proofs.YtmlilplbdpjfcaaGreatDoor
set_option linter.unusedVariables false
set_option linter.unusedSimpArgs false
set_option maxRecDepth 4000
open Go.RowKit Go.Sort
attribute [local irreducible] nAt opL opB
def tkT (s : List UInt8) (pg : Nat) (top : Int) (c p : Nat) : List UInt8 × Int × Bool := match tkIn s pg top 3500 c p 0 with
  | none => ([], 0, false)
  | some (l, o) => (l, o, true)
theorem rtake_any (s : List UInt8) (pg : Nat) (top : Int) (p c : Nat) (hs : s.length = 512 * pg) (hpg : 4 ≤ pg ∧ pg ≤ 40) (hp : p + c < 4294967296) (hc : c ≤ 3500) (htop : top < 4294967296) (w : World) :
    Calls Tryz.prog 114 #[.string (bs s), .int .i64 pg, .int .i64 top, .int .i64 p, .int .i64 c] w fun e w' => e = .returned (.tuple #[.string (bs (tkT s pg top c p).1), .int .i64 (tkT s pg top c p).2.1, .bool (tkT s pg top c p).2.2]) ∧ Below w.heap.size w w' := by
  refine st_enter (N := 79) Tryz.func114 rfl rfl rfl (fun a0 h0 => ?_)
  have S0 := St.init w
  refine st_seq (st_reg ?_)
  refine ma h0 rfl rfl fun a1 h1 => ?_
  refine ma h1 rfl rfl fun a2 h2 => ?_
  refine ma h2 rfl rfl fun a3 h3 => ?_
  refine st_nil (go_then (st_seq (st_reg ?_)))
  refine ma h3 rfl rfl fun a4 h4 => ?_
  refine ma h4 rfl rfl fun a5 h5 => ?_
  refine st_nil (go_then (st_seq (wp_block ?_)))
  refine st_loop h5 S0 [0, 1, 2, 3, 4] (fun (q : List UInt8 × Int × Nat) => [(13, .string (bs q.1)), (14, .int .i64 q.2.1)]) (fun (q : List UInt8 × Int × Nat) => q.1.length ≤ c ∧ c - q.1.length ≤ q.2.2 ∧ tkIn s pg top 3500 c p 0 = (tkIn s pg top q.2.2 (c - q.1.length) (p + q.1.length) q.2.1).map fun x => (q.1 ++ x.1, x.2)) (fun (q : List UInt8 × Int × Nat) L => L) (fun (q : List UInt8 × Int × Nat) => c - q.1.length) (([], 0, 3500)) (⟨Nat.zero_le _, by show c - 0 ≤ 3500; omega, by simp⟩) ⟨rfl, rfl, rfl, rfl, rfl, rfl, rfl, trivial⟩ (S0) ?_
  intro q a6 X6 hF0 h6 S6
  refine st_seq (st_seq (st_reg ?_))
  refine mv h6 rfl rfl fun a7 h7 => ?_
  refine sl_val h7 (wn rfl) (ex_slen Tryz.underlying9 (h7.ev rfl)) rfl rfl fun a8 h8 => ?_
  refine mv h8 rfl rfl fun a9 h9 => ?_
  refine sl_val h9 (wn rfl) (ex_lss (h9.ev rfl) (h9.ev rfl)) rfl rfl fun a10 h10 => ?_
  refine st_nil (go_then ?_)
  refine st_if (h10.ev rfl) (fun hc0 => ?_) (fun hc0 => ?_)
  · skip
    have hsz := bs_size q.1
    have hlt : q.1.length < c := by have := of_decide_eq_true hc0; omega
    obtain ⟨hF1, hF2, hF3⟩ := hF0
    obtain ⟨u, t, b, ok, hrt⟩ : ∃ u t b ok, rtT s pg top ((p + q.1.length) / 448) = (u, t, b, ok) := ⟨_, _, _, _, rfl⟩
    have hR : ∀ w, Calls Tryz.prog 74 #[.string (bs s), .int .i64 pg, .int .i64 top, .int .i64 ((p + q.1.length) / 448 : Nat)] w fun e w' => e = .returned (.tuple #[.int .i64 u, .int .i64 t, .string (bs b), .bool ok]) ∧ Below w.heap.size w w' := fun w => by
      have h := rright_any s pg top ((p + q.1.length) / 448) hs hpg (by omega) htop w
      rw [hrt] at h; exact h
    obtain ⟨fr, hfr⟩ : ∃ fr, fr = (p + q.1.length) % 448 := ⟨_, rfl⟩
    obtain ⟨n, hn⟩ : ∃ n, n = min (c - q.1.length) (448 - fr) := ⟨_, rfl⟩
    refine wp_skip (go_then (wp_block (st_seq (st_reg ?_))))
    refine mv h10 rfl rfl fun a11 h11 => ?_
    refine mv h11 rfl rfl fun a12 h12 => ?_
    refine sl_val h12 (wn rfl) (ex_slen Tryz.underlying9 (h12.ev rfl)) rfl rfl fun a13 h13 => ?_
    refine sl_val h13 (wn rfl) (as_val (v' := .int .i64 ((p + q.1.length : Nat) : Int)) (congrArg _ (by omega)) (ex_add (h13.ev rfl) (h13.ev rfl) (by omega))) rfl rfl fun a14 h14 => ?_
    refine ma h14 rfl rfl fun a15 h15 => ?_
    refine st_nil (go_then (st_seq (st_reg ?_)))
    refine mv h15 rfl rfl fun a16 h16 => ?_
    refine mv h16 rfl rfl fun a17 h17 => ?_
    refine mv h17 rfl rfl fun a18 h18 => ?_
    refine mv h18 rfl rfl fun a19 h19 => ?_
    refine sl_pure h19 (wn rfl) (ex_call (fun _ _ => by kernel_rfl) (h19.evs rfl) rfl) rfl rfl (rroom_any _ (by omega) _) fun a20 h20 => ?_
    refine sl_bel h20 (wn rfl) (ex_call (fun _ _ => by kernel_rfl) (h20.evs rfl) rfl) rfl rfl S6 (hR _) fun a21 X21 h21 S21 => ?_
    refine mv h21 rfl rfl fun a22 h22 => ?_
    refine sl_val h22 (wn rfl) (ex_extract (h22.ev rfl) rfl) rfl rfl fun a23 h23 => ?_
    refine sl_val h23 (wn rfl) (ex_extract (h23.ev rfl) rfl) rfl rfl fun a24 h24 => ?_
    refine sl_val h24 (wn rfl) (ex_extract (h24.ev rfl) rfl) rfl rfl fun a25 h25 => ?_
    refine sl_val h25 (wn rfl) (ex_extract (h25.ev rfl) rfl) rfl rfl fun a26 h26 => ?_
    refine ma h26 rfl rfl fun a27 h27 => ?_
    refine ma h27 rfl rfl fun a28 h28 => ?_
    refine ma h28 rfl rfl fun a29 h29 => ?_
    refine ma h29 rfl rfl fun a30 h30 => ?_
    refine st_nil (go_then (st_seq (st_reg ?_)))
    refine mv h30 rfl rfl fun a31 h31 => ?_
    refine sl_val h31 (wn rfl) (as_val (v' := .int .i64 (fr : Nat)) (congrArg _ (by omega)) (ex_rem (h31.ev rfl) (h31.ev rfl) (by omega))) rfl rfl fun a32 h32 => ?_
    refine ma h32 rfl rfl fun a33 h33 => ?_
    refine st_nil (go_then (st_seq (st_reg ?_)))
    refine mv h33 rfl rfl fun a34 h34 => ?_
    refine mv h34 rfl rfl fun a35 h35 => ?_
    refine sl_val h35 (wn rfl) (ex_slen Tryz.underlying9 (h35.ev rfl)) rfl rfl fun a36 h36 => ?_
    refine sl_val h36 (wn rfl) (ex_sub (h36.ev rfl) (h36.ev rfl) (by omega)) rfl rfl fun a37 h37 => ?_
    refine mv h37 rfl rfl fun a38 h38 => ?_
    refine sl_val h38 (wn rfl) (ex_sub (h38.ev rfl) (h38.ev rfl) (by omega)) rfl rfl fun a39 h39 => ?_
    refine sl_val h39 (wn rfl) (as_val (v' := .int .i64 (n : Nat)) (congrArg _ (by omega)) (ex_min (by kernel_rfl) (h39.ev rfl) (h39.ev rfl))) rfl rfl fun a40 h40 => ?_
    refine ma h40 rfl rfl fun a41 h41 => ?_
    refine st_nil (go_then (st_seq (st_seq (st_reg ?_))))
    refine mv h41 rfl rfl fun a42 h42 => ?_
    refine sl_val h42 (wn rfl) (ex_not (h42.ev rfl)) rfl rfl fun a43 h43 => ?_
    refine mv h43 rfl rfl fun a44 h44 => ?_
    apply sl_or h44 S21 52 rfl 6 58
    case hf =>
     intro gc52
     refine sl_val h44 (wanted_yes h44 _ rfl rfl rfl gc52) (ex_move (h44.ev rfl)) rfl rfl fun a45 h45 => ?_
     refine sl_val h45 (wanted_yes h45 _ rfl rfl rfl gc52) (ex_move (h45.ev rfl)) rfl rfl fun a46 h46 => ?_
     refine sl_val h46 (wanted_yes h46 _ rfl rfl rfl gc52) (ex_move (h46.ev rfl)) rfl rfl fun a47 h47 => ?_
     refine sl_val h47 (wanted_yes h47 _ rfl rfl rfl gc52) (ex_add (h47.ev rfl) (h47.ev rfl) (by omega)) rfl rfl fun a48 h48 => ?_
     refine sl_val h48 (wanted_yes h48 _ rfl rfl rfl gc52) (ex_lss (h48.ev rfl) (h48.ev rfl)) rfl rfl fun a49 h49 => ?_
     refine sl_val h49 (wn rfl) (ex_pick_f (h49.ev rfl) gc52 (h49.ev rfl)) rfl rfl fun a50 h50 => ?_
     exact st_nil ⟨h50.mid (m := [(_, _), (_, _), (_, _), (_, _), (_, _)]) rfl, S21⟩
    case ht =>
     intro gc52
     refine sl_no h44 (wanted_no h44 _ rfl rfl rfl gc52) rfl rfl fun a51 h51 => ?_
     refine sl_no h51 (wanted_no h51 _ rfl rfl rfl gc52) rfl rfl fun a52 h52 => ?_
     refine sl_no h52 (wanted_no h52 _ rfl rfl rfl gc52) rfl rfl fun a53 h53 => ?_
     refine sl_no h53 (wanted_no h53 _ rfl rfl rfl gc52) rfl rfl fun a54 h54 => ?_
     refine sl_no h54 (wanted_no h54 _ rfl rfl rfl gc52) rfl rfl fun a55 h55 => ?_
     refine sl_val h55 (wn rfl) (ex_pick_t (h55.ev rfl) gc52 (h55.ev rfl)) rfl rfl fun a56 h56 => ?_
     exact st_nil ⟨h56.mid (m := [(_, _), (_, _), (_, _), (_, _), (_, _)]) rfl, S21⟩
    case h =>
     rintro a57 X57 ⟨h57, S57⟩
     refine mv h57 rfl rfl fun a58 h58 => ?_
     apply sl_or h58 S57 59 rfl 8 67
     case hf =>
      intro gc59
      refine sl_val h58 (wanted_yes h58 _ rfl rfl rfl gc59) (ex_move (h58.ev rfl)) rfl rfl fun a59 h59 => ?_
      refine sl_val h59 (wanted_yes h59 _ rfl rfl rfl gc59) (ex_neq (h59.ev rfl) (h59.ev rfl)) rfl rfl fun a60 h60 => ?_
      refine sl_val h60 (wanted_yes h60 _ rfl rfl rfl gc59) (ex_move (h60.ev rfl)) rfl rfl fun a61 h61 => ?_
      apply sl_and h61 S57 62 rfl 4 66
      case ht =>
       intro gc62
       refine sl_val h61 (wanted_yes h61 _ rfl rfl rfl gc62) (ex_move (h61.ev rfl)) rfl rfl fun a62 h62 => ?_
       refine sl_val h62 (wanted_yes h62 _ rfl rfl rfl gc62) (ex_move (h62.ev rfl)) rfl rfl fun a63 h63 => ?_
       refine sl_val h63 (wanted_yes h63 _ rfl rfl rfl gc62) (ex_neq (h63.ev rfl) (h63.ev rfl)) rfl rfl fun a64 h64 => ?_
       refine sl_val h64 (wanted_yes h64 _ rfl rfl rfl gc59) (ex_pick_t (h64.ev rfl) gc62 (h64.ev rfl)) rfl rfl fun a65 h65 => ?_
       exact st_nil ⟨h65.mid (m := [(_, _), (_, _), (_, _)]) rfl, S57⟩
      case hf =>
       intro gc62
       refine sl_no h61 (wanted_no h61 _ rfl rfl rfl gc62) rfl rfl fun a66 h66 => ?_
       refine sl_no h66 (wanted_no h66 _ rfl rfl rfl gc62) rfl rfl fun a67 h67 => ?_
       refine sl_no h67 (wanted_no h67 _ rfl rfl rfl gc62) rfl rfl fun a68 h68 => ?_
       refine sl_val h68 (wanted_yes h68 _ rfl rfl rfl gc59) (ex_pick_f (h68.ev rfl) gc62 (h68.ev rfl)) rfl rfl fun a69 h69 => ?_
       exact st_nil ⟨h69.mid (m := [(_, _), (_, _), (_, _)]) rfl, S57⟩
      case h =>
       rintro a70 X70 ⟨h70, S70⟩
       refine sl_val h70 (wn rfl) (ex_pick_f (h70.ev rfl) gc59 (h70.ev rfl)) rfl rfl fun a71 h71 => ?_
       exact st_nil ⟨h71.mid (m := [(_, _), (_, _), (_, _), (_, _)]) rfl, S70⟩
     case ht =>
      intro gc59
      refine sl_no h58 (wanted_no h58 _ rfl rfl rfl gc59) rfl rfl fun a72 h72 => ?_
      refine sl_no h72 (wanted_no h72 _ rfl rfl rfl gc59) rfl rfl fun a73 h73 => ?_
      refine sl_no h73 (wanted_no h73 _ rfl rfl rfl gc59) rfl rfl fun a74 h74 => ?_
      refine sl_no h74 (wanted_not h74 _ rfl rfl rfl) rfl rfl fun a75 h75 => ?_
      refine sl_no h75 (wanted_not h75 _ rfl rfl rfl) rfl rfl fun a76 h76 => ?_
      refine sl_no h76 (wanted_not h76 _ rfl rfl rfl) rfl rfl fun a77 h77 => ?_
      refine sl_no h77 (wanted_no h77 _ rfl rfl rfl gc59) rfl rfl fun a78 h78 => ?_
      refine sl_val h78 (wn rfl) (ex_pick_t (h78.ev rfl) gc59 (h78.ev rfl)) rfl rfl fun a79 h79 => ?_
      exact st_nil ⟨h79.mid (m := [(_, _), (_, _), (_, _), (_, _), (_, _), (_, _), (_, _)]) rfl, S57⟩
     case h =>
      rintro a80 X80 ⟨h80, S80⟩
      refine st_nil (go_then ?_)
      refine st_if (h80.ev rfl) (fun hc1 => ?_) (fun hc1 => ?_)
      · skip
        have hbad : tkIn s pg top 3500 c p 0 = none := by
          rw [hF3, show q.2.2 = (q.2.2 - 1) + 1 by omega, show c - q.1.length = (c - q.1.length - 1) + 1 by omega, tkIn_succ]
          cases hr : rtIn s pg top ((p + q.1.length) / 448) with
          | none => rfl
          | some x =>
           obtain ⟨u', t', b'⟩ := x
           unfold rtT at hrt
           rw [hr] at hrt
           simp only [Prod.mk.injEq] at hrt
           obtain ⟨rfl, rfl, rfl, rfl⟩ := hrt
           simp only
           rw [if_pos]
           · rfl
           · have h1 := hc1
             simp only [Bool.not_true, Bool.false_or, Bool.or_eq_true, Bool.and_eq_true, decide_eq_true_eq, bne_iff_ne, ne_eq] at h1
             rcases h1 with h1 | h1
             · left; omega
             · right; exact h1
        refine st_seq (st_reg ?_)
        refine ma h80 rfl rfl fun a81 h81 => ?_
        refine ma h81 rfl rfl fun a82 h82 => ?_
        refine ma h82 rfl rfl fun a83 h83 => ?_
        refine st_nil (go_then (wp_ret (ret_then (ret_block (ret_then (ret_block (ret_then ?_)))))))
        refine fin3 h83 rfl rfl rfl rfl ?_
        refine ⟨?_, S80.below⟩
        unfold tkT; rw [hbad]; rfl
      · skip
        have hgo : ok = true ∧ ¬ u < (fr : Int) + n ∧ ¬ (q.2.1 ≠ 0 ∧ t ≠ q.2.1) := by
          have h1 := hc1
          simp only [Bool.or_eq_false_iff, Bool.not_eq_false', decide_eq_false_iff_not] at h1
          refine ⟨h1.1.1, h1.1.2, fun h2 => ?_⟩
          have h3 := h1.2
          simp only [Bool.and_eq_false_iff, bne_eq_false_iff_eq] at h3
          rcases h3 with h3 | h3
          · exact h2.1 h3
          · exact h2.2 h3
        obtain ⟨rfl, hg2, hg3⟩ := hgo
        have hsome : rtIn s pg top ((p + q.1.length) / 448) = some (u, t, b) := by
          unfold rtT at hrt
          cases hr : rtIn s pg top ((p + q.1.length) / 448) with
          | none => rw [hr] at hrt; simp at hrt
          | some x =>
           obtain ⟨u', t', b'⟩ := x
           rw [hr] at hrt
           simp only [Prod.mk.injEq] at hrt
           obtain ⟨rfl, rfl, rfl, _⟩ := hrt
           rfl
        have hbl : b.length = 448 := by
          have h1 := rt_in hs hpg.1 top htop ((p + q.1.length) / 448) (by omega)
          rw [hsome] at h1
          exact h1.2.2.2.1
        have hbz := bs_size b
        have hcl : ((b.drop fr).take n).length = n := by rw [List.length_take, List.length_drop]; omega
        have hcz := bs_size ((b.drop fr).take n)
        have hnext : (q.1 ++ (b.drop fr).take n).length ≤ c ∧ c - (q.1 ++ (b.drop fr).take n).length ≤ q.2.2 - 1 ∧ tkIn s pg top 3500 c p 0 = (tkIn s pg top (q.2.2 - 1) (c - (q.1 ++ (b.drop fr).take n).length) (p + (q.1 ++ (b.drop fr).take n).length) t).map fun x => ((q.1 ++ (b.drop fr).take n) ++ x.1, x.2) := by
          rw [List.length_append, hcl]
          refine ⟨by omega, by omega, ?_⟩
          rw [hF3]
          rw [show q.2.2 = (q.2.2 - 1) + 1 by omega, show c - q.1.length = (c - q.1.length - 1) + 1 by omega, tkIn_succ, hsome]
          simp only
          have em : min (c - q.1.length - 1 + 1) (448 - (p + q.1.length) % 448) = n := by rw [hn, hfr]; congr 1; omega
          rw [em, ← hfr, if_neg (by
            rintro (h1 | h1)
            · exact hg2 (by omega)
            · exact hg3 h1)]
          rw [show c - q.1.length - 1 + 1 - n = c - (q.1.length + n) by omega, show q.2.2 - 1 + 1 - 1 = q.2.2 - 1 by omega, ← Nat.add_assoc, Option.map_map]
          congr 1
          funext x
          simp [List.append_assoc]
        refine wp_skip (go_then (st_reg ?_))
        refine mv h80 rfl rfl fun a84 h84 => ?_
        refine mv h84 rfl rfl fun a85 h85 => ?_
        refine mv h85 rfl rfl fun a86 h86 => ?_
        refine mv h86 rfl rfl fun a87 h87 => ?_
        refine mv h87 rfl rfl fun a88 h88 => ?_
        refine sl_val h88 (wn rfl) (as_val (v' := .int .i64 ((fr + n : Nat) : Int)) (congrArg _ (by omega)) (ex_add (h88.ev rfl) (h88.ev rfl) (by omega))) rfl rfl fun a89 h89 => ?_
        refine sl_val h89 (wn rfl) (as_val (v' := .string (bs ((b.drop fr).take n))) (congrArg _ (by rw [bs_extract, Nat.add_sub_cancel_left])) (ex_sslice (l := fr) (h := (fr + n)) Tryz.underlying9 (h89.ev rfl) (h89.ev rfl) (h89.ev rfl) (by omega) (by omega))) rfl rfl fun a90 h90 => ?_
        refine sl_val h90 (wn rfl) (as_val (v' := .string (bs (q.1 ++ (b.drop fr).take n))) (congrArg _ (bs_app _ _)) (ex_sadd (h90.ev rfl) (h90.ev rfl) (by omega))) rfl rfl fun a91 h91 => ?_
        refine mv h91 rfl rfl fun a92 h92 => ?_
        refine ma h92 rfl rfl fun a93 h93 => ?_
        refine ma h93 rfl rfl fun a94 h94 => ?_
        refine st_nil (go_block (go_then ?_))
        exact ⟨(q.1 ++ (b.drop fr).take n, t, q.2.2 - 1), (by rw [List.length_append, hcl]; omega), hnext, h94.re ⟨rfl, rfl, rfl, rfl, rfl, rfl, rfl, trivial⟩, S80⟩
  · skip
    have hsz := bs_size q.1
    have hge : q.1.length = c := by have := of_decide_eq_false hc0; have := hF0.1; omega
    refine wp_exit ?_
    refine go_exit_then ?_
    refine go_exit_then ?_
    refine go_exit ?_
    refine go_then (st_seq (st_reg ?_))
    refine mv h10 rfl rfl fun a95 h95 => ?_
    refine mv h95 rfl rfl fun a96 h96 => ?_
    refine ma h96 rfl rfl fun a97 h97 => ?_
    refine ma h97 rfl rfl fun a98 h98 => ?_
    refine ma h98 rfl rfl fun a99 h99 => ?_
    refine st_nil (go_then (wp_ret ?_))
    refine fin3 h99 rfl rfl rfl rfl ?_
    refine ⟨?_, S6.below⟩
    have h1 := hF0.2.2
    rw [hge, Nat.sub_self] at h1
    have h2 : tkIn s pg top q.2.2 0 (p + c) q.2.1 = some ([], q.2.1) := by cases q.2.2 <;> rfl
    rw [h2] at h1
    unfold tkT; rw [h1]; simp
theorem tk_length {s : List UInt8} {pg : Nat} (hs : s.length = 512 * pg) (hpg : 4 ≤ pg) (top : Int) (htop : top < 4294967296) {f c p : Nat} (hat : p + c < 4294967296) (hc : 0 < c) (hf : 0 < f) {l : List UInt8} {o : Int} (h : tkIn s pg top f c p 0 = some (l, o)) : l.length = c := by
  rw [tk_first hs hpg top htop f c p hat hc hf] at h
  split at h
  · cases h
  · rename_i q _ _
    cases hb : byIn s pg top q f c p with
    | none => rw [hb] at h; cases h
    | some m =>
     rw [hb] at h
     simp only [Option.map_some, Option.some.injEq, Prod.mk.injEq] at h
     rw [← h.1]
     exact by_length _ _ _ _ hb
theorem Sum_l (s : List UInt8) (w : World) (hl : s.length ≤ 1000000) : Calls Tryz.prog 116 #[.string (bs s)] w fun e w' => e = .returned (.int .i64 (sumL s 0)) ∧ w = w' := by
  have h := Sum_any (bs s) w (by rw [bs_size]; exact hl)
  rw [bl_bs] at h; exact h
def stO (s : List UInt8) (pg : Nat) (top : Int) (p : Nat) (least : Int) : RecP := (stIn s pg top p least).getD rec0
theorem rstanding_any (s : List UInt8) (pg : Nat) (top : Int) (p : Nat) (least : Int) (hs : s.length = 512 * pg) (hpg : 4 ≤ pg ∧ pg ≤ 40) (hp : p + 4000 < 4294967296) (htop : top < 4294967296) (w : World) :
    Calls Tryz.prog 73 #[.string (bs s), .int .i64 pg, .int .i64 top, .int .i64 p, .int .i64 least] w fun e w' => e = .returned (.tuple #[recV (stO s pg top p least), .bool (stIn s pg top p least).isSome]) ∧ Below w.heap.size w w' := by
  obtain ⟨hd, o8, ok8, ht8⟩ : ∃ hd o8 ok8, tkT s pg top 8 p = (hd, o8, ok8) := ⟨_, _, _, rfl⟩
  have hT8 : ∀ w, Calls Tryz.prog 114 #[.string (bs s), .int .i64 pg, .int .i64 top, .int .i64 p, .int .i64 8] w fun e w' => e = .returned (.tuple #[.string (bs hd), .int .i64 o8, .bool ok8]) ∧ Below w.heap.size w w' := fun w => by
    have h := rtake_any s pg top p 8 hs hpg (by omega) (by decide) htop w
    rw [ht8] at h; exact h
  refine st_enter (N := 97) Tryz.func73 rfl rfl rfl (fun a0 h0 => ?_)
  have S0 := St.init w
  refine st_seq (st_reg ?_)
  refine sl_new h0 (wn rfl) (f := fun b => .pointer (some ⟨b, 0, none⟩)) (ex_alloc (z := .agg #[.int .i64 0, .int .i64 0, .string ⟨#[]⟩]) (by kernel_rfl)) rfl rfl S0 fun b10 a1 X1 gb10 h1 S1 => ?_
  refine ma h1 rfl rfl fun a2 h2 => ?_
  refine st_nil (go_then (st_seq (st_reg ?_)))
  refine sl_val h2 (wn rfl) (ex_build (zs := [.int .i64 0, .int .i64 0, .string ⟨#[]⟩]) (pl := [(0, 1), (1, 1), (2, 1)]) (by kernel_rfl) (by kernel_rfl) (h2.evs2 rfl) rfl rfl) rfl rfl fun a3 h3 => ?_
  refine sl_new h3 (wn rfl) (f := fun b => .pointer (some ⟨b, 0, none⟩)) (ex_alloc (z := .agg #[.int .i64 0, .int .i64 0, .string ⟨#[]⟩]) (by kernel_rfl)) rfl rfl S1 fun b12 a4 X4 gb12 h4 S4 => ?_
  refine sl_store0 h4 (wn rfl) ⟨rfl, rfl⟩ (h4.ev rfl) (h4.ev rfl) rfl (by kernel_rfl) S4 (i := 0) rfl rfl rfl fun X5 S5 => ?_
  refine st_nil (go_then (st_seq (st_reg ?_)))
  refine mv h4 rfl rfl fun a6 h6 => ?_
  refine mv h6 rfl rfl fun a7 h7 => ?_
  refine mv h7 rfl rfl fun a8 h8 => ?_
  refine mv h8 rfl rfl fun a9 h9 => ?_
  refine sl_bel h9 (wn rfl) (ex_call (fun _ _ => by kernel_rfl) (h9.evs rfl) rfl) rfl rfl S5 (hT8 _) fun a10 X10 h10 S10 => ?_
  refine mv h10 rfl rfl fun a11 h11 => ?_
  refine sl_val h11 (wn rfl) (ex_extract (h11.ev rfl) rfl) rfl rfl fun a12 h12 => ?_
  refine sl_val h12 (wn rfl) (ex_extract (h12.ev rfl) rfl) rfl rfl fun a13 h13 => ?_
  refine sl_val h13 (wn rfl) (ex_extract (h13.ev rfl) rfl) rfl rfl fun a14 h14 => ?_
  refine ma h14 rfl rfl fun a15 h15 => ?_
  refine ma h15 rfl rfl fun a16 h16 => ?_
  refine ma h16 rfl rfl fun a17 h17 => ?_
  refine st_nil (go_then (st_seq (st_seq (st_reg ?_))))
  refine mv h17 rfl rfl fun a18 h18 => ?_
  refine sl_val h18 (wn rfl) (ex_not (h18.ev rfl)) rfl rfl fun a19 h19 => ?_
  refine st_nil (go_then ?_)
  refine st_if (h19.ev rfl) (fun hc0 => ?_) (fun hc0 => ?_)
  · skip
    have hno : stIn s pg top p least = none := by
      have h1 : ok8 = false := by simpa using hc0
      unfold tkT at ht8
      unfold stIn
      cases ht : tkIn s pg top 3500 8 p 0 with
      | none => rfl
      | some x => rw [ht] at ht8; simp only [Prod.mk.injEq] at ht8; rw [h1] at ht8; simp at ht8
    refine st_seq (st_reg ?_)
    refine sl_val h19 (wn rfl) (ex_loads (by kernel_rfl) (by kernel_rfl) (h19.ev rfl) (S10.cellsAll (i := 0) rfl)) rfl rfl fun a20 h20 => ?_
    refine sl_store0 h20 (wn rfl) ⟨rfl, rfl⟩ (h20.ev rfl) (h20.ev rfl) rfl (by kernel_rfl) S10 (i := 1) rfl rfl rfl fun X21 S21 => ?_
    refine ma h20 rfl rfl fun a22 h22 => ?_
    refine st_nil (go_then (wp_ret (ret_then ?_)))
    refine finct h22 rfl rfl rfl S21 (i := 1) rfl (by kernel_rfl) (by kernel_rfl) ?_
    exact ⟨by unfold stO; rw [hno]; rfl, S21.below⟩
  · skip
    have hk8 : tkIn s pg top 3500 8 p 0 = some (hd, o8) := by
      have h1 : ok8 = true := by simpa using hc0
      unfold tkT at ht8
      cases ht : tkIn s pg top 3500 8 p 0 with
      | none => rw [ht] at ht8; simp only [Prod.mk.injEq] at ht8; rw [h1] at ht8; simp at ht8
      | some x => rw [ht] at ht8; simp only [Prod.mk.injEq] at ht8; rw [← ht8.1, ← ht8.2.1]
    have hl8 : hd.length = 8 := tk_length hs hpg.1 top htop (by omega) (by decide) (by decide) hk8
    have hz8 := bs_size hd
    obtain ⟨n, hn⟩ : ∃ n, n = nAt hd 0 2 := ⟨_, rfl⟩
    refine wp_skip (go_then (st_seq (st_reg ?_)))
    refine mv h19 rfl rfl fun a23 h23 => ?_
    refine sl_pure h23 (wn rfl) (ex_call (fun _ _ => by kernel_rfl) (h23.evs rfl) rfl) rfl rfl (LittleAt_l hd 0 2 (by omega) (by omega) (by decide) _) fun a24 h24 => ?_
    refine ma h24 rfl rfl fun a25 h25 => ?_
    rw [← hn] at h25
    refine st_nil (go_then (st_seq (st_seq (st_reg ?_))))
    refine mv h25 rfl rfl fun a26 h26 => ?_
    refine sl_val h26 (wn rfl) (as_val (v' := .string (bs ((hd.drop 2).take 2))) (congrArg _ (by rw [bs_extract])) (ex_sslice (l := 2) (h := 4) Tryz.underlying9 (h26.ev rfl) (h26.ev rfl) (h26.ev rfl) (by omega) (by omega))) rfl rfl fun a27 h27 => ?_
    refine sl_bel h27 (wn rfl) (ex_call (fun _ _ => by kernel_rfl) (h27.evs rfl) rfl) rfl rfl S10 (IsZeros_l _ _ (by rw [List.length_take, List.length_drop]; omega)) fun a28 X28 h28 S28 => ?_
    refine sl_val h28 (wn rfl) (ex_not (h28.ev rfl)) rfl rfl fun a29 h29 => ?_
    refine mv h29 rfl rfl fun a30 h30 => ?_
    apply sl_or h30 S28 39 rfl 6 45
    case hf =>
     intro gc39
     refine sl_val h30 (wanted_yes h30 _ rfl rfl rfl gc39) (ex_move (h30.ev rfl)) rfl rfl fun a31 h31 => ?_
     refine sl_pure h31 (wanted_yes h31 _ rfl rfl rfl gc39) (ex_call (fun _ _ => by kernel_rfl) (h31.evs rfl) rfl) rfl rfl (LittleAt_l hd 4 4 (by omega) (by omega) (by decide) _) fun a32 h32 => ?_
     refine sl_val h32 (wanted_yes h32 _ rfl rfl rfl gc39) (ex_move (h32.ev rfl)) rfl rfl fun a33 h33 => ?_
     refine sl_val h33 (wanted_yes h33 _ rfl rfl rfl gc39) (ex_add (h33.ev rfl) (h33.ev rfl) (by omega)) rfl rfl fun a34 h34 => ?_
     refine sl_val h34 (wanted_yes h34 _ rfl rfl rfl gc39) (ex_neq (h34.ev rfl) (h34.ev rfl)) rfl rfl fun a35 h35 => ?_
     refine sl_val h35 (wn rfl) (ex_pick_f (h35.ev rfl) gc39 (h35.ev rfl)) rfl rfl fun a36 h36 => ?_
     exact st_nil ⟨h36.mid (m := [(_, _), (_, _), (_, _), (_, _), (_, _)]) rfl, S28⟩
    case ht =>
     intro gc39
     refine sl_no h30 (wanted_no h30 _ rfl rfl rfl gc39) rfl rfl fun a37 h37 => ?_
     refine sl_no h37 (wanted_no h37 _ rfl rfl rfl gc39) rfl rfl fun a38 h38 => ?_
     refine sl_no h38 (wanted_no h38 _ rfl rfl rfl gc39) rfl rfl fun a39 h39 => ?_
     refine sl_no h39 (wanted_no h39 _ rfl rfl rfl gc39) rfl rfl fun a40 h40 => ?_
     refine sl_no h40 (wanted_no h40 _ rfl rfl rfl gc39) rfl rfl fun a41 h41 => ?_
     refine sl_val h41 (wn rfl) (ex_pick_t (h41.ev rfl) gc39 (h41.ev rfl)) rfl rfl fun a42 h42 => ?_
     exact st_nil ⟨h42.mid (m := [(_, _), (_, _), (_, _), (_, _), (_, _)]) rfl, S28⟩
    case h =>
     rintro a43 X43 ⟨h43, S43⟩
     refine mv h43 rfl rfl fun a44 h44 => ?_
     apply sl_or h44 S43 46 rfl 4 50
     case hf =>
      intro gc46
      refine sl_val h44 (wanted_yes h44 _ rfl rfl rfl gc46) (ex_move (h44.ev rfl)) rfl rfl fun a45 h45 => ?_
      refine sl_pure h45 (wanted_yes h45 _ rfl rfl rfl gc46) (ex_call (fun _ _ => by kernel_rfl) (h45.evs rfl) rfl) rfl rfl (Within_any _ _ _ _) fun a46 h46 => ?_
      refine sl_val h46 (wanted_yes h46 _ rfl rfl rfl gc46) (ex_not (h46.ev rfl)) rfl rfl fun a47 h47 => ?_
      refine sl_val h47 (wn rfl) (ex_pick_f (h47.ev rfl) gc46 (h47.ev rfl)) rfl rfl fun a48 h48 => ?_
      exact st_nil ⟨h48.mid (m := [(_, _), (_, _), (_, _)]) rfl, S43⟩
     case ht =>
      intro gc46
      refine sl_no h44 (wanted_no h44 _ rfl rfl rfl gc46) rfl rfl fun a49 h49 => ?_
      refine sl_no h49 (wanted_no h49 _ rfl rfl rfl gc46) rfl rfl fun a50 h50 => ?_
      refine sl_no h50 (wanted_no h50 _ rfl rfl rfl gc46) rfl rfl fun a51 h51 => ?_
      refine sl_val h51 (wn rfl) (ex_pick_t (h51.ev rfl) gc46 (h51.ev rfl)) rfl rfl fun a52 h52 => ?_
      exact st_nil ⟨h52.mid (m := [(_, _), (_, _), (_, _)]) rfl, S43⟩
     case h =>
      rintro a53 X53 ⟨h53, S53⟩
      refine st_nil (go_then ?_)
      refine st_if (h53.ev rfl) (fun hc1 => ?_) (fun hc1 => ?_)
      · skip
        have hno : stIn s pg top p least = none := by
          have h1 := hc1
          unfold stIn
          rw [hk8]
          simp only
          rw [if_pos]
          simp only [Bool.or_eq_true, Bool.not_eq_true', bne_iff_ne, ne_eq] at h1
          rcases h1 with (h1 | h1) | h1
          · exact .inl h1
          · exact .inr (.inl h1)
          · exact .inr (.inr (by rw [← hn]; exact h1))
        refine st_seq (st_reg ?_)
        refine sl_val h53 (wn rfl) (ex_loads (by kernel_rfl) (by kernel_rfl) (h53.ev rfl) (S53.cellsAll (i := 0) rfl)) rfl rfl fun a54 h54 => ?_
        refine sl_store0 h54 (wn rfl) ⟨rfl, rfl⟩ (h54.ev rfl) (h54.ev rfl) rfl (by kernel_rfl) S53 (i := 1) rfl rfl rfl fun X55 S55 => ?_
        refine ma h54 rfl rfl fun a56 h56 => ?_
        refine st_nil (go_then (wp_ret (ret_then ?_)))
        refine finct h56 rfl rfl rfl S55 (i := 1) rfl (by kernel_rfl) (by kernel_rfl) ?_
        exact ⟨by unfold stO; rw [hno]; rfl, S55.below⟩
      · skip
        have hgo : ¬ (zeroL ((hd.drop 2).take 2) = false ∨ nAt hd 4 4 ≠ p + 1 ∨ inB (nAt hd 0 2) 1 3000 = false) ∧ inB n 1 3000 = true := by
          have h1 := hc1
          simp only [Bool.or_eq_false_iff, Bool.not_eq_false', bne_eq_false_iff_eq] at h1
          refine ⟨?_, h1.2⟩
          rintro (h2 | h2 | h2)
          · rw [h1.1.1] at h2; cases h2
          · exact h2 h1.1.2
          · rw [← hn, h1.2] at h2; cases h2
        have hnb := inB_true.1 hgo.2
        obtain ⟨N, hN⟩ := Int.eq_ofNat_of_zero_le (show 0 ≤ n by omega)
        have hsz := szR_bd (n := n) (by omega)
        obtain ⟨Z, hZ⟩ := Int.eq_ofNat_of_zero_le (show 0 ≤ szR n by omega)
        obtain ⟨al, oq, okq, htq⟩ : ∃ al oq okq, tkT s pg top Z p = (al, oq, okq) := ⟨_, _, _, rfl⟩
        have hTq : ∀ w, Calls Tryz.prog 114 #[.string (bs s), .int .i64 pg, .int .i64 top, .int .i64 p, .int .i64 Z] w fun e w' => e = .returned (.tuple #[.string (bs al), .int .i64 oq, .bool okq]) ∧ Below w.heap.size w w' := fun w => by
          have h := rtake_any s pg top p Z hs hpg (by omega) (by omega) htop w
          rw [htq] at h; exact h
        have hst : stIn s pg top p least = match tkIn s pg top 3500 Z p 0 with
            | none => none
            | some (al, q) => if q < least then none else if nAt al 8 4 ≠ sumL ((al.drop 12).take N) 0 ∨ zeroL (al.drop (12 + N)) = false then none else some ⟨p + 1, q, bs ((al.drop 12).take N)⟩ := by
          unfold stIn
          rw [hk8]
          simp only
          rw [if_neg hgo.1, ← hn, hZ, hN]
          rfl
        refine wp_skip (go_then (st_seq (st_reg ?_)))
        refine mv h53 rfl rfl fun a57 h57 => ?_
        refine mv h57 rfl rfl fun a58 h58 => ?_
        refine mv h58 rfl rfl fun a59 h59 => ?_
        refine mv h59 rfl rfl fun a60 h60 => ?_
        refine mv h60 rfl rfl fun a61 h61 => ?_
        refine mv h61 rfl rfl fun a62 h62 => ?_
        refine sl_pure h62 (wn rfl) (ex_call (fun _ _ => by kernel_rfl) (h62.evs rfl) rfl) rfl rfl (rBehind_any _ _ (by omega) _) fun a63 h63 => ?_
        refine mv h63 rfl rfl fun a64 h64 => ?_
        refine sl_val h64 (wn rfl) (as_val (v' := .int .i64 (Z : Nat)) (congrArg _ (by omega)) (ex_sub (h64.ev rfl) (h64.ev rfl) (by omega))) rfl rfl fun a65 h65 => ?_
        refine sl_bel h65 (wn rfl) (ex_call (fun _ _ => by kernel_rfl) (h65.evs rfl) rfl) rfl rfl S53 (hTq _) fun a66 X66 h66 S66 => ?_
        refine mv h66 rfl rfl fun a67 h67 => ?_
        refine sl_val h67 (wn rfl) (ex_extract (h67.ev rfl) rfl) rfl rfl fun a68 h68 => ?_
        refine sl_val h68 (wn rfl) (ex_extract (h68.ev rfl) rfl) rfl rfl fun a69 h69 => ?_
        refine sl_val h69 (wn rfl) (ex_extract (h69.ev rfl) rfl) rfl rfl fun a70 h70 => ?_
        refine ma h70 rfl rfl fun a71 h71 => ?_
        refine ma h71 rfl rfl fun a72 h72 => ?_
        refine ma h72 rfl rfl fun a73 h73 => ?_
        refine st_nil (go_then (st_seq (st_seq (st_reg ?_))))
        refine mv h73 rfl rfl fun a74 h74 => ?_
        refine sl_val h74 (wn rfl) (ex_not (h74.ev rfl)) rfl rfl fun a75 h75 => ?_
        refine mv h75 rfl rfl fun a76 h76 => ?_
        apply sl_or h76 S66 68 rfl 4 72
        case hf =>
         intro gc68
         refine sl_val h76 (wanted_yes h76 _ rfl rfl rfl gc68) (ex_move (h76.ev rfl)) rfl rfl fun a77 h77 => ?_
         refine sl_val h77 (wanted_yes h77 _ rfl rfl rfl gc68) (ex_move (h77.ev rfl)) rfl rfl fun a78 h78 => ?_
         refine sl_val h78 (wanted_yes h78 _ rfl rfl rfl gc68) (ex_lss (h78.ev rfl) (h78.ev rfl)) rfl rfl fun a79 h79 => ?_
         refine sl_val h79 (wn rfl) (ex_pick_f (h79.ev rfl) gc68 (h79.ev rfl)) rfl rfl fun a80 h80 => ?_
         exact st_nil ⟨h80.mid (m := [(_, _), (_, _), (_, _)]) rfl, S66⟩
        case ht =>
         intro gc68
         refine sl_no h76 (wanted_no h76 _ rfl rfl rfl gc68) rfl rfl fun a81 h81 => ?_
         refine sl_no h81 (wanted_no h81 _ rfl rfl rfl gc68) rfl rfl fun a82 h82 => ?_
         refine sl_no h82 (wanted_no h82 _ rfl rfl rfl gc68) rfl rfl fun a83 h83 => ?_
         refine sl_val h83 (wn rfl) (ex_pick_t (h83.ev rfl) gc68 (h83.ev rfl)) rfl rfl fun a84 h84 => ?_
         exact st_nil ⟨h84.mid (m := [(_, _), (_, _), (_, _)]) rfl, S66⟩
        case h =>
         rintro a85 X85 ⟨h85, S85⟩
         refine st_nil (go_then ?_)
         refine st_if (h85.ev rfl) (fun hc2 => ?_) (fun hc2 => ?_)
         · skip
           have hno : stIn s pg top p least = none := by
             rw [hst]
             unfold tkT at htq
             cases ht : tkIn s pg top 3500 Z p 0 with
             | none => rfl
             | some x =>
              rw [ht] at htq; simp only [Prod.mk.injEq] at htq
              obtain ⟨x1, x2⟩ := x
              simp only at htq ⊢
              rw [if_pos]
              have h1 := hc2
              rw [← htq.2.2, htq.2.1] at *
              simpa using h1
           refine st_seq (st_reg ?_)
           refine sl_val h85 (wn rfl) (ex_loads (by kernel_rfl) (by kernel_rfl) (h85.ev rfl) (S85.cellsAll (i := 0) rfl)) rfl rfl fun a86 h86 => ?_
           refine sl_store0 h86 (wn rfl) ⟨rfl, rfl⟩ (h86.ev rfl) (h86.ev rfl) rfl (by kernel_rfl) S85 (i := 1) rfl rfl rfl fun X87 S87 => ?_
           refine ma h86 rfl rfl fun a88 h88 => ?_
           refine st_nil (go_then (wp_ret (ret_then ?_)))
           refine finct h88 rfl rfl rfl S87 (i := 1) rfl (by kernel_rfl) (by kernel_rfl) ?_
           exact ⟨by unfold stO; rw [hno]; rfl, S87.below⟩
         · skip
           have hkq : tkIn s pg top 3500 Z p 0 = some (al, oq) ∧ ¬ oq < least := by
             have h1 := hc2
             simp only [Bool.or_eq_false_iff, Bool.not_eq_false', decide_eq_false_iff_not] at h1
             refine ⟨?_, h1.2⟩
             unfold tkT at htq
             cases ht : tkIn s pg top 3500 Z p 0 with
             | none => rw [ht] at htq; simp only [Prod.mk.injEq] at htq; rw [h1.1] at htq; simp at htq
             | some x => rw [ht] at htq; simp only [Prod.mk.injEq] at htq; rw [← htq.1, ← htq.2.1]
           have hlq : al.length = Z := tk_length hs hpg.1 top htop (by omega) (by omega) (by decide) hkq.1
           have hzq := bs_size al
           obtain ⟨bt, hbt⟩ : ∃ bt, bt = (al.drop 12).take N := ⟨_, rfl⟩
           have hlb : bt.length = N := by rw [hbt, List.length_take, List.length_drop]; omega
           have hzb := bs_size bt
           rw [hkq.1] at hst
           simp only at hst
           rw [if_neg hkq.2, ← hbt] at hst
           refine wp_skip (go_then (st_seq (st_reg ?_)))
           refine mv h85 rfl rfl fun a89 h89 => ?_
           refine mv h89 rfl rfl fun a90 h90 => ?_
           refine sl_val h90 (wn rfl) (as_val (v' := .int .i64 ((12 + N : Nat) : Int)) (congrArg _ (by omega)) (ex_add (h90.ev rfl) (h90.ev rfl) (by omega))) rfl rfl fun a91 h91 => ?_
           refine sl_val h91 (wn rfl) (as_val (v' := .string (bs bt)) (congrArg _ (by rw [bs_extract, Nat.add_sub_cancel_left, hbt])) (ex_sslice (l := 12) (h := (12 + N)) Tryz.underlying9 (h91.ev rfl) (h91.ev rfl) (h91.ev rfl) (by omega) (by omega))) rfl rfl fun a92 h92 => ?_
           refine ma h92 rfl rfl fun a93 h93 => ?_
           refine st_nil (go_then (st_seq (st_seq (st_reg ?_))))
           refine mv h93 rfl rfl fun a94 h94 => ?_
           refine sl_pure h94 (wn rfl) (ex_call (fun _ _ => by kernel_rfl) (h94.evs rfl) rfl) rfl rfl (LittleAt_l al 8 4 (by omega) (by omega) (by decide) _) fun a95 h95 => ?_
           refine mv h95 rfl rfl fun a96 h96 => ?_
           refine sl_pure h96 (wn rfl) (ex_call (fun _ _ => by kernel_rfl) (h96.evs rfl) rfl) rfl rfl (Sum_l bt _ (by omega)) fun a97 h97 => ?_
           refine sl_val h97 (wn rfl) (ex_neq (h97.ev rfl) (h97.ev rfl)) rfl rfl fun a98 h98 => ?_
           refine mv h98 rfl rfl fun a99 h99 => ?_
           apply sl_or h99 S85 83 rfl 7 90
           case hf =>
            intro gc83
            refine sl_val h99 (wanted_yes h99 _ rfl rfl rfl gc83) (ex_move (h99.ev rfl)) rfl rfl fun a100 h100 => ?_
            refine sl_val h100 (wanted_yes h100 _ rfl rfl rfl gc83) (ex_move (h100.ev rfl)) rfl rfl fun a101 h101 => ?_
            refine sl_val h101 (wanted_yes h101 _ rfl rfl rfl gc83) (as_val (v' := .int .i64 ((12 + N : Nat) : Int)) (congrArg _ (by omega)) (ex_add (h101.ev rfl) (h101.ev rfl) (by omega))) rfl rfl fun a102 h102 => ?_
            refine sl_val h102 (wanted_yes h102 _ rfl rfl rfl gc83) (as_val (v' := .string (bs (al.drop (12 + N)))) (congrArg _ (by rw [bs_extract, List.take_of_length_le (by rw [List.length_drop]; omega)])) (ex_sslice (l := (12 + N)) (h := Z) Tryz.underlying9 (h102.ev rfl) (h102.ev rfl) (by show Z = (bs al).size; omega) (by omega) (by omega))) rfl rfl fun a103 h103 => ?_
            refine sl_bel h103 (wanted_yes h103 _ rfl rfl rfl gc83) (ex_call (fun _ _ => by kernel_rfl) (h103.evs rfl) rfl) rfl rfl S85 (IsZeros_l _ _ (by rw [List.length_drop]; omega)) fun a104 X104 h104 S104 => ?_
            refine sl_val h104 (wanted_yes h104 _ rfl rfl rfl gc83) (ex_not (h104.ev rfl)) rfl rfl fun a105 h105 => ?_
            refine sl_val h105 (wn rfl) (ex_pick_f (h105.ev rfl) gc83 (h105.ev rfl)) rfl rfl fun a106 h106 => ?_
            exact st_nil ⟨h106.mid (m := [(_, _), (_, _), (_, _), (_, _), (_, _), (_, _)]) rfl, S104⟩
           case ht =>
            intro gc83
            refine sl_no h99 (wanted_no h99 _ rfl rfl rfl gc83) rfl rfl fun a107 h107 => ?_
            refine sl_no h107 (wanted_no h107 _ rfl rfl rfl gc83) rfl rfl fun a108 h108 => ?_
            refine sl_no h108 (wanted_no h108 _ rfl rfl rfl gc83) rfl rfl fun a109 h109 => ?_
            refine sl_no h109 (wanted_no h109 _ rfl rfl rfl gc83) rfl rfl fun a110 h110 => ?_
            refine sl_no h110 (wanted_no h110 _ rfl rfl rfl gc83) rfl rfl fun a111 h111 => ?_
            refine sl_no h111 (wanted_no h111 _ rfl rfl rfl gc83) rfl rfl fun a112 h112 => ?_
            refine sl_val h112 (wn rfl) (ex_pick_t (h112.ev rfl) gc83 (h112.ev rfl)) rfl rfl fun a113 h113 => ?_
            exact st_nil ⟨h113.mid (m := [(_, _), (_, _), (_, _), (_, _), (_, _), (_, _)]) rfl, S85⟩
           case h =>
            rintro a114 X114 ⟨h114, S114⟩
            refine st_nil (go_then ?_)
            refine st_if (h114.ev rfl) (fun hc3 => ?_) (fun hc3 => ?_)
            · skip
              have hno : stIn s pg top p least = none := by
                rw [hst, if_pos]
                have h1 := hc3
                simp only [Bool.or_eq_true, Bool.not_eq_true', bne_iff_ne, ne_eq] at h1
                exact h1
              refine st_seq (st_reg ?_)
              refine sl_val h114 (wn rfl) (ex_loads (by kernel_rfl) (by kernel_rfl) (h114.ev rfl) (S114.cellsAll (i := 0) rfl)) rfl rfl fun a115 h115 => ?_
              refine sl_store0 h115 (wn rfl) ⟨rfl, rfl⟩ (h115.ev rfl) (h115.ev rfl) rfl (by kernel_rfl) S114 (i := 1) rfl rfl rfl fun X116 S116 => ?_
              refine ma h115 rfl rfl fun a117 h117 => ?_
              refine st_nil (go_then (wp_ret (ret_then ?_)))
              refine finct h117 rfl rfl rfl S116 (i := 1) rfl (by kernel_rfl) (by kernel_rfl) ?_
              exact ⟨by unfold stO; rw [hno]; rfl, S116.below⟩
            · skip
              have hso : stIn s pg top p least = some ⟨p + 1, oq, bs bt⟩ := by
                rw [hst, if_neg]
                have h1 := hc3
                simp only [Bool.or_eq_false_iff, Bool.not_eq_false', bne_eq_false_iff_eq] at h1
                rintro (h2 | h2)
                · exact h2 h1.1
                · rw [h1.2] at h2; cases h2
              refine wp_skip (go_then (st_seq (st_reg ?_)))
              refine mv h114 rfl rfl fun a118 h118 => ?_
              refine sl_val h118 (wn rfl) (ex_add (h118.ev rfl) (h118.ev rfl) (by omega)) rfl rfl fun a119 h119 => ?_
              refine mv h119 rfl rfl fun a120 h120 => ?_
              refine mv h120 rfl rfl fun a121 h121 => ?_
              refine sl_val h121 (wn rfl) (ex_build (zs := [.int .i64 0, .int .i64 0, .string ⟨#[]⟩]) (pl := [(0, 1), (1, 1), (2, 1)]) (by kernel_rfl) (by kernel_rfl) (h121.evs2 rfl) rfl rfl) rfl rfl fun a122 h122 => ?_
              refine sl_store0 h122 (wn rfl) ⟨rfl, rfl⟩ (h122.ev rfl) (h122.ev rfl) rfl (by kernel_rfl) S114 (i := 1) rfl rfl rfl fun X123 S123 => ?_
              refine ma h122 rfl rfl fun a124 h124 => ?_
              refine st_nil (go_then (wp_ret ?_))
              refine finct h124 rfl rfl rfl S123 (i := 1) rfl (by kernel_rfl) (by kernel_rfl) ?_
              exact ⟨by unfold stO; rw [hso]; rfl, S123.below⟩
end Go.Proofs.YtmlilplbdpjfcaaGreatDoor
