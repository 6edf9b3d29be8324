/-
  Chapter 20: the reference's validity of logs.
-/
import Derived.Test.YtmlilplbdpjfcaaGreatDoorRgG
namespace Go.Proofs.YtmlilplbdpjfcaaGreatDoor
set_option linter.unusedVariables false
set_option linter.unusedSimpArgs false
set_option maxRecDepth 4000
open Go.RowKit Go.Sort
theorem st_joinF {F : Prop} {P : Program} {Q : Exit → Act → World → Prop} {a : Act} {X : World} {N : Nat} {l : List (Nat × Value)} {c : Code} {M : List Nat} {w : World} {L : List Ent} (ha : Has a N l) (hS : St M w X L) (J : List (Nat × Value)) (ks : List Nat)
 (h1 : c.wp P (Exit.then (fun a' X' => Has a' N (J ++ keepL l ks) ∧ St M w X' L ∧ F) Q) a X) (h2 : ∀ a' X', Has a' N (J ++ keepL l ks) → St M w X' L → F → Q .normal a' X') : c.wp P Q a X :=
 st_join _ h1 fun a' X' h => h2 a' X' h.1 h.2.1 h.2.2
theorem chk_head {r : RngP} {e : Int} (h : headE r = e) (he : e ≠ 0) : chkR r = (0, e) := by
 unfold chkR; rw [if_pos (by rw [h]; exact he), h]
theorem chk_rec {r : RngP} {k : Nat} {e : Int} (hh : headE r = 0) (hk : k < r.rs.length) (hall : ∀ m (hm : m < r.rs.length), m < k → recE r.r.o r.r.s (bfrR r.rs m) r.rs[m] = 0) (h : recE r.r.o r.r.s (bfrR r.rs k) r.rs[k] = e) (he : e ≠ 0) : chkR r = ((k : Int), e) := by
 have h1 := eachE_hit (fun i x => recE r.r.o r.r.s (bfrR r.rs i) x) r.rs 0 k hk (fun m hm hmk => by rw [Nat.zero_add]; exact hall m hm hmk) (by rw [Nat.zero_add, h]; exact he)
 rw [Nat.zero_add, h] at h1
 have h2 : recsP r = ((k : Int), e) := h1
 unfold chkR
 rw [if_neg (by rw [hh]; decide), h2, if_pos he]
theorem chk_tail {r : RngP} (hh : headE r = 0) (hall : ∀ m (hm : m < r.rs.length), recE r.r.o r.r.s (bfrR r.rs m) r.rs[m] = 0) : chkR r = (0, tailE r) := by
 have h1 := eachE_none (fun i x => recE r.r.o r.r.s (bfrR r.rs i) x) r.rs 0 (fun m hm => by rw [Nat.zero_add]; exact hall m hm)
 have h2 : recsP r = (0, 0) := h1
 unfold chkR
 rw [if_neg (by rw [hh]; decide), h2, if_neg (by decide)]
def atR (r : RngP) (k : Nat) : Int := match bfrR r.rs k with
 | none => r.r.o - 1
 | some y => bhR y
def sqR (r : RngP) (k : Nat) : Int := match bfrR r.rs k with
 | none => 0
 | some y => y.s
theorem bfrR_pos {l : List RecP} {k : Nat} (h0 : 0 < k) (hk : k ≤ l.length) : ∃ y, bfrR l k = some y := by
 unfold bfrR
 rw [if_neg (by omega), List.getElem?_eq_getElem (by omega)]
 exact ⟨_, rfl⟩
theorem bfr_le (r : RngP) (ho : r.r.o ≤ 100000000) (hlen : r.rs.length ≤ 1000) (k : Nat) (hk : k ≤ r.rs.length) (h : ∀ m (hm : m < r.rs.length), m < k → recE r.r.o r.r.s (bfrR r.rs m) r.rs[m] = 0) : ∀ y, bfrR r.rs k = some y → Bfr y ∧ y.l ≤ 104000000 ∧ 1 ≤ y.s ∧ y.s ≤ r.r.s := fun y hy => by
 unfold bfrR at hy
 split at hy
 · cases hy
 · rename_i h0
   have hk1 : k - 1 < r.rs.length := by omega
   rw [List.getElem?_eq_getElem hk1] at hy
   injection hy with hy
   have hb := recs_bd r ho (k - 1) hk1 (fun m hm hmk => h m hm (by omega))
   have hz := (recE_zero.1 (h (k - 1) hk1 (by omega))).2.2.2.1
   rw [inB_true] at hz
   rw [hy] at hb hz
   exact ⟨⟨hb.1, by omega, hb.2.2⟩, by omega, hz⟩
theorem seq_cond {r : RngP} {k : Nat} {x : RecP} (hk : k ≤ r.rs.length) (hs : 1 ≤ x.s) : (decide (x.s < sqR r k) || (decide ((k : Int) > 0) && decide (x.s > sqR r k) && ((x.l - 1) % 448 != 0))) = !seqB (bfrR r.rs k) x := by
 unfold sqR
 rcases Nat.eq_zero_or_pos k with h0 | h0
 · subst h0
   have : bfrR r.rs 0 = none := rfl
   rw [this]
   simp only [seqB]
   simp; omega
 · obtain ⟨y, hy⟩ := bfrR_pos h0 hk
   rw [hy]
   simp only [seqB]
   rw [decide_eq_true (show (k : Int) > 0 by omega), Bool.true_and]
   rcases Int.lt_trichotomy x.s y.s with h | h | h
   · have e1 : (x.s == y.s) = false := by rw [beq_eq_false_iff_ne]; omega
     rw [decide_eq_true h, e1, decide_eq_false (show ¬ y.s < x.s by omega)]; rfl
   · rw [h, decide_eq_false (show ¬ y.s < y.s by omega)]; simp
   · have e1 : (x.s == y.s) = false := by rw [beq_eq_false_iff_ne]; omega
     rw [decide_eq_false (show ¬ x.s < y.s by omega), e1, decide_eq_true h]
     simp [bne]
theorem bfrR_nxt {l : List RecP} {k : Nat} (h : k < l.length) : bfrR l (k + 1) = some l[k] := by
 unfold bfrR
 rw [if_neg (by omega), show k + 1 - 1 = k by omega, List.getElem?_eq_getElem h]
theorem ord_bd {o : Int} {f : Option RecP} {x : RecP} (h : ordB o f x = true) (ho : o ≤ 100000000) (hf : ∀ y, f = some y → Bfr y) : 1 ≤ x.l ∧ x.l ≤ 700000001 := by
 cases f with
 | none =>
  simp only [ordB, Bool.and_eq_true, beq_iff_eq, decide_eq_true_eq] at h
  omega
 | some y =>
  have hb := (hf y rfl).bd
  simp only [ordB, Bool.or_eq_true, beq_iff_eq] at h
  omega
theorem tail_next {r : RngP} {e : Int} (h : nextE r = e) (he : e ≠ 0) : tailE r = e := by
 unfold tailE; rw [firstE_c, if_neg (by rw [h]; exact he), h]
theorem rCheckRing_any (r : RngP) (A : Option Addr) (c : Nat) (w : World) (hr : Rd w w.heap.size A (recsV r.rs)) (hlen : r.rs.length ≤ 1000) (hx : ∀ x ∈ r.rs, I6 x.l) :
 Calls Tryz.prog 29 #[ringV r A c] w fun e w' => e = .returned (.tuple #[.int .i64 (chkR r).1, .int .i64 (chkR r).2]) ∧ Below w.heap.size w w' := by
 refine st_enter (N := 208) Tryz.func29 rfl rfl rfl (fun a0 h0 => ?_)
 have S0 := St.init w
 refine st_seq (st_reg ?_)
 refine nb h0 rfl rfl S0 fun b1 a1 X1 gb1 h1 S1 => ?_
 refine ma h1 rfl rfl fun a2 h2 => ?_
 refine ma h2 rfl rfl fun a3 h3 => ?_
 refine st_nil (go_then (st_seq (st_seq (st_reg ?_))))
 refine vf h3 0 0 rfl rfl rfl fun a4 h4 => ?_
 refine vl h4 S1 0 rfl rfl rfl rfl fun a5 h5 => ?_
 refine sl_pure h5 (wn rfl) (ex_call (fun _ _ => by kernel_rfl) (h5.evs rfl) rfl) rfl rfl (rPagesErr_any _ _) fun a6 h6 => ?_
 refine ma h6 rfl rfl fun a7 h7 => ?_
 refine nsr ?_
 refine mv h7 rfl rfl fun a8 h8 => ?_
 refine sv h8 (ex_neq (h8.ev rfl) (h8.ev rfl)) fun a9 h9 => ?_
 refine st_nil (go_then ?_)
 refine st_if (h9.ev rfl) (fun hc0 => ?_) (fun hc0 => ?_)
 ·
  have hch : chkR r = (0, pgsE r.pg) := chk_head (by unfold headE; rw [firstE_c, if_neg (by simpa using hc0)]) (by simpa using hc0)
  refine st_seq (st_reg ?_)
  refine mv h9 rfl rfl fun a10 h10 => ?_
  refine ma h10 rfl rfl fun a11 h11 => ?_
  refine ma h11 rfl rfl fun a12 h12 => ?_
  refine st_nil (go_then (wp_ret (ret_then ?_)))
  refine fin2 h12 rfl rfl rfl ?_
  exact ⟨by rw [hch], S1.below⟩
 ·
  have hz1 : pgsE r.pg = 0 := by simpa using hc0
  refine wp_skip (go_then (st_seq (st_seq (st_reg ?_))))
  refine vf h9 1 1 rfl rfl rfl fun a13 h13 => ?_
  refine sv (v := rstV r.r) h13 (ex_loads (by kernel_rfl) (by kernel_rfl) (h13.ev rfl) (S1.cellsOf (i := 0) rfl 1 3)) fun a14 h14 => ?_
  refine sl_bel h14 (wn rfl) (ex_call (fun _ _ => by kernel_rfl) (h14.evs rfl) rfl) rfl rfl S1 (rRestartErr_any r.r _) fun a15 X15 h15 S15 => ?_
  refine ma h15 rfl rfl fun a16 h16 => ?_
  refine nsr ?_
  refine mv h16 rfl rfl fun a17 h17 => ?_
  refine sv h17 (ex_neq (h17.ev rfl) (h17.ev rfl)) fun a18 h18 => ?_
  refine st_nil (go_then ?_)
  refine st_if (h18.ev rfl) (fun hc1 => ?_) (fun hc1 => ?_)
  ·
   have hch : chkR r = (0, rstE r.r) := chk_head (by unfold headE; rw [firstE_c, if_pos hz1, firstE_c, if_neg (by simpa using hc1)]) (by simpa using hc1)
   refine st_seq (st_reg ?_)
   refine mv h18 rfl rfl fun a19 h19 => ?_
   refine ma h19 rfl rfl fun a20 h20 => ?_
   refine ma h20 rfl rfl fun a21 h21 => ?_
   refine st_nil (go_then (wp_ret (ret_then ?_)))
   refine fin2 h21 rfl rfl rfl ?_
   exact ⟨by rw [hch], S15.below⟩
  ·
   have hz2 : rstE r.r = 0 := by simpa using hc1
   have hrb := rstB_bd ((unl_zero (by decide)).1 hz2)
   refine wp_skip (go_then (st_seq (st_seq (st_reg ?_))))
   refine vf h18 4 4 rfl rfl rfl fun a22 h22 => ?_
   refine sv (v := rstV r.e) h22 (ex_loads (by kernel_rfl) (by kernel_rfl) (h22.ev rfl) (S15.cellsOf (i := 0) rfl 4 3)) fun a23 h23 => ?_
   refine sv (v := rstV rst0) h23 (ex_build (zs := [.int .i64 0, .int .i64 0, .int .i64 0]) (pl := [(0, 1), (1, 1), (2, 1)]) (by kernel_rfl) (by kernel_rfl) (h23.evs2 rfl) rfl rfl) fun a24 h24 => ?_
   refine sv h24 (ex_tneq (ks := [.i .i64, .i .i64, .i .i64]) (by kernel_rfl) Tryz.underlying23 (by kernel_rfl) (h24.ev rfl) (h24.ev rfl) rfl rfl) fun a25 h25 => ?_
   refine st_nil (go_then ?_)
   refine st_joinF (F := earE r = 0) h25 S15 [] [1] ?_ (fun a26 X26 h26 S26 hz3 => ?_)
   ·
    refine st_if (h25.ev rfl) (fun hc2 => ?_) (fun hc2 => ?_)
    ·
     have hne : ¬ r.e = rst0 := by
      have e1 : (!eqL [.int .i64 r.e.s, .int .i64 r.e.c, .int .i64 r.e.o] [.int .i64 rst0.s, .int .i64 rst0.c, .int .i64 rst0.o]) = true := hc2
      rw [rst_eqL] at e1; simpa using e1
     refine st_seq (st_seq (st_reg ?_))
     refine vf h25 4 4 rfl rfl rfl fun a27 h27 => ?_
     refine sv (v := rstV r.e) h27 (ex_loads (by kernel_rfl) (by kernel_rfl) (h27.ev rfl) (S15.cellsOf (i := 0) rfl 4 3)) fun a28 h28 => ?_
     refine sl_bel h28 (wn rfl) (ex_call (fun _ _ => by kernel_rfl) (h28.evs rfl) rfl) rfl rfl S15 (rRestartErr_any r.e _) fun a29 X29 h29 S29 => ?_
     refine ma h29 rfl rfl fun a30 h30 => ?_
     refine nsr ?_
     refine mv h30 rfl rfl fun a31 h31 => ?_
     refine sv h31 (ex_neq (h31.ev rfl) (h31.ev rfl)) fun a32 h32 => ?_
     refine st_nil (go_then ?_)
     refine st_if (h32.ev rfl) (fun hc3 => ?_) (fun hc3 => ?_)
     ·
      have hear : earE r = rstE r.e := by unfold earE; rw [if_neg hne, firstE_c, if_neg (by simpa using hc3)]
      have hch : chkR r = (0, rstE r.e) := chk_head (by unfold headE; rw [firstE_c, if_pos hz1, firstE_c, if_pos hz2, firstE_c, if_neg (by rw [hear]; simpa using hc3), hear]) (by simpa using hc3)
      refine st_seq (st_reg ?_)
      refine mv h32 rfl rfl fun a33 h33 => ?_
      refine ma h33 rfl rfl fun a34 h34 => ?_
      refine ma h34 rfl rfl fun a35 h35 => ?_
      refine st_nil (go_then (wp_ret (ret_then (ret_then (ret_then ?_)))))
      refine fin2 h35 rfl rfl rfl ?_
      exact ⟨by rw [hch], S29.below⟩
     ·
      have hz4 : rstE r.e = 0 := by simpa using hc3
      refine wp_skip (go_then (st_seq (st_reg ?_)))
      refine vf h32 4 4 rfl rfl rfl fun a36 h36 => ?_
      refine vf h36 0 4 rfl rfl rfl fun a37 h37 => ?_
      refine vl h37 S29 0 rfl rfl rfl rfl fun a38 h38 => ?_
      refine vf h38 1 1 rfl rfl rfl fun a39 h39 => ?_
      refine vf h39 0 1 rfl rfl rfl fun a40 h40 => ?_
      refine vl h40 S29 0 rfl rfl rfl rfl fun a41 h41 => ?_
      refine sv h41 (ex_sub (h41.ev rfl) (h41.ev rfl) (by omega)) fun a42 h42 => ?_
      refine sv h42 (ex_neq (h42.ev rfl) (h42.ev rfl)) fun a43 h43 => ?_
      refine st_nil (go_then ?_)
      refine st_if (h43.ev rfl) (fun hc4 => ?_) (fun hc4 => ?_)
      ·
       have hch : chkR r = (0, 9) := chk_head (by
        have : (r.e.s == r.r.s - 1) = false := by rw [beq_eq_false_iff_ne]; simpa using hc4
        unfold headE earE; rw [firstE_c, if_pos hz1, firstE_c, if_pos hz2, firstE_c, if_neg hne, firstE_c, if_pos hz4, firstE_c, this]; rfl) (by decide)
       refine st_seq (st_reg ?_)
       refine ma h43 rfl rfl fun a44 h44 => ?_
       refine ma h44 rfl rfl fun a45 h45 => ?_
       refine st_nil (go_then (wp_ret (ret_then (ret_then ?_))))
       refine fin2 h45 rfl rfl rfl ?_
       exact ⟨by rw [hch], S29.below⟩
      ·
       have hz3 : earE r = 0 := by
        have : (r.e.s == r.r.s - 1) = true := by rw [beq_iff_eq]; simpa using hc4
        unfold earE; rw [if_neg hne, firstE_c, if_pos hz4, firstE_c, this]; rfl
       refine wp_skip (go_then ?_)
       exact ⟨h43.re ⟨rfl, trivial⟩, S29, hz3⟩
    ·
     have he0 : r.e = rst0 := by
      have e1 : (!eqL [.int .i64 r.e.s, .int .i64 r.e.c, .int .i64 r.e.o] [.int .i64 rst0.s, .int .i64 rst0.c, .int .i64 rst0.o]) = false := hc2
      rw [rst_eqL] at e1; simpa using e1
     have hz3 : earE r = 0 := by unfold earE; rw [if_pos he0]
     refine wp_skip (go_then ?_)
     exact ⟨h25.re ⟨rfl, trivial⟩, S15, hz3⟩
   ·
    refine go_then (st_seq (st_seq (st_reg ?_)))
    refine vf h26 8 8 rfl rfl rfl fun a46 h46 => ?_
    refine vl h46 S26 0 rfl rfl rfl rfl fun a47 h47 => ?_
    refine sl_pure h47 (wn rfl) (ex_call (fun _ _ => by kernel_rfl) (h47.evs rfl) rfl) rfl rfl (rposition_any _ _) fun a48 h48 => ?_
    refine sv h48 (ex_not (h48.ev rfl)) fun a49 h49 => ?_
    refine mv h49 rfl rfl fun a50 h50 => ?_
    apply sl_or h50 S26 47 rfl 5 52
    case hf =>
     intro gc47
     refine sy h50 rfl rfl rfl gc47 (ex_field (off := 8) (j := 8) (by kernel_rfl) (h50.ev rfl) rfl) rfl rfl fun a51 h51 => ?_
     refine sy h51 rfl rfl rfl gc47 (ex_load (by kernel_rfl) (h51.ev rfl) (S26.cell (i := 0) rfl rfl)) rfl rfl fun a52 h52 => ?_
     refine sy h52 rfl rfl rfl gc47 (ex_rem (h52.ev rfl) (h52.ev rfl) ⟨by have := inB_true.1 (by simpa using gc47 : posB r.nx = true); omega, by omega⟩) rfl rfl fun a53 h53 => ?_
     refine sy h53 rfl rfl rfl gc47 (ex_neq (h53.ev rfl) (h53.ev rfl)) rfl rfl fun a54 h54 => ?_
     refine sv h54 (ex_pick_f (h54.ev rfl) gc47 (h54.ev rfl)) fun a55 h55 => ?_
     exact st_nil ⟨h55.mid (m := [(_, _), (_, _), (_, _), (_, _)]) rfl, S26⟩
    case ht =>
     intro gc47
     refine no h50 rfl rfl rfl gc47 rfl rfl fun a56 h56 => ?_
     refine no h56 rfl rfl rfl gc47 rfl rfl fun a57 h57 => ?_
     refine no h57 rfl rfl rfl gc47 rfl rfl fun a58 h58 => ?_
     refine no h58 rfl rfl rfl gc47 rfl rfl fun a59 h59 => ?_
     refine sv h59 (ex_pick_t (h59.ev rfl) gc47 (h59.ev rfl)) fun a60 h60 => ?_
     exact st_nil ⟨h60.mid (m := [(_, _), (_, _), (_, _), (_, _)]) rfl, S26⟩
    case h =>
     rintro a61 X61 ⟨h61, S61⟩
     refine st_nil (go_then ?_)
     refine st_if (h61.ev rfl) (fun hc5 => ?_) (fun hc5 => ?_)
     ·
      have hch : chkR r = (0, 2) := chk_head (by
       have : (posB r.nx && r.nx % 8 == 0) = false := by
        cases h : posB r.nx with
        | false => rfl
        | true =>
         rw [h] at hc5
         simpa [bne] using hc5
       unfold headE; rw [firstE_c, if_pos hz1, firstE_c, if_pos hz2, firstE_c, if_pos hz3, firstE_c, this]; rfl) (by decide)
      refine st_seq (st_reg ?_)
      refine ma h61 rfl rfl fun a62 h62 => ?_
      refine ma h62 rfl rfl fun a63 h63 => ?_
      refine st_nil (go_then (wp_ret (ret_then ?_)))
      refine fin2 h63 rfl rfl rfl ?_
      exact ⟨by rw [hch], S61.below⟩
     ·
      have hz5 : (posB r.nx && r.nx % 8 == 0) = true := by
       cases h : posB r.nx with
       | false => rw [h] at hc5; simp at hc5
       | true =>
        rw [h] at hc5
        simpa [bne] using hc5
      have hnx := inB_true.1 (Bool.and_eq_true_iff.1 hz5).1
      refine wp_skip (go_then (st_seq (st_seq (st_reg ?_))))
      refine vf h61 7 7 rfl rfl rfl fun a64 h64 => ?_
      refine vl h64 S61 0 rfl rfl rfl rfl fun a65 h65 => ?_
      refine sv h65 (ex_len Tryz.underlying24 (h65.ev rfl)) fun a66 h66 => ?_
      refine sv h66 (ex_gtr (h66.ev rfl) (h66.ev rfl)) fun a67 h67 => ?_
      refine st_nil (go_then ?_)
      refine st_if (h67.ev rfl) (fun hc6 => ?_) (fun hc6 => ?_)
      ·
       have hch : chkR r = (0, 8) := chk_head (by
        have h6 : (r.rs.length : Int) > 100 := of_decide_eq_true hc6
        have : decide (r.rs.length ≤ 100) = false := by rw [decide_eq_false_iff_not]; omega
        unfold headE; rw [firstE_c, if_pos hz1, firstE_c, if_pos hz2, firstE_c, if_pos hz3, firstE_c, hz5, if_pos (unl_true 2), firstE_c, this]; rfl) (by decide)
       refine st_seq (st_reg ?_)
       refine ma h67 rfl rfl fun a68 h68 => ?_
       refine ma h68 rfl rfl fun a69 h69 => ?_
       refine st_nil (go_then (wp_ret (ret_then ?_)))
       refine fin2 h69 rfl rfl rfl ?_
       exact ⟨by rw [hch], S61.below⟩
      ·
       have h6 : r.rs.length ≤ 100 := by have := of_decide_eq_false hc6; omega
       have hh : headE r = 0 := by
        unfold headE; rw [firstE_c, if_pos hz1, firstE_c, if_pos hz2, firstE_c, if_pos hz3, firstE_c, hz5, if_pos (unl_true 2), firstE_c, decide_eq_true h6]; rfl
       refine wp_skip (go_then (st_seq (st_reg ?_)))
       refine vf h67 1 1 rfl rfl rfl fun a70 h70 => ?_
       refine vf h70 2 3 rfl rfl rfl fun a71 h71 => ?_
       refine vl h71 S61 0 rfl rfl rfl rfl fun a72 h72 => ?_
       refine sv h72 (ex_sub (h72.ev rfl) (h72.ev rfl) (by omega)) fun a73 h73 => ?_
       refine ma h73 rfl rfl fun a74 h74 => ?_
       refine ma h74 rfl rfl fun a75 h75 => ?_
       refine st_nil (go_then (st_seq (st_seq (st_reg ?_))))
       refine ma h75 rfl rfl fun a76 h76 => ?_
       refine st_nil (go_then (wp_block ?_))
       refine st_loop h76 S61 [1] (fun (k : Nat) => [(9, .int .i64 (k : Int)), (7, .int .i64 (atR r k)), (8, .int .i64 (sqR r k))]) (fun (k : Nat) => k ≤ r.rs.length ∧ ∀ m (hm : m < r.rs.length), m < k → recE r.r.o r.r.s (bfrR r.rs m) r.rs[m] = 0) (fun (k : Nat) L => L) (fun (k : Nat) => r.rs.length - k) (0) (⟨Nat.zero_le _, fun m hm h => by omega⟩) ⟨rfl, rfl, rfl, rfl, trivial⟩ (S61) ?_
       intro k a77 X77 hF0 h77 S77
       refine st_seq (st_seq (st_reg ?_))
       refine mv h77 rfl rfl fun a78 h78 => ?_
       refine vf h78 7 7 rfl rfl rfl fun a79 h79 => ?_
       refine vl h79 S77 0 rfl rfl rfl rfl fun a80 h80 => ?_
       refine sv h80 (ex_len Tryz.underlying24 (h80.ev rfl)) fun a81 h81 => ?_
       refine sv h81 (ex_lss (h81.ev rfl) (h81.ev rfl)) fun a82 h82 => ?_
       refine st_nil (go_then ?_)
       refine st_if (h82.ev rfl) (fun hc7 => ?_) (fun hc7 => ?_)
       ·
        have hlt : k < r.rs.length := by have := of_decide_eq_true hc7; omega
        obtain ⟨b, o, rfl, _⟩ := hr.opened (by rw [recsV_length]; omega)
        obtain ⟨_, hall⟩ := hF0
        have hbf := bfr_le r (by omega) hlen k (by omega) hall
        have hxi : I6 r.rs[k].l := hx _ (List.getElem_mem hlt)
        unfold I6 at hxi
        refine wp_skip (go_then (st_seq (wp_block (st_seq (st_reg ?_)))))
        refine vf h82 7 7 rfl rfl rfl fun a83 h83 => ?_
        refine vl h83 S77 0 rfl rfl rfl rfl fun a84 h84 => ?_
        refine mv h84 rfl rfl fun a85 h85 => ?_
        refine sv h85 (ex_index (i := k) (sz := 3) Tryz.underlying24 (by kernel_rfl) (h85.ev rfl) (h85.ev rfl) (by omega) (by omega) rfl) fun a86 h86 => ?_
        refine sv (v := recV r.rs[k]) h86 (ex_loads (by kernel_rfl) (by kernel_rfl) (h86.ev rfl) (recAt (S77.rd0 hr) hlt)) fun a87 h87 => ?_
        refine na (.agg #[.int .i64 0, .int .i64 0, .string ⟨#[]⟩]) h87 rfl S77 fun b10 a88 X88 gb10 h88 S88 => ?_
        refine sl_store0 h88 (wn rfl) ⟨rfl, rfl⟩ (h88.ev rfl) (h88.ev rfl) rfl (by kernel_rfl) S88 (i := 0) rfl rfl rfl fun X89 S89 => ?_
        refine st_nil (go_then (st_seq (st_seq (st_reg ?_))))
        refine vf h88 2 2 rfl rfl rfl fun a90 h90 => ?_
        refine vl h90 S89 0 rfl rfl rfl rfl fun a91 h91 => ?_
        refine sv h91 (ex_slen Tryz.underlying9 (h91.ev rfl)) fun a92 h92 => ?_
        refine sv h92 (ex_eql (h92.ev rfl) (h92.ev rfl)) fun a93 h93 => ?_
        refine st_nil (go_then ?_)
        refine st_if (h93.ev rfl) (fun hc8 => ?_) (fun hc8 => ?_)
        ·
         have hch : chkR r = ((k : Int), 17) := chk_rec hh hlt hall (by unfold recE; rw [if_pos (by have := eq_of_beq hc8; omega)]) (by decide)
         refine st_seq (st_reg ?_)
         refine mv h93 rfl rfl fun a94 h94 => ?_
         refine ma h94 rfl rfl fun a95 h95 => ?_
         refine ma h95 rfl rfl fun a96 h96 => ?_
         refine st_nil (go_then (wp_ret (ret_then (ret_block (ret_then (ret_then (ret_block (ret_then ?_))))))))
         refine fin2 h96 rfl rfl rfl ?_
         exact ⟨by rw [hch], S89.below⟩
        ·
         have hs0 : ¬ r.rs[k].b.size = 0 := by intro h; rw [h] at hc8; exact absurd hc8 (by decide)
         refine wp_skip (go_then (st_seq (st_seq (st_reg ?_))))
         refine vf h93 2 2 rfl rfl rfl fun a97 h97 => ?_
         refine vl h97 S89 0 rfl rfl rfl rfl fun a98 h98 => ?_
         refine sv h98 (ex_slen Tryz.underlying9 (h98.ev rfl)) fun a99 h99 => ?_
         refine sv h99 (ex_gtr (h99.ev rfl) (h99.ev rfl)) fun a100 h100 => ?_
         refine st_nil (go_then ?_)
         refine st_if (h100.ev rfl) (fun hc9 => ?_) (fun hc9 => ?_)
         ·
          have hch : chkR r = ((k : Int), 8) := chk_rec hh hlt hall (by unfold recE; rw [if_neg hs0, if_pos (by have := of_decide_eq_true hc9; omega)]) (by decide)
          refine st_seq (st_reg ?_)
          refine mv h100 rfl rfl fun a101 h101 => ?_
          refine ma h101 rfl rfl fun a102 h102 => ?_
          refine ma h102 rfl rfl fun a103 h103 => ?_
          refine st_nil (go_then (wp_ret (ret_then (ret_block (ret_then (ret_then (ret_block (ret_then ?_))))))))
          refine fin2 h103 rfl rfl rfl ?_
          exact ⟨by rw [hch], S89.below⟩
         ·
          have hs3 : r.rs[k].b.size ≤ 3000 := by have := of_decide_eq_false hc9; omega
          have hre : recE r.r.o r.r.s (bfrR r.rs k) r.rs[k] = if ordB r.r.o (bfrR r.rs k) r.rs[k] = false then 9 else if inB r.rs[k].s 1 r.r.s = false then 2 else unl (seqB (bfrR r.rs k) r.rs[k]) 9 := by
           conv => lhs; unfold recE
           rw [if_neg hs0, if_neg (by omega)]
          refine wp_skip (go_then (st_seq (st_seq (st_reg ?_))))
          refine mv h100 rfl rfl fun a104 h104 => ?_
          refine sv h104 (ex_eql (h104.ev rfl) (h104.ev rfl)) fun a105 h105 => ?_
          refine st_nil (go_then ?_)
          refine st_joinF (F := ordB r.r.o (bfrR r.rs k) r.rs[k] = true) h105 S89 [] [84, 83, 81, 80, 79, 78, 76, 75, 74, 73, 10, 72, 71, 70, 69, 68, 65, 64, 63, 62, 61, 9, 7, 8, 1] ?_ (fun a106 X106 h106 S106 hord => ?_)
          ·
           refine st_if (h105.ev rfl) (fun hc10 => ?_) (fun hc10 => ?_)
           ·
            have hk0 : k = 0 := by have := eq_of_beq hc10; omega
            have hb0 : bfrR r.rs k = none := by rw [hk0]; rfl
            have hat : atR r k = r.r.o - 1 := by unfold atR; rw [hb0]
            rw [hat] at h105
            refine st_seq (st_reg ?_)
            refine vf h105 0 0 rfl rfl rfl fun a107 h107 => ?_
            refine vl h107 S89 0 rfl rfl rfl rfl fun a108 h108 => ?_
            refine vf h108 1 1 rfl rfl rfl fun a109 h109 => ?_
            refine vf h109 2 3 rfl rfl rfl fun a110 h110 => ?_
            refine vl h110 S89 1 rfl rfl rfl rfl fun a111 h111 => ?_
            refine sv h111 (ex_neq (h111.ev rfl) (h111.ev rfl)) fun a112 h112 => ?_
            refine mv h112 rfl rfl fun a113 h113 => ?_
            apply sl_or h113 S89 91 rfl 3 94
            case hf =>
             intro gc91
             refine sy h113 rfl rfl rfl gc91 (ex_move (h113.ev rfl)) rfl rfl fun a114 h114 => ?_
             refine sy h114 rfl rfl rfl gc91 (ex_lss (h114.ev rfl) (h114.ev rfl)) rfl rfl fun a115 h115 => ?_
             refine sv h115 (ex_pick_f (h115.ev rfl) gc91 (h115.ev rfl)) fun a116 h116 => ?_
             exact st_nil ⟨h116.mid (m := [(_, _), (_, _)]) rfl, S89⟩
            case ht =>
             intro gc91
             refine no h113 rfl rfl rfl gc91 rfl rfl fun a117 h117 => ?_
             refine no h117 rfl rfl rfl gc91 rfl rfl fun a118 h118 => ?_
             refine sv h118 (ex_pick_t (h118.ev rfl) gc91 (h118.ev rfl)) fun a119 h119 => ?_
             exact st_nil ⟨h119.mid (m := [(_, _), (_, _)]) rfl, S89⟩
            case h =>
             rintro a120 X120 ⟨h120, S120⟩
             refine mv h120 rfl rfl fun a121 h121 => ?_
             apply sl_or h121 S120 95 rfl 4 99
             case hf =>
              intro gc95
              refine sy h121 rfl rfl rfl gc95 (ex_move (h121.ev rfl)) rfl rfl fun a122 h122 => ?_
              refine sy h122 rfl rfl rfl gc95 (ex_rem (h122.ev rfl) (h122.ev rfl) ⟨by rw [Bool.or_eq_false_iff, decide_eq_false_iff_not] at gc95; omega, by omega⟩) rfl rfl fun a123 h123 => ?_
              refine sy h123 rfl rfl rfl gc95 (ex_neq (h123.ev rfl) (h123.ev rfl)) rfl rfl fun a124 h124 => ?_
              refine sv h124 (ex_pick_f (h124.ev rfl) gc95 (h124.ev rfl)) fun a125 h125 => ?_
              exact st_nil ⟨h125.mid (m := [(_, _), (_, _), (_, _)]) rfl, S120⟩
             case ht =>
              intro gc95
              refine no h121 rfl rfl rfl gc95 rfl rfl fun a126 h126 => ?_
              refine no h126 rfl rfl rfl gc95 rfl rfl fun a127 h127 => ?_
              refine no h127 rfl rfl rfl gc95 rfl rfl fun a128 h128 => ?_
              refine sv h128 (ex_pick_t (h128.ev rfl) gc95 (h128.ev rfl)) fun a129 h129 => ?_
              exact st_nil ⟨h129.mid (m := [(_, _), (_, _), (_, _)]) rfl, S120⟩
             case h =>
              rintro a130 X130 ⟨h130, S130⟩
              refine st_nil (go_then ?_)
              refine st_if (h130.ev rfl) (fun hc11 => ?_) (fun hc11 => ?_)
              ·
               have hch : chkR r = ((k : Int), 9) := chk_rec hh hlt hall (by
                rw [hre, if_pos]
                rw [hb0]
                simp only [ordB]
                cases h1 : (r.rs[k].l == r.r.o) with
                | false => rfl
                | true =>
                 have e1 : (r.rs[k].l != r.r.o) = false := by unfold bne; rw [h1]; rfl
                 rw [e1, Bool.false_or] at hc11
                 by_cases h2 : r.r.o - 1 < 0
                 · rw [decide_eq_false (by omega)]; rfl
                 · rw [decide_eq_false h2, Bool.false_or] at hc11
                   rw [decide_eq_true (by omega)]
                   have e2 : ((r.r.o - 1) % 8 == 0) = false := by
                    unfold bne at hc11; simpa using hc11
                   rw [e2]; rfl) (by decide)
               refine st_seq (st_reg ?_)
               refine mv h130 rfl rfl fun a131 h131 => ?_
               refine ma h131 rfl rfl fun a132 h132 => ?_
               refine ma h132 rfl rfl fun a133 h133 => ?_
               refine st_nil (go_then (wp_ret (ret_then (ret_then (ret_block (ret_then (ret_then (ret_block (ret_then ?_)))))))))
               refine fin2 h133 rfl rfl rfl ?_
               exact ⟨by rw [hch], S130.below⟩
              ·
               have hord : ordB r.r.o (bfrR r.rs k) r.rs[k] = true := by
                rw [Bool.or_eq_false_iff, Bool.or_eq_false_iff, decide_eq_false_iff_not, bne_eq_false_iff_eq, bne_eq_false_iff_eq] at hc11
                rw [hb0]
                simp only [ordB]
                rw [hc11.1.1, decide_eq_true (by omega), hc11.2]; simp
               refine wp_skip (go_then ?_)
               rw [← hat] at h130
               exact ⟨h130.re ⟨rfl, rfl, rfl, rfl, rfl, rfl, rfl, rfl, rfl, rfl, rfl, rfl, rfl, rfl, rfl, rfl, rfl, rfl, rfl, rfl, rfl, rfl, rfl, rfl, rfl, trivial⟩, S130, hord⟩
           ·
            have hk0 : 0 < k := by
             have : ¬ (k : Int) = 0 := by intro h; rw [h] at hc10; exact absurd hc10 (by decide)
             omega
            obtain ⟨y, hy⟩ := bfrR_pos hk0 (by omega : k ≤ r.rs.length)
            have hyb := hbf y hy
            have hbd := hyb.1.bd
            have hat : atR r k = bhR y := by unfold atR; rw [hy]
            rw [hat] at h105
            refine st_seq ?_
            apply dr_flow h105 [false, false, false, false, false, false, false, false, false, false, false, false] _ (by kernel_rfl)
            case h =>
             refine qv h105 (fun X hX => ex_field (off := 0) (j := 0) (by kernel_rfl) (h105.ev rfl) rfl) fun a134 h134 => ?_
             refine qv h134 (fun X hX => ex_load (by kernel_rfl) (h134.ev rfl) ((S89.grow hX).cell (i := 0) rfl rfl)) fun a135 h135 => ?_
             refine qv h135 (fun X hX => ex_move (h135.ev rfl)) fun a136 h136 => ?_
             refine qv h136 (fun X hX => ex_add (h136.ev rfl) (h136.ev rfl) ⟨by omega, by omega⟩) fun a137 h137 => ?_
             refine qv h137 (fun X hX => ex_neq (h137.ev rfl) (h137.ev rfl)) fun a138 h138 => ?_
             refine qv h138 (fun X hX => ex_move (h138.ev rfl)) fun a139 h139 => ?_
             apply sq_grp h139 106 rfl 6 112
             case ht =>
              intro gc106
              refine sq_val h139 (wanted_yes h139 _ rfl rfl rfl gc106) rfl rfl (fun X hX => (ex_field (off := 0) (j := 0) (by kernel_rfl) (h139.ev rfl) rfl)) fun a140 h140 => ?_
              refine sq_val h140 (wanted_yes h140 _ rfl rfl rfl gc106) rfl rfl (fun X hX => (ex_load (by kernel_rfl) (h140.ev rfl) ((S89.grow hX).cell (i := 0) rfl rfl))) fun a141 h141 => ?_
              refine sq_val h141 (wanted_yes h141 _ rfl rfl rfl gc106) rfl rfl (fun X hX => (ex_move (h141.ev rfl))) fun a142 h142 => ?_
              refine sq_pure h142 (wanted_yes h142 _ rfl rfl rfl gc106) rfl rfl (fun X => (ex_call (fun _ _ => by kernel_rfl) (h142.evs rfl) rfl)) (fun X hX => rbegin_any _ (by omega) _) fun a143 h143 => ?_
              refine sq_val h143 (wanted_yes h143 _ rfl rfl rfl gc106) rfl rfl (fun X hX => (ex_add (h143.ev rfl) (h143.ev rfl) ⟨by omega, by omega⟩)) fun a144 h144 => ?_
              refine sq_val h144 (wanted_yes h144 _ rfl rfl rfl gc106) rfl rfl (fun X hX => (ex_neq (h144.ev rfl) (h144.ev rfl))) fun a145 h145 => ?_
              exact sq_nil (h145.mid (m := [(_, _), (_, _), (_, _), (_, _), (_, _)]) rfl)
             case hf =>
              intro gc106
              refine qo h139 rfl rfl rfl gc106 rfl rfl fun a146 h146 => ?_
              refine qo h146 rfl rfl rfl gc106 rfl rfl fun a147 h147 => ?_
              refine qo h147 rfl rfl rfl gc106 rfl rfl fun a148 h148 => ?_
              refine qo h148 rfl rfl rfl gc106 rfl rfl fun a149 h149 => ?_
              refine qo h149 rfl rfl rfl gc106 rfl rfl fun a150 h150 => ?_
              refine qo h150 rfl rfl rfl gc106 rfl rfl fun a151 h151 => ?_
              exact sq_nil ⟨_, h151.mid (m := [(_, _), (_, _), (_, _), (_, _), (_, _)]) rfl⟩
             case h =>
              intro v152 a152 hg112 h152
              refine sq_nil ?_
              refine nd_end fun X153 hX153 hΦ153 => ?_
              have S153 := S89.grow hX153
              refine sv h152 (ex_pick_and (h152.ev rfl) (h152.ev rfl) hg112 (h152.ev rfl)) fun a154 h154 => ?_
              refine st_nil (go_then ?_)
              refine st_if (h154.ev rfl) (fun hc12 => ?_) (fun hc12 => ?_)
              ·
               have hch : chkR r = ((k : Int), 9) := chk_rec hh hlt hall (by
                rw [hre, if_pos]
                rw [hy]
                simp only [ordB]
                rw [Bool.and_eq_true, bne_iff_ne, bne_iff_ne] at hc12
                rw [Bool.or_eq_false_iff, beq_eq_false_iff_ne, beq_eq_false_iff_ne]
                omega) (by decide)
               refine st_seq (st_reg ?_)
               refine mv h154 rfl rfl fun a155 h155 => ?_
               refine ma h155 rfl rfl fun a156 h156 => ?_
               refine ma h156 rfl rfl fun a157 h157 => ?_
               refine st_nil (go_then (wp_ret (ret_then (ret_then (ret_block (ret_then (ret_then (ret_block (ret_then ?_)))))))))
               refine fin2 h157 rfl rfl rfl ?_
               exact ⟨by rw [hch], S153.below⟩
              ·
               have hord : ordB r.r.o (bfrR r.rs k) r.rs[k] = true := by
                rw [hy]
                simp only [ordB]
                rw [Bool.or_eq_true, beq_iff_eq, beq_iff_eq]
                by_cases h1 : r.rs[k].l = bhR y + 1
                · omega
                · have e1 : (r.rs[k].l != bhR y + 1) = true := by rw [bne_iff_ne]; exact h1
                  rw [e1, Bool.true_and, bne_eq_false_iff_eq] at hc12
                  omega
               refine wp_skip (go_then ?_)
               rw [← hat] at h154
               exact ⟨h154.re ⟨rfl, rfl, rfl, rfl, rfl, rfl, rfl, rfl, rfl, rfl, rfl, rfl, rfl, rfl, rfl, rfl, rfl, rfl, rfl, rfl, rfl, rfl, rfl, rfl, rfl, trivial⟩, S153, hord⟩
            case hB => kernel_rfl
            case hst => rfl
          ·
           have hxl := ord_bd hord (by omega) (fun y hy => (hbf y hy).1)
           rw [if_neg (by rw [hord]; decide)] at hre
           refine go_then (st_seq (st_seq (st_reg ?_)))
           refine vf h106 1 1 rfl rfl rfl fun a158 h158 => ?_
           refine vl h158 S106 0 rfl rfl rfl rfl fun a159 h159 => ?_
           refine vf h159 1 1 rfl rfl rfl fun a160 h160 => ?_
           refine vf h160 0 1 rfl rfl rfl fun a161 h161 => ?_
           refine vl h161 S106 1 rfl rfl rfl rfl fun a162 h162 => ?_
           refine sl_pure h162 (wn rfl) (ex_call (fun _ _ => by kernel_rfl) (h162.evs rfl) rfl) rfl rfl (Within_any _ _ _ _) fun a163 h163 => ?_
           refine sv h163 (ex_not (h163.ev rfl)) fun a164 h164 => ?_
           refine st_nil (go_then ?_)
           refine st_if (h164.ev rfl) (fun hc13 => ?_) (fun hc13 => ?_)
           ·
            have hch : chkR r = ((k : Int), 2) := chk_rec hh hlt hall (by
             rw [hre, if_pos (by simpa using hc13)]) (by decide)
            refine st_seq (st_reg ?_)
            refine mv h164 rfl rfl fun a165 h165 => ?_
            refine ma h165 rfl rfl fun a166 h166 => ?_
            refine ma h166 rfl rfl fun a167 h167 => ?_
            refine st_nil (go_then (wp_ret (ret_then (ret_block (ret_then (ret_then (ret_block (ret_then ?_))))))))
            refine fin2 h167 rfl rfl rfl ?_
            exact ⟨by rw [hch], S106.below⟩
           ·
            have hin : inB r.rs[k].s 1 r.r.s = true := by simpa using hc13
            have hin2 := inB_true.1 hin
            rw [if_neg (by rw [hin]; decide)] at hre
            have hsc := seq_cond (x := r.rs[k]) (by omega : k ≤ r.rs.length) hin2.1
            refine wp_skip (go_then (st_seq (st_seq (st_reg ?_))))
            refine vf h164 1 1 rfl rfl rfl fun a168 h168 => ?_
            refine vl h168 S106 0 rfl rfl rfl rfl fun a169 h169 => ?_
            refine mv h169 rfl rfl fun a170 h170 => ?_
            refine sv h170 (ex_lss (h170.ev rfl) (h170.ev rfl)) fun a171 h171 => ?_
            refine mv h171 rfl rfl fun a172 h172 => ?_
            apply sl_or h172 S106 127 rfl 16 143
            case hf =>
             intro gc127
             refine sy h172 rfl rfl rfl gc127 (ex_move (h172.ev rfl)) rfl rfl fun a173 h173 => ?_
             refine sy h173 rfl rfl rfl gc127 (ex_gtr (h173.ev rfl) (h173.ev rfl)) rfl rfl fun a174 h174 => ?_
             refine sy h174 rfl rfl rfl gc127 (ex_move (h174.ev rfl)) rfl rfl fun a175 h175 => ?_
             apply sl_and h175 S106 130 rfl 5 135
             case ht =>
              intro gc130
              refine sy h175 rfl rfl rfl gc130 (ex_field (off := 1) (j := 1) (by kernel_rfl) (h175.ev rfl) rfl) rfl rfl fun a176 h176 => ?_
              refine sy h176 rfl rfl rfl gc130 (ex_load (by kernel_rfl) (h176.ev rfl) (S106.cell (i := 0) rfl rfl)) rfl rfl fun a177 h177 => ?_
              refine sy h177 rfl rfl rfl gc130 (ex_move (h177.ev rfl)) rfl rfl fun a178 h178 => ?_
              refine sy h178 rfl rfl rfl gc130 (ex_gtr (h178.ev rfl) (h178.ev rfl)) rfl rfl fun a179 h179 => ?_
              refine sy h179 rfl rfl rfl gc127 (ex_pick_t (h179.ev rfl) gc130 (h179.ev rfl)) rfl rfl fun a180 h180 => ?_
              exact st_nil ⟨h180.mid (m := [(_, _), (_, _), (_, _), (_, _)]) rfl, S106⟩
             case hf =>
              intro gc130
              refine no h175 rfl rfl rfl gc130 rfl rfl fun a181 h181 => ?_
              refine no h181 rfl rfl rfl gc130 rfl rfl fun a182 h182 => ?_
              refine no h182 rfl rfl rfl gc130 rfl rfl fun a183 h183 => ?_
              refine no h183 rfl rfl rfl gc130 rfl rfl fun a184 h184 => ?_
              refine sy h184 rfl rfl rfl gc127 (ex_pick_f (h184.ev rfl) gc130 (h184.ev rfl)) rfl rfl fun a185 h185 => ?_
              exact st_nil ⟨h185.mid (m := [(_, _), (_, _), (_, _), (_, _)]) rfl, S106⟩
             case h =>
              rintro a186 X186 ⟨h186, S186⟩
              refine sy h186 rfl rfl rfl gc127 (ex_move (h186.ev rfl)) rfl rfl fun a187 h187 => ?_
              apply sl_and h187 S186 136 rfl 6 142
              case ht =>
               intro gc136
               refine sy h187 rfl rfl rfl gc136 (ex_field (off := 0) (j := 0) (by kernel_rfl) (h187.ev rfl) rfl) rfl rfl fun a188 h188 => ?_
               refine sy h188 rfl rfl rfl gc136 (ex_load (by kernel_rfl) (h188.ev rfl) (S186.cell (i := 0) rfl rfl)) rfl rfl fun a189 h189 => ?_
               refine sy h189 rfl rfl rfl gc136 (ex_sub (h189.ev rfl) (h189.ev rfl) ⟨by omega, by omega⟩) rfl rfl fun a190 h190 => ?_
               refine sy h190 rfl rfl rfl gc136 (ex_rem (h190.ev rfl) (h190.ev rfl) ⟨by omega, by omega⟩) rfl rfl fun a191 h191 => ?_
               refine sy h191 rfl rfl rfl gc136 (ex_neq (h191.ev rfl) (h191.ev rfl)) rfl rfl fun a192 h192 => ?_
               refine sy h192 rfl rfl rfl gc127 (ex_pick_t (h192.ev rfl) gc136 (h192.ev rfl)) rfl rfl fun a193 h193 => ?_
               exact st_nil ⟨h193.mid (m := [(_, _), (_, _), (_, _), (_, _), (_, _)]) rfl, S186⟩
              case hf =>
               intro gc136
               refine no h187 rfl rfl rfl gc136 rfl rfl fun a194 h194 => ?_
               refine no h194 rfl rfl rfl gc136 rfl rfl fun a195 h195 => ?_
               refine no h195 rfl rfl rfl gc136 rfl rfl fun a196 h196 => ?_
               refine no h196 rfl rfl rfl gc136 rfl rfl fun a197 h197 => ?_
               refine no h197 rfl rfl rfl gc136 rfl rfl fun a198 h198 => ?_
               refine sy h198 rfl rfl rfl gc127 (ex_pick_f (h198.ev rfl) gc136 (h198.ev rfl)) rfl rfl fun a199 h199 => ?_
               exact st_nil ⟨h199.mid (m := [(_, _), (_, _), (_, _), (_, _), (_, _)]) rfl, S186⟩
              case h =>
               rintro a200 X200 ⟨h200, S200⟩
               refine sv h200 (ex_pick_f (h200.ev rfl) gc127 (h200.ev rfl)) fun a201 h201 => ?_
               exact st_nil ⟨h201.mid (m := [(_, _), (_, _), (_, _), (_, _), (_, _), (_, _)]) rfl, S200⟩
            case ht =>
             intro gc127
             refine no h172 rfl rfl rfl gc127 rfl rfl fun a202 h202 => ?_
             refine no h202 rfl rfl rfl gc127 rfl rfl fun a203 h203 => ?_
             refine no h203 rfl rfl rfl gc127 rfl rfl fun a204 h204 => ?_
             refine sl_no h204 (wanted_not h204 _ rfl rfl rfl) rfl rfl fun a205 h205 => ?_
             refine sl_no h205 (wanted_not h205 _ rfl rfl rfl) rfl rfl fun a206 h206 => ?_
             refine sl_no h206 (wanted_not h206 _ rfl rfl rfl) rfl rfl fun a207 h207 => ?_
             refine sl_no h207 (wanted_not h207 _ rfl rfl rfl) rfl rfl fun a208 h208 => ?_
             refine no h208 rfl rfl rfl gc127 rfl rfl fun a209 h209 => ?_
             refine no h209 rfl rfl rfl gc127 rfl rfl fun a210 h210 => ?_
             refine sl_no h210 (wanted_not h210 _ rfl rfl rfl) rfl rfl fun a211 h211 => ?_
             refine sl_no h211 (wanted_not h211 _ rfl rfl rfl) rfl rfl fun a212 h212 => ?_
             refine sl_no h212 (wanted_not h212 _ rfl rfl rfl) rfl rfl fun a213 h213 => ?_
             refine sl_no h213 (wanted_not h213 _ rfl rfl rfl) rfl rfl fun a214 h214 => ?_
             refine sl_no h214 (wanted_not h214 _ rfl rfl rfl) rfl rfl fun a215 h215 => ?_
             refine no h215 rfl rfl rfl gc127 rfl rfl fun a216 h216 => ?_
             refine sv h216 (ex_pick_t (h216.ev rfl) gc127 (h216.ev rfl)) fun a217 h217 => ?_
             exact st_nil ⟨h217.mid (m := [(_, _), (_, _), (_, _), (_, _), (_, _), (_, _), (_, _), (_, _), (_, _), (_, _), (_, _), (_, _), (_, _), (_, _), (_, _)]) rfl, S106⟩
            case h =>
             rintro a218 X218 ⟨h218, S218⟩
             refine st_nil (go_then ?_)
             refine st_if (h218.ev rfl) (fun hc14 => ?_) (fun hc14 => ?_)
             ·
              have hch : chkR r = ((k : Int), 9) := chk_rec hh hlt hall (by
               rw [hsc] at hc14
               rw [hre, show seqB (bfrR r.rs k) r.rs[k] = false by simpa using hc14]; rfl) (by decide)
              refine st_seq (st_reg ?_)
              refine mv h218 rfl rfl fun a219 h219 => ?_
              refine ma h219 rfl rfl fun a220 h220 => ?_
              refine ma h220 rfl rfl fun a221 h221 => ?_
              refine st_nil (go_then (wp_ret (ret_then (ret_block (ret_then (ret_then (ret_block (ret_then ?_))))))))
              refine fin2 h221 rfl rfl rfl ?_
              exact ⟨by rw [hch], S218.below⟩
             ·
              have hnext : ∀ m (hm : m < r.rs.length), m < k + 1 → recE r.r.o r.r.s (bfrR r.rs m) r.rs[m] = 0 := fun m hm hmk => by
               rcases Nat.lt_or_ge m k with h | h
               · exact hall m hm h
               · have e : m = k := by omega
                 subst e
                 rw [hsc] at hc14
                 rw [hre, show seqB (bfrR r.rs m) r.rs[m] = true by simpa using hc14]; rfl
              have hbe : ∀ w, Calls Tryz.prog 33 #[.int .i64 (r.rs[k].l - 1), .int .i64 r.rs[k].b.size] w fun e w' => e = .returned (.int .i64 (atR r (k + 1))) ∧ w = w' := fun w => by
               have q := rBehind_any (r.rs[k].l - 1) r.rs[k].b.size (by omega) w
               have e : atR r (k + 1) = r.rs[k].l - 1 + szR r.rs[k].b.size := by unfold atR; rw [bfrR_nxt hlt]; rfl
               rw [e]; exact q
              refine wp_skip (go_then ?_)
              apply dr_flow h218 [false, false, false, false, false, false, false, false, false, false] _ (by kernel_rfl)
              case h =>
               refine qv h218 (fun X hX => ex_field (off := 0) (j := 0) (by kernel_rfl) (h218.ev rfl) rfl) fun a222 h222 => ?_
               refine qv h222 (fun X hX => ex_load (by kernel_rfl) (h222.ev rfl) ((S218.grow hX).cell (i := 0) rfl rfl)) fun a223 h223 => ?_
               refine qv h223 (fun X hX => ex_sub (h223.ev rfl) (h223.ev rfl) ⟨by omega, by omega⟩) fun a224 h224 => ?_
               refine qv h224 (fun X hX => ex_field (off := 2) (j := 2) (by kernel_rfl) (h224.ev rfl) rfl) fun a225 h225 => ?_
               refine qv h225 (fun X hX => ex_load (by kernel_rfl) (h225.ev rfl) ((S218.grow hX).cell (i := 0) rfl rfl)) fun a226 h226 => ?_
               refine qv h226 (fun X hX => ex_slen Tryz.underlying9 (h226.ev rfl)) fun a227 h227 => ?_
               refine sq_pure h227 (wn rfl) rfl rfl (fun X => (ex_call (fun _ _ => by kernel_rfl) (h227.evs rfl) rfl)) (fun X hX => hbe _) fun a228 h228 => ?_
               refine qv h228 (fun X hX => ex_field (off := 1) (j := 1) (by kernel_rfl) (h228.ev rfl) rfl) fun a229 h229 => ?_
               refine qv h229 (fun X hX => as_val (v' := .int .i64 (sqR r (k + 1))) (by unfold sqR; rw [bfrR_nxt hlt]) (ex_load (by kernel_rfl) (h229.ev rfl) ((S218.grow hX).cell (i := 0) rfl rfl))) fun a230 h230 => ?_
               refine qv h230 (fun X hX => ex_assign (h230.ev rfl)) fun a231 h231 => ?_
               refine sq_nil ?_
               refine nd_end fun X232 hX232 hΦ232 => ?_
               have S232 := S218.grow hX232
               refine ma h231 rfl rfl fun a233 h233 => ?_
               refine st_nil (go_block (go_then (st_reg ?_)))
               refine mv h233 rfl rfl fun a234 h234 => ?_
               refine sv h234 (ex_add (h234.ev rfl) (h234.ev rfl) (by omega)) fun a235 h235 => ?_
               refine ma h235 rfl rfl fun a236 h236 => ?_
               refine st_nil (go_then ?_)
               exact ⟨k + 1, (by omega), ⟨hlt, hnext⟩, h236.re ⟨rfl, rfl, rfl, rfl, trivial⟩, S232.sub (.cons _ (.cons_cons _ .slnil))⟩
              case hB => kernel_rfl
              case hst => rfl
       ·
        have hge : k = r.rs.length := by have := of_decide_eq_false hc7; omega
        subst hge
        have hall : ∀ m (hm : m < r.rs.length), recE r.r.o r.r.s (bfrR r.rs m) r.rs[m] = 0 := fun m hm => hF0.2 m hm hm
        have hct := chk_tail hh hall
        have hlb := last_bfr r (by omega) hlen hall
        have ho1 : r.rs = [] ∨ (1 ≤ r.r.o ∧ r.r.o ≤ 100000000) := by
         rcases Nat.eq_zero_or_pos r.rs.length with h0 | h0
         · exact .inl (List.eq_nil_of_length_eq_zero h0)
         · right
           have := (recE_zero.1 (hall 0 h0)).2.2.1
           have hb0 : bfrR r.rs 0 = none := rfl
           rw [hb0] at this
           simp only [ordB, Bool.and_eq_true, beq_iff_eq, decide_eq_true_eq] at this
           omega
        refine wp_exit ?_
        refine go_exit_then ?_
        refine go_exit_then ?_
        refine go_exit ?_
        refine go_then (st_seq (st_seq (st_reg ?_)))
        refine vf h82 7 7 rfl rfl rfl fun a237 h237 => ?_
        refine vl h237 S77 0 rfl rfl rfl rfl fun a238 h238 => ?_
        refine sv h238 (ex_len Tryz.underlying24 (h238.ev rfl)) fun a239 h239 => ?_
        refine sv h239 (ex_eql (h239.ev rfl) (h239.ev rfl)) fun a240 h240 => ?_
        refine st_nil (go_then ?_)
        refine st_joinF (F := nextE r = 0) h240 S77 [] [1] ?_ (fun a241 X241 h241 S241 hnxe => ?_)
        ·
         refine st_if (h240.ev rfl) (fun hc15 => ?_) (fun hc15 => ?_)
         ·
          have hnil : r.rs = [] := List.eq_nil_of_length_eq_zero (by have := eq_of_beq hc15; omega)
          have hat : atR r r.rs.length = r.r.o - 1 := by rw [hnil]; rfl
          have hne : nextE r = unl (r.nx == r.r.o - 1 && r.nx % 448 == 0) 9 := by unfold nextE; rw [hnil]; rfl
          rw [hat] at h240
          refine st_seq (st_reg ?_)
          refine vf h240 8 8 rfl rfl rfl fun a242 h242 => ?_
          refine vl h242 S77 0 rfl rfl rfl rfl fun a243 h243 => ?_
          refine mv h243 rfl rfl fun a244 h244 => ?_
          refine sv h244 (ex_neq (h244.ev rfl) (h244.ev rfl)) fun a245 h245 => ?_
          refine mv h245 rfl rfl fun a246 h246 => ?_
          apply sl_or h246 S77 162 rfl 5 167
          case hf =>
           intro gc162
           refine sy h246 rfl rfl rfl gc162 (ex_field (off := 8) (j := 8) (by kernel_rfl) (h246.ev rfl) rfl) rfl rfl fun a247 h247 => ?_
           refine sy h247 rfl rfl rfl gc162 (ex_load (by kernel_rfl) (h247.ev rfl) (S77.cell (i := 0) rfl rfl)) rfl rfl fun a248 h248 => ?_
           refine sy h248 rfl rfl rfl gc162 (ex_rem (h248.ev rfl) (h248.ev rfl) ⟨by omega, by omega⟩) rfl rfl fun a249 h249 => ?_
           refine sy h249 rfl rfl rfl gc162 (ex_neq (h249.ev rfl) (h249.ev rfl)) rfl rfl fun a250 h250 => ?_
           refine sv h250 (ex_pick_f (h250.ev rfl) gc162 (h250.ev rfl)) fun a251 h251 => ?_
           exact st_nil ⟨h251.mid (m := [(_, _), (_, _), (_, _), (_, _)]) rfl, S77⟩
          case ht =>
           intro gc162
           refine no h246 rfl rfl rfl gc162 rfl rfl fun a252 h252 => ?_
           refine no h252 rfl rfl rfl gc162 rfl rfl fun a253 h253 => ?_
           refine no h253 rfl rfl rfl gc162 rfl rfl fun a254 h254 => ?_
           refine no h254 rfl rfl rfl gc162 rfl rfl fun a255 h255 => ?_
           refine sv h255 (ex_pick_t (h255.ev rfl) gc162 (h255.ev rfl)) fun a256 h256 => ?_
           exact st_nil ⟨h256.mid (m := [(_, _), (_, _), (_, _), (_, _)]) rfl, S77⟩
          case h =>
           rintro a257 X257 ⟨h257, S257⟩
           refine st_nil (go_then ?_)
           refine st_if (h257.ev rfl) (fun hc16 => ?_) (fun hc16 => ?_)
           ·
            have hch : chkR r = (0, 9) := by
             rw [hct, tail_next (e := 9) _ (by decide)]
             rw [hne]
             have : (r.nx == r.r.o - 1 && r.nx % 448 == 0) = false := by
              rw [Bool.and_eq_false_iff, beq_eq_false_iff_ne, beq_eq_false_iff_ne]
              rw [Bool.or_eq_true, bne_iff_ne, bne_iff_ne] at hc16
              exact hc16
             rw [this]; rfl
            refine st_seq (st_reg ?_)
            refine ma h257 rfl rfl fun a258 h258 => ?_
            refine ma h258 rfl rfl fun a259 h259 => ?_
            refine st_nil (go_then (wp_ret (ret_then (ret_then ?_))))
            refine fin2 h259 rfl rfl rfl ?_
            exact ⟨by rw [hch], S257.below⟩
           ·
            have hnxe : nextE r = 0 := by
             rw [hne]
             have : (r.nx == r.r.o - 1 && r.nx % 448 == 0) = true := by
              rw [Bool.and_eq_true, beq_iff_eq, beq_iff_eq]
              rw [Bool.or_eq_false_iff, bne_eq_false_iff_eq, bne_eq_false_iff_eq] at hc16
              exact hc16
             rw [this]; rfl
            refine wp_skip (go_then ?_)
            exact ⟨h257.re ⟨rfl, trivial⟩, S257, hnxe⟩
         ·
          have hpos : 0 < r.rs.length := by
           have : ¬ (r.rs.length : Int) = 0 := by intro h; rw [h] at hc15; exact absurd hc15 (by decide)
           omega
          obtain ⟨y, hy⟩ := bfrR_pos hpos (Nat.le_refl _)
          have hyl : r.rs.getLast? = some y := by
           unfold bfrR at hy
           rw [if_neg (by omega)] at hy
           rw [List.getLast?_eq_getElem?]; exact hy
          have hyb := bfr_le r (by omega) hlen r.rs.length (Nat.le_refl _) (fun m hm _ => hall m hm) y hy
          have hbd := hyb.1.bd
          have hat : atR r r.rs.length = bhR y := by unfold atR; rw [hy]
          have hsq : sqR r r.rs.length = y.s := by unfold sqR; rw [hy]
          have hne : nextE r = unl ((r.nx == bhR y || r.nx == nxtR (bhR y)) && (y.s == r.r.s || r.nx % 448 == 0)) 9 := by unfold nextE; rw [hyl]
          have hnb := nxtR_in (p := bhR y)
          rw [hat, hsq] at h240
          refine st_seq ?_
          apply dr_flow h240 [false, false, false, false, false, false, false, false, false, false, false, false, false, false, false, false, false] _ (by kernel_rfl)
          case h =>
           refine qv h240 (fun X hX => ex_field (off := 8) (j := 8) (by kernel_rfl) (h240.ev rfl) rfl) fun a260 h260 => ?_
           refine qv h260 (fun X hX => ex_load (by kernel_rfl) (h260.ev rfl) ((S77.grow hX).cell (i := 0) rfl rfl)) fun a261 h261 => ?_
           refine qv h261 (fun X hX => ex_move (h261.ev rfl)) fun a262 h262 => ?_
           refine sq_pure h262 (wn rfl) rfl rfl (fun X => (ex_call (fun _ _ => by kernel_rfl) (h262.evs rfl) rfl)) (fun X hX => rbegin_any _ (by omega) _) fun a263 h263 => ?_
           refine qv h263 (fun X hX => ex_neq (h263.ev rfl) (h263.ev rfl)) fun a264 h264 => ?_
           refine qv h264 (fun X hX => ex_move (h264.ev rfl)) fun a265 h265 => ?_
           apply sq_grp h265 173 rfl 11 184
           case ht =>
            intro gc173
            refine sq_val h265 (wanted_yes h265 _ rfl rfl rfl gc173) rfl rfl (fun X hX => (ex_field (off := 8) (j := 8) (by kernel_rfl) (h265.ev rfl) rfl)) fun a266 h266 => ?_
            refine sq_val h266 (wanted_yes h266 _ rfl rfl rfl gc173) rfl rfl (fun X hX => (ex_load (by kernel_rfl) (h266.ev rfl) ((S77.grow hX).cell (i := 0) rfl rfl))) fun a267 h267 => ?_
            refine sq_val h267 (wanted_yes h267 _ rfl rfl rfl gc173) rfl rfl (fun X hX => (ex_move (h267.ev rfl))) fun a268 h268 => ?_
            refine sq_val h268 (wanted_yes h268 _ rfl rfl rfl gc173) rfl rfl (fun X hX => (ex_neq (h268.ev rfl) (h268.ev rfl))) fun a269 h269 => ?_
            refine sq_val h269 (wanted_yes h269 _ rfl rfl rfl gc173) rfl rfl (fun X hX => (ex_move (h269.ev rfl))) fun a270 h270 => ?_
            apply sq_or h270 178 rfl 6 184
            case hf =>
             intro gc178
             refine sq_val h270 (wanted_yes h270 _ rfl rfl rfl gc178) rfl rfl (fun X hX => (ex_move (h270.ev rfl))) fun a271 h271 => ?_
             refine sq_val h271 (wanted_yes h271 _ rfl rfl rfl gc178) rfl rfl (fun X hX => (ex_field (off := 1) (j := 1) (by kernel_rfl) (h271.ev rfl) rfl)) fun a272 h272 => ?_
             refine sq_val h272 (wanted_yes h272 _ rfl rfl rfl gc178) rfl rfl (fun X hX => (ex_field (off := 0) (j := 1) (by kernel_rfl) (h272.ev rfl) rfl)) fun a273 h273 => ?_
             refine sq_val h273 (wanted_yes h273 _ rfl rfl rfl gc178) rfl rfl (fun X hX => (ex_load (by kernel_rfl) (h273.ev rfl) ((S77.grow hX).cell (i := 0) rfl rfl))) fun a274 h274 => ?_
             refine sq_val h274 (wanted_yes h274 _ rfl rfl rfl gc178) rfl rfl (fun X hX => (ex_lss (h274.ev rfl) (h274.ev rfl))) fun a275 h275 => ?_
             refine sq_val h275 (wanted_yes h275 _ rfl rfl rfl gc173) rfl rfl (fun X hX => (ex_pick_f (h275.ev rfl) gc178 (h275.ev rfl))) fun a276 h276 => ?_
             exact sq_nil (h276.mid (m := [(_, _), (_, _), (_, _), (_, _), (_, _)]) rfl)
            case ht =>
             intro gc178
             refine qo h270 rfl rfl rfl gc178 rfl rfl fun a277 h277 => ?_
             refine qo h277 rfl rfl rfl gc178 rfl rfl fun a278 h278 => ?_
             refine qo h278 rfl rfl rfl gc178 rfl rfl fun a279 h279 => ?_
             refine qo h279 rfl rfl rfl gc178 rfl rfl fun a280 h280 => ?_
             refine qo h280 rfl rfl rfl gc178 rfl rfl fun a281 h281 => ?_
             refine sq_val h281 (wanted_yes h281 _ rfl rfl rfl gc173) rfl rfl (fun X hX => (ex_pick_t (h281.ev rfl) gc178 (h281.ev rfl))) fun a282 h282 => ?_
             exact sq_nil (h282.mid (m := [(_, _), (_, _), (_, _), (_, _), (_, _)]) rfl)
            case h =>
             intro a283 h283
             exact sq_nil (h283.mid (m := [(_, _), (_, _), (_, _), (_, _), (_, _)]) rfl)
           case hf =>
            intro gc173
            refine qo h265 rfl rfl rfl gc173 rfl rfl fun a284 h284 => ?_
            refine qo h284 rfl rfl rfl gc173 rfl rfl fun a285 h285 => ?_
            refine qo h285 rfl rfl rfl gc173 rfl rfl fun a286 h286 => ?_
            refine qo h286 rfl rfl rfl gc173 rfl rfl fun a287 h287 => ?_
            refine qo h287 rfl rfl rfl gc173 rfl rfl fun a288 h288 => ?_
            refine sq_no h288 (wanted_not h288 _ rfl rfl rfl) rfl rfl fun a289 h289 => ?_
            refine sq_no h289 (wanted_not h289 _ rfl rfl rfl) rfl rfl fun a290 h290 => ?_
            refine sq_no h290 (wanted_not h290 _ rfl rfl rfl) rfl rfl fun a291 h291 => ?_
            refine sq_no h291 (wanted_not h291 _ rfl rfl rfl) rfl rfl fun a292 h292 => ?_
            refine sq_no h292 (wanted_not h292 _ rfl rfl rfl) rfl rfl fun a293 h293 => ?_
            refine qo h293 rfl rfl rfl gc173 rfl rfl fun a294 h294 => ?_
            exact sq_nil ⟨_, h294.mid (m := [(_, _), (_, _), (_, _), (_, _), (_, _), (_, _), (_, _), (_, _), (_, _), (_, _)]) rfl⟩
           case h =>
            intro v295 a295 hg184 h295
            refine sq_nil ?_
            refine nd_end fun X296 hX296 hΦ296 => ?_
            have S296 := S77.grow hX296
            refine sv h295 (ex_pick_and (h295.ev rfl) (h295.ev rfl) hg184 (h295.ev rfl)) fun a297 h297 => ?_
            refine st_nil (go_then ?_)
            refine st_if (h297.ev rfl) (fun hc17 => ?_) (fun hc17 => ?_)
            ·
             have hch : chkR r = (0, 9) := by
              rw [hct, tail_next (e := 9) _ (by decide)]
              rw [hne]
              have : ((r.nx == bhR y || r.nx == nxtR (bhR y)) && (y.s == r.r.s || r.nx % 448 == 0)) = false := by
               simp only [Bool.and_eq_true, Bool.or_eq_true, bne_iff_ne, decide_eq_true_eq] at hc17
               rw [Bool.and_eq_false_iff, Bool.or_eq_false_iff, Bool.or_eq_false_iff, beq_eq_false_iff_ne, beq_eq_false_iff_ne, beq_eq_false_iff_ne, beq_eq_false_iff_ne]
               by_cases h1 : r.nx = bhR y
               · right
                 refine ⟨by omega, fun h2 => hc17.1 ?_⟩
                 rw [h1] at h2 ⊢
                 unfold nxtR; omega
               · exact .inl ⟨h1, hc17.1⟩
              rw [this]; rfl
             refine st_seq (st_reg ?_)
             refine ma h297 rfl rfl fun a298 h298 => ?_
             refine ma h298 rfl rfl fun a299 h299 => ?_
             refine st_nil (go_then (wp_ret (ret_then (ret_then ?_))))
             refine fin2 h299 rfl rfl rfl ?_
             exact ⟨by rw [hch], S296.below⟩
            ·
             have hnxe : nextE r = 0 := by
              rw [hne]
              have : ((r.nx == bhR y || r.nx == nxtR (bhR y)) && (y.s == r.r.s || r.nx % 448 == 0)) = true := by
               simp only [Bool.and_eq_true, Bool.or_eq_true, beq_iff_eq]
               rw [Bool.and_eq_false_iff, Bool.or_eq_false_iff, bne_eq_false_iff_eq, bne_eq_false_iff_eq, decide_eq_false_iff_not] at hc17
               rcases hc17 with h | ⟨h1, h2⟩
               · exact ⟨.inr h, .inr (by rw [h]; exact hnb.2.2)⟩
               · exact ⟨.inl h1, .inl (by omega)⟩
              rw [this]; rfl
             refine wp_skip (go_then ?_)
             exact ⟨h297.re ⟨rfl, trivial⟩, S296, hnxe⟩
          case hB => kernel_rfl
          case hst => rfl
        ·
         refine go_then (st_seq (st_seq (st_reg ?_)))
         refine vf h241 1 1 rfl rfl rfl fun a300 h300 => ?_
         refine vf h300 1 2 rfl rfl rfl fun a301 h301 => ?_
         refine vl h301 S241 0 rfl rfl rfl rfl fun a302 h302 => ?_
         refine sv h302 (ex_neq (h302.ev rfl) (h302.ev rfl)) fun a303 h303 => ?_
         refine mv h303 rfl rfl fun a304 h304 => ?_
         apply sl_and h304 S241 190 rfl 7 197
         case ht =>
          intro gc190
          refine sl_val (v := ringV r A c) h304 (wanted_yes h304 _ rfl rfl rfl gc190) (ex_loads (by kernel_rfl) (by kernel_rfl) (h304.ev rfl) (S241.cellsAll (i := 0) rfl)) rfl rfl fun a305 h305 => ?_
          refine sy h305 rfl rfl rfl gc190 (ex_field (off := 1) (j := 1) (by kernel_rfl) (h305.ev rfl) rfl) rfl rfl fun a306 h306 => ?_
          refine sy h306 rfl rfl rfl gc190 (ex_field (off := 1) (j := 2) (by kernel_rfl) (h306.ev rfl) rfl) rfl rfl fun a307 h307 => ?_
          refine sy h307 rfl rfl rfl gc190 (ex_load (by kernel_rfl) (h307.ev rfl) (S241.cell (i := 0) rfl rfl)) rfl rfl fun a308 h308 => ?_
          refine sl_bel h308 (wanted_yes h308 _ rfl rfl rfl gc190) (ex_call (fun _ _ => by kernel_rfl) (h308.evs rfl) rfl) rfl rfl S241 (rHas_any r A c r.r.c _ (S241.rd0 hr) hlen) fun a309 X309 h309 S309 => ?_
          refine sy h309 rfl rfl rfl gc190 (ex_not (h309.ev rfl)) rfl rfl fun a310 h310 => ?_
          refine sv h310 (ex_pick_t (h310.ev rfl) gc190 (h310.ev rfl)) fun a311 h311 => ?_
          exact st_nil ⟨h311.mid (m := [(_, _), (_, _), (_, _), (_, _), (_, _), (_, _)]) rfl, S309⟩
         case hf =>
          intro gc190
          refine no h304 rfl rfl rfl gc190 rfl rfl fun a312 h312 => ?_
          refine no h312 rfl rfl rfl gc190 rfl rfl fun a313 h313 => ?_
          refine no h313 rfl rfl rfl gc190 rfl rfl fun a314 h314 => ?_
          refine no h314 rfl rfl rfl gc190 rfl rfl fun a315 h315 => ?_
          refine no h315 rfl rfl rfl gc190 rfl rfl fun a316 h316 => ?_
          refine no h316 rfl rfl rfl gc190 rfl rfl fun a317 h317 => ?_
          refine sv h317 (ex_pick_f (h317.ev rfl) gc190 (h317.ev rfl)) fun a318 h318 => ?_
          exact st_nil ⟨h318.mid (m := [(_, _), (_, _), (_, _), (_, _), (_, _), (_, _)]) rfl, S241⟩
         case h =>
          rintro a319 X319 ⟨h319, S319⟩
          refine st_nil (go_then ?_)
          refine st_if (h319.ev rfl) (fun hc18 => ?_) (fun hc18 => ?_)
          ·
           have hch : chkR r = (0, 6) := by
            rw [hct]
            unfold tailE
            rw [firstE_c, if_pos hnxe, firstE_c]
            have : (r.r.c == 0 || hasR r.rs r.r.c) = false := by
             rw [Bool.and_eq_true, bne_iff_ne] at hc18
             rw [Bool.or_eq_false_iff, beq_eq_false_iff_ne]
             exact ⟨hc18.1, by simpa using hc18.2⟩
            rw [this]; rfl
           refine st_seq (st_reg ?_)
           refine ma h319 rfl rfl fun a320 h320 => ?_
           refine ma h320 rfl rfl fun a321 h321 => ?_
           refine st_nil (go_then (wp_ret (ret_then ?_)))
           refine fin2 h321 rfl rfl rfl ?_
           exact ⟨by rw [hch], S319.below⟩
          ·
           have hcp : (r.r.c == 0 || hasR r.rs r.r.c) = true := by
            by_cases h : r.r.c = 0
            · rw [h]; rfl
            · have e1 : (r.r.c != 0) = true := by rw [bne_iff_ne]; exact h
              rw [e1, Bool.true_and] at hc18
              rw [show hasR r.rs r.r.c = true by simpa using hc18]; simp
           refine wp_skip (go_then (st_seq (st_seq (st_reg ?_))))
           refine sv (v := ringV r A c) h319 (ex_loads (by kernel_rfl) (by kernel_rfl) (h319.ev rfl) (S319.cellsAll (i := 0) rfl)) fun a322 h322 => ?_
           refine sl_bel h322 (wn rfl) (ex_call (fun _ _ => by kernel_rfl) (h322.evs rfl) rfl) rfl rfl S319 (rRooms_any r A c _ (S319.rd0 hr) hlb ho1 hlen) fun a323 X323 h323 S323 => ?_
           refine mv h323 rfl rfl fun a324 h324 => ?_
           refine vx h324 rfl rfl rfl fun a325 h325 => ?_
           refine vx h325 rfl rfl rfl fun a326 h326 => ?_
           refine ma h326 rfl rfl fun a327 h327 => ?_
           refine ma h327 rfl rfl fun a328 h328 => ?_
           refine nsr ?_
           refine mv h328 rfl rfl fun a329 h329 => ?_
           refine vf h329 0 0 rfl rfl rfl fun a330 h330 => ?_
           refine vl h330 S323 0 rfl rfl rfl rfl fun a331 h331 => ?_
           refine sv h331 (ex_sub (h331.ev rfl) (h331.ev rfl) ⟨by have := inB_true.1 ((unl_zero (by decide)).1 hz1); omega, by have := inB_true.1 ((unl_zero (by decide)).1 hz1); omega⟩) fun a332 h332 => ?_
           refine sv h332 (ex_gtr (h332.ev rfl) (h332.ev rfl)) fun a333 h333 => ?_
           refine st_nil (go_then ?_)
           refine st_if (h333.ev rfl) (fun hc19 => ?_) (fun hc19 => ?_)
           ·
            have hch : chkR r = (0, 16) := by
             rw [hct]
             unfold tailE
             rw [firstE_c, if_pos hnxe, firstE_c, hcp, if_pos (unl_true 6), firstE_c, decide_eq_false (by have := of_decide_eq_true hc19; omega)]; rfl
            refine st_seq (st_reg ?_)
            refine ma h333 rfl rfl fun a334 h334 => ?_
            refine ma h334 rfl rfl fun a335 h335 => ?_
            refine st_nil (go_then (wp_ret (ret_then ?_)))
            refine fin2 h335 rfl rfl rfl ?_
            exact ⟨by rw [hch], S323.below⟩
           ·
            have hch : chkR r = (0, 0) := by
             rw [hct]
             unfold tailE
             rw [firstE_c, if_pos hnxe, firstE_c, hcp, if_pos (unl_true 6), firstE_c, decide_eq_true (by have := of_decide_eq_false hc19; omega)]; rfl
            refine wp_skip (go_then (st_seq (st_reg ?_)))
            refine ma h333 rfl rfl fun a336 h336 => ?_
            refine ma h336 rfl rfl fun a337 h337 => ?_
            refine st_nil (go_then (wp_ret ?_))
            refine fin2 h337 rfl rfl rfl ?_
            exact ⟨by rw [hch], S323.below⟩
theorem rRingErr_any (r : RngP) (A : Option Addr) (c : Nat) (w : World) (hr : Rd w w.heap.size A (recsV r.rs)) (hlen : r.rs.length ≤ 1000) (hx : ∀ x ∈ r.rs, I6 x.l) :
 Calls Tryz.prog 16 #[ringV r A c] w fun e w' => e = .returned (.int .i64 (chkR r).2) ∧ Below w.heap.size w w' := by
 refine st_enter (N := 11) Tryz.func16 rfl rfl rfl (fun a0 h0 => ?_)
 have S0 := St.init w
 refine st_seq (st_reg ?_)
 refine nb h0 rfl rfl S0 fun b1 a1 X1 gb1 h1 S1 => ?_
 refine ma h1 rfl rfl fun a2 h2 => ?_
 refine nsr ?_
 refine sv (v := ringV r A c) h2 (ex_loads (by kernel_rfl) (by kernel_rfl) (h2.ev rfl) (S1.cellsAll (i := 0) rfl)) fun a3 h3 => ?_
 refine sl_bel h3 (wn rfl) (ex_call (fun _ _ => by kernel_rfl) (h3.evs rfl) rfl) rfl rfl S1 (rCheckRing_any r A c _ (S1.rd0 hr) hlen hx) fun a4 X4 h4 S4 => ?_
 refine mv h4 rfl rfl fun a5 h5 => ?_
 refine vx h5 rfl rfl rfl fun a6 h6 => ?_
 refine vx h6 rfl rfl rfl fun a7 h7 => ?_
 refine ma h7 rfl rfl fun a8 h8 => ?_
 refine ma h8 rfl rfl fun a9 h9 => ?_
 refine nsr ?_
 refine mv h9 rfl rfl fun a10 h10 => ?_
 refine ma h10 rfl rfl fun a11 h11 => ?_
 refine st_nil (go_then (wp_ret ?_))
 refine fin1 h11 rfl rfl ?_
 exact ⟨rfl, S4.below⟩
end Go.Proofs.YtmlilplbdpjfcaaGreatDoor
