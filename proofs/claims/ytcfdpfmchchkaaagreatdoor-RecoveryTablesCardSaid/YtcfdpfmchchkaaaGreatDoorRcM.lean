/-
  Chapter 22: the reference's errors and bytes of tables.
  Chapter 22: the reference's bytes of a table, and its table with any bytes.
  Chapter 22: the reference's table with any bytes.
-/
import Derived.Test.YtcfdpfmchchkaaaGreatDoorRcL
import Derived.Test.YtcfdpfmchchkaaaGreatDoorNumS
import Derived.Test.YtcfdpfmchchkaaaGreatDoorOpB
namespace Go.Proofs.YtcfdpfmchchkaaaGreatDoor
set_option linter.unusedVariables false
set_option linter.unusedSimpArgs false
set_option maxRecDepth 4000
open Go.RowKit Go.Sort Go.Shelf
theorem bfrL_pos {α : Type} {l : List α} {j : Nat} (h0 : 0 < j) (hj : j < l.length) : bfrL l j = some (l[j - 1]'(by omega)) := by
 have := bfrL_succ l (j - 1) (by omega)
 rwa [show j - 1 + 1 = j by omega] at this
theorem first2 (b : Bool) : firstE [unl true 2, unl b 9] = unl b 9 := by cases b <;> rfl
theorem trnE_bad {p : Option Trn} {x : Trn} (h : (inB x.i 1 9999 && inB x.l 1 2147483647 && inB x.u 0 x.l) = false) : trnE p x = 2 := by unfold trnE; rw [h]; rfl
theorem trnE_ord {p : Option Trn} {x : Trn} (h : (inB x.i 1 9999 && inB x.l 1 2147483647 && inB x.u 0 x.l) = true) : trnE p x = unl (match p with | none => true | some y => decide (y.i < x.i)) 9 := by
 unfold trnE; rw [h]; exact first2 _
theorem dtyE_bad {p : Option Dty} {x : Dty} (h : (inB x.g 0 600 && inB x.l 1 2147483647) = false) : dtyE p x = 2 := by unfold dtyE; rw [h]; rfl
theorem dtyE_ord {p : Option Dty} {x : Dty} (h : (inB x.g 0 600 && inB x.l 1 2147483647) = true) : dtyE p x = unl (match p with | none => true | some y => decide (y.g < x.g)) 9 := by
 unfold dtyE; rw [h]; exact first2 _
theorem each_hit {α : Type} {f : Nat → α → Int} {l : List α} {j : Nat} (hj : j < l.length) (h : ∀ k (hk : k < l.length), k < j → f k l[k] = 0) {e : Int} (he : f j l[j] = e) (h0 : e ≠ 0) : (eachE f 0 l).2 = e := by
 have := eachE_hit f l 0 j hj (fun k hk hkj => by rw [Nat.zero_add]; exact h k hk hkj) (by rw [Nat.zero_add, he]; exact h0)
 rw [Nat.zero_add, he] at this
 rw [this]
def trn00 : Trn := ⟨0, 0, 0, false⟩
def dty00 : Dty := ⟨0, false, 0⟩
theorem rTableErr_any (t : Tbl) (A : Option Addr) (c : Nat) (B : Option Addr) (d : Nat) (w : World) (hr : Rd w w.heap.size A (t.ts.flatMap trsL)) (hs : Rd w w.heap.size B (t.ds.flatMap dtyL)) :
 Calls Tryz.prog 21 #[tblV t A c B d] w fun e w' => e = .returned (.int .i64 (tblE t)) ∧ Below w.heap.size w w' := by
 obtain ⟨E, hE⟩ : ∃ E, E = tblE t := ⟨_, rfl⟩
 rw [← hE]
 unfold tblE at hE
 refine st_enter (N := 97) Tryz.func21 rfl rfl rfl (fun a0 h0 => ?_)
 have S0 := St.init w
 refine st_seq (st_reg ?_)
 refine nb h0 rfl rfl S0 fun b1 a1 X1 gb1 h1 S1 => ?_
 refine ma h1 rfl rfl fun a2 h2 => ?_
 refine st_nil (go_then (st_seq (st_seq (st_reg ?_))))
 refine vf h2 0 0 rfl rfl rfl fun a3 h3 => ?_
 refine vl h3 S1 0 rfl rfl rfl rfl fun a4 h4 => ?_
 refine sv h4 (ex_len Tryz.underlying22 (h4.ev rfl)) fun a5 h5 => ?_
 refine sv h5 (ex_gtr (h5.ev rfl) (h5.ev rfl)) fun a6 h6 => ?_
 refine mv h6 rfl rfl fun a7 h7 => ?_
 apply sl_or h7 S1 11 rfl 5 16
 case hf =>
  intro gc11
  refine sy h7 rfl rfl rfl gc11 (ex_field (off := 1) (j := 1) (by kernel_rfl) (h7.ev rfl) rfl) rfl rfl fun a8 h8 => ?_
  refine sy h8 rfl rfl rfl gc11 (ex_load (by kernel_rfl) (h8.ev rfl) (S1.cell (i := 0) rfl rfl)) rfl rfl fun a9 h9 => ?_
  refine sy h9 rfl rfl rfl gc11 (ex_len Tryz.underlying23 (h9.ev rfl)) rfl rfl fun a10 h10 => ?_
  refine sy h10 rfl rfl rfl gc11 (ex_gtr (h10.ev rfl) (h10.ev rfl)) rfl rfl fun a11 h11 => ?_
  refine sv h11 (ex_pick_f (h11.ev rfl) gc11 (h11.ev rfl)) fun a12 h12 => ?_
  exact st_nil ⟨h12.mid (m := [(_, _), (_, _), (_, _), (_, _)]) rfl, S1⟩
 case ht =>
  intro gc11
  refine no h7 rfl rfl rfl gc11 rfl rfl fun a13 h13 => ?_
  refine no h13 rfl rfl rfl gc11 rfl rfl fun a14 h14 => ?_
  refine no h14 rfl rfl rfl gc11 rfl rfl fun a15 h15 => ?_
  refine no h15 rfl rfl rfl gc11 rfl rfl fun a16 h16 => ?_
  refine sv h16 (ex_pick_t (h16.ev rfl) gc11 (h16.ev rfl)) fun a17 h17 => ?_
  exact st_nil ⟨h17.mid (m := [(_, _), (_, _), (_, _), (_, _)]) rfl, S1⟩
 case h =>
  rintro a18 X18 ⟨h18, S18⟩
  refine st_nil (go_then ?_)
  refine st_if (h18.ev rfl) (fun hc0 => ?_) (fun hc0 => ?_)
  ·
   rw [if_pos (by have := hc0; simp at this; omega)] at hE
   refine st_seq (st_reg ?_)
   refine ma h18 rfl rfl fun a19 h19 => ?_
   refine st_nil (go_then (wp_ret (ret_then ?_)))
   refine fin1 h19 rfl rfl ?_
   exact ⟨by rw [hE], S18.below⟩
  ·
   rw [if_neg (by rw [Bool.or_eq_false_iff] at hc0; simp at hc0; omega)] at hE
   have hn : t.ts.length ≤ 60 ∧ t.ds.length ≤ 60 := by rw [Bool.or_eq_false_iff] at hc0; simp at hc0; omega
   refine wp_skip (go_then (st_seq (st_seq (st_reg ?_))))
   refine ma h18 rfl rfl fun a20 h20 => ?_
   refine st_nil (go_then (wp_block ?_))
   refine st_loop h20 S18 [1] (fun (j : Nat) => [(3, .int .i64 (j : Nat))]) (fun (j : Nat) => j ≤ t.ts.length ∧ ∀ k (hk : k < t.ts.length), k < j → trnE (bfrL t.ts k) t.ts[k] = 0) (fun (j : Nat) L => L) (fun (j : Nat) => t.ts.length - j) (0) (⟨Nat.zero_le _, fun k _ h => absurd h (Nat.not_lt_zero _)⟩) ⟨rfl, rfl, trivial⟩ (S18) ?_
   intro j a21 X21 hF0 h21 S21
   refine st_seq (st_seq (st_reg ?_))
   refine mv h21 rfl rfl fun a22 h22 => ?_
   refine vf h22 0 0 rfl rfl rfl fun a23 h23 => ?_
   refine vl h23 S21 0 rfl rfl rfl rfl fun a24 h24 => ?_
   refine sv h24 (ex_len Tryz.underlying22 (h24.ev rfl)) fun a25 h25 => ?_
   refine sv h25 (ex_lss (h25.ev rfl) (h25.ev rfl)) fun a26 h26 => ?_
   refine st_nil (go_then ?_)
   refine st_if (h26.ev rfl) (fun hc1 => ?_) (fun hc1 => ?_)
   ·
    have hlt : j < t.ts.length := by have := of_decide_eq_true hc1; omega
    obtain ⟨b, o, rfl, hB, _⟩ := hr.opened (flat_pos trsL_len (by decide) (by omega))
    refine wp_skip (go_then (st_seq (wp_block (st_seq (st_reg ?_)))))
    refine vf h26 0 0 rfl rfl rfl fun a27 h27 => ?_
    refine vl h27 S21 0 rfl rfl rfl rfl fun a28 h28 => ?_
    refine mv h28 rfl rfl fun a29 h29 => ?_
    refine sv h29 (ex_index (i := j) (sz := 4) Tryz.underlying22 (by kernel_rfl) (h29.ev rfl) (h29.ev rfl) (by omega) (by omega) rfl) fun a30 h30 => ?_
    refine sv (v := trnV t.ts[j]) h30 (ex_loads (by kernel_rfl) (by kernel_rfl) (h30.ev rfl) (flatAt trsL_len (S21.rd0 hr) hlt)) fun a31 h31 => ?_
    refine na (.agg #[.int .i64 0, .int .i64 0, .int .i64 0, .bool false]) h31 rfl S21 fun b4 a32 X32 gb4 h32 S32 => ?_
    refine sl_store0 h32 (wn rfl) ⟨rfl, rfl⟩ (h32.ev rfl) (h32.ev rfl) rfl (by kernel_rfl) S32 (i := 0) rfl rfl rfl fun X33 S33 => ?_
    refine st_nil (go_then (st_seq (st_seq (st_reg ?_))))
    refine vf h32 0 0 rfl rfl rfl fun a34 h34 => ?_
    refine vl h34 S33 0 rfl rfl rfl rfl fun a35 h35 => ?_
    refine sl_pure h35 (wn rfl) (ex_call (fun _ _ => by kernel_rfl) (h35.evs rfl) rfl) rfl rfl (Within_any _ _ _ _) fun a36 h36 => ?_
    refine sv h36 (ex_not (h36.ev rfl)) fun a37 h37 => ?_
    refine mv h37 rfl rfl fun a38 h38 => ?_
    apply sl_or h38 S33 33 rfl 5 38
    case hf =>
     intro gc33
     refine sy h38 rfl rfl rfl gc33 (ex_field (off := 1) (j := 1) (by kernel_rfl) (h38.ev rfl) rfl) rfl rfl fun a39 h39 => ?_
     refine sy h39 rfl rfl rfl gc33 (ex_load (by kernel_rfl) (h39.ev rfl) (S33.cell (i := 0) rfl rfl)) rfl rfl fun a40 h40 => ?_
     refine sl_pure h40 (wanted_yes h40 _ rfl rfl rfl gc33) (ex_call (fun _ _ => by kernel_rfl) (h40.evs rfl) rfl) rfl rfl (Within_any _ _ _ _) fun a41 h41 => ?_
     refine sy h41 rfl rfl rfl gc33 (ex_not (h41.ev rfl)) rfl rfl fun a42 h42 => ?_
     refine sv h42 (ex_pick_f (h42.ev rfl) gc33 (h42.ev rfl)) fun a43 h43 => ?_
     exact st_nil ⟨h43.mid (m := [(_, _), (_, _), (_, _), (_, _)]) rfl, S33⟩
    case ht =>
     intro gc33
     refine no h38 rfl rfl rfl gc33 rfl rfl fun a44 h44 => ?_
     refine no h44 rfl rfl rfl gc33 rfl rfl fun a45 h45 => ?_
     refine no h45 rfl rfl rfl gc33 rfl rfl fun a46 h46 => ?_
     refine no h46 rfl rfl rfl gc33 rfl rfl fun a47 h47 => ?_
     refine sv h47 (ex_pick_t (h47.ev rfl) gc33 (h47.ev rfl)) fun a48 h48 => ?_
     exact st_nil ⟨h48.mid (m := [(_, _), (_, _), (_, _), (_, _)]) rfl, S33⟩
    case h =>
     rintro a49 X49 ⟨h49, S49⟩
     refine mv h49 rfl rfl fun a50 h50 => ?_
     apply sl_or h50 S49 39 rfl 7 46
     case hf =>
      intro gc39
      refine sy h50 rfl rfl rfl gc39 (ex_field (off := 2) (j := 2) (by kernel_rfl) (h50.ev rfl) rfl) rfl rfl fun a51 h51 => ?_
      refine sy h51 rfl rfl rfl gc39 (ex_load (by kernel_rfl) (h51.ev rfl) (S49.cell (i := 0) rfl rfl)) rfl rfl fun a52 h52 => ?_
      refine sy h52 rfl rfl rfl gc39 (ex_field (off := 1) (j := 1) (by kernel_rfl) (h52.ev rfl) rfl) rfl rfl fun a53 h53 => ?_
      refine sy h53 rfl rfl rfl gc39 (ex_load (by kernel_rfl) (h53.ev rfl) (S49.cell (i := 0) rfl rfl)) rfl rfl fun a54 h54 => ?_
      refine sl_pure h54 (wanted_yes h54 _ rfl rfl rfl gc39) (ex_call (fun _ _ => by kernel_rfl) (h54.evs rfl) rfl) rfl rfl (Within_any _ _ _ _) fun a55 h55 => ?_
      refine sy h55 rfl rfl rfl gc39 (ex_not (h55.ev rfl)) rfl rfl fun a56 h56 => ?_
      refine sv h56 (ex_pick_f (h56.ev rfl) gc39 (h56.ev rfl)) fun a57 h57 => ?_
      exact st_nil ⟨h57.mid (m := [(_, _), (_, _), (_, _), (_, _), (_, _), (_, _)]) rfl, S49⟩
     case ht =>
      intro gc39
      refine no h50 rfl rfl rfl gc39 rfl rfl fun a58 h58 => ?_
      refine no h58 rfl rfl rfl gc39 rfl rfl fun a59 h59 => ?_
      refine no h59 rfl rfl rfl gc39 rfl rfl fun a60 h60 => ?_
      refine no h60 rfl rfl rfl gc39 rfl rfl fun a61 h61 => ?_
      refine no h61 rfl rfl rfl gc39 rfl rfl fun a62 h62 => ?_
      refine no h62 rfl rfl rfl gc39 rfl rfl fun a63 h63 => ?_
      refine sv h63 (ex_pick_t (h63.ev rfl) gc39 (h63.ev rfl)) fun a64 h64 => ?_
      exact st_nil ⟨h64.mid (m := [(_, _), (_, _), (_, _), (_, _), (_, _), (_, _)]) rfl, S49⟩
     case h =>
      rintro a65 X65 ⟨h65, S65⟩
      refine st_nil (go_then ?_)
      refine st_if (h65.ev rfl) (fun hc2 => ?_) (fun hc2 => ?_)
      ·
       have hbad : (inB t.ts[j].i 1 9999 && inB t.ts[j].l 1 2147483647 && inB t.ts[j].u 0 t.ts[j].l) = false := by
        cases q1 : inB t.ts[j].i 1 9999 <;> cases q2 : inB t.ts[j].l 1 2147483647 <;> cases q3 : inB t.ts[j].u 0 t.ts[j].l <;> rw [q1, q2, q3] at hc2 <;> first | rfl | (simp at hc2)
       have he : (trnsE t.ts).2 = 2 := each_hit (f := fun i x => trnE (bfrL t.ts i) x) hlt hF0.2 (trnE_bad hbad) (by decide)
       rw [he, if_pos (by decide)] at hE
       refine st_seq (st_reg ?_)
       refine ma h65 rfl rfl fun a66 h66 => ?_
       refine st_nil (go_then (wp_ret (ret_then (ret_block (ret_then (ret_then (ret_block (ret_then ?_))))))))
       refine fin1 h66 rfl rfl ?_
       exact ⟨by rw [hE], S65.below⟩
      ·
       have hgood : (inB t.ts[j].i 1 9999 && inB t.ts[j].l 1 2147483647 && inB t.ts[j].u 0 t.ts[j].l) = true := by
        cases q1 : inB t.ts[j].i 1 9999 <;> cases q2 : inB t.ts[j].l 1 2147483647 <;> cases q3 : inB t.ts[j].u 0 t.ts[j].l <;> rw [q1, q2, q3] at hc2 <;> first | rfl | (simp at hc2)
       refine wp_skip (go_then (st_seq ?_))
       apply dr_flow h65 [false, false, false, false, false, false, false, false, false, false, false, false, false] _ (by kernel_rfl)
       case h =>
        refine qv h65 (fun X hX => ex_move (h65.ev rfl)) fun a67 h67 => ?_
        refine qv h67 (fun X hX => ex_gtr (h67.ev rfl) (h67.ev rfl)) fun a68 h68 => ?_
        refine qv h68 (fun X hX => ex_move (h68.ev rfl)) fun a69 h69 => ?_
        apply sq_grp h69 49 rfl 10 59
        case ht =>
         intro gc49
         have hj0 : 0 < j := by have := of_decide_eq_true gc49; omega
         refine sq_val h69 (wanted_yes h69 _ rfl rfl rfl gc49) rfl rfl (fun X hX => (ex_field (off := 0) (j := 0) (by kernel_rfl) (h69.ev rfl) rfl)) fun a70 h70 => ?_
         refine sq_val h70 (wanted_yes h70 _ rfl rfl rfl gc49) rfl rfl (fun X hX => (ex_load (by kernel_rfl) (h70.ev rfl) ((S65.grow hX).cell (i := 0) rfl rfl))) fun a71 h71 => ?_
         refine sq_val h71 (wanted_yes h71 _ rfl rfl rfl gc49) rfl rfl (fun X hX => (ex_field (off := 0) (j := 0) (by kernel_rfl) (h71.ev rfl) rfl)) fun a72 h72 => ?_
         refine sq_val h72 (wanted_yes h72 _ rfl rfl rfl gc49) rfl rfl (fun X hX => (ex_load (by kernel_rfl) (h72.ev rfl) ((S65.grow hX).cell (i := 1) rfl rfl))) fun a73 h73 => ?_
         refine sq_val h73 (wanted_yes h73 _ rfl rfl rfl gc49) rfl rfl (fun X hX => (ex_move (h73.ev rfl))) fun a74 h74 => ?_
         refine sq_val h74 (wanted_yes h74 _ rfl rfl rfl gc49) rfl rfl (fun X hX => (ex_sub (h74.ev rfl) (h74.ev rfl) (by omega))) fun a75 h75 => ?_
         refine sq_val h75 (wanted_yes h75 _ rfl rfl rfl gc49) rfl rfl (fun X hX => (ex_index (i := j - 1) (sz := 4) Tryz.underlying22 (by kernel_rfl) (h75.ev rfl) (h75.ev rfl) (by omega) (by omega) rfl)) fun a76 h76 => ?_
         refine sq_val h76 (wanted_yes h76 _ rfl rfl rfl gc49) rfl rfl (fun X hX => (ex_field (off := 0) (by kernel_rfl) (h76.ev rfl) rfl)) fun a77 h77 => ?_
         refine sq_val h77 (wanted_yes h77 _ rfl rfl rfl gc49) rfl rfl (fun X hX => (ex_load (by kernel_rfl) (h77.ev rfl) ((flatAt trsL_len ((S65.grow hX).rd0 hr) (show j - 1 < t.ts.length by omega)) 0 _ rfl))) fun a78 h78 => ?_
         refine sq_val h78 (wanted_yes h78 _ rfl rfl rfl gc49) rfl rfl (fun X hX => (as_val (v' := .bool (decide (t.ts[j].i ≤ ((bfrL t.ts j).getD trn00).i))) (by rw [bfrL_pos hj0 hlt, Option.getD_some]) (ex_leq (h78.ev rfl) (h78.ev rfl)))) fun a79 h79 => ?_
         exact sq_nil (h79.mid (m := [(_, _), (_, _), (_, _), (_, _), (_, _), (_, _), (_, _), (_, _), (_, _)]) rfl)
        case hf =>
         intro gc49
         refine qo h69 rfl rfl rfl gc49 rfl rfl fun a80 h80 => ?_
         refine qo h80 rfl rfl rfl gc49 rfl rfl fun a81 h81 => ?_
         refine qo h81 rfl rfl rfl gc49 rfl rfl fun a82 h82 => ?_
         refine qo h82 rfl rfl rfl gc49 rfl rfl fun a83 h83 => ?_
         refine qo h83 rfl rfl rfl gc49 rfl rfl fun a84 h84 => ?_
         refine qo h84 rfl rfl rfl gc49 rfl rfl fun a85 h85 => ?_
         refine qo h85 rfl rfl rfl gc49 rfl rfl fun a86 h86 => ?_
         refine qo h86 rfl rfl rfl gc49 rfl rfl fun a87 h87 => ?_
         refine qo h87 rfl rfl rfl gc49 rfl rfl fun a88 h88 => ?_
         refine qo h88 rfl rfl rfl gc49 rfl rfl fun a89 h89 => ?_
         exact sq_nil ⟨_, h89.mid (m := [(_, _), (_, _), (_, _), (_, _), (_, _), (_, _), (_, _), (_, _), (_, _)]) rfl⟩
        case h =>
         intro v90 a90 hg59 h90
         refine sq_nil ?_
         refine nd_end fun X91 hX91 hΦ91 => ?_
         have S91 := S65.grow hX91
         refine sv h90 (ex_pick_and (h90.ev rfl) (h90.ev rfl) hg59 (h90.ev rfl)) fun a92 h92 => ?_
         refine st_nil (go_then ?_)
         refine st_if (h92.ev rfl) (fun hc3 => ?_) (fun hc3 => ?_)
         ·
          have he : (trnsE t.ts).2 = 9 := by
           obtain ⟨u1, u2⟩ := Bool.and_eq_true_iff.1 hc3
           have hj0 : 0 < j := by have := of_decide_eq_true u1; omega
           refine each_hit (f := fun i x => trnE (bfrL t.ts i) x) hlt hF0.2 ?_ (by decide)
           rw [trnE_ord hgood]
           rw [bfrL_pos hj0 hlt] at u2 ⊢
           have := of_decide_eq_true u2
           show unl (decide (t.ts[j - 1].i < t.ts[j].i)) 9 = 9
           rw [decide_eq_false (by change t.ts[j].i ≤ t.ts[j - 1].i at this; omega)]; rfl
          rw [he, if_pos (by decide)] at hE
          refine st_seq (st_reg ?_)
          refine ma h92 rfl rfl fun a93 h93 => ?_
          refine st_nil (go_then (wp_ret (ret_block (ret_then (ret_then (ret_block (ret_then ?_)))))))
          refine fin1 h93 rfl rfl ?_
          exact ⟨by rw [hE], S91.below⟩
         ·
          have hz : trnE (bfrL t.ts j) t.ts[j] = 0 := by
           rw [trnE_ord hgood]
           rcases Nat.eq_zero_or_pos j with h0 | h0
           · subst h0; rfl
           · rw [decide_eq_true (by omega : (j : Int) > 0), Bool.true_and, bfrL_pos h0 hlt] at hc3
             have := of_decide_eq_false hc3
             rw [bfrL_pos h0 hlt]
             show unl (decide (t.ts[j - 1].i < t.ts[j].i)) 9 = 0
             rw [decide_eq_true (by change ¬ t.ts[j].i ≤ t.ts[j - 1].i at this; omega)]; rfl
          refine wp_skip (go_block (go_then (st_reg ?_)))
          refine mv h92 rfl rfl fun a94 h94 => ?_
          refine sv h94 (ex_add (h94.ev rfl) (h94.ev rfl) (by omega)) fun a95 h95 => ?_
          refine ma h95 rfl rfl fun a96 h96 => ?_
          refine st_nil (go_then ?_)
          exact ⟨j + 1, (by omega), ⟨hlt, fun k hk hkj => by rcases Nat.lt_or_eq_of_le (show k ≤ j by omega) with q | q; exact hF0.2 k hk q; subst q; exact hz⟩, h96.re ⟨rfl, rfl, trivial⟩, (S91.sub (.cons _ (.cons_cons _ .slnil)))⟩
       case hB => kernel_rfl
       case hst => rfl
   ·
    have hge : t.ts.length ≤ j := by have := of_decide_eq_false hc1; omega
    have hz0 : (trnsE t.ts).2 = 0 := (eachE_iff _ _).2 fun k hk => hF0.2 k hk (by omega)
    rw [if_neg (fun h => h hz0)] at hE
    refine wp_exit ?_
    refine go_exit_then ?_
    refine go_exit_then ?_
    refine go_exit ?_
    refine go_then (st_seq (st_seq (st_reg ?_)))
    refine ma h26 rfl rfl fun a97 h97 => ?_
    refine st_nil (go_then (wp_block ?_))
    refine st_loop h97 S21 [1] (fun (j : Nat) => [(5, .int .i64 (j : Nat))]) (fun (j : Nat) => j ≤ t.ds.length ∧ ∀ k (hk : k < t.ds.length), k < j → dtyE (bfrL t.ds k) t.ds[k] = 0) (fun (j : Nat) L => L) (fun (j : Nat) => t.ds.length - j) (0) (⟨Nat.zero_le _, fun k _ h => absurd h (Nat.not_lt_zero _)⟩) ⟨rfl, rfl, trivial⟩ (S21) ?_
    intro j a98 X98 hF1 h98 S98
    refine st_seq (st_seq (st_reg ?_))
    refine mv h98 rfl rfl fun a99 h99 => ?_
    refine vf h99 1 1 rfl rfl rfl fun a100 h100 => ?_
    refine vl h100 S98 0 rfl rfl rfl rfl fun a101 h101 => ?_
    refine sv h101 (ex_len Tryz.underlying23 (h101.ev rfl)) fun a102 h102 => ?_
    refine sv h102 (ex_lss (h102.ev rfl) (h102.ev rfl)) fun a103 h103 => ?_
    refine st_nil (go_then ?_)
    refine st_if (h103.ev rfl) (fun hc4 => ?_) (fun hc4 => ?_)
    ·
     have hlt : j < t.ds.length := by have := of_decide_eq_true hc4; omega
     obtain ⟨b, o, rfl, hB, _⟩ := hs.opened (flat_pos dtyL_len (by decide) (by omega))
     refine wp_skip (go_then (st_seq (wp_block (st_seq (st_reg ?_)))))
     refine vf h103 1 1 rfl rfl rfl fun a104 h104 => ?_
     refine vl h104 S98 0 rfl rfl rfl rfl fun a105 h105 => ?_
     refine mv h105 rfl rfl fun a106 h106 => ?_
     refine sv h106 (ex_index (i := j) (sz := 3) Tryz.underlying23 (by kernel_rfl) (h106.ev rfl) (h106.ev rfl) (by omega) (by omega) rfl) fun a107 h107 => ?_
     refine sv (v := dtyV t.ds[j]) h107 (ex_loads (by kernel_rfl) (by kernel_rfl) (h107.ev rfl) (flatAt dtyL_len (S98.rd0 hs) hlt)) fun a108 h108 => ?_
     refine na (.agg #[.int .i64 0, .bool false, .int .i64 0]) h108 rfl S98 fun b6 a109 X109 gb6 h109 S109 => ?_
     refine sl_store0 h109 (wn rfl) ⟨rfl, rfl⟩ (h109.ev rfl) (h109.ev rfl) rfl (by kernel_rfl) S109 (i := 0) rfl rfl rfl fun X110 S110 => ?_
     refine st_nil (go_then (st_seq (st_seq (st_reg ?_))))
     refine vf h109 0 0 rfl rfl rfl fun a111 h111 => ?_
     refine vl h111 S110 0 rfl rfl rfl rfl fun a112 h112 => ?_
     refine sl_pure h112 (wn rfl) (ex_call (fun _ _ => by kernel_rfl) (h112.evs rfl) rfl) rfl rfl (Within_any _ _ _ _) fun a113 h113 => ?_
     refine sv h113 (ex_not (h113.ev rfl)) fun a114 h114 => ?_
     refine mv h114 rfl rfl fun a115 h115 => ?_
     apply sl_or h115 S110 77 rfl 5 82
     case hf =>
      intro gc77
      refine sy h115 rfl rfl rfl gc77 (ex_field (off := 2) (j := 2) (by kernel_rfl) (h115.ev rfl) rfl) rfl rfl fun a116 h116 => ?_
      refine sy h116 rfl rfl rfl gc77 (ex_load (by kernel_rfl) (h116.ev rfl) (S110.cell (i := 0) rfl rfl)) rfl rfl fun a117 h117 => ?_
      refine sl_pure h117 (wanted_yes h117 _ rfl rfl rfl gc77) (ex_call (fun _ _ => by kernel_rfl) (h117.evs rfl) rfl) rfl rfl (Within_any _ _ _ _) fun a118 h118 => ?_
      refine sy h118 rfl rfl rfl gc77 (ex_not (h118.ev rfl)) rfl rfl fun a119 h119 => ?_
      refine sv h119 (ex_pick_f (h119.ev rfl) gc77 (h119.ev rfl)) fun a120 h120 => ?_
      exact st_nil ⟨h120.mid (m := [(_, _), (_, _), (_, _), (_, _)]) rfl, S110⟩
     case ht =>
      intro gc77
      refine no h115 rfl rfl rfl gc77 rfl rfl fun a121 h121 => ?_
      refine no h121 rfl rfl rfl gc77 rfl rfl fun a122 h122 => ?_
      refine no h122 rfl rfl rfl gc77 rfl rfl fun a123 h123 => ?_
      refine no h123 rfl rfl rfl gc77 rfl rfl fun a124 h124 => ?_
      refine sv h124 (ex_pick_t (h124.ev rfl) gc77 (h124.ev rfl)) fun a125 h125 => ?_
      exact st_nil ⟨h125.mid (m := [(_, _), (_, _), (_, _), (_, _)]) rfl, S110⟩
     case h =>
      rintro a126 X126 ⟨h126, S126⟩
      refine st_nil (go_then ?_)
      refine st_if (h126.ev rfl) (fun hc5 => ?_) (fun hc5 => ?_)
      ·
       have hbad : (inB t.ds[j].g 0 600 && inB t.ds[j].l 1 2147483647) = false := by
        cases q1 : inB t.ds[j].g 0 600 <;> cases q2 : inB t.ds[j].l 1 2147483647 <;> rw [q1, q2] at hc5 <;> first | rfl | (simp at hc5)
       have he : (dtysE t.ds).2 = 2 := each_hit (f := fun i x => dtyE (bfrL t.ds i) x) hlt hF1.2 (dtyE_bad hbad) (by decide)
       rw [he] at hE
       refine st_seq (st_reg ?_)
       refine ma h126 rfl rfl fun a127 h127 => ?_
       refine st_nil (go_then (wp_ret (ret_then (ret_block (ret_then (ret_then (ret_block (ret_then ?_))))))))
       refine fin1 h127 rfl rfl ?_
       exact ⟨by rw [hE], S126.below⟩
      ·
       have hgood : (inB t.ds[j].g 0 600 && inB t.ds[j].l 1 2147483647) = true := by
        cases q1 : inB t.ds[j].g 0 600 <;> cases q2 : inB t.ds[j].l 1 2147483647 <;> rw [q1, q2] at hc5 <;> first | rfl | (simp at hc5)
       refine wp_skip (go_then (st_seq ?_))
       apply dr_flow h126 [false, false, false, false, false, false, false, false, false, false, false, false, false] _ (by kernel_rfl)
       case h =>
        refine qv h126 (fun X hX => ex_move (h126.ev rfl)) fun a128 h128 => ?_
        refine qv h128 (fun X hX => ex_gtr (h128.ev rfl) (h128.ev rfl)) fun a129 h129 => ?_
        refine qv h129 (fun X hX => ex_move (h129.ev rfl)) fun a130 h130 => ?_
        apply sq_grp h130 85 rfl 10 95
        case ht =>
         intro gc85
         have hj0 : 0 < j := by have := of_decide_eq_true gc85; omega
         refine sq_val h130 (wanted_yes h130 _ rfl rfl rfl gc85) rfl rfl (fun X hX => (ex_field (off := 0) (j := 0) (by kernel_rfl) (h130.ev rfl) rfl)) fun a131 h131 => ?_
         refine sq_val h131 (wanted_yes h131 _ rfl rfl rfl gc85) rfl rfl (fun X hX => (ex_load (by kernel_rfl) (h131.ev rfl) ((S126.grow hX).cell (i := 0) rfl rfl))) fun a132 h132 => ?_
         refine sq_val h132 (wanted_yes h132 _ rfl rfl rfl gc85) rfl rfl (fun X hX => (ex_field (off := 1) (j := 1) (by kernel_rfl) (h132.ev rfl) rfl)) fun a133 h133 => ?_
         refine sq_val h133 (wanted_yes h133 _ rfl rfl rfl gc85) rfl rfl (fun X hX => (ex_load (by kernel_rfl) (h133.ev rfl) ((S126.grow hX).cell (i := 1) rfl rfl))) fun a134 h134 => ?_
         refine sq_val h134 (wanted_yes h134 _ rfl rfl rfl gc85) rfl rfl (fun X hX => (ex_move (h134.ev rfl))) fun a135 h135 => ?_
         refine sq_val h135 (wanted_yes h135 _ rfl rfl rfl gc85) rfl rfl (fun X hX => (ex_sub (h135.ev rfl) (h135.ev rfl) (by omega))) fun a136 h136 => ?_
         refine sq_val h136 (wanted_yes h136 _ rfl rfl rfl gc85) rfl rfl (fun X hX => (ex_index (i := j - 1) (sz := 3) Tryz.underlying23 (by kernel_rfl) (h136.ev rfl) (h136.ev rfl) (by omega) (by omega) rfl)) fun a137 h137 => ?_
         refine sq_val h137 (wanted_yes h137 _ rfl rfl rfl gc85) rfl rfl (fun X hX => (ex_field (off := 0) (by kernel_rfl) (h137.ev rfl) rfl)) fun a138 h138 => ?_
         refine sq_val h138 (wanted_yes h138 _ rfl rfl rfl gc85) rfl rfl (fun X hX => (ex_load (by kernel_rfl) (h138.ev rfl) ((flatAt dtyL_len ((S126.grow hX).rd0 hs) (show j - 1 < t.ds.length by omega)) 0 _ rfl))) fun a139 h139 => ?_
         refine sq_val h139 (wanted_yes h139 _ rfl rfl rfl gc85) rfl rfl (fun X hX => (as_val (v' := .bool (decide (t.ds[j].g ≤ ((bfrL t.ds j).getD dty00).g))) (by rw [bfrL_pos hj0 hlt, Option.getD_some]) (ex_leq (h139.ev rfl) (h139.ev rfl)))) fun a140 h140 => ?_
         exact sq_nil (h140.mid (m := [(_, _), (_, _), (_, _), (_, _), (_, _), (_, _), (_, _), (_, _), (_, _)]) rfl)
        case hf =>
         intro gc85
         refine qo h130 rfl rfl rfl gc85 rfl rfl fun a141 h141 => ?_
         refine qo h141 rfl rfl rfl gc85 rfl rfl fun a142 h142 => ?_
         refine qo h142 rfl rfl rfl gc85 rfl rfl fun a143 h143 => ?_
         refine qo h143 rfl rfl rfl gc85 rfl rfl fun a144 h144 => ?_
         refine qo h144 rfl rfl rfl gc85 rfl rfl fun a145 h145 => ?_
         refine qo h145 rfl rfl rfl gc85 rfl rfl fun a146 h146 => ?_
         refine qo h146 rfl rfl rfl gc85 rfl rfl fun a147 h147 => ?_
         refine qo h147 rfl rfl rfl gc85 rfl rfl fun a148 h148 => ?_
         refine qo h148 rfl rfl rfl gc85 rfl rfl fun a149 h149 => ?_
         refine qo h149 rfl rfl rfl gc85 rfl rfl fun a150 h150 => ?_
         exact sq_nil ⟨_, h150.mid (m := [(_, _), (_, _), (_, _), (_, _), (_, _), (_, _), (_, _), (_, _), (_, _)]) rfl⟩
        case h =>
         intro v151 a151 hg95 h151
         refine sq_nil ?_
         refine nd_end fun X152 hX152 hΦ152 => ?_
         have S152 := S126.grow hX152
         refine sv h151 (ex_pick_and (h151.ev rfl) (h151.ev rfl) hg95 (h151.ev rfl)) fun a153 h153 => ?_
         refine st_nil (go_then ?_)
         refine st_if (h153.ev rfl) (fun hc6 => ?_) (fun hc6 => ?_)
         ·
          have he : (dtysE t.ds).2 = 9 := by
           obtain ⟨u1, u2⟩ := Bool.and_eq_true_iff.1 hc6
           have hj0 : 0 < j := by have := of_decide_eq_true u1; omega
           refine each_hit (f := fun i x => dtyE (bfrL t.ds i) x) hlt hF1.2 ?_ (by decide)
           rw [dtyE_ord hgood]
           rw [bfrL_pos hj0 hlt] at u2 ⊢
           have := of_decide_eq_true u2
           show unl (decide (t.ds[j - 1].g < t.ds[j].g)) 9 = 9
           rw [decide_eq_false (by change t.ds[j].g ≤ t.ds[j - 1].g at this; omega)]; rfl
          rw [he] at hE
          refine st_seq (st_reg ?_)
          refine ma h153 rfl rfl fun a154 h154 => ?_
          refine st_nil (go_then (wp_ret (ret_block (ret_then (ret_then (ret_block (ret_then ?_)))))))
          refine fin1 h154 rfl rfl ?_
          exact ⟨by rw [hE], S152.below⟩
         ·
          have hz : dtyE (bfrL t.ds j) t.ds[j] = 0 := by
           rw [dtyE_ord hgood]
           rcases Nat.eq_zero_or_pos j with h0 | h0
           · subst h0; rfl
           · rw [decide_eq_true (by omega : (j : Int) > 0), Bool.true_and, bfrL_pos h0 hlt] at hc6
             have := of_decide_eq_false hc6
             rw [bfrL_pos h0 hlt]
             show unl (decide (t.ds[j - 1].g < t.ds[j].g)) 9 = 0
             rw [decide_eq_true (by change ¬ t.ds[j].g ≤ t.ds[j - 1].g at this; omega)]; rfl
          refine wp_skip (go_block (go_then (st_reg ?_)))
          refine mv h153 rfl rfl fun a155 h155 => ?_
          refine sv h155 (ex_add (h155.ev rfl) (h155.ev rfl) (by omega)) fun a156 h156 => ?_
          refine ma h156 rfl rfl fun a157 h157 => ?_
          refine st_nil (go_then ?_)
          exact ⟨j + 1, (by omega), ⟨hlt, fun k hk hkj => by rcases Nat.lt_or_eq_of_le (show k ≤ j by omega) with q | q; exact hF1.2 k hk q; subst q; exact hz⟩, h157.re ⟨rfl, rfl, trivial⟩, (S152.sub (.cons _ (.cons_cons _ .slnil)))⟩
       case hB => kernel_rfl
       case hst => rfl
    ·
     have hge : t.ds.length ≤ j := by have := of_decide_eq_false hc4; omega
     have hz1 : (dtysE t.ds).2 = 0 := (eachE_iff _ _).2 fun k hk => hF1.2 k hk (by omega)
     rw [hz1] at hE
     refine wp_exit ?_
     refine go_exit_then ?_
     refine go_exit_then ?_
     refine go_exit ?_
     refine go_then (st_seq (st_reg ?_))
     refine ma h103 rfl rfl fun a158 h158 => ?_
     refine st_nil (go_then (wp_ret ?_))
     refine fin1 h158 rfl rfl ?_
     exact ⟨by rw [hE], S98.below⟩
theorem eqL_trn (x : Trn) : eqL [.int .i64 x.i, .int .i64 x.l, .int .i64 x.u, .bool x.c] [.int .i64 x.i, .int .i64 x.l, .int .i64 x.u, .bool x.c] = true := by simp [eqL, eqV2]
theorem eqL_dty (x : Dty) : eqL [.int .i64 x.g, .bool x.f, .int .i64 x.l] [.int .i64 x.g, .bool x.f, .int .i64 x.l] = true := by simp [eqL, eqV2]
theorem rSameT_any (t : Tbl) (A : Option Addr) (c : Nat) (B : Option Addr) (d : Nat) (A' : Option Addr) (c' : Nat) (B' : Option Addr) (d' : Nat) (w : World) (hr : Rd w w.heap.size A (t.ts.flatMap trsL)) (hs : Rd w w.heap.size B (t.ds.flatMap dtyL)) (hr' : Rd w w.heap.size A' (t.ts.flatMap trsL)) (hs' : Rd w w.heap.size B' (t.ds.flatMap dtyL)) (hl : t.ts.length ≤ 100000 ∧ t.ds.length ≤ 100000) :
 Calls Tryz.prog 20 #[tblV t A c B d, tblV t A' c' B' d'] w fun e w' => e = .returned (.bool true) ∧ Below w.heap.size w w' := by
 refine st_enter (N := 59) Tryz.func20 rfl rfl rfl (fun a0 h0 => ?_)
 have S0 := St.init w
 refine st_seq (st_reg ?_)
 refine nb h0 rfl rfl S0 fun b2 a1 X1 gb2 h1 S1 => ?_
 refine nb h1 rfl rfl S1 fun b3 a2 X2 gb3 h2 S2 => ?_
 refine ma h2 rfl rfl fun a3 h3 => ?_
 refine st_nil (go_then (st_seq (st_seq (st_reg ?_))))
 refine vf h3 0 0 rfl rfl rfl fun a4 h4 => ?_
 refine vl h4 S2 1 rfl rfl rfl rfl fun a5 h5 => ?_
 refine sv h5 (ex_len Tryz.underlying22 (h5.ev rfl)) fun a6 h6 => ?_
 refine vf h6 0 0 rfl rfl rfl fun a7 h7 => ?_
 refine vl h7 S2 0 rfl rfl rfl rfl fun a8 h8 => ?_
 refine sv h8 (ex_len Tryz.underlying22 (h8.ev rfl)) fun a9 h9 => ?_
 refine sv h9 (ex_neq (h9.ev rfl) (h9.ev rfl)) fun a10 h10 => ?_
 refine mv h10 rfl rfl fun a11 h11 => ?_
 apply sl_or h11 S2 14 rfl 8 22
 case hf =>
  intro gc14
  refine sy h11 rfl rfl rfl gc14 (ex_field (off := 1) (j := 1) (by kernel_rfl) (h11.ev rfl) rfl) rfl rfl fun a12 h12 => ?_
  refine sy h12 rfl rfl rfl gc14 (ex_load (by kernel_rfl) (h12.ev rfl) (S2.cell (i := 1) rfl rfl)) rfl rfl fun a13 h13 => ?_
  refine sy h13 rfl rfl rfl gc14 (ex_len Tryz.underlying23 (h13.ev rfl)) rfl rfl fun a14 h14 => ?_
  refine sy h14 rfl rfl rfl gc14 (ex_field (off := 1) (j := 1) (by kernel_rfl) (h14.ev rfl) rfl) rfl rfl fun a15 h15 => ?_
  refine sy h15 rfl rfl rfl gc14 (ex_load (by kernel_rfl) (h15.ev rfl) (S2.cell (i := 0) rfl rfl)) rfl rfl fun a16 h16 => ?_
  refine sy h16 rfl rfl rfl gc14 (ex_len Tryz.underlying23 (h16.ev rfl)) rfl rfl fun a17 h17 => ?_
  refine sy h17 rfl rfl rfl gc14 (ex_neq (h17.ev rfl) (h17.ev rfl)) rfl rfl fun a18 h18 => ?_
  refine sv h18 (ex_pick_f (h18.ev rfl) gc14 (h18.ev rfl)) fun a19 h19 => ?_
  exact st_nil ⟨h19.mid (m := [(_, _), (_, _), (_, _), (_, _), (_, _), (_, _), (_, _)]) rfl, S2⟩
 case ht =>
  intro gc14
  refine no h11 rfl rfl rfl gc14 rfl rfl fun a20 h20 => ?_
  refine no h20 rfl rfl rfl gc14 rfl rfl fun a21 h21 => ?_
  refine no h21 rfl rfl rfl gc14 rfl rfl fun a22 h22 => ?_
  refine no h22 rfl rfl rfl gc14 rfl rfl fun a23 h23 => ?_
  refine no h23 rfl rfl rfl gc14 rfl rfl fun a24 h24 => ?_
  refine no h24 rfl rfl rfl gc14 rfl rfl fun a25 h25 => ?_
  refine no h25 rfl rfl rfl gc14 rfl rfl fun a26 h26 => ?_
  refine sv h26 (ex_pick_t (h26.ev rfl) gc14 (h26.ev rfl)) fun a27 h27 => ?_
  exact st_nil ⟨h27.mid (m := [(_, _), (_, _), (_, _), (_, _), (_, _), (_, _), (_, _)]) rfl, S2⟩
 case h =>
  rintro a28 X28 ⟨h28, S28⟩
  refine st_nil (go_then ?_)
  refine st_if_f (h28.ev rfl) ((by simp)) ?_
  refine wp_skip (go_then (st_seq (st_seq (st_reg ?_))))
  refine ma h28 rfl rfl fun a29 h29 => ?_
  refine st_nil (go_then (wp_block ?_))
  refine st_loop h29 S28 [3, 2] (fun (j : Nat) => [(5, .int .i64 (j : Nat))]) (fun (j : Nat) => j ≤ t.ts.length) (fun (j : Nat) L => L) (fun (j : Nat) => t.ts.length - j) (0) (Nat.zero_le _) ⟨rfl, rfl, rfl, trivial⟩ (S28) ?_
  intro j a30 X30 hF0 h30 S30
  refine st_seq (st_seq (st_reg ?_))
  refine mv h30 rfl rfl fun a31 h31 => ?_
  refine vf h31 0 0 rfl rfl rfl fun a32 h32 => ?_
  refine vl h32 S30 1 rfl rfl rfl rfl fun a33 h33 => ?_
  refine sv h33 (ex_len Tryz.underlying22 (h33.ev rfl)) fun a34 h34 => ?_
  refine sv h34 (ex_lss (h34.ev rfl) (h34.ev rfl)) fun a35 h35 => ?_
  refine st_nil (go_then ?_)
  refine st_if (h35.ev rfl) (fun hc1 => ?_) (fun hc1 => ?_)
  ·
   have hlt : j < t.ts.length := by have := of_decide_eq_true hc1; omega
   obtain ⟨b, o, rfl, hB, _⟩ := hr.opened (flat_pos trsL_len (by decide) (by omega))
   obtain ⟨b', o', rfl, hB', _⟩ := hr'.opened (flat_pos trsL_len (by decide) (by omega))
   refine wp_skip (go_then (st_seq (wp_block (st_seq ?_))))
   apply dr_flow h35 [false, false, false, false, false, false, false, false, false, false] _ (by kernel_rfl)
   case h =>
    refine qv h35 (fun X hX => ex_field (off := 0) (j := 0) (by kernel_rfl) (h35.ev rfl) rfl) fun a36 h36 => ?_
    refine qv h36 (fun X hX => ex_load (by kernel_rfl) (h36.ev rfl) ((S30.grow hX).cell (i := 1) rfl rfl)) fun a37 h37 => ?_
    refine qv h37 (fun X hX => ex_move (h37.ev rfl)) fun a38 h38 => ?_
    refine qv h38 (fun X hX => ex_index (i := j) (sz := 4) Tryz.underlying22 (by kernel_rfl) (h38.ev rfl) (h38.ev rfl) (by omega) (by omega) rfl) fun a39 h39 => ?_
    refine qv (v := trnV t.ts[j]) h39 (fun X hX => ex_loads (by kernel_rfl) (by kernel_rfl) (h39.ev rfl) (flatAt trsL_len ((S30.grow hX).rd0 hr) hlt)) fun a40 h40 => ?_
    refine qv h40 (fun X hX => ex_field (off := 0) (j := 0) (by kernel_rfl) (h40.ev rfl) rfl) fun a41 h41 => ?_
    refine qv h41 (fun X hX => ex_load (by kernel_rfl) (h41.ev rfl) ((S30.grow hX).cell (i := 0) rfl rfl)) fun a42 h42 => ?_
    refine qv h42 (fun X hX => ex_move (h42.ev rfl)) fun a43 h43 => ?_
    refine qv h43 (fun X hX => ex_index (i := j) (sz := 4) Tryz.underlying22 (by kernel_rfl) (h43.ev rfl) (h43.ev rfl) (by omega) (by omega) rfl) fun a44 h44 => ?_
    refine qv (v := trnV t.ts[j]) h44 (fun X hX => ex_loads (by kernel_rfl) (by kernel_rfl) (h44.ev rfl) (flatAt trsL_len ((S30.grow hX).rd0 hr') hlt)) fun a45 h45 => ?_
    refine sq_nil ?_
    refine nd_end fun X46 hX46 hΦ46 => ?_
    have S46 := S30.grow hX46
    refine sv h45 (ex_tneq (ks := [.i .i64, .i .i64, .i .i64, .b]) (by kernel_rfl) Tryz.underlying116 (by kernel_rfl) (h45.ev rfl) (h45.ev rfl) rfl rfl) fun a47 h47 => ?_
    refine st_nil (go_then ?_)
    refine st_if_f (h47.ev rfl) ((by rw [eqL_trn]; rfl)) ?_
    refine wp_skip (go_block (go_then (st_reg ?_)))
    refine mv h47 rfl rfl fun a48 h48 => ?_
    refine sv h48 (ex_add (h48.ev rfl) (h48.ev rfl) (by omega)) fun a49 h49 => ?_
    refine ma h49 rfl rfl fun a50 h50 => ?_
    refine st_nil (go_then ?_)
    exact ⟨j + 1, (by omega), hlt, h50.re ⟨rfl, rfl, rfl, trivial⟩, S46⟩
   case hB => kernel_rfl
   case hst => rfl
  ·
   have hge : t.ts.length ≤ j := by have := of_decide_eq_false hc1; omega
   refine wp_exit ?_
   refine go_exit_then ?_
   refine go_exit_then ?_
   refine go_exit ?_
   refine go_then (st_seq (st_seq (st_reg ?_)))
   refine ma h35 rfl rfl fun a51 h51 => ?_
   refine st_nil (go_then (wp_block ?_))
   refine st_loop h51 S30 [3, 2] (fun (j : Nat) => [(6, .int .i64 (j : Nat))]) (fun (j : Nat) => j ≤ t.ds.length) (fun (j : Nat) L => L) (fun (j : Nat) => t.ds.length - j) (0) (Nat.zero_le _) ⟨rfl, rfl, rfl, trivial⟩ (S30) ?_
   intro j a52 X52 hF1 h52 S52
   refine st_seq (st_seq (st_reg ?_))
   refine mv h52 rfl rfl fun a53 h53 => ?_
   refine vf h53 1 1 rfl rfl rfl fun a54 h54 => ?_
   refine vl h54 S52 1 rfl rfl rfl rfl fun a55 h55 => ?_
   refine sv h55 (ex_len Tryz.underlying23 (h55.ev rfl)) fun a56 h56 => ?_
   refine sv h56 (ex_lss (h56.ev rfl) (h56.ev rfl)) fun a57 h57 => ?_
   refine st_nil (go_then ?_)
   refine st_if (h57.ev rfl) (fun hc3 => ?_) (fun hc3 => ?_)
   ·
    have hlt : j < t.ds.length := by have := of_decide_eq_true hc3; omega
    obtain ⟨b, o, rfl, hB, _⟩ := hs.opened (flat_pos dtyL_len (by decide) (by omega))
    obtain ⟨b', o', rfl, hB', _⟩ := hs'.opened (flat_pos dtyL_len (by decide) (by omega))
    refine wp_skip (go_then (st_seq (wp_block (st_seq ?_))))
    apply dr_flow h57 [false, false, false, false, false, false, false, false, false, false] _ (by kernel_rfl)
    case h =>
     refine qv h57 (fun X hX => ex_field (off := 1) (j := 1) (by kernel_rfl) (h57.ev rfl) rfl) fun a58 h58 => ?_
     refine qv h58 (fun X hX => ex_load (by kernel_rfl) (h58.ev rfl) ((S52.grow hX).cell (i := 1) rfl rfl)) fun a59 h59 => ?_
     refine qv h59 (fun X hX => ex_move (h59.ev rfl)) fun a60 h60 => ?_
     refine qv h60 (fun X hX => ex_index (i := j) (sz := 3) Tryz.underlying23 (by kernel_rfl) (h60.ev rfl) (h60.ev rfl) (by omega) (by omega) rfl) fun a61 h61 => ?_
     refine qv (v := dtyV t.ds[j]) h61 (fun X hX => ex_loads (by kernel_rfl) (by kernel_rfl) (h61.ev rfl) (flatAt dtyL_len ((S52.grow hX).rd0 hs) hlt)) fun a62 h62 => ?_
     refine qv h62 (fun X hX => ex_field (off := 1) (j := 1) (by kernel_rfl) (h62.ev rfl) rfl) fun a63 h63 => ?_
     refine qv h63 (fun X hX => ex_load (by kernel_rfl) (h63.ev rfl) ((S52.grow hX).cell (i := 0) rfl rfl)) fun a64 h64 => ?_
     refine qv h64 (fun X hX => ex_move (h64.ev rfl)) fun a65 h65 => ?_
     refine qv h65 (fun X hX => ex_index (i := j) (sz := 3) Tryz.underlying23 (by kernel_rfl) (h65.ev rfl) (h65.ev rfl) (by omega) (by omega) rfl) fun a66 h66 => ?_
     refine qv (v := dtyV t.ds[j]) h66 (fun X hX => ex_loads (by kernel_rfl) (by kernel_rfl) (h66.ev rfl) (flatAt dtyL_len ((S52.grow hX).rd0 hs') hlt)) fun a67 h67 => ?_
     refine sq_nil ?_
     refine nd_end fun X68 hX68 hΦ68 => ?_
     have S68 := S52.grow hX68
     refine sv h67 (ex_tneq (ks := [.i .i64, .b, .i .i64]) (by kernel_rfl) Tryz.underlying124 (by kernel_rfl) (h67.ev rfl) (h67.ev rfl) rfl rfl) fun a69 h69 => ?_
     refine st_nil (go_then ?_)
     refine st_if_f (h69.ev rfl) ((by rw [eqL_dty]; rfl)) ?_
     refine wp_skip (go_block (go_then (st_reg ?_)))
     refine mv h69 rfl rfl fun a70 h70 => ?_
     refine sv h70 (ex_add (h70.ev rfl) (h70.ev rfl) (by omega)) fun a71 h71 => ?_
     refine ma h71 rfl rfl fun a72 h72 => ?_
     refine st_nil (go_then ?_)
     exact ⟨j + 1, (by omega), hlt, h72.re ⟨rfl, rfl, rfl, trivial⟩, S68⟩
    case hB => kernel_rfl
    case hst => rfl
   ·
    have hge : t.ds.length ≤ j := by have := of_decide_eq_false hc3; omega
    refine wp_exit ?_
    refine go_exit_then ?_
    refine go_exit_then ?_
    refine go_exit ?_
    refine go_then (st_seq (st_reg ?_))
    refine ma h57 rfl rfl fun a73 h73 => ?_
    refine st_nil (go_then (wp_ret ?_))
    refine fin1 h73 rfl rfl ?_
    exact ⟨rfl, S52.below⟩
end Go.Proofs.YtcfdpfmchchkaaaGreatDoor
namespace Go.Proofs.YtcfdpfmchchkaaaGreatDoor
set_option linter.unusedVariables false
set_option linter.unusedSimpArgs false
set_option maxRecDepth 4000
open Go.RowKit Go.Sort Go.Shelf
theorem LitAt_any (s : List UInt8) (a c : Nat) (h1 : a + c ≤ s.length) (hs : s.length ≤ 100000) (hc : c ≤ 6) (w : World) :
 Calls Tryz.prog 73 #[.string (bs s), .int .i64 a, .int .i64 c] w fun e w' => e = .returned (.int .i64 (nAt s a c)) ∧ w = w' := by
 have h := LittleAt_any (bs s) a c (by rw [bs_size]; exact h1) (by rw [bs_size]; unfold maxLen; omega) hc w
 rw [bl_bs] at h
 exact h
theorem bsA (a b : List UInt8) : bs a ++ bs b = bs (a ++ b) := bl_inj (by rw [bl_append, bl_bs, bl_bs, bl_bs])
theorem Bit1_any (b : Bool) (w : World) : Calls Tryz.prog 76 #[.bool b] w fun e w' => e = .returned (.int .i64 (bit1 b)) ∧ w = w' := Bit_any b w
def tbH (t : Tbl) : List UInt8 := lit t.ts.length 1 ++ lit t.ds.length 1
def tbT (t : Tbl) (j : Nat) : List UInt8 := tbH t ++ (t.ts.take j).flatMap trnY
def tbD (t : Tbl) (j : Nat) : List UInt8 := tbT t t.ts.length ++ (t.ds.take j).flatMap dtyY
theorem tbH_len (t : Tbl) : (tbH t).length = 2 := by unfold tbH; rw [List.length_append, lit_length, lit_length]
theorem tbT_len (t : Tbl) (j : Nat) : (tbT t j).length ≤ 2 + 11 * t.ts.length := by
 unfold tbT
 rw [List.length_append, tbH_len, flatB_len trnY_len, List.length_take]
 have := Nat.min_le_right j t.ts.length
 omega
theorem tbD_len (t : Tbl) (j : Nat) : (tbD t j).length ≤ 2 + 11 * t.ts.length + 7 * t.ds.length := by
 unfold tbD
 rw [List.length_append, flatB_len dtyY_len, List.length_take]
 have := tbT_len t t.ts.length
 have := Nat.min_le_right j t.ds.length
 omega
theorem tbT_0 (t : Tbl) : tbT t 0 = tbH t := by unfold tbT; simp
theorem tbD_0 (t : Tbl) : tbD t 0 = tbT t t.ts.length := by unfold tbD; simp
theorem tbT_succ (t : Tbl) {j : Nat} (h : j < t.ts.length) : tbT t (j + 1) = tbT t j ++ lit t.ts[j].i 2 ++ lit t.ts[j].l 4 ++ lit t.ts[j].u 4 ++ lit (bit1 t.ts[j].c) 1 := by
 unfold tbT
 rw [List.take_succ_eq_append_getElem h, List.flatMap_append, List.flatMap_singleton]
 unfold trnY
 simp only [List.append_assoc]
theorem tbD_succ (t : Tbl) {j : Nat} (h : j < t.ds.length) : tbD t (j + 1) = tbD t j ++ lit t.ds[j].g 2 ++ lit (bit1 t.ds[j].f) 1 ++ lit t.ds[j].l 4 := by
 unfold tbD
 rw [List.take_succ_eq_append_getElem h, List.flatMap_append, List.flatMap_singleton]
 unfold dtyY
 simp only [List.append_assoc]
theorem tbD_end (t : Tbl) : tbD t t.ds.length = tblL t := by
 unfold tbD tbT tblL tbH
 rw [List.take_length, List.take_length]
 simp only [List.append_assoc]
theorem rTableBytes_any (t : Tbl) (A : Option Addr) (c : Nat) (B : Option Addr) (d : Nat) (w : World) (ht : TblOk t) (hr : Rd w w.heap.size A (t.ts.flatMap trsL)) (hs : Rd w w.heap.size B (t.ds.flatMap dtyL)) :
 Calls Tryz.prog 22 #[tblV t A c B d] w fun e w' => e = .returned (.string (bs (tblL t))) ∧ Below w.heap.size w w' := by
 have hn := ht.n
 have hm := ht.m
 have l1 := tbT_len t
 have l2 := tbD_len t
 refine st_enter (N := 74) Tryz.func22 rfl rfl rfl (fun a0 h0 => ?_)
 have S0 := St.init w
 refine st_seq (st_reg ?_)
 refine nb h0 rfl rfl S0 fun b1 a1 X1 gb1 h1 S1 => ?_
 refine ma h1 rfl rfl fun a2 h2 => ?_
 refine st_nil (go_then (st_seq ?_))
 apply dr_flow h2 [false, false, false, false, false, false, false] _ (by kernel_rfl)
 case h =>
  refine qv h2 (fun X hX => ex_field (off := 0) (j := 0) (by kernel_rfl) (h2.ev rfl) rfl) fun a3 h3 => ?_
  refine qv h3 (fun X hX => ex_load (by kernel_rfl) (h3.ev rfl) ((S1.grow hX).cell (i := 0) rfl rfl)) fun a4 h4 => ?_
  refine qv h4 (fun X hX => ex_len Tryz.underlying22 (h4.ev rfl)) fun a5 h5 => ?_
  refine sq_bel h5 (wn rfl) rfl rfl (fun X => (ex_call (fun _ _ => by kernel_rfl) (h5.evs rfl) rfl)) (fun X hX => Little_any t.ts.length 1 (by omega) (by omega) (by decide) _) fun a6 h6 => ?_
  refine qv h6 (fun X hX => ex_field (off := 1) (j := 1) (by kernel_rfl) (h6.ev rfl) rfl) fun a7 h7 => ?_
  refine qv h7 (fun X hX => ex_load (by kernel_rfl) (h7.ev rfl) ((S1.grow hX).cell (i := 0) rfl rfl)) fun a8 h8 => ?_
  refine qv h8 (fun X hX => ex_len Tryz.underlying23 (h8.ev rfl)) fun a9 h9 => ?_
  refine sq_nil ?_
  refine nd_end fun X10 hX10 hΦ10 => ?_
  have S10 := S1.grow hX10
  refine sl_bel h9 (wn rfl) (ex_call (fun _ _ => by kernel_rfl) (h9.evs rfl) rfl) rfl rfl S10 (Little_any t.ds.length 1 (by omega) (by omega) (by decide) _) fun a11 X11 h11 S11 => ?_
  refine sv h11 (as_val (v' := .string (bs (tbT t 0))) (congrArg _ (by rw [bsA, tbT_0]; rfl)) (ex_sadd (h11.ev rfl) (h11.ev rfl) (by rw [bs_size, bs_size, lit_length, lit_length]; decide))) fun a12 h12 => ?_
  refine ma h12 rfl rfl fun a13 h13 => ?_
  refine st_nil (go_then (st_seq (st_seq (st_reg ?_))))
  refine ma h13 rfl rfl fun a14 h14 => ?_
  refine st_nil (go_then (wp_block ?_))
  refine st_loop h14 S11 [2, 1] (fun (j : Nat) => [(4, .int .i64 (j : Nat)), (3, .string (bs (tbT t j)))]) (fun (j : Nat) => j ≤ t.ts.length) (fun (j : Nat) L => L) (fun (j : Nat) => t.ts.length - j) (0) (Nat.zero_le _) ⟨rfl, rfl, rfl, rfl, trivial⟩ (S11) ?_
  intro j a15 X15 hF0 h15 S15
  refine st_seq (st_seq (st_reg ?_))
  refine mv h15 rfl rfl fun a16 h16 => ?_
  refine vf h16 0 0 rfl rfl rfl fun a17 h17 => ?_
  refine vl h17 S15 0 rfl rfl rfl rfl fun a18 h18 => ?_
  refine sv h18 (ex_len Tryz.underlying22 (h18.ev rfl)) fun a19 h19 => ?_
  refine sv h19 (ex_lss (h19.ev rfl) (h19.ev rfl)) fun a20 h20 => ?_
  refine st_nil (go_then ?_)
  refine st_if (h20.ev rfl) (fun hc0 => ?_) (fun hc0 => ?_)
  ·
   have hlt : j < t.ts.length := by have := of_decide_eq_true hc0; omega
   obtain ⟨b, o, rfl, hB, _⟩ := hr.opened (flat_pos trsL_len (by decide) (by omega))
   have ho := ht.ts j hlt
   have hi := ho.i
   have hlx := ho.l
   have hu := ho.u
   have hb := bit1_bd t.ts[j].c
   have l1j := l1 j
   refine wp_skip (go_then (st_seq (wp_block (st_seq (st_reg ?_)))))
   refine vf h20 0 0 rfl rfl rfl fun a21 h21 => ?_
   refine vl h21 S15 0 rfl rfl rfl rfl fun a22 h22 => ?_
   refine mv h22 rfl rfl fun a23 h23 => ?_
   refine sv h23 (ex_index (i := j) (sz := 4) Tryz.underlying22 (by kernel_rfl) (h23.ev rfl) (h23.ev rfl) (by omega) (by omega) rfl) fun a24 h24 => ?_
   refine sv (v := trnV t.ts[j]) h24 (ex_loads (by kernel_rfl) (by kernel_rfl) (h24.ev rfl) (flatAt trsL_len (S15.rd0 hr) hlt)) fun a25 h25 => ?_
   refine na (.agg #[.int .i64 0, .int .i64 0, .int .i64 0, .bool false]) h25 rfl S15 fun b5 a26 X26 gb5 h26 S26 => ?_
   refine sl_store0 h26 (wn rfl) ⟨rfl, rfl⟩ (h26.ev rfl) (h26.ev rfl) rfl (by kernel_rfl) S26 (i := 0) rfl rfl rfl fun X27 S27 => ?_
   refine st_nil (go_then ?_)
   apply dr_flow h26 [false, false, false, false, false, false, false, false, false, false, false, false, false, false, false, false, false] _ (by kernel_rfl)
   case h =>
    refine qv h26 (fun X hX => ex_move (h26.ev rfl)) fun a28 h28 => ?_
    refine qv h28 (fun X hX => ex_field (off := 0) (j := 0) (by kernel_rfl) (h28.ev rfl) rfl) fun a29 h29 => ?_
    refine qv h29 (fun X hX => ex_load (by kernel_rfl) (h29.ev rfl) ((S27.grow hX).cell (i := 0) rfl rfl)) fun a30 h30 => ?_
    refine sq_bel h30 (wn rfl) rfl rfl (fun X => (ex_call (fun _ _ => by kernel_rfl) (h30.evs rfl) rfl)) (fun X hX => Little_any t.ts[j].i 2 (by omega) (by omega) (by decide) _) fun a31 h31 => ?_
    refine qv h31 (fun X hX => as_val (v' := .string (bs (tbT t j ++ lit t.ts[j].i 2))) (congrArg _ (bsA _ _)) (ex_sadd (h31.ev rfl) (h31.ev rfl) (by rw [bs_size, bs_size, lit_length]; omega))) fun a32 h32 => ?_
    refine qv h32 (fun X hX => ex_field (off := 1) (j := 1) (by kernel_rfl) (h32.ev rfl) rfl) fun a33 h33 => ?_
    refine qv h33 (fun X hX => ex_load (by kernel_rfl) (h33.ev rfl) ((S27.grow hX).cell (i := 0) rfl rfl)) fun a34 h34 => ?_
    refine sq_bel h34 (wn rfl) rfl rfl (fun X => (ex_call (fun _ _ => by kernel_rfl) (h34.evs rfl) rfl)) (fun X hX => Little_any t.ts[j].l 4 (by omega) (by omega) (by decide) _) fun a35 h35 => ?_
    refine qv h35 (fun X hX => as_val (v' := .string (bs (tbT t j ++ lit t.ts[j].i 2 ++ lit t.ts[j].l 4))) (congrArg _ (bsA _ _)) (ex_sadd (h35.ev rfl) (h35.ev rfl) (by rw [bs_size, bs_size, lit_length, List.length_append, lit_length]; omega))) fun a36 h36 => ?_
    refine qv h36 (fun X hX => ex_field (off := 2) (j := 2) (by kernel_rfl) (h36.ev rfl) rfl) fun a37 h37 => ?_
    refine qv h37 (fun X hX => ex_load (by kernel_rfl) (h37.ev rfl) ((S27.grow hX).cell (i := 0) rfl rfl)) fun a38 h38 => ?_
    refine sq_bel h38 (wn rfl) rfl rfl (fun X => (ex_call (fun _ _ => by kernel_rfl) (h38.evs rfl) rfl)) (fun X hX => Little_any t.ts[j].u 4 (by omega) (by omega) (by decide) _) fun a39 h39 => ?_
    refine qv h39 (fun X hX => as_val (v' := .string (bs (tbT t j ++ lit t.ts[j].i 2 ++ lit t.ts[j].l 4 ++ lit t.ts[j].u 4))) (congrArg _ (bsA _ _)) (ex_sadd (h39.ev rfl) (h39.ev rfl) (by rw [bs_size, bs_size]; simp only [List.length_append, lit_length]; omega))) fun a40 h40 => ?_
    refine qv h40 (fun X hX => ex_field (off := 3) (j := 3) (by kernel_rfl) (h40.ev rfl) rfl) fun a41 h41 => ?_
    refine qv h41 (fun X hX => ex_load (by kernel_rfl) (h41.ev rfl) ((S27.grow hX).cell (i := 0) rfl rfl)) fun a42 h42 => ?_
    refine sq_pure h42 (wn rfl) rfl rfl (fun X => (ex_call (fun _ _ => by kernel_rfl) (h42.evs rfl) rfl)) (fun X hX => Bit1_any _ _) fun a43 h43 => ?_
    refine sq_bel h43 (wn rfl) rfl rfl (fun X => (ex_call (fun _ _ => by kernel_rfl) (h43.evs rfl) rfl)) (fun X hX => Little_any (bit1 t.ts[j].c) 1 (by omega) (by omega) (by decide) _) fun a44 h44 => ?_
    refine sq_nil ?_
    refine nd_end fun X45 hX45 hΦ45 => ?_
    have S45 := S27.grow hX45
    refine sv h44 (as_val (v' := .string (bs (tbT t (j + 1)))) (congrArg _ (by rw [bsA, tbT_succ t hlt])) (ex_sadd (h44.ev rfl) (h44.ev rfl) (by rw [bs_size, bs_size]; simp only [List.length_append, lit_length]; omega))) fun a46 h46 => ?_
    refine ma h46 rfl rfl fun a47 h47 => ?_
    refine st_nil (go_block (go_then (st_reg ?_)))
    refine mv h47 rfl rfl fun a48 h48 => ?_
    refine sv h48 (ex_add (h48.ev rfl) (h48.ev rfl) (by omega)) fun a49 h49 => ?_
    refine ma h49 rfl rfl fun a50 h50 => ?_
    refine st_nil (go_then ?_)
    exact ⟨j + 1, (by omega), hlt, h50.re ⟨rfl, rfl, rfl, rfl, trivial⟩, (S45.sub (.cons _ (.cons_cons _ .slnil)))⟩
   case hB => kernel_rfl
   case hst => rfl
  ·
   have hge : t.ts.length ≤ j := by have := of_decide_eq_false hc0; omega
   obtain rfl : j = t.ts.length := by omega
   rw [← tbD_0] at h20
   refine wp_exit ?_
   refine go_exit_then ?_
   refine go_exit_then ?_
   refine go_exit ?_
   refine go_then (st_seq (st_seq (st_reg ?_)))
   refine ma h20 rfl rfl fun a51 h51 => ?_
   refine st_nil (go_then (wp_block ?_))
   refine st_loop h51 S15 [2, 1] (fun (j : Nat) => [(6, .int .i64 (j : Nat)), (3, .string (bs (tbD t j)))]) (fun (j : Nat) => j ≤ t.ds.length) (fun (j : Nat) L => L) (fun (j : Nat) => t.ds.length - j) (0) (Nat.zero_le _) ⟨rfl, rfl, rfl, rfl, trivial⟩ (S15) ?_
   intro j a52 X52 hF1 h52 S52
   refine st_seq (st_seq (st_reg ?_))
   refine mv h52 rfl rfl fun a53 h53 => ?_
   refine vf h53 1 1 rfl rfl rfl fun a54 h54 => ?_
   refine vl h54 S52 0 rfl rfl rfl rfl fun a55 h55 => ?_
   refine sv h55 (ex_len Tryz.underlying23 (h55.ev rfl)) fun a56 h56 => ?_
   refine sv h56 (ex_lss (h56.ev rfl) (h56.ev rfl)) fun a57 h57 => ?_
   refine st_nil (go_then ?_)
   refine st_if (h57.ev rfl) (fun hc1 => ?_) (fun hc1 => ?_)
   ·
    have hlt : j < t.ds.length := by have := of_decide_eq_true hc1; omega
    obtain ⟨b, o, rfl, hB, _⟩ := hs.opened (flat_pos dtyL_len (by decide) (by omega))
    have ho := ht.ds j hlt
    have hg := ho.g
    have hlx := ho.l
    have hb := bit1_bd t.ds[j].f
    have l2j := l2 j
    refine wp_skip (go_then (st_seq (wp_block (st_seq (st_reg ?_)))))
    refine vf h57 1 1 rfl rfl rfl fun a58 h58 => ?_
    refine vl h58 S52 0 rfl rfl rfl rfl fun a59 h59 => ?_
    refine mv h59 rfl rfl fun a60 h60 => ?_
    refine sv h60 (ex_index (i := j) (sz := 3) Tryz.underlying23 (by kernel_rfl) (h60.ev rfl) (h60.ev rfl) (by omega) (by omega) rfl) fun a61 h61 => ?_
    refine sv (v := dtyV t.ds[j]) h61 (ex_loads (by kernel_rfl) (by kernel_rfl) (h61.ev rfl) (flatAt dtyL_len (S52.rd0 hs) hlt)) fun a62 h62 => ?_
    refine na (.agg #[.int .i64 0, .bool false, .int .i64 0]) h62 rfl S52 fun b7 a63 X63 gb7 h63 S63 => ?_
    refine sl_store0 h63 (wn rfl) ⟨rfl, rfl⟩ (h63.ev rfl) (h63.ev rfl) rfl (by kernel_rfl) S63 (i := 0) rfl rfl rfl fun X64 S64 => ?_
    refine st_nil (go_then ?_)
    apply dr_flow h63 [false, false, false, false, false, false, false, false, false, false, false, false, false] _ (by kernel_rfl)
    case h =>
     refine qv h63 (fun X hX => ex_move (h63.ev rfl)) fun a65 h65 => ?_
     refine qv h65 (fun X hX => ex_field (off := 0) (j := 0) (by kernel_rfl) (h65.ev rfl) rfl) fun a66 h66 => ?_
     refine qv h66 (fun X hX => ex_load (by kernel_rfl) (h66.ev rfl) ((S64.grow hX).cell (i := 0) rfl rfl)) fun a67 h67 => ?_
     refine sq_bel h67 (wn rfl) rfl rfl (fun X => (ex_call (fun _ _ => by kernel_rfl) (h67.evs rfl) rfl)) (fun X hX => Little_any t.ds[j].g 2 (by omega) (by omega) (by decide) _) fun a68 h68 => ?_
     refine qv h68 (fun X hX => as_val (v' := .string (bs (tbD t j ++ lit t.ds[j].g 2))) (congrArg _ (bsA _ _)) (ex_sadd (h68.ev rfl) (h68.ev rfl) (by rw [bs_size, bs_size, lit_length]; omega))) fun a69 h69 => ?_
     refine qv h69 (fun X hX => ex_field (off := 1) (j := 1) (by kernel_rfl) (h69.ev rfl) rfl) fun a70 h70 => ?_
     refine qv h70 (fun X hX => ex_load (by kernel_rfl) (h70.ev rfl) ((S64.grow hX).cell (i := 0) rfl rfl)) fun a71 h71 => ?_
     refine sq_pure h71 (wn rfl) rfl rfl (fun X => (ex_call (fun _ _ => by kernel_rfl) (h71.evs rfl) rfl)) (fun X hX => Bit1_any _ _) fun a72 h72 => ?_
     refine sq_bel h72 (wn rfl) rfl rfl (fun X => (ex_call (fun _ _ => by kernel_rfl) (h72.evs rfl) rfl)) (fun X hX => Little_any (bit1 t.ds[j].f) 1 (by omega) (by omega) (by decide) _) fun a73 h73 => ?_
     refine qv h73 (fun X hX => as_val (v' := .string (bs (tbD t j ++ lit t.ds[j].g 2 ++ lit (bit1 t.ds[j].f) 1))) (congrArg _ (bsA _ _)) (ex_sadd (h73.ev rfl) (h73.ev rfl) (by rw [bs_size, bs_size, lit_length, List.length_append, lit_length]; omega))) fun a74 h74 => ?_
     refine qv h74 (fun X hX => ex_field (off := 2) (j := 2) (by kernel_rfl) (h74.ev rfl) rfl) fun a75 h75 => ?_
     refine qv h75 (fun X hX => ex_load (by kernel_rfl) (h75.ev rfl) ((S64.grow hX).cell (i := 0) rfl rfl)) fun a76 h76 => ?_
     refine sq_bel h76 (wn rfl) rfl rfl (fun X => (ex_call (fun _ _ => by kernel_rfl) (h76.evs rfl) rfl)) (fun X hX => Little_any t.ds[j].l 4 (by omega) (by omega) (by decide) _) fun a77 h77 => ?_
     refine sq_nil ?_
     refine nd_end fun X78 hX78 hΦ78 => ?_
     have S78 := S64.grow hX78
     refine sv h77 (as_val (v' := .string (bs (tbD t (j + 1)))) (congrArg _ (by rw [bsA, tbD_succ t hlt])) (ex_sadd (h77.ev rfl) (h77.ev rfl) (by rw [bs_size, bs_size]; simp only [List.length_append, lit_length]; omega))) fun a79 h79 => ?_
     refine ma h79 rfl rfl fun a80 h80 => ?_
     refine st_nil (go_block (go_then (st_reg ?_)))
     refine mv h80 rfl rfl fun a81 h81 => ?_
     refine sv h81 (ex_add (h81.ev rfl) (h81.ev rfl) (by omega)) fun a82 h82 => ?_
     refine ma h82 rfl rfl fun a83 h83 => ?_
     refine st_nil (go_then ?_)
     exact ⟨j + 1, (by omega), hlt, h83.re ⟨rfl, rfl, rfl, rfl, trivial⟩, (S78.sub (.cons _ (.cons_cons _ .slnil)))⟩
    case hB => kernel_rfl
    case hst => rfl
   ·
    have hge : t.ds.length ≤ j := by have := of_decide_eq_false hc1; omega
    obtain rfl : j = t.ds.length := by omega
    refine wp_exit ?_
    refine go_exit_then ?_
    refine go_exit_then ?_
    refine go_exit ?_
    refine go_then (st_seq (st_reg ?_))
    refine mv h57 rfl rfl fun a84 h84 => ?_
    refine ma h84 rfl rfl fun a85 h85 => ?_
    refine st_nil (go_then (wp_ret ?_))
    refine fin1 h85 rfl rfl ?_
    exact ⟨by rw [tbD_end], S52.below⟩
 case hB => kernel_rfl
 case hst => rfl
end Go.Proofs.YtcfdpfmchchkaaaGreatDoor
namespace Go.Proofs.YtcfdpfmchchkaaaGreatDoor
set_option linter.unusedVariables false
set_option linter.unusedSimpArgs false
set_option maxRecDepth 4000
open Go.RowKit Go.Sort Go.Shelf
theorem tofT_app {l : List UInt8} (k : Nat) : (tofT l (k + 1)).flatMap trsL = (tofT l k).flatMap trsL ++ [.int .i64 (nAt l (2 + 11 * k) 2), .int .i64 (nAt l (2 + 11 * k + 2) 4), .int .i64 (nAt l (2 + 11 * k + 6) 4), .bool (nAt l (2 + 11 * k + 10) 1 == 1)] := by
 rw [tofT_succ, List.flatMap_append]; rfl
theorem tofD_app {l : List UInt8} (k : Nat) : (tofD l (k + 1)).flatMap dtyL = (tofD l k).flatMap dtyL ++ [.int .i64 (nAt l (2 + 11 * tofN l + 7 * k) 2), .bool (nAt l (2 + 11 * tofN l + 7 * k + 2) 1 == 1), .int .i64 (nAt l (2 + 11 * tofN l + 7 * k + 3) 4)] := by
 rw [tofD_succ, List.flatMap_append]; rfl
theorem rTableOf_any (l : List UInt8) (w : World) (hl : l.length ≤ 100000) :
 Calls Tryz.prog 19 #[.string (bs l)] w fun e w' => ∃ i : Option Addr × Nat × Option Addr × Nat, e = .returned (.tuple #[tblV (tofR l) i.1 i.2.1 i.2.2.1 i.2.2.2, .int .i64 (tofE l)]) ∧
  St [] w w' [.row (.slice i.1 (tofR l).ts.length i.2.1) (tofR l).ts.length 116 4 ((tofR l).ts.flatMap trsL), .row (.slice i.2.2.1 (tofR l).ds.length i.2.2.2) (tofR l).ds.length 124 3 ((tofR l).ds.flatMap dtyL)] := by
 have hsz : (bs l).size = l.length := bs_size l
 have hN0 := nAt_bd l 0 1
 have hM0 := nAt_bd l 1 1
 have hNi : ((tofN l : Nat) : Int) = nAt l 0 1 := by unfold tofN; omega
 have hMi : ((tofM l : Nat) : Int) = nAt l 1 1 := by unfold tofM; omega
 have hNb : tofN l < 256 := by have := hN0.2; omega
 have hMb : tofM l < 256 := by have := hM0.2; omega
 refine st_enter (N := 118) Tryz.func19 rfl rfl rfl (fun a0 h0 => ?_)
 have S0 := St.init w
 refine st_seq (st_reg ?_)
 refine na (.agg #[.slice none 0 0, .slice none 0 0]) h0 rfl S0 fun b2 a1 X1 gb2 h1 S1 => ?_
 refine ma h1 rfl rfl fun a2 h2 => ?_
 refine nsr ?_
 refine sv h2 (ex_build (zs := [.slice none 0 0, .slice none 0 0]) (pl := [(0, 1), (1, 1)]) (by kernel_rfl) (by kernel_rfl) (h2.evs2 rfl) rfl rfl) fun a3 h3 => ?_
 refine na (.agg #[.slice none 0 0, .slice none 0 0]) h3 rfl S1 fun b4 a4 X4 gb4 h4 S4 => ?_
 refine sl_store0 h4 (wn rfl) ⟨rfl, rfl⟩ (h4.ev rfl) (h4.ev rfl) rfl (by kernel_rfl) S4 (i := 0) rfl rfl rfl fun X5 S5 => ?_
 refine st_nil (go_then (st_seq (st_seq (st_reg ?_))))
 refine mv h4 rfl rfl fun a6 h6 => ?_
 refine sv h6 (ex_slen Tryz.underlying9 (h6.ev rfl)) fun a7 h7 => ?_
 refine sv h7 (ex_lss (h7.ev rfl) (h7.ev rfl)) fun a8 h8 => ?_
 refine st_nil (go_then ?_)
 refine st_if (h8.ev rfl) (fun hc0 => ?_) (fun hc0 => ?_)
 ·
  have hE : tofE l = 10 := by unfold tofE; rw [if_pos (by have := of_decide_eq_true hc0; omega)]
  have hR : tofR l = tbl0 := by unfold tofR; rw [if_neg (by rw [hE]; decide)]
  refine st_seq (st_reg ?_)
  refine sv h8 (ex_loads (by kernel_rfl) (by kernel_rfl) (h8.ev rfl) (S5.cellsAll (i := 0) rfl)) fun a9 h9 => ?_
  refine sl_store0 h9 (wn rfl) ⟨rfl, rfl⟩ (h9.ev rfl) (h9.ev rfl) rfl (by kernel_rfl) S5 (i := 1) rfl rfl rfl fun X10 S10 => ?_
  refine ma h9 rfl rfl fun a11 h11 => ?_
  refine st_nil (go_then (wp_ret (ret_then ?_)))
  refine finct h11 rfl rfl rfl S10 (i := 1) rfl (by kernel_rfl) (by kernel_rfl) ?_
  refine ⟨(none, 0, none, 0), by rw [hR, hE]; rfl, ?_⟩
  rw [hR]
  exact ((S10.sub (List.nil_sublist _)).nilRow 124 3).nilRow 116 4
 ·
  have h2 : 2 ≤ l.length := by have := of_decide_eq_false hc0; omega
  refine wp_skip (go_then (st_seq (st_reg ?_)))
  refine mv h8 rfl rfl fun a12 h12 => ?_
  refine sl_pure h12 (wn rfl) (ex_call (fun _ _ => by kernel_rfl) (h12.evs rfl) rfl) rfl rfl (LitAt_any l 0 1 (by omega) hl (by decide) _) fun a13 h13 => ?_
  rw [← hNi] at h13
  refine mv h13 rfl rfl fun a14 h14 => ?_
  refine sl_pure h14 (wn rfl) (ex_call (fun _ _ => by kernel_rfl) (h14.evs rfl) rfl) rfl rfl (LitAt_any l 1 1 (by omega) hl (by decide) _) fun a15 h15 => ?_
  rw [← hMi] at h15
  refine ma h15 rfl rfl fun a16 h16 => ?_
  refine ma h16 rfl rfl fun a17 h17 => ?_
  refine st_nil (go_then (st_seq (st_seq (st_reg ?_))))
  refine mv h17 rfl rfl fun a18 h18 => ?_
  refine sv h18 (ex_slen Tryz.underlying9 (h18.ev rfl)) fun a19 h19 => ?_
  refine mv h19 rfl rfl fun a20 h20 => ?_
  refine sv h20 (ex_mul (h20.ev rfl) (h20.ev rfl) (by omega)) fun a21 h21 => ?_
  refine sv h21 (ex_add (h21.ev rfl) (h21.ev rfl) (by omega)) fun a22 h22 => ?_
  refine mv h22 rfl rfl fun a23 h23 => ?_
  refine sv h23 (ex_mul (h23.ev rfl) (h23.ev rfl) (by omega)) fun a24 h24 => ?_
  refine sv h24 (ex_add (h24.ev rfl) (h24.ev rfl) (by omega)) fun a25 h25 => ?_
  refine sv h25 (ex_neq (h25.ev rfl) (h25.ev rfl)) fun a26 h26 => ?_
  refine st_nil (go_then ?_)
  refine st_if (h26.ev rfl) (fun hc1 => ?_) (fun hc1 => ?_)
  ·
   have hE : tofE l = 10 := by
    unfold tofE
    rw [if_neg (by omega), if_pos]
    intro q
    rw [hsz, q] at hc1
    simp at hc1
   have hR : tofR l = tbl0 := by unfold tofR; rw [if_neg (by rw [hE]; decide)]
   refine st_seq (st_reg ?_)
   refine sv h26 (ex_loads (by kernel_rfl) (by kernel_rfl) (h26.ev rfl) (S5.cellsAll (i := 0) rfl)) fun a27 h27 => ?_
   refine sl_store0 h27 (wn rfl) ⟨rfl, rfl⟩ (h27.ev rfl) (h27.ev rfl) rfl (by kernel_rfl) S5 (i := 1) rfl rfl rfl fun X28 S28 => ?_
   refine ma h27 rfl rfl fun a29 h29 => ?_
   refine st_nil (go_then (wp_ret (ret_then ?_)))
   refine finct h29 rfl rfl rfl S28 (i := 1) rfl (by kernel_rfl) (by kernel_rfl) ?_
   refine ⟨(none, 0, none, 0), by rw [hR, hE]; rfl, ?_⟩
   rw [hR]
   exact ((S28.sub (List.nil_sublist _)).nilRow 124 3).nilRow 116 4
  ·
   have h3 : l.length = 2 + 11 * tofN l + 7 * tofM l := by
    rw [hsz] at hc1
    simp at hc1
    omega
   refine wp_skip (go_then (st_seq (st_reg ?_)))
   refine na (.agg #[.slice none 0 0, .slice none 0 0]) h26 rfl S5 fun b7 a30 X30 gb7 h30 S30 => ?_
   replace S30 := St.nilRow (St.nilRow S30 124 3) 116 4
   refine nsr ?_
   refine ma h30 rfl rfl fun a31 h31 => ?_
   refine st_nil (go_then (st_seq (st_seq (st_reg ?_))))
   refine ma h31 rfl rfl fun a32 h32 => ?_
   refine st_nil (go_then (wp_block ?_))
   refine st_loop h32 S30 [7, 6, 5, 4, 3, 2, 0] (fun (q : Nat × Option Addr × Nat) => [(9, .int .i64 (q.1 : Nat)), (8, .bool (tofF l q.1))]) (fun (q : Nat × Option Addr × Nat) => q.1 ≤ tofN l) (fun q L => [.row (.slice q.2.1 q.1 q.2.2) q.1 116 4 ((tofT l q.1).flatMap trsL), .row (.slice none 0 0) 0 124 3 [], .box b7 #[.slice q.2.1 q.1 q.2.2, .slice none 0 0] 25, .box b4 #[.slice none 0 0, .slice none 0 0] 25, .box b2 #[.slice none 0 0, .slice none 0 0] 25]) (fun (q : Nat × Option Addr × Nat) => tofN l - q.1) ((0, none, 0)) (Nat.zero_le _) ⟨rfl, rfl, rfl, rfl, rfl, rfl, rfl, rfl, rfl, trivial⟩ (S30) ?_
   intro q a33 X33 hF0 h33 S33
   refine st_seq (st_seq (st_reg ?_))
   refine mv h33 rfl rfl fun a34 h34 => ?_
   refine mv h34 rfl rfl fun a35 h35 => ?_
   refine sv h35 (ex_lss (h35.ev rfl) (h35.ev rfl)) fun a36 h36 => ?_
   refine st_nil (go_then ?_)
   refine st_if (h36.ev rfl) (fun hc2 => ?_) (fun hc2 => ?_)
   ·
    have hlt : q.1 < tofN l := by have := of_decide_eq_true hc2; omega
    refine wp_skip (go_then (st_seq (wp_block (st_seq (st_reg ?_)))))
    refine mv h36 rfl rfl fun a37 h37 => ?_
    refine sv h37 (ex_mul (h37.ev rfl) (h37.ev rfl) (by omega)) fun a38 h38 => ?_
    refine sv h38 (as_val (v' := .int .i64 ((2 + 11 * q.1 : Nat) : Int)) (congrArg _ (by omega)) (ex_add (h38.ev rfl) (h38.ev rfl) (by omega))) fun a39 h39 => ?_
    refine ma h39 rfl rfl fun a40 h40 => ?_
    refine nsr ?_
    refine mv h40 rfl rfl fun a41 h41 => ?_
    refine mv h41 rfl rfl fun a42 h42 => ?_
    apply sl_and (x := decide (nAt l (2 + 11 * q.1 + 10) 1 ≤ 1)) h42 S33 42 rfl 6 48
    case ht =>
     intro gc42
     refine sy h42 rfl rfl rfl gc42 (ex_move (h42.ev rfl)) rfl rfl fun a43 h43 => ?_
     refine sy h43 rfl rfl rfl gc42 (ex_move (h43.ev rfl)) rfl rfl fun a44 h44 => ?_
     refine sy h44 rfl rfl rfl gc42 (as_val (v' := .int .i64 ((2 + 11 * q.1 + 10 : Nat) : Int)) (congrArg _ (by omega)) (ex_add (h44.ev rfl) (h44.ev rfl) (by omega))) rfl rfl fun a45 h45 => ?_
     refine sl_pure h45 (wanted_yes h45 _ rfl rfl rfl gc42) (ex_call (fun _ _ => by kernel_rfl) (h45.evs rfl) rfl) rfl rfl (LitAt_any l (2 + 11 * q.1 + 10) 1 (by omega) hl (by decide) _) fun a46 h46 => ?_
     refine sy h46 rfl rfl rfl gc42 (ex_leq (h46.ev rfl) (h46.ev rfl)) rfl rfl fun a47 h47 => ?_
     refine sv h47 (ex_pick_t (h47.ev rfl) gc42 (h47.ev rfl)) fun a48 h48 => ?_
     exact st_nil ⟨h48.mid (m := [(_, _), (_, _), (_, _), (_, _), (_, _)]) rfl, S33⟩
    case hf =>
     intro gc42
     refine no h42 rfl rfl rfl gc42 rfl rfl fun a49 h49 => ?_
     refine no h49 rfl rfl rfl gc42 rfl rfl fun a50 h50 => ?_
     refine no h50 rfl rfl rfl gc42 rfl rfl fun a51 h51 => ?_
     refine no h51 rfl rfl rfl gc42 rfl rfl fun a52 h52 => ?_
     refine no h52 rfl rfl rfl gc42 rfl rfl fun a53 h53 => ?_
     refine sv h53 (ex_pick_f (h53.ev rfl) gc42 (h53.ev rfl)) fun a54 h54 => ?_
     exact st_nil ⟨h54.mid (m := [(_, _), (_, _), (_, _), (_, _), (_, _)]) rfl, S33⟩
    case h =>
     rintro a55 X55 ⟨h55, S55⟩
     rw [← tofF_succ] at h55
     refine ma h55 rfl rfl fun a56 h56 => ?_
     refine st_nil (go_then ?_)
     apply dr_flow h56 [false, false, false, false, false, false, false, false, false, false, false, false, false, false, false, false, false, false, false, true] _ (by kernel_rfl)
     case h =>
      refine qv h56 (fun X hX => ex_field (off := 0) (j := 0) (by kernel_rfl) (h56.ev rfl) rfl) fun a57 h57 => ?_
      refine qv h57 (fun X hX => ex_load (by kernel_rfl) (h57.ev rfl) ((S55.grow hX).cell (i := 2) rfl rfl)) fun a58 h58 => ?_
      refine qv h58 (fun X hX => ex_move (h58.ev rfl)) fun a59 h59 => ?_
      refine qv h59 (fun X hX => ex_move (h59.ev rfl)) fun a60 h60 => ?_
      refine sq_pure h60 (wn rfl) rfl rfl (fun X => (ex_call (fun _ _ => by kernel_rfl) (h60.evs rfl) rfl)) (fun X hX => LitAt_any l (2 + 11 * q.1) 2 (by omega) hl (by decide) _) fun a61 h61 => ?_
      refine qv h61 (fun X hX => ex_move (h61.ev rfl)) fun a62 h62 => ?_
      refine qv h62 (fun X hX => ex_move (h62.ev rfl)) fun a63 h63 => ?_
      refine qv h63 (fun X hX => as_val (v' := .int .i64 ((2 + 11 * q.1 + 2 : Nat) : Int)) (congrArg _ (by omega)) (ex_add (h63.ev rfl) (h63.ev rfl) (by omega))) fun a64 h64 => ?_
      refine sq_pure h64 (wn rfl) rfl rfl (fun X => (ex_call (fun _ _ => by kernel_rfl) (h64.evs rfl) rfl)) (fun X hX => LitAt_any l (2 + 11 * q.1 + 2) 4 (by omega) hl (by decide) _) fun a65 h65 => ?_
      refine qv h65 (fun X hX => ex_move (h65.ev rfl)) fun a66 h66 => ?_
      refine qv h66 (fun X hX => ex_move (h66.ev rfl)) fun a67 h67 => ?_
      refine qv h67 (fun X hX => as_val (v' := .int .i64 ((2 + 11 * q.1 + 6 : Nat) : Int)) (congrArg _ (by omega)) (ex_add (h67.ev rfl) (h67.ev rfl) (by omega))) fun a68 h68 => ?_
      refine sq_pure h68 (wn rfl) rfl rfl (fun X => (ex_call (fun _ _ => by kernel_rfl) (h68.evs rfl) rfl)) (fun X hX => LitAt_any l (2 + 11 * q.1 + 6) 4 (by omega) hl (by decide) _) fun a69 h69 => ?_
      refine qv h69 (fun X hX => ex_move (h69.ev rfl)) fun a70 h70 => ?_
      refine qv h70 (fun X hX => ex_move (h70.ev rfl)) fun a71 h71 => ?_
      refine qv h71 (fun X hX => as_val (v' := .int .i64 ((2 + 11 * q.1 + 10 : Nat) : Int)) (congrArg _ (by omega)) (ex_add (h71.ev rfl) (h71.ev rfl) (by omega))) fun a72 h72 => ?_
      refine sq_pure h72 (wn rfl) rfl rfl (fun X => (ex_call (fun _ _ => by kernel_rfl) (h72.evs rfl) rfl)) (fun X hX => LitAt_any l (2 + 11 * q.1 + 10) 1 (by omega) hl (by decide) _) fun a73 h73 => ?_
      refine qv h73 (fun X hX => ex_eql (h73.ev rfl) (h73.ev rfl)) fun a74 h74 => ?_
      refine qv h74 (fun X hX => ex_build (zs := [.int .i64 0, .int .i64 0, .int .i64 0, .bool false]) (pl := [(0, 1), (1, 1), (2, 1), (3, 1)]) (by kernel_rfl) (by kernel_rfl) (h74.evs2 rfl) rfl rfl) fun a75 h75 => ?_
      refine sq_nil ?_
      apply nd_step (k := 19) (deps := []) (R := NewB _ (fun b => .slice (some ⟨b, 0, none⟩) 1 1) _ _) h75 rfl rfl rfl NewB.stable (fun X hX hΦ => lv_new (ex_bslice2 (zc := [.int .i64 0, .int .i64 0, .int .i64 0, .bool false]) (sz := 4) rfl Tryz.underlying22 (by kernel_rfl) (by kernel_rfl) rfl rfl rfl (h75.evs2 rfl) rfl rfl rfl) hX.size)
      intro v68 a76 h76
      refine nd_end fun X77 hX77 hΦ77 => ?_
      have S77 := S55.grow hX77
      have qv68 := told_all hΦ77 (k := 19) rfl
      obtain ⟨b68, rfl, gb68, qv68⟩ := qv68
      have S78 := S55.add hX77 (e := .box _ _ _) qv68 (fun b hb => by cases hb; exact ⟨gb68, Box.lt qv68⟩)
      refine sl_append (z := .agg #[.int .i64 0, .int .i64 0, .int .i64 0, .bool false]) (sz := 4) (bytes := 32) h76 (wn rfl) ⟨rfl, rfl⟩ rfl Tryz.underlying22 (by kernel_rfl) rfl rfl (h76.ev rfl) (h76.ev rfl) S78 (i := 1) rfl (S78.boxRd (i := 0) rfl) rfl (List.all_eq_true.1 rfl) ⟨(by omega), by decide⟩ fun A69 c69 a79 X79 h79 S79 => ?_
      refine vf h79 0 0 rfl rfl rfl fun a80 h80 => ?_
      refine sl_store h80 (wn rfl) ⟨rfl, rfl⟩ (h80.ev rfl) (h80.ev rfl) rfl (by kernel_rfl) S79 (i := 3) rfl rfl rfl fun X81 S81 => ?_
      refine st_nil (go_block (go_then (st_reg ?_)))
      refine mv h80 rfl rfl fun a82 h82 => ?_
      refine sv h82 (ex_add (h82.ev rfl) (h82.ev rfl) (by omega)) fun a83 h83 => ?_
      refine ma h83 rfl rfl fun a84 h84 => ?_
      refine st_nil (go_then ?_)
      exact ⟨(q.1 + 1, A69, c69), (by show tofN l - (q.1 + 1) < tofN l - q.1; omega), hlt, h84.re ⟨rfl, rfl, rfl, rfl, rfl, rfl, rfl, rfl, rfl, trivial⟩, (by show St [] w _ [.row _ _ _ _ ((tofT l (q.1 + 1)).flatMap trsL), _, _, _, _]; rw [tofT_app]; exact (S81.sub (.cons _ (.cons_cons _ (.cons_cons _ (.cons_cons _ (.cons_cons _ (.cons_cons _ .slnil))))))))⟩
     case hB => kernel_rfl
     case hst => rfl
   ·
    obtain ⟨n1, A1, c1⟩ := q
    obtain rfl : n1 = tofN l := by have h8 := of_decide_eq_false hc2; have h9 : n1 ≤ tofN l := hF0; change ¬ ((n1 : Int) < _) at h8; omega
    have hG0 : tofF l (tofN l) = (tofF l (tofN l) && tofG l 0) := by rw [show tofG l 0 = true from rfl, Bool.and_true]
    replace h36 := h36.also (t := 8) (v := .bool (tofF l (tofN l) && tofG l 0)) (by rw [← hG0]; rfl)
    refine wp_exit ?_
    refine go_exit_then ?_
    refine go_exit_then ?_
    refine go_exit ?_
    refine go_then (st_seq (st_seq (st_reg ?_)))
    refine ma h36 rfl rfl fun a85 h85 => ?_
    refine st_nil (go_then (wp_block ?_))
    refine st_loop h85 S33 [7, 6, 5, 4, 3, 2, 0] (fun (q : Nat × Option Addr × Nat) => [(11, .int .i64 (q.1 : Nat)), (8, .bool (tofF l (tofN l) && tofG l q.1))]) (fun (q : Nat × Option Addr × Nat) => q.1 ≤ tofM l) (fun q L => [.row (.slice A1 (tofN l) c1) (tofN l) 116 4 ((tofT l (tofN l)).flatMap trsL), .row (.slice q.2.1 q.1 q.2.2) q.1 124 3 ((tofD l q.1).flatMap dtyL), .box b7 #[.slice A1 (tofN l) c1, .slice q.2.1 q.1 q.2.2] 25, .box b4 #[.slice none 0 0, .slice none 0 0] 25, .box b2 #[.slice none 0 0, .slice none 0 0] 25]) (fun (q : Nat × Option Addr × Nat) => tofM l - q.1) ((0, none, 0)) (Nat.zero_le _) ⟨rfl, rfl, rfl, rfl, rfl, rfl, rfl, rfl, rfl, trivial⟩ (S33) ?_
    intro q a86 X86 hF1 h86 S86
    refine st_seq (st_seq (st_reg ?_))
    refine mv h86 rfl rfl fun a87 h87 => ?_
    refine mv h87 rfl rfl fun a88 h88 => ?_
    refine sv h88 (ex_lss (h88.ev rfl) (h88.ev rfl)) fun a89 h89 => ?_
    refine st_nil (go_then ?_)
    refine st_if (h89.ev rfl) (fun hc3 => ?_) (fun hc3 => ?_)
    ·
     have hlt : q.1 < tofM l := by have := of_decide_eq_true hc3; omega
     refine wp_skip (go_then (st_seq (wp_block (st_seq (st_reg ?_)))))
     refine mv h89 rfl rfl fun a90 h90 => ?_
     refine sv h90 (ex_mul (h90.ev rfl) (h90.ev rfl) (by omega)) fun a91 h91 => ?_
     refine sv h91 (as_val (v' := .int .i64 ((2 + 11 * tofN l : Nat) : Int)) (congrArg _ (by omega)) (ex_add (h91.ev rfl) (h91.ev rfl) (by omega))) fun a92 h92 => ?_
     refine mv h92 rfl rfl fun a93 h93 => ?_
     refine sv h93 (ex_mul (h93.ev rfl) (h93.ev rfl) (by omega)) fun a94 h94 => ?_
     refine sv h94 (as_val (v' := .int .i64 ((2 + 11 * tofN l + 7 * q.1 : Nat) : Int)) (congrArg _ (by omega)) (ex_add (h94.ev rfl) (h94.ev rfl) (by omega))) fun a95 h95 => ?_
     refine ma h95 rfl rfl fun a96 h96 => ?_
     refine nsr ?_
     refine mv h96 rfl rfl fun a97 h97 => ?_
     refine mv h97 rfl rfl fun a98 h98 => ?_
     apply sl_and (x := decide (nAt l (2 + 11 * tofN l + 7 * q.1 + 2) 1 ≤ 1)) h98 S86 83 rfl 6 89
     case ht =>
      intro gc83
      refine sy h98 rfl rfl rfl gc83 (ex_move (h98.ev rfl)) rfl rfl fun a99 h99 => ?_
      refine sy h99 rfl rfl rfl gc83 (ex_move (h99.ev rfl)) rfl rfl fun a100 h100 => ?_
      refine sy h100 rfl rfl rfl gc83 (as_val (v' := .int .i64 ((2 + 11 * tofN l + 7 * q.1 + 2 : Nat) : Int)) (congrArg _ (by omega)) (ex_add (h100.ev rfl) (h100.ev rfl) (by omega))) rfl rfl fun a101 h101 => ?_
      refine sl_pure h101 (wanted_yes h101 _ rfl rfl rfl gc83) (ex_call (fun _ _ => by kernel_rfl) (h101.evs rfl) rfl) rfl rfl (LitAt_any l (2 + 11 * tofN l + 7 * q.1 + 2) 1 (by omega) hl (by decide) _) fun a102 h102 => ?_
      refine sy h102 rfl rfl rfl gc83 (ex_leq (h102.ev rfl) (h102.ev rfl)) rfl rfl fun a103 h103 => ?_
      refine sv h103 (ex_pick_t (h103.ev rfl) gc83 (h103.ev rfl)) fun a104 h104 => ?_
      exact st_nil ⟨h104.mid (m := [(_, _), (_, _), (_, _), (_, _), (_, _)]) rfl, S86⟩
     case hf =>
      intro gc83
      refine no h98 rfl rfl rfl gc83 rfl rfl fun a105 h105 => ?_
      refine no h105 rfl rfl rfl gc83 rfl rfl fun a106 h106 => ?_
      refine no h106 rfl rfl rfl gc83 rfl rfl fun a107 h107 => ?_
      refine no h107 rfl rfl rfl gc83 rfl rfl fun a108 h108 => ?_
      refine no h108 rfl rfl rfl gc83 rfl rfl fun a109 h109 => ?_
      refine sv h109 (ex_pick_f (h109.ev rfl) gc83 (h109.ev rfl)) fun a110 h110 => ?_
      exact st_nil ⟨h110.mid (m := [(_, _), (_, _), (_, _), (_, _), (_, _)]) rfl, S86⟩
     case h =>
      rintro a111 X111 ⟨h111, S111⟩
      rw [Bool.and_assoc, ← tofG_succ] at h111
      refine ma h111 rfl rfl fun a112 h112 => ?_
      refine st_nil (go_then ?_)
      apply dr_flow h112 [false, false, false, false, false, false, false, false, false, false, false, false, false, false, false, true] _ (by kernel_rfl)
      case h =>
       refine qv h112 (fun X hX => ex_field (off := 1) (j := 1) (by kernel_rfl) (h112.ev rfl) rfl) fun a113 h113 => ?_
       refine qv h113 (fun X hX => ex_load (by kernel_rfl) (h113.ev rfl) ((S111.grow hX).cell (i := 2) rfl rfl)) fun a114 h114 => ?_
       refine qv h114 (fun X hX => ex_move (h114.ev rfl)) fun a115 h115 => ?_
       refine qv h115 (fun X hX => ex_move (h115.ev rfl)) fun a116 h116 => ?_
       refine sq_pure h116 (wn rfl) rfl rfl (fun X => (ex_call (fun _ _ => by kernel_rfl) (h116.evs rfl) rfl)) (fun X hX => LitAt_any l (2 + 11 * tofN l + 7 * q.1) 2 (by omega) hl (by decide) _) fun a117 h117 => ?_
       refine qv h117 (fun X hX => ex_move (h117.ev rfl)) fun a118 h118 => ?_
       refine qv h118 (fun X hX => ex_move (h118.ev rfl)) fun a119 h119 => ?_
       refine qv h119 (fun X hX => as_val (v' := .int .i64 ((2 + 11 * tofN l + 7 * q.1 + 2 : Nat) : Int)) (congrArg _ (by omega)) (ex_add (h119.ev rfl) (h119.ev rfl) (by omega))) fun a120 h120 => ?_
       refine sq_pure h120 (wn rfl) rfl rfl (fun X => (ex_call (fun _ _ => by kernel_rfl) (h120.evs rfl) rfl)) (fun X hX => LitAt_any l (2 + 11 * tofN l + 7 * q.1 + 2) 1 (by omega) hl (by decide) _) fun a121 h121 => ?_
       refine qv h121 (fun X hX => ex_eql (h121.ev rfl) (h121.ev rfl)) fun a122 h122 => ?_
       refine qv h122 (fun X hX => ex_move (h122.ev rfl)) fun a123 h123 => ?_
       refine qv h123 (fun X hX => ex_move (h123.ev rfl)) fun a124 h124 => ?_
       refine qv h124 (fun X hX => as_val (v' := .int .i64 ((2 + 11 * tofN l + 7 * q.1 + 3 : Nat) : Int)) (congrArg _ (by omega)) (ex_add (h124.ev rfl) (h124.ev rfl) (by omega))) fun a125 h125 => ?_
       refine sq_pure h125 (wn rfl) rfl rfl (fun X => (ex_call (fun _ _ => by kernel_rfl) (h125.evs rfl) rfl)) (fun X hX => LitAt_any l (2 + 11 * tofN l + 7 * q.1 + 3) 4 (by omega) hl (by decide) _) fun a126 h126 => ?_
       refine qv h126 (fun X hX => ex_build (zs := [.int .i64 0, .bool false, .int .i64 0]) (pl := [(0, 1), (1, 1), (2, 1)]) (by kernel_rfl) (by kernel_rfl) (h126.evs2 rfl) rfl rfl) fun a127 h127 => ?_
       refine sq_nil ?_
       apply nd_step (k := 15) (deps := []) (R := NewB _ (fun b => .slice (some ⟨b, 0, none⟩) 1 1) _ _) h127 rfl rfl rfl NewB.stable (fun X hX hΦ => lv_new (ex_bslice2 (zc := [.int .i64 0, .bool false, .int .i64 0]) (sz := 3) rfl Tryz.underlying23 (by kernel_rfl) (by kernel_rfl) rfl rfl rfl (h127.evs2 rfl) rfl rfl rfl) hX.size)
       intro v105 a128 h128
       refine nd_end fun X129 hX129 hΦ129 => ?_
       have S129 := S111.grow hX129
       have qv105 := told_all hΦ129 (k := 15) rfl
       obtain ⟨b105, rfl, gb105, qv105⟩ := qv105
       have S130 := S111.add hX129 (e := .box _ _ _) qv105 (fun b hb => by cases hb; exact ⟨gb105, Box.lt qv105⟩)
       refine sl_append (z := .agg #[.int .i64 0, .bool false, .int .i64 0]) (sz := 3) (bytes := 24) h128 (wn rfl) ⟨rfl, rfl⟩ rfl Tryz.underlying23 (by kernel_rfl) rfl rfl (h128.ev rfl) (h128.ev rfl) S130 (i := 2) rfl (S130.boxRd (i := 0) rfl) rfl (List.all_eq_true.1 rfl) ⟨(by omega), by decide⟩ fun A106 c106 a131 X131 h131 S131 => ?_
       refine vf h131 1 1 rfl rfl rfl fun a132 h132 => ?_
       refine sl_store h132 (wn rfl) ⟨rfl, rfl⟩ (h132.ev rfl) (h132.ev rfl) rfl (by kernel_rfl) S131 (i := 3) rfl rfl rfl fun X133 S133 => ?_
       refine st_nil (go_block (go_then (st_reg ?_)))
       refine mv h132 rfl rfl fun a134 h134 => ?_
       refine sv h134 (ex_add (h134.ev rfl) (h134.ev rfl) (by omega)) fun a135 h135 => ?_
       refine ma h135 rfl rfl fun a136 h136 => ?_
       refine st_nil (go_then ?_)
       exact ⟨(q.1 + 1, A106, c106), (by show tofM l - (q.1 + 1) < tofM l - q.1; omega), hlt, h136.re ⟨rfl, rfl, rfl, rfl, rfl, rfl, rfl, rfl, rfl, trivial⟩, (by show St [] w _ [_, .row _ _ _ _ ((tofD l (q.1 + 1)).flatMap dtyL), _, _, _]; rw [tofD_app]; exact (S133.sub (.cons _ (.cons_cons _ (.cons_cons _ (.cons_cons _ (.cons_cons _ (.cons_cons _ .slnil))))))))⟩
      case hB => kernel_rfl
      case hst => rfl
    ·
     obtain ⟨n2, A2, c2⟩ := q
     obtain rfl : n2 = tofM l := by have h8 := of_decide_eq_false hc3; have h9 : n2 ≤ tofM l := hF1; change ¬ ((n2 : Int) < _) at h8; omega
     have eT : (tofV l).ts.length = tofN l := by show (tofT l (tofN l)).length = _; unfold tofT; simp
     have eD : (tofV l).ds.length = tofM l := by show (tofD l (tofM l)).length = _; unfold tofD; simp
     replace S86 : St [] w X86 [.row (.slice A1 (tofV l).ts.length c1) (tofV l).ts.length 116 4 ((tofV l).ts.flatMap trsL), .row (.slice A2 (tofV l).ds.length c2) (tofV l).ds.length 124 3 ((tofV l).ds.flatMap dtyL), .box b7 #[.slice A1 (tofV l).ts.length c1, .slice A2 (tofV l).ds.length c2] 25, .box b4 #[.slice none 0 0, .slice none 0 0] 25, .box b2 #[.slice none 0 0, .slice none 0 0] 25] := by
      rw [eT, eD]; exact S86
     refine wp_exit ?_
     refine go_exit_then ?_
     refine go_exit_then ?_
     refine go_exit ?_
     refine go_then (st_seq (st_seq (st_reg ?_)))
     refine mv h89 rfl rfl fun a137 h137 => ?_
     refine sv h137 (ex_not (h137.ev rfl)) fun a138 h138 => ?_
     refine st_nil (go_then ?_)
     refine st_if (h138.ev rfl) (fun hc4 => ?_) (fun hc4 => ?_)
     ·
      have hE : tofE l = 3 := by
       unfold tofE
       rw [if_neg (by omega), if_neg (by omega), show (tofF l (tofN l) && tofG l (tofM l)) = false by cases q1 : (tofF l (tofN l) && tofG l (tofM l)) with
        | false => rfl
        | true => rw [q1] at hc4; cases hc4]; rfl
      have hR : tofR l = tbl0 := by unfold tofR; rw [if_neg (by rw [hE]; decide)]
      refine st_seq (st_reg ?_)
      refine sv h138 (ex_loads (by kernel_rfl) (by kernel_rfl) (h138.ev rfl) (S86.cellsAll (i := 3) rfl)) fun a139 h139 => ?_
      refine sl_store0 h139 (wn rfl) ⟨rfl, rfl⟩ (h139.ev rfl) (h139.ev rfl) rfl (by kernel_rfl) S86 (i := 4) rfl rfl rfl fun X140 S140 => ?_
      refine ma h139 rfl rfl fun a141 h141 => ?_
      refine st_nil (go_then (wp_ret (ret_then ?_)))
      refine finct h141 rfl rfl rfl S140 (i := 4) rfl (by kernel_rfl) (by kernel_rfl) ?_
      refine ⟨(none, 0, none, 0), by rw [hR, hE]; rfl, ?_⟩
      rw [hR]
      exact ((S140.sub (List.nil_sublist _)).nilRow 124 3).nilRow 116 4
     ·
      have hFG : (tofF l (tofN l) && tofG l (tofM l)) = true := by simpa using hc4
      have hE : tofE l = tblE (tofV l) := by
       unfold tofE
       rw [if_neg (by omega), if_neg (by omega), hFG]
       show (if (0 : Int) = 0 then (if tblE (tofV l) = 0 then 0 else tblE (tofV l)) else 0) = _
       rw [if_pos rfl]
       split <;> omega
      refine wp_skip (go_then (st_seq (st_seq (st_reg ?_))))
      refine sv (v := tblV (tofV l) A1 c1 A2 c2) h138 (ex_loads (by kernel_rfl) (by kernel_rfl) (h138.ev rfl) (S86.cellsAll (i := 2) rfl)) fun a142 h142 => ?_
      refine sl_bel h142 (wn rfl) (ex_call (fun _ _ => by kernel_rfl) (h142.evs rfl) rfl) rfl rfl S86 (rTableErr_any (tofV l) A1 c1 A2 c2 _ (S86.rdOf (i := 0) rfl) (S86.rdOf (i := 1) rfl)) fun a143 X143 h143 S143 => ?_
      refine ma h143 rfl rfl fun a144 h144 => ?_
      refine nsr ?_
      refine mv h144 rfl rfl fun a145 h145 => ?_
      refine sv h145 (ex_neq (h145.ev rfl) (h145.ev rfl)) fun a146 h146 => ?_
      refine st_nil (go_then ?_)
      refine st_if (h146.ev rfl) (fun hc5 => ?_) (fun hc5 => ?_)
      ·
       have hne : tofE l ≠ 0 := by rw [hE]; simpa using hc5
       have hR : tofR l = tbl0 := by unfold tofR; rw [if_neg hne]
       refine st_seq (st_reg ?_)
       refine sv h146 (ex_loads (by kernel_rfl) (by kernel_rfl) (h146.ev rfl) (S143.cellsAll (i := 3) rfl)) fun a147 h147 => ?_
       refine mv h147 rfl rfl fun a148 h148 => ?_
       refine sl_store0 h148 (wn rfl) ⟨rfl, rfl⟩ (h148.ev rfl) (h148.ev rfl) rfl (by kernel_rfl) S143 (i := 4) rfl rfl rfl fun X149 S149 => ?_
       refine ma h148 rfl rfl fun a150 h150 => ?_
       refine st_nil (go_then (wp_ret (ret_then ?_)))
       refine finct h150 rfl rfl rfl S149 (i := 4) rfl (by kernel_rfl) (by kernel_rfl) ?_
       refine ⟨(none, 0, none, 0), by rw [hR, hE]; rfl, ?_⟩
       rw [hR]
       exact ((S149.sub (List.nil_sublist _)).nilRow 124 3).nilRow 116 4
      ·
       have hz : tofE l = 0 := by rw [hE]; simpa using hc5
       have hR : tofR l = tofV l := by unfold tofR; rw [if_pos hz]
       refine wp_skip (go_then (st_seq (st_reg ?_)))
       refine sv h146 (ex_loads (by kernel_rfl) (by kernel_rfl) (h146.ev rfl) (S143.cellsAll (i := 2) rfl)) fun a151 h151 => ?_
       refine sl_store0 h151 (wn rfl) ⟨rfl, rfl⟩ (h151.ev rfl) (h151.ev rfl) rfl (by kernel_rfl) S143 (i := 4) rfl rfl rfl fun X152 S152 => ?_
       refine ma h151 rfl rfl fun a153 h153 => ?_
       refine st_nil (go_then (wp_ret ?_))
       refine finct h153 rfl rfl rfl S152 (i := 4) rfl (by kernel_rfl) (by kernel_rfl) ?_
       refine ⟨(A1, c1, A2, c2), by rw [hR, hz]; rfl, ?_⟩
       rw [hR]
       exact (S152.sub (.cons_cons _ (.cons_cons _ (.cons _ (.cons _ (.cons _ .slnil))))))
end Go.Proofs.YtcfdpfmchchkaaaGreatDoor
