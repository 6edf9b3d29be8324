/-
  Chapter 20: the statements' limits.
-/
import Derived.Test.YtmlilplbdpjfcaaGreatDoorRg28
import Derived.Test.YtmlilplbdpjfcaaGreatDoorArgA
namespace Go.Proofs.YtmlilplbdpjfcaaGreatDoor
set_option linter.unusedVariables false
set_option linter.unusedSimpArgs false
set_option maxRecDepth 4000
open Go.RowKit Go.Sort
theorem ex_addw {P : Program} {ρ : Operand → Value} {X : World} {d : Option Tmp} {ty : TypeId} {ps : String} {af : Array Edge} {g : Option (Nat × Bool)} {x y : Operand} {t t' : TypeId} {m n : Int} (hx : ρ x = .int .i64 m) (hy : ρ y = .int .i64 n) : (execOp ρ ⟨d, .binOp .add t x y t', ty, ps, af, g⟩).run P X = .ok (.value (.int .i64 (IntKind.i64.wrap (m + n)))) X := by
 simp [execOp, hx, hy, eqGuard, binOp, Op.intArith]
def fewS (r : RngP) : Nat → Int
 | 0 => 0
 | k + 1 => IntKind.i64.wrap (fewS r k + (match r.rs[k]? with | some x => (x.b.size : Int) | none => 0))
theorem fewS_succ {r : RngP} {k : Nat} (h : k < r.rs.length) : fewS r (k + 1) = IntKind.i64.wrap (fewS r k + (r.rs[k].b.size : Int)) := by
 rw [fewS, List.getElem?_eq_getElem h]
def fewL (r : RngP) : Bool := (decide ((r.rs.length : Int) > 20) && decide ((r.rs.length : Int) ≤ 100)) || decide ((r.rs.length : Int) > 102)
def fewB (r : RngP) : Bool := !fewL r && decide (fewS r r.rs.length ≤ 12000)
theorem few_len {r : RngP} (h : fewB r = true) : r.rs.length ≤ 20 ∨ (101 ≤ r.rs.length ∧ r.rs.length ≤ 102) := by
 unfold fewB fewL at h
 simp only [Bool.and_eq_true, Bool.not_eq_true', Bool.or_eq_false_iff, Bool.and_eq_false_iff, decide_eq_false_iff_not] at h
 omega
theorem few_le {r : RngP} (h : fewB r = true) : r.rs.length ≤ 1000 := by have := few_len h; omega
theorem Few_any (r : RngP) (A : Option Addr) (c : Nat) (w : World) (hr : Rd w w.heap.size A (recsV r.rs)) :
 Calls Tryz.prog 12 #[ringV r A c] w fun e w' => e = .returned (.bool (fewB r)) ∧ Below w.heap.size w w' := by
 refine st_enter (N := 39) Tryz.func12 rfl rfl rfl (fun a0 h0 => ?_)
 have S0 := St.init w
 refine st_seq (st_reg ?_)
 refine nb h0 rfl rfl S0 fun b1 a1 X1 gb1 h1 S1 => ?_
 refine ma h1 rfl rfl fun a2 h2 => ?_
 refine st_nil (go_then (st_seq (st_seq (st_reg ?_))))
 refine vf h2 7 7 rfl rfl rfl fun a3 h3 => ?_
 refine vl h3 S1 0 rfl rfl rfl rfl fun a4 h4 => ?_
 refine sv h4 (ex_len Tryz.underlying24 (h4.ev rfl)) fun a5 h5 => ?_
 refine sv h5 (ex_gtr (h5.ev rfl) (h5.ev rfl)) fun a6 h6 => ?_
 refine mv h6 rfl rfl fun a7 h7 => ?_
 apply sl_and h7 S1 9 rfl 5 14
 case ht =>
  intro gc9
  refine sy h7 rfl rfl rfl gc9 (ex_field (off := 7) (j := 7) (by kernel_rfl) (h7.ev rfl) rfl) rfl rfl fun a8 h8 => ?_
  refine sy h8 rfl rfl rfl gc9 (ex_load (by kernel_rfl) (h8.ev rfl) (S1.cell (i := 0) rfl rfl)) rfl rfl fun a9 h9 => ?_
  refine sy h9 rfl rfl rfl gc9 (ex_len Tryz.underlying24 (h9.ev rfl)) rfl rfl fun a10 h10 => ?_
  refine sy h10 rfl rfl rfl gc9 (ex_leq (h10.ev rfl) (h10.ev rfl)) rfl rfl fun a11 h11 => ?_
  refine sv h11 (ex_pick_t (h11.ev rfl) gc9 (h11.ev rfl)) fun a12 h12 => ?_
  exact st_nil ⟨h12.mid (m := [(_, _), (_, _), (_, _), (_, _)]) rfl, S1⟩
 case hf =>
  intro gc9
  refine no h7 rfl rfl rfl gc9 rfl rfl fun a13 h13 => ?_
  refine no h13 rfl rfl rfl gc9 rfl rfl fun a14 h14 => ?_
  refine no h14 rfl rfl rfl gc9 rfl rfl fun a15 h15 => ?_
  refine no h15 rfl rfl rfl gc9 rfl rfl fun a16 h16 => ?_
  refine sv h16 (ex_pick_f (h16.ev rfl) gc9 (h16.ev rfl)) fun a17 h17 => ?_
  exact st_nil ⟨h17.mid (m := [(_, _), (_, _), (_, _), (_, _)]) rfl, S1⟩
 case h =>
  rintro a18 X18 ⟨h18, S18⟩
  refine mv h18 rfl rfl fun a19 h19 => ?_
  apply sl_or h19 S18 15 rfl 5 20
  case hf =>
   intro gc15
   refine sy h19 rfl rfl rfl gc15 (ex_field (off := 7) (j := 7) (by kernel_rfl) (h19.ev rfl) rfl) rfl rfl fun a20 h20 => ?_
   refine sy h20 rfl rfl rfl gc15 (ex_load (by kernel_rfl) (h20.ev rfl) (S18.cell (i := 0) rfl rfl)) rfl rfl fun a21 h21 => ?_
   refine sy h21 rfl rfl rfl gc15 (ex_len Tryz.underlying24 (h21.ev rfl)) rfl rfl fun a22 h22 => ?_
   refine sy h22 rfl rfl rfl gc15 (ex_gtr (h22.ev rfl) (h22.ev rfl)) rfl rfl fun a23 h23 => ?_
   refine sv h23 (ex_pick_f (h23.ev rfl) gc15 (h23.ev rfl)) fun a24 h24 => ?_
   exact st_nil ⟨h24.mid (m := [(_, _), (_, _), (_, _), (_, _)]) rfl, S18⟩
  case ht =>
   intro gc15
   refine no h19 rfl rfl rfl gc15 rfl rfl fun a25 h25 => ?_
   refine no h25 rfl rfl rfl gc15 rfl rfl fun a26 h26 => ?_
   refine no h26 rfl rfl rfl gc15 rfl rfl fun a27 h27 => ?_
   refine no h27 rfl rfl rfl gc15 rfl rfl fun a28 h28 => ?_
   refine sv h28 (ex_pick_t (h28.ev rfl) gc15 (h28.ev rfl)) fun a29 h29 => ?_
   exact st_nil ⟨h29.mid (m := [(_, _), (_, _), (_, _), (_, _)]) rfl, S18⟩
  case h =>
   rintro a30 X30 ⟨h30, S30⟩
   refine st_nil (go_then ?_)
   refine st_if (h30.ev rfl) (fun hc0 => ?_) (fun hc0 => ?_)
   ·
    have hL : fewL r = true := hc0
    refine st_seq (st_reg ?_)
    refine ma h30 rfl rfl fun a31 h31 => ?_
    refine st_nil (go_then (wp_ret (ret_then ?_)))
    refine fin1 h31 rfl rfl ?_
    refine ⟨?_, S30.below⟩
    unfold fewB; rw [hL]; rfl
   ·
    have hL : fewL r = false := hc0
    have hlen : r.rs.length ≤ 102 := by
     unfold fewL at hL
     simp only [Bool.or_eq_false_iff, decide_eq_false_iff_not] at hL
     omega
    refine wp_skip (go_then (st_seq (st_reg ?_)))
    refine ma h30 rfl rfl fun a32 h32 => ?_
    refine st_nil (go_then (st_seq (st_seq (st_reg ?_))))
    refine ma h32 rfl rfl fun a33 h33 => ?_
    refine st_nil (go_then (wp_block ?_))
    refine st_loop h33 S30 [2, 1] (fun (k : Nat) => [(4, .int .i64 (k : Int)), (3, .int .i64 (fewS r k))]) (fun (k : Nat) => k ≤ r.rs.length) (fun (k : Nat) L => L) (fun (k : Nat) => r.rs.length - k) (0) (Nat.zero_le _) ⟨rfl, rfl, rfl, rfl, trivial⟩ (S30) ?_
    intro k a34 X34 hF0 h34 S34
    refine st_seq (st_seq (st_reg ?_))
    refine mv h34 rfl rfl fun a35 h35 => ?_
    refine vf h35 7 7 rfl rfl rfl fun a36 h36 => ?_
    refine vl h36 S34 0 rfl rfl rfl rfl fun a37 h37 => ?_
    refine sv h37 (ex_len Tryz.underlying24 (h37.ev rfl)) fun a38 h38 => ?_
    refine sv h38 (ex_lss (h38.ev rfl) (h38.ev rfl)) fun a39 h39 => ?_
    refine st_nil (go_then ?_)
    refine st_if (h39.ev rfl) (fun hc1 => ?_) (fun hc1 => ?_)
    ·
     have hlt : k < r.rs.length := by have := of_decide_eq_true hc1; omega
     obtain ⟨b, o, rfl, _⟩ := hr.opened (by rw [recsV_length]; omega)
     refine wp_skip (go_then (st_seq (wp_block (st_reg ?_))))
     refine mv h39 rfl rfl fun a40 h40 => ?_
     refine vf h40 7 7 rfl rfl rfl fun a41 h41 => ?_
     refine vl h41 S34 0 rfl rfl rfl rfl fun a42 h42 => ?_
     refine mv h42 rfl rfl fun a43 h43 => ?_
     refine sv h43 (ex_index (i := k) (sz := 3) Tryz.underlying24 (by kernel_rfl) (h43.ev rfl) (h43.ev rfl) (by omega) (by omega) rfl) fun a44 h44 => ?_
     refine sv h44 (ex_field (off := 2) (by kernel_rfl) (h44.ev rfl) rfl) fun a45 h45 => ?_
     refine sv h45 (ex_load (by kernel_rfl) (h45.ev rfl) ((recAt (S34.rd0 hr) hlt) 2 _ rfl)) fun a46 h46 => ?_
     refine sv h46 (ex_slen Tryz.underlying9 (h46.ev rfl)) fun a47 h47 => ?_
     refine sv h47 (as_val (v' := .int .i64 (fewS r (k + 1))) (by rw [fewS_succ hlt]) (ex_addw (h47.ev rfl) (h47.ev rfl))) fun a48 h48 => ?_
     refine ma h48 rfl rfl fun a49 h49 => ?_
     refine st_nil (go_block (go_then (st_reg ?_)))
     refine mv h49 rfl rfl fun a50 h50 => ?_
     refine sv h50 (ex_add (h50.ev rfl) (h50.ev rfl) (by omega)) fun a51 h51 => ?_
     refine ma h51 rfl rfl fun a52 h52 => ?_
     refine st_nil (go_then ?_)
     exact ⟨k + 1, (by omega), hlt, h52.re ⟨rfl, rfl, rfl, rfl, trivial⟩, S34⟩
    ·
     have hge : k = r.rs.length := by have := of_decide_eq_false hc1; omega
     refine wp_exit ?_
     refine go_exit_then ?_
     refine go_exit_then ?_
     refine go_exit ?_
     refine go_then (st_seq (st_reg ?_))
     refine mv h39 rfl rfl fun a53 h53 => ?_
     refine sv h53 (ex_leq (h53.ev rfl) (h53.ev rfl)) fun a54 h54 => ?_
     refine ma h54 rfl rfl fun a55 h55 => ?_
     refine st_nil (go_then (wp_ret ?_))
     refine fin1 h55 rfl rfl ?_
     refine ⟨?_, S34.below⟩
     unfold fewB; rw [hL, hge]; rfl
end Go.Proofs.YtmlilplbdpjfcaaGreatDoor
