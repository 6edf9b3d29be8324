/-
  Chapter 20: the reference's reading: a page that is right, bytes of the stream, a standing record.
-/
import Derived.Test.YtmlilplbdpjfcaaGreatDoorRg26
namespace Go.Proofs.YtmlilplbdpjfcaaGreatDoor
set_option linter.unusedVariables false
set_option linter.unusedSimpArgs false
set_option maxRecDepth 4000
open Go.RowKit Go.Sort
theorem rPageOf_any (q pg : Nat) (hpg : 4 ≤ pg ∧ pg ≤ 1000000) (hq : q < 4294967296) (w : World) : Calls Tryz.prog 98 #[.int .i64 q, .int .i64 pg] w fun e w' => e = .returned (.int .i64 ((2 + q % (pg - 2) : Nat) : Int)) ∧ w = w' := by
 have hm := Nat.mod_lt q (show 0 < pg - 2 by omega)
 have e1 : (q : Int) % ((pg : Int) - 2) = ((q % (pg - 2) : Nat) : Int) := by rw [show ((pg : Int) - 2) = ((pg - 2 : Nat) : Int) by omega]; exact (Int.natCast_emod _ _).symm
 refine st_enter (N := 10) Tryz.func98 rfl rfl rfl (fun a0 h0 => ?_)
 have S0 := St.init w
 refine st_seq (st_reg ?_)
 refine ma h0 rfl rfl fun a1 h1 => ?_
 refine st_nil (go_then (st_seq (st_reg ?_)))
 refine mv h1 rfl rfl fun a2 h2 => ?_
 refine mv h2 rfl rfl fun a3 h3 => ?_
 refine sv h3 (ex_sub (h3.ev rfl) (h3.ev rfl) (by omega)) fun a4 h4 => ?_
 refine sv h4 (as_val (v' := .int .i64 ((q % (pg - 2) : Nat) : Int)) (congrArg _ e1) (ex_rem (h4.ev rfl) (h4.ev rfl) (by omega))) fun a5 h5 => ?_
 refine sv h5 (ex_add (h5.ev rfl) (h5.ev rfl) (by omega)) fun a6 h6 => ?_
 refine ma h6 rfl rfl fun a7 h7 => ?_
 refine st_nil (go_then (wp_ret ?_))
 refine fin1 h7 rfl rfl ?_
 exact ⟨rfl, rfl⟩
theorem rUsn_any (q s pg : Int) (hq : 0 ≤ q ∧ q < 4294967296) (hs : 0 ≤ s ∧ s < 4294967296) (hpg : 4 ≤ pg ∧ pg ≤ 1000000) (w : World) : Calls Tryz.prog 102 #[.int .i64 q, .int .i64 s, .int .i64 pg] w fun e w' => e = .returned (.int .i64 (usnP q s pg)) ∧ w = w' := by
 have h1 : 0 ≤ q / (pg - 2) := Int.ediv_nonneg hq.1 (by omega)
 have h2 : q / (pg - 2) ≤ q := Int.ediv_le_self _ hq.1
 refine st_enter (N := 15) Tryz.func102 rfl rfl rfl (fun a0 h0 => ?_)
 have S0 := St.init w
 refine st_seq (st_reg ?_)
 refine ma h0 rfl rfl fun a1 h1 => ?_
 refine st_nil (go_then (st_seq (st_reg ?_)))
 refine mv h1 rfl rfl fun a2 h2 => ?_
 refine mv h2 rfl rfl fun a3 h3 => ?_
 refine sv h3 (ex_sub (h3.ev rfl) (h3.ev rfl) (by omega)) fun a4 h4 => ?_
 refine sv h4 (ex_quo (h4.ev rfl) (h4.ev rfl) (by omega)) fun a5 h5 => ?_
 refine mv h5 rfl rfl fun a6 h6 => ?_
 refine sv h6 (ex_add (h6.ev rfl) (h6.ev rfl) (by omega)) fun a7 h7 => ?_
 refine sv h7 (ex_rem (h7.ev rfl) (h7.ev rfl) (by omega)) fun a8 h8 => ?_
 refine sv h8 (ex_add (h8.ev rfl) (h8.ev rfl) (by omega)) fun a9 h9 => ?_
 refine ma h9 rfl rfl fun a10 h10 => ?_
 refine st_nil (go_then (wp_ret ?_))
 refine fin1 h10 rfl rfl ?_
 exact ⟨rfl, rfl⟩
attribute [local irreducible] nAt opL opB
end Go.Proofs.YtmlilplbdpjfcaaGreatDoor
