/-
  Chapter 16, plain: what a child inherits.
  Chapter 16: what an entry hands on: the program's heir; the reference's small functions.
  Chapter 16: the reference's canonical order.
  Chapter 16: what the reference hands on.
-/
import Derived.Test.YtanicpgmbhfipaaGreatDoorAcG
import Derived.Test.YtanicpgmbhfipaaGreatDoorAcH
import Derived.Test.YtanicpgmbhfipaaGreatDoorSplD
namespace Go.Proofs.YtanicpgmbhfipaaGreatDoor
set_option linter.unusedVariables false
set_option linter.unusedSimpArgs false
open Go.RowKit
def hlr (w o g : Int) : Int := if w = 2 then o else if w = 3 then g else w
def hflG (dir : Bool) (n : Int) : Int × Bool :=
 if dir = false then (16, bits .and .i64 n 1 != 0)
 else if (bits .and .i64 n 2 != 0 && bits .and .i64 n 4 != 0) = true then (16, true)
 else if (bits .and .i64 n 2 != 0) = true then (bits .or .i64 16 (bits .and .i64 n 3), true)
 else if (bits .and .i64 n 1 != 0 && bits .and .i64 n 4 == 0) = true then (25, true)
 else (0, false)
def inhG (dir : Bool) (o g : Int) (a : AceP) : List AceP :=
 if (hflG dir a.f).2 = false then []
 else if (!(a.w == 2 || a.w == 3) || bits .and .i64 (hflG dir a.f).1 8 != 0) = true then [⟨a.k, (hflG dir a.f).1, a.m, a.w⟩]
 else if (hflG dir a.f).1 = 16 then [⟨a.k, 16, a.m, if a.w = 3 then g else o⟩]
 else [⟨a.k, 16, a.m, if a.w = 3 then g else o⟩, ⟨a.k, bits .or .i64 (hflG dir a.f).1 8, a.m, a.w⟩]
def onR (f : Int) : Int := (if (bitI f 0 && !bitI f 2) = true then 1 else 0) + (if (bitI f 1 && !bitI f 2) = true then 2 else 0)
def inhR (dir : Bool) (o g : Int) (a : AceP) : List AceP :=
 if dir = false then (if bitI a.f 0 = true then [⟨a.k, 16, a.m, hlr a.w o g⟩] else [])
 else if bitI a.f 1 = true then
  (if (hlr a.w o g == a.w || onR a.f == 0) = true then [⟨a.k, 16 + onR a.f, a.m, hlr a.w o g⟩] else [⟨a.k, 16, a.m, hlr a.w o g⟩, ⟨a.k, 16 + onR a.f + 8, a.m, a.w⟩])
 else if (bitI a.f 0 && !bitI a.f 2) = true then [⟨a.k, 16 + 1 + 8, a.m, a.w⟩] else []
theorem hfl_all : ∀ f : Fin 32, hflG false (f.val : Int) = (16, bitI (f.val : Int) 0) ∧
 hflG true (f.val : Int) = (if bitI (f.val : Int) 1 = true then (16 + onR (f.val : Int), true) else if (bitI (f.val : Int) 0 && !bitI (f.val : Int) 2) = true then (25, true) else (0, false)) ∧
 0 ≤ onR (f.val : Int) ∧ onR (f.val : Int) ≤ 3 := by decide +kernel
theorem on_all : ∀ n : Fin 4, (bits .and .i64 (16 + (n.val : Int)) 8 != 0) = false ∧ bits .or .i64 (16 + (n.val : Int)) 8 = 16 + (n.val : Int) + 8 := by decide +kernel
theorem inh_eq (dir : Bool) {o g : Int} (a : AceP) (h0 : 0 ≤ a.f) (h1 : a.f ≤ 31) (ho : hldB o = true) (hg : hldB g = true) : inhG dir o g a = inhR dir o g a := by
 obtain ⟨k, f, m, w⟩ := a
 dsimp only at h0 h1
 obtain ⟨n, rfl⟩ := Int.eq_ofNat_of_zero_le h0
 obtain ⟨q1, q2, q3, q4⟩ := hfl_all ⟨n, by omega⟩
 dsimp only at q1 q2 q3 q4
 have h23 : ∀ x, hldB x = true → x ≠ 2 ∧ x ≠ 3 := fun x hx => by
  unfold hldB inB at hx
  constructor <;> rintro rfl <;> simp at hx
 obtain ⟨o2, o3⟩ := h23 o ho
 obtain ⟨g2, g3⟩ := h23 g hg
 have hw : (if w = 3 then g else o) = hlr w o g ∨ ¬ (w = 2 ∨ w = 3) := by
  unfold hlr
  by_cases e2 : w = 2
  · left; rw [if_pos e2, if_neg (by omega)]
  · by_cases e3 : w = 3
    · left; rw [if_pos e3, if_neg e2, if_pos e3]
    · right; omega
 have hc : (w == 2 || w == 3) = true → hlr w o g ≠ w ∧ (if w = 3 then g else o) = hlr w o g := fun h => by
  have h' : w = 2 ∨ w = 3 := by simpa using h
  rcases hw with e | e
  · refine ⟨?_, e⟩
    rcases h' with rfl | rfl
    · unfold hlr; rw [if_pos rfl]; exact o2
    · unfold hlr; rw [if_neg (by decide), if_pos rfl]; exact g3
  · exact absurd h' e
 have hnc : (w == 2 || w == 3) = false → hlr w o g = w := fun h => by
  have h' : w ≠ 2 ∧ w ≠ 3 := by simpa using h
  unfold hlr
  rw [if_neg h'.1, if_neg h'.2]
 unfold inhG inhR
 dsimp only
 have k8 : (bits .and .i64 (16 : Int) 8 != 0) = false := by decide +kernel
 have k25 : (bits .and .i64 (25 : Int) 8 != 0) = true := by decide +kernel
 cases dir with
 | false =>
  rw [q1, if_pos (show false = false from rfl)]
  dsimp only
  cases bitI (n : Int) 0 with
  | false => rfl
  | true =>
   rw [if_neg (by decide), if_pos (show true = true from rfl), k8]
   cases hcr : (w == 2 || w == 3) with
   | false => rw [hnc hcr]; rfl
   | true => rw [← (hc hcr).2]; rfl
 | true =>
  rw [q2, if_neg (show ¬ true = false by decide)]
  cases bitI (n : Int) 1 with
  | true =>
   obtain ⟨u, hu⟩ := Int.eq_ofNat_of_zero_le q3
   obtain ⟨a1, a2⟩ := on_all ⟨u, by omega⟩
   dsimp only at a1 a2
   rw [if_pos (show true = true from rfl), if_pos (show true = true from rfl), hu]
   dsimp only
   rw [if_neg (show ¬ true = false by decide), a1, Bool.or_false]
   cases hcr : (w == 2 || w == 3) with
   | false => rw [if_pos (by rfl), hnc hcr, if_pos (by simp)]
   | true =>
    rw [if_neg (by decide)]
    obtain ⟨c1, c2⟩ := hc hcr
    have e0 : (hlr w o g == w) = false := by simpa using c1
    rw [e0, Bool.false_or, a2, c2]
    by_cases hz : (u : Int) = 0
    · rw [if_pos (by omega), if_pos (by rw [hz]; rfl), hz]; rfl
    · rw [if_neg (by omega), if_neg (by simpa using hz)]
  | false =>
   have f1 : ∀ {α : Type} (x y : α), (if false = true then x else y) = y := fun x y => rfl
   rw [f1, f1]
   cases (bitI (n : Int) 0 && !bitI (n : Int) 2) with
   | true =>
    rw [if_pos (show true = true from rfl), if_pos (show true = true from rfl)]
    dsimp only
    rw [if_neg (show ¬ true = false by decide), k25, Bool.or_true]
    rfl
   | false => rfl
theorem inhR_len (dir : Bool) (o g : Int) (a : AceP) : (inhR dir o g a).length ≤ 2 := by
 unfold inhR
 repeat' split
 all_goals simp
def inhL (dir : Bool) (o g : Int) (l : List AceP) : List AceP := l.flatMap (inhR dir o g)
theorem inhL_len (dir : Bool) (o g : Int) (l : List AceP) : (inhL dir o g l).length ≤ 2 * l.length := by
 unfold inhL
 induction l with
 | nil => simp
 | cons a l ih => rw [List.flatMap_cons, List.length_append, List.length_cons]; have := inhR_len dir o g a; omega
theorem inhL_take {dir : Bool} {o g : Int} {l : List AceP} {k : Nat} (h : k < l.length) : inhL dir o g (l.take (k + 1)) = inhL dir o g (l.take k) ++ inhR dir o g l[k] := by
 unfold inhL
 rw [List.take_succ_eq_append_getElem h, List.flatMap_append]
 simp
end Go.Proofs.YtanicpgmbhfipaaGreatDoor
namespace Go.Proofs.YtanicpgmbhfipaaGreatDoor
set_option linter.unusedVariables false
set_option linter.unusedSimpArgs false
set_option maxRecDepth 4000
open Go.RowKit Go.Sort Go.Shelf
def heirV (dir : Bool) (o g : Int) : Value := .agg #[.bool dir, .int .i64 o, .int .i64 g]
theorem flags_any (dir : Bool) (o g n : Int) (w : World) : Calls Tryz.prog 160 #[heirV dir o g, .int .i64 n] w fun e w' => e = .returned (.tuple #[.int .i64 (hflG dir n).1, .bool (hflG dir n).2]) ∧ Below w.heap.size w w' := by
 refine st_enter (N := 38) Tryz.func160 rfl rfl rfl (fun a0 h0 => ?_)
 have S0 := St.init w
 refine st_seq (st_reg ?_)
 refine nb h0 rfl rfl S0 fun b2 a1 X1 gb2 h1 S1 => ?_
 refine ma h1 fun a2 h2 => ?_
 refine ma h2 fun a3 h3 => ?_
 refine st_nil (go_then (st_seq (wp_block (st_seq (st_reg ?_)))))
 refine vf h3 0 0 fun a4 h4 => ?_
 refine vl h4 S1 0 fun a5 h5 => ?_
 refine sv h5 (ex_not (h5.ev rfl)) fun a6 h6 => ?_
 refine ma h6 fun a7 h7 => ?_
 refine st_nil (go_then ?_)
 refine st_if (h7.ev rfl) (fun hc0 => ?_) (fun hc0 => ?_)
 ·
  have hd : dir = false := by simpa using hc0
  refine st_seq (st_reg ?_)
  refine mv h7 fun a8 h8 => ?_
  refine sv h8 (ex_bits (r := bits .and .i64 n 1) rfl (h8.ev rfl) (h8.ev rfl) rfl) fun a9 h9 => ?_
  refine sv h9 (ex_neq (h9.ev rfl) (h9.ev rfl)) fun a10 h10 => ?_
  refine maa h10 fun a12 h12 => ?_
  refine st_nil (go_then (wp_ret (ret_block (ret_then ?_))))
  refine fin2 h12 rfl rfl rfl ?_
  exact ⟨by unfold hflG; rw [if_pos hd], S1.below⟩
 ·
  have hd : ¬ dir = false := by simpa using hc0
  refine st_seq (st_reg ?_)
  refine mv h7 fun a13 h13 => ?_
  refine sv h13 (ex_bits (r := bits .and .i64 n 2) rfl (h13.ev rfl) (h13.ev rfl) rfl) fun a14 h14 => ?_
  refine sv h14 (ex_neq (h14.ev rfl) (h14.ev rfl)) fun a15 h15 => ?_
  refine mv h15 fun a16 h16 => ?_
  apply sl_and h16 S1 17 rfl 4 21
  case ht =>
   intro gc17
   refine sy h16 (ex_move (h16.ev rfl)) fun a17 h17 => ?_
   refine sy h17 (ex_bits (r := bits .and .i64 n 4) rfl (h17.ev rfl) (h17.ev rfl) rfl) fun a18 h18 => ?_
   refine sy h18 (ex_neq (h18.ev rfl) (h18.ev rfl)) fun a19 h19 => ?_
   refine sv h19 (ex_pick_t (h19.ev rfl) gc17 (h19.ev rfl)) fun a20 h20 => ?_
   exact st_nil ⟨h20.mid (m := [(_, _), (_, _), (_, _)]) rfl, S1⟩
  case hf =>
   intro gc17
   refine no h16 fun a21 h21 => ?_
   refine no h21 fun a22 h22 => ?_
   refine no h22 fun a23 h23 => ?_
   refine sv h23 (ex_pick_f (h23.ev rfl) gc17 (h23.ev rfl)) fun a24 h24 => ?_
   exact st_nil ⟨h24.mid (m := [(_, _), (_, _), (_, _)]) rfl, S1⟩
  case h =>
   rintro a25 X25 ⟨h25, S25⟩
   refine ma h25 fun a26 h26 => ?_
   refine st_nil (go_then ?_)
   refine st_if (h26.ev rfl) (fun hc1 => ?_) (fun hc1 => ?_)
   ·
    refine st_seq (st_reg ?_)
    refine maa h26 fun a28 h28 => ?_
    refine st_nil (go_then (wp_ret (ret_block (ret_then ?_))))
    refine fin2 h28 rfl rfl rfl ?_
    exact ⟨by unfold hflG; rw [if_neg hd, if_pos hc1], S25.below⟩
   ·
    have h1 : ¬ (bits .and .i64 n 2 != 0 && bits .and .i64 n 4 != 0) = true := by rw [hc1]; decide
    refine st_seq (st_reg ?_)
    refine mv h26 fun a29 h29 => ?_
    refine sv h29 (ex_bits (r := bits .and .i64 n 2) rfl (h29.ev rfl) (h29.ev rfl) rfl) fun a30 h30 => ?_
    refine sv h30 (ex_neq (h30.ev rfl) (h30.ev rfl)) fun a31 h31 => ?_
    refine ma h31 fun a32 h32 => ?_
    refine st_nil (go_then ?_)
    refine st_if (h32.ev rfl) (fun hc2 => ?_) (fun hc2 => ?_)
    ·
     refine st_seq (st_reg ?_)
     refine mv h32 fun a33 h33 => ?_
     refine sv h33 (ex_bits (r := bits .and .i64 n 3) rfl (h33.ev rfl) (h33.ev rfl) rfl) fun a34 h34 => ?_
     refine sv h34 (ex_bits (r := bits .or .i64 16 (bits .and .i64 n 3)) rfl (h34.ev rfl) (h34.ev rfl) rfl) fun a35 h35 => ?_
     refine maa h35 fun a37 h37 => ?_
     refine st_nil (go_then (wp_ret (ret_block (ret_then ?_))))
     refine fin2 h37 rfl rfl rfl ?_
     exact ⟨by unfold hflG; rw [if_neg hd, if_neg h1, if_pos hc2], S25.below⟩
    ·
     have h2 : ¬ (bits .and .i64 n 2 != 0) = true := by rw [hc2]; decide
     refine st_seq (st_reg ?_)
     refine mv h32 fun a38 h38 => ?_
     refine sv h38 (ex_bits (r := bits .and .i64 n 1) rfl (h38.ev rfl) (h38.ev rfl) rfl) fun a39 h39 => ?_
     refine sv h39 (ex_neq (h39.ev rfl) (h39.ev rfl)) fun a40 h40 => ?_
     refine mv h40 fun a41 h41 => ?_
     apply sl_and h41 S25 33 rfl 4 37
     case ht =>
      intro gc33
      refine sy h41 (ex_move (h41.ev rfl)) fun a42 h42 => ?_
      refine sy h42 (ex_bits (r := bits .and .i64 n 4) rfl (h42.ev rfl) (h42.ev rfl) rfl) fun a43 h43 => ?_
      refine sy h43 (ex_eql (h43.ev rfl) (h43.ev rfl)) fun a44 h44 => ?_
      refine sv h44 (ex_pick_t (h44.ev rfl) gc33 (h44.ev rfl)) fun a45 h45 => ?_
      exact st_nil ⟨h45.mid (m := [(_, _), (_, _), (_, _)]) rfl, S25⟩
     case hf =>
      intro gc33
      refine no h41 fun a46 h46 => ?_
      refine no h46 fun a47 h47 => ?_
      refine no h47 fun a48 h48 => ?_
      refine sv h48 (ex_pick_f (h48.ev rfl) gc33 (h48.ev rfl)) fun a49 h49 => ?_
      exact st_nil ⟨h49.mid (m := [(_, _), (_, _), (_, _)]) rfl, S25⟩
     case h =>
      rintro a50 X50 ⟨h50, S50⟩
      refine ma h50 fun a51 h51 => ?_
      refine st_nil (go_then ?_)
      refine st_if (h51.ev rfl) (fun hc3 => ?_) (fun hc3 => ?_)
      ·
       refine st_seq (st_reg ?_)
       refine maa h51 fun a53 h53 => ?_
       refine st_nil (go_then (wp_ret (ret_block (ret_then ?_))))
       refine fin2 h53 rfl rfl rfl ?_
       exact ⟨by unfold hflG; rw [if_neg hd, if_neg h1, if_neg h2, if_pos hc3], S50.below⟩
      ·
       refine wp_skip (go_block (go_then (st_seq (st_reg ?_))))
       refine maa h51 fun a55 h55 => ?_
       refine st_nil (go_then (wp_ret ?_))
       refine fin2 h55 rfl rfl rfl ?_
       have h3 : ¬ (bits .and .i64 n 1 != 0 && bits .and .i64 n 4 == 0) = true := by rw [hc3]; decide
       exact ⟨by unfold hflG; rw [if_neg hd, if_neg h1, if_neg h2, if_neg h3], S50.below⟩
theorem holder_any (x o g : Int) (w : World) : Calls Tryz.prog 136 #[.int .i64 x, .int .i64 o, .int .i64 g] w fun e w' => e = .returned (.int .i64 (hlr x o g)) ∧ w = w' := by
 refine st_enter (N := 14) Tryz.func136 rfl rfl rfl (fun a0 h0 => ?_)
 have S0 := St.init w
 refine st_seq (st_reg ?_)
 refine ma h0 fun a1 h1 => ?_
 refine st_nil (go_then (st_seq (st_seq (st_reg ?_))))
 refine mv h1 fun a2 h2 => ?_
 refine sv h2 (ex_eql (h2.ev rfl) (h2.ev rfl)) fun a3 h3 => ?_
 refine st_nil (go_then ?_)
 refine st_if (h3.ev rfl) (fun hc0 => ?_) (fun hc0 => ?_)
 ·
  refine st_seq (st_reg ?_)
  refine mva h3 fun a5 h5 => ?_
  refine st_nil (go_then (wp_ret (ret_then ?_)))
  refine fin1 h5 rfl rfl ?_
  have h : x = 2 := by simpa using hc0
  exact ⟨by unfold hlr; rw [if_pos h], rfl⟩
 ·
  refine wp_skip (go_then (st_seq (st_seq (st_reg ?_))))
  refine mv h3 fun a6 h6 => ?_
  refine sv h6 (ex_eql (h6.ev rfl) (h6.ev rfl)) fun a7 h7 => ?_
  refine st_nil (go_then ?_)
  refine st_if (h7.ev rfl) (fun hc1 => ?_) (fun hc1 => ?_)
  ·
   refine st_seq (st_reg ?_)
   refine mva h7 fun a9 h9 => ?_
   refine st_nil (go_then (wp_ret (ret_then ?_)))
   refine fin1 h9 rfl rfl ?_
   have h : ¬ x = 2 := by simpa using hc0
   have h2 : x = 3 := by simpa using hc1
   exact ⟨by unfold hlr; rw [if_neg h, if_pos h2], rfl⟩
  ·
   refine wp_skip (go_then (st_seq (st_reg ?_)))
   refine mva h7 fun a11 h11 => ?_
   refine st_nil (go_then (wp_ret ?_))
   refine fin1 h11 rfl rfl ?_
   have h : ¬ x = 2 := by simpa using hc0
   have h2 : ¬ x = 3 := by simpa using hc1
   exact ⟨by unfold hlr; rw [if_neg h, if_neg h2], rfl⟩
theorem refRank_any (a : AceP) (w : World) (f0 : 0 ≤ a.f) (f1 : a.f ≤ 31) : Calls Tryz.prog 137 #[aceU a] w fun e w' => e = .returned (.int .i64 (rankA a)) ∧ Below w.heap.size w w' := by
 refine st_enter (N := 13) Tryz.func137 rfl rfl rfl (fun a0 h0 => ?_)
 have S0 := St.init w
 refine st_seq (st_reg ?_)
 refine nb h0 rfl rfl S0 fun b1 a1 X1 gb1 h1 S1 => ?_
 refine ma h1 fun a2 h2 => ?_
 refine nsr ?_
 refine ma h2 fun a3 h3 => ?_
 refine st_nil (go_then (st_seq (st_seq (st_reg ?_))))
 refine vf h3 0 0 fun a4 h4 => ?_
 refine vl h4 S1 0 fun a5 h5 => ?_
 refine sv h5 (ex_eql (h5.ev rfl) (h5.ev rfl)) fun a6 h6 => ?_
 refine st_nil (go_then ?_)
 refine st_if (h6.ev rfl) (fun hc0 => ?_) (fun hc0 => ?_)
 ·
  have hk : a.k = 1 := by simpa using hc0
  refine st_reg ?_
  refine ma h6 fun a7 h7 => ?_
  refine st_nil (go_then (st_seq (st_seq (st_reg ?_))))
  refine vf h7 1 1 fun a8 h8 => ?_
  refine vl h8 S1 0 fun a9 h9 => ?_
  refine sl_pure h9 (wn rfl) (ex_call (fun _ _ => by kernel_rfl) (h9.evs rfl) rfl) rfl rfl (refHas_any a.f 16 _ f0 (by omega) (by decide) (by decide)) fun a10 h10 => ?_
  refine st_nil (go_then ?_)
  refine st_if (h10.ev rfl) (fun hc1 => ?_) (fun hc1 => ?_)
  ·
   have hf : bitI a.f 4 = true := hc1
   refine st_reg ?_
   refine mv h10 fun a11 h11 => ?_
   refine sv h11 (ex_add (h11.ev rfl) (h11.ev rfl) (by omega)) fun a12 h12 => ?_
   refine ma h12 fun a13 h13 => ?_
   refine nsr ?_
   refine mva h13 fun a15 h15 => ?_
   refine st_nil (go_then (wp_ret ?_))
   refine fin1 h15 rfl rfl ?_
   exact ⟨by unfold rankA; rw [if_pos hk, if_pos hf]; (try rfl), S1.below⟩
  ·
   have hf : ¬ bitI a.f 4 = true := by rw [show bitI a.f 4 = false from hc1]; decide
   refine wp_skip (go_then (st_seq (st_reg ?_)))
   refine mva h10 fun a17 h17 => ?_
   refine st_nil (go_then (wp_ret ?_))
   refine fin1 h17 rfl rfl ?_
   exact ⟨by unfold rankA; rw [if_pos hk, if_neg hf]; (try rfl), S1.below⟩
 ·
  have hk : ¬ a.k = 1 := by simpa using hc0
  refine wp_skip (go_then (st_seq (st_seq (st_reg ?_))))
  refine vf h6 1 1 fun a18 h18 => ?_
  refine vl h18 S1 0 fun a19 h19 => ?_
  refine sl_pure h19 (wn rfl) (ex_call (fun _ _ => by kernel_rfl) (h19.evs rfl) rfl) rfl rfl (refHas_any a.f 16 _ f0 (by omega) (by decide) (by decide)) fun a20 h20 => ?_
  refine st_nil (go_then ?_)
  refine st_if (h20.ev rfl) (fun hc1 => ?_) (fun hc1 => ?_)
  ·
   have hf : bitI a.f 4 = true := hc1
   refine st_reg ?_
   refine mv h20 fun a21 h21 => ?_
   refine sv h21 (ex_add (h21.ev rfl) (h21.ev rfl) (by omega)) fun a22 h22 => ?_
   refine ma h22 fun a23 h23 => ?_
   refine nsr ?_
   refine mva h23 fun a25 h25 => ?_
   refine st_nil (go_then (wp_ret ?_))
   refine fin1 h25 rfl rfl ?_
   exact ⟨by unfold rankA; rw [if_neg hk, if_pos hf]; (try rfl), S1.below⟩
  ·
   have hf : ¬ bitI a.f 4 = true := by rw [show bitI a.f 4 = false from hc1]; decide
   refine wp_skip (go_then (st_seq (st_reg ?_)))
   refine mva h20 fun a27 h27 => ?_
   refine st_nil (go_then (wp_ret ?_))
   refine fin1 h27 rfl rfl ?_
   exact ⟨by unfold rankA; rw [if_neg hk, if_neg hf]; (try rfl), S1.below⟩
end Go.Proofs.YtanicpgmbhfipaaGreatDoor
namespace Go.Proofs.YtanicpgmbhfipaaGreatDoor
set_option linter.unusedVariables false
set_option linter.unusedSimpArgs false
set_option maxRecDepth 4000
open Go.RowKit Go.Sort Go.Shelf
def cnT : Nat → List AceP → List AceP
 | 0, _ => []
 | r + 1, l => cnT r l ++ rkF (r : Int) l
theorem cnT_four (l : List AceP) : cnT 4 l = canL l := by
 show (([] ++ rkF 0 l ++ rkF 1 l) ++ rkF 2 l) ++ rkF 3 l = _
 unfold canL
 rw [List.nil_append, List.append_assoc, List.append_assoc]
def cnJ (r : Nat) (l : List AceP) (j : Nat) : List AceP := cnT r l ++ rkF (r : Int) (l.take j)
theorem cnJ_zero (r : Nat) (l : List AceP) : cnJ r l 0 = cnT r l := by
 unfold cnJ
 rw [List.take_zero]
 exact List.append_nil _
theorem cnJ_all (r : Nat) (l : List AceP) : cnJ r l l.length = cnT (r + 1) l := by
 unfold cnJ
 rw [List.take_length]; rfl
theorem cnJ_take {r j : Nat} {l : List AceP} (h : j < l.length) : cnJ r l (j + 1) = if rankA l[j] = (r : Int) then cnJ r l j ++ [l[j]] else cnJ r l j := by
 unfold cnJ rkF
 rw [List.take_succ_eq_append_getElem h, List.filter_append, List.filter_cons, List.filter_nil]
 by_cases e : rankA l[j] = (r : Int)
 · rw [if_pos e, if_pos (by rw [e]; simp), List.append_assoc]
 · rw [if_neg e, if_neg (by simpa using e), List.append_nil]
theorem rkF_len (r : Int) (l : List AceP) : (rkF r l).length ≤ l.length := List.length_filter_le _ _
theorem cnT_len (l : List AceP) : ∀ r, (cnT r l).length ≤ r * l.length
 | 0 => Nat.zero_le _
 | r + 1 => by
  have h1 := cnT_len l r
  have h2 := rkF_len (r : Int) l
  show (cnT r l ++ rkF (r : Int) l).length ≤ _
  rw [List.length_append, Nat.add_mul]; omega
theorem refCanon_any (l : List AceP) (A : Option Addr) (c : Nat) (w : World) (hlen : l.length ≤ 1000) (hf : okF l) (hr : Rd w w.heap.size A (acesV l)) :
 Calls Tryz.prog 108 #[.slice A l.length c] w fun e w' => ∃ i : Option Addr × Nat, e = .returned (.slice i.1 (canL l).length i.2) ∧ St [] w w' [.row (.slice i.1 (canL l).length i.2) (canL l).length 111 4 (acesV (canL l))] := by
 have hml : ∀ r j, r ≤ 4 → (cnJ r l j).length ≤ 10000 := fun r j h => by
  have h1 := cnT_len l r
  have h2 := rkF_len (r : Int) (l.take j)
  have h3 : r * l.length ≤ 4 * 1000 := Nat.mul_le_mul h hlen
  unfold cnJ
  rw [List.length_append]
  rw [List.length_take] at h2
  omega
 refine st_enter (N := 31) Tryz.func108 rfl rfl rfl (fun a0 h0 => ?_)
 have S0 := St.init w
 refine st_seq (st_reg ?_)
 refine ma h0 fun a1 h1 => ?_
 refine nsr ?_
 refine ma h1 fun a2 h2 => ?_
 refine st_nil (go_then (st_seq (st_seq (st_reg ?_))))
 refine ma h2 fun a3 h3 => ?_
 replace S0 := St.nilRow S0 111 4
 refine st_nil (go_then (wp_block ?_))
 refine st_loop h3 S0 [2, 0] (fun (q : Nat × Option Addr × Nat) => [(4, .int .i64 q.1), (3, .slice q.2.1 (cnJ q.1 l 0).length q.2.2)]) (fun (q : Nat × Option Addr × Nat) => q.1 ≤ 4) (fun q L => [.row (.slice q.2.1 (cnJ q.1 l 0).length q.2.2) (cnJ q.1 l 0).length 111 4 (acesV (cnJ q.1 l 0))]) (fun (q : Nat × Option Addr × Nat) => 4 - q.1) ((0, none, 0)) (Nat.zero_le _) ⟨rfl, rfl, rfl, rfl, trivial⟩ (S0) ?_
 intro q a4 X4 hF0 h4 S4
 obtain ⟨r, A6, c6⟩ := q
 dsimp only at h4 S4 hF0
 refine st_seq (st_seq (st_reg ?_))
 refine mv h4 fun a5 h5 => ?_
 refine sv h5 (ex_lss (h5.ev rfl) (h5.ev rfl)) fun a6 h6 => ?_
 refine st_nil (go_then ?_)
 refine st_if (h6.ev rfl) (fun hc0 => ?_) (fun hc0 => ?_)
 ·
  have hltr : r < 4 := by have := of_decide_eq_true hc0; omega
  refine wp_skip (go_then (st_seq (wp_block (st_seq (st_reg ?_)))))
  refine ma h6 fun a7 h7 => ?_
  refine st_nil (go_then (wp_block ?_))
  refine st_loop h7 S4 [7, 6, 4, 2, 0] (fun (s : Nat × Option Addr × Nat) => [(5, .int .i64 s.1), (3, .slice s.2.1 (cnJ r l s.1).length s.2.2)]) (fun (s : Nat × Option Addr × Nat) => s.1 ≤ l.length) (fun s L => [.row (.slice s.2.1 (cnJ r l s.1).length s.2.2) (cnJ r l s.1).length 111 4 (acesV (cnJ r l s.1))]) (fun (s : Nat × Option Addr × Nat) => l.length - s.1) ((0, A6, c6)) (Nat.zero_le _) ⟨rfl, rfl, rfl, rfl, rfl, rfl, rfl, trivial⟩ (S4) ?_
  intro s a8 X8 hF1 h8 S8
  obtain ⟨k, A7, c7⟩ := s
  dsimp only at h8 S8 hF1
  have hk1 := hml r k hF0
  refine st_seq (st_seq (st_reg ?_))
  refine mv h8 fun a9 h9 => ?_
  refine mv h9 fun a10 h10 => ?_
  refine sv h10 (ex_len Tryz.underlying22 (h10.ev rfl)) fun a11 h11 => ?_
  refine sv h11 (ex_lss (h11.ev rfl) (h11.ev rfl)) fun a12 h12 => ?_
  refine st_nil (go_then ?_)
  refine st_if (h12.ev rfl) (fun hc1 => ?_) (fun hc1 => ?_)
  ·
   have hlt : k < l.length := by have := of_decide_eq_true hc1; omega
   obtain ⟨b, o, rfl, hB, _⟩ := hr.opened (by rw [acesF_len]; omega)
   have hfa := hf _ (List.getElem_mem hlt)
   have het := cnJ_take (r := r) hlt
   refine wp_skip (go_then (st_seq (wp_block (st_seq (st_reg ?_)))))
   refine mvv h12 fun a14 h14 => ?_
   refine sv h14 (ex_index (i := k) (sz := 4) Tryz.underlying22 (by kernel_rfl) (h14.ev rfl) (h14.ev rfl) (by omega) (by omega) rfl) fun a15 h15 => ?_
   refine sv (v := aceU l[k]) h15 (ex_loads (by kernel_rfl) (by kernel_rfl) (h15.ev rfl) (acesAt (S8.rd0 hr) hlt)) fun a16 h16 => ?_
   refine sl_bel h16 (wn rfl) (ex_call (fun _ _ => by kernel_rfl) (h16.evs rfl) rfl) rfl rfl S8 (refRank_any l[k] _ hfa.1 hfa.2) fun a17 X17 h17 S17 => ?_
   refine mv h17 fun a18 h18 => ?_
   refine sv h18 (ex_eql (h18.ev rfl) (h18.ev rfl)) fun a19 h19 => ?_
   refine st_nil (go_then ?_)
   refine st_if (h19.ev rfl) (fun hc2 => ?_) (fun hc2 => ?_)
   ·
    have hrk : rankA l[k] = (r : Int) := by simpa using hc2
    have hps : cnJ r l (k + 1) = cnJ r l k ++ [l[k]] := by rw [het, if_pos hrk]
    refine st_reg ?_
    refine mvv h19 fun a21 h21 => ?_
    refine mv h21 fun a22 h22 => ?_
    refine sv h22 (ex_index (i := k) (sz := 4) Tryz.underlying22 (by kernel_rfl) (h22.ev rfl) (h22.ev rfl) (by omega) (by omega) rfl) fun a23 h23 => ?_
    refine sv (v := aceU l[k]) h23 (ex_loads (by kernel_rfl) (by kernel_rfl) (h23.ev rfl) (acesAt (S17.rd0 hr) hlt)) fun a24 h24 => ?_
    refine sl_bslice (zc := [.int .i64 0, .int .i64 0, .int .i64 0, .int .i64 0]) (sz := 4) h24 (wn rfl) ⟨rfl, rfl⟩ rfl Tryz.underlying22 (by kernel_rfl) (by kernel_rfl) rfl rfl rfl (h24.evs2 rfl) rfl rfl rfl S17 fun b28 a25 X25 gb28 h25 S25 => ?_
    refine sl_append (z := .agg #[.int .i64 0, .int .i64 0, .int .i64 0, .int .i64 0]) (sz := 4) (bytes := 32) h25 (wn rfl) ⟨rfl, rfl⟩ rfl Tryz.underlying22 (by kernel_rfl) rfl rfl (h25.ev rfl) (h25.ev rfl) S25 (i := 1) rfl (S25.boxRd (i := 0) rfl) rfl (List.all_eq_true.1 rfl) ⟨(by omega), by decide⟩ fun A29 c29 a26 X26 h26 S26 => ?_
    refine ma h26 fun a27 h27 => ?_
    replace h27 := Has.also h27 (t := 3) (v := .slice A29 (cnJ r l (k + 1)).length c29) ((show look _ 3 = some (.slice A29 ((cnJ r l k).length + 1) c29) from rfl).trans (by rw [hps, List.length_append]; (try rfl)))
    refine st_nil (go_block (go_then (st_reg ?_)))
    refine mv h27 fun a28 h28 => ?_
    refine sv h28 (ex_add (h28.ev rfl) (h28.ev rfl) (by omega)) fun a29 h29 => ?_
    refine ma h29 fun a30 h30 => ?_
    refine st_nil (go_then ?_)
    exact ⟨(k + 1, A29, c29), (by show l.length - (k + 1) < l.length - k; omega), hlt, h30.re ⟨rfl, rfl, rfl, rfl, rfl, rfl, rfl, trivial⟩, (by show St [] w _ [.row (.slice A29 (cnJ r l (k + 1)).length c29) (cnJ r l (k + 1)).length 111 4 (acesV (cnJ r l (k + 1)))]; rw [hps, List.length_append, acesV_append]; exact (S26.sub (.cons _ (.cons_cons _ .slnil))))⟩
   ·
    have hrk : ¬ rankA l[k] = (r : Int) := by simpa using hc2
    have hps : cnJ r l (k + 1) = cnJ r l k := by rw [het, if_neg hrk]
    replace h19 := Has.also h19 (t := 3) (v := .slice A7 (cnJ r l (k + 1)).length c7) ((show look _ 3 = some (.slice A7 (cnJ r l k).length c7) from rfl).trans (by rw [hps]))
    refine wp_skip (go_block (go_then (st_reg ?_)))
    refine mv h19 fun a31 h31 => ?_
    refine sv h31 (ex_add (h31.ev rfl) (h31.ev rfl) (by omega)) fun a32 h32 => ?_
    refine ma h32 fun a33 h33 => ?_
    refine st_nil (go_then ?_)
    exact ⟨(k + 1, A7, c7), (by show l.length - (k + 1) < l.length - k; omega), hlt, h33.re ⟨rfl, rfl, rfl, rfl, rfl, rfl, rfl, trivial⟩, (by show St [] w _ [.row (.slice A7 (cnJ r l (k + 1)).length c7) (cnJ r l (k + 1)).length 111 4 (acesV (cnJ r l (k + 1)))]; rw [hps]; exact (S17.sub (.cons_cons _ .slnil)))⟩
  ·
   have hge : k = l.length := by have := of_decide_eq_false hc1; have := hF1; omega
   have et : cnJ r l k = cnJ (r + 1) l 0 := by rw [hge, cnJ_all, cnJ_zero]
   rw [et] at h12 S8
   refine wp_exit ?_
   refine go_exit_then ?_
   refine go_exit_then ?_
   refine go_exit ?_
   refine go_block (go_then (st_reg ?_))
   refine mv h12 fun a34 h34 => ?_
   refine sv h34 (ex_add (h34.ev rfl) (h34.ev rfl) (by omega)) fun a35 h35 => ?_
   refine ma h35 fun a36 h36 => ?_
   refine st_nil (go_then ?_)
   exact ⟨(r + 1, A7, c7), (by show 4 - (r + 1) < 4 - r; omega), hltr, h36.re ⟨rfl, rfl, rfl, rfl, trivial⟩, S8⟩
 ·
  have hge : r = 4 := by have := of_decide_eq_false hc0; have := hF0; omega
  refine wp_exit ?_
  refine go_exit_then ?_
  refine go_exit_then ?_
  refine go_exit ?_
  refine go_then (st_seq (st_reg ?_))
  refine mva h6 fun a38 h38 => ?_
  refine st_nil (go_then (wp_ret ?_))
  refine fin1 h38 rfl rfl ?_
  have et : cnJ r l 0 = canL l := by rw [cnJ_zero, hge, cnT_four]
  have h9 : St [] w X4 [.row (.slice A6 (cnJ r l 0).length c6) (cnJ r l 0).length 111 4 (acesV (cnJ r l 0))] := S4
  rw [et] at h9
  exact ⟨(A6, c6), by rw [et], h9⟩
end Go.Proofs.YtanicpgmbhfipaaGreatDoor
namespace Go.Proofs.YtanicpgmbhfipaaGreatDoor
set_option linter.unusedVariables false
set_option linter.unusedSimpArgs false
set_option maxRecDepth 4000
open Go.RowKit Go.Sort Go.Shelf
set_option maxHeartbeats 4000000 in
theorem refInh_any (dir : Bool) (o g : Int) (l : List AceP) (A : Option Addr) (c : Nat) (w : World) (hlen : l.length ≤ 1000) (hf : okF l) (hr : Rd w w.heap.size A (acesV l)) :
 Calls Tryz.prog 107 #[.slice A l.length c, .bool dir, .int .i64 o, .int .i64 g] w fun e w' => ∃ i : Option Addr × Nat, e = .returned (.slice i.1 (inhL dir o g l).length i.2) ∧ St [] w w' [.row (.slice i.1 (inhL dir o g l).length i.2) (inhL dir o g l).length 111 4 (acesV (inhL dir o g l))] := by
 have hml : ∀ k, (inhL dir o g (l.take k)).length ≤ 10000 := fun k => by have := inhL_len dir o g (l.take k); rw [List.length_take] at this; omega
 refine st_enter (N := 112) Tryz.func107 rfl rfl rfl (fun a0 h0 => ?_)
 have S0 := St.init w
 refine st_seq (st_reg ?_)
 refine ma h0 fun a1 h1 => ?_
 refine nsr ?_
 refine ma h1 fun a2 h2 => ?_
 refine st_nil (go_then (st_seq (st_seq (st_reg ?_))))
 refine ma h2 fun a3 h3 => ?_
 replace S0 := St.nilRow S0 111 4
 refine st_nil (go_then (wp_block ?_))
 refine st_loop h3 S0 [8, 0, 1, 2, 3] (fun (q : Nat × Option Addr × Nat) => [(10, .int .i64 q.1), (9, .slice q.2.1 (inhL dir o g (l.take q.1)).length q.2.2)]) (fun (q : Nat × Option Addr × Nat) => q.1 ≤ l.length) (fun q L => [.row (.slice q.2.1 (inhL dir o g (l.take q.1)).length q.2.2) (inhL dir o g (l.take q.1)).length 111 4 (acesV (inhL dir o g (l.take q.1)))]) (fun (q : Nat × Option Addr × Nat) => l.length - q.1) ((0, none, 0)) (Nat.zero_le _) ⟨rfl, rfl, rfl, rfl, rfl, rfl, rfl, trivial⟩ (S0) ?_
 intro q a4 X4 hF0 h4 S4
 obtain ⟨k, A6, c6⟩ := q
 dsimp only at h4 S4 hF0
 have hk1 := hml k
 refine st_seq (st_seq (st_reg ?_))
 refine mv h4 fun a5 h5 => ?_
 refine mv h5 fun a6 h6 => ?_
 refine sv h6 (ex_len Tryz.underlying22 (h6.ev rfl)) fun a7 h7 => ?_
 refine sv h7 (ex_lss (h7.ev rfl) (h7.ev rfl)) fun a8 h8 => ?_
 refine st_nil (go_then ?_)
 refine st_if (h8.ev rfl) (fun hc0 => ?_) (fun hc0 => ?_)
 ·
  have hlt : k < l.length := by have := of_decide_eq_true hc0; omega
  obtain ⟨b, o9, rfl, hB, _⟩ := hr.opened (by rw [acesF_len]; omega)
  have hfa := hf _ (List.getElem_mem hlt)
  have hon : 0 ≤ onR l[k].f ∧ onR l[k].f ≤ 3 := by unfold onR; split <;> split <;> decide
  have hta := inhL_take (dir := dir) (o := o) (g := g) hlt
  refine wp_skip (go_then (st_seq (wp_block (st_seq (st_reg ?_)))))
  refine mv h8 fun a9 h9 => ?_
  refine mv h9 fun a10 h10 => ?_
  refine sv h10 (ex_index (i := k) (sz := 4) Tryz.underlying22 (by kernel_rfl) (h10.ev rfl) (h10.ev rfl) (by omega) (by omega) rfl) fun a11 h11 => ?_
  refine sv (v := aceU l[k]) h11 (ex_loads (by kernel_rfl) (by kernel_rfl) (h11.ev rfl) (acesAt (S4.rd0 hr) hlt)) fun a12 h12 => ?_
  refine na (.agg #[.int .i64 0, .int .i64 0, .int .i64 0, .int .i64 0]) h12 rfl S4 fun b11 a13 X13 gb11 h13 S13 => ?_
  refine sw h13 S13 0 fun X14 S14 => ?_
  refine st_nil (go_then (st_seq ?_))
  apply dr_flow h13 [false, false, false, false, false, false, false, false] _ (by kernel_rfl)
  case h =>
   refine qv h13 (fun X hX => fx 1 1 (h13.ev rfl)) fun a15 h15 => ?_
   refine qv h15 (fun X hX => lx (h15.ev rfl) ((S14.grow hX).cell (i := 0) rfl rfl)) fun a16 h16 => ?_
   refine sq_pure h16 (wn rfl) rfl rfl (fun X => (ex_call (fun _ _ => by kernel_rfl) (h16.evs rfl) rfl)) (fun X hX => refHas_any l[k].f 1 _ hfa.1 (by omega) (by decide) (by decide)) fun a17 h17 => ?_
   refine qv h17 (fun X hX => fx 1 1 (h17.ev rfl)) fun a18 h18 => ?_
   refine qv h18 (fun X hX => lx (h18.ev rfl) ((S14.grow hX).cell (i := 0) rfl rfl)) fun a19 h19 => ?_
   refine sq_pure h19 (wn rfl) rfl rfl (fun X => (ex_call (fun _ _ => by kernel_rfl) (h19.evs rfl) rfl)) (fun X hX => refHas_any l[k].f 2 _ hfa.1 (by omega) (by decide) (by decide)) fun a20 h20 => ?_
   refine qv h20 (fun X hX => fx 1 1 (h20.ev rfl)) fun a21 h21 => ?_
   refine qv h21 (fun X hX => lx (h21.ev rfl) ((S14.grow hX).cell (i := 0) rfl rfl)) fun a22 h22 => ?_
   refine sq_nil ?_
   refine nd_end fun X23 hX23 hΦ23 => ?_
   have S23 := S14.grow hX23
   refine sl_pure h22 (wn rfl) (ex_call (fun _ _ => by kernel_rfl) (h22.evs rfl) rfl) rfl rfl (refHas_any l[k].f 4 _ hfa.1 (by omega) (by decide) (by decide)) fun a24 h24 => ?_
   refine maa h24 fun a26 h26 => ?_
   refine ma h26 fun a27 h27 => ?_
   refine st_nil (go_then (st_seq (st_seq (st_reg ?_))))
   refine mv h27 fun a28 h28 => ?_
   refine sv h28 (ex_not (h28.ev rfl)) fun a29 h29 => ?_
   refine st_nil (go_then ?_)
   refine st_if (h29.ev rfl) (fun hc1 => ?_) (fun hc1 => ?_)
   ·
    have hd : dir = false := by simpa using hc1
    refine st_seq (st_seq (st_reg ?_))
    refine mv h29 fun a30 h30 => ?_
    refine st_nil (go_then ?_)
    refine st_if (h30.ev rfl) (fun hc2 => ?_) (fun hc2 => ?_)
    ·
     have hb0 : bitI l[k].f 0 = true := hc2
     have hps : inhL dir o g (l.take (k + 1)) = inhL dir o g (l.take k) ++ [⟨l[k].k, 16, l[k].m, hlr l[k].w o g⟩] := by rw [hta]; unfold inhR; rw [if_pos hd, if_pos hb0]
     refine st_seq (st_reg ?_)
     refine vf h30 3 3 fun a31 h31 => ?_
     refine vl h31 S23 0 fun a32 h32 => ?_
     refine mvv h32 fun a34 h34 => ?_
     refine sl_pure h34 (wn rfl) (ex_call (fun _ _ => by kernel_rfl) (h34.evs rfl) rfl) rfl rfl (holder_any _ _ _ _) fun a35 h35 => ?_
     refine vf h35 1 1 fun a36 h36 => ?_
     refine sl_store h36 (wn rfl) ⟨rfl, rfl⟩ (h36.ev rfl) (h36.ev rfl) rfl (by kernel_rfl) S23 (i := 0) rfl rfl rfl fun X37 S37 => ?_
     refine vf h36 3 3 fun a38 h38 => ?_
     refine sl_store h38 (wn rfl) ⟨rfl, rfl⟩ (h38.ev rfl) (h38.ev rfl) rfl (by kernel_rfl) S37 (i := 0) rfl rfl rfl fun X39 S39 => ?_
     refine st_nil (go_then (st_reg ?_))
     refine mv h38 fun a40 h40 => ?_
     refine sv (v := aceU ⟨l[k].k, 16, l[k].m, hlr l[k].w o g⟩) h40 (ex_loads (by kernel_rfl) (by kernel_rfl) (h40.ev rfl) (S39.cellsAll (i := 0) rfl)) fun a41 h41 => ?_
     refine sl_bslice (zc := [.int .i64 0, .int .i64 0, .int .i64 0, .int .i64 0]) (sz := 4) h41 (wn rfl) ⟨rfl, rfl⟩ rfl Tryz.underlying22 (by kernel_rfl) (by kernel_rfl) rfl rfl rfl (h41.evs2 rfl) rfl rfl rfl S39 fun b49 a42 X42 gb49 h42 S42 => ?_
     refine sl_append (z := .agg #[.int .i64 0, .int .i64 0, .int .i64 0, .int .i64 0]) (sz := 4) (bytes := 32) h42 (wn rfl) ⟨rfl, rfl⟩ rfl Tryz.underlying22 (by kernel_rfl) rfl rfl (h42.ev rfl) (h42.ev rfl) S42 (i := 2) rfl (S42.boxRd (i := 0) rfl) rfl (List.all_eq_true.1 rfl) ⟨(by omega), by decide⟩ fun A50 c50 a43 X43 h43 S43 => ?_
     refine ma h43 fun a44 h44 => ?_
     replace h44 := Has.also h44 (t := 9) (v := .slice A50 (inhL dir o g (l.take (k + 1))).length c50) ((show look _ 9 = some (.slice A50 ((inhL dir o g (l.take k)).length + 1) c50) from rfl).trans (by rw [hps, List.length_append]; (try rfl)))
     refine st_nil (go_then ?_)
     refine wp_exit ?_
     refine go_exit_then ?_
     refine go_exit ?_
     refine go_then (st_reg ?_)
     refine mv h44 fun a45 h45 => ?_
     refine sv h45 (ex_add (h45.ev rfl) (h45.ev rfl) (by omega)) fun a46 h46 => ?_
     refine ma h46 fun a47 h47 => ?_
     refine st_nil (go_then ?_)
     exact ⟨(k + 1, A50, c50), (by show l.length - (k + 1) < l.length - k; omega), hlt, h47.re ⟨rfl, rfl, rfl, rfl, rfl, rfl, rfl, trivial⟩, (by show St [] w _ [.row (.slice A50 (inhL dir o g (l.take (k + 1))).length c50) (inhL dir o g (l.take (k + 1))).length 111 4 (acesV (inhL dir o g (l.take (k + 1))))]; rw [hps, List.length_append, acesV_append]; exact (S43.sub (.cons _ (.cons _ (.cons_cons _ .slnil)))))⟩
    ·
     have hb0 : bitI l[k].f 0 = false := hc2
     have hps : inhL dir o g (l.take (k + 1)) = inhL dir o g (l.take k) := by rw [hta]; unfold inhR; rw [if_pos hd, if_neg (by rw [hb0]; decide), List.append_nil]
     replace h30 := Has.also h30 (t := 9) (v := .slice A6 (inhL dir o g (l.take (k + 1))).length c6) ((show look _ 9 = some (.slice A6 (inhL dir o g (l.take k)).length c6) from rfl).trans (by rw [hps]))
     refine wp_skip (go_then ?_)
     refine wp_exit ?_
     refine go_exit_then ?_
     refine go_exit ?_
     refine go_then (st_reg ?_)
     refine mv h30 fun a48 h48 => ?_
     refine sv h48 (ex_add (h48.ev rfl) (h48.ev rfl) (by omega)) fun a49 h49 => ?_
     refine ma h49 fun a50 h50 => ?_
     refine st_nil (go_then ?_)
     exact ⟨(k + 1, A6, c6), (by show l.length - (k + 1) < l.length - k; omega), hlt, h50.re ⟨rfl, rfl, rfl, rfl, rfl, rfl, rfl, trivial⟩, (by show St [] w _ [.row (.slice A6 (inhL dir o g (l.take (k + 1))).length c6) (inhL dir o g (l.take (k + 1))).length 111 4 (acesV (inhL dir o g (l.take (k + 1))))]; rw [hps]; exact (S23.sub (.cons _ (.cons_cons _ .slnil))))⟩
   ·
    have hd : ¬ dir = false := by simpa using hc1
    refine wp_skip (go_then (st_seq (st_reg ?_)))
    refine ma h29 fun a51 h51 => ?_
    refine st_nil (go_then (st_seq (st_seq (st_reg ?_))))
    refine mvv h51 fun a53 h53 => ?_
    apply sl_and h53 S23 52 rfl 3 55
    case ht =>
     intro gc52
     refine sy h53 (ex_move (h53.ev rfl)) fun a54 h54 => ?_
     refine sy h54 (ex_not (h54.ev rfl)) fun a55 h55 => ?_
     refine sv h55 (ex_pick_t (h55.ev rfl) gc52 (h55.ev rfl)) fun a56 h56 => ?_
     exact st_nil ⟨h56.mid (m := [(_, _), (_, _)]) rfl, S23⟩
    case hf =>
     intro gc52
     refine no h53 fun a57 h57 => ?_
     refine no h57 fun a58 h58 => ?_
     refine sv h58 (ex_pick_f (h58.ev rfl) gc52 (h58.ev rfl)) fun a59 h59 => ?_
     exact st_nil ⟨h59.mid (m := [(_, _), (_, _)]) rfl, S23⟩
    case h =>
     rintro a60 X60 ⟨h60, S60⟩
     refine st_nil (go_then ?_)
     replace h60 := (h60.re ⟨rfl, rfl, rfl, rfl, rfl, rfl, rfl, rfl, rfl, rfl, rfl, rfl, rfl, rfl, rfl, rfl, rfl, rfl, rfl, rfl, rfl, rfl, rfl, rfl, rfl, rfl, rfl, rfl, rfl, rfl, rfl, rfl, rfl, rfl, trivial⟩ : Has _ _ _ [(55, _), (52, _), (51, _), (15, _), (38, _), (37, _), (14, _), (13, _), (12, _), (36, _), (35, _), (34, _), (33, _), (32, _), (31, _), (30, _), (29, _), (28, _), (11, _), (27, _), (26, _), (25, _), (24, _), (21, _), (20, _), (19, _), (18, _), (10, _), (9, _), (8, _), (0, _), (1, _), (2, _), (3, _)])
     refine st_joinH h60 S60 [(15, .int .i64 (if (bitI l[k].f 0 && !bitI l[k].f 2) = true then 1 else 0))] [55, 52, 51, 38, 37, 14, 13, 12, 36, 35, 34, 33, 32, 31, 30, 29, 28, 11, 27, 26, 25, 24, 21, 20, 19, 18, 10, 9, 8, 0, 1, 2, 3] ?_ (fun a61 X61 h61 S61 => ?_)
     ·
      refine st_if (h60.ev rfl) (fun hc3 => ?_) (fun hc3 => ?_)
      ·
       refine st_reg ?_
       refine mv h60 fun a62 h62 => ?_
       refine sv h62 (ex_add (h62.ev rfl) (h62.ev rfl) (by omega)) fun a63 h63 => ?_
       refine ma h63 fun a64 h64 => ?_
       refine st_nil (go_then ?_)
       have h5 : (bitI l[k].f 0 && !bitI l[k].f 2) = true := hc3
       replace h64 := Has.also h64 (t := 15) (v := .int .i64 (if (bitI l[k].f 0 && !bitI l[k].f 2) = true then 1 else 0)) ((show look _ 15 = some (.int .i64 (0 + 1)) from rfl).trans (by rw [if_pos h5]; rfl))
       exact ⟨h64.re ⟨rfl, rfl, rfl, rfl, rfl, rfl, rfl, rfl, rfl, rfl, rfl, rfl, rfl, rfl, rfl, rfl, rfl, rfl, rfl, rfl, rfl, rfl, rfl, rfl, rfl, rfl, rfl, rfl, rfl, rfl, rfl, rfl, rfl, rfl, trivial⟩, S60⟩
      ·
       refine wp_skip (go_then ?_)
       have h5 : ¬ (bitI l[k].f 0 && !bitI l[k].f 2) = true := by rw [show (bitI l[k].f 0 && !bitI l[k].f 2) = false from hc3]; decide
       replace h60 := Has.also h60 (t := 15) (v := .int .i64 (if (bitI l[k].f 0 && !bitI l[k].f 2) = true then 1 else 0)) ((show look _ 15 = some (.int .i64 0) from rfl).trans (by rw [if_neg h5]))
       exact ⟨h60.re ⟨rfl, rfl, rfl, rfl, rfl, rfl, rfl, rfl, rfl, rfl, rfl, rfl, rfl, rfl, rfl, rfl, rfl, rfl, rfl, rfl, rfl, rfl, rfl, rfl, rfl, rfl, rfl, rfl, rfl, rfl, rfl, rfl, rfl, rfl, trivial⟩, S60⟩
     ·
      refine go_then (st_seq (st_seq (st_reg ?_)))
      refine mvv h61 fun a66 h66 => ?_
      apply sl_and h66 S61 59 rfl 3 62
      case ht =>
       intro gc59
       refine sy h66 (ex_move (h66.ev rfl)) fun a67 h67 => ?_
       refine sy h67 (ex_not (h67.ev rfl)) fun a68 h68 => ?_
       refine sv h68 (ex_pick_t (h68.ev rfl) gc59 (h68.ev rfl)) fun a69 h69 => ?_
       exact st_nil ⟨h69.mid (m := [(_, _), (_, _)]) rfl, S61⟩
      case hf =>
       intro gc59
       refine no h66 fun a70 h70 => ?_
       refine no h70 fun a71 h71 => ?_
       refine sv h71 (ex_pick_f (h71.ev rfl) gc59 (h71.ev rfl)) fun a72 h72 => ?_
       exact st_nil ⟨h72.mid (m := [(_, _), (_, _)]) rfl, S61⟩
      case h =>
       rintro a73 X73 ⟨h73, S73⟩
       refine st_nil (go_then ?_)
       replace h73 := (h73.re ⟨rfl, rfl, rfl, rfl, rfl, rfl, rfl, rfl, rfl, rfl, rfl, rfl, rfl, rfl, rfl, rfl, rfl, rfl, rfl, rfl, rfl, rfl, rfl, rfl, rfl, rfl, rfl, rfl, rfl, rfl, rfl, rfl, rfl, rfl, rfl, rfl, rfl, trivial⟩ : Has _ _ _ [(62, _), (59, _), (58, _), (15, _), (55, _), (52, _), (51, _), (38, _), (37, _), (14, _), (13, _), (12, _), (36, _), (35, _), (34, _), (33, _), (32, _), (31, _), (30, _), (29, _), (28, _), (11, _), (27, _), (26, _), (25, _), (24, _), (21, _), (20, _), (19, _), (18, _), (10, _), (9, _), (8, _), (0, _), (1, _), (2, _), (3, _)])
       refine st_joinH h73 S73 [(15, .int .i64 (onR l[k].f))] [62, 59, 58, 55, 52, 51, 38, 37, 14, 13, 12, 36, 35, 34, 33, 32, 31, 30, 29, 28, 11, 27, 26, 25, 24, 21, 20, 19, 18, 10, 9, 8, 0, 1, 2, 3] ?_ (fun a74 X74 h74 S74 => ?_)
       ·
        refine st_if (h73.ev rfl) (fun hc4 => ?_) (fun hc4 => ?_)
        ·
         refine st_reg ?_
         refine mv h73 fun a75 h75 => ?_
         refine sv h75 (ex_add (h75.ev rfl) (h75.ev rfl) (by split <;> omega)) fun a76 h76 => ?_
         refine ma h76 fun a77 h77 => ?_
         refine st_nil (go_then ?_)
         have h5 : (bitI l[k].f 1 && !bitI l[k].f 2) = true := hc4
         replace h77 := Has.also h77 (t := 15) (v := .int .i64 (onR l[k].f)) ((show look _ 15 = some (.int .i64 ((if (bitI l[k].f 0 && !bitI l[k].f 2) = true then 1 else 0) + 2)) from rfl).trans (by unfold onR; rw [if_pos h5]))
         exact ⟨h77.re ⟨rfl, rfl, rfl, rfl, rfl, rfl, rfl, rfl, rfl, rfl, rfl, rfl, rfl, rfl, rfl, rfl, rfl, rfl, rfl, rfl, rfl, rfl, rfl, rfl, rfl, rfl, rfl, rfl, rfl, rfl, rfl, rfl, rfl, rfl, rfl, rfl, rfl, trivial⟩, S73⟩
        ·
         refine wp_skip (go_then ?_)
         have h5 : ¬ (bitI l[k].f 1 && !bitI l[k].f 2) = true := by rw [show (bitI l[k].f 1 && !bitI l[k].f 2) = false from hc4]; decide
         replace h73 := Has.also h73 (t := 15) (v := .int .i64 (onR l[k].f)) ((show look _ 15 = some (.int .i64 (if (bitI l[k].f 0 && !bitI l[k].f 2) = true then 1 else 0)) from rfl).trans (by unfold onR; rw [if_neg h5, Int.add_zero]))
         exact ⟨h73.re ⟨rfl, rfl, rfl, rfl, rfl, rfl, rfl, rfl, rfl, rfl, rfl, rfl, rfl, rfl, rfl, rfl, rfl, rfl, rfl, rfl, rfl, rfl, rfl, rfl, rfl, rfl, rfl, rfl, rfl, rfl, rfl, rfl, rfl, rfl, rfl, rfl, rfl, trivial⟩, S73⟩
       ·
        refine go_then (st_seq (st_reg ?_))
        refine mv h74 fun a78 h78 => ?_
        refine st_nil (go_then ?_)
        refine st_if (h78.ev rfl) (fun hc5 => ?_) (fun hc5 => ?_)
        ·
         have hb1 : bitI l[k].f 1 = true := hc5
         refine st_seq (st_reg ?_)
         refine vf h78 3 3 fun a79 h79 => ?_
         refine vl h79 S74 0 fun a80 h80 => ?_
         refine mvv h80 fun a82 h82 => ?_
         refine sl_pure h82 (wn rfl) (ex_call (fun _ _ => by kernel_rfl) (h82.evs rfl) rfl) rfl rfl (holder_any _ _ _ _) fun a83 h83 => ?_
         refine ma h83 fun a84 h84 => ?_
         refine st_nil (go_then (st_seq (st_seq (st_reg ?_))))
         refine mv h84 fun a85 h85 => ?_
         refine vf h85 3 3 fun a86 h86 => ?_
         refine vl h86 S74 0 fun a87 h87 => ?_
         refine sv h87 (ex_eql (h87.ev rfl) (h87.ev rfl)) fun a88 h88 => ?_
         refine mv h88 fun a89 h89 => ?_
         apply sl_or h89 S74 75 rfl 3 78
         case hf =>
          intro gc75
          refine sy h89 (ex_move (h89.ev rfl)) fun a90 h90 => ?_
          refine sy h90 (ex_eql (h90.ev rfl) (h90.ev rfl)) fun a91 h91 => ?_
          refine sv h91 (ex_pick_f (h91.ev rfl) gc75 (h91.ev rfl)) fun a92 h92 => ?_
          exact st_nil ⟨h92.mid (m := [(_, _), (_, _)]) rfl, S74⟩
         case ht =>
          intro gc75
          refine no h89 fun a93 h93 => ?_
          refine no h93 fun a94 h94 => ?_
          refine sv h94 (ex_pick_t (h94.ev rfl) gc75 (h94.ev rfl)) fun a95 h95 => ?_
          exact st_nil ⟨h95.mid (m := [(_, _), (_, _)]) rfl, S74⟩
         case h =>
          rintro a96 X96 ⟨h96, S96⟩
          refine st_nil (go_then ?_)
          refine st_if (h96.ev rfl) (fun hc6 => ?_) (fun hc6 => ?_)
          ·
           have hps : inhL dir o g (l.take (k + 1)) = inhL dir o g (l.take k) ++ [⟨l[k].k, 16 + onR l[k].f, l[k].m, hlr l[k].w o g⟩] := by rw [hta]; unfold inhR; rw [if_neg hd, if_pos hb1, if_pos hc6]
           refine st_seq (st_reg ?_)
           refine mv h96 fun a97 h97 => ?_
           refine sv h97 (ex_add (h97.ev rfl) (h97.ev rfl) (by omega)) fun a98 h98 => ?_
           refine mv h98 fun a99 h99 => ?_
           refine vf h99 1 1 fun a100 h100 => ?_
           refine sl_store h100 (wn rfl) ⟨rfl, rfl⟩ (h100.ev rfl) (h100.ev rfl) rfl (by kernel_rfl) S96 (i := 0) rfl rfl rfl fun X101 S101 => ?_
           refine vf h100 3 3 fun a102 h102 => ?_
           refine sl_store h102 (wn rfl) ⟨rfl, rfl⟩ (h102.ev rfl) (h102.ev rfl) rfl (by kernel_rfl) S101 (i := 0) rfl rfl rfl fun X103 S103 => ?_
           refine nsr ?_
           refine mv h102 fun a104 h104 => ?_
           refine sv (v := aceU ⟨l[k].k, 16 + onR l[k].f, l[k].m, hlr l[k].w o g⟩) h104 (ex_loads (by kernel_rfl) (by kernel_rfl) (h104.ev rfl) (S103.cellsAll (i := 0) rfl)) fun a105 h105 => ?_
           refine sl_bslice (zc := [.int .i64 0, .int .i64 0, .int .i64 0, .int .i64 0]) (sz := 4) h105 (wn rfl) ⟨rfl, rfl⟩ rfl Tryz.underlying22 (by kernel_rfl) (by kernel_rfl) rfl rfl rfl (h105.evs2 rfl) rfl rfl rfl S103 fun b86 a106 X106 gb86 h106 S106 => ?_
           refine sl_append (z := .agg #[.int .i64 0, .int .i64 0, .int .i64 0, .int .i64 0]) (sz := 4) (bytes := 32) h106 (wn rfl) ⟨rfl, rfl⟩ rfl Tryz.underlying22 (by kernel_rfl) rfl rfl (h106.ev rfl) (h106.ev rfl) S106 (i := 2) rfl (S106.boxRd (i := 0) rfl) rfl (List.all_eq_true.1 rfl) ⟨(by omega), by decide⟩ fun A87 c87 a107 X107 h107 S107 => ?_
           refine ma h107 fun a108 h108 => ?_
           replace h108 := Has.also h108 (t := 9) (v := .slice A87 (inhL dir o g (l.take (k + 1))).length c87) ((show look _ 9 = some (.slice A87 ((inhL dir o g (l.take k)).length + 1) c87) from rfl).trans (by rw [hps, List.length_append]; (try rfl)))
           refine st_nil (go_then ?_)
           refine wp_exit ?_
           refine go_exit_then ?_
           refine go_exit ?_
           refine go_then (st_reg ?_)
           refine mv h108 fun a109 h109 => ?_
           refine sv h109 (ex_add (h109.ev rfl) (h109.ev rfl) (by omega)) fun a110 h110 => ?_
           refine ma h110 fun a111 h111 => ?_
           refine st_nil (go_then ?_)
           exact ⟨(k + 1, A87, c87), (by show l.length - (k + 1) < l.length - k; omega), hlt, h111.re ⟨rfl, rfl, rfl, rfl, rfl, rfl, rfl, trivial⟩, (by show St [] w _ [.row (.slice A87 (inhL dir o g (l.take (k + 1))).length c87) (inhL dir o g (l.take (k + 1))).length 111 4 (acesV (inhL dir o g (l.take (k + 1))))]; rw [hps, List.length_append, acesV_append]; exact (S107.sub (.cons _ (.cons _ (.cons_cons _ .slnil)))))⟩
          ·
           have h7 : ¬ (hlr l[k].w o g == l[k].w || onR l[k].f == 0) = true := by rw [hc6]; decide
           have hps : inhL dir o g (l.take (k + 1)) = inhL dir o g (l.take k) ++ [⟨l[k].k, 16, l[k].m, hlr l[k].w o g⟩, ⟨l[k].k, 16 + onR l[k].f + 8, l[k].m, l[k].w⟩] := by rw [hta]; unfold inhR; rw [if_neg hd, if_pos hb1, if_neg h7]
           refine wp_skip (go_then (st_seq (st_reg ?_)))
           refine sv h96 (ex_loads (by kernel_rfl) (by kernel_rfl) (h96.ev rfl) (S96.cellsAll (i := 0) rfl)) fun a112 h112 => ?_
           refine na (.agg #[.int .i64 0, .int .i64 0, .int .i64 0, .int .i64 0]) h112 rfl S96 fun b17 a113 X113 gb17 h113 S113 => ?_
           refine sw h113 S113 0 fun X114 S114 => ?_
           refine nsr ?_
           refine mv h113 fun a115 h115 => ?_
           refine vf h115 1 1 fun a116 h116 => ?_
           refine sl_store h116 (wn rfl) ⟨rfl, rfl⟩ (h116.ev rfl) (h116.ev rfl) rfl (by kernel_rfl) S114 (i := 0) rfl rfl rfl fun X117 S117 => ?_
           refine vf h116 3 3 fun a118 h118 => ?_
           refine sl_store h118 (wn rfl) ⟨rfl, rfl⟩ (h118.ev rfl) (h118.ev rfl) rfl (by kernel_rfl) S117 (i := 0) rfl rfl rfl fun X119 S119 => ?_
           refine nsr ?_
           refine mv h118 fun a120 h120 => ?_
           refine sv h120 (ex_add (h120.ev rfl) (h120.ev rfl) (by omega)) fun a121 h121 => ?_
           refine sv h121 (ex_add (h121.ev rfl) (h121.ev rfl) (by omega)) fun a122 h122 => ?_
           refine vf h122 1 1 fun a123 h123 => ?_
           refine sl_store h123 (wn rfl) ⟨rfl, rfl⟩ (h123.ev rfl) (h123.ev rfl) rfl (by kernel_rfl) S119 (i := 1) rfl rfl rfl fun X124 S124 => ?_
           refine st_nil (go_then (st_reg ?_))
           refine mv h123 fun a125 h125 => ?_
           refine sv (v := aceU ⟨l[k].k, 16, l[k].m, hlr l[k].w o g⟩) h125 (ex_loads (by kernel_rfl) (by kernel_rfl) (h125.ev rfl) (S124.cellsAll (i := 0) rfl)) fun a126 h126 => ?_
           refine sv (v := aceU ⟨l[k].k, 16 + onR l[k].f + 8, l[k].m, l[k].w⟩) h126 (ex_loads (by kernel_rfl) (by kernel_rfl) (h126.ev rfl) (S124.cellsAll (i := 1) rfl)) fun a127 h127 => ?_
           refine sl_bslice (zc := [.int .i64 0, .int .i64 0, .int .i64 0, .int .i64 0]) (sz := 4) h127 (wn rfl) ⟨rfl, rfl⟩ rfl Tryz.underlying22 (by kernel_rfl) (by kernel_rfl) rfl rfl rfl (h127.evs2 rfl) rfl rfl rfl S124 fun b99 a128 X128 gb99 h128 S128 => ?_
           refine sl_append (z := .agg #[.int .i64 0, .int .i64 0, .int .i64 0, .int .i64 0]) (sz := 4) (bytes := 32) h128 (wn rfl) ⟨rfl, rfl⟩ rfl Tryz.underlying22 (by kernel_rfl) rfl rfl (h128.ev rfl) (h128.ev rfl) S128 (i := 3) rfl (S128.boxRd (i := 0) rfl) rfl (List.all_eq_true.1 rfl) ⟨(by omega), by decide⟩ fun A100 c100 a129 X129 h129 S129 => ?_
           refine ma h129 fun a130 h130 => ?_
           replace h130 := Has.also h130 (t := 9) (v := .slice A100 (inhL dir o g (l.take (k + 1))).length c100) ((show look _ 9 = some (.slice A100 ((inhL dir o g (l.take k)).length + 2) c100) from rfl).trans (by rw [hps, List.length_append]; (try rfl)))
           refine st_nil (go_block (go_then (st_reg ?_)))
           refine mv h130 fun a131 h131 => ?_
           refine sv h131 (ex_add (h131.ev rfl) (h131.ev rfl) (by omega)) fun a132 h132 => ?_
           refine ma h132 fun a133 h133 => ?_
           refine st_nil (go_then ?_)
           exact ⟨(k + 1, A100, c100), (by show l.length - (k + 1) < l.length - k; omega), hlt, h133.re ⟨rfl, rfl, rfl, rfl, rfl, rfl, rfl, trivial⟩, (by show St [] w _ [.row (.slice A100 (inhL dir o g (l.take (k + 1))).length c100) (inhL dir o g (l.take (k + 1))).length 111 4 (acesV (inhL dir o g (l.take (k + 1))))]; rw [hps, List.length_append, acesV_append]; exact (S129.sub (.cons _ (.cons _ (.cons _ (.cons_cons _ .slnil))))))⟩
        ·
         have hb1 : ¬ bitI l[k].f 1 = true := by rw [show bitI l[k].f 1 = false from hc5]; decide
         refine st_seq (st_reg ?_)
         refine mvv h78 fun a135 h135 => ?_
         apply sl_and h135 S74 102 rfl 3 105
         case ht =>
          intro gc102
          refine sy h135 (ex_move (h135.ev rfl)) fun a136 h136 => ?_
          refine sy h136 (ex_not (h136.ev rfl)) fun a137 h137 => ?_
          refine sv h137 (ex_pick_t (h137.ev rfl) gc102 (h137.ev rfl)) fun a138 h138 => ?_
          exact st_nil ⟨h138.mid (m := [(_, _), (_, _)]) rfl, S74⟩
         case hf =>
          intro gc102
          refine no h135 fun a139 h139 => ?_
          refine no h139 fun a140 h140 => ?_
          refine sv h140 (ex_pick_f (h140.ev rfl) gc102 (h140.ev rfl)) fun a141 h141 => ?_
          exact st_nil ⟨h141.mid (m := [(_, _), (_, _)]) rfl, S74⟩
         case h =>
          rintro a142 X142 ⟨h142, S142⟩
          refine st_nil (go_then ?_)
          refine st_if (h142.ev rfl) (fun hc7 => ?_) (fun hc7 => ?_)
          ·
           have h8 : (bitI l[k].f 0 && !bitI l[k].f 2) = true := hc7
           have hps : inhL dir o g (l.take (k + 1)) = inhL dir o g (l.take k) ++ [⟨l[k].k, 25, l[k].m, l[k].w⟩] := by rw [hta]; unfold inhR; rw [if_neg hd, if_neg hb1, if_pos h8]; rfl
           refine st_seq (st_reg ?_)
           refine vf h142 1 1 fun a143 h143 => ?_
           refine sl_store h143 (wn rfl) ⟨rfl, rfl⟩ (h143.ev rfl) (h143.ev rfl) rfl (by kernel_rfl) S142 (i := 0) rfl rfl rfl fun X144 S144 => ?_
           refine st_nil (go_then (st_reg ?_))
           refine mv h143 fun a145 h145 => ?_
           refine sv (v := aceU ⟨l[k].k, 25, l[k].m, l[k].w⟩) h145 (ex_loads (by kernel_rfl) (by kernel_rfl) (h145.ev rfl) (S144.cellsAll (i := 0) rfl)) fun a146 h146 => ?_
           refine sl_bslice (zc := [.int .i64 0, .int .i64 0, .int .i64 0, .int .i64 0]) (sz := 4) h146 (wn rfl) ⟨rfl, rfl⟩ rfl Tryz.underlying22 (by kernel_rfl) (by kernel_rfl) rfl rfl rfl (h146.evs2 rfl) rfl rfl rfl S144 fun b109 a147 X147 gb109 h147 S147 => ?_
           refine sl_append (z := .agg #[.int .i64 0, .int .i64 0, .int .i64 0, .int .i64 0]) (sz := 4) (bytes := 32) h147 (wn rfl) ⟨rfl, rfl⟩ rfl Tryz.underlying22 (by kernel_rfl) rfl rfl (h147.ev rfl) (h147.ev rfl) S147 (i := 2) rfl (S147.boxRd (i := 0) rfl) rfl (List.all_eq_true.1 rfl) ⟨(by omega), by decide⟩ fun A110 c110 a148 X148 h148 S148 => ?_
           refine ma h148 fun a149 h149 => ?_
           replace h149 := Has.also h149 (t := 9) (v := .slice A110 (inhL dir o g (l.take (k + 1))).length c110) ((show look _ 9 = some (.slice A110 ((inhL dir o g (l.take k)).length + 1) c110) from rfl).trans (by rw [hps, List.length_append]; (try rfl)))
           refine st_nil (go_block (go_then (st_reg ?_)))
           refine mv h149 fun a150 h150 => ?_
           refine sv h150 (ex_add (h150.ev rfl) (h150.ev rfl) (by omega)) fun a151 h151 => ?_
           refine ma h151 fun a152 h152 => ?_
           refine st_nil (go_then ?_)
           exact ⟨(k + 1, A110, c110), (by show l.length - (k + 1) < l.length - k; omega), hlt, h152.re ⟨rfl, rfl, rfl, rfl, rfl, rfl, rfl, trivial⟩, (by show St [] w _ [.row (.slice A110 (inhL dir o g (l.take (k + 1))).length c110) (inhL dir o g (l.take (k + 1))).length 111 4 (acesV (inhL dir o g (l.take (k + 1))))]; rw [hps, List.length_append, acesV_append]; exact (S148.sub (.cons _ (.cons _ (.cons_cons _ .slnil)))))⟩
          ·
           have h8 : ¬ (bitI l[k].f 0 && !bitI l[k].f 2) = true := by rw [show (bitI l[k].f 0 && !bitI l[k].f 2) = false from hc7]; decide
           have hps : inhL dir o g (l.take (k + 1)) = inhL dir o g (l.take k) := by rw [hta]; unfold inhR; rw [if_neg hd, if_neg hb1, if_neg h8, List.append_nil]
           replace h142 := Has.also h142 (t := 9) (v := .slice A6 (inhL dir o g (l.take (k + 1))).length c6) ((show look _ 9 = some (.slice A6 (inhL dir o g (l.take k)).length c6) from rfl).trans (by rw [hps]))
           refine wp_skip (go_block (go_then (st_reg ?_)))
           refine mv h142 fun a153 h153 => ?_
           refine sv h153 (ex_add (h153.ev rfl) (h153.ev rfl) (by omega)) fun a154 h154 => ?_
           refine ma h154 fun a155 h155 => ?_
           refine st_nil (go_then ?_)
           exact ⟨(k + 1, A6, c6), (by show l.length - (k + 1) < l.length - k; omega), hlt, h155.re ⟨rfl, rfl, rfl, rfl, rfl, rfl, rfl, trivial⟩, (by show St [] w _ [.row (.slice A6 (inhL dir o g (l.take (k + 1))).length c6) (inhL dir o g (l.take (k + 1))).length 111 4 (acesV (inhL dir o g (l.take (k + 1))))]; rw [hps]; exact (S142.sub (.cons _ (.cons_cons _ .slnil))))⟩
  case hB => kernel_rfl
  case hst => rfl
 ·
  have hge : k = l.length := by have := of_decide_eq_false hc0; have := hF0; omega
  refine wp_exit ?_
  refine go_exit_then ?_
  refine go_exit_then ?_
  refine go_exit ?_
  refine go_then (st_seq (st_reg ?_))
  refine mva h8 fun a157 h157 => ?_
  refine st_nil (go_then (wp_ret ?_))
  refine fin1 h157 rfl rfl ?_
  have et : inhL dir o g (l.take k) = inhL dir o g l := by rw [hge, List.take_length]
  have h9 : St [] w X4 [.row (.slice A6 (inhL dir o g (l.take k)).length c6) (inhL dir o g (l.take k)).length 111 4 (acesV (inhL dir o g (l.take k)))] := S4
  rw [et] at h9
  exact ⟨(A6, c6), by rw [et], h9⟩
end Go.Proofs.YtanicpgmbhfipaaGreatDoor
