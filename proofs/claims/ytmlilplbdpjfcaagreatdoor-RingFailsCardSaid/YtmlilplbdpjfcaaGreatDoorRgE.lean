/-
  Chapter 20: two restart areas, the later one first.
  Chapter 20: the restart areas that are read.
-/
import Derived.Test.YtmlilplbdpjfcaaGreatDoorRgD
import Derived.Test.YtmlilplbdpjfcaaGreatDoorShelf
namespace Go.Proofs.YtmlilplbdpjfcaaGreatDoor
set_option linter.unusedVariables false
set_option linter.unusedSimpArgs false
set_option maxRecDepth 4000
open Go.RowKit Go.Sort
def rstsV (l : List RstP) : List Value := (l.map fun x => [Value.int .i64 x.s, .int .i64 x.c, .int .i64 x.o]).flatten
def RstBd (x : RstP) : Prop := 0 ≤ x.s ∧ x.s ≤ 1000000
theorem rcmp_any (a b : RstP) (ha : RstBd a) (hb : RstBd b) (w : World) :
 Calls Tryz.prog 108 #[rstV a, rstV b] w fun e w' => e = .returned (.int .i64 (b.s - a.s)) ∧ Below w.heap.size w w' := by
 unfold RstBd at ha hb
 refine st_enter (N := 10) Tryz.func108 rfl rfl rfl (fun a0 h0 => ?_)
 have S0 := St.init w
 refine st_seq (st_reg ?_)
 refine nb h0 rfl rfl S0 fun b2 a1 X1 gb2 h1 S1 => ?_
 refine nb h1 rfl rfl S1 fun b3 a2 X2 gb3 h2 S2 => ?_
 refine ma h2 rfl rfl fun a3 h3 => ?_
 refine nsr ?_
 refine vf h3 0 0 rfl rfl rfl fun a4 h4 => ?_
 refine vl h4 S2 0 rfl rfl rfl rfl fun a5 h5 => ?_
 refine vf h5 0 0 rfl rfl rfl fun a6 h6 => ?_
 refine vl h6 S2 1 rfl rfl rfl rfl fun a7 h7 => ?_
 refine sv h7 (ex_sub (h7.ev rfl) (h7.ev rfl) ⟨by omega, by omega⟩) fun a8 h8 => ?_
 refine ma h8 rfl rfl fun a9 h9 => ?_
 refine st_nil (go_then (wp_ret ?_))
 refine fin1 h9 rfl rfl ?_
 exact ⟨rfl, S2.below⟩
def srt2 (l : List RstP) : List RstP := match l with
 | [a, b] => if a.s < b.s then [b, a] else [a, b]
 | l => l
theorem rdEl {X : World} {B b o sz k : Nat} {xs cs : List Value} (h : Rd X B (some ⟨b, o, none⟩) xs) (hk : (xs.drop (k * sz)).take cs.length = cs) : ∀ (j : Nat) (u : Value), cs[j]? = some u → X.cell? ⟨b, o + k * sz + j, none⟩ = some u := fun j u hu => by
 have h2 : xs[k * sz + j]? = some u := by
  have hj : j < cs.length := (List.getElem?_eq_some_iff.1 hu).1
  rw [← List.getElem?_drop, ← hu]
  conv => rhs; rw [← hk]
  rw [List.getElem?_take, if_pos hj]
 obtain ⟨b', o', e, _, hc⟩ := h (k * sz + j) u h2
 injection e with e
 injection e with e1 e2
 subst e1 e2
 rw [Nat.add_assoc]; exact hc
theorem isort_any (l : List RstP) (hl : l.length = 2) (hbd : ∀ x ∈ l, RstBd x) (g c : Nat) (w : World) (hrow : w.ownsRow 0 23 3 (.slice (some ⟨g, 0, none⟩) 2 c) 2 (rstsV l)) :
 Calls Tryz.prog 147 #[.slice (some ⟨g, 0, none⟩) 2 c, .int .i64 0, .int .i64 2, .func (.func 108) #[] #[]] w fun e w' => ∃ p : Unit, e = .returned (.tuple #[]) ∧ True ∧ St [g] w w' [.row (.slice (some ⟨g, 0, none⟩) 2 c) 2 23 3 (rstsV (srt2 l))] := by
 obtain ⟨a, b, rfl⟩ : ∃ a b, l = [a, b] := by
  match l, hl with
  | [a, b], _ => exact ⟨a, b, rfl⟩
 have hba := hbd a (by simp)
 have hbb := hbd b (by simp)
 have hbd' := hba
 unfold RstBd at hba hbb
 refine st_enter (N := 53) Tryz.func147 rfl rfl rfl (fun a0 h0 => ?_)
 have S0 := (St.initO hrow : St [g] w w _)
 refine st_seq (st_reg ?_)
 refine mv h0 rfl rfl fun a1 h1 => ?_
 refine sv h1 (ex_add (h1.ev rfl) (h1.ev rfl) (by omega)) fun a2 h2 => ?_
 refine ma h2 rfl rfl fun a3 h3 => ?_
 refine st_nil (go_then (wp_block ?_))
 refine st_loop h3 S0 [0, 1, 2, 3] (fun (i : Nat) => [(8, .int .i64 (1 + (i : Int)))]) (fun (i : Nat) => i ≤ 1) (fun i L => L.set 0 (.row (.slice (some ⟨g, 0, none⟩) 2 c) 2 23 3 (rstsV (if i = 0 then [a, b] else srt2 [a, b])))) (fun (i : Nat) => 1 - i) (0) ((by omega)) ⟨rfl, rfl, rfl, rfl, rfl, trivial⟩ (S0) ?_
 intro i a4 X4 hF0 h4 S4
 refine st_seq (st_seq (st_reg ?_))
 refine mv h4 rfl rfl fun a5 h5 => ?_
 refine mv h5 rfl rfl fun a6 h6 => ?_
 refine sv h6 (ex_lss (h6.ev rfl) (h6.ev rfl)) fun a7 h7 => ?_
 refine st_nil (go_then ?_)
 refine st_if (h7.ev rfl) (fun hc0 => ?_) (fun hc0 => ?_)
 ·
  have hi0 : i = 0 := by have := of_decide_eq_true hc0; omega
  replace S4 := S4.xsEq (i := 0) (xs' := rstsV (if (1 : Nat) = 1 then [a, b] else srt2 [a, b])) rfl (by rw [if_pos hi0]; rfl)
  refine wp_skip (go_then (st_seq (wp_block (st_seq (st_reg ?_)))))
  refine sv h7 (as_val (v' := .int .i64 ((1 : Nat) : Int)) (congrArg _ (by omega)) (ex_move (h7.ev rfl))) fun a8 h8 => ?_
  refine ma h8 rfl rfl fun a9 h9 => ?_
  refine st_nil (go_then (wp_block ?_))
  refine st_loop h9 S4 [17, 14, 13, 12, 8, 0, 1, 2, 3] (fun (j : Nat) => [(9, .int .i64 (j : Int))]) (fun (j : Nat) => j ≤ 1) (fun j L => L.set 0 (.row (.slice (some ⟨g, 0, none⟩) 2 c) 2 23 3 (rstsV (if j = 1 then [a, b] else srt2 [a, b])))) (fun (j : Nat) => j) (1) ((by omega)) ⟨rfl, rfl, rfl, rfl, rfl, rfl, rfl, rfl, rfl, rfl, trivial⟩ (S4) ?_
  intro j a10 X10 hF1 h10 S10
  refine st_seq (st_seq ?_)
  apply dr_flow h10 [false, false, false, false, false, false, false, false, false, false, false, false, false, false, false, false] _ (by kernel_rfl)
  case h =>
   refine qv h10 (fun X hX => ex_move (h10.ev rfl)) fun a11 h11 => ?_
   refine qv h11 (fun X hX => ex_move (h11.ev rfl)) fun a12 h12 => ?_
   refine qv h12 (fun X hX => ex_gtr (h12.ev rfl) (h12.ev rfl)) fun a13 h13 => ?_
   refine qv h13 (fun X hX => ex_move (h13.ev rfl)) fun a14 h14 => ?_
   apply sq_grp h14 21 rfl 12 33
   case ht =>
    intro gc21
    refine sq_val h14 (wanted_yes h14 _ rfl rfl rfl gc21) rfl rfl (fun X hX => (ex_move (h14.ev rfl))) fun a15 h15 => ?_
    refine sq_val h15 (wanted_yes h15 _ rfl rfl rfl gc21) rfl rfl (fun X hX => (ex_move (h15.ev rfl))) fun a16 h16 => ?_
    refine sq_val h16 (wanted_yes h16 _ rfl rfl rfl gc21) rfl rfl (fun X hX => (ex_move (h16.ev rfl))) fun a17 h17 => ?_
    refine sq_val h17 (wanted_yes h17 _ rfl rfl rfl gc21) rfl rfl (fun X hX => (ex_index (i := 1) (sz := 3) Tryz.underlying143 (by kernel_rfl) (h17.ev rfl) (h17.ev rfl) (by have := of_decide_eq_true gc21; omega) (by decide) rfl)) fun a18 h18 => ?_
    refine sq_val (v := rstV b) h18 (wanted_yes h18 _ rfl rfl rfl gc21) rfl rfl (fun X hX => (ex_loads (by kernel_rfl) (by kernel_rfl) (h18.ev rfl) (rdEl (k := 1) (cs := [.int .i64 b.s, .int .i64 b.c, .int .i64 b.o]) ((S10.grow hX).rdOf (i := 0) rfl) (by rw [if_pos (by have := of_decide_eq_true gc21; omega)]; rfl)))) fun a19 h19 => ?_
    refine sq_val h19 (wanted_yes h19 _ rfl rfl rfl gc21) rfl rfl (fun X hX => (ex_move (h19.ev rfl))) fun a20 h20 => ?_
    refine sq_val h20 (wanted_yes h20 _ rfl rfl rfl gc21) rfl rfl (fun X hX => (ex_move (h20.ev rfl))) fun a21 h21 => ?_
    refine sq_val h21 (wanted_yes h21 _ rfl rfl rfl gc21) rfl rfl (fun X hX => (ex_sub (h21.ev rfl) (h21.ev rfl) ⟨by omega, by omega⟩)) fun a22 h22 => ?_
    refine sq_val h22 (wanted_yes h22 _ rfl rfl rfl gc21) rfl rfl (fun X hX => (ex_index (i := 0) (sz := 3) Tryz.underlying143 (by kernel_rfl) (h22.ev rfl) (h22.ev rfl) (by have := of_decide_eq_true gc21; omega) (by decide) rfl)) fun a23 h23 => ?_
    refine sq_val (v := rstV a) h23 (wanted_yes h23 _ rfl rfl rfl gc21) rfl rfl (fun X hX => (ex_loads (by kernel_rfl) (by kernel_rfl) (h23.ev rfl) (rdEl (k := 0) (cs := [.int .i64 a.s, .int .i64 a.c, .int .i64 a.o]) ((S10.grow hX).rdOf (i := 0) rfl) (by rw [if_pos (by have := of_decide_eq_true gc21; omega)]; rfl)))) fun a24 h24 => ?_
    refine sq_bel h24 (wanted_yes h24 _ rfl rfl rfl gc21) rfl rfl (fun X => (ex_callv (fun _ _ => by kernel_rfl) (h24.ev rfl) (h24.evs rfl) rfl)) (fun X hX => rcmp_any b a (hbd b (by simp)) hbd' _) fun a25 h25 => ?_
    refine sq_val h25 (wanted_yes h25 _ rfl rfl rfl gc21) rfl rfl (fun X hX => (ex_lss (h25.ev rfl) (h25.ev rfl))) fun a26 h26 => ?_
    exact sq_nil (h26.mid (m := [(_, _), (_, _), (_, _), (_, _), (_, _), (_, _), (_, _), (_, _), (_, _), (_, _), (_, _)]) rfl)
   case hf =>
    intro gc21
    refine qo h14 rfl rfl rfl gc21 rfl rfl fun a27 h27 => ?_
    refine qo h27 rfl rfl rfl gc21 rfl rfl fun a28 h28 => ?_
    refine qo h28 rfl rfl rfl gc21 rfl rfl fun a29 h29 => ?_
    refine qo h29 rfl rfl rfl gc21 rfl rfl fun a30 h30 => ?_
    refine qo h30 rfl rfl rfl gc21 rfl rfl fun a31 h31 => ?_
    refine qo h31 rfl rfl rfl gc21 rfl rfl fun a32 h32 => ?_
    refine qo h32 rfl rfl rfl gc21 rfl rfl fun a33 h33 => ?_
    refine qo h33 rfl rfl rfl gc21 rfl rfl fun a34 h34 => ?_
    refine qo h34 rfl rfl rfl gc21 rfl rfl fun a35 h35 => ?_
    refine qo h35 rfl rfl rfl gc21 rfl rfl fun a36 h36 => ?_
    refine qo h36 rfl rfl rfl gc21 rfl rfl fun a37 h37 => ?_
    refine qo h37 rfl rfl rfl gc21 rfl rfl fun a38 h38 => ?_
    exact sq_nil ⟨_, h38.mid (m := [(_, _), (_, _), (_, _), (_, _), (_, _), (_, _), (_, _), (_, _), (_, _), (_, _), (_, _)]) rfl⟩
   case h =>
    intro v39 a39 hg33 h39
    refine sq_nil ?_
    refine nd_end fun X40 hX40 hΦ40 => ?_
    have S40 := S10.grow hX40
    refine sv h39 (ex_pick_and (h39.ev rfl) (h39.ev rfl) hg33 (h39.ev rfl)) fun a41 h41 => ?_
    refine st_nil (go_then ?_)
    refine st_if (h41.ev rfl) (fun hc1 => ?_) (fun hc1 => ?_)
    ·
     rw [Bool.and_eq_true, decide_eq_true_eq, decide_eq_true_eq] at hc1
     have hj1 : j = 1 := by omega
     have hlt : a.s < b.s := by omega
     replace S40 := S40.xsEq (i := 0) (xs' := rstsV [a, b]) rfl (by rw [if_pos hj1])
     refine wp_skip (go_then (st_seq (wp_block ?_)))
     apply dr_flowM h41 (St.domAt S40 (i := 0) rfl) [(15, (St.domAt S40 (i := 0) rfl))] [] [false, false, false, false, false, false, false, false, false, true, false, false, false, true, false, true] _ (by kernel_rfl) (all1 (fun b hb => hb))
     case h =>
      refine qv h41 (fun X hX => ex_move (h41.ev rfl)) fun a42 h42 => ?_
      refine qv h42 (fun X hX => ex_move (h42.ev rfl)) fun a43 h43 => ?_
      refine qv h43 (fun X hX => ex_move (h43.ev rfl)) fun a44 h44 => ?_
      refine qv h44 (fun X hX => ex_move (h44.ev rfl)) fun a45 h45 => ?_
      refine qv h45 (fun X hX => ex_sub (h45.ev rfl) (h45.ev rfl) ⟨by omega, by omega⟩) fun a46 h46 => ?_
      refine qv h46 (fun X hX => ex_move (h46.ev rfl)) fun a47 h47 => ?_
      refine qv h47 (fun X hX => ex_move (h47.ev rfl)) fun a48 h48 => ?_
      refine qv h48 (fun X hX => ex_sub (h48.ev rfl) (h48.ev rfl) ⟨by omega, by omega⟩) fun a49 h49 => ?_
      refine qv h49 (fun X hX => ex_index (i := 0) (sz := 3) Tryz.underlying143 (by kernel_rfl) (h49.ev rfl) (h49.ev rfl) (by omega) (by decide) rfl) fun a50 h50 => ?_
      refine qv h50 (fun X hX => ex_move (h50.ev rfl)) fun a51 h51 => ?_
      refine qv h51 (fun X hX => ex_move (h51.ev rfl)) fun a52 h52 => ?_
      refine qv h52 (fun X hX => ex_index (i := 1) (sz := 3) Tryz.underlying143 (by kernel_rfl) (h52.ev rfl) (h52.ev rfl) (by omega) (by decide) rfl) fun a53 h53 => ?_
      refine qv h53 (fun X hX => ex_index (i := 1) (sz := 3) Tryz.underlying143 (by kernel_rfl) (h53.ev rfl) (h53.ev rfl) (by omega) (by decide) rfl) fun a54 h54 => ?_
      refine sq_nil ?_
      apply nm_early (k := 9) (deps := []) (R := IsVal (rstV a)) h54 rfl rfl rfl (by kernel_rfl) IsVal.stable (all1 IsVal.kp) all0
      case hx => exact fun X hX hΦ => lv_val (ex_loads (by kernel_rfl) (by kernel_rfl) (h54.ev rfl) (rdEl (k := 0) (cs := [.int .i64 a.s, .int .i64 a.c, .int .i64 a.o]) ((S40.grow hX).rdOf (i := 0) rfl) rfl))
      intro v46 a55 h55
      apply nm_early (k := 13) (deps := []) (R := IsVal (rstV b)) h55 rfl rfl rfl (by kernel_rfl) IsVal.stable (all1 IsVal.kp) all0
      case hx => exact fun X hX hΦ => lv_val (ex_loads (by kernel_rfl) (by kernel_rfl) (h55.ev rfl) (rdEl (k := 1) (cs := [.int .i64 b.s, .int .i64 b.c, .int .i64 b.o]) ((S40.grow hX).rdOf (i := 0) rfl) rfl))
      intro v50 a56 h56
      apply nm_sto (k := 15) (deps := [9]) (R := IsRow _ _ _ _ _) h56 rfl rfl rfl IsRow.stable all0
      case hx => exact fun X hX hΦ => lv_rowset rfl (h56.ev rfl) ((h56.ev rfl).trans (told_get (k := 9) hΦ rfl rfl)) rfl (by kernel_rfl) ((S40.grow hX).at_ (i := 0) rfl) rfl (by show 0 + 1 * 3 + 3 ≤ 2 * 3; decide)
      intro vs15
      refine nm_end (O := (St.domAt S40 (i := 0) rfl)) (all1 (fun b hb => hb)) fun X57 hX57 hΦ57 => ?_
      have q9 : v46 = _ := told_all hΦ57 (k := 9) rfl
      subst q9
      have q13 : v50 = _ := told_all hΦ57 (k := 13) rfl
      subst q13
      have S57 := S40.growSet (i := 0) rfl hX57 (told_all hΦ57 (k := 15) rfl : IsRow _ _ _ _ _ vs15 X57)
      refine sv h56 (ex_index (i := 0) (sz := 3) Tryz.underlying143 (by kernel_rfl) (h56.ev rfl) (h56.ev rfl) (by omega) (by decide) rfl) fun a58 h58 => ?_
      refine sl_rowset h58 (wn rfl) ⟨rfl, rfl⟩ (h58.ev rfl) (h58.ev rfl) rfl (by kernel_rfl) S57 (i := 0) rfl rfl (by show 0 + 0 * 3 + 3 ≤ 2 * 3; decide) fun X59 S59 => ?_
      replace S59 := S59.xsEq (i := 0) (xs' := rstsV (if (0 : Nat) = 1 then [a, b] else srt2 [a, b])) rfl (by unfold srt2; simp only; rw [if_pos hlt]; rfl)
      refine st_nil (go_block (go_then (st_reg ?_)))
      refine mv h58 rfl rfl fun a60 h60 => ?_
      refine sv h60 (as_val (v' := .int .i64 ((0 : Nat) : Int)) (congrArg _ (by omega)) (ex_sub (h60.ev rfl) (h60.ev rfl) (by omega))) fun a61 h61 => ?_
      refine ma h61 rfl rfl fun a62 h62 => ?_
      refine st_nil (go_then ?_)
      exact ⟨0, (by omega), (by omega), h62.re ⟨rfl, rfl, rfl, rfl, rfl, rfl, rfl, rfl, rfl, rfl, trivial⟩, S59⟩
     case hB => kernel_rfl
    ·
     replace S40 := S40.xsEq (i := 0) (xs' := rstsV (srt2 [a, b])) rfl (by
      by_cases hj1 : j = 1
      · rw [if_pos hj1]
        have : ¬ a.s < b.s := by
         intro h
         rw [Bool.and_eq_false_iff, decide_eq_false_iff_not, decide_eq_false_iff_not] at hc1
         omega
        unfold srt2
        simp only
        rw [if_neg this]
      · rw [if_neg hj1])
     refine wp_exit ?_
     refine go_exit_then ?_
     refine go_exit_then ?_
     refine go_exit ?_
     refine go_block (go_then (st_reg ?_))
     refine mv h41 rfl rfl fun a63 h63 => ?_
     refine sv h63 (as_val (v' := .int .i64 (1 + ((i + 1 : Nat) : Int))) (congrArg _ (by omega)) (ex_add (h63.ev rfl) (h63.ev rfl) (by omega))) fun a64 h64 => ?_
     refine ma h64 rfl rfl fun a65 h65 => ?_
     refine st_nil (go_then ?_)
     exact ⟨i + 1, (by omega), (by omega), h65.re ⟨rfl, rfl, rfl, rfl, rfl, trivial⟩, S40⟩
  case hB => kernel_rfl
  case hst => rfl
 ·
  have hi1 : i = 1 := by have := of_decide_eq_false hc0; omega
  replace S4 := S4.xsEq (i := 0) (xs' := rstsV (srt2 [a, b])) rfl (by rw [if_neg (by omega)])
  refine wp_exit ?_
  refine go_exit_then ?_
  refine go_exit_then ?_
  refine go_exit ?_
  refine fin0 h7 rfl ?_
  exact ⟨(), rfl, trivial, S4⟩
theorem isort0_any (n c : Nat) (A : Option Addr) (hn : n ≤ 1) (w : World) :
 Calls Tryz.prog 147 #[.slice A n c, .int .i64 0, .int .i64 n, .func (.func 108) #[] #[]] w fun e w' => e = .returned (.tuple #[]) ∧ Below w.heap.size w w' := by
 refine st_enter (N := 53) Tryz.func147 rfl rfl rfl (fun a0 h0 => ?_)
 have S0 := St.init w
 refine st_seq (st_reg ?_)
 refine mv h0 rfl rfl fun a1 h1 => ?_
 refine sv h1 (ex_add (h1.ev rfl) (h1.ev rfl) (by omega)) fun a2 h2 => ?_
 refine ma h2 rfl rfl fun a3 h3 => ?_
 refine st_nil (go_then (wp_block ?_))
 refine st_loop h3 S0 [0, 1, 2, 3] (fun (i : Nat) => [(8, .int .i64 1)]) (fun (i : Nat) => i = 0) (fun (i : Nat) L => L) (fun (i : Nat) => i) (0) (rfl) ⟨rfl, rfl, rfl, rfl, rfl, trivial⟩ (S0) ?_
 intro i a4 X4 hF0 h4 S4
 refine st_seq (st_seq (st_reg ?_))
 refine mv h4 rfl rfl fun a5 h5 => ?_
 refine mv h5 rfl rfl fun a6 h6 => ?_
 refine sv h6 (ex_lss (h6.ev rfl) (h6.ev rfl)) fun a7 h7 => ?_
 refine st_nil (go_then ?_)
 refine st_if_f (h7.ev rfl) ((by rw [decide_eq_false]; omega)) ?_
 refine wp_exit ?_
 refine go_exit_then ?_
 refine go_exit_then ?_
 refine go_exit ?_
 refine fin0 h7 rfl ?_
 exact ⟨rfl, S4.below⟩
theorem isort_all (l : List RstP) (hl : l.length ≤ 2) (hbd : ∀ x ∈ l, RstBd x) (v : Value) (w : World) (hrow : w.ownsRow 0 23 3 v l.length (rstsV l)) :
 Calls Tryz.prog 147 #[v, .int .i64 0, .int .i64 l.length, .func (.func 108) #[] #[]] w fun e w' => ∃ p : Unit, e = .returned (.tuple #[]) ∧ True ∧ St v.ownBlock.toList w w' [.row v l.length 23 3 (rstsV (srt2 l))] := by
 rcases Nat.lt_or_ge l.length 2 with h | h
 · have hs : srt2 l = l := by
    match l, h with
    | [], _ => rfl
    | [a], _ => rfl
   obtain ⟨A, c, rfl, _⟩ := ownsRow_form hrow
   refine (isort0_any l.length c A (by omega) w).mono ?_
   rintro e w' ⟨rfl, hb⟩
   rw [hs]
   exact ⟨(), rfl, trivial, (St.initO hrow).grow hb⟩
 · have h2 : l.length = 2 := by omega
   rw [h2] at hrow ⊢
   rcases hrow.2 with ⟨_, h0⟩ | ⟨g, c, _, rfl, _⟩
   · cases h0
   · exact isort_any l h2 hbd g c w hrow
theorem psort_any (l : List RstP) (hl : l.length ≤ 2) (hbd : ∀ x ∈ l, RstBd x) (v : Value) (k : Int) (w : World) (hrow : w.ownsRow 0 23 3 v l.length (rstsV l)) :
 Calls Tryz.prog 133 #[v, .int .i64 0, .int .i64 l.length, .int .i64 k, .func (.func 108) #[] #[]] w fun e w' => ∃ p : Unit, e = .returned (.tuple #[]) ∧ True ∧ St v.ownBlock.toList w w' [.row v l.length 23 3 (rstsV (srt2 l))] := by
 refine st_enter (N := 148) Tryz.func133 rfl rfl rfl (fun a0 h0 => ?_)
 have S0 := (St.initO hrow : St v.ownBlock.toList w w _)
 refine st_seq (st_reg ?_)
 refine ma h0 rfl rfl fun a1 h1 => ?_
 refine nsr ?_
 refine ma h1 rfl rfl fun a2 h2 => ?_
 refine st_nil (go_then (wp_block ?_))
 refine st_loop h2 S0 [0, 4] (fun (i : Nat) => [(10, .bool true), (11, .bool true), (3, .int .i64 k), (1, .int .i64 0), (2, .int .i64 l.length)]) (fun (i : Nat) => True) (fun i L => L) (fun (i : Nat) => i) (0) (trivial) ⟨rfl, rfl, rfl, rfl, rfl, rfl, rfl, trivial⟩ (S0) ?_
 intro i a3 X3 hF0 h3 S3
 refine wp_block (st_seq (st_reg ?_))
 refine mv h3 rfl rfl fun a4 h4 => ?_
 refine mv h4 rfl rfl fun a5 h5 => ?_
 refine sv h5 (ex_sub (h5.ev rfl) (h5.ev rfl) (by omega)) fun a6 h6 => ?_
 refine ma h6 rfl rfl fun a7 h7 => ?_
 refine st_nil (go_then (st_seq (st_seq (st_reg ?_))))
 refine mv h7 rfl rfl fun a8 h8 => ?_
 refine sv h8 (ex_leq (h8.ev rfl) (h8.ev rfl)) fun a9 h9 => ?_
 refine st_nil (go_then ?_)
 refine st_if_t (h9.ev rfl) ((by rw [decide_eq_true_eq]; omega)) ?_
 refine st_seq (st_reg ?_)
 refine mv h9 rfl rfl fun a10 h10 => ?_
 refine mv h10 rfl rfl fun a11 h11 => ?_
 refine mv h11 rfl rfl fun a12 h12 => ?_
 refine mv h12 rfl rfl fun a13 h13 => ?_
 refine sl_updx h13 (wn rfl) (ex_call (fun _ _ => by kernel_rfl) (h13.evs rfl) rfl) rfl rfl S3 (i := 0) rfl row_dom (isort_all l hl hbd v _ (S3.at_ (i := 0) rfl)) fun p30 a14 X14 h14 hF30 S14 => ?_
 refine st_nil (go_then (wp_ret (ret_then (ret_block (ret_then (ret_block ?_))))))
 refine fin0r h14 rfl ?_
 exact ⟨(), rfl, trivial, S14⟩
theorem sortR_any (l : List RstP) (hl : l.length ≤ 2) (hbd : ∀ x ∈ l, RstBd x) (v : Value) (w : World) (hrow : w.ownsRow 0 23 3 v l.length (rstsV l)) :
 Calls Tryz.prog 107 #[v, .func (.func 108) #[] #[]] w fun e w' => ∃ p : Unit, e = .returned (.tuple #[]) ∧ True ∧ St v.ownBlock.toList w w' [.row v l.length 23 3 (rstsV (srt2 l))] := by
 obtain ⟨A, c, rfl, _⟩ := ownsRow_form hrow
 have hbl : ∀ (n : Nat), n ≤ 2 → ∀ w, Calls Tryz.prog 134 #[.int .u64 n] w fun e w' => e = .returned (.int .i64 (Lib.bitLen n)) ∧ w = w' := fun n hn w => by
  refine (Tryz.bits_Len n w (by omega) (by omega)).mono ?_
  rintro e w' ⟨rfl, rfl⟩
  exact ⟨by rw [Int.toNat_natCast], rfl⟩
 refine st_enter (N := 14) Tryz.func107 rfl rfl rfl (fun a0 h0 => ?_)
 have S0 := (St.initO hrow : St (Value.slice A l.length c).ownBlock.toList w w _)
 refine st_seq (st_reg ?_)
 refine mv h0 rfl rfl fun a1 h1 => ?_
 refine sv h1 (ex_len Tryz.underlying143 (h1.ev rfl)) fun a2 h2 => ?_
 refine ma h2 rfl rfl fun a3 h3 => ?_
 refine st_nil (go_then (st_reg ?_))
 refine mv h3 rfl rfl fun a4 h4 => ?_
 refine mv h4 rfl rfl fun a5 h5 => ?_
 refine mv h5 rfl rfl fun a6 h6 => ?_
 refine sv h6 (ex_convin (by kernel_rfl) Tryz.underlying163 (h6.ev rfl) (wrap_u64 (by omega))) fun a7 h7 => ?_
 refine sl_pure h7 (wn rfl) (ex_call (fun _ _ => by kernel_rfl) (h7.evs rfl) rfl) rfl rfl (hbl _ hl _) fun a8 h8 => ?_
 refine mv h8 rfl rfl fun a9 h9 => ?_
 refine sl_updx h9 (wn rfl) (ex_call (fun _ _ => by kernel_rfl) (h9.evs rfl) rfl) rfl rfl S0 (i := 0) rfl row_dom (psort_any l hl hbd (.slice A l.length c) _ _ (S0.at_ (i := 0) rfl)) fun p13 a10 X10 h10 hF13 S10 => ?_
 refine st_nil ?_
 refine fin0 h10 rfl ?_
 exact ⟨(), rfl, trivial, S10⟩
end Go.Proofs.YtmlilplbdpjfcaaGreatDoor
namespace Go.Proofs.YtmlilplbdpjfcaaGreatDoor
set_option linter.unusedVariables false
set_option linter.unusedSimpArgs false
set_option maxRecDepth 4000
open Go.RowKit Go.Sort
def arL (x : RdrP) (i : Nat) : List RstP := (List.range i).filterMap fun k => arIn x.s x.pg k
theorem arL_succ (x : RdrP) (i : Nat) : arL x (i + 1) = arL x i ++ (arIn x.s x.pg i).toList := by
 unfold arL
 rw [List.range_succ, List.filterMap_append]
 cases h : arIn x.s x.pg i <;> simp [h]
theorem arL_length (x : RdrP) : ∀ i, (arL x i).length ≤ i
 | 0 => Nat.zero_le _
 | i + 1 => by
  rw [arL_succ, List.length_append]
  have := arL_length x i
  cases arIn x.s x.pg i <;> simp <;> omega
theorem rs_list (x : RdrP) : rsIn x.s x.pg = match srt2 (arL x 2) with
 | [] => none
 | [a] => some (a, rst0)
 | a :: b :: _ => some (a, if b.s = a.s - 1 then b else rst0) := by
 have e2 : arL x 2 = (arIn x.s x.pg 0).toList ++ (arIn x.s x.pg 1).toList := by rw [arL_succ, arL_succ]; rfl
 unfold rsIn
 rw [e2]
 cases arIn x.s x.pg 0 <;> cases arIn x.s x.pg 1
 · rfl
 · rfl
 · rfl
 · rename_i a b
   show (if a.s < b.s then _ else _) = _
   simp only [Option.toList, List.cons_append, List.nil_append, srt2]
   by_cases h : a.s < b.s
   · rw [if_pos h, if_pos h]
   · rw [if_neg h, if_neg h]
theorem rso_bd (l : List UInt8) (pg : Int) : RstBd (rsoR l pg) := by
 unfold rsoR RstBd
 by_cases h : rsoE l pg = 0
 · rw [if_pos h]
   have h2 : rstE (rsoV (opL l)) = 0 := by
    unfold rsoE at h
    repeat' split at h
    all_goals first | omega | skip
    all_goals (rename_i h3 _; simpa using h3)
   have h3 := rstB_bd ((unl_zero (by decide)).1 h2)
   omega
 · rw [if_neg h]; decide
theorem ar_bd {x : RdrP} {i : Nat} : ∀ y ∈ arL x i, RstBd y := fun y hy => by
 unfold arL at hy
 obtain ⟨k, _, hk⟩ := List.mem_filterMap.1 hy
 unfold arIn at hk
 split at hk
 · injection hk with hk; rw [← hk]; exact rso_bd _ _
 · cases hk
theorem rso_l (l : List UInt8) (pg : Int) (w : World) (hl : l.length ≤ 1000000) :
 Calls Tryz.prog 36 #[.string (bs l), .int .i64 pg] w fun e w' => e = .returned (.tuple #[rstV (rsoR l pg), .int .i64 (rsoE l pg)]) ∧ Below w.heap.size w w' := by
 have := RestartOf_any (bs l) pg w (by rw [bs_size]; exact hl)
 rw [bl_bs] at this; exact this
theorem rstsV_get (l : List RstP) (k : Nat) (hk : k < l.length) : ((rstsV l).drop (k * 3)).take 3 = [Value.int .i64 (l.getD k rst0).s, .int .i64 (l.getD k rst0).c, .int .i64 (l.getD k rst0).o] := by
 induction l generalizing k with
 | nil => simp at hk
 | cons x l ih =>
  cases k with
  | zero => rfl
  | succ k =>
   have : (rstsV (x :: l)).drop ((k + 1) * 3) = (rstsV l).drop (k * 3) := by
    show ([Value.int .i64 x.s, .int .i64 x.c, .int .i64 x.o] ++ rstsV l).drop ((k + 1) * 3) = _
    rw [List.drop_append]
    simp [show (k + 1) * 3 - 3 = k * 3 by omega]; omega
   rw [this, ih k (by simpa using hk)]
   rfl
theorem rdRst {X : World} {B b o : Nat} {l : List RstP} {k : Nat} (h : Rd X B (some ⟨b, o, none⟩) (rstsV l)) (hk : k < l.length) : ∀ (j : Nat) (u : Value), [Value.int .i64 (l.getD k rst0).s, .int .i64 (l.getD k rst0).c, .int .i64 (l.getD k rst0).o][j]? = some u → X.cell? ⟨b, o + k * 3 + j, none⟩ = some u :=
 rdEl h (rstsV_get l k hk)
theorem srt2_length (l : List RstP) : (srt2 l).length = l.length := by
 unfold srt2
 split
 · split <;> rfl
 · rfl
theorem srt2_bd {l : List RstP} (h : ∀ y ∈ l, RstBd y) : ∀ y ∈ srt2 l, RstBd y := fun y hy => by
 unfold srt2 at hy
 split at hy
 · split at hy
   · rcases List.mem_cons.1 hy with rfl | hy
     · exact h _ (by simp)
     · rw [List.mem_singleton.1 hy]; exact h _ (by simp)
   · exact h y hy
 · exact h y hy
theorem getD_bd {l : List RstP} (h : ∀ y ∈ l, RstBd y) (k : Nat) : RstBd (l.getD k rst0) := by
 rw [List.getD_eq_getElem?_getD]
 cases hk : l[k]? with
 | none => exact ⟨by decide, by decide⟩
 | some y => exact h y (List.mem_of_getElem? hk)
def rstO (x : RdrP) : Option (RstP × RstP) := rsIn x.s x.pg
theorem rdrestart_any (x : RdrP) (hx : RdrB x) (R G c : Nat) (tp mp : Value) (w : World) (hbox : Box w R #[.slice (some ⟨G, 0, none⟩) x.pg c, tp, mp] 110) (hrow : w.ownsRow 0 9 1 (.slice (some ⟨G, 0, none⟩) x.pg c) x.pg (rowS (pagesP x))) :
 Calls Tryz.prog 69 #[.pointer (some ⟨R, 0, none⟩)] w fun e w' => e = .returned (.tuple #[rstV ((rstO x).getD (rst0, rst0)).1, rstV ((rstO x).getD (rst0, rst0)).2, .bool (rstO x).isSome]) ∧ Below w.heap.size w w' := by
 have hpg := hx.pg
 have hlen : x.s.length = 512 * x.pg := hx.len
 refine st_enter (N := 70) Tryz.func69 rfl rfl rfl (fun a0 h0 => ?_)
 have S0 := St.init w
 refine st_seq (st_reg ?_)
 refine na (.agg #[.int .i64 0, .int .i64 0, .int .i64 0]) h0 rfl S0 fun b2 a1 X1 gb2 h1 S1 => ?_
 refine na (.agg #[.int .i64 0, .int .i64 0, .int .i64 0]) h1 rfl S1 fun b3 a2 X2 gb3 h2 S2 => ?_
 refine ma h2 rfl rfl fun a3 h3 => ?_
 refine nsr ?_
 refine ma h3 rfl rfl fun a4 h4 => ?_
 have S5 := S2.nilRow 23 3
 refine st_nil (go_then (st_seq (st_seq (st_reg ?_))))
 refine mv h4 rfl rfl fun a6 h6 => ?_
 refine st_nil (go_then (wp_block ?_))
 refine st_loop h6 S5 [4, 3, 2, 0] (fun (q : Nat × Option Addr × Nat) => [(9, .int .i64 (q.1 : Int)), (5, .slice q.2.1 (arL x q.1).length q.2.2)]) (fun (q : Nat × Option Addr × Nat) => q.1 ≤ 2) (fun q L => L.set 0 (.row (.slice q.2.1 (arL x q.1).length q.2.2) (arL x q.1).length 23 3 (rstsV (arL x q.1)))) (fun (q : Nat × Option Addr × Nat) => 2 - q.1) ((0, none, 0)) ((by decide)) ⟨rfl, rfl, rfl, rfl, rfl, rfl, trivial⟩ (S5) ?_
 intro q a7 X7 hF0 h7 S7
 refine st_seq (st_reg ?_)
 refine sv h7 (ex_lss (h7.ev rfl) (h7.ev rfl)) fun a8 h8 => ?_
 refine st_nil (go_then (st_seq ?_))
 refine st_if (h8.ev rfl) (fun hc0 => ?_) (fun hc0 => ?_)
 ·
  have hlt : q.1 < 2 := by have := of_decide_eq_true hc0; omega
  have hBl : (blkL x.s q.1).length = 512 := blkL_length hlen (by omega)
  refine wp_skip (go_then (st_seq (wp_block (st_seq (st_reg ?_)))))
  refine mv h8 rfl rfl fun a9 h9 => ?_
  refine ma h9 rfl rfl fun a10 h10 => ?_
  refine st_nil (go_then (st_seq ?_))
  apply dr_flowM h10 (fun _ => False) [] [(17, 23)] [false, false, false, false, false, false, false, false, false, false, false, false, false, false, false, false, true, true] _ (by kernel_rfl) all0
  case h =>
   refine qv h10 (fun X hX => ex_move (h10.ev rfl)) fun a11 h11 => ?_
   refine qv h11 (fun X hX => ex_nilck (h11.ev rfl)) fun a12 h12 => ?_
   refine qv h12 (fun X hX => ex_field (off := 0) (by kernel_rfl) (h12.ev rfl) rfl) fun a13 h13 => ?_
   refine qv h13 (fun X hX => ex_load (by kernel_rfl) (h13.ev rfl) ((box_all (hbox.below (S7.grow (Grw.below hX)).below)) 0 _ rfl)) fun a14 h14 => ?_
   refine qv h14 (fun X hX => ex_move (h14.ev rfl)) fun a15 h15 => ?_
   refine qv h15 (fun X hX => ex_index (i := q.1) (sz := 1) Tryz.underlying80 (by kernel_rfl) (h15.ev rfl) (h15.ev rfl) rfl (by omega) rfl) fun a16 h16 => ?_
   refine qv (v := strV (bs (blkL x.s q.1))) h16 (fun X hX => ex_load (by kernel_rfl) (h16.ev rfl) ((rdAt1 ((S7.grow (Grw.below hX)).rd0 (Rd.of_own hrow)) (pagesP_get q.1 (by omega))) 0 _ rfl)) fun a17 h17 => ?_
   refine qv h17 (fun X hX => ex_move (h17.ev rfl)) fun a18 h18 => ?_
   refine qv h18 (fun X hX => ex_nilck (h18.ev rfl)) fun a19 h19 => ?_
   refine qv h19 (fun X hX => ex_field (off := 0) (by kernel_rfl) (h19.ev rfl) rfl) fun a20 h20 => ?_
   refine qv h20 (fun X hX => ex_load (by kernel_rfl) (h20.ev rfl) ((box_all (hbox.below (S7.grow (Grw.below hX)).below)) 0 _ rfl)) fun a21 h21 => ?_
   refine qv h21 (fun X hX => ex_len Tryz.underlying80 (h21.ev rfl)) fun a22 h22 => ?_
   refine sq_bel h22 (wn rfl) rfl rfl (fun X => (ex_call (fun _ _ => by kernel_rfl) (h22.evs rfl) rfl)) (fun X hX => rso_l (blkL x.s q.1) x.pg _ (by omega)) fun a23 h23 => ?_
   refine qv h23 (fun X hX => ex_move (h23.ev rfl)) fun a24 h24 => ?_
   refine qv h24 (fun X hX => ex_extract (h24.ev rfl) rfl) fun a25 h25 => ?_
   refine qv h25 (fun X hX => ex_extract (h25.ev rfl) rfl) fun a26 h26 => ?_
   refine sq_nil ?_
   apply nm_step (O := (fun _ => False)) (k := 16) (deps := []) (R := NewAny _ 3 _) h26 rfl rfl rfl all0 NewAny.stable all0 (all1 NewAny.newT)
   case hx => exact fun X hX hΦ => lv_any (ex_alloc (z := .agg #[.int .i64 0, .int .i64 0, .int .i64 0]) (by kernel_rfl)) hX.size rfl
   intro v7 a27 h27
   apply nm_store (k := 17) (deps := [16]) (kx := 16) (x := 7) (y := 26) (Y := valY _) h27 rfl ⟨rfl, rfl⟩ rfl all0 ⟨rfl, rfl⟩ rfl valY_dep rfl rfl (n := 3) (by kernel_rfl) all0
   case hx =>
    intro X hX hΦ
    exact ⟨(told_get (k := 16) hΦ rfl rfl), rfl, rfl⟩
   intro vs17
   refine nm_end (O := (fun _ => False)) all0 fun X28 hX28 hΦ28 => ?_
   obtain ⟨b7, rfl, gb7, qb7⟩ := StoY.val (v := vs17) h27 rfl (told_all hΦ28 (k := 17) rfl)
   have S28 := S7.add (Grw.below hX28) (e := .box _ _ _) qb7 (fun b hb => by cases hb; exact ⟨gb7, Box.lt qb7⟩)
   refine ma h27 rfl rfl fun a29 h29 => ?_
   refine nsr ?_
   refine mv h29 rfl rfl fun a30 h30 => ?_
   refine sv h30 (ex_eql (h30.ev rfl) (h30.ev rfl)) fun a31 h31 => ?_
   refine mv h31 rfl rfl fun a32 h32 => ?_
   apply sl_and h32 S28 30 rfl 5 35
   case ht =>
    intro gc30
    refine sl_val (v := rstV (rsoR (blkL x.s q.1) x.pg)) h32 (wanted_yes h32 _ rfl rfl rfl gc30) (ex_loads (by kernel_rfl) (by kernel_rfl) (h32.ev rfl) (S28.cellsAll (i := 0) rfl)) rfl rfl fun a33 h33 => ?_
    refine sl_bel h33 (wanted_yes h33 _ rfl rfl rfl gc30) (ex_call (fun _ _ => by kernel_rfl) (h33.evs rfl) rfl) rfl rfl S28 (restartIn_any (rsoR (blkL x.s q.1) x.pg) (rso_bd _ _).1 _) fun a34 X34 h34 S34 => ?_
    refine sy h34 rfl rfl rfl gc30 (ex_move (h34.ev rfl)) rfl rfl fun a35 h35 => ?_
    refine sy h35 rfl rfl rfl gc30 (ex_eql (h35.ev rfl) (h35.ev rfl)) rfl rfl fun a36 h36 => ?_
    refine sv h36 (ex_pick_t (h36.ev rfl) gc30 (h36.ev rfl)) fun a37 h37 => ?_
    exact st_nil ⟨h37.mid (m := [(_, _), (_, _), (_, _), (_, _)]) rfl, S34⟩
   case hf =>
    intro gc30
    refine no h32 rfl rfl rfl gc30 rfl rfl fun a38 h38 => ?_
    refine no h38 rfl rfl rfl gc30 rfl rfl fun a39 h39 => ?_
    refine no h39 rfl rfl rfl gc30 rfl rfl fun a40 h40 => ?_
    refine no h40 rfl rfl rfl gc30 rfl rfl fun a41 h41 => ?_
    refine sv h41 (ex_pick_f (h41.ev rfl) gc30 (h41.ev rfl)) fun a42 h42 => ?_
    exact st_nil ⟨h42.mid (m := [(_, _), (_, _), (_, _), (_, _)]) rfl, S28⟩
   case h =>
    rintro a43 X43 ⟨h43, S43⟩
    refine st_nil (go_then ?_)
    refine st_if (h43.ev rfl) (fun hc1 => ?_) (fun hc1 => ?_)
    ·
     have har : arIn x.s x.pg q.1 = some (rsoR (blkL x.s q.1) x.pg) := by
      rw [Bool.and_eq_true, beq_iff_eq, beq_iff_eq] at hc1
      unfold arIn
      rw [if_pos ⟨hc1.1, hc1.2⟩]
     have e4 : arL x (q.1 + 1) = arL x q.1 ++ [rsoR (blkL x.s q.1) x.pg] := by rw [arL_succ, har]; rfl
     have e5 : (arL x (q.1 + 1)).length = (arL x q.1).length + 1 := by rw [e4, List.length_append]; rfl
     have hal := arL_length x q.1
     refine st_reg ?_
     refine mv h43 rfl rfl fun a44 h44 => ?_
     refine sv (v := rstV (rsoR (blkL x.s q.1) x.pg)) h44 (ex_loads (by kernel_rfl) (by kernel_rfl) (h44.ev rfl) (S43.cellsAll (i := 0) rfl)) fun a45 h45 => ?_
     refine sl_bslice (zc := [.int .i64 0, .int .i64 0, .int .i64 0]) (sz := 3) h45 (wn rfl) ⟨rfl, rfl⟩ rfl Tryz.underlying143 (by kernel_rfl) (by kernel_rfl) rfl rfl rfl (h45.evs2 rfl) rfl rfl rfl S43 fun b38 a46 X46 gb38 h46 S46 => ?_
     refine sl_append (z := .agg #[.int .i64 0, .int .i64 0, .int .i64 0]) (sz := 3) (bytes := 24) h46 (wn rfl) ⟨rfl, rfl⟩ rfl Tryz.underlying143 (by kernel_rfl) rfl rfl (h46.ev rfl) (h46.ev rfl) S46 (i := 2) rfl (S46.boxRd (i := 0) rfl) rfl (List.all_eq_true.1 rfl) ⟨(by omega), by decide⟩ fun A39 c39 a47 X47 h47 S47 => ?_
     refine ma h47 rfl rfl fun a48 h48 => ?_
     replace S47 := S47.xsEq (i := 2) (xs' := rstsV (arL x (q.1 + 1))) rfl (by rw [e4]; unfold rstsV; rw [List.map_append, List.flatten_append]; rfl)
     rw [← e5] at h48 S47
     refine st_nil (go_block (go_then (st_reg ?_)))
     refine sv h48 (ex_add (h48.ev rfl) (h48.ev rfl) (by omega)) fun a49 h49 => ?_
     refine mv h49 rfl rfl fun a50 h50 => ?_
     refine st_nil (go_then ?_)
     exact ⟨(q.1 + 1, A39, c39), (by show 2 - (q.1 + 1) < 2 - q.1; omega), (by show q.1 + 1 ≤ 2; omega), h50.re ⟨rfl, rfl, rfl, rfl, rfl, rfl, trivial⟩, S47.sub (.cons _ (.cons _ (.cons_cons _ (.cons_cons _ (.cons_cons _ .slnil)))))⟩
    ·
     have har : arIn x.s x.pg q.1 = none := by
      unfold arIn
      rw [if_neg]
      rintro ⟨h1, h2⟩
      rw [h1, h2] at hc1; simp at hc1
     have e4 : arL x (q.1 + 1) = arL x q.1 := by rw [arL_succ, har]; simp
     rw [← e4] at h43 S43
     refine wp_skip (go_block (go_then (st_reg ?_)))
     refine sv h43 (ex_add (h43.ev rfl) (h43.ev rfl) (by omega)) fun a51 h51 => ?_
     refine mv h51 rfl rfl fun a52 h52 => ?_
     refine st_nil (go_then ?_)
     exact ⟨(q.1 + 1, q.2.1, q.2.2), (by show 2 - (q.1 + 1) < 2 - q.1; omega), (by show q.1 + 1 ≤ 2; omega), h52.re ⟨rfl, rfl, rfl, rfl, rfl, rfl, trivial⟩, S43.sub (.cons _ (.cons_cons _ (.cons_cons _ (.cons_cons _ .slnil))))⟩
  case hB => kernel_rfl
 ·
  have hge : q.1 = 2 := by have := of_decide_eq_false hc0; omega
  refine wp_exit ?_
  refine go_exit_then ?_
  refine go_exit_then ?_
  refine go_exit ?_
  refine go_then (st_seq (st_reg ?_))
  refine mv h8 rfl rfl fun a53 h53 => ?_
  refine sl_updx h53 (wn rfl) (ex_call (fun _ _ => by kernel_rfl) (h53.evs rfl) rfl) rfl rfl S7 (i := 0) rfl row_dom (sortR_any (arL x q.1) (by have := arL_length x q.1; omega) ar_bd _ _ (S7.at_ (i := 0) rfl)) fun p42 a54 X54 h54 hF42 S54 => ?_
  obtain ⟨L, hL⟩ : ∃ L, srt2 (arL x q.1) = L := ⟨_, rfl⟩
  have hLl : (arL x q.1).length = L.length := by rw [← hL, srt2_length]
  have hLb : ∀ y ∈ L, RstBd y := by rw [← hL]; exact srt2_bd ar_bd
  have hb0 := getD_bd hLb 0
  unfold RstBd at hb0
  have hLn : L.length ≤ 2 := by have := arL_length x q.1; omega
  have hrs : rstO x = _ := rs_list x
  rw [← hge, hL] at hrs
  rw [hL, hLl] at S54
  rw [hLl] at h54
  refine st_nil (go_then (st_seq (st_seq (st_reg ?_))))
  refine mv h54 rfl rfl fun a55 h55 => ?_
  refine sv h55 (ex_len Tryz.underlying143 (h55.ev rfl)) fun a56 h56 => ?_
  refine sv h56 (ex_eql (h56.ev rfl) (h56.ev rfl)) fun a57 h57 => ?_
  refine st_nil (go_then ?_)
  refine st_if (h57.ev rfl) (fun hc2 => ?_) (fun hc2 => ?_)
  ·
   have hnil : L = [] := List.length_eq_zero_iff.1 (by have := eq_of_beq hc2; omega)
   rw [hnil] at hrs
   refine st_seq ?_
   apply dr_flowM h57 (St.domAt S54 (i := 2) rfl) [(2, (St.domAt S54 (i := 2) rfl))] [] [true, false, true] _ (by kernel_rfl) (all1 (fun b hb => hb))
   case h =>
    refine qv h57 (fun X hX => ex_loads (by kernel_rfl) (by kernel_rfl) (h57.ev rfl) ((S54.growO (i := 2) rfl hX).cellsAll (i := 1) rfl)) fun a58 h58 => ?_
    refine sq_nil ?_
    apply nm_early (k := 0) (deps := []) (R := IsVal (rstV rst0)) h58 rfl rfl rfl (by kernel_rfl) IsVal.stable (all1 IsVal.kp) all0
    case hx => exact fun X hX hΦ => lv_val (ex_loads (by kernel_rfl) (by kernel_rfl) (h58.ev rfl) ((S54.grow hX).cellsAll (i := 2) rfl))
    intro v46 a59 h59
    apply nm_sto (k := 2) (deps := [0]) (R := IsBox _ _ _) h59 rfl rfl rfl IsBox.stable all0
    case hx => exact fun X hX hΦ => lv_store0 rfl (h59.ev rfl) ((h59.ev rfl).trans (told_get (k := 0) hΦ rfl rfl)) rfl (by kernel_rfl) ((S54.grow hX).at_ (i := 2) rfl) rfl rfl
    intro vs2
    refine nm_end (O := (St.domAt S54 (i := 2) rfl)) (all1 (fun b hb => hb)) fun X60 hX60 hΦ60 => ?_
    have q0 : v46 = _ := told_all hΦ60 (k := 0) rfl
    subst q0
    have S60 := S54.growBox (i := 2) rfl hX60 (told_all hΦ60 (k := 2) rfl : IsBox _ _ _ vs2 X60)
    refine sl_store0 h59 (wn rfl) ⟨rfl, rfl⟩ (h59.ev rfl) (h59.ev rfl) rfl (by kernel_rfl) S60 (i := 1) rfl rfl rfl fun X61 S61 => ?_
    refine ma h59 rfl rfl fun a62 h62 => ?_
    refine st_nil (go_then (wp_ret (ret_then ?_)))
    refine fincct h62 rfl rfl rfl rfl S61 (i := 2) (i' := 1) rfl (by kernel_rfl) (by kernel_rfl) rfl (by kernel_rfl) (by kernel_rfl) ?_
    exact ⟨by rw [hrs]; rfl, S61.below⟩
   case hB => kernel_rfl
  ·
   have hpos : 0 < L.length := by
    have : ¬ ((L.length : Int) = 0) := by intro h; rw [h] at hc2; exact absurd hc2 (by decide)
    omega
   obtain ⟨g, hg⟩ := row_some (S54.at_ (i := 0) rfl) hpos
   rw [hg] at h57 S54
   refine wp_skip (go_then (st_seq (st_seq ?_)))
   apply dr_flow h57 [false, false, false, false, false, false, false, false, false, false, false, false, false, false] _ (by kernel_rfl)
   case h =>
    refine qv h57 (fun X hX => ex_move (h57.ev rfl)) fun a63 h63 => ?_
    refine qv h63 (fun X hX => ex_len Tryz.underlying143 (h63.ev rfl)) fun a64 h64 => ?_
    refine qv h64 (fun X hX => ex_eql (h64.ev rfl) (h64.ev rfl)) fun a65 h65 => ?_
    refine qv h65 (fun X hX => ex_move (h65.ev rfl)) fun a66 h66 => ?_
    apply sq_grp h66 51 rfl 10 61
    case ht =>
     intro gc51
     refine sq_val h66 (wanted_yes h66 _ rfl rfl rfl gc51) rfl rfl (fun X hX => (ex_move (h66.ev rfl))) fun a67 h67 => ?_
     refine sq_val h67 (wanted_yes h67 _ rfl rfl rfl gc51) rfl rfl (fun X hX => (ex_index (i := 1) (sz := 3) Tryz.underlying143 (by kernel_rfl) (h67.ev rfl) (h67.ev rfl) rfl (by have := eq_of_beq gc51; omega) rfl)) fun a68 h68 => ?_
     refine sq_val h68 (wanted_yes h68 _ rfl rfl rfl gc51) rfl rfl (fun X hX => (ex_field (off := 0) (by kernel_rfl) (h68.ev rfl) rfl)) fun a69 h69 => ?_
     refine sq_val h69 (wanted_yes h69 _ rfl rfl rfl gc51) rfl rfl (fun X hX => (ex_load (by kernel_rfl) (h69.ev rfl) ((rdRst (k := 1) ((S54.grow hX).rdOf (i := 0) rfl) (by have := eq_of_beq gc51; omega)) 0 _ rfl))) fun a70 h70 => ?_
     refine sq_val h70 (wanted_yes h70 _ rfl rfl rfl gc51) rfl rfl (fun X hX => (ex_move (h70.ev rfl))) fun a71 h71 => ?_
     refine sq_val h71 (wanted_yes h71 _ rfl rfl rfl gc51) rfl rfl (fun X hX => (ex_index (i := 0) (sz := 3) Tryz.underlying143 (by kernel_rfl) (h71.ev rfl) (h71.ev rfl) rfl hpos rfl)) fun a72 h72 => ?_
     refine sq_val h72 (wanted_yes h72 _ rfl rfl rfl gc51) rfl rfl (fun X hX => (ex_field (off := 0) (by kernel_rfl) (h72.ev rfl) rfl)) fun a73 h73 => ?_
     refine sq_val h73 (wanted_yes h73 _ rfl rfl rfl gc51) rfl rfl (fun X hX => (ex_load (by kernel_rfl) (h73.ev rfl) ((rdRst (k := 0) ((S54.grow hX).rdOf (i := 0) rfl) hpos) 0 _ rfl))) fun a74 h74 => ?_
     refine sq_val h74 (wanted_yes h74 _ rfl rfl rfl gc51) rfl rfl (fun X hX => (ex_sub (h74.ev rfl) (h74.ev rfl) ⟨by omega, by omega⟩)) fun a75 h75 => ?_
     refine sq_val h75 (wanted_yes h75 _ rfl rfl rfl gc51) rfl rfl (fun X hX => (ex_eql (h75.ev rfl) (h75.ev rfl))) fun a76 h76 => ?_
     exact sq_nil (h76.mid (m := [(_, _), (_, _), (_, _), (_, _), (_, _), (_, _), (_, _), (_, _), (_, _)]) rfl)
    case hf =>
     intro gc51
     refine qo h66 rfl rfl rfl gc51 rfl rfl fun a77 h77 => ?_
     refine qo h77 rfl rfl rfl gc51 rfl rfl fun a78 h78 => ?_
     refine qo h78 rfl rfl rfl gc51 rfl rfl fun a79 h79 => ?_
     refine qo h79 rfl rfl rfl gc51 rfl rfl fun a80 h80 => ?_
     refine qo h80 rfl rfl rfl gc51 rfl rfl fun a81 h81 => ?_
     refine qo h81 rfl rfl rfl gc51 rfl rfl fun a82 h82 => ?_
     refine qo h82 rfl rfl rfl gc51 rfl rfl fun a83 h83 => ?_
     refine qo h83 rfl rfl rfl gc51 rfl rfl fun a84 h84 => ?_
     refine qo h84 rfl rfl rfl gc51 rfl rfl fun a85 h85 => ?_
     refine qo h85 rfl rfl rfl gc51 rfl rfl fun a86 h86 => ?_
     exact sq_nil ⟨_, h86.mid (m := [(_, _), (_, _), (_, _), (_, _), (_, _), (_, _), (_, _), (_, _), (_, _)]) rfl⟩
    case h =>
     intro v87 a87 hg61 h87
     refine sq_nil ?_
     refine nd_end fun X88 hX88 hΦ88 => ?_
     have S88 := S54.grow hX88
     refine sv h87 (ex_pick_and (h87.ev rfl) (h87.ev rfl) hg61 (h87.ev rfl)) fun a89 h89 => ?_
     refine st_nil (go_then ?_)
     refine st_if (h89.ev rfl) (fun hc3 => ?_) (fun hc3 => ?_)
     ·
      rw [Bool.and_eq_true, beq_iff_eq, beq_iff_eq] at hc3
      obtain ⟨a, b, rfl⟩ : ∃ a b, L = [a, b] := by
       match L, hc3.1 with
       | [a, b], _ => exact ⟨a, b, rfl⟩
      rw [show (match [a, b] with
       | [] => none
       | [a] => some (a, rst0)
       | a :: b :: _ => some (a, if b.s = a.s - 1 then b else rst0)) = some (a, b) by simp only; rw [if_pos (show b.s = a.s - 1 from hc3.2)]] at hrs
      refine st_reg ?_
      refine mv h89 rfl rfl fun a90 h90 => ?_
      refine sv h90 (ex_index (i := 1) (sz := 3) Tryz.underlying143 (by kernel_rfl) (h90.ev rfl) (h90.ev rfl) rfl (by show 1 < 2; decide) rfl) fun a91 h91 => ?_
      refine sv h91 (ex_loads (by kernel_rfl) (by kernel_rfl) (h91.ev rfl) (rdRst (k := 1) (S88.rdOf (i := 0) rfl) (by show 1 < 2; decide))) fun a92 h92 => ?_
      refine sl_store0 h92 (wn rfl) ⟨rfl, rfl⟩ (h92.ev rfl) (h92.ev rfl) rfl (by kernel_rfl) S88 (i := 1) rfl rfl rfl fun X93 S93 => ?_
      refine st_nil (go_then (st_seq ?_))
      apply dr_flowA (m := 4) h92 (St.domAt S93 (i := 2) rfl) 0 [false, false, false, false, true] _ (by kernel_rfl)
      case h =>
       refine qv h92 (fun X hX => ex_move (h92.ev rfl)) fun a94 h94 => ?_
       refine qv h94 (fun X hX => ex_index (i := 0) (sz := 3) Tryz.underlying143 (by kernel_rfl) (h94.ev rfl) (h94.ev rfl) rfl hpos rfl) fun a95 h95 => ?_
       refine qv h95 (fun X hX => ex_loads (by kernel_rfl) (by kernel_rfl) (h95.ev rfl) (rdRst (k := 0) ((S93.growO (i := 2) rfl hX).rdOf (i := 0) rfl) hpos)) fun a96 h96 => ?_
       refine qv h96 (fun X hX => ex_loads (by kernel_rfl) (by kernel_rfl) (h96.ev rfl) ((S93.growO (i := 2) rfl hX).cellsAll (i := 1) rfl)) fun a97 h97 => ?_
       refine sq_nil ?_
       apply na_store (k := 4) (deps := []) (R := IsBox _ _ _) h97 rfl rfl IsBox.stable (fun X hX hΦ => lv_store0 rfl (h97.ev rfl) (h97.ev rfl) rfl (by kernel_rfl) ((S93.grow hX).at_ (i := 2) rfl) rfl rfl)
       intro vs4
       refine na_end fun X98 hX98 hΦ98 => ?_
       have S98 := S93.growBox (i := 2) (v := vs4) rfl hX98 (told_all hΦ98 (k := 4) rfl)
       refine sl_store0 h97 (wn rfl) ⟨rfl, rfl⟩ (h97.ev rfl) (h97.ev rfl) rfl (by kernel_rfl) S98 (i := 1) rfl rfl rfl fun X99 S99 => ?_
       refine ma h97 rfl rfl fun a100 h100 => ?_
       refine st_nil (go_then (wp_ret ?_))
       refine fincct h100 rfl rfl rfl rfl S99 (i := 2) (i' := 1) rfl (by kernel_rfl) (by kernel_rfl) rfl (by kernel_rfl) (by kernel_rfl) ?_
       exact ⟨by rw [hrs]; rfl, S99.below⟩
      case hB => kernel_rfl
      case hst => rfl
     ·
      have hrs2 : rstO x = some (L.getD 0 rst0, rst0) := by
       rw [hrs]
       match L, hpos, hLn, hc3 with
       | [a], _, _, _ => rfl
       | [a, b], _, _, hc3 =>
        have : ¬ b.s = a.s - 1 := fun h => by
         have h' : ([a, b].getD 1 rst0).s = ([a, b].getD 0 rst0).s - 1 := h
         rw [h'] at hc3
         simp at hc3
        simp only
        rw [if_neg this]; rfl
      refine wp_skip (go_then (st_seq ?_))
      apply dr_flowA (m := 4) h89 (St.domAt S88 (i := 2) rfl) 0 [false, false, false, false, true] _ (by kernel_rfl)
      case h =>
       refine qv h89 (fun X hX => ex_move (h89.ev rfl)) fun a101 h101 => ?_
       refine qv h101 (fun X hX => ex_index (i := 0) (sz := 3) Tryz.underlying143 (by kernel_rfl) (h101.ev rfl) (h101.ev rfl) rfl hpos rfl) fun a102 h102 => ?_
       refine qv h102 (fun X hX => ex_loads (by kernel_rfl) (by kernel_rfl) (h102.ev rfl) (rdRst (k := 0) ((S88.growO (i := 2) rfl hX).rdOf (i := 0) rfl) hpos)) fun a103 h103 => ?_
       refine qv h103 (fun X hX => ex_loads (by kernel_rfl) (by kernel_rfl) (h103.ev rfl) ((S88.growO (i := 2) rfl hX).cellsAll (i := 1) rfl)) fun a104 h104 => ?_
       refine sq_nil ?_
       apply na_store (k := 4) (deps := []) (R := IsBox _ _ _) h104 rfl rfl IsBox.stable (fun X hX hΦ => lv_store0 rfl (h104.ev rfl) (h104.ev rfl) rfl (by kernel_rfl) ((S88.grow hX).at_ (i := 2) rfl) rfl rfl)
       intro vs4
       refine na_end fun X105 hX105 hΦ105 => ?_
       have S105 := S88.growBox (i := 2) (v := vs4) rfl hX105 (told_all hΦ105 (k := 4) rfl)
       refine sl_store0 h104 (wn rfl) ⟨rfl, rfl⟩ (h104.ev rfl) (h104.ev rfl) rfl (by kernel_rfl) S105 (i := 1) rfl rfl rfl fun X106 S106 => ?_
       refine ma h104 rfl rfl fun a107 h107 => ?_
       refine st_nil (go_then (wp_ret ?_))
       refine fincct h107 rfl rfl rfl rfl S106 (i := 2) (i' := 1) rfl (by kernel_rfl) (by kernel_rfl) rfl (by kernel_rfl) (by kernel_rfl) ?_
       exact ⟨by rw [hrs2]; rfl, S106.below⟩
      case hB => kernel_rfl
      case hst => rfl
   case hB => kernel_rfl
   case hst => rfl
end Go.Proofs.YtmlilplbdpjfcaaGreatDoor
