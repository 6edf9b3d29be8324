/-
  Chapter 20: two restart areas, the later one first.
-/
import Derived.Test.YtmlilplbdpjfcaaGreatDoorRg16
import Derived.Test.YtmlilplbdpjfcaaGreatDoorShelf
namespace Go.Proofs.YtmlilplbdpjfcaaGreatDoor
set_option linter.unusedVariables false
set_option linter.unusedSimpArgs false
set_option maxRecDepth 4000
open Go.RowKit Go.Sort
def rstsV (l : List RstP) : List Value := (l.map fun x => [Value.int .i64 x.s, .int .i64 x.c, .int .i64 x.o]).flatten
def RstBd (x : RstP) : Prop := 0 ≤ x.s ∧ x.s ≤ 1000000
theorem rcmp_any (a b : RstP) (ha : RstBd a) (hb : RstBd b) (w : World) :
    Calls Tryz.prog 108 #[rstV a, rstV b] w fun e w' => e = .returned (.int .i64 (b.s - a.s)) ∧ Below w.heap.size w w' := by
  unfold RstBd at ha hb
  refine st_enter (N := 10) Tryz.func108 rfl rfl rfl (fun a0 h0 => ?_)
  have S0 := St.init w
  refine st_seq (st_reg ?_)
  refine sl_new h0 (wn rfl) (f := fun b => .pointer (some ⟨b, 0, none⟩)) (ex_box (h0.ev rfl)) rfl rfl S0 fun b2 a1 X1 gb2 h1 S1 => ?_
  refine sl_new h1 (wn rfl) (f := fun b => .pointer (some ⟨b, 0, none⟩)) (ex_box (h1.ev rfl)) rfl rfl S1 fun b3 a2 X2 gb3 h2 S2 => ?_
  refine ma h2 rfl rfl fun a3 h3 => ?_
  refine st_nil (go_then (st_seq (st_reg ?_)))
  refine sl_val h3 (wn rfl) (ex_field (off := 0) (j := 0) (by kernel_rfl) (h3.ev rfl) rfl) rfl rfl fun a4 h4 => ?_
  refine sl_val h4 (wn rfl) (ex_load (by kernel_rfl) (h4.ev rfl) (S2.cell (i := 0) rfl rfl)) rfl rfl fun a5 h5 => ?_
  refine sl_val h5 (wn rfl) (ex_field (off := 0) (j := 0) (by kernel_rfl) (h5.ev rfl) rfl) rfl rfl fun a6 h6 => ?_
  refine sl_val h6 (wn rfl) (ex_load (by kernel_rfl) (h6.ev rfl) (S2.cell (i := 1) rfl rfl)) rfl rfl fun a7 h7 => ?_
  refine sl_val h7 (wn rfl) (ex_sub (h7.ev rfl) (h7.ev rfl) ⟨by omega, by omega⟩) rfl rfl fun a8 h8 => ?_
  refine ma h8 rfl rfl fun a9 h9 => ?_
  refine st_nil (go_then (wp_ret ?_))
  refine fin1 h9 rfl rfl ?_
  exact ⟨rfl, S2.below⟩
def srt2 (l : List RstP) : List RstP := match l with
  | [a, b] => if a.s < b.s then [b, a] else [a, b]
  | l => l
theorem rdEl {X : World} {B b o sz k : Nat} {xs cs : List Value} (h : Rd X B (some ⟨b, o, none⟩) xs) (hk : (xs.drop (k * sz)).take cs.length = cs) : ∀ (j : Nat) (u : Value), cs[j]? = some u → X.cell? ⟨b, o + k * sz + j, none⟩ = some u := fun j u hu => by
  have h2 : xs[k * sz + j]? = some u := by
    have hj : j < cs.length := (List.getElem?_eq_some_iff.1 hu).1
    rw [← List.getElem?_drop, ← hu]
    conv => rhs; rw [← hk]
    rw [List.getElem?_take, if_pos hj]
  obtain ⟨b', o', e, _, hc⟩ := h (k * sz + j) u h2
  injection e with e
  injection e with e1 e2
  subst e1 e2
  rw [Nat.add_assoc]; exact hc
theorem isort_any (l : List RstP) (hl : l.length = 2) (hbd : ∀ x ∈ l, RstBd x) (g c : Nat) (w : World) (hrow : w.ownsRow 0 23 3 (.slice (some ⟨g, 0, none⟩) 2 c) 2 (rstsV l)) :
    Calls Tryz.prog 147 #[.slice (some ⟨g, 0, none⟩) 2 c, .int .i64 0, .int .i64 2, .func (.func 108) #[] #[]] w fun e w' => ∃ p : Unit, e = .returned (.tuple #[]) ∧ True ∧ St [g] w w' [.row (.slice (some ⟨g, 0, none⟩) 2 c) 2 23 3 (rstsV (srt2 l))] := by
  obtain ⟨a, b, rfl⟩ : ∃ a b, l = [a, b] := by
    match l, hl with
    | [a, b], _ => exact ⟨a, b, rfl⟩
  have hba := hbd a (by simp)
  have hbb := hbd b (by simp)
  have hbd' := hba
  unfold RstBd at hba hbb
  refine st_enter (N := 53) Tryz.func147 rfl rfl rfl (fun a0 h0 => ?_)
  have S0 := (St.initO hrow : St [g] w w _)
  refine st_seq (st_reg ?_)
  refine mv h0 rfl rfl fun a1 h1 => ?_
  refine sl_val h1 (wn rfl) (ex_add (h1.ev rfl) (h1.ev rfl) (by omega)) rfl rfl fun a2 h2 => ?_
  refine ma h2 rfl rfl fun a3 h3 => ?_
  refine st_nil (go_then (wp_block ?_))
  refine st_loop h3 S0 [0, 1, 2, 3] (fun (i : Nat) => [(8, .int .i64 (1 + (i : Int)))]) (fun (i : Nat) => i ≤ 1) (fun i L => L.set 0 (.row (.slice (some ⟨g, 0, none⟩) 2 c) 2 23 3 (rstsV (if i = 0 then [a, b] else srt2 [a, b])))) (fun (i : Nat) => 1 - i) (0) ((by omega)) ⟨rfl, rfl, rfl, rfl, rfl, trivial⟩ (S0) ?_
  intro i a4 X4 hF0 h4 S4
  refine st_seq (st_seq (st_reg ?_))
  refine mv h4 rfl rfl fun a5 h5 => ?_
  refine mv h5 rfl rfl fun a6 h6 => ?_
  refine sl_val h6 (wn rfl) (ex_lss (h6.ev rfl) (h6.ev rfl)) rfl rfl fun a7 h7 => ?_
  refine st_nil (go_then ?_)
  refine st_if (h7.ev rfl) (fun hc0 => ?_) (fun hc0 => ?_)
  · skip
    have hi0 : i = 0 := by have := of_decide_eq_true hc0; omega
    replace S4 := S4.xsEq (i := 0) (xs' := rstsV (if (1 : Nat) = 1 then [a, b] else srt2 [a, b])) rfl (by rw [if_pos hi0]; rfl)
    refine wp_skip (go_then (st_seq (wp_block (st_seq (st_reg ?_)))))
    refine sl_val h7 (wn rfl) (as_val (v' := .int .i64 ((1 : Nat) : Int)) (congrArg _ (by omega)) (ex_move (h7.ev rfl))) rfl rfl fun a8 h8 => ?_
    refine ma h8 rfl rfl fun a9 h9 => ?_
    refine st_nil (go_then (wp_block ?_))
    refine st_loop h9 S4 [17, 14, 13, 12, 8, 0, 1, 2, 3] (fun (j : Nat) => [(9, .int .i64 (j : Int))]) (fun (j : Nat) => j ≤ 1) (fun j L => L.set 0 (.row (.slice (some ⟨g, 0, none⟩) 2 c) 2 23 3 (rstsV (if j = 1 then [a, b] else srt2 [a, b])))) (fun (j : Nat) => j) (1) ((by omega)) ⟨rfl, rfl, rfl, rfl, rfl, rfl, rfl, rfl, rfl, rfl, trivial⟩ (S4) ?_
    intro j a10 X10 hF1 h10 S10
    refine st_seq (st_seq ?_)
    apply dr_flow h10 [false, false, false, false, false, false, false, false, false, false, false, false, false, false, false, false] _ (by kernel_rfl)
    case h =>
     refine sq_val h10 (wn rfl) rfl rfl (fun X hX => (ex_move (h10.ev rfl))) fun a11 h11 => ?_
     refine sq_val h11 (wn rfl) rfl rfl (fun X hX => (ex_move (h11.ev rfl))) fun a12 h12 => ?_
     refine sq_val h12 (wn rfl) rfl rfl (fun X hX => (ex_gtr (h12.ev rfl) (h12.ev rfl))) fun a13 h13 => ?_
     refine sq_val h13 (wn rfl) rfl rfl (fun X hX => (ex_move (h13.ev rfl))) fun a14 h14 => ?_
     apply sq_grp h14 21 rfl 12 33
     case ht =>
      intro gc21
      refine sq_val h14 (wanted_yes h14 _ rfl rfl rfl gc21) rfl rfl (fun X hX => (ex_move (h14.ev rfl))) fun a15 h15 => ?_
      refine sq_val h15 (wanted_yes h15 _ rfl rfl rfl gc21) rfl rfl (fun X hX => (ex_move (h15.ev rfl))) fun a16 h16 => ?_
      refine sq_val h16 (wanted_yes h16 _ rfl rfl rfl gc21) rfl rfl (fun X hX => (ex_move (h16.ev rfl))) fun a17 h17 => ?_
      refine sq_val h17 (wanted_yes h17 _ rfl rfl rfl gc21) rfl rfl (fun X hX => (ex_index (i := 1) (sz := 3) Tryz.underlying143 (by kernel_rfl) (h17.ev rfl) (h17.ev rfl) (by have := of_decide_eq_true gc21; omega) (by decide) rfl)) fun a18 h18 => ?_
      refine sq_val (v := rstV b) h18 (wanted_yes h18 _ rfl rfl rfl gc21) rfl rfl (fun X hX => (ex_loads (by kernel_rfl) (by kernel_rfl) (h18.ev rfl) (rdEl (k := 1) (cs := [.int .i64 b.s, .int .i64 b.c, .int .i64 b.o]) ((S10.grow hX).rdOf (i := 0) rfl) (by rw [if_pos (by have := of_decide_eq_true gc21; omega)]; rfl)))) fun a19 h19 => ?_
      refine sq_val h19 (wanted_yes h19 _ rfl rfl rfl gc21) rfl rfl (fun X hX => (ex_move (h19.ev rfl))) fun a20 h20 => ?_
      refine sq_val h20 (wanted_yes h20 _ rfl rfl rfl gc21) rfl rfl (fun X hX => (ex_move (h20.ev rfl))) fun a21 h21 => ?_
      refine sq_val h21 (wanted_yes h21 _ rfl rfl rfl gc21) rfl rfl (fun X hX => (ex_sub (h21.ev rfl) (h21.ev rfl) ⟨by omega, by omega⟩)) fun a22 h22 => ?_
      refine sq_val h22 (wanted_yes h22 _ rfl rfl rfl gc21) rfl rfl (fun X hX => (ex_index (i := 0) (sz := 3) Tryz.underlying143 (by kernel_rfl) (h22.ev rfl) (h22.ev rfl) (by have := of_decide_eq_true gc21; omega) (by decide) rfl)) fun a23 h23 => ?_
      refine sq_val (v := rstV a) h23 (wanted_yes h23 _ rfl rfl rfl gc21) rfl rfl (fun X hX => (ex_loads (by kernel_rfl) (by kernel_rfl) (h23.ev rfl) (rdEl (k := 0) (cs := [.int .i64 a.s, .int .i64 a.c, .int .i64 a.o]) ((S10.grow hX).rdOf (i := 0) rfl) (by rw [if_pos (by have := of_decide_eq_true gc21; omega)]; rfl)))) fun a24 h24 => ?_
      refine sq_bel h24 (wanted_yes h24 _ rfl rfl rfl gc21) rfl rfl (fun X => (ex_callv (fun _ _ => by kernel_rfl) (h24.ev rfl) (h24.evs rfl) rfl)) (fun X hX => rcmp_any b a (hbd b (by simp)) hbd' _) fun a25 h25 => ?_
      refine sq_val h25 (wanted_yes h25 _ rfl rfl rfl gc21) rfl rfl (fun X hX => (ex_lss (h25.ev rfl) (h25.ev rfl))) fun a26 h26 => ?_
      exact sq_nil (h26.mid (m := [(_, _), (_, _), (_, _), (_, _), (_, _), (_, _), (_, _), (_, _), (_, _), (_, _), (_, _)]) rfl)
     case hf =>
      intro gc21
      refine sq_no h14 (wanted_no h14 _ rfl rfl rfl gc21) rfl rfl fun a27 h27 => ?_
      refine sq_no h27 (wanted_no h27 _ rfl rfl rfl gc21) rfl rfl fun a28 h28 => ?_
      refine sq_no h28 (wanted_no h28 _ rfl rfl rfl gc21) rfl rfl fun a29 h29 => ?_
      refine sq_no h29 (wanted_no h29 _ rfl rfl rfl gc21) rfl rfl fun a30 h30 => ?_
      refine sq_no h30 (wanted_no h30 _ rfl rfl rfl gc21) rfl rfl fun a31 h31 => ?_
      refine sq_no h31 (wanted_no h31 _ rfl rfl rfl gc21) rfl rfl fun a32 h32 => ?_
      refine sq_no h32 (wanted_no h32 _ rfl rfl rfl gc21) rfl rfl fun a33 h33 => ?_
      refine sq_no h33 (wanted_no h33 _ rfl rfl rfl gc21) rfl rfl fun a34 h34 => ?_
      refine sq_no h34 (wanted_no h34 _ rfl rfl rfl gc21) rfl rfl fun a35 h35 => ?_
      refine sq_no h35 (wanted_no h35 _ rfl rfl rfl gc21) rfl rfl fun a36 h36 => ?_
      refine sq_no h36 (wanted_no h36 _ rfl rfl rfl gc21) rfl rfl fun a37 h37 => ?_
      refine sq_no h37 (wanted_no h37 _ rfl rfl rfl gc21) rfl rfl fun a38 h38 => ?_
      exact sq_nil ⟨_, h38.mid (m := [(_, _), (_, _), (_, _), (_, _), (_, _), (_, _), (_, _), (_, _), (_, _), (_, _), (_, _)]) rfl⟩
     case h =>
      intro v39 a39 hg33 h39
      refine sq_nil ?_
      refine nd_end fun X40 hX40 hΦ40 => ?_
      have S40 := S10.grow hX40
      refine sl_val h39 (wn rfl) (ex_pick_and (h39.ev rfl) (h39.ev rfl) hg33 (h39.ev rfl)) rfl rfl fun a41 h41 => ?_
      refine st_nil (go_then ?_)
      refine st_if (h41.ev rfl) (fun hc1 => ?_) (fun hc1 => ?_)
      · skip
        rw [Bool.and_eq_true, decide_eq_true_eq, decide_eq_true_eq] at hc1
        have hj1 : j = 1 := by omega
        have hlt : a.s < b.s := by omega
        replace S40 := S40.xsEq (i := 0) (xs' := rstsV [a, b]) rfl (by rw [if_pos hj1])
        refine wp_skip (go_then (st_seq (wp_block ?_)))
        apply dr_flowM h41 (St.domAt S40 (i := 0) rfl) [(15, (St.domAt S40 (i := 0) rfl))] [] [false, false, false, false, false, false, false, false, false, true, false, false, false, true, false, true] _ (by kernel_rfl) (all1 (fun b hb => hb))
        case h =>
         refine sq_val h41 (wn rfl) rfl rfl (fun X hX => (ex_move (h41.ev rfl))) fun a42 h42 => ?_
         refine sq_val h42 (wn rfl) rfl rfl (fun X hX => (ex_move (h42.ev rfl))) fun a43 h43 => ?_
         refine sq_val h43 (wn rfl) rfl rfl (fun X hX => (ex_move (h43.ev rfl))) fun a44 h44 => ?_
         refine sq_val h44 (wn rfl) rfl rfl (fun X hX => (ex_move (h44.ev rfl))) fun a45 h45 => ?_
         refine sq_val h45 (wn rfl) rfl rfl (fun X hX => (ex_sub (h45.ev rfl) (h45.ev rfl) ⟨by omega, by omega⟩)) fun a46 h46 => ?_
         refine sq_val h46 (wn rfl) rfl rfl (fun X hX => (ex_move (h46.ev rfl))) fun a47 h47 => ?_
         refine sq_val h47 (wn rfl) rfl rfl (fun X hX => (ex_move (h47.ev rfl))) fun a48 h48 => ?_
         refine sq_val h48 (wn rfl) rfl rfl (fun X hX => (ex_sub (h48.ev rfl) (h48.ev rfl) ⟨by omega, by omega⟩)) fun a49 h49 => ?_
         refine sq_val h49 (wn rfl) rfl rfl (fun X hX => (ex_index (i := 0) (sz := 3) Tryz.underlying143 (by kernel_rfl) (h49.ev rfl) (h49.ev rfl) (by omega) (by decide) rfl)) fun a50 h50 => ?_
         refine sq_val h50 (wn rfl) rfl rfl (fun X hX => (ex_move (h50.ev rfl))) fun a51 h51 => ?_
         refine sq_val h51 (wn rfl) rfl rfl (fun X hX => (ex_move (h51.ev rfl))) fun a52 h52 => ?_
         refine sq_val h52 (wn rfl) rfl rfl (fun X hX => (ex_index (i := 1) (sz := 3) Tryz.underlying143 (by kernel_rfl) (h52.ev rfl) (h52.ev rfl) (by omega) (by decide) rfl)) fun a53 h53 => ?_
         refine sq_val h53 (wn rfl) rfl rfl (fun X hX => (ex_index (i := 1) (sz := 3) Tryz.underlying143 (by kernel_rfl) (h53.ev rfl) (h53.ev rfl) (by omega) (by decide) rfl)) fun a54 h54 => ?_
         refine sq_nil ?_
         apply nm_early (k := 9) (deps := []) (R := IsVal (rstV a)) h54 rfl rfl rfl (by kernel_rfl) IsVal.stable (all1 IsVal.kp) all0
         case hx => exact fun X hX hΦ => lv_val (ex_loads (by kernel_rfl) (by kernel_rfl) (h54.ev rfl) (rdEl (k := 0) (cs := [.int .i64 a.s, .int .i64 a.c, .int .i64 a.o]) ((S40.grow hX).rdOf (i := 0) rfl) rfl))
         intro v46 a55 h55
         apply nm_early (k := 13) (deps := []) (R := IsVal (rstV b)) h55 rfl rfl rfl (by kernel_rfl) IsVal.stable (all1 IsVal.kp) all0
         case hx => exact fun X hX hΦ => lv_val (ex_loads (by kernel_rfl) (by kernel_rfl) (h55.ev rfl) (rdEl (k := 1) (cs := [.int .i64 b.s, .int .i64 b.c, .int .i64 b.o]) ((S40.grow hX).rdOf (i := 0) rfl) rfl))
         intro v50 a56 h56
         apply nm_sto (k := 15) (deps := [9]) (R := IsRow _ _ _ _ _) h56 rfl rfl rfl IsRow.stable all0
         case hx => exact fun X hX hΦ => lv_rowset rfl (h56.ev rfl) ((h56.ev rfl).trans (told_get (k := 9) hΦ rfl rfl)) rfl (by kernel_rfl) ((S40.grow hX).at_ (i := 0) rfl) rfl (by show 0 + 1 * 3 + 3 ≤ 2 * 3; decide)
         intro vs15
         refine nm_end (O := (St.domAt S40 (i := 0) rfl)) (all1 (fun b hb => hb)) fun X57 hX57 hΦ57 => ?_
         have q9 : v46 = _ := told_all hΦ57 (k := 9) rfl
         subst q9
         have q13 : v50 = _ := told_all hΦ57 (k := 13) rfl
         subst q13
         have S57 := S40.growSet (i := 0) rfl hX57 (told_all hΦ57 (k := 15) rfl : IsRow _ _ _ _ _ vs15 X57)
         refine sl_val h56 (wn rfl) (ex_index (i := 0) (sz := 3) Tryz.underlying143 (by kernel_rfl) (h56.ev rfl) (h56.ev rfl) (by omega) (by decide) rfl) rfl rfl fun a58 h58 => ?_
         refine sl_rowset h58 (wn rfl) ⟨rfl, rfl⟩ (h58.ev rfl) (h58.ev rfl) rfl (by kernel_rfl) S57 (i := 0) rfl rfl (by show 0 + 0 * 3 + 3 ≤ 2 * 3; decide) fun X59 S59 => ?_
         replace S59 := S59.xsEq (i := 0) (xs' := rstsV (if (0 : Nat) = 1 then [a, b] else srt2 [a, b])) rfl (by unfold srt2; simp only; rw [if_pos hlt]; rfl)
         refine st_nil (go_block (go_then (st_reg ?_)))
         refine mv h58 rfl rfl fun a60 h60 => ?_
         refine sl_val h60 (wn rfl) (as_val (v' := .int .i64 ((0 : Nat) : Int)) (congrArg _ (by omega)) (ex_sub (h60.ev rfl) (h60.ev rfl) (by omega))) rfl rfl fun a61 h61 => ?_
         refine ma h61 rfl rfl fun a62 h62 => ?_
         refine st_nil (go_then ?_)
         exact ⟨0, (by omega), (by omega), h62.re ⟨rfl, rfl, rfl, rfl, rfl, rfl, rfl, rfl, rfl, rfl, trivial⟩, S59⟩
        case hB => kernel_rfl
      · skip
        replace S40 := S40.xsEq (i := 0) (xs' := rstsV (srt2 [a, b])) rfl (by
          by_cases hj1 : j = 1
          · rw [if_pos hj1]
            have : ¬ a.s < b.s := by
              intro h
              rw [Bool.and_eq_false_iff, decide_eq_false_iff_not, decide_eq_false_iff_not] at hc1
              omega
            unfold srt2
            simp only
            rw [if_neg this]
          · rw [if_neg hj1])
        refine wp_exit ?_
        refine go_exit_then ?_
        refine go_exit_then ?_
        refine go_exit ?_
        refine go_block (go_then (st_reg ?_))
        refine mv h41 rfl rfl fun a63 h63 => ?_
        refine sl_val h63 (wn rfl) (as_val (v' := .int .i64 (1 + ((i + 1 : Nat) : Int))) (congrArg _ (by omega)) (ex_add (h63.ev rfl) (h63.ev rfl) (by omega))) rfl rfl fun a64 h64 => ?_
        refine ma h64 rfl rfl fun a65 h65 => ?_
        refine st_nil (go_then ?_)
        exact ⟨i + 1, (by omega), (by omega), h65.re ⟨rfl, rfl, rfl, rfl, rfl, trivial⟩, S40⟩
    case hB => kernel_rfl
    case hst => rfl
  · skip
    have hi1 : i = 1 := by have := of_decide_eq_false hc0; omega
    replace S4 := S4.xsEq (i := 0) (xs' := rstsV (srt2 [a, b])) rfl (by rw [if_neg (by omega)])
    refine wp_exit ?_
    refine go_exit_then ?_
    refine go_exit_then ?_
    refine go_exit ?_
    refine fin0 h7 rfl ?_
    exact ⟨(), rfl, trivial, S4⟩
theorem isort0_any (n c : Nat) (A : Option Addr) (hn : n ≤ 1) (w : World) :
    Calls Tryz.prog 147 #[.slice A n c, .int .i64 0, .int .i64 n, .func (.func 108) #[] #[]] w fun e w' => e = .returned (.tuple #[]) ∧ Below w.heap.size w w' := by
  refine st_enter (N := 53) Tryz.func147 rfl rfl rfl (fun a0 h0 => ?_)
  have S0 := St.init w
  refine st_seq (st_reg ?_)
  refine mv h0 rfl rfl fun a1 h1 => ?_
  refine sl_val h1 (wn rfl) (ex_add (h1.ev rfl) (h1.ev rfl) (by omega)) rfl rfl fun a2 h2 => ?_
  refine ma h2 rfl rfl fun a3 h3 => ?_
  refine st_nil (go_then (wp_block ?_))
  refine st_loop h3 S0 [0, 1, 2, 3] (fun (i : Nat) => [(8, .int .i64 1)]) (fun (i : Nat) => i = 0) (fun (i : Nat) L => L) (fun (i : Nat) => i) (0) (rfl) ⟨rfl, rfl, rfl, rfl, rfl, trivial⟩ (S0) ?_
  intro i a4 X4 hF0 h4 S4
  refine st_seq (st_seq (st_reg ?_))
  refine mv h4 rfl rfl fun a5 h5 => ?_
  refine mv h5 rfl rfl fun a6 h6 => ?_
  refine sl_val h6 (wn rfl) (ex_lss (h6.ev rfl) (h6.ev rfl)) rfl rfl fun a7 h7 => ?_
  refine st_nil (go_then ?_)
  refine st_if_f (h7.ev rfl) ((by rw [decide_eq_false]; omega)) ?_
  refine wp_exit ?_
  refine go_exit_then ?_
  refine go_exit_then ?_
  refine go_exit ?_
  refine fin0 h7 rfl ?_
  exact ⟨rfl, S4.below⟩
theorem isort_all (l : List RstP) (hl : l.length ≤ 2) (hbd : ∀ x ∈ l, RstBd x) (v : Value) (w : World) (hrow : w.ownsRow 0 23 3 v l.length (rstsV l)) :
    Calls Tryz.prog 147 #[v, .int .i64 0, .int .i64 l.length, .func (.func 108) #[] #[]] w fun e w' => ∃ p : Unit, e = .returned (.tuple #[]) ∧ True ∧ St v.ownBlock.toList w w' [.row v l.length 23 3 (rstsV (srt2 l))] := by
  rcases Nat.lt_or_ge l.length 2 with h | h
  · have hs : srt2 l = l := by
      match l, h with
      | [], _ => rfl
      | [a], _ => rfl
    obtain ⟨A, c, rfl, _⟩ := ownsRow_form hrow
    refine (isort0_any l.length c A (by omega) w).mono ?_
    rintro e w' ⟨rfl, hb⟩
    rw [hs]
    exact ⟨(), rfl, trivial, (St.initO hrow).grow hb⟩
  · have h2 : l.length = 2 := by omega
    rw [h2] at hrow ⊢
    rcases hrow.2 with ⟨_, h0⟩ | ⟨g, c, _, rfl, _⟩
    · cases h0
    · exact isort_any l h2 hbd g c w hrow
theorem psort_any (l : List RstP) (hl : l.length ≤ 2) (hbd : ∀ x ∈ l, RstBd x) (v : Value) (k : Int) (w : World) (hrow : w.ownsRow 0 23 3 v l.length (rstsV l)) :
    Calls Tryz.prog 133 #[v, .int .i64 0, .int .i64 l.length, .int .i64 k, .func (.func 108) #[] #[]] w fun e w' => ∃ p : Unit, e = .returned (.tuple #[]) ∧ True ∧ St v.ownBlock.toList w w' [.row v l.length 23 3 (rstsV (srt2 l))] := by
  refine st_enter (N := 148) Tryz.func133 rfl rfl rfl (fun a0 h0 => ?_)
  have S0 := (St.initO hrow : St v.ownBlock.toList w w _)
  refine st_seq (st_reg ?_)
  refine ma h0 rfl rfl fun a1 h1 => ?_
  refine st_nil (go_then (st_seq (st_reg ?_)))
  refine ma h1 rfl rfl fun a2 h2 => ?_
  refine st_nil (go_then (wp_block ?_))
  refine st_loop h2 S0 [0, 4] (fun (i : Nat) => [(10, .bool true), (11, .bool true), (3, .int .i64 k), (1, .int .i64 0), (2, .int .i64 l.length)]) (fun (i : Nat) => True) (fun i L => L) (fun (i : Nat) => i) (0) (trivial) ⟨rfl, rfl, rfl, rfl, rfl, rfl, rfl, trivial⟩ (S0) ?_
  intro i a3 X3 hF0 h3 S3
  refine wp_block (st_seq (st_reg ?_))
  refine mv h3 rfl rfl fun a4 h4 => ?_
  refine mv h4 rfl rfl fun a5 h5 => ?_
  refine sl_val h5 (wn rfl) (ex_sub (h5.ev rfl) (h5.ev rfl) (by omega)) rfl rfl fun a6 h6 => ?_
  refine ma h6 rfl rfl fun a7 h7 => ?_
  refine st_nil (go_then (st_seq (st_seq (st_reg ?_))))
  refine mv h7 rfl rfl fun a8 h8 => ?_
  refine sl_val h8 (wn rfl) (ex_leq (h8.ev rfl) (h8.ev rfl)) rfl rfl fun a9 h9 => ?_
  refine st_nil (go_then ?_)
  refine st_if_t (h9.ev rfl) ((by rw [decide_eq_true_eq]; omega)) ?_
  refine st_seq (st_reg ?_)
  refine mv h9 rfl rfl fun a10 h10 => ?_
  refine mv h10 rfl rfl fun a11 h11 => ?_
  refine mv h11 rfl rfl fun a12 h12 => ?_
  refine mv h12 rfl rfl fun a13 h13 => ?_
  refine sl_updx h13 (wn rfl) (ex_call (fun _ _ => by kernel_rfl) (h13.evs rfl) rfl) rfl rfl S3 (i := 0) rfl row_dom (isort_all l hl hbd v _ (S3.at_ (i := 0) rfl)) fun p30 a14 X14 h14 hF30 S14 => ?_
  refine st_nil (go_then (wp_ret (ret_then (ret_block (ret_then (ret_block ?_))))))
  refine fin0r h14 rfl ?_
  exact ⟨(), rfl, trivial, S14⟩
theorem sortR_any (l : List RstP) (hl : l.length ≤ 2) (hbd : ∀ x ∈ l, RstBd x) (v : Value) (w : World) (hrow : w.ownsRow 0 23 3 v l.length (rstsV l)) :
    Calls Tryz.prog 107 #[v, .func (.func 108) #[] #[]] w fun e w' => ∃ p : Unit, e = .returned (.tuple #[]) ∧ True ∧ St v.ownBlock.toList w w' [.row v l.length 23 3 (rstsV (srt2 l))] := by
  obtain ⟨A, c, rfl, _⟩ := ownsRow_form hrow
  have hbl : ∀ (n : Nat), n ≤ 2 → ∀ w, Calls Tryz.prog 134 #[.int .u64 n] w fun e w' => e = .returned (.int .i64 (Lib.bitLen n)) ∧ w = w' := fun n hn w => by
    refine (Tryz.bits_Len n w (by omega) (by omega)).mono ?_
    rintro e w' ⟨rfl, rfl⟩
    exact ⟨by rw [Int.toNat_natCast], rfl⟩
  refine st_enter (N := 14) Tryz.func107 rfl rfl rfl (fun a0 h0 => ?_)
  have S0 := (St.initO hrow : St (Value.slice A l.length c).ownBlock.toList w w _)
  refine st_seq (st_reg ?_)
  refine mv h0 rfl rfl fun a1 h1 => ?_
  refine sl_val h1 (wn rfl) (ex_len Tryz.underlying143 (h1.ev rfl)) rfl rfl fun a2 h2 => ?_
  refine ma h2 rfl rfl fun a3 h3 => ?_
  refine st_nil (go_then (st_reg ?_))
  refine mv h3 rfl rfl fun a4 h4 => ?_
  refine mv h4 rfl rfl fun a5 h5 => ?_
  refine mv h5 rfl rfl fun a6 h6 => ?_
  refine sl_val h6 (wn rfl) (ex_convin (by kernel_rfl) Tryz.underlying163 (h6.ev rfl) (wrap_u64 (by omega))) rfl rfl fun a7 h7 => ?_
  refine sl_pure h7 (wn rfl) (ex_call (fun _ _ => by kernel_rfl) (h7.evs rfl) rfl) rfl rfl (hbl _ hl _) fun a8 h8 => ?_
  refine mv h8 rfl rfl fun a9 h9 => ?_
  refine sl_updx h9 (wn rfl) (ex_call (fun _ _ => by kernel_rfl) (h9.evs rfl) rfl) rfl rfl S0 (i := 0) rfl row_dom (psort_any l hl hbd (.slice A l.length c) _ _ (S0.at_ (i := 0) rfl)) fun p13 a10 X10 h10 hF13 S10 => ?_
  refine st_nil ?_
  refine fin0 h10 rfl ?_
  exact ⟨(), rfl, trivial, S10⟩
end Go.Proofs.YtmlilplbdpjfcaaGreatDoor
