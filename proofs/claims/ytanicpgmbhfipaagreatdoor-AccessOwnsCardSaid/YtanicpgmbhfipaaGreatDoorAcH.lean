/-
  Chapter 16: entries in canonical order: the walks of the sort.
  A range over a function whose round's variable is laid in a new box.
  Chapter 16: entries in canonical order: the iterator of slices.Values, the stable sort of at most nineteen, acl.canonical.
  Chapter 16: entries checked and put into canonical order.
  SPL, part 20: maps with structs of plain fields as keys; only new keys are written. No program in sight.
  Chapter 16, plain: where merged entries stand.
  Chapter 16: entries merged.
  Chapter 17: a descriptor simplified.
-/
import Derived.Test.YtanicpgmbhfipaaGreatDoorAcG
import Derived.Test.YtanicpgmbhfipaaGreatDoorSplC
import Derived.Test.YtanicpgmbhfipaaGreatDoorSplD
import Derived.Test.YtanicpgmbhfipaaGreatDoorSplE
import Derived.Test.YtanicpgmbhfipaaGreatDoorSplB
import Derived.DeepKeys3
import Derived.Test.YtanicpgmbhfipaaGreatDoorKitE
namespace Go.Proofs.YtanicpgmbhfipaaGreatDoor
set_option linter.unusedVariables false
set_option linter.unusedSimpArgs false
set_option maxRecDepth 4000
open Go.RowKit Go.Sort Go.Shelf
def aceU (a : AceP) : Value := .agg #[.int .i64 a.k, .int .i64 a.f, .int .i64 a.m, .int .i64 a.w]
def ace0 : AceP := ⟨0, 0, 0, 0⟩
theorem aceV_len (a : AceP) : (aceV a).length = 4 := rfl
theorem acesF_len (l : List AceP) : (acesV l).length = l.length * 4 := acesV_length l
theorem acesV_set {l : List AceP} {k : Nat} (hk : k < l.length) (y : AceP) : (acesV l).take (k * 4) ++ aceV y ++ (acesV l).drop (k * 4 + 4) = acesV (l.set k y) := by
 unfold acesV
 rw [flat_take aceV_len, show k * 4 + 4 = (k + 1) * 4 by omega, flat_drop aceV_len, List.set_eq_take_append_cons_drop, if_pos hk, List.flatMap_append, List.flatMap_cons, List.append_assoc]
theorem acesAt {X : World} {B b o : Nat} {l : List AceP} {k : Nat} (h : Rd X B (some ⟨b, o, none⟩) (acesV l)) (hk : k < l.length) : ∀ (j : Nat) (u : Value), (aceV l[k])[j]? = some u → X.cell? ⟨b, o + k * 4 + j, none⟩ = some u := flatAt (f := aceV) aceV_len h hk
theorem acesAtD {X : World} {B b o : Nat} {l : List AceP} {k : Nat} (h : Rd X B (some ⟨b, o, none⟩) (acesV l)) (hk : k < l.length) : ∀ (j : Nat) (u : Value), (aceV (l.getD k ace0))[j]? = some u → X.cell? ⟨b, o + k * 4 + j, none⟩ = some u := by
 rw [List.getD_eq_getElem?_getD, List.getElem?_eq_getElem hk]
 exact acesAt h hk
theorem getD_at {l : List AceP} {k : Nat} (hk : k < l.length) : l.getD k ace0 = l[k] := by
 rw [List.getD_eq_getElem?_getD, List.getElem?_eq_getElem hk]; rfl
theorem acesV_swp {l : List AceP} {m : Nat} (h0 : 0 < m) (h : m < l.length) (hs : m - 1 + 1 < l.length) :
 ((acesV l).take (m * 4) ++ aceV (l.getD (m - 1) ace0) ++ (acesV l).drop (m * 4 + 4)).take ((m - 1) * 4) ++ aceV (l.getD m ace0) ++ ((acesV l).take (m * 4) ++ aceV (l.getD (m - 1) ace0) ++ (acesV l).drop (m * 4 + 4)).drop ((m - 1) * 4 + 4) = acesV (swpL l (m - 1) hs) := by
 rw [acesV_set h, acesV_set (by rw [List.length_set]; omega)]
 congr 1
 obtain ⟨j, rfl⟩ : ∃ j, m = j + 1 := ⟨m - 1, by omega⟩
 simp only [Nat.add_sub_cancel] at hs ⊢
 unfold swpL
 rw [getD_at (by omega : j < l.length), getD_at hs, List.set_comm _ _ (by omega)]
theorem Has.also {ds : List Deferred} {a : Act} {N t : Nat} {l : List (Nat × Value)} {v : Value} (h : Has ds a N l) (ht : look l t = some v) : Has ds a N ((t, v) :: l) := ⟨h.defers, h.size, fun u x hu => by
 unfold look at hu
 cases hb : Nat.beq t u with
 | true =>
  rw [hb] at hu
  obtain rfl := Nat.eq_of_beq_eq_true hb
  injection hu with hu
  subst hu
  exact h.slot _ _ ht
 | false => rw [hb] at hu; exact h.slot _ _ hu⟩
theorem le4 {k n : Nat} (h : k < n) : 0 + k * 4 + 4 ≤ n * 4 := by omega
theorem rank_any (a : AceP) (w : World) (f0 : 0 ≤ a.f) (f1 : a.f ≤ 31) : Calls Tryz.prog 130 #[aceU a] w fun e w' => e = .returned (.int .i64 (rankA a)) ∧ Below w.heap.size w w' := by
 have hb : (bits .and .i64 a.f 16 != 0) = bitI a.f 4 := and_bit a.f 4 f0 (by omega) (by decide)
 refine st_enter (N := 14) Tryz.func130 rfl rfl rfl (fun a0 h0 => ?_)
 have S0 := St.init w
 refine st_seq (st_reg ?_)
 refine nb h0 rfl rfl S0 fun b1 a1 X1 gb1 h1 S1 => ?_
 refine ma h1 fun a2 h2 => ?_
 refine nsr ?_
 refine ma h2 fun a3 h3 => ?_
 refine st_nil (go_then (st_seq (st_seq (st_reg ?_))))
 refine vf h3 1 1 fun a4 h4 => ?_
 refine vl h4 S1 0 fun a5 h5 => ?_
 refine sv h5 (ex_bits (r := bits .and .i64 a.f 16) rfl (h5.ev rfl) (h5.ev rfl) rfl) fun a6 h6 => ?_
 refine sv h6 (ex_neq (h6.ev rfl) (h6.ev rfl)) fun a7 h7 => ?_
 refine st_nil (go_then ?_)
 refine st_joinH h7 S1 [(3, .int .i64 (if bitI a.f 4 = true then 2 else 0))] [2, 1] ?_ (fun a8 X8 h8 S8 => ?_)
 ·
  refine st_if (h7.ev rfl) (fun hc0 => ?_) (fun hc0 => ?_)
  ·
   refine st_reg ?_
   refine ma h7 fun a9 h9 => ?_
   refine st_nil (go_then ?_)
   have h4 : bitI a.f 4 = true := by rw [← hb]; exact hc0
   replace h9 := Has.also h9 (t := 3) (v := .int .i64 (if bitI a.f 4 = true then 2 else 0)) ((show look _ 3 = some (.int .i64 2) from rfl).trans (by rw [if_pos h4]))
   exact ⟨h9.re ⟨rfl, rfl, rfl, trivial⟩, S1⟩
  ·
   refine wp_skip (go_then ?_)
   have h4 : ¬ bitI a.f 4 = true := by rw [← hb]; exact fun h => by rw [h] at hc0; cases hc0
   replace h7 := Has.also h7 (t := 3) (v := .int .i64 (if bitI a.f 4 = true then 2 else 0)) ((show look _ 3 = some (.int .i64 0) from rfl).trans (by rw [if_neg h4]))
   exact ⟨h7.re ⟨rfl, rfl, rfl, trivial⟩, S1⟩
 ·
  refine go_then (st_seq (st_seq (st_reg ?_)))
  refine vf h8 0 0 fun a10 h10 => ?_
  refine vl h10 S8 0 fun a11 h11 => ?_
  refine sv h11 (ex_neq (h11.ev rfl) (h11.ev rfl)) fun a12 h12 => ?_
  refine st_nil (go_then ?_)
  refine st_if (h12.ev rfl) (fun hc1 => ?_) (fun hc1 => ?_)
  ·
   refine st_reg ?_
   refine mv h12 fun a13 h13 => ?_
   refine sv h13 (ex_add (h13.ev rfl) (h13.ev rfl) (by split <;> omega)) fun a14 h14 => ?_
   refine ma h14 fun a15 h15 => ?_
   refine nsr ?_
   refine mva h15 fun a17 h17 => ?_
   refine st_nil (go_then (wp_ret ?_))
   refine fin1 h17 rfl rfl ?_
   have hk : a.k ≠ 1 := by simpa using hc1
   exact ⟨by unfold rankA; rw [if_neg hk]; congr 2; omega, S8.below⟩
  ·
   refine wp_skip (go_then (st_seq (st_reg ?_)))
   refine mva h12 fun a19 h19 => ?_
   refine st_nil (go_then (wp_ret ?_))
   refine fin1 h19 rfl rfl ?_
   have hk : a.k = 1 := by simpa using hc1
   exact ⟨by unfold rankA; rw [if_pos hk]; congr 2; omega, S8.below⟩
theorem byRank_any (a b : AceP) (w : World) (f0 : 0 ≤ a.f) (f1 : a.f ≤ 31) (g0 : 0 ≤ b.f) (g1 : b.f ≤ 31) : Calls Tryz.prog 101 #[aceU a, aceU b] w fun e w' => e = .returned (.int .i64 (rankA a - rankA b)) ∧ Below w.heap.size w w' := by
 refine st_enter (N := 10) Tryz.func101 rfl rfl rfl (fun a0 h0 => ?_)
 have S0 := St.init w
 refine st_seq (st_reg ?_)
 refine nb h0 rfl rfl S0 fun b2 a1 X1 gb2 h1 S1 => ?_
 refine nb h1 rfl rfl S1 fun b3 a2 X2 gb3 h2 S2 => ?_
 refine ma h2 fun a3 h3 => ?_
 refine st_nil (go_then (st_seq ?_))
 apply dr_flow h3 [false, false, false] _ (by kernel_rfl)
 case h =>
  refine qv (v := aceU a) h3 (fun X hX => ex_loads (by kernel_rfl) (by kernel_rfl) (h3.ev rfl) ((S2.grow hX).cellsAll (i := 1) rfl)) fun a4 h4 => ?_
  refine sq_bel h4 (wn rfl) rfl rfl (fun X => (ex_call (fun _ _ => by kernel_rfl) (h4.evs rfl) rfl)) (fun X hX => rank_any a _ f0 f1) fun a5 h5 => ?_
  refine qv (v := aceU b) h5 (fun X hX => ex_loads (by kernel_rfl) (by kernel_rfl) (h5.ev rfl) ((S2.grow hX).cellsAll (i := 0) rfl)) fun a6 h6 => ?_
  refine sq_nil ?_
  refine nd_end fun X7 hX7 hΦ7 => ?_
  have S7 := S2.grow hX7
  refine sl_bel h6 (wn rfl) (ex_call (fun _ _ => by kernel_rfl) (h6.evs rfl) rfl) rfl rfl S7 (rank_any b _ g0 g1) fun a8 X8 h8 S8 => ?_
  refine sv h8 (ex_sub (h8.ev rfl) (h8.ev rfl) (by rcases rank_in a with e | e | e | e <;> rcases rank_in b with e' | e' | e' | e' <;> rw [e, e'] <;> decide)) fun a9 h9 => ?_
  refine ma h9 fun a10 h10 => ?_
  refine st_nil (go_then (wp_ret ?_))
  refine fin1 h10 rfl rfl ?_
  exact ⟨rfl, S8.below⟩
 case hB => kernel_rfl
 case hst => rfl
def okF (l : List AceP) : Prop := ∀ x ∈ l, 0 ≤ x.f ∧ x.f ≤ 31
theorem okF_same {y l : List AceP} (h : sameR y l) (hl : okF l) : okF y := fun x hx => by
 have e : x ∈ rkF (rankA x) y := List.mem_filter.2 ⟨hx, by simp⟩
 rw [h.2] at e
 exact hl x (List.mem_filter.1 e).1
theorem okF_getD {l : List AceP} (hl : okF l) (k : Nat) : 0 ≤ (l.getD k ace0).f ∧ (l.getD k ace0).f ≤ 31 := by
 by_cases hk : k < l.length
 · rw [getD_at hk]; exact hl _ (List.getElem_mem hk)
 · rw [List.getD_eq_getElem?_getD, List.getElem?_eq_none (by omega)]; exact ⟨Int.le_refl 0, by decide⟩
theorem ins_any (g c n : Nat) (ys : List AceP) (a b : Nat) (hn : n = ys.length) (ha : a ≤ n) (hb : b ≤ n) (hlen : n ≤ 1000) (hf : okF ys) (w : World) (hr : w.ownsRow 0 111 4 (.slice (some ⟨g, 0, none⟩) n c) n (acesV ys)) :
 Calls Tryz.prog 158 #[.slice (some ⟨g, 0, none⟩) n c, .int .i64 a, .int .i64 b, .func (.func 101) #[] #[]] w fun e X' => ∃ zs : List AceP, e = .returned (.tuple #[]) ∧ (sameR zs ys ∧ srtI a b zs) ∧ St (Value.slice (some ⟨g, 0, none⟩) n c).ownBlock.toList w X' [.row (.slice (some ⟨g, 0, none⟩) n c) n 111 4 (acesV zs)] := by
 refine st_enter (N := 53) Tryz.func158 rfl rfl rfl (fun a0 h0 => ?_)
 have S0 := St.initO hr
 refine st_seq (st_reg ?_)
 refine mv h0 fun a1 h1 => ?_
 refine sv h1 (ex_add (h1.ev rfl) (h1.ev rfl) (by omega)) fun a2 h2 => ?_
 refine ma h2 fun a3 h3 => ?_
 refine st_nil (go_then (wp_block ?_))
 refine st_loop h3 S0 [0, 1, 2, 3] (fun (q : Nat × List AceP) => [(8, .int .i64 q.1)]) (fun (q : Nat × List AceP) => a + 1 ≤ q.1 ∧ (q.1 ≤ b ∨ q.1 = a + 1) ∧ sameR q.2 ys ∧ srtI a q.1 q.2) (fun q L => [.row (.slice (some ⟨g, 0, none⟩) n c) n 111 4 (acesV q.2)]) (fun (q : Nat × List AceP) => b - q.1) ((a + 1, ys)) (⟨Nat.le_refl _, .inr rfl, sameR.rfl' ys, srtI_one a ys⟩) ⟨rfl, rfl, rfl, rfl, rfl, trivial⟩ (S0) ?_
 intro q a4 X4 hF0 h4 S4
 refine st_seq (st_seq (st_reg ?_))
 refine mvv h4 fun a6 h6 => ?_
 refine sv h6 (ex_lss (h6.ev rfl) (h6.ev rfl)) fun a7 h7 => ?_
 refine st_nil (go_then ?_)
 refine st_if (h7.ev rfl) (fun hc0 => ?_) (fun hc0 => ?_)
 ·
  obtain ⟨hq1, hq2, hq3, hq4⟩ := hF0
  have hlt : q.1 < b := by have := of_decide_eq_true hc0; omega
  refine wp_skip (go_then (st_seq (wp_block (st_seq (st_reg ?_)))))
  refine mva h7 fun a9 h9 => ?_
  refine st_nil (go_then (wp_block ?_))
  refine st_loop h9 S4 [17, 14, 13, 12, 8, 0, 1, 2, 3] (fun (p : Nat × List AceP) => [(9, .int .i64 p.1)]) (fun (p : Nat × List AceP) => a ≤ p.1 ∧ p.1 ≤ q.1 ∧ sameR p.2 ys ∧ insI a q.1 p.1 p.2) (fun p L => [.row (.slice (some ⟨g, 0, none⟩) n c) n 111 4 (acesV p.2)]) (fun (p : Nat × List AceP) => p.1) ((q.1, q.2)) (⟨by show a ≤ q.1; omega, Nat.le_refl _, hq3, insI_begin hq4⟩) ⟨rfl, rfl, rfl, rfl, rfl, rfl, rfl, rfl, rfl, rfl, trivial⟩ (S4) ?_
  intro p a10 X10 hF1 h10 S10
  obtain ⟨hp1, hp2, hp3, hp4⟩ := hF1
  have hpl : p.2.length = n := by rw [hp3.1, hn]
  have hpf := okF_same hp3 hf
  refine st_seq (st_seq ?_)
  apply dr_flow h10 [false, false, false, false, false, false, false, false, false, false, false, false, false, false, false, false] _ (by kernel_rfl)
  case h =>
   refine qv h10 (fun X hX => ex_move (h10.ev rfl)) fun a11 h11 => ?_
   refine qv h11 (fun X hX => ex_move (h11.ev rfl)) fun a12 h12 => ?_
   refine qv h12 (fun X hX => ex_gtr (h12.ev rfl) (h12.ev rfl)) fun a13 h13 => ?_
   refine qv h13 (fun X hX => ex_move (h13.ev rfl)) fun a14 h14 => ?_
   apply sq_grp h14 21 rfl 12 33
   case ht =>
    intro gc21
    have hgt : a < p.1 := by have := of_decide_eq_true gc21; omega
    refine qy h14 (fun X hX => (ex_move (h14.ev rfl))) fun a15 h15 => ?_
    refine qy h15 (fun X hX => (ex_move (h15.ev rfl))) fun a16 h16 => ?_
    refine qy h16 (fun X hX => (ex_move (h16.ev rfl))) fun a17 h17 => ?_
    refine qy h17 (fun X hX => (ex_index (i := p.1) (sz := 4) Tryz.underlying22 (by kernel_rfl) (h17.ev rfl) (h17.ev rfl) (by omega) (by omega) rfl)) fun a18 h18 => ?_
    refine sq_val (v := aceU (p.2.getD p.1 ace0)) h18 (wanted_yes h18 _ rfl rfl rfl gc21) rfl rfl (fun X hX => (ex_loads (by kernel_rfl) (by kernel_rfl) (h18.ev rfl) (acesAtD ((S10.grow hX).rdOf (i := 0) rfl) (by omega)))) fun a19 h19 => ?_
    refine qy h19 (fun X hX => (ex_move (h19.ev rfl))) fun a20 h20 => ?_
    refine qy h20 (fun X hX => (ex_move (h20.ev rfl))) fun a21 h21 => ?_
    refine qy h21 (fun X hX => (as_val (v' := .int .i64 ((p.1 - 1 : Nat) : Int)) (congrArg _ (by omega)) (ex_sub (h21.ev rfl) (h21.ev rfl) (by omega)))) fun a22 h22 => ?_
    refine qy h22 (fun X hX => (ex_index (i := p.1 - 1) (sz := 4) Tryz.underlying22 (by kernel_rfl) (h22.ev rfl) (h22.ev rfl) (by omega) (by omega) rfl)) fun a23 h23 => ?_
    refine sq_val (v := aceU (p.2.getD (p.1 - 1) ace0)) h23 (wanted_yes h23 _ rfl rfl rfl gc21) rfl rfl (fun X hX => (ex_loads (by kernel_rfl) (by kernel_rfl) (h23.ev rfl) (acesAtD ((S10.grow hX).rdOf (i := 0) rfl) (by omega)))) fun a24 h24 => ?_
    refine sq_bel h24 (wanted_yes h24 _ rfl rfl rfl gc21) rfl rfl (fun X => (ex_callv (fun _ _ => by kernel_rfl) (h24.ev rfl) (h24.evs rfl) rfl)) (fun X hX => byRank_any (p.2.getD p.1 ace0) (p.2.getD (p.1 - 1) ace0) _ (okF_getD hpf _).1 (okF_getD hpf _).2 (okF_getD hpf _).1 (okF_getD hpf _).2) fun a25 h25 => ?_
    refine qy h25 (fun X hX => (ex_lss (h25.ev rfl) (h25.ev rfl))) fun a26 h26 => ?_
    exact sq_nil (h26.mid (m := [(_, _), (_, _), (_, _), (_, _), (_, _), (_, _), (_, _), (_, _), (_, _), (_, _), (_, _)]) rfl)
   case hf =>
    intro gc21
    refine qo h14 fun a27 h27 => ?_
    refine qo h27 fun a28 h28 => ?_
    refine qo h28 fun a29 h29 => ?_
    refine qo h29 fun a30 h30 => ?_
    refine qo h30 fun a31 h31 => ?_
    refine qo h31 fun a32 h32 => ?_
    refine qo h32 fun a33 h33 => ?_
    refine qo h33 fun a34 h34 => ?_
    refine qo h34 fun a35 h35 => ?_
    refine qo h35 fun a36 h36 => ?_
    refine qo h36 fun a37 h37 => ?_
    refine qo h37 fun a38 h38 => ?_
    exact sq_nil ⟨_, h38.mid (m := [(_, _), (_, _), (_, _), (_, _), (_, _), (_, _), (_, _), (_, _), (_, _), (_, _), (_, _)]) rfl⟩
   case h =>
    intro v39 a39 hg33 h39
    refine sq_nil ?_
    refine nd_end fun X40 hX40 hΦ40 => ?_
    have S40 := S10.grow hX40
    refine sv h39 (ex_pick_and (h39.ev rfl) (h39.ev rfl) hg33 (h39.ev rfl)) fun a41 h41 => ?_
    refine st_nil (go_then ?_)
    refine st_if (h41.ev rfl) (fun hc1 => ?_) (fun hc1 => ?_)
    ·
     obtain ⟨u1, u2⟩ := Bool.and_eq_true_iff.1 hc1
     have hgt : a < p.1 := by have := of_decide_eq_true u1; omega
     have hsl : p.1 - 1 + 1 < p.2.length := by omega
     have hrk : rankA (p.2[p.1 - 1 + 1]'hsl) < rankA (p.2[p.1 - 1]'(by omega)) := by
      have := of_decide_eq_true u2
      rw [getD_at (show p.1 < p.2.length by omega), getD_at (show p.1 - 1 < p.2.length by omega)] at this
      have e : p.2[p.1 - 1 + 1]'hsl = p.2[p.1]'(by omega) := by congr 1; omega
      rw [e]; omega
     refine wp_skip (go_then (st_seq (wp_block ?_)))
     apply dr_flowM h41 (St.domAt S40 (i := 0) rfl) [(15, (St.domAt S40 (i := 0) rfl))] [] [false, false, false, false, false, false, false, false, false, true, false, false, false, true, false, true] _ (by kernel_rfl) (all1 (fun b hb => hb))
     case h =>
      refine qv h41 (fun X hX => ex_move (h41.ev rfl)) fun a42 h42 => ?_
      refine qv h42 (fun X hX => ex_move (h42.ev rfl)) fun a43 h43 => ?_
      refine qv h43 (fun X hX => ex_move (h43.ev rfl)) fun a44 h44 => ?_
      refine qv h44 (fun X hX => ex_move (h44.ev rfl)) fun a45 h45 => ?_
      refine qv h45 (fun X hX => as_val (v' := .int .i64 ((p.1 - 1 : Nat) : Int)) (congrArg _ (by omega)) (ex_sub (h45.ev rfl) (h45.ev rfl) (by omega))) fun a46 h46 => ?_
      refine qv h46 (fun X hX => ex_move (h46.ev rfl)) fun a47 h47 => ?_
      refine qv h47 (fun X hX => ex_move (h47.ev rfl)) fun a48 h48 => ?_
      refine qv h48 (fun X hX => as_val (v' := .int .i64 ((p.1 - 1 : Nat) : Int)) (congrArg _ (by omega)) (ex_sub (h48.ev rfl) (h48.ev rfl) (by omega))) fun a49 h49 => ?_
      refine qv h49 (fun X hX => ex_index (i := p.1 - 1) (sz := 4) Tryz.underlying22 (by kernel_rfl) (h49.ev rfl) (h49.ev rfl) (by omega) (by omega) rfl) fun a50 h50 => ?_
      refine qv h50 (fun X hX => ex_move (h50.ev rfl)) fun a51 h51 => ?_
      refine qv h51 (fun X hX => ex_move (h51.ev rfl)) fun a52 h52 => ?_
      refine qv h52 (fun X hX => ex_index (i := p.1) (sz := 4) Tryz.underlying22 (by kernel_rfl) (h52.ev rfl) (h52.ev rfl) (by omega) (by omega) rfl) fun a53 h53 => ?_
      refine qv h53 (fun X hX => ex_index (i := p.1) (sz := 4) Tryz.underlying22 (by kernel_rfl) (h53.ev rfl) (h53.ev rfl) (by omega) (by omega) rfl) fun a54 h54 => ?_
      refine sq_nil ?_
      apply nm_early (k := 9) (deps := []) (R := IsVal (aceU (p.2.getD (p.1 - 1) ace0))) h54 rfl rfl rfl (by kernel_rfl) IsVal.stable (all1 IsVal.kp) all0
      case hx => exact fun X hX hΦ => lv_val (ex_loads (by kernel_rfl) (by kernel_rfl) (h54.ev rfl) (acesAtD ((S40.grow hX).rdOf (i := 0) rfl) (by omega)))
      intro v46 a55 h55
      apply nm_early (k := 13) (deps := []) (R := IsVal (aceU (p.2.getD p.1 ace0))) h55 rfl rfl rfl (by kernel_rfl) IsVal.stable (all1 IsVal.kp) all0
      case hx => exact fun X hX hΦ => lv_val (ex_loads (by kernel_rfl) (by kernel_rfl) (h55.ev rfl) (acesAtD ((S40.grow hX).rdOf (i := 0) rfl) (by omega)))
      intro v50 a56 h56
      apply nm_sto (k := 15) (deps := [9]) (R := IsRow _ _ _ _ _) h56 rfl rfl rfl IsRow.stable all0
      case hx => exact fun X hX hΦ => lv_rowset rfl (h56.ev rfl) ((h56.ev rfl).trans (told_get (k := 9) hΦ rfl rfl)) rfl (by kernel_rfl) ((S40.grow hX).at_ (i := 0) rfl) rfl (le4 (by omega))
      intro vs15
      refine nm_end (O := (St.domAt S40 (i := 0) rfl)) (all1 (fun b hb => hb)) fun X57 hX57 hΦ57 => ?_
      have q9 : v46 = _ := told_all hΦ57 (k := 9) rfl
      subst q9
      have q13 : v50 = _ := told_all hΦ57 (k := 13) rfl
      subst q13
      have S57 := S40.growSet (i := 0) rfl hX57 (told_all hΦ57 (k := 15) rfl : IsRow _ _ _ _ _ vs15 X57)
      refine sv h56 (ex_index (i := p.1 - 1) (sz := 4) Tryz.underlying22 (by kernel_rfl) (h56.ev rfl) (h56.ev rfl) (by omega) (by omega) rfl) fun a58 h58 => ?_
      refine sl_rowset h58 (wn rfl) ⟨rfl, rfl⟩ (h58.ev rfl) (h58.ev rfl) rfl (by kernel_rfl) S57 (i := 0) rfl rfl (le4 (by omega)) fun X59 S59 => ?_
      replace S59 := S59.rowTo (i := 0) (n' := n) (xs' := acesV (swpL p.2 (p.1 - 1) hsl)) rfl rfl (by
       simp only [Nat.zero_add]
       exact acesV_swp (by omega) (by omega) hsl)
      refine st_nil (go_block (go_then (st_reg ?_)))
      refine mv h58 fun a60 h60 => ?_
      refine sv h60 (as_val (v' := .int .i64 ((p.1 - 1 : Nat) : Int)) (congrArg _ (by omega)) (ex_sub (h60.ev rfl) (h60.ev rfl) (by omega))) fun a61 h61 => ?_
      refine ma h61 fun a62 h62 => ?_
      refine st_nil (go_then ?_)
      exact ⟨(p.1 - 1, swpL p.2 (p.1 - 1) hsl), (by show p.1 - 1 < p.1; omega), ⟨by show a ≤ p.1 - 1; omega, by show p.1 - 1 ≤ q.1; omega, (swp_same hsl (by intro e; omega)).trans hp3, insI_step (by omega) (by omega) hsl (by rw [show p.1 - 1 + 1 = p.1 by omega]; exact hp4) (by omega)⟩, h62.re ⟨rfl, rfl, rfl, rfl, rfl, rfl, rfl, rfl, rfl, rfl, trivial⟩, S59⟩
     case hB => kernel_rfl
    ·
     have hend : srtI a (q.1 + 1) p.2 := insI_end hp4 (by
      by_cases hle : p.1 ≤ a
      · exact .inl hle
      · right
        refine ⟨⟨by omega, by omega⟩, ?_⟩
        have u1 : decide ((p.1 : Int) > a) = true := decide_eq_true (by omega)
        rw [u1, Bool.true_and] at hc1
        have := of_decide_eq_false hc1
        rw [getD_at (show p.1 < p.2.length by omega), getD_at (show p.1 - 1 < p.2.length by omega)] at this
        omega)
     refine wp_exit ?_
     refine go_exit_then ?_
     refine go_exit_then ?_
     refine go_exit ?_
     refine go_block (go_then (st_reg ?_))
     refine mv h41 fun a63 h63 => ?_
     refine sv h63 (ex_add (h63.ev rfl) (h63.ev rfl) (by omega)) fun a64 h64 => ?_
     refine ma h64 fun a65 h65 => ?_
     refine st_nil (go_then ?_)
     exact ⟨(q.1 + 1, p.2), (by show b - (q.1 + 1) < b - q.1; omega), ⟨Nat.le_succ_of_le hq1, .inl hlt, hp3, hend⟩, h65.re ⟨rfl, rfl, rfl, rfl, rfl, trivial⟩, S40⟩
  case hB => kernel_rfl
  case hst => rfl
 ·
  obtain ⟨hq1, hq2, hq3, hq4⟩ := hF0
  have hge : b ≤ q.1 := by have := of_decide_eq_false hc0; omega
  refine wp_exit ?_
  refine go_exit_then ?_
  refine go_exit_then ?_
  refine go_exit ?_
  refine fin0 h7 rfl ?_
  exact ⟨q.2, rfl, ⟨hq3, fun i j h1 h2 h3 hj => hq4 i j h1 h2 (by omega) hj⟩, S4⟩
end Go.Proofs.YtanicpgmbhfipaaGreatDoor
namespace Go.Proofs.YtanicpgmbhfipaaGreatDoor
set_option linter.unusedVariables false
set_option linter.unusedSimpArgs false
open Go.RowKit Go.Sort Go.Shelf
variable {ds : List Deferred}
theorem wpIn_rangeFunc_lay {α : Type} {n : Nat} {P : Program} {w : World} {g : Operand} {ps : Array Tmp} {assign body : Code} {Q : Exit → Act → World → Prop} {a : Act}
 {gf : Nat} {lb : Array Value} (hg : a.eval g = .func (.func gf) #[] lb) (eg : ∀ args w, (callFunc gf args).run P w = .ok (.enter gf args) w)
 {encs : α → Array Value} {K : World → Prop} {xs : List α} (hseq : SeqFix (n - 1) P gf lb encs K xs)
 (hps : ∀ x, (encs x).size = ps.size)
 (I : List α → World → Prop) (hI : OwnFrom w.heap.size I) (hIK : ∀ s A, I s A → K A) (h0 : I [] w)
 (hround : ∀ (l : Nat) (pre : List α) (x : α) (rest : List α) (W : World), xs = pre ++ x :: rest → I pre W →
  assign.wpIn (Fence.wide.inRound l) (n - 1 - 1) P (Exit.then (fun a' W' => KeepsFrom w.heap.size W W' ∧ ∃ J : World → Prop, OwnFrom w.heap.size (fun _ : Unit => J) ∧ J W' ∧ ∀ W2, J W2 →
   body.wpIn (Fence.wide.inRound l) (n - 1 - 1) P (fun e _ W3 => e = .normal ∧ KeepsFrom w.heap.size W2 W3 ∧ I (pre ++ [x]) W3) a' W2) (fun _ _ _ => False))
   { tmps := (ps.zip (encs x)).foldl (fun t (p, v) => t.setIfInBounds p v) a.tmps, defers := [] } W)
 (hdone : ∀ (D : Nat) (W : World), w.heap.size ≤ D → I xs W → W.heap[D]? = some (.deferred (some [])) → Q .normal { a with defers := { target := .collected D, args := #[] } :: a.defers } W) :
 (Code.rangeFunc g ps assign body).wpIn Fence.wide n P Q a w := by
 refine wpIn_rangeFunc ?_
 intro fn hfn
 obtain ⟨rec, hrec⟩ : ∃ rec : LoopState → Option Code → Loop, rec = fun s pe => { state := s, pending := pe, fn, tmps := a.tmps, params := ps, assign, body, defers := w.heap.size } := ⟨_, rfl⟩
 obtain ⟨W1, hW1⟩ : ∃ W1, (w.alloc (.deferred (some []))).alloc (.loop (rec .ready none)) = W1 := ⟨_, rfl⟩
 have hL1 : W1.heap[w.heap.size + 1]? = some (.loop (rec .ready none)) := by
  rw [← hW1]; have := World.alloc_heap_new (w.alloc (.deferred (some []))) (.loop (rec .ready none)); rwa [World.size_alloc] at this
 have hK1 : W1.heap[w.heap.size]? = some (.deferred (some [])) := by
  rw [← hW1]; exact (Below.heap_alloc _ _ _ (by simp)).trans (World.alloc_heap_new w _)
 have hI1 : I [] W1 := by rw [← hW1]; exact hI.alloc _ (hI.alloc _ h0)
 refine ⟨w.heap.size + 1, [{ target := .collected w.heap.size, args := #[] }], W1, { target := .fn (.func gf) lb, args := #[.func (.yield (w.heap.size + 1)) #[] #[]] }, W1, gf,
  #[.func (.yield (w.heap.size + 1)) #[] #[]] ++ lb, W1, ?_, ?_, fun _ _ => trivial, ?_, fun e => (by cases e), ?_⟩
 · rw [← hW1, hrec]; exact run_enterLoop_outer _ _ _ _ _
 · simp only [resolve, hg]
   simp [go_sem]
 · simp [invoke, go_sem, eg]
 · refine (hseq (w.heap.size + 1)
    (fun pre W => I pre W ∧ W.heap[w.heap.size + 1]? = some (.loop (rec .ready none)) ∧ W.heap[w.heap.size]? = some (.deferred (some [])))
    W1 (fun s A hs => hIK s A hs.1)
    (fun s A B hs hb => ⟨hI s A B none hs.1 ⟨hb.os, hb.tape, hb.output, hb.size, fun k hk _ => hb.block k hk⟩ (fun r e => (by cases e)), (hb.block _ (Array.getElem?_eq_some_iff.1 hs.2.1).1).trans hs.2.1, (hb.block _ (Array.getElem?_eq_some_iff.1 hs.2.2).1).trans hs.2.2⟩)
    ?_ ⟨hI1, hL1, hK1⟩).mono ?_
   · rintro pre x rest W hx ⟨hi, hl, hk⟩
     have hlt : w.heap.size + 1 < W.heap.size := (Array.getElem?_eq_some_iff.1 hl).1
     have hy := run_yield (P := P) (args := encs x) hl (by rw [hrec]; exact hps x)
     rw [hrec] at hy
     refine ⟨fn, _, assign, body, hy, roundIn_of_wpIn hfn (wpIn_mono (hround (w.heap.size + 1) pre x rest W hx hi) ?_)⟩
     clear hy
     intro e0 a1 W' he0
     cases e0 <;> try exact he0.elim
     obtain ⟨hkw, J, hJ, hj, hbody⟩ := he0
     have hl' := hkw.same _ _ (by omega) hl rfl
     have hk' := hkw.same _ _ (Nat.le_refl _) hk rfl
     have hlt' : w.heap.size + 1 < W'.heap.size := (Array.getElem?_eq_some_iff.1 hl').1
     refine ⟨_, run_beginRound hl' (by rw [hrec]), ?_⟩
     obtain ⟨W2, hW2⟩ : ∃ W2, W2 = W'.putObj (w.heap.size + 1) (.loop { rec .ready none with state := .busy }) := ⟨_, rfl⟩
     have hl2 : W2.heap[w.heap.size + 1]? = some (.loop { rec .ready none with state := .busy }) := by rw [hW2]; exact World.putObj_heap_same hlt'
     have hk2 : W2.heap[w.heap.size]? = some (.deferred (some [])) := by rw [hW2]; exact (World.putObj_heap_other (by omega)).trans hk'
     have hj2 : J W2 := by rw [hW2]; exact hJ.putObj (s := ()) _ hj (by omega) hl' rfl
     rw [← hW2]
     refine wpIn_mono (hbody W2 hj2) ?_
     rintro e a3 W3 ⟨rfl, hk3, hi3⟩
     have hl3 := hk3.same _ _ (by omega) hl2 rfl
     have hr := run_endRound (P := P) none hl3
     refine ⟨_, _, hr, rfl, ?_, ?_, ?_⟩
     · exact hI.putObj _ hi3 (by omega) hl3 rfl
     · rw [World.putObj_heap_same (Array.getElem?_eq_some_iff.1 hl3).1, hrec]; rfl
     · exact (World.putObj_heap_other (by omega)).trans (hk3.same _ _ (Nat.le_refl _) hk2 rfl)
   · rintro e W2 ⟨⟨v, rfl⟩, hi, hl, hk⟩
     exact ⟨none, _, by have := run_endLoop (P := P) hl (by rw [hrec]; simp); rw [hrec] at this; exact this, hdone _ _ (Nat.le_refl _) (hI.putObj _ hi (by omega) hl rfl) ((World.putObj_heap_other (by omega)).trans hk)⟩
theorem st_rangeFL {α ι : Type} {P : Program} {M : List Nat} {w X : World} {L : List Ent} {N p : Nat} {l : List (Nat × Value)} {a : Act} {Q : Exit → Act → World → Prop} {g : Operand} {assign body : Code} (ha : Has ds a N l) (hS : St M w X L)
 (gf : Nat) (lb : Array Value) (hg : evO l g = some (.func (.func gf) #[] lb)) (eg : ∀ args w, (callFunc gf args).run P w = .ok (.enter gf args) w) (enc : α → Value) {K : World → Prop} (xs : List α) (hseq : SeqFix 5 P gf lb (fun x => #[enc x]) K xs)
 (F : List α → ι → Prop) (E : ι → List Ent) (hp : Nat.blt p N = true) (hT : ∀ i, tameL L (E i)) (hK : ∀ i A, St M w A (E i) → K A) (i0 : ι) (h0 : F [] i0) (hE : St M w X (E i0))
 (hround : ∀ (lr : Nat) (pre : List α) (x : α) (rest : List α) (W : World) (a0 : Act) (i : ι), xs = pre ++ x :: rest → F pre i → Has [] a0 N ((p, enc x) :: l) → St (domsL W (E i)) W W (E i) →
  assign.wpIn (Fence.wide.inRound lr) 4 P (Exit.then (fun a' W' => ∃ E1, St (domsL W (E i)) W W' E1 ∧ tameL L E1 ∧ ∀ W2, St (domsL W2 E1) W2 W2 E1 →
   body.wpIn (Fence.wide.inRound lr) 4 P (fun e a2 W3 => e = .normal ∧ ∃ i', F (pre ++ [x]) i' ∧ St (domsL W2 E1) W2 W3 (E i')) a' W2) (fun _ _ _ => False)) a0 W)
 (hdone : ∀ D a' X' i, F xs i → Has (mk D :: ds) a' N l → St M w X' (markE D :: E i) → Q .normal a' X') : (Code.rangeFunc g #[p] assign body).wp P Q a X := by
 have htm : ∀ E1, tameL L E1 → ∀ e ∈ E1, e.tame X.heap.size := fun E1 h => tameL_mem (fun e he b hb => (hS.new e he b hb).2) h
 have htame : ∀ i, ∀ e ∈ E i, e.tame X.heap.size := fun i => htm _ (hT i)
 refine (wpIn_wide (n := 6)).1 (wpIn_rangeFunc_lay (gf := gf) (lb := lb) (ha.ev hg) eg (encs := fun x => #[enc x]) (K := K) (xs := xs) hseq (fun _ => rfl)
  (fun pre A => ∃ i, F pre i ∧ St M w A (E i)) ?_ (fun pre A ⟨i, _, h⟩ => hK i A h) ⟨i0, h0, hE⟩ ?_ ?_)
 · intro pre A A' row ⟨i, hF, h⟩ hg' hr
   exact ⟨i, hF, h.records (htame i) hS.size hg' hr⟩
 · intro lr pre x rest W hx ⟨i, hF, hSt⟩
   have hh := hround lr pre x rest W { tmps := ((#[p] : Array Tmp).zip #[enc x]).foldl (fun t (q : Tmp × Value) => t.setIfInBounds q.1 q.2) a.tmps, defers := [] } i hx hF (by
    have h1 := ha.put hp (enc x)
    have h2 : ((#[p] : Array Tmp).zip #[enc x]).foldl (fun t (q : Tmp × Value) => t.setIfInBounds q.1 q.2) a.tmps = (a.put (some p) (enc x)).tmps := by simp [Act.put]
    rw [h2]
    exact ⟨rfl, h1.size, h1.slot⟩) hSt.inner
   refine wpIn_mono hh ?_
   intro e a' W' he
   cases e <;> try exact he.elim
   obtain ⟨E1, hS1, ht1, hb⟩ := he
   refine ⟨hSt.keepsFrom (htame i) hS1, fun A => St M w A E1, ?_, hSt.outer hS1, fun W2 hS2 => ?_⟩
   · intro _ A A' row h hg' hr
     exact h.records (htm _ ht1) hS.size hg' hr
   · refine wpIn_mono (hb W2 hS2.inner) ?_
     rintro e a2 W3 ⟨rfl, i', hF', hSt'⟩
     exact ⟨rfl, hS2.keepsFrom (htm _ ht1) hSt', i', hF', hS2.outer hSt'⟩
 · rintro D W hD ⟨i, hF, hSt⟩ hm
   exact hdone D _ W i hF ⟨by show mk D :: a.defers = _; rw [ha.defers], ha.size, ha.slot⟩ (hSt.mark (htame i) hS.size hD hm)
end Go.Proofs.YtanicpgmbhfipaaGreatDoor
namespace Go.Proofs.YtanicpgmbhfipaaGreatDoor
set_option linter.unusedVariables false
set_option linter.unusedSimpArgs false
set_option maxRecDepth 4000
open Go.RowKit Go.Sort Go.Shelf
attribute [local go_sem] Oper.semAt_some wide_fn wide_depth
theorem ins0_any (c : Nat) (A : Option Addr) (w : World) :
 Calls Tryz.prog 158 #[.slice A 0 c, .int .i64 (0 : Nat), .int .i64 (0 : Nat), .func (.func 101) #[] #[]] w fun e w' => e = .returned (.tuple #[]) ∧ Below w.heap.size w w' := by
 refine st_enter (N := 53) Tryz.func158 rfl rfl rfl (fun a0 h0 => ?_)
 have S0 := St.init w
 refine st_seq (st_reg ?_)
 refine mv h0 fun a1 h1 => ?_
 refine sv h1 (ex_add (h1.ev rfl) (h1.ev rfl) (by omega)) fun a2 h2 => ?_
 refine ma h2 fun a3 h3 => ?_
 refine st_nil (go_then (wp_block ?_))
 refine st_loop h3 S0 [0, 1, 2, 3] (fun (i : Nat) => [(8, .int .i64 1)]) (fun (i : Nat) => i = 0) (fun (i : Nat) L => L) (fun (i : Nat) => i) (0) (rfl) ⟨rfl, rfl, rfl, rfl, rfl, trivial⟩ (S0) ?_
 intro i a4 X4 hF0 h4 S4
 refine st_seq (st_seq (st_reg ?_))
 refine mvv h4 fun a6 h6 => ?_
 refine sv h6 (ex_lss (h6.ev rfl) (h6.ev rfl)) fun a7 h7 => ?_
 refine st_nil (go_then ?_)
 refine st_if_f (h7.ev rfl) (rfl) ?_
 refine wp_exit ?_
 refine go_exit_then ?_
 refine go_exit_then ?_
 refine go_exit ?_
 refine fin0 h7 rfl ?_
 exact ⟨rfl, S4.below⟩
theorem insA_any (ys : List AceP) (hlen : ys.length ≤ 19) (hf : okF ys) (v : Value) (w : World) (hr : w.ownsRow 0 111 4 v ys.length (acesV ys)) :
 Calls Tryz.prog 158 #[v, .int .i64 (0 : Nat), .int .i64 ys.length, .func (.func 101) #[] #[]] w fun e w' => ∃ p : Unit, e = .returned (.tuple #[]) ∧ True ∧ St v.ownBlock.toList w w' [.row v ys.length 111 4 (acesV (canL ys))] := by
 rcases Nat.eq_zero_or_pos ys.length with h | h
 · obtain rfl := List.eq_nil_of_length_eq_zero h
   obtain ⟨A, c, rfl, _⟩ := ownsRow_form hr
   refine (ins0_any c A w).mono ?_
   rintro e w' ⟨rfl, hb⟩
   exact ⟨(), rfl, trivial, (St.initO hr).grow hb⟩
 · rcases hr.2 with ⟨_, h0⟩ | ⟨g, c, _, rfl, _⟩
   · omega
   · refine (ins_any g c ys.length ys 0 ys.length rfl (Nat.zero_le _) (Nat.le_refl _) (by omega) hf w hr).mono ?_
     rintro e w' ⟨zs, rfl, ⟨h1, h2⟩, h3⟩
     rw [show zs = canL ys from can_of (srtI_all (by rw [h1.1]; exact h2)) h1] at h3
     exact ⟨(), rfl, trivial, h3⟩
theorem stab_any (ys : List AceP) (hlen : ys.length ≤ 19) (hf : okF ys) (v : Value) (w : World) (hr : w.ownsRow 0 111 4 v ys.length (acesV ys)) :
 Calls Tryz.prog 144 #[v, .int .i64 ys.length, .func (.func 101) #[] #[]] w fun e w' => ∃ p : Unit, e = .returned (.tuple #[]) ∧ True ∧ St v.ownBlock.toList w w' [.row v ys.length 111 4 (acesV (canL ys))] := by
 refine st_enter (N := 63) Tryz.func144 rfl rfl rfl (fun a0 h0 => ?_)
 have S0 := (St.initO hr : St v.ownBlock.toList w w _)
 refine st_seq (st_reg ?_)
 refine ma h0 fun a1 h1 => ?_
 refine nsr ?_
 refine mva h1 fun a3 h3 => ?_
 refine ma h3 fun a4 h4 => ?_
 refine st_nil (go_then (st_seq (wp_block ?_)))
 refine st_loop h4 S0 [6, 0, 1, 2] (fun (i : Nat) => [(8, .int .i64 (20 : Nat)), (7, .int .i64 (0 : Nat))]) (fun (i : Nat) => True) (fun i L => L) (fun (i : Nat) => i) (0) (trivial) ⟨rfl, rfl, rfl, rfl, rfl, rfl, trivial⟩ (S0) ?_
 intro i a5 X5 hF0 h5 S5
 refine st_seq (st_seq (st_reg ?_))
 refine mvv h5 fun a7 h7 => ?_
 refine sv h7 (ex_leq (h7.ev rfl) (h7.ev rfl)) fun a8 h8 => ?_
 refine st_nil (go_then ?_)
 refine st_if_f (h8.ev rfl) ((by rw [decide_eq_false]; omega)) ?_
 refine wp_exit ?_
 refine go_exit_then ?_
 refine go_exit_then ?_
 refine go_exit ?_
 refine go_then (st_seq (st_reg ?_))
 refine mvv h8 fun a10 h10 => ?_
 refine mvv h10 fun a12 h12 => ?_
 refine sl_updx h12 (wn rfl) (ex_call (fun _ _ => by kernel_rfl) (h12.evs rfl) rfl) rfl rfl S5 (i := 0) rfl row_dom (insA_any ys hlen hf v _ (S5.at_ (i := 0) rfl)) fun p27 a13 X13 h13 hF27 S13 => ?_
 refine st_nil (go_then (wp_block ?_))
 refine st_loop h13 S13 [0, 1, 2] (fun (i : Nat) => [(6, .int .i64 (20 : Nat))]) (fun (i : Nat) => True) (fun i L => L) (fun (i : Nat) => i) (0) (trivial) ⟨rfl, rfl, rfl, rfl, trivial⟩ (S13) ?_
 intro i a14 X14 hF1 h14 S14
 refine st_seq (st_seq (st_reg ?_))
 refine mvv h14 fun a16 h16 => ?_
 refine sv h16 (ex_lss (h16.ev rfl) (h16.ev rfl)) fun a17 h17 => ?_
 refine st_nil (go_then ?_)
 refine st_if_f (h17.ev rfl) ((by rw [decide_eq_false]; omega)) ?_
 refine wp_exit ?_
 refine go_exit_then ?_
 refine go_exit_then ?_
 refine go_exit ?_
 refine fin0 h17 rfl ?_
 exact ⟨(), rfl, trivial, S14⟩
theorem Values_any (A : Option Addr) (n c : Nat) (w : World) :
 Calls Tryz.prog 100 #[.slice A n c] w fun e w' => ∃ i : Nat, e = .returned (.func (.func 129) #[] #[.pointer (some ⟨i, 0, none⟩)]) ∧ St [] w w' [.box i #[.slice A n c] 22] := by
 refine st_enter (N := 4) Tryz.func100 rfl rfl rfl (fun a0 h0 => ?_)
 have S0 := St.init w
 refine st_seq (st_reg ?_)
 refine nb h0 rfl rfl S0 fun b1 a1 X1 gb1 h1 S1 => ?_
 refine ma h1 fun a2 h2 => ?_
 refine nsr ?_
 refine sv h2 (ex_func (h2.evs rfl) (h2.evs rfl)) fun a3 h3 => ?_
 refine ma h3 fun a4 h4 => ?_
 refine st_nil (go_then (wp_ret ?_))
 refine fin1 h4 rfl rfl ?_
 exact ⟨b1, rfl, S1⟩
set_option maxRecDepth 100000 in
set_option maxHeartbeats 400000 in
theorem values_seq (n : Nat) (A : Option Addr) (c b1 : Nat) (es : List AceP) (hes : es.length ≤ 1000) :
 SeqFix n Tryz.prog 129 #[.pointer (some ⟨b1, 0, none⟩)] (fun x : AceP => #[aceU x]) (fun W => Box W b1 #[.slice A es.length c] 22 ∧ Rd W W.heap.size A (acesV es)) es := by
 intro l J W hJK hJb hY h0
 refine callsIn_of_wp Tryz.func129 rfl trivial ?_ rfl
 simp only [Tryz.ntmps129, List.size_toArray, List.length_cons, List.length_nil, Nat.reduceAdd, Nat.reduceSub, Array.replicate_succ, Array.replicate_zero, List.push_toArray, List.append_toArray, List.nil_append, List.cons_append]
 obtain ⟨x1, x2⟩ := hJK _ _ h0
 have y1 : W.cell? ⟨b1, 0, none⟩ = some (.slice A es.length c) := x1.cells 0
 gi_wp2
 gi_loopw [7] (fun ix wr => ∃ j : Nat, j ≤ es.length ∧ ix = .int .i64 j ∧ J (es.take j) wr) (fun ix _ => es.length - (intOf ix).toNat)
 case atStart => exact ⟨0, by omega, rfl, h0⟩
 case round =>
  obtain ⟨j, hj, rfl, hJ⟩ := hrel
  clear h0 x1 x2 y1
  by_cases hlt : j < es.length
  · obtain ⟨x1, x2⟩ := hJK _ _ hJ
    obtain ⟨g, o, rfl, _⟩ := x2.opened (by rw [acesF_len]; omega)
    have hsnoc : es.take (j + 1) = es.take j ++ [es[j]] := by
     rw [List.take_succ_eq_append_getElem hlt]
    have hsplit : es = es.take j ++ es[j] :: es.drop (j + 1) := by
     rw [← List.drop_eq_getElem_cons hlt, List.take_append_drop]
    have HY := Lib.hid (fun X (hX : Below wr.heap.size wr X) => hY _ _ _ X hsplit (hJb _ _ _ hJ hX))
    have HS := Lib.hid hsnoc
    have c0 : wr.cell? ⟨g, o + j * 4, none⟩ = some (.int .i64 es[j].k) := acesAt x2 hlt 0 _ rfl
    have c1 : wr.cell? ⟨g, o + j * 4 + 1, none⟩ = some (.int .i64 es[j].f) := acesAt x2 hlt 1 _ rfl
    have c2 : wr.cell? ⟨g, o + j * 4 + 1 + 1, none⟩ = some (.int .i64 es[j].m) := acesAt x2 hlt 2 _ rfl
    have c3 : wr.cell? ⟨g, o + j * 4 + 1 + 1 + 1, none⟩ = some (.int .i64 es[j].w) := acesAt x2 hlt 3 _ rfl
    unfold aceU at HY
    clear hsplit hsnoc hY x1 x2
    gi_wp2
    obtain ⟨fn, tmps, assign, body, hy, hR'⟩ := HY.out (wr.alloc (.cells #[.int .i64 es[j].k, .int .i64 es[j].f, .int .i64 es[j].m, .int .i64 es[j].w] 111)) (bel_alloc (Below.refl _ _) _)
    rw [hy]
    gi_wp2
    refine hR'.mono ?_
    rintro e W3 ⟨rfl, hJ3⟩
    gi_wp2
    go_roundw
    case rel => exact ⟨j + 1, by omega, by go_num, by rw [HS.out]; exact hJ3⟩
    case measure => simp [intOf]; omega
  · obtain rfl : j = es.length := by omega
    rw [List.take_of_length_le (Nat.le_refl _)] at hJ
    gi_wp2
    go_end0
    exact ⟨⟨_, rfl⟩, hJ⟩
theorem appSeq_any (es : List AceP) (A : Option Addr) (c b1 : Nat) (w : World) (hes : es.length ≤ 1000) (hb : Box w b1 #[.slice A es.length c] 22) (hr : Rd w w.heap.size A (acesV es)) :
 Calls Tryz.prog 143 #[.slice none 0 0, .func (.func 129) #[] #[.pointer (some ⟨b1, 0, none⟩)]] w fun e w' => ∃ i : Option Addr × Nat, e = .returned (.slice i.1 es.length i.2) ∧ St [] w w' [.row (.slice i.1 es.length i.2) es.length 111 4 (acesV es)] := by
 refine st_enterM (N := 13) Tryz.func143 rfl rfl rfl (fun a0 h0 => ?_)
 have S0 := St.init w
 refine st_seq (st_reg ?_)
 refine nb h0 rfl rfl S0 fun b2 a1 X1 gb2 h1 S1 => ?_
 refine ma h1 fun a2 h2 => ?_
 refine st_nil (go_then (st_seq (st_seq (st_reg ?_))))
 refine mv h2 fun a3 h3 => ?_
 replace S1 := St.nilRow S1 111 4
 refine st_nil (go_then (wp_block ?_))
 refine st_rangeFL h3 S1 129 #[.pointer (some ⟨b1, 0, none⟩)] rfl (enters_of Tryz.func129 (by kernel_rfl) rfl) (aceU) (es) (values_seq 5 A c b1 es hes) (fun pre (q : List AceP × Option Addr × Nat) => pre = q.1) (fun (q : List AceP × Option Addr × Nat) => [.row (.slice q.2.1 q.1.length q.2.2) q.1.length 111 4 (acesV q.1), .box b2 #[.slice q.2.1 q.1.length q.2.2] 22]) rfl (fun _ => ⟨trivial, trivial, trivial⟩) (fun i A S => ⟨hb.below S.below, S.rd0 hr⟩) (([], none, 0)) (rfl) (S1) ?_ ?_
 ·
  intro lr pre x rest X4 a4 q hx hF0 h4 S4
  subst hF0
  have hlt : q.1.length < 1000 := by have := congrArg List.length hx; rw [List.length_append, List.length_cons] at this; omega
  refine rd_reg (by kernel_rfl) (notOut_then notOut_no) ?_
  refine na (.agg #[.int .i64 0, .int .i64 0, .int .i64 0, .int .i64 0]) h4 rfl S4 fun b5 a5 X5 gb5 h5 S5 => ?_
  refine sw h5 S5 0 fun X6 S6 => ?_
  refine st_nil (go_then ?_)
  refine ⟨_, S6, ⟨trivial, trivial, trivial, trivial⟩, fun X7 S7 => ?_⟩
  refine wpIn_block ?_
  refine rd_reg (by kernel_rfl) (notOut_block notOut_end) ?_
  refine vl h5 S7 2 fun a8 h8 => ?_
  refine sv h8 (ex_loads (by kernel_rfl) (by kernel_rfl) (h8.ev rfl) (S7.cellsAll (i := 0) rfl)) fun a9 h9 => ?_
  refine sl_bslice (zc := [.int .i64 0, .int .i64 0, .int .i64 0, .int .i64 0]) (sz := 4) h9 (wn rfl) ⟨rfl, rfl⟩ rfl Tryz.underlying22 (by kernel_rfl) (by kernel_rfl) rfl rfl rfl (h9.evs2 rfl) rfl rfl rfl S7 fun b10 a10 X10 gb10 h10 S10 => ?_
  refine sl_append (z := .agg #[.int .i64 0, .int .i64 0, .int .i64 0, .int .i64 0]) (sz := 4) (bytes := 32) h10 (wn rfl) ⟨rfl, rfl⟩ rfl Tryz.underlying22 (by kernel_rfl) rfl rfl (h10.ev rfl) (h10.ev rfl) S10 (i := 2) rfl (S10.boxRd (i := 0) rfl) rfl (List.all_eq_true.1 rfl) ⟨(by omega), by decide⟩ fun A11 c11 a11 X11 h11 S11 => ?_
  refine sw h11 S11 3 fun X12 S12 => ?_
  refine st_nil (go_block ?_)
  exact ⟨rfl, (q.1 ++ [x], A11, c11), rfl, (by show St _ _ _ [.row (.slice A11 (q.1 ++ [x]).length c11) (q.1 ++ [x]).length 111 4 (acesV (q.1 ++ [x])), .box b2 #[.slice A11 (q.1 ++ [x]).length c11] 22]; rw [acesV_append, List.length_append]; exact (S12.sub (.cons _ (.cons _ (.cons_cons _ (.cons_cons _ .slnil))))))⟩
 ·
  intro D0 a13 X13 q hF0 h13 S13
  obtain ⟨l1, A1, c1⟩ := q
  obtain rfl : es = l1 := hF0
  refine go_block (go_then (st_seq (st_reg ?_)))
  refine vl h13 S13 2 fun a14 h14 => ?_
  refine ma h14 fun a15 h15 => ?_
  refine st_nil (go_then (wp_ret ?_))
  refine fm_ret h15 ?_
  refine fm_mark S13 (i := 0) rfl (fun X16 S16 => ?_)
  refine fm_nil h15 (fun a17 h17 => ?_)
  refine fin1 h17 rfl rfl ?_
  exact ⟨(A1, c1), rfl, (S16.sub (.cons _ (.cons_cons _ (.cons _ .slnil))))⟩
end Go.Proofs.YtanicpgmbhfipaaGreatDoor
namespace Go.Proofs.YtanicpgmbhfipaaGreatDoor
set_option linter.unusedVariables false
set_option linter.unusedSimpArgs false
set_option maxRecDepth 4000
open Go.RowKit Go.Sort Go.Shelf
theorem canL_len (l : List AceP) : (canL l).length = l.length := (can_perm l).length_eq
theorem Collect_any (es : List AceP) (A : Option Addr) (c b1 : Nat) (w : World) (hes : es.length ≤ 1000) (hb : Box w b1 #[.slice A es.length c] 22) (hr : Rd w w.heap.size A (acesV es)) :
 Calls Tryz.prog 127 #[.func (.func 129) #[] #[.pointer (some ⟨b1, 0, none⟩)]] w fun e w' => ∃ i : Option Addr × Nat, e = .returned (.slice i.1 es.length i.2) ∧ St [] w w' [.row (.slice i.1 es.length i.2) es.length 111 4 (acesV es)] := by
 refine st_enter (N := 5) Tryz.func127 rfl rfl rfl (fun a0 h0 => ?_)
 have S0 := St.init w
 refine st_seq (st_reg ?_)
 refine ma h0 fun a1 h1 => ?_
 refine nsr ?_
 refine mv h1 fun a2 h2 => ?_
 refine sl_more h2 (wn rfl) (ex_call (fun _ _ => by kernel_rfl) (h2.evs rfl) rfl) rfl rfl S0 (appSeq_any es A c b1 _ hes (hb.below S0.below) (S0.rd0 hr)) fun p4 a3 X3 h3 S3 => ?_
 refine ma h3 fun a4 h4 => ?_
 refine st_nil (go_then (wp_ret ?_))
 refine fin1 h4 rfl rfl ?_
 exact ⟨p4, rfl, S3⟩
theorem aceE_f {a : AceP} (h : aceE a = 0) : 0 ≤ a.f ∧ a.f ≤ 31 := by
 unfold aceE at h
 split at h
 · split at h
   · rename_i h2
     unfold aceR inB at h2
     rw [Bool.and_eq_true, Bool.and_eq_true, Bool.and_eq_true, decide_eq_true_eq, decide_eq_true_eq] at h2
     exact h2.1.1
   · cases h
 · cases h
end Go.Proofs.YtanicpgmbhfipaaGreatDoor
namespace Go.Proofs.YtanicpgmbhfipaaGreatDoor
set_option linter.unusedVariables false
set_option linter.unusedSimpArgs false
open Go.RowKit Go.Sort
variable {ds : List Deferred}
section
variable {P : Program} {ρ : Operand → Value} {X : World} {d : Option Tmp} {ty : TypeId} {ps : String} {af : Array Edge} {g : Option (Nat × Bool)}
end
section
variable {P : Program} {ops : Array Oper} {rest : List Oper} {o : Oper} {a : Act} {Q : Exit → Act → World → Prop} {X X' : World} {N d : Nat} {l : List (Nat × Value)} {M : List Nat} {w : World} {L : List Ent}
end
end Go.Proofs.YtanicpgmbhfipaaGreatDoor
namespace Go.Proofs.YtanicpgmbhfipaaGreatDoor
set_option linter.unusedVariables false
set_option linter.unusedSimpArgs false
open Go.RowKit
end Go.Proofs.YtanicpgmbhfipaaGreatDoor
namespace Go.Proofs.YtanicpgmbhfipaaGreatDoor
set_option linter.unusedVariables false
set_option linter.unusedSimpArgs false
set_option maxRecDepth 4000
open Go.RowKit Go.Sort Go.Shelf
end Go.Proofs.YtanicpgmbhfipaaGreatDoor
namespace Go.Proofs.YtanicpgmbhfipaaGreatDoor
set_option linter.unusedVariables false
set_option linter.unusedSimpArgs false
set_option maxRecDepth 4000
open Go.RowKit Go.Sort Go.Shelf
theorem cloneA_none (A : Option Addr) (c : Nat) (w : World) :
 Calls Tryz.prog 74 #[.slice A 0 c] w fun e w' => ∃ A', e = .returned (.slice A' 0 0) ∧ w'.ownsRow w.heap.size 111 4 (.slice A' 0 0) 0 [] ∧ Below w.heap.size w w' := by
 refine st_enter (N := 8) Tryz.func74 rfl rfl rfl (fun a0 h0 => ?_)
 have S0 := St.init w
 refine st_seq (st_reg ?_)
 refine ma h0 fun a1 h1 => ?_
 refine st_nil (go_then (st_seq (st_seq (st_reg ?_))))
 refine mv h1 fun a2 h2 => ?_
 refine sv h2 (ex_snil Tryz.underlying22 (by kernel_rfl) (h2.ev rfl) (h2.ev rfl)) fun a3 h3 => ?_
 refine st_nil (go_then ?_)
 refine st_if (h3.ev rfl) (fun hc0 => ?_) (fun hc0 => ?_)
 ·
  refine st_seq (st_reg ?_)
  refine ma h3 fun a4 h4 => ?_
  refine st_nil (go_then (wp_ret (ret_then ?_)))
  refine fin1 h4 rfl rfl ?_
  exact ⟨none, rfl, World.ownsRow_nil _ _ _ _, S0.below⟩
 ·
  refine wp_skip (go_then (st_seq (st_reg ?_)))
  refine sl_bslice (zc := [.int .i64 0, .int .i64 0, .int .i64 0, .int .i64 0]) (sz := 4) h3 (wn rfl) ⟨rfl, rfl⟩ rfl Tryz.underlying22 (by kernel_rfl) (by kernel_rfl) rfl rfl rfl (h3.evs2 rfl) rfl rfl rfl S0 fun b5 a5 X5 gb5 h5 S5 => ?_
  refine mv h5 fun a6 h6 => ?_
  refine sl_append0 (sz := 4) h6 (wn rfl) ⟨rfl, rfl⟩ rfl Tryz.underlying22 (by kernel_rfl) (h6.ev rfl) (h6.ev rfl) fun a7 h7 => ?_
  refine ma h7 fun a8 h8 => ?_
  refine st_nil (go_then (wp_ret ?_))
  refine fin1 h8 rfl rfl ?_
  have S9 := S5.toRow (i := 0) (n := 0) (sz := 4) rfl rfl (by decide)
  exact ⟨_, rfl, S9.ownB (i := 0) rfl, S9.below⟩
theorem cloneA_any (l : List AceP) (A : Option Addr) (c : Nat) (w : World) (hr : Rd w w.heap.size A (acesV l)) (hlen : l.length ≤ 1000) :
 Calls Tryz.prog 74 #[.slice A l.length c] w fun e w' => ∃ A' c', e = .returned (.slice A' l.length c') ∧ w'.ownsRow w.heap.size 111 4 (.slice A' l.length c') l.length (acesV l) ∧ Below w.heap.size w w' := by
 rcases Nat.eq_zero_or_pos l.length with h0 | h0
 · have hnil : l = [] := List.eq_nil_of_length_eq_zero h0
   subst hnil
   exact (cloneA_none A c w).mono fun e w' ⟨A', he, ho, hb⟩ => ⟨A', 0, he, ho, hb⟩
 refine st_enter (N := 8) Tryz.func74 rfl rfl rfl (fun a0 h0 => ?_)
 have S0 := St.init w
 refine st_seq (st_reg ?_)
 refine ma h0 fun a1 h1 => ?_
 refine st_nil (go_then (st_seq (st_seq (st_reg ?_))))
 refine mv h1 fun a2 h2 => ?_
 refine sv h2 (ex_snil Tryz.underlying22 (by kernel_rfl) (h2.ev rfl) (h2.ev rfl)) fun a3 h3 => ?_
 refine st_nil (go_then ?_)
 refine st_if (h3.ev rfl) (fun hc0 => ?_) (fun hc0 => ?_)
 ·
  exfalso
  obtain ⟨b, o, rfl, _⟩ := hr.opened (by rw [acesF_len]; omega)
  cases hc0
 ·
  refine wp_skip (go_then (st_seq (st_reg ?_)))
  refine sl_bslice (zc := [.int .i64 0, .int .i64 0, .int .i64 0, .int .i64 0]) (sz := 4) h3 (wn rfl) ⟨rfl, rfl⟩ rfl Tryz.underlying22 (by kernel_rfl) (by kernel_rfl) rfl rfl rfl (h3.evs2 rfl) rfl rfl rfl S0 fun b5 a4 X4 gb5 h4 S4 => ?_
  refine mv h4 fun a5 h5 => ?_
  have S6 := S4.toRow (i := 0) (n := 0) (sz := 4) rfl rfl (by decide)
  refine sl_append (z := .agg #[.int .i64 0, .int .i64 0, .int .i64 0, .int .i64 0]) (sz := 4) (bytes := 32) h5 (wn rfl) ⟨rfl, rfl⟩ rfl Tryz.underlying22 (by kernel_rfl) rfl rfl (h5.ev rfl) (h5.ev rfl) S6 (i := 0) rfl (S6.rd0 hr) (acesF_len l) (aceV_one l) ⟨(by omega), by decide⟩ fun A7 c7 a7 X7 h7 S7 => ?_
  refine ma h7 fun a8 h8 => ?_
  refine st_nil (go_then (wp_ret ?_))
  refine fin1 h8 rfl rfl ?_
  have q := S7.ownB (i := 0) rfl
  rw [Nat.zero_add] at q
  exact ⟨_, _, by rw [Nat.zero_add], q, S7.below⟩
def zD : DscP := ⟨0, 0, false, false, [], []⟩
end Go.Proofs.YtanicpgmbhfipaaGreatDoor
