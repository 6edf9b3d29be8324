/-
  Chapter 16: entries in canonical order: the walks of the sort.
  A range over a function whose round's variable is laid in a new box.
  Chapter 16: entries in canonical order: the iterator of slices.Values, the stable sort of at most nineteen, acl.canonical.
  Chapter 16: entries checked and put into canonical order.
  SPL, part 20: maps with structs of plain fields as keys; only new keys are written. No program in sight.
  Chapter 16, plain: where merged entries stand.
  Chapter 16: entries merged.
  Chapter 17: a descriptor simplified.
-/
import Derived.Test.YtanicpgmbhfipaaGreatDoorAcG
import Derived.Test.YtanicpgmbhfipaaGreatDoorSplC
import Derived.Test.YtanicpgmbhfipaaGreatDoorSplD
import Derived.Test.YtanicpgmbhfipaaGreatDoorSplE
import Derived.Test.YtanicpgmbhfipaaGreatDoorSplB
import Derived.DeepKeys3
import Derived.Test.YtanicpgmbhfipaaGreatDoorKitE
namespace Go.Proofs.YtanicpgmbhfipaaGreatDoor
set_option linter.unusedVariables false
set_option linter.unusedSimpArgs false
set_option maxRecDepth 4000
open Go.RowKit Go.Sort Go.Shelf
def aceU (a : AceP) : Value := .agg #[.int .i64 a.k, .int .i64 a.f, .int .i64 a.m, .int .i64 a.w]
def ace0 : AceP := ⟨0, 0, 0, 0⟩
theorem aceV_len (a : AceP) : (aceV a).length = 4 := rfl
theorem acesF_len (l : List AceP) : (acesV l).length = l.length * 4 := acesV_length l
theorem acesV_set {l : List AceP} {k : Nat} (hk : k < l.length) (y : AceP) : (acesV l).take (k * 4) ++ aceV y ++ (acesV l).drop (k * 4 + 4) = acesV (l.set k y) := by
 unfold acesV
 rw [flat_take aceV_len, show k * 4 + 4 = (k + 1) * 4 by omega, flat_drop aceV_len, List.set_eq_take_append_cons_drop, if_pos hk, List.flatMap_append, List.flatMap_cons, List.append_assoc]
theorem acesAt {X : World} {B b o : Nat} {l : List AceP} {k : Nat} (h : Rd X B (some ⟨b, o, none⟩) (acesV l)) (hk : k < l.length) : ∀ (j : Nat) (u : Value), (aceV l[k])[j]? = some u → X.cell? ⟨b, o + k * 4 + j, none⟩ = some u := flatAt (f := aceV) aceV_len h hk
theorem acesAtD {X : World} {B b o : Nat} {l : List AceP} {k : Nat} (h : Rd X B (some ⟨b, o, none⟩) (acesV l)) (hk : k < l.length) : ∀ (j : Nat) (u : Value), (aceV (l.getD k ace0))[j]? = some u → X.cell? ⟨b, o + k * 4 + j, none⟩ = some u := by
 rw [List.getD_eq_getElem?_getD, List.getElem?_eq_getElem hk]
 exact acesAt h hk
theorem getD_at {l : List AceP} {k : Nat} (hk : k < l.length) : l.getD k ace0 = l[k] := by
 rw [List.getD_eq_getElem?_getD, List.getElem?_eq_getElem hk]; rfl
theorem acesV_swp {l : List AceP} {m : Nat} (h0 : 0 < m) (h : m < l.length) (hs : m - 1 + 1 < l.length) :
 ((acesV l).take (m * 4) ++ aceV (l.getD (m - 1) ace0) ++ (acesV l).drop (m * 4 + 4)).take ((m - 1) * 4) ++ aceV (l.getD m ace0) ++ ((acesV l).take (m * 4) ++ aceV (l.getD (m - 1) ace0) ++ (acesV l).drop (m * 4 + 4)).drop ((m - 1) * 4 + 4) = acesV (swpL l (m - 1) hs) := by
 rw [acesV_set h, acesV_set (by rw [List.length_set]; omega)]
 congr 1
 obtain ⟨j, rfl⟩ : ∃ j, m = j + 1 := ⟨m - 1, by omega⟩
 simp only [Nat.add_sub_cancel] at hs ⊢
 unfold swpL
 rw [getD_at (by omega : j < l.length), getD_at hs, List.set_comm _ _ (by omega)]
theorem Has.also {ds : List Deferred} {a : Act} {N t : Nat} {l : List (Nat × Value)} {v : Value} (h : Has ds a N l) (ht : look l t = some v) : Has ds a N ((t, v) :: l) := ⟨h.defers, h.size, fun u x hu => by
 unfold look at hu
 cases hb : Nat.beq t u with
 | true =>
  rw [hb] at hu
  obtain rfl := Nat.eq_of_beq_eq_true hb
  injection hu with hu
  subst hu
  exact h.slot _ _ ht
 | false => rw [hb] at hu; exact h.slot _ _ hu⟩
theorem le4 {k n : Nat} (h : k < n) : 0 + k * 4 + 4 ≤ n * 4 := by omega
theorem rank_any (a : AceP) (w : World) (f0 : 0 ≤ a.f) (f1 : a.f ≤ 31) : Calls Tryz.prog 130 #[aceU a] w fun e w' => e = .returned (.int .i64 (rankA a)) ∧ Below w.heap.size w w' := by
 have hb : (bits .and .i64 a.f 16 != 0) = bitI a.f 4 := and_bit a.f 4 f0 (by omega) (by decide)
 refine st_enter (N := 14) Tryz.func130 rfl rfl rfl (fun a0 h0 => ?_)
 have S0 := St.init w
 refine st_seq (st_reg ?_)
 refine nb h0 rfl rfl S0 fun b1 a1 X1 gb1 h1 S1 => ?_
 refine ma h1 fun a2 h2 => ?_
 refine nsr ?_
 refine ma h2 fun a3 h3 => ?_
 refine st_nil (go_then (st_seq (st_seq (st_reg ?_))))
 refine vf h3 1 1 fun a4 h4 => ?_
 refine vl h4 S1 0 fun a5 h5 => ?_
 refine sv h5 (ex_bits (r := bits .and .i64 a.f 16) rfl (h5.ev rfl) (h5.ev rfl) rfl) fun a6 h6 => ?_
 refine sv h6 (ex_neq (h6.ev rfl) (h6.ev rfl)) fun a7 h7 => ?_
 refine st_nil (go_then ?_)
 refine st_joinH h7 S1 [(3, .int .i64 (if bitI a.f 4 = true then 2 else 0))] [2, 1] ?_ (fun a8 X8 h8 S8 => ?_)
 ·
  refine st_if (h7.ev rfl) (fun hc0 => ?_) (fun hc0 => ?_)
  ·
   refine st_reg ?_
   refine ma h7 fun a9 h9 => ?_
   refine st_nil (go_then ?_)
   have h4 : bitI a.f 4 = true := by rw [← hb]; exact hc0
   replace h9 := Has.also h9 (t := 3) (v := .int .i64 (if bitI a.f 4 = true then 2 else 0)) ((show look _ 3 = some (.int .i64 2) from rfl).trans (by rw [if_pos h4]))
   exact ⟨h9.re ⟨rfl, rfl, rfl, trivial⟩, S1⟩
  ·
   refine wp_skip (go_then ?_)
   have h4 : ¬ bitI a.f 4 = true := by rw [← hb]; exact fun h => by rw [h] at hc0; cases hc0
   replace h7 := Has.also h7 (t := 3) (v := .int .i64 (if bitI a.f 4 = true then 2 else 0)) ((show look _ 3 = some (.int .i64 0) from rfl).trans (by rw [if_neg h4]))
   exact ⟨h7.re ⟨rfl, rfl, rfl, trivial⟩, S1⟩
 ·
  refine go_then (st_seq (st_seq (st_reg ?_)))
  refine vf h8 0 0 fun a10 h10 => ?_
  refine vl h10 S8 0 fun a11 h11 => ?_
  refine sv h11 (ex_neq (h11.ev rfl) (h11.ev rfl)) fun a12 h12 => ?_
  refine st_nil (go_then ?_)
  refine st_if (h12.ev rfl) (fun hc1 => ?_) (fun hc1 => ?_)
  ·
   refine st_reg ?_
   refine mv h12 fun a13 h13 => ?_
   refine sv h13 (ex_add (h13.ev rfl) (h13.ev rfl) (by split <;> omega)) fun a14 h14 => ?_
   refine ma h14 fun a15 h15 => ?_
   refine nsr ?_
   refine mva h15 fun a17 h17 => ?_
   refine st_nil (go_then (wp_ret ?_))
   refine fin1 h17 rfl rfl ?_
   have hk : a.k ≠ 1 := by simpa using hc1
   exact ⟨by unfold rankA; rw [if_neg hk]; congr 2; omega, S8.below⟩
  ·
   refine wp_skip (go_then (st_seq (st_reg ?_)))
   refine mva h12 fun a19 h19 => ?_
   refine st_nil (go_then (wp_ret ?_))
   refine fin1 h19 rfl rfl ?_
   have hk : a.k = 1 := by simpa using hc1
   exact ⟨by unfold rankA; rw [if_pos hk]; congr 2; omega, S8.below⟩
theorem byRank_any (a b : AceP) (w : World) (f0 : 0 ≤ a.f) (f1 : a.f ≤ 31) (g0 : 0 ≤ b.f) (g1 : b.f ≤ 31) : Calls Tryz.prog 101 #[aceU a, aceU b] w fun e w' => e = .returned (.int .i64 (rankA a - rankA b)) ∧ Below w.heap.size w w' := by
 refine st_enter (N := 10) Tryz.func101 rfl rfl rfl (fun a0 h0 => ?_)
 have S0 := St.init w
 refine st_seq (st_reg ?_)
 refine nb h0 rfl rfl S0 fun b2 a1 X1 gb2 h1 S1 => ?_
 refine nb h1 rfl rfl S1 fun b3 a2 X2 gb3 h2 S2 => ?_
 refine ma h2 fun a3 h3 => ?_
 refine st_nil (go_then (st_seq ?_))
 apply dr_flow h3 [false, false, false] _ (by kernel_rfl)
 case h =>
  refine qv (v := aceU a) h3 (fun X hX => ex_loads (by kernel_rfl) (by kernel_rfl) (h3.ev rfl) ((S2.grow hX).cellsAll (i := 1) rfl)) fun a4 h4 => ?_
  refine sq_bel h4 (wn rfl) rfl rfl (fun X => (ex_call (fun _ _ => by kernel_rfl) (h4.evs rfl) rfl)) (fun X hX => rank_any a _ f0 f1) fun a5 h5 => ?_
  refine qv (v := aceU b) h5 (fun X hX => ex_loads (by kernel_rfl) (by kernel_rfl) (h5.ev rfl) ((S2.grow hX).cellsAll (i := 0) rfl)) fun a6 h6 => ?_
  refine sq_nil ?_
  refine nd_end fun X7 hX7 hΦ7 => ?_
  have S7 := S2.grow hX7
  refine sl_bel h6 (wn rfl) (ex_call (fun _ _ => by kernel_rfl) (h6.evs rfl) rfl) rfl rfl S7 (rank_any b _ g0 g1) fun a8 X8 h8 S8 => ?_
  refine sv h8 (ex_sub (h8.ev rfl) (h8.ev rfl) (by rcases rank_in a with e | e | e | e <;> rcases rank_in b with e' | e' | e' | e' <;> rw [e, e'] <;> decide)) fun a9 h9 => ?_
  refine ma h9 fun a10 h10 => ?_
  refine st_nil (go_then (wp_ret ?_))
  refine fin1 h10 rfl rfl ?_
  exact ⟨rfl, S8.below⟩
 case hB => kernel_rfl
 case hst => rfl
def okF (l : List AceP) : Prop := ∀ x ∈ l, 0 ≤ x.f ∧ x.f ≤ 31
theorem okF_same {y l : List AceP} (h : sameR y l) (hl : okF l) : okF y := fun x hx => by
 have e : x ∈ rkF (rankA x) y := List.mem_filter.2 ⟨hx, by simp⟩
 rw [h.2] at e
 exact hl x (List.mem_filter.1 e).1
theorem okF_getD {l : List AceP} (hl : okF l) (k : Nat) : 0 ≤ (l.getD k ace0).f ∧ (l.getD k ace0).f ≤ 31 := by
 by_cases hk : k < l.length
 · rw [getD_at hk]; exact hl _ (List.getElem_mem hk)
 · rw [List.getD_eq_getElem?_getD, List.getElem?_eq_none (by omega)]; exact ⟨Int.le_refl 0, by decide⟩
theorem ins_any (g c n : Nat) (ys : List AceP) (a b : Nat) (hn : n = ys.length) (ha : a ≤ n) (hb : b ≤ n) (hlen : n ≤ 1000) (hf : okF ys) (w : World) (hr : w.ownsRow 0 111 4 (.slice (some ⟨g, 0, none⟩) n c) n (acesV ys)) :
 Calls Tryz.prog 158 #[.slice (some ⟨g, 0, none⟩) n c, .int .i64 a, .int .i64 b, .func (.func 101) #[] #[]] w fun e X' => ∃ zs : List AceP, e = .returned (.tuple #[]) ∧ (sameR zs ys ∧ srtI a b zs) ∧ St (Value.slice (some ⟨g, 0, none⟩) n c).ownBlock.toList w X' [.row (.slice (some ⟨g, 0, none⟩) n c) n 111 4 (acesV zs)] := by
 refine st_enter (N := 53) Tryz.func158 rfl rfl rfl (fun a0 h0 => ?_)
 have S0 := St.initO hr
 refine st_seq (st_reg ?_)
 refine mv h0 fun a1 h1 => ?_
 refine sv h1 (ex_add (h1.ev rfl) (h1.ev rfl) (by omega)) fun a2 h2 => ?_
 refine ma h2 fun a3 h3 => ?_
 refine st_nil (go_then (wp_block ?_))
 refine st_loop h3 S0 [0, 1, 2, 3] (fun (q : Nat × List AceP) => [(8, .int .i64 q.1)]) (fun (q : Nat × List AceP) => a + 1 ≤ q.1 ∧ (q.1 ≤ b ∨ q.1 = a + 1) ∧ sameR q.2 ys ∧ srtI a q.1 q.2) (fun q L => [.row (.slice (some ⟨g, 0, none⟩) n c) n 111 4 (acesV q.2)]) (fun (q : Nat × List AceP) => b - q.1) ((a + 1, ys)) (⟨Nat.le_refl _, .inr rfl, sameR.rfl' ys, srtI_one a ys⟩) ⟨rfl, rfl, rfl, rfl, rfl, trivial⟩ (S0) ?_
 intro q a4 X4 hF0 h4 S4
 refine st_seq (st_seq (st_reg ?_))
 refine mvv h4 fun a6 h6 => ?_
 refine sv h6 (ex_lss (h6.ev rfl) (h6.ev rfl)) fun a7 h7 => ?_
 refine st_nil (go_then ?_)
 refine st_if (h7.ev rfl) (fun hc0 => ?_) (fun hc0 => ?_)
 ·
  obtain ⟨hq1, hq2, hq3, hq4⟩ := hF0
  have hlt : q.1 < b := by have := of_decide_eq_true hc0; omega
  refine wp_skip (go_then (st_seq (wp_block (st_seq (st_reg ?_)))))
  refine mva h7 fun a9 h9 => ?_
  refine st_nil (go_then (wp_block ?_))
  refine st_loop h9 S4 [17, 14, 13, 12, 8, 0, 1, 2, 3] (fun (p : Nat × List AceP) => [(9, .int .i64 p.1)]) (fun (p : Nat × List AceP) => a ≤ p.1 ∧ p.1 ≤ q.1 ∧ sameR p.2 ys ∧ insI a q.1 p.1 p.2) (fun p L => [.row (.slice (some ⟨g, 0, none⟩) n c) n 111 4 (acesV p.2)]) (fun (p : Nat × List AceP) => p.1) ((q.1, q.2)) (⟨by show a ≤ q.1; omega, Nat.le_refl _, hq3, insI_begin hq4⟩) ⟨rfl, rfl, rfl, rfl, rfl, rfl, rfl, rfl, rfl, rfl, trivial⟩ (S4) ?_
  intro p a10 X10 hF1 h10 S10
  obtain ⟨hp1, hp2, hp3, hp4⟩ := hF1
  have hpl : p.2.length = n := by rw [hp3.1, hn]
  have hpf := okF_same hp3 hf
  refine st_seq (st_seq ?_)
  apply dr_flow h10 [false, false, false, false, false, false, false, false, false, false, false, false, false, false, false, false] _ (by kernel_rfl)
  case h =>
   refine qv h10 (fun X hX => ex_move (h10.ev rfl)) fun a11 h11 => ?_
   refine qv h11 (fun X hX => ex_move (h11.ev rfl)) fun a12 h12 => ?_
   refine qv h12 (fun X hX => ex_gtr (h12.ev rfl) (h12.ev rfl)) fun a13 h13 => ?_
   refine qv h13 (fun X hX => ex_move (h13.ev rfl)) fun a14 h14 => ?_
   apply sq_grp h14 21 rfl 12 33
   case ht =>
    intro gc21
    have hgt : a < p.1 := by have := of_decide_eq_true gc21; omega
    refine qy h14 (fun X hX => (ex_move (h14.ev rfl))) fun a15 h15 => ?_
    refine qy h15 (fun X hX => (ex_move (h15.ev rfl))) fun a16 h16 => ?_
    refine qy h16 (fun X hX => (ex_move (h16.ev rfl))) fun a17 h17 => ?_
    refine qy h17 (fun X hX => (ex_index (i := p.1) (sz := 4) Tryz.underlying22 (by kernel_rfl) (h17.ev rfl) (h17.ev rfl) (by omega) (by omega) rfl)) fun a18 h18 => ?_
    refine sq_val (v := aceU (p.2.getD p.1 ace0)) h18 (wanted_yes h18 _ rfl rfl rfl gc21) rfl rfl (fun X hX => (ex_loads (by kernel_rfl) (by kernel_rfl) (h18.ev rfl) (acesAtD ((S10.grow hX).rdOf (i := 0) rfl) (by omega)))) fun a19 h19 => ?_
    refine qy h19 (fun X hX => (ex_move (h19.ev rfl))) fun a20 h20 => ?_
    refine qy h20 (fun X hX => (ex_move (h20.ev rfl))) fun a21 h21 => ?_
    refine qy h21 (fun X hX => (as_val (v' := .int .i64 ((p.1 - 1 : Nat) : Int)) (congrArg _ (by omega)) (ex_sub (h21.ev rfl) (h21.ev rfl) (by omega)))) fun a22 h22 => ?_
    refine qy h22 (fun X hX => (ex_index (i := p.1 - 1) (sz := 4) Tryz.underlying22 (by kernel_rfl) (h22.ev rfl) (h22.ev rfl) (by omega) (by omega) rfl)) fun a23 h23 => ?_
    refine sq_val (v := aceU (p.2.getD (p.1 - 1) ace0)) h23 (wanted_yes h23 _ rfl rfl rfl gc21) rfl rfl (fun X hX => (ex_loads (by kernel_rfl) (by kernel_rfl) (h23.ev rfl) (acesAtD ((S10.grow hX).rdOf (i := 0) rfl) (by omega)))) fun a24 h24 => ?_
    refine sq_bel h24 (wanted_yes h24 _ rfl rfl rfl gc21) rfl rfl (fun X => (ex_callv (fun _ _ => by kernel_rfl) (h24.ev rfl) (h24.evs rfl) rfl)) (fun X hX => byRank_any (p.2.getD p.1 ace0) (p.2.getD (p.1 - 1) ace0) _ (okF_getD hpf _).1 (okF_getD hpf _).2 (okF_getD hpf _).1 (okF_getD hpf _).2) fun a25 h25 => ?_
    refine qy h25 (fun X hX => (ex_lss (h25.ev rfl) (h25.ev rfl))) fun a26 h26 => ?_
    exact sq_nil (h26.mid (m := [(_, _), (_, _), (_, _), (_, _), (_, _), (_, _), (_, _), (_, _), (_, _), (_, _), (_, _)]) rfl)
   case hf =>
    intro gc21
    refine qo h14 fun a27 h27 => ?_
    refine qo h27 fun a28 h28 => ?_
    refine qo h28 fun a29 h29 => ?_
    refine qo h29 fun a30 h30 => ?_
    refine qo h30 fun a31 h31 => ?_
    refine qo h31 fun a32 h32 => ?_
    refine qo h32 fun a33 h33 => ?_
    refine qo h33 fun a34 h34 => ?_
    refine qo h34 fun a35 h35 => ?_
    refine qo h35 fun a36 h36 => ?_
    refine qo h36 fun a37 h37 => ?_
    refine qo h37 fun a38 h38 => ?_
    exact sq_nil ⟨_, h38.mid (m := [(_, _), (_, _), (_, _), (_, _), (_, _), (_, _), (_, _), (_, _), (_, _), (_, _), (_, _)]) rfl⟩
   case h =>
    intro v39 a39 hg33 h39
    refine sq_nil ?_
    refine nd_end fun X40 hX40 hΦ40 => ?_
    have S40 := S10.grow hX40
    refine sv h39 (ex_pick_and (h39.ev rfl) (h39.ev rfl) hg33 (h39.ev rfl)) fun a41 h41 => ?_
    refine st_nil (go_then ?_)
    refine st_if (h41.ev rfl) (fun hc1 => ?_) (fun hc1 => ?_)
    ·
     obtain ⟨u1, u2⟩ := Bool.and_eq_true_iff.1 hc1
     have hgt : a < p.1 := by have := of_decide_eq_true u1; omega
     have hsl : p.1 - 1 + 1 < p.2.length := by omega
     have hrk : rankA (p.2[p.1 - 1 + 1]'hsl) < rankA (p.2[p.1 - 1]'(by omega)) := by
      have := of_decide_eq_true u2
      rw [getD_at (show p.1 < p.2.length by omega), getD_at (show p.1 - 1 < p.2.length by omega)] at this
      have e : p.2[p.1 - 1 + 1]'hsl = p.2[p.1]'(by omega) := by congr 1; omega
      rw [e]; omega
     refine wp_skip (go_then (st_seq (wp_block ?_)))
     apply dr_flowM h41 (St.domAt S40 (i := 0) rfl) [(15, (St.domAt S40 (i := 0) rfl))] [] [false, false, false, false, false, false, false, false, false, true, false, false, false, true, false, true] _ (by kernel_rfl) (all1 (fun b hb => hb))
     case h =>
      refine qv h41 (fun X hX => ex_move (h41.ev rfl)) fun a42 h42 => ?_
      refine qv h42 (fun X hX => ex_move (h42.ev rfl)) fun a43 h43 => ?_
      refine qv h43 (fun X hX => ex_move (h43.ev rfl)) fun a44 h44 => ?_
      refine qv h44 (fun X hX => ex_move (h44.ev rfl)) fun a45 h45 => ?_
      refine qv h45 (fun X hX => as_val (v' := .int .i64 ((p.1 - 1 : Nat) : Int)) (congrArg _ (by omega)) (ex_sub (h45.ev rfl) (h45.ev rfl) (by omega))) fun a46 h46 => ?_
      refine qv h46 (fun X hX => ex_move (h46.ev rfl)) fun a47 h47 => ?_
      refine qv h47 (fun X hX => ex_move (h47.ev rfl)) fun a48 h48 => ?_
      refine qv h48 (fun X hX => as_val (v' := .int .i64 ((p.1 - 1 : Nat) : Int)) (congrArg _ (by omega)) (ex_sub (h48.ev rfl) (h48.ev rfl) (by omega))) fun a49 h49 => ?_
      refine qv h49 (fun X hX => ex_index (i := p.1 - 1) (sz := 4) Tryz.underlying22 (by kernel_rfl) (h49.ev rfl) (h49.ev rfl) (by omega) (by omega) rfl) fun a50 h50 => ?_
      refine qv h50 (fun X hX => ex_move (h50.ev rfl)) fun a51 h51 => ?_
      refine qv h51 (fun X hX => ex_move (h51.ev rfl)) fun a52 h52 => ?_
      refine qv h52 (fun X hX => ex_index (i := p.1) (sz := 4) Tryz.underlying22 (by kernel_rfl) (h52.ev rfl) (h52.ev rfl) (by omega) (by omega) rfl) fun a53 h53 => ?_
      refine qv h53 (fun X hX => ex_index (i := p.1) (sz := 4) Tryz.underlying22 (by kernel_rfl) (h53.ev rfl) (h53.ev rfl) (by omega) (by omega) rfl) fun a54 h54 => ?_
      refine sq_nil ?_
      apply nm_early (k := 9) (deps := []) (R := IsVal (aceU (p.2.getD (p.1 - 1) ace0))) h54 rfl rfl rfl (by kernel_rfl) IsVal.stable (all1 IsVal.kp) all0
      case hx => exact fun X hX hΦ => lv_val (ex_loads (by kernel_rfl) (by kernel_rfl) (h54.ev rfl) (acesAtD ((S40.grow hX).rdOf (i := 0) rfl) (by omega)))
      intro v46 a55 h55
      apply nm_early (k := 13) (deps := []) (R := IsVal (aceU (p.2.getD p.1 ace0))) h55 rfl rfl rfl (by kernel_rfl) IsVal.stable (all1 IsVal.kp) all0
      case hx => exact fun X hX hΦ => lv_val (ex_loads (by kernel_rfl) (by kernel_rfl) (h55.ev rfl) (acesAtD ((S40.grow hX).rdOf (i := 0) rfl) (by omega)))
      intro v50 a56 h56
      apply nm_sto (k := 15) (deps := [9]) (R := IsRow _ _ _ _ _) h56 rfl rfl rfl IsRow.stable all0
      case hx => exact fun X hX hΦ => lv_rowset rfl (h56.ev rfl) ((h56.ev rfl).trans (told_get (k := 9) hΦ rfl rfl)) rfl (by kernel_rfl) ((S40.grow hX).at_ (i := 0) rfl) rfl (le4 (by omega))
      intro vs15
      refine nm_end (O := (St.domAt S40 (i := 0) rfl)) (all1 (fun b hb => hb)) fun X57 hX57 hΦ57 => ?_
      have q9 : v46 = _ := told_all hΦ57 (k := 9) rfl
      subst q9
      have q13 : v50 = _ := told_all hΦ57 (k := 13) rfl
      subst q13
      have S57 := S40.growSet (i := 0) rfl hX57 (told_all hΦ57 (k := 15) rfl : IsRow _ _ _ _ _ vs15 X57)
      refine sv h56 (ex_index (i := p.1 - 1) (sz := 4) Tryz.underlying22 (by kernel_rfl) (h56.ev rfl) (h56.ev rfl) (by omega) (by omega) rfl) fun a58 h58 => ?_
      refine sl_rowset h58 (wn rfl) ⟨rfl, rfl⟩ (h58.ev rfl) (h58.ev rfl) rfl (by kernel_rfl) S57 (i := 0) rfl rfl (le4 (by omega)) fun X59 S59 => ?_
      replace S59 := S59.rowTo (i := 0) (n' := n) (xs' := acesV (swpL p.2 (p.1 - 1) hsl)) rfl rfl (by
       simp only [Nat.zero_add]
       exact acesV_swp (by omega) (by omega) hsl)
      refine st_nil (go_block (go_then (st_reg ?_)))
      refine mv h58 fun a60 h60 => ?_
      refine sv h60 (as_val (v' := .int .i64 ((p.1 - 1 : Nat) : Int)) (congrArg _ (by omega)) (ex_sub (h60.ev rfl) (h60.ev rfl) (by omega))) fun a61 h61 => ?_
      refine ma h61 fun a62 h62 => ?_
      refine st_nil (go_then ?_)
      exact ⟨(p.1 - 1, swpL p.2 (p.1 - 1) hsl), (by show p.1 - 1 < p.1; omega), ⟨by show a ≤ p.1 - 1; omega, by show p.1 - 1 ≤ q.1; omega, (swp_same hsl (by intro e; omega)).trans hp3, insI_step (by omega) (by omega) hsl (by rw [show p.1 - 1 + 1 = p.1 by omega]; exact hp4) (by omega)⟩, h62.re ⟨rfl, rfl, rfl, rfl, rfl, rfl, rfl, rfl, rfl, rfl, trivial⟩, S59⟩
     case hB => kernel_rfl
    ·
     have hend : srtI a (q.1 + 1) p.2 := insI_end hp4 (by
      by_cases hle : p.1 ≤ a
      · exact .inl hle
      · right
        refine ⟨⟨by omega, by omega⟩, ?_⟩
        have u1 : decide ((p.1 : Int) > a) = true := decide_eq_true (by omega)
        rw [u1, Bool.true_and] at hc1
        have := of_decide_eq_false hc1
        rw [getD_at (show p.1 < p.2.length by omega), getD_at (show p.1 - 1 < p.2.length by omega)] at this
        omega)
     refine wp_exit ?_
     refine go_exit_then ?_
     refine go_exit_then ?_
     refine go_exit ?_
     refine go_block (go_then (st_reg ?_))
     refine mv h41 fun a63 h63 => ?_
     refine sv h63 (ex_add (h63.ev rfl) (h63.ev rfl) (by omega)) fun a64 h64 => ?_
     refine ma h64 fun a65 h65 => ?_
     refine st_nil (go_then ?_)
     exact ⟨(q.1 + 1, p.2), (by show b - (q.1 + 1) < b - q.1; omega), ⟨Nat.le_succ_of_le hq1, .inl hlt, hp3, hend⟩, h65.re ⟨rfl, rfl, rfl, rfl, rfl, trivial⟩, S40⟩
  case hB => kernel_rfl
  case hst => rfl
 ·
  obtain ⟨hq1, hq2, hq3, hq4⟩ := hF0
  have hge : b ≤ q.1 := by have := of_decide_eq_false hc0; omega
  refine wp_exit ?_
  refine go_exit_then ?_
  refine go_exit_then ?_
  refine go_exit ?_
  refine fin0 h7 rfl ?_
  exact ⟨q.2, rfl, ⟨hq3, fun i j h1 h2 h3 hj => hq4 i j h1 h2 (by omega) hj⟩, S4⟩
end Go.Proofs.YtanicpgmbhfipaaGreatDoor
namespace Go.Proofs.YtanicpgmbhfipaaGreatDoor
set_option linter.unusedVariables false
set_option linter.unusedSimpArgs false
open Go.RowKit Go.Sort Go.Shelf
variable {ds : List Deferred}
theorem wpIn_rangeFunc_lay {α : Type} {n : Nat} {P : Program} {w : World} {g : Operand} {ps : Array Tmp} {assign body : Code} {Q : Exit → Act → World → Prop} {a : Act}
 {gf : Nat} {lb : Array Value} (hg : a.eval g = .func (.func gf) #[] lb) (eg : ∀ args w, (callFunc gf args).run P w = .ok (.enter gf args) w)
 {encs : α → Array Value} {K : World → Prop} {xs : List α} (hseq : SeqFix (n - 1) P gf lb encs K xs)
 (hps : ∀ x, (encs x).size = ps.size)
 (I : List α → World → Prop) (hI : OwnFrom w.heap.size I) (hIK : ∀ s A, I s A → K A) (h0 : I [] w)
 (hround : ∀ (l : Nat) (pre : List α) (x : α) (rest : List α) (W : World), xs = pre ++ x :: rest → I pre W →
  assign.wpIn (Fence.wide.inRound l) (n - 1 - 1) P (Exit.then (fun a' W' => KeepsFrom w.heap.size W W' ∧ ∃ J : World → Prop, OwnFrom w.heap.size (fun _ : Unit => J) ∧ J W' ∧ ∀ W2, J W2 →
   body.wpIn (Fence.wide.inRound l) (n - 1 - 1) P (fun e _ W3 => e = .normal ∧ KeepsFrom w.heap.size W2 W3 ∧ I (pre ++ [x]) W3) a' W2) (fun _ _ _ => False))
   { tmps := (ps.zip (encs x)).foldl (fun t (p, v) => t.setIfInBounds p v) a.tmps, defers := [] } W)
 (hdone : ∀ (D : Nat) (W : World), w.heap.size ≤ D → I xs W → W.heap[D]? = some (.deferred (some [])) → Q .normal { a with defers := { target := .collected D, args := #[] } :: a.defers } W) :
 (Code.rangeFunc g ps assign body).wpIn Fence.wide n P Q a w := by
 refine wpIn_rangeFunc ?_
 intro fn hfn
 obtain ⟨rec, hrec⟩ : ∃ rec : LoopState → Option Code → Loop, rec = fun s pe => { state := s, pending := pe, fn, tmps := a.tmps, params := ps, assign, body, defers := w.heap.size } := ⟨_, rfl⟩
 obtain ⟨W1, hW1⟩ : ∃ W1, (w.alloc (.deferred (some []))).alloc (.loop (rec .ready none)) = W1 := ⟨_, rfl⟩
 have hL1 : W1.heap[w.heap.size + 1]? = some (.loop (rec .ready none)) := by
  rw [← hW1]; have := World.alloc_heap_new (w.alloc (.deferred (some []))) (.loop (rec .ready none)); rwa [World.size_alloc] at this
 have hK1 : W1.heap[w.heap.size]? = some (.deferred (some [])) := by
  rw [← hW1]; exact (Below.heap_alloc _ _ _ (by simp)).trans (World.alloc_heap_new w _)
 have hI1 : I [] W1 := by rw [← hW1]; exact hI.alloc _ (hI.alloc _ h0)
 refine ⟨w.heap.size + 1, [{ target := .collected w.heap.size, args := #[] }], W1, { target := .fn (.func gf) lb, args := #[.func (.yield (w.heap.size + 1)) #[] #[]] }, W1, gf,
  #[.func (.yield (w.heap.size + 1)) #[] #[]] ++ lb, W1, ?_, ?_, fun _ _ => trivial, ?_, fun e => (by cases e), ?_⟩
 · rw [← hW1, hrec]; exact run_enterLoop_outer _ _ _ _ _
 · simp only [resolve, hg]
   simp [go_sem]
 · simp [invoke, go_sem, eg]
 · refine (hseq (w.heap.size + 1)
    (fun pre W => I pre W ∧ W.heap[w.heap.size + 1]? = some (.loop (rec .ready none)) ∧ W.heap[w.heap.size]? = some (.deferred (some [])))
    W1 (fun s A hs => hIK s A hs.1)
    (fun s A B hs hb => ⟨hI s A B none hs.1 ⟨hb.os, hb.tape, hb.output, hb.size, fun k hk _ => hb.block k hk⟩ (fun r e => (by cases e)), (hb.block _ (Array.getElem?_eq_some_iff.1 hs.2.1).1).trans hs.2.1, (hb.block _ (Array.getElem?_eq_some_iff.1 hs.2.2).1).trans hs.2.2⟩)
    ?_ ⟨hI1, hL1, hK1⟩).mono ?_
   · rintro pre x rest W hx ⟨hi, hl, hk⟩
     have hlt : w.heap.size + 1 < W.heap.size := (Array.getElem?_eq_some_iff.1 hl).1
     have hy := run_yield (P := P) (args := encs x) hl (by rw [hrec]; exact hps x)
     rw [hrec] at hy
     refine ⟨fn, _, assign, body, hy, roundIn_of_wpIn hfn (wpIn_mono (hround (w.heap.size + 1) pre x rest W hx hi) ?_)⟩
     clear hy
     intro e0 a1 W' he0
     cases e0 <;> try exact he0.elim
     obtain ⟨hkw, J, hJ, hj, hbody⟩ := he0
     have hl' := hkw.same _ _ (by omega) hl rfl
     have hk' := hkw.same _ _ (Nat.le_refl _) hk rfl
     have hlt' : w.heap.size + 1 < W'.heap.size := (Array.getElem?_eq_some_iff.1 hl').1
     refine ⟨_, run_beginRound hl' (by rw [hrec]), ?_⟩
     obtain ⟨W2, hW2⟩ : ∃ W2, W2 = W'.putObj (w.heap.size + 1) (.loop { rec .ready none with state := .busy }) := ⟨_, rfl⟩
     have hl2 : W2.heap[w.heap.size + 1]? = some (.loop { rec .ready none with state := .busy }) := by rw [hW2]; exact World.putObj_heap_same hlt'
     have hk2 : W2.heap[w.heap.size]? = some (.deferred (some [])) := by rw [hW2]; exact (World.putObj_heap_other (by omega)).trans hk'
     have hj2 : J W2 := by rw [hW2]; exact hJ.putObj (s := ()) _ hj (by omega) hl' rfl
     rw [← hW2]
     refine wpIn_mono (hbody W2 hj2) ?_
     rintro e a3 W3 ⟨rfl, hk3, hi3⟩
     have hl3 := hk3.same _ _ (by omega) hl2 rfl
     have hr := run_endRound (P := P) none hl3
     refine ⟨_, _, hr, rfl, ?_, ?_, ?_⟩
     · exact hI.putObj _ hi3 (by omega) hl3 rfl
     · rw [World.putObj_heap_same (Array.getElem?_eq_some_iff.1 hl3).1, hrec]; rfl
     · exact (World.putObj_heap_other (by omega)).trans (hk3.same _ _ (Nat.le_refl _) hk2 rfl)
   · rintro e W2 ⟨⟨v, rfl⟩, hi, hl, hk⟩
     exact ⟨none, _, by have := run_endLoop (P := P) hl (by rw [hrec]; simp); rw [hrec] at this; exact this, hdone _ _ (Nat.le_refl _) (hI.putObj _ hi (by omega) hl rfl) ((World.putObj_heap_other (by omega)).trans hk)⟩
theorem st_rangeFL {α ι : Type} {P : Program} {M : List Nat} {w X : World} {L : List Ent} {N p : Nat} {l : List (Nat × Value)} {a : Act} {Q : Exit → Act → World → Prop} {g : Operand} {assign body : Code} (ha : Has ds a N l) (hS : St M w X L)
 (gf : Nat) (lb : Array Value) (hg : evO l g = some (.func (.func gf) #[] lb)) (eg : ∀ args w, (callFunc gf args).run P w = .ok (.enter gf args) w) (enc : α → Value) {K : World → Prop} (xs : List α) (hseq : SeqFix 5 P gf lb (fun x => #[enc x]) K xs)
 (F : List α → ι → Prop) (E : ι → List Ent) (hp : Nat.blt p N = true) (hT : ∀ i, tameL L (E i)) (hK : ∀ i A, St M w A (E i) → K A) (i0 : ι) (h0 : F [] i0) (hE : St M w X (E i0))
 (hround : ∀ (lr : Nat) (pre : List α) (x : α) (rest : List α) (W : World) (a0 : Act) (i : ι), xs = pre ++ x :: rest → F pre i → Has [] a0 N ((p, enc x) :: l) → St (domsL W (E i)) W W (E i) →
  assign.wpIn (Fence.wide.inRound lr) 4 P (Exit.then (fun a' W' => ∃ E1, St (domsL W (E i)) W W' E1 ∧ tameL L E1 ∧ ∀ W2, St (domsL W2 E1) W2 W2 E1 →
   body.wpIn (Fence.wide.inRound lr) 4 P (fun e a2 W3 => e = .normal ∧ ∃ i', F (pre ++ [x]) i' ∧ St (domsL W2 E1) W2 W3 (E i')) a' W2) (fun _ _ _ => False)) a0 W)
 (hdone : ∀ D a' X' i, F xs i → Has (mk D :: ds) a' N l → St M w X' (markE D :: E i) → Q .normal a' X') : (Code.rangeFunc g #[p] assign body).wp P Q a X := by
 have htm : ∀ E1, tameL L E1 → ∀ e ∈ E1, e.tame X.heap.size := fun E1 h => tameL_mem (fun e he b hb => (hS.new e he b hb).2) h
 have htame : ∀ i, ∀ e ∈ E i, e.tame X.heap.size := fun i => htm _ (hT i)
 refine (wpIn_wide (n := 6)).1 (wpIn_rangeFunc_lay (gf := gf) (lb := lb) (ha.ev hg) eg (encs := fun x => #[enc x]) (K := K) (xs := xs) hseq (fun _ => rfl)
  (fun pre A => ∃ i, F pre i ∧ St M w A (E i)) ?_ (fun pre A ⟨i, _, h⟩ => hK i A h) ⟨i0, h0, hE⟩ ?_ ?_)
 · intro pre A A' row ⟨i, hF, h⟩ hg' hr
   exact ⟨i, hF, h.records (htame i) hS.size hg' hr⟩
 · intro lr pre x rest W hx ⟨i, hF, hSt⟩
   have hh := hround lr pre x rest W { tmps := ((#[p] : Array Tmp).zip #[enc x]).foldl (fun t (q : Tmp × Value) => t.setIfInBounds q.1 q.2) a.tmps, defers := [] } i hx hF (by
    have h1 := ha.put hp (enc x)
    have h2 : ((#[p] : Array Tmp).zip #[enc x]).foldl (fun t (q : Tmp × Value) => t.setIfInBounds q.1 q.2) a.tmps = (a.put (some p) (enc x)).tmps := by simp [Act.put]
    rw [h2]
    exact ⟨rfl, h1.size, h1.slot⟩) hSt.inner
   refine wpIn_mono hh ?_
   intro e a' W' he
   cases e <;> try exact he.elim
   obtain ⟨E1, hS1, ht1, hb⟩ := he
   refine ⟨hSt.keepsFrom (htame i) hS1, fun A => St M w A E1, ?_, hSt.outer hS1, fun W2 hS2 => ?_⟩
   · intro _ A A' row h hg' hr
     exact h.records (htm _ ht1) hS.size hg' hr
   · refine wpIn_mono (hb W2 hS2.inner) ?_
     rintro e a2 W3 ⟨rfl, i', hF', hSt'⟩
     exact ⟨rfl, hS2.keepsFrom (htm _ ht1) hSt', i', hF', hS2.outer hSt'⟩
 · rintro D W hD ⟨i, hF, hSt⟩ hm
   exact hdone D _ W i hF ⟨by show mk D :: a.defers = _; rw [ha.defers], ha.size, ha.slot⟩ (hSt.mark (htame i) hS.size hD hm)
end Go.Proofs.YtanicpgmbhfipaaGreatDoor
namespace Go.Proofs.YtanicpgmbhfipaaGreatDoor
set_option linter.unusedVariables false
set_option linter.unusedSimpArgs false
set_option maxRecDepth 4000
open Go.RowKit Go.Sort Go.Shelf
attribute [local go_sem] Oper.semAt_some wide_fn wide_depth
theorem ins0_any (c : Nat) (A : Option Addr) (w : World) :
 Calls Tryz.prog 158 #[.slice A 0 c, .int .i64 (0 : Nat), .int .i64 (0 : Nat), .func (.func 101) #[] #[]] w fun e w' => e = .returned (.tuple #[]) ∧ Below w.heap.size w w' := by
 refine st_enter (N := 53) Tryz.func158 rfl rfl rfl (fun a0 h0 => ?_)
 have S0 := St.init w
 refine st_seq (st_reg ?_)
 refine mv h0 fun a1 h1 => ?_
 refine sv h1 (ex_add (h1.ev rfl) (h1.ev rfl) (by omega)) fun a2 h2 => ?_
 refine ma h2 fun a3 h3 => ?_
 refine st_nil (go_then (wp_block ?_))
 refine st_loop h3 S0 [0, 1, 2, 3] (fun (i : Nat) => [(8, .int .i64 1)]) (fun (i : Nat) => i = 0) (fun (i : Nat) L => L) (fun (i : Nat) => i) (0) (rfl) ⟨rfl, rfl, rfl, rfl, rfl, trivial⟩ (S0) ?_
 intro i a4 X4 hF0 h4 S4
 refine st_seq (st_seq (st_reg ?_))
 refine mvv h4 fun a6 h6 => ?_
 refine sv h6 (ex_lss (h6.ev rfl) (h6.ev rfl)) fun a7 h7 => ?_
 refine st_nil (go_then ?_)
 refine st_if_f (h7.ev rfl) (rfl) ?_
 refine wp_exit ?_
 refine go_exit_then ?_
 refine go_exit_then ?_
 refine go_exit ?_
 refine fin0 h7 rfl ?_
 exact ⟨rfl, S4.below⟩
theorem insA_any (ys : List AceP) (hlen : ys.length ≤ 19) (hf : okF ys) (v : Value) (w : World) (hr : w.ownsRow 0 111 4 v ys.length (acesV ys)) :
 Calls Tryz.prog 158 #[v, .int .i64 (0 : Nat), .int .i64 ys.length, .func (.func 101) #[] #[]] w fun e w' => ∃ p : Unit, e = .returned (.tuple #[]) ∧ True ∧ St v.ownBlock.toList w w' [.row v ys.length 111 4 (acesV (canL ys))] := by
 rcases Nat.eq_zero_or_pos ys.length with h | h
 · obtain rfl := List.eq_nil_of_length_eq_zero h
   obtain ⟨A, c, rfl, _⟩ := ownsRow_form hr
   refine (ins0_any c A w).mono ?_
   rintro e w' ⟨rfl, hb⟩
   exact ⟨(), rfl, trivial, (St.initO hr).grow hb⟩
 · rcases hr.2 with ⟨_, h0⟩ | ⟨g, c, _, rfl, _⟩
   · omega
   · refine (ins_any g c ys.length ys 0 ys.length rfl (Nat.zero_le _) (Nat.le_refl _) (by omega) hf w hr).mono ?_
     rintro e w' ⟨zs, rfl, ⟨h1, h2⟩, h3⟩
     rw [show zs = canL ys from can_of (srtI_all (by rw [h1.1]; exact h2)) h1] at h3
     exact ⟨(), rfl, trivial, h3⟩
theorem stab_any (ys : List AceP) (hlen : ys.length ≤ 19) (hf : okF ys) (v : Value) (w : World) (hr : w.ownsRow 0 111 4 v ys.length (acesV ys)) :
 Calls Tryz.prog 144 #[v, .int .i64 ys.length, .func (.func 101) #[] #[]] w fun e w' => ∃ p : Unit, e = .returned (.tuple #[]) ∧ True ∧ St v.ownBlock.toList w w' [.row v ys.length 111 4 (acesV (canL ys))] := by
 refine st_enter (N := 63) Tryz.func144 rfl rfl rfl (fun a0 h0 => ?_)
 have S0 := (St.initO hr : St v.ownBlock.toList w w _)
 refine st_seq (st_reg ?_)
 refine ma h0 fun a1 h1 => ?_
 refine nsr ?_
 refine mva h1 fun a3 h3 => ?_
 refine ma h3 fun a4 h4 => ?_
 refine st_nil (go_then (st_seq (wp_block ?_)))
 refine st_loop h4 S0 [6, 0, 1, 2] (fun (i : Nat) => [(8, .int .i64 (20 : Nat)), (7, .int .i64 (0 : Nat))]) (fun (i : Nat) => True) (fun i L => L) (fun (i : Nat) => i) (0) (trivial) ⟨rfl, rfl, rfl, rfl, rfl, rfl, trivial⟩ (S0) ?_
 intro i a5 X5 hF0 h5 S5
 refine st_seq (st_seq (st_reg ?_))
 refine mvv h5 fun a7 h7 => ?_
 refine sv h7 (ex_leq (h7.ev rfl) (h7.ev rfl)) fun a8 h8 => ?_
 refine st_nil (go_then ?_)
 refine st_if_f (h8.ev rfl) ((by rw [decide_eq_false]; omega)) ?_
 refine wp_exit ?_
 refine go_exit_then ?_
 refine go_exit_then ?_
 refine go_exit ?_
 refine go_then (st_seq (st_reg ?_))
 refine mvv h8 fun a10 h10 => ?_
 refine mvv h10 fun a12 h12 => ?_
 refine sl_updx h12 (wn rfl) (ex_call (fun _ _ => by kernel_rfl) (h12.evs rfl) rfl) rfl rfl S5 (i := 0) rfl row_dom (insA_any ys hlen hf v _ (S5.at_ (i := 0) rfl)) fun p27 a13 X13 h13 hF27 S13 => ?_
 refine st_nil (go_then (wp_block ?_))
 refine st_loop h13 S13 [0, 1, 2] (fun (i : Nat) => [(6, .int .i64 (20 : Nat))]) (fun (i : Nat) => True) (fun i L => L) (fun (i : Nat) => i) (0) (trivial) ⟨rfl, rfl, rfl, rfl, trivial⟩ (S13) ?_
 intro i a14 X14 hF1 h14 S14
 refine st_seq (st_seq (st_reg ?_))
 refine mvv h14 fun a16 h16 => ?_
 refine sv h16 (ex_lss (h16.ev rfl) (h16.ev rfl)) fun a17 h17 => ?_
 refine st_nil (go_then ?_)
 refine st_if_f (h17.ev rfl) ((by rw [decide_eq_false]; omega)) ?_
 refine wp_exit ?_
 refine go_exit_then ?_
 refine go_exit_then ?_
 refine go_exit ?_
 refine fin0 h17 rfl ?_
 exact ⟨(), rfl, trivial, S14⟩
theorem sstab_any (ys : List AceP) (hlen : ys.length ≤ 19) (hf : okF ys) (v : Value) (w : World) (hr : w.ownsRow 0 111 4 v ys.length (acesV ys)) :
 Calls Tryz.prog 128 #[v, .func (.func 101) #[] #[]] w fun e w' => ∃ p : Unit, e = .returned (.tuple #[]) ∧ True ∧ St v.ownBlock.toList w w' [.row v ys.length 111 4 (acesV (canL ys))] := by
 obtain ⟨A, c, rfl, _⟩ := ownsRow_form hr
 refine st_enter (N := 9) Tryz.func128 rfl rfl rfl (fun a0 h0 => ?_)
 have S0 := (St.initO hr : St (Value.slice A ys.length c).ownBlock.toList w w _)
 refine st_reg ?_
 refine mvv h0 fun a2 h2 => ?_
 refine sv h2 (ex_len Tryz.underlying22 (h2.ev rfl)) fun a3 h3 => ?_
 refine mv h3 fun a4 h4 => ?_
 refine sl_updx h4 (wn rfl) (ex_call (fun _ _ => by kernel_rfl) (h4.evs rfl) rfl) rfl rfl S0 (i := 0) rfl row_dom (stab_any ys hlen hf (.slice A ys.length c) _ (S0.at_ (i := 0) rfl)) fun p8 a5 X5 h5 hF8 S5 => ?_
 refine st_nil ?_
 refine fin0 h5 rfl ?_
 exact ⟨(), rfl, trivial, S5⟩
theorem Values_any (A : Option Addr) (n c : Nat) (w : World) :
 Calls Tryz.prog 100 #[.slice A n c] w fun e w' => ∃ i : Nat, e = .returned (.func (.func 129) #[] #[.pointer (some ⟨i, 0, none⟩)]) ∧ St [] w w' [.box i #[.slice A n c] 22] := by
 refine st_enter (N := 4) Tryz.func100 rfl rfl rfl (fun a0 h0 => ?_)
 have S0 := St.init w
 refine st_seq (st_reg ?_)
 refine nb h0 rfl rfl S0 fun b1 a1 X1 gb1 h1 S1 => ?_
 refine ma h1 fun a2 h2 => ?_
 refine nsr ?_
 refine sv h2 (ex_func (h2.evs rfl) (h2.evs rfl)) fun a3 h3 => ?_
 refine ma h3 fun a4 h4 => ?_
 refine st_nil (go_then (wp_ret ?_))
 refine fin1 h4 rfl rfl ?_
 exact ⟨b1, rfl, S1⟩
set_option maxRecDepth 100000 in
set_option maxHeartbeats 400000 in
theorem values_seq (n : Nat) (A : Option Addr) (c b1 : Nat) (es : List AceP) (hes : es.length ≤ 1000) :
 SeqFix n Tryz.prog 129 #[.pointer (some ⟨b1, 0, none⟩)] (fun x : AceP => #[aceU x]) (fun W => Box W b1 #[.slice A es.length c] 22 ∧ Rd W W.heap.size A (acesV es)) es := by
 intro l J W hJK hJb hY h0
 refine callsIn_of_wp Tryz.func129 rfl trivial ?_ rfl
 simp only [Tryz.ntmps129, List.size_toArray, List.length_cons, List.length_nil, Nat.reduceAdd, Nat.reduceSub, Array.replicate_succ, Array.replicate_zero, List.push_toArray, List.append_toArray, List.nil_append, List.cons_append]
 obtain ⟨x1, x2⟩ := hJK _ _ h0
 have y1 : W.cell? ⟨b1, 0, none⟩ = some (.slice A es.length c) := x1.cells 0
 gi_wp2
 gi_loopw [7] (fun ix wr => ∃ j : Nat, j ≤ es.length ∧ ix = .int .i64 j ∧ J (es.take j) wr) (fun ix _ => es.length - (intOf ix).toNat)
 case atStart => exact ⟨0, by omega, rfl, h0⟩
 case round =>
  obtain ⟨j, hj, rfl, hJ⟩ := hrel
  clear h0 x1 x2 y1
  by_cases hlt : j < es.length
  · obtain ⟨x1, x2⟩ := hJK _ _ hJ
    obtain ⟨g, o, rfl, _⟩ := x2.opened (by rw [acesF_len]; omega)
    have hsnoc : es.take (j + 1) = es.take j ++ [es[j]] := by
     rw [List.take_succ_eq_append_getElem hlt]
    have hsplit : es = es.take j ++ es[j] :: es.drop (j + 1) := by
     rw [← List.drop_eq_getElem_cons hlt, List.take_append_drop]
    have HY := Lib.hid (fun X (hX : Below wr.heap.size wr X) => hY _ _ _ X hsplit (hJb _ _ _ hJ hX))
    have HS := Lib.hid hsnoc
    have c0 : wr.cell? ⟨g, o + j * 4, none⟩ = some (.int .i64 es[j].k) := acesAt x2 hlt 0 _ rfl
    have c1 : wr.cell? ⟨g, o + j * 4 + 1, none⟩ = some (.int .i64 es[j].f) := acesAt x2 hlt 1 _ rfl
    have c2 : wr.cell? ⟨g, o + j * 4 + 1 + 1, none⟩ = some (.int .i64 es[j].m) := acesAt x2 hlt 2 _ rfl
    have c3 : wr.cell? ⟨g, o + j * 4 + 1 + 1 + 1, none⟩ = some (.int .i64 es[j].w) := acesAt x2 hlt 3 _ rfl
    unfold aceU at HY
    clear hsplit hsnoc hY x1 x2
    gi_wp2
    obtain ⟨fn, tmps, assign, body, hy, hR'⟩ := HY.out (wr.alloc (.cells #[.int .i64 es[j].k, .int .i64 es[j].f, .int .i64 es[j].m, .int .i64 es[j].w] 111)) (bel_alloc (Below.refl _ _) _)
    rw [hy]
    gi_wp2
    refine hR'.mono ?_
    rintro e W3 ⟨rfl, hJ3⟩
    gi_wp2
    go_roundw
    case rel => exact ⟨j + 1, by omega, by go_num, by rw [HS.out]; exact hJ3⟩
    case measure => simp [intOf]; omega
  · obtain rfl : j = es.length := by omega
    rw [List.take_of_length_le (Nat.le_refl _)] at hJ
    gi_wp2
    go_end0
    exact ⟨⟨_, rfl⟩, hJ⟩
theorem appSeq_any (es : List AceP) (A : Option Addr) (c b1 : Nat) (w : World) (hes : es.length ≤ 1000) (hb : Box w b1 #[.slice A es.length c] 22) (hr : Rd w w.heap.size A (acesV es)) :
 Calls Tryz.prog 143 #[.slice none 0 0, .func (.func 129) #[] #[.pointer (some ⟨b1, 0, none⟩)]] w fun e w' => ∃ i : Option Addr × Nat, e = .returned (.slice i.1 es.length i.2) ∧ St [] w w' [.row (.slice i.1 es.length i.2) es.length 111 4 (acesV es)] := by
 refine st_enterM (N := 13) Tryz.func143 rfl rfl rfl (fun a0 h0 => ?_)
 have S0 := St.init w
 refine st_seq (st_reg ?_)
 refine nb h0 rfl rfl S0 fun b2 a1 X1 gb2 h1 S1 => ?_
 refine ma h1 fun a2 h2 => ?_
 refine st_nil (go_then (st_seq (st_seq (st_reg ?_))))
 refine mv h2 fun a3 h3 => ?_
 replace S1 := St.nilRow S1 111 4
 refine st_nil (go_then (wp_block ?_))
 refine st_rangeFL h3 S1 129 #[.pointer (some ⟨b1, 0, none⟩)] rfl (enters_of Tryz.func129 (by kernel_rfl) rfl) (aceU) (es) (values_seq 5 A c b1 es hes) (fun pre (q : List AceP × Option Addr × Nat) => pre = q.1) (fun (q : List AceP × Option Addr × Nat) => [.row (.slice q.2.1 q.1.length q.2.2) q.1.length 111 4 (acesV q.1), .box b2 #[.slice q.2.1 q.1.length q.2.2] 22]) rfl (fun _ => ⟨trivial, trivial, trivial⟩) (fun i A S => ⟨hb.below S.below, S.rd0 hr⟩) (([], none, 0)) (rfl) (S1) ?_ ?_
 ·
  intro lr pre x rest X4 a4 q hx hF0 h4 S4
  subst hF0
  have hlt : q.1.length < 1000 := by have := congrArg List.length hx; rw [List.length_append, List.length_cons] at this; omega
  refine rd_reg (by kernel_rfl) (notOut_then notOut_no) ?_
  refine na (.agg #[.int .i64 0, .int .i64 0, .int .i64 0, .int .i64 0]) h4 rfl S4 fun b5 a5 X5 gb5 h5 S5 => ?_
  refine sw h5 S5 0 fun X6 S6 => ?_
  refine st_nil (go_then ?_)
  refine ⟨_, S6, ⟨trivial, trivial, trivial, trivial⟩, fun X7 S7 => ?_⟩
  refine wpIn_block ?_
  refine rd_reg (by kernel_rfl) (notOut_block notOut_end) ?_
  refine vl h5 S7 2 fun a8 h8 => ?_
  refine sv h8 (ex_loads (by kernel_rfl) (by kernel_rfl) (h8.ev rfl) (S7.cellsAll (i := 0) rfl)) fun a9 h9 => ?_
  refine sl_bslice (zc := [.int .i64 0, .int .i64 0, .int .i64 0, .int .i64 0]) (sz := 4) h9 (wn rfl) ⟨rfl, rfl⟩ rfl Tryz.underlying22 (by kernel_rfl) (by kernel_rfl) rfl rfl rfl (h9.evs2 rfl) rfl rfl rfl S7 fun b10 a10 X10 gb10 h10 S10 => ?_
  refine sl_append (z := .agg #[.int .i64 0, .int .i64 0, .int .i64 0, .int .i64 0]) (sz := 4) (bytes := 32) h10 (wn rfl) ⟨rfl, rfl⟩ rfl Tryz.underlying22 (by kernel_rfl) rfl rfl (h10.ev rfl) (h10.ev rfl) S10 (i := 2) rfl (S10.boxRd (i := 0) rfl) rfl (List.all_eq_true.1 rfl) ⟨(by omega), by decide⟩ fun A11 c11 a11 X11 h11 S11 => ?_
  refine sw h11 S11 3 fun X12 S12 => ?_
  refine st_nil (go_block ?_)
  exact ⟨rfl, (q.1 ++ [x], A11, c11), rfl, (by show St _ _ _ [.row (.slice A11 (q.1 ++ [x]).length c11) (q.1 ++ [x]).length 111 4 (acesV (q.1 ++ [x])), .box b2 #[.slice A11 (q.1 ++ [x]).length c11] 22]; rw [acesV_append, List.length_append]; exact (S12.sub (.cons _ (.cons _ (.cons_cons _ (.cons_cons _ .slnil))))))⟩
 ·
  intro D0 a13 X13 q hF0 h13 S13
  obtain ⟨l1, A1, c1⟩ := q
  obtain rfl : es = l1 := hF0
  refine go_block (go_then (st_seq (st_reg ?_)))
  refine vl h13 S13 2 fun a14 h14 => ?_
  refine ma h14 fun a15 h15 => ?_
  refine st_nil (go_then (wp_ret ?_))
  refine fm_ret h15 ?_
  refine fm_mark S13 (i := 0) rfl (fun X16 S16 => ?_)
  refine fm_nil h15 (fun a17 h17 => ?_)
  refine fin1 h17 rfl rfl ?_
  exact ⟨(A1, c1), rfl, (S16.sub (.cons _ (.cons_cons _ (.cons _ .slnil))))⟩
end Go.Proofs.YtanicpgmbhfipaaGreatDoor
namespace Go.Proofs.YtanicpgmbhfipaaGreatDoor
set_option linter.unusedVariables false
set_option linter.unusedSimpArgs false
set_option maxRecDepth 4000
open Go.RowKit Go.Sort Go.Shelf
theorem eachE_hit {α : Type} (f : Nat → α → Int) : ∀ (l : List α) (i j : Nat) (h : j < l.length), (∀ k (hk : k < l.length), k < j → f (i + k) l[k] = 0) → f (i + j) l[j] ≠ 0 → eachE f i l = (((i + j : Nat) : Int), f (i + j) l[j])
 | x :: l, i, 0, h, _, h1 => by
  unfold eachE; rw [if_neg (show ¬ f i x = 0 from h1)]; rfl
 | x :: l, i, j + 1, h, h0, h1 => by
  have h00 := h0 0 (by simp) (by omega)
  unfold eachE; rw [if_pos (show f i x = 0 from h00)]
  have := eachE_hit f l (i + 1) j (by simpa using h) (fun k hk hkj => by have := h0 (k + 1) (by simpa using hk) (by omega); rw [show i + 1 + k = i + (k + 1) by omega]; simpa using this) (by rw [show i + 1 + j = i + (j + 1) by omega]; simpa using h1)
  rw [this, show i + 1 + j = i + (j + 1) by omega]; rfl
theorem eachE_none {α : Type} (f : Nat → α → Int) : ∀ (l : List α) (i : Nat), (∀ k (hk : k < l.length), f (i + k) l[k] = 0) → eachE f i l = (0, 0)
 | [], _, _ => rfl
 | x :: l, i, h => by
  unfold eachE; rw [if_pos (show f i x = 0 from h 0 (Nat.succ_pos _))]
  exact eachE_none f l (i + 1) fun k hk => by have := h (k + 1) (by simpa using hk); rw [show i + 1 + k = i + (k + 1) by omega]; simpa using this
theorem canL_len (l : List AceP) : (canL l).length = l.length := (can_perm l).length_eq
theorem Collect_any (es : List AceP) (A : Option Addr) (c b1 : Nat) (w : World) (hes : es.length ≤ 1000) (hb : Box w b1 #[.slice A es.length c] 22) (hr : Rd w w.heap.size A (acesV es)) :
 Calls Tryz.prog 127 #[.func (.func 129) #[] #[.pointer (some ⟨b1, 0, none⟩)]] w fun e w' => ∃ i : Option Addr × Nat, e = .returned (.slice i.1 es.length i.2) ∧ St [] w w' [.row (.slice i.1 es.length i.2) es.length 111 4 (acesV es)] := by
 refine st_enter (N := 5) Tryz.func127 rfl rfl rfl (fun a0 h0 => ?_)
 have S0 := St.init w
 refine st_seq (st_reg ?_)
 refine ma h0 fun a1 h1 => ?_
 refine nsr ?_
 refine mv h1 fun a2 h2 => ?_
 refine sl_more h2 (wn rfl) (ex_call (fun _ _ => by kernel_rfl) (h2.evs rfl) rfl) rfl rfl S0 (appSeq_any es A c b1 _ hes (hb.below S0.below) (S0.rd0 hr)) fun p4 a3 X3 h3 S3 => ?_
 refine ma h3 fun a4 h4 => ?_
 refine st_nil (go_then (wp_ret ?_))
 refine fin1 h4 rfl rfl ?_
 exact ⟨p4, rfl, S3⟩
theorem sorted_any (es : List AceP) (A : Option Addr) (c b1 : Nat) (w : World) (hes : es.length ≤ 19) (hf : okF es) (hb : Box w b1 #[.slice A es.length c] 22) (hr : Rd w w.heap.size A (acesV es)) :
 Calls Tryz.prog 99 #[.func (.func 129) #[] #[.pointer (some ⟨b1, 0, none⟩)], .func (.func 101) #[] #[]] w fun e w' => ∃ i : Option Addr × Nat, e = .returned (.slice i.1 es.length i.2) ∧ St [] w w' [.row (.slice i.1 es.length i.2) es.length 111 4 (acesV (canL es))] := by
 refine st_enter (N := 12) Tryz.func99 rfl rfl rfl (fun a0 h0 => ?_)
 have S0 := St.init w
 refine st_seq (st_reg ?_)
 refine ma h0 fun a1 h1 => ?_
 refine nsr ?_
 refine mv h1 fun a2 h2 => ?_
 refine sl_more h2 (wn rfl) (ex_call (fun _ _ => by kernel_rfl) (h2.evs rfl) rfl) rfl rfl S0 (Collect_any es A c b1 _ (by omega) (hb.below S0.below) (S0.rd0 hr)) fun p7 a3 X3 h3 S3 => ?_
 refine ma h3 fun a4 h4 => ?_
 refine nsr ?_
 refine mvv h4 fun a6 h6 => ?_
 refine sl_updx h6 (wn rfl) (ex_call (fun _ _ => by kernel_rfl) (h6.evs rfl) rfl) rfl rfl S3 (i := 0) rfl row_dom (sstab_any es hes hf _ _ (S3.at_ (i := 0) rfl)) fun p10 a7 X7 h7 hF10 S7 => ?_
 refine nsr ?_
 refine mva h7 fun a9 h9 => ?_
 refine st_nil (go_then (wp_ret ?_))
 refine fin1 h9 rfl rfl ?_
 exact ⟨p7, rfl, S7⟩
theorem canonical_any (es : List AceP) (A : Option Addr) (c : Nat) (w : World) (hes : es.length ≤ 19) (hf : okF es) (hr : Rd w w.heap.size A (acesV es)) :
 Calls Tryz.prog 79 #[.slice A es.length c] w fun e w' => ∃ i : Option Addr × Nat, e = .returned (.slice i.1 es.length i.2) ∧ St [] w w' [.row (.slice i.1 es.length i.2) es.length 111 4 (acesV (canL es))] := by
 refine st_enter (N := 6) Tryz.func79 rfl rfl rfl (fun a0 h0 => ?_)
 have S0 := St.init w
 refine st_seq (st_reg ?_)
 refine ma h0 fun a1 h1 => ?_
 refine nsr ?_
 refine mv h1 fun a2 h2 => ?_
 refine sl_more h2 (wn rfl) (ex_call (fun _ _ => by kernel_rfl) (h2.evs rfl) rfl) rfl rfl S0 (Values_any A es.length c _) fun p4 a3 X3 h3 S3 => ?_
 refine sl_more h3 (wn rfl) (ex_call (fun _ _ => by kernel_rfl) (h3.evs rfl) rfl) rfl rfl S3 (sorted_any es A c p4 _ hes hf (S3.at_ (i := 0) rfl) (S3.rd0 hr)) fun p5 a4 X4 h4 S4 => ?_
 refine ma h4 fun a5 h5 => ?_
 refine st_nil (go_then (wp_ret ?_))
 refine fin1 h5 rfl rfl ?_
 exact ⟨p5, rfl, (S4.sub (.cons_cons _ (.cons _ .slnil)))⟩
theorem aces1_any (a : AceP) (k : Int) (w : World) : Calls Tryz.prog 97 #[.int .i64 k, aceU a] w fun e w' => e = .returned (.int .i64 (aceE a)) ∧ Below w.heap.size w w' := by
 refine st_enter (N := 7) Tryz.func97 rfl rfl rfl (fun a0 h0 => ?_)
 have S0 := St.init w
 refine st_seq (st_reg ?_)
 refine nb h0 rfl rfl S0 fun b3 a1 X1 gb3 h1 S1 => ?_
 refine ma h1 fun a2 h2 => ?_
 refine nsr ?_
 refine sv (v := aceU a) h2 (ex_loads (by kernel_rfl) (by kernel_rfl) (h2.ev rfl) (S1.cellsAll (i := 0) rfl)) fun a3 h3 => ?_
 refine sl_bel h3 (wn rfl) (ex_call (fun _ _ => by kernel_rfl) (h3.evs rfl) rfl) rfl rfl S1 (CheckAce_any a _) fun a4 X4 h4 S4 => ?_
 refine ma h4 fun a5 h5 => ?_
 refine st_nil (go_then (wp_ret ?_))
 refine fin1 h5 rfl rfl ?_
 exact ⟨rfl, S4.below⟩
theorem eachCk_any (l : List AceP) (A : Option Addr) (c : Nat) (w : World) (hr : Rd w w.heap.size A (acesV l)) (hlen : l.length ≤ 1000) :
 Calls Tryz.prog 96 #[.slice A l.length c, .func (.func 97) #[] #[]] w fun e w' => e = .returned (.tuple #[.int .i64 (eachE (fun _ => aceE) 0 l).1, .int .i64 (eachE (fun _ => aceE) 0 l).2]) ∧ Below w.heap.size w w' := by
 refine st_enter (N := 25) Tryz.func96 rfl rfl rfl (fun a0 h0 => ?_)
 have S0 := St.init w
 refine st_seq (st_reg ?_)
 refine ma h0 fun a1 h1 => ?_
 refine ma h1 fun a2 h2 => ?_
 refine st_nil (go_then (st_seq (st_seq (st_reg ?_))))
 refine mv h2 fun a3 h3 => ?_
 refine sv h3 (ex_len Tryz.underlying22 (h3.ev rfl)) fun a4 h4 => ?_
 refine mv h4 fun a5 h5 => ?_
 refine st_nil (go_then (wp_block ?_))
 refine st_loop h5 S0 [10, 9, 1] (fun (j : Nat) => [(11, .int .i64 j)]) (fun (j : Nat) => j ≤ l.length ∧ ∀ k (hk : k < l.length), k < j → aceE l[k] = 0) (fun (j : Nat) L => L) (fun (j : Nat) => l.length - j) (0) (⟨Nat.zero_le _, fun k _ h => by omega⟩) ⟨rfl, rfl, rfl, rfl, trivial⟩ (S0) ?_
 intro j a6 X6 hF0 h6 S6
 refine st_seq (st_reg ?_)
 refine sv h6 (ex_lss (h6.ev rfl) (h6.ev rfl)) fun a7 h7 => ?_
 refine st_nil (go_then (st_seq ?_))
 refine st_if (h7.ev rfl) (fun hc0 => ?_) (fun hc0 => ?_)
 ·
  have hlt : j < l.length := by have := of_decide_eq_true hc0; omega
  obtain ⟨b, o, rfl, hB, _⟩ := hr.opened (by rw [acesF_len]; omega)
  refine wp_skip (go_then (st_seq (wp_block (st_seq (st_reg ?_)))))
  refine mv h7 fun a8 h8 => ?_
  refine sv h8 (ex_index (i := j) (sz := 4) Tryz.underlying22 (by kernel_rfl) (h8.ev rfl) (h8.ev rfl) (by omega) (by omega) rfl) fun a9 h9 => ?_
  refine sv (v := aceU l[j]) h9 (ex_loads (by kernel_rfl) (by kernel_rfl) (h9.ev rfl) (acesAt (S6.rd0 hr) hlt)) fun a10 h10 => ?_
  refine na (.agg #[.int .i64 0, .int .i64 0, .int .i64 0, .int .i64 0]) h10 rfl S6 fun b7 a11 X11 gb7 h11 S11 => ?_
  refine ma h11 fun a12 h12 => ?_
  refine sw h12 S11 0 fun X13 S13 => ?_
  refine nsr ?_
  refine mvv h12 fun a15 h15 => ?_
  refine sv (v := aceU l[j]) h15 (ex_loads (by kernel_rfl) (by kernel_rfl) (h15.ev rfl) (S13.cellsAll (i := 0) rfl)) fun a16 h16 => ?_
  refine sl_bel h16 (wn rfl) (ex_callv (fun _ _ => by kernel_rfl) (h16.ev rfl) (h16.evs rfl) rfl) rfl rfl S13 (aces1_any l[j] j _) fun a17 X17 h17 S17 => ?_
  refine ma h17 fun a18 h18 => ?_
  refine nsr ?_
  refine mv h18 fun a19 h19 => ?_
  refine sv h19 (ex_neq (h19.ev rfl) (h19.ev rfl)) fun a20 h20 => ?_
  refine st_nil (go_then ?_)
  refine st_if (h20.ev rfl) (fun hc1 => ?_) (fun hc1 => ?_)
  ·
   refine st_seq (st_reg ?_)
   refine mvv h20 fun a22 h22 => ?_
   refine maa h22 fun a24 h24 => ?_
   refine st_nil (go_then (wp_ret (ret_block (ret_then (ret_then (ret_block (ret_then ?_)))))))
   refine fin2 h24 rfl rfl rfl ?_
   have h1 : aceE l[j] ≠ 0 := by simpa using hc1
   have h2 := eachE_hit (fun _ => aceE) l 0 j hlt (fun k hk h => hF0.2 k hk h) h1
   exact ⟨by rw [h2, Nat.zero_add], S17.below⟩
  ·
   refine wp_skip (go_block (go_then (st_reg ?_)))
   refine sv h20 (ex_add (h20.ev rfl) (h20.ev rfl) (by omega)) fun a25 h25 => ?_
   refine mv h25 fun a26 h26 => ?_
   refine st_nil (go_then ?_)
   exact ⟨j + 1, by omega, ⟨hlt, fun k hk h => (Nat.lt_or_ge k j).elim (fun q => hF0.2 k hk q) (fun q => by (obtain rfl : k = j := by omega); simpa using hc1)⟩, h26.re ⟨rfl, rfl, rfl, rfl, trivial⟩, S17.sub (.cons _ .slnil)⟩
 ·
  have hge : l.length ≤ j := by have := of_decide_eq_false hc0; omega
  refine wp_exit ?_
  refine go_exit_then ?_
  refine go_exit_then ?_
  refine go_exit ?_
  refine go_then (st_seq (st_reg ?_))
  refine maa h7 fun a28 h28 => ?_
  refine st_nil (go_then (wp_ret ?_))
  refine fin2 h28 rfl rfl rfl ?_
  exact ⟨by rw [eachE_none (fun _ => aceE) l 0 (fun k hk => hF0.2 k hk (by omega))], S6.below⟩
def acsE (l : List AceP) : Int := if 16 < l.length then 8 else (eachE (fun _ => aceE) 0 l).2
theorem acsE_zero {l : List AceP} (h : acsE l = 0) : l.length ≤ 16 ∧ ∀ a ∈ l, aceE a = 0 := by
 unfold acsE at h
 by_cases h1 : 16 < l.length
 · rw [if_pos h1] at h; cases h
 · rw [if_neg h1] at h
   refine ⟨by omega, fun a ha => ?_⟩
   obtain ⟨k, hk, rfl⟩ := List.getElem_of_mem ha
   exact eachE_zero (fun _ => aceE) l 0 h k hk
theorem acsE_ok {l : List AceP} (h1 : l.length ≤ 16) (h : ∀ a ∈ l, aceE a = 0) : acsE l = 0 := by
 unfold acsE
 rw [if_neg (by omega), eachE_none (fun _ => aceE) l 0 (fun k hk => h _ (List.getElem_mem hk))]
theorem acesErr_any (l : List AceP) (A : Option Addr) (c : Nat) (w : World) (hr : Rd w w.heap.size A (acesV l)) (hlen : l.length ≤ 1000) :
 Calls Tryz.prog 78 #[.slice A l.length c] w fun e w' => e = .returned (.int .i64 (acsE l)) ∧ Below w.heap.size w w' := by
 refine st_enter (N := 14) Tryz.func78 rfl rfl rfl (fun a0 h0 => ?_)
 have S0 := St.init w
 refine st_seq (st_reg ?_)
 refine ma h0 fun a1 h1 => ?_
 refine st_nil (go_then (st_seq (st_seq (st_reg ?_))))
 refine mv h1 fun a2 h2 => ?_
 refine sv h2 (ex_len Tryz.underlying22 (h2.ev rfl)) fun a3 h3 => ?_
 refine sv h3 (ex_gtr (h3.ev rfl) (h3.ev rfl)) fun a4 h4 => ?_
 refine st_nil (go_then ?_)
 refine st_if (h4.ev rfl) (fun hc0 => ?_) (fun hc0 => ?_)
 ·
  refine st_seq (st_reg ?_)
  refine ma h4 fun a5 h5 => ?_
  refine st_nil (go_then (wp_ret (ret_then ?_)))
  refine fin1 h5 rfl rfl ?_
  have h : 16 < l.length := by have := of_decide_eq_true hc0; omega
  exact ⟨by unfold acsE; rw [if_pos h], S0.below⟩
 ·
  refine wp_skip (go_then (st_seq (st_reg ?_)))
  refine mv h4 fun a6 h6 => ?_
  refine sl_bel h6 (wn rfl) (ex_call (fun _ _ => by kernel_rfl) (h6.evs rfl) rfl) rfl rfl S0 (eachCk_any l A c _ (S0.rd0 hr) hlen) fun a7 X7 h7 S7 => ?_
  refine mv h7 fun a8 h8 => ?_
  refine vx h8 fun a9 h9 => ?_
  refine vx h9 fun a10 h10 => ?_
  refine maa h10 fun a12 h12 => ?_
  refine nsr ?_
  refine mva h12 fun a14 h14 => ?_
  refine st_nil (go_then (wp_ret ?_))
  refine fin1 h14 rfl rfl ?_
  have h : ¬ 16 < l.length := by have := of_decide_eq_false hc0; omega
  exact ⟨by unfold acsE; rw [if_neg h]; rfl, S7.below⟩
theorem aceE_f {a : AceP} (h : aceE a = 0) : 0 ≤ a.f ∧ a.f ≤ 31 := by
 unfold aceE at h
 split at h
 · split at h
   · rename_i h2
     unfold aceR inB at h2
     rw [Bool.and_eq_true, Bool.and_eq_true, Bool.and_eq_true, decide_eq_true_eq, decide_eq_true_eq] at h2
     exact h2.1.1
   · cases h
 · cases h
def cnO (l : List AceP) : List AceP := if acsE l = 0 then canL l else []
theorem CanonicalOf_any (es : List AceP) (A : Option Addr) (c : Nat) (w : World) (hes : es.length ≤ 1000) (hr : Rd w w.heap.size A (acesV es)) :
 Calls Tryz.prog 41 #[.slice A es.length c] w fun e w' => ∃ i : Option Addr × Nat, e = .returned (.tuple #[.slice i.1 (cnO es).length i.2, .int .i64 (acsE es)]) ∧ St [] w w' [.row (.slice i.1 (cnO es).length i.2) (cnO es).length 111 4 (acesV (cnO es))] := by
 refine st_enter (N := 12) Tryz.func41 rfl rfl rfl (fun a0 h0 => ?_)
 have S0 := St.init w
 refine st_seq (st_reg ?_)
 refine maa h0 fun a2 h2 => ?_
 refine st_nil (go_then (st_seq (st_seq (st_reg ?_))))
 refine mv h2 fun a3 h3 => ?_
 refine sl_bel h3 (wn rfl) (ex_call (fun _ _ => by kernel_rfl) (h3.evs rfl) rfl) rfl rfl S0 (acesErr_any es A c _ (S0.rd0 hr) hes) fun a4 X4 h4 S4 => ?_
 refine ma h4 fun a5 h5 => ?_
 refine nsr ?_
 refine mv h5 fun a6 h6 => ?_
 refine sv h6 (ex_neq (h6.ev rfl) (h6.ev rfl)) fun a7 h7 => ?_
 refine st_nil (go_then ?_)
 refine st_if (h7.ev rfl) (fun hc0 => ?_) (fun hc0 => ?_)
 ·
  have hne : acsE es ≠ 0 := by simpa using hc0
  have e1 : cnO es = [] := by unfold cnO; rw [if_neg hne]
  refine st_seq (st_reg ?_)
  refine mva h7 fun a9 h9 => ?_
  refine ma h9 fun a10 h10 => ?_
  refine st_nil (go_then (wp_ret (ret_then ?_)))
  refine fin2 h10 rfl rfl rfl ?_
  rw [e1]
  exact ⟨(none, 0), rfl, S4.nilRow 111 4⟩
 ·
  have hz : acsE es = 0 := by simpa using hc0
  have e1 : cnO es = canL es := by unfold cnO; rw [if_pos hz]
  obtain ⟨hl, hk⟩ := acsE_zero hz
  refine wp_skip (go_then (st_seq (st_reg ?_)))
  refine mv h7 fun a11 h11 => ?_
  refine sl_more h11 (wn rfl) (ex_call (fun _ _ => by kernel_rfl) (h11.evs rfl) rfl) rfl rfl S4 (canonical_any es A c _ (by omega) (fun x hx => aceE_f (hk x hx)) (S4.rd0 hr)) fun p11 a12 X12 h12 S12 => ?_
  refine maa h12 fun a14 h14 => ?_
  refine st_nil (go_then (wp_ret ?_))
  refine fin2 h14 rfl rfl rfl ?_
  rw [e1, canL_len, hz]
  exact ⟨p11, rfl, S12⟩
end Go.Proofs.YtanicpgmbhfipaaGreatDoor
namespace Go.Proofs.YtanicpgmbhfipaaGreatDoor
set_option linter.unusedVariables false
set_option linter.unusedSimpArgs false
open Go.RowKit Go.Sort
variable {ds : List Deferred}
def MapS (ks : List Kd) (X : World) (m : Nat) (ms : List (List Value × Value)) : Prop := (∀ p ∈ ms, areK ks p.1 = true) ∧ ∃ es clock, X.heap[m]? = some (.map es clock) ∧ es.toList.map (fun e => (e.key, e.val)) = ms.map (fun p => (Value.agg p.1.toArray, p.2))
def lookS (ms : List (List Value × Value)) (k : List Value) : Option Value := (ms.find? fun p => eqL k p.1).map (·.2)
def mapSE (ks : List Kd) (m : Nat) (ms : List (List Value × Value)) : Ent := .inv (fun b => b = m) (fun X => MapS ks X m ms) (fun X X' ⟨h0, es, ck, h1, h2⟩ hb => ⟨h0, es, ck, (hb m rfl).trans h1, h2⟩)
section
variable {P : Program} {ρ : Operand → Value} {X : World} {d : Option Tmp} {ty : TypeId} {ps : String} {af : Array Edge} {g : Option (Nat × Bool)}
theorem run_asking {kt : TypeId} {ks : List Kd} {fs : Array Field} {k : List Value} (hk : kinds P 8 kt = some ks) (hu : P.underlying kt = some (.struct fs)) (hkk : areK ks k = true) :
 ∀ (es : List MapEntry) (ms : List (List Value × Value)) (i : Nat), (∀ p ∈ ms, areK ks p.1 = true) → es.map (fun e => (e.key, e.val)) = ms.map (fun p => (Value.agg p.1.toArray, p.2)) →
 ∃ r, (Instr.findAsking kt (.agg k.toArray) es i).run P X = .ok r X ∧ r.map (·.2) = lookS ms k
 | [], [], i, _, _ => ⟨none, by simp [Instr.findAsking], rfl⟩
 | [], _ :: _, i, _, h => by simp at h
 | _ :: _, [], i, _, h => by simp at h
 | e :: es, p :: ms, i, hm, h => by
  simp only [List.map_cons, List.cons.injEq, Prod.mk.injEq] at h
  obtain ⟨⟨h1, h2⟩, h3⟩ := h
  have he := run_teql (P := P) (X := X) hk hu hkk (hm p (List.mem_cons_self ..))
  unfold Instr.findAsking lookS
  rw [h1, List.find?_cons]
  simp only [Sem.run_bind, he, Result.andThen_ok]
  cases hq : eqL k p.1 with
  | true => exact ⟨some (i, e.val), by simp, by simp [h2]⟩
  | false =>
   obtain ⟨r, hr, hr2⟩ := run_asking hk hu hkk es ms (i + 1) (fun q hq => hm q (List.mem_cons_of_mem _ hq)) h3
   exact ⟨r, by simpa using hr, hr2⟩
theorem run_findS {kt : TypeId} {ks : List Kd} {fs : Array Field} {k : List Value} (hk : kinds P 8 kt = some ks) (hu : P.underlying kt = some (.struct fs)) (hkk : areK ks k = true) (es : List MapEntry) (ms : List (List Value × Value)) (hm : ∀ p ∈ ms, areK ks p.1 = true) (h : es.map (fun e => (e.key, e.val)) = ms.map (fun p => (Value.agg p.1.toArray, p.2))) :
 ∃ r, (Instr.findKey kt (.agg k.toArray) es).run P X = .ok r X ∧ r.map (·.2) = lookS ms k := by
 obtain ⟨r, hr, hr2⟩ := run_asking (P := P) (X := X) hk hu hkk es ms 0 hm h
 cases es with
 | nil =>
  refine ⟨none, ?_, ?_⟩
  · unfold Instr.findKey
    simp [run_underlying hu, Instr.findNow]
  · cases ms with
    | nil => rfl
    | cons p ms => simp at h
 | cons e es =>
  refine ⟨r, ?_, hr2⟩
  unfold Instr.findKey
  have : Instr.findNow (.struct fs) (.agg k.toArray) (e :: es) 0 = none := by
   unfold Instr.findNow
   simp [Instr.sameNow]
  simp only [Sem.run_bind, run_underlying hu, Result.andThen_ok, this]
  exact hr
theorem run_checkS {kt : TypeId} {k : List Value} (h1 : P.keyTypeAt 2 kt = true) (h2 : (Value.agg k.toArray).formed P kt = true) (h3 : (P.keyLits 2 kt k).isSome = true) (em : Bool) : (Instr.checkKey em 10000 kt (.agg k.toArray)).run P X = .ok () X := by
 obtain ⟨la, hla⟩ := Option.isSome_iff_exists.1 h3
 exact run_checkKey_deep em 9998 2 kt h1 X 2 _ la h2 (by simpa [Value.cells] using hla)
theorem ex_lookupS {t kt e : TypeId} {x y : Operand} {m : Nat} {k : List Value} {z : Value} {ms : List (List Value × Value)} {ks : List Kd} {fs : Array Field} (ht : P.underlying t = some (.map kt e)) (hk : kinds P 8 kt = some ks) (hu : P.underlying kt = some (.struct fs)) (hz : (P.info? e).map (·.zero) = some (some z)) (h1 : P.keyTypeAt 2 kt = true) (h2 : (Value.agg k.toArray).formed P kt = true) (h3 : (P.keyLits 2 kt k).isSome = true) (hkk : areK ks k = true)
 (hx : ρ x = .map (some m)) (hy : ρ y = .agg k.toArray) (hm : MapS ks X m ms) :
 (execOp ρ ⟨d, .lookup t x y true, ty, ps, af, g⟩).run P X = .ok (.value (.tuple #[(lookS ms k).getD z, .bool (lookS ms k).isSome])) X := by
 obtain ⟨h0, es, clock, hb, he⟩ := hm
 obtain ⟨r, hf, hr2⟩ := run_findS (P := P) (X := X) hk hu hkk es.toList ms h0 he
 have hg := MapKept.run_getObj_map (P := P) hb
 have hzz : (zeroValue e).run P X = .ok z X := by
  cases hq : P.info? e with
  | none => rw [hq] at hz; cases hz
  | some q =>
   rw [hq] at hz
   have : q.zero = some z := by simpa using hz
   simp [zeroValue, typeInfo, hq, this]
 rw [← hr2]
 cases r with
 | none => simp [execOp, hx, hy, Instr.lookup, run_underlying ht, hg, run_checkS h1 h2 h3, hf, hzz]
 | some p => simp [execOp, hx, hy, Instr.lookup, run_underlying ht, hg, run_checkS h1 h2 h3, hf]
theorem run_mapPutS {t kt e : TypeId} {m : Nat} {k : List Value} {u : Value} {ms : List (List Value × Value)} {ks : List Kd} {fs : Array Field} (ht : P.underlying t = some (.map kt e)) (hk : kinds P 8 kt = some ks) (hu : P.underlying kt = some (.struct fs)) (h1 : P.keyTypeAt 2 kt = true) (h2 : (Value.agg k.toArray).formed P kt = true) (h3 : (P.keyLits 2 kt k).isSome = true) (hkk : areK ks k = true) (hm : MapS ks X m ms) (hn : lookS ms k = none) :
 ∃ es clock, (Instr.mapUpdate t (.map (some m)) (.agg k.toArray) u).run P X = .ok () (mapSet X m es clock) ∧ MapS ks (mapSet X m es clock) m (ms ++ [(k, u)]) := by
 obtain ⟨h0, es, clock, hb, he⟩ := hm
 obtain ⟨r, hf, hr2⟩ := run_findS (P := P) (X := X) hk hu hkk es.toList ms h0 he
 rw [hn] at hr2
 have hr3 : r = none := by cases r with
  | none => rfl
  | some p => cases hr2
 subst hr3
 have hg := MapKept.run_getObj_map (P := P) hb
 have hlt : m < X.heap.size := (Array.getElem?_eq_some_iff.1 hb).1
 refine ⟨es.push { key := .agg k.toArray, val := u, born := clock }, clock + 1, ?_, fun p hp => ?_, es.push { key := .agg k.toArray, val := u, born := clock }, clock + 1, ?_, ?_⟩
 · have hs := MapKept.run_setObj_map (P := P) (.map (es.push { key := .agg k.toArray, val := u, born := clock }) (clock + 1)) hb
   simp [Instr.mapUpdate, run_underlying ht, hg, run_checkS h1 h2 h3, hf, hs, mapSet]
 · rcases List.mem_append.1 hp with hp | hp
   · exact h0 p hp
   · rw [List.mem_singleton.1 hp]; exact hkk
 · show (X.heap.setIfInBounds m _)[m]? = _
   rw [Array.getElem?_setIfInBounds, if_pos rfl, if_pos hlt]
 · simp [he]
end
section
variable {P : Program} {ops : Array Oper} {rest : List Oper} {o : Oper} {a : Act} {Q : Exit → Act → World → Prop} {X X' : World} {N d : Nat} {l : List (Nat × Value)} {M : List Nat} {w : World} {L : List Ent}
theorem sl_mkmapS (ks : List Kd) {t : TypeId} (ha : Has ds a N l) (hw : Region.wanted o (yielded ops a.tmps) = true) (ho : o.op = .makeMap t none) (hd : o.dst = some d) (hN : Nat.blt d N = true) (hS : St M w X L)
 (k : ∀ m a' X', w.heap.size ≤ m → Has ds a' N ((d, .map (some m)) :: l) → St M w X' (mapSE ks m [] :: L) → wpList P ops Q rest a' X') : wpList P ops Q (o :: rest) a X := by
 have hr : (Instr.makeMap t none).run P X = .ok (.map (some X.heap.size)) (X.alloc (.map #[] 0)) := by
  simp [Instr.makeMap]
 refine sl_val (X' := X.alloc (.map #[] 0)) ha hw ?_ hd hN fun a' ha' => k X.heap.size a' _ hS.size ha' (hS.add (bel_alloc (Below.refl _ _) _) (e := mapSE ks X.heap.size []) ?_ (fun b hb => by cases hb; simp))
 · unfold execOp
   simp [ho, hr]
 · exact ⟨fun p hp => (by cases hp), #[], 0, by show (X.heap.push (.map #[] 0))[X.heap.size]? = _; simp, rfl⟩
theorem sl_mapputS {t kt e : TypeId} {x y z' : Operand} {m i : Nat} {k : List Value} {u : Value} {ms : List (List Value × Value)} {ks : List Kd} {fs : Array Field} (hw : Region.wanted o (yielded ops a.tmps) = true) (ho : o.op = .mapUpdate t x y z' ∧ o.dst = none) (ht : P.underlying t = some (.map kt e)) (hk : kinds P 8 kt = some ks) (hu : P.underlying kt = some (.struct fs)) (h1 : P.keyTypeAt 2 kt = true) (h2 : (Value.agg k.toArray).formed P kt = true) (h3 : (P.keyLits 2 kt k).isSome = true) (hkk : areK ks k = true)
 (hx : a.eval x = .map (some m)) (hy : a.eval y = .agg k.toArray) (hz : a.eval z' = u) (hS : St M w X L) (hi : L[i]? = some (mapSE ks m ms)) (hn : lookS ms k = none) (K : ∀ X' : World, St M w X' (L.set i (mapSE ks m (ms ++ [(k, u)]))) → wpList P ops Q rest a X') : wpList P ops Q (o :: rest) a X := by
 have hm : MapS ks X m ms := hS.at_ hi
 obtain ⟨es, clock, hr, hf⟩ := run_mapPutS (P := P) (u := u) ht hk hu h1 h2 h3 hkk hm hn
 have hlt : m < X.heap.size := by
  obtain ⟨_, _, _, hb, _⟩ := hm
  exact (Array.getElem?_eq_some_iff.1 hb).1
 refine sl_unit (X' := mapSet X m es clock) hw ?_ ho.2 (K _ ?_)
 · unfold execOp
   simp only [ho.1, hx, hy, hz, Sem.run_bind, hr, Result.andThen_ok, Sem.run_pure]
 · refine hS.turn hi rfl rfl rfl (by show X.heap.size ≤ (X.heap.setIfInBounds m _).size; simp) (fun b hb hne => ?_) hf (fun b hb => ⟨.inl hb, ?_⟩)
   · show (X.heap.setIfInBounds m _)[b]? = _
     rw [Array.getElem?_setIfInBounds, if_neg (fun q => hne q.symm)]
   · cases hb
     show m < (X.heap.setIfInBounds m _).size
     simpa using hlt
end
end Go.Proofs.YtanicpgmbhfipaaGreatDoor
namespace Go.Proofs.YtanicpgmbhfipaaGreatDoor
set_option linter.unusedVariables false
set_option linter.unusedSimpArgs false
open Go.RowKit
def kyL (a : AceP) : List Value := [.int .i64 a.k, .int .i64 a.f, .int .i64 0, .int .i64 a.w]
def plcN : Nat → List AceP → List (List Value × Value)
 | _, [] => []
 | n, a :: l => (kyL a, .int .i64 n) :: plcN (n + 1) l
def plcM (l : List AceP) : List (List Value × Value) := plcN 0 l
theorem kyL_eq (a b : AceP) : eqL (kyL a) (kyL b) = keyE b a := by
 have c : ∀ x y : Int, (x == y) = (y == x) := fun x y => by
  rw [Bool.eq_iff_iff]; simp only [beq_iff_eq]; exact ⟨Eq.symm, Eq.symm⟩
 unfold kyL keyE
 simp only [eqL, eqV2, beq_self_eq_true, Bool.true_and, Bool.and_true]
 rw [c a.k, c a.f, c a.w, Bool.and_assoc]
theorem plcN_snoc : ∀ (l : List AceP) (n : Nat) (a : AceP), plcN n (l ++ [a]) = plcN n l ++ [(kyL a, .int .i64 (n + l.length : Nat))]
 | [], n, a => rfl
 | b :: l, n, a => by
  show (kyL b, Value.int .i64 n) :: plcN (n + 1) (l ++ [a]) = _
  rw [plcN_snoc l (n + 1) a]
  have : n + 1 + l.length = n + (b :: l).length := by simp; omega
  rw [this]; rfl
theorem plcM_snoc (l : List AceP) (a : AceP) : plcM (l ++ [a]) = plcM l ++ [(kyL a, .int .i64 (l.length : Nat))] := by
 unfold plcM
 rw [plcN_snoc, Nat.zero_add]
theorem plcN_set : ∀ (l : List AceP) (n i : Nat) (h : i < l.length) (m : Int), plcN n (l.set i { l[i] with m := m }) = plcN n l
 | b :: l, n, 0, _, m => rfl
 | b :: l, n, i + 1, h, m => by
  have := plcN_set l (n + 1) i (by simpa using h) m
  exact congrArg ((kyL b, Value.int .i64 n) :: ·) this
theorem plcN_look (a : AceP) : ∀ (l : List AceP) (n : Nat), (lookS (plcN n l) (kyL a) = none ∧ ∀ b ∈ l, keyE b a = false) ∨
 ∃ i, ∃ h : i < l.length, lookS (plcN n l) (kyL a) = some (.int .i64 ((n + i : Nat) : Int)) ∧ keyE l[i] a = true ∧ ∀ j (hj : j < i), keyE (l[j]'(by omega)) a = false
 | [], n => .inl ⟨rfl, fun b hb => by cases hb⟩
 | b :: l, n => by
  have hd : lookS (plcN n (b :: l)) (kyL a) = if keyE b a = true then some (.int .i64 (n : Nat)) else lookS (plcN (n + 1) l) (kyL a) := by
   show (((kyL b, Value.int .i64 (n : Nat)) :: plcN (n + 1) l).find? fun p => eqL (kyL a) p.1).map (·.2) = _
   rw [List.find?_cons, kyL_eq]
   cases keyE b a <;> rfl
  rw [hd]
  by_cases hk : keyE b a = true
  · right
    exact ⟨0, by simp, by rw [if_pos hk, Nat.add_zero], hk, fun j hj => absurd hj (Nat.not_lt_zero _)⟩
  · have hk' : keyE b a = false := by simpa using hk
    rw [if_neg hk]
    rcases plcN_look a l (n + 1) with ⟨h1, h2⟩ | ⟨i, h, h1, h2, h3⟩
    · left
      refine ⟨h1, fun x hx => ?_⟩
      rcases List.mem_cons.1 hx with rfl | hx
      · exact hk'
      · exact h2 x hx
    · right
      refine ⟨i + 1, by simpa using h, by rw [h1]; congr 2; omega, h2, fun j hj => ?_⟩
      cases j with
      | zero => exact hk'
      | succ j => exact h3 j (by omega)
theorem plcM_look (a : AceP) (l : List AceP) : (lookS (plcM l) (kyL a) = none ∧ mrg1 l a = l ++ [a]) ∨
 ∃ i, ∃ h : i < l.length, lookS (plcM l) (kyL a) = some (.int .i64 (i : Int)) ∧ mrg1 l a = l.set i { l[i] with m := bits .or .i64 l[i].m a.m } := by
 unfold plcM
 rcases plcN_look a l 0 with ⟨h1, h2⟩ | ⟨i, h, h1, h2, h3⟩
 · exact .inl ⟨h1, mrg1_none l a h2⟩
 · exact .inr ⟨i, h, by rw [h1, Nat.zero_add], mrg1_at l a i h h2 h3⟩
theorem mrgG_snoc : ∀ (l out : List AceP) (a : AceP), mrgG out (l ++ [a]) = mrg1 (mrgG out l) a
 | [], out, a => rfl
 | b :: l, out, a => by
  show mrgG (mrg1 out b) (l ++ [a]) = mrg1 (mrgG (mrg1 out b) l) a
  exact mrgG_snoc l _ a
theorem mrgL_take {l : List AceP} {k : Nat} (h : k < l.length) : mrgL (l.take (k + 1)) = mrg1 (mrgL (l.take k)) l[k] := by
 unfold mrgL
 rw [List.take_succ_eq_append_getElem h, mrgG_snoc]
theorem mrgG_len : ∀ (l out : List AceP), (mrgG out l).length ≤ out.length + l.length
 | [], out => Nat.le_refl _
 | a :: l, out => by
  have h1 := mrgG_len l (mrg1 out a)
  have h2 := mrg1_len out a
  show (mrgG (mrg1 out a) l).length ≤ _
  rw [List.length_cons]; omega
theorem mrgL_len (l : List AceP) : (mrgL l).length ≤ l.length := by
 have := mrgG_len l []
 unfold mrgL
 simpa using this
end Go.Proofs.YtanicpgmbhfipaaGreatDoor
namespace Go.Proofs.YtanicpgmbhfipaaGreatDoor
set_option linter.unusedVariables false
set_option linter.unusedSimpArgs false
set_option maxRecDepth 4000
open Go.RowKit Go.Sort Go.Shelf
theorem wf64 {n : Int} (h : -9223372036854775808 ≤ n ∧ n ≤ 9223372036854775807) : (Lit.int .i64 n).wf = true := by
 show (decide (IntKind.i64.min ≤ n) && decide (n ≤ IntKind.i64.max)) = true
 rw [show IntKind.i64.min = -9223372036854775808 by decide, show IntKind.i64.max = 9223372036854775807 by decide, decide_eq_true h.1, decide_eq_true h.2]; rfl
theorem cells_ace : Tryz.prog.cellsOf 111 = 4 := by kernel_rfl
theorem cells_int : Tryz.prog.cellsOf 3 = 1 := by kernel_rfl
theorem key_ok {a : AceP} (h : aceE a = 0) : (Tryz.prog.keyLits 2 111 (kyL a)).isSome = true := by
 have hb : (0 ≤ a.k ∧ a.k ≤ 2) ∧ (0 ≤ a.f ∧ a.f ≤ 31) ∧ 0 ≤ a.w ∧ a.w ≤ 100000 := by
  unfold aceE at h
  split at h
  · rename_i hk
    split at h
    · rename_i h2
      unfold aceR whoB at h2
      simp only [inB, Bool.and_eq_true, Bool.or_eq_true, decide_eq_true_eq] at h2 hk
      omega
    · cases h
  · cases h
 have h1 := wf64 (n := a.k) (by omega)
 have h2 := wf64 (n := a.f) (by omega)
 have h3 := wf64 (n := 0) (by omega)
 have h4 := wf64 (n := a.w) (by omega)
 unfold kyL Program.keyLits
 rw [Tryz.underlying111]
 simp only [cells_ace]
 simp [Program.keyLits, Tryz.underlying3, cells_int, h1, h2, h3, h4]
def mgO (l : List AceP) : List AceP := if acsE l = 0 then mrgL l else []
theorem MergedOf_any (l : List AceP) (A : Option Addr) (c : Nat) (w : World) (hlen : l.length ≤ 1000) (hr : Rd w w.heap.size A (acesV l)) :
 Calls Tryz.prog 43 #[.slice A l.length c] w fun e w' => ∃ i : Option Addr × Nat, e = .returned (.tuple #[.slice i.1 (mgO l).length i.2, .int .i64 (acsE l)]) ∧ St [] w w' [.row (.slice i.1 (mgO l).length i.2) (mgO l).length 111 4 (acesV (mgO l))] := by
 have hml : ∀ k, (mrgL (l.take k)).length ≤ 1000 := fun k => by have := mrgL_len (l.take k); rw [List.length_take] at this; omega
 refine st_enter (N := 53) Tryz.func43 rfl rfl rfl (fun a0 h0 => ?_)
 have S0 := St.init w
 refine st_seq (st_reg ?_)
 refine maa h0 fun a2 h2 => ?_
 refine st_nil (go_then (st_seq (st_seq (st_reg ?_))))
 refine mv h2 fun a3 h3 => ?_
 refine sl_bel h3 (wn rfl) (ex_call (fun _ _ => by kernel_rfl) (h3.evs rfl) rfl) rfl rfl S0 (acesErr_any l A c _ (S0.rd0 hr) hlen) fun a4 X4 h4 S4 => ?_
 refine ma h4 fun a5 h5 => ?_
 refine nsr ?_
 refine mv h5 fun a6 h6 => ?_
 refine sv h6 (ex_neq (h6.ev rfl) (h6.ev rfl)) fun a7 h7 => ?_
 refine st_nil (go_then ?_)
 refine st_if (h7.ev rfl) (fun hc0 => ?_) (fun hc0 => ?_)
 ·
  have hne : acsE l ≠ 0 := by simpa using hc0
  have e1 : mgO l = [] := by unfold mgO; rw [if_neg hne]
  refine st_seq (st_reg ?_)
  refine mva h7 fun a9 h9 => ?_
  refine ma h9 fun a10 h10 => ?_
  refine st_nil (go_then (wp_ret (ret_then ?_)))
  refine fin2 h10 rfl rfl rfl ?_
  rw [e1]
  exact ⟨(none, 0), rfl, S4.nilRow 111 4⟩
 ·
  have hz : acsE l = 0 := by simpa using hc0
  have e1 : mgO l = mrgL l := by unfold mgO; rw [if_pos hz]
  have hae := (acsE_zero hz).2
  refine wp_skip (go_then (st_seq (st_reg ?_)))
  refine sl_mkmapS [.i .i64, .i .i64, .i .i64, .i .i64] h7 (wn rfl) rfl rfl rfl S4 fun m17 a11 X11 hm17 h11 S11 => ?_
  refine ma h11 fun a12 h12 => ?_
  refine nsr ?_
  refine ma h12 fun a13 h13 => ?_
  replace S11 := St.nilRow S11 111 4
  refine st_nil (go_then (st_seq (st_seq (st_reg ?_))))
  refine mv h13 fun a14 h14 => ?_
  refine sv h14 (ex_len Tryz.underlying22 (h14.ev rfl)) fun a15 h15 => ?_
  refine mv h15 fun a16 h16 => ?_
  refine st_nil (go_then (wp_block ?_))
  refine st_loop h16 S11 [19, 18, 5, 3, 2] (fun (q : Nat × Option Addr × Nat) => [(20, .int .i64 q.1), (6, .slice q.2.1 (mrgL (l.take q.1)).length q.2.2)]) (fun (q : Nat × Option Addr × Nat) => q.1 ≤ l.length) (fun q L => [.row (.slice q.2.1 (mrgL (l.take q.1)).length q.2.2) (mrgL (l.take q.1)).length 111 4 (acesV (mrgL (l.take q.1))), mapSE [.i .i64, .i .i64, .i .i64, .i .i64] m17 (plcM (mrgL (l.take q.1)))]) (fun (q : Nat × Option Addr × Nat) => l.length - q.1) ((0, none, 0)) (Nat.zero_le _) ⟨rfl, rfl, rfl, rfl, rfl, rfl, rfl, trivial⟩ (S11) ?_
  intro q a17 X17 hF0 h17 S17
  obtain ⟨k, A6, c6⟩ := q
  dsimp only at h17 S17 hF0
  have hk1 := hml k
  refine st_seq (st_reg ?_)
  refine sv h17 (ex_lss (h17.ev rfl) (h17.ev rfl)) fun a18 h18 => ?_
  refine st_nil (go_then (st_seq ?_))
  refine st_if (h18.ev rfl) (fun hc1 => ?_) (fun hc1 => ?_)
  ·
   have hlt : k < l.length := by have := of_decide_eq_true hc1; omega
   obtain ⟨b, o, rfl, hB, _⟩ := hr.opened (by rw [acesF_len]; omega)
   have htk := mrgL_take hlt
   refine wp_skip (go_then (st_seq (wp_block (st_seq (st_reg ?_)))))
   refine sv h18 (ex_index (i := k) (sz := 4) Tryz.underlying22 (by kernel_rfl) (h18.ev rfl) (h18.ev rfl) (by omega) (by omega) rfl) fun a19 h19 => ?_
   refine sv (v := aceU l[k]) h19 (ex_loads (by kernel_rfl) (by kernel_rfl) (h19.ev rfl) (acesAt (S17.rd0 hr) hlt)) fun a20 h20 => ?_
   refine na (.agg #[.int .i64 0, .int .i64 0, .int .i64 0, .int .i64 0]) h20 rfl S17 fun b8 a21 X21 gb8 h21 S21 => ?_
   refine sw h21 S21 0 fun X22 S22 => ?_
   refine nsr ?_
   refine sv (v := aceU l[k]) h21 (ex_loads (by kernel_rfl) (by kernel_rfl) (h21.ev rfl) (S22.cellsAll (i := 0) rfl)) fun a23 h23 => ?_
   refine na (.agg #[.int .i64 0, .int .i64 0, .int .i64 0, .int .i64 0]) h23 rfl S22 fun b9 a24 X24 gb9 h24 S24 => ?_
   refine sw h24 S24 0 fun X25 S25 => ?_
   refine nsr ?_
   refine vf h24 2 2 fun a26 h26 => ?_
   refine sl_store h26 (wn rfl) ⟨rfl, rfl⟩ (h26.ev rfl) (h26.ev rfl) rfl (by kernel_rfl) S25 (i := 0) rfl rfl rfl fun X27 S27 => ?_
   refine st_nil (go_then (st_seq (st_seq (st_reg ?_))))
   refine mv h26 fun a28 h28 => ?_
   refine sv (v := .agg (kyL l[k]).toArray) h28 (ex_loads (by kernel_rfl) (by kernel_rfl) (h28.ev rfl) (S27.cellsAll (i := 0) rfl)) fun a29 h29 => ?_
   refine sv h29 (ex_lookupS (z := .int .i64 0) Tryz.underlying119 (by kernel_rfl) Tryz.underlying111 (by kernel_rfl) (by kernel_rfl) (by kernel_rfl) (key_ok (hae _ (List.getElem_mem hlt))) rfl (h29.ev rfl) (h29.ev rfl) (S27.at_ (i := 3) rfl)) fun a30 h30 => ?_
   refine mv h30 fun a31 h31 => ?_
   refine vx h31 fun a32 h32 => ?_
   refine vx h32 fun a33 h33 => ?_
   refine maa h33 fun a35 h35 => ?_
   refine nsr ?_
   refine mv h35 fun a36 h36 => ?_
   refine st_nil (go_then ?_)
   refine st_if (h36.ev rfl) (fun hc2 => ?_) (fun hc2 => ?_)
   ·
    obtain ⟨i, hi, e2, e3⟩ : ∃ i, ∃ h : i < (mrgL (l.take k)).length, lookS (plcM (mrgL (l.take k))) (kyL l[k]) = some (.int .i64 (i : Int)) ∧ mrg1 (mrgL (l.take k)) l[k] = (mrgL (l.take k)).set i { (mrgL (l.take k))[i] with m := bits .or .i64 (mrgL (l.take k))[i].m l[k].m } := by
     rcases plcM_look l[k] (mrgL (l.take k)) with ⟨u1, _⟩ | h
     · rw [u1] at hc2; cases hc2
     · exact h
    obtain ⟨g6, rfl, _⟩ := own_some (S27.at_ (i := 2) rfl) (by omega)
    have e4 : (lookS (plcM (mrgL (l.take k))) (kyL l[k])).getD (.int .i64 0) = .int .i64 (i : Int) := by rw [e2]; rfl
    rw [e4] at h36
    have hln : (mrgL (l.take (k + 1))).length = (mrgL (l.take k)).length := by rw [htk, e3, List.length_set]
    have eM : acesV (mrgL (l.take (k + 1))) = (acesV (mrgL (l.take k))).take (0 + i * 4 + 2) ++ [.int .i64 (bits .or .i64 (mrgL (l.take k))[i].m l[k].m)] ++ (acesV (mrgL (l.take k))).drop (0 + i * 4 + 2 + 1) := by
     rw [htk, e3, Nat.zero_add]
     exact flat_fld aceV_len (mrgL (l.take k)) hi (by decide) _ _ rfl
    have eP : plcM (mrgL (l.take (k + 1))) = plcM (mrgL (l.take k)) := by rw [htk, e3]; exact plcN_set _ 0 i hi _
    refine st_seq ?_
    apply dr_flow h36 [false, false, false, false, false, false, false] _ (by kernel_rfl)
    case h =>
     refine qv h36 (fun X hX => ex_move (h36.ev rfl)) fun a37 h37 => ?_
     refine qv h37 (fun X hX => ex_move (h37.ev rfl)) fun a38 h38 => ?_
     refine qv h38 (fun X hX => ex_index (i := i) (sz := 4) Tryz.underlying22 (by kernel_rfl) (h38.ev rfl) (h38.ev rfl) (by omega) (by omega) rfl) fun a39 h39 => ?_
     refine qv h39 (fun X hX => fy 2 (h39.ev rfl)) fun a40 h40 => ?_
     refine qv h40 (fun X hX => lx (h40.ev rfl) ((acesAt ((S27.grow hX).rdOf (i := 2) rfl) hi) 2 _ rfl)) fun a41 h41 => ?_
     refine qv h41 (fun X hX => fx 2 2 (h41.ev rfl)) fun a42 h42 => ?_
     refine qv h42 (fun X hX => lx (h42.ev rfl) ((S27.grow hX).cell (i := 1) rfl rfl)) fun a43 h43 => ?_
     refine sq_nil ?_
     refine nd_end fun X44 hX44 hΦ44 => ?_
     have S44 := S27.grow hX44
     refine sv h43 (ex_bits (r := bits .or .i64 (mrgL (l.take k))[i].m l[k].m) rfl (h43.ev rfl) (h43.ev rfl) rfl) fun a45 h45 => ?_
     refine sv h45 (ex_index (i := i) (sz := 4) Tryz.underlying22 (by kernel_rfl) (h45.ev rfl) (h45.ev rfl) (by omega) (by omega) rfl) fun a46 h46 => ?_
     refine sv h46 (fy 2 (h46.ev rfl)) fun a47 h47 => ?_
     refine sl_rowset h47 (wn rfl) ⟨rfl, rfl⟩ (h47.ev rfl) (h47.ev rfl) rfl (by kernel_rfl) S44 (i := 2) rfl rfl (by show 0 + i * 4 + 2 + 1 ≤ (mrgL (l.take k)).length * 4; omega) fun X48 S48 => ?_
     replace h47 := Has.also h47 (t := 6) (v := .slice (some ⟨g6, 0, none⟩) (mrgL (l.take (k + 1))).length c6) ((show look _ 6 = some (.slice (some ⟨g6, 0, none⟩) (mrgL (l.take k)).length c6) from rfl).trans (by rw [hln]))
     refine st_nil (go_then ?_)
     refine wp_exit ?_
     refine go_exit_then ?_
     refine go_exit ?_
     refine go_then (st_reg ?_)
     refine sv h47 (ex_add (h47.ev rfl) (h47.ev rfl) (by omega)) fun a49 h49 => ?_
     refine mv h49 fun a50 h50 => ?_
     refine st_nil (go_then ?_)
     exact ⟨(k + 1, some ⟨g6, 0, none⟩, c6), (by show l.length - (k + 1) < l.length - k; omega), hlt, h50.re ⟨rfl, rfl, rfl, rfl, rfl, rfl, rfl, trivial⟩, (by show St [] w _ [.row (.slice (some ⟨g6, 0, none⟩) (mrgL (l.take (k + 1))).length c6) (mrgL (l.take (k + 1))).length 111 4 (acesV (mrgL (l.take (k + 1)))), mapSE [.i .i64, .i .i64, .i .i64, .i .i64] m17 (plcM (mrgL (l.take (k + 1))))]; rw [hln, eM, eP]; exact (S48.sub (.cons _ (.cons _ (.cons_cons _ (.cons_cons _ .slnil))))))⟩
    case hB => kernel_rfl
    case hst => rfl
   ·
    have e2 : lookS (plcM (mrgL (l.take k))) (kyL l[k]) = none ∧ mrg1 (mrgL (l.take k)) l[k] = mrgL (l.take k) ++ [l[k]] := by
     rcases plcM_look l[k] (mrgL (l.take k)) with h | ⟨i, hi, u1, _⟩
     · exact h
     · rw [u1] at hc2; cases hc2
    refine wp_skip (go_then (st_seq (st_reg ?_)))
    refine mv h36 fun a51 h51 => ?_
    refine sv (v := .agg (kyL l[k]).toArray) h51 (ex_loads (by kernel_rfl) (by kernel_rfl) (h51.ev rfl) (S27.cellsAll (i := 0) rfl)) fun a52 h52 => ?_
    refine mv h52 fun a53 h53 => ?_
    refine sv h53 (ex_len Tryz.underlying22 (h53.ev rfl)) fun a54 h54 => ?_
    refine sl_mapputS (wn rfl) ⟨rfl, rfl⟩ Tryz.underlying119 (by kernel_rfl) Tryz.underlying111 (by kernel_rfl) (by kernel_rfl) (key_ok (hae _ (List.getElem_mem hlt))) rfl (h54.ev rfl) (h54.ev rfl) (h54.ev rfl) S27 (i := 3) rfl e2.1 fun X55 S55 => ?_
    refine st_nil (go_then (st_reg ?_))
    refine mv h54 fun a56 h56 => ?_
    refine sv (v := aceU l[k]) h56 (ex_loads (by kernel_rfl) (by kernel_rfl) (h56.ev rfl) (S55.cellsAll (i := 1) rfl)) fun a57 h57 => ?_
    refine sl_bslice (zc := [.int .i64 0, .int .i64 0, .int .i64 0, .int .i64 0]) (sz := 4) h57 (wn rfl) ⟨rfl, rfl⟩ rfl Tryz.underlying22 (by kernel_rfl) (by kernel_rfl) rfl rfl rfl (h57.evs2 rfl) rfl rfl rfl S55 fun b49 a58 X58 gb49 h58 S58 => ?_
    refine sl_append (z := .agg #[.int .i64 0, .int .i64 0, .int .i64 0, .int .i64 0]) (sz := 4) (bytes := 32) h58 (wn rfl) ⟨rfl, rfl⟩ rfl Tryz.underlying22 (by kernel_rfl) rfl rfl (h58.ev rfl) (h58.ev rfl) S58 (i := 3) rfl (S58.boxRd (i := 0) rfl) rfl (List.all_eq_true.1 rfl) ⟨(by omega), by decide⟩ fun A50 c50 a59 X59 h59 S59 => ?_
    refine ma h59 fun a60 h60 => ?_
    replace h60 := Has.also h60 (t := 6) (v := .slice A50 (mrgL (l.take (k + 1))).length c50) ((show look _ 6 = some (.slice A50 ((mrgL (l.take k)).length + 1) c50) from rfl).trans (by rw [htk, e2.2, List.length_append]; rfl))
    refine st_nil (go_block (go_then (st_reg ?_)))
    refine sv h60 (ex_add (h60.ev rfl) (h60.ev rfl) (by omega)) fun a61 h61 => ?_
    refine mv h61 fun a62 h62 => ?_
    refine st_nil (go_then ?_)
    exact ⟨(k + 1, A50, c50), (by show l.length - (k + 1) < l.length - k; omega), hlt, h62.re ⟨rfl, rfl, rfl, rfl, rfl, rfl, rfl, trivial⟩, (by show St [] w _ [.row (.slice A50 (mrgL (l.take (k + 1))).length c50) (mrgL (l.take (k + 1))).length 111 4 (acesV (mrgL (l.take (k + 1)))), mapSE [.i .i64, .i .i64, .i .i64, .i .i64] m17 (plcM (mrgL (l.take (k + 1))))]; rw [htk, e2.2, List.length_append, acesV_append, plcM_snoc]; exact (S59.sub (.cons _ (.cons _ (.cons _ (.cons_cons _ (.cons_cons _ .slnil)))))))⟩
  ·
   have hge : l.length ≤ k := by have := of_decide_eq_false hc1; omega
   refine wp_exit ?_
   refine go_exit_then ?_
   refine go_exit_then ?_
   refine go_exit ?_
   refine go_then (st_seq (st_reg ?_))
   refine mva h18 fun a64 h64 => ?_
   refine ma h64 fun a65 h65 => ?_
   refine st_nil (go_then (wp_ret ?_))
   refine fin2 h65 rfl rfl rfl ?_
   obtain rfl : k = l.length := by omega
   have h9 : St [] w X17 [.row (.slice A6 (mrgL (l.take l.length)).length c6) (mrgL (l.take l.length)).length 111 4 (acesV (mrgL (l.take l.length)))] := (S17.sub (.cons_cons _ (.cons _ .slnil)))
   rw [List.take_length] at h9
   rw [e1, hz]
   exact ⟨(A6, c6), by rw [List.take_length], h9⟩
end Go.Proofs.YtanicpgmbhfipaaGreatDoor
namespace Go.Proofs.YtanicpgmbhfipaaGreatDoor
set_option linter.unusedVariables false
set_option linter.unusedSimpArgs false
set_option maxRecDepth 4000
open Go.RowKit Go.Sort Go.Shelf
theorem cloneA_none (A : Option Addr) (c : Nat) (w : World) :
 Calls Tryz.prog 74 #[.slice A 0 c] w fun e w' => ∃ A', e = .returned (.slice A' 0 0) ∧ w'.ownsRow w.heap.size 111 4 (.slice A' 0 0) 0 [] ∧ Below w.heap.size w w' := by
 refine st_enter (N := 8) Tryz.func74 rfl rfl rfl (fun a0 h0 => ?_)
 have S0 := St.init w
 refine st_seq (st_reg ?_)
 refine ma h0 fun a1 h1 => ?_
 refine st_nil (go_then (st_seq (st_seq (st_reg ?_))))
 refine mv h1 fun a2 h2 => ?_
 refine sv h2 (ex_snil Tryz.underlying22 (by kernel_rfl) (h2.ev rfl) (h2.ev rfl)) fun a3 h3 => ?_
 refine st_nil (go_then ?_)
 refine st_if (h3.ev rfl) (fun hc0 => ?_) (fun hc0 => ?_)
 ·
  refine st_seq (st_reg ?_)
  refine ma h3 fun a4 h4 => ?_
  refine st_nil (go_then (wp_ret (ret_then ?_)))
  refine fin1 h4 rfl rfl ?_
  exact ⟨none, rfl, World.ownsRow_nil _ _ _ _, S0.below⟩
 ·
  refine wp_skip (go_then (st_seq (st_reg ?_)))
  refine sl_bslice (zc := [.int .i64 0, .int .i64 0, .int .i64 0, .int .i64 0]) (sz := 4) h3 (wn rfl) ⟨rfl, rfl⟩ rfl Tryz.underlying22 (by kernel_rfl) (by kernel_rfl) rfl rfl rfl (h3.evs2 rfl) rfl rfl rfl S0 fun b5 a5 X5 gb5 h5 S5 => ?_
  refine mv h5 fun a6 h6 => ?_
  refine sl_append0 (sz := 4) h6 (wn rfl) ⟨rfl, rfl⟩ rfl Tryz.underlying22 (by kernel_rfl) (h6.ev rfl) (h6.ev rfl) fun a7 h7 => ?_
  refine ma h7 fun a8 h8 => ?_
  refine st_nil (go_then (wp_ret ?_))
  refine fin1 h8 rfl rfl ?_
  have S9 := S5.toRow (i := 0) (n := 0) (sz := 4) rfl rfl (by decide)
  exact ⟨_, rfl, S9.ownB (i := 0) rfl, S9.below⟩
theorem cloneA_any (l : List AceP) (A : Option Addr) (c : Nat) (w : World) (hr : Rd w w.heap.size A (acesV l)) (hlen : l.length ≤ 1000) :
 Calls Tryz.prog 74 #[.slice A l.length c] w fun e w' => ∃ A' c', e = .returned (.slice A' l.length c') ∧ w'.ownsRow w.heap.size 111 4 (.slice A' l.length c') l.length (acesV l) ∧ Below w.heap.size w w' := by
 rcases Nat.eq_zero_or_pos l.length with h0 | h0
 · have hnil : l = [] := List.eq_nil_of_length_eq_zero h0
   subst hnil
   exact (cloneA_none A c w).mono fun e w' ⟨A', he, ho, hb⟩ => ⟨A', 0, he, ho, hb⟩
 refine st_enter (N := 8) Tryz.func74 rfl rfl rfl (fun a0 h0 => ?_)
 have S0 := St.init w
 refine st_seq (st_reg ?_)
 refine ma h0 fun a1 h1 => ?_
 refine st_nil (go_then (st_seq (st_seq (st_reg ?_))))
 refine mv h1 fun a2 h2 => ?_
 refine sv h2 (ex_snil Tryz.underlying22 (by kernel_rfl) (h2.ev rfl) (h2.ev rfl)) fun a3 h3 => ?_
 refine st_nil (go_then ?_)
 refine st_if (h3.ev rfl) (fun hc0 => ?_) (fun hc0 => ?_)
 ·
  exfalso
  obtain ⟨b, o, rfl, _⟩ := hr.opened (by rw [acesF_len]; omega)
  cases hc0
 ·
  refine wp_skip (go_then (st_seq (st_reg ?_)))
  refine sl_bslice (zc := [.int .i64 0, .int .i64 0, .int .i64 0, .int .i64 0]) (sz := 4) h3 (wn rfl) ⟨rfl, rfl⟩ rfl Tryz.underlying22 (by kernel_rfl) (by kernel_rfl) rfl rfl rfl (h3.evs2 rfl) rfl rfl rfl S0 fun b5 a4 X4 gb5 h4 S4 => ?_
  refine mv h4 fun a5 h5 => ?_
  have S6 := S4.toRow (i := 0) (n := 0) (sz := 4) rfl rfl (by decide)
  refine sl_append (z := .agg #[.int .i64 0, .int .i64 0, .int .i64 0, .int .i64 0]) (sz := 4) (bytes := 32) h5 (wn rfl) ⟨rfl, rfl⟩ rfl Tryz.underlying22 (by kernel_rfl) rfl rfl (h5.ev rfl) (h5.ev rfl) S6 (i := 0) rfl (S6.rd0 hr) (acesF_len l) (aceV_one l) ⟨(by omega), by decide⟩ fun A7 c7 a7 X7 h7 S7 => ?_
  refine ma h7 fun a8 h8 => ?_
  refine st_nil (go_then (wp_ret ?_))
  refine fin1 h8 rfl rfl ?_
  have q := S7.ownB (i := 0) rfl
  rw [Nat.zero_add] at q
  exact ⟨_, _, by rw [Nat.zero_add], q, S7.below⟩
theorem simG_snoc : ∀ (l out : List AceP) (a : AceP), simG out (l ++ [a]) = psh (simG out l) (sim1 (simG out l) a)
 | [], out, a => rfl
 | b :: l, out, a => simG_snoc l (psh out (sim1 out b)) a
theorem simL_take {l : List AceP} {k : Nat} (h : k < l.length) : simL (l.take (k + 1)) = psh (simL (l.take k)) (sim1 (simL (l.take k)) l[k]) := by
 unfold simL
 rw [List.take_succ_eq_append_getElem h, simG_snoc]
theorem sim1_eq (out : List AceP) (a : AceP) : sim1 out a = ⟨a.k, a.f, (sim1 out a).m, a.w⟩ := by
 obtain ⟨k1, k2, k3⟩ := sim1_keep out a
 generalize sim1 out a = x at k1 k2 k3
 obtain ⟨x, y, z, v⟩ := x
 dsimp only at k1 k2 k3 ⊢
 subst k1; subst k2; subst k3; rfl
def zD : DscP := ⟨0, 0, false, false, [], []⟩
def smO (d : DscP) : DscP := if dscE d = 0 then simD d else zD
def gOf (g : Int → Option Value) (D : Int → Int) : Prop := ∀ k, (g k).getD (.int .i64 0) = .int .i64 (D k)
theorem gOf_put {g : Int → Option Value} {D : Int → Int} (h : gOf g D) (k v : Int) : gOf (putF g k (some (.int .i64 v))) (fun w => if w = k then v else D w) := fun i => by
 show (if i = k then some (Value.int .i64 v) else g i).getD _ = .int .i64 (if i = k then v else D i)
 split
 · rfl
 · exact h i
theorem SimplifiedOf_any (d : DscP) (A1 A2 : Option Addr) (c1 c2 : Nat) (w : World) (hl1 : d.es.length ≤ 500) (hl2 : d.us.length ≤ 500) (hr1 : Rd w w.heap.size A1 (acesV d.es)) (hr2 : Rd w w.heap.size A2 (acesV d.us)) :
 Calls Tryz.prog 37 #[dscV d A1 A2 c1 c2] w fun e w' => ∃ i : (Option Addr × Nat) × Option Addr × Nat, e = .returned (.tuple #[dscV (smO d) i.1.1 i.2.1 i.1.2 i.2.2, .int .i64 (dscE d)]) ∧
  St [] w w' [.row (.slice i.1.1 (smO d).es.length i.1.2) (smO d).es.length 111 4 (acesV (smO d).es), .row (.slice i.2.1 (smO d).us.length i.2.2) (smO d).us.length 111 4 (acesV (smO d).us)] := by
 refine st_enter (N := 64) Tryz.func37 rfl rfl rfl (fun a0 h0 => ?_)
 have S0 := St.init w
 refine st_seq (st_reg ?_)
 refine nb h0 rfl rfl S0 fun b1 a1 X1 gb1 h1 S1 => ?_
 refine na (.agg #[.int .i64 0, .int .i64 0, .bool false, .bool false, .slice none 0 0, .slice none 0 0]) h1 rfl S1 fun b2 a2 X2 gb2 h2 S2 => ?_
 refine ma h2 fun a3 h3 => ?_
 refine st_nil (go_then (st_seq (st_seq (st_reg ?_))))
 refine sv (v := dscV d A1 A2 c1 c2) h3 (ex_loads (by kernel_rfl) (by kernel_rfl) (h3.ev rfl) (S2.cellsAll (i := 1) rfl)) fun a4 h4 => ?_
 refine sl_bel h4 (wn rfl) (ex_call (fun _ _ => by kernel_rfl) (h4.evs rfl) rfl) rfl rfl S2 (access_descriptorErr_any d A1 A2 c1 c2 _ hl1 hl2 (S2.rd0 hr1) (S2.rd0 hr2)) fun a5 X5 h5 S5 => ?_
 refine ma h5 fun a6 h6 => ?_
 refine nsr ?_
 refine mv h6 fun a7 h7 => ?_
 refine sv h7 (ex_neq (h7.ev rfl) (h7.ev rfl)) fun a8 h8 => ?_
 refine st_nil (go_then ?_)
 refine st_if (h8.ev rfl) (fun hc0 => ?_) (fun hc0 => ?_)
 ·
  have hne : dscE d ≠ 0 := by simpa using hc0
  have e1 : smO d = zD := by unfold smO; rw [if_neg hne]
  refine st_seq (st_reg ?_)
  refine sv h8 (ex_build (zs := [.int .i64 0, .int .i64 0, .bool false, .bool false, .slice none 0 0, .slice none 0 0]) (pl := [(0, 1), (1, 1), (2, 1), (3, 1), (4, 1), (5, 1)]) (by kernel_rfl) (by kernel_rfl) (h8.evs2 rfl) rfl rfl) fun a9 h9 => ?_
  refine mv h9 fun a10 h10 => ?_
  refine sw h10 S5 0 fun X11 S11 => ?_
  refine ma h10 fun a12 h12 => ?_
  refine st_nil (go_then (wp_ret (ret_then ?_)))
  refine finct h12 rfl rfl rfl S11 (i := 0) rfl (by kernel_rfl) (by kernel_rfl) ?_
  rw [e1]
  exact ⟨((none, 0), none, 0), rfl, ((S11.sub (List.nil_sublist _)).nilRow 111 4).nilRow 111 4⟩
 ·
  have hz : dscE d = 0 := by simpa using hc0
  have e1 : smO d = simD d := by unfold smO; rw [if_pos hz]
  obtain ⟨_, _, hx1, hx2, _, hok, _⟩ := dscE_zero hz
  have hml : ∀ k, (simL (d.es.take k)).length ≤ 1000 := fun k => by
   have := (simG_ok (d.es.take k) [] (fun a ha => hok a (List.mem_of_mem_take ha)) (fun b hb => by cases hb)).2
   rw [List.length_take] at this
   have : (simL (d.es.take k)).length ≤ _ := this
   simp at this
   omega
  have hmo : ∀ a ∈ d.es, mOk a := fun a ha => by obtain ⟨⟨_, _, x, y⟩, _⟩ := aceO_of (hok a ha).1; exact ⟨x, y⟩
  have hff : ∀ a ∈ d.es, 0 ≤ a.f ∧ a.f ≤ 31 := fun a ha => aceE_f (hok a ha).1
  have hso : ∀ k, ∀ b ∈ simL (d.es.take k), mOk b := fun k => (fixd_simG (d.es.take k) [] (fun a ha => hmo a (List.mem_of_mem_take ha)) (fun b hb => by cases hb) (fun j h => absurd h (Nat.not_lt_zero _))).2
  refine wp_skip (go_then (st_seq (st_reg ?_)))
  refine sl_mkmapF h8 (wn rfl) rfl rfl rfl S5 fun m15 a13 X13 hm15 h13 S13 => ?_
  refine ma h13 fun a14 h14 => ?_
  refine nsr ?_
  refine sv (v := dscV d A1 A2 c1 c2) h14 (ex_loads (by kernel_rfl) (by kernel_rfl) (h14.ev rfl) (S13.cellsAll (i := 2) rfl)) fun a15 h15 => ?_
  refine na (.agg #[.int .i64 0, .int .i64 0, .bool false, .bool false, .slice none 0 0, .slice none 0 0]) h15 rfl S13 fun b6 a16 X16 gb6 h16 S16 => ?_
  refine sw h16 S16 0 fun X17 S17 => ?_
  refine nsr ?_
  refine vf h16 5 5 fun a18 h18 => ?_
  refine vl h18 S17 3 fun a19 h19 => ?_
  refine sl_own h19 (wn rfl) (ex_call (fun _ _ => by kernel_rfl) (h19.evs rfl) rfl) rfl rfl S17 (cloneA_any d.us A2 c2 _ (S17.rd0 hr2) (by omega)) (Nat.le_refl _) fun A19 c19 a20 X20 h20 S20 => ?_
  refine vf h20 4 4 fun a21 h21 => ?_
  refine sl_store h21 (wn rfl) ⟨rfl, rfl⟩ (h21.ev rfl) (h21.ev rfl) rfl (by kernel_rfl) S20 (i := 1) rfl rfl rfl fun X22 S22 => ?_
  refine vf h21 5 5 fun a23 h23 => ?_
  refine sl_store h23 (wn rfl) ⟨rfl, rfl⟩ (h23.ev rfl) (h23.ev rfl) rfl (by kernel_rfl) S22 (i := 1) rfl rfl rfl fun X24 S24 => ?_
  replace S24 := St.nilRow S24 111 4
  refine st_nil (go_then (st_seq (st_seq (st_reg ?_))))
  refine vf h23 4 4 fun a25 h25 => ?_
  refine vl h25 S24 5 fun a26 h26 => ?_
  refine sv h26 (ex_len Tryz.underlying22 (h26.ev rfl)) fun a27 h27 => ?_
  refine mv h27 fun a28 h28 => ?_
  refine st_nil (go_then (wp_block ?_))
  refine st_loop h28 S24 [24, 23, 6, 5, 3, 2] (fun (q : Nat × (Option Addr × Nat) × (Int → Option Value)) => [(25, .int .i64 q.1)]) (fun (q : Nat × (Option Addr × Nat) × (Int → Option Value)) => q.1 ≤ d.es.length ∧ ∃ D, dInv (simL (d.es.take q.1)) D ∧ gOf q.2.2 D) (fun q L => [.row (.slice q.2.1.1 (simL (d.es.take q.1)).length q.2.1.2) (simL (d.es.take q.1)).length 111 4 (acesV (simL (d.es.take q.1))), .row (.slice A19 d.us.length c19) d.us.length 111 4 (acesV d.us), .box b6 #[.int .i64 d.o, .int .i64 d.g, .bool d.pr, .bool d.he, .slice q.2.1.1 (simL (d.es.take q.1)).length q.2.1.2, .slice A19 d.us.length c19] 24, mapFE m15 q.2.2, .box b2 #[.int .i64 0, .int .i64 0, .bool false, .bool false, .slice none 0 0, .slice none 0 0] 24, .box b1 #[.int .i64 d.o, .int .i64 d.g, .bool d.pr, .bool d.he, .slice A1 d.es.length c1, .slice A2 d.us.length c2] 24]) (fun (q : Nat × (Option Addr × Nat) × (Int → Option Value)) => d.es.length - q.1) ((0, (none, 0), fun _ => none)) (⟨Nat.zero_le _, fun _ => 0, dInv_nil, fun _ => rfl⟩) ⟨rfl, rfl, rfl, rfl, rfl, rfl, rfl, trivial⟩ (S24) ?_
  intro q a29 X29 hF0 h29 S29
  obtain ⟨k, ⟨A6, c6⟩, g⟩ := q
  dsimp only at h29 S29 hF0
  obtain ⟨hk0, D, hD, hg⟩ := hF0
  have hk1 := hml k
  refine st_seq (st_reg ?_)
  refine sv h29 (ex_lss (h29.ev rfl) (h29.ev rfl)) fun a30 h30 => ?_
  refine st_nil (go_then (st_seq ?_))
  refine st_if (h30.ev rfl) (fun hc1 => ?_) (fun hc1 => ?_)
  ·
   have hlt : k < d.es.length := by have := of_decide_eq_true hc1; omega
   obtain ⟨b, o, rfl, hB, _⟩ := hr1.opened (by rw [acesF_len]; omega)
   have htk := simL_take hlt
   have hfa := hff _ (List.getElem_mem hlt)
   have hma := hmo _ (List.getElem_mem hlt)
   obtain ⟨m9, hm9⟩ : ∃ m, m = (sim1 (simL (d.es.take k)) d.es[k]).m := ⟨_, rfl⟩
   have hsm : sim1 (simL (d.es.take k)) d.es[k] = ⟨d.es[k].k, d.es[k].f, m9, d.es[k].w⟩ := by rw [hm9]; exact sim1_eq _ _
   have hmx : mOk ⟨d.es[k].k, d.es[k].f, m9, d.es[k].w⟩ := by
    have := sim1_m hma (hso k)
    rw [← hm9] at this
    exact ⟨this.1, Int.le_trans this.2 hma.2⟩
   have hcx := cnt_keep (simL (d.es.take k)) d.es[k]
   rw [hsm] at hcx
   rw [hsm] at htk
   refine wp_skip (go_then (st_seq (wp_block (st_seq (st_reg ?_)))))
   refine sv h30 (ex_index (i := k) (sz := 4) Tryz.underlying22 (by kernel_rfl) (h30.ev rfl) (h30.ev rfl) (by omega) (by omega) rfl) fun a31 h31 => ?_
   refine sv (v := aceU d.es[k]) h31 (ex_loads (by kernel_rfl) (by kernel_rfl) (h31.ev rfl) (acesAt (S29.rd0 hr1) hlt)) fun a32 h32 => ?_
   refine na (.agg #[.int .i64 0, .int .i64 0, .int .i64 0, .int .i64 0]) h32 rfl S29 fun b8 a33 X33 gb8 h33 S33 => ?_
   refine sw h33 S33 0 fun X34 S34 => ?_
   refine st_nil (go_then (st_seq (st_seq (st_reg ?_))))
   refine sv (v := aceU d.es[k]) h33 (ex_loads (by kernel_rfl) (by kernel_rfl) (h33.ev rfl) (S34.cellsAll (i := 0) rfl)) fun a35 h35 => ?_
   refine sl_bel h35 (wn rfl) (ex_call (fun _ _ => by kernel_rfl) (h35.evs rfl) rfl) rfl rfl S34 (counts_any d.es[k] _ hfa.1 hfa.2) fun a36 X36 h36 S36 => ?_
   refine st_nil (go_then ?_)
   refine st_if (h36.ev rfl) (fun hc2 => ?_) (fun hc2 => ?_)
   ·
    have hD9 := dInv_step hD (hcx.trans hc2) hmx
    have hg9 := gOf_put hg d.es[k].w (bits .or .i64 (D d.es[k].w) m9)
    refine st_seq (st_seq (st_reg ?_))
    refine vf h36 1 1 fun a37 h37 => ?_
    refine vl h37 S36 0 fun a38 h38 => ?_
    refine sv h38 (ex_bits (r := bits .and .i64 d.es[k].f 3) rfl (h38.ev rfl) (h38.ev rfl) rfl) fun a39 h39 => ?_
    refine sv h39 (ex_eql (h39.ev rfl) (h39.ev rfl)) fun a40 h40 => ?_
    refine st_nil (go_then ?_)
    refine st_if (h40.ev rfl) (fun hc3 => ?_) (fun hc3 => ?_)
    ·
     have hih : (cntB d.es[k] && !inhB d.es[k]) = true := by rw [hc2, Bool.true_and]; exact (inh_bits _ hfa.1 hfa.2).symm.trans hc3
     have hme : bits .andNot .i64 d.es[k].m (bits .or .i64 (D d.es[k].w) (D 1)) = m9 := by rw [hm9, sim1_pos hih]; exact red_D hD _ hma.1 hma.2 (hso k)
     refine st_reg ?_
     refine vf h40 2 2 fun a41 h41 => ?_
     refine vl h41 S36 0 fun a42 h42 => ?_
     refine mv h42 fun a43 h43 => ?_
     refine vf h43 3 3 fun a44 h44 => ?_
     refine vl h44 S36 0 fun a45 h45 => ?_
     refine sv h45 (as_val (v' := .int .i64 (D d.es[k].w)) (hg _) (ex_look1 (z := .int .i64 0) Tryz.underlying115 Tryz.underlying3 (by kernel_rfl) (h45.ev rfl) (h45.ev rfl) (S36.at_ (i := 4) rfl))) fun a46 h46 => ?_
     refine mv h46 fun a47 h47 => ?_
     refine sv h47 (as_val (v' := .int .i64 (D 1)) (hg _) (ex_look1 (z := .int .i64 0) Tryz.underlying115 Tryz.underlying3 (by kernel_rfl) (h47.ev rfl) (h47.ev rfl) (S36.at_ (i := 4) rfl))) fun a48 h48 => ?_
     refine sv h48 (ex_bits (r := bits .or .i64 (D d.es[k].w) (D 1)) rfl (h48.ev rfl) (h48.ev rfl) rfl) fun a49 h49 => ?_
     refine sv h49 (ex_bits (r := bits .andNot .i64 d.es[k].m (bits .or .i64 (D d.es[k].w) (D 1))) rfl (h49.ev rfl) (h49.ev rfl) rfl) fun a50 h50 => ?_
     refine vf h50 2 2 fun a51 h51 => ?_
     refine sl_store h51 (wn rfl) ⟨rfl, rfl⟩ (h51.ev rfl) (h51.ev rfl) rfl (by kernel_rfl) S36 (i := 0) rfl rfl rfl fun X52 S52 => ?_
     rw [hme] at S52
     refine st_nil (go_then (st_reg ?_))
     refine mv h51 fun a53 h53 => ?_
     refine vf h53 3 3 fun a54 h54 => ?_
     refine vl h54 S52 0 fun a55 h55 => ?_
     refine sv h55 (as_val (v' := .int .i64 (D d.es[k].w)) (hg _) (ex_look1 (z := .int .i64 0) Tryz.underlying115 Tryz.underlying3 (by kernel_rfl) (h55.ev rfl) (h55.ev rfl) (S52.at_ (i := 4) rfl))) fun a56 h56 => ?_
     refine vf h56 2 2 fun a57 h57 => ?_
     refine vl h57 S52 0 fun a58 h58 => ?_
     refine sv h58 (ex_bits (r := bits .or .i64 (D d.es[k].w) m9) rfl (h58.ev rfl) (h58.ev rfl) rfl) fun a59 h59 => ?_
     refine sl_mapput (wn rfl) ⟨rfl, rfl⟩ Tryz.underlying115 Tryz.underlying3 (h59.ev rfl) (h59.ev rfl) (h59.ev rfl) S52 (i := 4) rfl fun X60 S60 => ?_
     refine nsr ?_
     refine vf h59 2 2 fun a61 h61 => ?_
     refine vl h61 S60 0 fun a62 h62 => ?_
     refine sv h62 (ex_neq (h62.ev rfl) (h62.ev rfl)) fun a63 h63 => ?_
     refine st_nil (go_then ?_)
     refine st_if (h63.ev rfl) (fun hc4 => ?_) (fun hc4 => ?_)
     ·
      have hnz : ¬ m9 = 0 := by simpa using hc4
      have hps : simL (d.es.take (k + 1)) = simL (d.es.take k) ++ [⟨d.es[k].k, d.es[k].f, m9, d.es[k].w⟩] := by rw [htk]; exact if_neg hnz
      refine st_reg ?_
      refine vf h63 4 4 fun a64 h64 => ?_
      refine vl h64 S60 3 fun a65 h65 => ?_
      refine sv (v := aceU ⟨d.es[k].k, d.es[k].f, m9, d.es[k].w⟩) h65 (ex_loads (by kernel_rfl) (by kernel_rfl) (h65.ev rfl) (S60.cellsAll (i := 0) rfl)) fun a66 h66 => ?_
      refine sl_bslice (zc := [.int .i64 0, .int .i64 0, .int .i64 0, .int .i64 0]) (sz := 4) h66 (wn rfl) ⟨rfl, rfl⟩ rfl Tryz.underlying22 (by kernel_rfl) (by kernel_rfl) rfl rfl rfl (h66.evs2 rfl) rfl rfl rfl S60 fun b59 a67 X67 gb59 h67 S67 => ?_
      refine sl_append (z := .agg #[.int .i64 0, .int .i64 0, .int .i64 0, .int .i64 0]) (sz := 4) (bytes := 32) h67 (wn rfl) ⟨rfl, rfl⟩ rfl Tryz.underlying22 (by kernel_rfl) rfl rfl (h67.ev rfl) (h67.ev rfl) S67 (i := 2) rfl (S67.boxRd (i := 0) rfl) rfl (List.all_eq_true.1 rfl) ⟨(by omega), by decide⟩ fun A60 c60 a68 X68 h68 S68 => ?_
      refine vf h68 4 4 fun a69 h69 => ?_
      refine sl_store h69 (wn rfl) ⟨rfl, rfl⟩ (h69.ev rfl) (h69.ev rfl) rfl (by kernel_rfl) S68 (i := 4) rfl rfl rfl fun X70 S70 => ?_
      refine st_nil (go_block (go_then (st_reg ?_)))
      refine sv h69 (ex_add (h69.ev rfl) (h69.ev rfl) (by omega)) fun a71 h71 => ?_
      refine mv h71 fun a72 h72 => ?_
      refine st_nil (go_then ?_)
      exact ⟨(k + 1, (A60, c60), putF g d.es[k].w (some (.int .i64 (bits .or .i64 (D d.es[k].w) m9)))), (by show d.es.length - (k + 1) < d.es.length - k; omega), ⟨hlt, _, by rw [htk]; exact hD9, hg9⟩, h72.re ⟨rfl, rfl, rfl, rfl, rfl, rfl, rfl, trivial⟩, (by show St [] w _ [.row (.slice A60 (simL (d.es.take (k + 1))).length c60) (simL (d.es.take (k + 1))).length 111 4 (acesV (simL (d.es.take (k + 1)))), _, .box b6 #[.int .i64 d.o, .int .i64 d.g, .bool d.pr, .bool d.he, .slice A60 (simL (d.es.take (k + 1))).length c60, .slice A19 d.us.length c19] 24, _, _, _]; rw [hps, List.length_append, acesV_append]; exact (S70.sub (.cons _ (.cons _ (.cons_cons _ (.cons_cons _ (.cons_cons _ (.cons_cons _ (.cons_cons _ (.cons_cons _ .slnil))))))))))⟩
     ·
      have hzz : m9 = 0 := by simpa using hc4
      have hps : simL (d.es.take (k + 1)) = simL (d.es.take k) := by rw [htk]; exact if_pos hzz
      refine wp_skip (go_block (go_then (st_reg ?_)))
      refine sv h63 (ex_add (h63.ev rfl) (h63.ev rfl) (by omega)) fun a73 h73 => ?_
      refine mv h73 fun a74 h74 => ?_
      refine st_nil (go_then ?_)
      exact ⟨(k + 1, (A6, c6), putF g d.es[k].w (some (.int .i64 (bits .or .i64 (D d.es[k].w) m9)))), (by show d.es.length - (k + 1) < d.es.length - k; omega), ⟨hlt, _, by rw [htk]; exact hD9, hg9⟩, h74.re ⟨rfl, rfl, rfl, rfl, rfl, rfl, rfl, trivial⟩, (by show St [] w _ [.row (.slice A6 (simL (d.es.take (k + 1))).length c6) (simL (d.es.take (k + 1))).length 111 4 (acesV (simL (d.es.take (k + 1)))), _, .box b6 #[.int .i64 d.o, .int .i64 d.g, .bool d.pr, .bool d.he, .slice A6 (simL (d.es.take (k + 1))).length c6, .slice A19 d.us.length c19] 24, _, _, _]; rw [hps]; exact (S60.sub (.cons _ (.cons_cons _ (.cons_cons _ (.cons_cons _ (.cons_cons _ (.cons_cons _ (.cons_cons _ .slnil)))))))))⟩
    ·
     have hih : ¬ (cntB d.es[k] && !inhB d.es[k]) = true := by rw [hc2, Bool.true_and]; intro h; have := (inh_bits _ hfa.1 hfa.2).trans h; rw [hc3] at this; cases this
     have heq : aceU d.es[k] = aceU ⟨d.es[k].k, d.es[k].f, m9, d.es[k].w⟩ := by rw [← hsm, sim1_neg hih]
     rw [heq] at S36
     refine wp_skip (go_then (st_reg ?_))
     refine mv h40 fun a75 h75 => ?_
     refine vf h75 3 3 fun a76 h76 => ?_
     refine vl h76 S36 0 fun a77 h77 => ?_
     refine sv h77 (as_val (v' := .int .i64 (D d.es[k].w)) (hg _) (ex_look1 (z := .int .i64 0) Tryz.underlying115 Tryz.underlying3 (by kernel_rfl) (h77.ev rfl) (h77.ev rfl) (S36.at_ (i := 4) rfl))) fun a78 h78 => ?_
     refine vf h78 2 2 fun a79 h79 => ?_
     refine vl h79 S36 0 fun a80 h80 => ?_
     refine sv h80 (ex_bits (r := bits .or .i64 (D d.es[k].w) m9) rfl (h80.ev rfl) (h80.ev rfl) rfl) fun a81 h81 => ?_
     refine sl_mapput (wn rfl) ⟨rfl, rfl⟩ Tryz.underlying115 Tryz.underlying3 (h81.ev rfl) (h81.ev rfl) (h81.ev rfl) S36 (i := 4) rfl fun X82 S82 => ?_
     refine nsr ?_
     refine vf h81 2 2 fun a83 h83 => ?_
     refine vl h83 S82 0 fun a84 h84 => ?_
     refine sv h84 (ex_neq (h84.ev rfl) (h84.ev rfl)) fun a85 h85 => ?_
     refine st_nil (go_then ?_)
     refine st_if (h85.ev rfl) (fun hc4 => ?_) (fun hc4 => ?_)
     ·
      have hnz : ¬ m9 = 0 := by simpa using hc4
      have hps : simL (d.es.take (k + 1)) = simL (d.es.take k) ++ [⟨d.es[k].k, d.es[k].f, m9, d.es[k].w⟩] := by rw [htk]; exact if_neg hnz
      refine st_reg ?_
      refine vf h85 4 4 fun a86 h86 => ?_
      refine vl h86 S82 3 fun a87 h87 => ?_
      refine sv (v := aceU ⟨d.es[k].k, d.es[k].f, m9, d.es[k].w⟩) h87 (ex_loads (by kernel_rfl) (by kernel_rfl) (h87.ev rfl) (S82.cellsAll (i := 0) rfl)) fun a88 h88 => ?_
      refine sl_bslice (zc := [.int .i64 0, .int .i64 0, .int .i64 0, .int .i64 0]) (sz := 4) h88 (wn rfl) ⟨rfl, rfl⟩ rfl Tryz.underlying22 (by kernel_rfl) (by kernel_rfl) rfl rfl rfl (h88.evs2 rfl) rfl rfl rfl S82 fun b59 a89 X89 gb59 h89 S89 => ?_
      refine sl_append (z := .agg #[.int .i64 0, .int .i64 0, .int .i64 0, .int .i64 0]) (sz := 4) (bytes := 32) h89 (wn rfl) ⟨rfl, rfl⟩ rfl Tryz.underlying22 (by kernel_rfl) rfl rfl (h89.ev rfl) (h89.ev rfl) S89 (i := 2) rfl (S89.boxRd (i := 0) rfl) rfl (List.all_eq_true.1 rfl) ⟨(by omega), by decide⟩ fun A60 c60 a90 X90 h90 S90 => ?_
      refine vf h90 4 4 fun a91 h91 => ?_
      refine sl_store h91 (wn rfl) ⟨rfl, rfl⟩ (h91.ev rfl) (h91.ev rfl) rfl (by kernel_rfl) S90 (i := 4) rfl rfl rfl fun X92 S92 => ?_
      refine st_nil (go_block (go_then (st_reg ?_)))
      refine sv h91 (ex_add (h91.ev rfl) (h91.ev rfl) (by omega)) fun a93 h93 => ?_
      refine mv h93 fun a94 h94 => ?_
      refine st_nil (go_then ?_)
      exact ⟨(k + 1, (A60, c60), putF g d.es[k].w (some (.int .i64 (bits .or .i64 (D d.es[k].w) m9)))), (by show d.es.length - (k + 1) < d.es.length - k; omega), ⟨hlt, _, by rw [htk]; exact hD9, hg9⟩, h94.re ⟨rfl, rfl, rfl, rfl, rfl, rfl, rfl, trivial⟩, (by show St [] w _ [.row (.slice A60 (simL (d.es.take (k + 1))).length c60) (simL (d.es.take (k + 1))).length 111 4 (acesV (simL (d.es.take (k + 1)))), _, .box b6 #[.int .i64 d.o, .int .i64 d.g, .bool d.pr, .bool d.he, .slice A60 (simL (d.es.take (k + 1))).length c60, .slice A19 d.us.length c19] 24, _, _, _]; rw [hps, List.length_append, acesV_append]; exact (S92.sub (.cons _ (.cons _ (.cons_cons _ (.cons_cons _ (.cons_cons _ (.cons_cons _ (.cons_cons _ (.cons_cons _ .slnil))))))))))⟩
     ·
      have hzz : m9 = 0 := by simpa using hc4
      have hps : simL (d.es.take (k + 1)) = simL (d.es.take k) := by rw [htk]; exact if_pos hzz
      refine wp_skip (go_block (go_then (st_reg ?_)))
      refine sv h85 (ex_add (h85.ev rfl) (h85.ev rfl) (by omega)) fun a95 h95 => ?_
      refine mv h95 fun a96 h96 => ?_
      refine st_nil (go_then ?_)
      exact ⟨(k + 1, (A6, c6), putF g d.es[k].w (some (.int .i64 (bits .or .i64 (D d.es[k].w) m9)))), (by show d.es.length - (k + 1) < d.es.length - k; omega), ⟨hlt, _, by rw [htk]; exact hD9, hg9⟩, h96.re ⟨rfl, rfl, rfl, rfl, rfl, rfl, rfl, trivial⟩, (by show St [] w _ [.row (.slice A6 (simL (d.es.take (k + 1))).length c6) (simL (d.es.take (k + 1))).length 111 4 (acesV (simL (d.es.take (k + 1)))), _, .box b6 #[.int .i64 d.o, .int .i64 d.g, .bool d.pr, .bool d.he, .slice A6 (simL (d.es.take (k + 1))).length c6, .slice A19 d.us.length c19] 24, _, _, _]; rw [hps]; exact (S82.sub (.cons _ (.cons_cons _ (.cons_cons _ (.cons_cons _ (.cons_cons _ (.cons_cons _ (.cons_cons _ .slnil)))))))))⟩
   ·
    have hD9 := dInv_skip hD (hcx.trans hc2)
    have heq : aceU d.es[k] = aceU ⟨d.es[k].k, d.es[k].f, m9, d.es[k].w⟩ := by rw [← hsm, sim1_neg (by rw [hc2, Bool.false_and]; decide)]
    rw [heq] at S36
    refine wp_skip (go_then (st_seq (st_reg ?_)))
    refine vf h36 2 2 fun a97 h97 => ?_
    refine vl h97 S36 0 fun a98 h98 => ?_
    refine sv h98 (ex_neq (h98.ev rfl) (h98.ev rfl)) fun a99 h99 => ?_
    refine st_nil (go_then ?_)
    refine st_if (h99.ev rfl) (fun hc4 => ?_) (fun hc4 => ?_)
    ·
     have hnz : ¬ m9 = 0 := by simpa using hc4
     have hps : simL (d.es.take (k + 1)) = simL (d.es.take k) ++ [⟨d.es[k].k, d.es[k].f, m9, d.es[k].w⟩] := by rw [htk]; exact if_neg hnz
     refine st_reg ?_
     refine vf h99 4 4 fun a100 h100 => ?_
     refine vl h100 S36 3 fun a101 h101 => ?_
     refine sv (v := aceU ⟨d.es[k].k, d.es[k].f, m9, d.es[k].w⟩) h101 (ex_loads (by kernel_rfl) (by kernel_rfl) (h101.ev rfl) (S36.cellsAll (i := 0) rfl)) fun a102 h102 => ?_
     refine sl_bslice (zc := [.int .i64 0, .int .i64 0, .int .i64 0, .int .i64 0]) (sz := 4) h102 (wn rfl) ⟨rfl, rfl⟩ rfl Tryz.underlying22 (by kernel_rfl) (by kernel_rfl) rfl rfl rfl (h102.evs2 rfl) rfl rfl rfl S36 fun b59 a103 X103 gb59 h103 S103 => ?_
     refine sl_append (z := .agg #[.int .i64 0, .int .i64 0, .int .i64 0, .int .i64 0]) (sz := 4) (bytes := 32) h103 (wn rfl) ⟨rfl, rfl⟩ rfl Tryz.underlying22 (by kernel_rfl) rfl rfl (h103.ev rfl) (h103.ev rfl) S103 (i := 2) rfl (S103.boxRd (i := 0) rfl) rfl (List.all_eq_true.1 rfl) ⟨(by omega), by decide⟩ fun A60 c60 a104 X104 h104 S104 => ?_
     refine vf h104 4 4 fun a105 h105 => ?_
     refine sl_store h105 (wn rfl) ⟨rfl, rfl⟩ (h105.ev rfl) (h105.ev rfl) rfl (by kernel_rfl) S104 (i := 4) rfl rfl rfl fun X106 S106 => ?_
     refine st_nil (go_block (go_then (st_reg ?_)))
     refine sv h105 (ex_add (h105.ev rfl) (h105.ev rfl) (by omega)) fun a107 h107 => ?_
     refine mv h107 fun a108 h108 => ?_
     refine st_nil (go_then ?_)
     exact ⟨(k + 1, (A60, c60), g), (by show d.es.length - (k + 1) < d.es.length - k; omega), ⟨hlt, _, by rw [htk]; exact hD9, hg⟩, h108.re ⟨rfl, rfl, rfl, rfl, rfl, rfl, rfl, trivial⟩, (by show St [] w _ [.row (.slice A60 (simL (d.es.take (k + 1))).length c60) (simL (d.es.take (k + 1))).length 111 4 (acesV (simL (d.es.take (k + 1)))), _, .box b6 #[.int .i64 d.o, .int .i64 d.g, .bool d.pr, .bool d.he, .slice A60 (simL (d.es.take (k + 1))).length c60, .slice A19 d.us.length c19] 24, _, _, _]; rw [hps, List.length_append, acesV_append]; exact (S106.sub (.cons _ (.cons _ (.cons_cons _ (.cons_cons _ (.cons_cons _ (.cons_cons _ (.cons_cons _ (.cons_cons _ .slnil))))))))))⟩
    ·
     have hzz : m9 = 0 := by simpa using hc4
     have hps : simL (d.es.take (k + 1)) = simL (d.es.take k) := by rw [htk]; exact if_pos hzz
     refine wp_skip (go_block (go_then (st_reg ?_)))
     refine sv h99 (ex_add (h99.ev rfl) (h99.ev rfl) (by omega)) fun a109 h109 => ?_
     refine mv h109 fun a110 h110 => ?_
     refine st_nil (go_then ?_)
     exact ⟨(k + 1, (A6, c6), g), (by show d.es.length - (k + 1) < d.es.length - k; omega), ⟨hlt, _, by rw [htk]; exact hD9, hg⟩, h110.re ⟨rfl, rfl, rfl, rfl, rfl, rfl, rfl, trivial⟩, (by show St [] w _ [.row (.slice A6 (simL (d.es.take (k + 1))).length c6) (simL (d.es.take (k + 1))).length 111 4 (acesV (simL (d.es.take (k + 1)))), _, .box b6 #[.int .i64 d.o, .int .i64 d.g, .bool d.pr, .bool d.he, .slice A6 (simL (d.es.take (k + 1))).length c6, .slice A19 d.us.length c19] 24, _, _, _]; rw [hps]; exact (S36.sub (.cons _ (.cons_cons _ (.cons_cons _ (.cons_cons _ (.cons_cons _ (.cons_cons _ (.cons_cons _ .slnil)))))))))⟩
  ·
   have hge : d.es.length ≤ k := by have := of_decide_eq_false hc1; omega
   refine wp_exit ?_
   refine go_exit_then ?_
   refine go_exit_then ?_
   refine go_exit ?_
   refine go_then (st_seq (st_reg ?_))
   refine sv h30 (ex_loads (by kernel_rfl) (by kernel_rfl) (h30.ev rfl) (S29.cellsAll (i := 2) rfl)) fun a111 h111 => ?_
   refine sw h111 S29 4 fun X112 S112 => ?_
   refine ma h111 fun a113 h113 => ?_
   refine st_nil (go_then (wp_ret ?_))
   refine finct h113 rfl rfl rfl S112 (i := 4) rfl (by kernel_rfl) (by kernel_rfl) ?_
   have et : simL (d.es.take k) = simL d.es := by rw [show k = d.es.length by omega, List.take_length]
   have h9 : St [] w X112 [.row (.slice A6 (simL (d.es.take k)).length c6) (simL (d.es.take k)).length 111 4 (acesV (simL (d.es.take k))), .row (.slice A19 d.us.length c19) d.us.length 111 4 (acesV d.us)] := (S112.sub (.cons_cons _ (.cons_cons _ (.cons _ (.cons _ (.cons _ (.cons _ .slnil)))))))
   rw [et] at h9
   rw [e1, hz]
   exact ⟨((A6, c6), A19, c19), by rw [et]; rfl, h9⟩
end Go.Proofs.YtanicpgmbhfipaaGreatDoor
