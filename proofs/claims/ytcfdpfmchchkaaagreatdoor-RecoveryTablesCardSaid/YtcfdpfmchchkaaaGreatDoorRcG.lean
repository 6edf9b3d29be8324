/-
  Chapter 22: pages by their numbers; the error of pages.
  Chapter 21: redoing an operation; the numbers of pages.
  Chapter 22: pages redone.
-/
import Derived.Test.YtcfdpfmchchkaaaGreatDoorRcF
import Derived.Test.YtcfdpfmchchkaaaGreatDoorRcA
import Derived.Test.YtcfdpfmchchkaaaGreatDoorOpG
namespace Go.Proofs.YtcfdpfmchchkaaaGreatDoor
set_option linter.unusedVariables false
set_option linter.unusedSimpArgs false
set_option maxRecDepth 4000
open Go.RowKit Go.Sort Go.Shelf
theorem pat1_any (x : Pgp) (n : Int) (w : World) : Calls Tryz.prog 148 #[pgpV x, .int .i64 n] w fun e w' => e = .returned (.int .i64 (IntKind.i64.wrap (x.g - n))) ∧ Below w.heap.size w w' := by
 refine st_enter (N := 9) Tryz.func148 rfl rfl rfl (fun a0 h0 => ?_)
 have S0 := St.init w
 refine st_seq (st_reg ?_)
 refine nb h0 rfl rfl S0 fun b2 a1 X1 gb2 h1 S1 => ?_
 refine ma h1 rfl rfl fun a2 h2 => ?_
 refine nsr ?_
 refine vf h2 0 0 rfl rfl rfl fun a3 h3 => ?_
 refine vl h3 S1 0 rfl rfl rfl rfl fun a4 h4 => ?_
 refine mv h4 rfl rfl fun a5 h5 => ?_
 refine sv h5 (ex_subw (h5.ev rfl) (h5.ev rfl)) fun a6 h6 => ?_
 refine ma h6 rfl rfl fun a7 h7 => ?_
 refine st_nil (go_then (wp_ret ?_))
 refine fin1 h7 rfl rfl ?_
 exact ⟨rfl, S1.below⟩
theorem wsub {x n : Int} (hx : 0 ≤ x ∧ x ≤ 600) (hn : I6 n) : (IntKind.i64.wrap (x - n) = 0 ↔ x = n) ∧ (0 ≤ n ∧ n ≤ 600 → IntKind.i64.wrap (x - n) = x - n) := by
 unfold I6 at hn
 rw [IntKind.wrap_i64]
 constructor
 · omega
 · intro h; omega
def zB (l : List Pgp) (n : Int) (i : Nat) : Bool := match l[i]? with | some x => IntKind.i64.wrap (x.g - n) == 0 | none => false
theorem bsP_any (l : List Pgp) (hs : SrtK Pgp.g l) (hk : ∀ x ∈ l, 0 ≤ x.g ∧ x.g ≤ 600) (A : Option Addr) (c : Nat) (n : Int) (hn : I6 n) (w : World) (hr : Rd w w.heap.size A (l.flatMap pgpL)) (hlen : l.length ≤ 1000) :
 Calls Tryz.prog 147 #[.slice A l.length c, .int .i64 n, .func (.func 148) #[] #[]] w fun e w' => ∃ i : Nat, e = .returned (.tuple #[.int .i64 i, .bool (bsB Pgp.g l n)]) ∧ (bsB Pgp.g l n = true → i = bsN Pgp.g l n) ∧ Below w.heap.size w w' := by
 have hp := List.pairwise_iff_getElem.1 hs
 refine st_enter (N := 49) Tryz.func147 rfl rfl rfl (fun a0 h0 => ?_)
 have S0 := St.init w
 refine st_seq (st_reg ?_)
 refine ma h0 rfl rfl fun a1 h1 => ?_
 refine ma h1 rfl rfl fun a2 h2 => ?_
 refine nsr ?_
 refine mv h2 rfl rfl fun a3 h3 => ?_
 refine sv h3 (ex_len Tryz.underlying151 (h3.ev rfl)) fun a4 h4 => ?_
 refine ma h4 rfl rfl fun a5 h5 => ?_
 refine nsr ?_
 refine mv h5 rfl rfl fun a6 h6 => ?_
 refine ma h6 rfl rfl fun a7 h7 => ?_
 refine ma h7 rfl rfl fun a8 h8 => ?_
 refine st_nil (go_then (st_seq (wp_block ?_)))
 refine st_loop h8 S0 [8, 7, 6, 0, 1, 2] (fun (q : Nat × Nat) => [(9, .int .i64 (q.1 : Nat)), (10, .int .i64 (q.2 : Nat))]) (fun (q : Nat × Nat) => q.1 ≤ q.2 ∧ q.2 ≤ l.length ∧ (0 ≤ n ∧ n ≤ 600 → (∀ k (hk : k < l.length), k < q.1 → l[k].g < n) ∧ (∀ k (hk : k < l.length), q.2 ≤ k → n ≤ l[k].g))) (fun (q : Nat × Nat) L => L) (fun (q : Nat × Nat) => q.2 - q.1) ((0, l.length)) (⟨Nat.zero_le _, Nat.le_refl _, fun _ => ⟨fun k _ h => absurd h (Nat.not_lt_zero _), fun k hk h => by omega⟩⟩) ⟨rfl, rfl, rfl, rfl, rfl, rfl, rfl, rfl, trivial⟩ (S0) ?_
 intro q a9 X9 hF0 h9 S9
 refine st_seq (st_seq (st_reg ?_))
 refine mv h9 rfl rfl fun a10 h10 => ?_
 refine mv h10 rfl rfl fun a11 h11 => ?_
 refine sv h11 (ex_lss (h11.ev rfl) (h11.ev rfl)) fun a12 h12 => ?_
 refine st_nil (go_then ?_)
 refine st_if (h12.ev rfl) (fun hc0 => ?_) (fun hc0 => ?_)
 ·
  have hlt : q.1 < q.2 := by have := of_decide_eq_true hc0; omega
  have hq2 := hF0.2.1
  obtain ⟨b, o, rfl, hB, _⟩ := hr.opened (flat_pos pgpL_len (by decide) (by omega))
  have hm : (q.1 + q.2) / 2 < l.length := by omega
  have hkm := hk _ (List.getElem_mem hm)
  obtain ⟨hw1, hw2⟩ := wsub hkm hn
  refine wp_skip (go_then (wp_block (st_seq (st_reg ?_))))
  refine mv h12 rfl rfl fun a13 h13 => ?_
  refine mv h13 rfl rfl fun a14 h14 => ?_
  refine sv h14 (ex_add (h14.ev rfl) (h14.ev rfl) (by omega)) fun a15 h15 => ?_
  refine sv h15 (ex_convin (by kernel_rfl) Tryz.underlying215 (h15.ev rfl) (wrap_u64 (by omega))) fun a16 h16 => ?_
  refine sv h16 (ex_shr (n := 1) (h16.ev rfl) (h16.ev rfl) rfl (by omega)) fun a17 h17 => ?_
  refine sv h17 (as_val (v' := .int .i64 (((q.1 + q.2) / 2 : Nat) : Int)) (congrArg _ (by omega)) (ex_convin (by kernel_rfl) Tryz.underlying3 (h17.ev rfl) (wrap_in (by omega)))) fun a18 h18 => ?_
  refine ma h18 rfl rfl fun a19 h19 => ?_
  refine nsr ?_
  refine mv h19 rfl rfl fun a20 h20 => ?_
  refine mv h20 rfl rfl fun a21 h21 => ?_
  refine mv h21 rfl rfl fun a22 h22 => ?_
  refine sv h22 (ex_index (i := (q.1 + q.2) / 2) (sz := 3) Tryz.underlying151 (by kernel_rfl) (h22.ev rfl) (h22.ev rfl) (by omega) (by omega) rfl) fun a23 h23 => ?_
  refine sv (v := pgpV l[(q.1 + q.2) / 2]) h23 (ex_loads (by kernel_rfl) (by kernel_rfl) (h23.ev rfl) (flatAt pgpL_len (S9.rd0 hr) hm)) fun a24 h24 => ?_
  refine mv h24 rfl rfl fun a25 h25 => ?_
  refine sl_bel h25 (wn rfl) (ex_callv (fun _ _ => by kernel_rfl) (h25.ev rfl) (h25.evs rfl) rfl) rfl rfl S9 (pat1_any _ _ _) fun a26 X26 h26 S26 => ?_
  refine sv h26 (ex_lss (h26.ev rfl) (h26.ev rfl)) fun a27 h27 => ?_
  refine st_nil (go_then ?_)
  refine st_if (h27.ev rfl) (fun hc1 => ?_) (fun hc1 => ?_)
  ·
   have hx : 0 ≤ n ∧ n ≤ 600 → l[(q.1 + q.2) / 2].g < n := fun h6 => by have := of_decide_eq_true hc1; rw [hw2 h6] at this; omega
   have hlo : 0 ≤ n ∧ n ≤ 600 → ∀ k (hk : k < l.length), k ≤ (q.1 + q.2) / 2 → l[k].g < n := fun h6 k hk hki => by
    have hx := hx h6
    rcases Nat.lt_or_eq_of_le hki with h | h
    · have := hp k _ hk hm h; omega
    · subst h; exact hx
   refine st_reg ?_
   refine mv h27 rfl rfl fun a28 h28 => ?_
   refine sv h28 (ex_add (h28.ev rfl) (h28.ev rfl) (by omega)) fun a29 h29 => ?_
   refine ma h29 rfl rfl fun a30 h30 => ?_
   refine st_nil (go_block (go_then ?_))
   exact ⟨((q.1 + q.2) / 2 + 1, q.2), (by show q.2 - ((q.1 + q.2) / 2 + 1) < q.2 - q.1; omega), ⟨by show (q.1 + q.2) / 2 + 1 ≤ q.2; omega, hF0.2.1, fun h6 => ⟨fun k hk hki => hlo h6 k hk (by have : k < (q.1 + q.2) / 2 + 1 := hki; omega), (hF0.2.2 h6).2⟩⟩, h30.re ⟨rfl, rfl, rfl, rfl, rfl, rfl, rfl, rfl, trivial⟩, S26⟩
  ·
   have hx : 0 ≤ n ∧ n ≤ 600 → n ≤ l[(q.1 + q.2) / 2].g := fun h6 => by have := of_decide_eq_false hc1; rw [hw2 h6] at this; omega
   have hhi : 0 ≤ n ∧ n ≤ 600 → ∀ k (hk : k < l.length), (q.1 + q.2) / 2 ≤ k → n ≤ l[k].g := fun h6 k hk hki => by
    have hx := hx h6
    rcases Nat.lt_or_eq_of_le hki with h | h
    · have := hp _ k hm hk h; omega
    · subst h; exact hx
   refine st_reg ?_
   refine mv h27 rfl rfl fun a31 h31 => ?_
   refine ma h31 rfl rfl fun a32 h32 => ?_
   refine st_nil (go_block (go_then ?_))
   exact ⟨(q.1, (q.1 + q.2) / 2), (by show (q.1 + q.2) / 2 - q.1 < q.2 - q.1; omega), ⟨by show q.1 ≤ (q.1 + q.2) / 2; omega, by show (q.1 + q.2) / 2 ≤ l.length; omega, fun h6 => ⟨(hF0.2.2 h6).1, fun k hk hki => hhi h6 k hk hki⟩⟩, h32.re ⟨rfl, rfl, rfl, rfl, rfl, rfl, rfl, rfl, trivial⟩, S26⟩
 ·
  have hge : q.1 = q.2 := by have := of_decide_eq_false hc0; have := hF0.1; omega
  refine wp_exit ?_
  refine go_exit_then ?_
  refine go_exit_then ?_
  refine go_exit ?_
  refine go_then (st_seq (st_reg ?_))
  refine mv h12 rfl rfl fun a33 h33 => ?_
  refine mv h33 rfl rfl fun a34 h34 => ?_
  refine mv h34 rfl rfl fun a35 h35 => ?_
  refine sv h35 (ex_lss (h35.ev rfl) (h35.ev rfl)) fun a36 h36 => ?_
  refine mv h36 rfl rfl fun a37 h37 => ?_
  apply sl_and (x := zB l n q.1) h37 S9 39 rfl 9 48
  case ht =>
   intro gc39
   have hlt1 : q.1 < l.length := by have := of_decide_eq_true gc39; omega
   obtain ⟨b, o, rfl, hB, _⟩ := hr.opened (flat_pos pgpL_len (by decide) (by omega))
   refine sy h37 rfl rfl rfl gc39 (ex_move (h37.ev rfl)) rfl rfl fun a38 h38 => ?_
   refine sy h38 rfl rfl rfl gc39 (ex_move (h38.ev rfl)) rfl rfl fun a39 h39 => ?_
   refine sy h39 rfl rfl rfl gc39 (ex_move (h39.ev rfl)) rfl rfl fun a40 h40 => ?_
   refine sy h40 rfl rfl rfl gc39 (ex_index (i := q.1) (sz := 3) Tryz.underlying151 (by kernel_rfl) (h40.ev rfl) (h40.ev rfl) (by omega) (by omega) rfl) rfl rfl fun a41 h41 => ?_
   refine sl_val (v := pgpV l[q.1]) h41 (wanted_yes h41 _ rfl rfl rfl gc39) (ex_loads (by kernel_rfl) (by kernel_rfl) (h41.ev rfl) (flatAt pgpL_len (S9.rd0 hr) hlt1)) rfl rfl fun a42 h42 => ?_
   refine sy h42 rfl rfl rfl gc39 (ex_move (h42.ev rfl)) rfl rfl fun a43 h43 => ?_
   refine sl_bel h43 (wanted_yes h43 _ rfl rfl rfl gc39) (ex_callv (fun _ _ => by kernel_rfl) (h43.ev rfl) (h43.evs rfl) rfl) rfl rfl S9 (pat1_any _ _ _) fun a44 X44 h44 S44 => ?_
   refine sy h44 rfl rfl rfl gc39 (as_val (v' := .bool (zB l n q.1)) (congrArg Value.bool (by unfold zB; rw [List.getElem?_eq_getElem hlt1])) (ex_eql (h44.ev rfl) (h44.ev rfl))) rfl rfl fun a45 h45 => ?_
   refine sv h45 (ex_pick_t (h45.ev rfl) gc39 (h45.ev rfl)) fun a46 h46 => ?_
   exact st_nil ⟨h46.mid (m := [(_, _), (_, _), (_, _), (_, _), (_, _), (_, _), (_, _), (_, _)]) rfl, S44⟩
  case hf =>
   intro gc39
   refine no h37 rfl rfl rfl gc39 rfl rfl fun a47 h47 => ?_
   refine no h47 rfl rfl rfl gc39 rfl rfl fun a48 h48 => ?_
   refine no h48 rfl rfl rfl gc39 rfl rfl fun a49 h49 => ?_
   refine no h49 rfl rfl rfl gc39 rfl rfl fun a50 h50 => ?_
   refine no h50 rfl rfl rfl gc39 rfl rfl fun a51 h51 => ?_
   refine no h51 rfl rfl rfl gc39 rfl rfl fun a52 h52 => ?_
   refine no h52 rfl rfl rfl gc39 rfl rfl fun a53 h53 => ?_
   refine no h53 rfl rfl rfl gc39 rfl rfl fun a54 h54 => ?_
   refine sv h54 (ex_pick_f (h54.ev rfl) gc39 (h54.ev rfl)) fun a55 h55 => ?_
   exact st_nil ⟨h55.mid (m := [(_, _), (_, _), (_, _), (_, _), (_, _), (_, _), (_, _), (_, _)]) rfl, S9⟩
  case h =>
   rintro a56 X56 ⟨h56, S56⟩
   refine ma h56 rfl rfl fun a57 h57 => ?_
   refine ma h57 rfl rfl fun a58 h58 => ?_
   refine st_nil (go_then (wp_ret ?_))
   refine fin2 h58 rfl rfl rfl ?_
   have e : (decide ((q.1 : Int) < (l.length : Int)) && zB l n q.1) = bsB Pgp.g l n ∧ (bsB Pgp.g l n = true → q.1 = bsN Pgp.g l n) := by
    by_cases h6 : 0 ≤ n ∧ n ≤ 600
    · obtain ⟨f1, f2⟩ := hF0.2.2 h6
      obtain ⟨hb1, hb2⟩ := bs_find hs (n := n) (i := q.1) (by have := hF0.2.1; omega) f1 (fun hk => f2 q.1 hk (by omega))
      refine ⟨?_, fun _ => hb1.symm⟩
      unfold bsB
      rw [hb2]
      by_cases h : q.1 < l.length
      · rw [decide_eq_true (by omega), dif_pos h, Bool.true_and]
        unfold zB
        rw [List.getElem?_eq_getElem h]
        have hw1 := (wsub (hk _ (List.getElem_mem h)) hn).1
        by_cases he : l[q.1].g = n
        · rw [if_pos he]; simp only []; rw [hw1.2 he]; rfl
        · rw [if_neg he]; simp only []; rw [beq_eq_false_iff_ne.2 (fun e => he (hw1.1 e))]; rfl
      · rw [dif_neg h, decide_eq_false (by omega)]; rfl
    · have hb : bsB Pgp.g l n = false := by
       unfold bsB
       rw [fndK_none_of l n (fun x hx he => h6 (by rw [← he]; exact hk x hx))]; rfl
      refine ⟨?_, fun h => by rw [hb] at h; cases h⟩
      rw [hb]
      unfold zB
      by_cases h : q.1 < l.length
      · rw [List.getElem?_eq_getElem h]
        have hw1 := (wsub (hk _ (List.getElem_mem h)) hn).1
        simp only []
        rw [beq_eq_false_iff_ne.2 (fun e => h6 (by rw [← hw1.1 e]; exact hk _ (List.getElem_mem h)))]
        simp
      · rw [List.getElem?_eq_none (by omega)]; simp
   exact ⟨q.1, by rw [← e.1], e.2, S56.below⟩
def fndB (A : Option Addr) (l : List Pgp) (n : Int) : Option Addr := if bsB Pgp.g l n = true then A.map (fun a => ⟨a.block, a.off + bsN Pgp.g l n * 3, none⟩) else none
theorem at_any (l : List Pgp) (hs : SrtK Pgp.g l) (hk : ∀ x ∈ l, 0 ≤ x.g ∧ x.g ≤ 600) (A : Option Addr) (c : Nat) (n : Int) (hn : I6 n) (w : World) (hr : Rd w w.heap.size A (l.flatMap pgpL)) (hlen : l.length ≤ 1000) :
 Calls Tryz.prog 95 #[.slice A l.length c, .int .i64 n] w fun e w' => e = .returned (.pointer (fndB A l n)) ∧ Below w.heap.size w w' := by
 refine st_enter (N := 18) Tryz.func95 rfl rfl rfl (fun a0 h0 => ?_)
 have S0 := St.init w
 refine st_seq (st_reg ?_)
 refine ma h0 rfl rfl fun a1 h1 => ?_
 refine nsr ?_
 refine mv h1 rfl rfl fun a2 h2 => ?_
 refine mv h2 rfl rfl fun a3 h3 => ?_
 refine sl_exi h3 (wn rfl) (ex_call (fun _ _ => by kernel_rfl) (h3.evs rfl) rfl) rfl rfl S0 (bsP_any l hs hk A c n hn _ (S0.rd0 hr) hlen) fun p10 a4 X4 h4 hF10 S4 => ?_
 refine mv h4 rfl rfl fun a5 h5 => ?_
 refine vx h5 rfl rfl rfl fun a6 h6 => ?_
 refine vx h6 rfl rfl rfl fun a7 h7 => ?_
 refine ma h7 rfl rfl fun a8 h8 => ?_
 refine ma h8 rfl rfl fun a9 h9 => ?_
 refine st_nil (go_then (st_seq (st_seq (st_reg ?_))))
 refine mv h9 rfl rfl fun a10 h10 => ?_
 refine sv h10 (ex_not (h10.ev rfl)) fun a11 h11 => ?_
 refine st_nil (go_then ?_)
 refine st_if (h11.ev rfl) (fun hc0 => ?_) (fun hc0 => ?_)
 ·
  have hb : bsB Pgp.g l n = false := by simpa using hc0
  refine st_seq (st_reg ?_)
  refine ma h11 rfl rfl fun a12 h12 => ?_
  refine st_nil (go_then (wp_ret (ret_then ?_)))
  refine fin1 h12 rfl rfl ?_
  exact ⟨by unfold fndB; rw [hb]; rfl, S4.below⟩
 ·
  have hb : bsB Pgp.g l n = true := by simpa using hc0
  have hi := hF10 hb
  obtain ⟨hkk, _, _⟩ := bs_some hs hb
  rw [hi] at h11
  obtain ⟨b, o, rfl, hB, _⟩ := hr.opened (flat_pos pgpL_len (by decide) (by omega))
  refine wp_skip (go_then (st_seq (st_reg ?_)))
  refine mv h11 rfl rfl fun a13 h13 => ?_
  refine mv h13 rfl rfl fun a14 h14 => ?_
  refine sv h14 (ex_index (i := bsN Pgp.g l n) (sz := 3) Tryz.underlying151 (by kernel_rfl) (h14.ev rfl) (h14.ev rfl) (by omega) (by omega) rfl) fun a15 h15 => ?_
  refine ma h15 rfl rfl fun a16 h16 => ?_
  refine st_nil (go_then (wp_ret ?_))
  refine fin1 h16 rfl rfl ?_
  exact ⟨by unfold fndB; rw [if_pos hb]; rfl, S4.below⟩
theorem fndB_get {l : List Pgp} (hs : SrtK Pgp.g l) {A : Option Addr} {n : Int} {w : World} {B : Nat} (hr : Rd w B A (l.flatMap pgpL)) (h : (fndB A l n).isNone = false) : ∃ b o, A = some ⟨b, o, none⟩ ∧ ∃ hk : bsN Pgp.g l n < l.length, l[bsN Pgp.g l n].g = n ∧ fndP l n = some l[bsN Pgp.g l n] ∧ fndB A l n = some ⟨b, o + bsN Pgp.g l n * 3, none⟩ := by
 have hb : bsB Pgp.g l n = true := by
  unfold fndB at h
  split at h
  · assumption
  · cases h
 obtain ⟨hk, h1, h2⟩ := bs_some hs hb
 obtain ⟨b, o, rfl, _⟩ := hr.opened (flat_pos pgpL_len (by decide) (by omega))
 exact ⟨b, o, rfl, hk, h1, h2, by unfold fndB; rw [if_pos hb]; rfl⟩
theorem fndB_not {l : List Pgp} {A : Option Addr} {n : Int} {w : World} {B : Nat} (hr : Rd w B A (l.flatMap pgpL)) (h : (fndB A l n).isNone = true) : fndP l n = none := by
 rcases Nat.eq_zero_or_pos l.length with h0 | h0
 · rw [List.eq_nil_of_length_eq_zero h0]; rfl
 · obtain ⟨b, o, rfl, _⟩ := hr.opened (flat_pos pgpL_len (by decide) h0)
   unfold fndB at h
   split at h
   · cases h
   · rename_i hb
     unfold bsB at hb
     rwa [Bool.not_eq_true, Option.isSome_eq_false_iff, Option.isNone_iff_eq_none] at hb
def bfPB (l : List Pgp) (i : Nat) : Bool := match bfrL l i with
 | none => true
 | some y => match l[i]? with | none => true | some x => decide (y.g < x.g)
theorem perr1_any (p : List Pgp) (A : Option Addr) (c i b : Nat) (T : TypeId) (w : World) (hbx : Box w b #[.slice A p.length c] T) (hr : Rd w w.heap.size A (p.flatMap pgpL)) (hi : i < p.length) (hl : p.length ≤ 100) :
 Calls Tryz.prog 201 #[.int .i64 i, pgpV p[i], .pointer (some ⟨b, 0, none⟩)] w fun e w' => e = .returned (.int .i64 (pgpE (bfrL p i) p[i])) ∧ Below w.heap.size w w' := by
 obtain ⟨b', o', rfl, _⟩ := hr.opened (flat_pos pgpL_len (by decide) (by omega))
 refine st_enter (N := 32) Tryz.func201 rfl rfl rfl (fun a0 h0 => ?_)
 have S0 := St.init w
 refine st_seq (st_reg ?_)
 refine nb h0 rfl rfl S0 fun b4 a1 X1 gb4 h1 S1 => ?_
 refine ma h1 rfl rfl fun a2 h2 => ?_
 refine st_nil (go_then (st_seq ?_))
 apply dr_flow h2 [false, false, false, false, false, false, false, false, false, false, false, false, false, false, false, false, false, false, false, false, false, false, false] _ (by kernel_rfl)
 case h =>
  refine qv h2 (fun X hX => ex_field (off := 0) (j := 0) (by kernel_rfl) (h2.ev rfl) rfl) fun a3 h3 => ?_
  refine qv h3 (fun X hX => ex_load (by kernel_rfl) (h3.ev rfl) ((S1.grow hX).cell (i := 0) rfl rfl)) fun a4 h4 => ?_
  refine sq_pure h4 (wn rfl) rfl rfl (fun X => (ex_call (fun _ _ => by kernel_rfl) (h4.evs rfl) rfl)) (fun X hX => recovery_within_any _ _ _ _) fun a5 h5 => ?_
  refine sq_pure h5 (wn rfl) rfl rfl (fun X => (ex_call (fun _ _ => by kernel_rfl) (h5.evs rfl) rfl)) (fun X hX => recovery_unless_any _ _ _) fun a6 h6 => ?_
  refine qv h6 (fun X hX => ex_move (h6.ev rfl)) fun a7 h7 => ?_
  refine qv h7 (fun X hX => ex_eql (h7.ev rfl) (h7.ev rfl)) fun a8 h8 => ?_
  refine qv h8 (fun X hX => ex_move (h8.ev rfl)) fun a9 h9 => ?_
  apply sq_or (x := bfPB p i) h9 12 rfl 11 23
  case hf =>
   intro gc12
   have hi0 : i ≠ 0 := by simp only [beq_eq_false_iff_ne] at gc12; omega
   have hi1 : i - 1 < p.length := by omega
   have hbf : bfrL p i = some p[i - 1] := by unfold bfrL; rw [if_neg hi0, List.getElem?_eq_getElem hi1]
   refine sq_val h9 (wanted_yes h9 _ rfl rfl rfl gc12) rfl rfl (fun X hX => (ex_load (by kernel_rfl) (h9.ev rfl) (Box.cells (hbx.below (S1.grow hX).below) 0))) fun a10 h10 => ?_
   refine sq_val h10 (wanted_yes h10 _ rfl rfl rfl gc12) rfl rfl (fun X hX => (ex_move (h10.ev rfl))) fun a11 h11 => ?_
   refine sq_val h11 (wanted_yes h11 _ rfl rfl rfl gc12) rfl rfl (fun X hX => (ex_sub (h11.ev rfl) (h11.ev rfl) (by omega))) fun a12 h12 => ?_
   refine sq_val h12 (wanted_yes h12 _ rfl rfl rfl gc12) rfl rfl (fun X hX => (ex_max (by kernel_rfl) (h12.ev rfl) (h12.ev rfl))) fun a13 h13 => ?_
   refine sq_val h13 (wanted_yes h13 _ rfl rfl rfl gc12) rfl rfl (fun X hX => (ex_index (i := i - 1) (sz := 3) Tryz.underlying151 (by kernel_rfl) (h13.ev rfl) (h13.ev rfl) (by omega) (by omega) rfl)) fun a14 h14 => ?_
   refine sq_val h14 (wanted_yes h14 _ rfl rfl rfl gc12) rfl rfl (fun X hX => (ex_field (off := 0) (by kernel_rfl) (h14.ev rfl) rfl)) fun a15 h15 => ?_
   refine sq_val h15 (wanted_yes h15 _ rfl rfl rfl gc12) rfl rfl (fun X hX => (ex_load (by kernel_rfl) (h15.ev rfl) ((flatAt pgpL_len ((S1.grow hX).rd0 hr) hi1) 0 _ rfl))) fun a16 h16 => ?_
   refine sq_val h16 (wanted_yes h16 _ rfl rfl rfl gc12) rfl rfl (fun X hX => (ex_field (off := 0) (j := 0) (by kernel_rfl) (h16.ev rfl) rfl)) fun a17 h17 => ?_
   refine sq_val h17 (wanted_yes h17 _ rfl rfl rfl gc12) rfl rfl (fun X hX => (ex_load (by kernel_rfl) (h17.ev rfl) ((S1.grow hX).cell (i := 0) rfl rfl))) fun a18 h18 => ?_
   refine sq_val h18 (wanted_yes h18 _ rfl rfl rfl gc12) rfl rfl (fun X hX => (as_val (v' := .bool (bfPB p i)) (congrArg Value.bool (by unfold bfPB; rw [hbf, List.getElem?_eq_getElem hi])) (ex_lss (h18.ev rfl) (h18.ev rfl)))) fun a19 h19 => ?_
   refine qv h19 (fun X hX => ex_pick_f (h19.ev rfl) gc12 (h19.ev rfl)) fun a20 h20 => ?_
   exact sq_nil (h20.mid (m := [(_, _), (_, _), (_, _), (_, _), (_, _), (_, _), (_, _), (_, _), (_, _), (_, _)]) rfl)
  case ht =>
   intro gc12
   refine qo h9 rfl rfl rfl gc12 rfl rfl fun a21 h21 => ?_
   refine qo h21 rfl rfl rfl gc12 rfl rfl fun a22 h22 => ?_
   refine qo h22 rfl rfl rfl gc12 rfl rfl fun a23 h23 => ?_
   refine qo h23 rfl rfl rfl gc12 rfl rfl fun a24 h24 => ?_
   refine qo h24 rfl rfl rfl gc12 rfl rfl fun a25 h25 => ?_
   refine qo h25 rfl rfl rfl gc12 rfl rfl fun a26 h26 => ?_
   refine qo h26 rfl rfl rfl gc12 rfl rfl fun a27 h27 => ?_
   refine qo h27 rfl rfl rfl gc12 rfl rfl fun a28 h28 => ?_
   refine qo h28 rfl rfl rfl gc12 rfl rfl fun a29 h29 => ?_
   refine qo h29 rfl rfl rfl gc12 rfl rfl fun a30 h30 => ?_
   refine qv h30 (fun X hX => ex_pick_t (h30.ev rfl) gc12 (h30.ev rfl)) fun a31 h31 => ?_
   exact sq_nil (h31.mid (m := [(_, _), (_, _), (_, _), (_, _), (_, _), (_, _), (_, _), (_, _), (_, _), (_, _)]) rfl)
  case h =>
   intro a32 h32
   refine sq_pure h32 (wn rfl) rfl rfl (fun X => (ex_call (fun _ _ => by kernel_rfl) (h32.evs rfl) rfl)) (fun X hX => recovery_unless_any _ _ _) fun a33 h33 => ?_
   refine qv h33 (fun X hX => ex_field (off := 2) (j := 2) (by kernel_rfl) (h33.ev rfl) rfl) fun a34 h34 => ?_
   refine qv h34 (fun X hX => ex_load (by kernel_rfl) (h34.ev rfl) ((S1.grow hX).cell (i := 0) rfl rfl)) fun a35 h35 => ?_
   refine qv h35 (fun X hX => ex_slen Tryz.underlying9 (h35.ev rfl)) fun a36 h36 => ?_
   refine qv h36 (fun X hX => ex_eql (h36.ev rfl) (h36.ev rfl)) fun a37 h37 => ?_
   refine sq_nil ?_
   refine nd_end fun X38 hX38 hΦ38 => ?_
   have S38 := S1.grow hX38
   refine sl_pure h37 (wn rfl) (ex_call (fun _ _ => by kernel_rfl) (h37.evs rfl) rfl) rfl rfl (recovery_unless_any _ _ _) fun a39 h39 => ?_
   refine sl_new h39 (wn rfl) (f := fun b => .slice (some ⟨b, 0, none⟩) 3 3) (ex_bslice Tryz.underlying214 (by kernel_rfl) (by kernel_rfl) (h39.evs2 rfl) rfl rfl rfl (by decide) (by decide)) rfl rfl S38 fun b30 a40 X40 gb30 h40 S40 => ?_
   refine sl_pure h40 (wn rfl) (ex_call (fun _ _ => by kernel_rfl) (h40.evs rfl) rfl) rfl rfl (recovery_first3 (S40.at_ (i := 0) rfl)) fun a41 h41 => ?_
   refine ma h41 rfl rfl fun a42 h42 => ?_
   refine st_nil (go_then (wp_ret ?_))
   refine fin1 h42 rfl rfl ?_
   refine ⟨?_, S40.below⟩
   have e : ((i : Int) == 0 || bfPB p i) = bfPB p i := by
    rcases Nat.eq_zero_or_pos i with h0 | h0
    · subst h0; rfl
    · rw [show ((i : Int) == 0) = false by rw [beq_eq_false_iff_ne]; omega]; rfl
   rw [e]
   have e2 : ((p[i].b.size : Int) == 512) = (p[i].b.size == 512) := by rw [Bool.eq_iff_iff, beq_iff_eq, beq_iff_eq]; omega
   rw [e2]
   unfold pgpE bfPB
   rw [List.getElem?_eq_getElem hi]
   cases bfrL p i <;> rfl
 case hB => kernel_rfl
 case hst => rfl
theorem perr2_any (p : List Pgp) (hs : SrtK Pgp.g p) (hk : ∀ x ∈ p, 0 ≤ x.g ∧ x.g ≤ 600) (A : Option Addr) (c k b : Nat) (T : TypeId) (x : Rcd) (hx : I6 x.e.g) (w : World) (hbx : Box w b #[.slice A p.length c] T) (hr : Rd w w.heap.size A (p.flatMap pgpL)) (hl : p.length ≤ 100) :
 Calls Tryz.prog 202 #[.int .i64 k, rcdV x, .pointer (some ⟨b, 0, none⟩)] w fun e w' => e = .returned (.int .i64 (forE p x)) ∧ Below w.heap.size w w' := by
 refine st_enter (N := 27) Tryz.func202 rfl rfl rfl (fun a0 h0 => ?_)
 have S0 := St.init w
 refine st_seq (st_reg ?_)
 refine nb h0 rfl rfl S0 fun b4 a1 X1 gb4 h1 S1 => ?_
 refine ma h1 rfl rfl fun a2 h2 => ?_
 refine st_nil (go_then (st_seq (st_seq (st_reg ?_))))
 refine vf h2 1 1 rfl rfl rfl fun a3 h3 => ?_
 refine sv (v := entV x.e) h3 (ex_loads (by kernel_rfl) (by kernel_rfl) (h3.ev rfl) (S1.cellsOf (i := 0) rfl 1 13)) fun a4 h4 => ?_
 refine sl_bel h4 (wn rfl) (ex_call (fun _ _ => by kernel_rfl) (h4.evs rfl) rfl) rfl rfl S1 (isop_any _ _) fun a5 X5 h5 S5 => ?_
 refine sv h5 (ex_not (h5.ev rfl)) fun a6 h6 => ?_
 refine st_nil (go_then ?_)
 refine st_if (h6.ev rfl) (fun hc0 => ?_) (fun hc0 => ?_)
 ·
  have h1 : isOpE x.e = false := by simpa using hc0
  refine st_seq (st_reg ?_)
  refine ma h6 rfl rfl fun a7 h7 => ?_
  refine st_nil (go_then (wp_ret (ret_then ?_)))
  refine fin1 h7 rfl rfl ?_
  exact ⟨by unfold forE; rw [h1]; rfl, S5.below⟩
 ·
  have h1 : isOpE x.e = true := by simpa using hc0
  refine wp_skip (go_then (st_seq (st_reg ?_)))
  refine sv h6 (ex_load (by kernel_rfl) (h6.ev rfl) (Box.cells (hbx.below S5.below) 0)) fun a8 h8 => ?_
  refine vf h8 1 1 rfl rfl rfl fun a9 h9 => ?_
  refine vf h9 4 5 rfl rfl rfl fun a10 h10 => ?_
  refine vl h10 S5 0 rfl rfl rfl rfl fun a11 h11 => ?_
  refine sl_bel h11 (wn rfl) (ex_call (fun _ _ => by kernel_rfl) (h11.evs rfl) rfl) rfl rfl S5 (at_any p hs hk A c x.e.g hx _ (S5.rd0 hr) (by omega)) fun a12 X12 h12 S12 => ?_
  refine ma h12 rfl rfl fun a13 h13 => ?_
  refine st_nil (go_then (st_seq (st_seq (st_reg ?_))))
  refine mv h13 rfl rfl fun a14 h14 => ?_
  refine sv h14 (ex_pnil Tryz.underlying168 (by kernel_rfl) (h14.ev rfl) (h14.ev rfl)) fun a15 h15 => ?_
  refine st_nil (go_then ?_)
  refine st_if (h15.ev rfl) (fun hc1 => ?_) (fun hc1 => ?_)
  ·
   have hn := fndB_not hr hc1
   refine st_seq (st_reg ?_)
   refine ma h15 rfl rfl fun a16 h16 => ?_
   refine st_nil (go_then (wp_ret (ret_then ?_)))
   refine fin1 h16 rfl rfl ?_
   exact ⟨by unfold forE; rw [if_pos h1, hn], S12.below⟩
  ·
   obtain ⟨b', o', rfl, qk, q1, q2, q3⟩ := fndB_get hs hr hc1
   refine wp_skip (go_then (st_seq ?_))
   apply dr_flow h15 [false, false, false, false, false, false, false] _ (by kernel_rfl)
   case h =>
    refine qv h15 (fun X hX => as_val (v' := .pointer (some ⟨b', o' + bsN Pgp.g p x.e.g * 3, none⟩)) (congrArg Value.pointer q3) (ex_move (h15.ev rfl))) fun a17 h17 => ?_
    refine qv h17 (fun X hX => ex_nilck (h17.ev rfl)) fun a18 h18 => ?_
    refine qv h18 (fun X hX => ex_field (off := 1) (by kernel_rfl) (h18.ev rfl) rfl) fun a19 h19 => ?_
    refine qv h19 (fun X hX => ex_load (by kernel_rfl) (h19.ev rfl) ((flatAt pgpL_len ((S12.grow hX).rd0 hr) qk) 1 _ rfl)) fun a20 h20 => ?_
    refine qv h20 (fun X hX => ex_field (off := 1) (j := 1) (by kernel_rfl) (h20.ev rfl) rfl) fun a21 h21 => ?_
    refine qv h21 (fun X hX => ex_field (off := 5) (j := 6) (by kernel_rfl) (h21.ev rfl) rfl) fun a22 h22 => ?_
    refine qv h22 (fun X hX => ex_load (by kernel_rfl) (h22.ev rfl) ((S12.grow hX).cell (i := 0) rfl rfl)) fun a23 h23 => ?_
    refine sq_nil ?_
    refine nd_end fun X24 hX24 hΦ24 => ?_
    have S24 := S12.grow hX24
    refine sv h23 (ex_beql Tryz.underlying4 (h23.ev rfl) (h23.ev rfl)) fun a25 h25 => ?_
    refine sl_pure h25 (wn rfl) (ex_call (fun _ _ => by kernel_rfl) (h25.evs rfl) rfl) rfl rfl (recovery_unless_any _ _ _) fun a26 h26 => ?_
    refine ma h26 rfl rfl fun a27 h27 => ?_
    refine st_nil (go_then (wp_ret ?_))
    refine fin1 h27 rfl rfl ?_
    exact ⟨by unfold forE; rw [if_pos h1, q2], S24.below⟩
   case hB => kernel_rfl
   case hst => rfl
theorem err_any (p : List Pgp) (l : List Rcd) (A : Option Addr) (c : Nat) (B : Option Addr) (d : Nat) (w : World) (hr : Rd w w.heap.size A (p.flatMap pgpL)) (hq : Rd w w.heap.size B (l.flatMap rcdL)) (hl : l.length ≤ 1000) (hx : ∀ x ∈ l, I6 x.e.g) :
 Calls Tryz.prog 133 #[.slice A p.length c, .slice B l.length d] w fun e w' => e = .returned (.int .i64 (pgfE l p)) ∧ Below w.heap.size w w' := by
 refine st_enter (N := 26) Tryz.func133 rfl rfl rfl (fun a0 h0 => ?_)
 have S0 := St.init w
 refine st_seq (st_reg ?_)
 refine nb h0 rfl rfl S0 fun b2 a1 X1 gb2 h1 S1 => ?_
 refine ma h1 rfl rfl fun a2 h2 => ?_
 refine st_nil (go_then (st_seq (st_seq (st_reg ?_))))
 refine vl h2 S1 0 rfl rfl rfl rfl fun a3 h3 => ?_
 refine sv h3 (ex_len Tryz.underlying151 (h3.ev rfl)) fun a4 h4 => ?_
 refine sv h4 (ex_gtr (h4.ev rfl) (h4.ev rfl)) fun a5 h5 => ?_
 refine st_nil (go_then ?_)
 refine st_if (h5.ev rfl) (fun hc0 => ?_) (fun hc0 => ?_)
 ·
  have r0 : 40 < p.length := by have := of_decide_eq_true hc0; omega
  have e0 : pgsE1 p = 8 := by unfold pgsE1; rw [if_pos r0]
  refine st_seq (st_reg ?_)
  refine ma h5 rfl rfl fun a6 h6 => ?_
  refine st_nil (go_then (wp_ret (ret_then ?_)))
  refine fin1 h6 rfl rfl ?_
  exact ⟨by unfold pgfE; rw [if_pos (by rw [e0]; decide), e0]; (try rfl), S1.below⟩
 ·
  have r0 : ¬ 40 < p.length := by have := of_decide_eq_false hc0; omega
  have e0 : pgsE1 p = (pgsPE p).2 := by unfold pgsE1; rw [if_neg r0]
  refine wp_skip (go_then (st_seq (st_reg ?_)))
  refine vl h5 S1 0 rfl rfl rfl rfl fun a7 h7 => ?_
  refine sv h7 (ex_func (h7.evs rfl) (h7.evs rfl)) fun a8 h8 => ?_
  refine sl_bel h8 (wn rfl) (ex_call (fun _ _ => by kernel_rfl) (h8.evs rfl) rfl) rfl rfl S1 (eachPgp_any (fun i x => pgpE (bfrL p i) x) p A c 201 [.pointer (some ⟨b2, 0, none⟩)] _ (S1.rd0 hr) (by omega) (fun _ _ => by kernel_rfl) (fun X hX k hk _ => perr1_any p A c k b2 _ X (Box.below (S1.at_ (i := 0) rfl) hX) ((S1.rd0 hr).below' hX) hk (by omega))) fun a9 X9 h9 S9 => ?_
  refine mv h9 rfl rfl fun a10 h10 => ?_
  refine vx h10 rfl rfl rfl fun a11 h11 => ?_
  refine vx h11 rfl rfl rfl fun a12 h12 => ?_
  refine ma h12 rfl rfl fun a13 h13 => ?_
  refine ma h13 rfl rfl fun a14 h14 => ?_
  refine st_nil (go_then (st_seq (st_seq (st_reg ?_))))
  refine mv h14 rfl rfl fun a15 h15 => ?_
  refine sv h15 (ex_neq (h15.ev rfl) (h15.ev rfl)) fun a16 h16 => ?_
  refine st_nil (go_then ?_)
  refine st_if (h16.ev rfl) (fun hc1 => ?_) (fun hc1 => ?_)
  ·
   have r1 : pgsE1 p ≠ 0 := by rw [e0]; unfold pgsPE; simpa using hc1
   refine st_seq (st_reg ?_)
   refine mv h16 rfl rfl fun a17 h17 => ?_
   refine ma h17 rfl rfl fun a18 h18 => ?_
   refine st_nil (go_then (wp_ret (ret_then ?_)))
   refine fin1 h18 rfl rfl ?_
   exact ⟨by unfold pgfE; rw [if_pos r1, e0]; (try rfl), S9.below⟩
  ·
   have r1 : pgsE1 p = 0 := by rw [e0]; unfold pgsPE; simpa using hc1
   have hok := pgsE1_zero.1 r1
   have hkk : ∀ x ∈ p, 0 ≤ x.g ∧ x.g ≤ 600 := fun x hx => by
    obtain ⟨k, hk, rfl⟩ := List.getElem_of_mem hx
    exact (hok.all k hk).g
   refine wp_skip (go_then (st_seq (st_reg ?_)))
   refine mv h16 rfl rfl fun a19 h19 => ?_
   refine sv h19 (ex_func (h19.evs rfl) (h19.evs rfl)) fun a20 h20 => ?_
   refine sl_bel h20 (wn rfl) (ex_call (fun _ _ => by kernel_rfl) (h20.evs rfl) rfl) rfl rfl S9 (eachRcd_any (fun _ x => forE p x) l B d 202 [.pointer (some ⟨b2, 0, none⟩)] _ (S9.rd0 hq) hl (fun _ _ => by kernel_rfl) (fun X hX k hk _ => perr2_any p hok.srt hkk A c k b2 _ l[k] (hx _ (List.getElem_mem hk)) X (Box.below (S9.at_ (i := 0) rfl) hX) ((S9.rd0 hr).below' hX) (by omega))) fun a21 X21 h21 S21 => ?_
   refine mv h21 rfl rfl fun a22 h22 => ?_
   refine vx h22 rfl rfl rfl fun a23 h23 => ?_
   refine vx h23 rfl rfl rfl fun a24 h24 => ?_
   refine ma h24 rfl rfl fun a25 h25 => ?_
   refine nsr ?_
   refine mv h25 rfl rfl fun a26 h26 => ?_
   refine ma h26 rfl rfl fun a27 h27 => ?_
   refine st_nil (go_then (wp_ret ?_))
   refine fin1 h27 rfl rfl ?_
   exact ⟨by unfold pgfE; rw [if_neg (fun h => h r1)]; (try rfl), S21.below⟩
theorem validPages_any (p : List Pgp) (l : List Rcd) (A : Option Addr) (c : Nat) (B : Option Addr) (d : Nat) (w : World) (hr : Rd w w.heap.size A (p.flatMap pgpL)) (hq : Rd w w.heap.size B (l.flatMap rcdL)) (hl : l.length ≤ 1000) (hx : ∀ x ∈ l, I6 x.e.g) :
 Calls Tryz.prog 81 #[.slice B l.length d, .slice A p.length c] w fun e w' => e = .returned (.int .i64 (pgfE l p)) ∧ Below w.heap.size w w' := by
 refine st_enter (N := 8) Tryz.func81 rfl rfl rfl (fun a0 h0 => ?_)
 have S0 := St.init w
 refine st_seq (st_reg ?_)
 refine ma h0 rfl rfl fun a1 h1 => ?_
 refine nsr ?_
 refine mv h1 rfl rfl fun a2 h2 => ?_
 refine mv h2 rfl rfl fun a3 h3 => ?_
 refine sl_bel h3 (wn rfl) (ex_call (fun _ _ => by kernel_rfl) (h3.evs rfl) rfl) rfl rfl S0 (err_any p l A c B d _ (S0.rd0 hr) (S0.rd0 hq) hl hx) fun a4 X4 h4 S4 => ?_
 refine ma h4 rfl rfl fun a5 h5 => ?_
 refine st_nil (go_then (wp_ret ?_))
 refine fin1 h5 rfl rfl ?_
 exact ⟨rfl, S4.below⟩
end Go.Proofs.YtcfdpfmchchkaaaGreatDoor
namespace Go.Proofs.YtcfdpfmchchkaaaGreatDoor
set_option linter.unusedVariables false
set_option linter.unusedSimpArgs false
open Go.RowKit Go.Sort
theorem first2_z {a b : Int} : firstE [a, b] = 0 ↔ a = 0 ∧ b = 0 := by
 simp only [firstE]
 by_cases h : a = 0 <;> by_cases h' : b = 0 <;> simp [h, h']
theorem retSBI {k : IntKind} {a b : ByteArray} {c d : Bool} {e f : Int} (h : a = b) (h' : c = d) (h'' : e = f) : Ending.returned (.tuple #[.string a, .bool c, .int k e]) = .returned (.tuple #[.string b, .bool d, .int k f]) := by rw [h, h', h'']
theorem redo_bad {p : ByteArray} {plain : Bool} {n : Int} {x : Op} {er : Int} (h : firstE [pageE p, lsnE n, opE x] = er) (h0 : er ≠ 0) : redo p plain n x = (⟨#[]⟩, false, er) := by
 unfold redo
 have e : firstE [pageE p, lsnE' n, opE x] = er := h
 rw [e, if_pos h0]
set_option maxRecDepth 100000 in
set_option maxHeartbeats 2000000 in
theorem Redone_any (p : ByteArray) (plain : Bool) (n : Int) (x : Op) (w : World) (hp : p.size ≤ maxLen) (ho : x.o.size ≤ 3100) (hn : x.n.size ≤ 3100) :
 Calls Tryz.prog 134 #[.string p, .bool plain, .int .i64 n, opV x] w fun r w' => r = .returned (.tuple #[.string (redo p plain n x).1, .bool (redo p plain n x).2.1, .int .i64 (redo p plain n x).2.2]) ∧ Below w.heap.size w w' := by
 have hE := fun W => CheckOp_any x W ho hn
 have HP := Lib.hid (fun W => pageErr_any p W hp)
 have HN := Lib.hid (fun W => numberErr_any n W)
 by_cases h0 : firstE [pageE p, lsnE n, opE x] = 0
 · have hz := (firstE_zero _).1 h0
   have z1 : pageE p = 0 := hz _ (by simp)
   have z2 : lsnE n = 0 := hz _ (by simp)
   have z3 : opE x = 0 := hz _ (by simp)
   have hps := pageE_zero.1 z1
   have hok := (opE_iff x).1 z3
   have hin : inB n 1 2147483647 = true := (unl_zero (by decide)).1 z2
   have hin' := inB_true.1 hin
   have hval := redo_val (plain := plain) hps hin z3
   have hA := fun W => apply_any p x W hps hok
   have hL := fun W => lsnOf_any p W hps
   have hWL := fun W => withLSN_any (opDo p x) n W (opDo_size hps hok) (by omega) (by omega)
   have h1 : (firstE [pageE p, lsnE n, opE x] != 0) = false := by rw [h0]; rfl
   obtain ⟨q, hq⟩ : ∃ q, q = opDo p x := ⟨_, rfl⟩
   obtain ⟨f, hf⟩ : ∃ f, f = opFit p x := ⟨_, rfl⟩
   obtain ⟨m, hm⟩ : ∃ m, m = lsnL p := ⟨_, rfl⟩
   have hm' : lsnP p = m := hm.symm
   have hwl : lsnW q n = wLsn q n := rfl
   rw [hm', ← hq, ← hf, hwl] at hval
   rw [← hq, ← hf] at hA
   rw [← hm] at hL
   rw [← hq] at hWL
   rw [hval]
   obtain ⟨e1, he1⟩ : ∃ e, e = pageE p := ⟨_, rfl⟩
   obtain ⟨e2, he2⟩ : ∃ e, e = lsnE n := ⟨_, rfl⟩
   obtain ⟨e3, he3⟩ : ∃ e, e = opE x := ⟨_, rfl⟩
   have hP := HP.out
   have hN := HN.out
   rw [← he1] at hP h1
   rw [← he2] at hN h1
   rw [← he3] at hE h1
   have HE := Lib.hid hE
   have HP := Lib.hid hP
   have HN := Lib.hid hN
   have HA := Lib.hid hA
   have HL := Lib.hid hL
   have HWL := Lib.hid hWL
   clear hE hP hN hA hL hWL h0 hz z1 z2 z3 hps hok hin hin' hval hq hf hm hm' hwl he1 he2 he3
   unfold opV at *
   cases plain
   · by_cases hle : n ≤ m
     · go_enter Tryz.func134, Tryz.ntmps134
       go_wp2_with fail
       (refine wp_region_btail 6 (by kernel_rfl) (by kernel_rfl) ?_; simp only [List.take_succ_cons, List.take_zero, List.drop_succ_cons, List.drop_zero]; (repeat (go_big_quiet_step ((first | (go_at_call 150; exact Calls.reg_pure (HP.out _)) | (go_at_call 203; exact Calls.reg_pure (HN.out _)) | (go_at_call 144; (with_reducible exact Calls.regrown_of (HE.out _))))))); (with_reducible refine wpQuiet_nil ?_); intro W1 hreg; have hbW1 := below_of_reg hreg; clear hreg; obtain ⟨hcW1, hfW1⟩ := bcell hbW1)
       have hsW1 : w.heap.size < W1.heap.size := by have h := hbW1.size; simp at h; omega
       go_wp2_with (first | (go_at_call 143; refine (logop_first_list [_, _, _] W1 (by simp)).mono ?_; rintro e w' ⟨rfl, rfl⟩) | (go_at_call 204; (with_reducible refine (HL.out _).mono ?_); rintro e W2 ⟨rfl, hbW2⟩; obtain ⟨hcW2, hfW2⟩ := bcell hbW2))
       go_ret3
       exact ⟨retSBI rfl rfl rfl, by (repeat (first | assumption | exact Below.refl _ _ | refine bel_drewN ?_ _ | refine bel_alloc ?_ _ | refine bel_trans ?_ (by assumption) | refine Below.trans ?_ (by assumption)))⟩
     · cases f
       all_goals
        go_enter Tryz.func134, Tryz.ntmps134
        go_wp2_with fail
        (refine wp_region_btail 6 (by kernel_rfl) (by kernel_rfl) ?_; simp only [List.take_succ_cons, List.take_zero, List.drop_succ_cons, List.drop_zero]; (repeat (go_big_quiet_step ((first | (go_at_call 150; exact Calls.reg_pure (HP.out _)) | (go_at_call 203; exact Calls.reg_pure (HN.out _)) | (go_at_call 144; (with_reducible exact Calls.regrown_of (HE.out _))))))); (with_reducible refine wpQuiet_nil ?_); intro W1 hreg; have hbW1 := below_of_reg hreg; clear hreg; obtain ⟨hcW1, hfW1⟩ := bcell hbW1)
        have hsW1 : w.heap.size < W1.heap.size := by have h := hbW1.size; simp at h; omega
        go_wp2_with (first | (go_at_call 143; refine (logop_first_list [_, _, _] W1 (by simp)).mono ?_; rintro e w' ⟨rfl, rfl⟩) | ((go_at_call 204; (with_reducible refine (HL.out _).mono ?_); rintro e W2 ⟨rfl, hbW2⟩; obtain ⟨hcW2, hfW2⟩ := bcell hbW2); have hsW2 : w.heap.size < W2.heap.size := (by have h := hbW2.size; (try simp at h); omega)) | (go_at_call 205; (with_reducible refine (HA.out _).mono ?_); rintro e W3 ⟨rfl, hbW3⟩; obtain ⟨hcW3, hfW3⟩ := bcell hbW3) | (go_at_call 153; (with_reducible refine (HWL.out _).mono ?_); rintro e W4 ⟨rfl, hbW4⟩; obtain ⟨hcW4, hfW4⟩ := bcell hbW4))
        go_ret3
        exact ⟨retSBI rfl rfl rfl, by (repeat (first | assumption | exact Below.refl _ _ | refine bel_drewN ?_ _ | refine bel_alloc ?_ _ | refine bel_trans ?_ (by assumption) | refine Below.trans ?_ (by assumption)))⟩
   · obtain ⟨d, hd⟩ : ∃ d, d = (!(bl q == bl p)) := ⟨_, rfl⟩
     rw [← hd, if_pos rfl]
     have HD := Lib.hid hd
     clear hd
     by_cases hk : x.k = 2 ∨ x.k = 3
     · rw [if_pos hk]
       cases hk2 : (x.k == 2)
       · have hk3 : (x.k == 3) = true := by
          rcases hk with h | h
          · rw [h] at hk2; cases hk2
          · rw [h]; rfl
         clear hk
         go_enter Tryz.func134, Tryz.ntmps134
         go_wp2_with fail
         (refine wp_region_btail 6 (by kernel_rfl) (by kernel_rfl) ?_; simp only [List.take_succ_cons, List.take_zero, List.drop_succ_cons, List.drop_zero]; (repeat (go_big_quiet_step ((first | (go_at_call 150; exact Calls.reg_pure (HP.out _)) | (go_at_call 203; exact Calls.reg_pure (HN.out _)) | (go_at_call 144; (with_reducible exact Calls.regrown_of (HE.out _))))))); (with_reducible refine wpQuiet_nil ?_); intro W1 hreg; have hbW1 := below_of_reg hreg; clear hreg; obtain ⟨hcW1, hfW1⟩ := bcell hbW1)
         have hsW1 : w.heap.size < W1.heap.size := by have h := hbW1.size; simp at h; omega
         go_wp2_with (first | (go_at_call 143; refine (logop_first_list [_, _, _] W1 (by simp)).mono ?_; rintro e w' ⟨rfl, rfl⟩) | (go_at_call 205; (with_reducible refine (HA.out _).mono ?_); rintro e W3 ⟨rfl, hbW3⟩; obtain ⟨hcW3, hfW3⟩ := bcell hbW3))
         go_ret3
         exact ⟨retSBI rfl rfl rfl, by (repeat (first | assumption | exact Below.refl _ _ | refine bel_drewN ?_ _ | refine bel_alloc ?_ _ | refine bel_trans ?_ (by assumption) | refine Below.trans ?_ (by assumption)))⟩
       · clear hk
         go_enter Tryz.func134, Tryz.ntmps134
         go_wp2_with fail
         (refine wp_region_btail 6 (by kernel_rfl) (by kernel_rfl) ?_; simp only [List.take_succ_cons, List.take_zero, List.drop_succ_cons, List.drop_zero]; (repeat (go_big_quiet_step ((first | (go_at_call 150; exact Calls.reg_pure (HP.out _)) | (go_at_call 203; exact Calls.reg_pure (HN.out _)) | (go_at_call 144; (with_reducible exact Calls.regrown_of (HE.out _))))))); (with_reducible refine wpQuiet_nil ?_); intro W1 hreg; have hbW1 := below_of_reg hreg; clear hreg; obtain ⟨hcW1, hfW1⟩ := bcell hbW1)
         have hsW1 : w.heap.size < W1.heap.size := by have h := hbW1.size; simp at h; omega
         go_wp2_with (first | (go_at_call 143; refine (logop_first_list [_, _, _] W1 (by simp)).mono ?_; rintro e w' ⟨rfl, rfl⟩) | (go_at_call 205; (with_reducible refine (HA.out _).mono ?_); rintro e W3 ⟨rfl, hbW3⟩; obtain ⟨hcW3, hfW3⟩ := bcell hbW3))
         go_ret3
         exact ⟨retSBI rfl rfl rfl, by (repeat (first | assumption | exact Below.refl _ _ | refine bel_drewN ?_ _ | refine bel_alloc ?_ _ | refine bel_trans ?_ (by assumption) | refine Below.trans ?_ (by assumption)))⟩
     · rw [if_neg hk]
       have hk2 : (x.k == 2) = false := by rw [beq_eq_false_iff_ne]; exact fun h => hk (.inl h)
       have hk3 : (x.k == 3) = false := by rw [beq_eq_false_iff_ne]; exact fun h => hk (.inr h)
       clear hk
       go_enter Tryz.func134, Tryz.ntmps134
       go_wp2_with fail
       (refine wp_region_btail 6 (by kernel_rfl) (by kernel_rfl) ?_; simp only [List.take_succ_cons, List.take_zero, List.drop_succ_cons, List.drop_zero]; (repeat (go_big_quiet_step ((first | (go_at_call 150; exact Calls.reg_pure (HP.out _)) | (go_at_call 203; exact Calls.reg_pure (HN.out _)) | (go_at_call 144; (with_reducible exact Calls.regrown_of (HE.out _))))))); (with_reducible refine wpQuiet_nil ?_); intro W1 hreg; have hbW1 := below_of_reg hreg; clear hreg; obtain ⟨hcW1, hfW1⟩ := bcell hbW1)
       have hsW1 : w.heap.size < W1.heap.size := by have h := hbW1.size; simp at h; omega
       go_wp2_with (first | (go_at_call 143; refine (logop_first_list [_, _, _] W1 (by simp)).mono ?_; rintro e w' ⟨rfl, rfl⟩) | (go_at_call 205; (with_reducible refine (HA.out _).mono ?_); rintro e W3 ⟨rfl, hbW3⟩; obtain ⟨hcW3, hfW3⟩ := bcell hbW3))
       go_ret3
       exact ⟨retSBI rfl (by rw [HD.out, ← toList_eq, ← toList_eq]) rfl, by (repeat (first | assumption | exact Below.refl _ _ | refine bel_drewN ?_ _ | refine bel_alloc ?_ _ | refine bel_trans ?_ (by assumption) | refine Below.trans ?_ (by assumption)))⟩
 · obtain ⟨er, her⟩ : ∃ e, firstE [pageE p, lsnE n, opE x] = e := ⟨_, rfl⟩
   have hne : er ≠ 0 := fun h => h0 (her.trans h)
   rw [redo_bad her hne]
   obtain ⟨e1, he1⟩ : ∃ e, e = pageE p := ⟨_, rfl⟩
   obtain ⟨e2, he2⟩ : ∃ e, e = lsnE n := ⟨_, rfl⟩
   obtain ⟨e3, he3⟩ : ∃ e, e = opE x := ⟨_, rfl⟩
   have hP := HP.out
   have hN := HN.out
   rw [← he1] at hP her
   rw [← he2] at hN her
   rw [← he3] at hE her
   have h1 : (firstE [e1, e2, e3] != 0) = true := by rw [her]; simp [hne]
   have HE := Lib.hid hE
   have HP := Lib.hid hP
   have HN := Lib.hid hN
   have HER := Lib.hid her
   clear hE hP hN h0 her hne he1 he2 he3
   unfold opV at *
   go_enter Tryz.func134, Tryz.ntmps134
   go_wp2_with fail
   (refine wp_region_btail 6 (by kernel_rfl) (by kernel_rfl) ?_; simp only [List.take_succ_cons, List.take_zero, List.drop_succ_cons, List.drop_zero]; (repeat (go_big_quiet_step ((first | (go_at_call 150; exact Calls.reg_pure (HP.out _)) | (go_at_call 203; exact Calls.reg_pure (HN.out _)) | (go_at_call 144; (with_reducible exact Calls.regrown_of (HE.out _))))))); (with_reducible refine wpQuiet_nil ?_); intro W1 hreg; have hbW1 := below_of_reg hreg; clear hreg; obtain ⟨hcW1, hfW1⟩ := bcell hbW1)
   go_wp2_with (first | (go_at_call 143; refine (logop_first_list [_, _, _] W1 (by simp)).mono ?_; rintro e w' ⟨rfl, rfl⟩))
   go_ret3
   exact ⟨retSBI rfl rfl HER.out, by (repeat (first | assumption | exact Below.refl _ _ | refine bel_drewN ?_ _ | refine bel_alloc ?_ _ | refine bel_trans ?_ (by assumption) | refine Below.trans ?_ (by assumption)))⟩
def wlE (p : ByteArray) (n : Int) : Int := firstE [pageE p, unl (inB n 0 2147483647) 2]
theorem WithLSN_any (p : ByteArray) (n : Int) (w : World) (hp : p.size ≤ maxLen) :
 Calls Tryz.prog 97 #[.string p, .int .i64 n] w fun r w' => r = .returned (.tuple #[.string (if wlE p n = 0 then wLsn p n else ⟨#[]⟩), .int .i64 (wlE p n)]) ∧ Below w.heap.size w w' := by
 have HP := Lib.hid (fun W => pageErr_any p W hp)
 by_cases z1 : wlE p n = 0
 · have hz := first2_z.1 z1
   have hin := inB_true.1 ((unl_zero (by decide)).1 hz.2)
   have hL := fun W => withLSN_any p n W (pageE_zero.1 hz.1) (by omega) (by omega)
   rw [z1, if_pos rfl]
   have h1 : (firstE [pageE p, unl (inB n 0 2147483647) 2] != 0) = false := by
    have : firstE [pageE p, unl (inB n 0 2147483647) 2] = 0 := z1
    rw [this]; rfl
   have HL := Lib.hid hL
   clear hz hin z1 hL
   go_enter Tryz.func97, Tryz.ntmps97
   go_wp2_with (first | (go_at_call 150; (with_reducible refine (HP.out _).mono ?_); rintro e w' ⟨rfl, rfl⟩) | (go_at_call 152; refine (logop_within_any _ _ _ _).mono ?_; rintro e w' ⟨rfl, rfl⟩) | (go_at_call 151; refine (logop_unless_any _ _ _).mono ?_; rintro e w' ⟨rfl, rfl⟩) | (go_at_call 143; refine (logop_first_list [_, _] w (by simp)).mono ?_; rintro e w' ⟨rfl, rfl⟩) | (go_at_call 153; (with_reducible refine (HL.out _).mono ?_); rintro e W1 ⟨rfl, hbW1⟩; obtain ⟨hcW1, hfW1⟩ := bcell hbW1))
   go_ret2
   exact ⟨rfl, by (repeat (first | assumption | exact Below.refl _ _ | refine bel_drewN ?_ _ | refine bel_alloc ?_ _ | refine bel_trans ?_ (by assumption) | refine Below.trans ?_ (by assumption)))⟩
 · rw [if_neg z1]
   have h1 : (firstE [pageE p, unl (inB n 0 2147483647) 2] != 0) = true := by
    rw [bne_iff_ne]; exact z1
   clear z1
   go_enter Tryz.func97, Tryz.ntmps97
   go_wp2_with (first | (go_at_call 150; (with_reducible refine (HP.out _).mono ?_); rintro e w' ⟨rfl, rfl⟩) | (go_at_call 152; refine (logop_within_any _ _ _ _).mono ?_; rintro e w' ⟨rfl, rfl⟩) | (go_at_call 151; refine (logop_unless_any _ _ _).mono ?_; rintro e w' ⟨rfl, rfl⟩) | (go_at_call 143; refine (logop_first_list [_, _] w (by simp)).mono ?_; rintro e w' ⟨rfl, rfl⟩))
   go_ret2
   exact ⟨rfl, by (repeat (first | assumption | exact Below.refl _ _ | refine bel_drewN ?_ _ | refine bel_alloc ?_ _ | refine bel_trans ?_ (by assumption) | refine Below.trans ?_ (by assumption)))⟩
end Go.Proofs.YtcfdpfmchchkaaaGreatDoor
namespace Go.Proofs.YtcfdpfmchchkaaaGreatDoor
set_option linter.unusedVariables false
set_option linter.unusedSimpArgs false
set_option maxRecDepth 4000
open Go.RowKit Go.Sort Go.Shelf
theorem pgpF_len (l : List Pgp) : (l.flatMap pgpL).length = l.length * 3 := by rw [flat_len pgpL_len, Nat.mul_comm]
theorem pgpF_one (l : List Pgp) : ∀ u ∈ l.flatMap pgpL, u.oneCell' = true := fun u hu => by
 obtain ⟨x, _, hx⟩ := List.mem_flatMap.1 hu
 exact pgpL_one x u hx
theorem cloneP_none (A : Option Addr) (c : Nat) (w : World) :
 Calls Tryz.prog 82 #[.slice A 0 c] w fun e w' => ∃ A', e = .returned (.slice A' 0 0) ∧ w'.ownsRow w.heap.size 111 3 (.slice A' 0 0) 0 [] ∧ Below w.heap.size w w' := by
 refine st_enter (N := 8) Tryz.func82 rfl rfl rfl (fun a0 h0 => ?_)
 have S0 := St.init w
 refine st_seq (st_reg ?_)
 refine ma h0 rfl rfl fun a1 h1 => ?_
 refine st_nil (go_then (st_seq (st_seq (st_reg ?_))))
 refine mv h1 rfl rfl fun a2 h2 => ?_
 refine sv h2 (ex_snil Tryz.underlying48 (by kernel_rfl) (h2.ev rfl) (h2.ev rfl)) fun a3 h3 => ?_
 refine st_nil (go_then ?_)
 refine st_if (h3.ev rfl) (fun hc0 => ?_) (fun hc0 => ?_)
 ·
  refine st_seq (st_reg ?_)
  refine ma h3 rfl rfl fun a4 h4 => ?_
  refine st_nil (go_then (wp_ret (ret_then ?_)))
  refine fin1 h4 rfl rfl ?_
  exact ⟨none, rfl, World.ownsRow_nil _ _ _ _, S0.below⟩
 ·
  refine wp_skip (go_then (st_seq (st_reg ?_)))
  refine sl_bslice (zc := [.int .i64 0, .bool false, .string ⟨#[]⟩]) (sz := 3) h3 (wn rfl) ⟨rfl, rfl⟩ rfl Tryz.underlying48 (by kernel_rfl) (by kernel_rfl) rfl rfl rfl (h3.evs2 rfl) rfl rfl rfl S0 fun b5 a5 X5 gb5 h5 S5 => ?_
  refine mv h5 rfl rfl fun a6 h6 => ?_
  refine sl_append0 (sz := 3) h6 (wn rfl) ⟨rfl, rfl⟩ rfl Tryz.underlying48 (by kernel_rfl) (h6.ev rfl) (h6.ev rfl) fun a7 h7 => ?_
  refine ma h7 rfl rfl fun a8 h8 => ?_
  refine st_nil (go_then (wp_ret ?_))
  refine fin1 h8 rfl rfl ?_
  have S9 := S5.toRow (i := 0) (n := 0) (sz := 3) rfl rfl (by decide)
  exact ⟨_, rfl, S9.ownB (i := 0) rfl, S9.below⟩
theorem cloneP_any (l : List Pgp) (A : Option Addr) (c : Nat) (w : World) (hr : Rd w w.heap.size A (l.flatMap pgpL)) (hlen : l.length ≤ 1000) :
 Calls Tryz.prog 82 #[.slice A l.length c] w fun e w' => ∃ A' c', e = .returned (.slice A' l.length c') ∧ w'.ownsRow w.heap.size 111 3 (.slice A' l.length c') l.length (l.flatMap pgpL) ∧ Below w.heap.size w w' := by
 rcases Nat.eq_zero_or_pos l.length with h0 | h0
 · have hnil : l = [] := List.eq_nil_of_length_eq_zero h0
   subst hnil
   exact (cloneP_none A c w).mono fun e w' ⟨A', he, ho, hb⟩ => ⟨A', 0, he, ho, hb⟩
 refine st_enter (N := 8) Tryz.func82 rfl rfl rfl (fun a0 h0 => ?_)
 have S0 := St.init w
 refine st_seq (st_reg ?_)
 refine ma h0 rfl rfl fun a1 h1 => ?_
 refine st_nil (go_then (st_seq (st_seq (st_reg ?_))))
 refine mv h1 rfl rfl fun a2 h2 => ?_
 refine sv h2 (ex_snil Tryz.underlying48 (by kernel_rfl) (h2.ev rfl) (h2.ev rfl)) fun a3 h3 => ?_
 refine st_nil (go_then ?_)
 refine st_if (h3.ev rfl) (fun hc0 => ?_) (fun hc0 => ?_)
 ·
  exfalso
  obtain ⟨b, o, rfl, _⟩ := hr.opened (by rw [pgpF_len]; omega)
  cases hc0
 ·
  refine wp_skip (go_then (st_seq (st_reg ?_)))
  refine sl_bslice (zc := [.int .i64 0, .bool false, .string ⟨#[]⟩]) (sz := 3) h3 (wn rfl) ⟨rfl, rfl⟩ rfl Tryz.underlying48 (by kernel_rfl) (by kernel_rfl) rfl rfl rfl (h3.evs2 rfl) rfl rfl rfl S0 fun b5 a4 X4 gb5 h4 S4 => ?_
  refine mv h4 rfl rfl fun a5 h5 => ?_
  have S6 := S4.toRow (i := 0) (n := 0) (sz := 3) rfl rfl (by decide)
  refine sl_append (z := .agg #[.int .i64 0, .bool false, .string ⟨#[]⟩]) (sz := 3) (bytes := 32) h5 (wn rfl) ⟨rfl, rfl⟩ rfl Tryz.underlying48 (by kernel_rfl) rfl rfl (h5.ev rfl) (h5.ev rfl) S6 (i := 0) rfl (S6.rd0 hr) (pgpF_len l) (pgpF_one l) ⟨(by omega), by decide⟩ fun A7 c7 a7 X7 h7 S7 => ?_
  refine ma h7 rfl rfl fun a8 h8 => ?_
  refine st_nil (go_then (wp_ret ?_))
  refine fin1 h8 rfl rfl ?_
  have q := S7.ownB (i := 0) rfl
  rw [Nat.zero_add] at q
  exact ⟨_, _, by rw [Nat.zero_add], q, S7.below⟩
theorem St.rdBase {M : List Nat} {w X : World} {L : List Ent} {B : Nat} (h : St M w X L) (hM : ∀ b ∈ M, B ≤ b) (hB : B ≤ w.heap.size) {A : Option Addr} {xs : List Value} (hr : Rd w B A xs) : Rd X B A xs := fun j u hj => by
 obtain ⟨b, o, h1, h2, h3⟩ := hr j u hj
 exact ⟨b, o, h1, h2, (World.cell?_of_block (w := w) (a := ⟨b, o + j, none⟩) (h.block b (by omega) (fun hm => by have := hM b hm; omega))).trans h3⟩
theorem redo_size {q : ByteArray} {f : Bool} {n : Int} {x : Op} (hq : q.size = 512) (h : (redo q f n x).2.2 = 0) : (redo q f n x).1.size = 512 := by
 unfold redo at h ⊢
 split at h
 · rename_i h1; exact absurd h h1
 · rename_i h1
   rw [if_neg h1]
   have hz : firstE [pageE q, lsnE' n, opE x] = 0 := by simpa using h1
   rw [firstE_zero] at hz
   have ho := (opE_iff x).1 (hz _ (.tail _ (.tail _ (.head _))))
   split at h
   · rename_i h2
     rw [if_pos h2]
     split at h
     · cases h
     · rename_i h3; rw [if_neg h3]; exact opDo_size hq ho
   · rename_i h2
     rw [if_neg h2]
     split at h
     · rename_i h3; rw [if_pos h3]; exact hq
     · rename_i h3
       rw [if_neg h3]
       split at h
       · rename_i h4; rw [if_pos h4]; exact lsnW_size (opDo_size hq ho)
       · cases h
theorem due_eq (t : Tbl) (x : Rcd) : ((!isOpE x.e || !(fndD t.ds x.e.g).isSome) || decide (x.l < ((fndD t.ds x.e.g).getD ⟨0, false, 0⟩).l)) = !dueB t x := by
 unfold dueB
 cases isOpE x.e with
 | false => rfl
 | true =>
  cases fndD t.ds x.e.g with
  | none => rfl
  | some d =>
   show decide (x.l < d.l) = !decide (d.l ≤ x.l)
   by_cases h : x.l < d.l
   · rw [decide_eq_true h, decide_eq_false (by omega)]; rfl
   · rw [decide_eq_false h, decide_eq_true (by omega)]; rfl
theorem setP_flat {l : List Pgp} (h : SrtK Pgp.g l) {k : Nat} (hk : k < l.length) (s : ByteArray) : (setP l l[k].g s).flatMap pgpL = (l.flatMap pgpL).take (k * 3 + 2) ++ [.string s] ++ (l.flatMap pgpL).drop (k * 3 + 2 + 1) := by
 rw [setP_set h hk]
 have h1 : l = l.take k ++ l[k] :: l.drop (k + 1) := by rw [← List.drop_eq_getElem_cons hk, List.take_append_drop]
 have h2 : (l.set k ⟨l[k].g, l[k].f, s⟩) = l.take k ++ ⟨l[k].g, l[k].f, s⟩ :: l.drop (k + 1) := List.set_eq_take_append_cons_drop .. |>.trans (by rw [if_pos hk])
 have h3 : ((l.take k).flatMap pgpL).length = k * 3 := by rw [pgpF_len, List.length_take]; omega
 have h4 : l.flatMap pgpL = (l.take k).flatMap pgpL ++ ([Value.int .i64 l[k].g, .bool l[k].f] ++ (Value.string l[k].b :: (l.drop (k + 1)).flatMap pgpL)) := by
  conv => lhs; rw [h1]
  rw [List.flatMap_append, List.flatMap_cons]; rfl
 rw [h2, List.flatMap_append, List.flatMap_cons, h4]
 have e1 : ((l.take k).flatMap pgpL ++ ([Value.int .i64 l[k].g, .bool l[k].f] ++ (Value.string l[k].b :: (l.drop (k + 1)).flatMap pgpL))).take (k * 3 + 2) = (l.take k).flatMap pgpL ++ [Value.int .i64 l[k].g, .bool l[k].f] := by
  rw [List.take_append, h3, List.take_of_length_le (by omega)]
  congr 1
  rw [show k * 3 + 2 - k * 3 = 2 by omega]; rfl
 have e2 : ((l.take k).flatMap pgpL ++ ([Value.int .i64 l[k].g, .bool l[k].f] ++ (Value.string l[k].b :: (l.drop (k + 1)).flatMap pgpL))).drop (k * 3 + 2 + 1) = (l.drop (k + 1)).flatMap pgpL := by
  rw [List.drop_append, h3, List.drop_of_length_le (by omega), List.nil_append, show k * 3 + 2 + 1 - k * 3 = 3 by omega]; rfl
 rw [e1, e2, List.append_assoc, List.append_assoc]; rfl
theorem fndB_some {l : List Pgp} {A : Option Addr} {n : Int} {w : World} {B : Nat} (hs : SrtK Pgp.g l) (hr : Rd w B A (l.flatMap pgpL)) {y : Pgp} (h : fndP l n = some y) : (fndB A l n).isNone = false := by
 have hb : bsB Pgp.g l n = true := by unfold bsB; rw [show fndK Pgp.g l n = some y from h]; rfl
 obtain ⟨hk, _, _⟩ := bs_some hs hb
 obtain ⟨b, o, rfl, _⟩ := hr.opened (flat_pos pgpL_len (by decide) (by omega))
 unfold fndB
 rw [if_pos hb]; rfl
theorem own_off {w : World} {base sz n c b o : Nat} {T : TypeId} {xs : List Value} (h : w.ownsRow base T sz (.slice (some ⟨b, o, none⟩) n c) n xs) : o = 0 := by
 rcases h.2 with ⟨h1, _⟩ | ⟨g, cap, cur, h1, _⟩
 · cases h1
 · injection h1 with h1
   injection h1 with h1
   injection h1
theorem forE_ok {p : List Pgp} {x : Rcd} (h : forE p x = 0) (ho : isOpE x.e = true) : ∃ q, fndP p x.e.g = some q ∧ q.f = x.e.f := by
 unfold forE at h
 rw [if_pos ho] at h
 cases hq : fndP p x.e.g with
 | none => rw [hq] at h; cases h
 | some q =>
  rw [hq] at h
  exact ⟨q, rfl, by simpa using (unl_zero (by decide)).1 h⟩
theorem forE_setP (p : List Pgp) (g : Int) (s : ByteArray) (x : Rcd) : forE (setP p g s) x = forE p x := by
 unfold forE
 split
 · rw [setP_fnd]
   by_cases h : x.e.g = g
   · subst h
     rw [if_pos rfl]
     cases fndP p x.e.g <;> rfl
   · rw [if_neg h]
 · rfl
theorem dueB_op {t : Tbl} {x : Rcd} (h : dueB t x = true) : isOpE x.e = true := by
 unfold dueB at h
 exact (Bool.and_eq_true_iff.1 h).1
structure RdoS where
 j : Nat
 p : List Pgp
 n : Int
theorem redo_any (t : Tbl) (TA : Option Addr) (tc : Nat) (TB : Option Addr) (td : Nat) (p : List Pgp) (A : Option Addr) (c : Nat) (l : List Rcd) (B : Option Addr) (d : Nat) (B0 : Nat) (w : World) (hB0 : B0 ≤ w.heap.size)
 (ho : w.ownsRow B0 111 3 (.slice A p.length c) p.length (p.flatMap pgpL)) (hq : Rd w B0 B (l.flatMap rcdL)) (ht1 : Rd w B0 TA (t.ts.flatMap trsL)) (ht2 : Rd w B0 TB (t.ds.flatMap dtyL)) (hs : SrtT t) (htl : t.ts.length ≤ 1000 ∧ t.ds.length ≤ 1000)
 (hp : PgsOk p) (hl : l.length ≤ 1000) (hx : ∀ x ∈ l, FewE x.e ∧ I6 x.e.g) (hf : ∀ x ∈ l, forE p x = 0) :
 Calls Tryz.prog 83 #[.slice A p.length c, .slice B l.length d, tblV t TA tc TB td] w fun e w' => ∃ p' : List Pgp, e = .returned (.tuple #[.int .i64 (rdoG t p 0 l).2.1, .int .i64 (rdoG t p 0 l).2.2]) ∧ (p'.length = p.length ∧ ((rdoG t p 0 l).2.2 = 0 → p' = (rdoG t p 0 l).1)) ∧ St (Value.slice A p.length c).ownBlock.toList w w' [.row (.slice A p.length c) p.length 111 3 (p'.flatMap pgpL)] := by
 have hM : ∀ b ∈ (Value.slice A p.length c).ownBlock.toList, B0 ≤ b := fun b hb => (World.ownsRow.lt ho b (by simpa using hb)).1
 have ho' := ownsRow_mono ho (Nat.zero_le _)
 refine st_enter (N := 87) Tryz.func83 rfl rfl rfl (fun a0 h0 => ?_)
 have S0 := St.initO ho'
 refine st_seq (st_reg ?_)
 refine nb h0 rfl rfl S0 fun b5 a1 X1 gb5 h1 S1 => ?_
 refine ma h1 rfl rfl fun a2 h2 => ?_
 refine ma h2 rfl rfl fun a3 h3 => ?_
 refine nsr ?_
 refine sv (v := tblV t TA tc TB td) h3 (ex_loads (by kernel_rfl) (by kernel_rfl) (h3.ev rfl) (S1.cellsAll (i := 0) rfl)) fun a4 h4 => ?_
 refine sl_more h4 (wn rfl) (ex_call (fun _ _ => by kernel_rfl) (h4.evs rfl) rfl) rfl rfl S1 (tableOf_any t TA tc TB td _ ((S1.rdBase hM hB0 ht1).mono (Nat.le_trans hB0 S1.size)) ((S1.rdBase hM hB0 ht2).mono (Nat.le_trans hB0 S1.size)) hs htl) fun p19 a5 X5 h5 S5 => ?_
 refine sv h5 (ex_nilck (h5.ev rfl)) fun a6 h6 => ?_
 refine sv h6 (ex_field (off := 1) (by kernel_rfl) (h6.ev rfl) rfl) fun a7 h7 => ?_
 refine sv h7 (ex_load (by kernel_rfl) (h7.ev rfl) (S5.cell (i := 0) (j := 1) rfl rfl)) fun a8 h8 => ?_
 refine ma h8 rfl rfl fun a9 h9 => ?_
 refine nsr ?_
 refine ma h9 rfl rfl fun a10 h10 => ?_
 refine st_nil (go_then (st_seq (st_seq (st_reg ?_))))
 refine mv h10 rfl rfl fun a11 h11 => ?_
 refine sv h11 (ex_len Tryz.underlying180 (h11.ev rfl)) fun a12 h12 => ?_
 refine mv h12 rfl rfl fun a13 h13 => ?_
 refine st_nil (go_then (wp_block ?_))
 refine st_loop h13 S5 [24, 23, 8, 0] (fun (q : RdoS) => [(25, .int .i64 q.j), (9, .int .i64 q.n)]) (fun (q : RdoS) => q.j ≤ l.length ∧ rdoG t p 0 l = rdoG t q.p q.n (l.drop q.j) ∧ PgsOk q.p ∧ q.p.length = p.length ∧ 0 ≤ q.n ∧ q.n ≤ q.j ∧ (∀ x ∈ l, forE q.p x = 0)) (fun q L => L.set 4 (.row (.slice A p.length c) p.length 111 3 (q.p.flatMap pgpL))) (fun (q : RdoS) => l.length - q.j) (⟨0, p, 0⟩) (⟨Nat.zero_le _, rfl, hp, rfl, Int.le_refl 0, Int.le_refl 0, hf⟩) ⟨rfl, rfl, rfl, rfl, rfl, rfl, trivial⟩ (S5) ?_
 intro q a14 X14 hF0 h14 S14
 refine st_seq (st_reg ?_)
 refine sv h14 (ex_lss (h14.ev rfl) (h14.ev rfl)) fun a15 h15 => ?_
 refine st_nil (go_then (st_seq ?_))
 refine st_if (h15.ev rfl) (fun hc0 => ?_) (fun hc0 => ?_)
 ·
  have hlt : q.j < l.length := by have := of_decide_eq_true hc0; omega
  obtain ⟨b5, o5, rfl, hB5, _⟩ := hq.opened (flat_pos rcdL_len (by decide) (by omega))
  have hdr : l.drop q.j = l[q.j] :: l.drop (q.j + 1) := List.drop_eq_getElem_cons hlt
  obtain ⟨hxe, hxg⟩ := hx _ (List.getElem_mem hlt)
  obtain ⟨-, hun, hpo, hpl, hn0, hnj, hfo⟩ := hF0
  rw [hdr, rdoG] at hun
  have hkk : ∀ x ∈ q.p, 0 ≤ x.g ∧ x.g ≤ 600 := fun x hx => by
   obtain ⟨k, hk, rfl⟩ := List.getElem_of_mem hx
   exact (hpo.all k hk).g
  refine wp_skip (go_then (st_seq (wp_block (st_seq (st_reg ?_)))))
  refine sv h15 (ex_index (i := q.j) (sz := 14) Tryz.underlying180 (by kernel_rfl) (h15.ev rfl) (h15.ev rfl) (by omega) (by omega) rfl) fun a16 h16 => ?_
  refine sv (v := rcdV l[q.j]) h16 (ex_loads (by kernel_rfl) (by kernel_rfl) (h16.ev rfl) (flatAt rcdL_len (S14.rdBase hM hB0 hq) hlt)) fun a17 h17 => ?_
  refine na (.agg #[.int .i64 0, .int .i64 0, .int .i64 0, .int .i64 0, .int .i64 0, .int .i64 0, .bool false, .int .i64 0, .int .i64 0, .int .i64 0, .int .i64 0, .string ⟨#[]⟩, .string ⟨#[]⟩, .string ⟨#[]⟩]) h17 rfl S14 fun b11 a18 X18 gb11 h18 S18 => ?_
  refine sl_store0 h18 (wn rfl) ⟨rfl, rfl⟩ (h18.ev rfl) (h18.ev rfl) rfl (by kernel_rfl) S18 (i := 0) rfl rfl rfl fun X19 S19 => ?_
  refine nsr ?_
  refine mv h18 rfl rfl fun a20 h20 => ?_
  refine vf h20 1 1 rfl rfl rfl fun a21 h21 => ?_
  refine vf h21 4 5 rfl rfl rfl fun a22 h22 => ?_
  refine vl h22 S19 0 rfl rfl rfl rfl fun a23 h23 => ?_
  refine sv h23 (as_val (v' := .tuple #[dtyV ((fndD t.ds l[q.j].e.g).getD ⟨0, false, 0⟩), .bool (fndD t.ds l[q.j].e.g).isSome]) (by unfold dtF; cases fndD t.ds l[q.j].e.g <;> rfl) (ex_look2 (z := .agg #[.int .i64 0, .bool false, .int .i64 0]) Tryz.underlying226 Tryz.underlying3 (by kernel_rfl) (h23.ev rfl) (h23.ev rfl) (S19.at_ (i := 2) rfl))) fun a24 h24 => ?_
  refine mv h24 rfl rfl fun a25 h25 => ?_
  refine vx h25 rfl rfl rfl fun a26 h26 => ?_
  refine vx h26 rfl rfl rfl fun a27 h27 => ?_
  refine na (.agg #[.int .i64 0, .bool false, .int .i64 0]) h27 rfl S19 fun b12 a28 X28 gb12 h28 S28 => ?_
  refine sl_store0 h28 (wn rfl) ⟨rfl, rfl⟩ (h28.ev rfl) (h28.ev rfl) rfl (by kernel_rfl) S28 (i := 0) rfl rfl rfl fun X29 S29 => ?_
  refine ma h28 rfl rfl fun a30 h30 => ?_
  refine st_nil (go_then (st_seq (st_seq (st_reg ?_))))
  refine vf h30 1 1 rfl rfl rfl fun a31 h31 => ?_
  refine sv (v := entV l[q.j].e) h31 (ex_loads (by kernel_rfl) (by kernel_rfl) (h31.ev rfl) (S29.cellsOf (i := 1) rfl 1 13)) fun a32 h32 => ?_
  refine sl_bel h32 (wn rfl) (ex_call (fun _ _ => by kernel_rfl) (h32.evs rfl) rfl) rfl rfl S29 (isop_any _ _) fun a33 X33 h33 S33 => ?_
  refine sv h33 (ex_not (h33.ev rfl)) fun a34 h34 => ?_
  refine mv h34 rfl rfl fun a35 h35 => ?_
  apply sl_or (x := !(fndD t.ds l[q.j].e.g).isSome) h35 S33 41 rfl 3 44
  case hf =>
   intro gc41
   refine sy h35 rfl rfl rfl gc41 (ex_move (h35.ev rfl)) rfl rfl fun a36 h36 => ?_
   refine sy h36 rfl rfl rfl gc41 (ex_not (h36.ev rfl)) rfl rfl fun a37 h37 => ?_
   refine sv h37 (ex_pick_f (h37.ev rfl) gc41 (h37.ev rfl)) fun a38 h38 => ?_
   exact st_nil ⟨h38.mid (m := [(_, _), (_, _)]) rfl, S33⟩
  case ht =>
   intro gc41
   refine no h35 rfl rfl rfl gc41 rfl rfl fun a39 h39 => ?_
   refine no h39 rfl rfl rfl gc41 rfl rfl fun a40 h40 => ?_
   refine sv h40 (ex_pick_t (h40.ev rfl) gc41 (h40.ev rfl)) fun a41 h41 => ?_
   exact st_nil ⟨h41.mid (m := [(_, _), (_, _)]) rfl, S33⟩
  case h =>
   rintro a42 X42 ⟨h42, S42⟩
   refine mv h42 rfl rfl fun a43 h43 => ?_
   apply sl_or (x := decide (l[q.j].l < ((fndD t.ds l[q.j].e.g).getD ⟨0, false, 0⟩).l)) h43 S42 45 rfl 6 51
   case hf =>
    intro gc45
    refine sy h43 rfl rfl rfl gc45 (ex_field (off := 0) (j := 0) (by kernel_rfl) (h43.ev rfl) rfl) rfl rfl fun a44 h44 => ?_
    refine sy h44 rfl rfl rfl gc45 (ex_load (by kernel_rfl) (h44.ev rfl) (S42.cell (i := 1) rfl rfl)) rfl rfl fun a45 h45 => ?_
    refine sy h45 rfl rfl rfl gc45 (ex_field (off := 2) (j := 2) (by kernel_rfl) (h45.ev rfl) rfl) rfl rfl fun a46 h46 => ?_
    refine sy h46 rfl rfl rfl gc45 (ex_load (by kernel_rfl) (h46.ev rfl) (S42.cell (i := 0) rfl rfl)) rfl rfl fun a47 h47 => ?_
    refine sy h47 rfl rfl rfl gc45 (ex_lss (h47.ev rfl) (h47.ev rfl)) rfl rfl fun a48 h48 => ?_
    refine sv h48 (ex_pick_f (h48.ev rfl) gc45 (h48.ev rfl)) fun a49 h49 => ?_
    exact st_nil ⟨h49.mid (m := [(_, _), (_, _), (_, _), (_, _), (_, _)]) rfl, S42⟩
   case ht =>
    intro gc45
    refine no h43 rfl rfl rfl gc45 rfl rfl fun a50 h50 => ?_
    refine no h50 rfl rfl rfl gc45 rfl rfl fun a51 h51 => ?_
    refine no h51 rfl rfl rfl gc45 rfl rfl fun a52 h52 => ?_
    refine no h52 rfl rfl rfl gc45 rfl rfl fun a53 h53 => ?_
    refine no h53 rfl rfl rfl gc45 rfl rfl fun a54 h54 => ?_
    refine sv h54 (ex_pick_t (h54.ev rfl) gc45 (h54.ev rfl)) fun a55 h55 => ?_
    exact st_nil ⟨h55.mid (m := [(_, _), (_, _), (_, _), (_, _), (_, _)]) rfl, S42⟩
   case h =>
    rintro a56 X56 ⟨h56, S56⟩
    refine st_nil (go_then ?_)
    refine st_if (h56.ev rfl) (fun hc1 => ?_) (fun hc1 => ?_)
    ·
     have hdue : dueB t l[q.j] = false := by rw [due_eq] at hc1; simpa using hc1
     rw [if_neg (by rw [hdue]; decide)] at hun
     refine wp_exit ?_
     refine go_exit_then ?_
     refine go_exit ?_
     refine go_then (st_reg ?_)
     refine sv h56 (ex_add (h56.ev rfl) (h56.ev rfl) (by omega)) fun a57 h57 => ?_
     refine mv h57 rfl rfl fun a58 h58 => ?_
     refine st_nil (go_then ?_)
     exact ⟨⟨q.j + 1, q.p, q.n⟩, (by show l.length - (q.j + 1) < l.length - q.j; omega), ⟨hlt, hun, hpo, hpl, hn0, by show q.n ≤ ((q.j + 1 : Nat) : Int); omega, hfo⟩, h58.re ⟨rfl, rfl, rfl, rfl, rfl, rfl, trivial⟩, (S56.sub (.cons _ (.cons _ (.cons_cons _ (.cons_cons _ (.cons_cons _ (.cons_cons _ (.cons_cons _ .slnil))))))))⟩
    ·
     have hdue : dueB t l[q.j] = true := by rw [due_eq] at hc1; simpa using hc1
     rw [if_pos hdue] at hun
     obtain ⟨qq, hqq, hqf⟩ := forE_ok (hfo _ (List.getElem_mem hlt)) (dueB_op hdue)
     refine wp_skip (go_then (st_seq (st_reg ?_)))
     refine mv h56 rfl rfl fun a59 h59 => ?_
     refine vf h59 1 1 rfl rfl rfl fun a60 h60 => ?_
     refine vf h60 4 5 rfl rfl rfl fun a61 h61 => ?_
     refine vl h61 S56 1 rfl rfl rfl rfl fun a62 h62 => ?_
     refine sl_bel h62 (wn rfl) (ex_call (fun _ _ => by kernel_rfl) (h62.evs rfl) rfl) rfl rfl S56 (hpl ▸ at_any q.p hpo.srt hkk A c l[q.j].e.g hxg _ (S56.rdOf (i := 6) rfl) (by have := hpo.n; omega)) fun a63 X63 h63 S63 => ?_
     refine ma h63 rfl rfl fun a64 h64 => ?_
     obtain ⟨b', o', rfl, qk, q1, q2, q3⟩ := fndB_get hpo.srt (S63.rdOf (i := 6) rfl) (fndB_some hpo.srt (S63.rdOf (i := 6) rfl) hqq)
     obtain rfl : o' = 0 := own_off ho'
     rw [Nat.zero_add] at q3
     generalize bsN Pgp.g q.p l[q.j].e.g = k at qk q1 q2 q3
     have hq9 : qq = q.p[k] := by rw [q2] at hqq; injection hqq with e; exact e.symm
     subst hq9
     rw [q2] at hun
     simp only [] at hun
     have h512 := (hpo.all k qk).b
     refine st_nil (go_then (st_seq ?_))
     apply dr_flow h64 [false, false, false, false, false, false, false, false, false, false, false, false, false, false, false, false, false, false, false, false] _ (by kernel_rfl)
     case h =>
      refine qv h64 (fun X hX => as_val (v' := .pointer (some ⟨b', k * 3, none⟩)) (congrArg Value.pointer q3) (ex_move (h64.ev rfl))) fun a65 h65 => ?_
      refine qv h65 (fun X hX => ex_nilck (h65.ev rfl)) fun a66 h66 => ?_
      refine qv h66 (fun X hX => ex_field (off := 2) (by kernel_rfl) (h66.ev rfl) rfl) fun a67 h67 => ?_
      refine qv h67 (fun X hX => ex_load (by kernel_rfl) (h67.ev rfl) (by have := (flatAt pgpL_len ((S63.grow hX).rdOf (i := 6) rfl) qk) 2 _ rfl; rw [Nat.zero_add] at this; exact this)) fun a68 h68 => ?_
      refine qv h68 (fun X hX => as_val (v' := .pointer (some ⟨b', k * 3, none⟩)) (congrArg Value.pointer q3) (ex_move (h68.ev rfl))) fun a69 h69 => ?_
      refine qv h69 (fun X hX => ex_nilck (h69.ev rfl)) fun a70 h70 => ?_
      refine qv h70 (fun X hX => ex_field (off := 1) (by kernel_rfl) (h70.ev rfl) rfl) fun a71 h71 => ?_
      refine qv h71 (fun X hX => ex_load (by kernel_rfl) (h71.ev rfl) (by have := (flatAt pgpL_len ((S63.grow hX).rdOf (i := 6) rfl) qk) 1 _ rfl; rw [Nat.zero_add] at this; exact this)) fun a72 h72 => ?_
      refine qv h72 (fun X hX => ex_field (off := 0) (j := 0) (by kernel_rfl) (h72.ev rfl) rfl) fun a73 h73 => ?_
      refine qv h73 (fun X hX => ex_load (by kernel_rfl) (h73.ev rfl) ((S63.grow hX).cell (i := 1) rfl rfl)) fun a74 h74 => ?_
      refine qv h74 (fun X hX => ex_field (off := 1) (j := 1) (by kernel_rfl) (h74.ev rfl) rfl) fun a75 h75 => ?_
      refine qv h75 (fun X hX => ex_field (off := 6) (j := 7) (by kernel_rfl) (h75.ev rfl) rfl) fun a76 h76 => ?_
      refine qv (v := opV l[q.j].e.o) h76 (fun X hX => ex_loads (by kernel_rfl) (by kernel_rfl) (h76.ev rfl) ((S63.grow hX).cellsOf (i := 1) rfl 7 6)) fun a77 h77 => ?_
      refine sq_bel h77 (wn rfl) rfl rfl (fun X => (ex_call (fun _ _ => by kernel_rfl) (h77.evs rfl) rfl)) (fun X hX => Redone_any q.p[k].b q.p[k].f l[q.j].l l[q.j].e.o _ (by rw [h512]; decide) hxe.o hxe.n) fun a78 h78 => ?_
      refine qv h78 (fun X hX => ex_move (h78.ev rfl)) fun a79 h79 => ?_
      refine qv h79 (fun X hX => ex_extract (h79.ev rfl) rfl) fun a80 h80 => ?_
      refine qv h80 (fun X hX => ex_extract (h80.ev rfl) rfl) fun a81 h81 => ?_
      refine qv h81 (fun X hX => ex_extract (h81.ev rfl) rfl) fun a82 h82 => ?_
      refine qv h82 (fun X hX => ex_assign (h82.ev rfl)) fun a83 h83 => ?_
      refine qv h83 (fun X hX => ex_assign (h83.ev rfl)) fun a84 h84 => ?_
      refine sq_nil ?_
      refine nd_end fun X85 hX85 hΦ85 => ?_
      have S85 := S63.grow hX85
      refine ma h84 rfl rfl fun a86 h86 => ?_
      refine st_nil (go_then (st_seq (st_seq (st_reg ?_))))
      refine mv h86 rfl rfl fun a87 h87 => ?_
      refine sv h87 (ex_neq (h87.ev rfl) (h87.ev rfl)) fun a88 h88 => ?_
      refine st_nil (go_then ?_)
      refine st_if (h88.ev rfl) (fun hc2 => ?_) (fun hc2 => ?_)
      ·
       have he : (redo q.p[k].b q.p[k].f l[q.j].l l[q.j].e.o).2.2 ≠ 0 := by simpa using hc2
       rw [if_pos he] at hun
       refine st_seq (st_reg ?_)
       refine mv h88 rfl rfl fun a89 h89 => ?_
       refine ma h89 rfl rfl fun a90 h90 => ?_
       refine ma h90 rfl rfl fun a91 h91 => ?_
       refine st_nil (go_then (wp_ret (ret_then (ret_block (ret_then (ret_then (ret_block (ret_then ?_))))))))
       refine fin2 h91 rfl rfl rfl ?_
       exact ⟨q.p, by rw [hun]; (try rfl), ⟨hpl, fun h => absurd h (by rw [hun]; exact he)⟩, (S85.sub (.cons _ (.cons _ (.cons _ (.cons _ (.cons _ (.cons _ (.cons_cons _ .slnil))))))))⟩
      ·
       have he : (redo q.p[k].b q.p[k].f l[q.j].l l[q.j].e.o).2.2 = 0 := by simpa using hc2
       rw [if_neg (fun h => h he)] at hun
       obtain ⟨s, hsq⟩ : ∃ s, s = (redo q.p[k].b q.p[k].f l[q.j].l l[q.j].e.o).1 := ⟨_, rfl⟩
       have hs5 : s.size = 512 := by rw [hsq]; exact redo_size h512 he
       have hpo2 := setP_ok hpo l[q.j].e.g s hs5
       have hfl := setP_flat hpo.srt qk s
       rw [q1] at hfl
       rw [← hsq] at hun h88
       refine wp_skip (go_then (st_seq (st_reg ?_)))
       refine sv h88 (as_val (v' := .pointer (some ⟨b', k * 3, none⟩)) (congrArg Value.pointer q3) (ex_move (h88.ev rfl))) fun a92 h92 => ?_
       refine mv h92 rfl rfl fun a93 h93 => ?_
       refine sv h93 (ex_nilck (h93.ev rfl)) fun a94 h94 => ?_
       refine sv h94 (ex_field (off := 2) (by kernel_rfl) (h94.ev rfl) rfl) fun a95 h95 => ?_
       refine sl_rowset h95 (wn rfl) ⟨rfl, rfl⟩ (h95.ev rfl) (h95.ev rfl) rfl (by kernel_rfl) S85 (i := 6) rfl rfl (by show k * 3 + 2 + 1 ≤ p.length * 3; omega) fun X96 S96 => ?_
       refine nsr ?_
       refine mv h95 rfl rfl fun a97 h97 => ?_
       refine st_nil (go_then ?_)
       refine st_if (h97.ev rfl) (fun hc3 => ?_) (fun hc3 => ?_)
       ·
        refine st_reg ?_
        refine mv h97 rfl rfl fun a98 h98 => ?_
        refine sv h98 (ex_add (h98.ev rfl) (h98.ev rfl) (by omega)) fun a99 h99 => ?_
        refine ma h99 rfl rfl fun a100 h100 => ?_
        refine st_nil (go_block (go_then (st_reg ?_)))
        refine sv h100 (ex_add (h100.ev rfl) (h100.ev rfl) (by omega)) fun a101 h101 => ?_
        refine mv h101 rfl rfl fun a102 h102 => ?_
        refine st_nil (go_then ?_)
        exact ⟨⟨q.j + 1, setP q.p l[q.j].e.g s, q.n + 1⟩, (by show l.length - (q.j + 1) < l.length - q.j; omega), ⟨hlt, by rw [hc3] at hun; exact hun, hpo2, by rw [setP_len]; exact hpl, by show 0 ≤ q.n + 1; omega, by show q.n + 1 ≤ ((q.j + 1 : Nat) : Int); omega, fun x hx => by rw [forE_setP]; exact hfo x hx⟩, h102.re ⟨rfl, rfl, rfl, rfl, rfl, rfl, trivial⟩, (by show St _ w _ [_, _, _, _, .row _ _ _ _ ((setP q.p l[q.j].e.g s).flatMap pgpL)]; rw [hfl]; exact (S96.sub (.cons _ (.cons _ (.cons_cons _ (.cons_cons _ (.cons_cons _ (.cons_cons _ (.cons_cons _ .slnil)))))))))⟩
       ·
        refine wp_skip (go_block (go_then (st_reg ?_)))
        refine sv h97 (ex_add (h97.ev rfl) (h97.ev rfl) (by omega)) fun a103 h103 => ?_
        refine mv h103 rfl rfl fun a104 h104 => ?_
        refine st_nil (go_then ?_)
        exact ⟨⟨q.j + 1, setP q.p l[q.j].e.g s, q.n⟩, (by show l.length - (q.j + 1) < l.length - q.j; omega), ⟨hlt, by rw [hc3] at hun; rw [show q.n = q.n + bit1 false by show q.n = q.n + 0; omega]; exact hun, hpo2, by rw [setP_len]; exact hpl, hn0, by show q.n ≤ ((q.j + 1 : Nat) : Int); omega, fun x hx => by rw [forE_setP]; exact hfo x hx⟩, h104.re ⟨rfl, rfl, rfl, rfl, rfl, rfl, trivial⟩, (by show St _ w _ [_, _, _, _, .row _ _ _ _ ((setP q.p l[q.j].e.g s).flatMap pgpL)]; rw [hfl]; exact (S96.sub (.cons _ (.cons _ (.cons_cons _ (.cons_cons _ (.cons_cons _ (.cons_cons _ (.cons_cons _ .slnil)))))))))⟩
     case hB => kernel_rfl
     case hst => rfl
 ·
  have hge : l.length ≤ q.j := by have := of_decide_eq_false hc0; omega
  have hun := hF0.2.1
  rw [List.drop_of_length_le hge, rdoG] at hun
  refine wp_exit ?_
  refine go_exit_then ?_
  refine go_exit_then ?_
  refine go_exit ?_
  refine go_then (st_seq (st_reg ?_))
  refine mv h15 rfl rfl fun a105 h105 => ?_
  refine ma h105 rfl rfl fun a106 h106 => ?_
  refine ma h106 rfl rfl fun a107 h107 => ?_
  refine st_nil (go_then (wp_ret ?_))
  refine fin2 h107 rfl rfl rfl ?_
  exact ⟨q.p, by rw [hun]; (try rfl), ⟨hF0.2.2.2.1, fun _ => by rw [hun]⟩, (S14.sub (.cons _ (.cons _ (.cons _ (.cons _ (.cons_cons _ .slnil))))))⟩
theorem rdoG_err {t : Tbl} : ∀ {l : List Rcd} {p : List Pgp} {n : Int}, (rdoG t p n l).2.2 ≠ 0 → (rdoG t p n l).1 = [] ∧ (rdoG t p n l).2.1 = 0
 | [], _, _, h => absurd rfl h
 | x :: r, p, n, h => by
  rw [rdoG] at h ⊢
  split
  · rename_i hd
    rw [if_pos hd] at h
    cases hq : fndP p x.e.g with
    | none => exact ⟨rfl, rfl⟩
    | some q =>
     rw [hq] at h
     simp only [] at h ⊢
     split
     · exact ⟨rfl, rfl⟩
     · rename_i he
       rw [if_neg he] at h
       exact rdoG_err h
  · rename_i hd
    rw [if_neg hd] at h
    exact rdoG_err h
def rbyE (l : List Rcd) (t : Tbl) (p : List Pgp) : Int := firstE [(chkH l).2, tblE t, pgfE l p]
def rbyG (l : List Rcd) (t : Tbl) (p : List Pgp) : List Pgp × Int × Int := if rbyE l t p ≠ 0 then ([], 0, rbyE l t p) else rdoG t p 0 l
theorem pgf_ok {l : List Rcd} {p : List Pgp} (h : pgfE l p = 0) : PgsOk p ∧ ∀ x ∈ l, forE p x = 0 := by
 unfold pgfE at h
 split at h
 · rename_i h1; exact absurd h h1
 · rename_i h1
   refine ⟨pgsE1_zero.1 (by simpa using h1), fun x hx => ?_⟩
   obtain ⟨k, hk, rfl⟩ := List.getElem_of_mem hx
   exact (eachE_iff _ _).1 h k hk
theorem RedoneBy_any (l : List Rcd) (B : Option Addr) (d : Nat) (t : Tbl) (TA : Option Addr) (tc : Nat) (TB : Option Addr) (td : Nat) (p : List Pgp) (A : Option Addr) (c : Nat) (w : World)
 (hr : Rd w w.heap.size A (p.flatMap pgpL)) (hq : Rd w w.heap.size B (l.flatMap rcdL)) (ht1 : Rd w w.heap.size TA (t.ts.flatMap trsL)) (ht2 : Rd w w.heap.size TB (t.ds.flatMap dtyL)) (hl : l.length ≤ 1000) (hc : l.length ≤ d) (hpl : p.length ≤ 1000) (hF : FolT w) (hx : ∀ x ∈ l, FewE x.e ∧ I6 x.e.g) :
 Calls Tryz.prog 29 #[.slice B l.length d, tblV t TA tc TB td, .slice A p.length c] w fun e w' => ∃ i : Option Addr × Nat, e = .returned (.tuple #[.slice i.1 (rbyG l t p).1.length i.2, .int .i64 (rbyG l t p).2.1, .int .i64 (rbyG l t p).2.2]) ∧
  St [] w w' [.row (.slice i.1 (rbyG l t p).1.length i.2) (rbyG l t p).1.length 111 3 ((rbyG l t p).1.flatMap pgpL)] := by
 refine st_enter (N := 39) Tryz.func29 rfl rfl rfl (fun a0 h0 => ?_)
 have S0 := St.init w
 refine st_seq (st_reg ?_)
 refine nb h0 rfl rfl S0 fun b4 a1 X1 gb4 h1 S1 => ?_
 refine ma h1 rfl rfl fun a2 h2 => ?_
 refine ma h2 rfl rfl fun a3 h3 => ?_
 refine ma h3 rfl rfl fun a4 h4 => ?_
 refine st_nil (go_then (st_seq (st_seq ?_)))
 apply dr_flow h4 [false, false, false, false, false, false] _ (by kernel_rfl)
 case h =>
  refine qv h4 (fun X hX => ex_move (h4.ev rfl)) fun a5 h5 => ?_
  refine sq_bel h5 (wn rfl) rfl rfl (fun X => (ex_call (fun _ _ => by kernel_rfl) (h5.evs rfl) rfl)) (fun X hX => historyErr_any l B d _ ((S1.grow hX).rd0 hq) hl hc (hF.below (S1.grow hX).below) (fun x hm => (hx x hm).1)) fun a6 h6 => ?_
  refine qv (v := tblV t TA tc TB td) h6 (fun X hX => ex_loads (by kernel_rfl) (by kernel_rfl) (h6.ev rfl) ((S1.grow hX).cellsAll (i := 0) rfl)) fun a7 h7 => ?_
  refine sq_bel h7 (wn rfl) rfl rfl (fun X => (ex_call (fun _ _ => by kernel_rfl) (h7.evs rfl) rfl)) (fun X hX => CheckTable_any t TA tc TB td _ ((S1.grow hX).rd0 ht1) ((S1.grow hX).rd0 ht2)) fun a8 h8 => ?_
  refine qv h8 (fun X hX => ex_move (h8.ev rfl)) fun a9 h9 => ?_
  refine qv h9 (fun X hX => ex_move (h9.ev rfl)) fun a10 h10 => ?_
  refine sq_nil ?_
  refine nd_end fun X11 hX11 hΦ11 => ?_
  have S11 := S1.grow hX11
  refine sl_bel h10 (wn rfl) (ex_call (fun _ _ => by kernel_rfl) (h10.evs rfl) rfl) rfl rfl S11 (validPages_any p l A c B d _ (S11.rd0 hr) (S11.rd0 hq) hl (fun x hm => (hx x hm).2)) fun a12 X12 h12 S12 => ?_
  refine sl_new h12 (wn rfl) (f := fun b => .slice (some ⟨b, 0, none⟩) 3 3) (ex_bslice Tryz.underlying214 (by kernel_rfl) (by kernel_rfl) (h12.evs2 rfl) rfl rfl rfl (by decide) (by decide)) rfl rfl S12 fun b20 a13 X13 gb20 h13 S13 => ?_
  refine sl_pure h13 (wn rfl) (ex_call (fun _ _ => by kernel_rfl) (h13.evs rfl) rfl) rfl rfl (recovery_first3 (S13.at_ (i := 0) rfl)) fun a14 h14 => ?_
  refine ma h14 rfl rfl fun a15 h15 => ?_
  refine nsr ?_
  refine mv h15 rfl rfl fun a16 h16 => ?_
  refine sv h16 (ex_neq (h16.ev rfl) (h16.ev rfl)) fun a17 h17 => ?_
  refine st_nil (go_then ?_)
  refine st_if (h17.ev rfl) (fun hc0 => ?_) (fun hc0 => ?_)
  ·
   have hne : rbyE l t p ≠ 0 := by unfold rbyE; simpa using hc0
   have e1 : rbyG l t p = ([], 0, rbyE l t p) := by unfold rbyG; rw [if_pos hne]
   refine st_seq (st_reg ?_)
   refine mv h17 rfl rfl fun a18 h18 => ?_
   refine ma h18 rfl rfl fun a19 h19 => ?_
   refine ma h19 rfl rfl fun a20 h20 => ?_
   refine ma h20 rfl rfl fun a21 h21 => ?_
   refine st_nil (go_then (wp_ret (ret_then ?_)))
   refine fin3 h21 rfl rfl rfl rfl ?_
   refine ⟨(none, 0), by rw [e1]; rfl, ?_⟩
   rw [e1]
   exact (S13.sub (List.nil_sublist _)).nilRow 111 3
  ·
   have hz : rbyE l t p = 0 := by unfold rbyE; simpa using hc0
   have e1 : rbyG l t p = rdoG t p 0 l := by unfold rbyG; rw [if_neg (fun h => h hz)]
   have hz2 := hz
   unfold rbyE at hz2
   rw [firstE_zero] at hz2
   have z2 := hz2 (tblE t) (by simp)
   obtain ⟨g1, g2⟩ := pgf_ok (hz2 (pgfE l p) (by simp))
   have htk := tblE_zero.1 z2
   have htn := htk.n
   have htm := htk.m
   refine wp_skip (go_then (st_seq (st_reg ?_)))
   refine mv h17 rfl rfl fun a22 h22 => ?_
   refine sl_own h22 (wn rfl) (ex_call (fun _ _ => by kernel_rfl) (h22.evs rfl) rfl) rfl rfl S13 (cloneP_any p A c _ (S13.rd0 hr) hpl) (Nat.le_refl _) fun A26 c26 a23 X23 h23 S23 => ?_
   refine ma h23 rfl rfl fun a24 h24 => ?_
   refine nsr ?_
   refine mv h24 rfl rfl fun a25 h25 => ?_
   refine mv h25 rfl rfl fun a26 h26 => ?_
   refine sv (v := tblV t TA tc TB td) h26 (ex_loads (by kernel_rfl) (by kernel_rfl) (h26.ev rfl) (S23.cellsAll (i := 2) rfl)) fun a27 h27 => ?_
   refine sl_updx h27 (wn rfl) (ex_call (fun _ _ => by kernel_rfl) (h27.evs rfl) rfl) rfl rfl S23 (i := 0) rfl row_dom (redo_any t TA tc TB td p A26 c26 l B d w.heap.size _ S23.size (S23.ownB (i := 0) rfl) (hq.below S23.below) (ht1.below S23.below) (ht2.below S23.below) htk.srt (by omega) g1 hl hx g2) fun p31 a28 X28 h28 hF31 S28 => ?_
   refine mv h28 rfl rfl fun a29 h29 => ?_
   refine vx h29 rfl rfl rfl fun a30 h30 => ?_
   refine vx h30 rfl rfl rfl fun a31 h31 => ?_
   refine ma h31 rfl rfl fun a32 h32 => ?_
   refine ma h32 rfl rfl fun a33 h33 => ?_
   refine st_nil (go_then (st_seq (st_seq (st_reg ?_))))
   refine mv h33 rfl rfl fun a34 h34 => ?_
   refine sv h34 (ex_neq (h34.ev rfl) (h34.ev rfl)) fun a35 h35 => ?_
   refine st_nil (go_then ?_)
   refine st_if (h35.ev rfl) (fun hc1 => ?_) (fun hc1 => ?_)
   ·
    have he : (rdoG t p 0 l).2.2 ≠ 0 := by simpa using hc1
    obtain ⟨u1, u2⟩ := rdoG_err he
    refine st_seq (st_reg ?_)
    refine mv h35 rfl rfl fun a36 h36 => ?_
    refine ma h36 rfl rfl fun a37 h37 => ?_
    refine ma h37 rfl rfl fun a38 h38 => ?_
    refine ma h38 rfl rfl fun a39 h39 => ?_
    refine st_nil (go_then (wp_ret (ret_then ?_)))
    refine fin3 h39 rfl rfl rfl rfl ?_
    refine ⟨(none, 0), by rw [e1, u1, u2]; rfl, ?_⟩
    rw [e1, u1]
    exact (S28.sub (List.nil_sublist _)).nilRow 111 3
   ·
    have he : (rdoG t p 0 l).2.2 = 0 := by simpa using hc1
    have hpe := hF31.2 he
    have hple := hF31.1
    refine wp_skip (go_then (st_seq (st_reg ?_)))
    refine mv h35 rfl rfl fun a40 h40 => ?_
    refine mv h40 rfl rfl fun a41 h41 => ?_
    refine ma h41 rfl rfl fun a42 h42 => ?_
    refine ma h42 rfl rfl fun a43 h43 => ?_
    refine ma h43 rfl rfl fun a44 h44 => ?_
    refine st_nil (go_then (wp_ret ?_))
    refine fin3 h44 rfl rfl rfl rfl ?_
    refine ⟨(A26, c26), by rw [e1, ← hpe, hple, he]; rfl, ?_⟩
    rw [e1, ← hpe, hple]
    exact (S28.sub (.cons_cons _ (.cons _ (.cons _ .slnil))))
 case hB => kernel_rfl
 case hst => rfl
end Go.Proofs.YtcfdpfmchchkaaaGreatDoor
