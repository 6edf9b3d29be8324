/-
  Chapter 20: the reference's bytes of a record, and the page of a room.
  Chapter 20: the page of a room, the reference's way.
  Chapter 20: the bytes of a log, the reference's way.
-/
import Derived.Test.YtmlilplbdpjfcaaGreatDoorRgG
import Derived.Test.YtmlilplbdpjfcaaGreatDoorRg26
import Derived.Test.YtmlilplbdpjfcaaGreatDoorRg30
import Derived.Test.YtmlilplbdpjfcaaGreatDoorRgR
import Derived.Test.YtmlilplbdpjfcaaGreatDoorRg11
namespace Go.Proofs.YtmlilplbdpjfcaaGreatDoor
set_option linter.unusedVariables false
set_option linter.unusedSimpArgs false
set_option maxRecDepth 4000
open Go.RowKit Go.Sort
theorem Sum_s (s : ByteArray) (w : World) (hl : s.size ≤ 3000) : Calls Tryz.prog 116 #[.string s] w fun e w' => e = .returned (.int .i64 (sumL (bl s) 0)) ∧ w = w' := Sum_any s w (by omega)
theorem rrecordBytes_any (x : RecP) (hb : x.b.size ≤ 3000) (hl : 0 ≤ x.l ∧ x.l < 4294967296) (w : World) :
 Calls Tryz.prog 101 #[recV x] w fun e w' => e = .returned (.string (bs (encR x))) ∧ Below w.heap.size w w' := by
 have hZ : ∀ n w, n ≤ 200000 → Calls Tryz.prog 56 #[.int .i64 (n : Nat)] w fun e w' => e = .returned (.string (bs (zerosL n))) ∧ Below w.heap.size w w' := fun n w h => Zeros_any n w h
 have hsum := sumL_bd (bl x.b) 0 (by omega) (by omega)
 have hbl : (bl x.b).length = x.b.size := bl_length x.b
 have hsz := szR_in hb
 obtain ⟨A, hA⟩ : ∃ A, A = ((((lit x.b.size 2 ++ zerosL 2) ++ lit x.l 4) ++ lit (sumL (bl x.b) 0) 4) ++ bl x.b) := ⟨_, rfl⟩
 have hlA : A.length = 12 + x.b.size := by rw [hA]; simp [zerosL_length, lit_length, hbl]; omega
 have hsA : (bs A).size = 12 + x.b.size := by rw [bs_size, hlA]
 obtain ⟨Z, hZ2⟩ : ∃ Z, Z = (szR x.b.size).toNat - (12 + x.b.size) := ⟨_, rfl⟩
 have henc : encR x = A ++ zerosL Z := by unfold encR; rw [hA, hZ2]; rfl
 refine st_enter (N := 32) Tryz.func101 rfl rfl rfl (fun a0 h0 => ?_)
 have S0 := St.init w
 refine st_seq (st_reg ?_)
 refine sl_new h0 (wn rfl) (f := fun b => .pointer (some ⟨b, 0, none⟩)) (ex_box (h0.ev rfl)) rfl rfl S0 fun b1 a1 X1 gb1 h1 S1 => ?_
 refine ma h1 rfl rfl fun a2 h2 => ?_
 refine st_nil (go_then (st_seq ?_))
 apply dr_flow h2 [false, false, false, false, false, false, false, false, false, false, false, false, false, false, false, false, false] _ (by kernel_rfl)
 case h =>
  refine qv h2 (fun X hX => ex_field (off := 2) (j := 2) (by kernel_rfl) (h2.ev rfl) rfl) fun a3 h3 => ?_
  refine qv h3 (fun X hX => ex_load (by kernel_rfl) (h3.ev rfl) ((S1.grow hX).cell (i := 0) rfl rfl)) fun a4 h4 => ?_
  refine qv h4 (fun X hX => ex_slen Tryz.underlying9 (h4.ev rfl)) fun a5 h5 => ?_
  refine sq_bel h5 (wn rfl) rfl rfl (fun X => (ex_call (fun _ _ => by kernel_rfl) (h5.evs rfl) rfl)) (fun X hX => Little_any _ 2 (by omega) (by omega) (by decide) _) fun a6 h6 => ?_
  refine sq_bel h6 (wn rfl) rfl rfl (fun X => (ex_call (fun _ _ => by kernel_rfl) (h6.evs rfl) rfl)) (fun X hX => hZ 2 _ (by decide)) fun a7 h7 => ?_
  refine qv h7 (fun X hX => as_val (v' := .string (bs (lit x.b.size 2 ++ zerosL 2))) (congrArg _ (bs_app _ _)) (ex_sadd (h7.ev rfl) (h7.ev rfl) (cat_lt (by simp [zerosL_length, lit_length, bl_length]; try omega)))) fun a8 h8 => ?_
  refine qv h8 (fun X hX => ex_field (off := 0) (j := 0) (by kernel_rfl) (h8.ev rfl) rfl) fun a9 h9 => ?_
  refine qv h9 (fun X hX => ex_load (by kernel_rfl) (h9.ev rfl) ((S1.grow hX).cell (i := 0) rfl rfl)) fun a10 h10 => ?_
  refine sq_bel h10 (wn rfl) rfl rfl (fun X => (ex_call (fun _ _ => by kernel_rfl) (h10.evs rfl) rfl)) (fun X hX => Little_any _ 4 (by omega) (by omega) (by decide) _) fun a11 h11 => ?_
  refine qv h11 (fun X hX => as_val (v' := .string (bs ((lit x.b.size 2 ++ zerosL 2) ++ lit x.l 4))) (congrArg _ (bs_app _ _)) (ex_sadd (h11.ev rfl) (h11.ev rfl) (cat_lt (by simp [zerosL_length, lit_length, bl_length]; try omega)))) fun a12 h12 => ?_
  refine qv h12 (fun X hX => ex_field (off := 2) (j := 2) (by kernel_rfl) (h12.ev rfl) rfl) fun a13 h13 => ?_
  refine qv h13 (fun X hX => ex_load (by kernel_rfl) (h13.ev rfl) ((S1.grow hX).cell (i := 0) rfl rfl)) fun a14 h14 => ?_
  refine sq_pure h14 (wn rfl) rfl rfl (fun X => (ex_call (fun _ _ => by kernel_rfl) (h14.evs rfl) rfl)) (fun X hX => Sum_s _ _ hb) fun a15 h15 => ?_
  refine sq_bel h15 (wn rfl) rfl rfl (fun X => (ex_call (fun _ _ => by kernel_rfl) (h15.evs rfl) rfl)) (fun X hX => Little_any _ 4 (by omega) (by omega) (by decide) _) fun a16 h16 => ?_
  refine qv h16 (fun X hX => as_val (v' := .string (bs (((lit x.b.size 2 ++ zerosL 2) ++ lit x.l 4) ++ lit (sumL (bl x.b) 0) 4))) (congrArg _ (bs_app _ _)) (ex_sadd (h16.ev rfl) (h16.ev rfl) (cat_lt (by simp [zerosL_length, lit_length, bl_length]; try omega)))) fun a17 h17 => ?_
  refine qv h17 (fun X hX => ex_field (off := 2) (j := 2) (by kernel_rfl) (h17.ev rfl) rfl) fun a18 h18 => ?_
  refine qv h18 (fun X hX => ex_load (by kernel_rfl) (h18.ev rfl) ((S1.grow hX).cell (i := 0) rfl rfl)) fun a19 h19 => ?_
  refine sq_nil ?_
  refine nd_end fun X20 hX20 hΦ20 => ?_
  have S20 := S1.grow hX20
  refine sv h19 (as_val (v' := .string (bs A)) (congrArg _ (by rw [hA, ← bs_app _ (bl x.b), bs_bl])) (ex_sadd (h19.ev rfl) (h19.ev rfl) (by rw [bs_size]; simp [zerosL_length, lit_length]; omega))) fun a21 h21 => ?_
  refine ma h21 rfl rfl fun a22 h22 => ?_
  refine st_nil (go_then (st_seq (st_reg ?_)))
  refine mv h22 rfl rfl fun a23 h23 => ?_
  refine mv h23 rfl rfl fun a24 h24 => ?_
  refine sv h24 (ex_slen Tryz.underlying9 (h24.ev rfl)) fun a25 h25 => ?_
  refine sl_pure h25 (wn rfl) (ex_call (fun _ _ => by kernel_rfl) (h25.evs rfl) rfl) rfl rfl (Ceil_any _ _ (by omega) _) fun a26 h26 => ?_
  refine sv h26 (ex_mul (h26.ev rfl) (h26.ev rfl) (by omega)) fun a27 h27 => ?_
  refine mv h27 rfl rfl fun a28 h28 => ?_
  refine sv h28 (ex_slen Tryz.underlying9 (h28.ev rfl)) fun a29 h29 => ?_
  refine sv h29 (as_val (v' := .int .i64 (Z : Nat)) (congrArg _ (by rw [hsA, hZ2]; unfold szR; omega)) (ex_sub (h29.ev rfl) (h29.ev rfl) (by omega))) fun a30 h30 => ?_
  refine sl_bel h30 (wn rfl) (ex_call (fun _ _ => by kernel_rfl) (h30.evs rfl) rfl) rfl rfl S20 (hZ Z _ (by omega)) fun a31 X31 h31 S31 => ?_
  refine sv h31 (ex_sadd (h31.ev rfl) (h31.ev rfl) (cat_lt (by rw [hlA, zerosL_length]; omega))) fun a32 h32 => ?_
  refine ma h32 rfl rfl fun a33 h33 => ?_
  refine st_nil (go_then (wp_ret ?_))
  refine fin1 h33 rfl rfl ?_
  exact ⟨by rw [bs_app, ← henc], S31.below⟩
 case hB => kernel_rfl
 case hst => rfl
end Go.Proofs.YtmlilplbdpjfcaaGreatDoor
namespace Go.Proofs.YtmlilplbdpjfcaaGreatDoor
set_option linter.unusedVariables false
set_option linter.unusedSimpArgs false
set_option maxRecDepth 4000
open Go.RowKit Go.Sort
def pgB (q : Int) (st : List UInt8 × Int × Int) (x : RecP) (k : Nat) : List UInt8 × Int × Int :=
 if min ((q + 1) * 448) (x.l - 1 + k) ≤ frR q x then st
 else (patL st.1 (frR q x - q * 448).toNat (((encR x).drop (frR q x - (x.l - 1)).toNat).take (min ((q + 1) * 448) (x.l - 1 + k) - frR q x).toNat), min ((q + 1) * 448) (x.l - 1 + k) - q * 448, x.s)
theorem pgB_zero (q : Int) (st : List UInt8 × Int × Int) (x : RecP) : pgB q st x 0 = st := by
 unfold pgB frR
 rw [if_pos (by omega)]
theorem pgB_all (q : Int) (st : List UInt8 × Int × Int) {x : RecP} (h : x.b.size ≤ 3000) : pgB q st x (encR x).length = pgStp q st x := by
 have h1 := encR_length h
 rw [pgStp_eq]
 unfold pgB toR cutR bhR
 rw [h1]
 rfl
theorem patL_snoc {l b : List UInt8} {a : Nat} {e : UInt8} (h : a + b.length + 1 ≤ l.length) : patL l a (b ++ [e]) = patL (patL l a b) (a + b.length) [e] := by
 have hl : (patL l a b).length = l.length := patL_length (by omega)
 have hs : (b ++ [e]).length = b.length + 1 := by simp
 refine list_ext_getD ?_ fun i hi => ?_
 · rw [patL_length (by rw [hs]; omega), patL_length (by rw [hl]; simp; omega), hl]
 · rw [patL_getD (by rw [hs]; omega), patL_getD (by rw [hl]; simp; omega), hs]
   simp only [List.length_cons, List.length_nil]
   by_cases h1 : i = a + b.length
   · rw [if_pos (by omega), if_pos (by omega), h1]
     simp [List.getD_eq_getElem?_getD]
   · rw [patL_getD (by omega)]
     by_cases h2 : a ≤ i ∧ i < a + b.length
     · rw [if_pos (by omega), if_neg (by omega), if_pos h2]
       simp only [List.getD_eq_getElem?_getD]
       rw [List.getElem?_append_left (by omega)]
     · rw [if_neg (by omega), if_neg (by omega), if_neg h2]
theorem drop_take_succ (l : List UInt8) (d m : Nat) (h : d + m < l.length) : (l.drop d).take (m + 1) = (l.drop d).take m ++ [l[d + m]] := by
 rw [List.take_add_one, List.getElem?_drop, List.getElem?_eq_getElem h]; rfl
theorem pgB_out {q : Int} {st : List UInt8 × Int × Int} {x : RecP} {k : Nat} (h : ¬ (q * 448 ≤ x.l - 1 + k ∧ x.l - 1 + k < (q + 1) * 448)) : pgB q st x (k + 1) = pgB q st x k := by
 have hf : frR q x = max (q * 448) (x.l - 1) := rfl
 unfold pgB
 rcases Int.lt_or_le (x.l - 1 + k) (q * 448) with h1 | h1
 · rw [if_pos (by omega), if_pos (by omega)]
 · have e : min ((q + 1) * 448) (x.l - 1 + ((k + 1 : Nat) : Int)) = min ((q + 1) * 448) (x.l - 1 + (k : Int)) := by omega
   rw [e]
theorem pgB_in {q : Int} {st : List UInt8 × Int × Int} {x : RecP} {k : Nat} (hk : k < (encR x).length) (hl : st.1.length = 448) (h : q * 448 ≤ x.l - 1 + k ∧ x.l - 1 + k < (q + 1) * 448) :
 pgB q st x (k + 1) = (patL (pgB q st x k).1 (x.l - 1 + k - q * 448).toNat [(encR x)[k]], x.l - 1 + k - q * 448 + 1, x.s) := by
 have hf : frR q x = max (q * 448) (x.l - 1) := rfl
 obtain ⟨f, hfe⟩ : ∃ f, f = frR q x := ⟨_, rfl⟩
 rw [← hfe] at hf
 have e1 : min ((q + 1) * 448) (x.l - 1 + ((k + 1 : Nat) : Int)) = x.l - 1 + k + 1 := by omega
 have e0 : min ((q + 1) * 448) (x.l - 1 + (k : Int)) = x.l - 1 + k := by omega
 unfold pgB
 rw [e1, e0, ← hfe, if_neg (by omega)]
 rcases Int.lt_or_le f (x.l - 1 + k) with h1 | h1
 · rw [if_neg (by omega)]
   obtain ⟨d, hd⟩ := Int.eq_ofNat_of_zero_le (show 0 ≤ f - (x.l - 1) by omega)
   obtain ⟨m, hm⟩ := Int.eq_ofNat_of_zero_le (show 0 ≤ x.l - 1 + k - f by omega)
   obtain ⟨a, ha⟩ := Int.eq_ofNat_of_zero_le (show 0 ≤ f - q * 448 by omega)
   rw [show x.l - 1 + (k : Int) + 1 - f = ((m + 1 : Nat) : Int) by omega, hd, hm, ha, show x.l - 1 + (k : Int) - q * 448 = ((a + m : Nat) : Int) by omega]
   simp only [Int.toNat_natCast]
   rw [drop_take_succ _ _ _ (by omega)]
   have hlm : ((List.drop d (encR x)).take m).length = m := by rw [List.length_take, List.length_drop]; omega
   have ek : d + m = k := by omega
   refine Prod.ext ?_ (Prod.ext ?_ rfl)
   · show patL st.1 a _ = _
     rw [patL_snoc (by rw [hlm, hl]; omega), hlm]
     simp only [ek]
   · show x.l - 1 + (k : Int) + 1 - q * 448 = ((a + m : Nat) : Int) + 1
     omega
 · rw [if_pos (by omega)]
   have hfk : f = x.l - 1 + k := by omega
   rw [hfk]
   refine Prod.ext ?_ (Prod.ext ?_ rfl)
   · show patL st.1 (x.l - 1 + (k : Int) - q * 448).toNat _ = _
     congr 1
     rw [show x.l - 1 + (k : Int) - (x.l - 1) = (k : Int) by omega, show x.l - 1 + (k : Int) + 1 - (x.l - 1 + k) = ((0 + 1 : Nat) : Int) by omega, Int.toNat_natCast, Int.toNat_natCast, drop_take_succ _ _ _ (by omega)]
     simp
   · show x.l - 1 + (k : Int) + 1 - q * 448 = x.l - 1 + (k : Int) - q * 448 + 1
     omega
theorem pgB_length {q : Int} {st : List UInt8 × Int × Int} {x : RecP} (hl : st.1.length = 448) : ∀ k, k ≤ (encR x).length → (pgB q st x k).1.length = 448
 | 0, _ => by rw [pgB_zero]; exact hl
 | k + 1, hk => by
  have ih := pgB_length (q := q) (x := x) hl k (by omega)
  by_cases h : q * 448 ≤ x.l - 1 + k ∧ x.l - 1 + k < (q + 1) * 448
  · rw [pgB_in (by omega) hl h]
    show (patL _ _ _).length = 448
    rw [patL_length (by rw [ih]; simp; omega), ih]
  · rw [pgB_out h]; exact ih
theorem pgK_seq {q : Int} {l : List RecP} (h : ∀ x ∈ l, 0 ≤ x.s ∧ x.s ≤ 60000) : ∀ k, k ≤ l.length → 0 ≤ (pgK q l k).2.2 ∧ (pgK q l k).2.2 ≤ 60000
 | 0, _ => by show (0 : Int) ≤ 0 ∧ (0 : Int) ≤ 60000; decide
 | k + 1, hk => by
  rw [pgK_succ q l k (by omega), pgStp_eq]
  split
  · exact pgK_seq h k (by omega)
  · exact h _ (List.getElem_mem _)
theorem rPage_any (r : RngP) (A : Option Addr) (c : Nat) (q : Int) (w : World) (hr : Rd w w.heap.size A (recsV r.rs)) (hok : OkP r) (hq : 0 ≤ q ∧ q ≤ 100000000) :
 Calls Tryz.prog 53 #[ringV r A c, .int .i64 q] w fun e w' => e = .returned (.string (bs (pgR r q))) ∧ Below w.heap.size w w' := by
 have hlen : r.rs.length ≤ 1000 := by have := hok.h.len; omega
 have hrr := hok.h.rr
 have hpg := hok.h.pg
 have hseq : ∀ x ∈ r.rs, 0 ≤ x.s ∧ x.s ≤ 60000 := fun x hx => by
  obtain ⟨k, hk, rfl⟩ := List.getElem_of_mem hx
  have := inB_true.1 (hok.rz hk).2.2.2.1
  omega
 have hZ : ∀ n w, n ≤ 200000 → Calls Tryz.prog 56 #[.int .i64 (n : Nat)] w fun e w' => e = .returned (.string (bs (zerosL n))) ∧ Below w.heap.size w w' := fun n w h => Zeros_any n w h
 have hI := pgK_inv q hok.all hrr.2.2.2
 refine st_enter (N := 86) Tryz.func53 rfl rfl rfl (fun a0 h0 => ?_)
 have S0 := St.init w
 refine st_seq (st_reg ?_)
 refine sl_new h0 (wn rfl) (f := fun b => .pointer (some ⟨b, 0, none⟩)) (ex_box (h0.ev rfl)) rfl rfl S0 fun b2 a1 X1 gb2 h1 S1 => ?_
 refine ma h1 rfl rfl fun a2 h2 => ?_
 refine st_nil (go_then (st_seq (st_reg ?_)))
 refine sl_bel h2 (wn rfl) (ex_call (fun _ _ => by kernel_rfl) (h2.evs rfl) rfl) rfl rfl S1 (hZ 448 _ (by decide)) fun a3 X3 h3 S3 => ?_
 refine ma h3 rfl rfl fun a4 h4 => ?_
 refine ma h4 rfl rfl fun a5 h5 => ?_
 refine ma h5 rfl rfl fun a6 h6 => ?_
 refine st_nil (go_then (st_seq (st_seq (st_reg ?_))))
 refine ma h6 rfl rfl fun a7 h7 => ?_
 refine st_nil (go_then (wp_block ?_))
 refine st_loop h7 S3 [4, 2, 1] (fun (v : Nat × List UInt8 × Int × Int) => [(8, .int .i64 (v.1 : Nat)), (5, .string (bs v.2.1)), (6, .int .i64 v.2.2.1), (7, .int .i64 v.2.2.2)]) (fun (v : Nat × List UInt8 × Int × Int) => v.1 ≤ r.rs.length ∧ v.2 = pgK q r.rs v.1) (fun (v : Nat × List UInt8 × Int × Int) L => L) (fun (v : Nat × List UInt8 × Int × Int) => r.rs.length - v.1) ((0, zerosL 448, 0, 0)) (⟨Nat.zero_le _, rfl⟩) ⟨rfl, rfl, rfl, rfl, rfl, rfl, rfl, trivial⟩ (S3) ?_
 intro v a8 X8 hF0 h8 S8
 refine st_seq (st_seq (st_reg ?_))
 refine mv h8 rfl rfl fun a9 h9 => ?_
 refine sv h9 (ex_field (off := 7) (j := 7) (by kernel_rfl) (h9.ev rfl) rfl) fun a10 h10 => ?_
 refine sv h10 (ex_load (by kernel_rfl) (h10.ev rfl) (S8.cell (i := 0) rfl rfl)) fun a11 h11 => ?_
 refine sv h11 (ex_len Tryz.underlying24 (h11.ev rfl)) fun a12 h12 => ?_
 refine sv h12 (ex_lss (h12.ev rfl) (h12.ev rfl)) fun a13 h13 => ?_
 refine st_nil (go_then ?_)
 refine st_if (h13.ev rfl) (fun hc0 => ?_) (fun hc0 => ?_)
 ·
  have hlt : v.1 < r.rs.length := by have := of_decide_eq_true hc0; omega
  obtain ⟨b, o, rfl, _⟩ := hr.opened (by rw [recsV_length]; omega)
  have hrc := hok.rcd v.1 hlt
  obtain ⟨E, hE⟩ : ∃ E, E = encR r.rs[v.1] := ⟨_, rfl⟩
  have hEl := encR_length hrc.2.2
  have hEz := szR_in hrc.2.2
  rw [← hE] at hEl
  have hEs := bs_size E
  have hstl : v.2.1.length = 448 := by rw [hF0.2]; obtain ⟨e, h1, _⟩ := hI v.1 (by omega); exact h1.len
  have hRB : ∀ w, Calls Tryz.prog 101 #[recV r.rs[v.1]] w fun e w' => e = .returned (.string (bs E)) ∧ Below w.heap.size w w' := fun w => by
   rw [hE]; exact rrecordBytes_any _ hrc.2.2 (by omega) w
  refine wp_skip (go_then (st_seq (wp_block (st_seq (st_reg ?_)))))
  refine sv h13 (ex_field (off := 7) (j := 7) (by kernel_rfl) (h13.ev rfl) rfl) fun a14 h14 => ?_
  refine sv h14 (ex_load (by kernel_rfl) (h14.ev rfl) (S8.cell (i := 0) rfl rfl)) fun a15 h15 => ?_
  refine mv h15 rfl rfl fun a16 h16 => ?_
  refine sv h16 (ex_index (i := v.1) (sz := 3) Tryz.underlying24 (by kernel_rfl) (h16.ev rfl) (h16.ev rfl) (by omega) (by omega) rfl) fun a17 h17 => ?_
  refine sv (v := recV r.rs[v.1]) h17 (ex_loads (by kernel_rfl) (by kernel_rfl) (h17.ev rfl) (recAt (S8.rd0 hr) hlt)) fun a18 h18 => ?_
  refine sl_bel h18 (wn rfl) (ex_call (fun _ _ => by kernel_rfl) (h18.evs rfl) rfl) rfl rfl S8 (hRB _) fun a19 X19 h19 S19 => ?_
  refine ma h19 rfl rfl fun a20 h20 => ?_
  refine st_nil (go_then (st_seq (st_reg ?_)))
  refine ma h20 rfl rfl fun a21 h21 => ?_
  refine st_nil (go_then (wp_block ?_))
  refine st_loop h21 S19 [9, 26, 25, 24, 23, 22, 21, 18, 17, 16, 15, 14, 8, 4, 2, 1] (fun (u : Nat × List UInt8 × Int × Int) => [(10, .int .i64 (u.1 : Nat)), (5, .string (bs u.2.1)), (6, .int .i64 u.2.2.1), (7, .int .i64 u.2.2.2)]) (fun (u : Nat × List UInt8 × Int × Int) => u.1 ≤ E.length ∧ u.2 = pgB q v.2 r.rs[v.1] u.1) (fun (u : Nat × List UInt8 × Int × Int) L => L) (fun (u : Nat × List UInt8 × Int × Int) => E.length - u.1) ((0, v.2)) (⟨Nat.zero_le _, (pgB_zero _ _ _).symm⟩) ⟨rfl, rfl, rfl, rfl, rfl, rfl, rfl, rfl, rfl, rfl, rfl, rfl, rfl, rfl, rfl, rfl, rfl, rfl, rfl, rfl, trivial⟩ (S19) ?_
  intro u a22 X22 hF1 h22 S22
  refine st_seq (st_seq (st_reg ?_))
  refine mv h22 rfl rfl fun a23 h23 => ?_
  refine mv h23 rfl rfl fun a24 h24 => ?_
  refine sv h24 (ex_slen Tryz.underlying9 (h24.ev rfl)) fun a25 h25 => ?_
  refine sv h25 (ex_lss (h25.ev rfl) (h25.ev rfl)) fun a26 h26 => ?_
  refine st_nil (go_then ?_)
  refine st_if (h26.ev rfl) (fun hc1 => ?_) (fun hc1 => ?_)
  ·
   have hltu : u.1 < E.length := by have := of_decide_eq_true hc1; omega
   have hul : u.2.1.length = 448 := by rw [hF1.2]; exact pgB_length hstl u.1 (by rw [← hE]; omega)
   obtain ⟨p, hp⟩ := Int.eq_ofNat_of_zero_le (show 0 ≤ r.rs[v.1].l - 1 + (u.1 : Int) by omega)
   refine wp_skip (go_then (st_seq (wp_block (st_seq (st_reg ?_)))))
   refine sv h26 (ex_field (off := 7) (j := 7) (by kernel_rfl) (h26.ev rfl) rfl) fun a27 h27 => ?_
   refine sv h27 (ex_load (by kernel_rfl) (h27.ev rfl) (S22.cell (i := 0) rfl rfl)) fun a28 h28 => ?_
   refine mv h28 rfl rfl fun a29 h29 => ?_
   refine sv h29 (ex_index (i := v.1) (sz := 3) Tryz.underlying24 (by kernel_rfl) (h29.ev rfl) (h29.ev rfl) (by omega) (by omega) rfl) fun a30 h30 => ?_
   refine sv h30 (ex_field (off := 0) (by kernel_rfl) (h30.ev rfl) rfl) fun a31 h31 => ?_
   refine sv h31 (ex_load (by kernel_rfl) (h31.ev rfl) ((recAt (S22.rd0 hr) hlt) 0 _ rfl)) fun a32 h32 => ?_
   refine sv h32 (ex_sub (h32.ev rfl) (h32.ev rfl) (by omega)) fun a33 h33 => ?_
   refine mv h33 rfl rfl fun a34 h34 => ?_
   refine sv h34 (ex_add (h34.ev rfl) (h34.ev rfl) (by omega)) fun a35 h35 => ?_
   refine ma h35 rfl rfl fun a36 h36 => ?_
   refine st_nil (go_then (st_seq (st_reg ?_)))
   refine mv h36 rfl rfl fun a37 h37 => ?_
   refine sl_pure h37 (wn rfl) (ex_call (fun _ _ => by kernel_rfl) (h37.evs rfl) rfl) rfl rfl (rroom_any _ (by omega) _) fun a38 h38 => ?_
   refine mv h38 rfl rfl fun a39 h39 => ?_
   refine sv h39 (ex_eql (h39.ev rfl) (h39.ev rfl)) fun a40 h40 => ?_
   refine st_nil (go_then ?_)
   refine st_if (h40.ev rfl) (fun hc2 => ?_) (fun hc2 => ?_)
   ·
    have hroom : q * 448 ≤ r.rs[v.1].l - 1 + u.1 ∧ r.rs[v.1].l - 1 + u.1 < (q + 1) * 448 := by have := eq_of_beq hc2; omega
    have hin2 : (patL u.2.1 (r.rs[v.1].l - 1 + u.1 - q * 448).toNat [E[u.1]], r.rs[v.1].l - 1 + u.1 - q * 448 + 1, r.rs[v.1].s) = pgB q v.2 r.rs[v.1] (u.1 + 1) := by
     rw [pgB_in (by rw [← hE]; exact hltu) hstl hroom, ← hF1.2]
     simp only [hE]
    refine st_seq (st_reg ?_)
    refine mv h40 rfl rfl fun a41 h41 => ?_
    refine mv h41 rfl rfl fun a42 h42 => ?_
    refine sv h42 (as_val (v' := .int .i64 (((r.rs[v.1].l - 1 + u.1 - q * 448).toNat : Nat) : Int)) (congrArg _ (by omega)) (ex_rem (h42.ev rfl) (h42.ev rfl) (by omega))) fun a43 h43 => ?_
    refine mv h43 rfl rfl fun a44 h44 => ?_
    refine mv h44 rfl rfl fun a45 h45 => ?_
    refine mv h45 rfl rfl fun a46 h46 => ?_
    refine sv h46 (as_val (v' := .int .i64 ((u.1 + 1 : Nat) : Int)) (congrArg _ (by omega)) (ex_add (h46.ev rfl) (h46.ev rfl) (by omega))) fun a47 h47 => ?_
    refine sv h47 (as_val (v' := .string (bs [E[u.1]])) (congrArg _ (by rw [bs_extract, show u.1 + 1 - u.1 = 0 + 1 by omega, drop_take_succ _ _ _ (by omega)]; rfl)) (ex_sslice (l := u.1) (h := (u.1 + 1)) Tryz.underlying9 (h47.ev rfl) (h47.ev rfl) (h47.ev rfl) (by omega) (by omega))) fun a48 h48 => ?_
    refine sl_bel h48 (wn rfl) (ex_call (fun _ _ => by kernel_rfl) (h48.evs rfl) rfl) rfl rfl S22 (Patch_l u.2.1 [E[u.1]] (r.rs[v.1].l - 1 + u.1 - q * 448).toNat _ (by omega) (by rw [hul]; show (r.rs[v.1].l - 1 + (u.1 : Int) - q * 448).toNat + 1 ≤ 448; omega)) fun a49 X49 h49 S49 => ?_
    refine ma h49 rfl rfl fun a50 h50 => ?_
    refine st_nil (go_then ?_)
    apply dr_flow h50 [false, false, false, false, false, false, false, false, false, false] _ (by kernel_rfl)
    case h =>
     refine qv h50 (fun X hX => ex_move (h50.ev rfl)) fun a51 h51 => ?_
     refine qv h51 (fun X hX => ex_rem (h51.ev rfl) (h51.ev rfl) (by omega)) fun a52 h52 => ?_
     refine qv h52 (fun X hX => as_val (v' := .int .i64 (r.rs[v.1].l - 1 + u.1 - q * 448 + 1)) (congrArg _ (show (r.rs[v.1].l - 1 + (u.1 : Int)) % 448 + 1 = r.rs[v.1].l - 1 + u.1 - q * 448 + 1 by omega)) (ex_add (h52.ev rfl) (h52.ev rfl) (by omega))) fun a53 h53 => ?_
     refine qv h53 (fun X hX => ex_field (off := 7) (j := 7) (by kernel_rfl) (h53.ev rfl) rfl) fun a54 h54 => ?_
     refine qv h54 (fun X hX => ex_load (by kernel_rfl) (h54.ev rfl) ((S49.grow hX).cell (i := 0) rfl rfl)) fun a55 h55 => ?_
     refine qv h55 (fun X hX => ex_move (h55.ev rfl)) fun a56 h56 => ?_
     refine qv h56 (fun X hX => ex_index (i := v.1) (sz := 3) Tryz.underlying24 (by kernel_rfl) (h56.ev rfl) (h56.ev rfl) (by omega) (by omega) rfl) fun a57 h57 => ?_
     refine qv h57 (fun X hX => ex_field (off := 1) (by kernel_rfl) (h57.ev rfl) rfl) fun a58 h58 => ?_
     refine qv h58 (fun X hX => ex_load (by kernel_rfl) (h58.ev rfl) ((recAt ((S49.grow hX).rd0 hr) hlt) 1 _ rfl)) fun a59 h59 => ?_
     refine qv h59 (fun X hX => ex_assign (h59.ev rfl)) fun a60 h60 => ?_
     refine sq_nil ?_
     refine nd_end fun X61 hX61 hΦ61 => ?_
     have S61 := S49.grow hX61
     refine ma h60 rfl rfl fun a62 h62 => ?_
     refine st_nil (go_block (go_then (st_reg ?_)))
     refine mv h62 rfl rfl fun a63 h63 => ?_
     refine sv h63 (ex_add (h63.ev rfl) (h63.ev rfl) (by omega)) fun a64 h64 => ?_
     refine ma h64 rfl rfl fun a65 h65 => ?_
     refine st_nil (go_then ?_)
     exact ⟨(u.1 + 1, patL u.2.1 (r.rs[v.1].l - 1 + u.1 - q * 448).toNat [E[u.1]], r.rs[v.1].l - 1 + u.1 - q * 448 + 1, r.rs[v.1].s), (by show E.length - (u.1 + 1) < E.length - u.1; omega), ⟨by show u.1 + 1 ≤ E.length; omega, hin2⟩, h65.re ⟨rfl, rfl, rfl, rfl, rfl, rfl, rfl, rfl, rfl, rfl, rfl, rfl, rfl, rfl, rfl, rfl, rfl, rfl, rfl, rfl, trivial⟩, S61⟩
    case hB => kernel_rfl
    case hst => rfl
   ·
    have hroom : ¬ (q * 448 ≤ r.rs[v.1].l - 1 + u.1 ∧ r.rs[v.1].l - 1 + u.1 < (q + 1) * 448) := by
     intro h
     have h2 : ¬ ((r.rs[v.1].l - 1 + (u.1 : Int)) / 448 = q) := by simpa using hc2
     omega
    have hout2 : u.2 = pgB q v.2 r.rs[v.1] (u.1 + 1) := by rw [pgB_out hroom]; exact hF1.2
    refine wp_skip (go_block (go_then (st_reg ?_)))
    refine mv h40 rfl rfl fun a66 h66 => ?_
    refine sv h66 (ex_add (h66.ev rfl) (h66.ev rfl) (by omega)) fun a67 h67 => ?_
    refine ma h67 rfl rfl fun a68 h68 => ?_
    refine st_nil (go_then ?_)
    exact ⟨(u.1 + 1, u.2), (by show E.length - (u.1 + 1) < E.length - u.1; omega), ⟨by show u.1 + 1 ≤ E.length; omega, hout2⟩, h68.re ⟨rfl, rfl, rfl, rfl, rfl, rfl, rfl, rfl, rfl, rfl, rfl, rfl, rfl, rfl, rfl, rfl, rfl, rfl, rfl, rfl, trivial⟩, S22⟩
  ·
   have hgeu : u.1 = E.length := by have := of_decide_eq_false hc1; have := hF1.1; omega
   have hend : u.2 = pgK q r.rs (v.1 + 1) := by
    rw [hF1.2, hgeu, hE, pgB_all _ _ hrc.2.2, pgK_succ q r.rs v.1 hlt, hF0.2]
   refine wp_exit ?_
   refine go_exit_then ?_
   refine go_exit_then ?_
   refine go_exit ?_
   refine go_block (go_then (st_reg ?_))
   refine mv h26 rfl rfl fun a69 h69 => ?_
   refine sv h69 (ex_add (h69.ev rfl) (h69.ev rfl) (by omega)) fun a70 h70 => ?_
   refine ma h70 rfl rfl fun a71 h71 => ?_
   refine st_nil (go_then ?_)
   exact ⟨(v.1 + 1, u.2), (by show r.rs.length - (v.1 + 1) < r.rs.length - v.1; omega), ⟨by show v.1 + 1 ≤ r.rs.length; omega, hend⟩, h71.re ⟨rfl, rfl, rfl, rfl, rfl, rfl, rfl, trivial⟩, S22⟩
 ·
  have hge : v.1 = r.rs.length := by have := of_decide_eq_false hc0; have := hF0.1; omega
  obtain ⟨st, hst⟩ : ∃ st, st = v.2 := ⟨_, rfl⟩
  have hfld : st = pgFld q r.rs := by rw [hst, hF0.2, hge, pgK_all]
  rw [← hst] at h13
  obtain ⟨e, hPI, _⟩ := hI r.rs.length (Nat.le_refl _)
  rw [pgK_all, ← hfld] at hPI
  have hsq := pgK_seq hseq (q := q) r.rs.length (Nat.le_refl _)
  rw [pgK_all, ← hfld] at hsq
  have hu0 := hPI.u0
  have hu1 := hPI.u1
  have hl18 : ((((([82, 67, 82, 68] ++ zerosL 4) ++ lit q 4) ++ lit st.2.1 2) ++ lit st.2.2 4) ++ zerosL 46).length = 64 := by simp [zerosL_length, lit_length]
  have hpgh : ((((([82, 67, 82, 68] ++ zerosL 4) ++ lit q 4) ++ lit st.2.1 2) ++ lit st.2.2 4) ++ zerosL 46) ++ st.1 = pgH q st.2.1 st.2.2 st.1 := by unfold pgH; simp only [List.append_assoc]
  refine wp_exit ?_
  refine go_exit_then ?_
  refine go_exit_then ?_
  refine go_exit ?_
  refine go_then (st_seq (st_reg ?_))
  refine sl_bel h13 (wn rfl) (ex_call (fun _ _ => by kernel_rfl) (h13.evs rfl) rfl) rfl rfl S8 (hZ 4 _ (by decide)) fun a72 X72 h72 S72 => ?_
  refine sv h72 (as_val (v' := .string (bs ([82, 67, 82, 68] ++ zerosL 4))) (congrArg _ (bs_app _ _)) (ex_sadd (h72.ev rfl) (h72.ev rfl) (cat_lt (by simp [zerosL_length, lit_length]; try omega)))) fun a73 h73 => ?_
  refine mv h73 rfl rfl fun a74 h74 => ?_
  refine sl_bel h74 (wn rfl) (ex_call (fun _ _ => by kernel_rfl) (h74.evs rfl) rfl) rfl rfl S72 (Little_any _ 4 (by omega) (by omega) (by decide) _) fun a75 X75 h75 S75 => ?_
  refine sv h75 (as_val (v' := .string (bs (([82, 67, 82, 68] ++ zerosL 4) ++ lit q 4))) (congrArg _ (bs_app _ _)) (ex_sadd (h75.ev rfl) (h75.ev rfl) (cat_lt (by simp [zerosL_length, lit_length]; try omega)))) fun a76 h76 => ?_
  refine mv h76 rfl rfl fun a77 h77 => ?_
  refine sl_bel h77 (wn rfl) (ex_call (fun _ _ => by kernel_rfl) (h77.evs rfl) rfl) rfl rfl S75 (Little_any _ 2 (by omega) (by omega) (by decide) _) fun a78 X78 h78 S78 => ?_
  refine sv h78 (as_val (v' := .string (bs ((([82, 67, 82, 68] ++ zerosL 4) ++ lit q 4) ++ lit st.2.1 2))) (congrArg _ (bs_app _ _)) (ex_sadd (h78.ev rfl) (h78.ev rfl) (cat_lt (by simp [zerosL_length, lit_length]; try omega)))) fun a79 h79 => ?_
  refine mv h79 rfl rfl fun a80 h80 => ?_
  refine sl_bel h80 (wn rfl) (ex_call (fun _ _ => by kernel_rfl) (h80.evs rfl) rfl) rfl rfl S78 (Little_any _ 4 (by omega) (by omega) (by decide) _) fun a81 X81 h81 S81 => ?_
  refine sv h81 (as_val (v' := .string (bs (((([82, 67, 82, 68] ++ zerosL 4) ++ lit q 4) ++ lit st.2.1 2) ++ lit st.2.2 4))) (congrArg _ (bs_app _ _)) (ex_sadd (h81.ev rfl) (h81.ev rfl) (cat_lt (by simp [zerosL_length, lit_length]; try omega)))) fun a82 h82 => ?_
  refine sl_bel h82 (wn rfl) (ex_call (fun _ _ => by kernel_rfl) (h82.evs rfl) rfl) rfl rfl S81 (hZ 46 _ (by decide)) fun a83 X83 h83 S83 => ?_
  refine sv h83 (as_val (v' := .string (bs ((((([82, 67, 82, 68] ++ zerosL 4) ++ lit q 4) ++ lit st.2.1 2) ++ lit st.2.2 4) ++ zerosL 46))) (congrArg _ (bs_app _ _)) (ex_sadd (h83.ev rfl) (h83.ev rfl) (cat_lt (by simp [zerosL_length, lit_length]; try omega)))) fun a84 h84 => ?_
  refine ma h84 rfl rfl fun a85 h85 => ?_
  refine st_nil (go_then (st_seq (st_reg ?_)))
  refine mv h85 rfl rfl fun a86 h86 => ?_
  refine mv h86 rfl rfl fun a87 h87 => ?_
  refine sv h87 (as_val (v' := .string (bs (pgH q st.2.1 st.2.2 st.1))) (congrArg _ (by rw [bs_app, hpgh])) (ex_sadd (h87.ev rfl) (h87.ev rfl) (cat_lt (by rw [hl18, hPI.len]; omega)))) fun a88 h88 => ?_
  refine mv h88 rfl rfl fun a89 h89 => ?_
  refine mv h89 rfl rfl fun a90 h90 => ?_
  refine sv h90 (ex_field (off := 0) (j := 0) (by kernel_rfl) (h90.ev rfl) rfl) fun a91 h91 => ?_
  refine sv h91 (ex_load (by kernel_rfl) (h91.ev rfl) (S83.cell (i := 0) rfl rfl)) fun a92 h92 => ?_
  refine sl_pure h92 (wn rfl) (ex_call (fun _ _ => by kernel_rfl) (h92.evs rfl) rfl) rfl rfl (rUsn_any _ _ _ (by omega) (by omega) (by omega) _) fun a93 h93 => ?_
  refine sl_bel h93 (wn rfl) (ex_call (fun _ _ => by kernel_rfl) (h93.evs rfl) rfl) rfl rfl S83 (Protected_l _ _ (by rw [pgH_length, hPI.len]) (by have := usnP_bd q st.2.2 r.pg; omega) _) fun a94 X94 h94 S94 => ?_
  refine ma h94 rfl rfl fun a95 h95 => ?_
  refine st_nil (go_then (wp_ret ?_))
  refine fin1 h95 rfl rfl ?_
  exact ⟨by unfold pgR; rw [← hfld], S94.below⟩
end Go.Proofs.YtmlilplbdpjfcaaGreatDoor
namespace Go.Proofs.YtmlilplbdpjfcaaGreatDoor
set_option linter.unusedVariables false
set_option linter.unusedSimpArgs false
set_option maxRecDepth 4000
open Go.RowKit Go.Sort
theorem flat_set {ls : List (List UInt8)} {k : Nat} {b : List UInt8} (hall : ∀ l ∈ ls, l.length = 512) (hk : k < ls.length) (hb : b.length = 512) : patL ls.flatten (512 * k) b = (ls.set k b).flatten := by
 have e1 : ls = ls.take k ++ (ls[k] :: ls.drop (k + 1)) := by rw [List.getElem_cons_drop, List.take_append_drop]
 have e2 : ls.set k b = ls.take k ++ (b :: ls.drop (k + 1)) := by rw [List.set_eq_take_append_cons_drop, if_pos hk]
 have e3 : ls.flatten = (ls.take k).flatten ++ (ls[k] ++ (ls.drop (k + 1)).flatten) := by
  rw [show ls.flatten = (ls.take k ++ (ls[k] :: ls.drop (k + 1))).flatten from by rw [← e1], List.flatten_append, List.flatten_cons]
 have hl : ((ls.take k).flatten).length = 512 * k := by
  rw [flat512 _ (fun l hl => hall l (List.mem_of_mem_take hl)), List.length_take, Nat.min_eq_left (by omega)]
 rw [e2, List.flatten_append, List.flatten_cons, e3]
 exact patL_at _ _ _ _ _ hl.symm (by rw [hb, hall _ (List.getElem_mem _)])
theorem patch_set (ls : List (List UInt8)) (k : Nat) (b : List UInt8) (w : World) (hall : ∀ l ∈ ls, l.length = 512) (hk : k < ls.length) (hb : b.length = 512) (hls : ls.length ≤ 1000) :
 Calls Tryz.prog 49 #[.string (bs ls.flatten), .int .i64 ((512 * k : Nat) : Int), .string (bs b)] w fun e w' => e = .returned (.string (bs (ls.set k b).flatten)) ∧ Below w.heap.size w w' := by
 have hf := flat512 ls hall
 rw [← flat_set hall hk hb]
 exact Patch_l _ _ _ w (by omega) (by omega)
theorem zeros_flat : ∀ n : Nat, zerosL (512 * n) = (List.replicate n (zerosL 512)).flatten
 | 0 => rfl
 | n + 1 => by rw [List.replicate_succ, List.flatten_cons, ← zeros_flat n, ← zerosL_add]; congr 1; omega
theorem rBytes_any (r : RngP) (A : Option Addr) (c : Nat) (w : World) (hr : Rd w w.heap.size A (recsV r.rs)) (hok : OkP r) :
 Calls Tryz.prog 54 #[ringV r A c] w fun e w' => e = .returned (.string (bs (rbL r).flatten)) ∧ Below w.heap.size w w' := by
 have hlen : r.rs.length ≤ 1000 := by have := hok.h.len; omega
 have hpg := hok.h.pg
 have hrr := hok.h.rr
 have hb := rooms_bd hok
 have hrp := hok.rooms_pos
 obtain ⟨P, hP⟩ := Int.eq_ofNat_of_zero_le (show 0 ≤ r.pg by omega)
 have hZ : ∀ n w, n ≤ 200000 → Calls Tryz.prog 56 #[.int .i64 (n : Nat)] w fun e w' => e = .returned (.string (bs (zerosL n))) ∧ Below w.heap.size w w' := fun n w h => Zeros_any n w h
 have h00 : zerosL (512 * P) = (List.replicate r.pg.toNat (zerosL 512)).flatten := by rw [zeros_flat, hP]; rfl
 have ha0 : ∀ l ∈ List.replicate r.pg.toNat (zerosL 512), l.length = 512 := fun l hl => by rw [(List.mem_replicate.1 hl).2, zerosL_length]
 have hl0 : (List.replicate r.pg.toNat (zerosL 512)).length = P := by rw [List.length_replicate, hP]; rfl
 have hb0 : ∀ l ∈ rb0 r, l.length = 512 := set_all ha0 (rsL_length _ _)
 have hlb0 : (rb0 r).length = P := by rw [rb0_length, hP]; rfl
 have hm2 : 0 ≤ r.r.s % 2 ∧ r.r.s % 2 < 2 := by omega
 refine st_enter (N := 63) Tryz.func54 rfl rfl rfl (fun a0 h0 => ?_)
 have S0 := St.init w
 refine st_seq (st_reg ?_)
 refine sl_new h0 (wn rfl) (f := fun b => .pointer (some ⟨b, 0, none⟩)) (ex_box (h0.ev rfl)) rfl rfl S0 fun b1 a1 X1 gb1 h1 S1 => ?_
 refine ma h1 rfl rfl fun a2 h2 => ?_
 refine st_nil (go_then (st_seq (st_reg ?_)))
 refine sv h2 (ex_field (off := 0) (j := 0) (by kernel_rfl) (h2.ev rfl) rfl) fun a3 h3 => ?_
 refine sv h3 (ex_load (by kernel_rfl) (h3.ev rfl) (S1.cell (i := 0) rfl rfl)) fun a4 h4 => ?_
 refine sv h4 (as_val (v' := .int .i64 ((512 * P : Nat) : Int)) (congrArg _ (by rw [hP]; push_cast; omega)) (ex_mul (h4.ev rfl) (h4.ev rfl) (by omega))) fun a5 h5 => ?_
 refine sl_bel h5 (wn rfl) (ex_call (fun _ _ => by kernel_rfl) (h5.evs rfl) rfl) rfl rfl S1 (hZ (512 * P) _ (by omega)) fun a6 X6 h6 S6 => ?_
 refine ma h6 rfl rfl fun a7 h7 => ?_
 rw [h00] at h7
 refine st_nil (go_then (st_seq ?_))
 apply dr_flow h7 [false, false, false, false, false, false, false, false, false, false, false] _ (by kernel_rfl)
 case h =>
  refine qv h7 (fun X hX => ex_move (h7.ev rfl)) fun a8 h8 => ?_
  refine qv h8 (fun X hX => ex_field (off := 1) (j := 1) (by kernel_rfl) (h8.ev rfl) rfl) fun a9 h9 => ?_
  refine qv h9 (fun X hX => ex_field (off := 0) (j := 1) (by kernel_rfl) (h9.ev rfl) rfl) fun a10 h10 => ?_
  refine qv h10 (fun X hX => ex_load (by kernel_rfl) (h10.ev rfl) ((S6.grow hX).cell (i := 0) rfl rfl)) fun a11 h11 => ?_
  refine qv h11 (fun X hX => ex_rem (h11.ev rfl) (h11.ev rfl) (by omega)) fun a12 h12 => ?_
  refine qv h12 (fun X hX => as_val (v' := .int .i64 ((512 * (r.r.s % 2).toNat : Nat) : Int)) (congrArg _ (show r.r.s % 2 * 512 = ((512 * (r.r.s % 2).toNat : Nat) : Int) by omega)) (ex_mul (h12.ev rfl) (h12.ev rfl) (by omega))) fun a13 h13 => ?_
  refine qv h13 (fun X hX => ex_field (off := 1) (j := 1) (by kernel_rfl) (h13.ev rfl) rfl) fun a14 h14 => ?_
  refine qv (v := rstV r.r) h14 (fun X hX => ex_loads (by kernel_rfl) (by kernel_rfl) (h14.ev rfl) ((S6.grow hX).cellsOf (i := 0) rfl 1 3)) fun a15 h15 => ?_
  refine qv h15 (fun X hX => ex_field (off := 0) (j := 0) (by kernel_rfl) (h15.ev rfl) rfl) fun a16 h16 => ?_
  refine qv h16 (fun X hX => ex_load (by kernel_rfl) (h16.ev rfl) ((S6.grow hX).cell (i := 0) rfl rfl)) fun a17 h17 => ?_
  refine sq_bel h17 (wn rfl) rfl rfl (fun X => (ex_call (fun _ _ => by kernel_rfl) (h17.evs rfl) rfl)) (fun X hX => rRestartPage_any r.r r.pg (by omega) (by omega) (by omega) (by omega) _) fun a18 h18 => ?_
  refine sq_nil ?_
  refine nd_end fun X19 hX19 hΦ19 => ?_
  have S19 := S6.grow hX19
  refine sl_bel h18 (wn rfl) (ex_call (fun _ _ => by kernel_rfl) (h18.evs rfl) rfl) rfl rfl S19 (patch_set _ (r.r.s % 2).toNat (rsL r.r r.pg) _ ha0 (by omega) (rsL_length _ _) (by omega)) fun a20 X20 h20 S20 => ?_
  refine ma h20 rfl rfl fun a21 h21 => ?_
  refine st_nil (go_then (st_seq (st_seq (st_reg ?_))))
  refine sv h21 (ex_field (off := 4) (j := 4) (by kernel_rfl) (h21.ev rfl) rfl) fun a22 h22 => ?_
  refine sv (v := rstV r.e) h22 (ex_loads (by kernel_rfl) (by kernel_rfl) (h22.ev rfl) (S20.cellsOf (i := 0) rfl 4 3)) fun a23 h23 => ?_
  refine sv (v := rstV rst0) h23 (ex_build (zs := [.int .i64 0, .int .i64 0, .int .i64 0]) (pl := [(0, 1), (1, 1), (2, 1)]) (by kernel_rfl) (by kernel_rfl) (h23.evs2 rfl) rfl rfl) fun a24 h24 => ?_
  refine sv h24 (ex_tneq (ks := [.i .i64, .i .i64, .i .i64]) (by kernel_rfl) Tryz.underlying23 (by kernel_rfl) (h24.ev rfl) (h24.ev rfl) rfl rfl) fun a25 h25 => ?_
  refine st_nil (go_then ?_)
  refine st_joinH h25 S20 [(3, .string (bs (rb1 r).flatten))] [2, 1] ?_ (fun a26 X26 h26 S26 => ?_)
  ·
   refine st_if (h25.ev rfl) (fun hc0 => ?_) (fun hc0 => ?_)
   ·
    have hne : r.e ≠ rst0 := by
     have e1 : (!eqL [.int .i64 r.e.s, .int .i64 r.e.c, .int .i64 r.e.o] [.int .i64 rst0.s, .int .i64 rst0.c, .int .i64 rst0.o]) = true := hc0
     rw [rst_eqL] at e1; simpa using e1
    have hee : rstB r.e = true := by
     rcases hok.h.e with h | h
     · exact absurd h hne
     · exact h.1
    have heb := rstB_bd hee
    have hrb1 : rb1 r = (rb0 r).set (r.e.s % 2).toNat (rsL r.e r.pg) := by unfold rb1; rw [if_neg hne]
    have he2 : 0 ≤ r.e.s % 2 ∧ r.e.s % 2 < 2 := by omega
    apply dr_flow h25 [false, false, false, false, false, false, false, false, false, false, false] _ (by kernel_rfl)
    case h =>
     refine qv h25 (fun X hX => ex_move (h25.ev rfl)) fun a27 h27 => ?_
     refine qv h27 (fun X hX => ex_field (off := 4) (j := 4) (by kernel_rfl) (h27.ev rfl) rfl) fun a28 h28 => ?_
     refine qv h28 (fun X hX => ex_field (off := 0) (j := 4) (by kernel_rfl) (h28.ev rfl) rfl) fun a29 h29 => ?_
     refine qv h29 (fun X hX => ex_load (by kernel_rfl) (h29.ev rfl) ((S20.grow hX).cell (i := 0) rfl rfl)) fun a30 h30 => ?_
     refine qv h30 (fun X hX => ex_rem (h30.ev rfl) (h30.ev rfl) (by omega)) fun a31 h31 => ?_
     refine qv h31 (fun X hX => as_val (v' := .int .i64 ((512 * (r.e.s % 2).toNat : Nat) : Int)) (congrArg _ (show r.e.s % 2 * 512 = ((512 * (r.e.s % 2).toNat : Nat) : Int) by omega)) (ex_mul (h31.ev rfl) (h31.ev rfl) (by omega))) fun a32 h32 => ?_
     refine qv h32 (fun X hX => ex_field (off := 4) (j := 4) (by kernel_rfl) (h32.ev rfl) rfl) fun a33 h33 => ?_
     refine qv (v := rstV r.e) h33 (fun X hX => ex_loads (by kernel_rfl) (by kernel_rfl) (h33.ev rfl) ((S20.grow hX).cellsOf (i := 0) rfl 4 3)) fun a34 h34 => ?_
     refine qv h34 (fun X hX => ex_field (off := 0) (j := 0) (by kernel_rfl) (h34.ev rfl) rfl) fun a35 h35 => ?_
     refine qv h35 (fun X hX => ex_load (by kernel_rfl) (h35.ev rfl) ((S20.grow hX).cell (i := 0) rfl rfl)) fun a36 h36 => ?_
     refine sq_bel h36 (wn rfl) rfl rfl (fun X => (ex_call (fun _ _ => by kernel_rfl) (h36.evs rfl) rfl)) (fun X hX => rRestartPage_any r.e r.pg (by omega) (by omega) (by omega) (by omega) _) fun a37 h37 => ?_
     refine sq_nil ?_
     refine nd_end fun X38 hX38 hΦ38 => ?_
     have S38 := S20.grow hX38
     refine sl_bel h37 (wn rfl) (ex_call (fun _ _ => by kernel_rfl) (h37.evs rfl) rfl) rfl rfl S38 (patch_set (rb0 r) (r.e.s % 2).toNat (rsL r.e r.pg) _ hb0 (by omega) (rsL_length _ _) (by omega)) fun a39 X39 h39 S39 => ?_
     refine ma h39 rfl rfl fun a40 h40 => ?_
     refine st_nil (go_then ?_)
     rw [← hrb1] at h40
     exact ⟨h40.re ⟨rfl, rfl, rfl, trivial⟩, S39⟩
    case hB => kernel_rfl
    case hst => rfl
   ·
    have heq : r.e = rst0 := by
     have e1 : (!eqL [.int .i64 r.e.s, .int .i64 r.e.c, .int .i64 r.e.o] [.int .i64 rst0.s, .int .i64 rst0.c, .int .i64 rst0.o]) = false := hc0
     rw [rst_eqL] at e1; simpa using e1
    have hrb1 : rb1 r = rb0 r := by unfold rb1; rw [if_pos heq]
    refine wp_skip (go_then ?_)
    have h3 : (List.replicate r.pg.toNat (zerosL 512)).set (r.r.s % 2).toNat (rsL r.r r.pg) = rb1 r := hrb1.symm
    rw [h3] at h25
    exact ⟨h25.re ⟨rfl, rfl, rfl, trivial⟩, S20⟩
  ·
   refine go_then (st_seq (st_reg ?_))
   refine sv (v := ringV r A c) h26 (ex_loads (by kernel_rfl) (by kernel_rfl) (h26.ev rfl) (S26.cellsAll (i := 0) rfl)) fun a41 h41 => ?_
   refine sl_bel h41 (wn rfl) (ex_call (fun _ _ => by kernel_rfl) (h41.evs rfl) rfl) rfl rfl S26 (rRooms_any r A c _ (S26.rd0 hr) hok.last hok.o hlen) fun a42 X42 h42 S42 => ?_
   refine mv h42 rfl rfl fun a43 h43 => ?_
   refine sv h43 (ex_extract (h43.ev rfl) rfl) fun a44 h44 => ?_
   refine sv h44 (ex_extract (h44.ev rfl) rfl) fun a45 h45 => ?_
   refine ma h45 rfl rfl fun a46 h46 => ?_
   refine ma h46 rfl rfl fun a47 h47 => ?_
   refine st_nil (go_then (st_seq (st_seq (st_reg ?_))))
   refine sv h47 (as_val (v' := .int .i64 ((roomsP r).1 + ((0 : Nat) : Int))) (congrArg _ (by omega)) (ex_move (h47.ev rfl))) fun a48 h48 => ?_
   refine ma h48 rfl rfl fun a49 h49 => ?_
   refine st_nil (go_then (wp_block ?_))
   refine st_loop h49 S42 [5, 4, 2, 1] (fun (k : Nat) => [(6, .int .i64 ((roomsP r).1 + (k : Int))), (3, .string (bs (rbK r k).flatten))]) (fun (k : Nat) => k ≤ (roomsP r).2.toNat) (fun (k : Nat) L => L) (fun (k : Nat) => (roomsP r).2.toNat - k) (0) (Nat.zero_le _) ⟨rfl, rfl, rfl, rfl, rfl, rfl, trivial⟩ (S42) ?_
   intro k a50 X50 hF0 h50 S50
   refine st_seq (st_seq (st_reg ?_))
   refine mv h50 rfl rfl fun a51 h51 => ?_
   refine mv h51 rfl rfl fun a52 h52 => ?_
   refine mv h52 rfl rfl fun a53 h53 => ?_
   refine sv h53 (ex_add (h53.ev rfl) (h53.ev rfl) (by omega)) fun a54 h54 => ?_
   refine sv h54 (ex_lss (h54.ev rfl) (h54.ev rfl)) fun a55 h55 => ?_
   refine st_nil (go_then ?_)
   refine st_if (h55.ev rfl) (fun hc1 => ?_) (fun hc1 => ?_)
   ·
    have hlt : (roomsP r).1 + (k : Int) < (roomsP r).1 + (roomsP r).2 := of_decide_eq_true hc1
    obtain ⟨Q, hQ⟩ := Int.eq_ofNat_of_zero_le (show 0 ≤ (roomsP r).1 + (k : Int) by omega)
    have hPO : ∀ w, Calls Tryz.prog 98 #[.int .i64 ((roomsP r).1 + (k : Int)), .int .i64 r.pg] w fun e w' => e = .returned (.int .i64 (2 + ((roomsP r).1 + (k : Int)) % (r.pg - 2))) ∧ w = w' := fun w => by
     have h := rPageOf_any Q P (by omega) (by omega) w
     rw [hQ, hP, show (2 + (Q : Int) % ((P : Int) - 2)) = ((2 + Q % (P - 2) : Nat) : Int) by rw [show ((P : Int) - 2) = ((P - 2 : Nat) : Int) by omega, ← Int.natCast_emod]; push_cast; rfl]
     exact h
    have hm : 0 ≤ ((roomsP r).1 + (k : Int)) % (r.pg - 2) ∧ ((roomsP r).1 + (k : Int)) % (r.pg - 2) < r.pg - 2 := ⟨Int.emod_nonneg _ (by omega), Int.emod_lt_of_pos _ (by omega)⟩
    have hbk := rbK_all r hok k
    have hlk := rbK_length r k
    refine wp_skip (go_then (st_seq (wp_block ?_)))
    apply dr_flow h55 [false, false, false, false, false, false, false, false, false] _ (by kernel_rfl)
    case h =>
     refine qv h55 (fun X hX => ex_move (h55.ev rfl)) fun a56 h56 => ?_
     refine qv h56 (fun X hX => ex_move (h56.ev rfl)) fun a57 h57 => ?_
     refine qv h57 (fun X hX => ex_field (off := 0) (j := 0) (by kernel_rfl) (h57.ev rfl) rfl) fun a58 h58 => ?_
     refine qv h58 (fun X hX => ex_load (by kernel_rfl) (h58.ev rfl) ((S50.grow hX).cell (i := 0) rfl rfl)) fun a59 h59 => ?_
     refine sq_pure h59 (wn rfl) rfl rfl (fun X => (ex_call (fun _ _ => by kernel_rfl) (h59.evs rfl) rfl)) (fun X hX => hPO _) fun a60 h60 => ?_
     refine qv h60 (fun X hX => as_val (v' := .int .i64 ((512 * (2 + ((roomsP r).1 + (k : Int)) % (r.pg - 2)).toNat : Nat) : Int)) (congrArg _ (show (2 + ((roomsP r).1 + (k : Int)) % (r.pg - 2)) * 512 = ((512 * (2 + ((roomsP r).1 + (k : Int)) % (r.pg - 2)).toNat : Nat) : Int) by omega)) (ex_mul (h60.ev rfl) (h60.ev rfl) (by omega))) fun a61 h61 => ?_
     refine qv (v := ringV r A c) h61 (fun X hX => ex_loads (by kernel_rfl) (by kernel_rfl) (h61.ev rfl) ((S50.grow hX).cellsAll (i := 0) rfl)) fun a62 h62 => ?_
     refine qv h62 (fun X hX => ex_move (h62.ev rfl)) fun a63 h63 => ?_
     refine sq_bel h63 (wn rfl) rfl rfl (fun X => (ex_call (fun _ _ => by kernel_rfl) (h63.evs rfl) rfl)) (fun X hX => rPage_any r A c _ _ ((S50.grow hX).rd0 hr) hok (by omega)) fun a64 h64 => ?_
     refine sq_nil ?_
     refine nd_end fun X65 hX65 hΦ65 => ?_
     have S65 := S50.grow hX65
     refine sl_bel h64 (wn rfl) (ex_call (fun _ _ => by kernel_rfl) (h64.evs rfl) rfl) rfl rfl S65 (patch_set (rbK r k) (2 + ((roomsP r).1 + (k : Int)) % (r.pg - 2)).toNat (pgR r ((roomsP r).1 + (k : Int))) _ hbk (by omega) (pgR_length r _ hok) (by omega)) fun a66 X66 h66 S66 => ?_
     refine ma h66 rfl rfl fun a67 h67 => ?_
     refine st_nil (go_block (go_then (st_reg ?_)))
     refine mv h67 rfl rfl fun a68 h68 => ?_
     refine sv h68 (as_val (v' := .int .i64 ((roomsP r).1 + ((k + 1 : Nat) : Int))) (congrArg _ (by omega)) (ex_add (h68.ev rfl) (h68.ev rfl) (by omega))) fun a69 h69 => ?_
     refine ma h69 rfl rfl fun a70 h70 => ?_
     refine st_nil (go_then ?_)
     exact ⟨k + 1, (by omega), (by omega), h70.re ⟨rfl, rfl, rfl, rfl, rfl, rfl, trivial⟩, S66⟩
    case hB => kernel_rfl
    case hst => rfl
   ·
    have hge : k = (roomsP r).2.toNat := by have := of_decide_eq_false hc1; omega
    refine wp_exit ?_
    refine go_exit_then ?_
    refine go_exit_then ?_
    refine go_exit ?_
    refine go_then (st_seq (st_reg ?_))
    refine mv h55 rfl rfl fun a71 h71 => ?_
    refine ma h71 rfl rfl fun a72 h72 => ?_
    refine st_nil (go_then (wp_ret ?_))
    refine fin1 h72 rfl rfl ?_
    exact ⟨by unfold rbL; rw [← hge], S50.below⟩
 case hB => kernel_rfl
 case hst => rfl
end Go.Proofs.YtmlilplbdpjfcaaGreatDoor
