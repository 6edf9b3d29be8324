/-
  Chapter 20: the page of a room, the reference's way.
-/
import Derived.Test.YtmlilplbdpjfcaaGreatDoorRg34
namespace Go.Proofs.YtmlilplbdpjfcaaGreatDoor
set_option linter.unusedVariables false
set_option linter.unusedSimpArgs false
set_option maxRecDepth 4000
open Go.RowKit Go.Sort
def pgB (q : Int) (st : List UInt8 × Int × Int) (x : RecP) (k : Nat) : List UInt8 × Int × Int :=
  if min ((q + 1) * 448) (x.l - 1 + k) ≤ frR q x then st
  else (patL st.1 (frR q x - q * 448).toNat (((encR x).drop (frR q x - (x.l - 1)).toNat).take (min ((q + 1) * 448) (x.l - 1 + k) - frR q x).toNat), min ((q + 1) * 448) (x.l - 1 + k) - q * 448, x.s)
theorem pgB_zero (q : Int) (st : List UInt8 × Int × Int) (x : RecP) : pgB q st x 0 = st := by
  unfold pgB frR
  rw [if_pos (by omega)]
theorem pgB_all (q : Int) (st : List UInt8 × Int × Int) {x : RecP} (h : x.b.size ≤ 3000) : pgB q st x (encR x).length = pgStp q st x := by
  have h1 := encR_length h
  rw [pgStp_eq]
  unfold pgB toR cutR bhR
  rw [h1]
  rfl
theorem patL_snoc {l b : List UInt8} {a : Nat} {e : UInt8} (h : a + b.length + 1 ≤ l.length) : patL l a (b ++ [e]) = patL (patL l a b) (a + b.length) [e] := by
  have hl : (patL l a b).length = l.length := patL_length (by omega)
  have hs : (b ++ [e]).length = b.length + 1 := by simp
  refine list_ext_getD ?_ fun i hi => ?_
  · rw [patL_length (by rw [hs]; omega), patL_length (by rw [hl]; simp; omega), hl]
  · rw [patL_getD (by rw [hs]; omega), patL_getD (by rw [hl]; simp; omega), hs]
    simp only [List.length_cons, List.length_nil]
    by_cases h1 : i = a + b.length
    · rw [if_pos (by omega), if_pos (by omega), h1]
      simp [List.getD_eq_getElem?_getD]
    · rw [patL_getD (by omega)]
      by_cases h2 : a ≤ i ∧ i < a + b.length
      · rw [if_pos (by omega), if_neg (by omega), if_pos h2]
        simp only [List.getD_eq_getElem?_getD]
        rw [List.getElem?_append_left (by omega)]
      · rw [if_neg (by omega), if_neg (by omega), if_neg h2]
theorem drop_take_succ (l : List UInt8) (d m : Nat) (h : d + m < l.length) : (l.drop d).take (m + 1) = (l.drop d).take m ++ [l[d + m]] := by
  rw [List.take_add_one, List.getElem?_drop, List.getElem?_eq_getElem h]; rfl
theorem pgB_out {q : Int} {st : List UInt8 × Int × Int} {x : RecP} {k : Nat} (h : ¬ (q * 448 ≤ x.l - 1 + k ∧ x.l - 1 + k < (q + 1) * 448)) : pgB q st x (k + 1) = pgB q st x k := by
  have hf : frR q x = max (q * 448) (x.l - 1) := rfl
  unfold pgB
  rcases Int.lt_or_le (x.l - 1 + k) (q * 448) with h1 | h1
  · rw [if_pos (by omega), if_pos (by omega)]
  · have e : min ((q + 1) * 448) (x.l - 1 + ((k + 1 : Nat) : Int)) = min ((q + 1) * 448) (x.l - 1 + (k : Int)) := by omega
    rw [e]
theorem pgB_in {q : Int} {st : List UInt8 × Int × Int} {x : RecP} {k : Nat} (hk : k < (encR x).length) (hl : st.1.length = 448) (h : q * 448 ≤ x.l - 1 + k ∧ x.l - 1 + k < (q + 1) * 448) :
    pgB q st x (k + 1) = (patL (pgB q st x k).1 (x.l - 1 + k - q * 448).toNat [(encR x)[k]], x.l - 1 + k - q * 448 + 1, x.s) := by
  have hf : frR q x = max (q * 448) (x.l - 1) := rfl
  obtain ⟨f, hfe⟩ : ∃ f, f = frR q x := ⟨_, rfl⟩
  rw [← hfe] at hf
  have e1 : min ((q + 1) * 448) (x.l - 1 + ((k + 1 : Nat) : Int)) = x.l - 1 + k + 1 := by omega
  have e0 : min ((q + 1) * 448) (x.l - 1 + (k : Int)) = x.l - 1 + k := by omega
  unfold pgB
  rw [e1, e0, ← hfe, if_neg (by omega)]
  rcases Int.lt_or_le f (x.l - 1 + k) with h1 | h1
  · rw [if_neg (by omega)]
    obtain ⟨d, hd⟩ := Int.eq_ofNat_of_zero_le (show 0 ≤ f - (x.l - 1) by omega)
    obtain ⟨m, hm⟩ := Int.eq_ofNat_of_zero_le (show 0 ≤ x.l - 1 + k - f by omega)
    obtain ⟨a, ha⟩ := Int.eq_ofNat_of_zero_le (show 0 ≤ f - q * 448 by omega)
    rw [show x.l - 1 + (k : Int) + 1 - f = ((m + 1 : Nat) : Int) by omega, hd, hm, ha, show x.l - 1 + (k : Int) - q * 448 = ((a + m : Nat) : Int) by omega]
    simp only [Int.toNat_natCast]
    rw [drop_take_succ _ _ _ (by omega)]
    have hlm : ((List.drop d (encR x)).take m).length = m := by rw [List.length_take, List.length_drop]; omega
    have ek : d + m = k := by omega
    refine Prod.ext ?_ (Prod.ext ?_ rfl)
    · show patL st.1 a _ = _
      rw [patL_snoc (by rw [hlm, hl]; omega), hlm]
      simp only [ek]
    · show x.l - 1 + (k : Int) + 1 - q * 448 = ((a + m : Nat) : Int) + 1
      omega
  · rw [if_pos (by omega)]
    have hfk : f = x.l - 1 + k := by omega
    rw [hfk]
    refine Prod.ext ?_ (Prod.ext ?_ rfl)
    · show patL st.1 (x.l - 1 + (k : Int) - q * 448).toNat _ = _
      congr 1
      rw [show x.l - 1 + (k : Int) - (x.l - 1) = (k : Int) by omega, show x.l - 1 + (k : Int) + 1 - (x.l - 1 + k) = ((0 + 1 : Nat) : Int) by omega, Int.toNat_natCast, Int.toNat_natCast, drop_take_succ _ _ _ (by omega)]
      simp
    · show x.l - 1 + (k : Int) + 1 - q * 448 = x.l - 1 + (k : Int) - q * 448 + 1
      omega
theorem pgB_length {q : Int} {st : List UInt8 × Int × Int} {x : RecP} (hl : st.1.length = 448) : ∀ k, k ≤ (encR x).length → (pgB q st x k).1.length = 448
  | 0, _ => by rw [pgB_zero]; exact hl
  | k + 1, hk => by
    have ih := pgB_length (q := q) (x := x) hl k (by omega)
    by_cases h : q * 448 ≤ x.l - 1 + k ∧ x.l - 1 + k < (q + 1) * 448
    · rw [pgB_in (by omega) hl h]
      show (patL _ _ _).length = 448
      rw [patL_length (by rw [ih]; simp; omega), ih]
    · rw [pgB_out h]; exact ih
theorem pgK_seq {q : Int} {l : List RecP} (h : ∀ x ∈ l, 0 ≤ x.s ∧ x.s ≤ 60000) : ∀ k, k ≤ l.length → 0 ≤ (pgK q l k).2.2 ∧ (pgK q l k).2.2 ≤ 60000
  | 0, _ => by show (0 : Int) ≤ 0 ∧ (0 : Int) ≤ 60000; decide
  | k + 1, hk => by
    rw [pgK_succ q l k (by omega), pgStp_eq]
    split
    · exact pgK_seq h k (by omega)
    · exact h _ (List.getElem_mem _)
theorem rPage_any (r : RngP) (A : Option Addr) (c : Nat) (q : Int) (w : World) (hr : Rd w w.heap.size A (recsV r.rs)) (hok : OkP r) (hq : 0 ≤ q ∧ q ≤ 100000000) :
    Calls Tryz.prog 53 #[ringV r A c, .int .i64 q] w fun e w' => e = .returned (.string (bs (pgR r q))) ∧ Below w.heap.size w w' := by
  have hlen : r.rs.length ≤ 1000 := by have := hok.h.len; omega
  have hrr := hok.h.rr
  have hpg := hok.h.pg
  have hseq : ∀ x ∈ r.rs, 0 ≤ x.s ∧ x.s ≤ 60000 := fun x hx => by
    obtain ⟨k, hk, rfl⟩ := List.getElem_of_mem hx
    have := inB_true.1 (hok.rz hk).2.2.2.1
    omega
  have hZ : ∀ n w, n ≤ 200000 → Calls Tryz.prog 56 #[.int .i64 (n : Nat)] w fun e w' => e = .returned (.string (bs (zerosL n))) ∧ Below w.heap.size w w' := fun n w h => Zeros_any n w h
  have hI := pgK_inv q hok.all hrr.2.2.2
  refine st_enter (N := 86) Tryz.func53 rfl rfl rfl (fun a0 h0 => ?_)
  have S0 := St.init w
  refine st_seq (st_reg ?_)
  refine sl_new h0 (wn rfl) (f := fun b => .pointer (some ⟨b, 0, none⟩)) (ex_box (h0.ev rfl)) rfl rfl S0 fun b2 a1 X1 gb2 h1 S1 => ?_
  refine ma h1 rfl rfl fun a2 h2 => ?_
  refine st_nil (go_then (st_seq (st_reg ?_)))
  refine sl_bel h2 (wn rfl) (ex_call (fun _ _ => by kernel_rfl) (h2.evs rfl) rfl) rfl rfl S1 (hZ 448 _ (by decide)) fun a3 X3 h3 S3 => ?_
  refine ma h3 rfl rfl fun a4 h4 => ?_
  refine ma h4 rfl rfl fun a5 h5 => ?_
  refine ma h5 rfl rfl fun a6 h6 => ?_
  refine st_nil (go_then (st_seq (st_seq (st_reg ?_))))
  refine ma h6 rfl rfl fun a7 h7 => ?_
  refine st_nil (go_then (wp_block ?_))
  refine st_loop h7 S3 [4, 2, 1] (fun (v : Nat × List UInt8 × Int × Int) => [(8, .int .i64 (v.1 : Nat)), (5, .string (bs v.2.1)), (6, .int .i64 v.2.2.1), (7, .int .i64 v.2.2.2)]) (fun (v : Nat × List UInt8 × Int × Int) => v.1 ≤ r.rs.length ∧ v.2 = pgK q r.rs v.1) (fun (v : Nat × List UInt8 × Int × Int) L => L) (fun (v : Nat × List UInt8 × Int × Int) => r.rs.length - v.1) ((0, zerosL 448, 0, 0)) (⟨Nat.zero_le _, rfl⟩) ⟨rfl, rfl, rfl, rfl, rfl, rfl, rfl, trivial⟩ (S3) ?_
  intro v a8 X8 hF0 h8 S8
  refine st_seq (st_seq (st_reg ?_))
  refine mv h8 rfl rfl fun a9 h9 => ?_
  refine sl_val h9 (wn rfl) (ex_field (off := 7) (j := 7) (by kernel_rfl) (h9.ev rfl) rfl) rfl rfl fun a10 h10 => ?_
  refine sl_val h10 (wn rfl) (ex_load (by kernel_rfl) (h10.ev rfl) (S8.cell (i := 0) rfl rfl)) rfl rfl fun a11 h11 => ?_
  refine sl_val h11 (wn rfl) (ex_len Tryz.underlying24 (h11.ev rfl)) rfl rfl fun a12 h12 => ?_
  refine sl_val h12 (wn rfl) (ex_lss (h12.ev rfl) (h12.ev rfl)) rfl rfl fun a13 h13 => ?_
  refine st_nil (go_then ?_)
  refine st_if (h13.ev rfl) (fun hc0 => ?_) (fun hc0 => ?_)
  · skip
    have hlt : v.1 < r.rs.length := by have := of_decide_eq_true hc0; omega
    obtain ⟨b, o, rfl, _⟩ := hr.opened (by rw [recsV_length]; omega)
    have hrc := hok.rcd v.1 hlt
    obtain ⟨E, hE⟩ : ∃ E, E = encR r.rs[v.1] := ⟨_, rfl⟩
    have hEl := encR_length hrc.2.2
    have hEz := szR_in hrc.2.2
    rw [← hE] at hEl
    have hEs := bs_size E
    have hstl : v.2.1.length = 448 := by rw [hF0.2]; obtain ⟨e, h1, _⟩ := hI v.1 (by omega); exact h1.len
    have hRB : ∀ w, Calls Tryz.prog 101 #[recV r.rs[v.1]] w fun e w' => e = .returned (.string (bs E)) ∧ Below w.heap.size w w' := fun w => by
      rw [hE]; exact rrecordBytes_any _ hrc.2.2 (by omega) w
    refine wp_skip (go_then (st_seq (wp_block (st_seq (st_reg ?_)))))
    refine sl_val h13 (wn rfl) (ex_field (off := 7) (j := 7) (by kernel_rfl) (h13.ev rfl) rfl) rfl rfl fun a14 h14 => ?_
    refine sl_val h14 (wn rfl) (ex_load (by kernel_rfl) (h14.ev rfl) (S8.cell (i := 0) rfl rfl)) rfl rfl fun a15 h15 => ?_
    refine mv h15 rfl rfl fun a16 h16 => ?_
    refine sl_val h16 (wn rfl) (ex_index (i := v.1) (sz := 3) Tryz.underlying24 (by kernel_rfl) (h16.ev rfl) (h16.ev rfl) (by omega) (by omega) rfl) rfl rfl fun a17 h17 => ?_
    refine sl_val (v := recV r.rs[v.1]) h17 (wn rfl) (ex_loads (by kernel_rfl) (by kernel_rfl) (h17.ev rfl) (recAt (S8.rd0 hr) hlt)) rfl rfl fun a18 h18 => ?_
    refine sl_bel h18 (wn rfl) (ex_call (fun _ _ => by kernel_rfl) (h18.evs rfl) rfl) rfl rfl S8 (hRB _) fun a19 X19 h19 S19 => ?_
    refine ma h19 rfl rfl fun a20 h20 => ?_
    refine st_nil (go_then (st_seq (st_reg ?_)))
    refine ma h20 rfl rfl fun a21 h21 => ?_
    refine st_nil (go_then (wp_block ?_))
    refine st_loop h21 S19 [9, 26, 25, 24, 23, 22, 21, 18, 17, 16, 15, 14, 8, 4, 2, 1] (fun (u : Nat × List UInt8 × Int × Int) => [(10, .int .i64 (u.1 : Nat)), (5, .string (bs u.2.1)), (6, .int .i64 u.2.2.1), (7, .int .i64 u.2.2.2)]) (fun (u : Nat × List UInt8 × Int × Int) => u.1 ≤ E.length ∧ u.2 = pgB q v.2 r.rs[v.1] u.1) (fun (u : Nat × List UInt8 × Int × Int) L => L) (fun (u : Nat × List UInt8 × Int × Int) => E.length - u.1) ((0, v.2)) (⟨Nat.zero_le _, (pgB_zero _ _ _).symm⟩) ⟨rfl, rfl, rfl, rfl, rfl, rfl, rfl, rfl, rfl, rfl, rfl, rfl, rfl, rfl, rfl, rfl, rfl, rfl, rfl, rfl, trivial⟩ (S19) ?_
    intro u a22 X22 hF1 h22 S22
    refine st_seq (st_seq (st_reg ?_))
    refine mv h22 rfl rfl fun a23 h23 => ?_
    refine mv h23 rfl rfl fun a24 h24 => ?_
    refine sl_val h24 (wn rfl) (ex_slen Tryz.underlying9 (h24.ev rfl)) rfl rfl fun a25 h25 => ?_
    refine sl_val h25 (wn rfl) (ex_lss (h25.ev rfl) (h25.ev rfl)) rfl rfl fun a26 h26 => ?_
    refine st_nil (go_then ?_)
    refine st_if (h26.ev rfl) (fun hc1 => ?_) (fun hc1 => ?_)
    · skip
      have hltu : u.1 < E.length := by have := of_decide_eq_true hc1; omega
      have hul : u.2.1.length = 448 := by rw [hF1.2]; exact pgB_length hstl u.1 (by rw [← hE]; omega)
      obtain ⟨p, hp⟩ := Int.eq_ofNat_of_zero_le (show 0 ≤ r.rs[v.1].l - 1 + (u.1 : Int) by omega)
      refine wp_skip (go_then (st_seq (wp_block (st_seq (st_reg ?_)))))
      refine sl_val h26 (wn rfl) (ex_field (off := 7) (j := 7) (by kernel_rfl) (h26.ev rfl) rfl) rfl rfl fun a27 h27 => ?_
      refine sl_val h27 (wn rfl) (ex_load (by kernel_rfl) (h27.ev rfl) (S22.cell (i := 0) rfl rfl)) rfl rfl fun a28 h28 => ?_
      refine mv h28 rfl rfl fun a29 h29 => ?_
      refine sl_val h29 (wn rfl) (ex_index (i := v.1) (sz := 3) Tryz.underlying24 (by kernel_rfl) (h29.ev rfl) (h29.ev rfl) (by omega) (by omega) rfl) rfl rfl fun a30 h30 => ?_
      refine sl_val h30 (wn rfl) (ex_field (off := 0) (by kernel_rfl) (h30.ev rfl) rfl) rfl rfl fun a31 h31 => ?_
      refine sl_val h31 (wn rfl) (ex_load (by kernel_rfl) (h31.ev rfl) ((recAt (S22.rd0 hr) hlt) 0 _ rfl)) rfl rfl fun a32 h32 => ?_
      refine sl_val h32 (wn rfl) (ex_sub (h32.ev rfl) (h32.ev rfl) (by omega)) rfl rfl fun a33 h33 => ?_
      refine mv h33 rfl rfl fun a34 h34 => ?_
      refine sl_val h34 (wn rfl) (ex_add (h34.ev rfl) (h34.ev rfl) (by omega)) rfl rfl fun a35 h35 => ?_
      refine ma h35 rfl rfl fun a36 h36 => ?_
      refine st_nil (go_then (st_seq (st_reg ?_)))
      refine mv h36 rfl rfl fun a37 h37 => ?_
      refine sl_pure h37 (wn rfl) (ex_call (fun _ _ => by kernel_rfl) (h37.evs rfl) rfl) rfl rfl (rroom_any _ (by omega) _) fun a38 h38 => ?_
      refine mv h38 rfl rfl fun a39 h39 => ?_
      refine sl_val h39 (wn rfl) (ex_eql (h39.ev rfl) (h39.ev rfl)) rfl rfl fun a40 h40 => ?_
      refine st_nil (go_then ?_)
      refine st_if (h40.ev rfl) (fun hc2 => ?_) (fun hc2 => ?_)
      · skip
        have hroom : q * 448 ≤ r.rs[v.1].l - 1 + u.1 ∧ r.rs[v.1].l - 1 + u.1 < (q + 1) * 448 := by have := eq_of_beq hc2; omega
        have hin2 : (patL u.2.1 (r.rs[v.1].l - 1 + u.1 - q * 448).toNat [E[u.1]], r.rs[v.1].l - 1 + u.1 - q * 448 + 1, r.rs[v.1].s) = pgB q v.2 r.rs[v.1] (u.1 + 1) := by
          rw [pgB_in (by rw [← hE]; exact hltu) hstl hroom, ← hF1.2]
          simp only [hE]
        refine st_seq (st_reg ?_)
        refine mv h40 rfl rfl fun a41 h41 => ?_
        refine mv h41 rfl rfl fun a42 h42 => ?_
        refine sl_val h42 (wn rfl) (as_val (v' := .int .i64 (((r.rs[v.1].l - 1 + u.1 - q * 448).toNat : Nat) : Int)) (congrArg _ (by omega)) (ex_rem (h42.ev rfl) (h42.ev rfl) (by omega))) rfl rfl fun a43 h43 => ?_
        refine mv h43 rfl rfl fun a44 h44 => ?_
        refine mv h44 rfl rfl fun a45 h45 => ?_
        refine mv h45 rfl rfl fun a46 h46 => ?_
        refine sl_val h46 (wn rfl) (as_val (v' := .int .i64 ((u.1 + 1 : Nat) : Int)) (congrArg _ (by omega)) (ex_add (h46.ev rfl) (h46.ev rfl) (by omega))) rfl rfl fun a47 h47 => ?_
        refine sl_val h47 (wn rfl) (as_val (v' := .string (bs [E[u.1]])) (congrArg _ (by rw [bs_extract, show u.1 + 1 - u.1 = 0 + 1 by omega, drop_take_succ _ _ _ (by omega)]; rfl)) (ex_sslice (l := u.1) (h := (u.1 + 1)) Tryz.underlying9 (h47.ev rfl) (h47.ev rfl) (h47.ev rfl) (by omega) (by omega))) rfl rfl fun a48 h48 => ?_
        refine sl_bel h48 (wn rfl) (ex_call (fun _ _ => by kernel_rfl) (h48.evs rfl) rfl) rfl rfl S22 (Patch_l u.2.1 [E[u.1]] (r.rs[v.1].l - 1 + u.1 - q * 448).toNat _ (by omega) (by rw [hul]; show (r.rs[v.1].l - 1 + (u.1 : Int) - q * 448).toNat + 1 ≤ 448; omega)) fun a49 X49 h49 S49 => ?_
        refine ma h49 rfl rfl fun a50 h50 => ?_
        refine st_nil (go_then ?_)
        apply dr_flow h50 [false, false, false, false, false, false, false, false, false, false] _ (by kernel_rfl)
        case h =>
         refine sq_val h50 (wn rfl) rfl rfl (fun X hX => (ex_move (h50.ev rfl))) fun a51 h51 => ?_
         refine sq_val h51 (wn rfl) rfl rfl (fun X hX => (ex_rem (h51.ev rfl) (h51.ev rfl) (by omega))) fun a52 h52 => ?_
         refine sq_val h52 (wn rfl) rfl rfl (fun X hX => (as_val (v' := .int .i64 (r.rs[v.1].l - 1 + u.1 - q * 448 + 1)) (congrArg _ (show (r.rs[v.1].l - 1 + (u.1 : Int)) % 448 + 1 = r.rs[v.1].l - 1 + u.1 - q * 448 + 1 by omega)) (ex_add (h52.ev rfl) (h52.ev rfl) (by omega)))) fun a53 h53 => ?_
         refine sq_val h53 (wn rfl) rfl rfl (fun X hX => (ex_field (off := 7) (j := 7) (by kernel_rfl) (h53.ev rfl) rfl)) fun a54 h54 => ?_
         refine sq_val h54 (wn rfl) rfl rfl (fun X hX => (ex_load (by kernel_rfl) (h54.ev rfl) ((S49.grow hX).cell (i := 0) rfl rfl))) fun a55 h55 => ?_
         refine sq_val h55 (wn rfl) rfl rfl (fun X hX => (ex_move (h55.ev rfl))) fun a56 h56 => ?_
         refine sq_val h56 (wn rfl) rfl rfl (fun X hX => (ex_index (i := v.1) (sz := 3) Tryz.underlying24 (by kernel_rfl) (h56.ev rfl) (h56.ev rfl) (by omega) (by omega) rfl)) fun a57 h57 => ?_
         refine sq_val h57 (wn rfl) rfl rfl (fun X hX => (ex_field (off := 1) (by kernel_rfl) (h57.ev rfl) rfl)) fun a58 h58 => ?_
         refine sq_val h58 (wn rfl) rfl rfl (fun X hX => (ex_load (by kernel_rfl) (h58.ev rfl) ((recAt ((S49.grow hX).rd0 hr) hlt) 1 _ rfl))) fun a59 h59 => ?_
         refine sq_val h59 (wn rfl) rfl rfl (fun X hX => (ex_assign (h59.ev rfl))) fun a60 h60 => ?_
         refine sq_nil ?_
         refine nd_end fun X61 hX61 hΦ61 => ?_
         have S61 := S49.grow hX61
         refine ma h60 rfl rfl fun a62 h62 => ?_
         refine st_nil (go_block (go_then (st_reg ?_)))
         refine mv h62 rfl rfl fun a63 h63 => ?_
         refine sl_val h63 (wn rfl) (ex_add (h63.ev rfl) (h63.ev rfl) (by omega)) rfl rfl fun a64 h64 => ?_
         refine ma h64 rfl rfl fun a65 h65 => ?_
         refine st_nil (go_then ?_)
         exact ⟨(u.1 + 1, patL u.2.1 (r.rs[v.1].l - 1 + u.1 - q * 448).toNat [E[u.1]], r.rs[v.1].l - 1 + u.1 - q * 448 + 1, r.rs[v.1].s), (by show E.length - (u.1 + 1) < E.length - u.1; omega), ⟨by show u.1 + 1 ≤ E.length; omega, hin2⟩, h65.re ⟨rfl, rfl, rfl, rfl, rfl, rfl, rfl, rfl, rfl, rfl, rfl, rfl, rfl, rfl, rfl, rfl, rfl, rfl, rfl, rfl, trivial⟩, S61⟩
        case hB => kernel_rfl
        case hst => rfl
      · skip
        have hroom : ¬ (q * 448 ≤ r.rs[v.1].l - 1 + u.1 ∧ r.rs[v.1].l - 1 + u.1 < (q + 1) * 448) := by
          intro h
          have h2 : ¬ ((r.rs[v.1].l - 1 + (u.1 : Int)) / 448 = q) := by simpa using hc2
          omega
        have hout2 : u.2 = pgB q v.2 r.rs[v.1] (u.1 + 1) := by rw [pgB_out hroom]; exact hF1.2
        refine wp_skip (go_block (go_then (st_reg ?_)))
        refine mv h40 rfl rfl fun a66 h66 => ?_
        refine sl_val h66 (wn rfl) (ex_add (h66.ev rfl) (h66.ev rfl) (by omega)) rfl rfl fun a67 h67 => ?_
        refine ma h67 rfl rfl fun a68 h68 => ?_
        refine st_nil (go_then ?_)
        exact ⟨(u.1 + 1, u.2), (by show E.length - (u.1 + 1) < E.length - u.1; omega), ⟨by show u.1 + 1 ≤ E.length; omega, hout2⟩, h68.re ⟨rfl, rfl, rfl, rfl, rfl, rfl, rfl, rfl, rfl, rfl, rfl, rfl, rfl, rfl, rfl, rfl, rfl, rfl, rfl, rfl, trivial⟩, S22⟩
    · skip
      have hgeu : u.1 = E.length := by have := of_decide_eq_false hc1; have := hF1.1; omega
      have hend : u.2 = pgK q r.rs (v.1 + 1) := by
        rw [hF1.2, hgeu, hE, pgB_all _ _ hrc.2.2, pgK_succ q r.rs v.1 hlt, hF0.2]
      refine wp_exit ?_
      refine go_exit_then ?_
      refine go_exit_then ?_
      refine go_exit ?_
      refine go_block (go_then (st_reg ?_))
      refine mv h26 rfl rfl fun a69 h69 => ?_
      refine sl_val h69 (wn rfl) (ex_add (h69.ev rfl) (h69.ev rfl) (by omega)) rfl rfl fun a70 h70 => ?_
      refine ma h70 rfl rfl fun a71 h71 => ?_
      refine st_nil (go_then ?_)
      exact ⟨(v.1 + 1, u.2), (by show r.rs.length - (v.1 + 1) < r.rs.length - v.1; omega), ⟨by show v.1 + 1 ≤ r.rs.length; omega, hend⟩, h71.re ⟨rfl, rfl, rfl, rfl, rfl, rfl, rfl, trivial⟩, S22⟩
  · skip
    have hge : v.1 = r.rs.length := by have := of_decide_eq_false hc0; have := hF0.1; omega
    obtain ⟨st, hst⟩ : ∃ st, st = v.2 := ⟨_, rfl⟩
    have hfld : st = pgFld q r.rs := by rw [hst, hF0.2, hge, pgK_all]
    rw [← hst] at h13
    obtain ⟨e, hPI, _⟩ := hI r.rs.length (Nat.le_refl _)
    rw [pgK_all, ← hfld] at hPI
    have hsq := pgK_seq hseq (q := q) r.rs.length (Nat.le_refl _)
    rw [pgK_all, ← hfld] at hsq
    have hu0 := hPI.u0
    have hu1 := hPI.u1
    have hl18 : ((((([82, 67, 82, 68] ++ zerosL 4) ++ lit q 4) ++ lit st.2.1 2) ++ lit st.2.2 4) ++ zerosL 46).length = 64 := by simp [zerosL_length, lit_length]
    have hpgh : ((((([82, 67, 82, 68] ++ zerosL 4) ++ lit q 4) ++ lit st.2.1 2) ++ lit st.2.2 4) ++ zerosL 46) ++ st.1 = pgH q st.2.1 st.2.2 st.1 := by unfold pgH; simp only [List.append_assoc]
    refine wp_exit ?_
    refine go_exit_then ?_
    refine go_exit_then ?_
    refine go_exit ?_
    refine go_then (st_seq (st_reg ?_))
    refine sl_bel h13 (wn rfl) (ex_call (fun _ _ => by kernel_rfl) (h13.evs rfl) rfl) rfl rfl S8 (hZ 4 _ (by decide)) fun a72 X72 h72 S72 => ?_
    refine sl_val h72 (wn rfl) (as_val (v' := .string (bs ([82, 67, 82, 68] ++ zerosL 4))) (congrArg _ (bs_app _ _)) (ex_sadd (h72.ev rfl) (h72.ev rfl) (cat_lt (by simp [zerosL_length, lit_length]; try omega)))) rfl rfl fun a73 h73 => ?_
    refine mv h73 rfl rfl fun a74 h74 => ?_
    refine sl_bel h74 (wn rfl) (ex_call (fun _ _ => by kernel_rfl) (h74.evs rfl) rfl) rfl rfl S72 (Little_any _ 4 (by omega) (by omega) (by decide) _) fun a75 X75 h75 S75 => ?_
    refine sl_val h75 (wn rfl) (as_val (v' := .string (bs (([82, 67, 82, 68] ++ zerosL 4) ++ lit q 4))) (congrArg _ (bs_app _ _)) (ex_sadd (h75.ev rfl) (h75.ev rfl) (cat_lt (by simp [zerosL_length, lit_length]; try omega)))) rfl rfl fun a76 h76 => ?_
    refine mv h76 rfl rfl fun a77 h77 => ?_
    refine sl_bel h77 (wn rfl) (ex_call (fun _ _ => by kernel_rfl) (h77.evs rfl) rfl) rfl rfl S75 (Little_any _ 2 (by omega) (by omega) (by decide) _) fun a78 X78 h78 S78 => ?_
    refine sl_val h78 (wn rfl) (as_val (v' := .string (bs ((([82, 67, 82, 68] ++ zerosL 4) ++ lit q 4) ++ lit st.2.1 2))) (congrArg _ (bs_app _ _)) (ex_sadd (h78.ev rfl) (h78.ev rfl) (cat_lt (by simp [zerosL_length, lit_length]; try omega)))) rfl rfl fun a79 h79 => ?_
    refine mv h79 rfl rfl fun a80 h80 => ?_
    refine sl_bel h80 (wn rfl) (ex_call (fun _ _ => by kernel_rfl) (h80.evs rfl) rfl) rfl rfl S78 (Little_any _ 4 (by omega) (by omega) (by decide) _) fun a81 X81 h81 S81 => ?_
    refine sl_val h81 (wn rfl) (as_val (v' := .string (bs (((([82, 67, 82, 68] ++ zerosL 4) ++ lit q 4) ++ lit st.2.1 2) ++ lit st.2.2 4))) (congrArg _ (bs_app _ _)) (ex_sadd (h81.ev rfl) (h81.ev rfl) (cat_lt (by simp [zerosL_length, lit_length]; try omega)))) rfl rfl fun a82 h82 => ?_
    refine sl_bel h82 (wn rfl) (ex_call (fun _ _ => by kernel_rfl) (h82.evs rfl) rfl) rfl rfl S81 (hZ 46 _ (by decide)) fun a83 X83 h83 S83 => ?_
    refine sl_val h83 (wn rfl) (as_val (v' := .string (bs ((((([82, 67, 82, 68] ++ zerosL 4) ++ lit q 4) ++ lit st.2.1 2) ++ lit st.2.2 4) ++ zerosL 46))) (congrArg _ (bs_app _ _)) (ex_sadd (h83.ev rfl) (h83.ev rfl) (cat_lt (by simp [zerosL_length, lit_length]; try omega)))) rfl rfl fun a84 h84 => ?_
    refine ma h84 rfl rfl fun a85 h85 => ?_
    refine st_nil (go_then (st_seq (st_reg ?_)))
    refine mv h85 rfl rfl fun a86 h86 => ?_
    refine mv h86 rfl rfl fun a87 h87 => ?_
    refine sl_val h87 (wn rfl) (as_val (v' := .string (bs (pgH q st.2.1 st.2.2 st.1))) (congrArg _ (by rw [bs_app, hpgh])) (ex_sadd (h87.ev rfl) (h87.ev rfl) (cat_lt (by rw [hl18, hPI.len]; omega)))) rfl rfl fun a88 h88 => ?_
    refine mv h88 rfl rfl fun a89 h89 => ?_
    refine mv h89 rfl rfl fun a90 h90 => ?_
    refine sl_val h90 (wn rfl) (ex_field (off := 0) (j := 0) (by kernel_rfl) (h90.ev rfl) rfl) rfl rfl fun a91 h91 => ?_
    refine sl_val h91 (wn rfl) (ex_load (by kernel_rfl) (h91.ev rfl) (S83.cell (i := 0) rfl rfl)) rfl rfl fun a92 h92 => ?_
    refine sl_pure h92 (wn rfl) (ex_call (fun _ _ => by kernel_rfl) (h92.evs rfl) rfl) rfl rfl (rUsn_any _ _ _ (by omega) (by omega) (by omega) _) fun a93 h93 => ?_
    refine sl_bel h93 (wn rfl) (ex_call (fun _ _ => by kernel_rfl) (h93.evs rfl) rfl) rfl rfl S83 (Protected_l _ _ (by rw [pgH_length, hPI.len]) (by have := usnP_bd q st.2.2 r.pg; omega) _) fun a94 X94 h94 S94 => ?_
    refine ma h94 rfl rfl fun a95 h95 => ?_
    refine st_nil (go_then (wp_ret ?_))
    refine fin1 h95 rfl rfl ?_
    exact ⟨by unfold pgR; rw [← hfld], S94.below⟩
end Go.Proofs.YtmlilplbdpjfcaaGreatDoor
