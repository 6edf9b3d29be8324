/-
  Chapter 20: logs with a record more, closed, restarted.
-/
import Derived.Test.YtmlilplbdpjfcaaGreatDoorRg4
import Derived.Test.YtmlilplbdpjfcaaGreatDoorSplC
namespace Go.Proofs.YtmlilplbdpjfcaaGreatDoor
set_option linter.unusedVariables false
set_option maxRecDepth 4000
set_option linter.unusedSimpArgs false
open Go.RowKit Go.Sort
theorem recsV_one (l : List RecP) : ∀ u ∈ recsV l, u.oneCell' = true := by
 intro u hu
 obtain ⟨x, _, hx⟩ := List.mem_flatMap.1 hu
 simp only [recC, List.mem_cons, List.not_mem_nil, or_false] at hx
 rcases hx with rfl | rfl | rfl <;> rfl
theorem recsV_append (l m : List RecP) : recsV (l ++ m) = recsV l ++ recsV m := by unfold recsV; rw [List.flatMap_append]
theorem cloneRec_none (A : Option Addr) (c : Nat) (w : World) :
 Calls Tryz.prog 58 #[.slice A 0 c] w fun e w' => ∃ A', e = .returned (.slice A' 0 0) ∧ w'.ownsRow w.heap.size 98 3 (.slice A' 0 0) 0 [] ∧ Below w.heap.size w w' := by
 refine st_enter (N := 8) Tryz.func58 rfl rfl rfl (fun a0 h0 => ?_)
 have S0 := St.init w
 refine st_seq (st_reg ?_)
 refine ma h0 rfl rfl fun a1 h1 => ?_
 refine st_nil (go_then (st_seq (st_seq (st_reg ?_))))
 refine mv h1 rfl rfl fun a2 h2 => ?_
 refine sv h2 (ex_snil Tryz.underlying24 (by kernel_rfl) (h2.ev rfl) (h2.ev rfl)) fun a3 h3 => ?_
 refine st_nil (go_then ?_)
 refine st_if (h3.ev rfl) (fun hc0 => ?_) (fun hc0 => ?_)
 ·
  refine st_seq (st_reg ?_)
  refine ma h3 rfl rfl fun a4 h4 => ?_
  refine st_nil (go_then (wp_ret (ret_then ?_)))
  refine fin1 h4 rfl rfl ?_
  exact ⟨none, rfl, World.ownsRow_nil _ _ _ _, S0.below⟩
 ·
  refine wp_skip (go_then (st_seq (st_reg ?_)))
  refine sl_bslice (zc := [.int .i64 0, .int .i64 0, .string ⟨#[]⟩]) (sz := 3) h3 (wn rfl) ⟨rfl, rfl⟩ rfl Tryz.underlying24 (by kernel_rfl) (by kernel_rfl) rfl rfl rfl (h3.evs2 rfl) rfl rfl rfl S0 fun b5 a5 X5 gb5 h5 S5 => ?_
  refine mv h5 rfl rfl fun a6 h6 => ?_
  refine sl_append0 (sz := 3) h6 (wn rfl) ⟨rfl, rfl⟩ rfl Tryz.underlying24 (by kernel_rfl) (h6.ev rfl) (h6.ev rfl) fun a7 h7 => ?_
  refine ma h7 rfl rfl fun a8 h8 => ?_
  refine st_nil (go_then (wp_ret ?_))
  refine fin1 h8 rfl rfl ?_
  have S9 := S5.toRow (i := 0) (n := 0) (sz := 3) rfl rfl (by decide)
  exact ⟨_, rfl, S9.ownB (i := 0) rfl, S9.below⟩
theorem cloneRec_any (l : List RecP) (A : Option Addr) (c : Nat) (w : World) (hr : Rd w w.heap.size A (recsV l)) (hlen : l.length ≤ 1000) :
 Calls Tryz.prog 58 #[.slice A l.length c] w fun e w' => ∃ A' c', e = .returned (.slice A' l.length c') ∧ (l.length = 0 → c' = 0) ∧ w'.ownsRow w.heap.size 98 3 (.slice A' l.length c') l.length (recsV l) ∧ Below w.heap.size w w' := by
 rcases Nat.eq_zero_or_pos l.length with h0 | h0
 · have hnil : l = [] := List.eq_nil_of_length_eq_zero h0
   subst hnil
   exact (cloneRec_none A c w).mono fun e w' ⟨A', he, ho, hb⟩ => ⟨A', 0, he, fun _ => rfl, ho, hb⟩
 refine st_enter (N := 8) Tryz.func58 rfl rfl rfl (fun a0 h0 => ?_)
 have S0 := St.init w
 refine st_seq (st_reg ?_)
 refine ma h0 rfl rfl fun a1 h1 => ?_
 refine st_nil (go_then (st_seq (st_seq (st_reg ?_))))
 refine mv h1 rfl rfl fun a2 h2 => ?_
 refine sv h2 (ex_snil Tryz.underlying24 (by kernel_rfl) (h2.ev rfl) (h2.ev rfl)) fun a3 h3 => ?_
 refine st_nil (go_then ?_)
 refine st_if (h3.ev rfl) (fun hc0 => ?_) (fun hc0 => ?_)
 ·
  exfalso
  obtain ⟨b, o, rfl, _⟩ := hr.opened (by rw [recsV_length]; omega)
  cases hc0
 ·
  refine wp_skip (go_then (st_seq (st_reg ?_)))
  refine sl_bslice (zc := [.int .i64 0, .int .i64 0, .string ⟨#[]⟩]) (sz := 3) h3 (wn rfl) ⟨rfl, rfl⟩ rfl Tryz.underlying24 (by kernel_rfl) (by kernel_rfl) rfl rfl rfl (h3.evs2 rfl) rfl rfl rfl S0 fun b5 a4 X4 gb5 h4 S4 => ?_
  refine mv h4 rfl rfl fun a5 h5 => ?_
  have S6 := S4.toRow (i := 0) (n := 0) (sz := 3) rfl rfl (by decide)
  refine sl_append (z := .agg #[.int .i64 0, .int .i64 0, .string ⟨#[]⟩]) (sz := 3) (bytes := 32) h5 (wn rfl) ⟨rfl, rfl⟩ rfl Tryz.underlying24 (by kernel_rfl) rfl rfl (h5.ev rfl) (h5.ev rfl) S6 (i := 0) rfl (S6.rd0 hr) (recsV_length l) (recsV_one l) ⟨(by omega), by decide⟩ fun A7 c7 a7 X7 h7 S7 => ?_
  refine ma h7 rfl rfl fun a8 h8 => ?_
  refine st_nil (go_then (wp_ret ?_))
  refine fin1 h8 rfl rfl ?_
  have q := S7.ownB (i := 0) rfl
  rw [Nat.zero_add] at q
  exact ⟨_, _, by rw [Nat.zero_add], fun h => by omega, q, S7.below⟩
theorem OkP.tl {r : RngP} (h : OkP r) : nextE r = 0 ∧ (r.r.c = 0 ∨ hasR r.rs r.r.c = true) ∧ (roomsP r).2 ≤ r.pg - 2 := by
 have h1 := h.t
 unfold tailE at h1
 rw [firstE_zero] at h1
 have h2 := h1 (unl (r.r.c == 0 || hasR r.rs r.r.c) 6) (by simp)
 have h3 := h1 (unl (decide ((roomsP r).2 ≤ r.pg - 2)) 16) (by simp)
 rw [unl_zero (by decide)] at h2 h3
 refine ⟨h1 (nextE r) (by simp), ?_, of_decide_eq_true h3⟩
 rw [Bool.or_eq_true, beq_iff_eq] at h2
 exact h2
theorem OkP.o1 {r : RngP} (h : OkP r) : 1 ≤ r.r.o ∧ r.r.o ≤ 100000000 := by
 rcases h.o with h1 | h1
 · have h2 := h.tl.1
   unfold nextE at h2
   rw [h1] at h2
   simp only [List.getLast?_nil] at h2
   rw [unl_zero (by decide), Bool.and_eq_true, beq_iff_eq] at h2
   have := h.h.nx
   have := h.h.rr.2.2
   omega
 · exact h1
theorem app_err (r : RngP) (s : ByteArray) (e : Int) : firstE [e, unl (!decide (s = ⟨#[]⟩)) 17, unl (decide ((s.size : Int) ≤ 3000)) 8, unl (decide ((r.rs.length : Int) < 100)) 8] = if e ≠ 0 then e else if s.size = 0 then 17 else if 3000 < s.size then 8 else if 100 ≤ r.rs.length then 8 else 0 := by
 have h1 : decide ((s.size : Int) ≤ 3000) = decide (s.size ≤ 3000) := decide_eq_decide.2 (by omega)
 have h2 : decide ((r.rs.length : Int) < 100) = decide (r.rs.length < 100) := decide_eq_decide.2 (by omega)
 have h3 : decide (s = ⟨#[]⟩) = decide (s.size = 0) := decide_eq_decide.2 ba_empty
 rw [h1, h2, h3]
 simp only [firstE, unl]
 by_cases h4 : e = 0 <;> by_cases h5 : s.size = 0 <;> by_cases h6 : s.size ≤ 3000 <;> by_cases h7 : r.rs.length < 100 <;> simp [h4, h5, h6, h7] <;> omega
theorem Appended_any (r : RngP) (A : Option Addr) (c : Nat) (s : ByteArray) (w : World) (hr : Rd w w.heap.size A (recsV r.rs)) (hlen : r.rs.length ≤ 1000) (hx : ∀ x ∈ r.rs, I6 x.l) :
 Calls Tryz.prog 30 #[ringV r A c, .string s] w fun e w' => ∃ A' c', e = .returned (.tuple #[ringV (if (chkR r).2 = 0 then appR r s else rng0) A' c', .int .i64 (if (chkR r).2 = 0 ∧ appE r s = 0 then r.nx + 1 else 0), .int .i64 (if (chkR r).2 = 0 then appE r s else (chkR r).2)]) ∧ w'.ownsRow w.heap.size 98 3 (.slice A' (if (chkR r).2 = 0 then appR r s else rng0).rs.length c') (if (chkR r).2 = 0 then appR r s else rng0).rs.length (recsV (if (chkR r).2 = 0 then appR r s else rng0).rs) ∧ Below w.heap.size w w' := by
 refine st_enter (N := 70) Tryz.func30 rfl rfl rfl (fun a0 h0 => ?_)
 have S0 := St.init w
 refine st_seq (st_reg ?_)
 refine nb h0 rfl rfl S0 fun b2 a1 X1 gb2 h1 S1 => ?_
 refine na (.agg #[.int .i64 0, .int .i64 0, .int .i64 0, .int .i64 0, .int .i64 0, .int .i64 0, .int .i64 0, .slice none 0 0, .int .i64 0]) h1 rfl S1 fun b4 a2 X2 gb4 h2 S2 => ?_
 refine ma h2 rfl rfl fun a3 h3 => ?_
 refine ma h3 rfl rfl fun a4 h4 => ?_
 refine st_nil (go_then (st_seq ?_))
 apply dr_flow h4 [false, false, false, false, false, false, false, false, false, false, false, false, false] _ (by kernel_rfl)
 case h =>
  refine qv h4 (fun X hX => ex_loads (by kernel_rfl) (by kernel_rfl) (h4.ev rfl) ((S2.grow hX).cellsAll (i := 1) rfl)) fun a5 h5 => ?_
  refine sq_bel h5 (wn rfl) rfl rfl (fun X => (ex_call (fun _ _ => by kernel_rfl) (h5.evs rfl) rfl)) (fun X hX => ringErr_any r A c _ ((S2.grow hX).rd0 hr) hlen hx) fun a6 h6 => ?_
  refine qv h6 (fun X hX => ex_move (h6.ev rfl)) fun a7 h7 => ?_
  refine qv h7 (fun X hX => ex_sneq (h7.ev rfl) (h7.ev rfl)) fun a8 h8 => ?_
  refine sq_pure h8 (wn rfl) rfl rfl (fun X => (ex_call (fun _ _ => by kernel_rfl) (h8.evs rfl) rfl)) (fun X hX => logring_unless_any _ _ _) fun a9 h9 => ?_
  refine qv h9 (fun X hX => ex_move (h9.ev rfl)) fun a10 h10 => ?_
  refine qv h10 (fun X hX => ex_slen Tryz.underlying9 (h10.ev rfl)) fun a11 h11 => ?_
  refine qv h11 (fun X hX => ex_leq (h11.ev rfl) (h11.ev rfl)) fun a12 h12 => ?_
  refine sq_pure h12 (wn rfl) rfl rfl (fun X => (ex_call (fun _ _ => by kernel_rfl) (h12.evs rfl) rfl)) (fun X hX => logring_unless_any _ _ _) fun a13 h13 => ?_
  refine qv h13 (fun X hX => ex_field (off := 7) (j := 7) (by kernel_rfl) (h13.ev rfl) rfl) fun a14 h14 => ?_
  refine qv h14 (fun X hX => ex_load (by kernel_rfl) (h14.ev rfl) ((S2.grow hX).cell (i := 1) rfl rfl)) fun a15 h15 => ?_
  refine qv h15 (fun X hX => ex_len Tryz.underlying24 (h15.ev rfl)) fun a16 h16 => ?_
  refine qv h16 (fun X hX => ex_lss (h16.ev rfl) (h16.ev rfl)) fun a17 h17 => ?_
  refine sq_nil ?_
  refine nd_end fun X18 hX18 hΦ18 => ?_
  have S18 := S2.grow hX18
  refine sl_pure h17 (wn rfl) (ex_call (fun _ _ => by kernel_rfl) (h17.evs rfl) rfl) rfl rfl (logring_unless_any _ _ _) fun a19 h19 => ?_
  refine sl_new h19 (wn rfl) (f := fun b => .slice (some ⟨b, 0, none⟩) 4 4) (ex_bslice Tryz.underlying140 (by kernel_rfl) (by kernel_rfl) (h19.evs2 rfl) rfl rfl rfl (by decide) (by decide)) rfl rfl S18 fun b26 a20 X20 gb26 h20 S20 => ?_
  refine sl_pure h20 (wn rfl) (ex_call (fun _ _ => by kernel_rfl) (h20.evs rfl) rfl) rfl rfl (logring_first4 (S20.at_ (i := 0) rfl)) fun a21 h21 => ?_
  refine ma h21 rfl rfl fun a22 h22 => ?_
  refine st_nil (go_then (st_seq (st_seq (st_reg ?_))))
  refine mv h22 rfl rfl fun a23 h23 => ?_
  refine sv h23 (ex_neq (h23.ev rfl) (h23.ev rfl)) fun a24 h24 => ?_
  refine st_nil (go_then ?_)
  refine st_if (h24.ev rfl) (fun hc0 => ?_) (fun hc0 => ?_)
  ·
   rw [app_err] at hc0
   have hne : ¬ ((chkR r).2 = 0 ∧ appE r s = 0) := fun ⟨h1, h2⟩ => by
    rw [if_neg (by simpa using h1)] at hc0
    unfold appE at h2
    simp only [bne_iff_ne, ne_eq] at hc0
    split at h2
    · cases h2
    · rename_i a1
      rw [if_neg a1] at hc0
      split at h2
      · cases h2
      · rename_i a2
        rw [if_neg a2] at hc0
        split at h2
        · cases h2
        · rename_i a3
          rw [if_neg a3] at hc0
          exact hc0 rfl
   have hee : (if (chkR r).2 = 0 then appE r s else (chkR r).2) = firstE [(chkR r).2, unl (!decide (s = ⟨#[]⟩)) 17, unl (decide ((s.size : Int) ≤ 3000)) 8, unl (decide ((r.rs.length : Int) < 100)) 8] := by
    rw [app_err]
    by_cases h1 : (chkR r).2 = 0
    · rw [if_pos h1, if_neg (by simpa using h1)]
      rw [if_neg (by simpa using h1)] at hc0
      unfold appE
      split
      · rfl
      · rename_i a1
        rw [if_neg a1] at hc0
        split
        · rfl
        · rename_i a2
          rw [if_neg a2] at hc0
          split
          · rfl
          · rename_i a3
            rw [if_neg a3] at hc0
            simp at hc0
    · rw [if_neg h1, if_pos h1]
   have hrv : (if (chkR r).2 = 0 then appR r s else rng0) = rng0 := by
    split
    · rename_i h1
      unfold appR
      rw [if_neg (fun h2 => hne ⟨h1, h2⟩)]
    · rfl
   refine st_seq (st_reg ?_)
   refine sv h24 (ex_build (zs := [.int .i64 0, .int .i64 0, .int .i64 0, .int .i64 0, .int .i64 0, .int .i64 0, .int .i64 0, .slice none 0 0, .int .i64 0]) (pl := [(0, 1), (1, 3), (4, 3), (7, 1), (8, 1)]) (by kernel_rfl) (by kernel_rfl) (h24.evs2 rfl) rfl rfl) fun a25 h25 => ?_
   refine mv h25 rfl rfl fun a26 h26 => ?_
   refine sl_store0 h26 (wn rfl) ⟨rfl, rfl⟩ (h26.ev rfl) (h26.ev rfl) rfl (by kernel_rfl) S20 (i := 1) rfl rfl rfl fun X27 S27 => ?_
   refine ma h26 rfl rfl fun a28 h28 => ?_
   refine ma h28 rfl rfl fun a29 h29 => ?_
   refine st_nil (go_then (wp_ret (ret_then ?_)))
   refine finctt h29 rfl rfl rfl rfl S27 (i := 1) rfl (by kernel_rfl) (by kernel_rfl) ?_
   refine ⟨none, 0, ?_, ?_, S27.below⟩
   · rw [hrv, if_neg hne, hee]; rfl
   · rw [hrv]; exact World.ownsRow_nil _ _ _ _
  ·
   rw [app_err] at hc0
   have hz : (chkR r).2 = 0 ∧ s.size ≠ 0 ∧ s.size ≤ 3000 ∧ r.rs.length < 100 := by
    simp only [bne_eq_false_iff_eq] at hc0
    split at hc0
    · omega
    split at hc0
    · omega
    split at hc0
    · omega
    split at hc0 <;> omega
   have hk := ok_iff.1 hz.1
   have hnx := hk.h.nx
   have ho := hk.o1
   have hpg := hk.h.pg
   have hsz := szR_in hz.2.2.1
   have hbf : Bfr ⟨r.nx + 1, r.r.s, s⟩ := ⟨by show 1 ≤ r.nx + 1; omega, by show r.nx + 1 ≤ 500000000; omega, hz.2.2.1⟩
   have e1 : r.rs.length + 1 = (r.rs ++ [(⟨r.nx + 1, r.r.s, s⟩ : RecP)]).length := by simp
   have e2 : bhR ⟨r.nx + 1, r.r.s, s⟩ = r.nx + szR s.size := by show r.nx + 1 - 1 + szR s.size = _; omega
   refine wp_skip (go_then (st_seq (st_reg ?_)))
   refine vf h24 8 8 rfl rfl rfl fun a30 h30 => ?_
   refine vl h30 S20 2 rfl rfl rfl rfl fun a31 h31 => ?_
   refine sv h31 (ex_add (h31.ev rfl) (h31.ev rfl) (by omega)) fun a32 h32 => ?_
   refine vf h32 1 1 rfl rfl rfl fun a33 h33 => ?_
   refine vf h33 0 1 rfl rfl rfl fun a34 h34 => ?_
   refine vl h34 S20 2 rfl rfl rfl rfl fun a35 h35 => ?_
   refine mv h35 rfl rfl fun a36 h36 => ?_
   refine sv (v := recV ⟨r.nx + 1, r.r.s, s⟩) h36 (ex_build (zs := [.int .i64 0, .int .i64 0, .string ⟨#[]⟩]) (pl := [(0, 1), (1, 1), (2, 1)]) (by kernel_rfl) (by kernel_rfl) (h36.evs2 rfl) rfl rfl) fun a37 h37 => ?_
   refine na (.agg #[.int .i64 0, .int .i64 0, .string ⟨#[]⟩]) h37 rfl S20 fun b8 a38 X38 gb8 h38 S38 => ?_
   refine sl_store0 h38 (wn rfl) ⟨rfl, rfl⟩ (h38.ev rfl) (h38.ev rfl) rfl (by kernel_rfl) S38 (i := 0) rfl rfl rfl fun X39 S39 => ?_
   refine nsr ?_
   refine sv (v := ringV r A c) h38 (ex_loads (by kernel_rfl) (by kernel_rfl) (h38.ev rfl) (S39.cellsAll (i := 3) rfl)) fun a40 h40 => ?_
   refine na (.agg #[.int .i64 0, .int .i64 0, .int .i64 0, .int .i64 0, .int .i64 0, .int .i64 0, .int .i64 0, .slice none 0 0, .int .i64 0]) h40 rfl S39 fun b9 a41 X41 gb9 h41 S41 => ?_
   refine sl_store0 h41 (wn rfl) ⟨rfl, rfl⟩ (h41.ev rfl) (h41.ev rfl) rfl (by kernel_rfl) S41 (i := 0) rfl rfl rfl fun X42 S42 => ?_
   refine st_nil (go_then (st_seq ?_))
   apply dr_flowA (m := 5) h41 (fun b => X42.heap.size ≤ b) (max r.rs.length 1 * 3) [false, false, true, false, true, true, false, false, false] _ (by kernel_rfl)
   case h =>
    refine qv h41 (fun X hX => ex_field (off := 7) (j := 7) (by kernel_rfl) (h41.ev rfl) rfl) fun a43 h43 => ?_
    refine qv h43 (fun X hX => ex_load (by kernel_rfl) (h43.ev rfl) ((S42.grow (below_of hX)).cell (i := 4) rfl rfl)) fun a44 h44 => ?_
    refine qv (v := recV ⟨r.nx + 1, r.r.s, s⟩) h44 (fun X hX => ex_loads (by kernel_rfl) (by kernel_rfl) (h44.ev rfl) ((S42.grow (below_of hX)).cellsAll (i := 1) rfl)) fun a45 h45 => ?_
    refine qv (v := recV ⟨r.nx + 1, r.r.s, s⟩) h45 (fun X hX => ex_loads (by kernel_rfl) (by kernel_rfl) (h45.ev rfl) ((S42.grow (below_of hX)).cellsAll (i := 1) rfl)) fun a46 h46 => ?_
    refine sq_bel h46 (wn rfl) rfl rfl (fun X => (ex_call (fun _ _ => by kernel_rfl) (h46.evs rfl) rfl)) (fun X hX => behind_any ⟨r.nx + 1, r.r.s, s⟩ _ hbf.1 (by have := hbf.2.1; omega) (by have := hbf.2.2; omega)) fun a47 h47 => ?_
    refine qv h47 (fun X hX => ex_field (off := 7) (j := 7) (by kernel_rfl) (h47.ev rfl) rfl) fun a48 h48 => ?_
    refine sq_nil ?_
    apply na_step (O := fun b => X42.heap.size ≤ b) (K := max r.rs.length 1 * 3) (k := 2) (deps := []) (R := OwnC _ _ _ _ _) h48 rfl rfl rfl OwnC.stable (hx := fun X hX hΦ => lv_ownc (ex_call (fun _ _ => by kernel_rfl) (h48.evs rfl) rfl) (cloneRec_any r.rs A c _ ((S42.grow (below_of hX)).rd0 hr) hlen) hX.size)
    case hst2 => exact (OwnC.kpK (by omega))
    intro v43 a49 h49
    apply na_step (O := fun b => X42.heap.size ≤ b) (K := max r.rs.length 1 * 3) (k := 4) (deps := []) (R := NewB _ (fun b => .slice (some ⟨b, 0, none⟩) 1 1) _ _) h49 rfl rfl rfl NewB.stable (hx := fun X hX hΦ => lv_new (ex_bslice2 (cs := recC ⟨r.nx + 1, r.r.s, s⟩) (zc := [.int .i64 0, .int .i64 0, .string ⟨#[]⟩]) (sz := 3) rfl Tryz.underlying24 (by kernel_rfl) (by kernel_rfl) rfl rfl rfl (h49.evs2 rfl) rfl rfl rfl) hX.size)
    case hst2 => exact (NewB.kpK (by show 3 ≤ _; omega))
    intro v45 a50 h50
    apply na_app (O := fun b => X42.heap.size ≤ b) (K := max r.rs.length 1 * 3) (k := 5) (deps := [2, 4]) (R := OwnB _ _ _ _ _) h50 rfl rfl rfl OwnB.stable (fun X hX hΦ => lv_app (z := .agg #[.int .i64 0, .int .i64 0, .string ⟨#[]⟩]) (sz := 3) (bytes := 32) rfl Tryz.underlying24 (by kernel_rfl) rfl rfl (h50.ev rfl) (h50.ev rfl) (told_get (k := 2) hΦ rfl rfl) (NewB.rd (told_get (k := 4) hΦ rfl rfl)) rfl (List.all_eq_true.1 rfl) ⟨(by omega), by decide⟩ hX.size (by omega))
    intro v46 a51 h51
    refine na_end fun X52 hX52 hΦ52 => ?_
    replace hX52 := below_of hX52
    have S52 := S42.grow hX52
    have qv43 := told_all hΦ52 (k := 2) rfl
    have qv45 := told_all hΦ52 (k := 4) rfl
    have qv46 := told_all hΦ52 (k := 5) rfl
    obtain ⟨A46, c46, rfl, qv46⟩ := qv46
    have S53 := S42.add hX52 (e := .row _ _ _ _ _) (ownsRow_mono qv46 (Nat.zero_le _)) (fun b hb => qv46.lt b hb)
    refine sl_store h51 (wn rfl) ⟨rfl, rfl⟩ (h51.ev rfl) (h51.ev rfl) rfl (by kernel_rfl) S53 (i := 1) rfl rfl rfl fun X54 S54 => ?_
    refine vf h51 8 8 rfl rfl rfl fun a55 h55 => ?_
    refine sl_store h55 (wn rfl) ⟨rfl, rfl⟩ (h55.ev rfl) (h55.ev rfl) rfl (by kernel_rfl) S54 (i := 1) rfl rfl rfl fun X56 S56 => ?_
    rw [e1] at h55 S56
    rw [e2] at h55 S56
    refine st_nil (go_then (st_seq (st_seq (st_reg ?_))))
    refine sv (v := ringV (appV r s) A46 c46) h55 (ex_loads (by kernel_rfl) (by kernel_rfl) (h55.ev rfl) (S56.cellsAll (i := 1) rfl)) fun a57 h57 => ?_
    refine sl_bel h57 (wn rfl) (ex_call (fun _ _ => by kernel_rfl) (h57.evs rfl) rfl) rfl rfl S56 (rooms_any (appV r s) A46 c46 _ (by have q := S56.rdOf (i := 0) rfl; exact (by unfold appV; rw [recsV_append]; exact q)) (fun y hy => by (have : y = ⟨r.nx + 1, r.r.s, s⟩ := by unfold appV at hy; simpa using hy.symm); rw [this]; exact hbf) (.inr ho) (by unfold appV; simp; omega)) fun a58 X58 h58 S58 => ?_
    refine mv h58 rfl rfl fun a59 h59 => ?_
    refine vx h59 rfl rfl rfl fun a60 h60 => ?_
    refine vx h60 rfl rfl rfl fun a61 h61 => ?_
    refine ma h61 rfl rfl fun a62 h62 => ?_
    refine ma h62 rfl rfl fun a63 h63 => ?_
    refine nsr ?_
    refine mv h63 rfl rfl fun a64 h64 => ?_
    refine vf h64 0 0 rfl rfl rfl fun a65 h65 => ?_
    refine vl h65 S58 5 rfl rfl rfl rfl fun a66 h66 => ?_
    refine sv h66 (ex_sub (h66.ev rfl) (h66.ev rfl) (by omega)) fun a67 h67 => ?_
    refine sv h67 (ex_gtr (h67.ev rfl) (h67.ev rfl)) fun a68 h68 => ?_
    refine mv h68 rfl rfl fun a69 h69 => ?_
    apply sl_or h69 S58 61 rfl 4 65
    case hf =>
     intro gc61
     refine sy h69 rfl rfl rfl gc61 (ex_field (off := 8) (j := 8) (by kernel_rfl) (h69.ev rfl) rfl) rfl rfl fun a70 h70 => ?_
     refine sy h70 rfl rfl rfl gc61 (ex_load (by kernel_rfl) (h70.ev rfl) (S58.cell (i := 1) rfl rfl)) rfl rfl fun a71 h71 => ?_
     refine sy h71 rfl rfl rfl gc61 (ex_gtr (h71.ev rfl) (h71.ev rfl)) rfl rfl fun a72 h72 => ?_
     refine sv h72 (ex_pick_f (h72.ev rfl) gc61 (h72.ev rfl)) fun a73 h73 => ?_
     exact st_nil ⟨h73.mid (m := [(_, _), (_, _), (_, _)]) rfl, S58⟩
    case ht =>
     intro gc61
     refine no h69 rfl rfl rfl gc61 rfl rfl fun a74 h74 => ?_
     refine no h74 rfl rfl rfl gc61 rfl rfl fun a75 h75 => ?_
     refine no h75 rfl rfl rfl gc61 rfl rfl fun a76 h76 => ?_
     refine sv h76 (ex_pick_t (h76.ev rfl) gc61 (h76.ev rfl)) fun a77 h77 => ?_
     exact st_nil ⟨h77.mid (m := [(_, _), (_, _), (_, _)]) rfl, S58⟩
    case h =>
     rintro a78 X78 ⟨h78, S78⟩
     refine st_nil (go_then ?_)
     refine st_if (h78.ev rfl) (fun hc1 => ?_) (fun hc1 => ?_)
     ·
      have hf : appE r s = 16 := by
       unfold appE
       rw [if_neg hz.2.1, if_neg (by omega), if_neg (by omega)]
       exact if_pos (show r.pg - 2 < (roomsP (appV r s)).2 ∨ 100000000 < r.nx + szR s.size by simpa [Bool.or_eq_true] using hc1)
      refine st_seq (st_reg ?_)
      refine sv h78 (ex_build (zs := [.int .i64 0, .int .i64 0, .int .i64 0, .int .i64 0, .int .i64 0, .int .i64 0, .int .i64 0, .slice none 0 0, .int .i64 0]) (pl := [(0, 1), (1, 3), (4, 3), (7, 1), (8, 1)]) (by kernel_rfl) (by kernel_rfl) (h78.evs2 rfl) rfl rfl) fun a79 h79 => ?_
      refine sl_store0 h79 (wn rfl) ⟨rfl, rfl⟩ (h79.ev rfl) (h79.ev rfl) rfl (by kernel_rfl) S78 (i := 4) rfl rfl rfl fun X80 S80 => ?_
      refine ma h79 rfl rfl fun a81 h81 => ?_
      refine ma h81 rfl rfl fun a82 h82 => ?_
      refine st_nil (go_then (wp_ret (ret_then ?_)))
      refine finctt h82 rfl rfl rfl rfl S80 (i := 4) rfl (by kernel_rfl) (by kernel_rfl) ?_
      refine ⟨none, 0, ?_, ?_, S80.below⟩
      · rw [if_pos hz.1, if_pos hz.1, if_neg (by rw [hf]; simp), hf]; unfold appR; rw [if_neg (by rw [hf]; decide)]; rfl
      · rw [if_pos hz.1]; unfold appR; rw [if_neg (by rw [hf]; decide)]; exact World.ownsRow_nil _ _ _ _
     ·
      have hf : appE r s = 0 := by
       unfold appE
       rw [if_neg hz.2.1, if_neg (by omega), if_neg (by omega)]
       exact if_neg (show ¬ (r.pg - 2 < (roomsP (appV r s)).2 ∨ 100000000 < r.nx + szR s.size) by simpa [Bool.or_eq_false_iff, not_or] using hc1)
      refine wp_skip (go_then (st_seq ?_))
      apply dr_flowA (m := 3) h78 (St.domAt S78 (i := 4) rfl) 0 [false, false, false, true] _ (by kernel_rfl)
      case h =>
       refine qv (v := ringV (appV r s) A46 c46) h78 (fun X hX => ex_loads (by kernel_rfl) (by kernel_rfl) (h78.ev rfl) ((S78.growO (i := 4) rfl hX).cellsAll (i := 1) rfl)) fun a83 h83 => ?_
       refine qv h83 (fun X hX => ex_field (off := 0) (j := 0) (by kernel_rfl) (h83.ev rfl) rfl) fun a84 h84 => ?_
       refine qv h84 (fun X hX => ex_load (by kernel_rfl) (h84.ev rfl) ((S78.growO (i := 4) rfl hX).cell (i := 2) rfl rfl)) fun a85 h85 => ?_
       refine sq_nil ?_
       apply na_store (k := 3) (deps := []) (R := IsBox _ _ _) h85 rfl rfl IsBox.stable (fun X hX hΦ => lv_store0 rfl (h85.ev rfl) (h85.ev rfl) rfl (by kernel_rfl) ((S78.grow hX).at_ (i := 4) rfl) rfl rfl)
       intro vs3
       refine na_end fun X86 hX86 hΦ86 => ?_
       have S86 := S78.growBox (i := 4) (v := vs3) rfl hX86 (told_all hΦ86 (k := 3) rfl)
       refine ma h85 rfl rfl fun a87 h87 => ?_
       refine ma h87 rfl rfl fun a88 h88 => ?_
       refine st_nil (go_then (wp_ret ?_))
       refine finctt h88 rfl rfl rfl rfl S86 (i := 4) rfl (by kernel_rfl) (by kernel_rfl) ?_
       have e3 : appR r s = appV r s := by unfold appR; rw [if_pos hf]
       refine ⟨A46, c46, ?_, ?_, S86.below⟩
       · rw [if_pos hz.1, if_pos hz.1, if_pos ⟨hz.1, hf⟩, hf, e3]; rfl
       · rw [if_pos hz.1, e3]
         have q := S86.ownB (i := 0) rfl
         have e4 : recsV (appV r s).rs = recsV r.rs ++ recsV [(⟨r.nx + 1, r.r.s, s⟩ : RecP)] := recsV_append _ _
         rw [e4]; exact q
      case hB => kernel_rfl
      case hst => rfl
   case hB => kernel_rfl
   case hst => rfl
 case hB => kernel_rfl
 case hst => rfl
theorem Closed_any (r : RngP) (A : Option Addr) (c : Nat) (w : World) (hr : Rd w w.heap.size A (recsV r.rs)) (hlen : r.rs.length ≤ 1000) (hx : ∀ x ∈ r.rs, I6 x.l) :
 Calls Tryz.prog 13 #[ringV r A c] w fun e w' => ∃ A' c', e = .returned (.tuple #[ringV (if (chkR r).2 = 0 then cloR r else rng0) A' c', .int .i64 (if (chkR r).2 = 0 then cloE r else (chkR r).2)]) ∧ w'.ownsRow w.heap.size 98 3 (.slice A' (if (chkR r).2 = 0 then cloR r else rng0).rs.length c') (if (chkR r).2 = 0 then cloR r else rng0).rs.length (recsV (if (chkR r).2 = 0 then cloR r else rng0).rs) ∧ Below w.heap.size w w' := by
 refine st_enter (N := 24) Tryz.func13 rfl rfl rfl (fun a0 h0 => ?_)
 have S0 := St.init w
 refine st_seq (st_reg ?_)
 refine nb h0 rfl rfl S0 fun b1 a1 X1 gb1 h1 S1 => ?_
 refine na (.agg #[.int .i64 0, .int .i64 0, .int .i64 0, .int .i64 0, .int .i64 0, .int .i64 0, .int .i64 0, .slice none 0 0, .int .i64 0]) h1 rfl S1 fun b2 a2 X2 gb2 h2 S2 => ?_
 refine ma h2 rfl rfl fun a3 h3 => ?_
 refine st_nil (go_then (st_seq (st_seq (st_reg ?_))))
 refine sv h3 (ex_loads (by kernel_rfl) (by kernel_rfl) (h3.ev rfl) (S2.cellsAll (i := 1) rfl)) fun a4 h4 => ?_
 refine sl_bel h4 (wn rfl) (ex_call (fun _ _ => by kernel_rfl) (h4.evs rfl) rfl) rfl rfl S2 (ringErr_any r A c _ (S2.rd0 hr) hlen hx) fun a5 X5 h5 S5 => ?_
 refine ma h5 rfl rfl fun a6 h6 => ?_
 refine nsr ?_
 refine mv h6 rfl rfl fun a7 h7 => ?_
 refine sv h7 (ex_neq (h7.ev rfl) (h7.ev rfl)) fun a8 h8 => ?_
 refine st_nil (go_then ?_)
 refine st_if (h8.ev rfl) (fun hc0 => ?_) (fun hc0 => ?_)
 ·
  have hne : ¬ (chkR r).2 = 0 := by simpa using hc0
  refine st_seq (st_reg ?_)
  refine sv h8 (ex_build (zs := [.int .i64 0, .int .i64 0, .int .i64 0, .int .i64 0, .int .i64 0, .int .i64 0, .int .i64 0, .slice none 0 0, .int .i64 0]) (pl := [(0, 1), (1, 3), (4, 3), (7, 1), (8, 1)]) (by kernel_rfl) (by kernel_rfl) (h8.evs2 rfl) rfl rfl) fun a9 h9 => ?_
  refine mv h9 rfl rfl fun a10 h10 => ?_
  refine sl_store0 h10 (wn rfl) ⟨rfl, rfl⟩ (h10.ev rfl) (h10.ev rfl) rfl (by kernel_rfl) S5 (i := 0) rfl rfl rfl fun X11 S11 => ?_
  refine ma h10 rfl rfl fun a12 h12 => ?_
  refine st_nil (go_then (wp_ret (ret_then ?_)))
  refine finct h12 rfl rfl rfl S11 (i := 0) rfl (by kernel_rfl) (by kernel_rfl) ?_
  refine ⟨none, 0, ?_, ?_, S11.below⟩
  · rw [if_neg hne, if_neg hne]; rfl
  · rw [if_neg hne]; exact World.ownsRow_nil _ _ _ _
 ·
  have hz : (chkR r).2 = 0 := by simpa using hc0
  have hk := ok_iff.1 hz
  have hnx := hk.h.nx
  refine wp_skip (go_then (st_seq ?_))
  apply dr_flow h8 [false, false, true, false, false, false, false] _ (by kernel_rfl)
  case h =>
   refine qv h8 (fun X hX => ex_field (off := 7) (j := 7) (by kernel_rfl) (h8.ev rfl) rfl) fun a13 h13 => ?_
   refine qv h13 (fun X hX => ex_load (by kernel_rfl) (h13.ev rfl) ((S5.grow hX).cell (i := 1) rfl rfl)) fun a14 h14 => ?_
   refine qv h14 (fun X hX => ex_field (off := 8) (j := 8) (by kernel_rfl) (h14.ev rfl) rfl) fun a15 h15 => ?_
   refine qv h15 (fun X hX => ex_load (by kernel_rfl) (h15.ev rfl) ((S5.grow hX).cell (i := 1) rfl rfl)) fun a16 h16 => ?_
   refine sq_pure h16 (wn rfl) rfl rfl (fun X => (ex_call (fun _ _ => by kernel_rfl) (h16.evs rfl) rfl)) (fun X hX => next_any _ _ (by omega) (by omega)) fun a17 h17 => ?_
   refine qv h17 (fun X hX => ex_field (off := 7) (j := 7) (by kernel_rfl) (h17.ev rfl) rfl) fun a18 h18 => ?_
   refine sq_nil ?_
   apply nd_step (k := 2) (deps := []) (R := OwnC _ _ _ _ _) h18 rfl rfl rfl OwnC.stable (fun X hX hΦ => lv_ownc (ex_call (fun _ _ => by kernel_rfl) (h18.evs rfl) rfl) (cloneRec_any r.rs A c _ ((S5.grow hX).rd0 hr) hlen) hX.size)
   intro v13 a19 h19
   refine nd_end fun X20 hX20 hΦ20 => ?_
   have S20 := S5.grow hX20
   have qv13 := told_all hΦ20 (k := 2) rfl
   replace qv13 := qv13.1
   obtain ⟨A13, c13, rfl, qv13⟩ := qv13
   have S21 := S5.add hX20 (e := .row _ _ _ _ _) (ownsRow_mono qv13 (Nat.zero_le _)) (fun b hb => qv13.lt b hb)
   refine sl_store h19 (wn rfl) ⟨rfl, rfl⟩ (h19.ev rfl) (h19.ev rfl) rfl (by kernel_rfl) S21 (i := 2) rfl rfl rfl fun X22 S22 => ?_
   refine vf h19 8 8 rfl rfl rfl fun a23 h23 => ?_
   refine sl_store h23 (wn rfl) ⟨rfl, rfl⟩ (h23.ev rfl) (h23.ev rfl) rfl (by kernel_rfl) S22 (i := 2) rfl rfl rfl fun X24 S24 => ?_
   refine st_nil (go_then (st_seq (st_seq (st_reg ?_))))
   refine vf h23 8 8 rfl rfl rfl fun a25 h25 => ?_
   refine vl h25 S24 2 rfl rfl rfl rfl fun a26 h26 => ?_
   refine sv h26 (ex_gtr (h26.ev rfl) (h26.ev rfl)) fun a27 h27 => ?_
   refine st_nil (go_then ?_)
   refine st_if (h27.ev rfl) (fun hc1 => ?_) (fun hc1 => ?_)
   ·
    have hf : cloE r = 16 := by
     have h1 : 100000000 < nxtR r.nx := of_decide_eq_true hc1
     unfold cloE; rw [decide_eq_false (by omega)]; rfl
    refine st_seq (st_reg ?_)
    refine sv h27 (ex_build (zs := [.int .i64 0, .int .i64 0, .int .i64 0, .int .i64 0, .int .i64 0, .int .i64 0, .int .i64 0, .slice none 0 0, .int .i64 0]) (pl := [(0, 1), (1, 3), (4, 3), (7, 1), (8, 1)]) (by kernel_rfl) (by kernel_rfl) (h27.evs2 rfl) rfl rfl) fun a28 h28 => ?_
    refine sl_store0 h28 (wn rfl) ⟨rfl, rfl⟩ (h28.ev rfl) (h28.ev rfl) rfl (by kernel_rfl) S24 (i := 1) rfl rfl rfl fun X29 S29 => ?_
    refine ma h28 rfl rfl fun a30 h30 => ?_
    refine st_nil (go_then (wp_ret (ret_then ?_)))
    refine finct h30 rfl rfl rfl S29 (i := 1) rfl (by kernel_rfl) (by kernel_rfl) ?_
    have e3 : cloR r = rng0 := by unfold cloR; rw [if_neg (by rw [hf]; decide)]
    refine ⟨none, 0, ?_, ?_, S29.below⟩
    · rw [if_pos hz, if_pos hz, hf, e3]; rfl
    · rw [if_pos hz, e3]; exact World.ownsRow_nil _ _ _ _
   ·
    have hf : cloE r = 0 := by
     have h1 : ¬ 100000000 < nxtR r.nx := of_decide_eq_false hc1
     unfold cloE; rw [decide_eq_true (by omega)]; rfl
    refine wp_skip (go_then (st_seq (st_reg ?_)))
    refine sv (v := ringV (cloV r) A13 c13) h27 (ex_loads (by kernel_rfl) (by kernel_rfl) (h27.ev rfl) (S24.cellsAll (i := 2) rfl)) fun a31 h31 => ?_
    refine sl_store0 h31 (wn rfl) ⟨rfl, rfl⟩ (h31.ev rfl) (h31.ev rfl) rfl (by kernel_rfl) S24 (i := 1) rfl rfl rfl fun X32 S32 => ?_
    refine ma h31 rfl rfl fun a33 h33 => ?_
    refine st_nil (go_then (wp_ret ?_))
    refine finct h33 rfl rfl rfl S32 (i := 1) rfl (by kernel_rfl) (by kernel_rfl) ?_
    have e3 : cloR r = cloV r := by unfold cloR; rw [if_pos hf]
    refine ⟨A13, c13, ?_, ?_, S32.below⟩
    · rw [if_pos hz, if_pos hz, hf, e3]; rfl
    · rw [if_pos hz, e3]; exact S32.ownB (i := 0) rfl
  case hB => kernel_rfl
  case hst => rfl
end Go.Proofs.YtmlilplbdpjfcaaGreatDoor
