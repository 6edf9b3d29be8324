/-
  Chapter 20: logs checked.
-/
import Derived.Test.YtmlilplbdpjfcaaGreatDoorRg3
import Derived.Test.YtmlilplbdpjfcaaGreatDoorRgPA
namespace Go.Proofs.YtmlilplbdpjfcaaGreatDoor
set_option linter.unusedVariables false
set_option linter.unusedSimpArgs false
open Go.RowKit Go.Sort
theorem eachRec_any (g : Nat → RecP → Int) (l : List RecP) (A : Option Addr) (c : Nat) (f : FuncId) (cap : List Value) (w : World) (hr : Rd w w.heap.size A (recsV l)) (hlen : l.length ≤ 1000) (hfc : ∀ (vs : Array Value) (W : World), (callFunc f vs).run Tryz.prog W = .ok (.enter f vs) W)
 (hcl : ∀ X, Below w.heap.size w X → ∀ (k : Nat) (hk : k < l.length), (∀ m (hm : m < l.length), m < k → g m l[m] = 0) → Calls Tryz.prog f ([.int .i64 k, recV l[k]] ++ cap).toArray X fun e X' => e = .returned (.int .i64 (g k l[k])) ∧ Below X.heap.size X X') :
 Calls Tryz.prog 77 #[.slice A l.length c, .func (.func f) #[] cap.toArray] w fun e w' => e = .returned (.tuple #[.int .i64 (eachE g 0 l).1, .int .i64 (eachE g 0 l).2]) ∧ Below w.heap.size w w' := by
 refine st_enter (N := 25) Tryz.func77 rfl rfl rfl (fun a0 h0 => ?_)
 have S0 := St.init w
 refine st_seq (st_reg ?_)
 refine ma h0 rfl rfl fun a1 h1 => ?_
 refine ma h1 rfl rfl fun a2 h2 => ?_
 refine st_nil (go_then (st_seq (st_seq (st_reg ?_))))
 refine mv h2 rfl rfl fun a3 h3 => ?_
 refine sv h3 (ex_len Tryz.underlying24 (h3.ev rfl)) fun a4 h4 => ?_
 refine mv h4 rfl rfl fun a5 h5 => ?_
 refine st_nil (go_then (wp_block ?_))
 refine st_loop h5 S0 [10, 9, 1] (fun (j : Nat) => [(11, .int .i64 j)]) (fun (j : Nat) => j ≤ l.length ∧ ∀ k (hk : k < l.length), k < j → g k l[k] = 0) (fun (j : Nat) L => L) (fun (j : Nat) => l.length - j) (0) (⟨Nat.zero_le _, fun k _ h => by omega⟩) ⟨rfl, rfl, rfl, rfl, trivial⟩ (S0) ?_
 intro j a6 X6 hF0 h6 S6
 refine st_seq (st_reg ?_)
 refine sv h6 (ex_lss (h6.ev rfl) (h6.ev rfl)) fun a7 h7 => ?_
 refine st_nil (go_then (st_seq ?_))
 refine st_if (h7.ev rfl) (fun hc0 => ?_) (fun hc0 => ?_)
 ·
  have hlt : j < l.length := by have := of_decide_eq_true hc0; omega
  obtain ⟨b, o, rfl, hB, _⟩ := hr.opened (by rw [recsV_length]; omega)
  refine wp_skip (go_then (st_seq (wp_block (st_seq (st_reg ?_)))))
  refine mv h7 rfl rfl fun a8 h8 => ?_
  refine sv h8 (ex_index (i := j) (sz := 3) Tryz.underlying24 (by kernel_rfl) (h8.ev rfl) (h8.ev rfl) (by omega) (by omega) rfl) fun a9 h9 => ?_
  refine sv h9 (ex_loads (by kernel_rfl) (by kernel_rfl) (h9.ev rfl) (recAt (S6.rd0 hr) hlt)) fun a10 h10 => ?_
  refine na (.agg #[.int .i64 0, .int .i64 0, .string ⟨#[]⟩]) h10 rfl S6 fun b7 a11 X11 gb7 h11 S11 => ?_
  refine ma h11 rfl rfl fun a12 h12 => ?_
  refine sl_store0 h12 (wn rfl) ⟨rfl, rfl⟩ (h12.ev rfl) (h12.ev rfl) rfl (by kernel_rfl) S11 (i := 0) rfl rfl rfl fun X13 S13 => ?_
  refine nsr ?_
  refine mv h12 rfl rfl fun a14 h14 => ?_
  refine mv h14 rfl rfl fun a15 h15 => ?_
  refine sv h15 (ex_loads (by kernel_rfl) (by kernel_rfl) (h15.ev rfl) (S13.cellsAll (i := 0) rfl)) fun a16 h16 => ?_
  refine sl_bel h16 (wn rfl) (ex_callv hfc (h16.ev rfl) (h16.evs rfl) rfl) rfl rfl S13 (hcl _ S13.below j hlt hF0.2) fun a17 X17 h17 S17 => ?_
  refine ma h17 rfl rfl fun a18 h18 => ?_
  refine nsr ?_
  refine mv h18 rfl rfl fun a19 h19 => ?_
  refine sv h19 (ex_neq (h19.ev rfl) (h19.ev rfl)) fun a20 h20 => ?_
  refine st_nil (go_then ?_)
  refine st_if (h20.ev rfl) (fun hc1 => ?_) (fun hc1 => ?_)
  ·
   refine st_seq (st_reg ?_)
   refine mv h20 rfl rfl fun a21 h21 => ?_
   refine mv h21 rfl rfl fun a22 h22 => ?_
   refine ma h22 rfl rfl fun a23 h23 => ?_
   refine ma h23 rfl rfl fun a24 h24 => ?_
   refine st_nil (go_then (wp_ret (ret_block (ret_then (ret_then (ret_block (ret_then ?_)))))))
   refine fin2 h24 rfl rfl rfl ?_
   have h1 : g j l[j] ≠ 0 := by simpa using hc1
   have h2 := eachE_hit g l 0 j hlt (fun k hk h => by rw [Nat.zero_add]; exact hF0.2 k hk h) (by rw [Nat.zero_add]; exact h1)
   exact ⟨by rw [h2, Nat.zero_add], S17.below⟩
  ·
   refine wp_skip (go_block (go_then (st_reg ?_)))
   refine sv h20 (ex_add (h20.ev rfl) (h20.ev rfl) (by omega)) fun a25 h25 => ?_
   refine mv h25 rfl rfl fun a26 h26 => ?_
   refine st_nil (go_then ?_)
   exact ⟨j + 1, by omega, ⟨hlt, fun k hk h => (Nat.lt_or_ge k j).elim (fun q => hF0.2 k hk q) (fun q => by (obtain rfl : k = j := by omega); simpa using hc1)⟩, h26.re ⟨rfl, rfl, rfl, rfl, trivial⟩, S17.sub (.cons _ .slnil)⟩
 ·
  have hge : l.length ≤ j := by have := of_decide_eq_false hc0; omega
  refine wp_exit ?_
  refine go_exit_then ?_
  refine go_exit_then ?_
  refine go_exit ?_
  refine go_then (st_seq (st_reg ?_))
  refine ma h7 rfl rfl fun a27 h27 => ?_
  refine ma h27 rfl rfl fun a28 h28 => ?_
  refine st_nil (go_then (wp_ret ?_))
  refine fin2 h28 rfl rfl rfl ?_
  exact ⟨by rw [eachE_none g l 0 (fun k hk => by rw [Nat.zero_add]; exact hF0.2 k hk (by omega))], S6.below⟩
def ringC (r : RngP) (A : Option Addr) (c : Nat) : List Value := [.int .i64 r.pg, .int .i64 r.r.s, .int .i64 r.r.c, .int .i64 r.r.o, .int .i64 r.e.s, .int .i64 r.e.c, .int .i64 r.e.o, .slice A r.rs.length c, .int .i64 r.nx]
theorem chk1_any (r : RngP) (A : Option Addr) (c i : Nat) (b : Nat) (T : TypeId) (w : World) (hbx : Box w b (ringC r A c).toArray T) (hr : Rd w w.heap.size A (recsV r.rs)) (hi : i < r.rs.length) (hx : I6 r.rs[i].l) (hb : ∀ y, bfrR r.rs i = some y → Bfr y) (ho : 0 ≤ r.r.o ∧ r.r.o ≤ 100000000) (hlen : r.rs.length ≤ 1000) :
 Calls Tryz.prog 78 #[.int .i64 i, recV r.rs[i], .pointer (some ⟨b, 0, none⟩)] w fun e w' => e = .returned (.int .i64 (recE r.r.o r.r.s (bfrR r.rs i) r.rs[i])) ∧ Below w.heap.size w w' := by
 refine st_enter (N := 9) Tryz.func78 rfl rfl rfl (fun a0 h0 => ?_)
 have S0 := St.init w
 refine st_seq (st_reg ?_)
 refine nb h0 rfl rfl S0 fun b4 a1 X1 gb4 h1 S1 => ?_
 refine ma h1 rfl rfl fun a2 h2 => ?_
 refine nsr ?_
 refine sv h2 (ex_loads (by kernel_rfl) (by kernel_rfl) (h2.ev rfl) (box_all (hbx.below S1.below))) fun a3 h3 => ?_
 refine mv h3 rfl rfl fun a4 h4 => ?_
 refine sl_bel h4 (wn rfl) (ex_call (fun _ _ => by kernel_rfl) (h4.evs rfl) rfl) rfl rfl S1 (recordErr_any r A c i _ (S1.rd0 hr) hi hx hb ho hlen) fun a5 X5 h5 S5 => ?_
 refine ma h5 rfl rfl fun a6 h6 => ?_
 refine st_nil (go_then (wp_ret ?_))
 refine fin1 h6 rfl rfl ?_
 exact ⟨rfl, S5.below⟩
theorem rst_eqL (x y : RstP) : eqL [.int .i64 x.s, .int .i64 x.c, .int .i64 x.o] [.int .i64 y.s, .int .i64 y.c, .int .i64 y.o] = decide (x = y) := by
 obtain ⟨a, b, c⟩ := x
 obtain ⟨a', b', c'⟩ := y
 rw [Bool.eq_iff_iff, decide_eq_true_eq, RstP.mk.injEq]
 simp [eqL, eqV2]
theorem bfr_of (r : RngP) (ho : r.r.o ≤ 100000000) (hlen : r.rs.length ≤ 1000) (k : Nat) (hk : k < r.rs.length) (h : ∀ m (hm : m < r.rs.length), m < k → recE r.r.o r.r.s (bfrR r.rs m) r.rs[m] = 0) : ∀ y, bfrR r.rs k = some y → Bfr y := by
 intro y hy
 cases k with
 | zero => simp [bfrR] at hy
 | succ k =>
  rw [bfrR_succ hk] at hy
  injection hy with hy
  subst hy
  obtain ⟨h1, h2, h3⟩ := recs_bd r ho k (by omega) fun m hm hmk => h m hm (by omega)
  exact ⟨h1, by omega, h3⟩
theorem last_bfr (r : RngP) (ho : r.r.o ≤ 100000000) (hlen : r.rs.length ≤ 1000) (h : ∀ m (hm : m < r.rs.length), recE r.r.o r.r.s (bfrR r.rs m) r.rs[m] = 0) : ∀ y, r.rs.getLast? = some y → Bfr y := by
 intro y hy
 rcases Nat.eq_zero_or_pos r.rs.length with h0 | h0
 · rw [List.eq_nil_of_length_eq_zero h0] at hy; cases hy
 · rw [List.getLast?_eq_getElem?, List.getElem?_eq_getElem (by omega)] at hy
   injection hy with hy
   subst hy
   obtain ⟨h1, h2, h3⟩ := recs_bd r ho (r.rs.length - 1) (by omega) fun m hm _ => h m hm
   exact ⟨h1, by omega, h3⟩
theorem recs_o (r : RngP) (h : ∀ m (hm : m < r.rs.length), recE r.r.o r.r.s (bfrR r.rs m) r.rs[m] = 0) : r.rs = [] ∨ 1 ≤ r.r.o := by
 rcases Nat.eq_zero_or_pos r.rs.length with h0 | h0
 · exact .inl (List.eq_nil_of_length_eq_zero h0)
 · right
   have h1 := (recE_zero.1 (h 0 h0)).2.2.1
   unfold bfrR ordB at h1
   simp only [if_true, Bool.and_eq_true, beq_iff_eq, decide_eq_true_eq] at h1
   omega
theorem CheckRing_any (r : RngP) (A : Option Addr) (c : Nat) (w : World) (hr : Rd w w.heap.size A (recsV r.rs)) (hlen : r.rs.length ≤ 1000) (hx : ∀ x ∈ r.rs, I6 x.l) :
 Calls Tryz.prog 24 #[ringV r A c] w fun e w' => e = .returned (.tuple #[.int .i64 (chkR r).1, .int .i64 (chkR r).2]) ∧ Below w.heap.size w w' := by
 refine st_enter (N := 96) Tryz.func24 rfl rfl rfl (fun a0 h0 => ?_)
 have S0 := St.init w
 refine st_seq (st_reg ?_)
 refine nb h0 rfl rfl S0 fun b1 a1 X1 gb1 h1 S1 => ?_
 refine ma h1 rfl rfl fun a2 h2 => ?_
 refine ma h2 rfl rfl fun a3 h3 => ?_
 refine st_nil (go_then (st_seq ?_))
 apply dr_flow h3 [false, false, false, false, false] _ (by kernel_rfl)
 case h =>
  refine qv h3 (fun X hX => ex_field (off := 0) (j := 0) (by kernel_rfl) (h3.ev rfl) rfl) fun a4 h4 => ?_
  refine qv h4 (fun X hX => ex_load (by kernel_rfl) (h4.ev rfl) ((S1.grow hX).cell (i := 0) rfl rfl)) fun a5 h5 => ?_
  refine sq_pure h5 (wn rfl) rfl rfl (fun X => (ex_call (fun _ _ => by kernel_rfl) (h5.evs rfl) rfl)) (fun X hX => pagesErr_any _ _) fun a6 h6 => ?_
  refine qv h6 (fun X hX => ex_field (off := 1) (j := 1) (by kernel_rfl) (h6.ev rfl) rfl) fun a7 h7 => ?_
  refine qv h7 (fun X hX => ex_loads (by kernel_rfl) (by kernel_rfl) (h7.ev rfl) ((S1.grow hX).cellsOf (i := 0) rfl 1 3)) fun a8 h8 => ?_
  refine sq_nil ?_
  refine nd_end fun X9 hX9 hΦ9 => ?_
  have S9 := S1.grow hX9
  refine sl_bel h8 (wn rfl) (ex_call (fun _ _ => by kernel_rfl) (h8.evs rfl) rfl) rfl rfl S9 (areaErr_any r.r _) fun a10 X10 h10 S10 => ?_
  refine sl_new h10 (wn rfl) (f := fun b => .slice (some ⟨b, 0, none⟩) 2 2) (ex_bslice Tryz.underlying140 (by kernel_rfl) (by kernel_rfl) (h10.evs2 rfl) rfl rfl rfl (by decide) (by decide)) rfl rfl S10 fun b15 a11 X11 gb15 h11 S11 => ?_
  refine sl_pure h11 (wn rfl) (ex_call (fun _ _ => by kernel_rfl) (h11.evs rfl) rfl) rfl rfl (logring_first2 (S11.at_ (i := 0) rfl)) fun a12 h12 => ?_
  refine ma h12 rfl rfl fun a13 h13 => ?_
  refine st_nil (go_then (st_seq (st_seq (st_reg ?_))))
  refine vf h13 4 4 rfl rfl rfl fun a14 h14 => ?_
  refine sv h14 (ex_loads (by kernel_rfl) (by kernel_rfl) (h14.ev rfl) (S11.cellsOf (i := 1) rfl 4 3)) fun a15 h15 => ?_
  refine sv h15 (ex_build (zs := [.int .i64 0, .int .i64 0, .int .i64 0]) (pl := [(0, 1), (1, 1), (2, 1)]) (by kernel_rfl) (by kernel_rfl) (h15.evs2 rfl) rfl rfl) fun a16 h16 => ?_
  refine sv h16 (ex_tneq (ks := [.i .i64, .i .i64, .i .i64]) (by kernel_rfl) Tryz.underlying23 (by kernel_rfl) (h16.ev rfl) (h16.ev rfl) rfl rfl) fun a17 h17 => ?_
  refine st_nil (go_then ?_)
  refine st_joinH h17 S11 [(4, .int .i64 (firstE [pgsE r.pg, rstE r.r, earE r]))] [3, 2, 1] ?_ (fun a18 X18 h18 S18 => ?_)
  ·
   refine st_if (h17.ev rfl) (fun hc0 => ?_) (fun hc0 => ?_)
   ·
    apply dr_flow h17 [false, false, false, false, false, false, false, false, false, false, false, false, false] _ (by kernel_rfl)
    case h =>
     refine qv h17 (fun X hX => ex_move (h17.ev rfl)) fun a19 h19 => ?_
     refine qv h19 (fun X hX => ex_field (off := 4) (j := 4) (by kernel_rfl) (h19.ev rfl) rfl) fun a20 h20 => ?_
     refine qv h20 (fun X hX => ex_loads (by kernel_rfl) (by kernel_rfl) (h20.ev rfl) ((S11.grow hX).cellsOf (i := 1) rfl 4 3)) fun a21 h21 => ?_
     refine sq_bel h21 (wn rfl) rfl rfl (fun X => (ex_call (fun _ _ => by kernel_rfl) (h21.evs rfl) rfl)) (fun X hX => areaErr_any r.e _) fun a22 h22 => ?_
     refine qv h22 (fun X hX => ex_field (off := 4) (j := 4) (by kernel_rfl) (h22.ev rfl) rfl) fun a23 h23 => ?_
     refine qv h23 (fun X hX => ex_field (off := 0) (j := 4) (by kernel_rfl) (h23.ev rfl) rfl) fun a24 h24 => ?_
     refine qv h24 (fun X hX => ex_load (by kernel_rfl) (h24.ev rfl) ((S11.grow hX).cell (i := 1) rfl rfl)) fun a25 h25 => ?_
     refine qv h25 (fun X hX => ex_field (off := 1) (j := 1) (by kernel_rfl) (h25.ev rfl) rfl) fun a26 h26 => ?_
     refine qv h26 (fun X hX => ex_field (off := 0) (j := 1) (by kernel_rfl) (h26.ev rfl) rfl) fun a27 h27 => ?_
     refine qv h27 (fun X hX => ex_load (by kernel_rfl) (h27.ev rfl) ((S11.grow hX).cell (i := 1) rfl rfl)) fun a28 h28 => ?_
     refine qv h28 (fun X hX => ex_subw (h28.ev rfl) (h28.ev rfl)) fun a29 h29 => ?_
     refine qv h29 (fun X hX => ex_eql (h29.ev rfl) (h29.ev rfl)) fun a30 h30 => ?_
     refine sq_pure h30 (wn rfl) rfl rfl (fun X => (ex_call (fun _ _ => by kernel_rfl) (h30.evs rfl) rfl)) (fun X hX => logring_unless_any _ _ _) fun a31 h31 => ?_
     refine sq_nil ?_
     refine nd_end fun X32 hX32 hΦ32 => ?_
     have S32 := S11.grow hX32
     refine sl_new h31 (wn rfl) (f := fun b => .slice (some ⟨b, 0, none⟩) 3 3) (ex_bslice Tryz.underlying140 (by kernel_rfl) (by kernel_rfl) (h31.evs2 rfl) rfl rfl rfl (by decide) (by decide)) rfl rfl S32 fun b34 a33 X33 gb34 h33 S33 => ?_
     refine sl_pure h33 (wn rfl) (ex_call (fun _ _ => by kernel_rfl) (h33.evs rfl) rfl) rfl rfl (logring_first3 (S33.at_ (i := 0) rfl)) fun a34 h34 => ?_
     refine ma h34 rfl rfl fun a35 h35 => ?_
     refine st_nil (go_then ?_)
     have he : r.e ≠ rst0 := by
      have e1 : (!eqL [.int .i64 r.e.s, .int .i64 r.e.c, .int .i64 r.e.o] [.int .i64 rst0.s, .int .i64 rst0.c, .int .i64 rst0.o]) = true := hc0
      rw [rst_eqL] at e1; simpa using e1
     have e2 : firstE [firstE [pgsE r.pg, rstE r.r], rstE r.e, unl (r.e.s == IntKind.i64.wrap (r.r.s - 1)) 9] = firstE [pgsE r.pg, rstE r.r, earE r] := by
      rw [firstE_nest]
      unfold earE
      rw [if_neg he]
      simp only [firstE]
      by_cases h1 : pgsE r.pg = 0 <;> by_cases h2 : rstE r.r = 0 <;> simp only [h1, h2, if_true, if_false]
      have h3 : rstB r.r = true := by unfold rstE at h2; exact (unl_zero (by decide)).1 h2
      have h4 := rstB_bd h3
      rw [wrap_in (by omega)]
      by_cases h5 : rstE r.e = 0 <;> simp [h5]
     rw [e2] at h35
     exact ⟨h35.re ⟨rfl, rfl, rfl, rfl, trivial⟩, S33.sub (.cons _ (.cons_cons _ (.cons_cons _ .slnil)))⟩
    case hB => kernel_rfl
    case hst => rfl
   ·
    refine wp_skip (go_then ?_)
    have he : r.e = rst0 := by
     have e1 : (!eqL [.int .i64 r.e.s, .int .i64 r.e.c, .int .i64 r.e.o] [.int .i64 rst0.s, .int .i64 rst0.c, .int .i64 rst0.o]) = false := hc0
     rw [rst_eqL] at e1; simpa using e1
    have e2 : firstE [pgsE r.pg, rstE r.r] = firstE [pgsE r.pg, rstE r.r, earE r] := by
     unfold earE; rw [if_pos he, firstE_nest0]
    rw [e2] at h17
    exact ⟨h17.re ⟨rfl, rfl, rfl, rfl, trivial⟩, S11⟩
  ·
   have hd : firstE [firstE [pgsE r.pg, rstE r.r, earE r], unl (inB r.nx 0 100000000 && r.nx % 8 == 0) 2, unl (decide ((r.rs.length : Int) ≤ 100)) 8] = headE r := by
    rw [firstE_nest3]; unfold headE posB
    have : decide ((r.rs.length : Int) ≤ 100) = decide (r.rs.length ≤ 100) := decide_eq_decide.2 (by omega)
    rw [this]
   refine go_then (st_seq ?_)
   apply dr_flow h18 [false, false, false, false, false, false, false, false, false, false, false, false, false, false, false, false] _ (by kernel_rfl)
   case h =>
    refine qv h18 (fun X hX => ex_move (h18.ev rfl)) fun a36 h36 => ?_
    refine qv h36 (fun X hX => ex_field (off := 8) (j := 8) (by kernel_rfl) (h36.ev rfl) rfl) fun a37 h37 => ?_
    refine qv h37 (fun X hX => ex_load (by kernel_rfl) (h37.ev rfl) ((S18.grow hX).cell (i := 1) rfl rfl)) fun a38 h38 => ?_
    refine sq_pure h38 (wn rfl) rfl rfl (fun X => (ex_call (fun _ _ => by kernel_rfl) (h38.evs rfl) rfl)) (fun X hX => logring_within_any _ _ _ _) fun a39 h39 => ?_
    refine qv h39 (fun X hX => ex_move (h39.ev rfl)) fun a40 h40 => ?_
    apply sq_and h40 40 rfl 5 45
    case ht =>
     intro gc40
     refine sq_val h40 (wanted_yes h40 _ rfl rfl rfl gc40) rfl rfl (fun X hX => (ex_field (off := 8) (j := 8) (by kernel_rfl) (h40.ev rfl) rfl)) fun a41 h41 => ?_
     refine sq_val h41 (wanted_yes h41 _ rfl rfl rfl gc40) rfl rfl (fun X hX => (ex_load (by kernel_rfl) (h41.ev rfl) ((S18.grow hX).cell (i := 1) rfl rfl))) fun a42 h42 => ?_
     refine sq_val h42 (wanted_yes h42 _ rfl rfl rfl gc40) rfl rfl (fun X hX => (ex_rem (h42.ev rfl) (h42.ev rfl) (by have := gc40; rw [inB_true] at this; omega))) fun a43 h43 => ?_
     refine sq_val h43 (wanted_yes h43 _ rfl rfl rfl gc40) rfl rfl (fun X hX => (ex_eql (h43.ev rfl) (h43.ev rfl))) fun a44 h44 => ?_
     refine qv h44 (fun X hX => ex_pick_t (h44.ev rfl) gc40 (h44.ev rfl)) fun a45 h45 => ?_
     exact sq_nil (h45.mid (m := [(_, _), (_, _), (_, _), (_, _)]) rfl)
    case hf =>
     intro gc40
     refine qo h40 rfl rfl rfl gc40 rfl rfl fun a46 h46 => ?_
     refine qo h46 rfl rfl rfl gc40 rfl rfl fun a47 h47 => ?_
     refine qo h47 rfl rfl rfl gc40 rfl rfl fun a48 h48 => ?_
     refine qo h48 rfl rfl rfl gc40 rfl rfl fun a49 h49 => ?_
     refine qv h49 (fun X hX => ex_pick_f (h49.ev rfl) gc40 (h49.ev rfl)) fun a50 h50 => ?_
     exact sq_nil (h50.mid (m := [(_, _), (_, _), (_, _), (_, _)]) rfl)
    case h =>
     intro a51 h51
     refine sq_pure h51 (wn rfl) rfl rfl (fun X => (ex_call (fun _ _ => by kernel_rfl) (h51.evs rfl) rfl)) (fun X hX => logring_unless_any _ _ _) fun a52 h52 => ?_
     refine qv h52 (fun X hX => ex_field (off := 7) (j := 7) (by kernel_rfl) (h52.ev rfl) rfl) fun a53 h53 => ?_
     refine qv h53 (fun X hX => ex_load (by kernel_rfl) (h53.ev rfl) ((S18.grow hX).cell (i := 1) rfl rfl)) fun a54 h54 => ?_
     refine qv h54 (fun X hX => ex_len Tryz.underlying24 (h54.ev rfl)) fun a55 h55 => ?_
     refine qv h55 (fun X hX => ex_leq (h55.ev rfl) (h55.ev rfl)) fun a56 h56 => ?_
     refine sq_pure h56 (wn rfl) rfl rfl (fun X => (ex_call (fun _ _ => by kernel_rfl) (h56.evs rfl) rfl)) (fun X hX => logring_unless_any _ _ _) fun a57 h57 => ?_
     refine sq_nil ?_
     refine nd_end fun X58 hX58 hΦ58 => ?_
     have S58 := S18.grow hX58
     refine sl_new h57 (wn rfl) (f := fun b => .slice (some ⟨b, 0, none⟩) 3 3) (ex_bslice Tryz.underlying140 (by kernel_rfl) (by kernel_rfl) (h57.evs2 rfl) rfl rfl rfl (by decide) (by decide)) rfl rfl S58 fun b52 a59 X59 gb52 h59 S59 => ?_
     refine sl_pure h59 (wn rfl) (ex_call (fun _ _ => by kernel_rfl) (h59.evs rfl) rfl) rfl rfl (logring_first3 (S59.at_ (i := 0) rfl)) fun a60 h60 => ?_
     refine ma h60 rfl rfl fun a61 h61 => ?_
     refine st_nil (go_then (st_seq (st_seq (st_reg ?_))))
     refine mv h61 rfl rfl fun a62 h62 => ?_
     refine sv h62 (ex_neq (h62.ev rfl) (h62.ev rfl)) fun a63 h63 => ?_
     refine st_nil (go_then ?_)
     refine st_if (h63.ev rfl) (fun hc1 => ?_) (fun hc1 => ?_)
     ·
      have hne : headE r ≠ 0 := by rw [← hd]; simpa using hc1
      refine st_seq (st_reg ?_)
      refine mv h63 rfl rfl fun a64 h64 => ?_
      refine ma h64 rfl rfl fun a65 h65 => ?_
      refine ma h65 rfl rfl fun a66 h66 => ?_
      refine st_nil (go_then (wp_ret (ret_then ?_)))
      refine fin2 h66 rfl rfl rfl ?_
      refine ⟨?_, S59.below⟩
      rw [hd]; unfold chkR; rw [if_pos hne]
     ·
      have hz : headE r = 0 := by rw [← hd]; simpa using hc1
      have hH := head_iff.1 hz
      have ho := hH.rr.2.2
      have hnx := hH.nx
      have hpg := hH.pg
      refine wp_skip (go_then (st_seq (st_seq (st_reg ?_))))
      refine vf h63 7 7 rfl rfl rfl fun a67 h67 => ?_
      refine vl h67 S59 2 rfl rfl rfl rfl fun a68 h68 => ?_
      refine sv h68 (ex_func (h68.evs rfl) (h68.evs rfl)) fun a69 h69 => ?_
      refine sl_bel h69 (wn rfl) (ex_call (fun _ _ => by kernel_rfl) (h69.evs rfl) rfl) rfl rfl S59 (eachRec_any (fun k x => recE r.r.o r.r.s (bfrR r.rs k) x) r.rs A c 78 [.pointer (some ⟨b1, 0, none⟩)] _ (S59.rd0 hr) hlen (fun _ _ => by kernel_rfl) (fun X hX k hk hz' => chk1_any r A c k b1 _ X (Box.below (S59.at_ (i := 2) rfl) hX) ((S59.rd0 hr).below' hX) hk (hx _ (List.getElem_mem _)) (bfr_of r ho.2 hlen k hk hz') ho hlen)) fun a70 X70 h70 S70 => ?_
      refine mv h70 rfl rfl fun a71 h71 => ?_
      refine vx h71 rfl rfl rfl fun a72 h72 => ?_
      refine vx h72 rfl rfl rfl fun a73 h73 => ?_
      refine ma h73 rfl rfl fun a74 h74 => ?_
      refine ma h74 rfl rfl fun a75 h75 => ?_
      refine nsr ?_
      refine mv h75 rfl rfl fun a76 h76 => ?_
      refine sv h76 (ex_neq (h76.ev rfl) (h76.ev rfl)) fun a77 h77 => ?_
      refine st_nil (go_then ?_)
      refine st_if (h77.ev rfl) (fun hc2 => ?_) (fun hc2 => ?_)
      ·
       have hre : (recsP r).2 ≠ 0 := by unfold recsP; simpa using hc2
       refine st_seq (st_reg ?_)
       refine mv h77 rfl rfl fun a78 h78 => ?_
       refine mv h78 rfl rfl fun a79 h79 => ?_
       refine ma h79 rfl rfl fun a80 h80 => ?_
       refine ma h80 rfl rfl fun a81 h81 => ?_
       refine st_nil (go_then (wp_ret (ret_then ?_)))
       refine fin2 h81 rfl rfl rfl ?_
       refine ⟨?_, S70.below⟩
       unfold chkR; rw [if_neg (by simpa using hz), if_pos hre]; rfl
      ·
       have hre : (recsP r).2 = 0 := by unfold recsP; simpa using hc2
       have hall : ∀ m (hm : m < r.rs.length), recE r.r.o r.r.s (bfrR r.rs m) r.rs[m] = 0 := fun m hm => by
        have := eachE_zero _ _ _ hre m hm
        rw [Nat.zero_add] at this; exact this
       have hlast := last_bfr r ho.2 hlen hall
       have ho1 : r.rs = [] ∨ (1 ≤ r.r.o ∧ r.r.o ≤ 100000000) := (recs_o r hall).imp_right fun h => ⟨h, ho.2⟩
       refine wp_skip (go_then (st_seq (st_reg ?_)))
       refine sv h77 (ex_loads (by kernel_rfl) (by kernel_rfl) (h77.ev rfl) (S70.cellsAll (i := 2) rfl)) fun a82 h82 => ?_
       refine sl_bel h82 (wn rfl) (ex_call (fun _ _ => by kernel_rfl) (h82.evs rfl) rfl) rfl rfl S70 (rooms_any r A c _ (S70.rd0 hr) hlast ho1 hlen) fun a83 X83 h83 S83 => ?_
       refine mv h83 rfl rfl fun a84 h84 => ?_
       refine vx h84 rfl rfl rfl fun a85 h85 => ?_
       refine vx h85 rfl rfl rfl fun a86 h86 => ?_
       refine ma h86 rfl rfl fun a87 h87 => ?_
       refine ma h87 rfl rfl fun a88 h88 => ?_
       refine st_nil (go_then (st_seq ?_))
       apply dr_flow h88 [false, false, false, false, false, false, false, false, false, false, false, false, false, false, false, false, false, false, false, false] _ (by kernel_rfl)
       case h =>
        refine qv h88 (fun X hX => ex_loads (by kernel_rfl) (by kernel_rfl) (h88.ev rfl) ((S83.grow hX).cellsAll (i := 2) rfl)) fun a89 h89 => ?_
        refine sq_bel h89 (wn rfl) rfl rfl (fun X => (ex_call (fun _ _ => by kernel_rfl) (h89.evs rfl) rfl)) (fun X hX => nextErr_any r A c _ ((S83.grow hX).rd0 hr) hlast ho ⟨hnx.1, hnx.2.1⟩ hlen) fun a90 h90 => ?_
        refine qv h90 (fun X hX => ex_field (off := 1) (j := 1) (by kernel_rfl) (h90.ev rfl) rfl) fun a91 h91 => ?_
        refine qv h91 (fun X hX => ex_field (off := 1) (j := 2) (by kernel_rfl) (h91.ev rfl) rfl) fun a92 h92 => ?_
        refine qv h92 (fun X hX => ex_load (by kernel_rfl) (h92.ev rfl) ((S83.grow hX).cell (i := 2) rfl rfl)) fun a93 h93 => ?_
        refine qv h93 (fun X hX => ex_eql (h93.ev rfl) (h93.ev rfl)) fun a94 h94 => ?_
        refine qv h94 (fun X hX => ex_move (h94.ev rfl)) fun a95 h95 => ?_
        apply sq_or h95 79 rfl 7 86
        case hf =>
         intro gc79
         refine sq_val h95 (wanted_yes h95 _ rfl rfl rfl gc79) rfl rfl (fun X hX => (ex_field (off := 7) (j := 7) (by kernel_rfl) (h95.ev rfl) rfl)) fun a96 h96 => ?_
         refine sq_val h96 (wanted_yes h96 _ rfl rfl rfl gc79) rfl rfl (fun X hX => (ex_load (by kernel_rfl) (h96.ev rfl) ((S83.grow hX).cell (i := 2) rfl rfl))) fun a97 h97 => ?_
         refine sq_val h97 (wanted_yes h97 _ rfl rfl rfl gc79) rfl rfl (fun X hX => (ex_field (off := 1) (j := 1) (by kernel_rfl) (h97.ev rfl) rfl)) fun a98 h98 => ?_
         refine sq_val h98 (wanted_yes h98 _ rfl rfl rfl gc79) rfl rfl (fun X hX => (ex_field (off := 1) (j := 2) (by kernel_rfl) (h98.ev rfl) rfl)) fun a99 h99 => ?_
         refine sq_val h99 (wanted_yes h99 _ rfl rfl rfl gc79) rfl rfl (fun X hX => (ex_load (by kernel_rfl) (h99.ev rfl) ((S83.grow hX).cell (i := 2) rfl rfl))) fun a100 h100 => ?_
         refine sq_bel h100 (wanted_yes h100 _ rfl rfl rfl gc79) rfl rfl (fun X => (ex_call (fun _ _ => by kernel_rfl) (h100.evs rfl) rfl)) (fun X hX => has_rec r.rs A c r.r.c 0 _ ((S83.grow hX).rd0 hr) hlen) fun a101 h101 => ?_
         refine qv h101 (fun X hX => ex_pick_f (h101.ev rfl) gc79 (h101.ev rfl)) fun a102 h102 => ?_
         exact sq_nil (h102.mid (m := [(_, _), (_, _), (_, _), (_, _), (_, _), (_, _)]) rfl)
        case ht =>
         intro gc79
         refine qo h95 rfl rfl rfl gc79 rfl rfl fun a103 h103 => ?_
         refine qo h103 rfl rfl rfl gc79 rfl rfl fun a104 h104 => ?_
         refine qo h104 rfl rfl rfl gc79 rfl rfl fun a105 h105 => ?_
         refine qo h105 rfl rfl rfl gc79 rfl rfl fun a106 h106 => ?_
         refine qo h106 rfl rfl rfl gc79 rfl rfl fun a107 h107 => ?_
         refine qo h107 rfl rfl rfl gc79 rfl rfl fun a108 h108 => ?_
         refine qv h108 (fun X hX => ex_pick_t (h108.ev rfl) gc79 (h108.ev rfl)) fun a109 h109 => ?_
         exact sq_nil (h109.mid (m := [(_, _), (_, _), (_, _), (_, _), (_, _), (_, _)]) rfl)
        case h =>
         intro a110 h110
         refine sq_pure h110 (wn rfl) rfl rfl (fun X => (ex_call (fun _ _ => by kernel_rfl) (h110.evs rfl) rfl)) (fun X hX => logring_unless_any _ _ _) fun a111 h111 => ?_
         refine qv h111 (fun X hX => ex_move (h111.ev rfl)) fun a112 h112 => ?_
         refine qv h112 (fun X hX => ex_field (off := 0) (j := 0) (by kernel_rfl) (h112.ev rfl) rfl) fun a113 h113 => ?_
         refine qv h113 (fun X hX => ex_load (by kernel_rfl) (h113.ev rfl) ((S83.grow hX).cell (i := 2) rfl rfl)) fun a114 h114 => ?_
         refine qv h114 (fun X hX => ex_sub (h114.ev rfl) (h114.ev rfl) (by omega)) fun a115 h115 => ?_
         refine qv h115 (fun X hX => ex_leq (h115.ev rfl) (h115.ev rfl)) fun a116 h116 => ?_
         refine sq_nil ?_
         refine nd_end fun X117 hX117 hΦ117 => ?_
         have S117 := S83.grow hX117
         refine sl_pure h116 (wn rfl) (ex_call (fun _ _ => by kernel_rfl) (h116.evs rfl) rfl) rfl rfl (logring_unless_any _ _ _) fun a118 h118 => ?_
         refine sl_new h118 (wn rfl) (f := fun b => .slice (some ⟨b, 0, none⟩) 3 3) (ex_bslice Tryz.underlying140 (by kernel_rfl) (by kernel_rfl) (h118.evs2 rfl) rfl rfl rfl (by decide) (by decide)) rfl rfl S117 fun b94 a119 X119 gb94 h119 S119 => ?_
         refine sl_pure h119 (wn rfl) (ex_call (fun _ _ => by kernel_rfl) (h119.evs rfl) rfl) rfl rfl (logring_first3 (S119.at_ (i := 0) rfl)) fun a120 h120 => ?_
         refine ma h120 rfl rfl fun a121 h121 => ?_
         refine ma h121 rfl rfl fun a122 h122 => ?_
         refine st_nil (go_then (wp_ret ?_))
         refine fin2 h122 rfl rfl rfl ?_
         refine ⟨?_, S119.below⟩
         unfold chkR; rw [if_neg (by simpa using hz), if_neg (by simpa using hre)]
         unfold tailE
         have : decide (r.r.c ≥ 0) = true := decide_eq_true hH.rr.2.1.1
         rw [this, Bool.true_and]
       case hB => kernel_rfl
       case hst => rfl
   case hB => kernel_rfl
   case hst => rfl
 case hB => kernel_rfl
 case hst => rfl
theorem ringErr_any (r : RngP) (A : Option Addr) (c : Nat) (w : World) (hr : Rd w w.heap.size A (recsV r.rs)) (hlen : r.rs.length ≤ 1000) (hx : ∀ x ∈ r.rs, I6 x.l) :
 Calls Tryz.prog 57 #[ringV r A c] w fun e w' => e = .returned (.int .i64 (chkR r).2) ∧ Below w.heap.size w w' := by
 refine st_enter (N := 11) Tryz.func57 rfl rfl rfl (fun a0 h0 => ?_)
 have S0 := St.init w
 refine st_seq (st_reg ?_)
 refine nb h0 rfl rfl S0 fun b1 a1 X1 gb1 h1 S1 => ?_
 refine ma h1 rfl rfl fun a2 h2 => ?_
 refine nsr ?_
 refine sv h2 (ex_loads (by kernel_rfl) (by kernel_rfl) (h2.ev rfl) (S1.cellsAll (i := 0) rfl)) fun a3 h3 => ?_
 refine sl_bel h3 (wn rfl) (ex_call (fun _ _ => by kernel_rfl) (h3.evs rfl) rfl) rfl rfl S1 (CheckRing_any r A c _ (S1.rd0 hr) hlen hx) fun a4 X4 h4 S4 => ?_
 refine mv h4 rfl rfl fun a5 h5 => ?_
 refine vx h5 rfl rfl rfl fun a6 h6 => ?_
 refine vx h6 rfl rfl rfl fun a7 h7 => ?_
 refine ma h7 rfl rfl fun a8 h8 => ?_
 refine ma h8 rfl rfl fun a9 h9 => ?_
 refine nsr ?_
 refine mv h9 rfl rfl fun a10 h10 => ?_
 refine ma h10 rfl rfl fun a11 h11 => ?_
 refine st_nil (go_then (wp_ret ?_))
 refine fin1 h11 rfl rfl ?_
 exact ⟨rfl, S4.below⟩
structure OkP (r : RngP) : Prop where
 h : HeadP r
 all : ∀ m (hm : m < r.rs.length), recE r.r.o r.r.s (bfrR r.rs m) r.rs[m] = 0
 t : tailE r = 0
theorem ok_iff {r : RngP} : (chkR r).2 = 0 ↔ OkP r := by
 unfold chkR
 constructor
 · intro h
   by_cases h1 : headE r = 0
   · rw [if_neg (by simpa using h1)] at h
     by_cases h2 : (recsP r).2 = 0
     · rw [if_neg (by simpa using h2)] at h
       exact ⟨head_iff.1 h1, fun m hm => by
        have := eachE_zero _ _ _ h2 m hm
        rw [Nat.zero_add] at this; exact this, h⟩
     · rw [if_pos h2] at h; exact absurd h h2
   · rw [if_pos h1] at h; exact absurd h h1
 · intro h
   rw [if_neg (by simpa using head_iff.2 h.h)]
   have h2 : (recsP r).2 = 0 := by unfold recsP; rw [eachE_none _ _ _ (fun k hk => by rw [Nat.zero_add]; exact h.all k hk)]
   rw [if_neg (by simpa using h2)]
   exact h.t
theorem OkP.last {r : RngP} (h : OkP r) : ∀ y, r.rs.getLast? = some y → Bfr y := last_bfr r h.h.rr.2.2.2 (by have := h.h.len; omega) h.all
theorem OkP.o {r : RngP} (h : OkP r) : r.rs = [] ∨ (1 ≤ r.r.o ∧ r.r.o ≤ 100000000) := (recs_o r h.all).imp_right fun q => ⟨q, h.h.rr.2.2.2⟩
theorem OkP.rcd {r : RngP} (h : OkP r) (k : Nat) (hk : k < r.rs.length) : 1 ≤ r.rs[k].l ∧ r.rs[k].l ≤ 100000000 + k * 4000 ∧ r.rs[k].b.size ≤ 3000 := recs_bd r h.h.rr.2.2.2 k hk fun m hm _ => h.all m hm
theorem RoomsOf_any (r : RngP) (A : Option Addr) (c : Nat) (w : World) (hr : Rd w w.heap.size A (recsV r.rs)) (hlen : r.rs.length ≤ 1000) (hx : ∀ x ∈ r.rs, I6 x.l) :
 Calls Tryz.prog 26 #[ringV r A c] w fun e w' => e = .returned (if (chkR r).2 = 0 then .tuple #[.int .i64 (roomsP r).1, .int .i64 (roomsP r).2, .int .i64 0] else .tuple #[.int .i64 0, .int .i64 0, .int .i64 (chkR r).2]) ∧ Below w.heap.size w w' := by
 refine st_enter (N := 20) Tryz.func26 rfl rfl rfl (fun a0 h0 => ?_)
 have S0 := St.init w
 refine st_seq (st_reg ?_)
 refine nb h0 rfl rfl S0 fun b1 a1 X1 gb1 h1 S1 => ?_
 refine ma h1 rfl rfl fun a2 h2 => ?_
 refine ma h2 rfl rfl fun a3 h3 => ?_
 refine ma h3 rfl rfl fun a4 h4 => ?_
 refine st_nil (go_then (st_seq (st_seq (st_reg ?_))))
 refine sv h4 (ex_loads (by kernel_rfl) (by kernel_rfl) (h4.ev rfl) (S1.cellsAll (i := 0) rfl)) fun a5 h5 => ?_
 refine sl_bel h5 (wn rfl) (ex_call (fun _ _ => by kernel_rfl) (h5.evs rfl) rfl) rfl rfl S1 (ringErr_any r A c _ (S1.rd0 hr) hlen hx) fun a6 X6 h6 S6 => ?_
 refine ma h6 rfl rfl fun a7 h7 => ?_
 refine nsr ?_
 refine mv h7 rfl rfl fun a8 h8 => ?_
 refine sv h8 (ex_neq (h8.ev rfl) (h8.ev rfl)) fun a9 h9 => ?_
 refine st_nil (go_then ?_)
 refine st_if (h9.ev rfl) (fun hc0 => ?_) (fun hc0 => ?_)
 ·
  have hne : ¬ (chkR r).2 = 0 := by simpa using hc0
  refine st_seq (st_reg ?_)
  refine mv h9 rfl rfl fun a10 h10 => ?_
  refine ma h10 rfl rfl fun a11 h11 => ?_
  refine ma h11 rfl rfl fun a12 h12 => ?_
  refine ma h12 rfl rfl fun a13 h13 => ?_
  refine st_nil (go_then (wp_ret (ret_then ?_)))
  refine fin3 h13 rfl rfl rfl rfl ?_
  exact ⟨by rw [if_neg hne], S6.below⟩
 ·
  have hz : (chkR r).2 = 0 := by simpa using hc0
  have hk := ok_iff.1 hz
  refine wp_skip (go_then (st_seq (st_reg ?_)))
  refine sv h9 (ex_loads (by kernel_rfl) (by kernel_rfl) (h9.ev rfl) (S6.cellsAll (i := 0) rfl)) fun a14 h14 => ?_
  refine sl_bel h14 (wn rfl) (ex_call (fun _ _ => by kernel_rfl) (h14.evs rfl) rfl) rfl rfl S6 (rooms_any r A c _ (S6.rd0 hr) hk.last hk.o hlen) fun a15 X15 h15 S15 => ?_
  refine mv h15 rfl rfl fun a16 h16 => ?_
  refine vx h16 rfl rfl rfl fun a17 h17 => ?_
  refine vx h17 rfl rfl rfl fun a18 h18 => ?_
  refine ma h18 rfl rfl fun a19 h19 => ?_
  refine ma h19 rfl rfl fun a20 h20 => ?_
  refine nsr ?_
  refine mv h20 rfl rfl fun a21 h21 => ?_
  refine mv h21 rfl rfl fun a22 h22 => ?_
  refine ma h22 rfl rfl fun a23 h23 => ?_
  refine ma h23 rfl rfl fun a24 h24 => ?_
  refine ma h24 rfl rfl fun a25 h25 => ?_
  refine st_nil (go_then (wp_ret ?_))
  refine fin3 h25 rfl rfl rfl rfl ?_
  exact ⟨by rw [if_pos hz]; rfl, S15.below⟩
def fndR (l : List RecP) (n : Int) : Option RecP := l.find? fun x => x.l == n
end Go.Proofs.YtmlilplbdpjfcaaGreatDoor
