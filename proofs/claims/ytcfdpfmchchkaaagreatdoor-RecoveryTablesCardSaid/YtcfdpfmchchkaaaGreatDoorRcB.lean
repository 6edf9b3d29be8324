/-
  Chapter 22: small functions, tables checked.
  Chapter 22: numbers in bytes; the bytes of a table.
-/
import Derived.Test.YtcfdpfmchchkaaaGreatDoorRcA
import Derived.Test.YtcfdpfmchchkaaaGreatDoorRgB
namespace Go.Proofs.YtcfdpfmchchkaaaGreatDoor
set_option linter.unusedVariables false
set_option linter.unusedSimpArgs false
set_option maxRecDepth 4000
open Go.RowKit Go.Sort
def trnV (x : Trn) : Value := .agg #[.int .i64 x.i, .int .i64 x.l, .int .i64 x.u, .bool x.c]
def dtyV (x : Dty) : Value := .agg #[.int .i64 x.g, .bool x.f, .int .i64 x.l]
def rcdV (x : Rcd) : Value := .agg #[.int .i64 x.l, .int .i64 x.e.k, .int .i64 x.e.t, .int .i64 x.e.p, .int .i64 x.e.x, .int .i64 x.e.g, .bool x.e.f, .int .i64 x.e.o.k, .int .i64 x.e.o.a, .int .i64 x.e.o.e, .int .i64 x.e.o.c, .string x.e.o.o, .string x.e.o.n, .string x.e.d]
def pgpV (x : Pgp) : Value := .agg #[.int .i64 x.g, .bool x.f, .string x.b]
def tblV (t : Tbl) (A : Option Addr) (c : Nat) (B : Option Addr) (d : Nat) : Value := .agg #[.slice A t.ts.length c, .slice B t.ds.length d]
theorem flat_pos {α : Type} {f : α → List Value} {n : Nat} (hf : ∀ x, (f x).length = n) (hn : 0 < n) {l : List α} (h : 0 < l.length) : 0 < (l.flatMap f).length := by
 match l, h with
 | x :: r, _ => rw [List.flatMap_cons, List.length_append, hf]; omega
theorem eachTrn_any (g : Nat → Trn → Int) (l : List Trn) (A : Option Addr) (c : Nat) (f : FuncId) (cap : List Value) (w : World) (hr : Rd w w.heap.size A (l.flatMap trsL)) (hlen : l.length ≤ 1000) (hfc : ∀ (vs : Array Value) (W : World), (callFunc f vs).run Tryz.prog W = .ok (.enter f vs) W)
 (hcl : ∀ X, Below w.heap.size w X → ∀ (k : Nat) (hk : k < l.length), (∀ m (hm : m < l.length), m < k → g m l[m] = 0) → Calls Tryz.prog f ([.int .i64 k, trnV l[k]] ++ cap).toArray X fun e X' => e = .returned (.int .i64 (g k l[k])) ∧ Below X.heap.size X X') :
 Calls Tryz.prog 60 #[.slice A l.length c, .func (.func f) #[] cap.toArray] w fun e w' => e = .returned (.tuple #[.int .i64 (eachE g 0 l).1, .int .i64 (eachE g 0 l).2]) ∧ Below w.heap.size w w' := by
 refine st_enter (N := 25) Tryz.func60 rfl rfl rfl (fun a0 h0 => ?_)
 have S0 := St.init w
 refine st_seq (st_reg ?_)
 refine ma h0 rfl rfl fun a1 h1 => ?_
 refine ma h1 rfl rfl fun a2 h2 => ?_
 refine st_nil (go_then (st_seq (st_seq (st_reg ?_))))
 refine mv h2 rfl rfl fun a3 h3 => ?_
 refine sv h3 (ex_len Tryz.underlying22 (h3.ev rfl)) fun a4 h4 => ?_
 refine mv h4 rfl rfl fun a5 h5 => ?_
 refine st_nil (go_then (wp_block ?_))
 refine st_loop h5 S0 [10, 9, 1] (fun (j : Nat) => [(11, .int .i64 j)]) (fun (j : Nat) => j ≤ l.length ∧ ∀ k (hk : k < l.length), k < j → g k l[k] = 0) (fun (j : Nat) L => L) (fun (j : Nat) => l.length - j) (0) (⟨Nat.zero_le _, fun k _ h => by omega⟩) ⟨rfl, rfl, rfl, rfl, trivial⟩ (S0) ?_
 intro j a6 X6 hF0 h6 S6
 refine st_seq (st_reg ?_)
 refine sv h6 (ex_lss (h6.ev rfl) (h6.ev rfl)) fun a7 h7 => ?_
 refine st_nil (go_then (st_seq ?_))
 refine st_if (h7.ev rfl) (fun hc0 => ?_) (fun hc0 => ?_)
 ·
  have hlt : j < l.length := by have := of_decide_eq_true hc0; omega
  obtain ⟨b, o, rfl, hB, _⟩ := hr.opened (flat_pos trsL_len (by decide) (by omega))
  refine wp_skip (go_then (st_seq (wp_block (st_seq (st_reg ?_)))))
  refine mv h7 rfl rfl fun a8 h8 => ?_
  refine sv h8 (ex_index (i := j) (sz := 4) Tryz.underlying22 (by kernel_rfl) (h8.ev rfl) (h8.ev rfl) (by omega) (by omega) rfl) fun a9 h9 => ?_
  refine sv (v := trnV l[j]) h9 (ex_loads (by kernel_rfl) (by kernel_rfl) (h9.ev rfl) (flatAt trsL_len (S6.rd0 hr) hlt)) fun a10 h10 => ?_
  refine na (.agg #[.int .i64 0, .int .i64 0, .int .i64 0, .bool false]) h10 rfl S6 fun b7 a11 X11 gb7 h11 S11 => ?_
  refine ma h11 rfl rfl fun a12 h12 => ?_
  refine sl_store0 h12 (wn rfl) ⟨rfl, rfl⟩ (h12.ev rfl) (h12.ev rfl) rfl (by kernel_rfl) S11 (i := 0) rfl rfl rfl fun X13 S13 => ?_
  refine nsr ?_
  refine mv h12 rfl rfl fun a14 h14 => ?_
  refine mv h14 rfl rfl fun a15 h15 => ?_
  refine sv (v := trnV l[j]) h15 (ex_loads (by kernel_rfl) (by kernel_rfl) (h15.ev rfl) (S13.cellsAll (i := 0) rfl)) fun a16 h16 => ?_
  refine sl_bel h16 (wn rfl) (ex_callv hfc (h16.ev rfl) (h16.evs rfl) rfl) rfl rfl S13 (hcl _ S13.below j hlt hF0.2) fun a17 X17 h17 S17 => ?_
  refine ma h17 rfl rfl fun a18 h18 => ?_
  refine nsr ?_
  refine mv h18 rfl rfl fun a19 h19 => ?_
  refine sv h19 (ex_neq (h19.ev rfl) (h19.ev rfl)) fun a20 h20 => ?_
  refine st_nil (go_then ?_)
  refine st_if (h20.ev rfl) (fun hc1 => ?_) (fun hc1 => ?_)
  ·
   refine st_seq (st_reg ?_)
   refine mv h20 rfl rfl fun a21 h21 => ?_
   refine mv h21 rfl rfl fun a22 h22 => ?_
   refine ma h22 rfl rfl fun a23 h23 => ?_
   refine ma h23 rfl rfl fun a24 h24 => ?_
   refine st_nil (go_then (wp_ret (ret_block (ret_then (ret_then (ret_block (ret_then ?_)))))))
   refine fin2 h24 rfl rfl rfl ?_
   have h1 : g j l[j] ≠ 0 := by simpa using hc1
   have h2 := eachE_hit g l 0 j hlt (fun k hk h => by rw [Nat.zero_add]; exact hF0.2 k hk h) (by rw [Nat.zero_add]; exact h1)
   exact ⟨by rw [h2, Nat.zero_add], S17.below⟩
  ·
   refine wp_skip (go_block (go_then (st_reg ?_)))
   refine sv h20 (ex_add (h20.ev rfl) (h20.ev rfl) (by omega)) fun a25 h25 => ?_
   refine mv h25 rfl rfl fun a26 h26 => ?_
   refine st_nil (go_then ?_)
   exact ⟨j + 1, by omega, ⟨hlt, fun k hk h => (Nat.lt_or_ge k j).elim (fun q => hF0.2 k hk q) (fun q => by (obtain rfl : k = j := by omega); simpa using hc1)⟩, h26.re ⟨rfl, rfl, rfl, rfl, trivial⟩, S17.sub (.cons _ .slnil)⟩
 ·
  have hge : l.length ≤ j := by have := of_decide_eq_false hc0; omega
  refine wp_exit ?_
  refine go_exit_then ?_
  refine go_exit_then ?_
  refine go_exit ?_
  refine go_then (st_seq (st_reg ?_))
  refine ma h7 rfl rfl fun a27 h27 => ?_
  refine ma h27 rfl rfl fun a28 h28 => ?_
  refine st_nil (go_then (wp_ret ?_))
  refine fin2 h28 rfl rfl rfl ?_
  exact ⟨by rw [eachE_none g l 0 (fun k hk => by rw [Nat.zero_add]; exact hF0.2 k hk (by omega))], S6.below⟩
theorem eachDty_any (g : Nat → Dty → Int) (l : List Dty) (A : Option Addr) (c : Nat) (f : FuncId) (cap : List Value) (w : World) (hr : Rd w w.heap.size A (l.flatMap dtyL)) (hlen : l.length ≤ 1000) (hfc : ∀ (vs : Array Value) (W : World), (callFunc f vs).run Tryz.prog W = .ok (.enter f vs) W)
 (hcl : ∀ X, Below w.heap.size w X → ∀ (k : Nat) (hk : k < l.length), (∀ m (hm : m < l.length), m < k → g m l[m] = 0) → Calls Tryz.prog f ([.int .i64 k, dtyV l[k]] ++ cap).toArray X fun e X' => e = .returned (.int .i64 (g k l[k])) ∧ Below X.heap.size X X') :
 Calls Tryz.prog 65 #[.slice A l.length c, .func (.func f) #[] cap.toArray] w fun e w' => e = .returned (.tuple #[.int .i64 (eachE g 0 l).1, .int .i64 (eachE g 0 l).2]) ∧ Below w.heap.size w w' := by
 refine st_enter (N := 25) Tryz.func65 rfl rfl rfl (fun a0 h0 => ?_)
 have S0 := St.init w
 refine st_seq (st_reg ?_)
 refine ma h0 rfl rfl fun a1 h1 => ?_
 refine ma h1 rfl rfl fun a2 h2 => ?_
 refine st_nil (go_then (st_seq (st_seq (st_reg ?_))))
 refine mv h2 rfl rfl fun a3 h3 => ?_
 refine sv h3 (ex_len Tryz.underlying23 (h3.ev rfl)) fun a4 h4 => ?_
 refine mv h4 rfl rfl fun a5 h5 => ?_
 refine st_nil (go_then (wp_block ?_))
 refine st_loop h5 S0 [10, 9, 1] (fun (j : Nat) => [(11, .int .i64 j)]) (fun (j : Nat) => j ≤ l.length ∧ ∀ k (hk : k < l.length), k < j → g k l[k] = 0) (fun (j : Nat) L => L) (fun (j : Nat) => l.length - j) (0) (⟨Nat.zero_le _, fun k _ h => by omega⟩) ⟨rfl, rfl, rfl, rfl, trivial⟩ (S0) ?_
 intro j a6 X6 hF0 h6 S6
 refine st_seq (st_reg ?_)
 refine sv h6 (ex_lss (h6.ev rfl) (h6.ev rfl)) fun a7 h7 => ?_
 refine st_nil (go_then (st_seq ?_))
 refine st_if (h7.ev rfl) (fun hc0 => ?_) (fun hc0 => ?_)
 ·
  have hlt : j < l.length := by have := of_decide_eq_true hc0; omega
  obtain ⟨b, o, rfl, hB, _⟩ := hr.opened (flat_pos dtyL_len (by decide) (by omega))
  refine wp_skip (go_then (st_seq (wp_block (st_seq (st_reg ?_)))))
  refine mv h7 rfl rfl fun a8 h8 => ?_
  refine sv h8 (ex_index (i := j) (sz := 3) Tryz.underlying23 (by kernel_rfl) (h8.ev rfl) (h8.ev rfl) (by omega) (by omega) rfl) fun a9 h9 => ?_
  refine sv (v := dtyV l[j]) h9 (ex_loads (by kernel_rfl) (by kernel_rfl) (h9.ev rfl) (flatAt dtyL_len (S6.rd0 hr) hlt)) fun a10 h10 => ?_
  refine na (.agg #[.int .i64 0, .bool false, .int .i64 0]) h10 rfl S6 fun b7 a11 X11 gb7 h11 S11 => ?_
  refine ma h11 rfl rfl fun a12 h12 => ?_
  refine sl_store0 h12 (wn rfl) ⟨rfl, rfl⟩ (h12.ev rfl) (h12.ev rfl) rfl (by kernel_rfl) S11 (i := 0) rfl rfl rfl fun X13 S13 => ?_
  refine nsr ?_
  refine mv h12 rfl rfl fun a14 h14 => ?_
  refine mv h14 rfl rfl fun a15 h15 => ?_
  refine sv (v := dtyV l[j]) h15 (ex_loads (by kernel_rfl) (by kernel_rfl) (h15.ev rfl) (S13.cellsAll (i := 0) rfl)) fun a16 h16 => ?_
  refine sl_bel h16 (wn rfl) (ex_callv hfc (h16.ev rfl) (h16.evs rfl) rfl) rfl rfl S13 (hcl _ S13.below j hlt hF0.2) fun a17 X17 h17 S17 => ?_
  refine ma h17 rfl rfl fun a18 h18 => ?_
  refine nsr ?_
  refine mv h18 rfl rfl fun a19 h19 => ?_
  refine sv h19 (ex_neq (h19.ev rfl) (h19.ev rfl)) fun a20 h20 => ?_
  refine st_nil (go_then ?_)
  refine st_if (h20.ev rfl) (fun hc1 => ?_) (fun hc1 => ?_)
  ·
   refine st_seq (st_reg ?_)
   refine mv h20 rfl rfl fun a21 h21 => ?_
   refine mv h21 rfl rfl fun a22 h22 => ?_
   refine ma h22 rfl rfl fun a23 h23 => ?_
   refine ma h23 rfl rfl fun a24 h24 => ?_
   refine st_nil (go_then (wp_ret (ret_block (ret_then (ret_then (ret_block (ret_then ?_)))))))
   refine fin2 h24 rfl rfl rfl ?_
   have h1 : g j l[j] ≠ 0 := by simpa using hc1
   have h2 := eachE_hit g l 0 j hlt (fun k hk h => by rw [Nat.zero_add]; exact hF0.2 k hk h) (by rw [Nat.zero_add]; exact h1)
   exact ⟨by rw [h2, Nat.zero_add], S17.below⟩
  ·
   refine wp_skip (go_block (go_then (st_reg ?_)))
   refine sv h20 (ex_add (h20.ev rfl) (h20.ev rfl) (by omega)) fun a25 h25 => ?_
   refine mv h25 rfl rfl fun a26 h26 => ?_
   refine st_nil (go_then ?_)
   exact ⟨j + 1, by omega, ⟨hlt, fun k hk h => (Nat.lt_or_ge k j).elim (fun q => hF0.2 k hk q) (fun q => by (obtain rfl : k = j := by omega); simpa using hc1)⟩, h26.re ⟨rfl, rfl, rfl, rfl, trivial⟩, S17.sub (.cons _ .slnil)⟩
 ·
  have hge : l.length ≤ j := by have := of_decide_eq_false hc0; omega
  refine wp_exit ?_
  refine go_exit_then ?_
  refine go_exit_then ?_
  refine go_exit ?_
  refine go_then (st_seq (st_reg ?_))
  refine ma h7 rfl rfl fun a27 h27 => ?_
  refine ma h27 rfl rfl fun a28 h28 => ?_
  refine st_nil (go_then (wp_ret ?_))
  refine fin2 h28 rfl rfl rfl ?_
  exact ⟨by rw [eachE_none g l 0 (fun k hk => by rw [Nat.zero_add]; exact hF0.2 k hk (by omega))], S6.below⟩
theorem eachPgp_any (g : Nat → Pgp → Int) (l : List Pgp) (A : Option Addr) (c : Nat) (f : FuncId) (cap : List Value) (w : World) (hr : Rd w w.heap.size A (l.flatMap pgpL)) (hlen : l.length ≤ 1000) (hfc : ∀ (vs : Array Value) (W : World), (callFunc f vs).run Tryz.prog W = .ok (.enter f vs) W)
 (hcl : ∀ X, Below w.heap.size w X → ∀ (k : Nat) (hk : k < l.length), (∀ m (hm : m < l.length), m < k → g m l[m] = 0) → Calls Tryz.prog f ([.int .i64 k, pgpV l[k]] ++ cap).toArray X fun e X' => e = .returned (.int .i64 (g k l[k])) ∧ Below X.heap.size X X') :
 Calls Tryz.prog 200 #[.slice A l.length c, .func (.func f) #[] cap.toArray] w fun e w' => e = .returned (.tuple #[.int .i64 (eachE g 0 l).1, .int .i64 (eachE g 0 l).2]) ∧ Below w.heap.size w w' := by
 refine st_enter (N := 25) Tryz.func200 rfl rfl rfl (fun a0 h0 => ?_)
 have S0 := St.init w
 refine st_seq (st_reg ?_)
 refine ma h0 rfl rfl fun a1 h1 => ?_
 refine ma h1 rfl rfl fun a2 h2 => ?_
 refine st_nil (go_then (st_seq (st_seq (st_reg ?_))))
 refine mv h2 rfl rfl fun a3 h3 => ?_
 refine sv h3 (ex_len Tryz.underlying48 (h3.ev rfl)) fun a4 h4 => ?_
 refine mv h4 rfl rfl fun a5 h5 => ?_
 refine st_nil (go_then (wp_block ?_))
 refine st_loop h5 S0 [10, 9, 1] (fun (j : Nat) => [(11, .int .i64 j)]) (fun (j : Nat) => j ≤ l.length ∧ ∀ k (hk : k < l.length), k < j → g k l[k] = 0) (fun (j : Nat) L => L) (fun (j : Nat) => l.length - j) (0) (⟨Nat.zero_le _, fun k _ h => by omega⟩) ⟨rfl, rfl, rfl, rfl, trivial⟩ (S0) ?_
 intro j a6 X6 hF0 h6 S6
 refine st_seq (st_reg ?_)
 refine sv h6 (ex_lss (h6.ev rfl) (h6.ev rfl)) fun a7 h7 => ?_
 refine st_nil (go_then (st_seq ?_))
 refine st_if (h7.ev rfl) (fun hc0 => ?_) (fun hc0 => ?_)
 ·
  have hlt : j < l.length := by have := of_decide_eq_true hc0; omega
  obtain ⟨b, o, rfl, hB, _⟩ := hr.opened (flat_pos pgpL_len (by decide) (by omega))
  refine wp_skip (go_then (st_seq (wp_block (st_seq (st_reg ?_)))))
  refine mv h7 rfl rfl fun a8 h8 => ?_
  refine sv h8 (ex_index (i := j) (sz := 3) Tryz.underlying48 (by kernel_rfl) (h8.ev rfl) (h8.ev rfl) (by omega) (by omega) rfl) fun a9 h9 => ?_
  refine sv (v := pgpV l[j]) h9 (ex_loads (by kernel_rfl) (by kernel_rfl) (h9.ev rfl) (flatAt pgpL_len (S6.rd0 hr) hlt)) fun a10 h10 => ?_
  refine na (.agg #[.int .i64 0, .bool false, .string ⟨#[]⟩]) h10 rfl S6 fun b7 a11 X11 gb7 h11 S11 => ?_
  refine ma h11 rfl rfl fun a12 h12 => ?_
  refine sl_store0 h12 (wn rfl) ⟨rfl, rfl⟩ (h12.ev rfl) (h12.ev rfl) rfl (by kernel_rfl) S11 (i := 0) rfl rfl rfl fun X13 S13 => ?_
  refine nsr ?_
  refine mv h12 rfl rfl fun a14 h14 => ?_
  refine mv h14 rfl rfl fun a15 h15 => ?_
  refine sv (v := pgpV l[j]) h15 (ex_loads (by kernel_rfl) (by kernel_rfl) (h15.ev rfl) (S13.cellsAll (i := 0) rfl)) fun a16 h16 => ?_
  refine sl_bel h16 (wn rfl) (ex_callv hfc (h16.ev rfl) (h16.evs rfl) rfl) rfl rfl S13 (hcl _ S13.below j hlt hF0.2) fun a17 X17 h17 S17 => ?_
  refine ma h17 rfl rfl fun a18 h18 => ?_
  refine nsr ?_
  refine mv h18 rfl rfl fun a19 h19 => ?_
  refine sv h19 (ex_neq (h19.ev rfl) (h19.ev rfl)) fun a20 h20 => ?_
  refine st_nil (go_then ?_)
  refine st_if (h20.ev rfl) (fun hc1 => ?_) (fun hc1 => ?_)
  ·
   refine st_seq (st_reg ?_)
   refine mv h20 rfl rfl fun a21 h21 => ?_
   refine mv h21 rfl rfl fun a22 h22 => ?_
   refine ma h22 rfl rfl fun a23 h23 => ?_
   refine ma h23 rfl rfl fun a24 h24 => ?_
   refine st_nil (go_then (wp_ret (ret_block (ret_then (ret_then (ret_block (ret_then ?_)))))))
   refine fin2 h24 rfl rfl rfl ?_
   have h1 : g j l[j] ≠ 0 := by simpa using hc1
   have h2 := eachE_hit g l 0 j hlt (fun k hk h => by rw [Nat.zero_add]; exact hF0.2 k hk h) (by rw [Nat.zero_add]; exact h1)
   exact ⟨by rw [h2, Nat.zero_add], S17.below⟩
  ·
   refine wp_skip (go_block (go_then (st_reg ?_)))
   refine sv h20 (ex_add (h20.ev rfl) (h20.ev rfl) (by omega)) fun a25 h25 => ?_
   refine mv h25 rfl rfl fun a26 h26 => ?_
   refine st_nil (go_then ?_)
   exact ⟨j + 1, by omega, ⟨hlt, fun k hk h => (Nat.lt_or_ge k j).elim (fun q => hF0.2 k hk q) (fun q => by (obtain rfl : k = j := by omega); simpa using hc1)⟩, h26.re ⟨rfl, rfl, rfl, rfl, trivial⟩, S17.sub (.cons _ .slnil)⟩
 ·
  have hge : l.length ≤ j := by have := of_decide_eq_false hc0; omega
  refine wp_exit ?_
  refine go_exit_then ?_
  refine go_exit_then ?_
  refine go_exit ?_
  refine go_then (st_seq (st_reg ?_))
  refine ma h7 rfl rfl fun a27 h27 => ?_
  refine ma h27 rfl rfl fun a28 h28 => ?_
  refine st_nil (go_then (wp_ret ?_))
  refine fin2 h28 rfl rfl rfl ?_
  exact ⟨by rw [eachE_none g l 0 (fun k hk => by rw [Nat.zero_add]; exact hF0.2 k hk (by omega))], S6.below⟩
theorem eachRcd_any (g : Nat → Rcd → Int) (l : List Rcd) (A : Option Addr) (c : Nat) (f : FuncId) (cap : List Value) (w : World) (hr : Rd w w.heap.size A (l.flatMap rcdL)) (hlen : l.length ≤ 1000) (hfc : ∀ (vs : Array Value) (W : World), (callFunc f vs).run Tryz.prog W = .ok (.enter f vs) W)
 (hcl : ∀ X, Below w.heap.size w X → ∀ (k : Nat) (hk : k < l.length), (∀ m (hm : m < l.length), m < k → g m l[m] = 0) → Calls Tryz.prog f ([.int .i64 k, rcdV l[k]] ++ cap).toArray X fun e X' => e = .returned (.int .i64 (g k l[k])) ∧ Below X.heap.size X X') :
 Calls Tryz.prog 102 #[.slice A l.length c, .func (.func f) #[] cap.toArray] w fun e w' => e = .returned (.tuple #[.int .i64 (eachE g 0 l).1, .int .i64 (eachE g 0 l).2]) ∧ Below w.heap.size w w' := by
 refine st_enter (N := 25) Tryz.func102 rfl rfl rfl (fun a0 h0 => ?_)
 have S0 := St.init w
 refine st_seq (st_reg ?_)
 refine ma h0 rfl rfl fun a1 h1 => ?_
 refine ma h1 rfl rfl fun a2 h2 => ?_
 refine st_nil (go_then (st_seq (st_seq (st_reg ?_))))
 refine mv h2 rfl rfl fun a3 h3 => ?_
 refine sv h3 (ex_len Tryz.underlying41 (h3.ev rfl)) fun a4 h4 => ?_
 refine mv h4 rfl rfl fun a5 h5 => ?_
 refine st_nil (go_then (wp_block ?_))
 refine st_loop h5 S0 [10, 9, 1] (fun (j : Nat) => [(11, .int .i64 j)]) (fun (j : Nat) => j ≤ l.length ∧ ∀ k (hk : k < l.length), k < j → g k l[k] = 0) (fun (j : Nat) L => L) (fun (j : Nat) => l.length - j) (0) (⟨Nat.zero_le _, fun k _ h => by omega⟩) ⟨rfl, rfl, rfl, rfl, trivial⟩ (S0) ?_
 intro j a6 X6 hF0 h6 S6
 refine st_seq (st_reg ?_)
 refine sv h6 (ex_lss (h6.ev rfl) (h6.ev rfl)) fun a7 h7 => ?_
 refine st_nil (go_then (st_seq ?_))
 refine st_if (h7.ev rfl) (fun hc0 => ?_) (fun hc0 => ?_)
 ·
  have hlt : j < l.length := by have := of_decide_eq_true hc0; omega
  obtain ⟨b, o, rfl, hB, _⟩ := hr.opened (flat_pos rcdL_len (by decide) (by omega))
  refine wp_skip (go_then (st_seq (wp_block (st_seq (st_reg ?_)))))
  refine mv h7 rfl rfl fun a8 h8 => ?_
  refine sv h8 (ex_index (i := j) (sz := 14) Tryz.underlying41 (by kernel_rfl) (h8.ev rfl) (h8.ev rfl) (by omega) (by omega) rfl) fun a9 h9 => ?_
  refine sv (v := rcdV l[j]) h9 (ex_loads (by kernel_rfl) (by kernel_rfl) (h9.ev rfl) (flatAt rcdL_len (S6.rd0 hr) hlt)) fun a10 h10 => ?_
  refine na (.agg #[.int .i64 0, .int .i64 0, .int .i64 0, .int .i64 0, .int .i64 0, .int .i64 0, .bool false, .int .i64 0, .int .i64 0, .int .i64 0, .int .i64 0, .string ⟨#[]⟩, .string ⟨#[]⟩, .string ⟨#[]⟩]) h10 rfl S6 fun b7 a11 X11 gb7 h11 S11 => ?_
  refine ma h11 rfl rfl fun a12 h12 => ?_
  refine sl_store0 h12 (wn rfl) ⟨rfl, rfl⟩ (h12.ev rfl) (h12.ev rfl) rfl (by kernel_rfl) S11 (i := 0) rfl rfl rfl fun X13 S13 => ?_
  refine nsr ?_
  refine mv h12 rfl rfl fun a14 h14 => ?_
  refine mv h14 rfl rfl fun a15 h15 => ?_
  refine sv (v := rcdV l[j]) h15 (ex_loads (by kernel_rfl) (by kernel_rfl) (h15.ev rfl) (S13.cellsAll (i := 0) rfl)) fun a16 h16 => ?_
  refine sl_bel h16 (wn rfl) (ex_callv hfc (h16.ev rfl) (h16.evs rfl) rfl) rfl rfl S13 (hcl _ S13.below j hlt hF0.2) fun a17 X17 h17 S17 => ?_
  refine ma h17 rfl rfl fun a18 h18 => ?_
  refine nsr ?_
  refine mv h18 rfl rfl fun a19 h19 => ?_
  refine sv h19 (ex_neq (h19.ev rfl) (h19.ev rfl)) fun a20 h20 => ?_
  refine st_nil (go_then ?_)
  refine st_if (h20.ev rfl) (fun hc1 => ?_) (fun hc1 => ?_)
  ·
   refine st_seq (st_reg ?_)
   refine mv h20 rfl rfl fun a21 h21 => ?_
   refine mv h21 rfl rfl fun a22 h22 => ?_
   refine ma h22 rfl rfl fun a23 h23 => ?_
   refine ma h23 rfl rfl fun a24 h24 => ?_
   refine st_nil (go_then (wp_ret (ret_block (ret_then (ret_then (ret_block (ret_then ?_)))))))
   refine fin2 h24 rfl rfl rfl ?_
   have h1 : g j l[j] ≠ 0 := by simpa using hc1
   have h2 := eachE_hit g l 0 j hlt (fun k hk h => by rw [Nat.zero_add]; exact hF0.2 k hk h) (by rw [Nat.zero_add]; exact h1)
   exact ⟨by rw [h2, Nat.zero_add], S17.below⟩
  ·
   refine wp_skip (go_block (go_then (st_reg ?_)))
   refine sv h20 (ex_add (h20.ev rfl) (h20.ev rfl) (by omega)) fun a25 h25 => ?_
   refine mv h25 rfl rfl fun a26 h26 => ?_
   refine st_nil (go_then ?_)
   exact ⟨j + 1, by omega, ⟨hlt, fun k hk h => (Nat.lt_or_ge k j).elim (fun q => hF0.2 k hk q) (fun q => by (obtain rfl : k = j := by omega); simpa using hc1)⟩, h26.re ⟨rfl, rfl, rfl, rfl, trivial⟩, S17.sub (.cons _ .slnil)⟩
 ·
  have hge : l.length ≤ j := by have := of_decide_eq_false hc0; omega
  refine wp_exit ?_
  refine go_exit_then ?_
  refine go_exit_then ?_
  refine go_exit ?_
  refine go_then (st_seq (st_reg ?_))
  refine ma h7 rfl rfl fun a27 h27 => ?_
  refine ma h27 rfl rfl fun a28 h28 => ?_
  refine st_nil (go_then (wp_ret ?_))
  refine fin2 h28 rfl rfl rfl ?_
  exact ⟨by rw [eachE_none g l 0 (fun k hk => by rw [Nat.zero_add]; exact hF0.2 k hk (by omega))], S6.below⟩
def bfTB (l : List Trn) (i : Nat) : Bool := match bfrL l i with
 | none => true
 | some y => match l[i]? with | none => true | some x => decide (y.i < x.i)
def bfDB (l : List Dty) (i : Nat) : Bool := match bfrL l i with
 | none => true
 | some y => match l[i]? with | none => true | some x => decide (y.g < x.g)
theorem ctrn_any (t : Tbl) (A : Option Addr) (c : Nat) (B : Option Addr) (d i b : Nat) (T : TypeId) (w : World) (hbx : Box w b #[.slice A t.ts.length c, .slice B t.ds.length d] T) (hr : Rd w w.heap.size A (t.ts.flatMap trsL)) (hi : i < t.ts.length) (hl : t.ts.length ≤ 100) :
 Calls Tryz.prog 61 #[.int .i64 i, trnV t.ts[i], .pointer (some ⟨b, 0, none⟩)] w fun e w' => e = .returned (.int .i64 (trnE (bfrL t.ts i) t.ts[i])) ∧ Below w.heap.size w w' := by
 obtain ⟨b', o', rfl, _⟩ := hr.opened (flat_pos trsL_len (by decide) (by omega))
 refine st_enter (N := 42) Tryz.func61 rfl rfl rfl (fun a0 h0 => ?_)
 have S0 := St.init w
 refine st_seq (st_reg ?_)
 refine nb h0 rfl rfl S0 fun b4 a1 X1 gb4 h1 S1 => ?_
 refine ma h1 rfl rfl fun a2 h2 => ?_
 refine nsr ?_
 refine vf h2 0 0 rfl rfl rfl fun a3 h3 => ?_
 refine vl h3 S1 0 rfl rfl rfl rfl fun a4 h4 => ?_
 refine sl_pure h4 (wn rfl) (ex_call (fun _ _ => by kernel_rfl) (h4.evs rfl) rfl) rfl rfl (recovery_within_any _ _ _ _) fun a5 h5 => ?_
 refine mv h5 rfl rfl fun a6 h6 => ?_
 apply sl_and (x := inB t.ts[i].l 1 2147483647) h6 S1 10 rfl 4 14
 case ht =>
  intro gc10
  refine sy h6 rfl rfl rfl gc10 (ex_field (off := 1) (j := 1) (by kernel_rfl) (h6.ev rfl) rfl) rfl rfl fun a7 h7 => ?_
  refine sy h7 rfl rfl rfl gc10 (ex_load (by kernel_rfl) (h7.ev rfl) (S1.cell (i := 0) rfl rfl)) rfl rfl fun a8 h8 => ?_
  refine sl_pure h8 (wanted_yes h8 _ rfl rfl rfl gc10) (ex_call (fun _ _ => by kernel_rfl) (h8.evs rfl) rfl) rfl rfl (recovery_within_any _ _ _ _) fun a9 h9 => ?_
  refine sv h9 (ex_pick_t (h9.ev rfl) gc10 (h9.ev rfl)) fun a10 h10 => ?_
  exact st_nil ⟨h10.mid (m := [(_, _), (_, _), (_, _)]) rfl, S1⟩
 case hf =>
  intro gc10
  refine no h6 rfl rfl rfl gc10 rfl rfl fun a11 h11 => ?_
  refine no h11 rfl rfl rfl gc10 rfl rfl fun a12 h12 => ?_
  refine no h12 rfl rfl rfl gc10 rfl rfl fun a13 h13 => ?_
  refine sv h13 (ex_pick_f (h13.ev rfl) gc10 (h13.ev rfl)) fun a14 h14 => ?_
  exact st_nil ⟨h14.mid (m := [(_, _), (_, _), (_, _)]) rfl, S1⟩
 case h =>
  rintro a15 X15 ⟨h15, S15⟩
  refine mv h15 rfl rfl fun a16 h16 => ?_
  apply sl_and (x := inB t.ts[i].u 0 t.ts[i].l) h16 S15 15 rfl 6 21
  case ht =>
   intro gc15
   refine sy h16 rfl rfl rfl gc15 (ex_field (off := 2) (j := 2) (by kernel_rfl) (h16.ev rfl) rfl) rfl rfl fun a17 h17 => ?_
   refine sy h17 rfl rfl rfl gc15 (ex_load (by kernel_rfl) (h17.ev rfl) (S15.cell (i := 0) rfl rfl)) rfl rfl fun a18 h18 => ?_
   refine sy h18 rfl rfl rfl gc15 (ex_field (off := 1) (j := 1) (by kernel_rfl) (h18.ev rfl) rfl) rfl rfl fun a19 h19 => ?_
   refine sy h19 rfl rfl rfl gc15 (ex_load (by kernel_rfl) (h19.ev rfl) (S15.cell (i := 0) rfl rfl)) rfl rfl fun a20 h20 => ?_
   refine sl_pure h20 (wanted_yes h20 _ rfl rfl rfl gc15) (ex_call (fun _ _ => by kernel_rfl) (h20.evs rfl) rfl) rfl rfl (recovery_within_any _ _ _ _) fun a21 h21 => ?_
   refine sv h21 (ex_pick_t (h21.ev rfl) gc15 (h21.ev rfl)) fun a22 h22 => ?_
   exact st_nil ⟨h22.mid (m := [(_, _), (_, _), (_, _), (_, _), (_, _)]) rfl, S15⟩
  case hf =>
   intro gc15
   refine no h16 rfl rfl rfl gc15 rfl rfl fun a23 h23 => ?_
   refine no h23 rfl rfl rfl gc15 rfl rfl fun a24 h24 => ?_
   refine no h24 rfl rfl rfl gc15 rfl rfl fun a25 h25 => ?_
   refine no h25 rfl rfl rfl gc15 rfl rfl fun a26 h26 => ?_
   refine no h26 rfl rfl rfl gc15 rfl rfl fun a27 h27 => ?_
   refine sv h27 (ex_pick_f (h27.ev rfl) gc15 (h27.ev rfl)) fun a28 h28 => ?_
   exact st_nil ⟨h28.mid (m := [(_, _), (_, _), (_, _), (_, _), (_, _)]) rfl, S15⟩
  case h =>
   rintro a29 X29 ⟨h29, S29⟩
   refine ma h29 rfl rfl fun a30 h30 => ?_
   refine st_nil (go_then (st_seq ?_))
   apply dr_flow h30 [false, false, false, false, false, false, false, false, false, false, false, false, false, false, false, false, false] _ (by kernel_rfl)
   case h =>
    refine qv h30 (fun X hX => ex_move (h30.ev rfl)) fun a31 h31 => ?_
    refine sq_pure h31 (wn rfl) rfl rfl (fun X => (ex_call (fun _ _ => by kernel_rfl) (h31.evs rfl) rfl)) (fun X hX => recovery_unless_any _ _ _) fun a32 h32 => ?_
    refine qv h32 (fun X hX => ex_move (h32.ev rfl)) fun a33 h33 => ?_
    refine qv h33 (fun X hX => ex_eql (h33.ev rfl) (h33.ev rfl)) fun a34 h34 => ?_
    refine qv h34 (fun X hX => ex_move (h34.ev rfl)) fun a35 h35 => ?_
    apply sq_or (x := bfTB t.ts i) h35 26 rfl 12 38
    case hf =>
     intro gc26
     have hi0 : i ≠ 0 := by simp only [beq_eq_false_iff_ne] at gc26; omega
     have hi1 : i - 1 < t.ts.length := by omega
     have hbf : bfrL t.ts i = some t.ts[i - 1] := by unfold bfrL; rw [if_neg hi0, List.getElem?_eq_getElem hi1]
     refine sq_val h35 (wanted_yes h35 _ rfl rfl rfl gc26) rfl rfl (fun X hX => (ex_field (off := 0) (by kernel_rfl) (h35.ev rfl) rfl)) fun a36 h36 => ?_
     refine sq_val h36 (wanted_yes h36 _ rfl rfl rfl gc26) rfl rfl (fun X hX => (ex_load (by kernel_rfl) (h36.ev rfl) (Box.cells (hbx.below (S29.grow hX).below) 0))) fun a37 h37 => ?_
     refine sq_val h37 (wanted_yes h37 _ rfl rfl rfl gc26) rfl rfl (fun X hX => (ex_move (h37.ev rfl))) fun a38 h38 => ?_
     refine sq_val h38 (wanted_yes h38 _ rfl rfl rfl gc26) rfl rfl (fun X hX => (ex_sub (h38.ev rfl) (h38.ev rfl) (by omega))) fun a39 h39 => ?_
     refine sq_val h39 (wanted_yes h39 _ rfl rfl rfl gc26) rfl rfl (fun X hX => (ex_max (by kernel_rfl) (h39.ev rfl) (h39.ev rfl))) fun a40 h40 => ?_
     refine sq_val h40 (wanted_yes h40 _ rfl rfl rfl gc26) rfl rfl (fun X hX => (ex_index (i := i - 1) (sz := 4) Tryz.underlying22 (by kernel_rfl) (h40.ev rfl) (h40.ev rfl) (by omega) (by omega) rfl)) fun a41 h41 => ?_
     refine sq_val h41 (wanted_yes h41 _ rfl rfl rfl gc26) rfl rfl (fun X hX => (ex_field (off := 0) (by kernel_rfl) (h41.ev rfl) rfl)) fun a42 h42 => ?_
     refine sq_val h42 (wanted_yes h42 _ rfl rfl rfl gc26) rfl rfl (fun X hX => (ex_load (by kernel_rfl) (h42.ev rfl) ((flatAt trsL_len ((S29.grow hX).rd0 hr) hi1) 0 _ rfl))) fun a43 h43 => ?_
     refine sq_val h43 (wanted_yes h43 _ rfl rfl rfl gc26) rfl rfl (fun X hX => (ex_field (off := 0) (j := 0) (by kernel_rfl) (h43.ev rfl) rfl)) fun a44 h44 => ?_
     refine sq_val h44 (wanted_yes h44 _ rfl rfl rfl gc26) rfl rfl (fun X hX => (ex_load (by kernel_rfl) (h44.ev rfl) ((S29.grow hX).cell (i := 0) rfl rfl))) fun a45 h45 => ?_
     refine sq_val h45 (wanted_yes h45 _ rfl rfl rfl gc26) rfl rfl (fun X hX => (as_val (v' := .bool (bfTB t.ts i)) (congrArg Value.bool (by unfold bfTB; rw [hbf, List.getElem?_eq_getElem hi])) (ex_lss (h45.ev rfl) (h45.ev rfl)))) fun a46 h46 => ?_
     refine qv h46 (fun X hX => ex_pick_f (h46.ev rfl) gc26 (h46.ev rfl)) fun a47 h47 => ?_
     exact sq_nil (h47.mid (m := [(_, _), (_, _), (_, _), (_, _), (_, _), (_, _), (_, _), (_, _), (_, _), (_, _), (_, _)]) rfl)
    case ht =>
     intro gc26
     refine qo h35 rfl rfl rfl gc26 rfl rfl fun a48 h48 => ?_
     refine qo h48 rfl rfl rfl gc26 rfl rfl fun a49 h49 => ?_
     refine qo h49 rfl rfl rfl gc26 rfl rfl fun a50 h50 => ?_
     refine qo h50 rfl rfl rfl gc26 rfl rfl fun a51 h51 => ?_
     refine qo h51 rfl rfl rfl gc26 rfl rfl fun a52 h52 => ?_
     refine qo h52 rfl rfl rfl gc26 rfl rfl fun a53 h53 => ?_
     refine qo h53 rfl rfl rfl gc26 rfl rfl fun a54 h54 => ?_
     refine qo h54 rfl rfl rfl gc26 rfl rfl fun a55 h55 => ?_
     refine qo h55 rfl rfl rfl gc26 rfl rfl fun a56 h56 => ?_
     refine qo h56 rfl rfl rfl gc26 rfl rfl fun a57 h57 => ?_
     refine qo h57 rfl rfl rfl gc26 rfl rfl fun a58 h58 => ?_
     refine qv h58 (fun X hX => ex_pick_t (h58.ev rfl) gc26 (h58.ev rfl)) fun a59 h59 => ?_
     exact sq_nil (h59.mid (m := [(_, _), (_, _), (_, _), (_, _), (_, _), (_, _), (_, _), (_, _), (_, _), (_, _), (_, _)]) rfl)
    case h =>
     intro a60 h60
     refine sq_nil ?_
     refine nd_end fun X61 hX61 hΦ61 => ?_
     have S61 := S29.grow hX61
     refine sl_pure h60 (wn rfl) (ex_call (fun _ _ => by kernel_rfl) (h60.evs rfl) rfl) rfl rfl (recovery_unless_any _ _ _) fun a62 h62 => ?_
     refine sl_new h62 (wn rfl) (f := fun b => .slice (some ⟨b, 0, none⟩) 2 2) (ex_bslice Tryz.underlying214 (by kernel_rfl) (by kernel_rfl) (h62.evs2 rfl) rfl rfl rfl (by decide) (by decide)) rfl rfl S61 fun b40 a63 X63 gb40 h63 S63 => ?_
     refine sl_pure h63 (wn rfl) (ex_call (fun _ _ => by kernel_rfl) (h63.evs rfl) rfl) rfl rfl (recovery_first2 (S63.at_ (i := 0) rfl)) fun a64 h64 => ?_
     refine ma h64 rfl rfl fun a65 h65 => ?_
     refine st_nil (go_then (wp_ret ?_))
     refine fin1 h65 rfl rfl ?_
     refine ⟨?_, S63.below⟩
     have e : ((i : Int) == 0 || bfTB t.ts i) = bfTB t.ts i := by
      rcases Nat.eq_zero_or_pos i with h0 | h0
      · subst h0; rfl
      · rw [show ((i : Int) == 0) = false by rw [beq_eq_false_iff_ne]; omega]; rfl
     rw [e]
     unfold trnE bfTB
     rw [List.getElem?_eq_getElem hi]
     cases bfrL t.ts i <;> rfl
   case hB => kernel_rfl
   case hst => rfl
theorem cdty_any (t : Tbl) (A : Option Addr) (c : Nat) (B : Option Addr) (d i b : Nat) (T : TypeId) (w : World) (hbx : Box w b #[.slice A t.ts.length c, .slice B t.ds.length d] T) (hr : Rd w w.heap.size B (t.ds.flatMap dtyL)) (hi : i < t.ds.length) (hl : t.ds.length ≤ 100) :
 Calls Tryz.prog 66 #[.int .i64 i, dtyV t.ds[i], .pointer (some ⟨b, 0, none⟩)] w fun e w' => e = .returned (.int .i64 (dtyE (bfrL t.ds i) t.ds[i])) ∧ Below w.heap.size w w' := by
 obtain ⟨b', o', rfl, _⟩ := hr.opened (flat_pos dtyL_len (by decide) (by omega))
 refine st_enter (N := 35) Tryz.func66 rfl rfl rfl (fun a0 h0 => ?_)
 have S0 := St.init w
 refine st_seq (st_reg ?_)
 refine nb h0 rfl rfl S0 fun b4 a1 X1 gb4 h1 S1 => ?_
 refine ma h1 rfl rfl fun a2 h2 => ?_
 refine nsr ?_
 refine vf h2 0 0 rfl rfl rfl fun a3 h3 => ?_
 refine vl h3 S1 0 rfl rfl rfl rfl fun a4 h4 => ?_
 refine sl_pure h4 (wn rfl) (ex_call (fun _ _ => by kernel_rfl) (h4.evs rfl) rfl) rfl rfl (recovery_within_any _ _ _ _) fun a5 h5 => ?_
 refine mv h5 rfl rfl fun a6 h6 => ?_
 apply sl_and (x := inB t.ds[i].l 1 2147483647) h6 S1 10 rfl 4 14
 case ht =>
  intro gc10
  refine sy h6 rfl rfl rfl gc10 (ex_field (off := 2) (j := 2) (by kernel_rfl) (h6.ev rfl) rfl) rfl rfl fun a7 h7 => ?_
  refine sy h7 rfl rfl rfl gc10 (ex_load (by kernel_rfl) (h7.ev rfl) (S1.cell (i := 0) rfl rfl)) rfl rfl fun a8 h8 => ?_
  refine sl_pure h8 (wanted_yes h8 _ rfl rfl rfl gc10) (ex_call (fun _ _ => by kernel_rfl) (h8.evs rfl) rfl) rfl rfl (recovery_within_any _ _ _ _) fun a9 h9 => ?_
  refine sv h9 (ex_pick_t (h9.ev rfl) gc10 (h9.ev rfl)) fun a10 h10 => ?_
  exact st_nil ⟨h10.mid (m := [(_, _), (_, _), (_, _)]) rfl, S1⟩
 case hf =>
  intro gc10
  refine no h6 rfl rfl rfl gc10 rfl rfl fun a11 h11 => ?_
  refine no h11 rfl rfl rfl gc10 rfl rfl fun a12 h12 => ?_
  refine no h12 rfl rfl rfl gc10 rfl rfl fun a13 h13 => ?_
  refine sv h13 (ex_pick_f (h13.ev rfl) gc10 (h13.ev rfl)) fun a14 h14 => ?_
  exact st_nil ⟨h14.mid (m := [(_, _), (_, _), (_, _)]) rfl, S1⟩
 case h =>
  rintro a15 X15 ⟨h15, S15⟩
  refine ma h15 rfl rfl fun a16 h16 => ?_
  refine st_nil (go_then (st_seq ?_))
  apply dr_flow h16 [false, false, false, false, false, false, false, false, false, false, false, false, false, false, false, false, false] _ (by kernel_rfl)
  case h =>
   refine qv h16 (fun X hX => ex_move (h16.ev rfl)) fun a17 h17 => ?_
   refine sq_pure h17 (wn rfl) rfl rfl (fun X => (ex_call (fun _ _ => by kernel_rfl) (h17.evs rfl) rfl)) (fun X hX => recovery_unless_any _ _ _) fun a18 h18 => ?_
   refine qv h18 (fun X hX => ex_move (h18.ev rfl)) fun a19 h19 => ?_
   refine qv h19 (fun X hX => ex_eql (h19.ev rfl) (h19.ev rfl)) fun a20 h20 => ?_
   refine qv h20 (fun X hX => ex_move (h20.ev rfl)) fun a21 h21 => ?_
   apply sq_or (x := bfDB t.ds i) h21 19 rfl 12 31
   case hf =>
    intro gc19
    have hi0 : i ≠ 0 := by simp only [beq_eq_false_iff_ne] at gc19; omega
    have hi1 : i - 1 < t.ds.length := by omega
    have hbf : bfrL t.ds i = some t.ds[i - 1] := by unfold bfrL; rw [if_neg hi0, List.getElem?_eq_getElem hi1]
    refine sq_val h21 (wanted_yes h21 _ rfl rfl rfl gc19) rfl rfl (fun X hX => (ex_field (off := 1) (by kernel_rfl) (h21.ev rfl) rfl)) fun a22 h22 => ?_
    refine sq_val h22 (wanted_yes h22 _ rfl rfl rfl gc19) rfl rfl (fun X hX => (ex_load (by kernel_rfl) (h22.ev rfl) (Box.cells (hbx.below (S15.grow hX).below) 1))) fun a23 h23 => ?_
    refine sq_val h23 (wanted_yes h23 _ rfl rfl rfl gc19) rfl rfl (fun X hX => (ex_move (h23.ev rfl))) fun a24 h24 => ?_
    refine sq_val h24 (wanted_yes h24 _ rfl rfl rfl gc19) rfl rfl (fun X hX => (ex_sub (h24.ev rfl) (h24.ev rfl) (by omega))) fun a25 h25 => ?_
    refine sq_val h25 (wanted_yes h25 _ rfl rfl rfl gc19) rfl rfl (fun X hX => (ex_max (by kernel_rfl) (h25.ev rfl) (h25.ev rfl))) fun a26 h26 => ?_
    refine sq_val h26 (wanted_yes h26 _ rfl rfl rfl gc19) rfl rfl (fun X hX => (ex_index (i := i - 1) (sz := 3) Tryz.underlying23 (by kernel_rfl) (h26.ev rfl) (h26.ev rfl) (by omega) (by omega) rfl)) fun a27 h27 => ?_
    refine sq_val h27 (wanted_yes h27 _ rfl rfl rfl gc19) rfl rfl (fun X hX => (ex_field (off := 0) (by kernel_rfl) (h27.ev rfl) rfl)) fun a28 h28 => ?_
    refine sq_val h28 (wanted_yes h28 _ rfl rfl rfl gc19) rfl rfl (fun X hX => (ex_load (by kernel_rfl) (h28.ev rfl) ((flatAt dtyL_len ((S15.grow hX).rd0 hr) hi1) 0 _ rfl))) fun a29 h29 => ?_
    refine sq_val h29 (wanted_yes h29 _ rfl rfl rfl gc19) rfl rfl (fun X hX => (ex_field (off := 0) (j := 0) (by kernel_rfl) (h29.ev rfl) rfl)) fun a30 h30 => ?_
    refine sq_val h30 (wanted_yes h30 _ rfl rfl rfl gc19) rfl rfl (fun X hX => (ex_load (by kernel_rfl) (h30.ev rfl) ((S15.grow hX).cell (i := 0) rfl rfl))) fun a31 h31 => ?_
    refine sq_val h31 (wanted_yes h31 _ rfl rfl rfl gc19) rfl rfl (fun X hX => (as_val (v' := .bool (bfDB t.ds i)) (congrArg Value.bool (by unfold bfDB; rw [hbf, List.getElem?_eq_getElem hi])) (ex_lss (h31.ev rfl) (h31.ev rfl)))) fun a32 h32 => ?_
    refine qv h32 (fun X hX => ex_pick_f (h32.ev rfl) gc19 (h32.ev rfl)) fun a33 h33 => ?_
    exact sq_nil (h33.mid (m := [(_, _), (_, _), (_, _), (_, _), (_, _), (_, _), (_, _), (_, _), (_, _), (_, _), (_, _)]) rfl)
   case ht =>
    intro gc19
    refine qo h21 rfl rfl rfl gc19 rfl rfl fun a34 h34 => ?_
    refine qo h34 rfl rfl rfl gc19 rfl rfl fun a35 h35 => ?_
    refine qo h35 rfl rfl rfl gc19 rfl rfl fun a36 h36 => ?_
    refine qo h36 rfl rfl rfl gc19 rfl rfl fun a37 h37 => ?_
    refine qo h37 rfl rfl rfl gc19 rfl rfl fun a38 h38 => ?_
    refine qo h38 rfl rfl rfl gc19 rfl rfl fun a39 h39 => ?_
    refine qo h39 rfl rfl rfl gc19 rfl rfl fun a40 h40 => ?_
    refine qo h40 rfl rfl rfl gc19 rfl rfl fun a41 h41 => ?_
    refine qo h41 rfl rfl rfl gc19 rfl rfl fun a42 h42 => ?_
    refine qo h42 rfl rfl rfl gc19 rfl rfl fun a43 h43 => ?_
    refine qo h43 rfl rfl rfl gc19 rfl rfl fun a44 h44 => ?_
    refine qv h44 (fun X hX => ex_pick_t (h44.ev rfl) gc19 (h44.ev rfl)) fun a45 h45 => ?_
    exact sq_nil (h45.mid (m := [(_, _), (_, _), (_, _), (_, _), (_, _), (_, _), (_, _), (_, _), (_, _), (_, _), (_, _)]) rfl)
   case h =>
    intro a46 h46
    refine sq_nil ?_
    refine nd_end fun X47 hX47 hΦ47 => ?_
    have S47 := S15.grow hX47
    refine sl_pure h46 (wn rfl) (ex_call (fun _ _ => by kernel_rfl) (h46.evs rfl) rfl) rfl rfl (recovery_unless_any _ _ _) fun a48 h48 => ?_
    refine sl_new h48 (wn rfl) (f := fun b => .slice (some ⟨b, 0, none⟩) 2 2) (ex_bslice Tryz.underlying214 (by kernel_rfl) (by kernel_rfl) (h48.evs2 rfl) rfl rfl rfl (by decide) (by decide)) rfl rfl S47 fun b33 a49 X49 gb33 h49 S49 => ?_
    refine sl_pure h49 (wn rfl) (ex_call (fun _ _ => by kernel_rfl) (h49.evs rfl) rfl) rfl rfl (recovery_first2 (S49.at_ (i := 0) rfl)) fun a50 h50 => ?_
    refine ma h50 rfl rfl fun a51 h51 => ?_
    refine st_nil (go_then (wp_ret ?_))
    refine fin1 h51 rfl rfl ?_
    refine ⟨?_, S49.below⟩
    have e : ((i : Int) == 0 || bfDB t.ds i) = bfDB t.ds i := by
     rcases Nat.eq_zero_or_pos i with h0 | h0
     · subst h0; rfl
     · rw [show ((i : Int) == 0) = false by rw [beq_eq_false_iff_ne]; omega]; rfl
    rw [e]
    unfold dtyE bfDB
    rw [List.getElem?_eq_getElem hi]
    cases bfrL t.ds i <;> rfl
  case hB => kernel_rfl
  case hst => rfl
theorem CheckTable_any (t : Tbl) (A : Option Addr) (c : Nat) (B : Option Addr) (d : Nat) (w : World) (hr : Rd w w.heap.size A (t.ts.flatMap trsL)) (hs : Rd w w.heap.size B (t.ds.flatMap dtyL)) :
 Calls Tryz.prog 15 #[tblV t A c B d] w fun e w' => e = .returned (.int .i64 (tblE t)) ∧ Below w.heap.size w w' := by
 refine st_enter (N := 33) Tryz.func15 rfl rfl rfl (fun a0 h0 => ?_)
 have S0 := St.init w
 refine st_seq (st_reg ?_)
 refine nb h0 rfl rfl S0 fun b1 a1 X1 gb1 h1 S1 => ?_
 refine ma h1 rfl rfl fun a2 h2 => ?_
 refine st_nil (go_then (st_seq (st_seq (st_reg ?_))))
 refine vf h2 0 0 rfl rfl rfl fun a3 h3 => ?_
 refine vl h3 S1 0 rfl rfl rfl rfl fun a4 h4 => ?_
 refine sv h4 (ex_len Tryz.underlying22 (h4.ev rfl)) fun a5 h5 => ?_
 refine sv h5 (ex_gtr (h5.ev rfl) (h5.ev rfl)) fun a6 h6 => ?_
 refine mv h6 rfl rfl fun a7 h7 => ?_
 apply sl_or (x := decide ((t.ds.length : Int) > 60)) h7 S1 9 rfl 5 14
 case hf =>
  intro gc9
  refine sy h7 rfl rfl rfl gc9 (ex_field (off := 1) (j := 1) (by kernel_rfl) (h7.ev rfl) rfl) rfl rfl fun a8 h8 => ?_
  refine sy h8 rfl rfl rfl gc9 (ex_load (by kernel_rfl) (h8.ev rfl) (S1.cell (i := 0) rfl rfl)) rfl rfl fun a9 h9 => ?_
  refine sy h9 rfl rfl rfl gc9 (ex_len Tryz.underlying23 (h9.ev rfl)) rfl rfl fun a10 h10 => ?_
  refine sy h10 rfl rfl rfl gc9 (ex_gtr (h10.ev rfl) (h10.ev rfl)) rfl rfl fun a11 h11 => ?_
  refine sv h11 (ex_pick_f (h11.ev rfl) gc9 (h11.ev rfl)) fun a12 h12 => ?_
  exact st_nil ⟨h12.mid (m := [(_, _), (_, _), (_, _), (_, _)]) rfl, S1⟩
 case ht =>
  intro gc9
  refine no h7 rfl rfl rfl gc9 rfl rfl fun a13 h13 => ?_
  refine no h13 rfl rfl rfl gc9 rfl rfl fun a14 h14 => ?_
  refine no h14 rfl rfl rfl gc9 rfl rfl fun a15 h15 => ?_
  refine no h15 rfl rfl rfl gc9 rfl rfl fun a16 h16 => ?_
  refine sv h16 (ex_pick_t (h16.ev rfl) gc9 (h16.ev rfl)) fun a17 h17 => ?_
  exact st_nil ⟨h17.mid (m := [(_, _), (_, _), (_, _), (_, _)]) rfl, S1⟩
 case h =>
  rintro a18 X18 ⟨h18, S18⟩
  refine st_nil (go_then ?_)
  refine st_if (h18.ev rfl) (fun hc0 => ?_) (fun hc0 => ?_)
  ·
   have hbig : 60 < t.ts.length ∨ 60 < t.ds.length := by simp only [Bool.or_eq_true, decide_eq_true_eq] at hc0; omega
   refine st_seq (st_reg ?_)
   refine ma h18 rfl rfl fun a19 h19 => ?_
   refine st_nil (go_then (wp_ret (ret_then ?_)))
   refine fin1 h19 rfl rfl ?_
   refine ⟨?_, S18.below⟩
   unfold tblE; rw [if_pos hbig]
  ·
   have hn : t.ts.length ≤ 60 ∧ t.ds.length ≤ 60 := by simp only [Bool.or_eq_false_iff, decide_eq_false_iff_not] at hc0; omega
   refine wp_skip (go_then (st_seq (st_reg ?_)))
   refine vf h18 0 0 rfl rfl rfl fun a20 h20 => ?_
   refine vl h20 S18 0 rfl rfl rfl rfl fun a21 h21 => ?_
   refine sv h21 (ex_func (h21.evs rfl) (h21.evs rfl)) fun a22 h22 => ?_
   refine sl_bel h22 (wn rfl) (ex_call (fun _ _ => by kernel_rfl) (h22.evs rfl) rfl) rfl rfl S18 (eachTrn_any (fun k x => trnE (bfrL t.ts k) x) t.ts A c 61 [.pointer (some ⟨b1, 0, none⟩)] _ (S18.rd0 hr) (by omega) (fun _ _ => by kernel_rfl) (fun X hX k hk hz' => ctrn_any t A c B d k b1 _ X (Box.below (S18.at_ (i := 0) rfl) hX) ((S18.rd0 hr).below' hX) hk (by omega))) fun a23 X23 h23 S23 => ?_
   refine mv h23 rfl rfl fun a24 h24 => ?_
   refine vx h24 rfl rfl rfl fun a25 h25 => ?_
   refine vx h25 rfl rfl rfl fun a26 h26 => ?_
   refine ma h26 rfl rfl fun a27 h27 => ?_
   refine ma h27 rfl rfl fun a28 h28 => ?_
   refine st_nil (go_then (st_seq (st_seq (st_reg ?_))))
   refine mv h28 rfl rfl fun a29 h29 => ?_
   refine sv h29 (ex_neq (h29.ev rfl) (h29.ev rfl)) fun a30 h30 => ?_
   refine st_nil (go_then ?_)
   refine st_if (h30.ev rfl) (fun hc1 => ?_) (fun hc1 => ?_)
   ·
    have hne : (trnsE t.ts).2 ≠ 0 := by unfold trnsE; simpa using hc1
    refine st_seq (st_reg ?_)
    refine mv h30 rfl rfl fun a31 h31 => ?_
    refine ma h31 rfl rfl fun a32 h32 => ?_
    refine st_nil (go_then (wp_ret (ret_then ?_)))
    refine fin1 h32 rfl rfl ?_
    refine ⟨?_, S23.below⟩
    unfold tblE; rw [if_neg (by omega), if_pos hne]; rfl
   ·
    have hz : (trnsE t.ts).2 = 0 := by unfold trnsE; simpa using hc1
    refine wp_skip (go_then (st_seq (st_reg ?_)))
    refine vf h30 1 1 rfl rfl rfl fun a33 h33 => ?_
    refine vl h33 S23 0 rfl rfl rfl rfl fun a34 h34 => ?_
    refine sv h34 (ex_func (h34.evs rfl) (h34.evs rfl)) fun a35 h35 => ?_
    refine sl_bel h35 (wn rfl) (ex_call (fun _ _ => by kernel_rfl) (h35.evs rfl) rfl) rfl rfl S23 (eachDty_any (fun k x => dtyE (bfrL t.ds k) x) t.ds B d 66 [.pointer (some ⟨b1, 0, none⟩)] _ (S23.rd0 hs) (by omega) (fun _ _ => by kernel_rfl) (fun X hX k hk hz' => cdty_any t A c B d k b1 _ X (Box.below (S23.at_ (i := 0) rfl) hX) ((S23.rd0 hs).below' hX) hk (by omega))) fun a36 X36 h36 S36 => ?_
    refine mv h36 rfl rfl fun a37 h37 => ?_
    refine vx h37 rfl rfl rfl fun a38 h38 => ?_
    refine vx h38 rfl rfl rfl fun a39 h39 => ?_
    refine ma h39 rfl rfl fun a40 h40 => ?_
    refine nsr ?_
    refine mv h40 rfl rfl fun a41 h41 => ?_
    refine ma h41 rfl rfl fun a42 h42 => ?_
    refine st_nil (go_then (wp_ret ?_))
    refine fin1 h42 rfl rfl ?_
    refine ⟨?_, S36.below⟩
    unfold tblE; rw [if_neg (by omega), if_neg (by simpa using hz)]; rfl
theorem flag_any (b : Bool) (w : World) : Calls Tryz.prog 69 #[.bool b] w fun e w' => e = .returned (.int .u8 (bit1 b)) ∧ w = w' := by
 refine st_enter (N := 4) Tryz.func69 rfl rfl rfl (fun a0 h0 => ?_)
 have S0 := St.init w
 refine st_seq (st_reg ?_)
 refine ma h0 rfl rfl fun a1 h1 => ?_
 refine st_nil (go_then (st_seq (st_seq (st_reg ?_))))
 refine mv h1 rfl rfl fun a2 h2 => ?_
 refine st_nil (go_then ?_)
 refine st_if (h2.ev rfl) (fun hc0 => ?_) (fun hc0 => ?_)
 ·
  refine st_seq (st_reg ?_)
  refine ma h2 rfl rfl fun a3 h3 => ?_
  refine st_nil (go_then (wp_ret (ret_then ?_)))
  refine fin1 h3 rfl rfl ?_
  exact ⟨by rw [show b = true from hc0]; rfl, rfl⟩
 ·
  refine wp_skip (go_then (st_seq (st_reg ?_)))
  refine ma h2 rfl rfl fun a4 h4 => ?_
  refine st_nil (go_then (wp_ret ?_))
  refine fin1 h4 rfl rfl ?_
  exact ⟨by rw [show b = false from hc0]; rfl, rfl⟩
theorem isop_any (e : Lge) (w : World) : Calls Tryz.prog 91 #[entV e] w fun r w' => r = .returned (.bool (isOpE e)) ∧ Below w.heap.size w w' := by
 refine st_enter (N := 11) Tryz.func91 rfl rfl rfl (fun a0 h0 => ?_)
 have S0 := St.init w
 refine st_seq (st_reg ?_)
 refine nb h0 rfl rfl S0 fun b1 a1 X1 gb1 h1 S1 => ?_
 refine ma h1 rfl rfl fun a2 h2 => ?_
 refine nsr ?_
 refine vf h2 0 0 rfl rfl rfl fun a3 h3 => ?_
 refine vl h3 S1 0 rfl rfl rfl rfl fun a4 h4 => ?_
 refine sv h4 (ex_eql (h4.ev rfl) (h4.ev rfl)) fun a5 h5 => ?_
 refine mv h5 rfl rfl fun a6 h6 => ?_
 apply sl_or (x := e.k == 1) h6 S1 6 rfl 4 10
 case hf =>
  intro gc6
  refine sy h6 rfl rfl rfl gc6 (ex_field (off := 0) (j := 0) (by kernel_rfl) (h6.ev rfl) rfl) rfl rfl fun a7 h7 => ?_
  refine sy h7 rfl rfl rfl gc6 (ex_load (by kernel_rfl) (h7.ev rfl) (S1.cell (i := 0) rfl rfl)) rfl rfl fun a8 h8 => ?_
  refine sy h8 rfl rfl rfl gc6 (ex_eql (h8.ev rfl) (h8.ev rfl)) rfl rfl fun a9 h9 => ?_
  refine sv h9 (ex_pick_f (h9.ev rfl) gc6 (h9.ev rfl)) fun a10 h10 => ?_
  exact st_nil ⟨h10.mid (m := [(_, _), (_, _), (_, _)]) rfl, S1⟩
 case ht =>
  intro gc6
  refine no h6 rfl rfl rfl gc6 rfl rfl fun a11 h11 => ?_
  refine no h11 rfl rfl rfl gc6 rfl rfl fun a12 h12 => ?_
  refine no h12 rfl rfl rfl gc6 rfl rfl fun a13 h13 => ?_
  refine sv h13 (ex_pick_t (h13.ev rfl) gc6 (h13.ev rfl)) fun a14 h14 => ?_
  exact st_nil ⟨h14.mid (m := [(_, _), (_, _), (_, _)]) rfl, S1⟩
 case h =>
  rintro a15 X15 ⟨h15, S15⟩
  refine ma h15 rfl rfl fun a16 h16 => ?_
  refine st_nil (go_then (wp_ret ?_))
  refine fin1 h16 rfl rfl ?_
  exact ⟨rfl, S15.below⟩
end Go.Proofs.YtcfdpfmchchkaaaGreatDoor
namespace Go.Proofs.YtcfdpfmchchkaaaGreatDoor
set_option linter.unusedVariables false
set_option linter.unusedSimpArgs false
set_option maxRecDepth 4000
open Go.RowKit Go.Sort
theorem rap16_any (v : Value) (n : Nat) (us : List UInt8) (m : Int) (h0 : 0 ≤ m) (w : World) (ho : w.ownsRow 0 5 1 v n (us.map byteV)) (hn : n ≤ 100000) :
 Calls Tryz.prog 67 #[v, .int .u16 m] w fun r w' => ∃ A c, r = .returned (.slice A (n + 2) c) ∧ St v.ownBlock.toList w w' [.row (.slice A (n + 2) c) (n + 2) 5 1 ((us ++ lit m 2).map byteV)] := by
 refine st_enter (N := 13) Tryz.func67 rfl rfl rfl (fun a0 h0 => ?_)
 have S0 := St.initO ho
 refine st_seq (st_reg ?_)
 refine ma h0 rfl rfl fun a1 h1 => ?_
 refine nsr ?_
 refine mv h1 rfl rfl fun a2 h2 => ?_
 refine mv h2 rfl rfl fun a3 h3 => ?_
 refine sv h3 (ex_conv (k0 := .i64) (by kernel_rfl) Tryz.underlying5 (h3.ev rfl)) fun a4 h4 => ?_
 refine mv h4 rfl rfl fun a5 h5 => ?_
 refine sv h5 (ex_shr (n := 8) (h5.ev rfl) (h5.ev rfl) rfl (by omega)) fun a6 h6 => ?_
 refine sv h6 (ex_conv (k0 := .i64) (by kernel_rfl) Tryz.underlying5 (h6.ev rfl)) fun a7 h7 => ?_
 refine sl_new h7 (wn rfl) (f := fun b => .slice (some ⟨b, 0, none⟩) 2 2) (ex_bslice Tryz.underlying126 (by kernel_rfl) (by kernel_rfl) (h7.evs2 rfl) rfl rfl rfl (by decide) (by decide)) rfl rfl S0 fun b11 a8 X8 gb11 h8 S8 => ?_
 refine sl_append (z := .int .u8 0) (sz := 1) (bytes := 1) h8 (wn rfl) ⟨rfl, rfl⟩ rfl Tryz.underlying126 (by kernel_rfl) rfl rfl (h8.ev rfl) (h8.ev rfl) S8 (i := 1) rfl (S8.boxRd (i := 0) rfl) rfl (List.all_eq_true.1 rfl) ⟨(by omega), by decide⟩ fun A12 c12 a9 X9 h9 S9 => ?_
 refine ma h9 rfl rfl fun a10 h10 => ?_
 refine st_nil (go_then (wp_ret ?_))
 refine fin1 h10 rfl rfl ?_
 refine ⟨A12, c12, rfl, ?_⟩
 have q := (S9.sub (.cons _ (.cons_cons _ .slnil)))
 rw [List.map_append, ← lit2_bytes]; exact q
theorem rap32_any (v : Value) (n : Nat) (us : List UInt8) (m : Int) (h0 : 0 ≤ m) (w : World) (ho : w.ownsRow 0 5 1 v n (us.map byteV)) (hn : n ≤ 90000) :
 Calls Tryz.prog 68 #[v, .int .u32 m] w fun r w' => ∃ A c, r = .returned (.slice A (n + 2 + 2) c) ∧ St v.ownBlock.toList w w' [.row (.slice A (n + 2 + 2) c) (n + 2 + 2) 5 1 ((us ++ lit m 4).map byteV)] := by
 refine st_enter (N := 17) Tryz.func68 rfl rfl rfl (fun a0 h0 => ?_)
 have S0 := St.initO ho
 refine st_seq (st_reg ?_)
 refine ma h0 rfl rfl fun a1 h1 => ?_
 refine nsr ?_
 refine mv h1 rfl rfl fun a2 h2 => ?_
 refine mv h2 rfl rfl fun a3 h3 => ?_
 refine sv h3 (ex_conv (k0 := .i64) (by kernel_rfl) Tryz.underlying128 (h3.ev rfl)) fun a4 h4 => ?_
 refine sl_grow h4 (wn rfl) (ex_call (fun _ _ => by kernel_rfl) (h4.evs rfl) rfl) rfl rfl S0 (i := 0) rfl (rap16_any _ _ us _ (by rw [u16_wrap]; omega) _ (S0.at_ (i := 0) rfl) (by omega)) fun A8 c8 a5 X5 h5 S5 => ?_
 refine mv h5 rfl rfl fun a6 h6 => ?_
 refine sv h6 (ex_shr (n := 16) (h6.ev rfl) (h6.ev rfl) rfl (by omega)) fun a7 h7 => ?_
 refine sv h7 (ex_conv (k0 := .i64) (by kernel_rfl) Tryz.underlying5 (h7.ev rfl)) fun a8 h8 => ?_
 refine mv h8 rfl rfl fun a9 h9 => ?_
 refine sv h9 (ex_shr (n := 24) (h9.ev rfl) (h9.ev rfl) rfl (by omega)) fun a10 h10 => ?_
 refine sv h10 (ex_conv (k0 := .i64) (by kernel_rfl) Tryz.underlying5 (h10.ev rfl)) fun a11 h11 => ?_
 refine sl_new h11 (wn rfl) (f := fun b => .slice (some ⟨b, 0, none⟩) 2 2) (ex_bslice Tryz.underlying126 (by kernel_rfl) (by kernel_rfl) (h11.evs2 rfl) rfl rfl rfl (by decide) (by decide)) rfl rfl S5 fun b15 a12 X12 gb15 h12 S12 => ?_
 refine sl_append (z := .int .u8 0) (sz := 1) (bytes := 1) h12 (wn rfl) ⟨rfl, rfl⟩ rfl Tryz.underlying126 (by kernel_rfl) rfl rfl (h12.ev rfl) (h12.ev rfl) S12 (i := 1) rfl (S12.boxRd (i := 0) rfl) rfl (List.all_eq_true.1 rfl) ⟨(by omega), by decide⟩ fun A16 c16 a13 X13 h13 S13 => ?_
 refine ma h13 rfl rfl fun a14 h14 => ?_
 refine st_nil (go_then (wp_ret ?_))
 refine fin1 h14 rfl rfl ?_
 refine ⟨A16, c16, rfl, ?_⟩
 have q := (S13.sub (.cons _ (.cons_cons _ .slnil)))
 have e : (us ++ lit m 4).map byteV = (us ++ lit (IntKind.u16.wrap m) 2).map byteV ++ [.int .u8 (IntKind.u8.wrap (m / 2 ^ 16)), .int .u8 (IntKind.u8.wrap (m / 2 ^ 24))] := by
  rw [byt_u8, byt_u8, lit4_split, u16_wrap]; simp only [List.map_append, List.append_assoc]; rfl
 rw [e]; exact q
theorem rget16_any (b o n c : Nat) (l : List UInt8) (w : World) (hb : BytB w b l) (h : o + 2 ≤ l.length) (hn : 2 ≤ n) :
 Calls Tryz.prog 71 #[.slice (some ⟨b, o, none⟩) n c] w fun e w' => e = .returned (.int .u16 (g16 l o)) ∧ Below w.heap.size w w' := by
 have u1 := (l.getD o 0).toNat_lt
 have u2 := (l.getD (o + 1) 0).toNat_lt
 refine st_enter (N := 13) Tryz.func71 rfl rfl rfl (fun a0 h0 => ?_)
 have S0 := St.init w
 refine st_seq (st_reg ?_)
 refine ma h0 rfl rfl fun a1 h1 => ?_
 refine st_nil (go_then (st_seq ?_))
 apply dr_flow h1 [false, false, false, false, false, false, false, false, false] _ (by kernel_rfl)
 case h =>
  refine qv h1 (fun X hX => ex_move (h1.ev rfl)) fun a2 h2 => ?_
  refine qv h2 (fun X hX => ex_index (i := 0) (sz := 1) Tryz.underlying126 (by kernel_rfl) (h2.ev rfl) (h2.ev rfl) (by omega) (by omega) rfl) fun a3 h3 => ?_
  refine qv (v := byteV (l.getD o 0)) h3 (fun X hX => ex_load (by kernel_rfl) (h3.ev rfl) ((bytAt (i := 0) (byt_below hb (S0.grow hX).below) (by omega)) 0 _ rfl)) fun a4 h4 => ?_
  refine qv h4 (fun X hX => ex_convin (by kernel_rfl) Tryz.underlying128 (h4.ev rfl) (wrap_u16 (by omega))) fun a5 h5 => ?_
  refine qv h5 (fun X hX => ex_move (h5.ev rfl)) fun a6 h6 => ?_
  refine qv h6 (fun X hX => ex_index (i := 1) (sz := 1) Tryz.underlying126 (by kernel_rfl) (h6.ev rfl) (h6.ev rfl) (by omega) (by omega) rfl) fun a7 h7 => ?_
  refine qv (v := byteV (l.getD (o + 1) 0)) h7 (fun X hX => ex_load (by kernel_rfl) (h7.ev rfl) ((bytAt (i := 1) (byt_below hb (S0.grow hX).below) (by omega)) 0 _ rfl)) fun a8 h8 => ?_
  refine qv h8 (fun X hX => ex_convin (by kernel_rfl) Tryz.underlying128 (h8.ev rfl) (wrap_u16 (by omega))) fun a9 h9 => ?_
  refine qv h9 (fun X hX => ex_shl (n := 8) (r := ((l.getD (o + 1) 0).toNat : Int) * 256) (h9.ev rfl) (h9.ev rfl) rfl (by rw [wrap_u16 (by omega)]; omega)) fun a10 h10 => ?_
  refine sq_nil ?_
  refine nd_end fun X11 hX11 hΦ11 => ?_
  have S11 := S0.grow hX11
  refine sv h10 (ex_bits (r := g16 l o) rfl (h10.ev rfl) (h10.ev rfl) (bits_or16 u1 u2)) fun a12 h12 => ?_
  refine ma h12 rfl rfl fun a13 h13 => ?_
  refine st_nil (go_then (wp_ret ?_))
  refine fin1 h13 rfl rfl ?_
  exact ⟨rfl, S11.below⟩
 case hB => kernel_rfl
 case hst => rfl
theorem rget32_any (b o n c : Nat) (l : List UInt8) (w : World) (hb : BytB w b l) (h : o + 4 ≤ l.length) (hn : 4 ≤ n) (hc : n ≤ c) :
 Calls Tryz.prog 72 #[.slice (some ⟨b, o, none⟩) n c] w fun e w' => e = .returned (.int .u32 (g32 l o)) ∧ Below w.heap.size w w' := by
 have u1 := g16_bd l o
 have u2 := g16_bd l (o + 2)
 refine st_enter (N := 12) Tryz.func72 rfl rfl rfl (fun a0 h0 => ?_)
 have S0 := St.init w
 refine st_seq (st_reg ?_)
 refine ma h0 rfl rfl fun a1 h1 => ?_
 refine st_nil (go_then (st_seq ?_))
 apply dr_flow h1 [false, false, false, false, false, false, false, false] _ (by kernel_rfl)
 case h =>
  refine qv h1 (fun X hX => ex_move (h1.ev rfl)) fun a2 h2 => ?_
  refine sq_bel h2 (wn rfl) rfl rfl (fun X => (ex_call (fun _ _ => by kernel_rfl) (h2.evs rfl) rfl)) (fun X hX => rget16_any b o n c l _ (byt_below hb (S0.grow hX).below) (by omega) (by omega)) fun a3 h3 => ?_
  refine qv h3 (fun X hX => ex_convin (by kernel_rfl) Tryz.underlying130 (h3.ev rfl) (wrap_u32 (by omega))) fun a4 h4 => ?_
  refine qv h4 (fun X hX => ex_move (h4.ev rfl)) fun a5 h5 => ?_
  refine qv h5 (fun X hX => ex_slice (l := 2) (h := n) (sz := 1) Tryz.underlying126 (by kernel_rfl) (h5.ev rfl) (h5.ev rfl) rfl (by omega) hc (.inl (by omega)) rfl) fun a6 h6 => ?_
  refine sq_bel h6 (wn rfl) rfl rfl (fun X => (ex_call (fun _ _ => by kernel_rfl) (h6.evs rfl) rfl)) (fun X hX => rget16_any b (o + 2 * 1) (n - 2) (c - 2) l _ (byt_below hb (S0.grow hX).below) (by omega) (by omega)) fun a7 h7 => ?_
  refine qv h7 (fun X hX => ex_convin (by kernel_rfl) Tryz.underlying130 (h7.ev rfl) (wrap_u32 (by show 0 ≤ g16 l (o + 2) ∧ g16 l (o + 2) < 4294967296; omega))) fun a8 h8 => ?_
  refine qv h8 (fun X hX => ex_shl (n := 16) (r := g16 l (o + 2) * 65536) (h8.ev rfl) (h8.ev rfl) rfl (by show IntKind.u32.wrap (g16 l (o + 2) * 2 ^ 16) = _; rw [wrap_u32 (by omega)]; omega)) fun a9 h9 => ?_
  refine sq_nil ?_
  refine nd_end fun X10 hX10 hΦ10 => ?_
  have S10 := S0.grow hX10
  refine sv h9 (ex_bits (r := g32 l o) rfl (h9.ev rfl) (h9.ev rfl) (by obtain ⟨a, ha⟩ := Int.eq_ofNat_of_zero_le u1.1; obtain ⟨b', hb'⟩ := Int.eq_ofNat_of_zero_le u2.1; unfold g32; rw [ha, hb']; rw [ha] at u1; rw [hb'] at u2; exact bits_or32 (by omega) (by omega))) fun a11 h11 => ?_
  refine ma h11 rfl rfl fun a12 h12 => ?_
  refine st_nil (go_then (wp_ret ?_))
  refine fin1 h12 rfl rfl ?_
  exact ⟨rfl, S10.below⟩
 case hB => kernel_rfl
 case hst => rfl
structure TbW where
 k : Nat
 n : Nat
 us : List UInt8
 A : Option Addr
 c : Nat
theorem ltw32 {n : Int} : lit (IntKind.u32.wrap n) 4 = lit n 4 := by
 rw [u32_wrap, lit4_two, lit4_two n]
 have h1 : n % 4294967296 % 65536 = n % 65536 := by omega
 have h2 : n % 4294967296 / 2 ^ 16 % 65536 = n / 2 ^ 16 % 65536 := by omega
 rw [h1, h2]
theorem ltw16 {n : Int} : lit (IntKind.u16.wrap n) 2 = lit n 2 := by
 rw [u16_wrap]
 have h1 : n % 65536 % 256 = n % 256 := by omega
 have h2 : n % 65536 / 256 % 256 = n / 256 % 256 := by omega
 simp only [lit, h1, h2]
theorem tb0_row (t : Tbl) : [Value.int .u8 (IntKind.u8.wrap t.ts.length), .int .u8 (IntKind.u8.wrap t.ds.length)] = ((lit t.ts.length 1 ++ lit t.ds.length 1 ++ ([] ++ []) : List UInt8)).map byteV := by
 rw [byt_u8, byt_u8]; rfl
theorem bit1_byte (b : Bool) : [Value.int .u8 (bit1 b)] = (lit (bit1 b) 1).map byteV := by cases b <;> rfl
theorem trnY_row (us : List UInt8) (x : Trn) : (us ++ trnY x).map byteV = (((us ++ lit (IntKind.u16.wrap x.i) 2) ++ lit (IntKind.u32.wrap x.l) 4) ++ lit (IntKind.u32.wrap x.u) 4).map byteV ++ [Value.int .u8 (bit1 x.c)] := by
 rw [bit1_byte, ← List.map_append]
 congr 1
 rw [ltw16, ltw32, ltw32]
 unfold trnY
 simp only [List.append_assoc]
theorem dtyY_row (us : List UInt8) (x : Dty) : (us ++ dtyY x).map byteV = (((us ++ lit (IntKind.u16.wrap x.g) 2) ++ lit (bit1 x.f) 1) ++ lit (IntKind.u32.wrap x.l) 4).map byteV := by
 congr 1
 rw [ltw16, ltw32]
 unfold dtyY
 simp only [List.append_assoc]
def tbK (t : Tbl) (k j : Nat) : List UInt8 := lit t.ts.length 1 ++ lit t.ds.length 1 ++ ((t.ts.take k).flatMap trnY ++ (t.ds.take j).flatMap dtyY)
theorem tbK_t {t : Tbl} {k : Nat} (hk : k < t.ts.length) : tbK t (k + 1) 0 = tbK t k 0 ++ trnY t.ts[k] := by
 unfold tbK
 rw [List.take_succ_eq_append_getElem hk, List.flatMap_append]
 simp
theorem tbK_d {t : Tbl} {k j : Nat} (hj : j < t.ds.length) : tbK t k (j + 1) = tbK t k j ++ dtyY t.ds[j] := by
 unfold tbK
 rw [List.take_succ_eq_append_getElem hj, List.flatMap_append]
 simp
theorem tbK_all (t : Tbl) : tbK t t.ts.length t.ds.length = tblL t := by
 unfold tbK tblL
 rw [List.take_length, List.take_length]
theorem TableBytes_any (t : Tbl) (A : Option Addr) (c : Nat) (B : Option Addr) (d : Nat) (w : World) (hr : Rd w w.heap.size A (t.ts.flatMap trsL)) (hs : Rd w w.heap.size B (t.ds.flatMap dtyL)) :
 Calls Tryz.prog 17 #[tblV t A c B d] w fun e w' => e = .returned (.tuple #[.string (if tblE t = 0 then bs (tblL t) else ⟨#[]⟩), .int .i64 (tblE t)]) ∧ Below w.heap.size w w' := by
 refine st_enter (N := 79) Tryz.func17 rfl rfl rfl (fun a0 h0 => ?_)
 have S0 := St.init w
 refine st_seq (st_reg ?_)
 refine nb h0 rfl rfl S0 fun b1 a1 X1 gb1 h1 S1 => ?_
 refine ma h1 rfl rfl fun a2 h2 => ?_
 refine ma h2 rfl rfl fun a3 h3 => ?_
 refine st_nil (go_then (st_seq (st_seq (st_reg ?_))))
 refine sv (v := tblV t A c B d) h3 (ex_loads (by kernel_rfl) (by kernel_rfl) (h3.ev rfl) (S1.cellsAll (i := 0) rfl)) fun a4 h4 => ?_
 refine sl_bel h4 (wn rfl) (ex_call (fun _ _ => by kernel_rfl) (h4.evs rfl) rfl) rfl rfl S1 (CheckTable_any t A c B d _ (S1.rd0 hr) (S1.rd0 hs)) fun a5 X5 h5 S5 => ?_
 refine ma h5 rfl rfl fun a6 h6 => ?_
 refine nsr ?_
 refine mv h6 rfl rfl fun a7 h7 => ?_
 refine sv h7 (ex_neq (h7.ev rfl) (h7.ev rfl)) fun a8 h8 => ?_
 refine st_nil (go_then ?_)
 refine st_if (h8.ev rfl) (fun hc0 => ?_) (fun hc0 => ?_)
 ·
  have hne : ¬ tblE t = 0 := by simpa using hc0
  refine st_seq (st_reg ?_)
  refine mv h8 rfl rfl fun a9 h9 => ?_
  refine ma h9 rfl rfl fun a10 h10 => ?_
  refine ma h10 rfl rfl fun a11 h11 => ?_
  refine st_nil (go_then (wp_ret (ret_then ?_)))
  refine fin2 h11 rfl rfl rfl ?_
  refine ⟨?_, S5.below⟩
  rw [if_neg hne]
 ·
  have hz : tblE t = 0 := by simpa using hc0
  have hk := tblE_zero.1 hz
  have hn := hk.n
  have hm := hk.m
  refine wp_skip (go_then (st_seq (st_reg ?_)))
  refine vf h8 0 0 rfl rfl rfl fun a12 h12 => ?_
  refine vl h12 S5 0 rfl rfl rfl rfl fun a13 h13 => ?_
  refine sv h13 (ex_len Tryz.underlying22 (h13.ev rfl)) fun a14 h14 => ?_
  refine sv h14 (ex_conv (k0 := .i64) (by kernel_rfl) Tryz.underlying5 (h14.ev rfl)) fun a15 h15 => ?_
  refine vf h15 1 1 rfl rfl rfl fun a16 h16 => ?_
  refine vl h16 S5 0 rfl rfl rfl rfl fun a17 h17 => ?_
  refine sv h17 (ex_len Tryz.underlying23 (h17.ev rfl)) fun a18 h18 => ?_
  refine sv h18 (ex_conv (k0 := .i64) (by kernel_rfl) Tryz.underlying5 (h18.ev rfl)) fun a19 h19 => ?_
  refine sl_new h19 (wn rfl) (f := fun b => .slice (some ⟨b, 0, none⟩) 2 2) (ex_bslice Tryz.underlying126 (by kernel_rfl) (by kernel_rfl) (h19.evs2 rfl) rfl rfl rfl (by decide) (by decide)) rfl rfl S5 fun b23 a20 X20 gb23 h20 S20 => ?_
  refine ma h20 rfl rfl fun a21 h21 => ?_
  replace S20 := S20.toRow (i := 0) (n := 2) (sz := 1) rfl rfl (by decide)
  replace S20 : St [] w X20 [.row (.slice (some ⟨b23, 0, none⟩) 2 2) 2 5 1 [Value.int .u8 (IntKind.u8.wrap t.ts.length), .int .u8 (IntKind.u8.wrap t.ds.length)], .box b1 (tblV t A c B d).cells 25] := S20
  rw [tb0_row t] at S20
  refine st_nil (go_then (st_seq (st_seq (st_reg ?_))))
  refine vf h21 0 0 rfl rfl rfl fun a22 h22 => ?_
  refine vl h22 S20 1 rfl rfl rfl rfl fun a23 h23 => ?_
  refine sv h23 (ex_len Tryz.underlying22 (h23.ev rfl)) fun a24 h24 => ?_
  refine mv h24 rfl rfl fun a25 h25 => ?_
  refine st_nil (go_then (wp_block ?_))
  refine st_loop h25 S20 [26, 25, 3, 2, 1] (fun (q : TbW) => [(27, .int .i64 (q.k : Nat)), (5, .slice q.A q.n q.c)]) (fun (q : TbW) => q.k ≤ t.ts.length ∧ q.n = 2 + 11 * q.k ∧ q.us = tbK t q.k 0) (fun q L => L.set 0 (.row (.slice q.A q.n q.c) q.n 5 1 (q.us.map byteV))) (fun (q : TbW) => t.ts.length - q.k) (⟨0, 2, tbK t 0 0, some ⟨b23, 0, none⟩, 2⟩) (⟨Nat.zero_le _, rfl, rfl⟩) ⟨rfl, rfl, rfl, rfl, rfl, rfl, rfl, trivial⟩ (S20) ?_
  intro q a26 X26 hF0 h26 S26
  refine st_seq (st_reg ?_)
  refine sv h26 (ex_lss (h26.ev rfl) (h26.ev rfl)) fun a27 h27 => ?_
  refine st_nil (go_then (st_seq ?_))
  refine st_if (h27.ev rfl) (fun hc1 => ?_) (fun hc1 => ?_)
  ·
   have hlt : q.k < t.ts.length := by have := of_decide_eq_true hc1; omega
   obtain ⟨b_, o_, rfl, _⟩ := hr.opened (flat_pos trsL_len (by decide) (by omega))
   refine wp_skip (go_then (st_seq (wp_block (st_seq (st_reg ?_)))))
   refine sv h27 (ex_index (i := q.k) (sz := 4) Tryz.underlying22 (by kernel_rfl) (h27.ev rfl) (h27.ev rfl) (by omega) (by omega) rfl) fun a28 h28 => ?_
   refine sv (v := trnV t.ts[q.k]) h28 (ex_loads (by kernel_rfl) (by kernel_rfl) (h28.ev rfl) (flatAt trsL_len (S26.rd0 hr) hlt)) fun a29 h29 => ?_
   refine na (.agg #[.int .i64 0, .int .i64 0, .int .i64 0, .bool false]) h29 rfl S26 fun b7 a30 X30 gb7 h30 S30 => ?_
   refine sl_store0 h30 (wn rfl) ⟨rfl, rfl⟩ (h30.ev rfl) (h30.ev rfl) rfl (by kernel_rfl) S30 (i := 0) rfl rfl rfl fun X31 S31 => ?_
   refine nsr ?_
   refine mv h30 rfl rfl fun a32 h32 => ?_
   refine vf h32 0 0 rfl rfl rfl fun a33 h33 => ?_
   refine vl h33 S31 0 rfl rfl rfl rfl fun a34 h34 => ?_
   refine sv h34 (ex_conv (k0 := .i64) (by kernel_rfl) Tryz.underlying128 (h34.ev rfl)) fun a35 h35 => ?_
   refine sl_grow h35 (wn rfl) (ex_call (fun _ _ => by kernel_rfl) (h35.evs rfl) rfl) rfl rfl S31 (i := 1) rfl (rap16_any _ _ q.us _ (by rw [u16_wrap]; omega) _ (S31.at_ (i := 1) rfl) (by have := hF0.2.1; omega)) fun A35 c35 a36 X36 h36 S36 => ?_
   refine ma h36 rfl rfl fun a37 h37 => ?_
   refine nsr ?_
   refine mv h37 rfl rfl fun a38 h38 => ?_
   refine vf h38 1 1 rfl rfl rfl fun a39 h39 => ?_
   refine vl h39 S36 0 rfl rfl rfl rfl fun a40 h40 => ?_
   refine sv h40 (ex_conv (k0 := .i64) (by kernel_rfl) Tryz.underlying130 (h40.ev rfl)) fun a41 h41 => ?_
   refine sl_grow h41 (wn rfl) (ex_call (fun _ _ => by kernel_rfl) (h41.evs rfl) rfl) rfl rfl S36 (i := 1) rfl (rap32_any _ _ (q.us ++ lit (IntKind.u16.wrap t.ts[q.k].i) 2) _ (by rw [u32_wrap]; omega) _ (S36.at_ (i := 1) rfl) (by have := hF0.2.1; omega)) fun A40 c40 a42 X42 h42 S42 => ?_
   refine ma h42 rfl rfl fun a43 h43 => ?_
   refine nsr ?_
   refine mv h43 rfl rfl fun a44 h44 => ?_
   refine vf h44 2 2 rfl rfl rfl fun a45 h45 => ?_
   refine vl h45 S42 0 rfl rfl rfl rfl fun a46 h46 => ?_
   refine sv h46 (ex_conv (k0 := .i64) (by kernel_rfl) Tryz.underlying130 (h46.ev rfl)) fun a47 h47 => ?_
   refine sl_grow h47 (wn rfl) (ex_call (fun _ _ => by kernel_rfl) (h47.evs rfl) rfl) rfl rfl S42 (i := 1) rfl (rap32_any _ _ ((q.us ++ lit (IntKind.u16.wrap t.ts[q.k].i) 2) ++ lit (IntKind.u32.wrap t.ts[q.k].l) 4) _ (by rw [u32_wrap]; omega) _ (S42.at_ (i := 1) rfl) (by have := hF0.2.1; omega)) fun A45 c45 a48 X48 h48 S48 => ?_
   refine ma h48 rfl rfl fun a49 h49 => ?_
   refine st_nil (go_then (st_reg ?_))
   refine mv h49 rfl rfl fun a50 h50 => ?_
   refine vf h50 3 3 rfl rfl rfl fun a51 h51 => ?_
   refine vl h51 S48 0 rfl rfl rfl rfl fun a52 h52 => ?_
   refine sl_pure h52 (wn rfl) (ex_call (fun _ _ => by kernel_rfl) (h52.evs rfl) rfl) rfl rfl (flag_any _ _) fun a53 h53 => ?_
   refine sl_new h53 (wn rfl) (f := fun b => .slice (some ⟨b, 0, none⟩) 1 1) (ex_bslice Tryz.underlying126 (by kernel_rfl) (by kernel_rfl) (h53.evs2 rfl) rfl rfl rfl (by decide) (by decide)) rfl rfl S48 fun b50 a54 X54 gb50 h54 S54 => ?_
   refine sl_append (z := .int .u8 0) (sz := 1) (bytes := 1) h54 (wn rfl) ⟨rfl, rfl⟩ rfl Tryz.underlying126 (by kernel_rfl) rfl rfl (h54.ev rfl) (h54.ev rfl) S54 (i := 2) rfl (S54.boxRd (i := 0) rfl) rfl (List.all_eq_true.1 rfl) ⟨(by have := hF0.2.1; omega), by decide⟩ fun A51 c51 a55 X55 h55 S55 => ?_
   refine ma h55 rfl rfl fun a56 h56 => ?_
   refine st_nil (go_block (go_then (st_reg ?_)))
   refine sv h56 (ex_add (h56.ev rfl) (h56.ev rfl) (by omega)) fun a57 h57 => ?_
   refine mv h57 rfl rfl fun a58 h58 => ?_
   refine st_nil (go_then ?_)
   exact ⟨⟨q.k + 1, q.n + 2 + 2 + 2 + 2 + 2 + 1, q.us ++ trnY t.ts[q.k], A51, c51⟩, (by show _ - (q.k + 1) < _; omega), ⟨by show q.k + 1 ≤ _; omega, by show q.n + 2 + 2 + 2 + 2 + 2 + 1 = 2 + 11 * (q.k + 1); have := hF0.2.1; omega, by show q.us ++ _ = _; rw [hF0.2.2, tbK_t hlt]⟩, h58.re ⟨rfl, rfl, rfl, rfl, rfl, rfl, rfl, trivial⟩, (by have qq := (S55.sub (.cons _ (.cons _ (.cons_cons _ (.cons_cons _ .slnil))))); rw [← trnY_row] at qq; exact qq)⟩
  ·
   have hge : q.k = t.ts.length := by have := of_decide_eq_false hc1; have := hF0.1; omega
   refine wp_exit ?_
   refine go_exit_then ?_
   refine go_exit_then ?_
   refine go_exit ?_
   refine go_then (st_seq (st_seq (st_reg ?_)))
   refine vf h27 1 1 rfl rfl rfl fun a59 h59 => ?_
   refine vl h59 S26 1 rfl rfl rfl rfl fun a60 h60 => ?_
   refine sv h60 (ex_len Tryz.underlying23 (h60.ev rfl)) fun a61 h61 => ?_
   refine mv h61 rfl rfl fun a62 h62 => ?_
   refine st_nil (go_then (wp_block ?_))
   refine st_loop h62 S26 [55, 54, 3, 2] (fun (u : TbW) => [(56, .int .i64 (u.k : Nat)), (5, .slice u.A u.n u.c)]) (fun (u : TbW) => u.k ≤ t.ds.length ∧ u.n = 2 + 11 * t.ts.length + 7 * u.k ∧ u.us = tbK t t.ts.length u.k) (fun u L => L.set 0 (.row (.slice u.A u.n u.c) u.n 5 1 (u.us.map byteV))) (fun (u : TbW) => t.ds.length - u.k) (⟨0, q.n, q.us, q.A, q.c⟩) (⟨Nat.zero_le _, by show q.n = _; rw [hF0.2.1, hge]; rfl, by show q.us = _; rw [hF0.2.2, hge]⟩) ⟨rfl, rfl, rfl, rfl, rfl, rfl, trivial⟩ (S26) ?_
   intro u a63 X63 hF1 h63 S63
   refine st_seq (st_reg ?_)
   refine sv h63 (ex_lss (h63.ev rfl) (h63.ev rfl)) fun a64 h64 => ?_
   refine st_nil (go_then (st_seq ?_))
   refine st_if (h64.ev rfl) (fun hc2 => ?_) (fun hc2 => ?_)
   ·
    have hlt2 : u.k < t.ds.length := by have := of_decide_eq_true hc2; omega
    obtain ⟨b_, o_, rfl, _⟩ := hs.opened (flat_pos dtyL_len (by decide) (by omega))
    refine wp_skip (go_then (st_seq (wp_block (st_seq (st_reg ?_)))))
    refine sv h64 (ex_index (i := u.k) (sz := 3) Tryz.underlying23 (by kernel_rfl) (h64.ev rfl) (h64.ev rfl) (by omega) (by omega) rfl) fun a65 h65 => ?_
    refine sv (v := dtyV t.ds[u.k]) h65 (ex_loads (by kernel_rfl) (by kernel_rfl) (h65.ev rfl) (flatAt dtyL_len (S63.rd0 hs) hlt2)) fun a66 h66 => ?_
    refine na (.agg #[.int .i64 0, .bool false, .int .i64 0]) h66 rfl S63 fun b9 a67 X67 gb9 h67 S67 => ?_
    refine sl_store0 h67 (wn rfl) ⟨rfl, rfl⟩ (h67.ev rfl) (h67.ev rfl) rfl (by kernel_rfl) S67 (i := 0) rfl rfl rfl fun X68 S68 => ?_
    refine nsr ?_
    refine mv h67 rfl rfl fun a69 h69 => ?_
    refine vf h69 0 0 rfl rfl rfl fun a70 h70 => ?_
    refine vl h70 S68 0 rfl rfl rfl rfl fun a71 h71 => ?_
    refine sv h71 (ex_conv (k0 := .i64) (by kernel_rfl) Tryz.underlying128 (h71.ev rfl)) fun a72 h72 => ?_
    refine sl_grow h72 (wn rfl) (ex_call (fun _ _ => by kernel_rfl) (h72.evs rfl) rfl) rfl rfl S68 (i := 1) rfl (rap16_any _ _ u.us _ (by rw [u16_wrap]; omega) _ (S68.at_ (i := 1) rfl) (by have := hF1.2.1; omega)) fun A64 c64 a73 X73 h73 S73 => ?_
    refine ma h73 rfl rfl fun a74 h74 => ?_
    refine nsr ?_
    refine mv h74 rfl rfl fun a75 h75 => ?_
    refine vf h75 1 1 rfl rfl rfl fun a76 h76 => ?_
    refine vl h76 S73 0 rfl rfl rfl rfl fun a77 h77 => ?_
    refine sl_pure h77 (wn rfl) (ex_call (fun _ _ => by kernel_rfl) (h77.evs rfl) rfl) rfl rfl (flag_any _ _) fun a78 h78 => ?_
    refine sl_new h78 (wn rfl) (f := fun b => .slice (some ⟨b, 0, none⟩) 1 1) (ex_bslice Tryz.underlying126 (by kernel_rfl) (by kernel_rfl) (h78.evs2 rfl) rfl rfl rfl (by decide) (by decide)) rfl rfl S73 fun b69 a79 X79 gb69 h79 S79 => ?_
    refine sl_append (z := .int .u8 0) (sz := 1) (bytes := 1) h79 (wn rfl) ⟨rfl, rfl⟩ rfl Tryz.underlying126 (by kernel_rfl) rfl rfl (h79.ev rfl) (h79.ev rfl) S79 (i := 2) rfl (S79.boxRd (i := 0) rfl) rfl (List.all_eq_true.1 rfl) ⟨(by have := hF1.2.1; omega), by decide⟩ fun A70 c70 a80 X80 h80 S80 => ?_
    rw [bit1_byte, ← List.map_append] at S80
    refine ma h80 rfl rfl fun a81 h81 => ?_
    refine st_nil (go_then (st_reg ?_))
    refine mv h81 rfl rfl fun a82 h82 => ?_
    refine vf h82 2 2 rfl rfl rfl fun a83 h83 => ?_
    refine vl h83 S80 1 rfl rfl rfl rfl fun a84 h84 => ?_
    refine sv h84 (ex_conv (k0 := .i64) (by kernel_rfl) Tryz.underlying130 (h84.ev rfl)) fun a85 h85 => ?_
    refine sl_grow h85 (wn rfl) (ex_call (fun _ _ => by kernel_rfl) (h85.evs rfl) rfl) rfl rfl S80 (i := 2) rfl (rap32_any _ _ ((u.us ++ lit (IntKind.u16.wrap t.ds[u.k].g) 2) ++ lit (bit1 t.ds[u.k].f) 1) _ (by rw [u32_wrap]; omega) _ (S80.at_ (i := 2) rfl) (by have := hF1.2.1; omega)) fun A75 c75 a86 X86 h86 S86 => ?_
    refine ma h86 rfl rfl fun a87 h87 => ?_
    refine st_nil (go_block (go_then (st_reg ?_)))
    refine sv h87 (ex_add (h87.ev rfl) (h87.ev rfl) (by omega)) fun a88 h88 => ?_
    refine mv h88 rfl rfl fun a89 h89 => ?_
    refine st_nil (go_then ?_)
    exact ⟨⟨u.k + 1, u.n + 2 + 1 + 2 + 2, u.us ++ dtyY t.ds[u.k], A75, c75⟩, (by show _ - (u.k + 1) < _; omega), ⟨by show u.k + 1 ≤ _; omega, by show u.n + 2 + 1 + 2 + 2 = 2 + 11 * t.ts.length + 7 * (u.k + 1); have := hF1.2.1; omega, by show u.us ++ _ = _; rw [hF1.2.2, tbK_d hlt2]⟩, h89.re ⟨rfl, rfl, rfl, rfl, rfl, rfl, trivial⟩, (by have qq := (S86.sub (.cons _ (.cons _ (.cons_cons _ (.cons_cons _ .slnil))))); rw [← dtyY_row] at qq; exact qq)⟩
   ·
    have hge2 : u.k = t.ds.length := by have := of_decide_eq_false hc2; have := hF1.1; omega
    refine wp_exit ?_
    refine go_exit_then ?_
    refine go_exit_then ?_
    refine go_exit ?_
    refine go_then (st_seq (st_reg ?_))
    refine mv h64 rfl rfl fun a90 h90 => ?_
    refine sv h90 (ex_rstr Tryz.underlying126 Tryz.underlying5 Tryz.underlying9 (h90.ev rfl) (S63.at_ (i := 0) rfl)) fun a91 h91 => ?_
    refine ma h91 rfl rfl fun a92 h92 => ?_
    refine ma h92 rfl rfl fun a93 h93 => ?_
    refine st_nil (go_then (wp_ret ?_))
    refine fin2 h93 rfl rfl rfl ?_
    refine ⟨?_, S63.below⟩
    rw [if_pos hz, hz, hF1.2.2, hge2, tbK_all]
end Go.Proofs.YtcfdpfmchchkaaaGreatDoor
