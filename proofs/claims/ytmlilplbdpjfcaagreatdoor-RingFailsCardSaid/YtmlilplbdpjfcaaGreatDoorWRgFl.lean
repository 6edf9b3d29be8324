/-
  RingFails: a power failure.
-/
import Derived.Test.YtmlilplbdpjfcaaGreatDoorRg29
import Derived.Test.YtmlilplbdpjfcaaGreatDoorRg12
import Derived.Test.YtmlilplbdpjfcaaGreatDoorRgB
import Derived.Test.YtmlilplbdpjfcaaGreatDoorRgG
import Derived.Test.YtmlilplbdpjfcaaGreatDoorRgF
import Derived.Test.YtmlilplbdpjfcaaGreatDoorSpl11
import Derived.Test.YtmlilplbdpjfcaaGreatDoorFlowM
namespace Go.Proofs.YtmlilplbdpjfcaaGreatDoor
set_option linter.unusedVariables false
set_option linter.unusedSimpArgs false
set_option maxRecDepth 4000
open Go.RowKit Go.Sort
def failV (n : Nat) (A : Option Addr) (c m : Nat) (B : Option Addr) (d : Nat) : Value := .agg #[.slice A n c, .slice B m d]
theorem onDisk_any (D : List UInt8) (x : Int × List UInt8) (w : World) (k1 : 0 ≤ x.1 ∧ x.1 ≤ 2000) (k2 : x.2.length = 512) (k3 : x.1 * 64 + 512 ≤ D.length) :
 Calls Tryz.prog 48 #[.string (bs D), .agg (wrV x).toArray] w fun e w' => e = .returned (.bool true) ∧ Below w.heap.size w w' := by
 have hb1 : (bs x.2).size = 512 := by rw [bs_size, k2]
 have hb2 : (bs D).size = D.length := bs_size D
 refine st_enter (N := 27) Tryz.func48 rfl rfl rfl (fun a0 h0 => ?_)
 have S0 := St.init w
 refine st_seq (st_reg ?_)
 refine nb h0 rfl rfl S0 fun b3 a1 X1 gb3 h1 S1 => ?_
 refine ma h1 rfl rfl fun a2 h2 => ?_
 refine nsr ?_
 refine vf h2 0 0 rfl rfl rfl fun a3 h3 => ?_
 refine vl h3 S1 0 rfl rfl rfl rfl fun a4 h4 => ?_
 refine sl_pure h4 (wn rfl) (ex_call (fun _ _ => by kernel_rfl) (h4.evs rfl) rfl) rfl rfl (Within_any _ _ _ _) fun a5 h5 => ?_
 refine mv h5 rfl rfl fun a6 h6 => ?_
 refine sl_val h6 (wanted_yes h6 _ rfl rfl rfl ((inB_true.2 k1))) (ex_field (off := 1) (j := 1) (by kernel_rfl) (h6.ev rfl) rfl) rfl rfl fun a7 h7 => ?_
 refine sl_val h7 (wanted_yes h7 _ rfl rfl rfl ((inB_true.2 k1))) (ex_load (by kernel_rfl) (h7.ev rfl) (S1.cell (i := 0) rfl rfl)) rfl rfl fun a8 h8 => ?_
 refine sl_val h8 (wanted_yes h8 _ rfl rfl rfl ((inB_true.2 k1))) (ex_slen Tryz.underlying9 (h8.ev rfl)) rfl rfl fun a9 h9 => ?_
 refine sl_val h9 (wanted_yes h9 _ rfl rfl rfl ((inB_true.2 k1))) (ex_remt (h9.ev rfl) (h9.ev rfl) (by decide)) rfl rfl fun a10 h10 => ?_
 refine sl_val h10 (wanted_yes h10 _ rfl rfl rfl ((inB_true.2 k1))) (ex_eql (h10.ev rfl) (h10.ev rfl)) rfl rfl fun a11 h11 => ?_
 refine sv h11 (ex_pick_t (h11.ev rfl) ((inB_true.2 k1)) (h11.ev rfl)) fun a12 h12 => ?_
 refine mv h12 rfl rfl fun a13 h13 => ?_
 refine sl_val h13 (wanted_yes h13 _ rfl rfl rfl ((by rw [hb1]; rfl))) (ex_field (off := 0) (j := 0) (by kernel_rfl) (h13.ev rfl) rfl) rfl rfl fun a14 h14 => ?_
 refine sl_val h14 (wanted_yes h14 _ rfl rfl rfl ((by rw [hb1]; rfl))) (ex_load (by kernel_rfl) (h14.ev rfl) (S1.cell (i := 0) rfl rfl)) rfl rfl fun a15 h15 => ?_
 refine sl_val h15 (wanted_yes h15 _ rfl rfl rfl ((by rw [hb1]; rfl))) (ex_mul (h15.ev rfl) (h15.ev rfl) (by omega)) rfl rfl fun a16 h16 => ?_
 refine sl_val h16 (wanted_yes h16 _ rfl rfl rfl ((by rw [hb1]; rfl))) (ex_field (off := 1) (j := 1) (by kernel_rfl) (h16.ev rfl) rfl) rfl rfl fun a17 h17 => ?_
 refine sl_val h17 (wanted_yes h17 _ rfl rfl rfl ((by rw [hb1]; rfl))) (ex_load (by kernel_rfl) (h17.ev rfl) (S1.cell (i := 0) rfl rfl)) rfl rfl fun a18 h18 => ?_
 refine sl_val h18 (wanted_yes h18 _ rfl rfl rfl ((by rw [hb1]; rfl))) (ex_slen Tryz.underlying9 (h18.ev rfl)) rfl rfl fun a19 h19 => ?_
 refine sl_val h19 (wanted_yes h19 _ rfl rfl rfl ((by rw [hb1]; rfl))) (ex_add (h19.ev rfl) (h19.ev rfl) (by omega)) rfl rfl fun a20 h20 => ?_
 refine sl_val h20 (wanted_yes h20 _ rfl rfl rfl ((by rw [hb1]; rfl))) (ex_move (h20.ev rfl)) rfl rfl fun a21 h21 => ?_
 refine sl_val h21 (wanted_yes h21 _ rfl rfl rfl ((by rw [hb1]; rfl))) (ex_slen Tryz.underlying9 (h21.ev rfl)) rfl rfl fun a22 h22 => ?_
 refine sl_val h22 (wanted_yes h22 _ rfl rfl rfl ((by rw [hb1]; rfl))) (ex_leq (h22.ev rfl) (h22.ev rfl)) rfl rfl fun a23 h23 => ?_
 refine sv h23 (ex_pick_t (h23.ev rfl) ((by rw [hb1]; rfl)) (h23.ev rfl)) fun a24 h24 => ?_
 refine ma h24 rfl rfl fun a25 h25 => ?_
 refine st_nil (go_then (wp_ret ?_))
 refine fin1 h25 rfl rfl ?_
 refine ⟨?_, S1.below⟩
 rw [hb1, hb2, decide_eq_true (by show x.1 * 64 + 512 ≤ (D.length : Int); exact k3)]
theorem wfx_any (N : RngP) (hok : OkP N) (n : Int) (hh : hasR N.rs n = true) (A : Option Addr) (c : Nat) (w : World) (hr : Rd w w.heap.size A (recsV N.rs)) :
 Calls Tryz.prog 40 #[ringV N A c, .int .i64 n, .int .i64 0] w fun e w' => ∃ A' c', e = .returned (.tuple #[.slice A' (wfrL N n 0).length c', .int .i64 0]) ∧ w'.ownsRow w.heap.size 74 2 (.slice A' (wfrL N n 0).length c') (wfrL N n 0).length (wrsV (wfrL N n 0)) ∧ Below w.heap.size w w' := by
 have hz : wfrE N n 0 = 0 := by
  unfold wfrE
  rw [firstE_zero]
  intro e he
  simp only [List.mem_cons, List.not_mem_nil, or_false] at he
  rcases he with rfl | rfl | rfl
  · exact ok_iff.2 hok
  · rw [unl_zero (by decide), hh]
    have := has_bd hok hh
    simp; omega
  · rfl
 have h := WritesFrom_any N A c n 0 w hr (by have := hok.h.len; omega) fun x hx => by
  obtain ⟨k, hk, rfl⟩ := List.getElem_of_mem hx
  have := hok.rcd k hk
  have := hok.h.len
  exact ⟨by omega, by omega⟩
 rw [hz, if_pos rfl] at h
 exact h
theorem wfr_get (N : RngP) (n : Int) (k : Nat) (hk : k < (wfrL N n 0).length) : (wfrL N n 0)[k] = wrR N 0 ((n - 1) / 448 + (k : Int)) := by
 have h1 : (wfrL N n 0)[k]? = some (wrR N 0 ((n - 1) / 448 + (k : Int))) := by
  have hk2 := hk
  unfold wfrL at hk2 ⊢
  rw [wrK_length] at hk2
  unfold wrK
  rw [List.getElem?_map, List.getElem?_range hk2]; rfl
 rw [List.getElem?_eq_getElem hk] at h1
 injection h1
theorem wfCell {X : World} {B b o : Nat} {N : RngP} {n : Int} {P Q I k : Nat} (h : Rd X B (some ⟨b, o, none⟩) (wrsV (wfrL N n 0))) (hk : k < (wfrL N n 0).length) (hP : N.pg = P) (h4 : 4 ≤ P) (hQ : (n - 1) / 448 + (k : Int) = Q) (hI : I = 2 + Q % (P - 2)) :
 ∀ (j : Nat) (u : Value), [Value.int .i64 ((8 * I : Nat) : Int), .string (bs (pgR N Q))][j]? = some u → X.cell? ⟨b, o + k * 2 + j, none⟩ = some u := fun j u hu => by
 have h1 := wfr_get N n k hk
 rw [hQ] at h1
 unfold wrR at h1
 have e1 : (0 : Int) + 8 * (2 + (Q : Int) % (N.pg - 2)) = ((8 * I : Nat) : Int) := by
  rw [hP, show ((P : Int) - 2) = ((P - 2 : Nat) : Int) by omega, ← Int.natCast_emod, hI]; push_cast; omega
 rw [e1] at h1
 have hj : j < 2 := (List.getElem?_eq_some_iff.1 hu).1
 have hg : (wrsV (wfrL N n 0))[k * 2 + j]? = some u := by
  have h2 := wrsV_get (wfrL N n 0) k hk
  rw [← List.getElem?_drop]
  have h3 : (((wrsV (wfrL N n 0)).drop (k * 2)).take 2)[j]? = some u := by rw [h2, h1]; exact hu
  rwa [List.getElem?_take, if_pos hj] at h3
 obtain ⟨b', o', e, _, hc⟩ := h (k * 2 + j) u hg
 injection e with e
 injection e with e1 e2
 subst e1 e2
 rw [Nat.add_assoc]; exact hc
theorem appd_any (N : RngP) (hok : OkP N) (A : Option Addr) (c : Nat) (s : ByteArray) (w : World) (hr : Rd w w.heap.size A (recsV N.rs)) :
 Calls Tryz.prog 30 #[ringV N A c, .string s] w fun e w' => ∃ A' c', e = .returned (.tuple #[ringV (appR N s) A' c', .int .i64 (if appE N s = 0 then N.nx + 1 else 0), .int .i64 (appE N s)]) ∧ w'.ownsRow w.heap.size 98 3 (.slice A' (appR N s).rs.length c') (appR N s).rs.length (recsV (appR N s).rs) ∧ Below w.heap.size w w' := by
 have hz : (chkR N).2 = 0 := ok_iff.2 hok
 have h := Appended_any N A c s w hr (by have := hok.h.len; omega) fun x hx => by
  obtain ⟨k, hk, rfl⟩ := List.getElem_of_mem hx
  have := hok.rcd k hk
  have := hok.h.len
  exact ⟨by omega, by omega⟩
 simp only [hz, true_and, if_true] at h
 exact h
structure FlA where
 k : Nat
 N : RngP
 A : Option Addr
 c : Nat
 n : Int
structure FlAF (r : RngP) (m : Nat) (q : FlA) : Prop where
 k : q.k ≤ m
 a : App r q.N
 z : q.n = 0 → q.N = r
 e : q.N.rs.length = r.rs.length → q.N = r
 p : q.n ≠ 0 → q.n = r.nx + 1 ∧ r.rs.length < q.N.rs.length
structure FlI where
 s : List UInt8
 r : RngP
 A : Option Addr
 c : Nat
 b : Bool
theorem sec_bs (b : List UInt8) (k : Nat) : (bs b).extract (64 * k) (64 * k + 64) = bs (secL b k) := by rw [bs_ext]; unfold secL; rw [Nat.add_sub_cancel_left]
theorem wrsV_length (l : List (Int × List UInt8)) : (wrsV l).length = l.length * 2 := by
 induction l with
 | nil => rfl
 | cons x l ih => show (wrV x ++ wrsV l).length = _; rw [List.length_append, ih]; show 2 + l.length * 2 = (l.length + 1) * 2; omega
theorem rd_nil {X : World} {B : Nat} {A : Option Addr} : Rd X B A [] := fun j u hu => by simp at hu
set_option maxHeartbeats 4000000 in
theorem fails_any {s : List UInt8} {r : RngP} {P : Nat} {F : Nat → List (Int × List UInt8)} (h : LD s r P F) (A : Option Addr) (c : Nat) (xs : List ByteArray) (Ax : Option Addr) (cx : Nat) (fl : List Bool) (Af : Option Addr) (cf : Nat) (w : World)
 (hr : Rd w w.heap.size A (recsV r.rs)) (hx : Rd w w.heap.size Ax (xs.map fun s => Value.string s)) (hf : Rd w w.heap.size Af (fl.map fun s => Value.bool s)) (hxl : xs.length ≤ 6) :
 Calls Tryz.prog 47 #[.string (bs s), ringV r A c, failV xs.length Ax cx fl.length Af cf] w fun e w' => ∃ p : FlI, e = .returned (.tuple #[.string (bs p.s), ringV p.r p.A p.c, .bool true, .bool p.b]) ∧ (p.b = true → FailP s r P p.s p.r) ∧
  w'.ownsRow w.heap.size 98 3 (if p.b then .slice p.A p.r.rs.length p.c else .slice none 0 0) (if p.b then p.r.rs.length else 0) (if p.b then recsV p.r.rs else []) ∧ Below w.heap.size w w' := by
 have hlen : r.rs.length ≤ 1000 := by have := h.ok.h.len; omega
 have hpg := h.dk.pgs
 have hsl := h.dk.len
 have hqa := h.qa
 have hnil : ∀ w' : World, w'.ownsRow w.heap.size 98 3 (.slice none 0 0) 0 [] := fun w' => ⟨rfl, .inl ⟨rfl, rfl⟩⟩
 refine st_enter (N := 203) Tryz.func47 rfl rfl rfl (fun a0 h0 => ?_)
 have S0 := St.init w
 refine st_seq (st_reg ?_)
 refine nb h0 rfl rfl S0 fun b4 a1 X1 gb4 h1 S1 => ?_
 refine nb h1 rfl rfl S1 fun b5 a2 X2 gb5 h2 S2 => ?_
 refine ma h2 rfl rfl fun a3 h3 => ?_
 refine na (.agg #[.int .i64 0, .int .i64 0, .int .i64 0, .int .i64 0, .int .i64 0, .int .i64 0, .int .i64 0, .slice none 0 0, .int .i64 0]) h3 rfl S2 fun b7 a4 X4 gb7 h4 S4 => ?_
 refine ma h4 rfl rfl fun a5 h5 => ?_
 refine ma h5 rfl rfl fun a6 h6 => ?_
 refine nsr ?_
 refine sv (v := ringV r A c) h6 (ex_loads (by kernel_rfl) (by kernel_rfl) (h6.ev rfl) (S4.cellsAll (i := 2) rfl)) fun a7 h7 => ?_
 refine sl_ownt h7 (wn rfl) (ex_call (fun _ _ => by kernel_rfl) (h7.evs rfl) rfl) rfl rfl S4 (rCopy_any r A c _ (S4.rd0 hr) hlen) (Nat.le_refl _) fun A27 c27 a8 X8 h8 S8 => ?_
 refine na (.agg #[.int .i64 0, .int .i64 0, .int .i64 0, .int .i64 0, .int .i64 0, .int .i64 0, .int .i64 0, .slice none 0 0, .int .i64 0]) h8 rfl S8 fun b10 a9 X9 gb10 h9 S9 => ?_
 refine sl_store0 h9 (wn rfl) ⟨rfl, rfl⟩ (h9.ev rfl) (h9.ev rfl) rfl (by kernel_rfl) S9 (i := 0) rfl rfl rfl fun X10 S10 => ?_
 refine nsr ?_
 refine ma h9 rfl rfl fun a11 h11 => ?_
 refine st_nil (go_then (st_seq (st_seq (st_reg ?_))))
 refine ma h11 rfl rfl fun a12 h12 => ?_
 replace S10 := S10.front (i := 1) rfl
 refine st_nil (go_then (wp_block ?_))
 refine st_loop h12 S10 [10, 9, 8, 7, 6, 5, 4, 0] (fun (q : FlA) => [(12, .int .i64 (q.k : Nat)), (11, .int .i64 q.n)]) (fun (q : FlA) => FlAF r xs.length q) (fun q L => (Ent.row (.slice q.A q.N.rs.length q.c) q.N.rs.length 98 3 (recsV q.N.rs)) :: (Ent.box b10 #[.int .i64 q.N.pg, .int .i64 q.N.r.s, .int .i64 q.N.r.c, .int .i64 q.N.r.o, .int .i64 q.N.e.s, .int .i64 q.N.e.c, .int .i64 q.N.e.o, .slice q.A q.N.rs.length q.c, .int .i64 q.N.nx] 26) :: L.drop 2) (fun (q : FlA) => xs.length - q.k) (⟨0, r, A27, c27, 0⟩) (⟨Nat.zero_le _, App.self h.ok, fun _ => rfl, fun _ => rfl, fun h => absurd rfl h⟩) ⟨rfl, rfl, rfl, rfl, rfl, rfl, rfl, rfl, rfl, rfl, trivial⟩ (S10) ?_
 intro q a13 X13 hF0 h13 S13
 refine st_seq (st_seq (st_reg ?_))
 refine mv h13 rfl rfl fun a14 h14 => ?_
 refine vf h14 0 0 rfl rfl rfl fun a15 h15 => ?_
 refine vl h15 S13 3 rfl rfl rfl rfl fun a16 h16 => ?_
 refine sv h16 (ex_len Tryz.underlying80 (h16.ev rfl)) fun a17 h17 => ?_
 refine sv h17 (ex_lss (h17.ev rfl) (h17.ev rfl)) fun a18 h18 => ?_
 refine st_nil (go_then ?_)
 refine st_if (h18.ev rfl) (fun hc0 => ?_) (fun hc0 => ?_)
 ·
  have hlt : q.k < xs.length := by have := of_decide_eq_true hc0; omega
  obtain ⟨bx, ox, rfl, _⟩ := hx.opened (by rw [List.length_map]; omega)
  have hlq : q.N.rs.length ≤ 1000 := by have := hF0.a.ok.h.len; omega
  refine wp_skip (go_then (st_seq (wp_block (st_seq ?_))))
  apply dr_flowM h18 (fun _ => False) [] [(13, 26)] [false, true, false, false, false, false, false, true, true, true, true, true, true, true, true] _ (by kernel_rfl) all0
  case h =>
   refine qv (v := ringV q.N q.A q.c) h18 (fun X hX => ex_loads (by kernel_rfl) (by kernel_rfl) (h18.ev rfl) ((S13.grow (Grw.below hX)).cellsAll (i := 1) rfl)) fun a19 h19 => ?_
   refine qv h19 (fun X hX => ex_field (off := 0) (j := 0) (by kernel_rfl) (h19.ev rfl) rfl) fun a20 h20 => ?_
   refine qv h20 (fun X hX => ex_load (by kernel_rfl) (h20.ev rfl) ((S13.grow (Grw.below hX)).cell (i := 3) rfl rfl)) fun a21 h21 => ?_
   refine qv h21 (fun X hX => ex_move (h21.ev rfl)) fun a22 h22 => ?_
   refine qv h22 (fun X hX => ex_index (i := q.k) (sz := 1) Tryz.underlying80 (by kernel_rfl) (h22.ev rfl) (h22.ev rfl) (by omega) (by omega) rfl) fun a23 h23 => ?_
   refine qv h23 (fun X hX => ex_load (by kernel_rfl) (h23.ev rfl) ((strAt ((S13.grow (Grw.below hX)).rd0 hx) hlt) 0 _ rfl)) fun a24 h24 => ?_
   refine sq_nil ?_
   apply nm_step (O := (fun _ => False)) (k := 1) (deps := []) (R := RowU _ _ _ _ _ _) h24 rfl rfl rfl all0 RowU.stable all0 ?h3
   case hx => exact fun X hX hΦ => lv_ownt (ex_call (fun _ _ => by kernel_rfl) (h24.evs rfl) rfl) (rCopy_any q.N q.A q.c _ ((S13.grow (Grw.below hX)).rdOf (i := 0) rfl) hlq) hX.size
   case h3 => exact all1 (RowU.newT (by decide))
   intro v37 a25 h25
   apply nm_step (O := (fun _ => False)) (k := 7) (deps := [1]) (R := RowU _ _ _ _ _ _) h25 rfl rfl rfl all0 RowU.stable all0 ?h3
   case hx =>
    intro X hX hΦ
    obtain ⟨A37, c37, rfl, q37⟩ := (told_get (k := 1) hΦ rfl rfl)
    exact lv_ownt (ex_call (fun _ _ => by kernel_rfl) (h25.evs rfl) rfl) (appd_any q.N hF0.a.ok A37 c37 xs[q.k] _ (Rd.of_own q37)) hX.size
   case h3 => exact all1 (RowU.newT (by decide))
   intro v43 a26 h26
   apply nm_mov (k := 8) (deps := [1, 7]) (kx := 7) (src := 43) h26 rfl (.inl rfl) rfl rfl ⟨rfl, rfl⟩ rfl
   intro v35 a27 h27
   apply nm_ext (k := 9) (deps := [1, 7, 8]) (kx := 8) (src := 35) (i := 0) h27 rfl rfl rfl rfl ⟨rfl, rfl⟩ rfl
   case hx =>
    intro X hΦ
    obtain ⟨_, _, e1, _⟩ := (told_get (k := 7) hΦ rfl rfl)
    exact ⟨_, _, ((MovS.get h26 rfl (told_get (k := 8) hΦ rfl rfl)).trans e1), rfl⟩
   intro v44 a28 h28
   apply nm_ext (k := 10) (deps := [1, 7, 8]) (kx := 8) (src := 35) (i := 1) h28 rfl rfl rfl rfl ⟨rfl, rfl⟩ rfl
   case hx =>
    intro X hΦ
    obtain ⟨_, _, e1, _⟩ := (told_get (k := 7) hΦ rfl rfl)
    exact ⟨_, _, ((MovS.get h26 rfl (told_get (k := 8) hΦ rfl rfl)).trans e1), rfl⟩
   intro v45 a29 h29
   apply nm_ext (k := 11) (deps := [1, 7, 8]) (kx := 8) (src := 35) (i := 2) h29 rfl rfl rfl rfl ⟨rfl, rfl⟩ rfl
   case hx =>
    intro X hΦ
    obtain ⟨_, _, e1, _⟩ := (told_get (k := 7) hΦ rfl rfl)
    exact ⟨_, _, ((MovS.get h26 rfl (told_get (k := 8) hΦ rfl rfl)).trans e1), rfl⟩
   intro v46 a30 h30
   apply nm_step (O := (fun _ => False)) (k := 12) (deps := []) (R := NewAny _ 9 _) h30 rfl rfl rfl all0 NewAny.stable all0 (all1 NewAny.newT)
   case hx => exact fun X hX hΦ => lv_any (ex_alloc (z := .agg #[.int .i64 0, .int .i64 0, .int .i64 0, .int .i64 0, .int .i64 0, .int .i64 0, .int .i64 0, .slice none 0 0, .int .i64 0]) (by kernel_rfl)) hX.size rfl
   intro v13 a31 h31
   apply nm_store (k := 13) (deps := [1, 7, 8, 9, 12]) (kx := 12) (x := 13) (y := 44) (Y := slotY 44) h31 rfl ⟨rfl, rfl⟩ rfl all0 ⟨rfl, rfl⟩ (h31.slot 44 _ rfl) (slotY_dep (ky := 9) ⟨rfl, rfl⟩) rfl rfl (n := 9) (by kernel_rfl) all0
   case hx =>
    intro X hX hΦ
    obtain ⟨_, _, e1, _⟩ := (told_get (k := 7) hΦ rfl rfl)
    subst e1
    obtain rfl := MovS.get h26 rfl (told_get (k := 8) hΦ rfl rfl)
    obtain rfl := ExtS.get h27 rfl rfl (told_get (k := 9) hΦ rfl rfl)
    exact ⟨(told_get (k := 12) hΦ rfl rfl), rfl, rfl⟩
   intro vs13
   apply nm_mov (k := 14) (deps := [1, 7, 8, 10]) (kx := 10) (src := 45) h31 rfl (.inr rfl) rfl rfl ⟨rfl, rfl⟩ rfl
   intro v14 a32 h32
   refine nm_end (O := (fun _ => False)) all0 fun X33 hX33 hΦ33 => ?_
   obtain ⟨A37, c37, rfl, qr37⟩ := told_all hΦ33 (k := 1) rfl
   obtain ⟨A43, c43, rfl, qr43⟩ := told_all hΦ33 (k := 7) rfl
   obtain rfl := MovS.get h26 rfl (told_all hΦ33 (k := 8) rfl)
   obtain rfl := ExtS.get h27 rfl rfl (told_all hΦ33 (k := 9) rfl)
   obtain rfl := ExtS.get h28 rfl rfl (told_all hΦ33 (k := 10) rfl)
   obtain rfl := ExtS.get h29 rfl rfl (told_all hΦ33 (k := 11) rfl)
   obtain ⟨b13, rfl, gb13, qb13⟩ := StoY.slot (v := vs13) h31 rfl rfl (told_all hΦ33 (k := 13) rfl)
   obtain rfl := MovS.get h31 rfl (told_all hΦ33 (k := 14) rfl)
   have S33 := S13.newBoxRow (Grw.below hX33) qb13 gb13 qr43 (by decide)
   refine ma h32 rfl rfl fun a34 h34 => ?_
   refine st_nil (go_then (st_seq (st_seq (st_reg ?_))))
   refine mv h34 rfl rfl fun a35 h35 => ?_
   refine sv h35 (ex_neq (h35.ev rfl) (h35.ev rfl)) fun a36 h36 => ?_
   refine st_nil (go_then ?_)
   refine st_if (h36.ev rfl) (fun hc1 => ?_) (fun hc1 => ?_)
   ·
    have hne : appE q.N xs[q.k] ≠ 0 := by simpa using hc1
    refine wp_exit ?_
    refine go_exit_then ?_
    refine go_exit ?_
    refine go_then (st_reg ?_)
    refine mv h36 rfl rfl fun a37 h37 => ?_
    refine sv h37 (ex_add (h37.ev rfl) (h37.ev rfl) (by omega)) fun a38 h38 => ?_
    refine ma h38 rfl rfl fun a39 h39 => ?_
    refine st_nil (go_then ?_)
    exact ⟨⟨q.k + 1, q.N, q.A, q.c, q.n⟩, (by show _ - (q.k + 1) < _; omega), ⟨by show q.k + 1 ≤ _; omega, hF0.a, hF0.z, hF0.e, hF0.p⟩, h39.re ⟨rfl, rfl, rfl, rfl, rfl, rfl, rfl, rfl, rfl, rfl, trivial⟩, S33.sub (.cons _ (.cons _ (.cons_cons _ (.cons_cons _ (.cons_cons _ (.cons_cons _ (.cons_cons _ .slnil)))))))⟩
   ·
    have hz : appE q.N xs[q.k] = 0 := by simpa using hc1
    have hV : appR q.N xs[q.k] = appV q.N xs[q.k] := by unfold appR; rw [if_pos hz]
    rw [hV] at S33
    have hS := hF0.a.snoc h.cl hF0.e hz
    have hFN : ∀ n2, n2 = r.nx + 1 ∧ r.rs.length < (appV q.N xs[q.k]).rs.length → FlAF r xs.length ⟨q.k + 1, appV q.N xs[q.k], A43, c43, n2⟩ := fun n2 hn2 => by
     refine ⟨by show q.k + 1 ≤ _; omega, hS.1, fun hq => ?_, fun hq => ?_, fun _ => hn2⟩
     · exfalso
       have hq : n2 = 0 := hq
       have := h.ok.h.nx
       omega
     · exfalso
       have hq : (appV q.N xs[q.k]).rs.length = r.rs.length := hq
       omega
    have hpl1 := hF0.a.pre.length_le
    refine wp_skip (go_then (st_seq (st_seq (st_reg ?_))))
    refine mv h36 rfl rfl fun a40 h40 => ?_
    refine sv h40 (ex_eql (h40.ev rfl) (h40.ev rfl)) fun a41 h41 => ?_
    refine st_nil (go_then ?_)
    refine st_if (h41.ev rfl) (fun hc2 => ?_) (fun hc2 => ?_)
    ·
     have hz2 : q.n = 0 := by simpa using hc2
     refine st_reg ?_
     refine sv h41 (as_val (v' := .int .i64 (q.N.nx + 1)) (congrArg _ (if_pos hz)) (ex_move (h41.ev rfl))) fun a42 h42 => ?_
     refine ma h42 rfl rfl fun a43 h43 => ?_
     refine st_nil (go_then (st_reg ?_))
     refine sv (v := ringV (appV q.N xs[q.k]) A43 c43) h43 (ex_loads (by kernel_rfl) (by kernel_rfl) (h43.ev rfl) (S33.cellsAll (i := 0) rfl)) fun a44 h44 => ?_
     refine sl_store0 h44 (wn rfl) ⟨rfl, rfl⟩ (h44.ev rfl) (h44.ev rfl) rfl (by kernel_rfl) S33 (i := 3) rfl rfl rfl fun X45 S45 => ?_
     refine st_nil (go_block (go_then (st_reg ?_)))
     refine mv h44 rfl rfl fun a46 h46 => ?_
     refine sv h46 (ex_add (h46.ev rfl) (h46.ev rfl) (by omega)) fun a47 h47 => ?_
     refine ma h47 rfl rfl fun a48 h48 => ?_
     refine st_nil (go_then ?_)
     exact ⟨⟨q.k + 1, appV q.N xs[q.k], A43, c43, q.N.nx + 1⟩, (by show _ - (q.k + 1) < _; omega), (hFN _ ⟨by rw [hF0.z hz2], by omega⟩), h48.re ⟨rfl, rfl, rfl, rfl, rfl, rfl, rfl, rfl, rfl, rfl, trivial⟩, (S45.sub (.cons _ (.cons_cons _ (.cons _ (.cons_cons _ (.cons_cons _ (.cons_cons _ (.cons_cons _ .slnil))))))))⟩
    ·
     have hz2 : q.n ≠ 0 := by simpa using hc2
     refine wp_skip (go_then (st_reg ?_))
     refine sv (v := ringV (appV q.N xs[q.k]) A43 c43) h41 (ex_loads (by kernel_rfl) (by kernel_rfl) (h41.ev rfl) (S33.cellsAll (i := 0) rfl)) fun a49 h49 => ?_
     refine sl_store0 h49 (wn rfl) ⟨rfl, rfl⟩ (h49.ev rfl) (h49.ev rfl) rfl (by kernel_rfl) S33 (i := 3) rfl rfl rfl fun X50 S50 => ?_
     refine st_nil (go_block (go_then (st_reg ?_)))
     refine mv h49 rfl rfl fun a51 h51 => ?_
     refine sv h51 (ex_add (h51.ev rfl) (h51.ev rfl) (by omega)) fun a52 h52 => ?_
     refine ma h52 rfl rfl fun a53 h53 => ?_
     refine st_nil (go_then ?_)
     exact ⟨⟨q.k + 1, appV q.N xs[q.k], A43, c43, q.n⟩, (by show _ - (q.k + 1) < _; omega), (hFN _ ⟨(hF0.p hz2).1, by omega⟩), h53.re ⟨rfl, rfl, rfl, rfl, rfl, rfl, rfl, rfl, rfl, rfl, trivial⟩, (S50.sub (.cons _ (.cons_cons _ (.cons _ (.cons_cons _ (.cons_cons _ (.cons_cons _ (.cons_cons _ .slnil))))))))⟩
  case hB => kernel_rfl
 ·
  have hge : q.k = xs.length := by have := of_decide_eq_false hc0; have := hF0.k; omega
  refine wp_exit ?_
  refine go_exit_then ?_
  refine go_exit_then ?_
  refine go_exit ?_
  refine go_then (st_seq (st_seq (st_reg ?_)))
  refine mv h18 rfl rfl fun a54 h54 => ?_
  refine sv h54 (ex_eql (h54.ev rfl) (h54.ev rfl)) fun a55 h55 => ?_
  refine st_nil (go_then ?_)
  refine st_if (h55.ev rfl) (fun hc3 => ?_) (fun hc3 => ?_)
  ·
   refine st_seq ?_
   apply dr_flow h55 [false, false, false] _ (by kernel_rfl)
   case h =>
    refine qv h55 (fun X hX => ex_move (h55.ev rfl)) fun a56 h56 => ?_
    refine qv (v := ringV r A c) h56 (fun X hX => ex_loads (by kernel_rfl) (by kernel_rfl) (h56.ev rfl) ((S13.grow hX).cellsAll (i := 4) rfl)) fun a57 h57 => ?_
    refine qv h57 (fun X hX => ex_assign (h57.ev rfl)) fun a58 h58 => ?_
    refine sq_nil ?_
    refine nd_end fun X59 hX59 hΦ59 => ?_
    have S59 := S13.grow hX59
    refine sl_store0 h58 (wn rfl) ⟨rfl, rfl⟩ (h58.ev rfl) (h58.ev rfl) rfl (by kernel_rfl) S59 (i := 2) rfl rfl rfl fun X60 S60 => ?_
    refine ma h58 rfl rfl fun a61 h61 => ?_
    refine ma h61 rfl rfl fun a62 h62 => ?_
    refine st_nil (go_then (wp_ret (ret_then ?_)))
    refine fintctt h62 rfl rfl rfl rfl rfl S60 (i := 2) rfl (by kernel_rfl) (by kernel_rfl) ?_
    exact ⟨⟨s, r, A, c, false⟩, rfl, fun h => (by cases h), hnil _, S60.below⟩
   case hB => kernel_rfl
   case hst => rfl
  ·
   have hn : q.n ≠ 0 := by simpa using hc3
   have hq27 := S13.rdOf (i := 0) rfl
   obtain ⟨qk, N, qA, qc, n⟩ := q
   simp only at hq27 hn hge h55 S13
   have hF0k := hF0.k
   have hF0a : App r N := hF0.a
   have hF0p : n ≠ 0 → n = r.nx + 1 ∧ r.rs.length < N.rs.length := hF0.p
   obtain ⟨b2_, o2_, rfl, _⟩ := hq27.opened (by rw [recsV_length]; have := (hF0p hn).2; omega)
   have hok := hF0a.ok
   have hNl : N.rs.length ≤ 1000 := by have := hok.h.len; omega
   obtain ⟨hn1, hn2⟩ := hF0p hn
   have hfst := hF0a.fst hn2
   have hh : hasR N.rs n = true := hasR_iff.2 ⟨r.rs.length, hn2, by rw [hfst, hn1]⟩
   have hNP : N.pg = P := hF0a.pg.trans h.hP
   have hq0 : (n - 1) / 448 = ((r.nx / 448).toNat : Int) := by rw [hn1]; omega
   have hend : (wfrL N n 0).length = endQ N - (r.nx / 448).toNat := by
    unfold wfrL
    rw [wrK_length, hq0]
    have := hok.rooms_pos
    have := (rooms_bd hok).1
    unfold endQ; omega
   have hqb := h.qb hF0a
   refine wp_skip (go_then (st_seq (st_reg ?_)))
   refine sv (v := ringV N (some ⟨b2_, o2_, none⟩) qc) h55 (ex_loads (by kernel_rfl) (by kernel_rfl) (h55.ev rfl) (S13.cellsAll (i := 1) rfl)) fun a63 h63 => ?_
   refine sl_ownt h63 (wn rfl) (ex_call (fun _ _ => by kernel_rfl) (h63.evs rfl) rfl) rfl rfl S13 (rCopy_any N (some ⟨b2_, o2_, none⟩) qc _ (S13.rdOf (i := 0) rfl) hNl) (Nat.le_refl _) fun A59 c59 a64 X64 h64 S64 => ?_
   refine mv h64 rfl rfl fun a65 h65 => ?_
   refine sl_ownt h65 (wn rfl) (ex_call (fun _ _ => by kernel_rfl) (h65.evs rfl) rfl) rfl rfl S64 (wfx_any N hok n hh A59 c59 _ (S64.rdOf (i := 0) rfl)) (Nat.le_refl _) fun A61 c61 a66 X66 h66 S66 => ?_
   refine mv h66 rfl rfl fun a67 h67 => ?_
   refine vx h67 rfl rfl rfl fun a68 h68 => ?_
   refine vx h68 rfl rfl rfl fun a69 h69 => ?_
   refine ma h69 rfl rfl fun a70 h70 => ?_
   refine ma h70 rfl rfl fun a71 h71 => ?_
   refine st_nil (go_then (st_seq (st_seq (st_reg ?_))))
   refine mv h71 rfl rfl fun a72 h72 => ?_
   refine sv h72 (ex_neq (h72.ev rfl) (h72.ev rfl)) fun a73 h73 => ?_
   refine st_nil (go_then ?_)
   refine st_if_f (h73.ev rfl) (rfl) ?_
   refine wp_skip (go_then (st_seq (st_reg ?_)))
   refine ma h73 rfl rfl fun a74 h74 => ?_
   refine st_nil (go_then (st_seq (st_seq (st_reg ?_))))
   refine ma h74 rfl rfl fun a75 h75 => ?_
   refine st_nil (go_then (wp_block ?_))
   refine st_loop h75 S66 [16, 10, 7, 5, 4] (fun (v : Nat × List UInt8) => [(19, .int .i64 (v.1 : Nat)), (0, .string (bs v.2)), (18, .int .i64 ((8 * v.1 : Nat) : Int))]) (fun (v : Nat × List UInt8) => v.1 ≤ (wfrL N n 0).length ∧ Ovr s v.2 P (fun q' => pgR N q') (r.nx / 448).toNat (endQ N)) (fun (v : Nat × List UInt8) L => L) (fun (v : Nat × List UInt8) => (wfrL N n 0).length - v.1) ((0, s)) (⟨Nat.zero_le _, Ovr.refl _ _ _ _ _⟩) ⟨rfl, rfl, rfl, rfl, rfl, rfl, rfl, rfl, trivial⟩ (S66) ?_
   intro v a76 X76 hF1 h76 S76
   refine st_seq (st_seq (st_reg ?_))
   refine mv h76 rfl rfl fun a77 h77 => ?_
   refine mv h77 rfl rfl fun a78 h78 => ?_
   refine sv h78 (ex_len Tryz.underlying70 (h78.ev rfl)) fun a79 h79 => ?_
   refine sv h79 (ex_lss (h79.ev rfl) (h79.ev rfl)) fun a80 h80 => ?_
   refine st_nil (go_then ?_)
   refine st_if (h80.ev rfl) (fun hc5 => ?_) (fun hc5 => ?_)
   ·
    have hlt1 : v.1 < (wfrL N n 0).length := by have := of_decide_eq_true hc5; omega
    obtain ⟨bw, ow, rfl, _⟩ := (S76.rdOf (i := 0) rfl).opened (by rw [wrsV_length]; omega)
    obtain ⟨Q, hQ⟩ : ∃ Q, Q = (r.nx / 448).toNat + v.1 := ⟨_, rfl⟩
    have hQe : Q < endQ N := by omega
    obtain ⟨I, hI⟩ : ∃ I, I = 2 + Q % (P - 2) := ⟨_, rfl⟩
    have hIP : I < P := by rw [hI]; exact room_lt hpg.1
    have hQi : (n - 1) / 448 + (v.1 : Int) = Q := by omega
    have hpl := pgR_length N (Q : Int) hok
    have hbsz : (bs (pgR N (Q : Int))).size = 512 := by rw [bs_size, hpl]
    have hvl : v.2.length = 512 * P := by rw [hF1.2.len, hsl]
    refine wp_skip (go_then (st_seq (wp_block (st_seq (st_seq (st_reg ?_))))))
    refine mv h80 rfl rfl fun a81 h81 => ?_
    refine mv h81 rfl rfl fun a82 h82 => ?_
    refine mv h82 rfl rfl fun a83 h83 => ?_
    refine sv h83 (ex_index (i := v.1) (sz := 2) Tryz.underlying70 (by kernel_rfl) (h83.ev rfl) (h83.ev rfl) (by omega) (by omega) rfl) fun a84 h84 => ?_
    refine sv (v := .agg (wrV (((8 * I : Nat) : Int), pgR N (Q : Int))).toArray) h84 (ex_loads (by kernel_rfl) (by kernel_rfl) (h84.ev rfl) (wfCell (S76.rdOf (i := 0) rfl) hlt1 hNP hpg.1 hQi hI)) fun a85 h85 => ?_
    refine sl_bel h85 (wn rfl) (ex_call (fun _ _ => by kernel_rfl) (h85.evs rfl) rfl) rfl rfl S76 (onDisk_any v.2 (((8 * I : Nat) : Int), pgR N (Q : Int)) _ (by show (0 : Int) ≤ ((8 * I : Nat) : Int) ∧ ((8 * I : Nat) : Int) ≤ 2000; omega) hpl (by show ((8 * I : Nat) : Int) * 64 + 512 ≤ _; omega)) fun a86 X86 h86 S86 => ?_
    refine sv h86 (ex_not (h86.ev rfl)) fun a87 h87 => ?_
    refine st_nil (go_then ?_)
    refine st_if_f (h87.ev rfl) (rfl) ?_
    refine wp_skip (go_then (st_seq (st_reg ?_)))
    refine ma h87 rfl rfl fun a88 h88 => ?_
    refine st_nil (go_then (wp_block ?_))
    refine st_loop h88 S86 [80, 79, 78, 77, 76, 75, 74, 71, 70, 69, 68, 19, 16, 10, 7, 5, 4] (fun (u : Nat × List UInt8) => [(20, .int .i64 ((64 * u.1 : Nat) : Int)), (0, .string (bs u.2)), (18, .int .i64 ((8 * v.1 + u.1 : Nat) : Int))]) (fun (u : Nat × List UInt8) => u.1 ≤ 8 ∧ Ovr s u.2 P (fun q' => pgR N q') (r.nx / 448).toNat (endQ N)) (fun (u : Nat × List UInt8) L => L) (fun (u : Nat × List UInt8) => 8 - u.1) ((0, v.2)) (⟨Nat.zero_le _, hF1.2⟩) ⟨rfl, rfl, rfl, rfl, rfl, rfl, rfl, rfl, rfl, rfl, rfl, rfl, rfl, rfl, rfl, rfl, rfl, rfl, rfl, rfl, trivial⟩ (S86) ?_
    intro u a89 X89 hF2 h89 S89
    refine st_seq (st_seq (st_reg ?_))
    refine mv h89 rfl rfl fun a90 h90 => ?_
    refine mv h90 rfl rfl fun a91 h91 => ?_
    refine mv h91 rfl rfl fun a92 h92 => ?_
    refine sv h92 (ex_index (i := v.1) (sz := 2) Tryz.underlying70 (by kernel_rfl) (h92.ev rfl) (h92.ev rfl) (by omega) (by omega) rfl) fun a93 h93 => ?_
    refine sv h93 (ex_field (off := 1) (by kernel_rfl) (h93.ev rfl) rfl) fun a94 h94 => ?_
    refine sv h94 (ex_load (by kernel_rfl) (h94.ev rfl) ((wfCell (S89.rdOf (i := 0) rfl) hlt1 hNP hpg.1 hQi hI) 1 _ rfl)) fun a95 h95 => ?_
    refine sv h95 (ex_slen Tryz.underlying9 (h95.ev rfl)) fun a96 h96 => ?_
    refine sv h96 (ex_lss (h96.ev rfl) (h96.ev rfl)) fun a97 h97 => ?_
    refine st_nil (go_then ?_)
    refine st_if (h97.ev rfl) (fun hc7 => ?_) (fun hc7 => ?_)
    ·
     have hj : u.1 < 8 := by have := of_decide_eq_true hc7; rw [hbsz] at this; omega
     have hul : u.2.length = 512 * P := by rw [hF2.2.len, hsl]
     have hpat := hF2.2.patch hsl hpg.1 (q := Q) (k := u.1) (by omega) hQe hj hpl
     rw [← hI] at hpat
     have hscl := secL_length hpl hj
     have hp1 : u.2.length ≤ 1000000 := by omega
     have hp2 : 512 * I + 64 * u.1 + (secL (pgR N (Q : Int)) u.1).length ≤ u.2.length := by omega
     have hsl2 : 64 * u.1 + 64 ≤ (bs (pgR N (Q : Int))).size := by omega
     refine wp_skip (go_then (st_seq (wp_block (st_seq (st_seq (st_reg ?_))))))
     refine mv h97 rfl rfl fun a98 h98 => ?_
     refine vf h98 1 1 rfl rfl rfl fun a99 h99 => ?_
     refine vl h99 S89 5 rfl rfl rfl rfl fun a100 h100 => ?_
     refine sv h100 (ex_len Tryz.underlying81 (h100.ev rfl)) fun a101 h101 => ?_
     refine sv h101 (ex_lss (h101.ev rfl) (h101.ev rfl)) fun a102 h102 => ?_
     refine mv h102 rfl rfl fun a103 h103 => ?_
     apply sl_and (x := fl.getD (8 * v.1 + u.1) false) h103 S89 98 rfl 6 104
     case ht =>
      intro gc98
      have hcl : 8 * v.1 + u.1 < fl.length := by have := of_decide_eq_true gc98; omega
      obtain ⟨bf, of_, rfl, _⟩ := hf.opened (by rw [List.length_map]; omega)
      refine sy h103 rfl rfl rfl gc98 (ex_field (off := 1) (j := 1) (by kernel_rfl) (h103.ev rfl) rfl) rfl rfl fun a104 h104 => ?_
      refine sy h104 rfl rfl rfl gc98 (ex_load (by kernel_rfl) (h104.ev rfl) (S89.cell (i := 5) rfl rfl)) rfl rfl fun a105 h105 => ?_
      refine sy h105 rfl rfl rfl gc98 (ex_move (h105.ev rfl)) rfl rfl fun a106 h106 => ?_
      refine sy h106 rfl rfl rfl gc98 (ex_index (i := 8 * v.1 + u.1) (sz := 1) Tryz.underlying81 (by kernel_rfl) (h106.ev rfl) (h106.ev rfl) (by omega) (by omega) rfl) rfl rfl fun a107 h107 => ?_
      refine sy h107 rfl rfl rfl gc98 (as_val (v' := .bool (fl.getD (8 * v.1 + u.1) false)) (by rw [List.getD_eq_getElem?_getD, List.getElem?_eq_getElem hcl]; rfl) (ex_load (by kernel_rfl) (h107.ev rfl) ((boolAt (S89.rd0 hf) hcl) 0 _ rfl))) rfl rfl fun a108 h108 => ?_
      refine sv h108 (ex_pick_t (h108.ev rfl) gc98 (h108.ev rfl)) fun a109 h109 => ?_
      exact st_nil ⟨h109.mid (m := [(_, _), (_, _), (_, _), (_, _), (_, _)]) rfl, S89⟩
     case hf =>
      intro gc98
      refine no h103 rfl rfl rfl gc98 rfl rfl fun a110 h110 => ?_
      refine no h110 rfl rfl rfl gc98 rfl rfl fun a111 h111 => ?_
      refine no h111 rfl rfl rfl gc98 rfl rfl fun a112 h112 => ?_
      refine no h112 rfl rfl rfl gc98 rfl rfl fun a113 h113 => ?_
      refine no h113 rfl rfl rfl gc98 rfl rfl fun a114 h114 => ?_
      refine sv h114 (ex_pick_f (h114.ev rfl) gc98 (h114.ev rfl)) fun a115 h115 => ?_
      exact st_nil ⟨h115.mid (m := [(_, _), (_, _), (_, _), (_, _), (_, _)]) rfl, S89⟩
     case h =>
      rintro a116 X116 ⟨h116, S116⟩
      refine st_nil (go_then ?_)
      refine st_if (h116.ev rfl) (fun hc8 => ?_) (fun hc8 => ?_)
      ·
       apply dr_flow h116 [false, false, false, false, false, false, false, false, false, false, false, false, false, false, false, false, false, false] _ (by kernel_rfl)
       case h =>
        refine qv h116 (fun X hX => ex_move (h116.ev rfl)) fun a117 h117 => ?_
        refine qv h117 (fun X hX => ex_move (h117.ev rfl)) fun a118 h118 => ?_
        refine qv h118 (fun X hX => ex_move (h118.ev rfl)) fun a119 h119 => ?_
        refine qv h119 (fun X hX => ex_index (i := v.1) (sz := 2) Tryz.underlying70 (by kernel_rfl) (h119.ev rfl) (h119.ev rfl) (by omega) (by omega) rfl) fun a120 h120 => ?_
        refine qv h120 (fun X hX => ex_field (off := 0) (by kernel_rfl) (h120.ev rfl) rfl) fun a121 h121 => ?_
        refine qv h121 (fun X hX => ex_load (by kernel_rfl) (h121.ev rfl) ((wfCell ((S116.grow hX).rdOf (i := 0) rfl) hlt1 hNP hpg.1 hQi hI) 0 _ rfl)) fun a122 h122 => ?_
        refine qv h122 (fun X hX => ex_mul (h122.ev rfl) (h122.ev rfl) (by omega)) fun a123 h123 => ?_
        refine qv h123 (fun X hX => ex_move (h123.ev rfl)) fun a124 h124 => ?_
        refine qv h124 (fun X hX => as_val (v' := .int .i64 ((512 * I + 64 * u.1 : Nat) : Int)) (congrArg _ (by push_cast; omega)) (ex_add (h124.ev rfl) (h124.ev rfl) (by omega))) fun a125 h125 => ?_
        refine qv h125 (fun X hX => ex_move (h125.ev rfl)) fun a126 h126 => ?_
        refine qv h126 (fun X hX => ex_move (h126.ev rfl)) fun a127 h127 => ?_
        refine qv h127 (fun X hX => ex_index (i := v.1) (sz := 2) Tryz.underlying70 (by kernel_rfl) (h127.ev rfl) (h127.ev rfl) (by omega) (by omega) rfl) fun a128 h128 => ?_
        refine qv h128 (fun X hX => ex_field (off := 1) (by kernel_rfl) (h128.ev rfl) rfl) fun a129 h129 => ?_
        refine qv h129 (fun X hX => ex_load (by kernel_rfl) (h129.ev rfl) ((wfCell ((S116.grow hX).rdOf (i := 0) rfl) hlt1 hNP hpg.1 hQi hI) 1 _ rfl)) fun a130 h130 => ?_
        refine qv h130 (fun X hX => ex_move (h130.ev rfl)) fun a131 h131 => ?_
        refine qv h131 (fun X hX => ex_move (h131.ev rfl)) fun a132 h132 => ?_
        refine qv h132 (fun X hX => ex_add (h132.ev rfl) (h132.ev rfl) (by omega)) fun a133 h133 => ?_
        refine qv h133 (fun X hX => as_val (v' := .string (bs (secL (pgR N (Q : Int)) u.1))) (congrArg _ (sec_bs _ _)) (ex_sslice (l := 64 * u.1) (h := 64 * u.1 + 64) Tryz.underlying9 (h133.ev rfl) (h133.ev rfl) (h133.ev rfl) (Nat.le_add_right _ _) hsl2)) fun a134 h134 => ?_
        refine sq_nil ?_
        refine nd_end fun X135 hX135 hΦ135 => ?_
        have S135 := S116.grow hX135
        refine sl_bel h134 (wn rfl) (ex_call (fun _ _ => by kernel_rfl) (h134.evs rfl) rfl) rfl rfl S135 (Patch_l u.2 (secL (pgR N (Q : Int)) u.1) (512 * I + 64 * u.1) _ hp1 hp2) fun a136 X136 h136 S136 => ?_
        refine ma h136 rfl rfl fun a137 h137 => ?_
        refine st_nil (go_then (st_reg ?_))
        refine mv h137 rfl rfl fun a138 h138 => ?_
        refine sv h138 (ex_add (h138.ev rfl) (h138.ev rfl) (by omega)) fun a139 h139 => ?_
        refine ma h139 rfl rfl fun a140 h140 => ?_
        refine st_nil (go_block (go_then (st_reg ?_)))
        refine mv h140 rfl rfl fun a141 h141 => ?_
        refine sv h141 (ex_add (h141.ev rfl) (h141.ev rfl) (by omega)) fun a142 h142 => ?_
        refine ma h142 rfl rfl fun a143 h143 => ?_
        refine st_nil (go_then ?_)
        exact ⟨(u.1 + 1, patL u.2 (512 * I + 64 * u.1) (secL (pgR N (Q : Int)) u.1)), (by show 8 - (u.1 + 1) < _; omega), ⟨by show u.1 + 1 ≤ 8; omega, hpat⟩, h143.re ⟨rfl, rfl, rfl, rfl, rfl, rfl, rfl, rfl, rfl, rfl, rfl, rfl, rfl, rfl, rfl, rfl, rfl, rfl, rfl, rfl, trivial⟩, S136⟩
       case hB => kernel_rfl
       case hst => rfl
      ·
       refine wp_skip (go_then (st_reg ?_))
       refine mv h116 rfl rfl fun a144 h144 => ?_
       refine sv h144 (ex_add (h144.ev rfl) (h144.ev rfl) (by omega)) fun a145 h145 => ?_
       refine ma h145 rfl rfl fun a146 h146 => ?_
       refine st_nil (go_block (go_then (st_reg ?_)))
       refine mv h146 rfl rfl fun a147 h147 => ?_
       refine sv h147 (ex_add (h147.ev rfl) (h147.ev rfl) (by omega)) fun a148 h148 => ?_
       refine ma h148 rfl rfl fun a149 h149 => ?_
       refine st_nil (go_then ?_)
       exact ⟨(u.1 + 1, u.2), (by show 8 - (u.1 + 1) < _; omega), ⟨by show u.1 + 1 ≤ 8; omega, hF2.2⟩, h149.re ⟨rfl, rfl, rfl, rfl, rfl, rfl, rfl, rfl, rfl, rfl, rfl, rfl, rfl, rfl, rfl, rfl, rfl, rfl, rfl, rfl, trivial⟩, S116⟩
    ·
     have hj8 : u.1 = 8 := by have := of_decide_eq_false hc7; rw [hbsz] at this; have := hF2.1; omega
     rw [show ((8 * v.1 + u.1 : Nat) : Int) = ((8 * (v.1 + 1) : Nat) : Int) by omega] at h97
     refine wp_exit ?_
     refine go_exit_then ?_
     refine go_exit_then ?_
     refine go_exit ?_
     refine go_block (go_then (st_reg ?_))
     refine mv h97 rfl rfl fun a150 h150 => ?_
     refine sv h150 (ex_add (h150.ev rfl) (h150.ev rfl) (by omega)) fun a151 h151 => ?_
     refine ma h151 rfl rfl fun a152 h152 => ?_
     refine st_nil (go_then ?_)
     exact ⟨(v.1 + 1, u.2), (by show _ - (v.1 + 1) < _; omega), ⟨by show v.1 + 1 ≤ _; omega, hF2.2⟩, h152.re ⟨rfl, rfl, rfl, rfl, rfl, rfl, rfl, rfl, trivial⟩, S89⟩
   ·
    have hge1 : v.1 = (wfrL N n 0).length := by have := of_decide_eq_false hc5; have := hF1.1; omega
    refine wp_exit ?_
    refine go_exit_then ?_
    refine go_exit_then ?_
    refine go_exit ?_
    refine go_then (st_seq (st_reg ?_))
    refine mv h80 rfl rfl fun a153 h153 => ?_
    refine sl_ownt h153 (wn rfl) (ex_call (fun _ _ => by kernel_rfl) (h153.evs rfl) rfl) rfl rfl S76 (RingIn_l v.2 _ (by rw [hF1.2.len]; omega)) (Nat.le_refl _) fun A128 c128 a154 X154 h154 S154 => ?_
    refine mv h154 rfl rfl fun a155 h155 => ?_
    refine vx h155 rfl rfl rfl fun a156 h156 => ?_
    refine vx h156 rfl rfl rfl fun a157 h157 => ?_
    refine na (.agg #[.int .i64 0, .int .i64 0, .int .i64 0, .int .i64 0, .int .i64 0, .int .i64 0, .int .i64 0, .slice none 0 0, .int .i64 0]) h157 rfl S154 fun b21 a158 X158 gb21 h158 S158 => ?_
    refine sl_store0 h158 (wn rfl) ⟨rfl, rfl⟩ (h158.ev rfl) (h158.ev rfl) rfl (by kernel_rfl) S158 (i := 0) rfl rfl rfl fun X159 S159 => ?_
    refine ma h158 rfl rfl fun a160 h160 => ?_
    refine st_nil (go_then (st_seq (st_seq (st_reg ?_))))
    refine sv (v := ringV N (some ⟨b2_, o2_, none⟩) qc) h160 (ex_loads (by kernel_rfl) (by kernel_rfl) (h160.ev rfl) (S159.cellsAll (i := 5) rfl)) fun a161 h161 => ?_
    refine sl_ownt h161 (wn rfl) (ex_call (fun _ _ => by kernel_rfl) (h161.evs rfl) rfl) rfl rfl S159 (rClosed_any N (some ⟨b2_, o2_, none⟩) qc _ (S159.rdOf (i := 4) rfl) hNl (by have := hok.h.nx; omega)) (Nat.le_refl _) fun A133 c133 a162 X162 h162 S162 => ?_
    refine mv h162 rfl rfl fun a163 h163 => ?_
    refine vx h163 rfl rfl rfl fun a164 h164 => ?_
    refine vx h164 rfl rfl rfl fun a165 h165 => ?_
    refine na (.agg #[.int .i64 0, .int .i64 0, .int .i64 0, .int .i64 0, .int .i64 0, .int .i64 0, .int .i64 0, .slice none 0 0, .int .i64 0]) h165 rfl S162 fun b23 a166 X166 gb23 h166 S166 => ?_
    refine sl_store0 h166 (wn rfl) ⟨rfl, rfl⟩ (h166.ev rfl) (h166.ev rfl) rfl (by kernel_rfl) S166 (i := 0) rfl rfl rfl fun X167 S167 => ?_
    refine ma h166 rfl rfl fun a168 h168 => ?_
    have hLF := h.fails hF0a hF1.2
    refine nsr ?_
    refine mv h168 rfl rfl fun a169 h169 => ?_
    refine sv h169 (ex_eql (h169.ev rfl) (h169.ev rfl)) fun a170 h170 => ?_
    refine mv h170 rfl rfl fun a171 h171 => ?_
    apply sl_and h171 S167 138 rfl 3 141
    case ht =>
     intro gc138
     refine sy h171 rfl rfl rfl gc138 (ex_move (h171.ev rfl)) rfl rfl fun a172 h172 => ?_
     refine sy h172 rfl rfl rfl gc138 (ex_neq (h172.ev rfl) (h172.ev rfl)) rfl rfl fun a173 h173 => ?_
     refine sv h173 (ex_pick_t (h173.ev rfl) gc138 (h173.ev rfl)) fun a174 h174 => ?_
     exact st_nil ⟨h174.mid (m := [(_, _), (_, _)]) rfl, S167⟩
    case hf =>
     intro gc138
     refine no h171 rfl rfl rfl gc138 rfl rfl fun a175 h175 => ?_
     refine no h175 rfl rfl rfl gc138 rfl rfl fun a176 h176 => ?_
     refine sv h176 (ex_pick_f (h176.ev rfl) gc138 (h176.ev rfl)) fun a177 h177 => ?_
     exact st_nil ⟨h177.mid (m := [(_, _), (_, _)]) rfl, S167⟩
    case h =>
     rintro a178 X178 ⟨h178, S178⟩
     refine st_nil (go_then ?_)
     refine st_if (h178.ev rfl) (fun hc9 => ?_) (fun hc9 => ?_)
     ·
      have hc9' := hc9
      rw [Bool.and_eq_true, beq_iff_eq] at hc9'
      have hrng : inR v.2 = rng0 := by
       rcases hLF with h1 | h1
       · exact h1.2.2
       · exfalso
         have h2 : inE v.2 = 2 := hc9'.1
         omega
      refine st_seq ?_
      apply dr_flow h178 [false, false, false, false, false, false] _ (by kernel_rfl)
      case h =>
       refine qv h178 (fun X hX => ex_move (h178.ev rfl)) fun a179 h179 => ?_
       refine qv (v := ringV (inR v.2) A128 c128) h179 (fun X hX => ex_loads (by kernel_rfl) (by kernel_rfl) (h179.ev rfl) ((S178.grow hX).cellsAll (i := 2) rfl)) fun a180 h180 => ?_
       refine qv (v := ringV (inR v.2) A128 c128) h180 (fun X hX => ex_loads (by kernel_rfl) (by kernel_rfl) (h180.ev rfl) ((S178.grow hX).cellsAll (i := 2) rfl)) fun a181 h181 => ?_
       refine qv (v := ringV rng0 none 0) h181 (fun X hX => ex_build (zs := [.int .i64 0, .int .i64 0, .int .i64 0, .int .i64 0, .int .i64 0, .int .i64 0, .int .i64 0, .slice none 0 0, .int .i64 0]) (pl := [(0, 1), (1, 3), (4, 3), (7, 1), (8, 1)]) (by kernel_rfl) (by kernel_rfl) (h181.evs2 rfl) rfl rfl) fun a182 h182 => ?_
       refine sq_bel h182 (wn rfl) rfl rfl (fun X => (ex_call (fun _ _ => by kernel_rfl) (h182.evs rfl) rfl)) (fun X hX => rSame_any (inR v.2) rng0 A128 none c128 0 _ ((S178.grow hX).rdOf (i := 3) rfl) rd_nil (by rw [hrng]; exact Nat.zero_le _) (Nat.zero_le _)) fun a183 h183 => ?_
       refine qv h183 (fun X hX => ex_assign (h183.ev rfl)) fun a184 h184 => ?_
       refine sq_nil ?_
       refine nd_end fun X185 hX185 hΦ185 => ?_
       have S185 := S178.grow hX185
       refine sl_store0 h184 (wn rfl) ⟨rfl, rfl⟩ (h184.ev rfl) (h184.ev rfl) rfl (by kernel_rfl) S185 (i := 8) rfl rfl rfl fun X186 S186 => ?_
       refine ma h184 rfl rfl fun a187 h187 => ?_
       refine ma h187 rfl rfl fun a188 h188 => ?_
       refine st_nil (go_then (wp_ret (ret_then ?_)))
       refine fintctt h188 rfl rfl rfl rfl rfl S186 (i := 8) rfl (by kernel_rfl) (by kernel_rfl) ?_
       exact ⟨⟨v.2, inR v.2, A128, c128, false⟩, by rw [decide_eq_true hrng]; rfl, fun h => (by cases h), hnil _, S186.below⟩
      case hB => kernel_rfl
      case hst => rfl
     ·
      have hR : inE v.2 = 0 ∧ FailP s r P v.2 (inR v.2) ∧ r.rs.length ≤ (inR v.2).rs.length ∧ (inR v.2).rs.length ≤ N.rs.length ∧ (inR v.2).rs <+: N.rs := by
       rcases hLF with ⟨h1, h2, _⟩ | h1
       · exfalso
         rw [Bool.and_eq_false_iff] at hc9
         rcases hc9 with h3 | h3
         · rw [h1] at h3; cases h3
         · exact h2 (by simpa using h3)
       · exact h1
      obtain ⟨hE0, hFP, hle1, hle2, hpre⟩ := hR
      obtain ⟨hR1, hR2, _, hR3⟩ := hFP.rr
      have hRl : (inR v.2).rs.length ≤ 1000 := by have := hR3.h.len; omega
      have hR6 : ∀ x ∈ (inR v.2).rs, I6 x.l := ok_i6 (ok_iff.2 hR3)
      have hg156 : (!eqL [.int .i64 (inR v.2).r.s, .int .i64 (inR v.2).r.c, .int .i64 (inR v.2).r.o] [.int .i64 r.r.s, .int .i64 r.r.c, .int .i64 r.r.o]) = false := by rw [rst_eqL, decide_eq_true hR1]; rfl
      refine wp_skip (go_then (st_seq (st_seq (st_reg ?_))))
      refine mv h178 rfl rfl fun a189 h189 => ?_
      refine sv h189 (ex_neq (h189.ev rfl) (h189.ev rfl)) fun a190 h190 => ?_
      refine mv h190 rfl rfl fun a191 h191 => ?_
      refine sl_val h191 (wanted_yes h191 _ rfl rfl rfl ((by simp [hE0]))) (ex_field (off := 1) (j := 1) (by kernel_rfl) (h191.ev rfl) rfl) rfl rfl fun a192 h192 => ?_
      refine sl_val (v := rstV (inR v.2).r) h192 (wanted_yes h192 _ rfl rfl rfl ((by simp [hE0]))) (ex_loads (by kernel_rfl) (by kernel_rfl) (h192.ev rfl) (S178.cellsOf (i := 2) rfl 1 3)) rfl rfl fun a193 h193 => ?_
      refine sl_val h193 (wanted_yes h193 _ rfl rfl rfl ((by simp [hE0]))) (ex_field (off := 1) (j := 1) (by kernel_rfl) (h193.ev rfl) rfl) rfl rfl fun a194 h194 => ?_
      refine sl_val (v := rstV r.r) h194 (wanted_yes h194 _ rfl rfl rfl ((by simp [hE0]))) (ex_loads (by kernel_rfl) (by kernel_rfl) (h194.ev rfl) (S178.cellsOf (i := 10) rfl 1 3)) rfl rfl fun a195 h195 => ?_
      refine sl_val h195 (wanted_yes h195 _ rfl rfl rfl ((by simp [hE0]))) (ex_tneq (ks := [.i .i64, .i .i64, .i .i64]) (by kernel_rfl) Tryz.underlying23 (by kernel_rfl) (h195.ev rfl) (h195.ev rfl) rfl rfl) rfl rfl fun a196 h196 => ?_
      refine sv h196 (ex_pick_f (h196.ev rfl) ((by simp [hE0])) (h196.ev rfl)) fun a197 h197 => ?_
      refine mv h197 rfl rfl fun a198 h198 => ?_
      refine sl_val h198 (wanted_yes h198 _ rfl rfl rfl (hg156)) (ex_field (off := 7) (j := 7) (by kernel_rfl) (h198.ev rfl) rfl) rfl rfl fun a199 h199 => ?_
      refine sl_val h199 (wanted_yes h199 _ rfl rfl rfl (hg156)) (ex_load (by kernel_rfl) (h199.ev rfl) (S178.cell (i := 2) rfl rfl)) rfl rfl fun a200 h200 => ?_
      refine sl_val h200 (wanted_yes h200 _ rfl rfl rfl (hg156)) (ex_len Tryz.underlying24 (h200.ev rfl)) rfl rfl fun a201 h201 => ?_
      refine sl_val h201 (wanted_yes h201 _ rfl rfl rfl (hg156)) (ex_field (off := 7) (j := 7) (by kernel_rfl) (h201.ev rfl) rfl) rfl rfl fun a202 h202 => ?_
      refine sl_val h202 (wanted_yes h202 _ rfl rfl rfl (hg156)) (ex_load (by kernel_rfl) (h202.ev rfl) (S178.cell (i := 10) rfl rfl)) rfl rfl fun a203 h203 => ?_
      refine sl_val h203 (wanted_yes h203 _ rfl rfl rfl (hg156)) (ex_len Tryz.underlying24 (h203.ev rfl)) rfl rfl fun a204 h204 => ?_
      refine sl_val h204 (wanted_yes h204 _ rfl rfl rfl (hg156)) (ex_lss (h204.ev rfl) (h204.ev rfl)) rfl rfl fun a205 h205 => ?_
      refine sv h205 (ex_pick_f (h205.ev rfl) (hg156) (h205.ev rfl)) fun a206 h206 => ?_
      refine mv h206 rfl rfl fun a207 h207 => ?_
      refine sl_val h207 (wanted_yes h207 _ rfl rfl rfl ((decide_eq_false (by omega)))) (ex_field (off := 7) (j := 7) (by kernel_rfl) (h207.ev rfl) rfl) rfl rfl fun a208 h208 => ?_
      refine sl_val h208 (wanted_yes h208 _ rfl rfl rfl ((decide_eq_false (by omega)))) (ex_load (by kernel_rfl) (h208.ev rfl) (S178.cell (i := 2) rfl rfl)) rfl rfl fun a209 h209 => ?_
      refine sl_val h209 (wanted_yes h209 _ rfl rfl rfl ((decide_eq_false (by omega)))) (ex_len Tryz.underlying24 (h209.ev rfl)) rfl rfl fun a210 h210 => ?_
      refine sl_val h210 (wanted_yes h210 _ rfl rfl rfl ((decide_eq_false (by omega)))) (ex_field (off := 7) (j := 7) (by kernel_rfl) (h210.ev rfl) rfl) rfl rfl fun a211 h211 => ?_
      refine sl_val h211 (wanted_yes h211 _ rfl rfl rfl ((decide_eq_false (by omega)))) (ex_load (by kernel_rfl) (h211.ev rfl) (S178.cell (i := 7) rfl rfl)) rfl rfl fun a212 h212 => ?_
      refine sl_val h212 (wanted_yes h212 _ rfl rfl rfl ((decide_eq_false (by omega)))) (ex_len Tryz.underlying24 (h212.ev rfl)) rfl rfl fun a213 h213 => ?_
      refine sl_val h213 (wanted_yes h213 _ rfl rfl rfl ((decide_eq_false (by omega)))) (ex_gtr (h213.ev rfl) (h213.ev rfl)) rfl rfl fun a214 h214 => ?_
      refine sv h214 (ex_pick_f (h214.ev rfl) ((decide_eq_false (by omega))) (h214.ev rfl)) fun a215 h215 => ?_
      refine mv h215 rfl rfl fun a216 h216 => ?_
      refine sl_val (v := ringV (inR v.2) A128 c128) h216 (wanted_yes h216 _ rfl rfl rfl ((decide_eq_false (by omega)))) (ex_loads (by kernel_rfl) (by kernel_rfl) (h216.ev rfl) (S178.cellsAll (i := 2) rfl)) rfl rfl fun a217 h217 => ?_
      refine sl_bel h217 (wanted_yes h217 _ rfl rfl rfl ((decide_eq_false (by omega)))) (ex_call (fun _ _ => by kernel_rfl) (h217.evs rfl) rfl) rfl rfl S178 (rRingErr_any (inR v.2) A128 c128 _ (S178.rdOf (i := 3) rfl) hRl hR6) fun a218 X218 h218 S218 => ?_
      refine sl_val h218 (wanted_yes h218 _ rfl rfl rfl ((decide_eq_false (by omega)))) (ex_neq (h218.ev rfl) (h218.ev rfl)) rfl rfl fun a219 h219 => ?_
      refine sv h219 (ex_pick_f (h219.ev rfl) ((decide_eq_false (by omega))) (h219.ev rfl)) fun a220 h220 => ?_
      refine st_nil (go_then ?_)
      refine st_if_f (h220.ev rfl) ((by rw [ok_iff.2 hR3]; rfl)) ?_
      refine wp_skip (go_then (st_seq (st_seq (st_reg ?_))))
      refine ma h220 rfl rfl fun a221 h221 => ?_
      refine st_nil (go_then (wp_block ?_))
      refine st_loop h221 S218 [21, 0, 10, 7] (fun (m : Nat) => [(25, .int .i64 (m : Nat))]) (fun (m : Nat) => m ≤ (inR v.2).rs.length) (fun (m : Nat) L => L) (fun (m : Nat) => (inR v.2).rs.length - m) (0) (Nat.zero_le _) ⟨rfl, rfl, rfl, rfl, rfl, trivial⟩ (S218) ?_
      intro m a222 X222 hF3 h222 S222
      refine st_seq (st_seq (st_reg ?_))
      refine mv h222 rfl rfl fun a223 h223 => ?_
      refine vf h223 7 7 rfl rfl rfl fun a224 h224 => ?_
      refine vl h224 S222 2 rfl rfl rfl rfl fun a225 h225 => ?_
      refine sv h225 (ex_len Tryz.underlying24 (h225.ev rfl)) fun a226 h226 => ?_
      refine sv h226 (ex_lss (h226.ev rfl) (h226.ev rfl)) fun a227 h227 => ?_
      refine st_nil (go_then ?_)
      refine st_if (h227.ev rfl) (fun hc11 => ?_) (fun hc11 => ?_)
      ·
       have hlt3 : m < (inR v.2).rs.length := by have := of_decide_eq_true hc11; omega
       have hlt4 : m < N.rs.length := by omega
       have hem : (inR v.2).rs[m] = N.rs[m] := by
        obtain ⟨B, hB⟩ := hpre
        have : N.rs[m]? = (inR v.2).rs[m]? := by rw [← hB, List.getElem?_append_left hlt3]
        rw [List.getElem?_eq_getElem hlt3, List.getElem?_eq_getElem hlt4] at this
        injection this with this
        exact this.symm
       have hg12 : (!eqL [.int .i64 (inR v.2).rs[m].l, .int .i64 (inR v.2).rs[m].s, .string (inR v.2).rs[m].b] [.int .i64 N.rs[m].l, .int .i64 N.rs[m].s, .string N.rs[m].b]) = false := by rw [rec_eqL, decide_eq_true hem]; rfl
       obtain ⟨b1_, o1_, rfl, _⟩ := (S222.rdOf (i := 3) rfl).opened (by rw [recsV_length]; omega)
       refine wp_skip (go_then (st_seq (wp_block (st_seq ?_))))
       apply dr_flow h227 [false, false, false, false, false, false, false, false, false, false] _ (by kernel_rfl)
       case h =>
        refine qv h227 (fun X hX => ex_field (off := 7) (j := 7) (by kernel_rfl) (h227.ev rfl) rfl) fun a228 h228 => ?_
        refine qv h228 (fun X hX => ex_load (by kernel_rfl) (h228.ev rfl) ((S222.grow hX).cell (i := 2) rfl rfl)) fun a229 h229 => ?_
        refine qv h229 (fun X hX => ex_move (h229.ev rfl)) fun a230 h230 => ?_
        refine qv h230 (fun X hX => ex_index (i := m) (sz := 3) Tryz.underlying24 (by kernel_rfl) (h230.ev rfl) (h230.ev rfl) (by omega) (by omega) rfl) fun a231 h231 => ?_
        refine qv (v := recV (inR v.2).rs[m]) h231 (fun X hX => ex_loads (by kernel_rfl) (by kernel_rfl) (h231.ev rfl) (recAt ((S222.grow hX).rdOf (i := 3) rfl) hlt3)) fun a232 h232 => ?_
        refine qv h232 (fun X hX => ex_field (off := 7) (j := 7) (by kernel_rfl) (h232.ev rfl) rfl) fun a233 h233 => ?_
        refine qv h233 (fun X hX => ex_load (by kernel_rfl) (h233.ev rfl) ((S222.grow hX).cell (i := 7) rfl rfl)) fun a234 h234 => ?_
        refine qv h234 (fun X hX => ex_move (h234.ev rfl)) fun a235 h235 => ?_
        refine qv h235 (fun X hX => ex_index (i := m) (sz := 3) Tryz.underlying24 (by kernel_rfl) (h235.ev rfl) (h235.ev rfl) (by omega) (by omega) rfl) fun a236 h236 => ?_
        refine qv h236 (fun X hX => ex_loads (by kernel_rfl) (by kernel_rfl) (h236.ev rfl) (recAt ((S222.grow hX).rdOf (i := 6) rfl) hlt4)) fun a237 h237 => ?_
        refine sq_nil ?_
        refine nd_end fun X238 hX238 hΦ238 => ?_
        have S238 := S222.grow hX238
        refine sv h237 (ex_tneq (ks := [.i .i64, .i .i64, .s]) (by kernel_rfl) Tryz.underlying98 (by kernel_rfl) (h237.ev rfl) (h237.ev rfl) rfl rfl) fun a239 h239 => ?_
        refine st_nil (go_then ?_)
        refine st_if_f (h239.ev rfl) (hg12) ?_
        refine wp_skip (go_block (go_then (st_reg ?_)))
        refine mv h239 rfl rfl fun a240 h240 => ?_
        refine sv h240 (ex_add (h240.ev rfl) (h240.ev rfl) (by omega)) fun a241 h241 => ?_
        refine ma h241 rfl rfl fun a242 h242 => ?_
        refine st_nil (go_then ?_)
        exact ⟨m + 1, by omega, by omega, h242.re ⟨rfl, rfl, rfl, rfl, rfl, trivial⟩, S238⟩
       case hB => kernel_rfl
       case hst => rfl
      ·
       refine wp_exit ?_
       refine go_exit_then ?_
       refine go_exit_then ?_
       refine go_exit ?_
       refine go_then (st_seq ?_)
       apply dr_flow h227 [false, false, false] _ (by kernel_rfl)
       case h =>
        refine qv h227 (fun X hX => ex_move (h227.ev rfl)) fun a243 h243 => ?_
        refine qv (v := ringV (inR v.2) A128 c128) h243 (fun X hX => ex_loads (by kernel_rfl) (by kernel_rfl) (h243.ev rfl) ((S222.grow hX).cellsAll (i := 2) rfl)) fun a244 h244 => ?_
        refine qv h244 (fun X hX => ex_assign (h244.ev rfl)) fun a245 h245 => ?_
        refine sq_nil ?_
        refine nd_end fun X246 hX246 hΦ246 => ?_
        have S246 := S222.grow hX246
        refine sl_store0 h245 (wn rfl) ⟨rfl, rfl⟩ (h245.ev rfl) (h245.ev rfl) rfl (by kernel_rfl) S246 (i := 8) rfl rfl rfl fun X247 S247 => ?_
        refine ma h245 rfl rfl fun a248 h248 => ?_
        refine ma h248 rfl rfl fun a249 h249 => ?_
        refine st_nil (go_then (wp_ret ?_))
        refine fintctt h249 rfl rfl rfl rfl rfl S247 (i := 8) rfl (by kernel_rfl) (by kernel_rfl) ?_
        exact ⟨⟨v.2, inR v.2, A128, c128, true⟩, rfl, fun _ => hFP, S247.ownB (i := 3) rfl, S247.below⟩
       case hB => kernel_rfl
       case hst => rfl
end Go.Proofs.YtmlilplbdpjfcaaGreatDoor
