/-
  Drawn regions whose loud operations may be guarded.
  Chapter 17: copies of descriptors that are read; equal ones; descriptors that grant the same do not differ.
  Chapter 17: a descriptor simplified: the reference.
  Chapter 17: tokens, descriptors, identities that came in; the laid table.
-/
import Derived.Test.YtanicpgmbhfipaaGreatDoorSplD
import Derived.Test.YtanicpgmbhfipaaGreatDoorAcH
import Derived.Test.YtanicpgmbhfipaaGreatDoorAcG
import Derived.Test.YtanicpgmbhfipaaGreatDoorSplC
import Derived.Test.YtanicpgmbhfipaaGreatDoorKitB
import Derived.Test.YtanicpgmbhfipaaGreatDoorKitD
namespace Go.Proofs.YtanicpgmbhfipaaGreatDoor
set_option linter.unusedVariables false
set_option linter.unusedSimpArgs false
open Go.RowKit Go.Sort
variable {ds : List Deferred}
theorem dr_flowMG {P : Program} {Q : Exit → Act → World → Prop} {id N : Nat} {a : Act} {w : World} {l : List Oper} {sl : List (Nat × Value)} (ha : Has ds a N sl) (O : Nat → Prop) (oc : List (Nat × (Nat → Prop))) (news : List (Nat × TypeId)) (fl : List Bool) (nds : List NdB) (hm : P.follows .mixedOrders = true) (hO : ∀ p ∈ oc, ∀ b, p.2 b → O b)
 (h : wpC P l.toArray (Grw (fun b _ => O b) w) (fun g => wantedN l.toArray nds g ∧ wpNK P l.toArray (stsM w.heap.size oc news) w Q (l.drop fl.length) nds g []) (pick fl l) a)
 (hB : flowBG l.toArray fl fl.length N (nds.map fun d => (d.k, d.deps)) = true) :
 (Code.region id l.toArray true).wp P Q a w := by
 refine wp_region_any hm ?_
 obtain ⟨afin, h1, h2, h3⟩ := wpC_take _ _ h
 exact an_flowG (stsM w.heap.size oc news) fl nds (by rw [ha.size]; exact hB) ⟨afin, wpC_anti (fun X hX => oall_M rfl hO hX) _ _ h1, h3, h2⟩
theorem wanted_one {ops : Array Oper} {d : NdB} {o : Oper} {g : Act} (ho : ops[d.k]? = some o) (h : Region.wanted o (yielded ops g.tmps) = true) : wantedN ops [d] g := ⟨fun o' ho' => by rw [ho] at ho'; cases ho'; exact h, fun _ => trivial⟩
end Go.Proofs.YtanicpgmbhfipaaGreatDoor
namespace Go.Proofs.YtanicpgmbhfipaaGreatDoor
set_option linter.unusedVariables false
set_option linter.unusedSimpArgs false
set_option maxRecDepth 4000
open Go.RowKit Go.Sort Go.Shelf
theorem RdI.keep {X X' : World} {lo hi : Nat} {A : Option Addr} {xs : List Value} (h : RdI X lo hi A xs) (hb : ∀ b, lo ≤ b ∧ b < hi → X'.heap[b]? = X.heap[b]?) : RdI X' lo hi A xs := fun j u hj => by
 obtain ⟨b, o, e, h1, h2, h3⟩ := h j u hj
 exact ⟨b, o, e, h1, h2, (World.cell?_of_block (w := X) (a := ⟨b, o + j, none⟩) (hb b ⟨h1, h2⟩)).trans h3⟩
def rd2E (lo hi : Nat) (A B : Option Addr) (xs ys : List Value) : Ent := .inv (fun b => lo ≤ b ∧ b < hi) (fun X => RdI X lo hi A xs ∧ RdI X lo hi B ys) (fun X X' ⟨h1, h2⟩ hb => ⟨h1.keep hb, h2.keep hb⟩)
theorem St.rd2 {M : List Nat} {w X : World} {L : List Ent} {i lo hi : Nat} {A B : Option Addr} {xs ys : List Value} (h : St M w X L) (hi' : L[i]? = some (rd2E lo hi A B xs ys)) : Rd X X.heap.size A xs ∧ Rd X X.heap.size B ys := by
 obtain ⟨h1, h2⟩ : RdI X lo hi A xs ∧ RdI X lo hi B ys := h.at_ hi'
 have hn : ∀ b, lo ≤ b ∧ b < hi → b < X.heap.size := fun b hb => (h.new _ (List.mem_of_getElem? hi') b hb).2
 exact ⟨fun j u hj => (by obtain ⟨b, o, e, q1, q2, q3⟩ := h1 j u hj; exact ⟨b, o, e, hn b ⟨q1, q2⟩, q3⟩), fun j u hj => (by obtain ⟨b, o, e, q1, q2, q3⟩ := h2 j u hj; exact ⟨b, o, e, hn b ⟨q1, q2⟩, q3⟩)⟩
theorem RdI.of_own {w : World} {base : Nat} {e : TypeId} {size n c : Nat} {A : Option Addr} {xs : List Value} (h : w.ownsRow base e size (.slice A n c) n xs) : RdI w base w.heap.size A xs := fun j u hj => by
 obtain ⟨b, o, rfl, h1, h2⟩ := Rd.of_own h j u hj
 exact ⟨b, o, rfl, (h.lt b rfl).1, h1, h2⟩
theorem CopyDsc_rd (d : DscP) (A1 A2 : Option Addr) (c1 c2 : Nat) (w : World) (h1 : d.es.length ≤ 500) (h2 : d.us.length ≤ 500) (hr1 : Rd w w.heap.size A1 (acesV d.es)) (hr2 : Rd w w.heap.size A2 (acesV d.us)) :
 Calls Tryz.prog 12 #[dscV d A1 A2 c1 c2] w fun e w' => ∃ i : (Option Addr × Nat) × (Option Addr × Nat) × Nat × Nat, e = .returned (dscV d i.1.1 i.2.1.1 i.1.2 i.2.1.2) ∧ St [] w w' [rd2E i.2.2.1 i.2.2.2 i.1.1 i.2.1.1 (acesV d.es) (acesV d.us)] := by
 refine (CopyDsc_own d A1 A2 c1 c2 w h1 h2 hr1 hr2).mono ?_
 rintro e w' ⟨B1, B2, k1, k2, rfl, g1, g2, hb⟩
 exact ⟨((B1, k1), (B2, k2), w.heap.size, w'.heap.size), rfl, (St.init w).add hb (e := rd2E w.heap.size w'.heap.size B1 B2 (acesV d.es) (acesV d.us)) ⟨RdI.of_own g1, RdI.of_own g2⟩ (fun b hb' => hb')⟩
theorem eqL_ace (a : AceP) : eqL (aceV a) (aceV a) = true := by
 unfold aceV
 simp [eqL, eqV2]
theorem SameA_any (l : List AceP) (A B : Option Addr) (c d : Nat) (w : World) (hr : Rd w w.heap.size A (acesV l)) (hs : Rd w w.heap.size B (acesV l)) (hl : l.length ≤ 1000) :
 Calls Tryz.prog 75 #[.slice A l.length c, .slice B l.length d] w fun e w' => e = .returned (.bool true) ∧ Below w.heap.size w w' := by
 refine st_enter (N := 26) Tryz.func75 rfl rfl rfl (fun a0 h0 => ?_)
 have S0 := St.init w
 refine st_seq (st_reg ?_)
 refine ma h0 fun a1 h1 => ?_
 refine st_nil (go_then (st_seq (st_seq (st_reg ?_))))
 refine mv h1 fun a2 h2 => ?_
 refine sv h2 (ex_len Tryz.underlying22 (h2.ev rfl)) fun a3 h3 => ?_
 refine mv h3 fun a4 h4 => ?_
 refine sv h4 (ex_len Tryz.underlying22 (h4.ev rfl)) fun a5 h5 => ?_
 refine sv h5 (ex_neq (h5.ev rfl) (h5.ev rfl)) fun a6 h6 => ?_
 refine st_nil (go_then ?_)
 refine st_if_f (h6.ev rfl) ((by simp)) ?_
 refine wp_skip (go_then (st_seq (st_seq (st_reg ?_))))
 refine ma h6 fun a7 h7 => ?_
 refine st_nil (go_then (wp_block ?_))
 refine st_loop h7 S0 [0, 1] (fun (j : Nat) => [(5, .int .i64 (j : Nat))]) (fun (j : Nat) => j ≤ l.length) (fun (j : Nat) L => L) (fun (j : Nat) => l.length - j) (0) (Nat.zero_le _) ⟨rfl, rfl, rfl, trivial⟩ (S0) ?_
 intro j a8 X8 hF0 h8 S8
 refine st_seq (st_seq (st_reg ?_))
 refine mvv h8 fun a10 h10 => ?_
 refine sv h10 (ex_len Tryz.underlying22 (h10.ev rfl)) fun a11 h11 => ?_
 refine sv h11 (ex_lss (h11.ev rfl) (h11.ev rfl)) fun a12 h12 => ?_
 refine st_nil (go_then ?_)
 refine st_if (h12.ev rfl) (fun hc1 => ?_) (fun hc1 => ?_)
 ·
  have hlt : j < l.length := by have := of_decide_eq_true hc1; omega
  obtain ⟨b, o, rfl, hB, _⟩ := hr.opened (by rw [acesF_len]; omega)
  obtain ⟨b', o', rfl, hB', _⟩ := hs.opened (by rw [acesF_len]; omega)
  refine wp_skip (go_then (st_seq (wp_block (st_seq ?_))))
  apply dr_flow h12 [false, false, false, false, false, false, false, false] _ (by kernel_rfl)
  case h =>
   refine qv h12 (fun X hX => ex_move (h12.ev rfl)) fun a13 h13 => ?_
   refine qv h13 (fun X hX => ex_move (h13.ev rfl)) fun a14 h14 => ?_
   refine qv h14 (fun X hX => ex_index (i := j) (sz := 4) Tryz.underlying22 (by kernel_rfl) (h14.ev rfl) (h14.ev rfl) (by omega) (by omega) rfl) fun a15 h15 => ?_
   refine qv (v := aceU l[j]) h15 (fun X hX => ex_loads (by kernel_rfl) (by kernel_rfl) (h15.ev rfl) (acesAt ((S8.grow hX).rd0 hr) hlt)) fun a16 h16 => ?_
   refine qv h16 (fun X hX => ex_move (h16.ev rfl)) fun a17 h17 => ?_
   refine qv h17 (fun X hX => ex_move (h17.ev rfl)) fun a18 h18 => ?_
   refine qv h18 (fun X hX => ex_index (i := j) (sz := 4) Tryz.underlying22 (by kernel_rfl) (h18.ev rfl) (h18.ev rfl) (by omega) (by omega) rfl) fun a19 h19 => ?_
   refine qv (v := aceU l[j]) h19 (fun X hX => ex_loads (by kernel_rfl) (by kernel_rfl) (h19.ev rfl) (acesAt ((S8.grow hX).rd0 hs) hlt)) fun a20 h20 => ?_
   refine sq_nil ?_
   refine nd_end fun X21 hX21 hΦ21 => ?_
   have S21 := S8.grow hX21
   refine sv h20 (ex_tneq (ks := [.i .i64, .i .i64, .i .i64, .i .i64]) (by kernel_rfl) Tryz.underlying111 (by kernel_rfl) (h20.ev rfl) (h20.ev rfl) rfl rfl) fun a22 h22 => ?_
   refine st_nil (go_then ?_)
   refine st_if_f (h22.ev rfl) ((congrArg (! ·) (eqL_ace l[j]))) ?_
   refine wp_skip (go_block (go_then (st_reg ?_)))
   refine mv h22 fun a23 h23 => ?_
   refine sv h23 (ex_add (h23.ev rfl) (h23.ev rfl) (by omega)) fun a24 h24 => ?_
   refine ma h24 fun a25 h25 => ?_
   refine st_nil (go_then ?_)
   exact ⟨j + 1, (by omega), hlt, h25.re ⟨rfl, rfl, rfl, trivial⟩, S21⟩
  case hB => kernel_rfl
  case hst => rfl
 ·
  have hge : l.length ≤ j := by have := of_decide_eq_false hc1; omega
  refine wp_exit ?_
  refine go_exit_then ?_
  refine go_exit_then ?_
  refine go_exit ?_
  refine go_then (st_seq (st_reg ?_))
  refine ma h12 fun a26 h26 => ?_
  refine st_nil (go_then (wp_ret ?_))
  refine fin1 h26 rfl rfl ?_
  exact ⟨rfl, S8.below⟩
set_option maxHeartbeats 2000000 in
theorem SameD_any (d : DscP) (A1 A2 B1 B2 : Option Addr) (m1 m2 k1 k2 : Nat) (w : World) (hl1 : d.es.length ≤ 500) (hl2 : d.us.length ≤ 500) (hr1 : Rd w w.heap.size A1 (acesV d.es)) (hr2 : Rd w w.heap.size A2 (acesV d.us)) (hs1 : Rd w w.heap.size B1 (acesV d.es)) (hs2 : Rd w w.heap.size B2 (acesV d.us)) :
 Calls Tryz.prog 38 #[dscV d A1 A2 m1 m2, dscV d B1 B2 k1 k2] w fun e w' => e = .returned (.bool true) ∧ Below w.heap.size w w' := by
 refine st_enter (N := 45) Tryz.func38 rfl rfl rfl (fun a0 h0 => ?_)
 have S0 := St.init w
 refine st_seq (st_reg ?_)
 refine nb h0 rfl rfl S0 fun b2 a1 X1 gb2 h1 S1 => ?_
 refine nb h1 rfl rfl S1 fun b3 a2 X2 gb3 h2 S2 => ?_
 refine ma h2 fun a3 h3 => ?_
 refine nsr ?_
 refine vf h3 0 0 fun a4 h4 => ?_
 refine vl h4 S2 1 fun a5 h5 => ?_
 refine vf h5 0 0 fun a6 h6 => ?_
 refine vl h6 S2 0 fun a7 h7 => ?_
 refine sv h7 (ex_eql (h7.ev rfl) (h7.ev rfl)) fun a8 h8 => ?_
 refine mv h8 fun a9 h9 => ?_
 refine sl_val h9 (wanted_yes h9 _ rfl rfl rfl ((by simp))) (fx 1 1 (h9.ev rfl)) rfl rfl fun a10 h10 => ?_
 refine sl_val h10 (wanted_yes h10 _ rfl rfl rfl ((by simp))) (lx (h10.ev rfl) (S2.cell (i := 1) rfl rfl)) rfl rfl fun a11 h11 => ?_
 refine sl_val h11 (wanted_yes h11 _ rfl rfl rfl ((by simp))) (fx 1 1 (h11.ev rfl)) rfl rfl fun a12 h12 => ?_
 refine sl_val h12 (wanted_yes h12 _ rfl rfl rfl ((by simp))) (lx (h12.ev rfl) (S2.cell (i := 0) rfl rfl)) rfl rfl fun a13 h13 => ?_
 refine sl_val h13 (wanted_yes h13 _ rfl rfl rfl ((by simp))) (ex_eql (h13.ev rfl) (h13.ev rfl)) rfl rfl fun a14 h14 => ?_
 refine sv h14 (ex_pick_t (h14.ev rfl) ((by simp)) (h14.ev rfl)) fun a15 h15 => ?_
 refine mv h15 fun a16 h16 => ?_
 refine sl_val h16 (wanted_yes h16 _ rfl rfl rfl ((by simp))) (fx 2 2 (h16.ev rfl)) rfl rfl fun a17 h17 => ?_
 refine sl_val h17 (wanted_yes h17 _ rfl rfl rfl ((by simp))) (lx (h17.ev rfl) (S2.cell (i := 1) rfl rfl)) rfl rfl fun a18 h18 => ?_
 refine sl_val h18 (wanted_yes h18 _ rfl rfl rfl ((by simp))) (fx 2 2 (h18.ev rfl)) rfl rfl fun a19 h19 => ?_
 refine sl_val h19 (wanted_yes h19 _ rfl rfl rfl ((by simp))) (lx (h19.ev rfl) (S2.cell (i := 0) rfl rfl)) rfl rfl fun a20 h20 => ?_
 refine sl_val h20 (wanted_yes h20 _ rfl rfl rfl ((by simp))) (ex_beql Tryz.underlying4 (h20.ev rfl) (h20.ev rfl)) rfl rfl fun a21 h21 => ?_
 refine sv h21 (ex_pick_t (h21.ev rfl) ((by simp)) (h21.ev rfl)) fun a22 h22 => ?_
 refine mv h22 fun a23 h23 => ?_
 refine sl_val h23 (wanted_yes h23 _ rfl rfl rfl ((by simp))) (fx 3 3 (h23.ev rfl)) rfl rfl fun a24 h24 => ?_
 refine sl_val h24 (wanted_yes h24 _ rfl rfl rfl ((by simp))) (lx (h24.ev rfl) (S2.cell (i := 1) rfl rfl)) rfl rfl fun a25 h25 => ?_
 refine sl_val h25 (wanted_yes h25 _ rfl rfl rfl ((by simp))) (fx 3 3 (h25.ev rfl)) rfl rfl fun a26 h26 => ?_
 refine sl_val h26 (wanted_yes h26 _ rfl rfl rfl ((by simp))) (lx (h26.ev rfl) (S2.cell (i := 0) rfl rfl)) rfl rfl fun a27 h27 => ?_
 refine sl_val h27 (wanted_yes h27 _ rfl rfl rfl ((by simp))) (ex_beql Tryz.underlying4 (h27.ev rfl) (h27.ev rfl)) rfl rfl fun a28 h28 => ?_
 refine sv h28 (ex_pick_t (h28.ev rfl) ((by simp)) (h28.ev rfl)) fun a29 h29 => ?_
 refine mv h29 fun a30 h30 => ?_
 refine sl_val h30 (wanted_yes h30 _ rfl rfl rfl ((by simp))) (fx 4 4 (h30.ev rfl)) rfl rfl fun a31 h31 => ?_
 refine sl_val h31 (wanted_yes h31 _ rfl rfl rfl ((by simp))) (lx (h31.ev rfl) (S2.cell (i := 1) rfl rfl)) rfl rfl fun a32 h32 => ?_
 refine sl_val h32 (wanted_yes h32 _ rfl rfl rfl ((by simp))) (fx 4 4 (h32.ev rfl)) rfl rfl fun a33 h33 => ?_
 refine sl_val h33 (wanted_yes h33 _ rfl rfl rfl ((by simp))) (lx (h33.ev rfl) (S2.cell (i := 0) rfl rfl)) rfl rfl fun a34 h34 => ?_
 refine sl_bel h34 (wanted_yes h34 _ rfl rfl rfl ((by simp))) (ex_call (fun _ _ => by kernel_rfl) (h34.evs rfl) rfl) rfl rfl S2 (SameA_any d.es A1 B1 m1 k1 _ (S2.rd0 hr1) (S2.rd0 hs1) (by omega)) fun a35 X35 h35 S35 => ?_
 refine sv h35 (ex_pick_t (h35.ev rfl) ((by simp)) (h35.ev rfl)) fun a36 h36 => ?_
 refine mv h36 fun a37 h37 => ?_
 refine sl_val h37 (wanted_yes h37 _ rfl rfl rfl (rfl)) (fx 5 5 (h37.ev rfl)) rfl rfl fun a38 h38 => ?_
 refine sl_val h38 (wanted_yes h38 _ rfl rfl rfl (rfl)) (lx (h38.ev rfl) (S35.cell (i := 1) rfl rfl)) rfl rfl fun a39 h39 => ?_
 refine sl_val h39 (wanted_yes h39 _ rfl rfl rfl (rfl)) (fx 5 5 (h39.ev rfl)) rfl rfl fun a40 h40 => ?_
 refine sl_val h40 (wanted_yes h40 _ rfl rfl rfl (rfl)) (lx (h40.ev rfl) (S35.cell (i := 0) rfl rfl)) rfl rfl fun a41 h41 => ?_
 refine sl_bel h41 (wanted_yes h41 _ rfl rfl rfl (rfl)) (ex_call (fun _ _ => by kernel_rfl) (h41.evs rfl) rfl) rfl rfl S35 (SameA_any d.us A2 B2 m2 k2 _ (S35.rd0 hr2) (S35.rd0 hs2) (by omega)) fun a42 X42 h42 S42 => ?_
 refine sv h42 (ex_pick_t (h42.ev rfl) (rfl) (h42.ev rfl)) fun a43 h43 => ?_
 refine ma h43 fun a44 h44 => ?_
 refine st_nil (go_then (wp_ret ?_))
 refine fin1 h44 rfl rfl ?_
 exact ⟨rfl, S42.below⟩
theorem dif_none {a b : DscP} (h : ∀ t, rgtP a t = rgtP b t) (L : List TokP) : difR a b L = (noT, false) := by
 have h1 : fstT xorF a b L = none := by
  induction L with
  | nil => rfl
  | cons t L ih =>
   have hx : xorF (rgtP a t) (rgtP b t) = 0 := by
    obtain ⟨h0, h1⟩ := rgtN_bd a t 9
    obtain ⟨k0, k1⟩ := rgtN_bd b t 9
    exact (xorF_zero h0 h1 k0 k1).2 (h t)
   unfold fstT
   rw [if_neg (by rw [hx]; exact fun q => q rfl)]
   exact ih
 unfold difR
 rw [h1]
end Go.Proofs.YtanicpgmbhfipaaGreatDoor
namespace Go.Proofs.YtanicpgmbhfipaaGreatDoor
set_option linter.unusedVariables false
set_option linter.unusedSimpArgs false
set_option maxRecDepth 4000
open Go.RowKit Go.Sort Go.Shelf
def hitW (w : Int) (b : AceP) : Bool := cntB b && (b.w == w || b.w == 1)
theorem redM_snoc (w : Int) : ∀ (l : List AceP) (m : Int) (b : AceP), redM w m (l ++ [b]) = if hitW w b = true then offM (redM w m l) b.m else redM w m l
 | [], m, b => rfl
 | x :: l, m, b => redM_snoc w l _ b
theorem redM_take {w m : Int} {l : List AceP} {j : Nat} (h : j < l.length) : redM w m (l.take (j + 1)) = if hitW w l[j] = true then offM (redM w m (l.take j)) l[j].m else redM w m (l.take j) := by
 rw [List.take_succ_eq_append_getElem h, redM_snoc]
theorem has_one (x : Int) : (x / 1 % 2 == 1) = bitI x 0 := rfl
theorem has_two (x : Int) : (x / 2 % 2 == 1) = bitI x 1 := rfl
set_option maxHeartbeats 1000000 in
theorem SimplRef_any (d : DscP) (A1 A2 : Option Addr) (c1 c2 : Nat) (w : World) (hz : dscE d = 0) (hl1 : d.es.length ≤ 500) (hl2 : d.us.length ≤ 500) (hr1 : Rd w w.heap.size A1 (acesV d.es)) (hr2 : Rd w w.heap.size A2 (acesV d.us)) :
 Calls Tryz.prog 39 #[dscV d A1 A2 c1 c2] w fun e w' => ∃ i : (Option Addr × Nat) × Option Addr × Nat, e = .returned (dscV (simD d) i.1.1 i.2.1 i.1.2 i.2.2) ∧
  (Rd w' w'.heap.size i.1.1 (acesV (simL d.es)) ∧ Rd w' w'.heap.size i.2.1 (acesV d.us)) ∧ Below w.heap.size w w' := by
 obtain ⟨_, _, hx1, hx2, _, hok, _⟩ := dscE_zero hz
 have hml : ∀ k, (simL (d.es.take k)).length ≤ 1000 := fun k => by
  have := (simG_ok (d.es.take k) [] (fun a ha => hok a (List.mem_of_mem_take ha)) (fun b hb => by cases hb)).2
  rw [List.length_take] at this
  have : (simL (d.es.take k)).length ≤ _ := this
  simp at this
  omega
 have hmo : ∀ a ∈ d.es, mOk a := fun a ha => by obtain ⟨⟨_, _, x, y⟩, _⟩ := aceO_of (hok a ha).1; exact ⟨x, y⟩
 have hff : ∀ a ∈ d.es, 0 ≤ a.f ∧ a.f ≤ 31 := fun a ha => aceE_f (hok a ha).1
 have hso : ∀ k, ∀ b ∈ simL (d.es.take k), mOk b := fun k => (fixd_simG (d.es.take k) [] (fun a ha => hmo a (List.mem_of_mem_take ha)) (fun b hb => by cases hb) (fun j h => absurd h (Nat.not_lt_zero _))).2
 have hsf : ∀ k, ∀ b ∈ simL (d.es.take k), 0 ≤ b.f ∧ b.f ≤ 31 := fun k b hb => aceE_f ((simG_ok (d.es.take k) [] (fun a ha => hok a (List.mem_of_mem_take ha)) (fun b hb => by cases hb)).1 b hb).1
 refine st_enter (N := 82) Tryz.func39 rfl rfl rfl (fun a0 h0 => ?_)
 have S0 := St.init w
 refine st_seq (st_reg ?_)
 refine nb h0 rfl rfl S0 fun b1 a1 X1 gb1 h1 S1 => ?_
 refine na (.agg #[.int .i64 0, .int .i64 0, .bool false, .bool false, .slice none 0 0, .slice none 0 0]) h1 rfl S1 fun b2 a2 X2 gb2 h2 S2 => ?_
 refine nsr ?_
 refine sv (v := dscV d A1 A2 c1 c2) h2 (ex_loads (by kernel_rfl) (by kernel_rfl) (h2.ev rfl) (S2.cellsAll (i := 1) rfl)) fun a3 h3 => ?_
 refine sl_more h3 (wn rfl) (ex_call (fun _ _ => by kernel_rfl) (h3.evs rfl) rfl) rfl rfl S2 (CopyDsc_rd d A1 A2 c1 c2 _ hl1 hl2 (S2.rd0 hr1) (S2.rd0 hr2)) fun p9 a4 X4 h4 S4 => ?_
 refine na (.agg #[.int .i64 0, .int .i64 0, .bool false, .bool false, .slice none 0 0, .slice none 0 0]) h4 rfl S4 fun b3 a5 X5 gb3 h5 S5 => ?_
 refine sw h5 S5 0 fun X6 S6 => ?_
 refine nsr ?_
 refine vf h5 4 4 fun a7 h7 => ?_
 refine sl_store h7 (wn rfl) ⟨rfl, rfl⟩ (h7.ev rfl) (h7.ev rfl) rfl (by kernel_rfl) S6 (i := 0) rfl rfl rfl fun X8 S8 => ?_
 refine st_nil (go_then (st_seq (st_seq (st_reg ?_))))
 refine ma h7 fun a9 h9 => ?_
 replace S8 := St.nilRow S8 111 4
 refine st_nil (go_then (wp_block ?_))
 refine st_loop h9 S8 [3, 2, 1] (fun (q : Nat × Option Addr × Nat) => [(4, .int .i64 q.1)]) (fun (q : Nat × Option Addr × Nat) => q.1 ≤ d.es.length) (fun q L => [.row (.slice q.2.1 (simL (d.es.take q.1)).length q.2.2) (simL (d.es.take q.1)).length 111 4 (acesV (simL (d.es.take q.1))), .box b3 #[.int .i64 d.o, .int .i64 d.g, .bool d.pr, .bool d.he, .slice q.2.1 (simL (d.es.take q.1)).length q.2.2, .slice p9.2.1.1 d.us.length p9.2.1.2] 24, rd2E p9.2.2.1 p9.2.2.2 p9.1.1 p9.2.1.1 (acesV d.es) (acesV d.us), .box b2 #[.int .i64 0, .int .i64 0, .bool false, .bool false, .slice none 0 0, .slice none 0 0] 24, .box b1 #[.int .i64 d.o, .int .i64 d.g, .bool d.pr, .bool d.he, .slice A1 d.es.length c1, .slice A2 d.us.length c2] 24]) (fun (q : Nat × Option Addr × Nat) => d.es.length - q.1) ((0, none, 0)) (Nat.zero_le _) ⟨rfl, rfl, rfl, rfl, trivial⟩ (S8) ?_
 intro q a10 X10 hF0 h10 S10
 obtain ⟨k, A6, c6⟩ := q
 dsimp only at h10 S10 hF0
 have hk1 := hml k
 refine st_seq (st_seq (st_reg ?_))
 refine mv h10 fun a11 h11 => ?_
 refine vf h11 4 4 fun a12 h12 => ?_
 refine vl h12 S10 4 fun a13 h13 => ?_
 refine sv h13 (ex_len Tryz.underlying22 (h13.ev rfl)) fun a14 h14 => ?_
 refine sv h14 (ex_lss (h14.ev rfl) (h14.ev rfl)) fun a15 h15 => ?_
 refine st_nil (go_then ?_)
 refine st_if (h15.ev rfl) (fun hc0 => ?_) (fun hc0 => ?_)
 ·
  have hlt : k < d.es.length := by have := of_decide_eq_true hc0; omega
  obtain ⟨b, o, rfl, hB, _⟩ := hr1.opened (by rw [acesF_len]; omega)
  have htk := simL_take hlt
  have hfa := hff _ (List.getElem_mem hlt)
  have hma := hmo _ (List.getElem_mem hlt)
  obtain ⟨m9, hm9⟩ : ∃ m, m = (sim1 (simL (d.es.take k)) d.es[k]).m := ⟨_, rfl⟩
  have hsm : sim1 (simL (d.es.take k)) d.es[k] = ⟨d.es[k].k, d.es[k].f, m9, d.es[k].w⟩ := by rw [hm9]; exact sim1_eq _ _
  rw [hsm] at htk
  refine wp_skip (go_then (st_seq (wp_block (st_seq (st_reg ?_)))))
  refine vf h15 4 4 fun a16 h16 => ?_
  refine vl h16 S10 4 fun a17 h17 => ?_
  refine mv h17 fun a18 h18 => ?_
  refine sv h18 (ex_index (i := k) (sz := 4) Tryz.underlying22 (by kernel_rfl) (h18.ev rfl) (h18.ev rfl) (by omega) (by omega) rfl) fun a19 h19 => ?_
  refine sv (v := aceU d.es[k]) h19 (ex_loads (by kernel_rfl) (by kernel_rfl) (h19.ev rfl) (acesAt (S10.rd0 hr1) hlt)) fun a20 h20 => ?_
  refine na (.agg #[.int .i64 0, .int .i64 0, .int .i64 0, .int .i64 0]) h20 rfl S10 fun b5 a21 X21 gb5 h21 S21 => ?_
  refine sw h21 S21 0 fun X22 S22 => ?_
  refine st_nil (go_then (st_seq (st_seq (st_reg ?_))))
  refine sv (v := aceU d.es[k]) h21 (ex_loads (by kernel_rfl) (by kernel_rfl) (h21.ev rfl) (S22.cellsAll (i := 0) rfl)) fun a23 h23 => ?_
  refine sl_bel h23 (wn rfl) (ex_call (fun _ _ => by kernel_rfl) (h23.evs rfl) rfl) rfl rfl S22 (refcounts_any d.es[k] _ hfa.1 hfa.2) fun a24 X24 h24 S24 => ?_
  refine mv h24 fun a25 h25 => ?_
  apply sl_and h25 S24 25 rfl 5 30
  case ht =>
   intro gc25
   refine sy h25 (fx 1 1 (h25.ev rfl)) fun a26 h26 => ?_
   refine sy h26 (lx (h26.ev rfl) (S24.cell (i := 0) rfl rfl)) fun a27 h27 => ?_
   refine sl_pure h27 (wanted_yes h27 _ rfl rfl rfl gc25) (ex_call (fun _ _ => by kernel_rfl) (h27.evs rfl) rfl) rfl rfl (refHas_any d.es[k].f 1 _ hfa.1 (by omega) (by decide) (by decide)) fun a28 h28 => ?_
   refine sy h28 (ex_not (h28.ev rfl)) fun a29 h29 => ?_
   refine sv h29 (ex_pick_t (h29.ev rfl) gc25 (h29.ev rfl)) fun a30 h30 => ?_
   exact st_nil ⟨h30.mid (m := [(_, _), (_, _), (_, _), (_, _)]) rfl, S24⟩
  case hf =>
   intro gc25
   refine no h25 fun a31 h31 => ?_
   refine no h31 fun a32 h32 => ?_
   refine no h32 fun a33 h33 => ?_
   refine no h33 fun a34 h34 => ?_
   refine sv h34 (ex_pick_f (h34.ev rfl) gc25 (h34.ev rfl)) fun a35 h35 => ?_
   exact st_nil ⟨h35.mid (m := [(_, _), (_, _), (_, _), (_, _)]) rfl, S24⟩
  case h =>
   rintro a36 X36 ⟨h36, S36⟩
   refine mv h36 fun a37 h37 => ?_
   apply sl_and h37 S36 31 rfl 5 36
   case ht =>
    intro gc31
    refine sy h37 (fx 1 1 (h37.ev rfl)) fun a38 h38 => ?_
    refine sy h38 (lx (h38.ev rfl) (S36.cell (i := 0) rfl rfl)) fun a39 h39 => ?_
    refine sl_pure h39 (wanted_yes h39 _ rfl rfl rfl gc31) (ex_call (fun _ _ => by kernel_rfl) (h39.evs rfl) rfl) rfl rfl (refHas_any d.es[k].f 2 _ hfa.1 (by omega) (by decide) (by decide)) fun a40 h40 => ?_
    refine sy h40 (ex_not (h40.ev rfl)) fun a41 h41 => ?_
    refine sv h41 (ex_pick_t (h41.ev rfl) gc31 (h41.ev rfl)) fun a42 h42 => ?_
    exact st_nil ⟨h42.mid (m := [(_, _), (_, _), (_, _), (_, _)]) rfl, S36⟩
   case hf =>
    intro gc31
    refine no h37 fun a43 h43 => ?_
    refine no h43 fun a44 h44 => ?_
    refine no h44 fun a45 h45 => ?_
    refine no h45 fun a46 h46 => ?_
    refine sv h46 (ex_pick_f (h46.ev rfl) gc31 (h46.ev rfl)) fun a47 h47 => ?_
    exact st_nil ⟨h47.mid (m := [(_, _), (_, _), (_, _), (_, _)]) rfl, S36⟩
   case h =>
    rintro a48 X48 ⟨h48, S48⟩
    refine st_nil (go_then ?_)
    refine st_if (h48.ev rfl) (fun hc1 => ?_) (fun hc1 => ?_)
    ·
     have hih : (cntB d.es[k] && !inhB d.es[k]) = true := by rw [has_one, has_two] at hc1; unfold inhB; rw [Bool.not_or, ← Bool.and_assoc]; exact hc1
     have hme : m9 = redM d.es[k].w d.es[k].m (simL (d.es.take k)) := by rw [hm9, sim1_pos hih]
     refine st_seq (st_reg ?_)
     refine ma h48 fun a49 h49 => ?_
     refine st_nil (go_then (wp_block ?_))
     refine st_loop h49 S48 [36, 31, 30, 25, 24, 23, 5, 22, 21, 20, 19, 18, 15, 14, 13, 12, 11, 4, 3, 2, 1] (fun (j : Nat) => [(6, .int .i64 j)]) (fun (j : Nat) => j ≤ (simL (d.es.take k)).length) (fun j L => L.set 0 (.box b5 (aceU ⟨d.es[k].k, d.es[k].f, redM d.es[k].w d.es[k].m ((simL (d.es.take k)).take j), d.es[k].w⟩).cells.toList.toArray 111)) (fun (j : Nat) => (simL (d.es.take k)).length - j) (0) (Nat.zero_le _) ⟨rfl, rfl, rfl, rfl, rfl, rfl, rfl, rfl, rfl, rfl, rfl, rfl, rfl, rfl, rfl, rfl, rfl, rfl, rfl, rfl, rfl, rfl, trivial⟩ (S48) ?_
     intro j a50 X50 hF1 h50 S50
     refine st_seq (st_seq (st_reg ?_))
     refine mv h50 fun a51 h51 => ?_
     refine vf h51 4 4 fun a52 h52 => ?_
     refine vl h52 S50 2 fun a53 h53 => ?_
     refine sv h53 (ex_len Tryz.underlying22 (h53.ev rfl)) fun a54 h54 => ?_
     refine sv h54 (ex_lss (h54.ev rfl) (h54.ev rfl)) fun a55 h55 => ?_
     refine st_nil (go_then ?_)
     refine st_if (h55.ev rfl) (fun hc2 => ?_) (fun hc2 => ?_)
     ·
      have hltj : j < (simL (d.es.take k)).length := by have := of_decide_eq_true hc2; omega
      obtain ⟨g6, rfl, _⟩ := own_some (S50.at_ (i := 1) rfl) (by omega)
      have hmb := hso k _ (List.getElem_mem hltj)
      have hfb := hsf k _ (List.getElem_mem hltj)
      have hrt := redM_take (w := d.es[k].w) (m := d.es[k].m) hltj
      refine wp_skip (go_then (st_seq (wp_block (st_seq (st_reg ?_)))))
      refine vf h55 4 4 fun a56 h56 => ?_
      refine vl h56 S50 2 fun a57 h57 => ?_
      refine mv h57 fun a58 h58 => ?_
      refine sv h58 (ex_index (i := j) (sz := 4) Tryz.underlying22 (by kernel_rfl) (h58.ev rfl) (h58.ev rfl) (by omega) (by omega) rfl) fun a59 h59 => ?_
      refine sv (v := aceU (simL (d.es.take k))[j]) h59 (ex_loads (by kernel_rfl) (by kernel_rfl) (h59.ev rfl) (acesAt (S50.rdOf (i := 1) rfl) hltj)) fun a60 h60 => ?_
      refine na (.agg #[.int .i64 0, .int .i64 0, .int .i64 0, .int .i64 0]) h60 rfl S50 fun b7 a61 X61 gb7 h61 S61 => ?_
      refine sw h61 S61 0 fun X62 S62 => ?_
      refine nsr ?_
      refine sv (v := aceU (simL (d.es.take k))[j]) h61 (ex_loads (by kernel_rfl) (by kernel_rfl) (h61.ev rfl) (S62.cellsAll (i := 0) rfl)) fun a63 h63 => ?_
      refine sl_bel h63 (wn rfl) (ex_call (fun _ _ => by kernel_rfl) (h63.evs rfl) rfl) rfl rfl S62 (refcounts_any (simL (d.es.take k))[j] _ hfb.1 hfb.2) fun a64 X64 h64 S64 => ?_
      refine mv h64 fun a65 h65 => ?_
      apply sl_and h65 S64 51 rfl 11 62
      case ht =>
       intro gc51
       refine sy h65 (fx 3 3 (h65.ev rfl)) fun a66 h66 => ?_
       refine sy h66 (lx (h66.ev rfl) (S64.cell (i := 0) rfl rfl)) fun a67 h67 => ?_
       refine sy h67 (fx 3 3 (h67.ev rfl)) fun a68 h68 => ?_
       refine sy h68 (lx (h68.ev rfl) (S64.cell (i := 1) rfl rfl)) fun a69 h69 => ?_
       refine sy h69 (ex_eql (h69.ev rfl) (h69.ev rfl)) fun a70 h70 => ?_
       refine sy h70 (ex_move (h70.ev rfl)) fun a71 h71 => ?_
       apply sl_or h71 S64 57 rfl 4 61
       case hf =>
        intro gc57
        refine sy h71 (fx 3 3 (h71.ev rfl)) fun a72 h72 => ?_
        refine sy h72 (lx (h72.ev rfl) (S64.cell (i := 0) rfl rfl)) fun a73 h73 => ?_
        refine sy h73 (ex_eql (h73.ev rfl) (h73.ev rfl)) fun a74 h74 => ?_
        refine sy h74 (ex_pick_f (h74.ev rfl) gc57 (h74.ev rfl)) fun a75 h75 => ?_
        exact st_nil ⟨h75.mid (m := [(_, _), (_, _), (_, _)]) rfl, S64⟩
       case ht =>
        intro gc57
        refine no h71 fun a76 h76 => ?_
        refine no h76 fun a77 h77 => ?_
        refine no h77 fun a78 h78 => ?_
        refine sy h78 (ex_pick_t (h78.ev rfl) gc57 (h78.ev rfl)) fun a79 h79 => ?_
        exact st_nil ⟨h79.mid (m := [(_, _), (_, _), (_, _)]) rfl, S64⟩
       case h =>
        rintro a80 X80 ⟨h80, S80⟩
        refine sv h80 (ex_pick_t (h80.ev rfl) gc51 (h80.ev rfl)) fun a81 h81 => ?_
        exact st_nil ⟨h81.mid (m := [(_, _), (_, _), (_, _), (_, _), (_, _), (_, _), (_, _)]) rfl, S80⟩
      case hf =>
       intro gc51
       refine no h65 fun a82 h82 => ?_
       refine no h82 fun a83 h83 => ?_
       refine no h83 fun a84 h84 => ?_
       refine no h84 fun a85 h85 => ?_
       refine no h85 fun a86 h86 => ?_
       refine no h86 fun a87 h87 => ?_
       refine sl_no h87 (wanted_not h87 _ rfl rfl rfl) rfl rfl fun a88 h88 => ?_
       refine sl_no h88 (wanted_not h88 _ rfl rfl rfl) rfl rfl fun a89 h89 => ?_
       refine sl_no h89 (wanted_not h89 _ rfl rfl rfl) rfl rfl fun a90 h90 => ?_
       refine no h90 fun a91 h91 => ?_
       refine sv h91 (ex_pick_f (h91.ev rfl) gc51 (h91.ev rfl)) fun a92 h92 => ?_
       exact st_nil ⟨h92.mid (m := [(_, _), (_, _), (_, _), (_, _), (_, _), (_, _), (_, _), (_, _), (_, _), (_, _)]) rfl, S64⟩
      case h =>
       rintro a93 X93 ⟨h93, S93⟩
       refine st_nil (go_then ?_)
       refine st_if (h93.ev rfl) (fun hc3 => ?_) (fun hc3 => ?_)
       ·
        obtain ⟨r0, r1, _⟩ := redM_spec d.es[k].w ((simL (d.es.take k)).take j) d.es[k].m hma.1 hma.2 (fun b hb => hso k b (List.mem_of_mem_take hb))
        obtain ⟨_, o1, o2, _⟩ := offM_eq r0 (Int.le_trans r1 hma.2) hmb.1 hmb.2
        have ham := hma.2
        unfold offM at o1 o2
        refine st_reg ?_
        refine vf h93 2 2 fun a94 h94 => ?_
        refine vl h94 S93 1 fun a95 h95 => ?_
        refine vf h95 2 2 fun a96 h96 => ?_
        refine vl h96 S93 1 fun a97 h97 => ?_
        refine vf h97 2 2 fun a98 h98 => ?_
        refine vl h98 S93 0 fun a99 h99 => ?_
        refine sv h99 (ex_bits (r := bits .and .i64 (redM d.es[k].w d.es[k].m ((simL (d.es.take k)).take j)) (simL (d.es.take k))[j].m) rfl (h99.ev rfl) (h99.ev rfl) rfl) fun a100 h100 => ?_
        refine sv h100 (ex_sub (h100.ev rfl) (h100.ev rfl) (by dsimp only; omega)) fun a101 h101 => ?_
        refine vf h101 2 2 fun a102 h102 => ?_
        refine sl_store h102 (wn rfl) ⟨rfl, rfl⟩ (h102.ev rfl) (h102.ev rfl) rfl (by kernel_rfl) S93 (i := 1) rfl rfl rfl fun X103 S103 => ?_
        refine st_nil (go_block (go_then (st_reg ?_)))
        refine mv h102 fun a104 h104 => ?_
        refine sv h104 (ex_add (h104.ev rfl) (h104.ev rfl) (by omega)) fun a105 h105 => ?_
        refine ma h105 fun a106 h106 => ?_
        refine st_nil (go_then ?_)
        exact ⟨j + 1, by omega, hltj, h106.re ⟨rfl, rfl, rfl, rfl, rfl, rfl, rfl, rfl, rfl, rfl, rfl, rfl, rfl, rfl, rfl, rfl, rfl, rfl, rfl, rfl, rfl, rfl, trivial⟩, (by show St [] w _ [.box b5 (aceU ⟨d.es[k].k, d.es[k].f, redM d.es[k].w d.es[k].m ((simL (d.es.take k)).take (j + 1)), d.es[k].w⟩).cells.toList.toArray 111, _, _, _, _, _]; rw [hrt, if_pos (show hitW _ _ = true from hc3)]; exact (S103.sub (.cons _ (.cons_cons _ (.cons_cons _ (.cons_cons _ (.cons_cons _ (.cons_cons _ (.cons_cons _ .slnil)))))))))⟩
       ·
        refine wp_skip (go_block (go_then (st_reg ?_)))
        refine mv h93 fun a107 h107 => ?_
        refine sv h107 (ex_add (h107.ev rfl) (h107.ev rfl) (by omega)) fun a108 h108 => ?_
        refine ma h108 fun a109 h109 => ?_
        refine st_nil (go_then ?_)
        exact ⟨j + 1, by omega, hltj, h109.re ⟨rfl, rfl, rfl, rfl, rfl, rfl, rfl, rfl, rfl, rfl, rfl, rfl, rfl, rfl, rfl, rfl, rfl, rfl, rfl, rfl, rfl, rfl, trivial⟩, (by show St [] w _ [.box b5 (aceU ⟨d.es[k].k, d.es[k].f, redM d.es[k].w d.es[k].m ((simL (d.es.take k)).take (j + 1)), d.es[k].w⟩).cells.toList.toArray 111, _, _, _, _, _]; rw [hrt, if_neg (show ¬ hitW _ _ = true from fun q => by rw [show hitW _ _ = false from hc3] at q; cases q)]; exact (S93.sub (.cons _ (.cons_cons _ (.cons_cons _ (.cons_cons _ (.cons_cons _ (.cons_cons _ (.cons_cons _ .slnil)))))))))⟩
     ·
      have hgej : (simL (d.es.take k)).length ≤ j := by have := of_decide_eq_false hc2; omega
      obtain rfl : j = (simL (d.es.take k)).length := by have := hF1; omega
      rw [List.take_length, ← hme] at S50
      refine wp_exit ?_
      refine go_exit_then ?_
      refine go_exit_then ?_
      refine go_exit ?_
      refine go_then (st_seq (st_reg ?_))
      refine vf h55 2 2 fun a110 h110 => ?_
      refine vl h110 S50 0 fun a111 h111 => ?_
      refine sv h111 (ex_neq (h111.ev rfl) (h111.ev rfl)) fun a112 h112 => ?_
      refine st_nil (go_then ?_)
      refine st_if (h112.ev rfl) (fun hc4 => ?_) (fun hc4 => ?_)
      ·
       have hnz : ¬ m9 = 0 := by simpa using hc4
       have hps : simL (d.es.take (k + 1)) = simL (d.es.take k) ++ [⟨d.es[k].k, d.es[k].f, m9, d.es[k].w⟩] := by rw [htk]; exact if_neg hnz
       refine st_reg ?_
       refine vf h112 4 4 fun a113 h113 => ?_
       refine vl h113 S50 2 fun a114 h114 => ?_
       refine sv (v := aceU ⟨d.es[k].k, d.es[k].f, m9, d.es[k].w⟩) h114 (ex_loads (by kernel_rfl) (by kernel_rfl) (h114.ev rfl) (S50.cellsAll (i := 0) rfl)) fun a115 h115 => ?_
       refine sl_bslice (zc := [.int .i64 0, .int .i64 0, .int .i64 0, .int .i64 0]) (sz := 4) h115 (wn rfl) ⟨rfl, rfl⟩ rfl Tryz.underlying22 (by kernel_rfl) (by kernel_rfl) rfl rfl rfl (h115.evs2 rfl) rfl rfl rfl S50 fun b78 a116 X116 gb78 h116 S116 => ?_
       refine sl_append (z := .agg #[.int .i64 0, .int .i64 0, .int .i64 0, .int .i64 0]) (sz := 4) (bytes := 32) h116 (wn rfl) ⟨rfl, rfl⟩ rfl Tryz.underlying22 (by kernel_rfl) rfl rfl (h116.ev rfl) (h116.ev rfl) S116 (i := 2) rfl (S116.boxRd (i := 0) rfl) rfl (List.all_eq_true.1 rfl) ⟨(by omega), by decide⟩ fun A79 c79 a117 X117 h117 S117 => ?_
       refine vf h117 4 4 fun a118 h118 => ?_
       refine sl_store h118 (wn rfl) ⟨rfl, rfl⟩ (h118.ev rfl) (h118.ev rfl) rfl (by kernel_rfl) S117 (i := 3) rfl rfl rfl fun X119 S119 => ?_
       refine st_nil (go_block (go_then (st_reg ?_)))
       refine mv h118 fun a120 h120 => ?_
       refine sv h120 (ex_add (h120.ev rfl) (h120.ev rfl) (by omega)) fun a121 h121 => ?_
       refine ma h121 fun a122 h122 => ?_
       refine st_nil (go_then ?_)
       exact ⟨(k + 1, A79, c79), (by show d.es.length - (k + 1) < d.es.length - k; omega), hlt, h122.re ⟨rfl, rfl, rfl, rfl, trivial⟩, (by show St [] w _ [.row (.slice A79 (simL (d.es.take (k + 1))).length c79) (simL (d.es.take (k + 1))).length 111 4 (acesV (simL (d.es.take (k + 1)))), .box b3 #[.int .i64 d.o, .int .i64 d.g, .bool d.pr, .bool d.he, .slice A79 (simL (d.es.take (k + 1))).length c79, .slice p9.2.1.1 d.us.length p9.2.1.2] 24, _, _, _]; rw [hps, List.length_append, acesV_append]; exact (S119.sub (.cons _ (.cons _ (.cons_cons _ (.cons_cons _ (.cons_cons _ (.cons_cons _ (.cons_cons _ .slnil)))))))))⟩
      ·
       have hzz : m9 = 0 := by simpa using hc4
       have hps : simL (d.es.take (k + 1)) = simL (d.es.take k) := by rw [htk]; exact if_pos hzz
       refine wp_skip (go_block (go_then (st_reg ?_)))
       refine mv h112 fun a123 h123 => ?_
       refine sv h123 (ex_add (h123.ev rfl) (h123.ev rfl) (by omega)) fun a124 h124 => ?_
       refine ma h124 fun a125 h125 => ?_
       refine st_nil (go_then ?_)
       exact ⟨(k + 1, A6, c6), (by show d.es.length - (k + 1) < d.es.length - k; omega), hlt, h125.re ⟨rfl, rfl, rfl, rfl, trivial⟩, (by show St [] w _ [.row (.slice A6 (simL (d.es.take (k + 1))).length c6) (simL (d.es.take (k + 1))).length 111 4 (acesV (simL (d.es.take (k + 1)))), .box b3 #[.int .i64 d.o, .int .i64 d.g, .bool d.pr, .bool d.he, .slice A6 (simL (d.es.take (k + 1))).length c6, .slice p9.2.1.1 d.us.length p9.2.1.2] 24, _, _, _]; rw [hps]; exact (S50.sub (.cons _ (.cons_cons _ (.cons_cons _ (.cons_cons _ (.cons_cons _ (.cons_cons _ .slnil))))))))⟩
    ·
     have hih : ¬ (cntB d.es[k] && !inhB d.es[k]) = true := by rw [has_one, has_two] at hc1; unfold inhB; rw [Bool.not_or, ← Bool.and_assoc, hc1]; decide
     have heq : aceU d.es[k] = aceU ⟨d.es[k].k, d.es[k].f, m9, d.es[k].w⟩ := by rw [← hsm, sim1_neg hih]
     rw [heq] at S48
     refine wp_skip (go_then (st_seq (st_reg ?_)))
     refine vf h48 2 2 fun a126 h126 => ?_
     refine vl h126 S48 0 fun a127 h127 => ?_
     refine sv h127 (ex_neq (h127.ev rfl) (h127.ev rfl)) fun a128 h128 => ?_
     refine st_nil (go_then ?_)
     refine st_if (h128.ev rfl) (fun hc4 => ?_) (fun hc4 => ?_)
     ·
      have hnz : ¬ m9 = 0 := by simpa using hc4
      have hps : simL (d.es.take (k + 1)) = simL (d.es.take k) ++ [⟨d.es[k].k, d.es[k].f, m9, d.es[k].w⟩] := by rw [htk]; exact if_neg hnz
      refine st_reg ?_
      refine vf h128 4 4 fun a129 h129 => ?_
      refine vl h129 S48 2 fun a130 h130 => ?_
      refine sv (v := aceU ⟨d.es[k].k, d.es[k].f, m9, d.es[k].w⟩) h130 (ex_loads (by kernel_rfl) (by kernel_rfl) (h130.ev rfl) (S48.cellsAll (i := 0) rfl)) fun a131 h131 => ?_
      refine sl_bslice (zc := [.int .i64 0, .int .i64 0, .int .i64 0, .int .i64 0]) (sz := 4) h131 (wn rfl) ⟨rfl, rfl⟩ rfl Tryz.underlying22 (by kernel_rfl) (by kernel_rfl) rfl rfl rfl (h131.evs2 rfl) rfl rfl rfl S48 fun b78 a132 X132 gb78 h132 S132 => ?_
      refine sl_append (z := .agg #[.int .i64 0, .int .i64 0, .int .i64 0, .int .i64 0]) (sz := 4) (bytes := 32) h132 (wn rfl) ⟨rfl, rfl⟩ rfl Tryz.underlying22 (by kernel_rfl) rfl rfl (h132.ev rfl) (h132.ev rfl) S132 (i := 2) rfl (S132.boxRd (i := 0) rfl) rfl (List.all_eq_true.1 rfl) ⟨(by omega), by decide⟩ fun A79 c79 a133 X133 h133 S133 => ?_
      refine vf h133 4 4 fun a134 h134 => ?_
      refine sl_store h134 (wn rfl) ⟨rfl, rfl⟩ (h134.ev rfl) (h134.ev rfl) rfl (by kernel_rfl) S133 (i := 3) rfl rfl rfl fun X135 S135 => ?_
      refine st_nil (go_block (go_then (st_reg ?_)))
      refine mv h134 fun a136 h136 => ?_
      refine sv h136 (ex_add (h136.ev rfl) (h136.ev rfl) (by omega)) fun a137 h137 => ?_
      refine ma h137 fun a138 h138 => ?_
      refine st_nil (go_then ?_)
      exact ⟨(k + 1, A79, c79), (by show d.es.length - (k + 1) < d.es.length - k; omega), hlt, h138.re ⟨rfl, rfl, rfl, rfl, trivial⟩, (by show St [] w _ [.row (.slice A79 (simL (d.es.take (k + 1))).length c79) (simL (d.es.take (k + 1))).length 111 4 (acesV (simL (d.es.take (k + 1)))), .box b3 #[.int .i64 d.o, .int .i64 d.g, .bool d.pr, .bool d.he, .slice A79 (simL (d.es.take (k + 1))).length c79, .slice p9.2.1.1 d.us.length p9.2.1.2] 24, _, _, _]; rw [hps, List.length_append, acesV_append]; exact (S135.sub (.cons _ (.cons _ (.cons_cons _ (.cons_cons _ (.cons_cons _ (.cons_cons _ (.cons_cons _ .slnil)))))))))⟩
     ·
      have hzz : m9 = 0 := by simpa using hc4
      have hps : simL (d.es.take (k + 1)) = simL (d.es.take k) := by rw [htk]; exact if_pos hzz
      refine wp_skip (go_block (go_then (st_reg ?_)))
      refine mv h128 fun a139 h139 => ?_
      refine sv h139 (ex_add (h139.ev rfl) (h139.ev rfl) (by omega)) fun a140 h140 => ?_
      refine ma h140 fun a141 h141 => ?_
      refine st_nil (go_then ?_)
      exact ⟨(k + 1, A6, c6), (by show d.es.length - (k + 1) < d.es.length - k; omega), hlt, h141.re ⟨rfl, rfl, rfl, rfl, trivial⟩, (by show St [] w _ [.row (.slice A6 (simL (d.es.take (k + 1))).length c6) (simL (d.es.take (k + 1))).length 111 4 (acesV (simL (d.es.take (k + 1)))), .box b3 #[.int .i64 d.o, .int .i64 d.g, .bool d.pr, .bool d.he, .slice A6 (simL (d.es.take (k + 1))).length c6, .slice p9.2.1.1 d.us.length p9.2.1.2] 24, _, _, _]; rw [hps]; exact (S48.sub (.cons _ (.cons_cons _ (.cons_cons _ (.cons_cons _ (.cons_cons _ (.cons_cons _ .slnil))))))))⟩
 ·
  have hge : d.es.length ≤ k := by have := of_decide_eq_false hc0; omega
  refine wp_exit ?_
  refine go_exit_then ?_
  refine go_exit_then ?_
  refine go_exit ?_
  refine go_then (st_seq (st_reg ?_))
  refine sv h15 (ex_loads (by kernel_rfl) (by kernel_rfl) (h15.ev rfl) (S10.cellsAll (i := 1) rfl)) fun a142 h142 => ?_
  refine sw h142 S10 3 fun X143 S143 => ?_
  refine st_nil (go_then (wp_ret ?_))
  refine finc h142 rfl rfl S143 (i := 3) rfl (by kernel_rfl) (by kernel_rfl) ?_
  have et : simL (d.es.take k) = simL d.es := by rw [show k = d.es.length by omega, List.take_length]
  have h9 := S143.rdOf (i := 0) rfl
  rw [et] at h9
  exact ⟨((A6, c6), p9.2.1), by rw [et]; rfl, ⟨h9, (S143.rd2 (i := 2) rfl).2⟩, S143.below⟩
end Go.Proofs.YtanicpgmbhfipaaGreatDoor
namespace Go.Proofs.YtanicpgmbhfipaaGreatDoor
set_option linter.unusedVariables false
set_option linter.unusedSimpArgs false
open Go.ChangeShapes Go.WideShapes Go.ChangeAt Go.RowKit
theorem flat_ints (l : List Int) : l.flatMap (fun x => [Value.int .i64 x]) = l.map (.int .i64) := by
 induction l with
 | nil => rfl
 | cons x l ih => rw [List.flatMap_cons, ih]; rfl
theorem ace_length (x : AceP) : (aceV x).length = 4 := rfl
set_option maxRecDepth 100000 in
theorem trod_ints {H : Type} {enc : TypeId × Value → H} {W : World} {fuel : Nat} {cs : List Value} {x : DataW H × List MemPlace}
 (h : DataW.trod enc Tryz.prog W 0 (fun _ => true) true fuel 25 cs = some x) : ∃ (A : Option Addr) (c : Nat) (l : List Int), cs = [.slice A l.length c] ∧ l.length ≤ maxLen ∧ Rd W W.heap.size A (l.map (.int .i64)) := by
 obtain ⟨A, c, l, h1, h2, h3, _⟩ := trod_list (fun x : Int => [.int .i64 x]) 1 (fun _ => rfl) (fun _ => True) Tryz.underlying25 (by kernel_rfl) (fun fuel cs x hl h => by
  match cs, hl with
  | [u], _ =>
   obtain ⟨y, e, _, _⟩ := DataW.trod_int Tryz.underlying3 h
   exact ⟨y, e, trivial⟩) h
 rw [flat_ints] at h3
 exact ⟨A, c, l, h1, h2, h3⟩
set_option maxRecDepth 100000 in
theorem open_ints {H : Type} {enc : TypeId × Value → H} {W : World} {r : Reach} {base : Nat} {v : Value} {d : DataW H} {p : List MemPlace}
 (hv : Value.okWide Tryz.prog W r base 25 v) (h : DataW.Trod enc Tryz.prog W 0 (fun _ => true) true 25 v d p) :
 ∃ (A : Option Addr) (c : Nat) (l : List Int), v = .slice A l.length c ∧ l.length ≤ maxLen ∧ Rd W W.heap.size A (l.map (.int .i64)) := by
 obtain ⟨A, c, l, h1, h2, h3, _⟩ := open_list (fun x : Int => [.int .i64 x]) 1 (fun _ => rfl) (fun _ => True) Tryz.underlying25 (by kernel_rfl) (fun fuel cs x hl h => by
  match cs, hl with
  | [u], _ =>
   obtain ⟨y, e, _, _⟩ := DataW.trod_int Tryz.underlying3 h
   exact ⟨y, e, trivial⟩) hv h
 rw [flat_ints] at h3
 exact ⟨A, c, l, h1, h2, h3⟩
set_option maxRecDepth 100000 in
theorem trod_aces {H : Type} {enc : TypeId × Value → H} {W : World} {fuel : Nat} {cs : List Value} {x : DataW H × List MemPlace}
 (h : DataW.trod enc Tryz.prog W 0 (fun _ => true) true fuel 22 cs = some x) : ∃ (A : Option Addr) (c : Nat) (l : List AceP), cs = [.slice A l.length c] ∧ l.length ≤ maxLen ∧ Rd W W.heap.size A (acesV l) := by
 obtain ⟨A, c, l, h1, h2, h3, _⟩ := trod_list aceV 4 ace_length (fun _ => True) Tryz.underlying22 (by kernel_rfl) (fun fuel cs x hl h => by
  obtain ⟨xs, k, hk, hxy, _, hxl, hf⟩ := DataW.trod_struct Tryz.underlying111 h
  match xs, hxl, cs, hl with
  | [y0, y1, y2, y3], _, [c0, c1, c2, c3], _ =>
   have ci : Tryz.prog.cellsOf 3 = 1 := by kernel_rfl
   have g0 := hf 0 _ rfl
   have g1 := hf 1 _ rfl
   have g2 := hf 2 _ rfl
   have g3 := hf 3 _ rfl
   simp [ci] at g0 g1 g2 g3
   obtain ⟨x0, e0, _, _⟩ := DataW.trod_int Tryz.underlying3 g0
   obtain ⟨x1, e1, _, _⟩ := DataW.trod_int Tryz.underlying3 g1
   obtain ⟨x2, e2, _, _⟩ := DataW.trod_int Tryz.underlying3 g2
   obtain ⟨x3, e3, _, _⟩ := DataW.trod_int Tryz.underlying3 g3
   simp only [List.cons.injEq, and_true] at e0 e1 e2 e3
   exact ⟨⟨x0, x1, x2, x3⟩, by rw [e0, e1, e2, e3]; rfl, trivial⟩) h
 exact ⟨A, c, l, h1, h2, h3⟩
structure TokA where
 t : TokP
 A : Option Addr
 c : Nat
def tokL (x : TokA) : List Value := [.int .i64 x.t.u, .slice x.A x.t.gs.length x.c, .int .i64 x.t.p]
set_option maxRecDepth 100000 in
theorem open_tok {H : Type} {enc : TypeId × Value → H} {W : World} {r : Reach} {base : Nat} {v : Value} {d : DataW H} {p : List MemPlace}
 (hv : Value.okWide Tryz.prog W r base 27 v) (h : DataW.Trod enc Tryz.prog W 0 (fun _ => true) true 27 v d p) :
 ∃ (t : TokP) (A : Option Addr) (c : Nat), v = tokV t A c ∧ t.gs.length ≤ maxLen ∧ Rd W W.heap.size A (t.gs.map (.int .i64)) := by
 obtain ⟨y, h1, h2, h3⟩ := open_val (α := TokA) tokL 3 (fun x => x.t.gs.length ≤ maxLen ∧ Rd W W.heap.size x.A (x.t.gs.map (.int .i64))) Tryz.underlying27 (by kernel_rfl) (fun fuel cs x hl h => by
  obtain ⟨xs, k, hk, hxy, _, hxl, hf⟩ := DataW.trod_struct Tryz.underlying27 h
  match xs, hxl, cs, hl with
  | [y0, y1, y2], _, [c0, c1, c2], _ =>
   have ci : Tryz.prog.cellsOf 3 = 1 := by kernel_rfl
   have cl : Tryz.prog.cellsOf 25 = 1 := by kernel_rfl
   have g0 := hf 0 _ rfl
   have g1 := hf 1 _ rfl
   have g2 := hf 2 _ rfl
   simp [ci, cl] at g0 g1 g2
   obtain ⟨x0, e0, _, _⟩ := DataW.trod_int Tryz.underlying3 g0
   obtain ⟨A1, k1, l1, e1, m1, r1⟩ := trod_ints g1
   obtain ⟨x2, e2, _, _⟩ := DataW.trod_int Tryz.underlying3 g2
   simp only [List.cons.injEq, and_true] at e0 e1 e2
   exact ⟨⟨⟨x0, l1, x2⟩, A1, k1⟩, by rw [e0, e1, e2]; rfl, m1, r1⟩) hv h
 exact ⟨y.t, y.A, y.c, h1, h2, h3⟩
structure DscA where
 d : DscP
 A1 : Option Addr
 A2 : Option Addr
 c1 : Nat
 c2 : Nat
def dscL (x : DscA) : List Value := [.int .i64 x.d.o, .int .i64 x.d.g, .bool x.d.pr, .bool x.d.he, .slice x.A1 x.d.es.length x.c1, .slice x.A2 x.d.us.length x.c2]
def DscI (W : World) (x : DscA) : Prop := Rd W W.heap.size x.A1 (acesV x.d.es) ∧ Rd W W.heap.size x.A2 (acesV x.d.us)
set_option maxRecDepth 100000 in
theorem trod_dsc {H : Type} {enc : TypeId × Value → H} {W : World} {fuel : Nat} {cs : List Value} {x : DataW H × List MemPlace} (hl : cs.length = 6)
 (h : DataW.trod enc Tryz.prog W 0 (fun _ => true) true fuel 24 cs = some x) : ∃ y, cs = dscL y ∧ DscI W y := by
 obtain ⟨xs, k, hk, hxy, _, hxl, hf⟩ := DataW.trod_struct Tryz.underlying24 h
 match xs, hxl, cs, hl with
 | [y0, y1, y2, y3, y4, y5], _, [c0, c1, c2, c3, c4, c5], _ =>
  have ci : Tryz.prog.cellsOf 3 = 1 := by kernel_rfl
  have cb : Tryz.prog.cellsOf 4 = 1 := by kernel_rfl
  have cl : Tryz.prog.cellsOf 22 = 1 := by kernel_rfl
  have g0 := hf 0 _ rfl
  have g1 := hf 1 _ rfl
  have g2 := hf 2 _ rfl
  have g3 := hf 3 _ rfl
  have g4 := hf 4 _ rfl
  have g5 := hf 5 _ rfl
  simp [ci, cb, cl] at g0 g1 g2 g3 g4 g5
  obtain ⟨x0, e0, _, _⟩ := DataW.trod_int Tryz.underlying3 g0
  obtain ⟨x1, e1, _, _⟩ := DataW.trod_int Tryz.underlying3 g1
  obtain ⟨x2, e2, _⟩ := DataW.trod_bool Tryz.underlying4 g2
  obtain ⟨x3, e3, _⟩ := DataW.trod_bool Tryz.underlying4 g3
  obtain ⟨A4, k4, l4, e4, m4, r4⟩ := trod_aces g4
  obtain ⟨A5, k5, l5, e5, m5, r5⟩ := trod_aces g5
  simp only [List.cons.injEq, and_true] at e0 e1 e2 e3 e4 e5
  exact ⟨⟨⟨x0, x1, x2, x3, l4, l5⟩, A4, A5, k4, k5⟩, by rw [e0, e1, e2, e3, e4, e5]; rfl, r4, r5⟩
set_option maxRecDepth 100000 in
theorem open_dsc {H : Type} {enc : TypeId × Value → H} {W : World} {r : Reach} {base : Nat} {v : Value} {d : DataW H} {p : List MemPlace}
 (hv : Value.okWide Tryz.prog W r base 24 v) (h : DataW.Trod enc Tryz.prog W 0 (fun _ => true) true 24 v d p) :
 ∃ (y : DscP) (A1 A2 : Option Addr) (c1 c2 : Nat), v = dscV y A1 A2 c1 c2 ∧ Rd W W.heap.size A1 (acesV y.es) ∧ Rd W W.heap.size A2 (acesV y.us) := by
 obtain ⟨y, h1, h2, h3⟩ := open_val (α := DscA) dscL 6 (DscI W) Tryz.underlying24 (by kernel_rfl) (fun fuel cs x hl h => trod_dsc hl h) hv h
 exact ⟨y.d, y.A1, y.A2, y.c1, y.c2, h1, h2, h3⟩
end Go.Proofs.YtanicpgmbhfipaaGreatDoor
