/-
  Chapter 22: what a history means; whether it is strict. No program in sight.
  Chapter 21: the bytes that an operation touches; Apart.
  Chapter 21: Apart.
  Chapter 22: whether a history is strict.
  Chapter 22: the meaning of a history.
-/
import Derived.Test.YtcfdpfmchchkaaaGreatDoorRcA
import Derived.Test.YtcfdpfmchchkaaaGreatDoorOpF
import Derived.Test.YtcfdpfmchchkaaaGreatDoorRcG
import Derived.Test.YtcfdpfmchchkaaaGreatDoorOpI
namespace Go.Proofs.YtcfdpfmchchkaaaGreatDoor
set_option linter.unusedVariables false
set_option linter.unusedSimpArgs false
open Go.RowKit
def endE (y : Lge) (t : Int) : Bool := y.t == t && (y.k == 2 || y.k == 4)
def stlB (r : List Rcd) (t : Int) : Bool := r.any fun y => endE y.e t
def mkP (q : Pgp) (s : ByteArray) (n : Int) : ByteArray := if q.f then s else lsnW s n
def mngG : List Pgp → Int → List Rcd → List Pgp × Int × Int
 | p, n, [] => (p, n, 0)
 | p, n, x :: r => if (isOpE x.e && stlB r x.e.t) = true then (match fndP p x.e.g with
  | none => ([], 0, 0)
  | some q => if (opTry q.b x.e.o).2 ≠ 0 then ([], 0, (opTry q.b x.e.o).2) else mngG (setP p x.e.g (mkP q (opTry q.b x.e.o).1 x.l)) (n + 1) r) else mngG p n r
end Go.Proofs.YtcfdpfmchchkaaaGreatDoor
namespace Go.Proofs.YtcfdpfmchchkaaaGreatDoor
set_option linter.unusedVariables false
set_option linter.unusedSimpArgs false
open Go.RowKit Go.Sort
end Go.Proofs.YtcfdpfmchchkaaaGreatDoor
namespace Go.Proofs.YtcfdpfmchchkaaaGreatDoor
set_option linter.unusedVariables false
set_option linter.unusedSimpArgs false
open Go.RowKit Go.Sort
end Go.Proofs.YtcfdpfmchchkaaaGreatDoor
namespace Go.Proofs.YtcfdpfmchchkaaaGreatDoor
set_option linter.unusedVariables false
set_option linter.unusedSimpArgs false
set_option maxRecDepth 4000
open Go.RowKit Go.Sort Go.Shelf
theorem Rd.dropF {α : Type} {f : α → List Value} {n : Nat} (hf : ∀ x, (f x).length = n) {w : World} {B b o : Nat} {l : List α} (h : Rd w B (some ⟨b, o, none⟩) (l.flatMap f)) (k : Nat) : Rd w B (some ⟨b, o + k * n, none⟩) ((l.drop k).flatMap f) := fun j u hj => by
 rw [← flat_drop hf, List.getElem?_drop] at hj
 obtain ⟨b', o', e, h1, h2⟩ := h (k * n + j) u hj
 injection e with e
 injection e with e1 e2
 subst e1 e2
 exact ⟨b, o + k * n, rfl, h1, by rw [Nat.add_assoc]; exact h2⟩
theorem offJ_lt {o c l sz : Nat} (h : l < c) : offJ o c l sz = o + l * sz := by unfold offJ; rw [if_neg (by omega)]
end Go.Proofs.YtcfdpfmchchkaaaGreatDoor
namespace Go.Proofs.YtcfdpfmchchkaaaGreatDoor
set_option linter.unusedVariables false
set_option linter.unusedSimpArgs false
set_option maxRecDepth 4000
open Go.RowKit Go.Sort Go.Shelf
theorem Has.also {ds : List Deferred} {a : Act} {N t : Nat} {l : List (Nat × Value)} {v : Value} (h : Has ds a N l) (ht : look l t = some v) : Has ds a N ((t, v) :: l) := ⟨h.defers, h.size, fun u x hu => by
 unfold look at hu
 cases hb : Nat.beq t u with
 | true =>
  rw [hb] at hu
  obtain rfl := Nat.eq_of_beq_eq_true hb
  injection hu with hu
  subst hu
  exact h.slot _ _ ht
 | false => rw [hb] at hu; exact h.slot _ _ hu⟩
def ixP {α : Type} (p : α → Bool) : List α → Nat → Int
 | [], _ => -1
 | x :: r, k => if p x = true then k else ixP p r (k + 1)
theorem ixP_any {α : Type} (p : α → Bool) : ∀ (l : List α) (k : Nat), decide (ixP p l k ≥ 0) = l.any p
 | [], k => rfl
 | x :: r, k => by
  unfold ixP
  rw [List.any_cons]
  cases h : p x with
  | true => rw [if_pos rfl, decide_eq_true (by omega)]; rfl
  | false => rw [if_neg (by decide), ixP_any p r (k + 1)]; rfl
theorem IndexR_any (p : Rcd → Bool) (l : List Rcd) (A : Option Addr) (c : Nat) (f : FuncId) (cap : List Value) (w : World) (hr : Rd w w.heap.size A (l.flatMap rcdL)) (hlen : l.length ≤ 1000) (hfc : ∀ (vs : Array Value) (W : World), (callFunc f vs).run Tryz.prog W = .ok (.enter f vs) W)
 (hcl : ∀ X, Below w.heap.size w X → ∀ (k : Nat) (hk : k < l.length), Calls Tryz.prog f ([rcdV l[k]] ++ cap).toArray X fun e X' => e = .returned (.bool (p l[k])) ∧ Below X.heap.size X X') :
 Calls Tryz.prog 146 #[.slice A l.length c, .func (.func f) #[] cap.toArray] w fun e w' => e = .returned (.int .i64 (ixP p l 0)) ∧ Below w.heap.size w w' := by
 refine st_enter (N := 19) Tryz.func146 rfl rfl rfl (fun a0 h0 => ?_)
 have S0 := St.init w
 refine st_seq (st_reg ?_)
 refine ma h0 rfl rfl fun a1 h1 => ?_
 refine st_nil (go_then (st_seq (st_seq (st_reg ?_))))
 refine mv h1 rfl rfl fun a2 h2 => ?_
 refine sv h2 (ex_len Tryz.underlying41 (h2.ev rfl)) fun a3 h3 => ?_
 refine mv h3 rfl rfl fun a4 h4 => ?_
 refine st_nil (go_then (wp_block ?_))
 refine st_loop h4 S0 [7, 0, 1] (fun (j : Nat) => [(8, .int .i64 j)]) (fun (j : Nat) => j ≤ l.length ∧ ixP p l 0 = ixP p (l.drop j) j) (fun (j : Nat) L => L) (fun (j : Nat) => l.length - j) (0) (⟨Nat.zero_le _, rfl⟩) ⟨rfl, rfl, rfl, rfl, trivial⟩ (S0) ?_
 intro j a5 X5 hF0 h5 S5
 refine st_seq (st_reg ?_)
 refine sv h5 (ex_lss (h5.ev rfl) (h5.ev rfl)) fun a6 h6 => ?_
 refine st_nil (go_then (st_seq ?_))
 refine st_if (h6.ev rfl) (fun hc0 => ?_) (fun hc0 => ?_)
 ·
  have hlt : j < l.length := by have := of_decide_eq_true hc0; omega
  obtain ⟨b, o, rfl, hB, _⟩ := hr.opened (flat_pos rcdL_len (by decide) (by omega))
  have hd : l.drop j = l[j] :: l.drop (j + 1) := List.drop_eq_getElem_cons hlt
  refine wp_skip (go_then (st_seq (wp_block (st_seq (st_reg ?_)))))
  refine mv h6 rfl rfl fun a7 h7 => ?_
  refine ma h7 rfl rfl fun a8 h8 => ?_
  refine nsr ?_
  refine mv h8 rfl rfl fun a9 h9 => ?_
  refine mv h9 rfl rfl fun a10 h10 => ?_
  refine mv h10 rfl rfl fun a11 h11 => ?_
  refine sv h11 (ex_index (i := j) (sz := 14) Tryz.underlying41 (by kernel_rfl) (h11.ev rfl) (h11.ev rfl) (by omega) (by omega) rfl) fun a12 h12 => ?_
  refine sv (v := rcdV l[j]) h12 (ex_loads (by kernel_rfl) (by kernel_rfl) (h12.ev rfl) (flatAt rcdL_len (S5.rd0 hr) hlt)) fun a13 h13 => ?_
  refine sl_bel h13 (wn rfl) (ex_callv hfc (h13.ev rfl) (h13.evs rfl) rfl) rfl rfl S5 (hcl _ S5.below j hlt) fun a14 X14 h14 S14 => ?_
  refine st_nil (go_then ?_)
  refine st_if (h14.ev rfl) (fun hc1 => ?_) (fun hc1 => ?_)
  ·
   refine st_seq (st_reg ?_)
   refine mv h14 rfl rfl fun a15 h15 => ?_
   refine ma h15 rfl rfl fun a16 h16 => ?_
   refine st_nil (go_then (wp_ret (ret_block (ret_then (ret_then (ret_block (ret_then ?_)))))))
   refine fin1 h16 rfl rfl ?_
   exact ⟨by rw [hF0.2, hd, ixP, if_pos hc1], S14.below⟩
  ·
   refine wp_skip (go_block (go_then (st_reg ?_)))
   refine sv h14 (ex_add (h14.ev rfl) (h14.ev rfl) (by omega)) fun a17 h17 => ?_
   refine mv h17 rfl rfl fun a18 h18 => ?_
   refine st_nil (go_then ?_)
   exact ⟨j + 1, by omega, ⟨hlt, by rw [hF0.2, hd, ixP, if_neg (by rw [hc1]; decide)]⟩, h18.re ⟨rfl, rfl, rfl, rfl, trivial⟩, S14⟩
 ·
  have hge : l.length ≤ j := by have := of_decide_eq_false hc0; omega
  refine wp_exit ?_
  refine go_exit_then ?_
  refine go_exit_then ?_
  refine go_exit ?_
  refine go_then (st_seq (st_reg ?_))
  refine ma h6 rfl rfl fun a19 h19 => ?_
  refine st_nil (go_then (wp_ret ?_))
  refine fin1 h19 rfl rfl ?_
  exact ⟨by rw [hF0.2, List.drop_of_length_le hge]; rfl, S5.below⟩
theorem ContainsR_any (p : Rcd → Bool) (l : List Rcd) (A : Option Addr) (c : Nat) (f : FuncId) (cap : List Value) (w : World) (hr : Rd w w.heap.size A (l.flatMap rcdL)) (hlen : l.length ≤ 1000) (hfc : ∀ (vs : Array Value) (W : World), (callFunc f vs).run Tryz.prog W = .ok (.enter f vs) W)
 (hcl : ∀ X, Below w.heap.size w X → ∀ (k : Nat) (hk : k < l.length), Calls Tryz.prog f ([rcdV l[k]] ++ cap).toArray X fun e X' => e = .returned (.bool (p l[k])) ∧ Below X.heap.size X X') :
 Calls Tryz.prog 93 #[.slice A l.length c, .func (.func f) #[] cap.toArray] w fun e w' => e = .returned (.bool (l.any p)) ∧ Below w.heap.size w w' := by
 refine st_enter (N := 9) Tryz.func93 rfl rfl rfl (fun a0 h0 => ?_)
 have S0 := St.init w
 refine st_seq (st_reg ?_)
 refine ma h0 rfl rfl fun a1 h1 => ?_
 refine nsr ?_
 refine mv h1 rfl rfl fun a2 h2 => ?_
 refine mv h2 rfl rfl fun a3 h3 => ?_
 refine sl_bel h3 (wn rfl) (ex_call (fun _ _ => by kernel_rfl) (h3.evs rfl) rfl) rfl rfl S0 (IndexR_any p l A c f cap _ (S0.rd0 hr) hlen hfc (fun X hX k hk => hcl X (bel_trans S0.below hX) k hk)) fun a4 X4 h4 S4 => ?_
 refine sv h4 (ex_geq (h4.ev rfl) (h4.ev rfl)) fun a5 h5 => ?_
 refine ma h5 rfl rfl fun a6 h6 => ?_
 refine st_nil (go_then (wp_ret ?_))
 refine fin1 h6 rfl rfl ?_
 exact ⟨by rw [← ixP_any p l 0], S4.below⟩
theorem mean1_any (x y : Rcd) (b : Nat) (T : TypeId) (w : World) (hb : Box w b (rcdV x).cells T) :
 Calls Tryz.prog 94 #[rcdV y, .pointer (some ⟨b, 0, none⟩)] w fun e w' => e = .returned (.bool (endE y.e x.e.t)) ∧ Below w.heap.size w w' := by
 refine st_enter (N := 23) Tryz.func94 rfl rfl rfl (fun a0 h0 => ?_)
 have S0 := St.init w
 refine st_seq (st_reg ?_)
 refine nb h0 rfl rfl S0 fun b2 a1 X1 gb2 h1 S1 => ?_
 refine ma h1 rfl rfl fun a2 h2 => ?_
 refine nsr ?_
 refine vf h2 1 1 rfl rfl rfl fun a3 h3 => ?_
 refine vf h3 1 2 rfl rfl rfl fun a4 h4 => ?_
 refine vl h4 S1 0 rfl rfl rfl rfl fun a5 h5 => ?_
 refine sv h5 (ex_field (off := 1) (by kernel_rfl) (h5.ev rfl) rfl) fun a6 h6 => ?_
 refine sv h6 (ex_field (off := 1) (by kernel_rfl) (h6.ev rfl) rfl) fun a7 h7 => ?_
 refine sv h7 (ex_load (by kernel_rfl) (h7.ev rfl) (Box.cells (hb.below S1.below) 2)) fun a8 h8 => ?_
 refine sv h8 (ex_eql (h8.ev rfl) (h8.ev rfl)) fun a9 h9 => ?_
 refine mv h9 rfl rfl fun a10 h10 => ?_
 apply sl_and (x := (y.e.k == 2 || y.e.k == 4)) h10 S1 11 rfl 11 22
 case ht =>
  intro gc11
  refine sy h10 rfl rfl rfl gc11 (ex_field (off := 1) (j := 1) (by kernel_rfl) (h10.ev rfl) rfl) rfl rfl fun a11 h11 => ?_
  refine sy h11 rfl rfl rfl gc11 (ex_field (off := 0) (j := 1) (by kernel_rfl) (h11.ev rfl) rfl) rfl rfl fun a12 h12 => ?_
  refine sy h12 rfl rfl rfl gc11 (ex_load (by kernel_rfl) (h12.ev rfl) (S1.cell (i := 0) rfl rfl)) rfl rfl fun a13 h13 => ?_
  refine sy h13 rfl rfl rfl gc11 (ex_eql (h13.ev rfl) (h13.ev rfl)) rfl rfl fun a14 h14 => ?_
  refine sy h14 rfl rfl rfl gc11 (ex_move (h14.ev rfl)) rfl rfl fun a15 h15 => ?_
  apply sl_or (x := y.e.k == 4) h15 S1 16 rfl 5 21
  case hf =>
   intro gc16
   refine sy h15 rfl rfl rfl gc16 (ex_field (off := 1) (j := 1) (by kernel_rfl) (h15.ev rfl) rfl) rfl rfl fun a16 h16 => ?_
   refine sy h16 rfl rfl rfl gc16 (ex_field (off := 0) (j := 1) (by kernel_rfl) (h16.ev rfl) rfl) rfl rfl fun a17 h17 => ?_
   refine sy h17 rfl rfl rfl gc16 (ex_load (by kernel_rfl) (h17.ev rfl) (S1.cell (i := 0) rfl rfl)) rfl rfl fun a18 h18 => ?_
   refine sy h18 rfl rfl rfl gc16 (ex_eql (h18.ev rfl) (h18.ev rfl)) rfl rfl fun a19 h19 => ?_
   refine sy h19 rfl rfl rfl gc11 (ex_pick_f (h19.ev rfl) gc16 (h19.ev rfl)) rfl rfl fun a20 h20 => ?_
   exact st_nil ⟨h20.mid (m := [(_, _), (_, _), (_, _), (_, _)]) rfl, S1⟩
  case ht =>
   intro gc16
   refine no h15 rfl rfl rfl gc16 rfl rfl fun a21 h21 => ?_
   refine no h21 rfl rfl rfl gc16 rfl rfl fun a22 h22 => ?_
   refine no h22 rfl rfl rfl gc16 rfl rfl fun a23 h23 => ?_
   refine no h23 rfl rfl rfl gc16 rfl rfl fun a24 h24 => ?_
   refine sy h24 rfl rfl rfl gc11 (ex_pick_t (h24.ev rfl) gc16 (h24.ev rfl)) rfl rfl fun a25 h25 => ?_
   exact st_nil ⟨h25.mid (m := [(_, _), (_, _), (_, _), (_, _)]) rfl, S1⟩
  case h =>
   rintro a26 X26 ⟨h26, S26⟩
   refine sv h26 (ex_pick_t (h26.ev rfl) gc11 (h26.ev rfl)) fun a27 h27 => ?_
   exact st_nil ⟨h27.mid (m := [(_, _), (_, _), (_, _), (_, _), (_, _), (_, _)]) rfl, S26⟩
 case hf =>
  intro gc11
  refine no h10 rfl rfl rfl gc11 rfl rfl fun a28 h28 => ?_
  refine no h28 rfl rfl rfl gc11 rfl rfl fun a29 h29 => ?_
  refine no h29 rfl rfl rfl gc11 rfl rfl fun a30 h30 => ?_
  refine no h30 rfl rfl rfl gc11 rfl rfl fun a31 h31 => ?_
  refine no h31 rfl rfl rfl gc11 rfl rfl fun a32 h32 => ?_
  refine sl_no h32 (wanted_not h32 _ rfl rfl rfl) rfl rfl fun a33 h33 => ?_
  refine sl_no h33 (wanted_not h33 _ rfl rfl rfl) rfl rfl fun a34 h34 => ?_
  refine sl_no h34 (wanted_not h34 _ rfl rfl rfl) rfl rfl fun a35 h35 => ?_
  refine sl_no h35 (wanted_not h35 _ rfl rfl rfl) rfl rfl fun a36 h36 => ?_
  refine no h36 rfl rfl rfl gc11 rfl rfl fun a37 h37 => ?_
  refine sv h37 (ex_pick_f (h37.ev rfl) gc11 (h37.ev rfl)) fun a38 h38 => ?_
  exact st_nil ⟨h38.mid (m := [(_, _), (_, _), (_, _), (_, _), (_, _), (_, _), (_, _), (_, _), (_, _), (_, _)]) rfl, S1⟩
 case h =>
  rintro a39 X39 ⟨h39, S39⟩
  refine ma h39 rfl rfl fun a40 h40 => ?_
  refine st_nil (go_then (wp_ret ?_))
  refine fin1 h40 rfl rfl ?_
  exact ⟨rfl, S39.below⟩
theorem opTry_size {p : ByteArray} {x : Op} (hp : p.size = 512) (h : (opTry p x).2 = 0) : (opTry p x).1.size = 512 := by
 unfold opTry at h ⊢
 split at h
 · rename_i h1; exact absurd h h1
 · rename_i h1
   rw [if_neg h1]
   split at h
   · rename_i h2; rw [if_pos h2]; exact opDo_size hp ((opE_iff x).1 (by simpa using h1))
   · cases h
def mnfE (l : List Rcd) (p : List Pgp) : Int := firstE [(chkH l).2, pgfE l p]
def mnfG (l : List Rcd) (p : List Pgp) : List Pgp × Int × Int := if mnfE l p ≠ 0 then ([], 0, mnfE l p) else mngG p 0 l
theorem MeaningOf_any (l : List Rcd) (B : Option Addr) (d : Nat) (p : List Pgp) (A : Option Addr) (c : Nat) (w : World)
 (hr : Rd w w.heap.size A (p.flatMap pgpL)) (hq : Rd w w.heap.size B (l.flatMap rcdL)) (hl : l.length ≤ 1000) (hc : l.length ≤ d) (hpl : p.length ≤ 1000) (hF : FolT w) (hx : ∀ x ∈ l, FewE x.e ∧ I6 x.e.g) :
 Calls Tryz.prog 38 #[.slice B l.length d, .slice A p.length c] w fun e w' => ∃ i : Option Addr × Nat, e = .returned (.tuple #[.slice i.1 (mnfG l p).1.length i.2, .int .i64 (mnfG l p).2.1, .int .i64 (mnfG l p).2.2]) ∧
  St [] w w' [.row (.slice i.1 (mnfG l p).1.length i.2) (mnfG l p).1.length 111 3 ((mnfG l p).1.flatMap pgpL)] := by
 refine st_enter (N := 93) Tryz.func38 rfl rfl rfl (fun a0 h0 => ?_)
 have S0 := St.init w
 refine st_seq (st_reg ?_)
 refine ma h0 rfl rfl fun a1 h1 => ?_
 refine ma h1 rfl rfl fun a2 h2 => ?_
 refine ma h2 rfl rfl fun a3 h3 => ?_
 refine st_nil (go_then (st_seq (st_seq (st_reg ?_))))
 refine mv h3 rfl rfl fun a4 h4 => ?_
 refine sl_bel h4 (wn rfl) (ex_call (fun _ _ => by kernel_rfl) (h4.evs rfl) rfl) rfl rfl S0 (historyErr_any l B d _ (S0.rd0 hq) hl hc (hF.below S0.below) (fun x hm => (hx x hm).1)) fun a5 X5 h5 S5 => ?_
 refine mv h5 rfl rfl fun a6 h6 => ?_
 refine mv h6 rfl rfl fun a7 h7 => ?_
 refine sl_bel h7 (wn rfl) (ex_call (fun _ _ => by kernel_rfl) (h7.evs rfl) rfl) rfl rfl S5 (validPages_any p l A c B d _ (S5.rd0 hr) (S5.rd0 hq) hl (fun x hm => (hx x hm).2)) fun a8 X8 h8 S8 => ?_
 refine sl_new h8 (wn rfl) (f := fun b => .slice (some ⟨b, 0, none⟩) 2 2) (ex_bslice Tryz.underlying214 (by kernel_rfl) (by kernel_rfl) (h8.evs2 rfl) rfl rfl rfl (by decide) (by decide)) rfl rfl S8 fun b21 a9 X9 gb21 h9 S9 => ?_
 refine sl_pure h9 (wn rfl) (ex_call (fun _ _ => by kernel_rfl) (h9.evs rfl) rfl) rfl rfl (recovery_first2 (S9.at_ (i := 0) rfl)) fun a10 h10 => ?_
 refine ma h10 rfl rfl fun a11 h11 => ?_
 refine nsr ?_
 refine mv h11 rfl rfl fun a12 h12 => ?_
 refine sv h12 (ex_neq (h12.ev rfl) (h12.ev rfl)) fun a13 h13 => ?_
 refine st_nil (go_then ?_)
 refine st_if (h13.ev rfl) (fun hc0 => ?_) (fun hc0 => ?_)
 ·
  have hne : mnfE l p ≠ 0 := by unfold mnfE; simpa using hc0
  have e1 : mnfG l p = ([], 0, mnfE l p) := by unfold mnfG; rw [if_pos hne]
  refine st_seq (st_reg ?_)
  refine mv h13 rfl rfl fun a14 h14 => ?_
  refine ma h14 rfl rfl fun a15 h15 => ?_
  refine ma h15 rfl rfl fun a16 h16 => ?_
  refine ma h16 rfl rfl fun a17 h17 => ?_
  refine st_nil (go_then (wp_ret (ret_then ?_)))
  refine fin3 h17 rfl rfl rfl rfl ?_
  refine ⟨(none, 0), by rw [e1]; rfl, ?_⟩
  rw [e1]
  exact (S9.sub (List.nil_sublist _)).nilRow 111 3
 ·
  have hz : mnfE l p = 0 := by unfold mnfE; simpa using hc0
  have e1 : mnfG l p = mngG p 0 l := by unfold mnfG; rw [if_neg (fun h => h hz)]
  have hz2 := hz
  unfold mnfE at hz2
  rw [firstE_zero] at hz2
  obtain ⟨g1, g2⟩ := pgf_ok (hz2 (pgfE l p) (by simp))
  have hvl := (chk_vld (hz2 (chkH l).2 (by simp))).2
  refine wp_skip (go_then (st_seq (st_reg ?_)))
  refine mv h13 rfl rfl fun a18 h18 => ?_
  refine sl_own h18 (wn rfl) (ex_call (fun _ _ => by kernel_rfl) (h18.evs rfl) rfl) rfl rfl S9 (cloneP_any p A c _ (S9.rd0 hr) hpl) (Nat.le_refl _) fun A27 c27 a19 X19 h19 S19 => ?_
  refine ma h19 rfl rfl fun a20 h20 => ?_
  refine nsr ?_
  refine ma h20 rfl rfl fun a21 h21 => ?_
  refine st_nil (go_then (st_seq (st_seq (st_reg ?_))))
  refine mv h21 rfl rfl fun a22 h22 => ?_
  refine sv h22 (ex_len Tryz.underlying41 (h22.ev rfl)) fun a23 h23 => ?_
  refine mv h23 rfl rfl fun a24 h24 => ?_
  refine st_nil (go_then (wp_block ?_))
  refine st_loop h24 S19 [29, 28, 8, 0] (fun (q : RdoS) => [(30, .int .i64 q.j), (9, .int .i64 q.n)]) (fun (q : RdoS) => q.j ≤ l.length ∧ mngG p 0 l = mngG q.p q.n (l.drop q.j) ∧ PgsOk q.p ∧ q.p.length = p.length ∧ 0 ≤ q.n ∧ q.n ≤ q.j ∧ (∀ x ∈ l, forE q.p x = 0)) (fun q L => L.set 0 (.row (.slice A27 p.length c27) p.length 111 3 (q.p.flatMap pgpL))) (fun (q : RdoS) => l.length - q.j) (⟨0, p, 0⟩) (⟨Nat.zero_le _, rfl, g1, rfl, Int.le_refl 0, Int.le_refl 0, g2⟩) ⟨rfl, rfl, rfl, rfl, rfl, rfl, trivial⟩ (S19) ?_
  intro q a25 X25 hF0 h25 S25
  refine st_seq (st_reg ?_)
  refine sv h25 (ex_lss (h25.ev rfl) (h25.ev rfl)) fun a26 h26 => ?_
  refine st_nil (go_then (st_seq ?_))
  refine st_if (h26.ev rfl) (fun hc1 => ?_) (fun hc1 => ?_)
  ·
   have hlt : q.j < l.length := by have := of_decide_eq_true hc1; omega
   obtain ⟨b5, o5, rfl, hB5, _⟩ := hq.opened (flat_pos rcdL_len (by decide) (by omega))
   have hdr : l.drop q.j = l[q.j] :: l.drop (q.j + 1) := List.drop_eq_getElem_cons hlt
   obtain ⟨hxe, hxg⟩ := hx _ (List.getElem_mem hlt)
   obtain ⟨-, hun, hpo, hple, hn0, hnj, hfo⟩ := hF0
   rw [hdr, mngG] at hun
   have hkk : ∀ x ∈ q.p, 0 ≤ x.g ∧ x.g ≤ 600 := fun x hx => by
    obtain ⟨k, hk, rfl⟩ := List.getElem_of_mem hx
    exact (hpo.all k hk).g
   have hlx := hvl.e0 hlt
   have hrl : (l.drop (q.j + 1)).length = l.length - (q.j + 1) := List.length_drop ..
   have hrdJ : Rd w w.heap.size (some ⟨b5, offJ o5 d (q.j + 1) 14, none⟩) ((l.drop (q.j + 1)).flatMap rcdL) := by
    rcases Nat.lt_or_ge (q.j + 1) l.length with h | h
    · rw [offJ_lt (by omega)]; exact hq.dropF rcdL_len (q.j + 1)
    · rw [List.drop_of_length_le h]; exact Rd.nil _ _ _
   refine wp_skip (go_then (st_seq (wp_block (st_seq (st_reg ?_)))))
   refine mv h26 rfl rfl fun a27 h27 => ?_
   refine sv h27 (ex_index (i := q.j) (sz := 14) Tryz.underlying41 (by kernel_rfl) (h27.ev rfl) (h27.ev rfl) (by omega) (by omega) rfl) fun a28 h28 => ?_
   refine sv (v := rcdV l[q.j]) h28 (ex_loads (by kernel_rfl) (by kernel_rfl) (h28.ev rfl) (flatAt rcdL_len (S25.rd0 hq) hlt)) fun a29 h29 => ?_
   refine na (.agg #[.int .i64 0, .int .i64 0, .int .i64 0, .int .i64 0, .int .i64 0, .int .i64 0, .bool false, .int .i64 0, .int .i64 0, .int .i64 0, .int .i64 0, .string ⟨#[]⟩, .string ⟨#[]⟩, .string ⟨#[]⟩]) h29 rfl S25 fun b11 a30 X30 gb11 h30 S30 => ?_
   refine ma h30 rfl rfl fun a31 h31 => ?_
   refine sl_store0 h31 (wn rfl) ⟨rfl, rfl⟩ (h31.ev rfl) (h31.ev rfl) rfl (by kernel_rfl) S30 (i := 0) rfl rfl rfl fun X32 S32 => ?_
   refine nsr ?_
   refine mv h31 rfl rfl fun a33 h33 => ?_
   refine mv h33 rfl rfl fun a34 h34 => ?_
   refine sv h34 (ex_add (h34.ev rfl) (h34.ev rfl) (by omega)) fun a35 h35 => ?_
   refine sv h35 (ex_sliceJ (l := q.j + 1) (h := l.length) (sz := 14) Tryz.underlying41 (by kernel_rfl) (h35.ev rfl) (h35.ev rfl) rfl (by omega) (by omega)) fun a36 h36 => ?_
   refine sv h36 (ex_func (h36.evs rfl) (h36.evs rfl)) fun a37 h37 => ?_
   refine sl_bel h37 (wn rfl) (ex_call (fun _ _ => by kernel_rfl) (h37.evs rfl) rfl) rfl rfl S32 (hrl ▸ ContainsR_any (fun y => endE y.e l[q.j].e.t) (l.drop (q.j + 1)) _ (d - (q.j + 1)) 94 [.pointer (some ⟨b11, 0, none⟩)] _ (S32.rd0 hrdJ) (by omega) (fun _ _ => by kernel_rfl) (fun X hX k hk => mean1_any l[q.j] _ b11 _ X (Box.below (S32.at_ (i := 0) rfl) hX))) fun a38 X38 h38 S38 => ?_
   refine ma h38 rfl rfl fun a39 h39 => ?_
   refine st_nil (go_then (st_seq (st_seq (st_reg ?_))))
   refine vf h39 1 1 rfl rfl rfl fun a40 h40 => ?_
   refine sv (v := entV l[q.j].e) h40 (ex_loads (by kernel_rfl) (by kernel_rfl) (h40.ev rfl) (S38.cellsOf (i := 0) rfl 1 13)) fun a41 h41 => ?_
   refine sl_bel h41 (wn rfl) (ex_call (fun _ _ => by kernel_rfl) (h41.evs rfl) rfl) rfl rfl S38 (isop_any _ _) fun a42 X42 h42 S42 => ?_
   refine sv h42 (ex_not (h42.ev rfl)) fun a43 h43 => ?_
   refine mv h43 rfl rfl fun a44 h44 => ?_
   apply sl_or (x := !(stlB (l.drop (q.j + 1)) l[q.j].e.t)) h44 S42 45 rfl 3 48
   case hf =>
    intro gc45
    refine sy h44 rfl rfl rfl gc45 (ex_move (h44.ev rfl)) rfl rfl fun a45 h45 => ?_
    refine sy h45 rfl rfl rfl gc45 (ex_not (h45.ev rfl)) rfl rfl fun a46 h46 => ?_
    refine sv h46 (ex_pick_f (h46.ev rfl) gc45 (h46.ev rfl)) fun a47 h47 => ?_
    exact st_nil ⟨h47.mid (m := [(_, _), (_, _)]) rfl, S42⟩
   case ht =>
    intro gc45
    refine no h44 rfl rfl rfl gc45 rfl rfl fun a48 h48 => ?_
    refine no h48 rfl rfl rfl gc45 rfl rfl fun a49 h49 => ?_
    refine sv h49 (ex_pick_t (h49.ev rfl) gc45 (h49.ev rfl)) fun a50 h50 => ?_
    exact st_nil ⟨h50.mid (m := [(_, _), (_, _)]) rfl, S42⟩
   case h =>
    rintro a51 X51 ⟨h51, S51⟩
    refine st_nil (go_then ?_)
    refine st_if (h51.ev rfl) (fun hc2 => ?_) (fun hc2 => ?_)
    ·
     have hno : ¬ (isOpE l[q.j].e && stlB (l.drop (q.j + 1)) l[q.j].e.t) = true := fun h => by
      obtain ⟨u1, u2⟩ := Bool.and_eq_true_iff.1 h
      rw [u1, u2] at hc2; cases hc2
     rw [if_neg hno] at hun
     refine wp_exit ?_
     refine go_exit_then ?_
     refine go_exit ?_
     refine go_then (st_reg ?_)
     refine sv h51 (ex_add (h51.ev rfl) (h51.ev rfl) (by omega)) fun a52 h52 => ?_
     refine mv h52 rfl rfl fun a53 h53 => ?_
     refine st_nil (go_then ?_)
     exact ⟨⟨q.j + 1, q.p, q.n⟩, (by show l.length - (q.j + 1) < l.length - q.j; omega), ⟨hlt, hun, hpo, hple, hn0, by show q.n ≤ ((q.j + 1 : Nat) : Int); omega, hfo⟩, h53.re ⟨rfl, rfl, rfl, rfl, rfl, rfl, trivial⟩, S51.sub (.cons _ (.cons_cons _ (.cons_cons _ .slnil)))⟩
    ·
     obtain ⟨u1, u2⟩ := Bool.or_eq_false_iff.1 hc2
     have hyes : (isOpE l[q.j].e && stlB (l.drop (q.j + 1)) l[q.j].e.t) = true := by rw [Bool.and_eq_true]; exact ⟨by simpa using u1, by simpa using u2⟩
     rw [if_pos hyes] at hun
     obtain ⟨qq, hqq, hqf⟩ := forE_ok (hfo _ (List.getElem_mem hlt)) (by simpa using u1)
     refine wp_skip (go_then (st_seq (st_reg ?_)))
     refine mv h51 rfl rfl fun a54 h54 => ?_
     refine vf h54 1 1 rfl rfl rfl fun a55 h55 => ?_
     refine vf h55 4 5 rfl rfl rfl fun a56 h56 => ?_
     refine vl h56 S51 0 rfl rfl rfl rfl fun a57 h57 => ?_
     refine sl_bel h57 (wn rfl) (ex_call (fun _ _ => by kernel_rfl) (h57.evs rfl) rfl) rfl rfl S51 (hple ▸ at_any q.p hpo.srt hkk A27 c27 l[q.j].e.g hxg _ (S51.rdOf (i := 1) rfl) (by have := hpo.n; omega)) fun a58 X58 h58 S58 => ?_
     refine ma h58 rfl rfl fun a59 h59 => ?_
     obtain ⟨b', o', rfl, qk, q1, q2, q3⟩ := fndB_get hpo.srt (S58.rdOf (i := 1) rfl) (fndB_some hpo.srt (S58.rdOf (i := 1) rfl) hqq)
     obtain rfl : o' = 0 := own_off (S58.at_ (i := 1) rfl)
     rw [Nat.zero_add] at q3
     generalize bsN Pgp.g q.p l[q.j].e.g = k at qk q1 q2 q3
     have hq9 : qq = q.p[k] := by rw [q2] at hqq; injection hqq with e; exact e.symm
     subst hq9
     rw [q2] at hun
     simp only [] at hun
     have h512 := (hpo.all k qk).b
     have hone : opOne q.p[k].b l[q.j].e.o = (opTry q.p[k].b l[q.j].e.o) := by unfold opOne; rw [if_neg (fun h => h (by unfold pageE; rw [h512]; rfl))]
     refine st_nil (go_then (st_seq ?_))
     apply dr_flow h59 [false, false, false, false, false, false, false, false, false, false, false, false] _ (by kernel_rfl)
     case h =>
      refine qv h59 (fun X hX => as_val (v' := .pointer (some ⟨b', k * 3, none⟩)) (congrArg Value.pointer q3) (ex_move (h59.ev rfl))) fun a60 h60 => ?_
      refine qv h60 (fun X hX => ex_nilck (h60.ev rfl)) fun a61 h61 => ?_
      refine qv h61 (fun X hX => ex_field (off := 2) (by kernel_rfl) (h61.ev rfl) rfl) fun a62 h62 => ?_
      refine qv h62 (fun X hX => ex_load (by kernel_rfl) (h62.ev rfl) (by have := (flatAt pgpL_len ((S58.grow hX).rdOf (i := 1) rfl) qk) 2 _ rfl; rw [Nat.zero_add] at this; exact this)) fun a63 h63 => ?_
      refine qv h63 (fun X hX => ex_field (off := 1) (j := 1) (by kernel_rfl) (h63.ev rfl) rfl) fun a64 h64 => ?_
      refine qv h64 (fun X hX => ex_field (off := 6) (j := 7) (by kernel_rfl) (h64.ev rfl) rfl) fun a65 h65 => ?_
      refine qv (v := opV l[q.j].e.o) h65 (fun X hX => ex_loads (by kernel_rfl) (by kernel_rfl) (h65.ev rfl) ((S58.grow hX).cellsOf (i := 0) rfl 7 6)) fun a66 h66 => ?_
      refine sq_bel h66 (wn rfl) rfl rfl (fun X => (ex_call (fun _ _ => by kernel_rfl) (h66.evs rfl) rfl)) (fun X hX => Applied_any q.p[k].b l[q.j].e.o _ (by rw [h512]; decide) hxe.o hxe.n) fun a67 h67 => ?_
      refine qv h67 (fun X hX => ex_move (h67.ev rfl)) fun a68 h68 => ?_
      refine qv h68 (fun X hX => ex_extract (h68.ev rfl) rfl) fun a69 h69 => ?_
      refine qv h69 (fun X hX => ex_extract (h69.ev rfl) rfl) fun a70 h70 => ?_
      refine qv h70 (fun X hX => ex_assign (h70.ev rfl)) fun a71 h71 => ?_
      refine sq_nil ?_
      refine nd_end fun X72 hX72 hΦ72 => ?_
      have S72 := S58.grow hX72
      refine ma h71 rfl rfl fun a73 h73 => ?_
      rw [hone] at h73
      obtain ⟨S9, hS9⟩ : ∃ S9, S9 = if ((opTry q.p[k].b l[q.j].e.o).2 == 0 && !q.p[k].f) = true then lsnW (opTry q.p[k].b l[q.j].e.o).1 l[q.j].l else (opTry q.p[k].b l[q.j].e.o).1 := ⟨_, rfl⟩
      refine st_nil (go_then (st_seq (st_seq (st_reg ?_))))
      refine mv h73 rfl rfl fun a74 h74 => ?_
      refine sv h74 (ex_eql (h74.ev rfl) (h74.ev rfl)) fun a75 h75 => ?_
      refine mv h75 rfl rfl fun a76 h76 => ?_
      apply sl_and (x := !q.p[k].f) h76 S72 67 rfl 6 73
      case ht =>
       intro gc67
       refine sy h76 rfl rfl rfl gc67 (as_val (v' := .pointer (some ⟨b', k * 3, none⟩)) (congrArg Value.pointer q3) (ex_move (h76.ev rfl))) rfl rfl fun a77 h77 => ?_
       refine sy h77 rfl rfl rfl gc67 (ex_nilck (h77.ev rfl)) rfl rfl fun a78 h78 => ?_
       refine sy h78 rfl rfl rfl gc67 (ex_field (off := 1) (by kernel_rfl) (h78.ev rfl) rfl) rfl rfl fun a79 h79 => ?_
       refine sy h79 rfl rfl rfl gc67 (ex_load (by kernel_rfl) (h79.ev rfl) (by have := (flatAt pgpL_len (S72.rdOf (i := 1) rfl) qk) 1 _ rfl; rw [Nat.zero_add] at this; exact this)) rfl rfl fun a80 h80 => ?_
       refine sy h80 rfl rfl rfl gc67 (ex_not (h80.ev rfl)) rfl rfl fun a81 h81 => ?_
       refine sv h81 (ex_pick_t (h81.ev rfl) gc67 (h81.ev rfl)) fun a82 h82 => ?_
       exact st_nil ⟨h82.mid (m := [(_, _), (_, _), (_, _), (_, _), (_, _)]) rfl, S72⟩
      case hf =>
       intro gc67
       refine no h76 rfl rfl rfl gc67 rfl rfl fun a83 h83 => ?_
       refine no h83 rfl rfl rfl gc67 rfl rfl fun a84 h84 => ?_
       refine no h84 rfl rfl rfl gc67 rfl rfl fun a85 h85 => ?_
       refine no h85 rfl rfl rfl gc67 rfl rfl fun a86 h86 => ?_
       refine no h86 rfl rfl rfl gc67 rfl rfl fun a87 h87 => ?_
       refine sv h87 (ex_pick_f (h87.ev rfl) gc67 (h87.ev rfl)) fun a88 h88 => ?_
       exact st_nil ⟨h88.mid (m := [(_, _), (_, _), (_, _), (_, _), (_, _)]) rfl, S72⟩
      case h =>
       rintro a89 X89 ⟨h89, S89⟩
       refine st_nil (go_then ?_)
       refine st_joinH h89 S89 [(14, .string S9), (15, .int .i64 (opTry q.p[k].b l[q.j].e.o).2)] [73, 67, 66, 65, 64, 63, 54, 62, 61, 60, 59, 58, 57, 56, 55, 13, 53, 52, 51, 50, 49, 48, 45, 44, 43, 42, 41, 12, 40, 39, 38, 37, 36, 35, 10, 11, 34, 33, 32, 31, 30, 9, 29, 28, 8, 0] ?_ (fun a90 X90 h90 S90 => ?_)
       ·
        refine st_if (h89.ev rfl) (fun hc3 => ?_) (fun hc3 => ?_)
        ·
         have hT0 : (opTry q.p[k].b l[q.j].e.o).2 = 0 := by simpa using (Bool.and_eq_true_iff.1 hc3).1
         have hT5 := opTry_size h512 hT0
         have hw0 : wlE (opTry q.p[k].b l[q.j].e.o).1 l[q.j].l = 0 := by
          unfold wlE
          rw [firstE_zero]
          simp only [List.mem_cons, List.not_mem_nil, or_false, forall_eq_or_imp, forall_eq]
          exact ⟨by unfold pageE; rw [hT5]; rfl, (unl_zero (by decide)).2 (inB_true.2 ⟨by omega, by omega⟩)⟩
         refine st_reg ?_
         refine mv h89 rfl rfl fun a91 h91 => ?_
         refine vf h91 0 0 rfl rfl rfl fun a92 h92 => ?_
         refine vl h92 S89 0 rfl rfl rfl rfl fun a93 h93 => ?_
         refine sl_bel h93 (wn rfl) (ex_call (fun _ _ => by kernel_rfl) (h93.evs rfl) rfl) rfl rfl S89 (WithLSN_any (opTry q.p[k].b l[q.j].e.o).1 l[q.j].l _ (by rw [hT5]; decide)) fun a94 X94 h94 S94 => ?_
         refine mv h94 rfl rfl fun a95 h95 => ?_
         refine vx h95 rfl rfl rfl fun a96 h96 => ?_
         refine vx h96 rfl rfl rfl fun a97 h97 => ?_
         refine ma h97 rfl rfl fun a98 h98 => ?_
         refine ma h98 rfl rfl fun a99 h99 => ?_
         refine st_nil (go_then ?_)
         rw [show (if wlE (opTry q.p[k].b l[q.j].e.o).1 l[q.j].l = 0 then wLsn (opTry q.p[k].b l[q.j].e.o).1 l[q.j].l else ⟨#[]⟩) = S9 by rw [hS9, if_pos hw0, if_pos hc3]; rfl, show wlE (opTry q.p[k].b l[q.j].e.o).1 l[q.j].l = (opTry q.p[k].b l[q.j].e.o).2 by rw [hw0, hT0]] at h99
         exact ⟨h99.re ⟨rfl, rfl, rfl, rfl, rfl, rfl, rfl, rfl, rfl, rfl, rfl, rfl, rfl, rfl, rfl, rfl, rfl, rfl, rfl, rfl, rfl, rfl, rfl, rfl, rfl, rfl, rfl, rfl, rfl, rfl, rfl, rfl, rfl, rfl, rfl, rfl, rfl, rfl, rfl, rfl, rfl, rfl, rfl, rfl, rfl, rfl, rfl, rfl, trivial⟩, S94⟩
        ·
         refine wp_skip (go_then ?_)
         replace h89 := Has.also h89 (t := 14) (v := .string S9) ((show look _ 14 = some (.string (opTry q.p[k].b l[q.j].e.o).1) from rfl).trans (by rw [hS9, if_neg (by rw [hc3]; decide)]))
         exact ⟨h89.re ⟨rfl, rfl, rfl, rfl, rfl, rfl, rfl, rfl, rfl, rfl, rfl, rfl, rfl, rfl, rfl, rfl, rfl, rfl, rfl, rfl, rfl, rfl, rfl, rfl, rfl, rfl, rfl, rfl, rfl, rfl, rfl, rfl, rfl, rfl, rfl, rfl, rfl, rfl, rfl, rfl, rfl, rfl, rfl, rfl, rfl, rfl, rfl, rfl, trivial⟩, S89⟩
       ·
        refine go_then (st_seq (st_seq (st_reg ?_)))
        refine mv h90 rfl rfl fun a100 h100 => ?_
        refine sv h100 (ex_neq (h100.ev rfl) (h100.ev rfl)) fun a101 h101 => ?_
        refine st_nil (go_then ?_)
        refine st_if (h101.ev rfl) (fun hc4 => ?_) (fun hc4 => ?_)
        ·
         have he : (opTry q.p[k].b l[q.j].e.o).2 ≠ 0 := by simpa using hc4
         rw [if_pos he] at hun
         refine st_seq (st_reg ?_)
         refine mv h101 rfl rfl fun a102 h102 => ?_
         refine ma h102 rfl rfl fun a103 h103 => ?_
         refine ma h103 rfl rfl fun a104 h104 => ?_
         refine ma h104 rfl rfl fun a105 h105 => ?_
         refine st_nil (go_then (wp_ret (ret_then (ret_block (ret_then (ret_then (ret_block (ret_then ?_))))))))
         refine fin3 h105 rfl rfl rfl rfl ?_
         refine ⟨(none, 0), by rw [e1, hun]; (try rfl), ?_⟩
         rw [e1, hun]
         exact (S90.sub (List.nil_sublist _)).nilRow 111 3
        ·
         have he : (opTry q.p[k].b l[q.j].e.o).2 = 0 := by simpa using hc4
         rw [if_neg (fun h => h he)] at hun
         have hmk : mkP q.p[k] (opTry q.p[k].b l[q.j].e.o).1 l[q.j].l = S9 := by
          rw [hS9, he]
          unfold mkP
          cases q.p[k].f <;> rfl
         have hT5 := opTry_size h512 he
         have hs5 : S9.size = 512 := by
          rw [hS9]
          split
          · exact lsnW_size hT5
          · exact hT5
         rw [hmk] at hun
         have hpo2 := setP_ok hpo l[q.j].e.g S9 hs5
         have hfl := setP_flat hpo.srt qk S9
         rw [q1] at hfl
         refine wp_skip (go_then (st_seq (st_reg ?_)))
         refine sv h101 (as_val (v' := .pointer (some ⟨b', k * 3, none⟩)) (congrArg Value.pointer q3) (ex_move (h101.ev rfl))) fun a106 h106 => ?_
         refine mv h106 rfl rfl fun a107 h107 => ?_
         refine sv h107 (ex_nilck (h107.ev rfl)) fun a108 h108 => ?_
         refine sv h108 (ex_field (off := 2) (by kernel_rfl) (h108.ev rfl) rfl) fun a109 h109 => ?_
         refine sl_rowset h109 (wn rfl) ⟨rfl, rfl⟩ (h109.ev rfl) (h109.ev rfl) rfl (by kernel_rfl) S90 (i := 1) rfl rfl (by show k * 3 + 2 + 1 ≤ p.length * 3; omega) fun X110 S110 => ?_
         refine st_nil (go_then (st_reg ?_))
         refine mv h109 rfl rfl fun a111 h111 => ?_
         refine sv h111 (ex_add (h111.ev rfl) (h111.ev rfl) (by omega)) fun a112 h112 => ?_
         refine ma h112 rfl rfl fun a113 h113 => ?_
         refine st_nil (go_block (go_then (st_reg ?_)))
         refine sv h113 (ex_add (h113.ev rfl) (h113.ev rfl) (by omega)) fun a114 h114 => ?_
         refine mv h114 rfl rfl fun a115 h115 => ?_
         refine st_nil (go_then ?_)
         exact ⟨⟨q.j + 1, setP q.p l[q.j].e.g S9, q.n + 1⟩, (by show l.length - (q.j + 1) < l.length - q.j; omega), ⟨hlt, hun, hpo2, by rw [setP_len]; exact hple, by show 0 ≤ q.n + 1; omega, by show q.n + 1 ≤ ((q.j + 1 : Nat) : Int); omega, fun x hx => by rw [forE_setP]; exact hfo x hx⟩, h115.re ⟨rfl, rfl, rfl, rfl, rfl, rfl, trivial⟩, (by show St _ w _ [.row _ _ _ _ ((setP q.p l[q.j].e.g S9).flatMap pgpL), _]; rw [hfl]; exact (S110.sub (.cons _ (.cons_cons _ (.cons_cons _ .slnil)))))⟩
     case hB => kernel_rfl
     case hst => rfl
  ·
   have hge : l.length ≤ q.j := by have := of_decide_eq_false hc1; omega
   obtain ⟨-, hun, hpo, hple, -, -, -⟩ := hF0
   rw [List.drop_of_length_le hge, mngG] at hun
   refine wp_exit ?_
   refine go_exit_then ?_
   refine go_exit_then ?_
   refine go_exit ?_
   refine go_then (st_seq (st_reg ?_))
   refine mv h26 rfl rfl fun a116 h116 => ?_
   refine mv h116 rfl rfl fun a117 h117 => ?_
   refine ma h117 rfl rfl fun a118 h118 => ?_
   refine ma h118 rfl rfl fun a119 h119 => ?_
   refine ma h119 rfl rfl fun a120 h120 => ?_
   refine st_nil (go_then (wp_ret ?_))
   refine fin3 h120 rfl rfl rfl rfl ?_
   refine ⟨(A27, c27), by rw [e1, hun, ← hple]; (try rfl), ?_⟩
   rw [e1, hun]
   show St [] w _ [.row (.slice A27 q.p.length c27) q.p.length _ _ _]
   rw [hple]
   exact (S25.sub (.cons_cons _ (.cons _ .slnil)))
end Go.Proofs.YtcfdpfmchchkaaaGreatDoor
