/-
  Chapter 21: BytesOf, Applied, equal lists, and the examples of the document.
-/
import Derived.Test.YtgmipogidmcilaaDoorOpBet
import Derived.Test.YtgmipogidmcilaaDoorOpByt
namespace Go.Proofs.YtgmipogidmcilaaDoor
set_option linter.unusedVariables false
set_option linter.unusedSimpArgs false
open Go.RowKit Go.Sort

def opBytesE (x : Op) : ByteArray := if opE x = 0 then bs (opBytesL x) else ⟨#[]⟩
set_option maxRecDepth 100000 in
set_option maxHeartbeats 1000000 in
theorem BytesOf_any (x : Op) (w : World) (ho : x.o.size ≤ 3100) (hn : x.n.size ≤ 3100) :
    Calls Tryd.prog 31 #[opV x] w fun r w' => r = .returned (.tuple #[.string (opBytesE x), .int .i64 (opE x)]) ∧ Below w.heap.size w w' := by
  have hE := fun W => CheckOp_any x W ho hn
  obtain ⟨er, her⟩ : ∃ e, e = opE x := ⟨_, rfl⟩
  rw [← her] at hE ⊢
  have HE := Lib.hid hE
  clear hE
  by_cases h0 : er = 0
  · have hok := (opE_iff x).1 (her.symm.trans h0)
    have hB := fun W => opBytes_any x W (opOK_pos hok)
    have e : opBytesE x = bs (opBytesL x) := by unfold opBytesE; rw [if_pos (her.symm.trans h0)]
    rw [e]
    have HB := Lib.hid hB
    have h0' : (er != 0) = false := by simp [h0]
    have HZ := Lib.hid h0
    clear hB hok her h0 e
    unfold opV at *
    go_enter Tryd.func31, Tryd.ntmps31
    go_wp2_with (first | ((go_at_call 21; (with_reducible refine (HE.out _).mono ?_); rintro e W1 ⟨rfl, hbW1⟩; obtain ⟨hcW1, hfW1⟩ := bcell hbW1); have hsW1 : w.heap.size < W1.heap.size := (by have h := hbW1.size; simp at h; omega)) | (go_at_call 68; (with_reducible refine (HB.out _).mono ?_); rintro e W2 ⟨rfl, hbW2⟩; obtain ⟨hcW2, hfW2⟩ := bcell hbW2))
    go_ret2
    exact ⟨retSI rfl HZ.out.symm, by (repeat (first | assumption | exact Below.refl _ _ | refine bel_drewN ?_ _ | refine bel_alloc ?_ _ | refine bel_trans ?_ (by assumption) | refine Below.trans ?_ (by assumption)))⟩
  · have h0' : (er != 0) = true := by simp [h0]
    have e : opBytesE x = ⟨#[]⟩ := by unfold opBytesE; rw [if_neg (fun h => h0 (her.trans h))]
    rw [e]
    clear her h0 e
    unfold opV at *
    go_enter Tryd.func31, Tryd.ntmps31
    go_wp2_with (first | ((go_at_call 21; (with_reducible refine (HE.out _).mono ?_); rintro e W1 ⟨rfl, hbW1⟩; obtain ⟨hcW1, hfW1⟩ := bcell hbW1); have hsW1 : w.heap.size < W1.heap.size := (by have h := hbW1.size; simp at h; omega)))
    go_ret2
    exact ⟨rfl, by (repeat (first | assumption | exact Below.refl _ _ | refine bel_drewN ?_ _ | refine bel_alloc ?_ _ | refine bel_trans ?_ (by assumption) | refine Below.trans ?_ (by assumption)))⟩

theorem AppliedAll_any (p : ByteArray) (A : Option Addr) (c : Nat) (l : List Op) (w : World) (hp : p.size ≤ maxLen) (hl : l.length ≤ 1000) (hs : ShortOps l) (hr : Rd w w.heap.size A (opsV l)) :
    Calls Tryd.prog 15 #[.string p, .slice A l.length c] w fun e w' => e = .returned (.tuple #[.string (opAll p l).1, .int .i64 (opAll p l).2.1, .int .i64 (opAll p l).2.2]) ∧ Below w.heap.size w w' := by
  by_cases h : p.size = 512 ∧ l.length ≤ 64
  · exact AppliedAll_ok p A c l w h.1 h.2 hs hr
  · exact AppliedAll_bad p A c l w hp hl h

/-- the page after one operation -/
def opOne (p : ByteArray) (x : Op) : ByteArray × Int := if pageE p ≠ 0 then (⟨#[]⟩, pageE p) else opTry p x
theorem opTry_bad {p : ByteArray} {x : Op} (h : (opTry p x).2 ≠ 0) : (opTry p x).1 = ⟨#[]⟩ := by
  unfold opTry at *
  by_cases h1 : opE x ≠ 0
  · rw [if_pos h1]
  · rw [if_neg h1] at h ⊢
    cases hf : opFit p x
    · rfl
    · rw [hf] at h; exact absurd rfl h
theorem opOne_all (p : ByteArray) (x : Op) : (opAll p [x]).1 = (opOne p x).1 ∧ (opAll p [x]).2.2 = (opOne p x).2 ∧ ((opOne p x).2 ≠ 0 → (opAll p [x]).2.1 = 0 ∧ (opOne p x).1 = ⟨#[]⟩) := by
  unfold opAll opOne
  by_cases h1 : pageE p ≠ 0
  · rw [if_pos h1, if_pos h1]; exact ⟨rfl, rfl, fun _ => ⟨rfl, rfl⟩⟩
  · rw [if_neg h1, if_neg h1, if_neg (by simp), opAllG_cons]
    by_cases h2 : (opTry p x).2 ≠ 0
    · rw [if_pos h2]; exact ⟨(opTry_bad h2).symm, rfl, fun _ => ⟨rfl, opTry_bad h2⟩⟩
    · rw [if_neg h2]
      refine ⟨rfl, (Classical.not_not.1 h2).symm, fun h => absurd h h2⟩

set_option maxRecDepth 100000 in
set_option maxHeartbeats 1000000 in
theorem Applied_any (p : ByteArray) (x : Op) (w : World) (hp : p.size ≤ maxLen) (ho : x.o.size ≤ 3100) (hn : x.n.size ≤ 3100) :
    Calls Tryd.prog 18 #[.string p, opV x] w fun r w' => r = .returned (.tuple #[.string (opOne p x).1, .int .i64 (opOne p x).2]) ∧ Below w.heap.size w w' := by
  have hC : ∀ W (g : Nat), Box W g #[.int .i64 x.k, .int .i64 x.a, .int .i64 x.e, .int .i64 x.c, .string x.o, .string x.n] 27 → Calls Tryd.prog 15 #[.string p, .slice (some ⟨g, 0, none⟩) 1 1] W fun e w' => e = .returned (.tuple #[.string (opAll p [x]).1, .int .i64 (opAll p [x]).2.1, .int .i64 (opAll p [x]).2.2]) ∧ Below W.heap.size W w' := fun W g hb =>
    AppliedAll_any p (some ⟨g, 0, none⟩) 1 [x] W hp (by simp) (fun j hj => by
      have : j = 0 := by simp at hj; exact hj
      subst this; exact ⟨ho, hn⟩) (fun j u hj => ⟨g, 0, rfl, hb.lt, by rw [Nat.zero_add, hb.cells j]; simpa [opsV, opVs] using hj⟩)
  obtain ⟨h1, h2, h3⟩ := opOne_all p x
  rw [h1, h2] at hC
  obtain ⟨s, hs⟩ : ∃ s, s = (opOne p x).1 := ⟨_, rfl⟩
  obtain ⟨er, her⟩ : ∃ e, e = (opOne p x).2 := ⟨_, rfl⟩
  obtain ⟨i, hi⟩ : ∃ i, i = (opAll p [x]).2.1 := ⟨_, rfl⟩
  rw [← hs, ← her, ← hi] at hC
  rw [← hs, ← her, ← hi] at h3
  rw [← hs, ← her]
  have HC := Lib.hid hC
  clear hC h1 h2 hs her hi
  by_cases h0 : er = 0
  · have h0' : (er != 0) = false := by simp [h0]
    clear h3 h0
    unfold opV
    go_enter Tryd.func18, Tryd.ntmps18
    go_wp2_with (first | (go_at_call 15; (with_reducible refine (HC.out _ _ (by simpa using Box.new (w.alloc (.cells #[.int .i64 x.k, .int .i64 x.a, .int .i64 x.e, .int .i64 x.c, .string x.o, .string x.n] 27)) #[.int .i64 x.k, .int .i64 x.a, .int .i64 x.e, .int .i64 x.c, .string x.o, .string x.n] 27)).mono ?_); rintro e W1 ⟨rfl, hbW1⟩))
    go_ret2
    exact ⟨rfl, by (repeat (first | assumption | exact Below.refl _ _ | refine bel_drewN ?_ _ | refine bel_alloc ?_ _ | refine bel_trans ?_ (by assumption) | refine Below.trans ?_ (by assumption)))⟩
  · obtain ⟨g1, g2⟩ := h3 h0
    have h0' : (er != 0) = true := by simp [h0]
    have h1' : ((i : Int) == 0) = true := by rw [g1]; rfl
    have G2 := Lib.hid g2
    clear h3 h0 g1 g2
    unfold opV
    go_enter Tryd.func18, Tryd.ntmps18
    go_wp2_with (first | (go_at_call 15; (with_reducible refine (HC.out _ _ (by simpa using Box.new (w.alloc (.cells #[.int .i64 x.k, .int .i64 x.a, .int .i64 x.e, .int .i64 x.c, .string x.o, .string x.n] 27)) #[.int .i64 x.k, .int .i64 x.a, .int .i64 x.e, .int .i64 x.c, .string x.o, .string x.n] 27)).mono ?_); rintro e W1 ⟨rfl, hbW1⟩))
    go_ret2
    exact ⟨retSI G2.out.symm rfl, by (repeat (first | assumption | exact Below.refl _ _ | refine bel_drewN ?_ _ | refine bel_alloc ?_ _ | refine bel_trans ?_ (by assumption) | refine Below.trans ?_ (by assumption)))⟩

set_option maxRecDepth 100000 in
set_option maxHeartbeats 1000000 in
theorem SameOps_same (A A' : Option Addr) (c c' : Nat) (l : List Op) (w : World) (hl : l.length ≤ 100000) (hr : Rd w w.heap.size A (opsV l)) (hr' : Rd w w.heap.size A' (opsV l)) :
    Calls Tryd.prog 26 #[.slice A l.length c, .slice A' l.length c'] w fun r w' => r = .returned (.bool true) ∧ Below w.heap.size w w' := by
  have hne : ((l.length : Int) != l.length) = false := by simp
  have HR := Lib.hid hr
  have HR2 := Lib.hid hr'
  clear hr hr'
  go_enter Tryd.func26, Tryd.ntmps26
  go_wp2
  go_loopw [5] (fun i wr => ∃ k nd : Nat, k ≤ l.length ∧ i = .int .i64 k ∧ wr = w.drewN nd) (fun i _ => l.length - (intOf i).toNat)
  case atStart => exact ⟨0, 0, Nat.zero_le _, rfl, rfl⟩
  case round =>
    obtain ⟨k, nd, hk, rfl, rfl⟩ := hrel
    by_cases hlt : k < l.length
    · obtain ⟨b, o, rfl, hB, hc⟩ := HR.out.opened (by rw [opsV_length]; omega)
      obtain ⟨b', o', rfl, hB', hc'⟩ := HR2.out.opened (by rw [opsV_length]; omega)
      have c0 : w.cell? ⟨b, o + k * 6, none⟩ = _ := hc _ _ (opsV_get l k hlt 0 _ rfl)
      have c1 : w.cell? ⟨b, o + k * 6 + 1, none⟩ = _ := hc _ _ (opsV_get l k hlt 1 _ rfl)
      have c2 : w.cell? ⟨b, o + k * 6 + 2, none⟩ = _ := hc _ _ (opsV_get l k hlt 2 _ rfl)
      have c3 : w.cell? ⟨b, o + k * 6 + 3, none⟩ = _ := hc _ _ (opsV_get l k hlt 3 _ rfl)
      have c4 : w.cell? ⟨b, o + k * 6 + 4, none⟩ = _ := hc _ _ (opsV_get l k hlt 4 _ rfl)
      have c5 : w.cell? ⟨b, o + k * 6 + 5, none⟩ = _ := hc _ _ (opsV_get l k hlt 5 _ rfl)
      have d0 : w.cell? ⟨b', o' + k * 6, none⟩ = _ := hc' _ _ (opsV_get l k hlt 0 _ rfl)
      have d1 : w.cell? ⟨b', o' + k * 6 + 1, none⟩ = _ := hc' _ _ (opsV_get l k hlt 1 _ rfl)
      have d2 : w.cell? ⟨b', o' + k * 6 + 2, none⟩ = _ := hc' _ _ (opsV_get l k hlt 2 _ rfl)
      have d3 : w.cell? ⟨b', o' + k * 6 + 3, none⟩ = _ := hc' _ _ (opsV_get l k hlt 3 _ rfl)
      have d4 : w.cell? ⟨b', o' + k * 6 + 4, none⟩ = _ := hc' _ _ (opsV_get l k hlt 4 _ rfl)
      have d5 : w.cell? ⟨b', o' + k * 6 + 5, none⟩ = _ := hc' _ _ (opsV_get l k hlt 5 _ rfl)
      obtain ⟨x, hx⟩ : ∃ x, x = l[k] := ⟨_, rfl⟩
      rw [← hx] at c0 c1 c2 c3 c4 c5 d0 d1 d2 d3 d4 d5
      have hlt' : (k : Int) < (l.length : Int) := by omega
      clear hx hc hc'
      go_wp2
      go_quiet (fail)
      go_wp2
      go_roundw
      case rel => exact ⟨k + 1, nd + nq, by omega, by go_num, rfl⟩
      case measure => simp [intOf]; omega
    · obtain rfl : k = l.length := by omega
      go_wp2
      go_ret
      exact ⟨rfl, by (repeat (first | assumption | exact Below.refl _ _ | refine bel_drewN ?_ _ | refine bel_alloc ?_ _ | refine bel_trans ?_ (by assumption) | refine Below.trans ?_ (by assumption)))⟩
end Go.Proofs.YtgmipogidmcilaaDoor
