/-
  Chapter 21: All, Apart and Between of the reference; copies of operations.
-/
import Derived.Test.YtgmipogidmcilaaDoorOpBet
import Derived.Test.YtgmipogidmcilaaDoorOpApart
import Derived.Test.YtgmipogidmcilaaDoorOp6
namespace Go.Proofs.YtgmipogidmcilaaDoor
set_option linter.unusedVariables false
set_option linter.unusedSimpArgs false
open Go.RowKit Go.Sort

theorem opVs_one (l : List Op) : ∀ u ∈ opsV l, u.oneCell' = true := by
  intro u hu
  obtain ⟨f, _, hf⟩ := List.mem_flatMap.1 hu
  simp [opVs] at hf
  rcases hf with rfl | rfl | rfl | rfl | rfl | rfl <;> rfl
set_option maxRecDepth 100000 in
theorem CopyOps_any (A : Option Addr) (c : Nat) (l : List Op) (w : World) (hlen : l.length ≤ 1000) (hr : Rd w w.heap.size A (opsV l)) :
    Calls Tryd.prog 16 #[.slice A l.length c] w fun e w' => ∃ v, e = .returned v ∧ w'.ownsRow w.heap.size 27 6 v l.length (opsV l) ∧ Below w.heap.size w w' := by
  obtain ⟨i0, hi, hz0, hz1, hz2⟩ := info_parts info_op
  go_enter Tryd.func16, Tryd.ntmps16
  have hown := World.ownsRow_lit (base := w.heap.size) (e := 27) (size := 6) w #[] 0 (Nat.le_refl _) (by unfold maxLen; omega) rfl
  go_wp2_with (at_builtin; refine wpList_append_rd _ rfl (.tmp 3) (.tmp 4) 22 rfl w.heap.size 27 i0 _ 6 64 Tryd.underlying22 hi hz0 hz1 hz2 rfl (by decide) _ _ _ rfl hown (w.heap.size + 1) A l.length c (opsV l) rfl (by rw [opsV_length]; omega) ((hr.below ((Below.refl _ _).alloc (Nat.le_refl _) _)).mono (by omega)) (opVs_one l) (by unfold maxLen; omega) (by omega) (by simp) ?_; intro v1 w1 hown1 _ _ hb1)
  go_ret
  exact ⟨v1, rfl, by simpa using hown1, (bel_alloc (Below.refl _ _) _).trans hb1⟩
theorem CopyOps_rd (A : Option Addr) (c : Nat) (l : List Op) (w : World) (hlen : l.length ≤ 1000) (hr : Rd w w.heap.size A (opsV l)) :
    Calls Tryd.prog 16 #[.slice A l.length c] w fun e w' => ∃ A' c', e = .returned (.slice A' l.length c') ∧ Rd w' w'.heap.size A' (opsV l) ∧ Below w.heap.size w w' :=
  (CopyOps_any A c l w hlen hr).mono fun e w' ⟨v, he, ho, hb⟩ => by
    obtain ⟨A', c', rfl, hr'⟩ := ownsRow_form ho
    exact ⟨A', c', he, hr', hb⟩

theorem opTry_zero {p : ByteArray} {x : Op} (h : (opTry p x).2 = 0) : opE x = 0 ∧ opFit p x = true ∧ (opTry p x).1 = opDo p x := by
  unfold opTry at *
  by_cases h1 : opE x = 0
  · rw [if_neg (fun g => g h1)] at h ⊢
    cases hf : opFit p x
    · rw [hf] at h; simp at h
    · exact ⟨h1, rfl, rfl⟩
  · rw [if_pos h1] at h; exact absurd h h1
set_option maxRecDepth 100000 in
set_option maxHeartbeats 2000000 in
theorem refAll_any (p : ByteArray) (A : Option Addr) (c : Nat) (l : List Op) (w : World) (hp : p.size ≤ maxLen) (hl : l.length ≤ 1000) (hs : ShortOps l) (hr : Rd w w.heap.size A (opsV l)) :
    Calls Tryd.prog 17 #[.string p, .slice A l.length c] w fun e w' => e = .returned (.tuple #[.string (opAll p l).1, .int .i64 (opAll p l).2.1, .int .i64 (opAll p l).2.2]) ∧ Below w.heap.size w w' := by
  have hP := fun W => PageErr_any p W hp
  by_cases h1 : p.size = 512
  · have hpz : pageE p = 0 := pageE_zero.2 h1
    rw [hpz] at hP
    have HP := Lib.hid hP
    clear hP hp
    by_cases h2 : l.length ≤ 64
    · have e := opAll_ok h1 h2
      have E := Lib.hid e
      have H1 := Lib.hid h1
      have HS := Lib.hid hs
      have HR := Lib.hid hr
      have h3 : decide ((l.length : Int) > 64) = false := by simp; omega
      have h4 : (l.length : Int) ≤ 64 := by omega
      rw [E.out]
      clear e h1 hpz hs hr
      go_enter Tryd.func17, Tryd.ntmps17
      go_wp2_with (go_at_call 19; (with_reducible refine (HP.out _).mono ?_); rintro e w' ⟨rfl, rfl⟩)
      go_loopw [0, 8] (fun pg i wr => ∃ (k : Nat) (q : ByteArray), k ≤ l.length ∧ i = .int .i64 k ∧ pg = .string q ∧ q.size = 512 ∧ Below w.heap.size w wr ∧ opAllG p 0 l = opAllG q k (l.drop k)) (fun _ i _ => l.length - (intOf i).toNat)
      case atStart => exact ⟨0, p, Nat.zero_le _, rfl, rfl, H1.out, (by (repeat (first | assumption | exact Below.refl _ _ | refine bel_drewN ?_ _ | refine bel_alloc ?_ _ | refine bel_trans ?_ (by assumption) | refine Below.trans ?_ (by assumption)))), rfl⟩
      case round =>
        obtain ⟨k, q, hk, rfl, rfl, hq, hb, hg⟩ := hrel
        by_cases hlt : k < l.length
        · have hbs := hb.size
          obtain ⟨b, o, rfl, hB, hc⟩ := (HR.out.below hb).opened (by rw [opsV_length]; omega)
          have hsz := HS.out k hlt
          have hd : l.drop k = l[k] :: l.drop (k + 1) := List.drop_eq_getElem_cons hlt
          rw [hd, opAllG_cons] at hg
          have c0 : wr.cell? ⟨b, o + k * 6, none⟩ = _ := hc _ _ (opsV_get l k hlt 0 _ rfl)
          have c1 : wr.cell? ⟨b, o + k * 6 + 1, none⟩ = _ := hc _ _ (opsV_get l k hlt 1 _ rfl)
          have c2 : wr.cell? ⟨b, o + k * 6 + 2, none⟩ = _ := hc _ _ (opsV_get l k hlt 2 _ rfl)
          have c3 : wr.cell? ⟨b, o + k * 6 + 3, none⟩ = _ := hc _ _ (opsV_get l k hlt 3 _ rfl)
          have c4 : wr.cell? ⟨b, o + k * 6 + 4, none⟩ = _ := hc _ _ (opsV_get l k hlt 4 _ rfl)
          have c5 : wr.cell? ⟨b, o + k * 6 + 5, none⟩ = _ := hc _ _ (opsV_get l k hlt 5 _ rfl)
          obtain ⟨x, hx⟩ : ∃ x, x = l[k] := ⟨_, rfl⟩
          rw [← hx] at c0 c1 c2 c3 c4 c5 hsz hg
          have hB1 : b < wr.heap.size := by omega
          have hT := fun W => Try_any q x W hq hsz.1 hsz.2
          have hz := fun h => opTry_zero (p := q) (x := x) h
          obtain ⟨⟨s, er⟩, hse⟩ : ∃ t, t = opTry q x := ⟨_, rfl⟩
          rw [← hse] at hT hg hz
          dsimp only at hT hg hz
          have HT := Lib.hid hT
          have HG := Lib.hid hg
          by_cases h0 : er = 0
          · have h0' : (er != 0) = false := by simp [h0]
            obtain ⟨z1, z2, z3⟩ := hz h0
            have hs2 : s.size = 512 := by rw [z3]; exact opDo_size hq ((opE_iff x).1 z1)
            have hg2 : opAllG p 0 l = opAllG s (k + 1) (l.drop (k + 1)) := by rw [HG.out, if_neg (fun g => g h0)]
            have HS2 := Lib.hid hs2
            have HG2 := Lib.hid hg2
            clear hT hg hz hse h0 z1 z2 z3 hs2 hg2 hq hd hx hc
            unfold opV at HT
            go_wp2_with (go_at_call 20; (with_reducible refine (HT.out _).mono ?_); rintro e W1 ⟨rfl, hbW1⟩)
            go_roundw
            case rel => exact ⟨k + 1, s, by omega, by go_num, rfl, HS2.out, (by (repeat (first | assumption | exact Below.refl _ _ | refine bel_drewN ?_ _ | refine bel_alloc ?_ _ | refine bel_trans ?_ (by assumption) | refine Below.trans ?_ (by assumption)))), HG2.out⟩
            case measure => simp [intOf]; omega
          · have h0' : (er != 0) = true := by simp [h0]
            have hg2 : opAllG p 0 l = (⟨#[]⟩, k, er) := by rw [HG.out, if_pos h0]
            have HG2 := Lib.hid hg2
            clear hT hg hz hse h0 hg2 hq hd hx hc
            unfold opV at HT
            go_wp2_with (go_at_call 20; (with_reducible refine (HT.out _).mono ?_); rintro e W1 ⟨rfl, hbW1⟩)
            go_ret3
            exact ⟨retSII (by rw [HG2.out]) (by rw [HG2.out]) (by rw [HG2.out]), by (repeat (first | assumption | exact Below.refl _ _ | refine bel_drewN ?_ _ | refine bel_alloc ?_ _ | refine bel_trans ?_ (by assumption) | refine Below.trans ?_ (by assumption)))⟩
        · obtain rfl : k = l.length := by omega
          rw [List.drop_of_length_le (Nat.le_refl _)] at hg
          have HG := Lib.hid hg
          clear hg hq
          go_wp2
          go_ret3
          exact ⟨retSII (by rw [HG.out]; rfl) (by rw [HG.out]; rfl) (by rw [HG.out]; rfl), by (repeat (first | assumption | exact Below.refl _ _ | refine bel_drewN ?_ _ | refine bel_alloc ?_ _ | refine bel_trans ?_ (by assumption) | refine Below.trans ?_ (by assumption)))⟩
    · have e : opAll p l = (⟨#[]⟩, 0, 8) := by unfold opAll; rw [hpz, if_neg (fun h => h rfl), if_pos (by omega)]
      have E := Lib.hid e
      have h3 : decide ((l.length : Int) > 64) = true := by simp; omega
      clear e h1 hpz
      go_enter Tryd.func17, Tryd.ntmps17
      go_wp2_with (go_at_call 19; (with_reducible refine (HP.out _).mono ?_); rintro e w' ⟨rfl, rfl⟩)
      go_ret3
      exact ⟨retSII (by rw [E.out]) (by rw [E.out]; rfl) (by rw [E.out]), by (repeat (first | assumption | exact Below.refl _ _ | refine bel_drewN ?_ _ | refine bel_alloc ?_ _ | refine bel_trans ?_ (by assumption) | refine Below.trans ?_ (by assumption)))⟩
  · have hpz : pageE p ≠ 0 := fun h => h1 (pageE_zero.1 h)
    have e : opAll p l = (⟨#[]⟩, 0, pageE p) := by unfold opAll; rw [if_pos hpz]
    obtain ⟨er, her⟩ : ∃ e, e = pageE p := ⟨_, rfl⟩
    rw [← her] at hP hpz e
    have E := Lib.hid e
    have h0' : (er != 0) = true := by simp [hpz]
    have HP := Lib.hid hP
    clear hP hp hpz her e h1
    go_enter Tryd.func17, Tryd.ntmps17
    go_wp2_with (go_at_call 19; (with_reducible refine (HP.out _).mono ?_); rintro e w' ⟨rfl, rfl⟩)
    go_ret3
    exact ⟨retSII (by rw [E.out]) (by rw [E.out]; rfl) (by rw [E.out]), by (repeat (first | assumption | exact Below.refl _ _ | refine bel_drewN ?_ _ | refine bel_alloc ?_ _ | refine bel_trans ?_ (by assumption) | refine Below.trans ?_ (by assumption)))⟩

theorem opApart_iff {x y : Op} (hx : opOK x) (hy : opOK y) : opApart x y = (decide ((opTch x).2 ≤ (opTch y).1) || decide ((opTch y).2 ≤ (opTch x).1) || decide ((opTch x).1 = (opTch x).2) || decide ((opTch y).1 = (opTch y).2)) := by
  have h1 := opTch_bd hx
  have h2 := opTch_bd hy
  unfold opApart
  rw [Bool.eq_iff_iff]
  simp only [decide_eq_true_eq, Bool.or_eq_true]
  omega
theorem int_beq (a b : Int) : (a == b) = decide (a = b) := by
  by_cases h : a = b <;> simp [h]
set_option maxRecDepth 100000 in
set_option maxHeartbeats 1000000 in
theorem refApart_any (x y : Op) (w : World) (hx : opOK x) (hy : opOK y) :
    Calls Tryd.prog 29 #[opV x, opV y] w fun r w' => r = .returned (.bool (opApart x y)) ∧ Below w.heap.size w w' := by
  rw [opApart_iff hx hy]
  have hT := fun W => reftch_any x W hx
  have hU := fun W => reftch_any y W hy
  obtain ⟨⟨ta, tb⟩, hta⟩ : ∃ t, t = opTch x := ⟨_, rfl⟩
  obtain ⟨⟨tc, td⟩, htb⟩ : ∃ t, t = opTch y := ⟨_, rfl⟩
  rw [← hta] at hT ⊢
  rw [← htb] at hU ⊢
  dsimp only at hT hU ⊢
  have HT := Lib.hid hT
  have HU := Lib.hid hU
  rw [← int_beq, ← int_beq]
  clear hT hU hta htb hx hy
  unfold opV at *
  by_cases h1 : tb ≤ tc
  · have d1 : decide (tb ≤ tc) = true := decide_eq_true h1
    go_enter Tryd.func29, Tryd.ntmps29
    go_wp2_with (first | ((go_at_call 44; (with_reducible refine (HT.out _).mono ?_); rintro e W1 ⟨rfl, hbW1⟩; obtain ⟨hcW1, hfW1⟩ := bcell hbW1); have hsW1 : w.heap.size + 1 < W1.heap.size := (by have h := hbW1.size; (try simp at h); omega)) | (go_at_call 44; (with_reducible refine (HU.out _).mono ?_); rintro e W2 ⟨rfl, hbW2⟩; obtain ⟨hcW2, hfW2⟩ := bcell hbW2))
    go_ret
    exact ⟨retB (by simp [h1]), by (repeat (first | assumption | exact Below.refl _ _ | refine bel_drewN ?_ _ | refine bel_alloc ?_ _ | refine bel_trans ?_ (by assumption) | refine Below.trans ?_ (by assumption)))⟩
  · have d1 : decide (tb ≤ tc) = false := decide_eq_false h1
    by_cases h2 : td ≤ ta
    · have d2 : decide (td ≤ ta) = true := decide_eq_true h2
      go_enter Tryd.func29, Tryd.ntmps29
      go_wp2_with (first | ((go_at_call 44; (with_reducible refine (HT.out _).mono ?_); rintro e W1 ⟨rfl, hbW1⟩; obtain ⟨hcW1, hfW1⟩ := bcell hbW1); have hsW1 : w.heap.size + 1 < W1.heap.size := (by have h := hbW1.size; (try simp at h); omega)) | (go_at_call 44; (with_reducible refine (HU.out _).mono ?_); rintro e W2 ⟨rfl, hbW2⟩; obtain ⟨hcW2, hfW2⟩ := bcell hbW2))
      go_ret
      exact ⟨retB (by simp [h2]), by (repeat (first | assumption | exact Below.refl _ _ | refine bel_drewN ?_ _ | refine bel_alloc ?_ _ | refine bel_trans ?_ (by assumption) | refine Below.trans ?_ (by assumption)))⟩
    · have d2 : decide (td ≤ ta) = false := decide_eq_false h2
      cases h3 : ta == tb
      all_goals
        go_enter Tryd.func29, Tryd.ntmps29
        go_wp2_with (first | ((go_at_call 44; (with_reducible refine (HT.out _).mono ?_); rintro e W1 ⟨rfl, hbW1⟩; obtain ⟨hcW1, hfW1⟩ := bcell hbW1); have hsW1 : w.heap.size + 1 < W1.heap.size := (by have h := hbW1.size; (try simp at h); omega)) | (go_at_call 44; (with_reducible refine (HU.out _).mono ?_); rintro e W2 ⟨rfl, hbW2⟩; obtain ⟨hcW2, hfW2⟩ := bcell hbW2))
        go_ret
        exact ⟨retB (by rw [d1, d2]; rfl), by (repeat (first | assumption | exact Below.refl _ _ | refine bel_drewN ?_ _ | refine bel_alloc ?_ _ | refine bel_trans ?_ (by assumption) | refine Below.trans ?_ (by assumption)))⟩
end Go.Proofs.YtgmipogidmcilaaDoor
