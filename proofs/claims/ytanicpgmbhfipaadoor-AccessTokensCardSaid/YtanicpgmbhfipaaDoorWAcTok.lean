/-
  Chapter 17: the law AccessTokens: HasIdentity, the walk.
-/
import Derived.Test.YtanicpgmbhfipaaDoorAcL
namespace Go.Proofs.YtanicpgmbhfipaaDoor
set_option linter.unusedVariables false
set_option linter.unusedSimpArgs false
open Go.RowKit Go.Sort

def hidE (t : TokP) (who : Int) : Int := if tokE t ≠ 0 then tokE t else if whoB who = true then 0 else 2
theorem ace_who (who : Int) : aceE ⟨0, 0, 1, who⟩ = if whoB who = true then 0 else 2 := by
  unfold aceE aceR
  rw [show inB (0 : Int) 0 2 = true by decide, show inB (0 : Int) 0 31 = true by decide, show inB (1 : Int) 1 511 = true by decide]
  simp
set_option maxRecDepth 100000 in
set_option maxHeartbeats 2000000 in
theorem HasIdentity_any (t : TokP) (A : Option Addr) (c : Nat) (who : Int) (w : World) (hl : t.gs.length ≤ 1000) (hr : Rd w w.heap.size A (t.gs.map (.int .i64))) :
    Calls Tryd.prog 18 #[tokV t A c, .int .i64 who] w fun e w' => e = .returned (.tuple #[.bool (if hidE t who = 0 then isT t who else false), .int .i64 (hidE t who)]) ∧ Below w.heap.size w w' := by
  have HT := Lib.hid (fun W (hW : Below w.heap.size w W) => CheckToken_any t A c W (by omega) (hr.below' hW))
  have HH := Lib.hid (fun W (hW : Below w.heap.size w W) => has_it t A c who W (by omega) (hr.below' hW))
  have HA := Lib.hid (fun W => CheckAce_any ⟨0, 0, 1, who⟩ W)
  have bT := Box.new w (tokC t A c) 27
  have BT := Lib.hid (fun W hW => bT.below (w' := W) hW)
  obtain ⟨ae, hae⟩ : ∃ e, e = aceE ⟨0, 0, 1, who⟩ := ⟨_, rfl⟩
  obtain ⟨te, hte⟩ : ∃ e, e = tokE t := ⟨_, rfl⟩
  obtain ⟨iw, hiw⟩ : ∃ e, e = isT t who := ⟨_, rfl⟩
  have hae2 := hae.trans (ace_who who)
  rw [← hae] at HA
  rw [← hte] at HT
  rw [← hiw] at HH
  unfold hidE
  rw [← hte, ← hiw]
  have HP := Lib.hid (fun W => access_first2 te 2 W)
  unfold tokV at *
  unfold tokC at BT
  clear hae hte hiw hr bT
  cases hw : whoB who
  · rw [hw] at hae2
    have ha : ae = 2 := hae2
    subst ha
    obtain ⟨q, hq⟩ : ∃ q, q = firstE [te, 2] := ⟨_, rfl⟩
    have hq2 : (if te ≠ 0 then te else 2) = q := by rw [hq]; unfold firstE; by_cases h : te = 0 <;> simp [h, firstE]
    have hqn : q ≠ 0 := by
      rw [← hq2]
      split
      · assumption
      · decide
    rw [show (if te ≠ 0 then te else if false = true then 0 else 2) = q from hq2, if_neg hqn]
    rw [← hq] at HP
    have hqn' : (q != 0) = true := by simpa using hqn
    clear hq2 hq hqn hae2
    go_enter Tryd.func18, Tryd.ntmps18
    go_wp2_with (first | (go_at_call 17; refine (HT.out _ (bel_alloc (Below.refl _ _) _)).mono ?_; rintro e V ⟨rfl, hV⟩; have hb := bel_trans (bel_alloc (Below.refl _ w) _) hV) | (go_at_call 39; refine (HA.out _).mono ?_; rintro e U ⟨rfl, hU⟩; have hb := bel_trans hb hU) | (go_at_call 29; refine (HP.out _).mono ?_; rintro e w' ⟨rfl, rfl⟩))
    go_ret2
    exact ⟨rfl, bel_alloc hb _⟩
  · rw [hw] at hae2
    have ha : ae = 0 := hae2
    subst ha
    clear hae2
    by_cases h0 : te = 0
    · subst h0
      go_enter Tryd.func18, Tryd.ntmps18
      go_wp2_with (first | (go_at_call 17; refine (HT.out _ (bel_alloc (Below.refl _ _) _)).mono ?_; rintro e V ⟨rfl, hV⟩; have hb := bel_trans (bel_alloc (Below.refl _ w) _) hV) | (go_at_call 39; refine (HA.out _).mono ?_; rintro e U ⟨rfl, hU⟩; have hb := bel_trans hb hU; have bt := BT.out U (bel_trans hV hU); have z0 : U.cell? ⟨w.heap.size, 0, none⟩ = some (.int .i64 t.u) := Box.cells bt 0; have z1 : U.cell? ⟨w.heap.size, 1, none⟩ = some (.slice A t.gs.length c) := Box.cells bt 1; have z2 : U.cell? ⟨w.heap.size, 2, none⟩ = some (.int .i64 t.p) := Box.cells bt 2; have l0 := bt.lt; clear bt) | (go_at_call 40; refine (HH.out _ hb).mono ?_; rintro e U2 ⟨rfl, hU2⟩; have hb := bel_trans hb hU2))
      go_ret2
      exact ⟨rfl, hb⟩
    · have h0' : (te != 0) = true := by simpa using h0
      have e1 : (if te ≠ 0 then te else if true = true then 0 else 2) = te := if_pos h0
      rw [e1, if_neg h0]
      clear e1
      go_enter Tryd.func18, Tryd.ntmps18
      go_wp2_with (first | (go_at_call 17; refine (HT.out _ (bel_alloc (Below.refl _ _) _)).mono ?_; rintro e V ⟨rfl, hV⟩; have hb := bel_trans (bel_alloc (Below.refl _ w) _) hV) | (go_at_call 39; refine (HA.out _).mono ?_; rintro e U ⟨rfl, hU⟩; have hb := bel_trans hb hU))
      go_ret2
      exact ⟨rfl, hb⟩
set_option maxRecDepth 100000 in
set_option maxHeartbeats 4000000 in
theorem wAccessTokens (t : TokP) (A : Option Addr) (c : Nat) (who : Int) (w : World) (hr : Rd w w.heap.size A (t.gs.map (.int .i64))) (hg : GrT w) :
    Calls Tryd.prog 4 #[tokV t A c, .int .i64 who] w fun e w' => e = .returned (.bool true) ∧ Below w.heap.size w w' := by
  have HW := Lib.hid (fun W (hW : Below w.heap.size w W) => awake17_any W (hg.below hW))
  have bT := Box.new w (tokC t A c) 27
  have BT := Lib.hid (fun W hW => bT.below (w' := W) hW)
  unfold tokC at BT
  by_cases h18 : 18 < t.gs.length
  · unfold tokV at *
    clear hr hg bT
    go_enter Tryd.func4, Tryd.ntmps4
    go_wp2_with ((go_at_call 5; refine (HW.out _ (bel_alloc (Below.refl _ _) _)).mono ?_; rintro e V ⟨rfl, hV⟩; have hB := hV; have hb := bel_trans (bel_alloc (Below.refl _ w) _) hV; have bt := BT.out V (hB); have z0 : V.cell? ⟨w.heap.size, 0, none⟩ = some (.int .i64 t.u) := Box.cells bt 0; have z1 : V.cell? ⟨w.heap.size, 1, none⟩ = some (.slice A t.gs.length c) := Box.cells bt 1; have z2 : V.cell? ⟨w.heap.size, 2, none⟩ = some (.int .i64 t.p) := Box.cells bt 2; have l0 := bt.lt; clear bt))
    go_ret
    exact ⟨rfl, hb⟩
  have HC := Lib.hid (fun W (hW : Below w.heap.size w W) => CopyTok_any t A c W (by omega) (hr.below' hW))
  have HT := Lib.hid (fun B k W (hr : Rd W W.heap.size B (t.gs.map (.int .i64))) => CheckToken_any t B k W (by omega) hr)
  have HI := Lib.hid (fun B k W (hr : Rd W W.heap.size B (t.gs.map (.int .i64))) => HasIdentity_any t B k who W (by omega) hr)
  have HE := Lib.hid (fun W (hW : Below w.heap.size w W) => TokenErr_any t A c W (by omega) (hr.below' hW))
  have HS := Lib.hid (fun W (hW : Below w.heap.size w W) => Is_any t A c who W (by omega) (hr.below' hW))
  have HQ := Lib.hid (fun W => IsWho_any who W)
  obtain ⟨te, hte⟩ : ∃ e, e = tokE t := ⟨_, rfl⟩
  obtain ⟨iw, hiw⟩ : ∃ e, e = isT t who := ⟨_, rfl⟩
  obtain ⟨wb, hwb⟩ : ∃ e, e = whoB who := ⟨_, rfl⟩
  obtain ⟨he, hhe⟩ : ∃ e, e = hidE t who := ⟨_, rfl⟩
  have hh2 : he = if te ≠ 0 then te else if wb = true then 0 else 2 := by rw [hhe, hte, hwb]; rfl
  rw [← hhe, ← hiw] at HI
  rw [← hte] at HT HE
  rw [← hiw] at HS
  rw [← hwb] at HQ
  clear hte hiw hwb hhe hr hg bT
  have hcases : (te ≠ 0 ∧ he = te) ∨ (te = 0 ∧ wb = true ∧ he = 0) ∨ (te = 0 ∧ wb = false ∧ he = 2) := by
    by_cases h : te = 0
    · rw [if_neg (by simpa using h)] at hh2
      cases wb
      · exact .inr (.inr ⟨h, rfl, hh2⟩)
      · exact .inr (.inl ⟨h, rfl, hh2⟩)
    · rw [if_pos h] at hh2
      exact .inl ⟨h, hh2⟩
  clear hh2
  rcases hcases with ⟨h0, rfl⟩ | ⟨rfl, rfl, rfl⟩ | ⟨rfl, rfl, rfl⟩
  · have h0' : (he != 0) = true := by simpa using h0
    have h0'' : (he == 0) = false := by simpa using h0
    rw [if_neg h0] at HI
    unfold tokV at *
    go_enter Tryd.func4, Tryd.ntmps4
    go_wp2_with (first | (go_at_call 5; refine (HW.out _ (bel_alloc (Below.refl _ _) _)).mono ?_; rintro e V ⟨rfl, hV⟩; have hB := hV; have hb := bel_trans (bel_alloc (Below.refl _ w) _) hV; have bt := BT.out V (hB); have z0 : V.cell? ⟨w.heap.size, 0, none⟩ = some (.int .i64 t.u) := Box.cells bt 0; have z1 : V.cell? ⟨w.heap.size, 1, none⟩ = some (.slice A t.gs.length c) := Box.cells bt 1; have z2 : V.cell? ⟨w.heap.size, 2, none⟩ = some (.int .i64 t.p) := Box.cells bt 2; have l0 := bt.lt; clear bt) | (go_at_call 12; refine (HC.out _ hb).mono ?_; rintro e U ⟨B, k, rfl, g3, hU⟩; have hB := bel_trans hB hU; have hb := bel_trans hb hU; have bt := BT.out U (hB); have z0 : U.cell? ⟨w.heap.size, 0, none⟩ = some (.int .i64 t.u) := Box.cells bt 0; have z1 : U.cell? ⟨w.heap.size, 1, none⟩ = some (.slice A t.gs.length c) := Box.cells bt 1; have z2 : U.cell? ⟨w.heap.size, 2, none⟩ = some (.int .i64 t.p) := Box.cells bt 2; have l0 := bt.lt; clear bt) | (go_at_call 17; refine (HT.out B k _ g3).mono ?_; rintro e V2 ⟨rfl, hV2⟩; have hB := bel_trans hB hV2; have hb := bel_trans hb hV2; have bt := BT.out V2 (hB); have z0 : V2.cell? ⟨w.heap.size, 0, none⟩ = some (.int .i64 t.u) := Box.cells bt 0; have z1 : V2.cell? ⟨w.heap.size, 1, none⟩ = some (.slice A t.gs.length c) := Box.cells bt 1; have z2 : V2.cell? ⟨w.heap.size, 2, none⟩ = some (.int .i64 t.p) := Box.cells bt 2; have l0 := bt.lt; clear bt) | (go_at_call 18; refine (HI.out B k _ g3).mono ?_; rintro e V3 ⟨rfl, hV3⟩; have hB := bel_trans hB hV3; have hb := bel_trans hb hV3; have bt := BT.out V3 (hB); have z0 : V3.cell? ⟨w.heap.size, 0, none⟩ = some (.int .i64 t.u) := Box.cells bt 0; have z1 : V3.cell? ⟨w.heap.size, 1, none⟩ = some (.slice A t.gs.length c) := Box.cells bt 1; have z2 : V3.cell? ⟨w.heap.size, 2, none⟩ = some (.int .i64 t.p) := Box.cells bt 2; have l0 := bt.lt; clear bt) | (go_at_call 19; refine (HE.out _ hb).mono ?_; rintro e V4 ⟨rfl, hV4⟩; have hB := bel_trans hB hV4; have hb := bel_trans hb hV4; have bt := BT.out V4 (hB); have z0 : V4.cell? ⟨w.heap.size, 0, none⟩ = some (.int .i64 t.u) := Box.cells bt 0; have z1 : V4.cell? ⟨w.heap.size, 1, none⟩ = some (.slice A t.gs.length c) := Box.cells bt 1; have z2 : V4.cell? ⟨w.heap.size, 2, none⟩ = some (.int .i64 t.p) := Box.cells bt 2; have l0 := bt.lt; clear bt) | (go_at_call 20; refine (HQ.out _).mono ?_; rintro e w' ⟨rfl, rfl⟩) | (go_at_call 14; refine (HS.out _ hb).mono ?_; rintro e V5 ⟨rfl, hV5⟩; have hb := bel_trans hb hV5))
    go_ret
    exact ⟨rfl, hb⟩
  · rw [if_pos rfl] at HI
    unfold tokV at *
    go_enter Tryd.func4, Tryd.ntmps4
    go_wp2_with (first | (go_at_call 5; refine (HW.out _ (bel_alloc (Below.refl _ _) _)).mono ?_; rintro e V ⟨rfl, hV⟩; have hB := hV; have hb := bel_trans (bel_alloc (Below.refl _ w) _) hV; have bt := BT.out V (hB); have z0 : V.cell? ⟨w.heap.size, 0, none⟩ = some (.int .i64 t.u) := Box.cells bt 0; have z1 : V.cell? ⟨w.heap.size, 1, none⟩ = some (.slice A t.gs.length c) := Box.cells bt 1; have z2 : V.cell? ⟨w.heap.size, 2, none⟩ = some (.int .i64 t.p) := Box.cells bt 2; have l0 := bt.lt; clear bt) | (go_at_call 12; refine (HC.out _ hb).mono ?_; rintro e U ⟨B, k, rfl, g3, hU⟩; have hB := bel_trans hB hU; have hb := bel_trans hb hU; have bt := BT.out U (hB); have z0 : U.cell? ⟨w.heap.size, 0, none⟩ = some (.int .i64 t.u) := Box.cells bt 0; have z1 : U.cell? ⟨w.heap.size, 1, none⟩ = some (.slice A t.gs.length c) := Box.cells bt 1; have z2 : U.cell? ⟨w.heap.size, 2, none⟩ = some (.int .i64 t.p) := Box.cells bt 2; have l0 := bt.lt; clear bt) | (go_at_call 17; refine (HT.out B k _ g3).mono ?_; rintro e V2 ⟨rfl, hV2⟩; have hB := bel_trans hB hV2; have hb := bel_trans hb hV2; have bt := BT.out V2 (hB); have z0 : V2.cell? ⟨w.heap.size, 0, none⟩ = some (.int .i64 t.u) := Box.cells bt 0; have z1 : V2.cell? ⟨w.heap.size, 1, none⟩ = some (.slice A t.gs.length c) := Box.cells bt 1; have z2 : V2.cell? ⟨w.heap.size, 2, none⟩ = some (.int .i64 t.p) := Box.cells bt 2; have l0 := bt.lt; clear bt) | (go_at_call 18; refine (HI.out B k _ g3).mono ?_; rintro e V3 ⟨rfl, hV3⟩; have hB := bel_trans hB hV3; have hb := bel_trans hb hV3; have bt := BT.out V3 (hB); have z0 : V3.cell? ⟨w.heap.size, 0, none⟩ = some (.int .i64 t.u) := Box.cells bt 0; have z1 : V3.cell? ⟨w.heap.size, 1, none⟩ = some (.slice A t.gs.length c) := Box.cells bt 1; have z2 : V3.cell? ⟨w.heap.size, 2, none⟩ = some (.int .i64 t.p) := Box.cells bt 2; have l0 := bt.lt; clear bt) | (go_at_call 19; refine (HE.out _ hb).mono ?_; rintro e V4 ⟨rfl, hV4⟩; have hB := bel_trans hB hV4; have hb := bel_trans hb hV4; have bt := BT.out V4 (hB); have z0 : V4.cell? ⟨w.heap.size, 0, none⟩ = some (.int .i64 t.u) := Box.cells bt 0; have z1 : V4.cell? ⟨w.heap.size, 1, none⟩ = some (.slice A t.gs.length c) := Box.cells bt 1; have z2 : V4.cell? ⟨w.heap.size, 2, none⟩ = some (.int .i64 t.p) := Box.cells bt 2; have l0 := bt.lt; clear bt) | (go_at_call 20; refine (HQ.out _).mono ?_; rintro e w' ⟨rfl, rfl⟩) | (go_at_call 14; refine (HS.out _ hb).mono ?_; rintro e V5 ⟨rfl, hV5⟩; have hb := bel_trans hb hV5))
    go_ret
    exact ⟨rfl, hb⟩
  · rw [if_neg (by decide)] at HI
    unfold tokV at *
    go_enter Tryd.func4, Tryd.ntmps4
    go_wp2_with (first | (go_at_call 5; refine (HW.out _ (bel_alloc (Below.refl _ _) _)).mono ?_; rintro e V ⟨rfl, hV⟩; have hB := hV; have hb := bel_trans (bel_alloc (Below.refl _ w) _) hV; have bt := BT.out V (hB); have z0 : V.cell? ⟨w.heap.size, 0, none⟩ = some (.int .i64 t.u) := Box.cells bt 0; have z1 : V.cell? ⟨w.heap.size, 1, none⟩ = some (.slice A t.gs.length c) := Box.cells bt 1; have z2 : V.cell? ⟨w.heap.size, 2, none⟩ = some (.int .i64 t.p) := Box.cells bt 2; have l0 := bt.lt; clear bt) | (go_at_call 12; refine (HC.out _ hb).mono ?_; rintro e U ⟨B, k, rfl, g3, hU⟩; have hB := bel_trans hB hU; have hb := bel_trans hb hU; have bt := BT.out U (hB); have z0 : U.cell? ⟨w.heap.size, 0, none⟩ = some (.int .i64 t.u) := Box.cells bt 0; have z1 : U.cell? ⟨w.heap.size, 1, none⟩ = some (.slice A t.gs.length c) := Box.cells bt 1; have z2 : U.cell? ⟨w.heap.size, 2, none⟩ = some (.int .i64 t.p) := Box.cells bt 2; have l0 := bt.lt; clear bt) | (go_at_call 17; refine (HT.out B k _ g3).mono ?_; rintro e V2 ⟨rfl, hV2⟩; have hB := bel_trans hB hV2; have hb := bel_trans hb hV2; have bt := BT.out V2 (hB); have z0 : V2.cell? ⟨w.heap.size, 0, none⟩ = some (.int .i64 t.u) := Box.cells bt 0; have z1 : V2.cell? ⟨w.heap.size, 1, none⟩ = some (.slice A t.gs.length c) := Box.cells bt 1; have z2 : V2.cell? ⟨w.heap.size, 2, none⟩ = some (.int .i64 t.p) := Box.cells bt 2; have l0 := bt.lt; clear bt) | (go_at_call 18; refine (HI.out B k _ g3).mono ?_; rintro e V3 ⟨rfl, hV3⟩; have hB := bel_trans hB hV3; have hb := bel_trans hb hV3; have bt := BT.out V3 (hB); have z0 : V3.cell? ⟨w.heap.size, 0, none⟩ = some (.int .i64 t.u) := Box.cells bt 0; have z1 : V3.cell? ⟨w.heap.size, 1, none⟩ = some (.slice A t.gs.length c) := Box.cells bt 1; have z2 : V3.cell? ⟨w.heap.size, 2, none⟩ = some (.int .i64 t.p) := Box.cells bt 2; have l0 := bt.lt; clear bt) | (go_at_call 19; refine (HE.out _ hb).mono ?_; rintro e V4 ⟨rfl, hV4⟩; have hB := bel_trans hB hV4; have hb := bel_trans hb hV4; have bt := BT.out V4 (hB); have z0 : V4.cell? ⟨w.heap.size, 0, none⟩ = some (.int .i64 t.u) := Box.cells bt 0; have z1 : V4.cell? ⟨w.heap.size, 1, none⟩ = some (.slice A t.gs.length c) := Box.cells bt 1; have z2 : V4.cell? ⟨w.heap.size, 2, none⟩ = some (.int .i64 t.p) := Box.cells bt 2; have l0 := bt.lt; clear bt) | (go_at_call 20; refine (HQ.out _).mono ?_; rintro e w' ⟨rfl, rfl⟩) | (go_at_call 14; refine (HS.out _ hb).mono ?_; rintro e V5 ⟨rfl, hV5⟩; have hb := bel_trans hb hV5))
    go_ret
    exact ⟨rfl, hb⟩
end Go.Proofs.YtanicpgmbhfipaaDoor
