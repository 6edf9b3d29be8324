/-
  Layouts: the reference's Offsets.
-/
import Derived.Test.YtiomfkgbaemmkaaLay3
namespace Go.Proofs.Ytiomfkgbaemmkaa
set_option linter.unusedVariables false
set_option linter.unusedSimpArgs false
open Go.RowKit

/-- what Offsets leaves of a valid layout -/
def ROffPost (w : World) (l : List Fld) (e : Ending) (w' : World) : Prop :=
  ∃ v, e = .returned (.tuple #[v, .int .i64 (offN l)]) ∧ w'.ownsRow w.heap.size 3 1 v (offL l).length ((offL l).map (.int .i64)) ∧ Below w.heap.size w w'

set_option maxRecDepth 100000 in
set_option maxHeartbeats 2000000 in
theorem refOffsets_ok (A : Option Addr) (c : Nat) (l : List Fld) (w : World) (hr : Rd w w.heap.size A (fldsV l)) (h : (layP l).2 = 0) :
    Calls Try.prog 21 #[.slice A l.length c] w (ROffPost w l) := by
  obtain ⟨i0, hi, hz0, hz1, hz2⟩ := info_parts info_int
  have hsm := layP_small h
  have hlen24 := (layP_zero h).1
  clear h
  go_enter Try.func21, Try.ntmps21
  go_wp2
  go_loopw [4, 5, 6, 7, 8] (fun v a s op i wr => ∃ k : Nat, k ≤ l.length ∧ i = .int .i64 k ∧ Below w.heap.size w wr ∧ a = .int .i64 (offAt l k).2.1 ∧ s = .int .i64 (offAt l k).2.1 ∧ op = .bool (!(offAt l k).2.2) ∧
     wr.ownsRow w.heap.size 3 1 v (offAt l k).1.length ((offAt l k).1.map (.int .i64))) (fun _ _ _ _ i _ => l.length - (intOf i).toNat)
  case atStart => exact ⟨0, Nat.zero_le _, rfl, Below.refl _ _, rfl, rfl, rfl, World.ownsRow_nil _ _ _ _⟩
  case round =>
    obtain ⟨k, hk, rfl, hb, rfl, rfl, rfl, hown⟩ := hrel
    by_cases hlt : k < l.length
    · have hr2 := hr.below hb
      obtain ⟨b, o, rfl, hB, hc⟩ := hr2.opened (by rw [fldsV_length]; omega)
      obtain ⟨g0, g1⟩ := fldsV_get l k hlt
      have c0 : wr.cell? ⟨b, o + k * 2, none⟩ = _ := hc _ _ g0
      have c1 : wr.cell? ⟨b, o + k * 2 + 1, none⟩ = _ := hc _ _ g1
      obtain ⟨hsm0, hsm1⟩ := hsm k hlt
      obtain ⟨fk, fs, hfk⟩ : ∃ x y, ((x, y) : Fld) = l[k] := ⟨_, _, rfl⟩
      rw [← hfk] at c0 c1 hsm0 hsm1
      have hst := offAt_succ l k hlt
      rw [← hfk] at hst
      obtain ⟨hbd0, hbd1, hbd2⟩ := offAt_bd l hsm k hk
      obtain ⟨acc, sum, op, hac⟩ : ∃ x y z, (x, y, z) = offAt l k := ⟨_, _, _, rfl⟩
      rw [← hac] at hst hown hbd0 hbd1 hbd2
      have HST := Lib.hid hst
      rw [← hac]
      dsimp only at hbd0 hbd1 hbd2 hown c0 c1 hsm0 hsm1
      clear hfk hac hst g0 g1 hc hr hr2 hsm
      have hbs := hb.size
      have hbw : b < wr.heap.size := by omega
      have hne := own_ne hown
      have hne2 : u4.ownBlock ≠ some b := fun he => by have := (hown.lt _ he).1; omega
      cases op <;> cases ho : opn fk
      · go_wp2_with (first | (at_builtin; refine wpList_push _ rfl (.tmp 16) (.tmp 18) 36 rfl w.heap.size 3 i0 (.int .i64 0) 1 8 [.int .i64 sum] Try.underlying36 hi hz0 hz1 hz2 rfl (by decide) u4 _ _ rfl hown _ rfl rfl rfl (by intro u hu; simp at hu; subst hu; rfl) (by unfold maxLen; omega) (by omega) (by omega) ?_; intro v1 w1 hown1 hkeep hsz1 _ _ hb1; have hsz2 : b < w1.heap.size := by omega) | (go_at_call 53; refine (isFixed_any _ _ _).mono ?_; rintro e W2 ⟨rfl, hbW2⟩; obtain ⟨hcW2, hfW2⟩ := bcell hbW2; have hsz2 : b < W2.heap.size := by have := hbW2.size; omega))
        try (go_quiet (fail); go_wp2)
        go_roundw
        case rel =>
          refine ⟨k + 1, by omega, by go_num, (by (repeat (first | assumption | exact Below.refl _ _ | refine bel_drewN ?_ _ | refine bel_alloc ?_ _ | refine bel_trans ?_ (by assumption) | refine Below.trans ?_ (by assumption)))), ?_, ?_, ?_, ?_⟩
          · rw [HST.out]; simp [offStep, ho]
          · rw [HST.out]; simp [offStep, ho]
          · rw [HST.out]; simp [offStep, ho]
          · rw [HST.out]; simp only [offStep]; simp
            (repeat (first | assumption | refine ownsRow_drewN ?_ _ | refine World.ownsRow.alloc ?_ _ | refine ownsRow_below ?_ (by assumption)))
        case measure => simp [intOf]; omega
      · go_wp2_with (first | (at_builtin; refine wpList_push _ rfl (.tmp 16) (.tmp 18) 36 rfl w.heap.size 3 i0 (.int .i64 0) 1 8 [.int .i64 sum] Try.underlying36 hi hz0 hz1 hz2 rfl (by decide) u4 _ _ rfl hown _ rfl rfl rfl (by intro u hu; simp at hu; subst hu; rfl) (by unfold maxLen; omega) (by omega) (by omega) ?_; intro v1 w1 hown1 hkeep hsz1 _ _ hb1; have hsz2 : b < w1.heap.size := by omega) | (go_at_call 53; refine (isFixed_any _ _ _).mono ?_; rintro e W2 ⟨rfl, hbW2⟩; obtain ⟨hcW2, hfW2⟩ := bcell hbW2; have hsz2 : b < W2.heap.size := by have := hbW2.size; omega))
        try (go_quiet (fail); go_wp2)
        go_roundw
        case rel =>
          refine ⟨k + 1, by omega, by go_num, (by (repeat (first | assumption | exact Below.refl _ _ | refine bel_drewN ?_ _ | refine bel_alloc ?_ _ | refine bel_trans ?_ (by assumption) | refine Below.trans ?_ (by assumption)))), ?_, ?_, ?_, ?_⟩
          · rw [HST.out]; simp [offStep, ho]
          · rw [HST.out]; simp [offStep, ho]
          · rw [HST.out]; simp [offStep, ho]
          · rw [HST.out]; simp only [offStep]; simp
            (repeat (first | assumption | refine ownsRow_drewN ?_ _ | refine World.ownsRow.alloc ?_ _ | refine ownsRow_below ?_ (by assumption)))
        case measure => simp [intOf]; omega
      · go_wp2_with (first | (at_builtin; refine wpList_push _ rfl (.tmp 16) (.tmp 18) 36 rfl w.heap.size 3 i0 (.int .i64 0) 1 8 [.int .i64 sum] Try.underlying36 hi hz0 hz1 hz2 rfl (by decide) u4 _ _ rfl hown _ rfl rfl rfl (by intro u hu; simp at hu; subst hu; rfl) (by unfold maxLen; omega) (by omega) (by omega) ?_; intro v1 w1 hown1 hkeep hsz1 _ _ hb1; have hsz2 : b < w1.heap.size := by omega) | (go_at_call 53; refine (isFixed_any _ _ _).mono ?_; rintro e W2 ⟨rfl, hbW2⟩; obtain ⟨hcW2, hfW2⟩ := bcell hbW2; have hsz2 : b < W2.heap.size := by have := hbW2.size; omega))
        try (go_quiet (fail); go_wp2)
        go_roundw
        case rel =>
          refine ⟨k + 1, by omega, by go_num, (by (repeat (first | assumption | exact Below.refl _ _ | refine bel_drewN ?_ _ | refine bel_alloc ?_ _ | refine bel_trans ?_ (by assumption) | refine Below.trans ?_ (by assumption)))), ?_, ?_, ?_, ?_⟩
          · rw [HST.out]; simp [offStep, ho]
          · rw [HST.out]; simp [offStep, ho]
          · rw [HST.out]; simp [offStep, ho]
          · rw [HST.out]; simp only [offStep]; simp
            (repeat (first | assumption | refine ownsRow_drewN ?_ _ | refine World.ownsRow.alloc ?_ _ | refine ownsRow_below ?_ (by assumption)))
        case measure => simp [intOf]; omega
      · go_wp2_with (first | (at_builtin; refine wpList_push _ rfl (.tmp 16) (.tmp 18) 36 rfl w.heap.size 3 i0 (.int .i64 0) 1 8 [.int .i64 sum] Try.underlying36 hi hz0 hz1 hz2 rfl (by decide) u4 _ _ rfl hown _ rfl rfl rfl (by intro u hu; simp at hu; subst hu; rfl) (by unfold maxLen; omega) (by omega) (by omega) ?_; intro v1 w1 hown1 hkeep hsz1 _ _ hb1; have hsz2 : b < w1.heap.size := by omega) | (go_at_call 53; refine (isFixed_any _ _ _).mono ?_; rintro e W2 ⟨rfl, hbW2⟩; obtain ⟨hcW2, hfW2⟩ := bcell hbW2; have hsz2 : b < W2.heap.size := by have := hbW2.size; omega))
        try (go_quiet (fail); go_wp2)
        go_roundw
        case rel =>
          refine ⟨k + 1, by omega, by go_num, (by (repeat (first | assumption | exact Below.refl _ _ | refine bel_drewN ?_ _ | refine bel_alloc ?_ _ | refine bel_trans ?_ (by assumption) | refine Below.trans ?_ (by assumption)))), ?_, ?_, ?_, ?_⟩
          · rw [HST.out]; simp [offStep, ho]
          · rw [HST.out]; simp [offStep, ho]
          · rw [HST.out]; simp [offStep, ho]
          · rw [HST.out]; simp only [offStep]; simp
            (repeat (first | assumption | refine ownsRow_drewN ?_ _ | refine World.ownsRow.alloc ?_ _ | refine ownsRow_below ?_ (by assumption)))
        case measure => simp [intOf]; omega
    · obtain rfl : k = l.length := by omega
      go_wp2
      go_ret2
      exact ⟨u4, rfl, hown, hb⟩
end Go.Proofs.Ytiomfkgbaemmkaa
