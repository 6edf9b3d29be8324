/-
  Layouts: CheckLayout, OffsetsOf; the reference's CopyLayout, CheckLayout, Offsets; Ints.
-/
import Derived.Test.YtiomfkgbaemmkaaLayouts
import Derived.Test.YtiomfkgbaemmkaaKit
namespace Go.Proofs.Ytiomfkgbaemmkaa
open Go.RowKit

theorem info_int : (Try.prog.info? 3).map (fun i => (i.zero, i.size, i.bytes)) = some (some (.int .i64 0), 1, 8) := by kernel_rfl
theorem info_fld : (Try.prog.info? 67).map (fun i => (i.zero, i.size, i.bytes)) = some (some (.agg #[.int .i64 0, .int .i64 0]), 2, 16) := by kernel_rfl

theorem CheckLayout_any (A : Option Addr) (c : Nat) (l : List Fld) (w : World) (hlen : l.length ≤ maxLen) (hr : Rd w w.heap.size A (fldsV l)) :
    Calls Try.prog 17 #[.slice A l.length c] w fun e w' =>
      e = .returned (.tuple #[.int .i64 (layP l).1, .int .i64 (layP l).2]) ∧ Below w.heap.size w w' := by
  unfold maxLen at hlen
  by_cases h : 24 < l.length
  · have e : layP l = (0, 8) := by unfold layP; rw [if_pos h]
    have E := Lib.hid e
    clear e
    go_enter Try.func17, Try.ntmps17
    go_wp2
    go_ret2
    exact ⟨retII (by rw [E.out]) (by rw [E.out]), Below.refl _ _⟩
  · have e : layP l = eachE (fun _ f => fldE f.1 f.2) 0 l := by unfold layP; rw [if_neg h]
    have E := Lib.hid e
    clear e
    go_enter Try.func17, Try.ntmps17
    go_wp2_with (go_at_call 50; refine (eachCheck_any _ _ l _ (by omega) hr).mono ?_; rintro e W1 ⟨rfl, hbW1⟩; obtain ⟨hcW1, hfW1⟩ := bcell hbW1)
    go_ret2
    exact ⟨retII (by rw [E.out]) (by rw [E.out]), hbW1⟩

theorem isOpen_any (k s : Int) (w : World) :
    Calls Try.prog 52 #[.agg #[.int .i64 k, .int .i64 s]] w fun e w' => e = .returned (.bool (opn k)) ∧ Below w.heap.size w w' := by
  cases h : (k == 2) <;> cases h3 : (k == 3)
  all_goals
    go_enter Try.func52, Try.ntmps52
    go_wp2
    go_ret
    exact ⟨retB (by simp [opn, h, h3]), (Below.refl _ _).alloc (Nat.le_refl _) _⟩

theorem isFixed_any (k s : Int) (w : World) :
    Calls Try.prog 53 #[.agg #[.int .i64 k, .int .i64 s]] w fun e w' => e = .returned (.bool (!opn k)) ∧ Below w.heap.size w w' := by
  by_cases h : k = 2
  · subst h
    go_enter Try.func53, Try.ntmps53
    go_wp2
    go_ret
    exact ⟨retB (by simp [opn]), (Below.refl _ _).alloc (Nat.le_refl _) _⟩
  · by_cases h3 : k = 3
    · subst h3
      go_enter Try.func53, Try.ntmps53
      go_wp2
      go_ret
      exact ⟨retB (by simp [opn]), (Below.refl _ _).alloc (Nat.le_refl _) _⟩
    · have h1 : (k != 2) = true := by simp [h]
      have h2 : (k != 3) = true := by simp [h3]
      have HH := Lib.hid h
      have HH3 := Lib.hid h3
      clear h h3
      go_enter Try.func53, Try.ntmps53
      go_wp2
      go_ret
      exact ⟨retB (by simp [opn, HH.out, HH3.out]), (Below.refl _ _).alloc (Nat.le_refl _) _⟩

/-- what OffsetsOf leaves of a valid layout -/
def OffPost (w : World) (l : List Fld) (e : Ending) (w' : World) : Prop :=
  ∃ v, e = .returned (.tuple #[v, .int .i64 (offN l), .int .i64 0]) ∧ w'.ownsRow w.heap.size 3 1 v (offL l).length ((offL l).map (.int .i64)) ∧ Below w.heap.size w w'

theorem OffsetsOf_bad (A : Option Addr) (c : Nat) (l : List Fld) (w : World) (hlen : l.length ≤ maxLen) (hr : Rd w w.heap.size A (fldsV l)) (h : (layP l).2 ≠ 0) :
    Calls Try.prog 19 #[.slice A l.length c] w fun e w' =>
      e = .returned (.tuple #[.slice none 0 0, .int .i64 0, .int .i64 (layP l).2]) ∧ Below w.heap.size w w' := by
  have h1 : ((layP l).2 != 0) = true := by simp [h]
  clear h
  go_enter Try.func19, Try.ntmps19
  go_wp2_with (go_at_call 17; refine (CheckLayout_any _ _ l _ hlen hr).mono ?_; rintro e W1 ⟨rfl, hbW1⟩; obtain ⟨hcW1, hfW1⟩ := bcell hbW1)
  go_ret3
  exact ⟨rfl, hbW1⟩

set_option maxRecDepth 100000 in
set_option maxHeartbeats 1000000 in
theorem OffsetsOf_ok (A : Option Addr) (c : Nat) (l : List Fld) (w : World) (hlen : l.length ≤ maxLen) (hr : Rd w w.heap.size A (fldsV l)) (h : (layP l).2 = 0) :
    Calls Try.prog 19 #[.slice A l.length c] w (OffPost w l) := by
  obtain ⟨i0, hi, hz0, hz1, hz2⟩ := info_parts info_int
  have h1 : ((layP l).2 != 0) = false := by simp [h]
  have hsm := layP_small h
  have hlen24 := (layP_zero h).1
  clear h
  go_enter Try.func19, Try.ntmps19
  go_wp2_with (go_at_call 17; refine (CheckLayout_any _ _ l _ hlen hr).mono ?_; rintro e W1 ⟨rfl, hbW1⟩; obtain ⟨hcW1, hfW1⟩ := bcell hbW1)
  clear hcW1 hfW1
  go_loopw [7, 8, 9, 22] (fun v s op i wr => ∃ k : Nat, k ≤ l.length ∧ i = .int .i64 k ∧ Below w.heap.size w wr ∧ s = .int .i64 (offAt l k).2.1 ∧ op = .bool (offAt l k).2.2 ∧
     wr.ownsRow w.heap.size 3 1 v (offAt l k).1.length ((offAt l k).1.map (.int .i64))) (fun _ _ _ i _ => l.length - (intOf i).toNat)
  case atStart => exact ⟨0, Nat.zero_le _, rfl, hbW1, rfl, rfl, World.ownsRow_nil _ _ _ _⟩
  case round =>
    obtain ⟨k, hk, rfl, hb, rfl, rfl, hown⟩ := hrel
    clear hbW1
    by_cases hlt : k < l.length
    · have hr2 := hr.below hb
      obtain ⟨b, o, rfl, hB, hc⟩ := hr2.opened (by rw [fldsV_length]; omega)
      obtain ⟨g0, g1⟩ := fldsV_get l k hlt
      have c0 : wr.cell? ⟨b, o + k * 2, none⟩ = _ := hc _ _ g0
      have c1 : wr.cell? ⟨b, o + k * 2 + 1, none⟩ = _ := hc _ _ g1
      obtain ⟨hsm0, hsm1⟩ := hsm k hlt
      obtain ⟨fk, fs, hfk⟩ : ∃ x y, ((x, y) : Fld) = l[k] := ⟨_, _, rfl⟩
      rw [← hfk] at c0 c1 hsm0 hsm1
      have hst := offAt_succ l k hlt
      rw [← hfk] at hst
      obtain ⟨hbd0, hbd1, hbd2⟩ := offAt_bd l hsm k hk
      obtain ⟨acc, sum, op, hac⟩ : ∃ x y z, (x, y, z) = offAt l k := ⟨_, _, _, rfl⟩
      rw [← hac] at hst hown hbd0 hbd1 hbd2
      have HFK := Lib.hid hfk
      have HAC := Lib.hid hac
      have HST := Lib.hid hst
      rw [← hac]
      dsimp only at hbd0 hbd1 hbd2 hown c0 c1 hsm0 hsm1
      clear hfk hac hst g0 g1 hc hr hr2 hsm
      have hbs := hb.size
      have hne := own_ne hown
      cases op <;> cases ho : opn fk
      · go_wp2_with (first | (at_builtin; refine wpList_push _ rfl (.tmp 28) (.tmp 30) 36 rfl w.heap.size 3 i0 (.int .i64 0) 1 8 [.int .i64 sum] Try.underlying36 hi hz0 hz1 hz2 rfl (by decide) u7 _ _ rfl (hown.alloc _) _ rfl (by simp) rfl (by intro u hu; simp at hu; subst hu; rfl) (by unfold maxLen; omega) (by omega) (by simp; omega) ?_; intro v1 w1 hown1 hkeep hsz1 _ _ hb1; simp only [World.size_alloc] at hsz1; have hsz2 : wr.heap.size < w1.heap.size := by omega) | (go_at_call 52; refine (isOpen_any _ _ _).mono ?_; rintro e W2 ⟨rfl, hbW2⟩; obtain ⟨hcW2, hfW2⟩ := bcell hbW2; have hsz2 : wr.heap.size < W2.heap.size := by have := hbW2.size; omega))
        go_roundw
        case rel =>
          refine ⟨k + 1, by omega, by go_num, (by (repeat (first | assumption | exact Below.refl _ _ | refine bel_drewN ?_ _ | refine bel_alloc ?_ _ | refine bel_trans ?_ (by assumption) | refine Below.trans ?_ (by assumption)))), ?_, ?_, ?_⟩
          · rw [HST.out]; simp [offStep, ho]
          · rw [HST.out]; simp [offStep, ho]
          · rw [HST.out]; simp only [offStep]; simp
            exact ownsRow_below (ownsRow_below hown1 (by assumption)) (by assumption)
        case measure => simp [intOf]; omega
      · go_wp2_with (first | (at_builtin; refine wpList_push _ rfl (.tmp 28) (.tmp 30) 36 rfl w.heap.size 3 i0 (.int .i64 0) 1 8 [.int .i64 sum] Try.underlying36 hi hz0 hz1 hz2 rfl (by decide) u7 _ _ rfl (hown.alloc _) _ rfl (by simp) rfl (by intro u hu; simp at hu; subst hu; rfl) (by unfold maxLen; omega) (by omega) (by simp; omega) ?_; intro v1 w1 hown1 hkeep hsz1 _ _ hb1; simp only [World.size_alloc] at hsz1; have hsz2 : wr.heap.size < w1.heap.size := by omega) | (go_at_call 52; refine (isOpen_any _ _ _).mono ?_; rintro e W2 ⟨rfl, hbW2⟩; obtain ⟨hcW2, hfW2⟩ := bcell hbW2; have hsz2 : wr.heap.size < W2.heap.size := by have := hbW2.size; omega))
        go_roundw
        case rel =>
          refine ⟨k + 1, by omega, by go_num, (by (repeat (first | assumption | exact Below.refl _ _ | refine bel_drewN ?_ _ | refine bel_alloc ?_ _ | refine bel_trans ?_ (by assumption) | refine Below.trans ?_ (by assumption)))), ?_, ?_, ?_⟩
          · rw [HST.out]; simp [offStep, ho]
          · rw [HST.out]; simp [offStep, ho]
          · rw [HST.out]; simp only [offStep]; simp
            exact ownsRow_below (ownsRow_below hown1 (by assumption)) (by assumption)
        case measure => simp [intOf]; omega
      · go_wp2_with (go_at_call 52; refine (isOpen_any _ _ _).mono ?_; rintro e W2 ⟨rfl, hbW2⟩; obtain ⟨hcW2, hfW2⟩ := bcell hbW2; have hsz2 : wr.heap.size < W2.heap.size := by have := hbW2.size; simp only [World.size_alloc] at this; omega)
        go_roundw
        case rel =>
          refine ⟨k + 1, by omega, by go_num, (by (repeat (first | assumption | exact Below.refl _ _ | refine bel_drewN ?_ _ | refine bel_alloc ?_ _ | refine bel_trans ?_ (by assumption) | refine Below.trans ?_ (by assumption)))), ?_, ?_, ?_⟩
          · rw [HST.out]; simp [offStep, ho]
          · rw [HST.out]; simp [offStep, ho]
          · rw [HST.out]; simp only [offStep]; simp
            exact ownsRow_below (hown.alloc _) hbW2
        case measure => simp [intOf]; omega
      · go_wp2_with (go_at_call 52; refine (isOpen_any _ _ _).mono ?_; rintro e W2 ⟨rfl, hbW2⟩; obtain ⟨hcW2, hfW2⟩ := bcell hbW2; have hsz2 : wr.heap.size < W2.heap.size := by have := hbW2.size; simp only [World.size_alloc] at this; omega)
        go_roundw
        case rel =>
          refine ⟨k + 1, by omega, by go_num, (by (repeat (first | assumption | exact Below.refl _ _ | refine bel_drewN ?_ _ | refine bel_alloc ?_ _ | refine bel_trans ?_ (by assumption) | refine Below.trans ?_ (by assumption)))), ?_, ?_, ?_⟩
          · rw [HST.out]; simp [offStep, ho]
          · rw [HST.out]; simp [offStep, ho]
          · rw [HST.out]; simp only [offStep]; simp
            exact ownsRow_below (hown.alloc _) hbW2
        case measure => simp [intOf]; omega
    · obtain rfl : k = l.length := by omega
      go_wp2
      go_ret3
      exact ⟨u7, rfl, hown, hb⟩
end Go.Proofs.Ytiomfkgbaemmkaa
