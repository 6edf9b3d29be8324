/-
  Layouts: CheckLayout, OffsetsOf; the reference's CopyLayout, CheckLayout, Offsets; Ints.
-/
import Derived.Test.YtiomfkgbaemmkaaDoorLayouts
import Derived.Test.YtiomfkgbaemmkaaDoorKit
namespace Go.Proofs.YtiomfkgbaemmkaaDoor
open Go.RowKit

theorem info_int : (Tryd.prog.info? 3).map (fun i => (i.zero, i.size, i.bytes)) = some (some (.int .i64 0), 1, 8) := by kernel_rfl
theorem info_fld : (Tryd.prog.info? 44).map (fun i => (i.zero, i.size, i.bytes)) = some (some (.agg #[.int .i64 0, .int .i64 0]), 2, 16) := by kernel_rfl

theorem CheckLayout_any (A : Option Addr) (c : Nat) (l : List Fld) (w : World) (hlen : l.length ≤ maxLen) (hr : Rd w w.heap.size A (fldsV l)) :
    Calls Tryd.prog 18 #[.slice A l.length c] w fun e w' =>
      e = .returned (.tuple #[.int .i64 (layP l).1, .int .i64 (layP l).2]) ∧ Below w.heap.size w w' := by
  unfold maxLen at hlen
  by_cases h : 24 < l.length
  · have e : layP l = (0, 8) := by unfold layP; rw [if_pos h]
    have E := Lib.hid e
    clear e
    go_enter Tryd.func18, Tryd.ntmps18
    go_wp2
    go_ret2
    exact ⟨retII (by rw [E.out]) (by rw [E.out]), Below.refl _ _⟩
  · have e : layP l = eachE (fun _ f => fldE f.1 f.2) 0 l := by unfold layP; rw [if_neg h]
    have E := Lib.hid e
    clear e
    go_enter Tryd.func18, Tryd.ntmps18
    go_wp2_with (go_at_call 19; refine (eachCheck_any _ _ l _ (by omega) hr).mono ?_; rintro e W1 ⟨rfl, hbW1⟩; obtain ⟨hcW1, hfW1⟩ := bcell hbW1)
    go_ret2
    exact ⟨retII (by rw [E.out]) (by rw [E.out]), hbW1⟩

theorem isOpen_any (k s : Int) (w : World) :
    Calls Tryd.prog 45 #[.agg #[.int .i64 k, .int .i64 s]] w fun e w' => e = .returned (.bool (opn k)) ∧ Below w.heap.size w w' := by
  cases h : (k == 2) <;> cases h3 : (k == 3)
  all_goals
    go_enter Tryd.func45, Tryd.ntmps45
    go_wp2
    go_ret
    exact ⟨retB (by simp [opn, h, h3]), (Below.refl _ _).alloc (Nat.le_refl _) _⟩

theorem isFixed_any (k s : Int) (w : World) :
    Calls Tryd.prog 59 #[.agg #[.int .i64 k, .int .i64 s]] w fun e w' => e = .returned (.bool (!opn k)) ∧ Below w.heap.size w w' := by
  by_cases h : k = 2
  · subst h
    go_enter Tryd.func59, Tryd.ntmps59
    go_wp2
    go_ret
    exact ⟨retB (by simp [opn]), (Below.refl _ _).alloc (Nat.le_refl _) _⟩
  · by_cases h3 : k = 3
    · subst h3
      go_enter Tryd.func59, Tryd.ntmps59
      go_wp2
      go_ret
      exact ⟨retB (by simp [opn]), (Below.refl _ _).alloc (Nat.le_refl _) _⟩
    · have h1 : (k != 2) = true := by simp [h]
      have h2 : (k != 3) = true := by simp [h3]
      have HH := Lib.hid h
      have HH3 := Lib.hid h3
      clear h h3
      go_enter Tryd.func59, Tryd.ntmps59
      go_wp2
      go_ret
      exact ⟨retB (by simp [opn, HH.out, HH3.out]), (Below.refl _ _).alloc (Nat.le_refl _) _⟩

/-- what OffsetsOf leaves of a valid layout -/
def OffPost (w : World) (l : List Fld) (e : Ending) (w' : World) : Prop :=
  ∃ v, e = .returned (.tuple #[v, .int .i64 (offN l), .int .i64 0]) ∧ w'.ownsRow w.heap.size 3 1 v (offL l).length ((offL l).map (.int .i64)) ∧ Below w.heap.size w w'

end Go.Proofs.YtiomfkgbaemmkaaDoor
