/-
  BytesDumps: the walk.
-/
import Derived.Test.YtiomfkgbaemmkaaAwake
import Derived.Test.YtiomfkgbaemmkaaDump7
namespace Go.Proofs.Ytiomfkgbaemmkaa
set_option linter.unusedVariables false
set_option linter.unusedSimpArgs false
open Go.RowKit

theorem DumpOf_any (s : ByteArray) (w : World) (hs : s.size ≤ 300) :
    Calls Try.prog 37 #[.string s] w fun e w' => e = .returned (.tuple #[.string (bs (dumpL (bl s))), .int .i64 0]) ∧ Below w.heap.size w w' := by
  go_enter Try.func37, Try.ntmps37
  go_wp2_with (go_at_call 63; refine (dump_any s _ (by omega)).mono ?_; rintro e W1 ⟨rfl, hb1⟩)
  go_ret2
  exact ⟨rfl, hb1⟩

set_option maxHeartbeats 1000000 in
theorem wBytesDumps (s t : ByteArray) (w : World) :
    Calls Try.prog 9 #[.string s, .string t] w fun e w' => e = .returned (.bool true) ∧ Below w.heap.size w w' := by
  by_cases h1 : s.size ≤ 300
  · have k1 : decide ((s.size : Int) > 300) = false := by simp; omega
    by_cases h2 : t.size ≤ 2000
    · have k2 : decide ((t.size : Int) > 2000) = false := by simp; omega
      obtain ⟨rs, rn, hpr⟩ : ∃ rs rn, parsed (parseC (bl t)) (bl t) = (rs, rn) := ⟨_, _, rfl⟩
      obtain ⟨X, hX⟩ : ∃ X, X = bs rs := ⟨_, rfl⟩
      have HC := Lib.hid (show ∀ W, Calls Try.prog 38 #[.string t] W fun e w' => e = .returned (.tuple #[.string X, .int .i64 rn]) ∧ Below W.heap.size W w' from fun W => (ParseDump_any t W h2).mono (fun e w' ⟨p, q⟩ => ⟨by rw [p, hpr, hX], q⟩))
      have HR := Lib.hid (show ∀ W, Calls Try.prog 39 #[.string t] W fun e w' => e = .returned (.tuple #[.string X, .int .i64 rn]) ∧ Below W.heap.size W w' from fun W => (refParseDump_any t W h2).mono (fun e w' ⟨p, q⟩ => ⟨by rw [p, ← parse_same, hpr, hX], q⟩))
      obtain ⟨Z, hZ⟩ : ∃ Z, Z = bs (dumpL (bl s)) := ⟨_, rfl⟩
      have hZs : Z.size ≤ 2000 := by
        rw [hZ, bs_size]
        have := dumpB_length (bl s) (((bl s).length + 15) / 16)
        rw [← dumpL, bl_length] at this
        omega
      have HD := Lib.hid (show ∀ W, Calls Try.prog 37 #[.string s] W fun e w' => e = .returned (.tuple #[.string Z, .int .i64 0]) ∧ Below W.heap.size W w' from fun W => (DumpOf_any s W h1).mono (fun e w' ⟨p, q⟩ => ⟨by rw [p, hZ], q⟩))
      have HRD := Lib.hid (show ∀ W, Calls Try.prog 40 #[.string s] W fun e w' => e = .returned (.string Z) ∧ W = w' from fun W => (refDump_any s W (by omega)).mono (fun e w' ⟨p, q⟩ => ⟨by rw [p, hZ], q⟩))
      have HB := Lib.hid (show ∀ W, Calls Try.prog 38 #[.string Z] W fun e w' => e = .returned (.tuple #[.string s, .int .i64 0]) ∧ Below W.heap.size W w' from fun W => (ParseDump_any Z W hZs).mono (fun e w' ⟨p, q⟩ => ⟨by rw [p, hZ, bl_bs, parsed_dump _ (by rw [bl_length]; omega), bs_bl], q⟩))
      clear hpr hX hZ
      go_enter Try.func9, Try.ntmps9
      go_wp2_with (first | (go_at_call 10; refine (awake_any _).mono ?_; rintro e W1 ⟨rfl, hbW1⟩; obtain ⟨hcW1, hfW1⟩ := bcell hbW1) | (go_at_call 37; refine (HD.out _).mono ?_; rintro e W2 ⟨rfl, hbW2⟩; obtain ⟨hcW2, hfW2⟩ := bcell hbW2) | (go_at_call 38; (with_reducible refine (HC.out _).mono ?_); rintro e W3 ⟨rfl, hbW3⟩) | (go_at_call 38; (with_reducible refine (HB.out _).mono ?_); rintro e W4 ⟨rfl, hbW4⟩) | (go_at_call 39; refine (HR.out _).mono ?_; rintro e W5 ⟨rfl, hbW5⟩; obtain ⟨hcW5, hfW5⟩ := bcell hbW5) | (go_at_call 40; refine (HRD.out _).mono ?_; rintro e w' ⟨rfl, rfl⟩))
      go_ret
      exact ⟨rfl, bel_trans (bel_trans (bel_trans (bel_trans hbW1 hbW2) hbW3) hbW5) hbW4⟩
    · have k2 : decide ((t.size : Int) > 2000) = true := by simp; omega
      go_enter Try.func9, Try.ntmps9
      go_wp2_with (go_at_call 10; refine (awake_any _).mono ?_; rintro e W1 ⟨rfl, hbW1⟩; obtain ⟨hcW1, hfW1⟩ := bcell hbW1)
      go_ret
      exact ⟨rfl, hbW1⟩
  · have k1 : decide ((s.size : Int) > 300) = true := by simp; omega
    go_enter Try.func9, Try.ntmps9
    go_wp2_with (go_at_call 10; refine (awake_any _).mono ?_; rintro e W1 ⟨rfl, hbW1⟩; obtain ⟨hcW1, hfW1⟩ := bcell hbW1)
    go_ret
    exact ⟨rfl, hbW1⟩
theorem mBytesDumps (s : ByteArray) (_ : s.size ≤ maxLen) (t : ByteArray) (_ : t.size ≤ maxLen) (w : World) :
    Calls Try.prog 9 #[.string s, .string t] w fun e w' => e = .returned (.bool true) ∧ Below w.heap.size w w' := wBytesDumps s t w
end Go.Proofs.Ytiomfkgbaemmkaa
