/-
  Strings: Patched, PaddedTo; the helpers' Patch, Zeros; the reference's PatchErr, Padded.
-/
import Derived.Test.YtiomfkgbaemmkaaPlain2
import Derived.Test.YtiomfkgbaemmkaaNums
import Derived.Test.YtiomfkgbaemmkaaShelf
namespace Go.Proofs.Ytiomfkgbaemmkaa
set_option linter.unusedVariables false
set_option linter.unusedSimpArgs false
open Go.RowKit

theorem Patch_any (s b : ByteArray) (a : Nat) (w : World) (hs : s.size ≤ 1000000) (h1 : a + b.size ≤ s.size) :
    Calls Try.prog 26 #[.string s, .int .i64 a, .string b] w fun e w' => e = .returned (.string (patS s a b)) ∧ Below w.heap.size w w' := by
  go_enter Try.func26, Try.ntmps26
  go_wp2
  go_quiet (fail)
  go_wp2
  go_ret
  exact ⟨rfl, bel_drewN (Below.refl _ _) _⟩

/-- what Patched returns -/
def patR (s : ByteArray) (a : Int) (b : ByteArray) : ByteArray := if patE s a b = 0 then patS s a.toNat b else ⟨#[]⟩

theorem Patched_any (s b : ByteArray) (a : Int) (w : World) (hs : s.size ≤ maxLen) (hb : b.size ≤ maxLen) :
    Calls Try.prog 16 #[.string s, .int .i64 a, .string b] w fun e w' => e = .returned (.tuple #[.string (patR s a b), .int .i64 (patE s a b)]) ∧ Below w.heap.size w w' := by
  have hs' := hs
  have hb' := hb
  unfold maxLen at hs' hb'
  by_cases h : patE s a b = 0
  · obtain ⟨h1, h2, h3, h4⟩ := patE_zero h
    have h5 : (firstE [strE s, strE b, unl (inB a 0 (s.size - b.size)) 37] != 0) = false := by
      have : firstE [strE s, strE b, unl (inB a 0 (s.size - b.size)) 37] = 0 := h
      rw [this]; rfl
    have H := Lib.hid h
    clear h
    obtain ⟨n, rfl⟩ := Int.eq_ofNat_of_zero_le h3
    have h6 : n + b.size ≤ s.size := by omega
    clear hs' hb' h3 h4
    go_enter Try.func16, Try.ntmps16
    go_wp2_with (first | (go_at_call 47; refine (stringErr_any _ _ (by assumption)).mono ?_; rintro e w' ⟨rfl, rfl⟩) | (go_at_call 49; refine (within_any _ _ _ _).mono ?_; rintro e w' ⟨rfl, rfl⟩) | (go_at_call 48; refine (unless_any _ _ _).mono ?_; rintro e w' ⟨rfl, rfl⟩) | (go_at_call 46; refine (first_list [_, _, _] w (by simp)).mono ?_; rintro e w' ⟨rfl, rfl⟩))
    go_quiet (fail)
    go_wp2
    go_ret2
    exact ⟨retSI (by unfold patR; rw [if_pos H.out]; rfl) H.out.symm, bel_drewN (bel_alloc (Below.refl _ _) _) _⟩
  · have h5 : (firstE [strE s, strE b, unl (inB a 0 (s.size - b.size)) 37] != 0) = true := by
      have h' : firstE [strE s, strE b, unl (inB a 0 (s.size - b.size)) 37] ≠ 0 := h
      simpa using h'
    have H := Lib.hid h
    clear h
    go_enter Try.func16, Try.ntmps16
    go_wp2_with (first | (go_at_call 47; refine (stringErr_any _ _ (by assumption)).mono ?_; rintro e w' ⟨rfl, rfl⟩) | (go_at_call 49; refine (within_any _ _ _ _).mono ?_; rintro e w' ⟨rfl, rfl⟩) | (go_at_call 48; refine (unless_any _ _ _).mono ?_; rintro e w' ⟨rfl, rfl⟩) | (go_at_call 46; refine (first_list [_, _, _] w (by simp)).mono ?_; rintro e w' ⟨rfl, rfl⟩))
    go_ret2
    exact ⟨retSI (by unfold patR; rw [if_neg H.out]) rfl, bel_alloc (Below.refl _ _) _⟩

theorem PatchErr_any (s b : ByteArray) (a : Int) (w : World) (hs : s.size ≤ maxLen) (hb : b.size ≤ maxLen) :
    Calls Try.prog 25 #[.string s, .int .i64 a, .string b] w fun e w' => e = .returned (.int .i64 (patE s a b)) ∧ w = w' := by
  have hs' := hs
  have hb' := hb
  unfold maxLen at hs' hb'
  by_cases h1 : strE s = 0
  · have h1' : (strE s != 0) = false := by rw [h1]; rfl
    by_cases h2 : strE b = 0
    · have h2' : (strE b != 0) = false := by rw [h2]; rfl
      cases h3 : inB a 0 (s.size - b.size)
      · have e : patE s a b = 37 := by simp [patE, firstE, h1, h2, h3, unl]
        have E := Lib.hid e
        clear e h1 h2
        go_enter Try.func25, Try.ntmps25
        go_wp2_with (first | (go_at_call 55; refine (StringErr_any _ _ (by assumption)).mono ?_; rintro e w' ⟨rfl, rfl⟩) | (go_at_call 15; refine (Within_any _ _ _ _).mono ?_; rintro e w' ⟨rfl, rfl⟩))
        go_ret
        exact ⟨retI E.out.symm, rfl⟩
      · have e : patE s a b = 0 := by simp [patE, firstE, h1, h2, h3, unl]
        have E := Lib.hid e
        clear e h1 h2
        go_enter Try.func25, Try.ntmps25
        go_wp2_with (first | (go_at_call 55; refine (StringErr_any _ _ (by assumption)).mono ?_; rintro e w' ⟨rfl, rfl⟩) | (go_at_call 15; refine (Within_any _ _ _ _).mono ?_; rintro e w' ⟨rfl, rfl⟩))
        go_ret
        exact ⟨retI E.out.symm, rfl⟩
    · have h2' : (strE b != 0) = true := by simp [h2]
      have e : patE s a b = strE b := by simp [patE, firstE, h1, h2]
      have E := Lib.hid e
      clear e h1 h2
      go_enter Try.func25, Try.ntmps25
      go_wp2_with (first | (go_at_call 55; refine (StringErr_any _ _ (by assumption)).mono ?_; rintro e w' ⟨rfl, rfl⟩))
      go_ret
      exact ⟨retI E.out.symm, rfl⟩
  · have h1' : (strE s != 0) = true := by simp [h1]
    have e : patE s a b = strE s := by simp [patE, firstE, h1]
    have E := Lib.hid e
    clear e h1
    go_enter Try.func25, Try.ntmps25
    go_wp2_with (first | (go_at_call 55; refine (StringErr_any _ _ (by assumption)).mono ?_; rintro e w' ⟨rfl, rfl⟩))
    go_ret
    exact ⟨retI E.out.symm, rfl⟩

theorem madeZeros (n : Nat) : (madeCells (Value.int .u8 0).cells (n * 1)).toList = (zerosL n).map byteV := by
  have : (Value.int .u8 0).cells = #[.int .u8 0] := rfl
  rw [this, Nat.mul_one, toList_madeCells_one]
  simp [zerosL, byteV]

theorem Zeros_any (n : Nat) (w : World) (hn : n ≤ 200000) :
    Calls Try.prog 56 #[.int .i64 n] w fun e w' => e = .returned (.string (bs (zerosL n))) ∧ Below w.heap.size w w' := by
  obtain ⟨i0, hi, hz0, hz1, hz2⟩ := info_parts info_u8
  have hmin : min (n : Int) 200000 = n := by omega
  have hmax : max 0 (n : Int) = n := by omega
  go_enter Try.func56, Try.ntmps56
  go_wp2_with (at_make; refine wpList_make_full _ rfl _ _ _ rfl w.heap.size 5 i0 (.int .u8 0) 1 Try.underlying26 hi hz0 hz1 _ _ _ _ n rfl rfl rfl rfl (by rw [hz2]; omega) (by unfold maxLen; omega) (Nat.le_refl _) ?_; intro W1 hown hgrow; rw [madeZeros] at hown; have hb1 : Below w.heap.size w W1 := (Below.refl _ _).grown hgrow (Nat.le_refl _) (by simp); have hconv := conv_own hown; clear hown hgrow)
  go_ret
  exact ⟨rfl, hb1⟩

theorem repeat0_any (k : Nat) (z : ByteArray) (w : World) (hz : z = bs (zerosL k)) (hk : k ≤ 1000000) :
    Calls Try.prog 54 #[.string ⟨#[0]⟩, .int .i64 k] w fun e w' => e = .returned (.string z) ∧ Below w.heap.size w w' := by
  refine (Try.strings_Repeat _ k _ (by omega) (by show 1 * k ≤ _; omega)).mono ?_
  rintro e W1 ⟨rfl, hb1⟩
  refine ⟨?_, hb1⟩
  rw [hz, ← repeat_zero]; rfl
theorem zerosL_size (k : Nat) : (bs (zerosL k)).size = k := by rw [bs_size]; simp [zerosL]

theorem padE_of (s : ByteArray) (u : Int) (h1 : strE s = 0) (h2 : 0 < u) : firstE [strE s, unl (decide (0 < u)) 11] = 0 := by simp [firstE, h1, h2, unl]

set_option maxHeartbeats 1000000 in
theorem PaddedTo_any (s : ByteArray) (u : Int) (w : World) (hs : s.size ≤ maxLen) (hu : u ≤ 1000) :
    Calls Try.prog 23 #[.string s, .int .i64 u] w fun e w' => e = .returned (.tuple #[.string (padS s u), .int .i64 (padE s u)]) ∧ Below w.heap.size w w' := by
  have hs' := hs
  unfold maxLen at hs'
  by_cases h : strE s = 0 ∧ 0 < u
  · obtain ⟨h1, h2⟩ := h
    have hz := strE_zero.1 h1
    have hf := padE_of s u h1 h2
    have h3 : (firstE [strE s, unl true 11] != 0) = false := by rw [show firstE [strE s, unl true 11] = 0 by simp [firstE, h1, unl]]; rfl
    have hp : padE s u = unl (decide (moreN s.size u ≤ 200000 - s.size)) 8 := by unfold padE; rw [if_neg (by simp [hf])]
    have hm := moreN_bd s.size u (by omega) h2
    have m1 := Int.emod_nonneg (s.size : Int) (b := u) (by omega)
    have m2 := Int.emod_lt_of_pos (s.size : Int) h2
    obtain ⟨m, hmm⟩ : ∃ m, m = moreN s.size u := ⟨_, rfl⟩
    rw [← hmm] at hp hm
    have HP := Lib.hid hp
    have h2d : decide (0 < u) = true := decide_eq_true h2
    by_cases hr : 0 < (s.size : Int) % u
    · have hm2 : m = u - (s.size : Int) % u := by rw [hmm]; unfold moreN; rw [if_pos hr]
      have HM := Lib.hid hm2
      have HMM := Lib.hid hmm
      clear hm2 hmm hp hf h1 m1
      by_cases hfit : m ≤ 200000 - s.size
      · have hfit' : u - (s.size : Int) % u ≤ 200000 - s.size := by rw [← HM.out]; exact hfit
        have hfin : padE s u = 0 := by rw [HP.out, decide_eq_true hfit]; rfl
        obtain ⟨k, hk⟩ := Int.eq_ofNat_of_zero_le hm.1
        have hk' : u - (s.size : Int) % u = (k : Int) := by rw [← HM.out]; exact hk
        have HF := Lib.hid hfin
        have hkb : k ≤ 200000 := by omega
        obtain ⟨z, hz'⟩ : ∃ z, z = bs (zerosL k) := ⟨_, rfl⟩
        have hzs : z.size ≤ 200000 := by rw [hz', zerosL_size]; exact hkb
        have HZ := Lib.hid hz'
        clear hz'
        have HK := Lib.hid hk
        clear hfin hk hfit hm
        go_enter Try.func23, Try.ntmps23
        go_wp2_with (first | (go_at_call 47; refine (stringErr_any _ _ (by assumption)).mono ?_; rintro e w' ⟨rfl, rfl⟩) | (go_at_call 48; refine (unless_any _ _ _).mono ?_; rintro e w' ⟨rfl, rfl⟩) | (go_at_call 46; refine (first_list [_, _] w (by simp)).mono ?_; rintro e w' ⟨rfl, rfl⟩) | (go_at_call 54; refine (repeat0_any k z _ HZ.out (by omega)).mono ?_; rintro e W1 ⟨rfl, hbW1⟩; obtain ⟨hcW1, hfW1⟩ := bcell hbW1))
        go_ret2
        refine ⟨retSI ?_ HF.out.symm, bel_trans (bel_alloc (Below.refl _ _) _) hbW1⟩
        unfold padS
        rw [if_pos HF.out, ← HMM.out, HK.out, HZ.out]; rfl
      · have hfit' : ¬ u - (s.size : Int) % u ≤ 200000 - s.size := by rw [← HM.out]; exact hfit
        have hfin : padE s u = 8 := by rw [HP.out, decide_eq_false hfit]; rfl
        have HF := Lib.hid hfin
        clear hfin hfit hm
        go_enter Try.func23, Try.ntmps23
        go_wp2_with (first | (go_at_call 47; refine (stringErr_any _ _ (by assumption)).mono ?_; rintro e w' ⟨rfl, rfl⟩) | (go_at_call 48; refine (unless_any _ _ _).mono ?_; rintro e w' ⟨rfl, rfl⟩) | (go_at_call 46; refine (first_list [_, _] w (by simp)).mono ?_; rintro e w' ⟨rfl, rfl⟩))
        go_ret2
        exact ⟨retSI (by unfold padS; rw [if_neg (by rw [HF.out]; decide)]) HF.out.symm, bel_alloc (Below.refl _ _) _⟩
    · have hm2 : m = 0 := by rw [hmm]; unfold moreN; rw [if_neg hr]
      have hfin : padE s u = 0 := by rw [HP.out, hm2, decide_eq_true (by omega)]; rfl
      have HF := Lib.hid hfin
      have HM := Lib.hid hm2
      have HMM := Lib.hid hmm
      clear hm2 hmm hp hf h1 hfin m1 hm
      go_enter Try.func23, Try.ntmps23
      go_wp2_with (first | (go_at_call 47; refine (stringErr_any _ _ (by assumption)).mono ?_; rintro e w' ⟨rfl, rfl⟩) | (go_at_call 48; refine (unless_any _ _ _).mono ?_; rintro e w' ⟨rfl, rfl⟩) | (go_at_call 46; refine (first_list [_, _] w (by simp)).mono ?_; rintro e w' ⟨rfl, rfl⟩) | (go_at_call 54; refine (repeat0_any 0 ⟨#[]⟩ _ rfl (by omega)).mono ?_; rintro e W1 ⟨rfl, hbW1⟩; obtain ⟨hcW1, hfW1⟩ := bcell hbW1))
      go_ret2
      refine ⟨retSI ?_ HF.out.symm, bel_trans (bel_alloc (Below.refl _ _) _) hbW1⟩
      unfold padS
      rw [if_pos HF.out, ← HMM.out, HM.out]
      rfl
  · have hne : firstE [strE s, unl (decide (0 < u)) 11] ≠ 0 := by
      by_cases h1 : strE s = 0
      · have h2 : ¬ 0 < u := fun h2 => h ⟨h1, h2⟩
        simp [firstE, h1, h2, unl]
      · simp [firstE, h1]
    have hfin : padE s u = firstE [strE s, unl (decide (0 < u)) 11] := by unfold padE; rw [if_pos hne]
    have HF := Lib.hid hfin
    have HN := Lib.hid hne
    by_cases h2 : 0 < u
    · have h3 : (firstE [strE s, unl true 11] != 0) = true := by rw [decide_eq_true h2] at hne; simpa using hne
      clear hfin hne h
      go_enter Try.func23, Try.ntmps23
      go_wp2_with (first | (go_at_call 47; refine (stringErr_any _ _ (by assumption)).mono ?_; rintro e w' ⟨rfl, rfl⟩) | (go_at_call 48; refine (unless_any _ _ _).mono ?_; rintro e w' ⟨rfl, rfl⟩) | (go_at_call 46; refine (first_list [_, _] w (by simp)).mono ?_; rintro e w' ⟨rfl, rfl⟩))
      go_ret2
      exact ⟨retSI (by unfold padS; rw [if_neg (by rw [HF.out]; exact HN.out)]) (by rw [HF.out, decide_eq_true h2]), bel_alloc (Below.refl _ _) _⟩
    · have h3 : (firstE [strE s, unl (decide (0 < u)) 11] != 0) = true := by simpa using hne
      clear hfin hne h
      go_enter Try.func23, Try.ntmps23
      go_wp2_with (first | (go_at_call 47; refine (stringErr_any _ _ (by assumption)).mono ?_; rintro e w' ⟨rfl, rfl⟩) | (go_at_call 48; refine (unless_any _ _ _).mono ?_; rintro e w' ⟨rfl, rfl⟩) | (go_at_call 46; refine (first_list [_, _] w (by simp)).mono ?_; rintro e w' ⟨rfl, rfl⟩))
      go_ret2
      exact ⟨retSI (by unfold padS; rw [if_neg (by rw [HF.out]; exact HN.out)]) HF.out.symm, bel_alloc (Below.refl _ _) _⟩

set_option maxHeartbeats 1000000 in
theorem Padded_any (s : ByteArray) (u : Int) (w : World) (hs : s.size ≤ maxLen) (hu : u ≤ 1000) :
    Calls Try.prog 24 #[.string s, .int .i64 u] w fun e w' => e = .returned (.tuple #[.string (padS s u), .int .i64 (padE s u)]) ∧ Below w.heap.size w w' := by
  have hs' := hs
  unfold maxLen at hs'
  by_cases h1 : strE s = 0
  · have hz := strE_zero.1 h1
    have h1' : (strE s != 0) = false := by rw [h1]; rfl
    by_cases h2 : 0 < u
    · have hf := padE_of s u h1 h2
      have hp : padE s u = unl (decide (moreN s.size u ≤ 200000 - s.size)) 8 := by unfold padE; rw [if_neg (by simp [hf])]
      have hm := moreN_bd s.size u (by omega) h2
      have m1 := Int.emod_nonneg (s.size : Int) (b := u) (by omega)
      have m2 := Int.emod_lt_of_pos (s.size : Int) h2
      obtain ⟨m, hmm⟩ : ∃ m, m = moreN s.size u := ⟨_, rfl⟩
      rw [← hmm] at hp hm
      have HP := Lib.hid hp
      by_cases hr : 0 < (s.size : Int) % u
      · have hm2 : m = u - (s.size : Int) % u := by rw [hmm]; unfold moreN; rw [if_pos hr]
        have HM := Lib.hid hm2
        have HMM := Lib.hid hmm
        clear hm2 hmm hp hf h1 m1
        by_cases hfit : m ≤ 200000 - s.size
        · have hfit' : u - (s.size : Int) % u ≤ 200000 - s.size := by rw [← HM.out]; exact hfit
          have hfin : padE s u = 0 := by rw [HP.out, decide_eq_true hfit]; rfl
          obtain ⟨k, hk⟩ := Int.eq_ofNat_of_zero_le hm.1
          have hk' : u - (s.size : Int) % u = (k : Int) := by rw [← HM.out]; exact hk
          have HF := Lib.hid hfin
          have hkb : k ≤ 200000 := by omega
          have hzs := zerosL_size k
          have HK := Lib.hid hk
          clear hfin hk hfit hm
          go_enter Try.func24, Try.ntmps24
          go_wp2_with (first | (go_at_call 55; refine (StringErr_any _ _ (by assumption)).mono ?_; rintro e w' ⟨rfl, rfl⟩) | (go_at_call 56; refine (Zeros_any k _ hkb).mono ?_; rintro e W1 ⟨rfl, hbW1⟩; obtain ⟨hcW1, hfW1⟩ := bcell hbW1))
          go_ret2
          refine ⟨retSI ?_ HF.out.symm, hbW1⟩
          unfold padS
          rw [if_pos HF.out, ← HMM.out, HK.out]; rfl
        · have hfit' : ¬ u - (s.size : Int) % u ≤ 200000 - s.size := by rw [← HM.out]; exact hfit
          have hfin : padE s u = 8 := by rw [HP.out, decide_eq_false hfit]; rfl
          have HF := Lib.hid hfin
          clear hfin hfit hm
          go_enter Try.func24, Try.ntmps24
          go_wp2_with (first | (go_at_call 55; refine (StringErr_any _ _ (by assumption)).mono ?_; rintro e w' ⟨rfl, rfl⟩))
          go_ret2
          exact ⟨retSI (by unfold padS; rw [if_neg (by rw [HF.out]; decide)]) HF.out.symm, Below.refl _ _⟩
      · have hm2 : m = 0 := by rw [hmm]; unfold moreN; rw [if_neg hr]
        have hfin : padE s u = 0 := by rw [HP.out, hm2, decide_eq_true (by omega)]; rfl
        have HF := Lib.hid hfin
        have HM := Lib.hid hm2
        have HMM := Lib.hid hmm
        have hzs := zerosL_size 0
        clear hm2 hmm hp hf h1 hfin m1 hm
        go_enter Try.func24, Try.ntmps24
        go_wp2_with (first | (go_at_call 55; refine (StringErr_any _ _ (by assumption)).mono ?_; rintro e w' ⟨rfl, rfl⟩) | (go_at_call 56; refine (Zeros_any 0 _ (by omega)).mono ?_; rintro e W1 ⟨rfl, hbW1⟩; obtain ⟨hcW1, hfW1⟩ := bcell hbW1))
        go_ret2
        refine ⟨retSI ?_ HF.out.symm, hbW1⟩
        unfold padS
        rw [if_pos HF.out, ← HMM.out, HM.out]
        rfl
    · have hfin : padE s u = 11 := by unfold padE; rw [if_pos] <;> simp [firstE, h1, h2, unl]
      have HF := Lib.hid hfin
      clear hfin h1
      go_enter Try.func24, Try.ntmps24
      go_wp2_with (first | (go_at_call 55; refine (StringErr_any _ _ (by assumption)).mono ?_; rintro e w' ⟨rfl, rfl⟩))
      go_ret2
      exact ⟨retSI (by unfold padS; rw [if_neg (by rw [HF.out]; decide)]) HF.out.symm, Below.refl _ _⟩
  · have h1' : (strE s != 0) = true := by simp [h1]
    have hfin : padE s u = strE s := by unfold padE; rw [if_pos] <;> simp [firstE, h1]
    have HF := Lib.hid hfin
    have H1 := Lib.hid h1
    clear hfin h1
    go_enter Try.func24, Try.ntmps24
    go_wp2_with (first | (go_at_call 55; refine (StringErr_any _ _ (by assumption)).mono ?_; rintro e w' ⟨rfl, rfl⟩))
    go_ret2
    exact ⟨retSI (by unfold padS; rw [if_neg (by rw [HF.out]; exact H1.out)]) HF.out.symm, Below.refl _ _⟩
end Go.Proofs.Ytiomfkgbaemmkaa
