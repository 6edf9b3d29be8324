/-
  Layouts: CheckLayout with the generic function that goes over items, and the reference's.
-/
import Derived.Test.YtiomfkgbaemmkaaTiny
namespace Go.Proofs.Ytiomfkgbaemmkaa
open Go.RowKit

set_option maxHeartbeats 1600000 in
theorem CheckLayout1_any (i k s : Int) (w : World) : Calls Try.prog 51 #[.int .i64 i, .agg #[.int .i64 k, .int .i64 s]] w fun e w' => e = .returned (.int .i64 (fldE k s)) ∧ Below w.heap.size w w' := by
  cases h1 : inB k 0 4
  · have e : fldE k s = 15 := by simp [fldE, h1]
    have E := Lib.hid e
    clear e
    go_enter Try.func51, Try.ntmps51
    go_wp2_with (first | (go_at_call 49; refine (within_any _ _ _ _).mono ?_; rintro e w' ⟨rfl, rfl⟩))
    go_ret
    exact ⟨retI E.out.symm, ((Below.refl _ _).alloc (Nat.le_refl _) _).alloc (by simp) _⟩
  · have h2 := inB_true.1 h1
    have : k = 0 ∨ k = 1 ∨ k = 2 ∨ k = 3 ∨ k = 4 := by omega
    rcases this with rfl | rfl | rfl | rfl | rfl
    all_goals
      go_enter Try.func51, Try.ntmps51
      go_wp2_with (first | (go_at_call 49; refine (within_any _ _ _ _).mono ?_; rintro e w' ⟨rfl, rfl⟩))
      go_quiet ((first | (go_at_call 49; exact Calls.quiet_of_same ((within_any _ _ _ _).mono fun e w' h => ⟨h.1, h.2.symm⟩)) | (go_at_call 48; exact Calls.quiet_of_same ((unless_any _ _ _).mono fun e w' h => ⟨h.1, h.2.symm⟩))))
      go_wp2
      go_ret
      exact ⟨retI rfl, below_drewN (((Below.refl _ _).alloc (Nat.le_refl _) _).alloc (by simp) _) _⟩

theorem eachCheck_any (A : Option Addr) (c : Nat) (l : List Fld) (w : World) (hlen : l.length ≤ 1000) (hr : Rd w w.heap.size A (fldsV l)) :
    Calls Try.prog 50 #[.slice A l.length c, .func (.func 51) #[] #[]] w fun e w' =>
      e = .returned (.tuple #[.int .i64 (eachE (fun _ f => fldE f.1 f.2) 0 l).1, .int .i64 (eachE (fun _ f => fldE f.1 f.2) 0 l).2]) ∧ Below w.heap.size w w' := by
  go_enter Try.func50, Try.ntmps50
  go_wp2
  go_loopw [11] (fun i wr => ∃ k : Nat, k ≤ l.length ∧ i = .int .i64 k ∧ Below w.heap.size w wr ∧ eachE (fun _ f => fldE f.1 f.2) 0 l = eachE (fun _ f => fldE f.1 f.2) k (l.drop k)) (fun i _ => l.length - (intOf i).toNat)
  case atStart => exact ⟨0, Nat.zero_le _, rfl, Below.refl _ _, rfl⟩
  case round =>
    obtain ⟨k, hk, rfl, hb, hf⟩ := hrel
    have HF := Lib.hid hf
    clear hf
    by_cases hlt : k < l.length
    · have hr2 := hr.below hb
      obtain ⟨b, o, rfl, hB, hc⟩ := hr2.opened (by rw [fldsV_length]; omega)
      obtain ⟨g0, g1⟩ := fldsV_get l k hlt
      have c0 : wr.cell? ⟨b, o + k * 2, none⟩ = _ := hc _ _ g0
      have c1 : wr.cell? ⟨b, o + k * 2 + 1, none⟩ = _ := hc _ _ g1
      obtain ⟨⟨fk, fs⟩, hfk⟩ : ∃ f : Fld, f = l[k] := ⟨_, rfl⟩
      rw [← hfk] at c0 c1
      have HFK := Lib.hid hfk
      clear hfk g0 g1 hc hr hr2
      have hd : l.drop k = l[k] :: l.drop (k + 1) := List.drop_eq_getElem_cons hlt
      have HD := Lib.hid hd
      have hbs := hb.size
      clear hd
      by_cases h0 : fldE fk fs = 0
      · have h0' : (fldE fk fs != 0) = false := by rw [h0]; rfl
        have H0 := Lib.hid h0
        clear h0
        go_wp2_with (go_at_call 51; refine (CheckLayout1_any _ _ _ _).mono ?_; rintro e w1 ⟨rfl, hb1⟩)
        go_roundw
        case rel => exact ⟨k + 1, by omega, by go_num, (hb.alloc hbs _).trans (hb1.mono (by simp; omega)), by rw [HF.out, HD.out, eachE, if_pos (by rw [← HFK.out]; exact H0.out)]⟩
        case measure => simp [intOf]; omega
      · have h0' : (fldE fk fs != 0) = true := by simp [h0]
        have H0 := Lib.hid h0
        clear h0
        go_wp2_with (go_at_call 51; refine (CheckLayout1_any _ _ _ _).mono ?_; rintro e w1 ⟨rfl, hb1⟩)
        go_ret2
        have e : eachE (fun _ f => fldE f.1 f.2) 0 l = ((k : Int), fldE fk fs) := by rw [HF.out, HD.out, eachE, if_neg (by rw [← HFK.out]; exact H0.out), ← HFK.out]
        exact ⟨retII (by rw [e]) (by rw [e]), (hb.alloc hbs _).trans (hb1.mono (by simp; omega))⟩
    · go_wp2
      go_ret2
      exact ⟨retII (by rw [HF.out, List.drop_of_length_le (by omega)]; rfl) (by rw [HF.out, List.drop_of_length_le (by omega)]; rfl), hb⟩
end Go.Proofs.Ytiomfkgbaemmkaa
