/-
  Chapter 16: the reference's Rank and IsCanonical.
-/
import Derived.Test.YtanicpgmbhfipaaDoorAcDen
namespace Go.Proofs.YtanicpgmbhfipaaDoor
set_option linter.unusedVariables false
set_option linter.unusedSimpArgs false
open Go.RowKit Go.Sort

theorem Rank_any (a : AceP) (w : World) (h0 : 0 ≤ a.f) (h1 : a.f ≤ 31) : Calls Tryd.prog 28 #[.agg #[.int .i64 a.k, .int .i64 a.f, .int .i64 a.m, .int .i64 a.w]] w fun e w' => e = .returned (.int .i64 (rankA a)) ∧ Below w.heap.size w w' := by
  have h : (a.f / 16 % 2 == 1) = bitI a.f 4 := rfl
  have HH := Lib.hid (fun W => refHas_any a.f 16 W h0 (by omega) (by omega) (by omega))
  obtain ⟨B, hB⟩ : ∃ B, B = bitI a.f 4 := ⟨_, rfl⟩
  have hr : rankA a = (if a.k = 1 then 0 else 1) + (if B = true then 2 else 0) := by rw [hB]; rfl
  rw [← hB] at h
  rw [h] at HH
  obtain ⟨r, hrr⟩ : ∃ r, r = rankA a := ⟨_, rfl⟩
  rw [← hrr] at hr ⊢
  clear h hB hrr
  obtain ⟨k, f, m, v⟩ := a
  dsimp only at *
  by_cases hk : k = 1
  · cases B
    · obtain rfl : r = 0 := by rw [hr, if_pos hk]; rfl
      subst hk
      clear hr
      go_enter Tryd.func28, Tryd.ntmps28
      go_wp2_with (go_at_call 9; refine (HH.out _).mono ?_; rintro e w' ⟨rfl, rfl⟩)
      go_ret
      exact ⟨rfl, bel_alloc (Below.refl _ _) _⟩
    · obtain rfl : r = 2 := by rw [hr, if_pos hk]; rfl
      subst hk
      clear hr
      go_enter Tryd.func28, Tryd.ntmps28
      go_wp2_with (go_at_call 9; refine (HH.out _).mono ?_; rintro e w' ⟨rfl, rfl⟩)
      go_ret
      exact ⟨rfl, bel_alloc (Below.refl _ _) _⟩
  · cases B
    · obtain rfl : r = 1 := by rw [hr, if_neg hk]; rfl
      have hk' : (k == 1) = false := by simpa using hk
      clear hr hk
      go_enter Tryd.func28, Tryd.ntmps28
      go_wp2_with (go_at_call 9; refine (HH.out _).mono ?_; rintro e w' ⟨rfl, rfl⟩)
      go_ret
      exact ⟨rfl, bel_alloc (Below.refl _ _) _⟩
    · obtain rfl : r = 3 := by rw [hr, if_neg hk]; rfl
      have hk' : (k == 1) = false := by simpa using hk
      clear hr hk
      go_enter Tryd.func28, Tryd.ntmps28
      go_wp2_with (go_at_call 9; refine (HH.out _).mono ?_; rintro e w' ⟨rfl, rfl⟩)
      go_ret
      exact ⟨rfl, bel_alloc (Below.refl _ _) _⟩
set_option maxHeartbeats 2000000 in
theorem IsCanonical_any (A : Option Addr) (c : Nat) (l : List AceP) (w : World) (hl : l.length ≤ 1000) (hr : Rd w w.heap.size A (acesV l)) (ho : ∀ a ∈ l, 0 ≤ a.f ∧ a.f ≤ 31) :
    Calls Tryd.prog 8 #[.slice A l.length c] w fun e w' => ∃ b, e = .returned (.bool b) ∧ (b = true → ascR l) ∧ Below w.heap.size w w' := by
  go_enter Tryd.func8, Tryd.ntmps8
  go_wp2
  go_loopw [3] (fun ix wr => ∃ j : Nat, (j = 0 ∨ j < l.length) ∧ ix = .int .i64 ((j : Int) + 1) ∧ Below w.heap.size w wr ∧ ∀ i (h : i + 1 < l.length), i < j → rankA l[i] ≤ rankA l[i + 1]) (fun ix _ => l.length + 1 - (intOf ix).toNat)
  case atStart => exact ⟨0, .inl rfl, rfl, Below.refl _ _, fun i h hi => by omega⟩
  case round =>
    obtain ⟨j, hj, rfl, hb, hf⟩ := hrel
    by_cases hlt : j + 1 < l.length
    · obtain ⟨b, o, rfl, hB, hcl⟩ := (hr.below hb).opened (by rw [acesV_length]; omega)
      obtain ⟨g0, g1, g2, g3⟩ := acesV_get l (j + 1) hlt
      obtain ⟨f0, f1, f2, f3⟩ := acesV_get l j (by omega)
      have c0 : wr.cell? ⟨b, o + (j + 1) * 4, none⟩ = _ := hcl _ _ g0
      have c1 : wr.cell? ⟨b, o + (j + 1) * 4 + 1, none⟩ = _ := hcl _ _ g1
      have c2 : wr.cell? ⟨b, o + (j + 1) * 4 + 1 + 1, none⟩ = _ := hcl _ _ g2
      have c3 : wr.cell? ⟨b, o + (j + 1) * 4 + 1 + 1 + 1, none⟩ = _ := hcl _ _ g3
      have d0 : wr.cell? ⟨b, o + j * 4, none⟩ = _ := hcl _ _ f0
      have d1 : wr.cell? ⟨b, o + j * 4 + 1, none⟩ = _ := hcl _ _ f1
      have d2 : wr.cell? ⟨b, o + j * 4 + 1 + 1, none⟩ = _ := hcl _ _ f2
      have d3 : wr.cell? ⟨b, o + j * 4 + 1 + 1 + 1, none⟩ = _ := hcl _ _ f3
      obtain ⟨p1, p2⟩ := ho l[j + 1] (List.getElem_mem hlt)
      obtain ⟨q1, q2⟩ := ho (l[j]'(by omega)) (List.getElem_mem _)
      obtain ⟨x, hx⟩ : ∃ x, x = l[j + 1] := ⟨_, rfl⟩
      obtain ⟨y, hy⟩ : ∃ y, y = l[j]'(by omega) := ⟨_, rfl⟩
      have HX := Lib.hid (fun W => Rank_any x W (by rw [hx]; exact p1) (by rw [hx]; exact p2))
      have HY := Lib.hid (fun W => Rank_any y W (by rw [hy]; exact q1) (by rw [hy]; exact q2))
      have hBr : b < wr.heap.size := Nat.lt_of_lt_of_le hB hb.size
      have hj1 : (j : Int) + 1 - 1 = j := by omega
      rw [← hx] at c0 c1 c2 c3
      rw [← hy] at d0 d1 d2 d3
      have HF := Lib.hid hf
      have HRK := Lib.hid (And.intro hx hy)
      obtain ⟨rx, hrx⟩ : ∃ r, r = rankA x := ⟨_, rfl⟩
      obtain ⟨ry, hry⟩ : ∃ r, r = rankA y := ⟨_, rfl⟩
      rw [← hrx] at HX
      rw [← hry] at HY
      have HRX := Lib.hid hrx
      have HRY := Lib.hid hry
      have HB := Lib.hid hb
      clear g0 g1 g2 g3 f0 f1 f2 f3 hcl p1 p2 q1 q2 hx hy hf hrx hry hb
      go_wp2
      have hgX := regcell (Below.refl _ wr)
      (refine wp_region_quiet_below (by kernel_rfl) (by kernel_rfl) ?_; (repeat (go_big_quiet_step ((first | (go_at_call 28; (with_reducible exact Calls.regrown_of (HX.out _))) | (go_at_call 28; (with_reducible exact Calls.regrown_of (HY.out _))))))); (with_reducible refine wpQuiet_nil ?_); intro X2 hreg; have hbX2 := below_of_reg hreg; clear hreg; obtain ⟨hcX2, hfX2⟩ := bcell hbX2)
      by_cases hlt2 : rx < ry
      · go_wp2
        go_ret
        exact ⟨false, rfl, fun h => (by cases h), bel_trans HB.out hbX2⟩
      · have hf2 : ∀ i (h : i + 1 < l.length), i < j + 1 → rankA l[i] ≤ rankA l[i + 1] := fun i h hi => by
          by_cases hij : i < j
          · exact HF.out i h hij
          · obtain rfl : i = j := by omega
            rw [← HRK.out.1, ← HRK.out.2, ← HRX.out, ← HRY.out]
            omega
        have HF2 := Lib.hid hf2
        clear hf2
        go_wp2
        go_roundw
        case rel => exact ⟨j + 1, .inr hlt, by go_num, bel_trans HB.out hbX2, HF2.out⟩
        case measure => simp [intOf]; omega
    · have HF := Lib.hid hf
      clear hf
      go_wp2
      go_ret
      exact ⟨true, rfl, fun _ i h => HF.out i h (by omega), hb⟩
end Go.Proofs.YtanicpgmbhfipaaDoor
