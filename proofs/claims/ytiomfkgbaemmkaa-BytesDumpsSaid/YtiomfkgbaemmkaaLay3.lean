/-
  Layouts: the reference's CheckLayout, Offsets, CopyLayout; Ints of the helpers.
-/
import Derived.Test.YtiomfkgbaemmkaaLay2
namespace Go.Proofs.Ytiomfkgbaemmkaa
open Go.RowKit

set_option maxRecDepth 100000 in
set_option maxHeartbeats 2000000 in
theorem refCheckLayout_any (A : Option Addr) (c : Nat) (l : List Fld) (w : World) (hlen : l.length ≤ maxLen) (hr : Rd w w.heap.size A (fldsV l)) :
    Calls Try.prog 20 #[.slice A l.length c] w fun e w' =>
      e = .returned (.tuple #[.int .i64 (layP l).1, .int .i64 (layP l).2]) ∧ w = w' := by
  unfold maxLen at hlen
  by_cases h : 24 < l.length
  · have e : layP l = (0, 8) := by unfold layP; rw [if_pos h]
    have E := Lib.hid e
    clear e
    go_enter Try.func20, Try.ntmps20
    go_wp2
    go_ret2
    exact ⟨retII (by rw [E.out]) (by rw [E.out]), rfl⟩
  · have e : layP l = eachE (fun _ f => fldE f.1 f.2) 0 l := by unfold layP; rw [if_neg h]
    have E := Lib.hid e
    clear e
    go_enter Try.func20, Try.ntmps20
    go_wp2
    go_loop [4] (fun i => ∃ k : Nat, k ≤ l.length ∧ i = .int .i64 k ∧ eachE (fun _ f => fldE f.1 f.2) 0 l = eachE (fun _ f => fldE f.1 f.2) k (l.drop k)) (fun i => l.length - (intOf i).toNat)
    case atStart => exact ⟨0, Nat.zero_le _, rfl, rfl⟩
    case round =>
      obtain ⟨k, hk, rfl, hf⟩ := hrel
      have HF := Lib.hid hf
      clear hf
      by_cases hlt : k < l.length
      · obtain ⟨b, o, rfl, hB, hc⟩ := hr.opened (by rw [fldsV_length]; omega)
        obtain ⟨g0, g1⟩ := fldsV_get l k hlt
        have c0 : w.cell? ⟨b, o + k * 2, none⟩ = _ := hc _ _ g0
        have c1 : w.cell? ⟨b, o + k * 2 + 1, none⟩ = _ := hc _ _ g1
        obtain ⟨fk, fs, hfk⟩ : ∃ x y, ((x, y) : Fld) = l[k] := ⟨_, _, rfl⟩
        rw [← hfk] at c0 c1
        dsimp only at c0 c1
        have hd : l.drop k = (fk, fs) :: l.drop (k + 1) := by rw [hfk]; exact List.drop_eq_getElem_cons hlt
        have HD := Lib.hid hd
        clear hd hfk g0 g1 hc hr
        by_cases hz : fldE fk fs = 0
        · have hnext : eachE (fun _ f => fldE f.1 f.2) 0 l = eachE (fun _ f => fldE f.1 f.2) (k + 1) (l.drop (k + 1)) := by rw [HF.out, HD.out, eachE, if_pos hz]
          have HN := Lib.hid hnext
          clear hnext
          obtain ⟨q0, q1, q2, q3⟩ := fldE_zero hz
          have hin : inB fk 0 4 = true := inB_true.2 ⟨q0, q1⟩
          have hin2 : inB fs (fldLo fk) (fldHi fk) = true := inB_true.2 ⟨q2, q3⟩
          clear hz q2 q3
          have : fk = 0 ∨ fk = 1 ∨ fk = 2 ∨ fk = 3 ∨ fk = 4 := by omega
          rcases this with rfl | rfl | rfl | rfl | rfl
          · replace hin2 : inB fs 1 6 = true := hin2
            go_wp2_with (go_at_call 15; refine (Within_any _ _ _ _).mono ?_; rintro e w' ⟨rfl, rfl⟩)
            go_round
            case rel => exact ⟨k + 1, by omega, by go_num, HN.out⟩
            case measure => simp [intOf]; omega
          · replace hin2 : inB fs 1 64 = true := hin2
            go_wp2_with (go_at_call 15; refine (Within_any _ _ _ _).mono ?_; rintro e w' ⟨rfl, rfl⟩)
            go_round
            case rel => exact ⟨k + 1, by omega, by go_num, HN.out⟩
            case measure => simp [intOf]; omega
          · replace hin2 : inB fs 0 255 = true := hin2
            go_wp2_with (go_at_call 15; refine (Within_any _ _ _ _).mono ?_; rintro e w' ⟨rfl, rfl⟩)
            go_round
            case rel => exact ⟨k + 1, by omega, by go_num, HN.out⟩
            case measure => simp [intOf]; omega
          · replace hin2 : inB fs 0 127 = true := hin2
            go_wp2_with (go_at_call 15; refine (Within_any _ _ _ _).mono ?_; rintro e w' ⟨rfl, rfl⟩)
            go_round
            case rel => exact ⟨k + 1, by omega, by go_num, HN.out⟩
            case measure => simp [intOf]; omega
          · replace hin2 : inB fs 1 64 = true := hin2
            go_wp2_with (go_at_call 15; refine (Within_any _ _ _ _).mono ?_; rintro e w' ⟨rfl, rfl⟩)
            go_round
            case rel => exact ⟨k + 1, by omega, by go_num, HN.out⟩
            case measure => simp [intOf]; omega
        · have hnext : eachE (fun _ f => fldE f.1 f.2) 0 l = ((k : Int), fldE fk fs) := by rw [HF.out, HD.out, eachE, if_neg hz]
          have HN := Lib.hid hnext
          clear hnext
          cases hin : inB fk 0 4
          · have hfe : fldE fk fs = 15 := by simp [fldE, hin]
            have HE := Lib.hid hfe
            clear hfe hz
            have hne := inB_false.1 hin
            have h0 : (fk == 0) = false := by simp; omega
            have h2 : (fk == 2) = false := by simp; omega
            have h3 : (fk == 3) = false := by simp; omega
            clear hne
            go_wp2_with (go_at_call 15; refine (Within_any _ _ _ _).mono ?_; rintro e w' ⟨rfl, rfl⟩)
            go_ret2
            exact ⟨retII (by rw [E.out, HN.out]) (by rw [E.out, HN.out, HE.out]), rfl⟩
          · have hin2 : inB fs (fldLo fk) (fldHi fk) = false := by
              cases hx : inB fs (fldLo fk) (fldHi fk) with
              | false => rfl
              | true => exact absurd (by unfold fldE; rw [hin, hx]; rfl) hz
            have hfe : fldE fk fs = 2 := by simp [fldE, hin, hin2, unl]
            have HE := Lib.hid hfe
            clear hfe hz
            have hne := inB_true.1 hin
            have : fk = 0 ∨ fk = 1 ∨ fk = 2 ∨ fk = 3 ∨ fk = 4 := by omega
            rcases this with rfl | rfl | rfl | rfl | rfl
            · replace hin2 : inB fs 1 6 = false := hin2
              go_wp2_with (go_at_call 15; refine (Within_any _ _ _ _).mono ?_; rintro e w' ⟨rfl, rfl⟩)
              go_ret2
              exact ⟨retII (by rw [E.out, HN.out]) (by rw [E.out, HN.out, HE.out]), rfl⟩
            · replace hin2 : inB fs 1 64 = false := hin2
              go_wp2_with (go_at_call 15; refine (Within_any _ _ _ _).mono ?_; rintro e w' ⟨rfl, rfl⟩)
              go_ret2
              exact ⟨retII (by rw [E.out, HN.out]) (by rw [E.out, HN.out, HE.out]), rfl⟩
            · replace hin2 : inB fs 0 255 = false := hin2
              go_wp2_with (go_at_call 15; refine (Within_any _ _ _ _).mono ?_; rintro e w' ⟨rfl, rfl⟩)
              go_ret2
              exact ⟨retII (by rw [E.out, HN.out]) (by rw [E.out, HN.out, HE.out]), rfl⟩
            · replace hin2 : inB fs 0 127 = false := hin2
              go_wp2_with (go_at_call 15; refine (Within_any _ _ _ _).mono ?_; rintro e w' ⟨rfl, rfl⟩)
              go_ret2
              exact ⟨retII (by rw [E.out, HN.out]) (by rw [E.out, HN.out, HE.out]), rfl⟩
            · replace hin2 : inB fs 1 64 = false := hin2
              go_wp2_with (go_at_call 15; refine (Within_any _ _ _ _).mono ?_; rintro e w' ⟨rfl, rfl⟩)
              go_ret2
              exact ⟨retII (by rw [E.out, HN.out]) (by rw [E.out, HN.out, HE.out]), rfl⟩
      · go_wp2
        go_ret2
        have : eachE (fun _ f => fldE f.1 f.2) 0 l = (0, 0) := by rw [HF.out, List.drop_of_length_le (by omega)]; rfl
        exact ⟨retII (by rw [E.out, this]) (by rw [E.out, this]), rfl⟩

theorem CopyLayout_any (A : Option Addr) (c : Nat) (l : List Fld) (w : World) (hlen : l.length ≤ 1000) (hr : Rd w w.heap.size A (fldsV l)) :
    Calls Try.prog 18 #[.slice A l.length c] w fun e w' =>
      ∃ v, e = .returned v ∧ w'.ownsRow w.heap.size 67 2 v l.length (fldsV l) ∧ Below w.heap.size w w' := by
  obtain ⟨i0, hi, hz0, hz1, hz2⟩ := info_parts info_fld
  go_enter Try.func18, Try.ntmps18
  have hown := World.ownsRow_lit (base := w.heap.size) (e := 67) (size := 2) w #[] 0 (Nat.le_refl _) (by unfold maxLen; omega) rfl
  go_wp2_with (at_builtin; refine wpList_append_rd _ rfl (.tmp 3) (.tmp 4) 33 rfl w.heap.size 67 i0 (.agg #[.int .i64 0, .int .i64 0]) 2 16 Try.underlying33 hi hz0 hz1 hz2 rfl (by decide) _ _ _ rfl hown (w.heap.size + 1) A l.length c (fldsV l) rfl (by rw [fldsV_length]; omega) ((hr.below ((Below.refl _ _).alloc (Nat.le_refl _) _)).mono (by omega)) (by intro u hu; obtain ⟨f, _, hf⟩ := List.mem_flatMap.1 hu; simp [fldV] at hf; rcases hf with rfl | rfl <;> rfl) (by unfold maxLen; omega) (by omega) (by simp) ?_; intro v1 w1 hown1 _ _ hb1)
  go_ret
  exact ⟨v1, rfl, by simpa using hown1, (bel_alloc (Below.refl _ _) _).trans hb1⟩

theorem Ints_any (A A' : Option Addr) (c c' : Nat) (xs ys : List Int) (w : World) (hl : xs.length ≤ maxLen) (hl' : ys.length ≤ maxLen) (hr : Rd w w.heap.size A (xs.map (.int .i64))) (hr' : Rd w w.heap.size A' (ys.map (.int .i64))) :
    Calls Try.prog 22 #[.slice A xs.length c, .slice A' ys.length c'] w fun e w' => e = .returned (.bool (decide (xs = ys))) ∧ Below w.heap.size w w' := by
  unfold maxLen at hl hl'
  by_cases hne : xs.length = ys.length
  · have h1 : ((xs.length : Int) != ys.length) = false := by simp [hne]
    have HNE := Lib.hid hne
    clear hne
    go_enter Try.func22, Try.ntmps22
    go_wp2
    go_loopw [5] (fun i wr => ∃ k : Nat, k ≤ xs.length ∧ i = .int .i64 k ∧ Below w.heap.size w wr ∧ xs.take k = ys.take k) (fun i _ => xs.length - (intOf i).toNat)
    case atStart => exact ⟨0, Nat.zero_le _, rfl, Below.refl _ _, rfl⟩
    case round =>
      obtain ⟨k, hk, rfl, hb, ht⟩ := hrel
      have HT := Lib.hid ht
      clear ht
      by_cases hlt : k < xs.length
      · have hlt' : k < ys.length := by have := HNE.out; omega
        obtain ⟨b, o, rfl, hB, hc⟩ := (hr.below hb).opened (by simp; omega)
        obtain ⟨b', o', rfl, hB', hc'⟩ := (hr'.below hb).opened (by simp; omega)
        have c0 := hc k (.int .i64 xs[k]) (by simp [hlt])
        have c1 := hc' k (.int .i64 ys[k]) (by simp [hlt'])
        obtain ⟨x, hx⟩ : ∃ x, x = xs[k] := ⟨_, rfl⟩
        obtain ⟨y, hy⟩ : ∃ y, y = ys[k] := ⟨_, rfl⟩
        rw [← hx] at c0
        rw [← hy] at c1
        have HX := Lib.hid hx
        have HY := Lib.hid hy
        clear hc hc' hx hy hr hr'
        by_cases hxy : x = y
        · subst hxy
          go_wp2
          go_quiet (fail)
          go_wp2
          go_roundw
          case rel =>
            refine ⟨k + 1, by omega, by go_num, bel_drewN hb _, ?_⟩
            rw [List.take_succ_eq_append_getElem hlt, List.take_succ_eq_append_getElem hlt', HT.out, ← HX.out, ← HY.out]
          case measure => simp [intOf]; omega
        · have hxy' : (x != y) = true := by simp [hxy]
          have HXY := Lib.hid hxy
          clear hxy
          go_wp2
          go_quiet (fail)
          go_wp2
          go_ret
          refine ⟨retB (decide_eq_false fun h => HXY.out ?_).symm, bel_drewN hb _⟩
          subst h
          rw [HX.out, HY.out]
      · obtain rfl : k = xs.length := by omega
        go_wp2
        go_ret
        refine ⟨retB (decide_eq_true ?_).symm, hb⟩
        have := HT.out
        rw [List.take_length, HNE.out, List.take_length] at this
        exact this
  · have h1 : ((xs.length : Int) != ys.length) = true := by simp; omega
    have HNE := Lib.hid hne
    clear hne
    go_enter Try.func22, Try.ntmps22
    go_wp2
    go_ret
    exact ⟨retB (decide_eq_false fun h => HNE.out (by rw [h])).symm, Below.refl _ _⟩
end Go.Proofs.Ytiomfkgbaemmkaa
