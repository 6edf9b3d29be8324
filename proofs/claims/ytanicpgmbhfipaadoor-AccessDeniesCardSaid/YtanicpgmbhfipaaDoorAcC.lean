/-
  Lists of numbers and of entries: compared, copied, searched.
  Chapter 17: the reference's errors of tokens; whether a token has an identity.
  Chapter 17: the reference's TokenErr, Is, counts.
  Chapter 17: the reference's By.
  Chapter 17: the reference's Rights, Decided.
  Chapter 17: the reference's errors of descriptors.
  Chapter 17: copies of descriptors and tokens; what the guards ask.
  Chapter 17: what the guards ask; the reference's error of a descriptor, then of a token.
-/
import Derived.Test.YtanicpgmbhfipaaDoorAcA
import Derived.BigQuiet
import Derived.Test.YtanicpgmbhfipaaDoorAcB
import Derived.Deep.DeepCutAuto
import Derived.RegionTactic
namespace Go.Proofs.YtanicpgmbhfipaaDoor
set_option linter.unusedVariables false
set_option linter.unusedSimpArgs false
open Go.RowKit Go.Sort

theorem Ints_any (A A' : Option Addr) (c c' : Nat) (xs ys : List Int) (w : World) (hl : xs.length ≤ maxLen) (hl' : ys.length ≤ maxLen) (hr : Rd w w.heap.size A (xs.map (.int .i64))) (hr' : Rd w w.heap.size A' (ys.map (.int .i64))) :
    Calls Tryd.prog 24 #[.slice A xs.length c, .slice A' ys.length c'] w fun e w' => e = .returned (.bool (decide (xs = ys))) ∧ Below w.heap.size w w' := by
  unfold maxLen at hl hl'
  by_cases hne : xs.length = ys.length
  · have h1 : ((xs.length : Int) != ys.length) = false := by simp [hne]
    have HNE := Lib.hid hne
    clear hne
    go_enter Tryd.func24, Tryd.ntmps24
    go_wp2
    go_loopw [5] (fun i wr => ∃ k : Nat, k ≤ xs.length ∧ i = .int .i64 k ∧ Below w.heap.size w wr ∧ xs.take k = ys.take k) (fun i _ => xs.length - (intOf i).toNat)
    case atStart => exact ⟨0, Nat.zero_le _, rfl, Below.refl _ _, rfl⟩
    case round =>
      obtain ⟨k, hk, rfl, hb, ht⟩ := hrel
      have HT := Lib.hid ht
      clear ht
      by_cases hlt : k < xs.length
      · have hlt' : k < ys.length := by have := HNE.out; omega
        obtain ⟨b, o, rfl, hB, hc⟩ := (hr.below hb).opened (by simp; omega)
        obtain ⟨b', o', rfl, hB', hc'⟩ := (hr'.below hb).opened (by simp; omega)
        have c0 := hc k (.int .i64 xs[k]) (by simp [hlt])
        have c1 := hc' k (.int .i64 ys[k]) (by simp [hlt'])
        obtain ⟨x, hx⟩ : ∃ x, x = xs[k] := ⟨_, rfl⟩
        obtain ⟨y, hy⟩ : ∃ y, y = ys[k] := ⟨_, rfl⟩
        rw [← hx] at c0
        rw [← hy] at c1
        have HX := Lib.hid hx
        have HY := Lib.hid hy
        clear hc hc' hx hy hr hr'
        by_cases hxy : x = y
        · subst hxy
          go_wp2
          go_quiet (fail)
          go_wp2
          go_roundw
          case rel =>
            refine ⟨k + 1, by omega, by go_num, bel_drewN hb _, ?_⟩
            rw [List.take_succ_eq_append_getElem hlt, List.take_succ_eq_append_getElem hlt', HT.out, ← HX.out, ← HY.out]
          case measure => simp [intOf]; omega
        · have hxy' : (x != y) = true := by simp [hxy]
          have HXY := Lib.hid hxy
          clear hxy
          go_wp2
          go_quiet (fail)
          go_wp2
          go_ret
          refine ⟨retB (decide_eq_false fun h => HXY.out ?_).symm, bel_drewN hb _⟩
          subst h
          rw [HX.out, HY.out]
      · obtain rfl : k = xs.length := by omega
        go_wp2
        go_ret
        refine ⟨retB (decide_eq_true ?_).symm, hb⟩
        have := HT.out
        rw [List.take_length, HNE.out, List.take_length] at this
        exact this
  · have h1 : ((xs.length : Int) != ys.length) = true := by simp; omega
    have HNE := Lib.hid hne
    clear hne
    go_enter Tryd.func24, Tryd.ntmps24
    go_wp2
    go_ret
    exact ⟨retB (decide_eq_false fun h => HNE.out (by rw [h])).symm, Below.refl _ _⟩

theorem intsV_one (l : List Int) : ∀ u ∈ l.map (Value.int .i64), u.oneCell' = true := by
  intro u hu; obtain ⟨f, _, rfl⟩ := List.mem_map.1 hu; rfl
theorem acesV_one (l : List AceP) : ∀ u ∈ acesV l, u.oneCell' = true := by
  intro u hu
  unfold acesV at hu
  obtain ⟨a, _, h⟩ := List.mem_flatMap.1 hu
  simp only [aceV, List.mem_cons, List.not_mem_nil, or_false] at h
  rcases h with rfl | rfl | rfl | rfl <;> rfl
theorem intsV_length (l : List Int) : (l.map (Value.int .i64)).length = l.length * 1 := by simp
theorem CopyInts_it (A : Option Addr) (c : Nat) (l : List Int) (w : World) (hlen : l.length ≤ 1000000) (hr : Rd w w.heap.size A (l.map (.int .i64))) :
    Calls Tryd.prog 32 #[.slice A l.length c] w fun e w' =>
      ∃ A' c', e = .returned (.slice A' l.length c') ∧ w'.ownsRow w.heap.size 3 1 (.slice A' l.length c') l.length (l.map (.int .i64)) ∧ Below w.heap.size w w' := by
  obtain ⟨i0, hi, hz0, hz1, hz2⟩ := info_parts infoInt
  go_enter Tryd.func32, Tryd.ntmps32
  have hown := World.ownsRow_lit (base := w.heap.size) (e := 3) (size := 1) w #[] 0 (Nat.le_refl _) (by unfold maxLen; omega) rfl
  go_wp2_with (at_builtin; refine wpList_append_rd _ rfl (.tmp 3) (.tmp 4) 25 rfl w.heap.size 3 i0 (.int .i64 0) 1 8 Tryd.underlying25 hi hz0 hz1 hz2 rfl (by decide) _ _ _ rfl hown (w.heap.size + 1) A l.length c (l.map (.int .i64)) rfl (intsV_length l) ((hr.below ((Below.refl _ _).alloc (Nat.le_refl _) _)).mono (by omega)) (intsV_one l) (by unfold maxLen; omega) (by omega) (by simp) ?_; intro v1 w1 hown1 _ _ hb1)
  go_ret
  obtain ⟨A', c', rfl, _⟩ := ownsRow_form hown1
  simp only [Nat.zero_add] at hown1 ⊢
  exact ⟨A', c', rfl, by simpa using hown1, (bel_alloc (Below.refl _ _) _).trans hb1⟩
theorem CopyAces_it (A : Option Addr) (c : Nat) (l : List AceP) (w : World) (hlen : l.length ≤ 1000000) (hr : Rd w w.heap.size A (acesV l)) :
    Calls Tryd.prog 16 #[.slice A l.length c] w fun e w' =>
      ∃ A' c', e = .returned (.slice A' l.length c') ∧ w'.ownsRow w.heap.size 34 4 (.slice A' l.length c') l.length (acesV l) ∧ Below w.heap.size w w' := by
  obtain ⟨i0, hi, hz0, hz1, hz2⟩ := info_parts infoAce
  go_enter Tryd.func16, Tryd.ntmps16
  have hown := World.ownsRow_lit (base := w.heap.size) (e := 34) (size := 4) w #[] 0 (Nat.le_refl _) (by unfold maxLen; omega) rfl
  go_wp2_with (at_builtin; refine wpList_append_rd _ rfl (.tmp 3) (.tmp 4) 22 rfl w.heap.size 34 i0 (.agg #[.int .i64 0, .int .i64 0, .int .i64 0, .int .i64 0]) 4 32 Tryd.underlying22 hi hz0 hz1 hz2 rfl (by decide) _ _ _ rfl hown (w.heap.size + 1) A l.length c (acesV l) rfl (acesV_length l) ((hr.below ((Below.refl _ _).alloc (Nat.le_refl _) _)).mono (by omega)) (acesV_one l) (by unfold maxLen; omega) (by omega) (by simp) ?_; intro v1 w1 hown1 _ _ hb1)
  go_ret
  obtain ⟨A', c', rfl, _⟩ := ownsRow_form hown1
  simp only [Nat.zero_add] at hown1 ⊢
  exact ⟨A', c', rfl, by simpa using hown1, (bel_alloc (Below.refl _ _) _).trans hb1⟩
theorem baseHas_any (A : Option Addr) (c : Nat) (l : List Int) (n : Int) (w : World) (hlen : l.length ≤ 1000000) (hr : Rd w w.heap.size A (l.map (.int .i64))) :
    Calls Tryd.prog 34 #[.slice A l.length c, .int .i64 n] w fun e w' => e = .returned (.bool (l.contains n)) ∧ w = w' := by
  have hcon : ∀ k (h : k < l.length), (l.drop k).contains n = (if l[k] == n then true else (l.drop (k + 1)).contains n) := fun k h => by
    rw [List.drop_eq_getElem_cons h, List.contains_cons]
    by_cases e : n = l[k]
    · simp [e]
    · have e1 : (n == l[k]) = false := by simpa using e
      have e2 : (l[k] == n) = false := by simpa using (fun h => e (Eq.symm h))
      rw [e1, e2]; rfl
  have HCON := Lib.hid hcon
  clear hcon
  obtain ⟨R, hR⟩ : ∃ R, R = l.contains n := ⟨_, rfl⟩
  rw [← hR]
  have HR := Lib.hid hR
  clear hR
  go_enter Tryd.func34, Tryd.ntmps34
  go_wp2
  go_loop [5] (fun i => ∃ k : Nat, k ≤ l.length ∧ i = .int .i64 k ∧ R = (l.drop k).contains n) (fun i => l.length - (intOf i).toNat)
  case atStart => exact ⟨0, Nat.zero_le _, rfl, HR.out⟩
  case round =>
    obtain ⟨k, hk, rfl, hf⟩ := hrel
    have HF := Lib.hid hf
    clear hf
    by_cases hlt : k < l.length
    · obtain ⟨b, o, rfl, hB, hc⟩ := hr.opened (by simp; omega)
      have c0 := hc k (.int .i64 l[k]) (by simp [hlt])
      have HC1 := Lib.hid (HCON.out k hlt)
      obtain ⟨x, hx⟩ : ∃ x, x = l[k] := ⟨_, rfl⟩
      rw [← hx] at c0 HC1
      clear hc hx hr
      by_cases hxn : x = n
      · have h1 : (x == n) = true := by simp [hxn]
        have H1 := Lib.hid h1
        clear hxn
        go_wp2
        go_ret
        exact ⟨by rw [HF.out, HC1.out, H1.out]; rfl, rfl⟩
      · have h1 : (x == n) = false := by simpa using hxn
        have H1 := Lib.hid h1
        clear hxn
        go_wp2
        go_round
        case rel => exact ⟨k + 1, by omega, by go_num, by rw [HF.out, HC1.out, H1.out]; rfl⟩
        case measure => simp [intOf]; omega
    · go_wp2
      go_ret
      exact ⟨by rw [HF.out, List.drop_of_length_le (by omega)]; rfl, rfl⟩
theorem refHas_any (x f : Int) (w : World) (hx : 0 ≤ x) (hx2 : x ≤ 1000000000) (hf : 0 < f) (hf2 : f ≤ 1000000000) :
    Calls Tryd.prog 9 #[.int .i64 x, .int .i64 f] w fun e w' => e = .returned (.bool (x / f % 2 == 1)) ∧ w = w' := by
  have h1 : 0 ≤ x / f := Int.ediv_nonneg hx (by omega)
  have h2 : x / f ≤ x := Int.ediv_le_self _ hx
  have hne : f ≠ 0 := by omega
  go_enter Tryd.func9, Tryd.ntmps9
  go_wp2
  go_ret
  exact ⟨rfl, rfl⟩
end Go.Proofs.YtanicpgmbhfipaaDoor
namespace Go.Proofs.YtanicpgmbhfipaaDoor
set_option linter.unusedVariables false
set_option linter.unusedSimpArgs false
open Go.RowKit Go.Sort

set_option maxRecDepth 100000 in
set_option maxHeartbeats 2000000 in
theorem ascending_any (A : Option Addr) (c : Nat) (l : List Int) (w : World) (hlen : l.length ≤ 100000) (hr : Rd w w.heap.size A (l.map (.int .i64))) :
    Calls Tryd.prog 42 #[.slice A l.length c] w fun e w' => e = .returned (.int .i64 (usersE l)) ∧ Below w.heap.size w w' := by
  obtain ⟨R, hR⟩ : ∃ R, R = usersE l := ⟨_, rfl⟩
  rw [← hR]
  have HR := Lib.hid (show R = (eachE (ordE l) 0 l).2 from hR)
  clear hR
  go_enter Tryd.func42, Tryd.ntmps42
  go_wp2
  go_loopw [3] (fun i wr => ∃ k : Nat, k ≤ l.length ∧ i = .int .i64 k ∧ Below w.heap.size w wr ∧ R = (eachE (ordE l) k (l.drop k)).2) (fun i _ => l.length - (intOf i).toNat)
  case atStart => exact ⟨0, Nat.zero_le _, rfl, Below.refl _ _, HR.out⟩
  case round =>
    obtain ⟨k, hk, rfl, hb, hf⟩ := hrel
    by_cases hlt : k < l.length
    · obtain ⟨b, o, rfl, hB, hcc⟩ := (hr.below hb).opened (by rw [List.length_map]; omega)
      have hd : l.drop k = l[k] :: l.drop (k + 1) := List.drop_eq_getElem_cons hlt
      have c0 : wr.cell? ⟨b, o + k, none⟩ = some (.int .i64 l[k]) := hcc _ _ (by rw [List.getElem?_map, List.getElem?_eq_getElem hlt]; rfl)
      have hf2 : R = if ordE l k l[k] = 0 then (eachE (ordE l) (k + 1) (l.drop (k + 1))).2 else ordE l k l[k] := by
        rw [hf, hd, eachE]; split <;> rfl
      have hord : ordE l k l[k] = if hldB l[k] = true then unl (k == 0 || decide (l.getD (k - 1) 0 < l[k])) 9 else 2 := by
        unfold ordE firstE
        cases hldB l[k]
        · rfl
        · simp only [unl_true, if_true]
          cases (k == 0 || decide (l.getD (k - 1) 0 < l[k])) <;> rfl
      obtain ⟨n, hn⟩ : ∃ n, n = l[k] := ⟨_, rfl⟩
      rw [← hn] at c0 hf2 hord
      obtain ⟨q, hq⟩ : ∃ q, q = ordE l k n := ⟨_, rfl⟩
      rw [← hq] at hf2 hord
      have HF := Lib.hid hf2
      have HH := Lib.hid (fun W => r17hold_any n W)
      obtain ⟨x1, hx1⟩ : ∃ x, x = hldB n := ⟨_, rfl⟩
      rw [← hx1] at HH hord
      have HORD := Lib.hid hord
      cases x1
      · have H := Lib.hid (show R = 2 by rw [HF.out, HORD.out]; rfl)
        clear hf hd hf2 hord hq hx1 hn hr hcc
        go_wp2_with (go_at_call 41; refine (HH.out _).mono ?_; rintro e w' ⟨rfl, rfl⟩)
        go_ret
        exact ⟨by rw [H.out]; rfl, hb⟩
      · by_cases h0 : k = 0
        · subst h0
          have H := Lib.hid (show R = (eachE (ordE l) (0 + 1) (l.drop (0 + 1))).2 by rw [HF.out, HORD.out]; rfl)
          have c00 : wr.cell? ⟨b, o, none⟩ = some (.int .i64 n) := c0
          clear hf hd hf2 hord hq hx1 hn hr hcc
          go_wp2_with (go_at_call 41; refine (HH.out _).mono ?_; rintro e w' ⟨rfl, rfl⟩)
          go_quiet (fail)
          go_wp2
          go_roundw
          case rel => exact ⟨1, by omega, by go_num, bel_drewN hb _, H.out⟩
          case measure => simp [intOf]; omega
        · obtain ⟨j, rfl⟩ : ∃ j, k = j + 1 := ⟨k - 1, by omega⟩
          have cj : wr.cell? ⟨b, o + j, none⟩ = some (.int .i64 (l[j]'(by omega))) := hcc _ _ (by rw [List.getElem?_map, List.getElem?_eq_getElem (by omega)]; rfl)
          have hg : l.getD (j + 1 - 1) 0 = l[j]'(by omega) := by rw [Nat.add_sub_cancel, List.getD_eq_getElem?_getD, List.getElem?_eq_getElem (by omega)]; rfl
          obtain ⟨p, hp⟩ : ∃ p, p = l[j]'(by omega) := ⟨_, rfl⟩
          rw [← hp] at cj hg
          have hq2 : q = unl (decide (p < n)) 9 := by
            rw [HORD.out, hg, show (j + 1 == 0) = false from rfl]; rfl
          have hj1 : (j : Int) + 1 - 1 = j := by omega
          by_cases hpn : p < n
          · have H := Lib.hid (show R = (eachE (ordE l) (j + 1 + 1) (l.drop (j + 1 + 1))).2 by rw [HF.out, hq2, decide_eq_true hpn]; rfl)
            have hnp : ¬ n ≤ p := by omega
            clear hf hd hf2 hord hq hx1 hn hr hcc hg hq2 hp h0
            go_wp2_with (go_at_call 41; refine (HH.out _).mono ?_; rintro e w' ⟨rfl, rfl⟩)
            go_quiet (fail)
            go_wp2
            go_roundw
            case rel => exact ⟨j + 1 + 1, by omega, by go_num, bel_drewN hb _, H.out⟩
            case measure => simp [intOf]; omega
          · have H := Lib.hid (show R = 9 by rw [HF.out, hq2, decide_eq_false hpn]; rfl)
            have hnp : n ≤ p := by omega
            clear hf hd hf2 hord hq hx1 hn hr hcc hg hq2 hp h0
            go_wp2_with (go_at_call 41; refine (HH.out _).mono ?_; rintro e w' ⟨rfl, rfl⟩)
            go_quiet (fail)
            go_wp2
            go_ret
            exact ⟨by rw [H.out]; rfl, bel_drewN hb _⟩
    · have H := Lib.hid (show R = 0 by rw [hf, List.drop_of_length_le (by omega)]; rfl)
      clear hf
      go_wp2
      go_ret
      exact ⟨by rw [H.out]; rfl, hb⟩
end Go.Proofs.YtanicpgmbhfipaaDoor
namespace Go.Proofs.YtanicpgmbhfipaaDoor
set_option linter.unusedVariables false
set_option linter.unusedSimpArgs false
open Go.RowKit Go.Sort

set_option maxRecDepth 100000 in
theorem TokenErr_any (t : TokP) (A : Option Addr) (c : Nat) (w : World) (hl : t.gs.length ≤ 100000) (hr : Rd w w.heap.size A (t.gs.map (.int .i64))) :
    Calls Tryd.prog 19 #[tokV t A c] w fun e w' => e = .returned (.int .i64 (tokE t)) ∧ Below w.heap.size w w' := by
  have he : tokE t = if hldB t.u = true then (if t.gs.length ≤ 16 then (if usersE t.gs = 0 then unl (inB t.p 0 15) 2 else usersE t.gs) else 8) else 2 := by
    unfold tokE
    cases hldB t.u
    · rfl
    · by_cases h1 : t.gs.length ≤ 16
      · by_cases h2 : usersE t.gs = 0
        · cases h3 : inB t.p 0 15 <;> simp [firstE, unl, h1, h2]
        · simp [firstE, unl, h1, h2]
      · simp [firstE, unl, h1]
  obtain ⟨r, hre⟩ : ∃ r, r = tokE t := ⟨_, rfl⟩
  rw [← hre] at he ⊢
  have HA := Lib.hid (fun W (hW : Below w.heap.size w W) => ascending_any A c t.gs W hl (hr.below' hW))
  obtain ⟨q, hq⟩ : ∃ q, q = usersE t.gs := ⟨_, rfl⟩
  rw [← hq] at he HA
  unfold tokV
  obtain ⟨u, gs, p⟩ := t
  dsimp only at *
  clear hre hq hr
  cases h1 : hldB u
  · have H := Lib.hid (show r = 2 by rw [he, h1]; rfl)
    have HH := Lib.hid (fun W => r17hold_any u W)
    rw [h1] at HH
    clear he
    go_enter Tryd.func19, Tryd.ntmps19
    go_wp2_with (go_at_call 41; refine (HH.out _).mono ?_; rintro e w' ⟨rfl, rfl⟩)
    go_ret
    exact ⟨by rw [H.out]; rfl, bel_alloc (Below.refl _ _) _⟩
  · have HH := Lib.hid (fun W => r17hold_any u W)
    rw [h1] at HH
    by_cases h2 : gs.length ≤ 16
    · have h2' : ¬ 16 < gs.length := by omega
      by_cases h3 : q = 0
      · subst h3
        cases h4 : inB p 0 15
        · have H := Lib.hid (show r = 2 by rw [he, h1, h4]; simp [h2, unl])
          have HW := Lib.hid (fun W => Within_any p 0 15 W)
          rw [h4] at HW
          clear he h4
          go_enter Tryd.func19, Tryd.ntmps19
          go_wp2_with (first | (go_at_call 41; refine (HH.out _).mono ?_; rintro e w' ⟨rfl, rfl⟩) | (go_at_call 42; refine (HA.out _ (bel_alloc (Below.refl _ _) _)).mono ?_; rintro e W1 ⟨rfl, hbW1⟩; obtain ⟨hcW1, hfW1⟩ := bcell hbW1) | (go_at_call 43; refine (HW.out _).mono ?_; rintro e w' ⟨rfl, rfl⟩))
          go_ret
          exact ⟨by rw [H.out]; rfl, bel_trans (bel_alloc (Below.refl _ _) _) hbW1⟩
        · have H := Lib.hid (show r = 0 by rw [he, h1, h4]; simp [h2, unl])
          have HW := Lib.hid (fun W => Within_any p 0 15 W)
          rw [h4] at HW
          clear he h4
          go_enter Tryd.func19, Tryd.ntmps19
          go_wp2_with (first | (go_at_call 41; refine (HH.out _).mono ?_; rintro e w' ⟨rfl, rfl⟩) | (go_at_call 42; refine (HA.out _ (bel_alloc (Below.refl _ _) _)).mono ?_; rintro e W1 ⟨rfl, hbW1⟩; obtain ⟨hcW1, hfW1⟩ := bcell hbW1) | (go_at_call 43; refine (HW.out _).mono ?_; rintro e w' ⟨rfl, rfl⟩))
          go_ret
          exact ⟨by rw [H.out]; rfl, bel_trans (bel_alloc (Below.refl _ _) _) hbW1⟩
      · have H := Lib.hid (show r = q by rw [he, h1]; simp [h2, h3])
        have h3' : (q != 0) = true := by simpa using h3
        clear he h3
        go_enter Tryd.func19, Tryd.ntmps19
        go_wp2_with (first | (go_at_call 41; refine (HH.out _).mono ?_; rintro e w' ⟨rfl, rfl⟩) | (go_at_call 42; refine (HA.out _ (bel_alloc (Below.refl _ _) _)).mono ?_; rintro e W1 ⟨rfl, hbW1⟩; obtain ⟨hcW1, hfW1⟩ := bcell hbW1))
        go_ret
        exact ⟨by rw [H.out]; rfl, bel_trans (bel_alloc (Below.refl _ _) _) hbW1⟩
    · have h2' : 16 < gs.length := by omega
      have H := Lib.hid (show r = 8 by rw [he, h1]; simp [h2])
      clear he h2
      go_enter Tryd.func19, Tryd.ntmps19
      go_wp2_with (go_at_call 41; refine (HH.out _).mono ?_; rintro e w' ⟨rfl, rfl⟩)
      go_ret
      exact ⟨by rw [H.out]; rfl, bel_alloc (Below.refl _ _) _⟩
set_option maxRecDepth 100000 in
theorem Is_any (t : TokP) (A : Option Addr) (c : Nat) (who : Int) (w : World) (hl : t.gs.length ≤ 100000) (hr : Rd w w.heap.size A (t.gs.map (.int .i64))) :
    Calls Tryd.prog 14 #[tokV t A c, .int .i64 who] w fun e w' => e = .returned (.bool (isT t who)) ∧ Below w.heap.size w w' := by
  have HC := Lib.hid (fun W (hW : Below w.heap.size w W) => baseHas_any A c t.gs who W (by omega) (hr.below' hW))
  obtain ⟨r, hre⟩ : ∃ r, r = isT t who := ⟨_, rfl⟩
  rw [← hre]
  unfold isT at hre
  unfold tokV
  obtain ⟨x, hx⟩ : ∃ x, x = t.gs.contains who := ⟨_, rfl⟩
  rw [← hx] at HC hre
  obtain ⟨u, gs, p⟩ := t
  dsimp only at hre HC ⊢
  clear hr hx
  by_cases h1 : who = 1
  · subst h1
    have H := Lib.hid hre
    clear hre
    go_enter Tryd.func14, Tryd.ntmps14
    go_wp2
    go_ret
    exact ⟨by rw [H.out]; rfl, bel_alloc (Below.refl _ _) _⟩
  · have k1 : (who == 1) = false := by simpa using h1
    by_cases h2 : who = u
    · subst h2
      have H := Lib.hid (show r = true by rw [hre]; simp)
      clear hre h1
      go_enter Tryd.func14, Tryd.ntmps14
      go_wp2
      go_ret
      exact ⟨by rw [H.out]; rfl, bel_alloc (Below.refl _ _) _⟩
    · have k2 : (who == u) = false := by simpa using h2
      have H := Lib.hid (show r = x by rw [hre, k1, k2]; rfl)
      clear hre h1 h2
      go_enter Tryd.func14, Tryd.ntmps14
      go_wp2_with (go_at_call 34; refine (HC.out _ (bel_alloc (Below.refl _ _) _)).mono ?_; rintro e w' ⟨rfl, rfl⟩)
      go_ret
      exact ⟨by rw [H.out]; rfl, bel_alloc (Below.refl _ _) _⟩
end Go.Proofs.YtanicpgmbhfipaaDoor
namespace Go.Proofs.YtanicpgmbhfipaaDoor
set_option linter.unusedVariables false
set_option linter.unusedSimpArgs false
open Go.RowKit Go.Sort

theorem pow_cases (i : Nat) (hi : i < 9) : ((2 : Int) ^ i == 256) = bitI 256 i ∧ ((2 : Int) ^ i == 64) = (i == 6) ∧ ((2 : Int) ^ i == 128) = (i == 7) ∧ 0 < (2 : Int) ^ i ∧ (2 : Int) ^ i ≤ 1000000000 := by
  have : i = 0 ∨ i = 1 ∨ i = 2 ∨ i = 3 ∨ i = 4 ∨ i = 5 ∨ i = 6 ∨ i = 7 ∨ i = 8 := by omega
  rcases this with rfl | rfl | rfl | rfl | rfl | rfl | rfl | rfl | rfl <;> decide +kernel
theorem grtB_neg (d : DscP) (t : TokP) (i : Nat) (h : byP d t i = -1 ∨ byP d t i = -2 ∨ byP d t i = -3) : grtB d t i = true := by
  unfold grtB
  rcases h with h | h | h <;> rw [h] <;> rfl
theorem grtB_none (d : DscP) (t : TokP) (i : Nat) (h : byP d t i = -4) : grtB d t i = false := by
  unfold grtB; rw [h]; rfl
theorem grtB_at (d : DscP) (t : TokP) (i j : Nat) (hj : j < d.es.length) (h : byP d t i = (j : Int)) : grtB d t i = (d.es[j].k == 0) := by
  rw [← grtI_by, h]
  unfold grtI
  have e1 : ((j : Int) != -4) = true := by rw [bne_iff_ne]; omega
  have e2 : decide ((j : Int) < 0) = false := by simp
  rw [e1, e2, Int.toNat_natCast, List.getD_eq_getElem?_getD, List.getElem?_eq_getElem hj]; rfl
theorem retIB {k : IntKind} {a b : Int} {x y : Bool} (h : a = b) (h0 : x = y) : Ending.returned (.tuple #[.int k a, .bool x]) = .returned (.tuple #[.int k b, .bool y]) := by rw [h, h0]
end Go.Proofs.YtanicpgmbhfipaaDoor
namespace Go.Proofs.YtanicpgmbhfipaaDoor
set_option linter.unusedVariables false
set_option linter.unusedSimpArgs false
open Go.RowKit Go.Sort

theorem Power9_any (k : Nat) (hk : k < 9) (w : World) : Calls Tryd.prog 15 #[.int .i64 k] w fun e w' => e = .returned (.int .i64 ((2 : Int) ^ k)) ∧ w = w' := by
  obtain ⟨R, hR⟩ : ∃ R, R = (2 : Int) ^ k := ⟨_, rfl⟩
  have hsh : wrap64 ((2 : Int) ^ k) = R := by rw [hR]; exact shl_one k hk
  rw [← hR]
  clear hR
  go_enter Tryd.func15, Tryd.ntmps15
  go_wp2
  go_ret
  exact ⟨by first | rfl | (rw [← hsh]; rfl), rfl⟩
theorem rgtN_le (d : DscP) (t : TokP) (n : Nat) (h : n ≤ 9) : rgtN d t n ≤ 512 := by
  have h1 := (rgtN_bd d t n).2
  have h2 : (2 : Int) ^ n ≤ 2 ^ 9 := by
    have : (2 : Nat) ^ n ≤ 2 ^ 9 := Nat.pow_le_pow_right (by decide) h
    exact_mod_cast this
  have h3 : (2 : Int) ^ 9 = 512 := by decide
  omega
end Go.Proofs.YtanicpgmbhfipaaDoor
namespace Go.Proofs.YtanicpgmbhfipaaDoor
set_option linter.unusedVariables false
set_option linter.unusedSimpArgs false
open Go.RowKit Go.Sort

set_option maxRecDepth 100000 in
set_option maxHeartbeats 4000000 in
theorem refCheckDsc_any (d : DscP) (A1 A2 : Option Addr) (c1 c2 : Nat) (w : World) (h1 : d.es.length ≤ 500) (h2 : d.us.length ≤ 500) (hr1 : Rd w w.heap.size A1 (acesV d.es)) (hr2 : Rd w w.heap.size A2 (acesV d.us)) :
    Calls Tryd.prog 48 #[dscV d A1 A2 c1 c2] w fun e w' => e = .returned (.tuple #[.int .i64 (dscP d).1, .int .i64 (dscP d).2]) ∧ Below w.heap.size w w' := by
  obtain ⟨q1, q2, hq⟩ : ∃ q1 q2, dscP d = (q1, q2) := ⟨_, _, rfl⟩
  have hq2 : (q1, q2) = if pairE d.o d.g ≠ 0 then (0, pairE d.o d.g) else if 16 < d.es.length ∨ 16 < d.us.length then (0, 8) else if d.he = false ∧ d.es ≠ [] then (0, 3) else eachE (entE d.es.length) 0 (d.es ++ d.us) := hq.symm
  rw [hq]
  have HP := Lib.hid (fun W => PairErr_any d.o d.g W)
  obtain ⟨e1, he1⟩ : ∃ e, e = pairE d.o d.g := ⟨_, rfl⟩
  rw [← he1] at HP hq2
  have HR1 := Lib.hid hr1
  have HR2 := Lib.hid hr2
  unfold dscV
  obtain ⟨o, g, pr, he, es, us⟩ := d
  dsimp only at *
  clear hq he1 hr1 hr2
  by_cases h0 : e1 = 0
  case neg =>
    rw [if_pos (by simpa using h0)] at hq2
    injection hq2 with hq1 hq2
    have h0' : (e1 != 0) = true := by simpa using h0
    subst hq1 hq2
    clear h0
    go_enter Tryd.func48, Tryd.ntmps48
    go_wp2_with (go_at_call 61; refine (HP.out _).mono ?_; rintro e w' ⟨rfl, rfl⟩)
    go_ret2
    exact ⟨rfl, bel_alloc (Below.refl _ _) _⟩
  case pos =>
  subst h0
  rw [if_neg (by decide)] at hq2
  by_cases h16 : 16 < es.length
  case pos =>
    rw [if_pos (.inl h16)] at hq2
    injection hq2 with hq1 hq2
    subst hq1 hq2
    go_enter Tryd.func48, Tryd.ntmps48
    go_wp2_with (go_at_call 61; refine (HP.out _).mono ?_; rintro e w' ⟨rfl, rfl⟩)
    go_ret2
    exact ⟨rfl, bel_alloc (Below.refl _ _) _⟩
  case neg =>
  by_cases h16' : 16 < us.length
  case pos =>
    rw [if_pos (.inr h16')] at hq2
    injection hq2 with hq1 hq2
    subst hq1 hq2
    go_enter Tryd.func48, Tryd.ntmps48
    go_wp2_with (go_at_call 61; refine (HP.out _).mono ?_; rintro e w' ⟨rfl, rfl⟩)
    go_ret2
    exact ⟨rfl, bel_alloc (Below.refl _ _) _⟩
  case neg =>
  rw [if_neg (by omega)] at hq2
  have hHE : he = false ∧ es ≠ [] ∨ he = true ∨ es.length = 0 := by
    cases he
    · by_cases h : es = []
      · exact .inr (.inr (by rw [h]; rfl))
      · exact .inl ⟨rfl, h⟩
    · exact .inr (.inl rfl)
  rcases hHE with hHE | hHE
  · rw [if_pos hHE] at hq2
    injection hq2 with hq1 hq2
    obtain ⟨rfl, hne⟩ := hHE
    have hpos : 0 < es.length := List.length_pos_iff.2 hne
    subst hq1 hq2
    clear hne
    go_enter Tryd.func48, Tryd.ntmps48
    go_wp2_with (go_at_call 61; refine (HP.out _).mono ?_; rintro e w' ⟨rfl, rfl⟩)
    go_ret2
    exact ⟨rfl, bel_alloc (Below.refl _ _) _⟩
  · rw [if_neg (by rintro ⟨h1, h2⟩; rcases hHE with h | h; rw [h] at h1; cases h1; exact h2 (List.eq_nil_of_length_eq_zero h))] at hq2
    have HQ := Lib.hid hq2
    obtain ⟨W0, hW0⟩ : ∃ W0, W0 = w.alloc (.cells #[.int .i64 o, .int .i64 g, .bool pr, .bool he, .slice A1 es.length c1, .slice A2 us.length c2] 24) := ⟨_, rfl⟩
    have bD : Box W0 w.heap.size #[.int .i64 o, .int .i64 g, .bool pr, .bool he, .slice A1 es.length c1, .slice A2 us.length c2] 24 := by rw [hW0]; exact Box.new w _ _
    have hb0 : Below w.heap.size w W0 := by rw [hW0]; exact bel_alloc (Below.refl _ _) _
    have BD := Lib.hid (fun W hW => bD.below (w' := W) hW)
    have HB0 := Lib.hid hb0
    have HW0 := Lib.hid hW0
    clear hq2 bD hb0 hW0
    go_enter Tryd.func48, Tryd.ntmps48
    go_upto_region 6 with (go_at_call 61; refine (HP.out _).mono ?_; rintro e w' ⟨rfl, rfl⟩)
    rw [← HW0.out]
    have bd0 := BD.out _ (Below.refl _ _)
    have y3 : W0.cell? ⟨w.heap.size, 3, none⟩ = some (.bool he) := bd0.cells 3
    have y4 : W0.cell? ⟨w.heap.size, 4, none⟩ = some (.slice A1 es.length c1) := bd0.cells 4
    have y5 : W0.cell? ⟨w.heap.size, 5, none⟩ = some (.slice A2 us.length c2) := bd0.cells 5
    have l0 : w.heap.size < W0.heap.size := bd0.lt
    go_cut [35] (fun s35 wx => s35 = .bool false ∧ W0 = wx)
    case first =>
      rcases hHE with rfl | hz
      · by_cases hp : 0 < es.length
        · go_wp2_with fail
          go_meet
          exact ⟨rfl, rfl⟩
        · go_wp2_with fail
          go_meet
          exact ⟨rfl, rfl⟩
      · go_wp2_with fail
        go_meet
        exact ⟨rfl, rfl⟩
    case rest =>
    obtain ⟨rfl, rfl⟩ := hcut
    have HE1 := Lib.hid (fun (a : AceP) W => AceErr_any a W)
    obtain ⟨T, hT⟩ : ∃ T : Nat → List AceP, T = fun k => (es ++ us).drop k := ⟨_, rfl⟩
    have HEL := Lib.hid (show ∀ (k : Nat) (h : k < es.length), T k = es[k] :: T (k + 1) from fun k h => by
      rw [hT]
      show (es ++ us).drop k = es[k] :: (es ++ us).drop (k + 1)
      rw [List.drop_eq_getElem_cons (by rw [List.length_append]; omega), List.getElem_append_left h])
    have HER := Lib.hid (show ∀ (k : Nat) (h : k < us.length), T (es.length + k) = us[k] :: T (es.length + k + 1) from fun k h => by
      rw [hT]
      show (es ++ us).drop (es.length + k) = us[k] :: (es ++ us).drop (es.length + k + 1)
      rw [List.drop_eq_getElem_cons (by rw [List.length_append]; omega), List.getElem_append_right (by omega)]
      simp)
    have HEN := Lib.hid (show T (es.length + us.length) = [] from by
      rw [hT]
      show (es ++ us).drop (es.length + us.length) = []
      exact List.drop_of_length_le (by rw [List.length_append]; omega))
    have HQ0 := Lib.hid (show (q1, q2) = eachE (entE es.length) 0 (T 0) from by rw [hT]; exact HQ.out)
    clear hT HQ hHE bd0
    go_wp2
    go_loopw [5] (fun ix wr => ∃ k : Nat, k ≤ es.length + us.length ∧ ix = .int .i64 k ∧ Below W0.heap.size W0 wr ∧ (q1, q2) = eachE (entE es.length) k (T k)) (fun ix _ => es.length + us.length - (intOf ix).toNat)
    case atStart => exact ⟨0, Nat.zero_le _, rfl, Below.refl _ _, HQ0.out⟩
    case round =>
      obtain ⟨k, hk, rfl, hb, hf⟩ := hrel
      have bd1 := BD.out _ hb
      have y4 : wr.cell? ⟨w.heap.size, 4, none⟩ = some (.slice A1 es.length c1) := bd1.cells 4
      have y5 : wr.cell? ⟨w.heap.size, 5, none⟩ = some (.slice A2 us.length c2) := bd1.cells 5
      have n0 : w.heap.size < wr.heap.size := bd1.lt
      have hbW := bel_trans HB0.out hb
      by_cases hlt : k < es.length
      · have hr1 := HR1.out.below' hbW
        obtain ⟨b, oo, rfl, hbb, hc⟩ := hr1.opened (by rw [acesV_length]; omega)
        obtain ⟨g0, g1, g2, g3⟩ := acesV_get es k hlt
        have c0 : wr.cell? ⟨b, oo + k * 4, none⟩ = _ := hc _ _ g0
        have c1' : wr.cell? ⟨b, oo + k * 4 + 1, none⟩ = _ := hc _ _ g1
        have c2' : wr.cell? ⟨b, oo + k * 4 + 1 + 1, none⟩ = _ := hc _ _ g2
        have c3 : wr.cell? ⟨b, oo + k * 4 + 1 + 1 + 1, none⟩ = _ := hc _ _ g3
        have hd := HEL.out k hlt
        obtain ⟨a, ha⟩ : ∃ a, a = es[k] := ⟨_, rfl⟩
        rw [← ha] at c0 c1' c2' c3 hd
        have hent : entE es.length k a = if aceE a ≠ 0 then aceE a else if a.k = 2 then 15 else 0 := by
          unfold entE
          have : decide (es.length ≤ k) = false := by simp; omega
          rw [this]
          by_cases h2 : a.k = 2
          · simp [h2, unl]
          · simp [h2, unl]
        have hf2 : (q1, q2) = if entE es.length k a = 0 then eachE (entE es.length) (k + 1) (T (k + 1)) else ((k : Int), entE es.length k a) := by rw [hf, hd, eachE]
        rw [hent] at hf2
        have HA := HE1.out a
        obtain ⟨q, hq⟩ : ∃ q, q = aceE a := ⟨_, rfl⟩
        rw [← hq] at HA hf2
        have HA2 := Lib.hid HA
        have HF := Lib.hid hf2
        have HB2 := Lib.hid hb
        have HBW := Lib.hid hbW
        obtain ⟨ak, af, am, aw⟩ := a
        dsimp only at *
        clear HA hf hf2 hd ha g0 g1 g2 g3 hc bd1 hb hbW hr1 hent hq
        by_cases hq0 : q = 0
        · subst hq0
          by_cases h2 : ak = 2
          · have H := Lib.hid (show (q1, q2) = ((k : Int), 15) by rw [HF.out]; simp [h2])
            subst h2
            go_wp2_with (go_at_call 62; refine (HA2.out _).mono ?_; rintro e W1 ⟨rfl, hbW1⟩; obtain ⟨hcW1, hfW1⟩ := bcell hbW1)
            go_ret2
            exact ⟨retII (congrArg Prod.fst H.out).symm (congrArg Prod.snd H.out).symm, bel_trans (bel_alloc HBW.out _) hbW1⟩
          · have h2' : (ak == 2) = false := by simpa using h2
            have H := Lib.hid (show (q1, q2) = eachE (entE es.length) (k + 1) (T (k + 1)) by rw [HF.out]; simp [h2])
            clear h2
            go_wp2_with (go_at_call 62; refine (HA2.out _).mono ?_; rintro e W1 ⟨rfl, hbW1⟩; obtain ⟨hcW1, hfW1⟩ := bcell hbW1)
            go_roundw
            case rel => exact ⟨k + 1, by omega, by go_num, bel_trans (bel_alloc HB2.out _) hbW1, H.out⟩
            case measure => simp [intOf]; omega
        · have hq0' : (q != 0) = true := by simpa using hq0
          have H := Lib.hid (show (q1, q2) = ((k : Int), q) by rw [HF.out]; simp [hq0])
          clear hq0
          go_wp2_with (go_at_call 62; refine (HA2.out _).mono ?_; rintro e W1 ⟨rfl, hbW1⟩; obtain ⟨hcW1, hfW1⟩ := bcell hbW1)
          go_ret2
          exact ⟨retII (congrArg Prod.fst H.out).symm (congrArg Prod.snd H.out).symm, bel_trans (bel_alloc HBW.out _) hbW1⟩
      · by_cases hlt2 : k < es.length + us.length
        · obtain ⟨m, rfl⟩ : ∃ m, k = es.length + m := ⟨k - es.length, by omega⟩
          have hm : m < us.length := by omega
          have hr1 := HR2.out.below' hbW
          obtain ⟨b, oo, rfl, hbb, hc⟩ := hr1.opened (by rw [acesV_length]; omega)
          obtain ⟨g0, g1, g2, g3⟩ := acesV_get us m hm
          have c0 : wr.cell? ⟨b, oo + m * 4, none⟩ = _ := hc _ _ g0
          have c1' : wr.cell? ⟨b, oo + m * 4 + 1, none⟩ = _ := hc _ _ g1
          have c2' : wr.cell? ⟨b, oo + m * 4 + 1 + 1, none⟩ = _ := hc _ _ g2
          have c3 : wr.cell? ⟨b, oo + m * 4 + 1 + 1 + 1, none⟩ = _ := hc _ _ g3
          have hd := HER.out m hm
          obtain ⟨a, ha⟩ : ∃ a, a = us[m] := ⟨_, rfl⟩
          rw [← ha] at c0 c1' c2' c3 hd
          have hent : entE es.length (es.length + m) a = if aceE a ≠ 0 then aceE a else if a.k = 2 then 0 else 15 := by
            unfold entE
            have : decide (es.length ≤ es.length + m) = true := by simp
            rw [this]
            by_cases h2 : a.k = 2
            · simp [h2, unl]
            · simp [h2, unl]
          have hf2 : (q1, q2) = if entE es.length (es.length + m) a = 0 then eachE (entE es.length) (es.length + m + 1) (T (es.length + m + 1)) else (((es.length + m : Nat) : Int), entE es.length (es.length + m) a) := by rw [hf, hd, eachE]
          rw [hent] at hf2
          have HA := HE1.out a
          obtain ⟨q, hq⟩ : ∃ q, q = aceE a := ⟨_, rfl⟩
          rw [← hq] at HA hf2
          have HA2 := Lib.hid HA
          have HF := Lib.hid hf2
          have HB2 := Lib.hid hb
          have HBW := Lib.hid hbW
          have hsub : (es.length : Int) + m - es.length = m := by omega
          obtain ⟨ak, af, am, aw⟩ := a
          dsimp only at *
          clear HA hf hf2 hd ha g0 g1 g2 g3 hc bd1 hb hbW hr1 hent hq
          by_cases hq0 : q = 0
          · subst hq0
            by_cases h2 : ak = 2
            · have H := Lib.hid (show (q1, q2) = eachE (entE es.length) (es.length + m + 1) (T (es.length + m + 1)) by rw [HF.out]; simp [h2])
              subst h2
              go_wp2_with (go_at_call 62; refine (HA2.out _).mono ?_; rintro e W1 ⟨rfl, hbW1⟩; obtain ⟨hcW1, hfW1⟩ := bcell hbW1)
              go_roundw
              case rel => exact ⟨es.length + m + 1, by omega, by go_num, bel_trans (bel_alloc HB2.out _) hbW1, H.out⟩
              case measure => simp [intOf]; omega
            · have h2' : (ak == 2) = false := by simpa using h2
              have H := Lib.hid (show (q1, q2) = (((es.length + m : Nat) : Int), 15) by rw [HF.out]; simp [h2])
              clear h2
              go_wp2_with (go_at_call 62; refine (HA2.out _).mono ?_; rintro e W1 ⟨rfl, hbW1⟩; obtain ⟨hcW1, hfW1⟩ := bcell hbW1)
              go_ret2
              exact ⟨retII (congrArg Prod.fst H.out).symm (congrArg Prod.snd H.out).symm, bel_trans (bel_alloc HBW.out _) hbW1⟩
          · have hq0' : (q != 0) = true := by simpa using hq0
            have H := Lib.hid (show (q1, q2) = (((es.length + m : Nat) : Int), q) by rw [HF.out]; simp [hq0])
            clear hq0
            go_wp2_with (go_at_call 62; refine (HA2.out _).mono ?_; rintro e W1 ⟨rfl, hbW1⟩; obtain ⟨hcW1, hfW1⟩ := bcell hbW1)
            go_ret2
            exact ⟨retII (congrArg Prod.fst H.out).symm (congrArg Prod.snd H.out).symm, bel_trans (bel_alloc HBW.out _) hbW1⟩
        · obtain rfl : k = es.length + us.length := by omega
          have H := Lib.hid (show (q1, q2) = ((0 : Int), 0) by rw [hf, HEN.out]; rfl)
          clear hf
          go_wp2
          go_ret2
          exact ⟨retII (congrArg Prod.fst H.out).symm (congrArg Prod.snd H.out).symm, hbW⟩
end Go.Proofs.YtanicpgmbhfipaaDoor
namespace Go.Proofs.YtanicpgmbhfipaaDoor
set_option linter.unusedVariables false
set_option linter.unusedSimpArgs false
open Go.RowKit Go.Sort

/-- a struct in a block: what a function hands back -/
theorem results_cell1 {P : Program} {fn : Func} {p : Tmp} {ty : TypeId} (h : fn.results = #[.cell p ty]) (tmps : Array Value) (w : World) (g : Nat) (t : TypeId) (cs : Array Value) (d : TypeDesc)
    (hp : tmps.getD p undef = .pointer (some ⟨g, 0, none⟩)) (hg : Box w g cs t)
    (hu : P.underlying ty = some d) (hd : (match d with | .struct _ | .array _ _ => true | _ => false) = true) (hi : (P.info? ty).map (·.size) = some cs.size) :
    (results fn tmps).run P w = .ok (.agg cs) w := by
  have hp' : tmps[p]?.getD undef = .pointer (some ⟨g, 0, none⟩) := by simpa using hp
  simp [results, h, hp', asAddr, run_loadVar_row w g t ty cs (0, 0) d hg hu hd hi]
theorem ownsRow_grw {X Y : World} {g base : Nat} {e : TypeId} {size n : Nat} {v : Value} {xs : List Value} (h : X.ownsRow base e size v n xs) (hX : Grw (fun b _ => b = g) X Y) (hg : g < base) : Y.ownsRow base e size v n xs := by
  refine ⟨h.1, ?_⟩
  rcases h.2 with h' | ⟨b, cap, cur, h1, h2, h3, h4⟩
  · exact .inl h'
  · exact .inr ⟨b, cap, cur, h1, h2, (hX.block b (Array.getElem?_eq_some_iff.1 h3).1 (by omega)).trans h3, h4⟩
def RowA (B : Nat) (l : List AceP) (v : Value) (X : World) : Prop := ∃ A c, v = .slice A l.length c ∧ X.ownsRow B 34 4 (.slice A l.length c) l.length (acesV l)
theorem RowA.stable {B : Nat} {l : List AceP} (v : Value) (X X' : World) (h : RowA B l v X) (hb : Below X.heap.size X X') : RowA B l v X' := by
  obtain ⟨A, c, h1, h2⟩ := h
  exact ⟨A, c, h1, ownsRow_below h2 hb⟩
set_option maxRecDepth 100000 in
set_option maxHeartbeats 2000000 in
theorem CopyDsc_any (d : DscP) (A1 A2 : Option Addr) (c1 c2 : Nat) (w : World) (h1 : d.es.length ≤ 500) (h2 : d.us.length ≤ 500) (hr1 : Rd w w.heap.size A1 (acesV d.es)) (hr2 : Rd w w.heap.size A2 (acesV d.us)) :
    Calls Tryd.prog 11 #[dscV d A1 A2 c1 c2] w fun e w' => ∃ B1 B2 k1 k2, e = .returned (dscV d B1 B2 k1 k2) ∧ Rd w' w'.heap.size B1 (acesV d.es) ∧ Rd w' w'.heap.size B2 (acesV d.us) ∧ Below w.heap.size w w' := by
  have HR1 := Lib.hid hr1
  have HR2 := Lib.hid hr2
  unfold dscV
  obtain ⟨o, g, pr, he, es, us⟩ := d
  dsimp only at *
  have bD := (Box.new w #[.int .i64 o, .int .i64 g, .bool pr, .bool he, .slice A1 es.length c1, .slice A2 us.length c2] 24).old (.cells #[.int .i64 0, .int .i64 0, .bool false, .bool false, .slice none 0 0, .slice none 0 0] 24)
  have bR := Box.new (w.alloc (.cells #[.int .i64 o, .int .i64 g, .bool pr, .bool he, .slice A1 es.length c1, .slice A2 us.length c2] 24)) #[.int .i64 0, .int .i64 0, .bool false, .bool false, .slice none 0 0, .slice none 0 0] 24
  rw [World.size_alloc] at bR
  have hb0 : Below w.heap.size w ((w.alloc (.cells #[.int .i64 o, .int .i64 g, .bool pr, .bool he, .slice A1 es.length c1, .slice A2 us.length c2] 24)).alloc (.cells #[.int .i64 0, .int .i64 0, .bool false, .bool false, .slice none 0 0, .slice none 0 0] 24)) := bel_alloc (bel_alloc (Below.refl _ _) _) _
  obtain ⟨W0, hW0⟩ : ∃ W0, W0 = (w.alloc (.cells #[.int .i64 o, .int .i64 g, .bool pr, .bool he, .slice A1 es.length c1, .slice A2 us.length c2] 24)).alloc (.cells #[.int .i64 0, .int .i64 0, .bool false, .bool false, .slice none 0 0, .slice none 0 0] 24) := ⟨_, rfl⟩
  rw [← hW0] at bD bR hb0
  have HW0 := Lib.hid hW0
  have BD := Lib.hid bD
  have BR := Lib.hid bR
  have HB0 := Lib.hid hb0
  have hs0 : W0.heap.size = w.heap.size + 1 + 1 := by rw [hW0]; simp only [World.size_alloc]
  have y4 : W0.cell? ⟨w.heap.size, 4, none⟩ = some (.slice A1 es.length c1) := bD.cells 4
  have y5 : W0.cell? ⟨w.heap.size, 5, none⟩ = some (.slice A2 us.length c2) := bD.cells 5
  have l0 : w.heap.size < W0.heap.size := bD.lt
  clear hW0 bD bR hb0 hr1 hr2 hs0
  go_enter Tryd.func11, Tryd.ntmps11
  go_wp2
  rw [← HW0.out]
  (refine wp_region_flow [false, false, true, false, false, true, false] [⟨2, [], RowA W0.heap.size es, false⟩, ⟨5, [], RowA W0.heap.size us, false⟩] (by kernel_rfl) (by kernel_rfl) (by kernel_rfl) (by kernel_rfl) ?_; simp only [pick, List.length_cons, List.length_nil, List.drop_succ_cons, List.drop_zero, Nat.zero_add, Nat.reduceAdd]; apply Exists.intro; refine ⟨fun X hX => ?_, ?_⟩; (focus (obtain ⟨hcX, hfX⟩ := bcell hX; have hgX := regcell hX; have hsX := hX.size; (try simp only [World.size_alloc] at hsX); (repeat (go_big_quiet_step ((first | fail)))); exact wpQuiet_nil rfl)); simp only [wpND, told, toldAll, List.contains_cons, List.contains_nil, List.mem_cons, List.not_mem_nil, forall_eq_or_imp, false_implies, implies_true, and_true, Nat.reduceBEq, BEq.rfl, beq_self_eq_true, Bool.or_false, Bool.false_or, Bool.true_or, Bool.or_true, Bool.false_eq_true, if_true, if_false, true_implies, dstAt, List.getElem?_toArray, List.getElem?_cons_succ, List.getElem?_cons_zero, Option.some.injEq, forall_eq', Option.bind_some, Act.put, List.setIfInBounds_toArray, List.set_cons_succ, List.set_cons_zero])
  refine ⟨RowA.stable, fun X hX => ?_, fun v1 => ⟨RowA.stable, fun X hX => ?_, fun v2 X hX hf => ?_⟩⟩
  · refine leaves_call' (f := 16) (args := #[.slice A1 es.length c1]) (by kernel_rfl) ((CopyAces_it A1 c1 es X (by omega) (HR1.out.below' (bel_trans HB0.out hX))).mono ?_)
    rintro e w' ⟨A', c', rfl, ho, hb⟩
    exact ⟨_, rfl, hb, A', c', rfl, ownsRow_mono ho hX.size⟩
  · refine leaves_call' (f := 16) (args := #[.slice A2 us.length c2]) (by kernel_rfl) ((CopyAces_it A2 c2 us X (by omega) (HR2.out.below' (bel_trans HB0.out hX))).mono ?_)
    rintro e w' ⟨A', c', rfl, ho, hb⟩
    exact ⟨_, rfl, hb, A', c', rfl, ownsRow_mono ho hX.size⟩
  · obtain ⟨⟨B2, k2, rfl, ho2⟩, B1, k1, rfl, ho1⟩ := hf
    have hbX := bel_trans HB0.out hX
    have bd := BD.out.below hX
    have br := BR.out.below hX
    have hne : w.heap.size + 1 ≠ w.heap.size := by omega
    have HX := Lib.hid hX
    have HO1 := Lib.hid ho1
    have HO2 := Lib.hid ho2
    clear hX y4 y5 l0 ho1 ho2
    refine wpList_store_fieldG rfl 22 (.tmp 9) (.tmp 5) rfl rfl w.heap.size 4 (.slice B1 es.length k1) rfl rfl rfl (by kernel_rfl) 24 _ bd (by simp) ?_
    intro W2 g2 bd2 keep2
    have br2 := keep2 _ _ _ hne br
    go_wp2_with (first | (at_builtin; fail) | (refine wpList_store_fieldG rfl 22 (.tmp 10) (.tmp 8) rfl rfl w.heap.size 5 (.slice B2 us.length k2) rfl rfl rfl (by kernel_rfl) 24 _ bd2 (by simp) ?_; intro W3 g3 bd3 keep3; have br3 := keep3 _ _ _ hne br2; have y0 : W3.cell? ⟨w.heap.size, 0, none⟩ = some (.int .i64 o) := bd3.cells 0; have y1 : W3.cell? ⟨w.heap.size, 1, none⟩ = some (.int .i64 g) := bd3.cells 1; have y2 : W3.cell? ⟨w.heap.size, 2, none⟩ = some (.bool pr) := bd3.cells 2; have y3 : W3.cell? ⟨w.heap.size, 3, none⟩ = some (.bool he) := bd3.cells 3; have y4 : W3.cell? ⟨w.heap.size, 4, none⟩ = some (.slice B1 es.length k1) := bd3.cells 4; have y5 : W3.cell? ⟨w.heap.size, 5, none⟩ = some (.slice B2 us.length k2) := bd3.cells 5) | (refine wpList_store_newG rfl 24 (.tmp 2) (.tmp 11) rfl rfl (w.heap.size + 1) #[.int .i64 o, .int .i64 g, .bool pr, .bool he, .slice B1 es.length k1, .slice B2 us.length k2] rfl rfl 24 _ br3 (by kernel_rfl) (by kernel_rfl) (by kernel_rfl) ?_; intro W4 g4 br4 keep4; clear y0 y1 y2 y3 y4 y5))
    have hb4 := g4.belowAt (g3.belowAt (g2.belowAt hbX (Nat.le_refl _)) (Nat.le_refl _)) (by omega)
    have hs0 : W0.heap.size = w.heap.size + 1 + 1 := by rw [HW0.out]; simp only [World.size_alloc]
    have o1 := ownsRow_grw (ownsRow_grw (ownsRow_grw HO1.out g2 (by omega)) g3 (by omega)) g4 (by omega)
    have o2 := ownsRow_grw (ownsRow_grw (ownsRow_grw HO2.out g2 (by omega)) g3 (by omega)) g4 (by omega)
    exact bodyPost_ret (results_cell1 Tryd.results11 _ W4 (w.heap.size + 1) 24 _ _ rfl br4 Tryd.underlying24 rfl (by kernel_rfl)) rfl ⟨B1, B2, k1, k2, rfl, Rd.of_own o1, Rd.of_own o2, hb4⟩
set_option maxRecDepth 100000 in
set_option maxHeartbeats 2000000 in
theorem CopyTok_any (t : TokP) (A : Option Addr) (c : Nat) (w : World) (hl : t.gs.length ≤ 100000) (hr : Rd w w.heap.size A (t.gs.map (.int .i64))) :
    Calls Tryd.prog 12 #[tokV t A c] w fun e w' => ∃ B k, e = .returned (tokV t B k) ∧ Rd w' w'.heap.size B (t.gs.map (.int .i64)) ∧ Below w.heap.size w w' := by
  have HR := Lib.hid hr
  unfold tokV
  obtain ⟨u, gs, p⟩ := t
  dsimp only at *
  have bD := (Box.new w #[.int .i64 u, .slice A gs.length c, .int .i64 p] 27).old (.cells #[.int .i64 0, .slice none 0 0, .int .i64 0] 27)
  have bR := Box.new (w.alloc (.cells #[.int .i64 u, .slice A gs.length c, .int .i64 p] 27)) #[.int .i64 0, .slice none 0 0, .int .i64 0] 27
  rw [World.size_alloc] at bR
  have hb0 : Below w.heap.size w ((w.alloc (.cells #[.int .i64 u, .slice A gs.length c, .int .i64 p] 27)).alloc (.cells #[.int .i64 0, .slice none 0 0, .int .i64 0] 27)) := bel_alloc (bel_alloc (Below.refl _ _) _) _
  obtain ⟨W0, hW0⟩ : ∃ W0, W0 = (w.alloc (.cells #[.int .i64 u, .slice A gs.length c, .int .i64 p] 27)).alloc (.cells #[.int .i64 0, .slice none 0 0, .int .i64 0] 27) := ⟨_, rfl⟩
  rw [← hW0] at bD bR hb0
  have HW0 := Lib.hid hW0
  have BD := Lib.hid bD
  have BR := Lib.hid bR
  have HB0 := Lib.hid hb0
  have HCI := Lib.hid (CopyInts_it A c gs W0 (by omega) (hr.below' hb0))
  have hne : w.heap.size + 1 ≠ w.heap.size := by omega
  clear hW0 bD bR hb0 hr
  go_enter Tryd.func12, Tryd.ntmps12
  go_upto_region 1 with (fail)
  rw [← HW0.out]
  have y1 : W0.cell? ⟨w.heap.size, 1, none⟩ = some (.slice A gs.length c) := BD.out.cells 1
  have l0 : w.heap.size < W0.heap.size := BD.out.lt
  go_wp2_with (first | (go_at_call 32; refine HCI.out.mono ?_; rintro e W1 ⟨B1, k1, rfl, ho1, hb1⟩; have bd1 := BD.out.below hb1; have br1 := BR.out.below hb1; have HB1 := Lib.hid hb1; have HO1 := Lib.hid ho1; clear ho1 hb1) | (refine wpList_store_fieldG rfl 25 (.tmp 6) (.tmp 5) rfl rfl w.heap.size 1 (.slice B1 gs.length k1) rfl rfl rfl (by kernel_rfl) 27 _ bd1 (by simp) ?_; intro W3 g3 bd3 keep3; have br3 := keep3 _ _ _ hne br1; have z0 : W3.cell? ⟨w.heap.size, 0, none⟩ = some (.int .i64 u) := bd3.cells 0; have z1 : W3.cell? ⟨w.heap.size, 1, none⟩ = some (.slice B1 gs.length k1) := bd3.cells 1; have z2 : W3.cell? ⟨w.heap.size, 2, none⟩ = some (.int .i64 p) := bd3.cells 2) | (refine wpList_store_newG rfl 27 (.tmp 2) (.tmp 7) rfl rfl (w.heap.size + 1) #[.int .i64 u, .slice B1 gs.length k1, .int .i64 p] rfl rfl 27 _ br3 (by kernel_rfl) (by kernel_rfl) (by kernel_rfl) ?_; intro W4 g4 br4 keep4; clear z0 z1 z2))
  have hbX := bel_trans HB0.out HB1.out
  have hb4 := g4.belowAt (g3.belowAt hbX (Nat.le_refl _)) (by omega)
  have hs0 : W0.heap.size = w.heap.size + 1 + 1 := by rw [HW0.out]; simp only [World.size_alloc]
  have o1 := ownsRow_grw (ownsRow_grw HO1.out g3 (by omega)) g4 (by omega)
  exact bodyPost_ret (results_cell1 Tryd.results12 _ W4 (w.heap.size + 1) 27 _ _ rfl br4 Tryd.underlying27 rfl (by kernel_rfl)) rfl ⟨B1, k1, rfl, Rd.of_own o1, hb4⟩
end Go.Proofs.YtanicpgmbhfipaaDoor
namespace Go.Proofs.YtanicpgmbhfipaaDoor
set_option linter.unusedVariables false
set_option linter.unusedSimpArgs false
open Go.RowKit Go.Sort

def fewD (d : DscP) : Bool := decide (d.es.length ≤ 20) && decide (d.us.length ≤ 20)
def fewB (d : DscP) (t : TokP) : Bool := fewD d && decide (t.gs.length ≤ 18)
theorem Few_any (d : DscP) (A1 A2 : Option Addr) (c1 c2 : Nat) (w : World) :
    Calls Tryd.prog 26 #[dscV d A1 A2 c1 c2] w fun e w' => e = .returned (.bool (fewD d)) ∧ Below w.heap.size w w' := by
  obtain ⟨r, hr⟩ : ∃ r, r = fewD d := ⟨_, rfl⟩
  rw [← hr]
  unfold fewD at hr
  unfold dscV
  obtain ⟨o, g, pr, he, es, us⟩ := d
  dsimp only at *
  by_cases h1 : es.length ≤ 20
  · by_cases h2 : us.length ≤ 20
    · have H := Lib.hid (show r = true by rw [hr]; simp [h1, h2])
      clear hr
      go_enter Tryd.func26, Tryd.ntmps26
      go_wp2
      go_ret
      exact ⟨by rw [H.out]; first | rfl | (simp [h2]; omega), bel_alloc (Below.refl _ _) _⟩
    · have H := Lib.hid (show r = false by rw [hr]; simp [h2])
      clear hr
      go_enter Tryd.func26, Tryd.ntmps26
      go_wp2
      go_ret
      exact ⟨by rw [H.out]; first | rfl | (simp [h2]; omega), bel_alloc (Below.refl _ _) _⟩
  · have H := Lib.hid (show r = false by rw [hr]; simp [h1])
    clear hr
    go_enter Tryd.func26, Tryd.ntmps26
    go_wp2
    go_ret
    exact ⟨by rw [H.out]; first | rfl | (simp [h1]; omega), bel_alloc (Below.refl _ _) _⟩
theorem few_any (d : DscP) (t : TokP) (A1 A2 A : Option Addr) (c1 c2 c : Nat) (w : World) :
    Calls Tryd.prog 6 #[dscV d A1 A2 c1 c2, tokV t A c] w fun e w' => e = .returned (.bool (fewB d t)) ∧ Below w.heap.size w w' := by
  have hr : fewB d t = (fewD d && decide (t.gs.length ≤ 18)) := rfl
  obtain ⟨r, hrr⟩ : ∃ r, r = fewB d t := ⟨_, rfl⟩
  rw [← hrr] at hr ⊢
  have HF := Lib.hid (fun W => Few_any d A1 A2 c1 c2 W)
  obtain ⟨x, hx⟩ : ∃ x, x = fewD d := ⟨_, rfl⟩
  rw [← hx] at hr HF
  have bT := Box.new (w.alloc (.cells (dscC d A1 A2 c1 c2) 24)) (tokC t A c) 27
  rw [World.size_alloc] at bT
  have BT := Lib.hid (fun W hW => bT.below (w' := W) hW)
  unfold dscV tokV at *
  unfold dscC tokC at BT
  obtain ⟨u, gs, p⟩ := t
  dsimp only at *
  clear hx hrr bT
  cases x
  · have H := Lib.hid (show r = false by rw [hr]; rfl)
    clear hr
    go_enter Tryd.func6, Tryd.ntmps6
    go_wp2_with (go_at_call 26; refine (HF.out _).mono ?_; rintro e W1 ⟨rfl, hbW1⟩; obtain ⟨hcW1, hfW1⟩ := bcell hbW1)
    go_ret
    exact ⟨by rw [H.out]; rfl, bel_trans (bel_alloc (bel_alloc (Below.refl _ _) _) _) hbW1⟩
  · by_cases h : gs.length ≤ 18
    · have H := Lib.hid (show r = true by rw [hr]; simp [h])
      clear hr
      go_enter Tryd.func6, Tryd.ntmps6
      go_wp2_with ((go_at_call 26; refine (HF.out _).mono ?_; rintro e W1 ⟨rfl, hbW1⟩; obtain ⟨hcW1, hfW1⟩ := bcell hbW1); have bt := BT.out _ hbW1; have z1 : W1.cell? ⟨w.heap.size + 1, 1, none⟩ = some (.slice A gs.length c) := bt.cells 1; have l1 : w.heap.size + 1 < W1.heap.size := bt.lt)
      go_ret
      exact ⟨by rw [H.out]; first | rfl | (simp [h]; omega), bel_trans (bel_alloc (bel_alloc (Below.refl _ _) _) _) hbW1⟩
    · have H := Lib.hid (show r = false by rw [hr]; simp [h])
      clear hr
      go_enter Tryd.func6, Tryd.ntmps6
      go_wp2_with ((go_at_call 26; refine (HF.out _).mono ?_; rintro e W1 ⟨rfl, hbW1⟩; obtain ⟨hcW1, hfW1⟩ := bcell hbW1); have bt := BT.out _ hbW1; have z1 : W1.cell? ⟨w.heap.size + 1, 1, none⟩ = some (.slice A gs.length c) := bt.cells 1; have l1 : w.heap.size + 1 < W1.heap.size := bt.lt)
      go_ret
      exact ⟨by rw [H.out]; first | rfl | (simp [h]; omega), bel_trans (bel_alloc (bel_alloc (Below.refl _ _) _) _) hbW1⟩
theorem refDescErr_any (d : DscP) (A1 A2 : Option Addr) (c1 c2 : Nat) (w : World) (h1 : d.es.length ≤ 500) (h2 : d.us.length ≤ 500) (hr1 : Rd w w.heap.size A1 (acesV d.es)) (hr2 : Rd w w.heap.size A2 (acesV d.us)) :
    Calls Tryd.prog 27 #[dscV d A1 A2 c1 c2] w fun e w' => e = .returned (.int .i64 (dscE d)) ∧ Below w.heap.size w w' := by
  have hb0 : Below w.heap.size w (w.alloc (.cells (dscC d A1 A2 c1 c2) 24)) := bel_alloc (Below.refl _ _) _
  have HC := Lib.hid (refCheckDsc_any d A1 A2 c1 c2 (w.alloc (.cells (dscC d A1 A2 c1 c2) 24)) h1 h2 (hr1.below' hb0) (hr2.below' hb0))
  obtain ⟨q, hq⟩ : ∃ q, q = (dscP d).1 := ⟨_, rfl⟩
  rw [← hq] at HC
  unfold dscE
  obtain ⟨e, he⟩ : ∃ e, e = (dscP d).2 := ⟨_, rfl⟩
  rw [← he] at HC ⊢
  unfold dscV dscC at *
  have HB0 := Lib.hid hb0
  clear hb0 hr1 hr2 hq he
  go_enter Tryd.func27, Tryd.ntmps27
  go_wp2_with (go_at_call 48; refine (HC.out).mono ?_; rintro e W1 ⟨rfl, hbW1⟩; obtain ⟨hcW1, hfW1⟩ := bcell hbW1)
  go_ret
  exact ⟨rfl, bel_trans HB0.out hbW1⟩
theorem botE_eq (d : DscP) (t : TokP) : botE d t = if dscE d ≠ 0 then dscE d else tokE t := by
  unfold botE
  simp only [firstE]
  by_cases h1 : dscE d = 0
  · by_cases h2 : tokE t = 0 <;> simp [h1, h2]
  · simp [h1]
theorem bothErr_any (d : DscP) (t : TokP) (A1 A2 A : Option Addr) (c1 c2 c : Nat) (w : World) (h : DT d t A1 A2 A w) :
    Calls Tryd.prog 7 #[dscV d A1 A2 c1 c2, tokV t A c] w fun e w' => e = .returned (.int .i64 (botE d t)) ∧ Below w.heap.size w w' := by
  have hr := botE_eq d t
  have HD := Lib.hid (fun W (hW : Below w.heap.size w W) => refDescErr_any d A1 A2 c1 c2 W h.l1 h.l2 (h.below hW).r1 (h.below hW).r2)
  have HT := Lib.hid (fun W (hW : Below w.heap.size w W) => TokenErr_any t A c W (by have := h.l3; omega) (h.below hW).r3)
  obtain ⟨r, hrr⟩ : ∃ r, r = botE d t := ⟨_, rfl⟩
  obtain ⟨e1, he1⟩ : ∃ r, r = dscE d := ⟨_, rfl⟩
  obtain ⟨e2, he2⟩ : ∃ r, r = tokE t := ⟨_, rfl⟩
  rw [← hrr, ← he1, ← he2] at hr
  rw [← hrr]
  rw [← he1] at HD
  rw [← he2] at HT
  have bT := Box.new (w.alloc (.cells (dscC d A1 A2 c1 c2) 24)) (tokC t A c) 27
  rw [World.size_alloc] at bT
  have BT := Lib.hid (fun W hW => bT.below (w' := W) hW)
  unfold dscV tokV at *
  unfold dscC tokC at BT
  obtain ⟨u, gs, p⟩ := t
  dsimp only at *
  clear hrr he1 he2 bT h
  by_cases h0 : e1 = 0
  · subst h0
    have H := Lib.hid (show r = e2 by rw [hr]; rfl)
    clear hr
    go_enter Tryd.func7, Tryd.ntmps7
    go_wp2_with (first | ((go_at_call 27; refine (HD.out _ (bel_alloc (bel_alloc (Below.refl _ _) _) _)).mono ?_; rintro e W1 ⟨rfl, hbW1⟩; obtain ⟨hcW1, hfW1⟩ := bcell hbW1); have bt := BT.out _ hbW1; have z0 : W1.cell? ⟨w.heap.size + 1, 0, none⟩ = some (.int .i64 u) := bt.cells 0; have z1 : W1.cell? ⟨w.heap.size + 1, 1, none⟩ = some (.slice A gs.length c) := bt.cells 1; have z2 : W1.cell? ⟨w.heap.size + 1, 2, none⟩ = some (.int .i64 p) := bt.cells 2; have l1 : w.heap.size + 1 < W1.heap.size := bt.lt) | (go_at_call 19; refine (HT.out _ (bel_trans (bel_alloc (bel_alloc (Below.refl _ _) _) _) hbW1)).mono ?_; rintro e W2 ⟨rfl, hbW2⟩; obtain ⟨hcW2, hfW2⟩ := bcell hbW2))
    go_ret
    exact ⟨by rw [H.out]; rfl, bel_trans (bel_trans (bel_alloc (bel_alloc (Below.refl _ _) _) _) hbW1) hbW2⟩
  · have h0' : (e1 != 0) = true := by simpa using h0
    have H := Lib.hid (show r = e1 by rw [hr, if_pos h0])
    clear hr h0
    go_enter Tryd.func7, Tryd.ntmps7
    go_wp2_with (go_at_call 27; refine (HD.out _ (bel_alloc (bel_alloc (Below.refl _ _) _) _)).mono ?_; rintro e W1 ⟨rfl, hbW1⟩; obtain ⟨hcW1, hfW1⟩ := bcell hbW1)
    go_ret
    exact ⟨by rw [H.out]; rfl, bel_trans (bel_alloc (bel_alloc (Below.refl _ _) _) _) hbW1⟩
end Go.Proofs.YtanicpgmbhfipaaDoor
