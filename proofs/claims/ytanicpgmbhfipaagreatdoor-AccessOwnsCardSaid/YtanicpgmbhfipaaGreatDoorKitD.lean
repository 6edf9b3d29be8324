/-
  Lists of numbers and of entries: compared, copied, searched.
  Chapter 17: the reference's errors of tokens; whether a token has an identity.
  Chapter 17: the reference's TokenErr, Is, counts.
  Chapter 17: the reference's By.
  Chapter 17: the reference's Rights, Decided.
  Chapter 17: the reference's errors of descriptors.
  Chapter 17: copies of descriptors and tokens; what the guards ask.
  Chapter 17: what the guards ask; the reference's error of a descriptor, then of a token.
  Append to a row of one's own: what lay below its length is kept wherever the row lies afterwards. Append of one element to a slice that has no room: a new row.
  Chapter 17: the order of sets of identities.
  Chapter 17, plain: all subsets of ascending identities, in order.
  Chapter 17: all subsets of identities: sets.
  Chapter 17: all subsets of identities, in order.
  Chapter 17: the tokens of some identities.
-/
import Derived.Test.YtanicpgmbhfipaaGreatDoorKitB
import Derived.BigQuiet
import Derived.Test.YtanicpgmbhfipaaGreatDoorKitC
import Derived.Deep.DeepCutAuto
import Derived.RegionTactic
import Derived.Test.YtanicpgmbhfipaaGreatDoorKitA
import Derived.ArgAppend
import Derived.Laws.OwnMore
import Derived.Shelf.GgSortFunc.Compose
namespace Go.Proofs.YtanicpgmbhfipaaGreatDoor
set_option linter.unusedVariables false
set_option linter.unusedSimpArgs false
open Go.RowKit Go.Sort
theorem Ints_any (A A' : Option Addr) (c c' : Nat) (xs ys : List Int) (w : World) (hl : xs.length ≤ maxLen) (hl' : ys.length ≤ maxLen) (hr : Rd w w.heap.size A (xs.map (.int .i64))) (hr' : Rd w w.heap.size A' (ys.map (.int .i64))) :
 Calls Tryz.prog 18 #[.slice A xs.length c, .slice A' ys.length c'] w fun e w' => e = .returned (.bool (decide (xs = ys))) ∧ Below w.heap.size w w' := by
 unfold maxLen at hl hl'
 by_cases hne : xs.length = ys.length
 · have h1 : ((xs.length : Int) != ys.length) = false := by simp [hne]
   have HNE := Lib.hid hne
   clear hne
   go_enter Tryz.func18, Tryz.ntmps18
   go_wp2
   go_loopw [5] (fun i wr => ∃ k : Nat, k ≤ xs.length ∧ i = .int .i64 k ∧ Below w.heap.size w wr ∧ xs.take k = ys.take k) (fun i _ => xs.length - (intOf i).toNat)
   case atStart => exact ⟨0, Nat.zero_le _, rfl, Below.refl _ _, rfl⟩
   case round =>
    obtain ⟨k, hk, rfl, hb, ht⟩ := hrel
    have HT := Lib.hid ht
    clear ht
    by_cases hlt : k < xs.length
    · have hlt' : k < ys.length := by have := HNE.out; omega
      obtain ⟨b, o, rfl, hB, hc⟩ := (hr.below hb).opened (by simp; omega)
      obtain ⟨b', o', rfl, hB', hc'⟩ := (hr'.below hb).opened (by simp; omega)
      have c0 := hc k (.int .i64 xs[k]) (by simp [hlt])
      have c1 := hc' k (.int .i64 ys[k]) (by simp [hlt'])
      obtain ⟨x, hx⟩ : ∃ x, x = xs[k] := ⟨_, rfl⟩
      obtain ⟨y, hy⟩ : ∃ y, y = ys[k] := ⟨_, rfl⟩
      rw [← hx] at c0
      rw [← hy] at c1
      have HX := Lib.hid hx
      have HY := Lib.hid hy
      clear hc hc' hx hy hr hr'
      by_cases hxy : x = y
      · subst hxy
        go_wp2
        go_quiet (fail)
        go_wp2
        go_roundw
        case rel =>
         refine ⟨k + 1, by omega, by go_num, bel_drewN hb _, ?_⟩
         rw [List.take_succ_eq_append_getElem hlt, List.take_succ_eq_append_getElem hlt', HT.out, ← HX.out, ← HY.out]
        case measure => simp [intOf]; omega
      · have hxy' : (x != y) = true := by simp [hxy]
        have HXY := Lib.hid hxy
        clear hxy
        go_wp2
        go_quiet (fail)
        go_wp2
        go_ret
        refine ⟨retB (decide_eq_false fun h => HXY.out ?_).symm, bel_drewN hb _⟩
        subst h
        rw [HX.out, HY.out]
    · obtain rfl : k = xs.length := by omega
      go_wp2
      go_ret
      refine ⟨retB (decide_eq_true ?_).symm, hb⟩
      have := HT.out
      rw [List.take_length, HNE.out, List.take_length] at this
      exact this
 · have h1 : ((xs.length : Int) != ys.length) = true := by simp; omega
   have HNE := Lib.hid hne
   clear hne
   go_enter Tryz.func18, Tryz.ntmps18
   go_wp2
   go_ret
   exact ⟨retB (decide_eq_false fun h => HNE.out (by rw [h])).symm, Below.refl _ _⟩
theorem intsV_one (l : List Int) : ∀ u ∈ l.map (Value.int .i64), u.oneCell' = true := by
 intro u hu; obtain ⟨f, _, rfl⟩ := List.mem_map.1 hu; rfl
theorem acesV_one (l : List AceP) : ∀ u ∈ acesV l, u.oneCell' = true := by
 intro u hu
 unfold acesV at hu
 obtain ⟨a, _, h⟩ := List.mem_flatMap.1 hu
 simp only [aceV, List.mem_cons, List.not_mem_nil, or_false] at h
 rcases h with rfl | rfl | rfl | rfl <;> rfl
theorem intsV_length (l : List Int) : (l.map (Value.int .i64)).length = l.length * 1 := by simp
theorem CopyInts_it (A : Option Addr) (c : Nat) (l : List Int) (w : World) (hlen : l.length ≤ 1000000) (hr : Rd w w.heap.size A (l.map (.int .i64))) :
 Calls Tryz.prog 22 #[.slice A l.length c] w fun e w' =>
  ∃ A' c', e = .returned (.slice A' l.length c') ∧ w'.ownsRow w.heap.size 3 1 (.slice A' l.length c') l.length (l.map (.int .i64)) ∧ Below w.heap.size w w' := by
 obtain ⟨i0, hi, hz0, hz1, hz2⟩ := info_parts infoInt
 go_enter Tryz.func22, Tryz.ntmps22
 have hown := World.ownsRow_lit (base := w.heap.size) (e := 3) (size := 1) w #[] 0 (Nat.le_refl _) (by unfold maxLen; omega) rfl
 go_wp2_with (at_builtin; refine wpList_append_rd _ rfl (.tmp 3) (.tmp 4) 25 rfl w.heap.size 3 i0 (.int .i64 0) 1 8 Tryz.underlying25 hi hz0 hz1 hz2 rfl (by decide) _ _ _ rfl hown (w.heap.size + 1) A l.length c (l.map (.int .i64)) rfl (intsV_length l) ((hr.below ((Below.refl _ _).alloc (Nat.le_refl _) _)).mono (by omega)) (intsV_one l) (by unfold maxLen; omega) (by omega) (by simp) ?_; intro v1 w1 hown1 _ _ hb1)
 go_ret
 obtain ⟨A', c', rfl, _⟩ := ownsRow_form hown1
 simp only [Nat.zero_add] at hown1 ⊢
 exact ⟨A', c', rfl, by simpa using hown1, (bel_alloc (Below.refl _ _) _).trans hb1⟩
theorem CopyAces_it (A : Option Addr) (c : Nat) (l : List AceP) (w : World) (hlen : l.length ≤ 1000000) (hr : Rd w w.heap.size A (acesV l)) :
 Calls Tryz.prog 42 #[.slice A l.length c] w fun e w' =>
  ∃ A' c', e = .returned (.slice A' l.length c') ∧ w'.ownsRow w.heap.size 111 4 (.slice A' l.length c') l.length (acesV l) ∧ Below w.heap.size w w' := by
 obtain ⟨i0, hi, hz0, hz1, hz2⟩ := info_parts infoAce
 go_enter Tryz.func42, Tryz.ntmps42
 have hown := World.ownsRow_lit (base := w.heap.size) (e := 111) (size := 4) w #[] 0 (Nat.le_refl _) (by unfold maxLen; omega) rfl
 go_wp2_with (at_builtin; refine wpList_append_rd _ rfl (.tmp 3) (.tmp 4) 22 rfl w.heap.size 111 i0 (.agg #[.int .i64 0, .int .i64 0, .int .i64 0, .int .i64 0]) 4 32 Tryz.underlying22 hi hz0 hz1 hz2 rfl (by decide) _ _ _ rfl hown (w.heap.size + 1) A l.length c (acesV l) rfl (acesV_length l) ((hr.below ((Below.refl _ _).alloc (Nat.le_refl _) _)).mono (by omega)) (acesV_one l) (by unfold maxLen; omega) (by omega) (by simp) ?_; intro v1 w1 hown1 _ _ hb1)
 go_ret
 obtain ⟨A', c', rfl, _⟩ := ownsRow_form hown1
 simp only [Nat.zero_add] at hown1 ⊢
 exact ⟨A', c', rfl, by simpa using hown1, (bel_alloc (Below.refl _ _) _).trans hb1⟩
theorem baseHas_any (A : Option Addr) (c : Nat) (l : List Int) (n : Int) (w : World) (hlen : l.length ≤ 1000000) (hr : Rd w w.heap.size A (l.map (.int .i64))) :
 Calls Tryz.prog 84 #[.slice A l.length c, .int .i64 n] w fun e w' => e = .returned (.bool (l.contains n)) ∧ w = w' := by
 have hcon : ∀ k (h : k < l.length), (l.drop k).contains n = (if l[k] == n then true else (l.drop (k + 1)).contains n) := fun k h => by
  rw [List.drop_eq_getElem_cons h, List.contains_cons]
  by_cases e : n = l[k]
  · simp [e]
  · have e1 : (n == l[k]) = false := by simpa using e
    have e2 : (l[k] == n) = false := by simpa using (fun h => e (Eq.symm h))
    rw [e1, e2]; rfl
 have HCON := Lib.hid hcon
 clear hcon
 obtain ⟨R, hR⟩ : ∃ R, R = l.contains n := ⟨_, rfl⟩
 rw [← hR]
 have HR := Lib.hid hR
 clear hR
 go_enter Tryz.func84, Tryz.ntmps84
 go_wp2
 go_loop [5] (fun i => ∃ k : Nat, k ≤ l.length ∧ i = .int .i64 k ∧ R = (l.drop k).contains n) (fun i => l.length - (intOf i).toNat)
 case atStart => exact ⟨0, Nat.zero_le _, rfl, HR.out⟩
 case round =>
  obtain ⟨k, hk, rfl, hf⟩ := hrel
  have HF := Lib.hid hf
  clear hf
  by_cases hlt : k < l.length
  · obtain ⟨b, o, rfl, hB, hc⟩ := hr.opened (by simp; omega)
    have c0 := hc k (.int .i64 l[k]) (by simp [hlt])
    have HC1 := Lib.hid (HCON.out k hlt)
    obtain ⟨x, hx⟩ : ∃ x, x = l[k] := ⟨_, rfl⟩
    rw [← hx] at c0 HC1
    clear hc hx hr
    by_cases hxn : x = n
    · have h1 : (x == n) = true := by simp [hxn]
      have H1 := Lib.hid h1
      clear hxn
      go_wp2
      go_ret
      exact ⟨by rw [HF.out, HC1.out, H1.out]; rfl, rfl⟩
    · have h1 : (x == n) = false := by simpa using hxn
      have H1 := Lib.hid h1
      clear hxn
      go_wp2
      go_round
      case rel => exact ⟨k + 1, by omega, by go_num, by rw [HF.out, HC1.out, H1.out]; rfl⟩
      case measure => simp [intOf]; omega
  · go_wp2
    go_ret
    exact ⟨by rw [HF.out, List.drop_of_length_le (by omega)]; rfl, rfl⟩
theorem refHas_any (x f : Int) (w : World) (hx : 0 ≤ x) (hx2 : x ≤ 1000000000) (hf : 0 < f) (hf2 : f ≤ 1000000000) :
 Calls Tryz.prog 76 #[.int .i64 x, .int .i64 f] w fun e w' => e = .returned (.bool (x / f % 2 == 1)) ∧ w = w' := by
 have h1 : 0 ≤ x / f := Int.ediv_nonneg hx (by omega)
 have h2 : x / f ≤ x := Int.ediv_le_self _ hx
 have hne : f ≠ 0 := by omega
 go_enter Tryz.func76, Tryz.ntmps76
 go_wp2
 go_ret
 exact ⟨rfl, rfl⟩
end Go.Proofs.YtanicpgmbhfipaaGreatDoor
namespace Go.Proofs.YtanicpgmbhfipaaGreatDoor
set_option linter.unusedVariables false
set_option linter.unusedSimpArgs false
open Go.RowKit Go.Sort
set_option maxRecDepth 100000 in
set_option maxHeartbeats 2000000 in
theorem ascending_any (A : Option Addr) (c : Nat) (l : List Int) (w : World) (hlen : l.length ≤ 100000) (hr : Rd w w.heap.size A (l.map (.int .i64))) :
 Calls Tryz.prog 67 #[.slice A l.length c] w fun e w' => e = .returned (.int .i64 (usersE l)) ∧ Below w.heap.size w w' := by
 obtain ⟨R, hR⟩ : ∃ R, R = usersE l := ⟨_, rfl⟩
 rw [← hR]
 have HR := Lib.hid (show R = (eachE (ordE l) 0 l).2 from hR)
 clear hR
 go_enter Tryz.func67, Tryz.ntmps67
 go_wp2
 go_loopw [3] (fun i wr => ∃ k : Nat, k ≤ l.length ∧ i = .int .i64 k ∧ Below w.heap.size w wr ∧ R = (eachE (ordE l) k (l.drop k)).2) (fun i _ => l.length - (intOf i).toNat)
 case atStart => exact ⟨0, Nat.zero_le _, rfl, Below.refl _ _, HR.out⟩
 case round =>
  obtain ⟨k, hk, rfl, hb, hf⟩ := hrel
  by_cases hlt : k < l.length
  · obtain ⟨b, o, rfl, hB, hcc⟩ := (hr.below hb).opened (by rw [List.length_map]; omega)
    have hd : l.drop k = l[k] :: l.drop (k + 1) := List.drop_eq_getElem_cons hlt
    have c0 : wr.cell? ⟨b, o + k, none⟩ = some (.int .i64 l[k]) := hcc _ _ (by rw [List.getElem?_map, List.getElem?_eq_getElem hlt]; rfl)
    have hf2 : R = if ordE l k l[k] = 0 then (eachE (ordE l) (k + 1) (l.drop (k + 1))).2 else ordE l k l[k] := by
     rw [hf, hd, eachE]; split <;> rfl
    have hord : ordE l k l[k] = if hldB l[k] = true then unl (k == 0 || decide (l.getD (k - 1) 0 < l[k])) 9 else 2 := by
     unfold ordE firstE
     cases hldB l[k]
     · rfl
     · simp only [unl_true, if_true]
       cases (k == 0 || decide (l.getD (k - 1) 0 < l[k])) <;> rfl
    obtain ⟨n, hn⟩ : ∃ n, n = l[k] := ⟨_, rfl⟩
    rw [← hn] at c0 hf2 hord
    obtain ⟨q, hq⟩ : ∃ q, q = ordE l k n := ⟨_, rfl⟩
    rw [← hq] at hf2 hord
    have HF := Lib.hid hf2
    have HH := Lib.hid (fun W => r17hold_any n W)
    obtain ⟨x1, hx1⟩ : ∃ x, x = hldB n := ⟨_, rfl⟩
    rw [← hx1] at HH hord
    have HORD := Lib.hid hord
    cases x1
    · have H := Lib.hid (show R = 2 by rw [HF.out, HORD.out]; rfl)
      clear hf hd hf2 hord hq hx1 hn hr hcc
      go_wp2_with (go_at_call 77; refine (HH.out _).mono ?_; rintro e w' ⟨rfl, rfl⟩)
      go_ret
      exact ⟨by rw [H.out]; rfl, hb⟩
    · by_cases h0 : k = 0
      · subst h0
        have H := Lib.hid (show R = (eachE (ordE l) (0 + 1) (l.drop (0 + 1))).2 by rw [HF.out, HORD.out]; rfl)
        have c00 : wr.cell? ⟨b, o, none⟩ = some (.int .i64 n) := c0
        clear hf hd hf2 hord hq hx1 hn hr hcc
        go_wp2_with (go_at_call 77; refine (HH.out _).mono ?_; rintro e w' ⟨rfl, rfl⟩)
        go_quiet (fail)
        go_wp2
        go_roundw
        case rel => exact ⟨1, by omega, by go_num, bel_drewN hb _, H.out⟩
        case measure => simp [intOf]; omega
      · obtain ⟨j, rfl⟩ : ∃ j, k = j + 1 := ⟨k - 1, by omega⟩
        have cj : wr.cell? ⟨b, o + j, none⟩ = some (.int .i64 (l[j]'(by omega))) := hcc _ _ (by rw [List.getElem?_map, List.getElem?_eq_getElem (by omega)]; rfl)
        have hg : l.getD (j + 1 - 1) 0 = l[j]'(by omega) := by rw [Nat.add_sub_cancel, List.getD_eq_getElem?_getD, List.getElem?_eq_getElem (by omega)]; rfl
        obtain ⟨p, hp⟩ : ∃ p, p = l[j]'(by omega) := ⟨_, rfl⟩
        rw [← hp] at cj hg
        have hq2 : q = unl (decide (p < n)) 9 := by
         rw [HORD.out, hg, show (j + 1 == 0) = false from rfl]; rfl
        have hj1 : (j : Int) + 1 - 1 = j := by omega
        by_cases hpn : p < n
        · have H := Lib.hid (show R = (eachE (ordE l) (j + 1 + 1) (l.drop (j + 1 + 1))).2 by rw [HF.out, hq2, decide_eq_true hpn]; rfl)
          have hnp : ¬ n ≤ p := by omega
          clear hf hd hf2 hord hq hx1 hn hr hcc hg hq2 hp h0
          go_wp2_with (go_at_call 77; refine (HH.out _).mono ?_; rintro e w' ⟨rfl, rfl⟩)
          go_quiet (fail)
          go_wp2
          go_roundw
          case rel => exact ⟨j + 1 + 1, by omega, by go_num, bel_drewN hb _, H.out⟩
          case measure => simp [intOf]; omega
        · have H := Lib.hid (show R = 9 by rw [HF.out, hq2, decide_eq_false hpn]; rfl)
          have hnp : n ≤ p := by omega
          clear hf hd hf2 hord hq hx1 hn hr hcc hg hq2 hp h0
          go_wp2_with (go_at_call 77; refine (HH.out _).mono ?_; rintro e w' ⟨rfl, rfl⟩)
          go_quiet (fail)
          go_wp2
          go_ret
          exact ⟨by rw [H.out]; rfl, bel_drewN hb _⟩
  · have H := Lib.hid (show R = 0 by rw [hf, List.drop_of_length_le (by omega)]; rfl)
    clear hf
    go_wp2
    go_ret
    exact ⟨by rw [H.out]; rfl, hb⟩
end Go.Proofs.YtanicpgmbhfipaaGreatDoor
namespace Go.Proofs.YtanicpgmbhfipaaGreatDoor
set_option linter.unusedVariables false
set_option linter.unusedSimpArgs false
open Go.RowKit Go.Sort
set_option maxRecDepth 100000 in
theorem TokenErr_any (t : TokP) (A : Option Addr) (c : Nat) (w : World) (hl : t.gs.length ≤ 100000) (hr : Rd w w.heap.size A (t.gs.map (.int .i64))) :
 Calls Tryz.prog 40 #[tokV t A c] w fun e w' => e = .returned (.int .i64 (tokE t)) ∧ Below w.heap.size w w' := by
 have he : tokE t = if hldB t.u = true then (if t.gs.length ≤ 16 then (if usersE t.gs = 0 then unl (inB t.p 0 15) 2 else usersE t.gs) else 8) else 2 := by
  unfold tokE
  cases hldB t.u
  · rfl
  · by_cases h1 : t.gs.length ≤ 16
    · by_cases h2 : usersE t.gs = 0
      · cases h3 : inB t.p 0 15 <;> simp [firstE, unl, h1, h2]
      · simp [firstE, unl, h1, h2]
    · simp [firstE, unl, h1]
 obtain ⟨r, hre⟩ : ∃ r, r = tokE t := ⟨_, rfl⟩
 rw [← hre] at he ⊢
 have HA := Lib.hid (fun W (hW : Below w.heap.size w W) => ascending_any A c t.gs W hl (hr.below' hW))
 obtain ⟨q, hq⟩ : ∃ q, q = usersE t.gs := ⟨_, rfl⟩
 rw [← hq] at he HA
 unfold tokV
 obtain ⟨u, gs, p⟩ := t
 dsimp only at *
 clear hre hq hr
 cases h1 : hldB u
 · have H := Lib.hid (show r = 2 by rw [he, h1]; rfl)
   have HH := Lib.hid (fun W => r17hold_any u W)
   rw [h1] at HH
   clear he
   go_enter Tryz.func40, Tryz.ntmps40
   go_wp2_with (go_at_call 77; refine (HH.out _).mono ?_; rintro e w' ⟨rfl, rfl⟩)
   go_ret
   exact ⟨by rw [H.out]; rfl, bel_alloc (Below.refl _ _) _⟩
 · have HH := Lib.hid (fun W => r17hold_any u W)
   rw [h1] at HH
   by_cases h2 : gs.length ≤ 16
   · have h2' : ¬ 16 < gs.length := by omega
     by_cases h3 : q = 0
     · subst h3
       cases h4 : inB p 0 15
       · have H := Lib.hid (show r = 2 by rw [he, h1, h4]; simp [h2, unl])
         have HW := Lib.hid (fun W => Within_any p 0 15 W)
         rw [h4] at HW
         clear he h4
         go_enter Tryz.func40, Tryz.ntmps40
         go_wp2_with (first | (go_at_call 77; refine (HH.out _).mono ?_; rintro e w' ⟨rfl, rfl⟩) | (go_at_call 67; refine (HA.out _ (bel_alloc (Below.refl _ _) _)).mono ?_; rintro e W1 ⟨rfl, hbW1⟩; obtain ⟨hcW1, hfW1⟩ := bcell hbW1) | (go_at_call 58; refine (HW.out _).mono ?_; rintro e w' ⟨rfl, rfl⟩))
         go_ret
         exact ⟨by rw [H.out]; rfl, bel_trans (bel_alloc (Below.refl _ _) _) hbW1⟩
       · have H := Lib.hid (show r = 0 by rw [he, h1, h4]; simp [h2, unl])
         have HW := Lib.hid (fun W => Within_any p 0 15 W)
         rw [h4] at HW
         clear he h4
         go_enter Tryz.func40, Tryz.ntmps40
         go_wp2_with (first | (go_at_call 77; refine (HH.out _).mono ?_; rintro e w' ⟨rfl, rfl⟩) | (go_at_call 67; refine (HA.out _ (bel_alloc (Below.refl _ _) _)).mono ?_; rintro e W1 ⟨rfl, hbW1⟩; obtain ⟨hcW1, hfW1⟩ := bcell hbW1) | (go_at_call 58; refine (HW.out _).mono ?_; rintro e w' ⟨rfl, rfl⟩))
         go_ret
         exact ⟨by rw [H.out]; rfl, bel_trans (bel_alloc (Below.refl _ _) _) hbW1⟩
     · have H := Lib.hid (show r = q by rw [he, h1]; simp [h2, h3])
       have h3' : (q != 0) = true := by simpa using h3
       clear he h3
       go_enter Tryz.func40, Tryz.ntmps40
       go_wp2_with (first | (go_at_call 77; refine (HH.out _).mono ?_; rintro e w' ⟨rfl, rfl⟩) | (go_at_call 67; refine (HA.out _ (bel_alloc (Below.refl _ _) _)).mono ?_; rintro e W1 ⟨rfl, hbW1⟩; obtain ⟨hcW1, hfW1⟩ := bcell hbW1))
       go_ret
       exact ⟨by rw [H.out]; rfl, bel_trans (bel_alloc (Below.refl _ _) _) hbW1⟩
   · have h2' : 16 < gs.length := by omega
     have H := Lib.hid (show r = 8 by rw [he, h1]; simp [h2])
     clear he h2
     go_enter Tryz.func40, Tryz.ntmps40
     go_wp2_with (go_at_call 77; refine (HH.out _).mono ?_; rintro e w' ⟨rfl, rfl⟩)
     go_ret
     exact ⟨by rw [H.out]; rfl, bel_alloc (Below.refl _ _) _⟩
set_option maxRecDepth 100000 in
theorem Is_any (t : TokP) (A : Option Addr) (c : Nat) (who : Int) (w : World) (hl : t.gs.length ≤ 100000) (hr : Rd w w.heap.size A (t.gs.map (.int .i64))) :
 Calls Tryz.prog 73 #[tokV t A c, .int .i64 who] w fun e w' => e = .returned (.bool (isT t who)) ∧ Below w.heap.size w w' := by
 have HC := Lib.hid (fun W (hW : Below w.heap.size w W) => baseHas_any A c t.gs who W (by omega) (hr.below' hW))
 obtain ⟨r, hre⟩ : ∃ r, r = isT t who := ⟨_, rfl⟩
 rw [← hre]
 unfold isT at hre
 unfold tokV
 obtain ⟨x, hx⟩ : ∃ x, x = t.gs.contains who := ⟨_, rfl⟩
 rw [← hx] at HC hre
 obtain ⟨u, gs, p⟩ := t
 dsimp only at hre HC ⊢
 clear hr hx
 by_cases h1 : who = 1
 · subst h1
   have H := Lib.hid hre
   clear hre
   go_enter Tryz.func73, Tryz.ntmps73
   go_wp2
   go_ret
   exact ⟨by rw [H.out]; rfl, bel_alloc (Below.refl _ _) _⟩
 · have k1 : (who == 1) = false := by simpa using h1
   by_cases h2 : who = u
   · subst h2
     have H := Lib.hid (show r = true by rw [hre]; simp)
     clear hre h1
     go_enter Tryz.func73, Tryz.ntmps73
     go_wp2
     go_ret
     exact ⟨by rw [H.out]; rfl, bel_alloc (Below.refl _ _) _⟩
   · have k2 : (who == u) = false := by simpa using h2
     have H := Lib.hid (show r = x by rw [hre, k1, k2]; rfl)
     clear hre h1 h2
     go_enter Tryz.func73, Tryz.ntmps73
     go_wp2_with (go_at_call 84; refine (HC.out _ (bel_alloc (Below.refl _ _) _)).mono ?_; rintro e w' ⟨rfl, rfl⟩)
     go_ret
     exact ⟨by rw [H.out]; rfl, bel_alloc (Below.refl _ _) _⟩
theorem refcounts_any (a : AceP) (w : World) (h0 : 0 ≤ a.f) (h1 : a.f ≤ 31) : Calls Tryz.prog 72 #[.agg #[.int .i64 a.k, .int .i64 a.f, .int .i64 a.m, .int .i64 a.w]] w fun e w' => e = .returned (.bool (cntB a)) ∧ Below w.heap.size w w' := by
 have h : (!(a.f / 8 % 2 == 1)) = cntB a := rfl
 have HH := Lib.hid (fun W => refHas_any a.f 8 W h0 (by omega) (by omega) (by omega))
 obtain ⟨B, hB⟩ : ∃ B, B = cntB a := ⟨_, rfl⟩
 rw [← hB] at h ⊢
 obtain ⟨y, hy⟩ : ∃ y, y = (a.f / 8 % 2 == 1) := ⟨_, rfl⟩
 rw [← hy] at h HH
 have H := Lib.hid h
 clear h hB hy
 obtain ⟨k, f, m, v⟩ := a
 dsimp only at *
 go_enter Tryz.func72, Tryz.ntmps72
 go_wp2_with (go_at_call 76; refine (HH.out _).mono ?_; rintro e w' ⟨rfl, rfl⟩)
 go_ret
 exact ⟨by rw [← H.out]; rfl, bel_alloc (Below.refl _ _) _⟩
end Go.Proofs.YtanicpgmbhfipaaGreatDoor
namespace Go.Proofs.YtanicpgmbhfipaaGreatDoor
set_option linter.unusedVariables false
set_option linter.unusedSimpArgs false
open Go.RowKit Go.Sort
theorem pow_cases (i : Nat) (hi : i < 9) : ((2 : Int) ^ i == 256) = bitI 256 i ∧ ((2 : Int) ^ i == 64) = (i == 6) ∧ ((2 : Int) ^ i == 128) = (i == 7) ∧ 0 < (2 : Int) ^ i ∧ (2 : Int) ^ i ≤ 1000000000 := by
 have : i = 0 ∨ i = 1 ∨ i = 2 ∨ i = 3 ∨ i = 4 ∨ i = 5 ∨ i = 6 ∨ i = 7 ∨ i = 8 := by omega
 rcases this with rfl | rfl | rfl | rfl | rfl | rfl | rfl | rfl | rfl <;> decide +kernel
theorem grtB_neg (d : DscP) (t : TokP) (i : Nat) (h : byP d t i = -1 ∨ byP d t i = -2 ∨ byP d t i = -3) : grtB d t i = true := by
 unfold grtB
 rcases h with h | h | h <;> rw [h] <;> rfl
theorem grtB_none (d : DscP) (t : TokP) (i : Nat) (h : byP d t i = -4) : grtB d t i = false := by
 unfold grtB; rw [h]; rfl
theorem grtB_at (d : DscP) (t : TokP) (i j : Nat) (hj : j < d.es.length) (h : byP d t i = (j : Int)) : grtB d t i = (d.es[j].k == 0) := by
 rw [← grtI_by, h]
 unfold grtI
 have e1 : ((j : Int) != -4) = true := by rw [bne_iff_ne]; omega
 have e2 : decide ((j : Int) < 0) = false := by simp
 rw [e1, e2, Int.toNat_natCast, List.getD_eq_getElem?_getD, List.getElem?_eq_getElem hj]; rfl
set_option maxRecDepth 100000 in
set_option maxHeartbeats 4000000 in
theorem By_any (d : DscP) (t : TokP) (A1 A2 A : Option Addr) (c1 c2 c i : Nat) (w : World) (h : DT d t A1 A2 A w) (ho : dtO d t) (hi : i < 9) :
 Calls Tryz.prog 47 #[dscV d A1 A2 c1 c2, tokV t A c, .int .i64 ((2 : Int) ^ i)] w fun e w' => e = .returned (.tuple #[.int .i64 (byP d t i), .bool (grtB d t i)]) ∧ Below w.heap.size w w' := by
 obtain ⟨hA, hp0, hp1⟩ := ho
 obtain ⟨q256, q64, q128, qp, ql⟩ := pow_cases i hi
 obtain ⟨W0, hW0⟩ : ∃ W0, W0 = (w.alloc (.cells (dscC d A1 A2 c1 c2) 24)).alloc (.cells (tokC t A c) 27) := ⟨_, rfl⟩
 have hb0 : Below w.heap.size w W0 := by rw [hW0]; exact bel_alloc (bel_alloc (Below.refl _ _) _) _
 have bD : Box W0 w.heap.size (dscC d A1 A2 c1 c2) 24 := by rw [hW0]; exact (Box.new w _ _).old _
 have bT : Box W0 (w.heap.size + 1) (tokC t A c) 27 := by
  have := Box.new (w.alloc (.cells (dscC d A1 A2 c1 c2) 24)) (tokC t A c) 27
  rw [World.size_alloc] at this; rw [hW0]; exact this
 have h0 := h.below hb0
 have HIS := Lib.hid (fun (v : Int) W (hW : Below W0.heap.size W0 W) => Is_any t A c v W (by have := h.l3; omega) ((h0.below hW).r3))
 have HP1 := Lib.hid (fun W => refHas_any t.p 1 W hp0 (by omega) (by omega) (by omega))
 have HP2 := Lib.hid (fun W => refHas_any t.p 2 W hp0 (by omega) (by omega) (by omega))
 have HP8 := Lib.hid (fun W => refHas_any t.p 8 W hp0 (by omega) (by omega) (by omega))
 have HR1 := Lib.hid (fun W => refHas_any 73 ((2 : Int) ^ i) W (by omega) (by omega) qp ql)
 have HR2 := Lib.hid (fun W => refHas_any 438 ((2 : Int) ^ i) W (by omega) (by omega) qp ql)
 have HCN := Lib.hid (fun (a : AceP) (ha : a ∈ d.es) W => refcounts_any a W (hA a ha).1 (hA a ha).2.1)
 have HMS := Lib.hid (fun (a : AceP) (ha : a ∈ d.es) W => refHas_any a.m ((2 : Int) ^ i) W (hA a ha).2.2.1 (by have := (hA a ha).2.2.2; omega) qp ql)
 have hprv : prvB t.p i = ((t.p / 1 % 2 == 1) && ((73 : Int) / 2 ^ i % 2 == 1) || (t.p / 2 % 2 == 1) && ((438 : Int) / 2 ^ i % 2 == 1) || (t.p / 8 % 2 == 1) && ((2 : Int) ^ i == 256)) := by
  rw [q256]
  unfold prvB bitI
  rw [show (2 : Int) ^ 0 = 1 from rfl, show (2 : Int) ^ 1 = 2 from rfl, show (2 : Int) ^ 3 = 8 from rfl]
 obtain ⟨R, hRR⟩ : ∃ R, R = ((2 : Int) ^ i) := ⟨_, rfl⟩
 obtain ⟨B, hB⟩ : ∃ B, B = byP d t i := ⟨_, rfl⟩
 obtain ⟨G, hG⟩ : ∃ B, B = grtB d t i := ⟨_, rfl⟩
 obtain ⟨x1, hx1⟩ : ∃ x, x = prvB t.p i := ⟨_, rfl⟩
 obtain ⟨x3, hx3⟩ : ∃ x, x = isT t d.o := ⟨_, rfl⟩
 obtain ⟨j, hj⟩ : ∃ x, x = idxF (hitB t i) 0 d.es := ⟨_, rfl⟩
 have hBB : B = if x1 = true then -1 else if (((R == 64) || (R == 128)) && x3) = true then -2 else if d.he = false then -3 else if j < 0 then -4 else j := by rw [hB, hx1, hx3, hj, hRR, q64, q128]; rfl
 have hGn : (B = -1 ∨ B = -2 ∨ B = -3) → G = true := fun h => by rw [hG]; rw [hB] at h; exact grtB_neg d t i h
 have hG4 : B = -4 → G = false := fun h => by rw [hG]; rw [hB] at h; exact grtB_none d t i h
 have hGj : ∀ k (hk : k < d.es.length), B = (k : Int) → G = (d.es[k].k == 0) := fun k hk h => by rw [hG]; rw [hB] at h; exact grtB_at d t i k hk h
 rw [← hB, ← hG]
 rw [← hRR] at HR1 HR2 HMS hprv ⊢
 obtain ⟨p1, hp1'⟩ : ∃ x, x = (t.p / 1 % 2 == 1) := ⟨_, rfl⟩
 obtain ⟨p2, hp2'⟩ : ∃ x, x = (t.p / 2 % 2 == 1) := ⟨_, rfl⟩
 obtain ⟨p8, hp8'⟩ : ∃ x, x = (t.p / 8 % 2 == 1) := ⟨_, rfl⟩
 obtain ⟨y1, hy1⟩ : ∃ x, x = ((73 : Int) / R % 2 == 1) := ⟨_, rfl⟩
 obtain ⟨y2, hy2⟩ : ∃ x, x = ((438 : Int) / R % 2 == 1) := ⟨_, rfl⟩
 obtain ⟨k6, hk6⟩ : ∃ x, (R == 64) = x := ⟨_, rfl⟩
 obtain ⟨k7, hk7⟩ : ∃ x, (R == 128) = x := ⟨_, rfl⟩
 obtain ⟨k8, hk8⟩ : ∃ x, (R == 256) = x := ⟨_, rfl⟩
 rw [← hp1'] at HP1 hprv
 rw [← hp2'] at HP2 hprv
 rw [← hp8'] at HP8 hprv
 rw [← hy1] at HR1 hprv
 rw [← hy2] at HR2 hprv
 rw [hk6, hk7] at hBB
 rw [hk8, ← hx1] at hprv
 have HIS2 := Lib.hid (fun W hW => HIS.out d.o W hW)
 rw [← hx3] at HIS2
 have HBB := Lib.hid hBB
 have HPRV := Lib.hid hprv
 have HGN := Lib.hid hGn
 have HG4 := Lib.hid hG4
 have HGJ := Lib.hid hGj
 have HJ := Lib.hid hj
 have HB0 := Lib.hid hb0
 have HW0 := Lib.hid hW0
 have HH := Lib.hid h0
 have HHIT := Lib.hid (show ∀ a, hitB t i a = (cntB a && isT t a.w && (a.m / R % 2 == 1)) from fun a => by rw [hRR]; rfl)
 have BD := Lib.hid (fun W hW => bD.below (w' := W) hW)
 have BT := Lib.hid (fun W hW => bT.below (w' := W) hW)
 unfold tokV dscV at *
 unfold dscC at BD
 unfold tokC at BT
 unfold dscC tokC at HW0
 clear hA hp0 hp1 hp1' hp2' hp8' hy1 hy2 h h0 bD bT hRR hB hG hx1 hx3 hj hBB hprv hb0 hi hW0 hGn hG4 hGj q256 q64 q128 qp ql
 go_enter Tryz.func47, Tryz.ntmps47
 go_upto_region 1 with (fail)
 rw [← HW0.out]
 have bt0 := BT.out _ (Below.refl _ _)
 have z0 : W0.cell? ⟨w.heap.size + 1, 0, none⟩ = some (.int .i64 t.u) := Box.cells bt0 0; have z1 : W0.cell? ⟨w.heap.size + 1, 1, none⟩ = some (.slice A t.gs.length c) := Box.cells bt0 1; have z2 : W0.cell? ⟨w.heap.size + 1, 2, none⟩ = some (.int .i64 t.p) := Box.cells bt0 2
 go_upto_region 2 with (fail)
 go_cut [34] (fun s34 wx => s34 = .bool x1 ∧ W0 = wx)
 case first =>
  clear HIS HIS2 HCN HMS HBB HGN HG4 HGJ HJ HH HHIT BD BT
  cases p1 <;> cases p2 <;> cases p8 <;> cases y1 <;> cases y2
  all_goals
   go_wp2_with (first | (go_at_call 76; (with_reducible refine (HP1.out _).mono ?_); rintro e w' ⟨rfl, rfl⟩) | (go_at_call 76; (with_reducible refine (HP2.out _).mono ?_); rintro e w' ⟨rfl, rfl⟩) | (go_at_call 76; (with_reducible refine (HP8.out _).mono ?_); rintro e w' ⟨rfl, rfl⟩) | (go_at_call 76; (with_reducible refine (HR1.out _).mono ?_); rintro e w' ⟨rfl, rfl⟩) | (go_at_call 76; (with_reducible refine (HR2.out _).mono ?_); rintro e w' ⟨rfl, rfl⟩))
   go_meet
   exact ⟨congrArg Value.bool (by rw [HPRV.out]; cases k8 <;> rfl), rfl⟩
 case rest =>
 obtain ⟨rfl, rfl⟩ := hcut
 have bd0 := BD.out _ (Below.refl _ _)
 have y0 : W0.cell? ⟨w.heap.size, 0, none⟩ = some (.int .i64 d.o) := Box.cells bd0 0; have y1 : W0.cell? ⟨w.heap.size, 1, none⟩ = some (.int .i64 d.g) := Box.cells bd0 1; have y2 : W0.cell? ⟨w.heap.size, 2, none⟩ = some (.bool d.pr) := Box.cells bd0 2; have y3 : W0.cell? ⟨w.heap.size, 3, none⟩ = some (.bool d.he) := Box.cells bd0 3; have y4 : W0.cell? ⟨w.heap.size, 4, none⟩ = some (.slice A1 d.es.length c1) := Box.cells bd0 4; have y5 : W0.cell? ⟨w.heap.size, 5, none⟩ = some (.slice A2 d.us.length c2) := Box.cells bd0 5
 have l0 : w.heap.size < W0.heap.size := bd0.lt
 have l1 : w.heap.size + 1 < W0.heap.size := bt0.lt
 clear HP1 HP2 HP8 HR1 HR2 HPRV HW0 bd0 bt0
 cases x1
 case true =>
  have hB : B = -1 := by rw [HBB.out]; rfl
  have hG : G = true := HGN.out (.inl hB)
  subst hB hG
  go_wp2
  go_ret2
  exact ⟨rfl, HB0.out⟩
 case false =>
 go_upto_region 4 with (fail)
 go_cut [46] (fun s46 wx => s46 = .bool ((k6 || k7) && x3) ∧ Below W0.heap.size W0 wx)
 case first =>
  clear HIS HCN HMS HBB HGN HG4 HGJ HJ HH HHIT BD BT
  cases x3 <;> cases k6 <;> cases k7
  all_goals
   go_wp2_with (go_at_call 73; refine (HIS2.out _ (Below.refl _ _)).mono ?_; rintro e W1 ⟨rfl, hbW1⟩; obtain ⟨hcW1, hfW1⟩ := bcell hbW1)
   go_meet
   exact ⟨rfl, hbW1⟩
 case rest =>
 obtain ⟨rfl, hbc⟩ := hcut
 have hBBo := HBB.out
 obtain ⟨x2, hx2⟩ : ∃ x, x = ((k6 || k7) && x3) := ⟨_, rfl⟩
 rw [← hx2] at hBBo ⊢
 clear hx2 HBB
 cases x2
 case true =>
  have hB : B = -2 := by rw [hBBo]; rfl
  have hG : G = true := HGN.out (.inr (.inl hB))
  subst hB hG
  clear hBBo
  go_wp2
  go_ret2
  exact ⟨rfl, bel_trans HB0.out hbc⟩
 case false =>
 have HBB := Lib.hid hBBo
 clear hBBo
 have bd0 := BD.out _ hbc
 have bt0 := BT.out _ hbc
 have yy0 : wc.cell? ⟨w.heap.size, 0, none⟩ = some (.int .i64 d.o) := Box.cells bd0 0; have yy1 : wc.cell? ⟨w.heap.size, 1, none⟩ = some (.int .i64 d.g) := Box.cells bd0 1; have yy2 : wc.cell? ⟨w.heap.size, 2, none⟩ = some (.bool d.pr) := Box.cells bd0 2; have yy3 : wc.cell? ⟨w.heap.size, 3, none⟩ = some (.bool d.he) := Box.cells bd0 3; have yy4 : wc.cell? ⟨w.heap.size, 4, none⟩ = some (.slice A1 d.es.length c1) := Box.cells bd0 4; have yy5 : wc.cell? ⟨w.heap.size, 5, none⟩ = some (.slice A2 d.us.length c2) := Box.cells bd0 5
 have m0 : w.heap.size < wc.heap.size := bd0.lt
 have m1 : w.heap.size + 1 < wc.heap.size := bt0.lt
 have HBC := Lib.hid hbc
 clear z0 z1 z2 y0 y1 y2 y3 y4 y5 l0 l1 bd0 bt0 hbc
 obtain ⟨o, g, pr, he, es, us⟩ := d
 dsimp only at *
 cases he
 case false =>
  have hB : B = -3 := by rw [HBB.out]; rfl
  have hG : G = true := HGN.out (.inr (.inr hB))
  subst hB hG
  go_wp2
  go_ret2
  exact ⟨rfl, bel_trans HB0.out HBC.out⟩
 case true =>
 have HBB2 := Lib.hid (show B = if j < 0 then -4 else j from HBB.out)
 clear HBB
 have hes : es.length ≤ 500 := HH.out.l1
 have HM := Lib.hid (fun (k : Nat) (h : k < es.length) => List.getElem_mem h)
 go_wp2
 go_loopw [9] (fun ix wr => ∃ k : Nat, k ≤ es.length ∧ ix = .int .i64 k ∧ Below wc.heap.size wc wr ∧ j = idxF (hitB t i) k (es.drop k)) (fun ix _ => es.length - (intOf ix).toNat)
 case atStart => exact ⟨0, Nat.zero_le _, rfl, Below.refl _ _, HJ.out⟩
 case round =>
  obtain ⟨k, hk, rfl, hb, hf⟩ := hrel
  have hbW := bel_trans HBC.out hb
  have bd1 := BD.out _ hbW
  have bt1 := BT.out _ hbW
  have y4 : wr.cell? ⟨w.heap.size, 4, none⟩ = some (.slice A1 es.length c1) := bd1.cells 4
  have z0 : wr.cell? ⟨w.heap.size + 1, 0, none⟩ = some (.int .i64 t.u) := Box.cells bt1 0; have z1 : wr.cell? ⟨w.heap.size + 1, 1, none⟩ = some (.slice A t.gs.length c) := Box.cells bt1 1; have z2 : wr.cell? ⟨w.heap.size + 1, 2, none⟩ = some (.int .i64 t.p) := Box.cells bt1 2
  have n0 : w.heap.size < wr.heap.size := bd1.lt
  have n1 : w.heap.size + 1 < wr.heap.size := bt1.lt
  by_cases hlt : k < es.length
  · have hr1 : Rd wr wr.heap.size A1 (acesV es) := (HH.out.below hbW).r1
    obtain ⟨b, oo, rfl, hbb, hc⟩ := hr1.opened (by rw [acesV_length]; omega)
    obtain ⟨g0, g1, g2, g3⟩ := acesV_get es k hlt
    have c0 : wr.cell? ⟨b, oo + k * 4, none⟩ = _ := hc _ _ g0
    have c1 : wr.cell? ⟨b, oo + k * 4 + 1, none⟩ = _ := hc _ _ g1
    have c2 : wr.cell? ⟨b, oo + k * 4 + 1 + 1, none⟩ = _ := hc _ _ g2
    have c3 : wr.cell? ⟨b, oo + k * 4 + 1 + 1 + 1, none⟩ = _ := hc _ _ g3
    have HC1 := HCN.out es[k] (HM.out k hlt)
    have HM1 := HMS.out es[k] (HM.out k hlt)
    have HG1 := HGJ.out k hlt
    have hd : es.drop k = es[k] :: es.drop (k + 1) := List.drop_eq_getElem_cons hlt
    obtain ⟨a, ha⟩ : ∃ a, a = es[k] := ⟨_, rfl⟩
    rw [← ha] at c0 c1 c2 c3 HC1 HM1 HG1 hd
    have hf2 : j = if hitB t i a = true then (k : Int) else idxF (hitB t i) (k + 1) (es.drop (k + 1)) := by rw [hf, hd, idxF]
    rw [HHIT.out a] at hf2
    obtain ⟨x1, hx1⟩ : ∃ x, x = cntB a := ⟨_, rfl⟩
    obtain ⟨x2, hx2⟩ : ∃ x, x = isT t a.w := ⟨_, rfl⟩
    obtain ⟨x3, hx3⟩ : ∃ x, x = (a.m / R % 2 == 1) := ⟨_, rfl⟩
    have HI1 := fun W hW => HIS.out a.w W hW
    rw [← hx1] at HC1 hf2
    rw [← hx2] at HI1 hf2
    rw [← hx3] at HM1 hf2
    have HC2 := Lib.hid HC1
    have HM2 := Lib.hid HM1
    have HI2 := Lib.hid HI1
    have HF := Lib.hid hf2
    have HG2 := Lib.hid HG1
    have HB2 := Lib.hid hb
    have HBW := Lib.hid hbW
    obtain ⟨ak, af, am, aw⟩ := a
    dsimp only at *
    clear HC1 HM1 HI1 hf hf2 hd ha hx1 hx2 hx3 g0 g1 g2 g3 hc bd1 bt1 hb hbW HG1 hr1
    cases x1
    · go_wp2_with (go_at_call 72; refine (HC2.out _).mono ?_; rintro e W1 ⟨rfl, hbW1⟩; obtain ⟨hcW1, hfW1⟩ := bcell hbW1)
      go_roundw
      case rel => exact ⟨k + 1, by omega, by go_num, bel_trans (bel_alloc HB2.out _) hbW1, HF.out⟩
      case measure => simp [intOf]; omega
    · cases x2
      · go_wp2_with (first | ((go_at_call 72; refine (HC2.out _).mono ?_; rintro e W1 ⟨rfl, hbW1⟩; obtain ⟨hcW1, hfW1⟩ := bcell hbW1); have q1 := hbW1.size; rw [World.size_alloc] at q1; have q2 : w.heap.size + 1 < W1.heap.size := (by omega); have q3 : wr.heap.size < W1.heap.size := (by omega)) | (go_at_call 73; refine (HI2.out _ (bel_trans (bel_alloc HBW.out _) hbW1)).mono ?_; rintro e W2 ⟨rfl, hbW2⟩; obtain ⟨hcW2, hfW2⟩ := bcell hbW2))
        go_roundw
        case rel => exact ⟨k + 1, by omega, by go_num, bel_trans (bel_trans (bel_alloc HB2.out _) hbW1) hbW2, HF.out⟩
        case measure => simp [intOf]; omega
      · cases x3
        · go_wp2_with (first | ((go_at_call 72; refine (HC2.out _).mono ?_; rintro e W1 ⟨rfl, hbW1⟩; obtain ⟨hcW1, hfW1⟩ := bcell hbW1); have q1 := hbW1.size; rw [World.size_alloc] at q1; have q2 : w.heap.size + 1 < W1.heap.size := (by omega); have q3 : wr.heap.size < W1.heap.size := (by omega)) | (go_at_call 73; refine (HI2.out _ (bel_trans (bel_alloc HBW.out _) hbW1)).mono ?_; rintro e W2 ⟨rfl, hbW2⟩; obtain ⟨hcW2, hfW2⟩ := bcell hbW2) | (go_at_call 76; refine (HM2.out _).mono ?_; rintro e w' ⟨rfl, rfl⟩))
          go_roundw
          case rel => exact ⟨k + 1, by omega, by go_num, bel_trans (bel_trans (bel_alloc HB2.out _) hbW1) hbW2, HF.out⟩
          case measure => simp [intOf]; omega
        · have hB : B = (k : Int) := by
           have h1 := HF.out
           have h2 := HBB2.out
           rw [h2, h1]
           simp
          have hG : G = (ak == 0) := HG2.out hB
          subst hB hG
          go_wp2_with (first | ((go_at_call 72; refine (HC2.out _).mono ?_; rintro e W1 ⟨rfl, hbW1⟩; obtain ⟨hcW1, hfW1⟩ := bcell hbW1); have q1 := hbW1.size; rw [World.size_alloc] at q1; have q2 : w.heap.size + 1 < W1.heap.size := (by omega); have q3 : wr.heap.size < W1.heap.size := (by omega)) | (go_at_call 73; refine (HI2.out _ (bel_trans (bel_alloc HBW.out _) hbW1)).mono ?_; rintro e W2 ⟨rfl, hbW2⟩; obtain ⟨hcW2, hfW2⟩ := bcell hbW2) | (go_at_call 76; refine (HM2.out _).mono ?_; rintro e w' ⟨rfl, rfl⟩))
          have q4 : wr.heap.size < W2.heap.size := (by have := hbW2.size; omega)
          go_quiet (fail)
          go_wp2
          go_ret2
          exact ⟨rfl, bel_drewN (bel_trans HB0.out (bel_trans (bel_trans (bel_alloc HBW.out _) hbW1) hbW2)) _⟩
  · have hjn : j = -1 := by rw [hf, List.drop_of_length_le (by omega)]; rfl
    have hB : B = -4 := by rw [HBB2.out, hjn]; rfl
    have hG : G = false := HG4.out hB
    subst hB hG
    clear hf hjn
    go_wp2
    go_ret2
    exact ⟨rfl, bel_trans HB0.out hbW⟩
end Go.Proofs.YtanicpgmbhfipaaGreatDoor
namespace Go.Proofs.YtanicpgmbhfipaaGreatDoor
set_option linter.unusedVariables false
set_option linter.unusedSimpArgs false
open Go.RowKit Go.Sort
theorem Power9_any (k : Nat) (hk : k < 9) (w : World) : Calls Tryz.prog 57 #[.int .i64 k] w fun e w' => e = .returned (.int .i64 ((2 : Int) ^ k)) ∧ w = w' := by
 obtain ⟨R, hR⟩ : ∃ R, R = (2 : Int) ^ k := ⟨_, rfl⟩
 have hsh : wrap64 ((2 : Int) ^ k) = R := by rw [hR]; exact shl_one k hk
 rw [← hR]
 clear hR
 go_enter Tryz.func57, Tryz.ntmps57
 go_wp2
 go_ret
 exact ⟨by first | rfl | (rw [← hsh]; rfl), rfl⟩
theorem rgtN_le (d : DscP) (t : TokP) (n : Nat) (h : n ≤ 9) : rgtN d t n ≤ 512 := by
 have h1 := (rgtN_bd d t n).2
 have h2 : (2 : Int) ^ n ≤ 2 ^ 9 := by
  have : (2 : Nat) ^ n ≤ 2 ^ 9 := Nat.pow_le_pow_right (by decide) h
  exact_mod_cast this
 have h3 : (2 : Int) ^ 9 = 512 := by decide
 omega
set_option maxRecDepth 100000 in
set_option maxHeartbeats 4000000 in
theorem refRights_any (d : DscP) (t : TokP) (A1 A2 A : Option Addr) (c1 c2 c : Nat) (w : World) (h : DT d t A1 A2 A w) (ho : dtO d t) :
 Calls Tryz.prog 17 #[dscV d A1 A2 c1 c2, tokV t A c] w fun e w' => e = .returned (.int .i64 (rgtP d t)) ∧ Below w.heap.size w w' := by
 obtain ⟨W0, hW0⟩ : ∃ W0, W0 = (w.alloc (.cells (dscC d A1 A2 c1 c2) 24)).alloc (.cells (tokC t A c) 27) := ⟨_, rfl⟩
 have hb0 : Below w.heap.size w W0 := by rw [hW0]; exact bel_alloc (bel_alloc (Below.refl _ _) _) _
 have bD : Box W0 w.heap.size (dscC d A1 A2 c1 c2) 24 := by rw [hW0]; exact (Box.new w _ _).old _
 have bT : Box W0 (w.heap.size + 1) (tokC t A c) 27 := by
  have := Box.new (w.alloc (.cells (dscC d A1 A2 c1 c2) 24)) (tokC t A c) 27
  rw [World.size_alloc] at this; rw [hW0]; exact this
 have h0 := h.below hb0
 have HBY := Lib.hid (fun (k : Nat) (hk : k < 9) W (hW : Below W0.heap.size W0 W) => By_any d t A1 A2 A c1 c2 c k W (h0.below hW) ho hk)
 have BD := Lib.hid (fun W hW => bD.below (w' := W) hW)
 have BT := Lib.hid (fun W hW => bT.below (w' := W) hW)
 have HN := Lib.hid (fun n hn => And.intro (rgtN_bd d t n).1 (rgtN_le d t n hn))
 have HS := Lib.hid (fun n => show rgtN d t (n + 1) = rgtN d t n + if grtB d t n = true then 2 ^ n else 0 from rfl)
 have HB0 := Lib.hid hb0
 have HW0 := Lib.hid hW0
 unfold tokV dscV at *
 unfold dscC at BD
 unfold tokC at BT
 unfold dscC tokC at HW0
 clear h h0 bD bT hb0 hW0
 go_enter Tryz.func17, Tryz.ntmps17
 go_wp2
 rw [← HW0.out]
 go_loopw [5, 6] (fun r ix wr => ∃ k : Nat, k ≤ 9 ∧ ix = .int .i64 k ∧ r = .int .i64 (rgtN d t k) ∧ Below W0.heap.size W0 wr) (fun _ ix _ => 9 - (intOf ix).toNat)
 case atStart => exact ⟨0, Nat.zero_le _, rfl, rfl, Below.refl _ _⟩
 case round =>
  obtain ⟨k, hk, rfl, rfl, hb⟩ := hrel
  obtain ⟨n1, n2⟩ := HN.out k hk
  have hs := HS.out k
  obtain ⟨r, hr⟩ : ∃ r, r = rgtN d t k := ⟨_, rfl⟩
  rw [← hr] at n1 n2 hs ⊢
  by_cases hlt : k < 9
  · have bd := BD.out _ hb
    have bt := BT.out _ hb
    have y0 : wr.cell? ⟨w.heap.size, 0, none⟩ = some (.int .i64 d.o) := Box.cells bd 0; have y1 : wr.cell? ⟨w.heap.size, 1, none⟩ = some (.int .i64 d.g) := Box.cells bd 1; have y2 : wr.cell? ⟨w.heap.size, 2, none⟩ = some (.bool d.pr) := Box.cells bd 2; have y3 : wr.cell? ⟨w.heap.size, 3, none⟩ = some (.bool d.he) := Box.cells bd 3; have y4 : wr.cell? ⟨w.heap.size, 4, none⟩ = some (.slice A1 d.es.length c1) := Box.cells bd 4; have y5 : wr.cell? ⟨w.heap.size, 5, none⟩ = some (.slice A2 d.us.length c2) := Box.cells bd 5
    have z0 : wr.cell? ⟨w.heap.size + 1, 0, none⟩ = some (.int .i64 t.u) := Box.cells bt 0; have z1 : wr.cell? ⟨w.heap.size + 1, 1, none⟩ = some (.slice A t.gs.length c) := Box.cells bt 1; have z2 : wr.cell? ⟨w.heap.size + 1, 2, none⟩ = some (.int .i64 t.p) := Box.cells bt 2
    have l0 : w.heap.size < wr.heap.size := bd.lt
    have l1 : w.heap.size + 1 < wr.heap.size := bt.lt
    have HP := Lib.hid (fun W => Power9_any k hlt W)
    have HB1 := Lib.hid (fun W (hW : Below W0.heap.size W0 W) => HBY.out k hlt W hW)
    have hR0 := (pow_cases k hlt).2.2.2.1
    have hR1 := (pow_cases k hlt).2.2.2.2
    obtain ⟨R, hR⟩ : ∃ R, R = (2 : Int) ^ k := ⟨_, rfl⟩
    obtain ⟨B, hB⟩ : ∃ B, B = byP d t k := ⟨_, rfl⟩
    obtain ⟨G, hG⟩ : ∃ B, B = grtB d t k := ⟨_, rfl⟩
    rw [← hR] at HP HB1 hs hR0 hR1
    rw [← hB, ← hG] at HB1
    rw [← hG] at hs
    have HSS := Lib.hid hs
    have HB := Lib.hid hb
    clear hs bd bt hR hB hG hr hb
    go_wp2
    have hgX := regcell (Below.refl _ wr)
    (refine wp_region_quiet_below (by kernel_rfl) (by kernel_rfl) ?_; (repeat (go_big_quiet_step ((first | (go_at_call 57; (with_reducible exact Calls.reg_pure (HP.out _))) | (go_at_call 47; (with_reducible exact Calls.regrown_of (HB1.out _ (bel_trans HB.out (below_regrown wr _ _))))))))); (with_reducible refine wpQuiet_nil ?_); intro X hreg; have hbX := below_of_reg hreg; clear hreg; obtain ⟨hcX, hfX⟩ := bcell hbX)
    have hX := hbX
    have HX := Lib.hid (bel_trans HB.out hX)
    cases G
    · have H := Lib.hid (show rgtN d t (k + 1) = r by rw [HSS.out]; simp)
      clear hX
      go_wp2
      go_roundw
      case rel => exact ⟨k + 1, by omega, by go_num, by rw [H.out], HX.out⟩
      case measure => simp [intOf]; omega
    · have H := Lib.hid (show rgtN d t (k + 1) = r + R by rw [HSS.out]; simp)
      clear hX
      go_wp2_with (go_at_call 57; refine (HP.out _).mono ?_; rintro e w' ⟨rfl, rfl⟩)
      go_roundw
      case rel => exact ⟨k + 1, by omega, by go_num, by rw [H.out], HX.out⟩
      case measure => simp [intOf]; omega
  · obtain rfl : k = 9 := by omega
    go_wp2
    go_ret
    exact ⟨by rw [hr]; rfl, bel_trans HB0.out hb⟩
end Go.Proofs.YtanicpgmbhfipaaGreatDoor
namespace Go.Proofs.YtanicpgmbhfipaaGreatDoor
set_option linter.unusedVariables false
set_option linter.unusedSimpArgs false
open Go.RowKit Go.Sort
set_option maxRecDepth 100000 in
set_option maxHeartbeats 4000000 in
theorem refCheckDsc_any (d : DscP) (A1 A2 : Option Addr) (c1 c2 : Nat) (w : World) (h1 : d.es.length ≤ 500) (h2 : d.us.length ≤ 500) (hr1 : Rd w w.heap.size A1 (acesV d.es)) (hr2 : Rd w w.heap.size A2 (acesV d.us)) :
 Calls Tryz.prog 69 #[dscV d A1 A2 c1 c2] w fun e w' => e = .returned (.tuple #[.int .i64 (dscP d).1, .int .i64 (dscP d).2]) ∧ Below w.heap.size w w' := by
 obtain ⟨q1, q2, hq⟩ : ∃ q1 q2, dscP d = (q1, q2) := ⟨_, _, rfl⟩
 have hq2 : (q1, q2) = if pairE d.o d.g ≠ 0 then (0, pairE d.o d.g) else if 16 < d.es.length ∨ 16 < d.us.length then (0, 8) else if d.he = false ∧ d.es ≠ [] then (0, 3) else eachE (entE d.es.length) 0 (d.es ++ d.us) := hq.symm
 rw [hq]
 have HP := Lib.hid (fun W => PairErr_any d.o d.g W)
 obtain ⟨e1, he1⟩ : ∃ e, e = pairE d.o d.g := ⟨_, rfl⟩
 rw [← he1] at HP hq2
 have HR1 := Lib.hid hr1
 have HR2 := Lib.hid hr2
 unfold dscV
 obtain ⟨o, g, pr, he, es, us⟩ := d
 dsimp only at *
 clear hq he1 hr1 hr2
 by_cases h0 : e1 = 0
 case neg =>
  rw [if_pos (by simpa using h0)] at hq2
  injection hq2 with hq1 hq2
  have h0' : (e1 != 0) = true := by simpa using h0
  subst hq1 hq2
  clear h0
  go_enter Tryz.func69, Tryz.ntmps69
  go_wp2_with (go_at_call 93; refine (HP.out _).mono ?_; rintro e w' ⟨rfl, rfl⟩)
  go_ret2
  exact ⟨rfl, bel_alloc (Below.refl _ _) _⟩
 case pos =>
 subst h0
 rw [if_neg (by decide)] at hq2
 by_cases h16 : 16 < es.length
 case pos =>
  rw [if_pos (.inl h16)] at hq2
  injection hq2 with hq1 hq2
  subst hq1 hq2
  go_enter Tryz.func69, Tryz.ntmps69
  go_wp2_with (go_at_call 93; refine (HP.out _).mono ?_; rintro e w' ⟨rfl, rfl⟩)
  go_ret2
  exact ⟨rfl, bel_alloc (Below.refl _ _) _⟩
 case neg =>
 by_cases h16' : 16 < us.length
 case pos =>
  rw [if_pos (.inr h16')] at hq2
  injection hq2 with hq1 hq2
  subst hq1 hq2
  go_enter Tryz.func69, Tryz.ntmps69
  go_wp2_with (go_at_call 93; refine (HP.out _).mono ?_; rintro e w' ⟨rfl, rfl⟩)
  go_ret2
  exact ⟨rfl, bel_alloc (Below.refl _ _) _⟩
 case neg =>
 rw [if_neg (by omega)] at hq2
 have hHE : he = false ∧ es ≠ [] ∨ he = true ∨ es.length = 0 := by
  cases he
  · by_cases h : es = []
    · exact .inr (.inr (by rw [h]; rfl))
    · exact .inl ⟨rfl, h⟩
  · exact .inr (.inl rfl)
 rcases hHE with hHE | hHE
 · rw [if_pos hHE] at hq2
   injection hq2 with hq1 hq2
   obtain ⟨rfl, hne⟩ := hHE
   have hpos : 0 < es.length := List.length_pos_iff.2 hne
   subst hq1 hq2
   clear hne
   go_enter Tryz.func69, Tryz.ntmps69
   go_wp2_with (go_at_call 93; refine (HP.out _).mono ?_; rintro e w' ⟨rfl, rfl⟩)
   go_ret2
   exact ⟨rfl, bel_alloc (Below.refl _ _) _⟩
 · rw [if_neg (by rintro ⟨h1, h2⟩; rcases hHE with h | h; rw [h] at h1; cases h1; exact h2 (List.eq_nil_of_length_eq_zero h))] at hq2
   have HQ := Lib.hid hq2
   obtain ⟨W0, hW0⟩ : ∃ W0, W0 = w.alloc (.cells #[.int .i64 o, .int .i64 g, .bool pr, .bool he, .slice A1 es.length c1, .slice A2 us.length c2] 24) := ⟨_, rfl⟩
   have bD : Box W0 w.heap.size #[.int .i64 o, .int .i64 g, .bool pr, .bool he, .slice A1 es.length c1, .slice A2 us.length c2] 24 := by rw [hW0]; exact Box.new w _ _
   have hb0 : Below w.heap.size w W0 := by rw [hW0]; exact bel_alloc (Below.refl _ _) _
   have BD := Lib.hid (fun W hW => bD.below (w' := W) hW)
   have HB0 := Lib.hid hb0
   have HW0 := Lib.hid hW0
   clear hq2 bD hb0 hW0
   go_enter Tryz.func69, Tryz.ntmps69
   go_upto_region 6 with (go_at_call 93; refine (HP.out _).mono ?_; rintro e w' ⟨rfl, rfl⟩)
   rw [← HW0.out]
   have bd0 := BD.out _ (Below.refl _ _)
   have y3 : W0.cell? ⟨w.heap.size, 3, none⟩ = some (.bool he) := bd0.cells 3
   have y4 : W0.cell? ⟨w.heap.size, 4, none⟩ = some (.slice A1 es.length c1) := bd0.cells 4
   have y5 : W0.cell? ⟨w.heap.size, 5, none⟩ = some (.slice A2 us.length c2) := bd0.cells 5
   have l0 : w.heap.size < W0.heap.size := bd0.lt
   go_cut [35] (fun s35 wx => s35 = .bool false ∧ W0 = wx)
   case first =>
    rcases hHE with rfl | hz
    · by_cases hp : 0 < es.length
      · go_wp2_with fail
        go_meet
        exact ⟨rfl, rfl⟩
      · go_wp2_with fail
        go_meet
        exact ⟨rfl, rfl⟩
    · go_wp2_with fail
      go_meet
      exact ⟨rfl, rfl⟩
   case rest =>
   obtain ⟨rfl, rfl⟩ := hcut
   have HE1 := Lib.hid (fun (a : AceP) W => AceErr_any a W)
   obtain ⟨T, hT⟩ : ∃ T : Nat → List AceP, T = fun k => (es ++ us).drop k := ⟨_, rfl⟩
   have HEL := Lib.hid (show ∀ (k : Nat) (h : k < es.length), T k = es[k] :: T (k + 1) from fun k h => by
    rw [hT]
    show (es ++ us).drop k = es[k] :: (es ++ us).drop (k + 1)
    rw [List.drop_eq_getElem_cons (by rw [List.length_append]; omega), List.getElem_append_left h])
   have HER := Lib.hid (show ∀ (k : Nat) (h : k < us.length), T (es.length + k) = us[k] :: T (es.length + k + 1) from fun k h => by
    rw [hT]
    show (es ++ us).drop (es.length + k) = us[k] :: (es ++ us).drop (es.length + k + 1)
    rw [List.drop_eq_getElem_cons (by rw [List.length_append]; omega), List.getElem_append_right (by omega)]
    simp)
   have HEN := Lib.hid (show T (es.length + us.length) = [] from by
    rw [hT]
    show (es ++ us).drop (es.length + us.length) = []
    exact List.drop_of_length_le (by rw [List.length_append]; omega))
   have HQ0 := Lib.hid (show (q1, q2) = eachE (entE es.length) 0 (T 0) from by rw [hT]; exact HQ.out)
   clear hT HQ hHE bd0
   go_wp2
   go_loopw [5] (fun ix wr => ∃ k : Nat, k ≤ es.length + us.length ∧ ix = .int .i64 k ∧ Below W0.heap.size W0 wr ∧ (q1, q2) = eachE (entE es.length) k (T k)) (fun ix _ => es.length + us.length - (intOf ix).toNat)
   case atStart => exact ⟨0, Nat.zero_le _, rfl, Below.refl _ _, HQ0.out⟩
   case round =>
    obtain ⟨k, hk, rfl, hb, hf⟩ := hrel
    have bd1 := BD.out _ hb
    have y4 : wr.cell? ⟨w.heap.size, 4, none⟩ = some (.slice A1 es.length c1) := bd1.cells 4
    have y5 : wr.cell? ⟨w.heap.size, 5, none⟩ = some (.slice A2 us.length c2) := bd1.cells 5
    have n0 : w.heap.size < wr.heap.size := bd1.lt
    have hbW := bel_trans HB0.out hb
    by_cases hlt : k < es.length
    · have hr1 := HR1.out.below' hbW
      obtain ⟨b, oo, rfl, hbb, hc⟩ := hr1.opened (by rw [acesV_length]; omega)
      obtain ⟨g0, g1, g2, g3⟩ := acesV_get es k hlt
      have c0 : wr.cell? ⟨b, oo + k * 4, none⟩ = _ := hc _ _ g0
      have c1' : wr.cell? ⟨b, oo + k * 4 + 1, none⟩ = _ := hc _ _ g1
      have c2' : wr.cell? ⟨b, oo + k * 4 + 1 + 1, none⟩ = _ := hc _ _ g2
      have c3 : wr.cell? ⟨b, oo + k * 4 + 1 + 1 + 1, none⟩ = _ := hc _ _ g3
      have hd := HEL.out k hlt
      obtain ⟨a, ha⟩ : ∃ a, a = es[k] := ⟨_, rfl⟩
      rw [← ha] at c0 c1' c2' c3 hd
      have hent : entE es.length k a = if aceE a ≠ 0 then aceE a else if a.k = 2 then 15 else 0 := by
       unfold entE
       have : decide (es.length ≤ k) = false := by simp; omega
       rw [this]
       by_cases h2 : a.k = 2
       · simp [h2, unl]
       · simp [h2, unl]
      have hf2 : (q1, q2) = if entE es.length k a = 0 then eachE (entE es.length) (k + 1) (T (k + 1)) else ((k : Int), entE es.length k a) := by rw [hf, hd, eachE]
      rw [hent] at hf2
      have HA := HE1.out a
      obtain ⟨q, hq⟩ : ∃ q, q = aceE a := ⟨_, rfl⟩
      rw [← hq] at HA hf2
      have HA2 := Lib.hid HA
      have HF := Lib.hid hf2
      have HB2 := Lib.hid hb
      have HBW := Lib.hid hbW
      obtain ⟨ak, af, am, aw⟩ := a
      dsimp only at *
      clear HA hf hf2 hd ha g0 g1 g2 g3 hc bd1 hb hbW hr1 hent hq
      by_cases hq0 : q = 0
      · subst hq0
        by_cases h2 : ak = 2
        · have H := Lib.hid (show (q1, q2) = ((k : Int), 15) by rw [HF.out]; simp [h2])
          subst h2
          go_wp2_with (go_at_call 94; refine (HA2.out _).mono ?_; rintro e W1 ⟨rfl, hbW1⟩; obtain ⟨hcW1, hfW1⟩ := bcell hbW1)
          go_ret2
          exact ⟨retII (congrArg Prod.fst H.out).symm (congrArg Prod.snd H.out).symm, bel_trans (bel_alloc HBW.out _) hbW1⟩
        · have h2' : (ak == 2) = false := by simpa using h2
          have H := Lib.hid (show (q1, q2) = eachE (entE es.length) (k + 1) (T (k + 1)) by rw [HF.out]; simp [h2])
          clear h2
          go_wp2_with (go_at_call 94; refine (HA2.out _).mono ?_; rintro e W1 ⟨rfl, hbW1⟩; obtain ⟨hcW1, hfW1⟩ := bcell hbW1)
          go_roundw
          case rel => exact ⟨k + 1, by omega, by go_num, bel_trans (bel_alloc HB2.out _) hbW1, H.out⟩
          case measure => simp [intOf]; omega
      · have hq0' : (q != 0) = true := by simpa using hq0
        have H := Lib.hid (show (q1, q2) = ((k : Int), q) by rw [HF.out]; simp [hq0])
        clear hq0
        go_wp2_with (go_at_call 94; refine (HA2.out _).mono ?_; rintro e W1 ⟨rfl, hbW1⟩; obtain ⟨hcW1, hfW1⟩ := bcell hbW1)
        go_ret2
        exact ⟨retII (congrArg Prod.fst H.out).symm (congrArg Prod.snd H.out).symm, bel_trans (bel_alloc HBW.out _) hbW1⟩
    · by_cases hlt2 : k < es.length + us.length
      · obtain ⟨m, rfl⟩ : ∃ m, k = es.length + m := ⟨k - es.length, by omega⟩
        have hm : m < us.length := by omega
        have hr1 := HR2.out.below' hbW
        obtain ⟨b, oo, rfl, hbb, hc⟩ := hr1.opened (by rw [acesV_length]; omega)
        obtain ⟨g0, g1, g2, g3⟩ := acesV_get us m hm
        have c0 : wr.cell? ⟨b, oo + m * 4, none⟩ = _ := hc _ _ g0
        have c1' : wr.cell? ⟨b, oo + m * 4 + 1, none⟩ = _ := hc _ _ g1
        have c2' : wr.cell? ⟨b, oo + m * 4 + 1 + 1, none⟩ = _ := hc _ _ g2
        have c3 : wr.cell? ⟨b, oo + m * 4 + 1 + 1 + 1, none⟩ = _ := hc _ _ g3
        have hd := HER.out m hm
        obtain ⟨a, ha⟩ : ∃ a, a = us[m] := ⟨_, rfl⟩
        rw [← ha] at c0 c1' c2' c3 hd
        have hent : entE es.length (es.length + m) a = if aceE a ≠ 0 then aceE a else if a.k = 2 then 0 else 15 := by
         unfold entE
         have : decide (es.length ≤ es.length + m) = true := by simp
         rw [this]
         by_cases h2 : a.k = 2
         · simp [h2, unl]
         · simp [h2, unl]
        have hf2 : (q1, q2) = if entE es.length (es.length + m) a = 0 then eachE (entE es.length) (es.length + m + 1) (T (es.length + m + 1)) else (((es.length + m : Nat) : Int), entE es.length (es.length + m) a) := by rw [hf, hd, eachE]
        rw [hent] at hf2
        have HA := HE1.out a
        obtain ⟨q, hq⟩ : ∃ q, q = aceE a := ⟨_, rfl⟩
        rw [← hq] at HA hf2
        have HA2 := Lib.hid HA
        have HF := Lib.hid hf2
        have HB2 := Lib.hid hb
        have HBW := Lib.hid hbW
        have hsub : (es.length : Int) + m - es.length = m := by omega
        obtain ⟨ak, af, am, aw⟩ := a
        dsimp only at *
        clear HA hf hf2 hd ha g0 g1 g2 g3 hc bd1 hb hbW hr1 hent hq
        by_cases hq0 : q = 0
        · subst hq0
          by_cases h2 : ak = 2
          · have H := Lib.hid (show (q1, q2) = eachE (entE es.length) (es.length + m + 1) (T (es.length + m + 1)) by rw [HF.out]; simp [h2])
            subst h2
            go_wp2_with (go_at_call 94; refine (HA2.out _).mono ?_; rintro e W1 ⟨rfl, hbW1⟩; obtain ⟨hcW1, hfW1⟩ := bcell hbW1)
            go_roundw
            case rel => exact ⟨es.length + m + 1, by omega, by go_num, bel_trans (bel_alloc HB2.out _) hbW1, H.out⟩
            case measure => simp [intOf]; omega
          · have h2' : (ak == 2) = false := by simpa using h2
            have H := Lib.hid (show (q1, q2) = (((es.length + m : Nat) : Int), 15) by rw [HF.out]; simp [h2])
            clear h2
            go_wp2_with (go_at_call 94; refine (HA2.out _).mono ?_; rintro e W1 ⟨rfl, hbW1⟩; obtain ⟨hcW1, hfW1⟩ := bcell hbW1)
            go_ret2
            exact ⟨retII (congrArg Prod.fst H.out).symm (congrArg Prod.snd H.out).symm, bel_trans (bel_alloc HBW.out _) hbW1⟩
        · have hq0' : (q != 0) = true := by simpa using hq0
          have H := Lib.hid (show (q1, q2) = (((es.length + m : Nat) : Int), q) by rw [HF.out]; simp [hq0])
          clear hq0
          go_wp2_with (go_at_call 94; refine (HA2.out _).mono ?_; rintro e W1 ⟨rfl, hbW1⟩; obtain ⟨hcW1, hfW1⟩ := bcell hbW1)
          go_ret2
          exact ⟨retII (congrArg Prod.fst H.out).symm (congrArg Prod.snd H.out).symm, bel_trans (bel_alloc HBW.out _) hbW1⟩
      · obtain rfl : k = es.length + us.length := by omega
        have H := Lib.hid (show (q1, q2) = ((0 : Int), 0) by rw [hf, HEN.out]; rfl)
        clear hf
        go_wp2
        go_ret2
        exact ⟨retII (congrArg Prod.fst H.out).symm (congrArg Prod.snd H.out).symm, hbW⟩
end Go.Proofs.YtanicpgmbhfipaaGreatDoor
namespace Go.Proofs.YtanicpgmbhfipaaGreatDoor
set_option linter.unusedVariables false
set_option linter.unusedSimpArgs false
open Go.RowKit Go.Sort
theorem results_cell1 {P : Program} {fn : Func} {p : Tmp} {ty : TypeId} (h : fn.results = #[.cell p ty]) (tmps : Array Value) (w : World) (g : Nat) (t : TypeId) (cs : Array Value) (d : TypeDesc)
 (hp : tmps.getD p undef = .pointer (some ⟨g, 0, none⟩)) (hg : Box w g cs t)
 (hu : P.underlying ty = some d) (hd : (match d with | .struct _ | .array _ _ => true | _ => false) = true) (hi : (P.info? ty).map (·.size) = some cs.size) :
 (results fn tmps).run P w = .ok (.agg cs) w := by
 have hp' : tmps[p]?.getD undef = .pointer (some ⟨g, 0, none⟩) := by simpa using hp
 simp [results, h, hp', asAddr, run_loadVar_row w g t ty cs (0, 0) d hg hu hd hi]
theorem ownsRow_grw {X Y : World} {g base : Nat} {e : TypeId} {size n : Nat} {v : Value} {xs : List Value} (h : X.ownsRow base e size v n xs) (hX : Grw (fun b _ => b = g) X Y) (hg : g < base) : Y.ownsRow base e size v n xs := by
 refine ⟨h.1, ?_⟩
 rcases h.2 with h' | ⟨b, cap, cur, h1, h2, h3, h4⟩
 · exact .inl h'
 · exact .inr ⟨b, cap, cur, h1, h2, (hX.block b (Array.getElem?_eq_some_iff.1 h3).1 (by omega)).trans h3, h4⟩
def RowA (B : Nat) (l : List AceP) (v : Value) (X : World) : Prop := ∃ A c, v = .slice A l.length c ∧ X.ownsRow B 111 4 (.slice A l.length c) l.length (acesV l)
theorem RowA.stable {B : Nat} {l : List AceP} (v : Value) (X X' : World) (h : RowA B l v X) (hb : Below X.heap.size X X') : RowA B l v X' := by
 obtain ⟨A, c, h1, h2⟩ := h
 exact ⟨A, c, h1, ownsRow_below h2 hb⟩
end Go.Proofs.YtanicpgmbhfipaaGreatDoor
namespace Go.Proofs.YtanicpgmbhfipaaGreatDoor
set_option linter.unusedVariables false
set_option linter.unusedSimpArgs false
open Go.RowKit Go.Sort
def fewD (d : DscP) : Bool := decide (d.es.length ≤ 20) && decide (d.us.length ≤ 20)
def fewB (d : DscP) (t : TokP) : Bool := fewD d && decide (t.gs.length ≤ 18)
theorem Few_any (d : DscP) (A1 A2 : Option Addr) (c1 c2 : Nat) (w : World) :
 Calls Tryz.prog 23 #[dscV d A1 A2 c1 c2] w fun e w' => e = .returned (.bool (fewD d)) ∧ Below w.heap.size w w' := by
 obtain ⟨r, hr⟩ : ∃ r, r = fewD d := ⟨_, rfl⟩
 rw [← hr]
 unfold fewD at hr
 unfold dscV
 obtain ⟨o, g, pr, he, es, us⟩ := d
 dsimp only at *
 by_cases h1 : es.length ≤ 20
 · by_cases h2 : us.length ≤ 20
   · have H := Lib.hid (show r = true by rw [hr]; simp [h1, h2])
     clear hr
     go_enter Tryz.func23, Tryz.ntmps23
     go_wp2
     go_ret
     exact ⟨by rw [H.out]; first | rfl | (simp [h2]; omega), bel_alloc (Below.refl _ _) _⟩
   · have H := Lib.hid (show r = false by rw [hr]; simp [h2])
     clear hr
     go_enter Tryz.func23, Tryz.ntmps23
     go_wp2
     go_ret
     exact ⟨by rw [H.out]; first | rfl | (simp [h2]; omega), bel_alloc (Below.refl _ _) _⟩
 · have H := Lib.hid (show r = false by rw [hr]; simp [h1])
   clear hr
   go_enter Tryz.func23, Tryz.ntmps23
   go_wp2
   go_ret
   exact ⟨by rw [H.out]; first | rfl | (simp [h1]; omega), bel_alloc (Below.refl _ _) _⟩
theorem few_any (d : DscP) (t : TokP) (A1 A2 A : Option Addr) (c1 c2 c : Nat) (w : World) :
 Calls Tryz.prog 10 #[dscV d A1 A2 c1 c2, tokV t A c] w fun e w' => e = .returned (.bool (fewB d t)) ∧ Below w.heap.size w w' := by
 have hr : fewB d t = (fewD d && decide (t.gs.length ≤ 18)) := rfl
 obtain ⟨r, hrr⟩ : ∃ r, r = fewB d t := ⟨_, rfl⟩
 rw [← hrr] at hr ⊢
 have HF := Lib.hid (fun W => Few_any d A1 A2 c1 c2 W)
 obtain ⟨x, hx⟩ : ∃ x, x = fewD d := ⟨_, rfl⟩
 rw [← hx] at hr HF
 have bT := Box.new (w.alloc (.cells (dscC d A1 A2 c1 c2) 24)) (tokC t A c) 27
 rw [World.size_alloc] at bT
 have BT := Lib.hid (fun W hW => bT.below (w' := W) hW)
 unfold dscV tokV at *
 unfold dscC tokC at BT
 obtain ⟨u, gs, p⟩ := t
 dsimp only at *
 clear hx hrr bT
 cases x
 · have H := Lib.hid (show r = false by rw [hr]; rfl)
   clear hr
   go_enter Tryz.func10, Tryz.ntmps10
   go_wp2_with (go_at_call 23; refine (HF.out _).mono ?_; rintro e W1 ⟨rfl, hbW1⟩; obtain ⟨hcW1, hfW1⟩ := bcell hbW1)
   go_ret
   exact ⟨by rw [H.out]; rfl, bel_trans (bel_alloc (bel_alloc (Below.refl _ _) _) _) hbW1⟩
 · by_cases h : gs.length ≤ 18
   · have H := Lib.hid (show r = true by rw [hr]; simp [h])
     clear hr
     go_enter Tryz.func10, Tryz.ntmps10
     go_wp2_with ((go_at_call 23; refine (HF.out _).mono ?_; rintro e W1 ⟨rfl, hbW1⟩; obtain ⟨hcW1, hfW1⟩ := bcell hbW1); have bt := BT.out _ hbW1; have z1 : W1.cell? ⟨w.heap.size + 1, 1, none⟩ = some (.slice A gs.length c) := bt.cells 1; have l1 : w.heap.size + 1 < W1.heap.size := bt.lt)
     go_ret
     exact ⟨by rw [H.out]; first | rfl | (simp [h]; omega), bel_trans (bel_alloc (bel_alloc (Below.refl _ _) _) _) hbW1⟩
   · have H := Lib.hid (show r = false by rw [hr]; simp [h])
     clear hr
     go_enter Tryz.func10, Tryz.ntmps10
     go_wp2_with ((go_at_call 23; refine (HF.out _).mono ?_; rintro e W1 ⟨rfl, hbW1⟩; obtain ⟨hcW1, hfW1⟩ := bcell hbW1); have bt := BT.out _ hbW1; have z1 : W1.cell? ⟨w.heap.size + 1, 1, none⟩ = some (.slice A gs.length c) := bt.cells 1; have l1 : w.heap.size + 1 < W1.heap.size := bt.lt)
     go_ret
     exact ⟨by rw [H.out]; first | rfl | (simp [h]; omega), bel_trans (bel_alloc (bel_alloc (Below.refl _ _) _) _) hbW1⟩
theorem refDescErr_any (d : DscP) (A1 A2 : Option Addr) (c1 c2 : Nat) (w : World) (h1 : d.es.length ≤ 500) (h2 : d.us.length ≤ 500) (hr1 : Rd w w.heap.size A1 (acesV d.es)) (hr2 : Rd w w.heap.size A2 (acesV d.us)) :
 Calls Tryz.prog 30 #[dscV d A1 A2 c1 c2] w fun e w' => e = .returned (.int .i64 (dscE d)) ∧ Below w.heap.size w w' := by
 have hb0 : Below w.heap.size w (w.alloc (.cells (dscC d A1 A2 c1 c2) 24)) := bel_alloc (Below.refl _ _) _
 have HC := Lib.hid (refCheckDsc_any d A1 A2 c1 c2 (w.alloc (.cells (dscC d A1 A2 c1 c2) 24)) h1 h2 (hr1.below' hb0) (hr2.below' hb0))
 obtain ⟨q, hq⟩ : ∃ q, q = (dscP d).1 := ⟨_, rfl⟩
 rw [← hq] at HC
 unfold dscE
 obtain ⟨e, he⟩ : ∃ e, e = (dscP d).2 := ⟨_, rfl⟩
 rw [← he] at HC ⊢
 unfold dscV dscC at *
 have HB0 := Lib.hid hb0
 clear hb0 hr1 hr2 hq he
 go_enter Tryz.func30, Tryz.ntmps30
 go_wp2_with (go_at_call 69; refine (HC.out).mono ?_; rintro e W1 ⟨rfl, hbW1⟩; obtain ⟨hcW1, hfW1⟩ := bcell hbW1)
 go_ret
 exact ⟨rfl, bel_trans HB0.out hbW1⟩
theorem botE_eq (d : DscP) (t : TokP) : botE d t = if dscE d ≠ 0 then dscE d else tokE t := by
 unfold botE
 simp only [firstE]
 by_cases h1 : dscE d = 0
 · by_cases h2 : tokE t = 0 <;> simp [h1, h2]
 · simp [h1]
theorem bothErr_any (d : DscP) (t : TokP) (A1 A2 A : Option Addr) (c1 c2 c : Nat) (w : World) (h : DT d t A1 A2 A w) :
 Calls Tryz.prog 16 #[dscV d A1 A2 c1 c2, tokV t A c] w fun e w' => e = .returned (.int .i64 (botE d t)) ∧ Below w.heap.size w w' := by
 have hr := botE_eq d t
 have HD := Lib.hid (fun W (hW : Below w.heap.size w W) => refDescErr_any d A1 A2 c1 c2 W h.l1 h.l2 (h.below hW).r1 (h.below hW).r2)
 have HT := Lib.hid (fun W (hW : Below w.heap.size w W) => TokenErr_any t A c W (by have := h.l3; omega) (h.below hW).r3)
 obtain ⟨r, hrr⟩ : ∃ r, r = botE d t := ⟨_, rfl⟩
 obtain ⟨e1, he1⟩ : ∃ r, r = dscE d := ⟨_, rfl⟩
 obtain ⟨e2, he2⟩ : ∃ r, r = tokE t := ⟨_, rfl⟩
 rw [← hrr, ← he1, ← he2] at hr
 rw [← hrr]
 rw [← he1] at HD
 rw [← he2] at HT
 have bT := Box.new (w.alloc (.cells (dscC d A1 A2 c1 c2) 24)) (tokC t A c) 27
 rw [World.size_alloc] at bT
 have BT := Lib.hid (fun W hW => bT.below (w' := W) hW)
 unfold dscV tokV at *
 unfold dscC tokC at BT
 obtain ⟨u, gs, p⟩ := t
 dsimp only at *
 clear hrr he1 he2 bT h
 by_cases h0 : e1 = 0
 · subst h0
   have H := Lib.hid (show r = e2 by rw [hr]; rfl)
   clear hr
   go_enter Tryz.func16, Tryz.ntmps16
   go_wp2_with (first | ((go_at_call 30; refine (HD.out _ (bel_alloc (bel_alloc (Below.refl _ _) _) _)).mono ?_; rintro e W1 ⟨rfl, hbW1⟩; obtain ⟨hcW1, hfW1⟩ := bcell hbW1); have bt := BT.out _ hbW1; have z0 : W1.cell? ⟨w.heap.size + 1, 0, none⟩ = some (.int .i64 u) := bt.cells 0; have z1 : W1.cell? ⟨w.heap.size + 1, 1, none⟩ = some (.slice A gs.length c) := bt.cells 1; have z2 : W1.cell? ⟨w.heap.size + 1, 2, none⟩ = some (.int .i64 p) := bt.cells 2; have l1 : w.heap.size + 1 < W1.heap.size := bt.lt) | (go_at_call 40; refine (HT.out _ (bel_trans (bel_alloc (bel_alloc (Below.refl _ _) _) _) hbW1)).mono ?_; rintro e W2 ⟨rfl, hbW2⟩; obtain ⟨hcW2, hfW2⟩ := bcell hbW2))
   go_ret
   exact ⟨by rw [H.out]; rfl, bel_trans (bel_trans (bel_alloc (bel_alloc (Below.refl _ _) _) _) hbW1) hbW2⟩
 · have h0' : (e1 != 0) = true := by simpa using h0
   have H := Lib.hid (show r = e1 by rw [hr, if_pos h0])
   clear hr h0
   go_enter Tryz.func16, Tryz.ntmps16
   go_wp2_with (go_at_call 30; refine (HD.out _ (bel_alloc (bel_alloc (Below.refl _ _) _) _)).mono ?_; rintro e W1 ⟨rfl, hbW1⟩; obtain ⟨hcW1, hfW1⟩ := bcell hbW1)
   go_ret
   exact ⟨by rw [H.out]; rfl, bel_trans (bel_alloc (bel_alloc (Below.refl _ _) _) _) hbW1⟩
end Go.Proofs.YtanicpgmbhfipaaGreatDoor
namespace Go.Proofs.YtanicpgmbhfipaaGreatDoor
set_option linter.unusedVariables false
set_option linter.unusedSimpArgs false
open Go.RowKit
section
variable {P : Program} {ops : Array Oper} {rest : List Oper} {o : Oper} {a : Act} {Q : Exit → Act → World → Prop}
theorem run_push2 (w : World) (base : Nat) (t ty e : TypeId) (i : TypeInfo) (z : Value) (size bytes : Nat) (ht : P.underlying t = some (.slice e)) (hi : P.info? e = some i) (hz : i.zero = some z)
 (hsize : i.size = size) (hby : i.bytes = bytes) (hzs : z.cells.size = size) (hsz : 0 < size)
 (v : Value) (n : Nat) (xs : List Value) (hown : w.ownsRow base e size v n xs)
 (ad : Addr) (m c : Nat) (news : List Value) (hl : news.length = m * size) (hc : ∀ j u, news[j]? = some u → w.cell? (ad.add j) = some u) (h1 : ∀ u ∈ news, u.oneCell' = true)
 (h63 : n + m ≤ maxLen) (hbytes : (n + m) * bytes ≤ 140737488355328) (hbase : base ≤ w.heap.size) :
 ∃ v' w', (Builtin.append_ #[t, t] ty #[v, .slice (some ad) m c]).run P w = .ok v' w' ∧ w'.ownsRow base e size v' (n + m) (xs ++ news) ∧ w.grownBy w' v.ownBlock ∧
  (v'.ownBlock = v.ownBlock ∨ ∀ b, v'.ownBlock = some b → w.heap.size ≤ b) ∧ (∀ b k, b < w.heap.size → (v.ownBlock = some b → k < n * size) → w'.cell? ⟨b, k, none⟩ = w.cell? ⟨b, k, none⟩) := by
 rcases hown.2 with ⟨rfl, h0⟩ | ⟨g, cap, cur, rfl, hb, hg, hnc, hrest⟩
 · obtain ⟨v', w', hr, h2, h3, _, h5⟩ := run_append_own_at (P := P) w base t ty e i z size bytes ht hi hz hsize hby hzs hsz _ n xs hown ad m c news hl hc h1 h63 hbytes hbase
   exact ⟨v', w', hr, h2, h3, h5.imp id (fun h b e => by rw [h] at e; injection e with e; omega), fun b k hb _ => World.cell?_of_block (w := w) (a := ⟨b, k, none⟩) (h3.block b hb (fun e => by cases e))⟩
 · have hgl : g < w.heap.size := (Array.getElem?_eq_some_iff.1 hg).1
   by_cases hfit : n + m ≤ cap
   · obtain ⟨w', hr, h2, h3⟩ := run_append_fits (P := P) w base t ty e i size ht hi hsize g n cap xs hown ad m c news hl hc h1 hfit
     refine ⟨_, w', hr, h2, h3, .inl rfl, fun b k hb hk => ?_⟩
     by_cases hbg : b = g
     · subst hbg
       have hk' := hk rfl
       have hlx := hown.1
       have e1 := hown.cellAt k (by omega)
       have e2 := h2.cellAt k (by rw [Nat.add_mul]; omega)
       rw [e1, e2, List.getElem?_append_left (by omega)]
     · exact World.cell?_of_block (w := w) (a := ⟨b, k, none⟩) (h3.block b hb (fun e => hbg (by injection e)))
   · have hlx := hown.1
     obtain ⟨v', w', hr, h2, h3⟩ := run_append_arg_grows (P := P) (w := w) t ty e i z size bytes ht hi hz hsize hby hzs hsz ⟨g, 0, none⟩ n cap xs hlx
      (fun j u hj => by
       have : (⟨g, 0, none⟩ : Addr).add j = ⟨g, j, none⟩ := by unfold Addr.add; split <;> simp_all
       rw [this, hown.cellAt j (by have := (List.getElem?_eq_some_iff.1 hj).1; omega)]
       exact hj) ad m c news hl hc (by omega) h63 hbytes
     refine ⟨v', w', hr, ownsRow_mono h2 hbase, ⟨h3.os, h3.tape, h3.output, h3.size, fun k hk _ => h3.block k hk (fun e => by cases e)⟩, ?_, fun b k hb _ => World.cell?_of_block (w := w) (a := ⟨b, k, none⟩) (h3.block b hb (fun e => by cases e))⟩
     exact .inr fun b e => (h2.lt b e).1
theorem wpList_push2 (w : World) (hgd : o.guard = none) (s x : Operand) (t : TypeId)
 (ho : o.op = .call { callee := .builtin .append, args := #[s, x], argTypes := #[t, t] })
 (base : Nat) (e : TypeId) (i : TypeInfo) (z : Value) (size bytes : Nat) (us : List Value) (ht : P.underlying t = some (.slice e)) (hi : P.info? e = some i) (hz : i.zero = some z)
 (hsize : i.size = size) (hby : i.bytes = bytes) (hzs : z.cells.size = size) (hsz : 0 < size)
 (v : Value) (n : Nat) (xs : List Value) (hs : a.eval s = v) (hown : w.ownsRow base e size v n xs)
 (g : Nat) (hx : a.eval x = .slice (some ⟨g, 0, none⟩) 1 1) (hgs : g = w.heap.size) (hl : us.length = size) (h1 : ∀ u ∈ us, u.oneCell' = true)
 (h63 : n + 1 ≤ maxLen) (hbytes : (n + 1) * bytes ≤ 140737488355328) (hbase : base ≤ w.heap.size)
 (h : ∀ v' w', w'.ownsRow base e size v' (n + 1) (xs ++ us) → (w.alloc (.cells us.toArray e)).grownBy w' v.ownBlock → (v'.ownBlock = v.ownBlock ∨ ∀ b, v'.ownBlock = some b → w.heap.size < b) →
  (∀ b k, b < w.heap.size → (v.ownBlock = some b → k < n * size) → w'.cell? ⟨b, k, none⟩ = w.cell? ⟨b, k, none⟩) → Below base w w' → wpList P ops Q rest (a.put o.dst v') w') : wpList P ops Q (o :: rest) a (w.alloc (.cells us.toArray e)) := by
 subst hgs
 refine wpList_plain hgd fun K hK => ?_
 have hcells : ∀ j u, us[j]? = some u → (w.alloc (.cells us.toArray e)).cell? ((⟨w.heap.size, 0, none⟩ : Addr).add j) = some u := fun j u hj => by
  have : (⟨w.heap.size, 0, none⟩ : Addr).add j = ⟨w.heap.size, j, none⟩ := by unfold Addr.add; split <;> simp_all
  rw [this, World.cell?_alloc_new]
  simpa using hj
 obtain ⟨v', w', hr, h2, h3, h5, h6⟩ := run_push2 (P := P) (w.alloc (.cells us.toArray e)) base t o.type e i z size bytes ht hi hz hsize hby hzs hsz v n xs (hown.alloc _) ⟨w.heap.size, 0, none⟩ 1 1 us (by omega) hcells h1 h63 hbytes (by simp; omega)
 unfold Oper.wp execOp
 simp only [ho, resolve, invoke, builtin, Sem.run_bind, Sem.run_pure, Result.andThen_ok, List.map_toArray, List.map_cons, List.map_nil, hs, hx, hr]
 refine hK _ _ (h v' w' h2 h3 (h5.imp id (fun h b e => by have := h b e; simp at this; omega)) (fun b k hb hk => ?_) ?_)
 · rw [h6 b k (by simp; omega) hk]
   exact World.cell?_of_block (w := w) (a := ⟨b, k, none⟩) (Below.heap_alloc w _ b hb)
 · exact ((Below.refl _ _).alloc hbase _).grown h3 (by simp; omega) (fun g hg => (hown.lt g hg).1)
theorem wpList_push_full (w : World) (hgd : o.guard = none) (s x : Operand) (t : TypeId)
 (ho : o.op = .call { callee := .builtin .append, args := #[s, x], argTypes := #[t, t] })
 (e : TypeId) (i : TypeInfo) (z : Value) (size bytes : Nat) (us : List Value) (ht : P.underlying t = some (.slice e)) (hi : P.info? e = some i) (hz : i.zero = some z)
 (hsize : i.size = size) (hby : i.bytes = bytes) (hzs : z.cells.size = size) (hsz : 0 < size)
 (A : Option Addr) (n : Nat) (xs : List Value) (hs : a.eval s = .slice A n n) (hxl : xs.length = n * size) (B : Nat) (hr : Rd w B A xs)
 (g : Nat) (hx : a.eval x = .slice (some ⟨g, 0, none⟩) 1 1) (hgs : g = w.heap.size) (hl : us.length = size) (h1 : ∀ u ∈ us, u.oneCell' = true)
 (h63 : n + 1 ≤ maxLen) (hbytes : (n + 1) * bytes ≤ 140737488355328)
 (h : ∀ v' w', w'.ownsRow w.heap.size e size v' (n + 1) (xs ++ us) → Below w.heap.size w w' → wpList P ops Q rest (a.put o.dst v') w') : wpList P ops Q (o :: rest) a (w.alloc (.cells us.toArray e)) := by
 subst hgs
 refine wpList_plain hgd fun K hK => ?_
 have hcells : ∀ j u, us[j]? = some u → (w.alloc (.cells us.toArray e)).cell? ((⟨w.heap.size, 0, none⟩ : Addr).add j) = some u := fun j u hj => by
  have : (⟨w.heap.size, 0, none⟩ : Addr).add j = ⟨w.heap.size, j, none⟩ := by unfold Addr.add; split <;> simp_all
  rw [this, World.cell?_alloc_new]
  simpa using hj
 have hold : ∀ b k u, w.cell? ⟨b, k, none⟩ = some u → (w.alloc (.cells us.toArray e)).cell? ⟨b, k, none⟩ = some u := fun b k u hu =>
  (World.cell?_of_block (w := w) (a := ⟨b, k, none⟩) (Below.heap_alloc w _ b (block_lt_of_cell hu))).trans hu
 have main : ∃ v' w', (Builtin.append_ #[t, t] o.type #[.slice A n n, .slice (some ⟨w.heap.size, 0, none⟩) 1 1]).run P (w.alloc (.cells us.toArray e)) = .ok v' w' ∧ w'.ownsRow w.heap.size e size v' (n + 1) (xs ++ us) ∧ (w.alloc (.cells us.toArray e)).grownBy w' none := by
  rcases A with _ | ad
  · have hxn : xs = [] := by
     cases xs with
     | nil => rfl
     | cons u l => obtain ⟨b, k, e, _⟩ := hr 0 u rfl; cases e
    subst hxn
    have hn0 : n = 0 := by
     rcases Nat.eq_zero_or_pos n with h | h
     · exact h
     · have := Nat.mul_pos h hsz; simp at hxl; omega
    subst hn0
    obtain ⟨v', w', hr', h2, h3, _, _⟩ := run_append_own_at (P := P) (w.alloc (.cells us.toArray e)) w.heap.size t o.type e i z size bytes ht hi hz hsize hby hzs hsz (.slice none 0 0) 0 [] (World.ownsRow_nil _ _ _ _) ⟨w.heap.size, 0, none⟩ 1 1 us (by omega) hcells h1 h63 hbytes (by simp)
    exact ⟨v', w', hr', h2, h3⟩
  · obtain ⟨v', w', hr', h2, h3⟩ := run_append_arg_grows (P := P) (w := w.alloc (.cells us.toArray e)) t o.type e i z size bytes ht hi hz hsize hby hzs hsz ad n n xs hxl (fun j u hj => by
     obtain ⟨b, k, e1, _, hc⟩ := hr j u hj
     injection e1 with e1
     subst e1
     have : (⟨b, k, none⟩ : Addr).add j = ⟨b, k + j, none⟩ := by unfold Addr.add; split <;> simp_all
     rw [this]
     exact hold _ _ _ hc) ⟨w.heap.size, 0, none⟩ 1 1 us (by omega) hcells (by omega) h63 hbytes
    exact ⟨v', w', hr', ownsRow_mono h2 (by simp), h3⟩
 obtain ⟨v', w', hr', h2, h3⟩ := main
 unfold Oper.wp execOp
 simp only [ho, resolve, invoke, builtin, Sem.run_bind, Sem.run_pure, Result.andThen_ok, List.map_toArray, List.map_cons, List.map_nil, hs, hx, hr']
 refine hK _ _ (h v' w' h2 ?_)
 exact ((Below.refl _ _).alloc (Nat.le_refl _) _).grown h3 (by simp) (fun g hg => by cases hg)
end
end Go.Proofs.YtanicpgmbhfipaaGreatDoor
namespace Go.Proofs.YtanicpgmbhfipaaGreatDoor
set_option linter.unusedVariables false
set_option linter.unusedSimpArgs false
open Go.RowKit Go.Sort
def cmpL : List Int → List Int → Int
 | [], [] => 0
 | [], _ :: _ => -1
 | _ :: _, [] => 1
 | x :: l, y :: m => if Lib.compareInt x y ≠ 0 then Lib.compareInt x y else cmpL l m
def setC (a b : List Int) : Int := if (a.length : Int) - b.length ≠ 0 then (a.length : Int) - b.length else cmpL a b
set_option maxRecDepth 100000 in
set_option maxHeartbeats 1000000 in
theorem Compare_any (A1 A2 : Option Addr) (c1 c2 : Nat) (l m : List Int) (w : World) (h1 : l.length ≤ 1000) (h2 : m.length ≤ 1000) (hr1 : Rd w w.heap.size A1 (l.map (.int .i64))) (hr2 : Rd w w.heap.size A2 (m.map (.int .i64))) :
 Calls Tryz.prog 122 #[.slice A1 l.length c1, .slice A2 m.length c2] w fun e w' => e = .returned (.int .i64 (cmpL l m)) ∧ w = w' := by
 obtain ⟨R, hR⟩ : ∃ R, R = cmpL l m := ⟨_, rfl⟩
 rw [← hR]
 have HR := Lib.hid (show R = cmpL (l.drop 0) (m.drop 0) from hR)
 have HC := Lib.hid (fun x y W => (Tryz.cmp_Compare_int x y W).mono (R' := fun e w' => e = .returned (.int .i64 (Lib.compareInt x y)) ∧ W = w') (fun e w' ⟨p, q⟩ => ⟨p, q.symm⟩))
 clear hR
 go_enter Tryz.func122, Tryz.ntmps122
 go_wp2
 go_loop [11] (fun ix => ∃ k : Nat, k ≤ l.length ∧ k ≤ m.length ∧ ix = .int .i64 k ∧ R = cmpL (l.drop k) (m.drop k)) (fun ix => l.length - (intOf ix).toNat)
 case atStart => exact ⟨0, Nat.zero_le _, Nat.zero_le _, rfl, HR.out⟩
 case round =>
  obtain ⟨k, hk1, hk2, rfl, hf⟩ := hrel
  by_cases hlt1 : k < l.length
  · obtain ⟨b1, o1, rfl, hB1, hc1⟩ := hr1.opened (by simp; omega)
    have e1 := hc1 k (.int .i64 l[k]) (by simp [hlt1])
    have d1 : l.drop k = l[k] :: l.drop (k + 1) := List.drop_eq_getElem_cons hlt1
    obtain ⟨x, hx⟩ : ∃ x, x = l[k] := ⟨_, rfl⟩
    rw [← hx] at e1 d1
    by_cases hlt2 : k < m.length
    · obtain ⟨b2, o2, rfl, hB2, hc2⟩ := hr2.opened (by simp; omega)
      have e2 := hc2 k (.int .i64 m[k]) (by simp [hlt2])
      have d2 : m.drop k = m[k] :: m.drop (k + 1) := List.drop_eq_getElem_cons hlt2
      obtain ⟨y, hy⟩ : ∃ y, y = m[k] := ⟨_, rfl⟩
      rw [← hy] at e2 d2
      rw [d1, d2, cmpL] at hf
      have HC2 := Lib.hid (fun W => HC.out x y W)
      obtain ⟨q, hq⟩ : ∃ q, q = Lib.compareInt x y := ⟨_, rfl⟩
      rw [← hq] at HC2 hf
      by_cases hq0 : q = 0
      · subst hq0
        rw [if_neg (by decide)] at hf
        have HF := Lib.hid hf
        clear hf hq hx hy d1 d2 hc1 hc2
        go_wp2_with (go_at_call 142; refine (HC2.out _).mono ?_; rintro e w' ⟨rfl, rfl⟩)
        go_round
        case rel => exact ⟨k + 1, by omega, by omega, by go_num, HF.out⟩
        case measure => simp [intOf]; omega
      · rw [if_pos hq0] at hf
        have hq0' : (q != 0) = true := by simpa using hq0
        subst hf
        clear hq hx hy d1 d2 hc1 hc2 hq0 HR
        go_wp2_with (go_at_call 142; refine (HC2.out _).mono ?_; rintro e w' ⟨rfl, rfl⟩)
        go_ret
        exact ⟨rfl, rfl⟩
    · have hf2 : R = 1 := by rw [hf, d1, List.drop_of_length_le (Nat.le_of_not_lt hlt2)]; rfl
      subst hf2
      clear hf hx d1 hc1 HR
      go_wp2
      go_ret
      exact ⟨rfl, rfl⟩
  · have hkl : k = l.length := by omega
    by_cases hlt2 : k < m.length
    · have hf2 : R = -1 := by rw [hf, List.drop_of_length_le (Nat.le_of_not_lt hlt1), List.drop_eq_getElem_cons hlt2]; rfl
      subst hf2
      have hlm : l.length < m.length := by omega
      clear hf HR
      go_wp2
      go_ret
      exact ⟨rfl, rfl⟩
    · have hf2 : R = 0 := by rw [hf, List.drop_of_length_le (Nat.le_of_not_lt hlt1), List.drop_of_length_le (Nat.le_of_not_lt hlt2)]; rfl
      subst hf2
      have hlm : ¬ l.length < m.length := by omega
      clear hf HR
      go_wp2
      go_ret
      exact ⟨rfl, rfl⟩
set_option maxHeartbeats 1000000 in
theorem Or2_any (x y : Int) (w : World) : Calls Tryz.prog 121 #[.slice (some ⟨w.heap.size, 0, none⟩) 2 2] (w.alloc (.cells #[.int .i64 x, .int .i64 y] 3)) fun e w' => e = .returned (.int .i64 (if x ≠ 0 then x else y)) ∧ w.alloc (.cells #[.int .i64 x, .int .i64 y] 3) = w' := by
 have c0 : (w.alloc (.cells #[.int .i64 x, .int .i64 y] 3)).cell? ⟨w.heap.size, 0, none⟩ = some (.int .i64 x) := by simp
 have c1 : (w.alloc (.cells #[.int .i64 x, .int .i64 y] 3)).cell? ⟨w.heap.size, 1, none⟩ = some (.int .i64 y) := by simp
 have c1' : (w.alloc (.cells #[.int .i64 x, .int .i64 y] 3)).cell? ⟨w.heap.size, 0 + 1, none⟩ = some (.int .i64 y) := c1
 obtain ⟨W, hW⟩ : ∃ W, W = w.alloc (.cells #[.int .i64 x, .int .i64 y] 3) := ⟨_, rfl⟩
 rw [← hW] at c0 c1 c1' ⊢
 obtain ⟨b, hb⟩ : ∃ b, b = w.heap.size := ⟨_, rfl⟩
 rw [← hb] at c0 c1 c1' ⊢
 clear hW hb
 obtain ⟨R, hR⟩ : ∃ R, R = if x ≠ 0 then x else y := ⟨_, rfl⟩
 rw [← hR]
 by_cases hx : x = 0
 · subst hx
   rw [if_neg (by decide)] at hR
   subst hR
   by_cases hy : R = 0
   · subst hy
     go_enter Tryz.func121, Tryz.ntmps121
     go_wp2
     go_loop [8] (fun ix => ix = .int .i64 0 ∨ ix = .int .i64 1 ∨ ix = .int .i64 2) (fun ix => 2 - (intOf ix).toNat)
     case atStart => exact .inl rfl
     case round =>
      rcases hrel with rfl | rfl | rfl
      · go_wp2
        go_round
        case rel => exact .inr (.inl rfl)
        case measure => simp [intOf]
      · go_wp2
        go_round
        case rel => exact .inr (.inr rfl)
        case measure => simp [intOf]
      · go_wp2
        go_ret
        exact ⟨rfl, rfl⟩
   · have hy' : (R != 0) = true := by simpa using hy
     clear hy
     go_enter Tryz.func121, Tryz.ntmps121
     go_wp2
     go_loop [8] (fun ix => ix = .int .i64 0 ∨ ix = .int .i64 1) (fun ix => 2 - (intOf ix).toNat)
     case atStart => exact .inl rfl
     case round =>
      rcases hrel with rfl | rfl
      · go_wp2
        go_round
        case rel => exact .inr rfl
        case measure => simp [intOf]
      · go_wp2
        go_ret
        exact ⟨rfl, rfl⟩
 · rw [if_pos hx] at hR
   subst hR
   have hx' : (R != 0) = true := by simpa using hx
   clear hx
   go_enter Tryz.func121, Tryz.ntmps121
   go_wp2
   go_loop [8] (fun ix => ix = .int .i64 0) (fun ix => 2 - (intOf ix).toNat)
   case atStart => exact rfl
   case round =>
    obtain rfl := hrel
    go_wp2
    go_ret
    exact ⟨rfl, rfl⟩
theorem sets1_any (A1 A2 : Option Addr) (c1 c2 : Nat) (l m : List Int) (w : World) (h1 : l.length ≤ 1000) (h2 : m.length ≤ 1000) (hr1 : Rd w w.heap.size A1 (l.map (.int .i64))) (hr2 : Rd w w.heap.size A2 (m.map (.int .i64))) :
 Calls Tryz.prog 120 #[.slice A1 l.length c1, .slice A2 m.length c2] w fun e w' => e = .returned (.int .i64 (setC l m)) ∧ w' = w.alloc (.cells #[.int .i64 ((l.length : Int) - m.length), .int .i64 (cmpL l m)] 3) := by
 have HC := Lib.hid (Compare_any A1 A2 c1 c2 l m w h1 h2 hr1 hr2)
 have HO := Lib.hid (Or2_any ((l.length : Int) - m.length) (cmpL l m) w)
 obtain ⟨q, hq⟩ : ∃ q, q = cmpL l m := ⟨_, rfl⟩
 obtain ⟨R, hR⟩ : ∃ R, R = setC l m := ⟨_, rfl⟩
 have hRR : R = if (l.length : Int) - m.length ≠ 0 then (l.length : Int) - m.length else q := by rw [hR, hq]; rfl
 rw [← hR]
 rw [← hq] at HC HO ⊢
 rw [← hRR] at HO
 clear hq hR hRR hr1 hr2
 go_enter Tryz.func120, Tryz.ntmps120
 go_wp2_with (first | (go_at_call 122; refine (HC.out).mono ?_; rintro e w' ⟨rfl, rfl⟩) | (go_at_call 121; refine (HO.out).mono ?_; rintro e w' ⟨rfl, rfl⟩))
 go_ret
 exact ⟨rfl, rfl⟩
end Go.Proofs.YtanicpgmbhfipaaGreatDoor
namespace Go.Proofs.YtanicpgmbhfipaaGreatDoor
set_option linter.unusedVariables false
set_option linter.unusedSimpArgs false
open Go.RowKit Go.Sort
def pwL (l : List Int) : List (List Int) := l.foldl (fun out n => out ++ out.map (· ++ [n])) [[]]
def subL : List Int → Nat → List (List Int)
 | _, 0 => [[]]
 | [], _ + 1 => []
 | a :: l, k + 1 => (subL l k).map (a :: ·) ++ subL l (k + 1)
def setsP (l : List Int) : List (List Int) := (List.range (l.length + 1)).flatMap (subL l)
def ascL (l : List Int) : Prop := l.Pairwise (· < ·)
theorem pwL_snoc (l : List Int) (n : Int) : pwL (l ++ [n]) = pwL l ++ (pwL l).map (· ++ [n]) := by
 unfold pwL; rw [List.foldl_append]; rfl
theorem pwL_map (f : Int → Int) (l : List Int) : pwL (l.map f) = (pwL l).map (List.map f) := by
 have gen : ∀ (l : List Int) (o : List (List Int)), (l.map f).foldl (fun out n => out ++ out.map (· ++ [n])) (o.map (List.map f)) = (l.foldl (fun out n => out ++ out.map (· ++ [n])) o).map (List.map f) := by
  intro l
  induction l with
  | nil => intro o; rfl
  | cons a l ih =>
   intro o
   simp only [List.map_cons, List.foldl_cons]
   rw [← ih]
   congr 1
   simp [List.map_map, Function.comp_def]
 have := gen l [[]]
 simpa [pwL] using this
theorem subL_map (f : Int → Int) : ∀ (l : List Int) (k : Nat), subL (l.map f) k = (subL l k).map (List.map f)
 | l, 0 => by cases l <;> rfl
 | [], k + 1 => rfl
 | a :: l, k + 1 => by
  simp only [List.map_cons, subL, List.map_append, List.map_map]
  rw [subL_map f l k, subL_map f l (k + 1), List.map_map]
  rfl
theorem setsP_map (f : Int → Int) (l : List Int) : setsP (l.map f) = (setsP l).map (List.map f) := by
 unfold setsP
 rw [List.length_map, List.map_flatMap]
 congr 1
 funext k
 exact subL_map f l k
theorem cmpI_mono {f : Int → Int} {x y : Int} (h : x < y → f x < f y) (h' : y < x → f y < f x) : Lib.compareInt (f x) (f y) = Lib.compareInt x y := by
 unfold Lib.compareInt
 by_cases h1 : x < y
 · rw [if_pos h1, if_pos (h h1)]
 · by_cases h2 : y < x
   · have := h' h2
     rw [if_neg h1, if_neg (by omega), if_pos h2, if_pos this]
   · have : x = y := by omega
     subst this
     rw [if_neg (by omega), if_neg (by omega), if_neg (by omega), if_neg (by omega)]
theorem cmpL_map {S : List Int} {f : Int → Int} (hf : ∀ x ∈ S, ∀ y ∈ S, x < y → f x < f y) : ∀ (a b : List Int), (∀ x ∈ a, x ∈ S) → (∀ x ∈ b, x ∈ S) → cmpL (a.map f) (b.map f) = cmpL a b
 | [], [], _, _ => rfl
 | [], _ :: _, _, _ => rfl
 | _ :: _, [], _, _ => rfl
 | x :: a, y :: b, ha, hb => by
  simp only [List.map_cons, cmpL]
  rw [cmpI_mono (hf x (ha x (by simp)) y (hb y (by simp))) (hf y (hb y (by simp)) x (ha x (by simp))), cmpL_map hf a b (fun z hz => ha z (by simp [hz])) (fun z hz => hb z (by simp [hz]))]
theorem setC_map {S : List Int} {f : Int → Int} (hf : ∀ x ∈ S, ∀ y ∈ S, x < y → f x < f y) (a b : List Int) (ha : ∀ x ∈ a, x ∈ S) (hb : ∀ x ∈ b, x ∈ S) : setC (a.map f) (b.map f) = setC a b := by
 unfold setC
 rw [List.length_map, List.length_map, cmpL_map hf a b ha hb]
theorem subL_mem : ∀ (l : List Int) (k : Nat) (s : List Int), s ∈ subL l k → ∀ x ∈ s, x ∈ l
 | l, 0, s, hs, x, hx => by
  have : s = [] := by cases l <;> simpa [subL] using hs
  subst this; simp at hx
 | [], k + 1, s, hs, x, hx => by simp [subL] at hs
 | a :: l, k + 1, s, hs, x, hx => by
  simp only [subL, List.mem_append, List.mem_map] at hs
  rcases hs with ⟨t, ht, rfl⟩ | hs
  · rcases List.mem_cons.1 hx with rfl | hx
    · simp
    · exact List.mem_cons_of_mem _ (subL_mem l k t ht x hx)
  · exact List.mem_cons_of_mem _ (subL_mem l (k + 1) s hs x hx)
theorem setsP_mem {l s : List Int} (h : s ∈ setsP l) : ∀ x ∈ s, x ∈ l := by
 unfold setsP at h
 obtain ⟨k, _, hk⟩ := List.mem_flatMap.1 h
 exact subL_mem l k s hk
def idxI (n : Nat) : List Int := (List.range n).map fun i : Nat => (i : Int)
theorem idx_perm (n : Nat) (h : n ≤ 4) : (pwL (idxI n)).Perm (setsP (idxI n)) := by
 have : n = 0 ∨ n = 1 ∨ n = 2 ∨ n = 3 ∨ n = 4 := by omega
 rcases this with rfl | rfl | rfl | rfl | rfl <;> decide +kernel
theorem idx_sorted (n : Nat) (h : n ≤ 4) : (setsP (idxI n)).Pairwise (fun a b => setC a b < 0) := by
 have : n = 0 ∨ n = 1 ∨ n = 2 ∨ n = 3 ∨ n = 4 := by omega
 rcases this with rfl | rfl | rfl | rfl | rfl <;> decide +kernel
theorem asc_idx (l : List Int) : l = (idxI l.length).map fun i => l.getD i.toNat 0 := by
 apply List.ext_getElem
 · simp [idxI]
 · intro i h1 h2
   simp [idxI, List.getD_eq_getElem?_getD, h1]
theorem asc_mono {l : List Int} (h : ascL l) : ∀ x ∈ idxI l.length, ∀ y ∈ idxI l.length, x < y → l.getD x.toNat 0 < l.getD y.toNat 0 := by
 intro x hx y hy hxy
 unfold idxI at hx hy
 obtain ⟨i, hi, rfl⟩ := List.mem_map.1 hx
 obtain ⟨j, hj, rfl⟩ := List.mem_map.1 hy
 have hi' : i < l.length := by simpa using hi
 have hj' : j < l.length := by simpa using hj
 have := List.pairwise_iff_getElem.1 h i j hi' hj' (by omega)
 simpa [List.getD_eq_getElem?_getD, hi', hj'] using this
theorem sets_perm {l : List Int} (hl : l.length ≤ 4) : (pwL l).Perm (setsP l) := by
 have := (idx_perm l.length hl).map (List.map fun i => l.getD i.toNat 0)
 rwa [← pwL_map, ← setsP_map, ← asc_idx l] at this
theorem sets_sorted {l : List Int} (hl : l.length ≤ 4) (h : ascL l) : (setsP l).Pairwise (fun a b => setC a b < 0) := by
 have e : setsP l = (setsP (idxI l.length)).map (List.map fun i => l.getD i.toNat 0) := by rw [← setsP_map, ← asc_idx l]
 rw [e, List.pairwise_map]
 refine (idx_sorted l.length hl).imp_of_mem fun ha hb hab => ?_
 rw [setC_map (asc_mono h) _ _ (setsP_mem ha) (setsP_mem hb)]
 exact hab
theorem sorted_unique {α : Type} {lt : α → α → Prop} : ∀ (L2 L1 : List α), L1.Perm L2 → L2.Pairwise lt → L1.Pairwise (fun a b => ¬ lt b a) → L1 = L2
 | [], L1, hp, _, _ => List.Perm.eq_nil hp
 | x :: r, L1, hp, h2, h1 => by
  cases L1 with
  | nil => exact absurd hp.symm.eq_nil (by simp)
  | cons y s =>
   rw [List.pairwise_cons] at h2 h1
   by_cases hxy : y = x
   · subst hxy
     rw [sorted_unique r s (List.Perm.cons_inv hp) h2.2 h1.2]
   · exfalso
     have hy : y ∈ r := by
      have : y ∈ x :: r := hp.subset (by simp)
      rcases List.mem_cons.1 this with h | h
      · exact absurd h hxy
      · exact h
     have hx : x ∈ s := by
      have : x ∈ y :: s := hp.symm.subset (by simp)
      rcases List.mem_cons.1 this with h | h
      · exact absurd h.symm hxy
      · exact h
     exact h1.1 x hx (h2.1 y hy)
theorem cmpL_self : ∀ a, cmpL a a = 0
 | [] => rfl
 | x :: a => by
  have : Lib.compareInt x x = 0 := by simp [Lib.compareInt]
  simp only [cmpL, this, cmpL_self a]; rfl
theorem cmpI_cases (x y : Int) : (x < y ∧ Lib.compareInt x y = -1) ∨ (x = y ∧ Lib.compareInt x y = 0) ∨ (y < x ∧ Lib.compareInt x y = 1) := by
 unfold Lib.compareInt
 by_cases h1 : x < y
 · exact .inl ⟨h1, if_pos h1⟩
 · by_cases h2 : y < x
   · exact .inr (.inr ⟨h2, by rw [if_neg h1, if_pos h2]⟩)
   · exact .inr (.inl ⟨by omega, by rw [if_neg h1, if_neg h2]⟩)
theorem cmpL_trans : ∀ a b c : List Int, (cmpL a b < 0 → cmpL b c < 0 → cmpL a c < 0) ∧ (¬ cmpL a b < 0 → ¬ cmpL b c < 0 → ¬ cmpL a c < 0)
 | [], [], [] => by simp [cmpL]
 | [], [], _ :: _ => by simp [cmpL]
 | [], _ :: _, [] => by simp [cmpL]
 | [], _ :: _, _ :: _ => by simp [cmpL]
 | _ :: _, [], [] => by simp [cmpL]
 | _ :: _, [], _ :: _ => by simp [cmpL]
 | _ :: _, _ :: _, [] => by simp [cmpL]
 | x :: a, y :: b, z :: c => by
  obtain ⟨h1, h2⟩ := cmpL_trans a b c
  simp only [cmpL]
  rcases cmpI_cases x y with ⟨p, q⟩ | ⟨p, q⟩ | ⟨p, q⟩ <;> rcases cmpI_cases y z with ⟨p', q'⟩ | ⟨p', q'⟩ | ⟨p', q'⟩ <;> rcases cmpI_cases x z with ⟨p3, q3⟩ | ⟨p3, q3⟩ | ⟨p3, q3⟩ <;> rw [q, q', q3] <;> first | omega | simp <;> first | exact ⟨h1, h2⟩ | omega
theorem setC_lt (a b : List Int) : setC a b < 0 ↔ a.length < b.length ∨ (a.length = b.length ∧ cmpL a b < 0) := by
 unfold setC
 by_cases h : a.length = b.length
 · rw [if_neg (by omega)]; omega
 · rw [if_pos (by omega)]; omega
theorem setC_swo {α : Type} (f : α → List Int) : SWO (ltOf fun x y => setC (f x) (f y)) where
 irrefl x := by
  unfold ltOf
  rw [decide_eq_false_iff_not, setC_lt, cmpL_self]
  omega
 trans x y z h1 h2 := by
  unfold ltOf at *
  rw [decide_eq_true_eq, setC_lt] at *
  have := (cmpL_trans (f x) (f y) (f z)).1
  rcases h1 with h1 | ⟨h1, h1'⟩ <;> rcases h2 with h2 | ⟨h2, h2'⟩
  · exact .inl (by omega)
  · exact .inl (by omega)
  · exact .inl (by omega)
  · exact .inr ⟨by omega, this h1' h2'⟩
 ntrans x y z h1 h2 := by
  unfold ltOf at *
  rw [decide_eq_false_iff_not, setC_lt] at *
  have := (cmpL_trans (f x) (f y) (f z)).2
  intro h
  rcases h with h | ⟨h, h'⟩
  · omega
  · by_cases e1 : (f x).length = (f y).length
    · by_cases e2 : (f y).length = (f z).length
      · exact this (fun k => h1 (.inr ⟨e1, k⟩)) (fun k => h2 (.inr ⟨e2, k⟩)) h'
      · omega
    · omega
end Go.Proofs.YtanicpgmbhfipaaGreatDoor
namespace Go.Proofs.YtanicpgmbhfipaaGreatDoor
set_option linter.unusedVariables false
set_option linter.unusedSimpArgs false
open Go.RowKit Go.Sort
theorem ownsRow_tags {X : World} {B B' : Nat} {e e' : TypeId} {s s' n n' : Nat} {v v' : Value} {xs xs' : List Value} (h : X.ownsRow B e s v n xs) (h' : X.ownsRow B' e' s' v' n' xs') (hne : e ≠ e') : v.ownBlock = none ∨ v.ownBlock ≠ v'.ownBlock := by
 rcases h.2 with ⟨rfl, _⟩ | ⟨g, cap, cur, rfl, _, hg, _⟩
 · exact .inl rfl
 · rcases h'.2 with ⟨rfl, _⟩ | ⟨g', cap', cur', rfl, _, hg', _⟩
   · exact .inr (fun e => by cases e)
   · refine .inr fun e => hne ?_
     injection e with e
     subst e
     rw [hg] at hg'
     injection hg' with hg'
     injection hg' with _ h2 _
def InO (X : World) (B : Nat) (p : Value × List Int) : Prop := ∃ A c, p.1 = .slice A p.2.length c ∧ X.ownsRow B 3 1 (.slice A p.2.length c) p.2.length (p.2.map (.int .i64))
theorem InO.below {X Y : World} {B : Nat} {p : Value × List Int} (h : InO X B p) (hb : Below X.heap.size X Y) : InO Y B p := by
 obtain ⟨A, c, h1, h2⟩ := h
 exact ⟨A, c, h1, ownsRow_below h2 hb⟩
theorem InO.kept {X Y : World} {B B' n : Nat} {e : TypeId} {s : Nat} {p : Value × List Int} {v : Value} {xs : List Value} (h : InO X B p) (hv : X.ownsRow B' e s v n xs) (hne : 3 ≠ e) (hg : X.grownBy Y v.ownBlock) : InO Y B p := by
 obtain ⟨A, c, h1, h2⟩ := h
 exact ⟨A, c, h1, h2.kept hg (ownsRow_tags h2 hv hne)⟩
theorem ownsRow_cap {X : World} {B : Nat} {e : TypeId} {s n c : Nat} {A : Option Addr} {xs : List Value} (h : X.ownsRow B e s (.slice A n c) n xs) : n ≤ c ∧ (A = none → n = 0 ∧ c = 0) := by
 rcases h.2 with ⟨h1, h2⟩ | ⟨g, cap, cur, h1, _, _, h2, _⟩
 · injection h1 with h3 h4 h5
   subst h3 h4 h5
   exact ⟨Nat.le_refl _, fun _ => ⟨rfl, rfl⟩⟩
 · injection h1 with h3 h4 h5
   subst h3 h5
   exact ⟨h2, fun e => by cases e⟩
theorem ownsRow_capmax {X : World} {B : Nat} {e : TypeId} {s n c : Nat} {A : Option Addr} {xs : List Value} (h : X.ownsRow B e s (.slice A n c) n xs) : c ≤ maxLen := by
 rcases h.2 with ⟨h1, h2⟩ | ⟨g, cap, cur, h1, _, _, _, h2, _⟩
 · injection h1 with h3 h4 h5
   subst h5
   exact Nat.zero_le _
 · injection h1 with h3 h4 h5
   subst h5
   exact h2
theorem Clip_any (A : Option Addr) (n c : Nat) (w : World) (hn : n ≤ c) (hc : c ≤ maxLen) (h0 : A = none → n = 0 ∧ c = 0) :
 Calls Tryz.prog 118 #[.slice A n c] w fun e w' => e = .returned (.slice A n n) ∧ w = w' := by
 unfold maxLen at hc
 cases A with
 | none =>
  obtain ⟨rfl, rfl⟩ := h0 rfl
  go_enter Tryz.func118, Tryz.ntmps118
  go_wp2
  go_ret
  exact ⟨rfl, rfl⟩
 | some ad =>
  clear h0
  go_enter Tryz.func118, Tryz.ntmps118
  go_wp2
  go_ret
  exact ⟨by simp, rfl⟩
theorem infoSli : (Tryz.prog.info? 25).map (fun i => (i.zero, i.size, i.bytes)) = some (some (.slice none 0 0), 1, 24) := by kernel_rfl
theorem pwL_len (l : List Int) : (pwL l).length = 2 ^ l.length := by
 have gen : ∀ (l : List Int) (o : List (List Int)), (l.foldl (fun out n => out ++ out.map (· ++ [n])) o).length = o.length * 2 ^ l.length := by
  intro l
  induction l with
  | nil => intro o; simp
  | cons a l ih => intro o; rw [List.foldl_cons, ih, List.length_append, List.length_map, List.length_cons, Nat.pow_succ, ← Nat.two_mul, Nat.mul_comm 2, Nat.mul_assoc, Nat.mul_comm 2]
 have := gen l [[]]
 simpa [pwL] using this
theorem pwL_le (l : List Int) : ∀ s ∈ pwL l, s.length ≤ l.length := by
 have gen : ∀ (l : List Int) (o : List (List Int)) (m : Nat), (∀ s ∈ o, s.length ≤ m) → ∀ s ∈ l.foldl (fun out n => out ++ out.map (· ++ [n])) o, s.length ≤ m + l.length := by
  intro l
  induction l with
  | nil => intro o m h s hs; exact h s hs
  | cons a l ih =>
   intro o m h s hs
   have := ih (o ++ o.map (· ++ [a])) (m + 1) (fun t ht => by
    rcases List.mem_append.1 ht with ht | ht
    · have := h t ht; omega
    · obtain ⟨u, hu, rfl⟩ := List.mem_map.1 ht
      have := h u hu
      simp; omega) s hs
   simp only [List.length_cons]; omega
 intro s hs
 have := gen l [[]] 0 (by simp) s hs
 omega
def rowsV (els : List (Value × List Int)) : List Value := els.map (·.1)
def rowsL (els : List (Value × List Int)) : List (List Int) := els.map (·.2)
set_option maxRecDepth 100000 in
set_option maxHeartbeats 4000000 in
theorem sets_mid (A : Option Addr) (c : Nat) (l : List Int) (w : World) (hl : l.length ≤ 4) (hr : Rd w w.heap.size A (l.map (.int .i64)))
 (R : Ending → World → Prop)
 (hS : ∀ (els : List (Value × List Int)) (B : Option Addr) (k : Nat) (W : World), W.ownsRow w.heap.size 25 1 (.slice B els.length k) els.length (rowsV els) → rowsL els = pwL l → (∀ p ∈ els, InO W w.heap.size p) → Below w.heap.size w W → els.length ≤ 16 → 1 ≤ els.length →
  Calls Tryz.prog 119 #[.slice B els.length k, .func (.func 120) #[] #[]] W fun e W' => e = .returned (.tuple #[]) ∧ R (.returned (.slice B els.length k)) W') :
 Calls Tryz.prog 92 #[.slice A l.length c] w R := by
 obtain ⟨i0, hi, hz0, hz1, hz2⟩ := info_parts infoInt
 obtain ⟨j0, hj, hy0, hy1, hy2⟩ := info_parts infoSli
 have HS := Lib.hid hS
 have HR := Lib.hid hr
 have hlit := World.ownsRow_lit (base := w.heap.size) (e := 25) (size := 1) w #[.slice none 0 0] 1 (Nat.le_refl _) (by unfold maxLen; omega) rfl
 have HLIT := Lib.hid hlit
 clear hS hr hlit
 go_enter Tryz.func92, Tryz.ntmps92
 go_wp2
 go_loopw [3, 11] (fun out ix wr => ∃ (k : Nat) (els : List (Value × List Int)) (B : Option Addr) (cB : Nat), k ≤ l.length ∧ ix = .int .i64 k ∧ out = .slice B els.length cB ∧ wr.ownsRow w.heap.size 25 1 (.slice B els.length cB) els.length (rowsV els) ∧ rowsL els = pwL (l.take k) ∧ (∀ p ∈ els, InO wr w.heap.size p) ∧ Below w.heap.size w wr) (fun _ ix _ => l.length - (intOf ix).toNat)
 case atStart =>
  exact ⟨0, [(.slice none 0 0, [])], some ⟨w.heap.size, 0, none⟩, 1, Nat.zero_le _, rfl, rfl, HLIT.out, rfl, (fun p hp => by
   have : p = (.slice none 0 0, []) := by simpa using hp
   subst this
   exact ⟨none, 0, rfl, World.ownsRow_nil _ _ _ _⟩), bel_alloc (Below.refl _ _) _⟩
 case round =>
  obtain ⟨k, els, B, cB, hk, rfl, rfl, hown, hls, hin, hb⟩ := hrel
  have hlen : els.length = 2 ^ k := by
   have := congrArg List.length hls
   rw [pwL_len, List.length_take, Nat.min_eq_left hk] at this
   simpa [rowsL] using this
  have hpos : 1 ≤ els.length := by rw [hlen]; exact Nat.one_le_two_pow
  have h16 : els.length ≤ 16 := by
   rw [hlen]
   have : 2 ^ k ≤ 2 ^ 4 := Nat.pow_le_pow_right (by decide) (by omega)
   omega
  clear hlen
  have hsl : ∀ p ∈ els, p.2.length ≤ 4 := fun p hp => by
   have h1 : p.2 ∈ pwL (l.take k) := by rw [← hls]; exact List.mem_map_of_mem hp
   have := pwL_le _ _ h1
   rw [List.length_take] at this
   omega
  by_cases hlt : k < l.length
  · obtain ⟨bl, ol, rfl, hBl, hcl⟩ := (HR.out.below hb).opened (by simp; omega)
    have e0 := hcl k (.int .i64 l[k]) (by simp [hlt])
    have htk : l.take (k + 1) = l.take k ++ [l[k]] := List.take_succ_eq_append_getElem hlt
    obtain ⟨n, hn⟩ : ∃ n, n = l[k] := ⟨_, rfl⟩
    rw [← hn] at e0 htk
    have hpw : pwL (l.take (k + 1)) = rowsL els ++ (rowsL els).map (· ++ [n]) := by rw [htk, pwL_snoc, hls]
    have HPW := Lib.hid hpw
    obtain ⟨b0, rfl⟩ : ∃ b0, B = some ⟨b0, 0, none⟩ := by
     rcases hown.2 with ⟨_, h0⟩ | ⟨g, cap, cur, h1, _⟩
     · omega
     · injection h1 with h1; exact ⟨g, h1⟩
    have hsnap : ∀ i (h : i < els.length), wr.cell? ⟨b0, i, none⟩ = some els[i].1 := fun i h => by
     have := hown.cellAt i (by omega)
     rw [this]
     simp [rowsV, h]
    have hb0 : b0 < wr.heap.size := hown.lt b0 rfl |>.2
    clear htk hpw hcl hn hls
    have hr0 : rowsL els = rowsL els := rfl
    have HIN := Lib.hid hin
    have HB := Lib.hid hb
    have HSN := Lib.hid hsnap
    have HOWN := Lib.hid hown
    clear hin hb hsnap hown hr0
    go_wp2
    go_loopw [3, 17] (fun out jx wx => ∃ (j : Nat) (news : List (Value × List Int)) (B : Option Addr) (cB : Nat), j ≤ els.length ∧ jx = .int .i64 j ∧ news.length = j ∧ out = .slice B (els.length + j) cB ∧ wx.ownsRow w.heap.size 25 1 (.slice B (els.length + j) cB) (els.length + j) (rowsV els ++ rowsV news) ∧ rowsL news = (rowsL (els.take j)).map (· ++ [n]) ∧ (∀ p ∈ els, InO wx w.heap.size p) ∧ (∀ p ∈ news, InO wx w.heap.size p) ∧ Below w.heap.size w wx ∧ (∀ i (h : i < els.length), wx.cell? ⟨b0, i, none⟩ = some els[i].1) ∧ b0 < wx.heap.size) (fun _ jx _ => els.length - (intOf jx).toNat)
    case atStart =>
     exact ⟨0, [], some ⟨b0, 0, none⟩, cB, Nat.zero_le _, rfl, rfl, rfl, by simpa [rowsV] using HOWN.out, rfl, HIN.out, (fun p hp => by simp at hp), HB.out, HSN.out, hb0⟩
    case round =>
     obtain ⟨j, news, B2, cB2, hj2, rfl, hnl, rfl, hown, hls, hin, hinn, hb, hsnap, hb0'⟩ := hrel
     by_cases hlt2 : j < els.length
     · have e1 := hsnap j hlt2
       obtain ⟨Ai, ci, hv, hown1⟩ := hin els[j] (List.getElem_mem hlt2)
       rw [hv] at e1
       have htk : els.take (j + 1) = els.take j ++ [els[j]] := List.take_succ_eq_append_getElem hlt2
       obtain ⟨s, hs⟩ : ∃ s, s = els[j].2 := ⟨_, rfl⟩
       rw [← hs] at e1 hown1
       have hls2 : rowsL (els.take (j + 1)) = rowsL (els.take j) ++ [s] := by unfold rowsL; rw [htk, List.map_append, hs]; rfl
       have hcap := ownsRow_cap hown1
       have hcm := ownsRow_capmax hown1
       have hs4 : s.length ≤ 4 := by rw [hs]; exact hsl _ (List.getElem_mem hlt2)
       have HCL := Lib.hid (fun W => Clip_any Ai s.length ci W hcap.1 hcm hcap.2)
       have hszw := hb.size
       have HLS := Lib.hid hls
       have HLS2 := Lib.hid hls2
       have HIN2 := Lib.hid hin
       have HINN := Lib.hid hinn
       have HB2 := Lib.hid hb
       have HSN2 := Lib.hid hsnap
       have HOW := Lib.hid hown
       have HO1 := Lib.hid hown1
       clear htk hs hls2 hls hin hinn hb hsnap hown hcap hcm hv hown1
       go_wp2_with (first | (go_at_call 118; refine (HCL.out _).mono ?_; rintro e w' ⟨rfl, rfl⟩) | (at_builtin; refine wpList_push_full _ rfl (.tmp 23) (.tmp 25) 25 rfl 3 i0 _ 1 8 [.int .i64 n] Tryz.underlying25 hi hz0 hz1 hz2 rfl (by decide) Ai s.length (s.map (.int .i64)) rfl (by simp) wr.heap.size (Rd.of_own HO1.out) _ rfl rfl rfl (by intro u hu; simp at hu; subst hu; rfl) (by unfold maxLen; omega) (by omega) ?_; intro v1 w1 ow1 hb1; obtain ⟨A1, c1, rfl, _⟩ := ownsRow_form ow1; have HOW1 := Lib.hid (ownsRow_below HOW.out hb1); have HB1 := Lib.hid hb1; have HN1 := Lib.hid ow1; have hsz1 := Nat.le_trans hszw hb1.size; clear hb1 ow1) | (at_builtin; refine wpList_push2 w1 rfl (.tmp 21) (.tmp 27) 106 rfl w.heap.size 25 j0 _ 1 24 [.slice A1 (s.length + 1) c1] Tryz.underlying106 hj hy0 hy1 hy2 rfl (by decide) (.slice B2 (els.length + j) cB2) _ _ rfl HOW1.out _ rfl rfl rfl (by intro u hu; simp at hu; subst hu; rfl) (by unfold maxLen; omega) (by omega) hsz1 ?_; intro v2 w2 ow2 hg2 hor2 hk2 hb2; obtain ⟨A2, c2, rfl, _⟩ := ownsRow_form ow2))
       go_roundw
       case rel =>
        have keep : ∀ p, InO wr w.heap.size p → InO w2 w.heap.size p := fun p hp =>
         ((hp.below HB1.out).below (bel_alloc (Below.refl _ _) _)).kept (HOW1.out.alloc _) (by decide) hg2
        refine ⟨j + 1, news ++ [(.slice A1 (s.length + 1) c1, s ++ [n])], A2, c2, by omega, by go_num, by rw [List.length_append, hnl]; rfl, rfl, ?_, ?_, fun p hp => keep p (HIN2.out p hp), fun p hp => ?_, (bel_trans HB2.out HB1.out).trans hb2, fun i h => ?_, ?_⟩
        · have : rowsV els ++ rowsV (news ++ [(.slice A1 (s.length + 1) c1, s ++ [n])]) = (rowsV els ++ rowsV news) ++ [.slice A1 (s.length + 1) c1] := by simp [rowsV]
          rw [this]; exact ow2
        · rw [HLS2.out, List.map_append, ← HLS.out]; simp [rowsL]
        · rcases List.mem_append.1 hp with hp | hp
          · exact keep p (HINN.out p hp)
          · obtain rfl : p = (.slice A1 (s.length + 1) c1, s ++ [n]) := by simpa using hp
            have hi1 : InO w1 w.heap.size (.slice A1 (s.length + 1) c1, s ++ [n]) := ⟨A1, c1, by simp, by
             have := ownsRow_mono HN1.out (show w.heap.size ≤ wr.heap.size from hszw)
             simpa using this⟩
            exact (hi1.below (bel_alloc (Below.refl _ _) _)).kept (HOW1.out.alloc _) (by decide) hg2
        · rw [hk2 b0 i (by have := HB1.out.size; omega) (fun _ => by omega)]
          exact (HB1.out.cell (p := ⟨b0, i, none⟩) hb0').trans (HSN2.out i h)
        · have := HB1.out.size; have := hb2.size; omega
       case measure => simp [intOf]; omega
     · obtain rfl : j = els.length := by omega
       go_wp2
       go_roundw
       case rel =>
        refine ⟨k + 1, els ++ news, B2, cB2, by omega, by go_num, by rw [List.length_append, hnl], ?_, ?_, ?_, hb⟩
        · rw [List.length_append, hnl]
          have : rowsV (els ++ news) = rowsV els ++ rowsV news := by simp [rowsV]
          rw [this]; exact hown
        · rw [HPW.out]
          have : rowsL (els ++ news) = rowsL els ++ rowsL news := by simp [rowsL]
          rw [this, hls, List.take_length]
        · intro p hp
          rcases List.mem_append.1 hp with hp | hp
          · exact hin p hp
          · exact hinn p hp
       case measure => simp [intOf]; omega
  · obtain rfl : k = l.length := by omega
    rw [List.take_length] at hls
    have HSO := Lib.hid (HS.out els B cB wr hown hls hin hb h16 hpos)
    clear hown hls hin
    go_wp2_with (go_at_call 119; refine HSO.out.mono ?_; rintro e W' ⟨rfl, hR⟩)
    exact hR
end Go.Proofs.YtanicpgmbhfipaaGreatDoor
namespace Go.Proofs.YtanicpgmbhfipaaGreatDoor
set_option linter.unusedVariables false
set_option linter.unusedSimpArgs false
open Go.RowKit Go.Sort
theorem sortW_heap {α : Type} [Inhabited α] (enc : α → Value) (w : World) (blk off n : Nat) (dk : Array α) (os : Array Obj) {k : Nat} (hk : k < w.heap.size) (hne : k ≠ blk) : (sortWorld enc w blk off n dk os).heap[k]? = w.heap[k]? := by
 unfold sortWorld
 rw [heap_grow_old _ _ (by simpa using hk)]
 simp only [putRow, mapBlock, Array.getElem?_modify]
 rw [if_neg (fun e => hne e.symm)]
 rfl
theorem sortW_tag {α : Type} [Inhabited α] (enc : α → Value) (w : World) (blk off n : Nat) (dk : Array α) (os : Array Obj) {cur : Array Value} {e : TypeId} {fr : Nat × Nat} (h : w.heap[blk]? = some (.cells cur e fr)) : ∃ b cs fr, some (⟨blk, 0, none⟩ : Addr) = some ⟨b, 0, none⟩ ∧ (sortWorld enc w blk off n dk os).heap[b]? = some (.cells cs e fr) := by
 refine ⟨blk, ?_⟩
 unfold sortWorld
 rw [heap_grow_old _ _ (by simpa [Sort.ahead] using (Array.getElem?_eq_some_iff.1 h).1)]
 simp only [putRow, mapBlock, Array.getElem?_modify, if_true, Sort.ahead, h, Option.map_some]
 exact ⟨_, _, (by first | trivial | rfl), rfl⟩
theorem sortW_size {α : Type} [Inhabited α] (enc : α → Value) (w : World) (blk off n : Nat) (dk : Array α) (os : Array Obj) : w.heap.size ≤ (sortWorld enc w blk off n dk os).heap.size := by
 unfold sortWorld
 simp [Sort.ahead]
theorem sortW_row {α : Type} [Inhabited α] (enc : α → Value) (w : World) (blk off n : Nat) (dk : Array α) (os : Array Obj) {B : Nat} {e : TypeId} {s m : Nat} {v : Value} {xs : List Value} (h : w.ownsRow B e s v m xs) (hne : v.ownBlock ≠ some blk) : (sortWorld enc w blk off n dk os).ownsRow B e s v m xs := by
 refine ⟨h.1, ?_⟩
 rcases h.2 with h' | ⟨g, cap, cur, h1, h2, h3, h4⟩
 · exact .inl h'
 · refine .inr ⟨g, cap, cur, h1, h2, ?_, h4⟩
   rw [sortW_heap enc w blk off n dk os (Array.getElem?_eq_some_iff.1 h3).1 (fun e => hne (by rw [h1, ← e]; rfl))]
   exact h3
def SetsR (w : World) (l : List Int) (e : Ending) (W' : World) : Prop := ∃ (els : List (Value × List Int)) (B : Option Addr) (k : Nat), e = .returned (.slice B els.length k) ∧ rowsL els = setsP l ∧ Rd W' W'.heap.size B (rowsV els) ∧ (∀ p ∈ els, InO W' w.heap.size p) ∧ Below w.heap.size w W' ∧ ∃ b cs fr, B = some ⟨b, 0, none⟩ ∧ W'.heap[b]? = some (.cells cs 25 fr)
set_option maxHeartbeats 1000000 in
theorem sets_any (A : Option Addr) (c : Nat) (l : List Int) (w : World) (hl : l.length ≤ 4) (hasc : ascL l) (hr : Rd w w.heap.size A (l.map (.int .i64))) :
 Calls Tryz.prog 92 #[.slice A l.length c] w (SetsR w l) := by
 refine sets_mid A c l w hl hr (SetsR w l) fun els B k W hown hls hin hb h16 hpos => ?_
 obtain ⟨b0, rfl, hb0w, hb0⟩ : ∃ b0, B = some ⟨b0, 0, none⟩ ∧ w.heap.size ≤ b0 ∧ b0 < W.heap.size := by
  rcases hown.2 with ⟨_, h0⟩ | ⟨g, cap, cur, h1, h2, h3, _⟩
  · omega
  · injection h1 with h1; exact ⟨g, h1, h2, (Array.getElem?_eq_some_iff.1 h3).1⟩
 have hel : 0 < els.length := hpos
 haveI : Inhabited {p // p ∈ els} := ⟨⟨els[0], List.getElem_mem hel⟩⟩
 obtain ⟨d, hd⟩ : ∃ d : Array {p // p ∈ els}, d = els.attach.toArray := ⟨_, rfl⟩
 have hds : d.size = els.length := by rw [hd]; simp
 have hval : ∀ x : {p // p ∈ els}, ∃ A c, x.val.1 = .slice A x.val.2.length c ∧ W.ownsRow w.heap.size 3 1 (.slice A x.val.2.length c) x.val.2.length (x.val.2.map (.int .i64)) := fun x => hin x.val x.property
 have hslen : ∀ x : {p // p ∈ els}, x.val.2.length ≤ 4 := fun x => by
  have h1 : x.val.2 ∈ pwL l := by rw [← hls]; exact List.mem_map_of_mem x.property
  have := pwL_le _ _ h1
  omega
 have hH : Holds (fun x : {p // p ∈ els} => x.val.1) W b0 0 d := fun j hj => by
  have hj' : j < els.length := by omega
  have h1 := hown.cellAt j (by omega)
  rw [Nat.zero_add]
  constructor
  · rw [h1]
    have e1 : d[j]! = ⟨els[j], List.getElem_mem hj'⟩ := by
     rw [getElem!_pos d j hj]
     simp only [hd, List.getElem_toArray, List.getElem_attach]
    rw [e1]
    simp [rowsV, hj']
  · rcases hown.2 with ⟨h2, _⟩ | ⟨g, cap, cur, h2, _, h3, _⟩
    · cases h2
    · injection h2 with h2
      injection h2 with h2
      injection h2 with h2
      subst h2
      simp [World.frozen?, h3]
 have hne : ∀ x : {p // p ∈ els}, ∀ A c, W.ownsRow w.heap.size 3 1 (.slice A x.val.2.length c) x.val.2.length (x.val.2.map (.int .i64)) → (Value.slice A x.val.2.length c).ownBlock ≠ some b0 := fun x A c ho he => by
  rcases ownsRow_tags ho hown (by decide) with h | h
  · rw [h] at he; cases he
  · exact h he
 have hcmp : CmpLays1 Tryz.prog 120 #[] (fun x : {p // p ∈ els} => x.val.1) (fun x y => setC x.val.2 y.val.2) b0 0 d.size W := fun m os dk hdk x y => by
  obtain ⟨A1, c1, e1, o1⟩ := hval x
  obtain ⟨A2, c2, e2, o2⟩ := hval y
  have s1 := sortW_row (fun x : {p // p ∈ els} => x.val.1) W b0 0 m dk os o1 (hne x A1 c1 o1)
  have s2 := sortW_row (fun x : {p // p ∈ els} => x.val.1) W b0 0 m dk os o2 (hne y A2 c2 o2)
  have hc := sets1_any A1 A2 c1 c2 x.val.2 y.val.2 (sortWorld (fun x : {p // p ∈ els} => x.val.1) W b0 0 m dk os) (by have := hslen x; omega) (by have := hslen y; omega) (Rd.of_own s1) (Rd.of_own s2)
  show Calls Tryz.prog 120 #[x.val.1, y.val.1] _ _
  rw [e1, e2]
  refine hc.mono fun e w' ⟨h1, h2⟩ => ⟨h1, 0, #[_], h2.trans (alloc_eq_grow _ _)⟩
 have hso := Tryz.slices_SortFunc (fun x : {p // p ∈ els} => x.val.1) (fun x => by obtain ⟨A1, c1, e1, _⟩ := hval x; show (x.val.1).oneCell' = true; rw [e1]; rfl) (fun x y => setC x.val.2 y.val.2) (setC_swo fun x : {p // p ∈ els} => x.val.2) 120 #[] b0 0 k d W (enters_of Tryz.func120 (by kernel_rfl) rfl) hcmp hH hb0 (by omega)
 rw [hds] at hso
 refine hso.mono fun e W' ⟨he, d', n, os, hp, hsd, hW'⟩ => ⟨he, ?_⟩
 obtain ⟨hp1, _, hp2⟩ := hp
 have hd'l : d'.size = els.length := by omega
 have hperm : d'.toList.Perm els.attach := by
  have : (d'.extract 0 els.length).toList.Perm (d.extract 0 els.length).toList := hp2
  rw [← hd'l, Array.extract_size, hd'l, ← hds, Array.extract_size, hd] at this
  simpa using this
 have hperm2 : (d'.toList.map (·.val)).Perm els := by
  have := hperm.map (fun x : {p // p ∈ els} => x.val)
  rwa [show els.attach.map (fun x => x.val) = els from List.attach_map_subtype_val els] at this
 obtain ⟨els', hels'⟩ : ∃ els', els' = d'.toList.map (fun x : {p // p ∈ els} => x.val) := ⟨_, rfl⟩
 rw [← hels'] at hperm2
 have hlen' : els'.length = els.length := by rw [hels']; simp [hd'l]
 have hsort : rowsL els' = setsP l := by
  have hp3 : (rowsL els').Perm (rowsL els) := hperm2.map (fun p : Value × List Int => p.2)
  rw [hls] at hp3
  refine sorted_unique (lt := fun a b => setC a b < 0) _ _ (hp3.trans (sets_perm hl)) (sets_sorted hl hasc) ?_
  · unfold rowsL
    rw [hels', List.map_map, List.pairwise_map, List.pairwise_iff_getElem]
    intro i j hi hj hij
    have h1 := hsd i j (Nat.zero_le _) hij (by simp at hj; omega)
    have hi' : i < d'.size := by simpa using hi
    have hj' : j < d'.size := by simpa using hj
    rw [getElem!_pos d' i hi', getElem!_pos d' j hj'] at h1
    unfold ltOf at h1
    simpa using h1
 refine ⟨els', some ⟨b0, 0, none⟩, k, by rw [hlen'], hsort, ?_, ?_, ?_, ?_⟩
 · intro j u hj
   refine ⟨b0, 0, rfl, by rw [hW']; exact Nat.lt_of_lt_of_le hb0 (sortW_size _ _ _ _ _ _ _), ?_⟩
   rw [hW']
   have hj1 : j < els.length := by
    have := (List.getElem?_eq_some_iff.1 hj).1
    simp [rowsV] at this; omega
   have h1 := (holds_sortWorld (fun x : {p // p ∈ els} => x.val.1) W b0 0 n d d' os hb0 hH (by omega) j (by omega)).1
   rw [h1]
   rw [getElem!_pos d' j (by omega)]
   have hjd : j < d'.size := by omega
   have : (rowsV els')[j]? = some (d'[j]'hjd).val.1 := by
    unfold rowsV
    simp only [hels']
    simp [hd'l, hj1]
   rw [this] at hj
   exact hj
 · intro p hp
   rw [hels'] at hp
   obtain ⟨x, _, rfl⟩ := List.mem_map.1 hp
   obtain ⟨A1, c1, e1, o1⟩ := hval x
   rw [hW']
   exact ⟨A1, c1, e1, sortW_row _ W b0 0 n d' os o1 (hne x A1 c1 o1)⟩
 · rw [hW']
   exact ⟨hb.os, hb.tape, hb.output, Nat.le_trans hb.size (sortW_size _ _ _ _ _ _ _), fun b hbl => (sortW_heap _ _ _ _ _ _ _ (by have := hb.size; omega) (by omega)).trans (hb.block b hbl)⟩
 · rcases hown.2 with ⟨h2, _⟩ | ⟨g, cap, cur, h2, _, h3, _⟩
   · cases h2
   · injection h2 with h2
     injection h2 with h2
     injection h2 with h2
     subst h2
     rw [hW']
     exact sortW_tag _ W b0 0 n d' os h3
end Go.Proofs.YtanicpgmbhfipaaGreatDoor
namespace Go.Proofs.YtanicpgmbhfipaaGreatDoor
set_option linter.unusedVariables false
set_option linter.unusedSimpArgs false
open Go.RowKit Go.Sort
def whoE (l : List Int) : Int := firstE [unl (decide (l.length ≤ 5)) 8, usersE l]
theorem usersE_asc {l : List Int} (h : usersE l = 0) : ascL l ∧ ∀ x ∈ l, hldB x = true := by
 have hz := eachE_zero (ordE l) l 0 h
 have hall : ∀ i (hi : i < l.length), hldB l[i] = true ∧ (i = 0 ∨ l.getD (i - 1) 0 < l[i]) := fun i hi => by
  have := hz i hi
  rw [Nat.zero_add] at this
  have hz2 := firstE_zero this
  have h1 := unl_zero (by decide) (hz2 (unl (hldB l[i]) 2) (by simp))
  have h2 := unl_zero (by decide) (hz2 (unl (i == 0 || decide (l.getD (i - 1) 0 < l[i])) 9) (by simp))
  refine ⟨h1, ?_⟩
  rw [Bool.or_eq_true, beq_iff_eq, decide_eq_true_eq] at h2
  exact h2
 refine ⟨?_, fun x hx => ?_⟩
 · unfold ascL
   rw [List.pairwise_iff_getElem]
   intro i j hi hj hij
   induction j with
   | zero => omega
   | succ j ih =>
    have h1 := (hall (j + 1) hj).2
    rw [Nat.add_sub_cancel] at h1
    have h2 : l.getD j 0 = l[j]'(by omega) := by rw [List.getD_eq_getElem?_getD, List.getElem?_eq_getElem (by omega)]; rfl
    rw [h2] at h1
    rcases h1 with h1 | h1
    · omega
    · by_cases hij2 : i = j
      · subst hij2; exact h1
      · exact Int.lt_trans (ih (by omega) (by omega)) h1
 · obtain ⟨i, hi, rfl⟩ := List.getElem_of_mem hx
   exact (hall i hi).1
theorem whoErr_any (A : Option Addr) (c : Nat) (l : List Int) (w : World) (hlen : l.length ≤ 100000) (hr : Rd w w.heap.size A (l.map (.int .i64))) :
 Calls Tryz.prog 62 #[.slice A l.length c] w fun e w' => e = .returned (.int .i64 (whoE l)) ∧ Below w.heap.size w w' := by
 have HUS := Lib.hid (fun W (hW : Below w.heap.size w W) => usersErr_any A c l W hlen (hr.below' hW))
 have HU := Lib.hid (fun W => access_unless_any (decide ((l.length : Int) ≤ 5)) 8 W)
 have h5 : decide ((l.length : Int) ≤ 5) = decide (l.length ≤ 5) := by rw [decide_eq_decide]; omega
 obtain ⟨e1, he1⟩ : ∃ e, e = unl (decide ((l.length : Int) ≤ 5)) 8 := ⟨_, rfl⟩
 obtain ⟨e2, he2⟩ : ∃ e, e = usersE l := ⟨_, rfl⟩
 obtain ⟨r, hrr⟩ : ∃ r, r = whoE l := ⟨_, rfl⟩
 have hr0 : r = firstE [e1, e2] := by rw [hrr, he1, he2, h5]; rfl
 rw [← hrr]
 rw [← he1] at HU
 rw [← he2] at HUS
 have HF := Lib.hid (fun W => access_first2 e1 e2 W)
 rw [← hr0] at HF
 clear hr h5 he1 he2 hrr hr0
 go_enter Tryz.func62, Tryz.ntmps62
 go_wp2_with (first | (go_at_call 59; refine (HU.out _).mono ?_; rintro e w' ⟨rfl, rfl⟩) | (go_at_call 87; refine (HUS.out _ (Below.refl _ _)).mono ?_; rintro e W1 ⟨rfl, hbW1⟩; obtain ⟨hcW1, hfW1⟩ := bcell hbW1) | (go_at_call 51; refine (HF.out _).mono ?_; rintro e w' ⟨rfl, rfl⟩))
 go_ret
 exact ⟨rfl, bel_alloc hbW1 _⟩
def othL (l : List Int) (i : Nat) : List Int := l.take i ++ l.drop (i + 1)
def toksAt (l : List Int) (i : Nat) : List TokP := (setsP (othL l i)).map fun s => ⟨l.getD i 0, s, 0⟩
def toksN (l : List Int) (n : Nat) : List TokP := (List.range n).flatMap (toksAt l)
def toksP (l : List Int) : List TokP := toksN l l.length
theorem othL_len (l : List Int) (i : Nat) (hi : i < l.length) : (othL l i).length = l.length - 1 := by unfold othL; rw [List.length_append, List.length_take, List.length_drop]; omega
theorem toksAt_len (l : List Int) (hl : l.length ≤ 5) (i : Nat) (hi : i < l.length) : (toksAt l i).length ≤ 16 := by
 unfold toksAt
 rw [List.length_map, ← (sets_perm (l := othL l i) (by rw [othL_len l i hi]; omega)).length_eq, pwL_len, othL_len l i hi]
 have : 2 ^ (l.length - 1) ≤ 2 ^ 4 := Nat.pow_le_pow_right (by decide) (by omega)
 omega
theorem toksN_succ (l : List Int) (n : Nat) : toksN l (n + 1) = toksN l n ++ toksAt l n := by
 unfold toksN; rw [List.range_succ, List.flatMap_append]; simp
theorem toksN_len (l : List Int) (hl : l.length ≤ 5) : ∀ n, n ≤ l.length → (toksN l n).length ≤ 16 * n
 | 0, _ => by simp [toksN]
 | n + 1, h => by
  have h1 := toksN_len l hl n (by omega)
  have h2 := toksAt_len l hl n (by omega)
  rw [toksN_succ, List.length_append]
  omega
def tokCl (p : Value × TokP) : List Value := [.int .i64 p.2.u, p.1, .int .i64 p.2.p]
def toksV (ps : List (Value × TokP)) : List Value := ps.flatMap tokCl
theorem infoTok : (Tryz.prog.info? 27).map (fun i => (i.zero, i.size, i.bytes)) = some (some (.agg #[.int .i64 0, .slice none 0 0, .int .i64 0]), 3, 40) := by kernel_rfl
def InT (X : World) (B : Nat) (p : Value × TokP) : Prop := InO X B (p.1, p.2.gs)
def Cat2 (B n1 n2 c1 c2 : Nat) (A1 A2 : Option Addr) (v : Value) (X : World) : Prop := ∃ b, v = .slice (some ⟨b, 0, none⟩) 2 2 ∧ B ≤ b ∧ X.heap[b]? = some (.cells #[.slice A1 n1 c1, .slice A2 n2 c2] 25 (0, 0))
theorem Cat2.stable {B n1 n2 c1 c2 : Nat} {A1 A2 : Option Addr} (v : Value) (X X' : World) (h : Cat2 B n1 n2 c1 c2 A1 A2 v X) (hb : Below X.heap.size X X') : Cat2 B n1 n2 c1 c2 A1 A2 v X' := by
 obtain ⟨b, h1, h2, h3⟩ := h
 exact ⟨b, h1, h2, (hb.block b (Array.getElem?_eq_some_iff.1 h3).1).trans h3⟩
def RowN (B : Nat) (l : List Int) (v : Value) (X : World) : Prop := ∃ A c, v = .slice A l.length c ∧ X.ownsRow B 3 1 (.slice A l.length c) l.length (l.map (.int .i64))
theorem RowN.stable {B : Nat} {l : List Int} (v : Value) (X X' : World) (h : RowN B l v X) (hb : Below X.heap.size X X') : RowN B l v X' := by
 obtain ⟨A, c, h1, h2⟩ := h
 exact ⟨A, c, h1, ownsRow_below h2 hb⟩
set_option maxRecDepth 100000 in
set_option maxHeartbeats 4000000 in
theorem tokens_any (A : Option Addr) (c : Nat) (l : List Int) (w : World) (hl : l.length ≤ 5) (hcl : l.length ≤ c) (hcm : c ≤ maxLen) (hasc : ascL l) (hr : Rd w w.heap.size A (l.map (.int .i64))) :
 Calls Tryz.prog 63 #[.slice A l.length c] w fun e w' => ∃ ps B k, e = .returned (.slice B ps.length k) ∧ ps.map (·.2) = toksP l ∧ w'.ownsRow w.heap.size 27 3 (.slice B ps.length k) ps.length (toksV ps) ∧ (∀ p ∈ ps, InT w' w.heap.size p) ∧ Below w.heap.size w w' := by
 obtain ⟨i0, hi, hz0, hz1, hz2⟩ := info_parts infoTok
 have HR := Lib.hid hr
 unfold maxLen at hcm
 clear hr
 go_enter Tryz.func63, Tryz.ntmps63
 go_wp2
 go_loopw [3, 11] (fun out ix wr => ∃ (k : Nat) (ps : List (Value × TokP)) (B : Option Addr) (cB : Nat), k ≤ l.length ∧ ix = .int .i64 k ∧ out = .slice B ps.length cB ∧ wr.ownsRow w.heap.size 27 3 (.slice B ps.length cB) ps.length (toksV ps) ∧ ps.map (·.2) = toksN l k ∧ (∀ p ∈ ps, InT wr w.heap.size p) ∧ Below w.heap.size w wr) (fun _ ix _ => l.length - (intOf ix).toNat)
 case atStart => exact ⟨0, [], none, 0, Nat.zero_le _, rfl, rfl, World.ownsRow_nil _ _ _ _, rfl, (fun p hp => by simp at hp), Below.refl _ _⟩
 case round =>
  obtain ⟨k, ps, B, cB, hk, rfl, rfl, hown, hls, hin, hb⟩ := hrel
  by_cases hlt : k < l.length
  · obtain ⟨bl, ol, rfl, hBl, hcl2⟩ := (HR.out.below hb).opened (by simp; omega)
    have e0 := hcl2 k (.int .i64 l[k]) (by simp [hlt])
    obtain ⟨n, hn⟩ : ∃ n, n = l[k] := ⟨_, rfl⟩
    rw [← hn] at e0
    have HN := Lib.hid hn
    clear hn
    have hk5 : k + 1 ≤ l.length := hlt
    have HB := Lib.hid hb
    clear hb hcl2
    go_wp2
    (refine wp_region_flow [false, false, false, false, false, false, false, true, true] [⟨7, [], Cat2 wr.heap.size k (l.length - (k + 1)) c (c - (k + 1)) (some ⟨bl, ol, none⟩) (if c = k + 1 then some ⟨bl, ol, none⟩ else some ⟨bl, ol + (k + 1), none⟩), false⟩, ⟨8, [7], RowN wr.heap.size (othL l k), false⟩] (by kernel_rfl) (by kernel_rfl) (by kernel_rfl) (by kernel_rfl) ?_; simp only [pick, List.length_cons, List.length_nil, List.drop_succ_cons, List.drop_zero, Nat.zero_add, Nat.reduceAdd]; apply Exists.intro; refine ⟨fun X hX => ?_, ?_⟩; (focus (obtain ⟨hcX, hfX⟩ := bcell hX; have hgX := regcell hX; have hsX := hX.size; (try simp only [World.size_alloc] at hsX); (repeat (go_big_quiet_step ((first | fail)))); exact wpQuiet_nil rfl)); simp only [wpND, told, toldAll, List.contains_cons, List.contains_nil, List.mem_cons, List.not_mem_nil, forall_eq_or_imp, false_implies, implies_true, and_true, Nat.reduceBEq, BEq.rfl, beq_self_eq_true, Bool.or_false, Bool.false_or, Bool.true_or, Bool.or_true, Bool.false_eq_true, if_true, if_false, true_implies, dstAt, List.getElem?_toArray, List.getElem?_cons_succ, List.getElem?_cons_zero, Option.some.injEq, forall_eq', Option.bind_some, Act.put, List.setIfInBounds_toArray, List.set_cons_succ, List.set_cons_zero])
    refine ⟨Cat2.stable, fun X hX => ?_, fun v1 => ⟨RowN.stable, fun X hX hf => ?_, fun v2 X hX hf => ?_⟩⟩
    · exact leaves_alloc' (v := .slice (some ⟨X.heap.size, 0, none⟩) 2 2) (obj := .cells #[.slice (some ⟨bl, ol, none⟩) k c, .slice (if c = k + 1 then some ⟨bl, ol, none⟩ else some ⟨bl, ol + (k + 1), none⟩) (l.length - (k + 1)) (c - (k + 1))] 25) (by kernel_rfl) ⟨X.heap.size, rfl, hX.size, heap_alloc_new _ _⟩
    · refine leaves_call' (f := 91) (args := #[v1]) (by kernel_rfl) ?_
      obtain ⟨bc, rfl, hbc, hcell⟩ := hf
      have hRX := HR.out.below' (bel_trans HB.out hX)
      have r1 : Rd X X.heap.size (some ⟨bl, ol, none⟩) ((l.take k).map (.int .i64)) := fun j u hj => by
       refine hRX j u ?_
       rw [List.getElem?_map] at hj ⊢
       have hjk : j < k := by
        rcases Nat.lt_or_ge j k with h | h
        · exact h
        · rw [List.getElem?_eq_none (by rw [List.length_take]; omega)] at hj; cases hj
       rwa [List.getElem?_take_of_lt hjk] at hj
      have r2 : Rd X X.heap.size (if c = k + 1 then some ⟨bl, ol, none⟩ else some ⟨bl, ol + (k + 1), none⟩) ((l.drop (k + 1)).map (.int .i64)) := by
       by_cases hck : c = k + 1
       · rw [List.drop_of_length_le (by omega)]
         exact Rd.nil _ _ _
       · rw [if_neg hck]
         intro j u hj
         rw [List.getElem?_map, List.getElem?_drop, ← List.getElem?_map] at hj
         obtain ⟨b, o, e, hb, hc⟩ := hRX (k + 1 + j) u hj
         injection e with e
         injection e with e1 e2
         subst e1 e2
         exact ⟨bl, ol + (k + 1), rfl, hb, by rw [show ol + (k + 1) + j = ol + (k + 1 + j) by omega]; exact hc⟩
      have hcat := int_Concat bc k c (l.length - (k + 1)) (c - (k + 1)) (some ⟨bl, ol, none⟩) (if c = k + 1 then some ⟨bl, ol, none⟩ else some ⟨bl, ol + (k + 1), none⟩) ((l.take k).map (.int .i64)) ((l.drop (k + 1)).map (.int .i64)) X (Array.getElem?_eq_some_iff.1 hcell).1 (by simp [World.cell?, hcell]) (by simp [World.cell?, hcell]) (by simp; omega) (by simp) r1 r2 (intsV_one _) (intsV_one _) (by omega) (by omega)
      refine hcat.mono ?_
      rintro e w' ⟨A', c', rfl, ho, hb⟩
      have hlo : (othL l k).length = k + (l.length - (k + 1)) := by unfold othL; rw [List.length_append, List.length_take, List.length_drop]; omega
      refine ⟨_, rfl, hb, A', c', by rw [hlo], ?_⟩
      rw [hlo]
      have : (othL l k).map (Value.int .i64) = (l.take k).map (.int .i64) ++ (l.drop (k + 1)).map (.int .i64) := by unfold othL; rw [List.map_append]
      rw [this]
      exact ownsRow_mono ho hX.size
    · generalize (if c = k + 1 then some (⟨bl, ol, none⟩ : Addr) else some ⟨bl, ol + (k + 1), none⟩) = AA at *
      obtain ⟨⟨A2, k2, rfl, ho2⟩, _⟩ := hf
      have hbX := bel_trans HB.out hX
      have hlo4 : (othL l k).length ≤ 4 := by unfold othL; rw [List.length_append, List.length_take, List.length_drop]; omega
      have haso : ascL (othL l k) := by
       unfold othL ascL at *
       have hs : (l.take k ++ l.drop (k + 1)).Sublist l := by
        have h1 : (l.take k ++ l.drop (k + 1)).Sublist (l.take k ++ l.drop k) := List.Sublist.append_left (by rw [List.drop_eq_getElem_cons hlt]; exact List.sublist_cons_self _ _) _
        rwa [List.take_append_drop] at h1
       exact hasc.sublist hs
      have HSET := Lib.hid (sets_any A2 k2 (othL l k) X hlo4 haso (Rd.of_own ho2))
      have hownX := ownsRow_below hown hX
      have hinX : ∀ p ∈ ps, InT X w.heap.size p := fun p hp => (hin p hp).below hX
      have hpsl : ps.length ≤ 64 := by
       have h1 := congrArg List.length hls
       rw [List.length_map] at h1
       have h2 := toksN_len l hl k hk
       omega
      have HOWN := Lib.hid hownX
      have HIN := Lib.hid hinX
      have HLS := Lib.hid hls
      have HBX := Lib.hid hbX
      have HX := Lib.hid hX
      clear hX hbX hownX hinX hls ho2 haso hown hin hlo4
      go_wp2_with (go_at_call 92; refine HSET.out.mono ?_; rintro e W1 ⟨els, B1, kB, rfl, hels, hrd, hino, hbW, htag⟩)
      have hel16 : els.length ≤ 16 := by
       have h1 := congrArg List.length hels
       have h2 := toksAt_len l hl k hlt
       unfold toksAt at h2
       rw [← hels] at h2
       simpa [rowsL] using h2
      have HO1 := Lib.hid (ownsRow_below HOWN.out hbW)
      have HIN1 := Lib.hid (fun p hp => (HIN.out p hp).below hbW)
      have HEL := Lib.hid hels
      have HBW := Lib.hid (bel_trans HBX.out hbW)
      have HRD := Lib.hid hrd
      have HINO := Lib.hid hino
      have HTAG := Lib.hid htag
      have hXw : w.heap.size ≤ X.heap.size := HBX.out.size
      clear hbW hels hrd hino htag
      go_loopw [3, 28] (fun out jx wx => ∃ (j : Nat) (news : List (Value × TokP)) (B : Option Addr) (cB : Nat), j ≤ els.length ∧ jx = .int .i64 j ∧ news.length = j ∧ out = .slice B (ps.length + j) cB ∧ wx.ownsRow w.heap.size 27 3 (.slice B (ps.length + j) cB) (ps.length + j) (toksV ps ++ toksV news) ∧ news.map (·.2) = (els.take j).map (fun p => ⟨n, p.2, 0⟩) ∧ (∀ p ∈ ps, InT wx w.heap.size p) ∧ (∀ p ∈ news, InT wx w.heap.size p) ∧ (∀ p ∈ els, InO wx w.heap.size p) ∧ Below w.heap.size w wx ∧ Rd wx wx.heap.size B1 (rowsV els) ∧ (∃ b cs fr, B1 = some ⟨b, 0, none⟩ ∧ wx.heap[b]? = some (.cells cs 25 fr))) (fun _ jx _ => els.length - (intOf jx).toNat)
      case atStart =>
       exact ⟨0, [], B, cB, Nat.zero_le _, rfl, rfl, rfl, by simpa [toksV] using HO1.out, rfl, HIN1.out, (fun p hp => by simp at hp), (fun p hp => by
        obtain ⟨A0, c0, h1, h2⟩ := HINO.out p hp
        exact ⟨A0, c0, h1, ownsRow_mono h2 hXw⟩), HBW.out, HRD.out, HTAG.out⟩
      case round =>
       obtain ⟨j, news, B2, cB2, hj2, rfl, hnl, rfl, hown, hls, hin, hinn, hino, hb, hrd, b1, cs1, fr1, rfl, htag⟩ := hrel
       by_cases hlt2 : j < els.length
       · obtain ⟨b1', o1, e, hB1, hc1⟩ := hrd.opened (by simp [rowsV]; omega)
         injection e with e
         injection e with e1 e2
         subst e1 e2
         have ej := hc1 j els[j].1 (by simp [rowsV, hlt2])
         rw [Nat.zero_add] at ej
         obtain ⟨Ai, ci, hv, hown1⟩ := hino els[j] (List.getElem_mem hlt2)
         rw [hv] at ej
         have htk : els.take (j + 1) = els.take j ++ [els[j]] := List.take_succ_eq_append_getElem hlt2
         obtain ⟨s, hs⟩ : ∃ s, s = els[j].2 := ⟨_, rfl⟩
         rw [← hs] at ej hown1
         have hls2 : (els.take (j + 1)).map (fun p : Value × List Int => (⟨n, p.2, 0⟩ : TokP)) = (els.take j).map (fun p => ⟨n, p.2, 0⟩) ++ [⟨n, s, 0⟩] := by rw [htk, List.map_append, hs]; rfl
         have hszw := hb.size
         have HLS0 := Lib.hid hls
         have HLS2 := Lib.hid hls2
         have HIN2 := Lib.hid hin
         have HINN := Lib.hid hinn
         have HINO2 := Lib.hid hino
         have HB2 := Lib.hid hb
         have HOW := Lib.hid hown
         have HO2 := Lib.hid hown1
         have HRD2 := Lib.hid hrd
         have HTG := Lib.hid htag
         clear htk hs hls2 hls hin hinn hino hb hown hv hown1 hrd hc1 htag
         go_wp2_with (at_builtin; refine wpList_push2 wr rfl (.tmp 32) (.tmp 36) 48 rfl w.heap.size 27 i0 _ 3 40 [.int .i64 n, .slice Ai s.length ci, .int .i64 0] Tryz.underlying48 hi hz0 hz1 hz2 rfl (by decide) (.slice B2 (ps.length + j) cB2) _ _ rfl HOW.out _ rfl rfl rfl (by intro u hu; simp at hu; rcases hu with rfl | rfl | rfl <;> rfl) (by unfold maxLen; omega) (by omega) hszw ?_; intro v2 w2 ow2 hg2 hor2 hk2 hb2; obtain ⟨A2', c2, rfl, _⟩ := ownsRow_form ow2)
         go_roundw
         case rel =>
          have keep : ∀ p, InO wr w.heap.size p → InO w2 w.heap.size p := fun p hp => (hp.below (bel_alloc (Below.refl _ _) _)).kept (HOW.out.alloc _) (by decide) hg2
          have hbe : w2.heap[b1]? = wr.heap[b1]? := by
           have hb1l : b1 < wr.heap.size := (Array.getElem?_eq_some_iff.1 HTG.out).1
           refine (hg2.block b1 (by simp; omega) (fun e => ?_)).trans (Below.heap_alloc _ _ _ hb1l)
           rcases HOW.out.2 with ⟨h0, _⟩ | ⟨g, cap, cur, h0, _, hgb, _⟩
           · rw [h0] at e; cases e
           · rw [h0] at e
             injection e with e
             subst e
             have := HTG.out
             rw [hgb] at this
             injection this with this
             injection this with _ h2 _
             exact absurd h2 (by decide)
          refine ⟨j + 1, news ++ [(.slice Ai s.length ci, ⟨n, s, 0⟩)], A2', c2, by omega, by go_num, by rw [List.length_append, hnl]; rfl, rfl, ?_, ?_, fun p hp => keep _ (HIN2.out p hp), fun p hp => ?_, fun p hp => keep p (HINO2.out p hp), HB2.out.trans hb2, ?_, b1, cs1, fr1, rfl, hbe.trans HTG.out⟩
          · have : toksV ps ++ toksV (news ++ [(.slice Ai s.length ci, ⟨n, s, 0⟩)]) = (toksV ps ++ toksV news) ++ [.int .i64 n, .slice Ai s.length ci, .int .i64 0] := by simp [toksV, tokCl]
            rw [this]; exact ow2
          · rw [HLS2.out, List.map_append, HLS0.out]; rfl
          · rcases List.mem_append.1 hp with hp | hp
            · exact keep _ (HINN.out p hp)
            · obtain rfl : p = (.slice Ai s.length ci, ⟨n, s, 0⟩) := by simpa using hp
              exact keep _ ⟨Ai, ci, rfl, HO2.out⟩
          · intro i u hi
            obtain ⟨b, o, e, hb, hc⟩ := HRD2.out i u hi
            injection e with e
            injection e with e1 e2
            subst e1 e2
            exact ⟨b1, 0, rfl, by have := hb2.size; omega, (World.cell?_of_block (w := wr) (a := ⟨b1, 0 + i, none⟩) hbe).trans hc⟩
         case measure => simp [intOf]; omega
       · obtain rfl : j = els.length := by omega
         go_wp2
         go_roundw
         case rel =>
          refine ⟨k + 1, ps ++ news, B2, cB2, by omega, by go_num, by rw [List.length_append, hnl], ?_, ?_, ?_, hb⟩
          · rw [List.length_append, hnl]
            have : toksV (ps ++ news) = toksV ps ++ toksV news := by simp [toksV]
            rw [this]; exact hown
          · rw [List.map_append, HLS.out, toksN_succ, hls, List.take_length]
            congr 1
            unfold toksAt
            rw [← HEL.out]
            unfold rowsL
            rw [List.map_map]
            have hn2 : l.getD k 0 = n := by rw [HN.out, List.getD_eq_getElem?_getD, List.getElem?_eq_getElem hlt]; rfl
            rw [hn2]
            rfl
          · intro p hp
            rcases List.mem_append.1 hp with hp | hp
            · exact hin p hp
            · exact hinn p hp
         case measure => simp [intOf]; omega
  · obtain rfl : k = l.length := by omega
    go_wp2
    go_ret
    exact ⟨ps, B, cB, rfl, hls, hown, hin, hb⟩
end Go.Proofs.YtanicpgmbhfipaaGreatDoor
