/-
  Chapter 21: the law LogopApplies: its walk.
-/
import Derived.Test.YtgmipogidmcilaaDoorOpLst
import Derived.Test.YtgmipogidmcilaaDoorOpLaw
import Derived.Test.YtgmipogidmcilaaDoorOpArg2
namespace Go.Proofs.YtgmipogidmcilaaDoor
set_option linter.unusedVariables false
set_option linter.unusedSimpArgs false
open Go.RowKit Go.Sort

theorem short_no {x : Op} (h : ¬ (x.o.size ≤ 600 ∧ x.n.size ≤ 600)) : (decide (x.o.size ≤ 600) && decide (x.n.size ≤ 600)) = false := by
  rw [Bool.and_eq_false_iff, decide_eq_false_iff_not, decide_eq_false_iff_not]
  by_cases h1 : x.o.size ≤ 600
  · exact .inr fun h2 => h ⟨h1, h2⟩
  · exact .inl h1
theorem short_yes {x : Op} (h : x.o.size ≤ 600 ∧ x.n.size ≤ 600) : (decide (x.o.size ≤ 600) && decide (x.n.size ≤ 600)) = true := by simp [h.1, h.2]

set_option maxRecDepth 100000 in
set_option maxHeartbeats 4000000 in
theorem wLogopApplies {w : World} (p : ByteArray) (hp : p.size ≤ maxLen) (A : Option Addr) (c : Nat) (l : List Op) (hl : l.length ≤ maxLen) (hr0 : Rd w w.heap.size A (opsV l)) (hg : ∀ x ∈ l, OpMax x) :
    Calls Tryd.prog 3 #[.string p, .slice A l.length c] w fun e w' => e = .returned (.bool true) ∧ Below w.heap.size w w' := by
  have hPL := fun W => pageLike_any p W hp
  have HAW := Lib.hid awake21_any
  by_cases h1 : p.size ≤ 522
  · rw [decide_eq_true h1] at hPL
    have HPL := Lib.hid hPL
    clear hPL
    by_cases h2 : l.length ≤ 70
    · have h2' : (l.length : Int) ≤ 70 := by omega
      have q0 : Ols w w A (opsV l) := ⟨Below.refl _ _, hr0⟩
      have HG := Lib.hid hg
      have h3 : decide ((l.length : Int) > 70) = false := by simp; omega
      clear hr0 hg
      go_enter Tryd.func3, Tryd.ntmps3
      go_wp2_with (first | (go_at_call 12; (with_reducible refine (HAW.out _).mono ?_); rintro e W1 ⟨rfl, hbW1⟩; have q1 := q0.next hbW1; clear hbW1) | (go_at_call 13; (with_reducible refine (HPL.out _).mono ?_); rintro e w' ⟨rfl, rfl⟩))
      go_loopw [5] (fun i wr => ∃ k : Nat, k ≤ l.length ∧ i = .int .i64 k ∧ Ols w wr A (opsV l) ∧ ∀ j (h : j < l.length), j < k → l[j].o.size ≤ 600 ∧ l[j].n.size ≤ 600) (fun i _ => l.length - (intOf i).toNat)
      case atStart => exact ⟨0, Nat.zero_le _, rfl, q1, fun j h hj => absurd hj (Nat.not_lt_zero _)⟩
      case round =>
        obtain ⟨k, hk, rfl, q2, hsh⟩ := hrel
        have HSH := Lib.hid hsh
        clear hsh q0 q1
        by_cases hlt : k < l.length
        · obtain ⟨b, o, rfl, hB, hc⟩ := op_cells q2.2 (by omega)
          obtain ⟨c0, c1, c2, c3, c4, c5⟩ := hc k hlt
          have hmx := HG.out l[k] (List.getElem_mem hlt)
          obtain ⟨x, hx⟩ : ∃ x, x = l[k] := ⟨_, rfl⟩
          rw [← hx] at c0 c1 c2 c3 c4 c5 hmx
          have hS := fun W => short_any x W hmx.1 hmx.2
          have hlt' : (k : Int) < l.length := by omega
          by_cases hs : x.o.size ≤ 600 ∧ x.n.size ≤ 600
          · rw [short_yes hs] at hS
            have HS := Lib.hid hS
            have HX := Lib.hid hx
            have HSS := Lib.hid hs
            clear hS hx hs hc
            unfold opV at HS
            go_wp2_with (go_at_call 14; (with_reducible refine (HS.out _).mono ?_); rintro e W2 ⟨rfl, hbW2⟩; have q3 := q2.next hbW2; clear hbW2)
            go_roundw
            case rel =>
              refine ⟨k + 1, by omega, by go_num, q3, fun j h hj => ?_⟩
              by_cases hjk : j < k
              · exact HSH.out j h hjk
              · obtain rfl : j = k := by omega
                rw [← HX.out]; exact HSS.out
            case measure => simp [intOf]; omega
          · rw [short_no hs] at hS
            have HS := Lib.hid hS
            clear hS hx hs hc
            unfold opV at HS
            go_wp2_with (go_at_call 14; (with_reducible refine (HS.out _).mono ?_); rintro e W2 ⟨rfl, hbW2⟩; have q3 := q2.next hbW2; clear hbW2)
            go_ret
            exact ⟨rfl, q3.1⟩
        · obtain rfl : k = l.length := by omega
          have hso : ShortOps l := fun j h => by have := HSH.out j h h; omega
          have hk1 : l.length ≤ 1000 := by omega
          have HSO := Lib.hid hso
          have HRA := Lib.hid (fun A c W hr => refAll_any p A c l W hp hk1 hso hr)
          have HAA := Lib.hid (fun A c W hr => AppliedAll_any p A c l W hp hk1 hso hr)
          obtain ⟨⟨s, n, er⟩, hres⟩ : ∃ t, t = opAll p l := ⟨_, rfl⟩
          have hRA := HRA.out
          have hAA := HAA.out
          rw [← hres] at hRA hAA
          dsimp only at hRA hAA
          have HRA := Lib.hid hRA
          have HAA := Lib.hid hAA
          clear hRA hAA hres hso
          have l2 := q2.2
          by_cases h0 : l.length = 0
          · have h0' : ((l.length : Int) == 0) = true := by rw [h0]; rfl
            have H0 := Lib.hid h0
            clear h0
            go_wp2_with (first
              | (go_at_call 16; (with_reducible refine (CopyOps_rd A c l wr hk1 l2).mono ?_); rintro e W2 ⟨A2, c2, rfl, r2, hb2⟩; have q3 := q2.next hb2; clear hb2)
              | (go_at_call 15; (with_reducible refine (HAA.out A2 c2 W2 r2).mono ?_); rintro e W3 ⟨rfl, hb3⟩; have q4 := q3.next hb3; have l4 := q4.2; clear hb3)
              | (go_at_call 17; (with_reducible refine (HRA.out A c W3 l4).mono ?_); rintro e W4 ⟨rfl, hb4⟩; have q5 := q4.next hb4; have l5 := q5.2; clear hb4))
            go_ret
            exact ⟨rfl, q5.1⟩
          · have h0' : ((l.length : Int) == 0) = false := by rw [beq_eq_false_iff_ne]; omega
            have hpos : 0 < l.length := by omega
            have hposI : (0 : Int) < (l.length : Int) := by omega
            obtain ⟨b, o, rfl, hB, _⟩ := op_cells q2.2 hpos
            have hxc := fun W B (h : Rd W B (some ⟨b, o, none⟩) (opsV l)) => op_cells_zero h hpos
            have hsz := HSO.out 0 hpos
            obtain ⟨x, hx⟩ : ∃ x, x = l[0] := ⟨_, rfl⟩
            rw [← hx] at hxc hsz
            have hA1 := fun W => Applied_any p x W hp hsz.1 hsz.2
            have hPE := fun W => PageErr_any p W hp
            have HXC := Lib.hid hxc
            have hlt' : b < wr.heap.size := hB
            have hone : opOne p x = if pageE p ≠ 0 then (⟨#[]⟩, pageE p) else opTry p x := rfl
            by_cases hz : pageE p = 0
            · have hT := fun W => Try_any p x W (pageE_zero.1 hz) hsz.1 hsz.2
              rw [if_neg (fun h => h hz)] at hone
              rw [hone] at hA1
              obtain ⟨⟨s1, e1⟩, hse⟩ : ∃ t, t = opTry p x := ⟨_, rfl⟩
              rw [← hse] at hA1 hT
              rw [hz] at hPE
              dsimp only at hA1 hT
              unfold opV at hA1 hT
              have HA1 := Lib.hid hA1
              have HT := Lib.hid hT
              have HPE := Lib.hid hPE
              clear hA1 hT hPE hone hse hz hx hxc h0
              go_wp2_with (first
              | (go_at_call 16; (with_reducible refine (CopyOps_rd (some ⟨b, o, none⟩) c l wr hk1 l2).mono ?_); rintro e W2 ⟨A2, c2, rfl, r2, hb2⟩; have q3 := q2.next hb2; clear hb2)
              | (go_at_call 15; (with_reducible refine (HAA.out A2 c2 W2 r2).mono ?_); rintro e W3 ⟨rfl, hb3⟩; have q4 := q3.next hb3; have l4 := q4.2; clear hb3)
              | (go_at_call 17; (with_reducible refine (HRA.out (some ⟨b, o, none⟩) c W3 l4).mono ?_); rintro e W4 ⟨rfl, hb4⟩; have q5 := q4.next hb4; have l5 := q5.2; clear hb4; obtain ⟨c0, c1, c2, c3, c4, c5⟩ := HXC.out _ _ l5)
              | (go_at_call 18; (with_reducible refine (HA1.out _).mono ?_); rintro e W5 ⟨rfl, hb5⟩; have q6 := q5.next hb5; have l6 := q6.2; obtain ⟨d0, d1, d2, d3, d4, d5⟩ := HXC.out _ _ l6; clear hb5)
              | (go_at_call 19; (with_reducible refine (HPE.out _).mono ?_); rintro e w' ⟨rfl, rfl⟩)
              | (go_at_call 20; (with_reducible refine (HT.out _).mono ?_); rintro e W6 ⟨rfl, hb6⟩; have q7 := q6.next hb6; clear hb6))
              go_ret
              exact ⟨rfl, q7.1⟩
            · rw [if_pos hz] at hone
              rw [hone] at hA1
              obtain ⟨e1, hse⟩ : ∃ t, t = pageE p := ⟨_, rfl⟩
              rw [← hse] at hA1 hPE hz
              have hz' : (e1 != 0) = true := by simp [hz]
              dsimp only at hA1
              unfold opV at hA1
              have HA1 := Lib.hid hA1
              have HPE := Lib.hid hPE
              clear hA1 hPE hone hse hz hx hxc h0
              go_wp2_with (first
              | (go_at_call 16; (with_reducible refine (CopyOps_rd (some ⟨b, o, none⟩) c l wr hk1 l2).mono ?_); rintro e W2 ⟨A2, c2, rfl, r2, hb2⟩; have q3 := q2.next hb2; clear hb2)
              | (go_at_call 15; (with_reducible refine (HAA.out A2 c2 W2 r2).mono ?_); rintro e W3 ⟨rfl, hb3⟩; have q4 := q3.next hb3; have l4 := q4.2; clear hb3)
              | (go_at_call 17; (with_reducible refine (HRA.out (some ⟨b, o, none⟩) c W3 l4).mono ?_); rintro e W4 ⟨rfl, hb4⟩; have q5 := q4.next hb4; have l5 := q5.2; clear hb4; obtain ⟨c0, c1, c2, c3, c4, c5⟩ := HXC.out _ _ l5)
              | (go_at_call 18; (with_reducible refine (HA1.out _).mono ?_); rintro e W5 ⟨rfl, hb5⟩; have q6 := q5.next hb5; have l6 := q6.2; clear hb5)
              | (go_at_call 19; (with_reducible refine (HPE.out _).mono ?_); rintro e w' ⟨rfl, rfl⟩))
              go_ret
              exact ⟨rfl, q6.1⟩
    · have h3 : decide ((l.length : Int) > 70) = true := by simp; omega
      clear h2 hr0 hg
      go_enter Tryd.func3, Tryd.ntmps3
      go_wp2_with (first | (go_at_call 12; (with_reducible refine (HAW.out _).mono ?_); rintro e W1 ⟨rfl, hbW1⟩) | (go_at_call 13; (with_reducible refine (HPL.out _).mono ?_); rintro e w' ⟨rfl, rfl⟩))
      go_ret
      exact ⟨rfl, hbW1⟩
  · rw [decide_eq_false h1] at hPL
    have HPL := Lib.hid hPL
    clear hPL hr0 hg
    go_enter Tryd.func3, Tryd.ntmps3
    go_wp2_with (first | (go_at_call 12; (with_reducible refine (HAW.out _).mono ?_); rintro e W1 ⟨rfl, hbW1⟩) | (go_at_call 13; (with_reducible refine (HPL.out _).mono ?_); rintro e w' ⟨rfl, rfl⟩))
    go_ret
    exact ⟨rfl, hbW1⟩
end Go.Proofs.YtgmipogidmcilaaDoor
