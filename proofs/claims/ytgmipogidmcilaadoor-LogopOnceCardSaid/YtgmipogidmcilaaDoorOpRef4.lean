/-
  Chapter 21: Between of the reference.
-/
import Derived.Test.YtgmipogidmcilaaDoorOpRef3
import Derived.Test.YtgmipogidmcilaaDoorPush
import Derived.IntWalk
namespace Go.Proofs.YtgmipogidmcilaaDoor
set_option linter.unusedVariables false
set_option linter.unusedSimpArgs false
open Go.RowKit Go.Sort

theorem betL_skip {a b : ByteArray} {k : Nat} (hk : k < 512) (h : dif a b k = false) (f : Nat) : betL a b f k = betL a b f (k + 1) := by
  cases f with
  | zero => rfl
  | succ f => unfold betL; rw [patSkip_same hk h]
/-- a slice that reads as xs is handed back; nothing old has turned -/
def RetRd (w : World) (n : Nat) (xs : List Value) (e : Ending) (w' : World) : Prop := ∃ A c, e = .returned (.slice A n c) ∧ Rd w' w'.heap.size A xs ∧ Below w.heap.size w w'
set_option maxRecDepth 100000 in
set_option maxHeartbeats 4000000 in
theorem refBetween_any (a b : ByteArray) (w : World) (ha : a.size = 512) (hb : b.size = 512) :
    Calls Tryd.prog 27 #[.string a, .string b] w (RetRd w (between a b).length (opsV (between a b))) := by
  obtain ⟨i0, hi, hz0, hz1, hz2⟩ := info_parts info_op
  have HA := Lib.hid ha
  have HB := Lib.hid hb
  have hal : (a.size : Int) ≤ 512 := by omega
  have hag : (512 : Int) ≤ a.size := by omega
  clear ha hb
  go_enter Tryd.func27, Tryd.ntmps27
  go_wp2
  go_loopw [5, 6] (fun v t wr => ∃ (k f : Nat) (done : List Op), k ≤ 512 ∧ 512 < k + f ∧ done.length + f ≤ 513 ∧ t = .int .i64 k ∧
    wr.ownsRow w.heap.size 27 6 v done.length (opsV done) ∧ Below w.heap.size w wr ∧ between a b = done ++ betL a b f k)
    (fun _ t _ => 512 - (intOf t).toNat)
  case atStart => exact ⟨0, 513, [], Nat.zero_le _, by omega, by simp, rfl, World.ownsRow_nil _ _ _ _, Below.refl _ _, rfl⟩
  case round =>
    obtain ⟨k, f, done, hk, hf, hdl, rfl, hown, hb, hbet⟩ := hrel
    have HBET := Lib.hid hbet
    clear hbet
    have hbs := hb.size
    by_cases hlt : k < 512
    · have hka : k < a.size := by have := HA.out; omega
      have hkb : k < b.size := by have := HB.out; omega
      have hka' : (k : Int) < a.size := by omega
      obtain ⟨d, hd⟩ : ∃ d, d = dif a b k := ⟨_, rfl⟩
      obtain ⟨d1, _⟩ := dif_get a b k hka hkb
      rw [← hd] at d1
      have HD := Lib.hid hd
      clear hd
      cases d
      · have d1 : ((a[k].toNat : Int) == (b[k].toNat : Int)) = true := d1
        go_wp2
        go_quiet (fail)
        go_wp2
        go_roundw
        case rel => exact ⟨k + 1, f, done, by omega, by omega, hdl, by go_num, ownsRow_drewN hown _, bel_drewN hb _, by rw [HBET.out, betL_skip hlt HD.out.symm]⟩
        case measure => simp [intOf]; omega
      · have d1 : ((a[k].toNat : Int) == (b[k].toNat : Int)) = false := d1
        have hps : patSkip a b k = k := patSkip_dif hlt HD.out.symm
        obtain ⟨f', rfl⟩ : ∃ f', f = f' + 1 := ⟨f - 1, by omega⟩
        have hnext : betL a b (f' + 1) k = patOp a b k (patEnd a b k) :: betL a b f' (patEnd a b k) := by
          have := betL_next (a := a) (b := b) (k := k) (by rw [hps]; omega) f'
          rw [hps] at this; exact this
        have hbd := patEnd_bd a b k hlt
        obtain ⟨lim, hlim⟩ : ∃ lim, lim = patLim k := ⟨_, rfl⟩
        have hl1 : lim ≤ 512 := by rw [hlim]; unfold patLim; omega
        have hl2 : lim ≤ k + 200 := by rw [hlim]; unfold patLim; omega
        have hl3 : ¬ (lim < 512 ∧ lim < k + 200) := by rw [hlim]; unfold patLim; omega
        have hl4 : k + 1 ≤ lim := by rw [hlim]; unfold patLim; omega
        have hst : patEnd a b k = endAt a b lim (lim - k) k (k + 1) := by
          rw [endAt_go (by omega)]
          unfold patEnd
          rw [← hlim]; simp
        obtain ⟨A, c, rfl, hrd⟩ := ownsRow_form hown
        have HST := Lib.hid hst
        have HN := Lib.hid hnext
        have HBD := Lib.hid hbd
        clear hlim hps hst hnext hbd hrd
        go_wp2
        go_quiet (fail)
        go_wp2
        go_loopw [7, 8] (fun sl si wi => ∃ (m i : Nat), k ≤ m ∧ m ≤ i ∧ i ≤ lim ∧ sl = .int .i64 m ∧ si = .int .i64 i ∧ (∃ nd, wi = wr.drewN nd) ∧ patEnd a b k = endAt a b lim (lim - i) i (m + 1)) (fun _ si _ => 512 - (intOf si).toNat)
        case atStart => exact ⟨k, k, Nat.le_refl _, Nat.le_refl _, by omega, rfl, rfl, ⟨nq, rfl⟩, HST.out⟩
        case round =>
          obtain ⟨m, i, hm1, hm2, hi1, rfl, rfl, ⟨nd, rfl⟩, hend⟩ := hrel
          have HE := Lib.hid hend
          clear hend d1
          by_cases hc : i < lim ∧ i < m + 1 + 4
          · obtain ⟨hc1, hc2⟩ := hc
            have hia : i < a.size := by have := HA.out; omega
            have hib : i < b.size := by have := HB.out; omega
            have hia' : (i : Int) < a.size := by omega
            have hib' : (i : Int) < b.size := by omega
            obtain ⟨d, hd⟩ : ∃ d, d = dif a b i := ⟨_, rfl⟩
            obtain ⟨_, d2⟩ := dif_get a b i hia hib
            rw [← hd] at d2
            have hgo := endAt_go (a := a) (b := b) ⟨hc1, hc2⟩
            rw [← hd] at hgo
            have HGO := Lib.hid hgo
            have hmin2 : (i : Int) < (k : Int) + 200 := by omega
            have hmin3 : (i : Int) - (m : Int) ≤ 4 := by omega
            have hmin4 : 0 ≤ (i : Int) - (m : Int) := by omega
            clear hd hgo
            cases d
            · go_wp2
              go_quiet (fail)
              go_wp2
              go_roundw
              case rel => exact ⟨m, i + 1, hm1, by omega, by omega, rfl, by go_num, ⟨nd + nq, rfl⟩, HE.out.trans HGO.out⟩
              case measure => simp [intOf]; omega
            · go_wp2
              go_quiet (fail)
              go_wp2
              go_roundw
              case rel => exact ⟨i, i + 1, by omega, by omega, by omega, rfl, by go_num, ⟨nd + nq, rfl⟩, HE.out.trans HGO.out⟩
              case measure => simp [intOf]; omega
          · have hstop := endAt_stop (a := a) (b := b) hc (lim - i)
            have hpe : patEnd a b k = m + 1 := HE.out.trans hstop
            have hbd := HBD.out
            rw [hpe] at hbd
            obtain ⟨q1, q2, q3⟩ := hbd
            have hea : (m : Int) + 1 ≤ a.size := by omega
            have heb : (m : Int) + 1 ≤ b.size := by have := HB.out; omega
            have w1 : IntKind.i64.wrap ((m : Int) + 1) = (m : Int) + 1 := IntWalk.i64_in _ (by omega)
            have w2 : 0 ≤ (m : Int) + 1 := by omega
            have w4 : (k : Int) ≤ (m : Int) + 1 := by omega
            have w3 : ((m : Int) + 1).toNat = m + 1 := by omega
            have HPE := Lib.hid hpe
            have W1 := Lib.hid w1
            have W3 := Lib.hid w3
            clear hstop hpe w1 w3
            by_cases e1 : i < 512
            · have e1' : (i : Int) < a.size := by omega
              by_cases e2 : i < k + 200
              · have e2' : (i : Int) < (k : Int) + 200 := by omega
                have e3' : ¬ (i : Int) - (m : Int) ≤ 4 := by omega
                have e3'' : 0 ≤ (i : Int) - (m : Int) := by omega
                go_wp2
                have f1 : done.length + 1 ≤ maxLen := by unfold maxLen; omega
                have f2 : (done.length + 1) * 64 ≤ 140737488355328 := by omega
                have q8 := W1.out
                have q9 := W3.out
                go_region_law (first | (refine step_push _ rfl (.tmp 50) (.tmp 63) 22 rfl w.heap.size 27 i0 _ 6 64 [.int .i64 1, .int .i64 k, .int .i64 0, .int .i64 0, .string (a.extract k (m + 1)), .string (b.extract k (m + 1))] Tryd.underlying22 hi hz0 hz1 hz2 rfl (by decide) (.slice A done.length c) _ _ rfl (ownsRow_drewN hown (nd + 1)) _ rfl rfl rfl (by intro u hu; simp at hu; rcases hu with rfl | rfl | rfl | rfl | rfl | rfl <;> rfl) f1 f2 hbs ?_; intro v1 w1 hown1 hbe1))
                all_goals
                  clear q8 q9
                  go_wp2
                  go_roundw
                  case rel =>
                    refine ⟨m + 1, f', done ++ [patOp a b k (m + 1)], q2, by omega, by simp; omega, by go_num, ?_, (below_drewN hb (nd + 1)).trans hbe1, by rw [HBET.out, HN.out, HPE.out, List.append_assoc]; rfl⟩
                    rw [opsV_snoc, List.length_append]; exact hown1
                  case measure => simp [intOf]; omega
              · have e2' : ¬ (i : Int) < (k : Int) + 200 := by omega
                go_wp2
                have f1 : done.length + 1 ≤ maxLen := by unfold maxLen; omega
                have f2 : (done.length + 1) * 64 ≤ 140737488355328 := by omega
                have q8 := W1.out
                have q9 := W3.out
                go_region_law (first | (refine step_push _ rfl (.tmp 50) (.tmp 63) 22 rfl w.heap.size 27 i0 _ 6 64 [.int .i64 1, .int .i64 k, .int .i64 0, .int .i64 0, .string (a.extract k (m + 1)), .string (b.extract k (m + 1))] Tryd.underlying22 hi hz0 hz1 hz2 rfl (by decide) (.slice A done.length c) _ _ rfl (ownsRow_drewN hown (nd + 1)) _ rfl rfl rfl (by intro u hu; simp at hu; rcases hu with rfl | rfl | rfl | rfl | rfl | rfl <;> rfl) f1 f2 hbs ?_; intro v1 w1 hown1 hbe1))
                all_goals
                  clear q8 q9
                  go_wp2
                  go_roundw
                  case rel =>
                    refine ⟨m + 1, f', done ++ [patOp a b k (m + 1)], q2, by omega, by simp; omega, by go_num, ?_, (below_drewN hb (nd + 1)).trans hbe1, by rw [HBET.out, HN.out, HPE.out, List.append_assoc]; rfl⟩
                    rw [opsV_snoc, List.length_append]; exact hown1
                  case measure => simp [intOf]; omega
            · have e1' : ¬ (i : Int) < a.size := by omega
              go_wp2
              have f1 : done.length + 1 ≤ maxLen := by unfold maxLen; omega
              have f2 : (done.length + 1) * 64 ≤ 140737488355328 := by omega
              have q8 := W1.out
              have q9 := W3.out
              go_region_law (first | (refine step_push _ rfl (.tmp 50) (.tmp 63) 22 rfl w.heap.size 27 i0 _ 6 64 [.int .i64 1, .int .i64 k, .int .i64 0, .int .i64 0, .string (a.extract k (m + 1)), .string (b.extract k (m + 1))] Tryd.underlying22 hi hz0 hz1 hz2 rfl (by decide) (.slice A done.length c) _ _ rfl (ownsRow_drewN hown (nd + 1)) _ rfl rfl rfl (by intro u hu; simp at hu; rcases hu with rfl | rfl | rfl | rfl | rfl | rfl <;> rfl) f1 f2 hbs ?_; intro v1 w1 hown1 hbe1))
              all_goals
                clear q8 q9
                go_wp2
                go_roundw
                case rel =>
                  refine ⟨m + 1, f', done ++ [patOp a b k (m + 1)], q2, by omega, by simp; omega, by go_num, ?_, (below_drewN hb (nd + 1)).trans hbe1, by rw [HBET.out, HN.out, HPE.out, List.append_assoc]; rfl⟩
                  rw [opsV_snoc, List.length_append]; exact hown1
                case measure => simp [intOf]; omega
    · obtain rfl : k = 512 := by omega
      have hka' : ¬ (512 : Int) < a.size := by omega
      obtain ⟨A, c, rfl, hrd⟩ := ownsRow_form hown
      have hend : between a b = done := by rw [HBET.out, betL_end (patSkip_end a b), List.append_nil]
      have HEND := Lib.hid hend
      clear hend hown
      go_wp2
      go_ret
      exact ⟨A, c, (by show Ending.returned (.slice A done.length c) = _; rw [HEND.out]), by rw [HEND.out]; exact hrd, hb⟩
end Go.Proofs.YtgmipogidmcilaaDoor
