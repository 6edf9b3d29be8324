/-
  Chapter 1: the reference's bytes of values: errors of values, fields, all fields.
-/
import Derived.Test.YtiomfkgbaemmkaaDoorDec2
namespace Go.Proofs.YtiomfkgbaemmkaaDoor
set_option linter.unusedVariables false
set_option linter.unusedSimpArgs false
open Go.RowKit Go.Sort

theorem es_size : (⟨#[]⟩ : ByteArray).size = 0 := rfl
theorem es_tl : (⟨#[]⟩ : ByteArray).toList.isEmpty = true := (tl_empty _).2 rfl

set_option maxRecDepth 100000 in
theorem refFieldErr_ok0 (z n : Int) (A : Option Addr) (c : Nat) (w : World) (hz : fldE 0 z = 0) :
    Calls Tryd.prog 29 #[.agg #[.int .i64 0, .int .i64 z], .agg #[.int .i64 n, .string ⟨#[]⟩, .slice A ([] : List Int).length c]] w fun e w' => e = .returned (.int .i64 (valE 0 z n ⟨#[]⟩ [])) ∧ Below w.heap.size w w' := by
  obtain ⟨_, _, hz1, hz2⟩ := fldE_zero hz
  have hz1' : 1 ≤ z := hz1
  have hz2' : z ≤ 6 := hz2
  clear hz hz1 hz2
  obtain ⟨hp, hp1⟩ := And.intro (pow256_le z.toNat (by omega)) (pow256_pos z.toNat)
  have hv : valE 0 z n ⟨#[]⟩ [] = unl (inB n 0 (256 ^ z.toNat - 1)) 2 := by
    unfold valE
    cases h : inB n 0 (256 ^ z.toNat - 1) <;> simp [formB, fitsB, fits0, allB, firstE, unl, opn, es_tl, h]
  have HV := Lib.hid hv
  clear hv
  cases hi : inB n 0 (256 ^ z.toNat - 1)
  all_goals
    have HI := Lib.hid hi
    go_enter Tryd.func29, Tryd.ntmps29
    go_wp2
    go_quiet (fail)
    go_wp2
    (refine wp_region_quiet_below (by kernel_rfl) (by kernel_rfl) ?_; (repeat (go_big_quiet_step ((first | (go_at_call 53; exact Calls.reg_pure (power256_any _ _ (by omega) (by omega))) | (go_at_call 52; exact Calls.reg_pure (Within_any _ _ _ _)))))); (with_reducible refine wpQuiet_nil ?_); intro W1 hreg; have hbW1 := below_of_reg hreg; clear hreg; obtain ⟨hcW1, hfW1⟩ := bcell hbW1)
    go_wp2
    go_ret
    exact ⟨retI (by rw [HV.out, HI.out]; rfl), bel_trans (bel_drewN (bel_alloc (bel_alloc (Below.refl _ _) _) _) _) hbW1⟩

set_option maxRecDepth 100000 in
theorem refFieldErr_ok1 (z : Int) (s : ByteArray) (A : Option Addr) (c : Nat) (w : World) (hz : fldE 1 z = 0) (hs : s.size ≤ maxLen) :
    Calls Tryd.prog 29 #[.agg #[.int .i64 1, .int .i64 z], .agg #[.int .i64 0, .string s, .slice A ([] : List Int).length c]] w fun e w' => e = .returned (.int .i64 (valE 1 z 0 s [])) ∧ Below w.heap.size w w' := by
  have hv : valE 1 z 0 s [] = unl ((s.size : Int) == z) 10 := by
    unfold valE
    cases h : ((s.size : Int) == z) <;> (try simp only [h]) <;> simp [formB, fitsB, fits0, allB, firstE, unl, opn]
  have HV := Lib.hid hv
  unfold maxLen at hs
  clear hv hz
  cases hi : ((s.size : Int) == z)
  all_goals
    have HI := Lib.hid hi
    have hi' : ((s.size : Int) != z) = !((s.size : Int) == z) := rfl
    rw [hi] at hi'
    clear hi
    go_enter Tryd.func29, Tryd.ntmps29
    go_wp2
    go_quiet (fail)
    go_wp2
    go_ret
    exact ⟨retI (by rw [HV.out, HI.out]; rfl), by (repeat (first | assumption | exact Below.refl _ _ | refine bel_drewN ?_ _ | refine bel_alloc ?_ _ | refine bel_trans ?_ (by assumption) | refine Below.trans ?_ (by assumption)))⟩

set_option maxRecDepth 100000 in
theorem refFieldErr_ok2 (z : Int) (s : ByteArray) (A : Option Addr) (c : Nat) (w : World) (hz : fldE 2 z = 0) (hs : s.size ≤ maxLen) :
    Calls Tryd.prog 29 #[.agg #[.int .i64 2, .int .i64 z], .agg #[.int .i64 0, .string s, .slice A ([] : List Int).length c]] w fun e w' => e = .returned (.int .i64 (valE 2 z 0 s [])) ∧ Below w.heap.size w w' := by
  obtain ⟨_, _, hz1, hz2⟩ := fldE_zero hz
  have hz1' : 0 ≤ z := hz1
  have hv : valE 2 z 0 s [] = unl (decide ((s.size : Int) ≤ z)) 8 := by
    unfold valE
    have h0 : decide ((0 : Int) ≤ z) = true := by simpa using hz1'
    cases h : (decide ((s.size : Int) ≤ z)) <;> (try simp only [h]) <;> simp [formB, fitsB, fits0, allB, firstE, unl, opn, hz1']
  have HV := Lib.hid hv
  unfold maxLen at hs
  clear hv hz hz1 hz2
  by_cases hi : (s.size : Int) ≤ z
  · have HI := Lib.hid (decide_eq_true hi)
    go_enter Tryd.func29, Tryd.ntmps29
    go_wp2
    go_quiet (fail)
    go_wp2
    go_ret
    exact ⟨retI (by rw [HV.out, HI.out]; rfl), by (repeat (first | assumption | exact Below.refl _ _ | refine bel_drewN ?_ _ | refine bel_alloc ?_ _ | refine bel_trans ?_ (by assumption) | refine Below.trans ?_ (by assumption)))⟩
  · have HI := Lib.hid (decide_eq_false hi)
    have hi' : z < s.size := by omega
    clear hi
    go_enter Tryd.func29, Tryd.ntmps29
    go_wp2
    go_quiet (fail)
    go_wp2
    go_ret
    exact ⟨retI (by rw [HV.out, HI.out]; rfl), by (repeat (first | assumption | exact Below.refl _ _ | refine bel_drewN ?_ _ | refine bel_alloc ?_ _ | refine bel_trans ?_ (by assumption) | refine Below.trans ?_ (by assumption)))⟩

set_option maxRecDepth 100000 in
theorem refFieldErr_ok4 (z : Int) (A : Option Addr) (c : Nat) (w : World) (hz : fldE 4 z = 0) :
    Calls Tryd.prog 29 #[.agg #[.int .i64 4, .int .i64 z], .agg #[.int .i64 0, .string ⟨#[]⟩, .slice A ([] : List Int).length c]] w fun e w' => e = .returned (.int .i64 (valE 4 z 0 ⟨#[]⟩ [])) ∧ Below w.heap.size w w' := by
  have hv : valE 4 z 0 ⟨#[]⟩ [] = 0 := by
    unfold valE
    simp [formB, fitsB, fits0, allB, firstE, unl, opn, es_tl]
  have HV := Lib.hid hv
  clear hv hz
  go_enter Tryd.func29, Tryd.ntmps29
  go_wp2
  go_quiet (fail)
  go_wp2
  go_ret
  exact ⟨retI (by rw [HV.out]), by (repeat (first | assumption | exact Below.refl _ _ | refine bel_drewN ?_ _ | refine bel_alloc ?_ _ | refine bel_trans ?_ (by assumption) | refine Below.trans ?_ (by assumption)))⟩

set_option maxRecDepth 100000 in
set_option maxHeartbeats 1000000 in
theorem refFieldErr_ok3 (z : Int) (A : Option Addr) (c : Nat) (ns : List Int) (w : World) (hz : fldE 3 z = 0) (hn : ns.length ≤ maxLen) (hr : Rd w w.heap.size A (ns.map (.int .i64))) :
    Calls Tryd.prog 29 #[.agg #[.int .i64 3, .int .i64 z], .agg #[.int .i64 0, .string ⟨#[]⟩, .slice A ns.length c]] w fun e w' => e = .returned (.int .i64 (valE 3 z 0 ⟨#[]⟩ ns)) ∧ Below w.heap.size w w' := by
  obtain ⟨_, _, hz1, hz2⟩ := fldE_zero hz
  have hz1' : 0 ≤ z := hz1
  have hv : valE 3 z 0 ⟨#[]⟩ ns = if allB ns = true then unl (decide ((ns.length : Int) ≤ z)) 8 else 2 := by
    unfold valE
    have h0 : decide (((⟨#[]⟩ : ByteArray).size : Int) ≤ z) = true := decide_eq_true (by show (0 : Int) ≤ z; exact hz1')
    cases h : (decide ((ns.length : Int) ≤ z)) <;> cases h2 : allB ns <;> (try simp only [h, h0]) <;> simp [formB, fitsB, fits0, firstE, unl, opn, es_tl, h2]
  have HV := Lib.hid hv
  unfold maxLen at hn
  clear hv hz hz1 hz2
  go_enter Tryd.func29, Tryd.ntmps29
  go_wp2
  go_quiet (fail)
  go_wp2
  have hb0 : Below w.heap.size w (((w.alloc (Obj.cells #[.int .i64 3, .int .i64 z] 44)).alloc (Obj.cells #[.int .i64 0, .string ⟨#[]⟩, .slice A ns.length c] 47)).drewN nq) := by (repeat (first | assumption | exact Below.refl _ _ | refine bel_drewN ?_ _ | refine bel_alloc ?_ _ | refine bel_trans ?_ (by assumption) | refine Below.trans ?_ (by assumption)))
  have hr1 := hr.below hb0
  clear hr
  go_loop [8] (fun i => ∃ k : Nat, k ≤ ns.length ∧ i = .int .i64 k ∧ allB ns = allB (ns.drop k)) (fun i => ns.length - (intOf i).toNat)
  case atStart => exact ⟨0, Nat.zero_le _, rfl, rfl⟩
  case round =>
    obtain ⟨k, hk, rfl, hf⟩ := hrel
    have HF := Lib.hid hf
    clear hf
    by_cases hlt : k < ns.length
    · obtain ⟨b, o, rfl, hB, hc⟩ := hr1.opened (by simp; omega)
      have c0 := hc k (.int .i64 ns[k]) (by simp [hlt])
      have hd : ns.drop k = ns[k] :: ns.drop (k + 1) := List.drop_eq_getElem_cons hlt
      obtain ⟨x, hx⟩ : ∃ x, x = ns[k] := ⟨_, rfl⟩
      rw [← hx] at c0 hd
      have HD := Lib.hid hd
      clear hd hx hc hr1
      cases hi : inB x 0 65535
      · have HI := Lib.hid hi
        go_wp2_with (go_at_call 52; refine (Within_any _ _ _ _).mono ?_; rintro e w' ⟨rfl, rfl⟩)
        go_ret
        exact ⟨retI (by rw [HV.out, HF.out, HD.out]; simp [allB, HI.out]), hb0⟩
      · have HI := Lib.hid hi
        go_wp2_with (go_at_call 52; refine (Within_any _ _ _ _).mono ?_; rintro e w' ⟨rfl, rfl⟩)
        go_round
        case rel => exact ⟨k + 1, by omega, by go_num, by rw [HF.out, HD.out]; simp [allB, HI.out]⟩
        case measure => simp [intOf]; omega
    · obtain rfl : k = ns.length := by omega
      rw [List.drop_length] at HF
      by_cases hi : (ns.length : Int) ≤ z
      · have HI := Lib.hid (decide_eq_true hi)
        go_wp2
        go_ret
        exact ⟨retI (by rw [HV.out, HF.out, HI.out]; rfl), hb0⟩
      · have HI := Lib.hid (decide_eq_false hi)
        have hi' : z < ns.length := by omega
        clear hi
        go_wp2
        go_ret
        exact ⟨retI (by rw [HV.out, HF.out, HI.out]; rfl), hb0⟩

theorem refFieldErr_any (k z n : Int) (s : ByteArray) (A : Option Addr) (c : Nat) (ns : List Int) (w : World) (hz : fldE k z = 0) (hs : s.size ≤ maxLen) (hn : ns.length ≤ maxLen) (hr : Rd w w.heap.size A (ns.map (.int .i64))) :
    Calls Tryd.prog 29 #[.agg #[.int .i64 k, .int .i64 z], .agg #[.int .i64 n, .string s, .slice A ns.length c]] w fun e w' => e = .returned (.int .i64 (valE k z n s ns)) ∧ Below w.heap.size w w' := by
  obtain ⟨h0, h4, _, _⟩ := fldE_zero hz
  have : k = 0 ∨ k = 1 ∨ k = 2 ∨ k = 3 ∨ k = 4 := by omega
  cases hf : formB k n s ns
  · rw [valE_form hf]
    rcases this with rfl | rfl | rfl | rfl | rfl
    · exact refFieldErr_bad0 z n s A c ns w hs hn hf
    · exact refFieldErr_bad1 z n s A c ns w hs hn hf
    · exact refFieldErr_bad2 z n s A c ns w hs hn hf
    · exact refFieldErr_bad3 z n s A c ns w hs hn hf
    · exact refFieldErr_bad4 z n s A c ns w hs hn hf
  · obtain ⟨f1, f2, f3⟩ := form_of hf
    rcases this with rfl | rfl | rfl | rfl | rfl
    · replace f2 : s = ⟨#[]⟩ := by rcases f2 with h | h | h; omega; omega; exact h
      replace f3 : ns = [] := by rcases f3 with h | h; omega; exact h
      subst f2 f3
      exact refFieldErr_ok0 z n A c w hz
    · replace f1 : n = 0 := by rcases f1 with h | h; omega; exact h
      replace f3 : ns = [] := by rcases f3 with h | h; omega; exact h
      subst f1 f3
      exact refFieldErr_ok1 z s A c w hz hs
    · replace f1 : n = 0 := by rcases f1 with h | h; omega; exact h
      replace f3 : ns = [] := by rcases f3 with h | h; omega; exact h
      subst f1 f3
      exact refFieldErr_ok2 z s A c w hz hs
    · replace f1 : n = 0 := by rcases f1 with h | h; omega; exact h
      replace f2 : s = ⟨#[]⟩ := by rcases f2 with h | h | h; omega; omega; exact h
      subst f1 f2
      exact refFieldErr_ok3 z A c ns w hz hn hr
    · replace f1 : n = 0 := by rcases f1 with h | h; omega; exact h
      replace f2 : s = ⟨#[]⟩ := by rcases f2 with h | h | h; omega; omega; exact h
      replace f3 : ns = [] := by rcases f3 with h | h; omega; exact h
      subst f1 f2 f3
      exact refFieldErr_ok4 z A c w hz
end Go.Proofs.YtiomfkgbaemmkaaDoor
