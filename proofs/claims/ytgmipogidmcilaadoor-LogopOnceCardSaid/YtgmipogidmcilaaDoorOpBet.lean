/-
  Chapter 21: Between.
-/
import Derived.Test.YtgmipogidmcilaaDoorOpPat
import Derived.Test.YtgmipogidmcilaaDoorOpAll2
namespace Go.Proofs.YtgmipogidmcilaaDoor
set_option linter.unusedVariables false
set_option linter.unusedSimpArgs false
open Go.RowKit Go.Sort

theorem info_op : (Tryd.prog.info? 27).map (fun i => (i.zero, i.size, i.bytes)) = some (some (.agg #[.int .i64 0, .int .i64 0, .int .i64 0, .int .i64 0, .string ⟨#[]⟩, .string ⟨#[]⟩]), 6, 64) := by kernel_rfl
theorem betL_end {a b : ByteArray} {k : Nat} (h : patSkip a b k = 512) (f : Nat) : betL a b f k = [] := by
  cases f with
  | zero => rfl
  | succ f => unfold betL; rw [if_pos h]
theorem betL_next {a b : ByteArray} {k : Nat} (h : patSkip a b k ≠ 512) (f : Nat) : betL a b (f + 1) k = patOp a b (patSkip a b k) (patEnd a b (patSkip a b k)) :: betL a b f (patEnd a b (patSkip a b k)) := by
  show (if _ then _ else _) = _
  rw [if_neg h]
theorem betL_length (a b : ByteArray) : ∀ f k, (betL a b f k).length ≤ f
  | 0, k => by simp [betL]
  | f + 1, k => by
    by_cases h : patSkip a b k = 512
    · rw [betL_end h]; simp
    · rw [betL_next h, List.length_cons]
      have := betL_length a b f (patEnd a b (patSkip a b k)); omega
/-- what a variable of three holds behind a call of patch -/
def patO (a b : ByteArray) (k : Nat) : Op := if patSkip a b k = 512 then op0 else patOp a b (patSkip a b k) (patEnd a b (patSkip a b k))
def patAt (a b : ByteArray) (k : Nat) : Nat := if patSkip a b k = 512 then 512 else patEnd a b (patSkip a b k)
def patIs (a b : ByteArray) (k : Nat) : Bool := !(patSkip a b k == 512)
theorem patch_res (a b : ByteArray) (k0 : Nat) (w : World) (ha : a.size = 512) (hb : b.size = 512) (hk0 : k0 ≤ 512) :
    Calls Tryd.prog 63 #[.string a, .string b, .int .i64 k0] w fun r w' => r = .returned (.tuple #[opV (patO a b k0), .int .i64 (patAt a b k0), .bool (patIs a b k0)]) ∧ Below w.heap.size w w' :=
  (patch_any a b k0 w ha hb hk0).mono fun r w' ⟨h1, h2⟩ => ⟨by
    rw [h1]; unfold patO patAt patIs
    by_cases h : patSkip a b k0 = 512
    · simp [h]
    · simp [h], h2⟩

theorem ownsRow_others {w w' : World} {base : Nat} {e : TypeId} {size n : Nat} {v : Value} {xs : List Value} {g : Nat} (h : w.ownsRow base e size v n xs) (hne : v.ownBlock ≠ some g) (hk : ∀ b cs T, b ≠ g → Box w b cs T → Box w' b cs T) : w'.ownsRow base e size v n xs := by
  refine ⟨h.1, ?_⟩
  rcases h.2 with h' | ⟨g', cap, cur, h1, h2, h3, h4⟩
  · exact .inl h'
  · exact .inr ⟨g', cap, cur, h1, h2, hk g' cur e (fun e => hne (by rw [h1, e]; rfl)) h3, h4⟩
theorem opsV_snoc (l : List Op) (x : Op) : opsV (l ++ [x]) = opsV l ++ opVs x := by unfold opsV; rw [List.flatMap_append]; simp
set_option maxRecDepth 100000 in
set_option maxHeartbeats 2000000 in
theorem Between_bad (a b : ByteArray) (w : World) (ha : a.size ≤ maxLen) (hb : b.size ≤ maxLen) (h : firstE [pageE a, pageE b] ≠ 0) :
    Calls Tryd.prog 25 #[.string a, .string b] w fun r w' => r = .returned (.tuple #[.slice none 0 0, .int .i64 (firstE [pageE a, pageE b])]) ∧ Below w.heap.size w w' := by
  have h3 : (firstE [pageE a, pageE b] != 0) = true := by simp [h]
  clear h
  go_enter Tryd.func25, Tryd.ntmps25
  go_wp2_with (first | (go_at_call 53; refine (pageErr_any _ _ (by assumption)).mono ?_; rintro e w' ⟨rfl, rfl⟩) | (go_at_call 52; refine (logop_first_list [_, _] w (by simp)).mono ?_; rintro e w' ⟨rfl, rfl⟩))
  go_ret2
  exact ⟨rfl, by (repeat (first | assumption | exact Below.refl _ _ | refine bel_drewN ?_ _ | refine bel_alloc ?_ _ | refine bel_trans ?_ (by assumption) | refine Below.trans ?_ (by assumption)))⟩

set_option maxRecDepth 100000 in
set_option maxHeartbeats 2000000 in
theorem Between_ok (a b : ByteArray) (w : World) (ha : a.size = 512) (hb : b.size = 512) :
    Calls Tryd.prog 25 #[.string a, .string b] w fun r w' => ∃ A c, r = .returned (.tuple #[.slice A (between a b).length c, .int .i64 0]) ∧ Rd w' w'.heap.size A (opsV (between a b)) ∧ Below w.heap.size w w' := by
  obtain ⟨i0, hi, hz0, hz1, hz2⟩ := info_parts info_op
  have hP := fun k0 W (h : k0 ≤ 512) => patch_res a b k0 W ha hb h
  have HP := Lib.hid hP
  have hbd := fun k (hk : k < 512) => patEnd_bd a b k hk
  have hsb := fun k (hk : k ≤ 512) => patSkip_bd a b k hk
  have hal : a.size ≤ maxLen := by unfold maxLen; omega
  have hbl : b.size ≤ maxLen := by unfold maxLen; omega
  have h3 : (firstE [pageE a, pageE b] != 0) = false := by rw [pageE_zero.2 ha, pageE_zero.2 hb]; rfl
  have HBD := Lib.hid hbd
  have HSB := Lib.hid hsb
  have hP0 : ∀ W, Calls Tryd.prog 63 #[.string a, .string b, .int .i64 0] W fun r w' => r = .returned (.tuple #[opV (patO a b 0), .int .i64 (patAt a b 0), .bool (patIs a b 0)]) ∧ Below W.heap.size W w' := fun W => patch_res a b 0 W ha hb (Nat.zero_le _)
  have hat : ∀ k, patSkip a b k ≠ 512 → patAt a b k = patEnd a b (patSkip a b k) ∧ patIs a b k = true ∧ patO a b k = patOp a b (patSkip a b k) (patEnd a b (patSkip a b k)) := fun k h => by
    unfold patAt patIs patO; rw [if_neg h, if_neg h]; refine ⟨rfl, ?_, rfl⟩; simp [h]
  have HAT := Lib.hid hat
  have HP0 := Lib.hid hP0
  clear ha hb hP hbd hsb hP0 hat
  unfold opV at HP HP0
  go_enter Tryd.func25, Tryd.ntmps25
  go_wp2_with (first | (go_at_call 53; refine (pageErr_any _ _ (by assumption)).mono ?_; rintro e w' ⟨rfl, rfl⟩) | (go_at_call 52; refine (logop_first_list [_, _] w (by simp)).mono ?_; rintro e w' ⟨rfl, rfl⟩) | (go_at_call 63; (with_reducible refine (HP0.out _).mono ?_); rintro e W1 ⟨rfl, hbW1⟩))
  have hb1 : Below w.heap.size w W1 := by (repeat (first | assumption | exact Below.refl _ _ | refine bel_drewN ?_ _ | refine bel_alloc ?_ _ | refine bel_trans ?_ (by assumption) | refine Below.trans ?_ (by assumption)))
  have hb1s := hb1.size
  have HB1 := Lib.hid hb1
  clear hb1 hbW1
  go_loopw [7, 8, 9, 10] (fun v p8 t9 t10 wr => ∃ (k f g : Nat) (done : List Op), k ≤ 512 ∧ 512 < k + f ∧ done.length + f ≤ 513 ∧ p8 = .pointer (some ⟨g, 0, none⟩) ∧ t9 = .int .i64 (patAt a b k) ∧ t10 = .bool (patIs a b k) ∧ w.heap.size ≤ g ∧
    Box wr g #[.int .i64 (patO a b k).k, .int .i64 (patO a b k).a, .int .i64 (patO a b k).e, .int .i64 (patO a b k).c, .string (patO a b k).o, .string (patO a b k).n] 27 ∧
    wr.ownsRow w.heap.size 27 6 v done.length (opsV done) ∧ v.ownBlock ≠ some g ∧ Below w.heap.size w wr ∧ between a b = done ++ betL a b f k)
    (fun _ _ t9 t10 _ => (512 - (intOf t9).toNat) + (match t10 with | .bool true => 1 | _ => 0))
  case atStart => exact ⟨0, 513, _, [], Nat.zero_le _, by omega, by simp, rfl, rfl, rfl, hb1s, Box.new W1 _ _, World.ownsRow_nil _ _ _ _, by simp [Value.ownBlock], HB1.out.alloc hb1s _, rfl⟩
  case round =>
    obtain ⟨k, f, g, done, hk, hf, hdl, rfl, rfl, rfl, hg, hbx, hown, hne, hb, hbet⟩ := hrel
    have HBET := Lib.hid hbet
    clear hbet h3
    by_cases hs : patSkip a b k = 512
    · have hpi : patIs a b k = false := by unfold patIs; rw [hs]; rfl
      obtain ⟨A, c, rfl, hrd⟩ := ownsRow_form hown
      have hend : between a b = done := by rw [HBET.out, betL_end hs, List.append_nil]
      have HEND := Lib.hid hend
      rw [hpi]
      clear hs hown hne hend hpi
      go_wp2
      go_ret2
      exact ⟨A, c, (by show Ending.returned (.tuple #[.slice A done.length c, .int .i64 0]) = _; rw [HEND.out]), by rw [HEND.out]; exact hrd, hb⟩
    · obtain ⟨ha1, ha2, ha3⟩ := HAT.out k hs
      have hsk := HSB.out k hk
      have hse := HBD.out (patSkip a b k) (by omega)
      obtain ⟨f', rfl⟩ : ∃ f', f = f' + 1 := ⟨f - 1, by omega⟩
      have hnext : between a b = (done ++ [patO a b k]) ++ betL a b f' (patAt a b k) := by
        rw [HBET.out, betL_next hs, ha1, ha3, List.append_assoc]; rfl
      have hk1 : patAt a b k ≤ 512 := by rw [ha1]; omega
      have hkk : k < patAt a b k := by rw [ha1]; omega
      have HN := Lib.hid hnext
      have hpi := ha2
      have hcall := fun W => HP.out (patAt a b k) W hk1
      have HC := Lib.hid hcall
      obtain ⟨A, c, rfl, hrd⟩ := ownsRow_form hown
      obtain ⟨O, hO⟩ : ∃ O, O = patO a b k := ⟨_, rfl⟩
      obtain ⟨k1, hk1e⟩ : ∃ k1, k1 = patAt a b k := ⟨_, rfl⟩
      rw [← hO] at hbx HN
      rw [← hk1e] at hk1 hkk HN HC
      have HM : Hid (patIs a b k = true) := Lib.hid ha2
      rw [← hk1e, ha2]
      have hgl := hbx.lt
      have hbs := hb.size
      have hx := hbx.cells
      have HBX := Lib.hid hbx
      have HO1 := Lib.hid hO
      clear hnext ha1 ha2 ha3 hs hsk hse hcall hO hk1e hrd hbx hpi
      go_wp2_with (first | (at_builtin; refine wpList_push _ rfl (.tmp 36) (.tmp 38) 22 rfl w.heap.size 27 i0 _ 6 64 [.int .i64 O.k, .int .i64 O.a, .int .i64 O.e, .int .i64 O.c, .string O.o, .string O.n] Tryd.underlying22 hi hz0 hz1 hz2 rfl (by decide) (.slice A done.length c) _ _ rfl hown _ rfl rfl rfl (by intro u hu; simp at hu; rcases hu with rfl | rfl | rfl | rfl | rfl | rfl <;> rfl) (by unfold maxLen; omega) (by omega) (by omega) ?_; intro v1 w1 hown1 hkeep hsz1 hblk1 hvb hbe1; have hbx1 : Box w1 g #[.int .i64 O.k, .int .i64 O.a, .int .i64 O.e, .int .i64 O.c, .string O.o, .string O.n] 27 := (hblk1 g hgl hne).trans HBX.out; have hx1 := hbx1.cells; clear hkeep hblk1) | (go_at_call 63; (with_reducible refine (HC.out _).mono ?_); rintro e W2 ⟨rfl, hbW2⟩; have hbe2 : Below w.heap.size w W2 := (by (repeat (first | assumption | exact Below.refl _ _ | refine bel_drewN ?_ _ | refine bel_alloc ?_ _ | refine bel_trans ?_ (by assumption) | refine Below.trans ?_ (by assumption)))); have hbx2 : Box W2 w1.heap.size #[.int .i64 O.k, .int .i64 O.a, .int .i64 O.e, .int .i64 O.c, .string O.o, .string O.n] 27 := ((Box.new w1 _ _).below hbW2); have hwg : w.heap.size ≤ w1.heap.size := (by omega)) | (refine wpList_store_new rfl 27 (.tmp 8) (.tmp 33) rfl rfl w1.heap.size #[.int .i64 (patO a b k1).k, .int .i64 (patO a b k1).a, .int .i64 (patO a b k1).e, .int .i64 (patO a b k1).c, .string (patO a b k1).o, .string (patO a b k1).n] rfl rfl w hbe2 hwg 27 _ hbx2 (by kernel_rfl) (by kernel_rfl) (by kernel_rfl) ?_; intro W3 hb3 hbx3 hk3))
      go_roundw
      case rel =>
        have ho2 : W2.ownsRow w.heap.size 27 6 v1 (done.length + 1) (opsV done ++ opVs O) := ownsRow_below (hown1.alloc _) hbW2
        have hne1 : v1.ownBlock ≠ some w1.heap.size := own_ne hown1
        have ho3 := ownsRow_others ho2 hne1 hk3
        refine ⟨k1, f', w1.heap.size, done ++ [O], hk1, by omega, by simp; omega, rfl, rfl, rfl, hwg, hbx3, ?_, hne1, hb3, HN.out⟩
        rw [opsV_snoc, List.length_append]; exact ho3
      case measure =>
        by_cases h : patSkip a b k1 = 512
        · have e1 : patAt a b k1 = 512 := by unfold patAt; rw [if_pos h]
          have e2 : patIs a b k1 = false := by unfold patIs; rw [h]; rfl
          rw [e1, e2]
          show 512 - 512 + 0 < 512 - k1 + 1
          omega
        · obtain ⟨e1, e2, _⟩ := HAT.out k1 h
          have h1 := HSB.out k1 hk1
          have h2 := HBD.out (patSkip a b k1) (by omega)
          rw [e1, e2]
          show 512 - patEnd a b (patSkip a b k1) + 1 < 512 - k1 + 1
          omega
end Go.Proofs.YtgmipogidmcilaaDoor
