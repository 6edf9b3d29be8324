/-
  Chapter 1: pieces of strings: strings.Cut at a colon, Cut of the helpers.
-/
import Derived.Test.YtiomfkgbaemmkaaDump1
import Derived.Test.YtiomfkgbaemmkaaFlow
import Derived.Test.YtiomfkgbaemmkaaStrs
namespace Go.Proofs.Ytiomfkgbaemmkaa
set_option linter.unusedVariables false
set_option linter.unusedSimpArgs false
open Go.RowKit

theorem index_colon : ∀ l : List UInt8, (Lib.indexByte l 58 = -1 ∧ colon l = []) ∨ ∃ i : Nat, Lib.indexByte l 58 = i ∧ i < l.length ∧ colon l = l.drop (i + 1)
  | [] => .inl ⟨rfl, rfl⟩
  | c :: l => by
    unfold Lib.indexByte colon
    by_cases h : c = 58
    · subst h
      exact .inr ⟨0, by simp, by simp, by simp⟩
    · rw [if_neg (by simpa using h), if_neg h]
      rcases index_colon l with ⟨h1, h2⟩ | ⟨i, h1, h2, h3⟩
      · exact .inl ⟨by rw [h1]; rfl, h2⟩
      · refine .inr ⟨i + 1, ?_, by simp; omega, by simpa using h3⟩
        rw [h1, if_neg (by rw [beq_iff_eq]; omega)]; omega
theorem colon_le (l : List UInt8) : (colon l).length ≤ l.length := by
  rcases index_colon l with ⟨_, h⟩ | ⟨i, _, _, h⟩
  · rw [h]; simp
  · rw [h, List.length_drop]; omega
theorem slCut_any (s : ByteArray) (w : World) (hs : s.size ≤ maxLen) :
    Calls Try.prog 83 #[.string s, .string ⟨#[58]⟩] w fun e w' => (∃ b f, e = .returned (.tuple #[.string b, .string (bs (colon (bl s))), .bool f])) ∧ Below w.heap.size w w' := by
  unfold maxLen at hs
  rcases index_colon (bl s) with ⟨h1, h2⟩ | ⟨i, h1, h2, h3⟩
  · have H2 := Lib.hid h2
    clear h2
    go_enter Try.func83, Try.ntmps83
    go_wp2_with (go_at_call 90; refine (Try.stringslite_Index_one _ _ _).mono ?_; rintro e w' ⟨rfl, rfl⟩; rw [h1])
    go_ret3
    exact ⟨⟨_, _, by rw [H2.out]; rfl⟩, Below.refl _ _⟩
  · have hi : (i : Int) + 1 ≤ s.size := by rw [bl_length] at h2; omega
    have hext : bl (s.extract (i + 1) s.size) = (bl s).drop (i + 1) := by rw [bl_extract, ← bl_length, List.take_length]
    have H3 := Lib.hid h3
    have HE := Lib.hid hext
    clear h3 h2 hext
    go_enter Try.func83, Try.ntmps83
    go_wp2_with (go_at_call 90; refine (Try.stringslite_Index_one _ _ _).mono ?_; rintro e w' ⟨rfl, rfl⟩; rw [h1])
    go_quiet (fail)
    go_wp2
    go_ret3
    exact ⟨⟨_, _, by rw [H3.out, ← HE.out]; rfl⟩, bel_drewN (Below.refl _ _) _⟩

def glue (p : List UInt8) : List (List UInt8) → List (List UInt8)
  | [] => [p]
  | q :: qs => (p ++ q) :: qs
theorem glue_nil (l : List (List UInt8)) (h : l ≠ []) : glue [] l = l := by
  cases l with
  | nil => exact absurd rfl h
  | cons q qs => rfl
theorem glue_other (d c : UInt8) (p r : List UInt8) (h : c ≠ d) : glue p (cutAt d (c :: r)) = glue (p ++ [c]) (cutAt d r) := by
  rw [cutAt, if_neg h]
  cases hq : cutAt d r with
  | nil => exact absurd hq (cutAt_ne d r)
  | cons q qs => simp [glue]
theorem glue_end (d : UInt8) (p r : List UInt8) : glue p (cutAt d (d :: r)) = p :: cutAt d r := by
  rw [cutAt, if_pos rfl]; simp [glue]
theorem cutAt_len (d : UInt8) : ∀ l, (cutAt d l).length ≤ l.length + 1
  | [] => by simp [cutAt]
  | c :: r => by
    have ih := cutAt_len d r
    unfold cutAt
    split
    · simp; omega
    · split
      · simp
      · rename_i h; rw [h] at ih; simp at ih ⊢; omega
theorem cutAt_each (d : UInt8) : ∀ l p, p ∈ cutAt d l → p.length ≤ l.length
  | [], p, h => by simp [cutAt] at h; subst h; simp
  | c :: r, p, h => by
    unfold cutAt at h
    split at h
    · rcases List.mem_cons.1 h with rfl | h
      · simp
      · have := cutAt_each d r p h; simp; omega
    · split at h
      · rename_i e; exact absurd e (cutAt_ne d r)
      · rename_i q qs e
        rcases List.mem_cons.1 h with rfl | h
        · have := cutAt_each d r q (by rw [e]; simp); simp; omega
        · have := cutAt_each d r p (by rw [e]; simp [h]); simp; omega
theorem infoStr : (Try.prog.info? 9).map (fun i => (i.zero, i.size, i.bytes)) = some (some (.string ⟨#[]⟩), 1, 16) := by kernel_rfl
def strsV (P : List (List UInt8)) : List Value := P.map fun l => .string (bs l)
theorem strsV_snoc (P : List (List UInt8)) (l : List UInt8) : strsV (P ++ [l]) = strsV P ++ [.string (bs l)] := by simp [strsV]

set_option maxHeartbeats 1000000 in
theorem baseCut_any (s : ByteArray) (d : UInt8) (w : World) (hs : s.size ≤ 1000000) :
    Calls Try.prog 67 #[.string s, .int .u8 d.toNat] w fun e w' => (∃ A c, e = .returned (.slice A (cutAt d (bl s)).length c) ∧ w'.ownsRow w.heap.size 9 1 (.slice A (cutAt d (bl s)).length c) (cutAt d (bl s)).length (strsV (cutAt d (bl s)))) ∧ Below w.heap.size w w' := by
  obtain ⟨i0, hi, hz0, hz1, hz2⟩ := info_parts infoStr
  go_enter Try.func67, Try.ntmps67
  go_wp2
  go_loopw [5, 6, 7] (fun v at' i wr => ∃ (k a : Nat) (P : List (List UInt8)) (A : Option Addr) (c : Nat), k ≤ s.size ∧ a ≤ k ∧ i = .int .i64 k ∧ at' = .int .i64 a ∧ v = .slice A P.length c ∧ P.length ≤ k ∧ Below w.heap.size w wr ∧
      wr.ownsRow w.heap.size 9 1 (.slice A P.length c) P.length (strsV P) ∧ cutAt d (bl s) = P ++ glue (((bl s).take k).drop a) (cutAt d ((bl s).drop k))) (fun _ _ i _ => s.size - (intOf i).toNat)
  case atStart => exact ⟨0, 0, [], none, 0, Nat.zero_le _, Nat.le_refl _, rfl, rfl, rfl, Nat.zero_le _, Below.refl _ _, World.ownsRow_nil w w.heap.size 9 1, by simp [glue_nil _ (cutAt_ne d _)]⟩
  case round =>
    obtain ⟨k, a, P, A, c, hk, ha, rfl, rfl, rfl, hP, hb, hown, hcut⟩ := hrel
    have HC := Lib.hid hcut
    clear hcut
    have hbs := hb.size
    have hext : bl (s.extract a k) = ((bl s).take k).drop a := bl_extract s a k
    have hextN : bl (s.extract a s.size) = ((bl s).take s.size).drop a := bl_extract s a s.size
    have HE := Lib.hid hext
    have HEN := Lib.hid hextN
    clear hext hextN
    have f1 : P.length + 1 ≤ maxLen := by unfold maxLen; omega
    have f2 : (P.length + 1) * 16 ≤ 140737488355328 := by omega
    by_cases hlt : k < s.size
    · have hd : (bl s).drop k = (bl s)[k]'(by rw [bl_length]; exact hlt) :: (bl s).drop (k + 1) := List.drop_eq_getElem_cons _
      have hx : ∀ h, s[k]'h = (bl s)[k]'(by rw [bl_length]; exact hlt) := fun h => rfl
      have htk : (bl s).take (k + 1) = (bl s).take k ++ [(bl s)[k]'(by rw [bl_length]; exact hlt)] := List.take_succ_eq_append_getElem (by rw [bl_length]; exact hlt)
      generalize (bl s)[k]'(by rw [bl_length]; exact hlt) = x at *
      have HD := Lib.hid hd
      have HT := Lib.hid htk
      clear hd htk
      by_cases he : x = d
      · have he' : ((x.toNat : Int) == (d.toNat : Int)) = true := by rw [he]; simp
        have HX := Lib.hid he
        clear he
        go_wp2_with (at_builtin; refine wpList_push _ rfl (.tmp 19) (.tmp 24) 91 rfl w.heap.size 9 i0 _ 1 16 [.string (s.extract a k)] Try.underlying91 hi hz0 hz1 hz2 rfl (by decide) (.slice A P.length c) _ _ rfl hown _ rfl rfl rfl (by intro u hu; simp at hu; rw [hu]; rfl) f1 f2 hbs ?_; intro v5 V5 ow5 hk5 hs5 hb5 hv5 be5; have b5 := hb.trans be5; clear hk5 hb5 hv5 be5)
        go_roundw
        case rel =>
          have e1 : Value.string (s.extract a k) = .string (bs (((bl s).take k).drop a)) := congrArg _ (bl_inj (by rw [bl_bs]; exact HE.out))
          rw [e1, ← strsV_snoc] at ow5
          obtain ⟨A', c', rfl⟩ : ∃ A' c', v5 = .slice A' (P.length + 1) c' := by
            rcases ow5.2 with ⟨rfl, h0⟩ | ⟨g, cap, cur, rfl, _⟩
            · omega
            · exact ⟨_, _, rfl⟩
          refine ⟨k + 1, k + 1, P ++ [((bl s).take k).drop a], A', c', by omega, Nat.le_refl _, by go_num, by go_num, by rw [List.length_append]; rfl, by simp; omega, b5, by rw [List.length_append]; exact ow5, ?_⟩
          rw [HC.out, HD.out, HX.out, glue_end, List.append_assoc, show ((bl s).take (k + 1)).drop (k + 1) = [] from List.drop_eq_nil_of_le (by rw [List.length_take]; omega), glue_nil _ (cutAt_ne d _)]
          rfl
        case measure => simp [intOf]; omega
      · have he' : ((x.toNat : Int) == (d.toNat : Int)) = false := by
          rw [beq_eq_false_iff_ne]; intro h; exact he (UInt8.toNat_inj.1 (by omega))
        have HX := Lib.hid he
        clear he
        go_wp2
        go_roundw
        case rel =>
          refine ⟨k + 1, a, P, A, c, by omega, by omega, by go_num, rfl, rfl, by omega, hb, hown, ?_⟩
          rw [HC.out, HD.out, glue_other _ _ _ _ HX.out, HT.out, List.drop_append_of_le_length (by rw [List.length_take, bl_length]; omega)]
        case measure => simp [intOf]; omega
    · obtain rfl : k = s.size := by omega
      go_wp2_with (at_builtin; refine wpList_push _ rfl (.tmp 28) (.tmp 32) 91 rfl w.heap.size 9 i0 _ 1 16 [.string (s.extract a s.size)] Try.underlying91 hi hz0 hz1 hz2 rfl (by decide) (.slice A P.length c) _ _ rfl hown _ rfl rfl rfl (by intro u hu; simp at hu; rw [hu]; rfl) f1 f2 hbs ?_; intro v5 V5 ow5 hk5 hs5 hb5 hv5 be5; have b5 := hb.trans be5; clear hk5 hb5 hv5 be5)
      go_ret
      have e1 : Value.string (s.extract a s.size) = .string (bs (((bl s).take s.size).drop a)) := congrArg _ (bl_inj (by rw [bl_bs]; exact HEN.out))
      rw [e1, ← strsV_snoc] at ow5
      have hall : cutAt d (bl s) = P ++ [((bl s).take s.size).drop a] := by
        rw [HC.out, show (bl s).drop s.size = [] from List.drop_eq_nil_of_le (by rw [bl_length]; omega)]
        simp [cutAt, glue]
      obtain ⟨A', c', rfl⟩ : ∃ A' c', v5 = .slice A' (P.length + 1) c' := by
        rcases ow5.2 with ⟨rfl, h0⟩ | ⟨g, cap, cur, rfl, _⟩
        · omega
        · exact ⟨_, _, rfl⟩
      rw [hall, List.length_append]
      exact ⟨⟨A', c', rfl, ow5⟩, b5⟩
end Go.Proofs.Ytiomfkgbaemmkaa
