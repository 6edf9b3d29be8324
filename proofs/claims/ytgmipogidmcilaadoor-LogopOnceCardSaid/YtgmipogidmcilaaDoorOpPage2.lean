/-
  Chapter 21: pages: zero bytes, numbers of bytes, the number of a page.
-/
import Derived.Test.YtgmipogidmcilaaDoorOpPage
namespace Go.Proofs.YtgmipogidmcilaaDoor
set_option linter.unusedVariables false
set_option linter.unusedSimpArgs false
open Go.RowKit Go.Sort

theorem dw_nil {α : Type} (p : α → Bool) : ∀ l : List α, l.dropWhile p = [] ↔ ∀ x ∈ l, p x = true
  | [] => by simp
  | a :: l => by
    rw [List.dropWhile_cons]
    cases h : p a
    · simp [h]
    · simp only [if_true, dw_nil p l, List.mem_cons, forall_eq_or_imp, h, true_and]
theorem dw_head {α : Type} (p : α → Bool) : ∀ (l : List α) (x : α) (r : List α), l.dropWhile p = x :: r → p x = false
  | [], x, r, h => by simp at h
  | a :: l, x, r, h => by
    rw [List.dropWhile_cons] at h
    cases hp : p a
    · rw [hp, if_neg (by decide)] at h; injection h with h1 _; rw [← h1]; exact hp
    · rw [hp, if_pos rfl] at h; exact dw_head p l x r h
theorem dw_mem {α : Type} (p : α → Bool) : ∀ (l : List α) (x : α), x ∈ l.dropWhile p → x ∈ l
  | [], x, h => by simp at h
  | a :: l, x, h => by
    rw [List.dropWhile_cons] at h
    cases hp : p a
    · rw [hp, if_neg (by decide)] at h; exact h
    · rw [hp, if_pos rfl] at h; exact List.mem_cons_of_mem _ (dw_mem p l x h)
theorem trimRight_nil (l : List UInt8) : (l.reverse.dropWhile (· == 0)).reverse.dropWhile (· == 0) = [] ↔ zeroL l = true := by
  unfold zeroL
  rw [List.all_eq_true, dw_nil]
  constructor
  · intro h b hb
    cases hd : l.reverse.dropWhile (· == 0) with
    | nil => exact (dw_nil _ _).1 hd b (List.mem_reverse.2 hb)
    | cons x r =>
      have h1 := dw_head _ _ _ _ hd
      have h2 := h x (by rw [hd]; simp)
      rw [h1] at h2; cases h2
  · intro h x hx
    exact h x (List.mem_reverse.1 (dw_mem _ _ _ (List.mem_reverse.1 hx)))

theorem isZero_any (s : ByteArray) (w : World) (hs : s.size ≤ 3100) :
    Calls Tryd.prog 81 #[.string s] w fun e w' => e = .returned (.bool (zeroL (bl s))) ∧ Below w.heap.size w w' := by
  have hC : Calls Tryd.prog 86 #[.string s, .string ⟨#[0]⟩] w fun e w' => e = .returned (.string ⟨(Lib.trimB s.data.toList 0).toArray⟩) ∧ Below w.heap.size w w' :=
    (Tryd.strings_Trim_one s 0 (by decide) w (by omega)).mono fun e w' ⟨h1, h2⟩ => ⟨h1, by rcases h2 with rfl | rfl; exact Below.refl _ _; exact (Below.refl _ _).drew⟩
  obtain ⟨t, ht⟩ : ∃ t : ByteArray, t = ⟨(Lib.trimB s.data.toList 0).toArray⟩ := ⟨_, rfl⟩
  rw [← ht] at hC
  have e : t.toList.isEmpty = zeroL (bl s) := by
    rw [toList_eq, ht, Bool.eq_iff_iff, List.isEmpty_iff]
    exact trimRight_nil (bl s)
  have E := Lib.hid e
  have HC := Lib.hid hC
  clear ht e hC
  go_enter Tryd.func81, Tryd.ntmps81
  go_wp2_with (go_at_call 86; refine (HC.out).mono ?_; rintro e W1 ⟨rfl, hbW1⟩; obtain ⟨hcW1, hfW1⟩ := bcell hbW1)
  go_ret
  exact ⟨retB E.out, hbW1⟩

theorem zeros_any (n : Nat) (w : World) (hn : n ≤ 3100) :
    Calls Tryd.prog 82 #[.int .i64 n] w fun e w' => e = .returned (.string (bs (zerosL n))) ∧ Below w.heap.size w w' := by
  go_enter Tryd.func82, Tryd.ntmps82
  go_wp2_with (go_at_call 87; refine (repeat0_any n (bs (zerosL n)) _ rfl (by omega)).mono ?_; rintro e W1 ⟨rfl, hbW1⟩; obtain ⟨hcW1, hfW1⟩ := bcell hbW1)
  go_ret
  exact ⟨rfl, hbW1⟩

theorem logop_little_any (n : Int) (c : Nat) (hn : 0 ≤ n) (hn2 : n < 9223372036854775808) (hc : c ≤ 1000) (w : World) :
    Calls Tryd.prog 71 #[.int .i64 n, .int .i64 c] w fun e w' => e = .returned (.string (bs (lit n c))) ∧ Below w.heap.size w w' := by
  obtain ⟨i0, hi, hz0, hz1, hz2⟩ := info_parts info_u8
  go_enter Tryd.func71, Tryd.ntmps71
  go_wp2
  go_loopw [0, 5, 7] (fun m v i wr => ∃ k : Nat, k ≤ c ∧ i = .int .i64 k ∧ Below w.heap.size w wr ∧ (∃ q : Int, 0 ≤ q ∧ q < 9223372036854775808 ∧ m = .int .i64 q ∧ q = n / 256 ^ k) ∧ wr.ownsRow w.heap.size 5 1 v k ((lit n k).map byteV)) (fun _ _ i _ => c - (intOf i).toNat)
  case atStart => exact ⟨0, Nat.zero_le _, rfl, Below.refl _ _, ⟨n, hn, hn2, rfl, by simp⟩, World.ownsRow_nil _ _ _ _⟩
  case round =>
    obtain ⟨k, hk, rfl, hb, ⟨q, hq0, hq1, rfl, hq⟩, hown⟩ := hrel
    have HQ := Lib.hid hq
    clear hq
    by_cases hlt : k < c
    · have hbs := hb.size
      go_wp2_with (at_builtin; refine wpList_append_own _ rfl (.tmp 9) (.tmp 12) 118 rfl w.heap.size 5 i0 (.int .u8 0) 1 1 Tryd.underlying118 hi hz0 hz1 hz2 rfl (by decide) _ _ _ rfl (hown.alloc _) ⟨wr.heap.size, 0, none⟩ 1 1 [.int .u8 (q % 256)] rfl rfl ?c1 ?c2 ?c3 ?c4 ?c5 ?_)
      case c1 =>
        intro j u hj
        match j, hj with
        | 0, hj => simp at hj; subst hj; simp [Addr.add]
      case c2 => intro u hu; simp at hu; subst hu; rfl
      case c3 => unfold maxLen; omega
      case c4 => omega
      case c5 => simp; omega
      intro v' w1 hown' hgrow _
      have hb1 : Below w.heap.size w w1 := (hb.alloc hbs _).grown hgrow (by simp; omega) (fun g hg => (hown.lt g hg).1)
      have hown2 : w1.ownsRow w.heap.size 5 1 v' (k + 1) ((lit n (k + 1)).map byteV) := by
        rw [lit_snoc, List.map_append, List.map_cons, List.map_nil, byteV_mod, ← HQ.out]
        exact hown'
      clear hown' hgrow hown hb
      go_wp2
      go_roundw
      case rel => exact ⟨k + 1, by omega, by go_num, hb1, ⟨q / 256, by omega, by omega, rfl, by rw [HQ.out, Int.pow_succ, Int.ediv_ediv_of_nonneg (Int.le_of_lt (Int.pow_pos (by decide)))]⟩, hown2⟩
      case measure => simp [intOf]; omega
    · obtain rfl : k = c := by omega
      have hconv := conv_own hown
      clear hown
      go_wp2
      go_ret
      exact ⟨rfl, hb⟩

theorem bits_or_comm (k : IntKind) (x y : Int) : bits .or k x y = bits .or k y x := by
  unfold bits; simp only [BitVec.or_comm]
theorem or_num (m c : Int) (k : Nat) (h0 : 0 ≤ m) (h1 : m < 2 ^ (8 * k)) (hc0 : 0 ≤ c) (hc : c < 256) (hk : k ≤ 5) : bits .or .i64 m (c * 2 ^ (8 * k)) = m + c * 2 ^ (8 * k) := by
  have hp : (2 : Int) ^ (8 * k) ≤ 2 ^ 40 := by
    have : (2 : Nat) ^ (8 * k) ≤ 2 ^ 40 := Nat.pow_le_pow_right (by decide) (by omega)
    exact_mod_cast this
  have hq : (0 : Int) < 2 ^ (8 * k) := Int.pow_pos (by decide)
  have hb : c * 2 ^ (8 * k) < 2 ^ 62 := by
    have : c * 2 ^ (8 * k) ≤ 255 * 2 ^ 40 := Int.mul_le_mul (by omega) hp (Int.le_of_lt hq) (by decide)
    omega
  have h62 : (2 : Int) ^ (8 * k) ≤ 2 ^ 62 := by omega
  rw [bits_or_comm, bits_join .i64 62 (by decide) (wraps_i64 62 (by decide)) (8 * k) _ _ (Int.mul_nonneg hc0 (Int.le_of_lt hq)) (Int.mul_emod_left _ _) hb h0 h1 (by omega), Int.add_comm]
end Go.Proofs.YtgmipogidmcilaaDoor
