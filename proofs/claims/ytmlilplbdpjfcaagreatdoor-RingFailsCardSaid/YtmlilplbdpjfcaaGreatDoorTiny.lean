/-
  The small functions of package bytes and of the helpers: within, unless, first, stringErr, countErr, limit. Each returns what its plain function says, and memory is as it was.
-/
import Derived.Test.YtmlilplbdpjfcaaGreatDoorChecked
import Derived.Test.YtmlilplbdpjfcaaGreatDoorKitA
import Derived.WalkKit
import Derived.WalkLawsBesides
import Derived.WalkSpells
import Derived.Lib.Hide
import Derived.Deep.QuietTactic
import Derived.BigQuiet
import Derived.Deep.DeepFit
namespace Go.Proofs.YtmlilplbdpjfcaaGreatDoor
open Go.RowKit
theorem logring_within_any (n lo hi : Int) (w : World) :
 Calls Tryz.prog 76 #[.int .i64 n, .int .i64 lo, .int .i64 hi] w fun e w' => e = .returned (.bool (inB n lo hi)) ∧ w = w' := by
 by_cases h : lo ≤ n
 · go_enter Tryz.func76, Tryz.ntmps76
   go_wp2
   go_ret
   exact ⟨by simp [inB, h], rfl⟩
 · go_enter Tryz.func76, Tryz.ntmps76
   go_wp2
   go_ret
   exact ⟨by simp [inB]; omega, rfl⟩
theorem disk_within_any (n lo hi : Int) (w : World) :
 Calls Tryz.prog 141 #[.int .i64 n, .int .i64 lo, .int .i64 hi] w fun e w' => e = .returned (.bool (inB n lo hi)) ∧ w = w' := by
 by_cases h : lo ≤ n
 · go_enter Tryz.func141, Tryz.ntmps141
   go_wp2
   go_ret
   exact ⟨by simp [inB, h], rfl⟩
 · go_enter Tryz.func141, Tryz.ntmps141
   go_wp2
   go_ret
   exact ⟨by simp [inB]; omega, rfl⟩
theorem unless_any (ok : Bool) (e : Int) (w : World) :
 Calls Tryz.prog 183 #[.bool ok, .int .i64 e] w fun e' w' => e' = .returned (.int .i64 (unl ok e)) ∧ w = w' := by
 cases ok
 · go_enter Tryz.func183, Tryz.ntmps183
   go_wp2
   go_ret
   exact ⟨rfl, rfl⟩
 · go_enter Tryz.func183, Tryz.ntmps183
   go_wp2
   go_ret
   exact ⟨rfl, rfl⟩
theorem logring_unless_any (ok : Bool) (e : Int) (w : World) :
 Calls Tryz.prog 61 #[.bool ok, .int .i64 e] w fun e' w' => e' = .returned (.int .i64 (unl ok e)) ∧ w = w' := by
 cases ok
 · go_enter Tryz.func61, Tryz.ntmps61
   go_wp2
   go_ret
   exact ⟨rfl, rfl⟩
 · go_enter Tryz.func61, Tryz.ntmps61
   go_wp2
   go_ret
   exact ⟨rfl, rfl⟩
theorem disk_unless_any (ok : Bool) (e : Int) (w : World) :
 Calls Tryz.prog 121 #[.bool ok, .int .i64 e] w fun e' w' => e' = .returned (.int .i64 (unl ok e)) ∧ w = w' := by
 cases ok
 · go_enter Tryz.func121, Tryz.ntmps121
   go_wp2
   go_ret
   exact ⟨rfl, rfl⟩
 · go_enter Tryz.func121, Tryz.ntmps121
   go_wp2
   go_ret
   exact ⟨rfl, rfl⟩
theorem logring_first_any (b o : Nat) (es : List Int) (w : World) (hlen : es.length ≤ 100)
 (hc : ∀ k (_ : k < es.length), w.cell? ⟨b, o + k, none⟩ = some (.int .i64 es[k])) :
 Calls Tryz.prog 60 #[.slice (some ⟨b, o, none⟩) es.length es.length] w fun e w' => e = .returned (.int .i64 (firstE es)) ∧ w = w' := by
 go_enter Tryz.func60, Tryz.ntmps60
 go_wp2
 go_loop [7] (fun i => ∃ k : Nat, k ≤ es.length ∧ i = .int .i64 k ∧ firstE es = firstE (es.drop k)) (fun i => es.length - (intOf i).toNat)
 case atStart => exact ⟨0, Nat.zero_le _, rfl, rfl⟩
 case round =>
  obtain ⟨k, hk, rfl, hf⟩ := hrel
  have HF := Lib.hid hf
  clear hf
  by_cases hlt : k < es.length
  · have hck := hc k hlt
    have hd : es.drop k = es[k] :: es.drop (k + 1) := List.drop_eq_getElem_cons hlt
    have HD := Lib.hid hd
    clear hd hc
    by_cases h0 : es[k] = 0
    · have h0' : (es[k] != 0) = false := by simp [h0]
      have H0 := Lib.hid h0
      clear h0
      go_wp2
      go_round
      case rel => exact ⟨k + 1, by omega, by go_num, by rw [HF.out, HD.out]; simp [firstE, H0.out]⟩
      case measure => simp [intOf]; omega
    · have h0' : (es[k] != 0) = true := by simp [h0]
      have H0 := Lib.hid h0
      clear h0
      go_wp2
      go_ret
      exact ⟨by rw [HF.out, HD.out]; simp [firstE, H0.out], rfl⟩
  · go_wp2
    go_ret
    exact ⟨by rw [HF.out, List.drop_of_length_le (by omega)]; rfl, rfl⟩
theorem disk_first_any (b o : Nat) (es : List Int) (w : World) (hlen : es.length ≤ 100)
 (hc : ∀ k (_ : k < es.length), w.cell? ⟨b, o + k, none⟩ = some (.int .i64 es[k])) :
 Calls Tryz.prog 139 #[.slice (some ⟨b, o, none⟩) es.length es.length] w fun e w' => e = .returned (.int .i64 (firstE es)) ∧ w = w' := by
 go_enter Tryz.func139, Tryz.ntmps139
 go_wp2
 go_loop [7] (fun i => ∃ k : Nat, k ≤ es.length ∧ i = .int .i64 k ∧ firstE es = firstE (es.drop k)) (fun i => es.length - (intOf i).toNat)
 case atStart => exact ⟨0, Nat.zero_le _, rfl, rfl⟩
 case round =>
  obtain ⟨k, hk, rfl, hf⟩ := hrel
  have HF := Lib.hid hf
  clear hf
  by_cases hlt : k < es.length
  · have hck := hc k hlt
    have hd : es.drop k = es[k] :: es.drop (k + 1) := List.drop_eq_getElem_cons hlt
    have HD := Lib.hid hd
    clear hd hc
    by_cases h0 : es[k] = 0
    · have h0' : (es[k] != 0) = false := by simp [h0]
      have H0 := Lib.hid h0
      clear h0
      go_wp2
      go_round
      case rel => exact ⟨k + 1, by omega, by go_num, by rw [HF.out, HD.out]; simp [firstE, H0.out]⟩
      case measure => simp [intOf]; omega
    · have h0' : (es[k] != 0) = true := by simp [h0]
      have H0 := Lib.hid h0
      clear h0
      go_wp2
      go_ret
      exact ⟨by rw [HF.out, HD.out]; simp [firstE, H0.out], rfl⟩
  · go_wp2
    go_ret
    exact ⟨by rw [HF.out, List.drop_of_length_le (by omega)]; rfl, rfl⟩
theorem bcell {W w1 : World} (hb : Below W.heap.size W w1) : (∀ b o, b < W.heap.size → w1.cell? ⟨b, o, none⟩ = W.cell? ⟨b, o, none⟩) ∧ (∀ b o, b < W.heap.size → w1.frozen? ⟨b, o, none⟩ = W.frozen? ⟨b, o, none⟩) :=
 ⟨fun b o h => hb.cell (p := ⟨b, o, none⟩) h, fun b o h => hb.frozen (p := ⟨b, o, none⟩) h⟩
theorem stringErr_any (s : ByteArray) (w : World) (_hs : s.size ≤ maxLen) :
 Calls Tryz.prog 179 #[.string s] w fun e w' => e = .returned (.int .i64 (strE s)) ∧ w = w' := by
 unfold maxLen at _hs
 go_enter Tryz.func179, Tryz.ntmps179
 go_wp2_with (go_at_call 183; refine (unless_any _ _ _).mono ?_; rintro e w' ⟨rfl, rfl⟩)
 go_ret
 exact ⟨rfl, rfl⟩
theorem Within_any (n lo hi : Int) (w : World) :
 Calls Tryz.prog 32 #[.int .i64 n, .int .i64 lo, .int .i64 hi] w fun e w' => e = .returned (.bool (inB n lo hi)) ∧ w = w' := by
 by_cases h : lo ≤ n
 · go_enter Tryz.func32, Tryz.ntmps32
   go_wp2
   go_ret
   exact ⟨by simp [inB, h], rfl⟩
 · go_enter Tryz.func32, Tryz.ntmps32
   go_wp2
   go_ret
   exact ⟨by simp [inB]; omega, rfl⟩
theorem SumOf1_any (a c : Int) (w : World) (h0 : 0 ≤ a) (h1 : a < 2147483648) (h2 : 0 ≤ c) (h3 : c < 256) :
 Calls Tryz.prog 173 #[.int .i64 a, .int .i64 c] w fun e w' => e = .returned (.int .i64 (sumStep a c)) ∧ w = w' := by
 have hb := rot_eq a h0 h1
 obtain ⟨x, hx⟩ : ∃ x, x = a * 2 % 2147483648 + a / 1073741824 := ⟨_, rfl⟩
 rw [← hx] at hb
 have hx0 : 0 ≤ x := by omega
 have hx1 : x < 4294967296 := by omega
 have HX := Lib.hid hx
 clear hx
 go_enter Tryz.func173, Tryz.ntmps173
 go_wp2
 go_ret
 exact ⟨retI (by rw [HX.out]; rfl), rfl⟩
end Go.Proofs.YtmlilplbdpjfcaaGreatDoor
