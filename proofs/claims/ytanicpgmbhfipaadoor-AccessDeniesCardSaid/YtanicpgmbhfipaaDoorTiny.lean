/-
  The small functions of package bytes and of the helpers: within, unless, first, stringErr, countErr, limit. Each returns what its plain function says, and memory is as it was.
-/
import Derived.Test.YtanicpgmbhfipaaDoorChecked
import Derived.Test.YtanicpgmbhfipaaDoorPlain
import Derived.WalkKit
import Derived.WalkLawsBesides
import Derived.WalkSpells
import Derived.Lib.Hide
import Derived.Deep.QuietTactic
import Derived.BigQuiet
import Derived.Deep.DeepFit
namespace Go.Proofs.YtanicpgmbhfipaaDoor
open Go.RowKit

theorem access_within_any (n lo hi : Int) (w : World) :
    Calls Tryd.prog 38 #[.int .i64 n, .int .i64 lo, .int .i64 hi] w fun e w' => e = .returned (.bool (inB n lo hi)) ∧ w = w' := by
  by_cases h : lo ≤ n
  · go_enter Tryd.func38, Tryd.ntmps38
    go_wp2
    go_ret
    exact ⟨by simp [inB, h], rfl⟩
  · go_enter Tryd.func38, Tryd.ntmps38
    go_wp2
    go_ret
    exact ⟨by simp [inB]; omega, rfl⟩
theorem acl_within_any (n lo hi : Int) (w : World) :
    Calls Tryd.prog 54 #[.int .i64 n, .int .i64 lo, .int .i64 hi] w fun e w' => e = .returned (.bool (inB n lo hi)) ∧ w = w' := by
  by_cases h : lo ≤ n
  · go_enter Tryd.func54, Tryd.ntmps54
    go_wp2
    go_ret
    exact ⟨by simp [inB, h], rfl⟩
  · go_enter Tryd.func54, Tryd.ntmps54
    go_wp2
    go_ret
    exact ⟨by simp [inB]; omega, rfl⟩
theorem access_unless_any (ok : Bool) (e : Int) (w : World) :
    Calls Tryd.prog 35 #[.bool ok, .int .i64 e] w fun e' w' => e' = .returned (.int .i64 (unl ok e)) ∧ w = w' := by
  cases ok
  · go_enter Tryd.func35, Tryd.ntmps35
    go_wp2
    go_ret
    exact ⟨rfl, rfl⟩
  · go_enter Tryd.func35, Tryd.ntmps35
    go_wp2
    go_ret
    exact ⟨rfl, rfl⟩
theorem acl_unless_any (ok : Bool) (e : Int) (w : World) :
    Calls Tryd.prog 57 #[.bool ok, .int .i64 e] w fun e' w' => e' = .returned (.int .i64 (unl ok e)) ∧ w = w' := by
  cases ok
  · go_enter Tryd.func57, Tryd.ntmps57
    go_wp2
    go_ret
    exact ⟨rfl, rfl⟩
  · go_enter Tryd.func57, Tryd.ntmps57
    go_wp2
    go_ret
    exact ⟨rfl, rfl⟩
theorem access_first_any (b o : Nat) (es : List Int) (w : World) (hlen : es.length ≤ 100)
    (hc : ∀ k (_ : k < es.length), w.cell? ⟨b, o + k, none⟩ = some (.int .i64 es[k])) :
    Calls Tryd.prog 29 #[.slice (some ⟨b, o, none⟩) es.length es.length] w fun e w' => e = .returned (.int .i64 (firstE es)) ∧ w = w' := by
  go_enter Tryd.func29, Tryd.ntmps29
  go_wp2
  go_loop [7] (fun i => ∃ k : Nat, k ≤ es.length ∧ i = .int .i64 k ∧ firstE es = firstE (es.drop k)) (fun i => es.length - (intOf i).toNat)
  case atStart => exact ⟨0, Nat.zero_le _, rfl, rfl⟩
  case round =>
    obtain ⟨k, hk, rfl, hf⟩ := hrel
    have HF := Lib.hid hf
    clear hf
    by_cases hlt : k < es.length
    · have hck := hc k hlt
      have hd : es.drop k = es[k] :: es.drop (k + 1) := List.drop_eq_getElem_cons hlt
      have HD := Lib.hid hd
      clear hd hc
      by_cases h0 : es[k] = 0
      · have h0' : (es[k] != 0) = false := by simp [h0]
        have H0 := Lib.hid h0
        clear h0
        go_wp2
        go_round
        case rel => exact ⟨k + 1, by omega, by go_num, by rw [HF.out, HD.out]; simp [firstE, H0.out]⟩
        case measure => simp [intOf]; omega
      · have h0' : (es[k] != 0) = true := by simp [h0]
        have H0 := Lib.hid h0
        clear h0
        go_wp2
        go_ret
        exact ⟨by rw [HF.out, HD.out]; simp [firstE, H0.out], rfl⟩
    · go_wp2
      go_ret
      exact ⟨by rw [HF.out, List.drop_of_length_le (by omega)]; rfl, rfl⟩
theorem acl_first_any (b o : Nat) (es : List Int) (w : World) (hlen : es.length ≤ 100)
    (hc : ∀ k (_ : k < es.length), w.cell? ⟨b, o + k, none⟩ = some (.int .i64 es[k])) :
    Calls Tryd.prog 56 #[.slice (some ⟨b, o, none⟩) es.length es.length] w fun e w' => e = .returned (.int .i64 (firstE es)) ∧ w = w' := by
  go_enter Tryd.func56, Tryd.ntmps56
  go_wp2
  go_loop [7] (fun i => ∃ k : Nat, k ≤ es.length ∧ i = .int .i64 k ∧ firstE es = firstE (es.drop k)) (fun i => es.length - (intOf i).toNat)
  case atStart => exact ⟨0, Nat.zero_le _, rfl, rfl⟩
  case round =>
    obtain ⟨k, hk, rfl, hf⟩ := hrel
    have HF := Lib.hid hf
    clear hf
    by_cases hlt : k < es.length
    · have hck := hc k hlt
      have hd : es.drop k = es[k] :: es.drop (k + 1) := List.drop_eq_getElem_cons hlt
      have HD := Lib.hid hd
      clear hd hc
      by_cases h0 : es[k] = 0
      · have h0' : (es[k] != 0) = false := by simp [h0]
        have H0 := Lib.hid h0
        clear h0
        go_wp2
        go_round
        case rel => exact ⟨k + 1, by omega, by go_num, by rw [HF.out, HD.out]; simp [firstE, H0.out]⟩
        case measure => simp [intOf]; omega
      · have h0' : (es[k] != 0) = true := by simp [h0]
        have H0 := Lib.hid h0
        clear h0
        go_wp2
        go_ret
        exact ⟨by rw [HF.out, HD.out]; simp [firstE, H0.out], rfl⟩
    · go_wp2
      go_ret
      exact ⟨by rw [HF.out, List.drop_of_length_le (by omega)]; rfl, rfl⟩
theorem bcell {W w1 : World} (hb : Below W.heap.size W w1) : (∀ b o, b < W.heap.size → w1.cell? ⟨b, o, none⟩ = W.cell? ⟨b, o, none⟩) ∧ (∀ b o, b < W.heap.size → w1.frozen? ⟨b, o, none⟩ = W.frozen? ⟨b, o, none⟩) :=
  ⟨fun b o h => hb.cell (p := ⟨b, o, none⟩) h, fun b o h => hb.frozen (p := ⟨b, o, none⟩) h⟩

theorem access_first_list (es : List Int) (w : World) (hlen : es.length ≤ 100) :
    Calls Tryd.prog 29 #[.slice (some ⟨w.heap.size, 0, none⟩) es.length es.length] (w.alloc (.cells (es.map (Value.int .i64)).toArray 35)) fun e w' => e = .returned (.int .i64 (firstE es)) ∧ w.alloc (.cells (es.map (Value.int .i64)).toArray 35) = w' :=
  access_first_any _ _ es _ hlen fun k hk => by simp [hk]
theorem acl_first_list (es : List Int) (w : World) (hlen : es.length ≤ 100) :
    Calls Tryd.prog 56 #[.slice (some ⟨w.heap.size, 0, none⟩) es.length es.length] (w.alloc (.cells (es.map (Value.int .i64)).toArray 35)) fun e w' => e = .returned (.int .i64 (firstE es)) ∧ w.alloc (.cells (es.map (Value.int .i64)).toArray 35) = w' :=
  acl_first_any _ _ es _ hlen fun k hk => by simp [hk]
theorem Within_any (n lo hi : Int) (w : World) :
    Calls Tryd.prog 43 #[.int .i64 n, .int .i64 lo, .int .i64 hi] w fun e w' => e = .returned (.bool (inB n lo hi)) ∧ w = w' := by
  by_cases h : lo ≤ n
  · go_enter Tryd.func43, Tryd.ntmps43
    go_wp2
    go_ret
    exact ⟨by simp [inB, h], rfl⟩
  · go_enter Tryd.func43, Tryd.ntmps43
    go_wp2
    go_ret
    exact ⟨by simp [inB]; omega, rfl⟩

theorem Power_any (n : Int) (w : World) (h0 : 0 ≤ n) (h7 : n ≤ 7) :
    Calls Tryd.prog 15 #[.int .i64 (8 * n)] w fun e w' => e = .returned (.int .i64 (256 ^ n.toNat)) ∧ w = w' := by
  have : n = 0 ∨ n = 1 ∨ n = 2 ∨ n = 3 ∨ n = 4 ∨ n = 5 ∨ n = 6 ∨ n = 7 := by omega
  rcases this with rfl | rfl | rfl | rfl | rfl | rfl | rfl | rfl
  all_goals
    go_enter Tryd.func15, Tryd.ntmps15
    go_wp2
    go_ret
    exact ⟨rfl, rfl⟩

end Go.Proofs.YtanicpgmbhfipaaDoor
