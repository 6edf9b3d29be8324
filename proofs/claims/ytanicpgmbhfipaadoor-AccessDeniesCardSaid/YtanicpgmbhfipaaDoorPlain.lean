/-
  Plain words for numbers, strings and sums: what the functions of chapter 1 compute. No program in sight.
-/
import Derived.Below
import Derived.RowKit
import Derived.Laws.BitsLemmas
import Derived.Lib.Hide
import Derived.Deep.Draws
namespace Go.Proofs.YtanicpgmbhfipaaDoor
open Go.RowKit

theorem retI {k : IntKind} {a b : Int} (h : a = b) : Ending.returned (.int k a) = .returned (.int k b) := by rw [h]
theorem retS {a b : ByteArray} (h : a = b) : Ending.returned (.string a) = .returned (.string b) := by rw [h]
theorem retB {a b : Bool} (h : a = b) : Ending.returned (.bool a) = .returned (.bool b) := by rw [h]
theorem retSI {k : IntKind} {a b : ByteArray} {c d : Int} (h : a = b) (h' : c = d) : Ending.returned (.tuple #[.string a, .int k c]) = .returned (.tuple #[.string b, .int k d]) := by rw [h, h']
theorem retII {k l : IntKind} {a b c d : Int} (h : a = b) (h' : c = d) : Ending.returned (.tuple #[.int k a, .int l c]) = .returned (.tuple #[.int k b, .int l d]) := by rw [h, h']

/-- from lo to hi -/
def inB (n lo hi : Int) : Bool := decide (lo ≤ n) && decide (n ≤ hi)
theorem inB_true {n lo hi : Int} : inB n lo hi = true ↔ lo ≤ n ∧ n ≤ hi := by simp [inB]
theorem inB_false {n lo hi : Int} : inB n lo hi = false ↔ ¬ (lo ≤ n ∧ n ≤ hi) := by simp [inB]
/-- 0 if ok, else e -/
def unl (ok : Bool) (e : Int) : Int := if ok then 0 else e
theorem unl_true (e : Int) : unl true e = 0 := rfl
theorem unl_false (e : Int) : unl false e = e := rfl
theorem unl_cases (b : Bool) (e : Int) : unl b e = 0 ∨ unl b e = e := by cases b <;> simp [unl]
/-- the first that is not 0 -/
def firstE : List Int → Int
  | [] => 0
  | e :: l => if e = 0 then firstE l else e
/-- the bytes of a string -/
abbrev bl (s : ByteArray) : List UInt8 := s.data.toList
/-- the string of bytes -/
def bs (l : List UInt8) : ByteArray := ⟨l.toArray⟩
theorem bl_bs (l : List UInt8) : bl (bs l) = l := rfl
theorem bs_bl (s : ByteArray) : bs (bl s) = s := rfl
theorem bs_size (l : List UInt8) : (bs l).size = l.length := rfl
theorem bl_length (s : ByteArray) : (bl s).length = s.size := rfl
theorem bl_inj {s t : ByteArray} (h : bl s = bl t) : s = t := by rw [← bs_bl s, h, bs_bl]
theorem bl_append (s t : ByteArray) : bl (s ++ t) = bl s ++ bl t := by simp
theorem bl_extract (s : ByteArray) (a b : Nat) : bl (s.extract a b) = ((bl s).take b).drop a := by
  simp [bl, ByteArray.data_extract, Array.toList_extract, List.drop_take]
theorem bl_cut (s : ByteArray) (a c : Nat) : bl ((s.extract a s.size).extract 0 c) = ((bl s).drop a).take c := by
  rw [bl_extract, bl_extract, ← bl_length, List.take_length]; rfl
/-- the error of a string -/
def strE (s : ByteArray) : Int := unl (decide ((s.size : Int) ≤ 200000)) 8
theorem strE_zero {s : ByteArray} : strE s = 0 ↔ s.size ≤ 200000 := by
  unfold strE unl
  by_cases h : (s.size : Int) ≤ 200000
  · rw [decide_eq_true h]; exact ⟨fun _ => by omega, fun _ => rfl⟩
  · rw [decide_eq_false h]; exact ⟨fun h' => absurd h' (by decide), fun h' => by omega⟩
theorem strE_cases (s : ByteArray) : strE s = 0 ∨ strE s = 8 := unl_cases _ _
/-- the error of a number of bytes -/
def cntE (n : Int) : Int := unl (inB n 1 6) 10
theorem cntE_zero {n : Int} : cntE n = 0 ↔ 1 ≤ n ∧ n ≤ 6 := by
  rw [← inB_true]; unfold cntE unl; split <;> simp_all

/-- the number that bytes have, the lowest first -/
def num : List UInt8 → Int
  | [] => 0
  | b :: l => b.toNat + 256 * num l
theorem num_bound : ∀ l : List UInt8, 0 ≤ num l ∧ num l < 256 ^ l.length
  | [] => by simp [num]
  | b :: l => by
    obtain ⟨h1, h2⟩ := num_bound l
    have hb : b.toNat < 256 := b.toNat_lt
    simp only [num, List.length_cons, Int.pow_succ]
    omega
/-- a number's lowest bytes (of a number below 0: its two's complement) -/
def lit (n : Int) : Nat → List UInt8
  | 0 => []
  | c + 1 => UInt8.ofNat (n % 256).toNat :: lit (n / 256) c
theorem lit_length (n : Int) (c : Nat) : (lit n c).length = c := by
  induction c generalizing n with
  | zero => rfl
  | succ c ih => simp [lit, ih]
theorem num_lit (c : Nat) : ∀ n : Int, num (lit n c) = n % 256 ^ c := by
  induction c with
  | zero => intro n; simp [lit, num, Int.emod_one]
  | succ c ih =>
    intro n
    have h1 : 0 ≤ n % 256 := Int.emod_nonneg _ (by decide)
    have h2 : n % 256 < 256 := Int.emod_lt_of_pos _ (by decide)
    have h3 : ((UInt8.ofNat (n % 256).toNat).toNat : Int) = n % 256 := by
      simp [UInt8.toNat_ofNat']
      omega
    simp only [lit, num, ih, h3]
    have hp : (0 : Int) < 256 ^ c := Int.pow_pos (by decide)
    have e := Int.emod_add_mul_ediv n (256 ^ (c + 1))
    have e1 := Int.emod_add_mul_ediv n 256
    have e2 := Int.emod_add_mul_ediv (n / 256) (256 ^ c)
    have b2 : 0 ≤ (n / 256) % 256 ^ c := Int.emod_nonneg _ (by omega)
    have b3 : (n / 256) % 256 ^ c < 256 ^ c := Int.emod_lt_of_pos _ hp
    have : n % 256 + 256 * (n / 256 % 256 ^ c) = n % 256 ^ (c + 1) := by
      rw [Int.pow_succ, Int.mul_comm (256 ^ c) 256]
      generalize (256 : Int) ^ c = P at *
      have e3 : n = n % 256 + 256 * (n / 256 % P) + 256 * P * (n / 256 / P) := by
        rw [Int.mul_assoc]
        generalize P * (n / 256 / P) = y at *
        omega
      conv => rhs; rw [e3, Int.add_mul_emod_self_left]
      exact (Int.emod_eq_of_lt (by omega) (by omega)).symm
    exact this
theorem lit_num : ∀ l : List UInt8, lit (num l) l.length = l
  | [] => rfl
  | b :: l => by
    have hb : b.toNat < 256 := b.toNat_lt
    have h1 : num (b :: l) % 256 = b.toNat := by simp only [num]; omega
    have h2 : num (b :: l) / 256 = num l := by simp only [num]; omega
    simp only [List.length_cons, lit, h1, h2, lit_num l]
    simp
/-- a step of the checksum, of the hash -/
def sumStep (n : Int) (c : Int) : Int := (n * 2 % 2147483648 + n / 1073741824 + c) % 2147483648
def hashStep (n : Int) (c : Int) : Int := (n * 31 + c) % 1000003
def sumL (l : List UInt8) (n : Int) : Int := l.foldl (fun n b => sumStep n b.toNat) n
def hashL (l : List UInt8) (n : Int) : Int := l.foldl (fun n b => hashStep n b.toNat) n
theorem wraps_i64 (j : Nat) (hj : j ≤ 63) (n : Int) (h₀ : 0 ≤ n) (h₁ : n < 2 ^ j) : IntKind.i64.wrap n = n := by
  have h2 : (2 : Int) ^ j ≤ 2 ^ 63 := by
    have : (2 : Nat) ^ j ≤ 2 ^ 63 := Nat.pow_le_pow_right (by decide) hj
    exact_mod_cast this
  have h3 : (2 : Int) ^ 63 = 9223372036854775808 := by decide
  rw [IntKind.wrap_i64]; omega
theorem rot_eq (a : Int) (h0 : 0 ≤ a) (h1 : a < 2147483648) :
    bits .or .i64 (bits .and .i64 (a * 2) 2147483647) (a / 1073741824) = a * 2 % 2147483648 + a / 1073741824 := by
  have e1 : bits .and .i64 (a * 2) 2147483647 = a * 2 % 2147483648 :=
    bits_mask .i64 62 (by decide) (wraps_i64 62 (by decide)) 31 (by decide) (a * 2) (by omega) (by omega)
  rw [e1]
  refine bits_join .i64 62 (by decide) (wraps_i64 62 (by decide)) 1 _ _ (by omega) (by omega) (by omega) (by omega) (by omega) (by omega)
theorem or_byte (m b : Int) (h0 : 0 ≤ m) (h1 : m < 281474976710656) (hb0 : 0 ≤ b) (hb : b < 256) : bits .or .i64 (m * 256) b = m * 256 + b :=
  bits_join .i64 62 (by decide) (wraps_i64 62 (by decide)) 8 _ _ (by omega) (by omega) (by omega) (by omega) (by omega) (by omega)
theorem drop_bl (s : ByteArray) (k : Nat) (h : k < s.size) : (bl s).drop k = s[k] :: (bl s).drop (k + 1) := List.drop_eq_getElem_cons (l := bl s) h
theorem sumL_step (s : ByteArray) (k : Nat) (h : k < s.size) (m : Int) : sumL ((bl s).drop k) m = sumL ((bl s).drop (k + 1)) (sumStep m s[k].toNat) := by
  rw [drop_bl s k h]; rfl
theorem hashL_step (s : ByteArray) (k : Nat) (h : k < s.size) (m : Int) : hashL ((bl s).drop k) m = hashL ((bl s).drop (k + 1)) (hashStep m s[k].toNat) := by
  rw [drop_bl s k h]; rfl
theorem sumStep_lt (m c : Int) : 0 ≤ sumStep m c ∧ sumStep m c < 2147483648 := by unfold sumStep; omega
theorem hashStep_lt (m c : Int) : 0 ≤ hashStep m c ∧ hashStep m c < 1000003 := by unfold hashStep; omega
theorem pow256_le (n : Nat) (h : n ≤ 6) : (256 : Int) ^ n ≤ 281474976710656 := by
  have : n = 0 ∨ n = 1 ∨ n = 2 ∨ n = 3 ∨ n = 4 ∨ n = 5 ∨ n = 6 := by omega
  rcases this with rfl | rfl | rfl | rfl | rfl | rfl | rfl <;> decide
theorem num_lt6 (l : List UInt8) (h : l.length ≤ 6) : num l < 281474976710656 := Int.lt_of_lt_of_le (num_bound l).2 (pow256_le _ h)
theorem two_pow_8 (k : Nat) : (2 : Int) ^ (8 * k) = 256 ^ k := by rw [Int.pow_mul]; rfl
theorem lit_get (c : Nat) : ∀ (n : Int) (j : Nat), j < c → (lit n c)[j]? = some (UInt8.ofNat (n / 256 ^ j % 256).toNat) := by
  induction c with
  | zero => intro n j h; omega
  | succ c ih =>
    intro n j h
    cases j with
    | zero => simp [lit]
    | succ j =>
      simp only [lit, List.getElem?_cons_succ]
      rw [ih _ _ (by omega), Int.pow_succ, Int.mul_comm, Int.ediv_ediv_of_nonneg (by decide)]
/-- a byte as a value -/
def byteV (b : UInt8) : Value := .int .u8 b.toNat
theorem byteV_mod (n : Int) : byteV (UInt8.ofNat (n % 256).toNat) = .int .u8 (n % 256) := by
  have h1 : 0 ≤ n % 256 := Int.emod_nonneg _ (by decide)
  have h2 : n % 256 < 256 := Int.emod_lt_of_pos _ (by decide)
  unfold byteV
  congr 1
  simp [UInt8.toNat_ofNat']
  omega
theorem pow256_pos (c : Nat) : (1 : Int) ≤ 256 ^ c := by
  have : (0 : Int) < 256 ^ c := Int.pow_pos (by decide)
  omega
theorem pow256_le7 (n : Nat) (h : n ≤ 7) : (256 : Int) ^ n ≤ 72057594037927936 := by
  have : n = 0 ∨ n = 1 ∨ n = 2 ∨ n = 3 ∨ n = 4 ∨ n = 5 ∨ n = 6 ∨ n = 7 := by omega
  rcases this with rfl | rfl | rfl | rfl | rfl | rfl | rfl | rfl <;> decide
/-- the error of LittleOf -/
def litE (n c : Int) : Int := if cntE c ≠ 0 then cntE c else unl (inB n 0 (256 ^ c.toNat - 1)) 2
def litS (n c : Int) : ByteArray := if litE n c = 0 then bs (lit n c.toNat) else ⟨#[]⟩
/-- how many bytes a short signed number has -/
def scount (n : Int) : Nat := if inB n (-128) 127 then 1 else if inB n (-32768) 32767 then 2 else if inB n (-8388608) 8388607 then 3 else 4
/-- the value of a two's complement -/
def sval (n c : Int) : Int := if n ≥ 256 ^ c.toNat / 2 then n - 256 ^ c.toNat else n
/-- the two's complement is read again -/
theorem sval_scount (n : Int) (h1 : -2147483647 ≤ n) (h2 : n ≤ 2147483647) : sval (n % 256 ^ scount n) (scount n) = n := by
  unfold scount sval
  repeat' split
  all_goals simp only [inB_true] at *
  all_goals simp only [Int.toNat_natCast, Int.reducePow, Int.reduceDiv] at *
  all_goals omega
theorem scount_spec (n : Int) : 1 ≤ scount n ∧ scount n ≤ 4 := by
  unfold scount
  cases inB n (-128) 127 <;> cases inB n (-32768) 32767 <;> cases inB n (-8388608) 8388607 <;> decide
/-- the error of a cut -/
def atE (s : ByteArray) (a c : Int) : Int := if strE s ≠ 0 then strE s else if cntE c ≠ 0 then cntE c else unl (inB a 0 (s.size - c)) 37
theorem atE_zero {s : ByteArray} {a c : Int} (h : atE s a c = 0) : s.size ≤ 200000 ∧ 1 ≤ c ∧ c ≤ 6 ∧ 0 ≤ a ∧ a ≤ s.size - c := by
  unfold atE at h
  split at h
  · rename_i h'; exact absurd h h'
  · rename_i h1
    split at h
    · rename_i h'; exact absurd h h'
    · rename_i h2
      have e1 := strE_zero.1 (Classical.not_not.1 h1)
      have e2 := cntE_zero.1 (Classical.not_not.1 h2)
      cases e3 : inB a 0 (s.size - c) with
      | false => rw [e3] at h; cases h
      | true => rw [inB_true] at e3; omega
/-- the bytes of a cut -/
def cutS (s : ByteArray) (a c : Int) : ByteArray := if atE s a c = 0 then (s.extract a.toNat s.size).extract 0 c.toNat else ⟨#[]⟩
theorem cutS_size (s : ByteArray) (a c : Int) : (cutS s a c).size ≤ 6 := by
  unfold cutS
  split
  · rename_i h
    obtain ⟨_, h1, h2, _⟩ := atE_zero h
    rw [← bl_length, bl_cut, List.length_take]
    omega
  · exact Nat.zero_le _
/-- what SignedAt returns -/
def satV (s : ByteArray) (a c : Int) : Int := if atE s a c = 0 then sval (num (bl (cutS s a c))) c else 0
theorem scount_cases (n : Int) : (scount n = 1 ∧ -128 ≤ n ∧ n ≤ 127) ∨ (scount n = 2 ∧ -32768 ≤ n ∧ n ≤ 32767 ∧ ¬ (-128 ≤ n ∧ n ≤ 127)) ∨
    (scount n = 3 ∧ -8388608 ≤ n ∧ n ≤ 8388607 ∧ ¬ (-32768 ≤ n ∧ n ≤ 32767)) ∨ (scount n = 4 ∧ ¬ (-8388608 ≤ n ∧ n ≤ 8388607)) := by
  unfold scount
  by_cases h1 : inB n (-128) 127 = true
  · rw [if_pos h1]; rw [inB_true] at h1; omega
  · rw [if_neg h1]
    rw [inB_true] at h1
    by_cases h2 : inB n (-32768) 32767 = true
    · rw [if_pos h2]; rw [inB_true] at h2; omega
    · rw [if_neg h2]
      rw [inB_true] at h2
      by_cases h3 : inB n (-8388608) 8388607 = true
      · rw [if_pos h3]; rw [inB_true] at h3; omega
      · rw [if_neg h3]; rw [inB_true] at h3; omega
theorem lit_snoc (n : Int) (k : Nat) : lit n (k + 1) = lit n k ++ [UInt8.ofNat (n / 256 ^ k % 256).toNat] := by
  induction k generalizing n with
  | zero => simp [lit]
  | succ k ih =>
    have : lit n (k + 1 + 1) = UInt8.ofNat (n % 256).toNat :: lit (n / 256) (k + 1) := rfl
    rw [this, ih, Int.pow_succ, Int.mul_comm, ← Int.ediv_ediv_of_nonneg (by decide)]
    rfl

/-! ### memory that is only read -/
theorem below_drewN {B : Nat} {a w : World} (h : Below B a w) (n : Nat) : Below B a (w.drewN n) := ⟨h.os, h.tape, h.output, h.size, h.block⟩
theorem bel_drewN {a w : World} (h : Below a.heap.size a w) (n : Nat) : Below a.heap.size a (w.drewN n) := ⟨h.os, h.tape, h.output, h.size, h.block⟩
theorem bel_alloc {a w : World} (h : Below a.heap.size a w) (o : Obj) : Below a.heap.size a (w.alloc o) := h.alloc h.size o
theorem bel_trans {a b c : World} (h : Below a.heap.size a b) (k : Below b.heap.size b c) : Below a.heap.size a c := h.trans (k.mono h.size)
/-- the slice's cells read as these values, and lie below block B -/
def Rd (w : World) (B : Nat) (A : Option Addr) (xs : List Value) : Prop := ∀ j u, xs[j]? = some u → ∃ b o, A = some ⟨b, o, none⟩ ∧ b < B ∧ w.cell? ⟨b, o + j, none⟩ = some u
theorem Rd.below {w w' : World} {B : Nat} {A : Option Addr} {xs : List Value} (h : Rd w B A xs) (hb : Below B w w') : Rd w' B A xs := fun j u hj => by
  obtain ⟨b, o, hA, hB, hc⟩ := h j u hj
  exact ⟨b, o, hA, hB, (hb.cell (p := ⟨b, o + j, none⟩) hB).trans hc⟩
theorem Rd.mono {w : World} {B B' : Nat} {A : Option Addr} {xs : List Value} (h : Rd w B A xs) (hB : B ≤ B') : Rd w B' A xs := fun j u hj => by
  obtain ⟨b, o, hA, hb, hc⟩ := h j u hj
  exact ⟨b, o, hA, by omega, hc⟩
theorem Rd.below' {w w' : World} {A : Option Addr} {xs : List Value} (h : Rd w w.heap.size A xs) (hb : Below w.heap.size w w') : Rd w' w'.heap.size A xs := (h.below hb).mono hb.size
theorem Rd.nil (w : World) (B : Nat) (A : Option Addr) : Rd w B A [] := fun j u hj => by simp at hj
theorem Rd.opened {w : World} {B : Nat} {A : Option Addr} {xs : List Value} (h : Rd w B A xs) (hne : 0 < xs.length) :
    ∃ b o, A = some ⟨b, o, none⟩ ∧ b < B ∧ ∀ j u, xs[j]? = some u → w.cell? ⟨b, o + j, none⟩ = some u := by
  obtain ⟨b, o, hA, hB, _⟩ := h 0 xs[0] (List.getElem?_eq_getElem hne)
  refine ⟨b, o, hA, hB, fun j u hj => ?_⟩
  obtain ⟨b', o', hA', _, hc⟩ := h j u hj
  rw [hA] at hA'
  injection hA' with e
  injection e with e1 e2
  subst e1 e2
  exact hc
theorem Rd.of_own {w : World} {base : Nat} {e : TypeId} {size n c : Nat} {A : Option Addr} {xs : List Value} (h : w.ownsRow base e size (.slice A n c) n xs) : Rd w w.heap.size A xs := fun j u hj => by
  have hl := h.1
  have hj' : j < xs.length := (List.getElem?_eq_some_iff.1 hj).1
  rcases h.2 with ⟨h', h0⟩ | ⟨g, cap, cur, h', _, hg, _⟩
  · rw [h0] at hl; omega
  · injection h' with h1 h2 h3
    subst h1 h3
    refine ⟨g, 0, rfl, ?_, ?_⟩
    · rcases Nat.lt_or_ge g w.heap.size with h4 | h4
      · exact h4
      · rw [Array.getElem?_eq_none h4] at hg; cases hg
    · rw [Nat.zero_add, h.cellAt j (by omega)]; exact hj

/-- a field of a layout: its kind, its size -/
abbrev Fld := Int × Int
def fldV (f : Fld) : List Value := [.int .i64 f.1, .int .i64 f.2]
def fldsV (l : List Fld) : List Value := l.flatMap fldV
theorem fldsV_length (l : List Fld) : (fldsV l).length = 2 * l.length := by
  induction l with
  | nil => rfl
  | cons f l ih => simp [fldsV, fldV] at ih ⊢; omega
theorem fldsV_get (l : List Fld) : ∀ (k : Nat) (h : k < l.length), (fldsV l)[k * 2]? = some (.int .i64 l[k].1) ∧ (fldsV l)[k * 2 + 1]? = some (.int .i64 l[k].2) := by
  induction l with
  | nil => intro k h; exact absurd h (by simp)
  | cons f l ih =>
    intro k h
    cases k with
    | zero => exact ⟨rfl, rfl⟩
    | succ k =>
      have := ih k (by simpa using h)
      simp only [fldsV, List.flatMap_cons, fldV, Nat.add_mul, Nat.one_mul, List.cons_append, List.nil_append, List.getElem_cons_succ]
      exact this
/-- the error of a field -/
def fldLo (k : Int) : Int := if k = 2 ∨ k = 3 then 0 else 1
def fldHi (k : Int) : Int := if k = 0 then 6 else if k = 2 then 255 else if k = 3 then 127 else 64
def fldE (k s : Int) : Int := if inB k 0 4 = false then 15 else unl (inB s (fldLo k) (fldHi k)) 2
/-- the first error of items, and its index -/
def eachE {α : Type} (f : Nat → α → Int) : Nat → List α → Int × Int
  | _, [] => (0, 0)
  | i, x :: l => if f i x = 0 then eachE f (i + 1) l else (i, f i x)
/-- the error of a layout, and its index -/
def layP (l : List Fld) : Int × Int := if 24 < l.length then (0, 8) else eachE (fun _ f => fldE f.1 f.2) 0 l
theorem eachE_zero {α : Type} (f : Nat → α → Int) : ∀ (l : List α) (i : Nat), (eachE f i l).2 = 0 → ∀ j (h : j < l.length), f (i + j) l[j] = 0
  | [], _, _, j, h => absurd h (by simp)
  | x :: l, i, h0, j, h => by
    unfold eachE at h0
    split at h0
    · rename_i hx
      cases j with
      | zero => exact hx
      | succ j =>
        have := eachE_zero f l (i + 1) h0 j (by simpa using h)
        rw [show i + (j + 1) = i + 1 + j by omega]
        exact this
    · rename_i hx
      exact absurd h0 hx
/-- whether a field's size hangs on its value -/
def opn (k : Int) : Bool := k == 2 || k == 3
/-- offsets, step by step: the offsets so far, the sum, whether an open field was met -/
def offStep (st : List Int × Int × Bool) (f : Fld) : List Int × Int × Bool :=
  (if st.2.2 then st.1 else st.1 ++ [st.2.1], if opn f.1 then st.2.1 else st.2.1 + f.2, st.2.2 || opn f.1)
def offAt (l : List Fld) (k : Nat) : List Int × Int × Bool := (l.take k).foldl offStep ([], 0, false)
def offL (l : List Fld) : List Int := (offAt l l.length).1
def offN (l : List Fld) : Int := (offAt l l.length).2.1
theorem offAt_succ (l : List Fld) (k : Nat) (h : k < l.length) : offAt l (k + 1) = offStep (offAt l k) l[k] := by
  unfold offAt
  rw [List.take_succ_eq_append_getElem h, List.foldl_append]
  rfl
/-- fields whose sizes are small -/
def Small (l : List Fld) : Prop := ∀ j (h : j < l.length), 0 ≤ l[j].2 ∧ l[j].2 ≤ 255
theorem offAt_bd (l : List Fld) (hs : Small l) : ∀ k, k ≤ l.length → 0 ≤ (offAt l k).2.1 ∧ (offAt l k).2.1 ≤ 255 * k ∧ (offAt l k).1.length ≤ k
  | 0, _ => by simp [offAt]
  | k + 1, h => by
    obtain ⟨h1, h2, h3⟩ := offAt_bd l hs k (by omega)
    obtain ⟨g1, g2⟩ := hs k (by omega)
    rw [offAt_succ l k (by omega)]
    unfold offStep
    refine ⟨?_, ?_, ?_⟩
    · dsimp only; split <;> omega
    · dsimp only; split <;> omega
    · dsimp only; split
      · omega
      · simp; omega
theorem fldE_zero {k s : Int} (h : fldE k s = 0) : 0 ≤ k ∧ k ≤ 4 ∧ fldLo k ≤ s ∧ s ≤ fldHi k := by
  unfold fldE at h
  split at h
  · cases h
  · rename_i h1
    cases h2 : inB s (fldLo k) (fldHi k) with
    | false => rw [h2] at h; cases h
    | true =>
      rw [inB_true] at h2
      have h3 : inB k 0 4 = true := by simpa using h1
      rw [inB_true] at h3
      omega
theorem fld_bd {k s : Int} (h : fldE k s = 0) : 0 ≤ s ∧ s ≤ 255 := by
  obtain ⟨_, _, h1, h2⟩ := fldE_zero h
  unfold fldLo at h1
  unfold fldHi at h2
  constructor
  · split at h1 <;> omega
  · repeat' split at h2
    all_goals omega
theorem layP_zero {l : List Fld} (h : (layP l).2 = 0) : l.length ≤ 24 ∧ ∀ j (h : j < l.length), fldE l[j].1 l[j].2 = 0 := by
  unfold layP at h
  split at h
  · cases h
  · exact ⟨by omega, fun j hj => eachE_zero _ l 0 h j hj⟩
theorem layP_small {l : List Fld} (h : (layP l).2 = 0) : Small l := fun j hj => fld_bd ((layP_zero h).2 j hj)
end Go.Proofs.YtanicpgmbhfipaaDoor
