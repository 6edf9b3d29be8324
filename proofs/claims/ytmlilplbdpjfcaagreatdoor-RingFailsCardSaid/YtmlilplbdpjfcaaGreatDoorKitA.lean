/-
  Plain words for numbers, strings and sums: what the functions of chapter 1 compute. No program in sight.
  Laws of my own over any program: append of one element, append of what a slice reads as, copies of owned rows.
  Plain words: patches, padding, values of fields. No program in sight.
-/
import Derived.Below
import Derived.RowKit
import Derived.Laws.BitsLemmas
import Derived.Lib.Hide
import Derived.Deep.Draws
import Derived.Maps.AppendAt
import Derived.OwnWalk
import Derived.WalkKit
import Derived.Lib.Repeat
namespace Go.Proofs.YtmlilplbdpjfcaaGreatDoor
open Go.RowKit
theorem retI {k : IntKind} {a b : Int} (h : a = b) : Ending.returned (.int k a) = .returned (.int k b) := by rw [h]
theorem retII {k l : IntKind} {a b c d : Int} (h : a = b) (h' : c = d) : Ending.returned (.tuple #[.int k a, .int l c]) = .returned (.tuple #[.int k b, .int l d]) := by rw [h, h']
def inB (n lo hi : Int) : Bool := decide (lo ≤ n) && decide (n ≤ hi)
theorem inB_true {n lo hi : Int} : inB n lo hi = true ↔ lo ≤ n ∧ n ≤ hi := by simp [inB]
def unl (ok : Bool) (e : Int) : Int := if ok then 0 else e
theorem unl_true (e : Int) : unl true e = 0 := rfl
theorem unl_cases (b : Bool) (e : Int) : unl b e = 0 ∨ unl b e = e := by cases b <;> simp [unl]
def firstE : List Int → Int
 | [] => 0
 | e :: l => if e = 0 then firstE l else e
abbrev bl (s : ByteArray) : List UInt8 := s.data.toList
def bs (l : List UInt8) : ByteArray := ⟨l.toArray⟩
theorem bl_bs (l : List UInt8) : bl (bs l) = l := rfl
theorem bs_bl (s : ByteArray) : bs (bl s) = s := rfl
theorem bs_size (l : List UInt8) : (bs l).size = l.length := rfl
theorem bl_length (s : ByteArray) : (bl s).length = s.size := rfl
theorem bl_inj {s t : ByteArray} (h : bl s = bl t) : s = t := by rw [← bs_bl s, h, bs_bl]
theorem bl_append (s t : ByteArray) : bl (s ++ t) = bl s ++ bl t := by simp
theorem bl_extract (s : ByteArray) (a b : Nat) : bl (s.extract a b) = ((bl s).take b).drop a := by
 simp [bl, ByteArray.data_extract, Array.toList_extract, List.drop_take]
def strE (s : ByteArray) : Int := unl (decide ((s.size : Int) ≤ 200000)) 8
theorem strE_zero {s : ByteArray} : strE s = 0 ↔ s.size ≤ 200000 := by
 unfold strE unl
 by_cases h : (s.size : Int) ≤ 200000
 · rw [decide_eq_true h]; exact ⟨fun _ => by omega, fun _ => rfl⟩
 · rw [decide_eq_false h]; exact ⟨fun h' => absurd h' (by decide), fun h' => by omega⟩
def num : List UInt8 → Int
 | [] => 0
 | b :: l => b.toNat + 256 * num l
theorem num_bound : ∀ l : List UInt8, 0 ≤ num l ∧ num l < 256 ^ l.length
 | [] => by simp [num]
 | b :: l => by
  obtain ⟨h1, h2⟩ := num_bound l
  have hb : b.toNat < 256 := b.toNat_lt
  simp only [num, List.length_cons, Int.pow_succ]
  omega
def lit (n : Int) : Nat → List UInt8
 | 0 => []
 | c + 1 => UInt8.ofNat (n % 256).toNat :: lit (n / 256) c
theorem lit_length (n : Int) (c : Nat) : (lit n c).length = c := by
 induction c generalizing n with
 | zero => rfl
 | succ c ih => simp [lit, ih]
theorem num_lit (c : Nat) : ∀ n : Int, num (lit n c) = n % 256 ^ c := by
 induction c with
 | zero => intro n; simp [lit, num, Int.emod_one]
 | succ c ih =>
  intro n
  have h1 : 0 ≤ n % 256 := Int.emod_nonneg _ (by decide)
  have h2 : n % 256 < 256 := Int.emod_lt_of_pos _ (by decide)
  have h3 : ((UInt8.ofNat (n % 256).toNat).toNat : Int) = n % 256 := by
   simp [UInt8.toNat_ofNat']
   omega
  simp only [lit, num, ih, h3]
  have hp : (0 : Int) < 256 ^ c := Int.pow_pos (by decide)
  have e := Int.emod_add_mul_ediv n (256 ^ (c + 1))
  have e1 := Int.emod_add_mul_ediv n 256
  have e2 := Int.emod_add_mul_ediv (n / 256) (256 ^ c)
  have b2 : 0 ≤ (n / 256) % 256 ^ c := Int.emod_nonneg _ (by omega)
  have b3 : (n / 256) % 256 ^ c < 256 ^ c := Int.emod_lt_of_pos _ hp
  have : n % 256 + 256 * (n / 256 % 256 ^ c) = n % 256 ^ (c + 1) := by
   rw [Int.pow_succ, Int.mul_comm (256 ^ c) 256]
   generalize (256 : Int) ^ c = P at *
   have e3 : n = n % 256 + 256 * (n / 256 % P) + 256 * P * (n / 256 / P) := by
    rw [Int.mul_assoc]
    generalize P * (n / 256 / P) = y at *
    omega
   conv => rhs; rw [e3, Int.add_mul_emod_self_left]
   exact (Int.emod_eq_of_lt (by omega) (by omega)).symm
  exact this
def sumStep (n : Int) (c : Int) : Int := (n * 2 % 2147483648 + n / 1073741824 + c) % 2147483648
def sumL (l : List UInt8) (n : Int) : Int := l.foldl (fun n b => sumStep n b.toNat) n
theorem wraps_i64 (j : Nat) (hj : j ≤ 63) (n : Int) (h₀ : 0 ≤ n) (h₁ : n < 2 ^ j) : IntKind.i64.wrap n = n := by
 have h2 : (2 : Int) ^ j ≤ 2 ^ 63 := by
  have : (2 : Nat) ^ j ≤ 2 ^ 63 := Nat.pow_le_pow_right (by decide) hj
  exact_mod_cast this
 have h3 : (2 : Int) ^ 63 = 9223372036854775808 := by decide
 rw [IntKind.wrap_i64]; omega
theorem rot_eq (a : Int) (h0 : 0 ≤ a) (h1 : a < 2147483648) :
 bits .or .i64 (bits .and .i64 (a * 2) 2147483647) (a / 1073741824) = a * 2 % 2147483648 + a / 1073741824 := by
 have e1 : bits .and .i64 (a * 2) 2147483647 = a * 2 % 2147483648 :=
  bits_mask .i64 62 (by decide) (wraps_i64 62 (by decide)) 31 (by decide) (a * 2) (by omega) (by omega)
 rw [e1]
 refine bits_join .i64 62 (by decide) (wraps_i64 62 (by decide)) 1 _ _ (by omega) (by omega) (by omega) (by omega) (by omega) (by omega)
theorem drop_bl (s : ByteArray) (k : Nat) (h : k < s.size) : (bl s).drop k = s[k] :: (bl s).drop (k + 1) := List.drop_eq_getElem_cons (l := bl s) h
theorem sumL_step (s : ByteArray) (k : Nat) (h : k < s.size) (m : Int) : sumL ((bl s).drop k) m = sumL ((bl s).drop (k + 1)) (sumStep m s[k].toNat) := by
 rw [drop_bl s k h]; rfl
theorem sumStep_lt (m c : Int) : 0 ≤ sumStep m c ∧ sumStep m c < 2147483648 := by unfold sumStep; omega
def byteV (b : UInt8) : Value := .int .u8 b.toNat
theorem bel_drewN {a w : World} (h : Below a.heap.size a w) (n : Nat) : Below a.heap.size a (w.drewN n) := ⟨h.os, h.tape, h.output, h.size, h.block⟩
theorem bel_alloc {a w : World} (h : Below a.heap.size a w) (o : Obj) : Below a.heap.size a (w.alloc o) := h.alloc h.size o
theorem bel_trans {a b c : World} (h : Below a.heap.size a b) (k : Below b.heap.size b c) : Below a.heap.size a c := h.trans (k.mono h.size)
def Rd (w : World) (B : Nat) (A : Option Addr) (xs : List Value) : Prop := ∀ j u, xs[j]? = some u → ∃ b o, A = some ⟨b, o, none⟩ ∧ b < B ∧ w.cell? ⟨b, o + j, none⟩ = some u
theorem Rd.below {w w' : World} {B : Nat} {A : Option Addr} {xs : List Value} (h : Rd w B A xs) (hb : Below B w w') : Rd w' B A xs := fun j u hj => by
 obtain ⟨b, o, hA, hB, hc⟩ := h j u hj
 exact ⟨b, o, hA, hB, (hb.cell (p := ⟨b, o + j, none⟩) hB).trans hc⟩
theorem Rd.mono {w : World} {B B' : Nat} {A : Option Addr} {xs : List Value} (h : Rd w B A xs) (hB : B ≤ B') : Rd w B' A xs := fun j u hj => by
 obtain ⟨b, o, hA, hb, hc⟩ := h j u hj
 exact ⟨b, o, hA, by omega, hc⟩
theorem Rd.below' {w w' : World} {A : Option Addr} {xs : List Value} (h : Rd w w.heap.size A xs) (hb : Below w.heap.size w w') : Rd w' w'.heap.size A xs := (h.below hb).mono hb.size
theorem Rd.nil (w : World) (B : Nat) (A : Option Addr) : Rd w B A [] := fun j u hj => by simp at hj
theorem Rd.opened {w : World} {B : Nat} {A : Option Addr} {xs : List Value} (h : Rd w B A xs) (hne : 0 < xs.length) :
 ∃ b o, A = some ⟨b, o, none⟩ ∧ b < B ∧ ∀ j u, xs[j]? = some u → w.cell? ⟨b, o + j, none⟩ = some u := by
 obtain ⟨b, o, hA, hB, _⟩ := h 0 xs[0] (List.getElem?_eq_getElem hne)
 refine ⟨b, o, hA, hB, fun j u hj => ?_⟩
 obtain ⟨b', o', hA', _, hc⟩ := h j u hj
 rw [hA] at hA'
 injection hA' with e
 injection e with e1 e2
 subst e1 e2
 exact hc
theorem Rd.of_own {w : World} {base : Nat} {e : TypeId} {size n c : Nat} {A : Option Addr} {xs : List Value} (h : w.ownsRow base e size (.slice A n c) n xs) : Rd w w.heap.size A xs := fun j u hj => by
 have hl := h.1
 have hj' : j < xs.length := (List.getElem?_eq_some_iff.1 hj).1
 rcases h.2 with ⟨h', h0⟩ | ⟨g, cap, cur, h', _, hg, _⟩
 · rw [h0] at hl; omega
 · injection h' with h1 h2 h3
   subst h1 h3
   refine ⟨g, 0, rfl, ?_, ?_⟩
   · rcases Nat.lt_or_ge g w.heap.size with h4 | h4
     · exact h4
     · rw [Array.getElem?_eq_none h4] at hg; cases hg
   · rw [Nat.zero_add, h.cellAt j (by omega)]; exact hj
def eachE {α : Type} (f : Nat → α → Int) : Nat → List α → Int × Int
 | _, [] => (0, 0)
 | i, x :: l => if f i x = 0 then eachE f (i + 1) l else (i, f i x)
theorem eachE_zero {α : Type} (f : Nat → α → Int) : ∀ (l : List α) (i : Nat), (eachE f i l).2 = 0 → ∀ j (h : j < l.length), f (i + j) l[j] = 0
 | [], _, _, j, h => absurd h (by simp)
 | x :: l, i, h0, j, h => by
  unfold eachE at h0
  split at h0
  · rename_i hx
    cases j with
    | zero => exact hx
    | succ j =>
     have := eachE_zero f l (i + 1) h0 j (by simpa using h)
     rw [show i + (j + 1) = i + 1 + j by omega]
     exact this
  · rename_i hx
    exact absurd h0 hx
end Go.Proofs.YtmlilplbdpjfcaaGreatDoor
namespace Go.Proofs.YtmlilplbdpjfcaaGreatDoor
open Go.RowKit
section
variable {P : Program} {ops : Array Oper} {rest : List Oper} {o : Oper} {a : Act} {Q : Exit → Act → World → Prop}
theorem run_append_rd (w : World) (base : Nat) (t ty e : TypeId) (i : TypeInfo) (z : Value) (size bytes : Nat) (ht : P.underlying t = some (.slice e)) (hi : P.info? e = some i) (hz : i.zero = some z)
 (hsize : i.size = size) (hby : i.bytes = bytes) (hzs : z.cells.size = size) (hsz : 0 < size)
 (v : Value) (n : Nat) (xs : List Value) (hown : w.ownsRow base e size v n xs)
 (B : Nat) (A : Option Addr) (m c : Nat) (news : List Value) (hl : news.length = m * size) (hr : Rd w B A news) (h1 : ∀ u ∈ news, u.oneCell' = true)
 (h63 : n + m ≤ maxLen) (hbytes : (n + m) * bytes ≤ 140737488355328) (hbase : base ≤ w.heap.size) :
 ∃ v' w', (Builtin.append_ #[t, t] ty #[v, .slice A m c]).run P w = .ok v' w' ∧ w'.ownsRow base e size v' (n + m) (xs ++ news) ∧ w.grownBy w' v.ownBlock ∧
  (v'.ownBlock = v.ownBlock ∨ v'.ownBlock = some w.heap.size) := by
 rcases A with _ | ad
 · have hm : news = [] := by
    rcases news with _ | ⟨u, l⟩
    · rfl
    · obtain ⟨b, o, h, _⟩ := hr 0 u rfl
      cases h
   subst hm
   have hm0 : m = 0 := by
    rcases Nat.eq_zero_or_pos m with h | h
    · exact h
    · have := Nat.mul_pos h hsz
      simp at hl
      omega
   subst hm0
   refine ⟨v, w, ?_, by simpa using hown, World.grownBy.refl w _, .inl rfl⟩
   rcases hown.2 with ⟨rfl, rfl⟩ | ⟨g, cap, cur, rfl, _, _, hnc, _⟩
   · simp [Builtin.append_, run_underlying ht, sizeOf, typeInfo, hi, Builtin.lenOf, Builtin.firstCells]
   · simp [Builtin.append_, run_underlying ht, sizeOf, typeInfo, hi, Builtin.lenOf, Builtin.firstCells, hnc, storeCells]
 · have hcells : ∀ j u, news[j]? = some u → w.cell? (ad.add j) = some u := fun j u hj => by
    obtain ⟨b, o, h, _, hc⟩ := hr j u hj
    injection h with h
    subst h
    have : (⟨b, o, none⟩ : Addr).add j = ⟨b, o + j, none⟩ := by unfold Addr.add; split <;> simp_all
    rw [this]
    exact hc
   obtain ⟨v', w', hrun, h2, h3, _, h5⟩ := run_append_own_at (P := P) w base t ty e i z size bytes ht hi hz hsize hby hzs hsz v n xs hown ad m c news hl hcells h1 h63 hbytes hbase
   exact ⟨v', w', hrun, h2, h3, h5⟩
end
theorem ownsRow_form {w : World} {base : Nat} {e : TypeId} {size n : Nat} {v : Value} {xs : List Value} (h : w.ownsRow base e size v n xs) : ∃ A c, v = .slice A n c ∧ Rd w w.heap.size A xs := by
 rcases h.2 with ⟨rfl, rfl⟩ | ⟨g, cap, cur, rfl, _⟩
 · exact ⟨none, 0, rfl, Rd.of_own h⟩
 · exact ⟨_, cap, rfl, Rd.of_own h⟩
theorem ownsRow_mono {w : World} {base base' : Nat} {e : TypeId} {size n : Nat} {v : Value} {xs : List Value} (h : w.ownsRow base e size v n xs) (hb : base' ≤ base) : w.ownsRow base' e size v n xs := by
 refine ⟨h.1, ?_⟩
 rcases h.2 with h' | ⟨g, cap, cur, h1, h2, h3⟩
 · exact .inl h'
 · exact .inr ⟨g, cap, cur, h1, by omega, h3⟩
theorem ownsRow_below {w w' : World} {base : Nat} {e : TypeId} {size n : Nat} {v : Value} {xs : List Value} (h : w.ownsRow base e size v n xs) (hb : Below w.heap.size w w') : w'.ownsRow base e size v n xs := by
 refine ⟨h.1, ?_⟩
 rcases h.2 with h' | ⟨g, cap, cur, h1, h2, h3, h4⟩
 · exact .inl h'
 · refine .inr ⟨g, cap, cur, h1, h2, ?_, h4⟩
   have : g < w.heap.size := by
    rcases Nat.lt_or_ge g w.heap.size with h5 | h5
    · exact h5
    · rw [Array.getElem?_eq_none h5] at h3; cases h3
   rw [hb.block g this]
   exact h3
end Go.Proofs.YtmlilplbdpjfcaaGreatDoor
namespace Go.Proofs.YtmlilplbdpjfcaaGreatDoor
set_option linter.unusedVariables false
set_option linter.unusedSimpArgs false
open Go.RowKit
def patS (s : ByteArray) (a : Nat) (b : ByteArray) : ByteArray := s.extract 0 a ++ b ++ s.extract (a + b.size) s.size
theorem bl_patS (s : ByteArray) (a : Nat) (b : ByteArray) : bl (patS s a b) = (bl s).take a ++ bl b ++ (bl s).drop (a + b.size) := by
 unfold patS
 rw [bl_append, bl_append, bl_extract, bl_extract]
 congr 1
 rw [← bl_length s, List.take_length]
def zerosL (n : Nat) : List UInt8 := List.replicate n 0
end Go.Proofs.YtmlilplbdpjfcaaGreatDoor
