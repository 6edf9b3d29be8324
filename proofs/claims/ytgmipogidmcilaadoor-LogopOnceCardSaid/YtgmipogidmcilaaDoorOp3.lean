/-
  Chapter 21, plain laws: which operations are valid, kind by kind; what an operation does lies in the bytes that it touches; operations that are apart; inverses.
-/
import Derived.Test.YtgmipogidmcilaaDoorOp
namespace Go.Proofs.YtgmipogidmcilaaDoor
set_option linter.unusedVariables false
set_option linter.unusedSimpArgs false
open Go.RowKit

/-- a valid operation, kind by kind -/
def opOK (x : Op) : Prop :=
  (x.k = 0 ∧ x.a = 0 ∧ x.e = 0 ∧ x.c = 0 ∧ x.o.size = 0 ∧ x.n.size = 0) ∨
  (x.k = 1 ∧ x.e = 0 ∧ x.c = 0 ∧ x.o.size = x.n.size ∧ 0 < x.o.size ∧ x.o.size ≤ 200 ∧ 0 ≤ x.a ∧ (x.o.size : Int) ≤ 512 - x.a) ∨
  (x.k = 2 ∧ x.c = 0 ∧ x.o.size = 0 ∧ 0 < x.n.size ∧ x.n.size ≤ 200 ∧ 0 ≤ x.a ∧ x.a ≤ x.e ∧ x.e ≤ 512 - x.n.size) ∨
  (x.k = 3 ∧ x.c = 0 ∧ x.n.size = 0 ∧ 0 < x.o.size ∧ x.o.size ≤ 200 ∧ 0 ≤ x.a ∧ x.a + x.o.size ≤ x.e ∧ x.e ≤ 512) ∨
  ((x.k = 4 ∨ x.k = 5) ∧ x.e = 0 ∧ x.o.size = 0 ∧ x.n.size = 0 ∧ 0 ≤ x.a ∧ x.a ≤ 4095 ∧ 1 ≤ x.c ∧ x.c ≤ 4096 - x.a) ∨
  (x.k = 6 ∧ x.a = 0 ∧ x.e = 0 ∧ x.c = 0 ∧ x.o.size = 512 ∧ x.n.size = 512)

theorem opE_zero' {x : Op} : opE x = 0 ↔ inB x.k 0 6 = true ∧ opForm x = true ∧ opShape x = true ∧ (!opHas x.k || decide (0 < opLong x)) = true ∧ (!opHas x.k || decide (opLong x ≤ 200)) = true ∧ opRng x = true := by
  unfold opE
  cases hk : inB x.k 0 6
  · simp
  · rw [if_neg (by simp), firstE_zero]
    simp only [List.mem_cons, List.not_mem_nil, or_false, forall_eq_or_imp, forall_eq, true_and]
    rw [unl_zero (by decide), unl_zero (by decide), unl_zero (by decide), unl_zero (by decide), unl_zero (by decide)]

theorem opE_iff (x : Op) : opE x = 0 ↔ opOK x := by
  rw [opE_zero', inB_true]
  obtain ⟨k, a, e, c, o, n⟩ := x
  by_cases hk : 0 ≤ k ∧ k ≤ 6
  · have : k = 0 ∨ k = 1 ∨ k = 2 ∨ k = 3 ∨ k = 4 ∨ k = 5 ∨ k = 6 := by omega
    rcases this with rfl | rfl | rfl | rfl | rfl | rfl | rfl
    all_goals
      simp only [opOK, opForm, opShape, opHas, opRng, opAt, opEnd, opCount, opOld, opNew, inB, Bool.and_eq_true, Bool.or_eq_true, decide_eq_true_eq, beq_iff_eq, Bool.not_eq_true', Bool.and_eq_false_iff, decide_eq_false_iff_not, Bool.or_eq_false_iff, beq_eq_false_iff_ne]
      simp [-ByteArray.size_eq_zero_iff]
      try simp only [opLong]
      try omega
  · constructor
    · intro h; exact absurd h.1 hk
    · intro h; unfold opOK at h; dsimp only at h; omega

/-! ### pieces of lists -/
def subL (p : List UInt8) (l h : Nat) : List UInt8 := (p.take h).drop l
def putL (p : List UInt8) (l h : Nat) (m : List UInt8) : List UInt8 := p.take l ++ m ++ p.drop h
theorem subL_get (p : List UInt8) (l h i : Nat) : (subL p l h)[i]? = if l + i < h then p[l + i]? else none := by
  unfold subL
  rw [List.getElem?_drop, List.getElem?_take]
theorem subL_length (p : List UInt8) (l h : Nat) (hh : h ≤ p.length) : (subL p l h).length = h - l := by
  unfold subL; rw [List.length_drop, List.length_take]; omega
theorem putL_get (p : List UInt8) (l h : Nat) (m : List UInt8) (h1 : l ≤ h) (h2 : h ≤ p.length) (hm : m.length = h - l) (i : Nat) :
    (putL p l h m)[i]? = if i < l then p[i]? else if i < h then m[i - l]? else p[i]? := by
  unfold putL
  rw [List.append_assoc, List.getElem?_append, List.length_take, Nat.min_eq_left (by omega)]
  by_cases a1 : i < l
  · rw [if_pos a1, if_pos a1, List.getElem?_take, if_pos a1]
  · rw [if_neg a1, if_neg a1, List.getElem?_append, hm]
    by_cases a2 : i < h
    · rw [if_pos (by omega), if_pos a2]
    · rw [if_neg (by omega), if_neg a2, List.getElem?_drop]
      congr 1; omega
theorem putL_length (p : List UInt8) (l h : Nat) (m : List UInt8) (h1 : l ≤ h) (h2 : h ≤ p.length) (hm : m.length = h - l) : (putL p l h m).length = p.length := by
  unfold putL; simp only [List.length_append, List.length_take, List.length_drop, hm]; omega
theorem putL_sub (p : List UInt8) (l h : Nat) (h1 : l ≤ h) (h2 : h ≤ p.length) : putL p l h (subL p l h) = p := by
  apply List.ext_getElem?
  intro i
  rw [putL_get p l h _ h1 h2 (subL_length p l h h2), subL_get]
  by_cases a1 : i < l
  · rw [if_pos a1]
  · rw [if_neg a1]
    by_cases a2 : i < h
    · rw [if_pos a2, if_pos (by omega)]; congr 1; omega
    · rw [if_neg a2]
theorem sub_putL (p : List UInt8) (l h : Nat) (m : List UInt8) (h1 : l ≤ h) (h2 : h ≤ p.length) (hm : m.length = h - l) : subL (putL p l h m) l h = m := by
  apply List.ext_getElem?
  intro i
  rw [subL_get, putL_get p l h m h1 h2 hm]
  by_cases a : l + i < h
  · rw [if_pos a, if_neg (by omega), if_pos a]; congr 1; omega
  · rw [if_neg a, List.getElem?_eq_none (by omega)]
theorem put_putL (p : List UInt8) (l h : Nat) (m m' : List UInt8) (h1 : l ≤ h) (h2 : h ≤ p.length) (hm : m.length = h - l) (hm' : m'.length = h - l) : putL (putL p l h m) l h m' = putL p l h m' := by
  apply List.ext_getElem?
  intro i
  rw [putL_get _ l h m' h1 (by rw [putL_length p l h m h1 h2 hm]; exact h2) hm', putL_get p l h m h1 h2 hm, putL_get p l h m' h1 h2 hm']
  by_cases a1 : i < l
  · simp [a1]
  · by_cases a2 : i < h <;> simp [a1, a2]
/-- ranges of which one lies behind the other, or of which one is empty -/
def offR (l h l' h' : Nat) : Prop := h ≤ l' ∨ h' ≤ l
theorem sub_other (p : List UInt8) (l h l' h' : Nat) (m : List UInt8) (h1 : l ≤ h) (h2 : h ≤ p.length) (hm : m.length = h - l) (hd : offR l h l' h') (h1' : l' ≤ h') : subL (putL p l h m) l' h' = subL p l' h' := by
  apply List.ext_getElem?
  intro i
  rw [subL_get, subL_get, putL_get p l h m h1 h2 hm]
  by_cases a : l' + i < h'
  · rw [if_pos a, if_pos a]
    rcases hd with hd | hd
    · rw [if_neg (by omega), if_neg (by omega)]
    · rw [if_pos (by omega)]
  · rw [if_neg a, if_neg a]
theorem put_comm (p : List UInt8) (l h l' h' : Nat) (m m' : List UInt8) (h1 : l ≤ h) (h2 : h ≤ p.length) (hm : m.length = h - l) (h1' : l' ≤ h') (h2' : h' ≤ p.length) (hm' : m'.length = h' - l') (hd : offR l h l' h') :
    putL (putL p l h m) l' h' m' = putL (putL p l' h' m') l h m := by
  apply List.ext_getElem?
  intro i
  rw [putL_get _ l' h' m' h1' (by rw [putL_length p l h m h1 h2 hm]; exact h2') hm', putL_get p l h m h1 h2 hm, putL_get _ l h m h1 (by rw [putL_length p l' h' m' h1' h2' hm']; exact h2) hm, putL_get p l' h' m' h1' h2' hm']
  unfold offR at hd
  by_cases a1 : i < l' <;> by_cases a2 : i < h' <;> by_cases a3 : i < l <;> by_cases a4 : i < h <;> simp only [a1, a2, a3, a4, if_true, if_false] <;> omega

/-! ### bits in pieces -/
theorem getD_get (l : List UInt8) (i : Nat) : l.getD i 0 = (l[i]?).getD 0 := List.getD_eq_getElem?_getD
theorem bitAt_sub (p : List UInt8) (l h i : Nat) (hi : 8 * l ≤ i) (hh : i / 8 < h) : bitAt (subL p l h) (i - 8 * l) = bitAt p i := by
  have e1 : (i - 8 * l) / 8 = i / 8 - l := by omega
  have e2 : (i - 8 * l) % 8 = i % 8 := by omega
  unfold bitAt
  rw [e1, e2, getD_get, getD_get, subL_get, if_pos (by omega), show l + (i / 8 - l) = i / 8 by omega]
theorem putAt_length (l : List UInt8) (i : Nat) (v : Bool) : (putAt l i v).length = l.length := by unfold putAt; rw [List.length_set]
theorem putAt_put (p m : List UInt8) (l h i : Nat) (v : Bool) (h1 : l ≤ h) (h2 : h ≤ p.length) (hm : m.length = h - l) (hi : 8 * l ≤ i) (hh : i / 8 < h) :
    putAt (putL p l h m) i v = putL p l h (putAt m (i - 8 * l) v) := by
  have e1 : (i - 8 * l) / 8 = i / 8 - l := by omega
  have e2 : (i - 8 * l) % 8 = i % 8 := by omega
  have e3 : (putL p l h m).getD (i / 8) 0 = m.getD (i / 8 - l) 0 := by
    rw [getD_get, getD_get, putL_get p l h m h1 h2 hm, if_neg (by omega), if_pos hh]
  have hlen := putL_length p l h m h1 h2 hm
  unfold putAt
  rw [e1, e2, e3]
  apply List.ext_getElem?
  intro j
  rw [putL_get p l h _ h1 h2 (by rw [List.length_set, hm])]
  by_cases a : i / 8 = j
  · rw [← a, List.getElem?_set_self (by rw [hlen]; omega), if_neg (by omega), if_pos hh, List.getElem?_set_self (by omega)]
  · rw [List.getElem?_set_ne a, putL_get p l h m h1 h2 hm]
    by_cases a1 : j < l
    · rw [if_pos a1, if_pos a1]
    · rw [if_neg a1, if_neg a1]
      by_cases a2 : j < h
      · rw [if_pos a2, if_pos a2, List.getElem?_set_ne (by omega)]
      · rw [if_neg a2, if_neg a2]
theorem bitsPut_put (p m : List UInt8) (l h a c : Nat) (v : Bool) (h1 : l ≤ h) (h2 : h ≤ p.length) (hm : m.length = h - l) (hi : 8 * l ≤ a) (hh : a + c ≤ 8 * h) :
    bitsPut (putL p l h m) a c v = putL p l h (bitsPut m (a - 8 * l) c v) := by
  induction c with
  | zero => rfl
  | succ c ih =>
    unfold bitsPut
    rw [ih (by omega), putAt_put p _ l h (a + c) v h1 h2 (by rw [bitsPut_length, hm]) (by omega) (by omega), show a + c - 8 * l = a - 8 * l + c by omega]
theorem bitsAll_sub (p : List UInt8) (l h a c : Nat) (v : Bool) (hi : 8 * l ≤ a) (hh : a + c ≤ 8 * h) : bitsAll (subL p l h) (a - 8 * l) c v = bitsAll p a c v := by
  induction c with
  | zero => rfl
  | succ c ih =>
    unfold bitsAll
    rw [ih (by omega), show a - 8 * l + c = a + c - 8 * l by omega, bitAt_sub p l h (a + c) (by omega) (by omega)]
theorem bitsAll_true (l : List UInt8) (a c : Nat) (v : Bool) : bitsAll l a c v = true ↔ ∀ i, a ≤ i → i < a + c → bitAt l i = !v := by
  induction c with
  | zero => simp only [bitsAll, true_iff]; intro i h1 h2; omega
  | succ c ih =>
    unfold bitsAll
    rw [Bool.and_eq_true, ih]
    constructor
    · rintro ⟨h1, h2⟩ i h3 h4
      by_cases e : i = a + c
      · subst e; revert h2; cases bitAt l (a + c) <;> cases v <;> simp
      · exact h1 i h3 (by omega)
    · intro h
      refine ⟨fun i h1 h2 => h i h1 (by omega), ?_⟩
      rw [h (a + c) (by omega) (by omega)]; cases v <;> rfl
def ofBits (f : Nat → Bool) : Nat := (f 0).toNat + 2 * (f 1).toNat + 4 * (f 2).toNat + 8 * (f 3).toNat + 16 * (f 4).toNat + 32 * (f 5).toNat + 64 * (f 6).toNat + 128 * (f 7).toNat
theorem byte_bits (b : UInt8) : b.toNat = ofBits (bitB b) := by
  have all : ∀ n : Fin 256, n.val = ofBits (bitB (UInt8.ofNat n.val)) := by decide +kernel
  have := all ⟨b.toNat, b.toNat_lt⟩
  simpa using this
theorem byte_ext {b b' : UInt8} (h : ∀ j, j < 8 → bitB b j = bitB b' j) : b = b' := by
  apply UInt8.toNat_inj.1
  rw [byte_bits b, byte_bits b']
  unfold ofBits
  rw [h 0 (by omega), h 1 (by omega), h 2 (by omega), h 3 (by omega), h 4 (by omega), h 5 (by omega), h 6 (by omega), h 7 (by omega)]
theorem bits_ext {l l' : List UInt8} (hl : l.length = l'.length) (h : ∀ i, i < 8 * l.length → bitAt l i = bitAt l' i) : l = l' := by
  apply List.ext_getElem hl
  intro i h1 h2
  apply byte_ext
  intro j hj
  have := h (8 * i + j) (by omega)
  unfold bitAt at this
  rw [show (8 * i + j) / 8 = i by omega, show (8 * i + j) % 8 = j by omega, getD_get, getD_get, List.getElem?_eq_getElem h1, List.getElem?_eq_getElem h2] at this
  exact this
/-- bits that are turned are turned back -/
theorem bitsPut_back (l : List UInt8) (a c : Nat) (v : Bool) (h : a + c ≤ 8 * l.length) (hb : bitsAll l a c v = true) : bitsPut (bitsPut l a c v) a c (!v) = l := by
  apply bits_ext (by rw [bitsPut_length, bitsPut_length])
  intro i hi
  rw [bitAt_bitsPut _ _ _ _ _ (by rw [bitsPut_length]; exact h)]
  by_cases e : a ≤ i ∧ i < a + c
  · rw [if_pos e, (bitsAll_true l a c v).1 hb i e.1 e.2]
  · rw [if_neg e, bitAt_bitsPut _ _ _ _ _ h, if_neg e]
theorem bitsPut_again (l : List UInt8) (a c : Nat) (v : Bool) (h : a + c ≤ 8 * l.length) : bitsPut (bitsPut l a c v) a c v = bitsPut l a c v := by
  apply bits_ext (by rw [bitsPut_length])
  intro i hi
  rw [bitAt_bitsPut _ _ _ _ _ (by rw [bitsPut_length]; exact h), bitAt_bitsPut _ _ _ _ _ h]
  by_cases e : a ≤ i ∧ i < a + c
  · rw [if_pos e, if_pos e]
  · rw [if_neg e]
theorem bitsAll_put (l : List UInt8) (a c : Nat) (v : Bool) (h : a + c ≤ 8 * l.length) : bitsAll (bitsPut l a c v) a c (!v) = true := by
  rw [bitsAll_true]
  intro i h1 h2
  rw [bitAt_bitsPut _ _ _ _ _ h, if_pos ⟨h1, h2⟩]; simp

/-! ### what an operation touches -/
def opTch (x : Op) : Int × Int :=
  if x.k = 1 then (x.a, x.a + x.o.size) else if x.k = 2 then (x.a, x.e + x.n.size) else if x.k = 3 then (x.a, x.e)
  else if x.k = 4 ∨ x.k = 5 then (x.a / 8, (x.a + x.c - 1) / 8 + 1) else if x.k = 6 then (0, 512) else (0, 0)
def tLo (x : Op) : Nat := (opTch x).1.toNat
def tHi (x : Op) : Nat := (opTch x).2.toNat
def opMid (x : Op) (m : List UInt8) : List UInt8 :=
  if x.k = 1 then bl x.n else if x.k = 2 then bl x.n ++ m.take (x.e - x.a).toNat
  else if x.k = 3 then m.drop x.o.size ++ List.replicate x.o.size 0
  else if x.k = 4 then bitsPut m (x.a.toNat - 8 * tLo x) x.c.toNat true
  else if x.k = 5 then bitsPut m (x.a.toNat - 8 * tLo x) x.c.toNat false
  else if x.k = 6 then bl x.n else m
def opFitM (x : Op) (m : List UInt8) : Bool :=
  if x.k = 1 then m == bl x.o else if x.k = 2 then zeroL (m.drop (x.e - x.a).toNat) else if x.k = 3 then m.take x.o.size == bl x.o
  else if x.k = 4 then bitsAll m (x.a.toNat - 8 * tLo x) x.c.toNat true
  else if x.k = 5 then bitsAll m (x.a.toNat - 8 * tLo x) x.c.toNat false
  else if x.k = 6 then m == bl x.o else true

/-! ### strings as lists -/
theorem toList_loop (s : ByteArray) : ∀ (n i : Nat) (r : List UInt8), s.size - i = n → ByteArray.toList.loop s i r = r.reverse ++ (bl s).drop i := by
  intro n
  induction n with
  | zero =>
    intro i r h
    unfold ByteArray.toList.loop
    rw [if_neg (by omega), List.drop_of_length_le (by rw [bl_length]; omega), List.append_nil]
  | succ n ih =>
    intro i r h
    unfold ByteArray.toList.loop
    rw [if_pos (by omega), ih (i + 1) _ (by omega), drop_bl s i (by omega), List.reverse_cons, List.append_assoc]
    have : s.get! i = s[i]'(by omega) := by
      show s.data[i]! = _
      rw [getElem!_pos s.data i (by show i < s.size; omega)]; rfl
    rw [this]; rfl
theorem toList_eq (s : ByteArray) : s.toList = bl s := by
  unfold ByteArray.toList
  rw [toList_loop s _ 0 [] rfl]; rfl
theorem isEmpty_eq (s : ByteArray) : s.toList.isEmpty = (s.size == 0) := by
  rw [toList_eq, Bool.eq_iff_iff, List.isEmpty_iff, beq_iff_eq, ← bl_length, List.length_eq_zero_iff]
theorem toList_nil (s : ByteArray) : (s.toList = []) = (s.size = 0) := by
  rw [toList_eq, ← bl_length, List.length_eq_zero_iff]
theorem intBeq (a b : Nat) : ((a : Int) == (b : Int)) = (a == b) := by
  rw [Bool.eq_iff_iff, beq_iff_eq, beq_iff_eq]; omega
end Go.Proofs.YtgmipogidmcilaaDoor
