/-
  Chapter 21 in plain words: operations on pages: their errors, whether they fit, the page after them, inverses, bytes.
-/
import Derived.Test.YtgmipogidmcilaaDoorPlain
import Derived.Test.YtgmipogidmcilaaDoorPlain2
namespace Go.Proofs.YtgmipogidmcilaaDoor
set_option linter.unusedVariables false
set_option linter.unusedSimpArgs false
open Go.RowKit

structure Op where
  k : Int
  a : Int
  e : Int
  c : Int
  o : ByteArray
  n : ByteArray
def op0 : Op := ⟨0, 0, 0, 0, ⟨#[]⟩, ⟨#[]⟩⟩
def opV (x : Op) : Value := .agg #[.int .i64 x.k, .int .i64 x.a, .int .i64 x.e, .int .i64 x.c, .string x.o, .string x.n]
def opVs (x : Op) : List Value := [.int .i64 x.k, .int .i64 x.a, .int .i64 x.e, .int .i64 x.c, .string x.o, .string x.n]

def opAt (k : Int) : Bool := inB k 1 5
def opEnd (k : Int) : Bool := inB k 2 3
def opCount (k : Int) : Bool := inB k 4 5
def opOld (k : Int) : Bool := k == 1 || k == 3 || k == 6
def opNew (k : Int) : Bool := k == 1 || k == 2 || k == 6
def opForm (x : Op) : Bool := (opAt x.k || x.a == 0) && (opEnd x.k || x.e == 0) && (opCount x.k || x.c == 0) && (opOld x.k || x.o.size == 0) && (opNew x.k || x.n.size == 0)
def opShape (x : Op) : Bool := if x.k = 1 then x.o.size == x.n.size else if x.k = 6 then x.o.size == 512 && x.n.size == 512 else true
def opHas (k : Int) : Bool := inB k 1 3
def opLong (x : Op) : Nat := max x.o.size x.n.size
def opRng (x : Op) : Bool :=
  if x.k = 1 then inB x.a 0 511 && decide ((x.o.size : Int) ≤ 512 - x.a)
  else if x.k = 2 then inB x.a 0 511 && inB x.e x.a (512 - (x.o.size + x.n.size))
  else if x.k = 3 then inB x.a 0 511 && inB x.e (x.a + (x.o.size + x.n.size)) 512
  else if x.k = 4 ∨ x.k = 5 then inB x.a 0 4095 && inB x.c 1 (4096 - x.a)
  else true
/-- the error of an operation -/
def opE (x : Op) : Int := if inB x.k 0 6 = false then 15 else
  firstE [unl (opForm x) 3, unl (opShape x) 10, unl (!opHas x.k || decide (0 < opLong x)) 17, unl (!opHas x.k || decide (opLong x ≤ 200)) 8, unl (opRng x) 2]

theorem firstE_zero : ∀ (l : List Int), firstE l = 0 ↔ ∀ e ∈ l, e = 0
  | [] => by simp [firstE]
  | e :: l => by
    have ih := firstE_zero l
    by_cases h : e = 0
    · simp [firstE, h, ih]
    · simp [firstE, h]
theorem unl_zero {b : Bool} {e : Int} (he : e ≠ 0) : unl b e = 0 ↔ b = true := by cases b <;> simp [unl, he]
/-- a valid operation, told apart -/
theorem opE_zero {x : Op} (h : opE x = 0) : (0 ≤ x.k ∧ x.k ≤ 6) ∧ opForm x = true ∧ opShape x = true ∧ (opHas x.k = true → 0 < opLong x ∧ opLong x ≤ 200) ∧ opRng x = true := by
  unfold opE at h
  cases hk : inB x.k 0 6
  · rw [hk] at h; simp at h
  · rw [hk] at h
    rw [if_neg (by simp), firstE_zero] at h
    simp only [List.mem_cons, List.not_mem_nil, or_false, forall_eq_or_imp, forall_eq] at h
    obtain ⟨h1, h2, h3, h4, h5⟩ := h
    rw [unl_zero (by decide)] at h1 h2 h3 h4 h5
    refine ⟨inB_true.1 hk, h1, h2, ?_, h5⟩
    intro hh
    rw [hh] at h3 h4
    simpa using And.intro h3 h4

/-! ### bits of a page -/
def bitB (b : UInt8) (j : Nat) : Bool := b.toNat / 2 ^ j % 2 == 1
def putB (b : UInt8) (j : Nat) (v : Bool) : UInt8 := UInt8.ofNat (b.toNat - b.toNat / 2 ^ j % 2 * 2 ^ j + (if v then 2 ^ j else 0))
def putAt (l : List UInt8) (i : Nat) (v : Bool) : List UInt8 := l.set (i / 8) (putB (l.getD (i / 8) 0) (i % 8) v)
def bitAt (l : List UInt8) (i : Nat) : Bool := bitB (l.getD (i / 8) 0) (i % 8)
def bitsPut (l : List UInt8) (a : Nat) : Nat → Bool → List UInt8
  | 0, _ => l
  | c + 1, v => putAt (bitsPut l a c v) (a + c) v
def bitsAll (l : List UInt8) (a : Nat) : Nat → Bool → Bool
  | 0, _ => true
  | c + 1, v => bitsAll l a c v && (bitAt l (a + c) != v)
theorem bitsPut_length (l : List UInt8) (a c : Nat) (v : Bool) : (bitsPut l a c v).length = l.length := by
  induction c with
  | zero => rfl
  | succ c ih => unfold bitsPut putAt; rw [List.length_set, ih]
theorem putB_other (b : UInt8) (j j' : Nat) (v : Bool) (hj : j < 8) (hj' : j' < 8) (h : j ≠ j') : bitB (putB b j v) j' = bitB b j' := by
  have all : ∀ n : Fin 256, ∀ j : Fin 8, ∀ j' : Fin 8, ∀ v : Bool, j ≠ j' → bitB (putB (UInt8.ofNat n.val) j.val v) j'.val = bitB (UInt8.ofNat n.val) j'.val := by decide +kernel
  have := all ⟨b.toNat, b.toNat_lt⟩ ⟨j, hj⟩ ⟨j', hj'⟩ v (fun e => h (by simpa using e))
  simpa using this
theorem putB_same (b : UInt8) (j : Nat) (v : Bool) (hj : j < 8) : bitB (putB b j v) j = v := by
  have all : ∀ n : Fin 256, ∀ j : Fin 8, ∀ v : Bool, bitB (putB (UInt8.ofNat n.val) j.val v) j.val = v := by decide +kernel
  simpa using all ⟨b.toNat, b.toNat_lt⟩ ⟨j, hj⟩ v
theorem bitAt_putAt (l : List UInt8) (i i' : Nat) (v : Bool) (h : i / 8 < l.length) : bitAt (putAt l i v) i' = if i = i' then v else bitAt l i' := by
  unfold bitAt putAt
  by_cases hq : i / 8 = i' / 8
  · rw [← hq, List.getD_eq_getElem?_getD, List.getElem?_set_self h]
    simp only [Option.getD_some]
    by_cases e : i = i'
    · rw [if_pos e, ← e]; exact putB_same _ _ _ (by omega)
    · rw [if_neg e]; exact putB_other _ _ _ _ (by omega) (by omega) (by omega)
  · rw [if_neg (fun e => hq (by rw [e])), List.getD_eq_getElem?_getD, List.getElem?_set_ne hq, ← List.getD_eq_getElem?_getD]
theorem bitAt_bitsPut (l : List UInt8) (a c i : Nat) (v : Bool) (h : (a + c) ≤ 8 * l.length) : bitAt (bitsPut l a c v) i = if a ≤ i ∧ i < a + c then v else bitAt l i := by
  induction c with
  | zero => rw [if_neg (by omega)]; rfl
  | succ c ih =>
    unfold bitsPut
    rw [bitAt_putAt _ _ _ _ (by rw [bitsPut_length]; omega), ih (by omega)]
    by_cases e : a + c = i
    · rw [if_pos e, if_pos (by omega)]
    · rw [if_neg e]
      by_cases g : a ≤ i ∧ i < a + c
      · rw [if_pos g, if_pos (by omega)]
      · rw [if_neg g, if_neg (by omega)]

/-! ### pages -/
def insL (p : List UInt8) (a e : Nat) (n : List UInt8) : List UInt8 := p.take a ++ n ++ (p.take e).drop a ++ p.drop (e + n.length)
def remL (p : List UInt8) (a e : Nat) (n : Nat) : List UInt8 := p.take a ++ (p.take e).drop (a + n) ++ List.replicate n 0 ++ p.drop e
def zeroL (l : List UInt8) : Bool := l.all (· == 0)
/-- the page after a valid operation -/
def opDo (p : ByteArray) (x : Op) : ByteArray :=
  if x.k = 1 then patS p x.a.toNat x.n
  else if x.k = 2 then bs (insL (bl p) x.a.toNat x.e.toNat (bl x.n))
  else if x.k = 3 then bs (remL (bl p) x.a.toNat x.e.toNat x.o.size)
  else if x.k = 4 then bs (bitsPut (bl p) x.a.toNat x.c.toNat true)
  else if x.k = 5 then bs (bitsPut (bl p) x.a.toNat x.c.toNat false)
  else if x.k = 6 then x.n
  else p
/-- whether it fits -/
def opFit (p : ByteArray) (x : Op) : Bool :=
  if x.k = 1 ∨ x.k = 3 then ((bl p).drop x.a.toNat).take x.o.size == bl x.o
  else if x.k = 2 then zeroL (((bl p).drop x.e.toNat).take x.n.size)
  else if x.k = 4 then bitsAll (bl p) x.a.toNat x.c.toNat true
  else if x.k = 5 then bitsAll (bl p) x.a.toNat x.c.toNat false
  else if x.k = 6 then bl p == bl x.o
  else true
/-- the page after an operation, and an error -/
def opTry (p : ByteArray) (x : Op) : ByteArray × Int := if opE x ≠ 0 then (⟨#[]⟩, opE x) else if opFit p x then (opDo p x, 0) else (⟨#[]⟩, 13)
def opAllG (p : ByteArray) : Nat → List Op → ByteArray × Nat × Int
  | i, [] => (p, i, 0)
  | i, x :: l => if (opTry p x).2 ≠ 0 then (⟨#[]⟩, i, (opTry p x).2) else opAllG (opTry p x).1 (i + 1) l
def pageE (p : ByteArray) : Int := unl (p.size == 512) 10
def opAll (p : ByteArray) (l : List Op) : ByteArray × Nat × Int := if pageE p ≠ 0 then (⟨#[]⟩, 0, pageE p) else if 64 < l.length then (⟨#[]⟩, 0, 8) else opAllG p 0 l
/-- the inverse of a valid operation -/
def opInv (x : Op) : Op :=
  if x.k = 2 then ⟨3, x.a, x.e + x.n.size, x.c, x.n, x.o⟩
  else if x.k = 3 then ⟨2, x.a, x.e - x.o.size, x.c, x.n, x.o⟩
  else if x.k = 4 then ⟨5, x.a, x.e, x.c, x.n, x.o⟩
  else if x.k = 5 then ⟨4, x.a, x.e, x.c, x.n, x.o⟩
  else ⟨x.k, x.a, x.e, x.c, x.n, x.o⟩
end Go.Proofs.YtgmipogidmcilaaDoor
