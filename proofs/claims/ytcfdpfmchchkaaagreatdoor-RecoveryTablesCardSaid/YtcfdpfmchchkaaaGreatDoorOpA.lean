/-
  Chapter 20: plain words of logs. No program in sight.
  Chapter 20: plain words of pages: what stands in a room, the page of it, the restart page; what is read. No program in sight.
  Chapter 21 in plain words: operations on pages: their errors, whether they fit, the page after them, inverses, bytes.
  Chapter 20: plain facts of valid logs. No program in sight.
  An operation that came in, by value: what the walk is told of it.
  Values that came in, opened: slices, arrays and structs whose elements are read by a reader of their cells.
  The small functions of package bytes and of the helpers: within, unless, first, stringErr, countErr, limit. Each returns what its plain function says, and memory is as it was.
-/
import Derived.Test.YtcfdpfmchchkaaaGreatDoorSplB
import Derived.Test.YtcfdpfmchchkaaaGreatDoorKitA
import Derived.Test.YtcfdpfmchchkaaaGreatDoorRows
import Derived.WalkKit
import Derived.ProofKit
import Derived.Deep.SlicePairs
import Derived.Lib.SmallJoins
import Derived.OpenShut
import Derived.Deep.Slices
import Derived.Test.YtcfdpfmchchkaaaGreatDoorChecked
import Derived.WalkLawsBesides
import Derived.WalkSpells
import Derived.Lib.Hide
import Derived.Deep.QuietTactic
import Derived.BigQuiet
import Derived.Deep.DeepFit
namespace Go.Proofs.YtcfdpfmchchkaaaGreatDoor
set_option linter.unusedVariables false
set_option linter.unusedSimpArgs false
open Go.RowKit
structure RstP where
 s : Int
 c : Int
 o : Int
 deriving DecidableEq
structure RecP where
 l : Int
 s : Int
 b : ByteArray
 deriving DecidableEq
structure RngP where
 pg : Int
 r : RstP
 e : RstP
 rs : List RecP
 nx : Int
 deriving DecidableEq
def rst0 : RstP := ⟨0, 0, 0⟩
def szR (n : Int) : Int := (n + 19) / 8 * 8
def bhR (x : RecP) : Int := x.l - 1 + szR x.b.size
def nxtR (p : Int) : Int := (p + 447) / 448 * 448
def posB (n : Int) : Bool := inB n 0 100000000
def rstB (x : RstP) : Bool := inB x.s 1 60000 && posB x.c && posB x.o
def ordB (o : Int) (f : Option RecP) (x : RecP) : Bool := match f with
 | none => x.l == o && decide (1 ≤ o) && (o - 1) % 8 == 0
 | some y => x.l - 1 == bhR y || x.l - 1 == nxtR (bhR y)
def seqB (f : Option RecP) (x : RecP) : Bool := match f with
 | none => true
 | some y => x.s == y.s || (decide (y.s < x.s) && (x.l - 1) % 448 == 0)
def recE (o q : Int) (f : Option RecP) (x : RecP) : Int :=
 if x.b.size = 0 then 17 else if 3000 < x.b.size then 8 else if ordB o f x = false then 9 else if inB x.s 1 q = false then 2 else unl (seqB f x) 9
def bfrR (l : List RecP) (i : Nat) : Option RecP := if i = 0 then none else l[i - 1]?
def nextE (r : RngP) : Int := match r.rs.getLast? with
 | none => unl (r.nx == r.r.o - 1 && r.nx % 448 == 0) 9
 | some y => unl ((r.nx == bhR y || r.nx == nxtR (bhR y)) && (y.s == r.r.s || r.nx % 448 == 0)) 9
def hasR (l : List RecP) (n : Int) : Bool := l.any fun x => x.l == n
def roomsP (r : RngP) : Int × Int := match r.rs.getLast? with
 | none => (0, 0)
 | some y => ((r.r.o - 1) / 448, (bhR y - 1) / 448 - (r.r.o - 1) / 448 + 1)
def tailE (r : RngP) : Int := firstE [nextE r, unl (r.r.c == 0 || hasR r.rs r.r.c) 6, unl (decide ((roomsP r).2 ≤ r.pg - 2)) 16]
theorem take2_drop (l : List UInt8) (a : Nat) (h : a + 2 ≤ l.length) : (l.drop a).take 2 = [l.getD a 0, l.getD (a + 1) 0] := by
 rw [List.drop_eq_getElem_cons (by omega), List.drop_eq_getElem_cons (by omega)]
 simp only [List.take_succ_cons, List.take_zero, List.getD_eq_getElem?_getD, List.getElem?_eq_getElem (show a < l.length by omega), List.getElem?_eq_getElem (show a + 1 < l.length by omega), Option.getD_some]
end Go.Proofs.YtcfdpfmchchkaaaGreatDoor
namespace Go.Proofs.YtcfdpfmchchkaaaGreatDoor
set_option linter.unusedVariables false
set_option linter.unusedSimpArgs false
open Go.RowKit
def nAt (l : List UInt8) (a c : Nat) : Int := num ((l.drop a).take c)
theorem nAt_bd (l : List UInt8) (a c : Nat) : 0 ≤ nAt l a c ∧ nAt l a c < 256 ^ c := by
 obtain ⟨h1, h2⟩ := num_bound ((l.drop a).take c)
 refine ⟨h1, Int.lt_of_lt_of_le h2 ?_⟩
 have : ((l.drop a).take c).length ≤ c := List.length_take_le _ _
 generalize ((l.drop a).take c).length = n at this
 have h3 : (256 : Nat) ^ n ≤ 256 ^ c := Nat.pow_le_pow_right (by decide) this
 have h4 := Int.ofNat_le.2 h3
 rwa [Int.natCast_pow, Int.natCast_pow] at h4
end Go.Proofs.YtcfdpfmchchkaaaGreatDoor
namespace Go.Proofs.YtcfdpfmchchkaaaGreatDoor
set_option linter.unusedVariables false
set_option linter.unusedSimpArgs false
open Go.RowKit
structure Op where
 k : Int
 a : Int
 e : Int
 c : Int
 o : ByteArray
 n : ByteArray
def op0 : Op := ⟨0, 0, 0, 0, ⟨#[]⟩, ⟨#[]⟩⟩
def opV (x : Op) : Value := .agg #[.int .i64 x.k, .int .i64 x.a, .int .i64 x.e, .int .i64 x.c, .string x.o, .string x.n]
def opVs (x : Op) : List Value := [.int .i64 x.k, .int .i64 x.a, .int .i64 x.e, .int .i64 x.c, .string x.o, .string x.n]
def opAt (k : Int) : Bool := inB k 1 5
def opEnd (k : Int) : Bool := inB k 2 3
def opCount (k : Int) : Bool := inB k 4 5
def opOld (k : Int) : Bool := k == 1 || k == 3 || k == 6
def opNew (k : Int) : Bool := k == 1 || k == 2 || k == 6
def opForm (x : Op) : Bool := (opAt x.k || x.a == 0) && (opEnd x.k || x.e == 0) && (opCount x.k || x.c == 0) && (opOld x.k || x.o.size == 0) && (opNew x.k || x.n.size == 0)
def opShape (x : Op) : Bool := if x.k = 1 then x.o.size == x.n.size else if x.k = 6 then x.o.size == 512 && x.n.size == 512 else true
def opHas (k : Int) : Bool := inB k 1 3
def opLong (x : Op) : Nat := max x.o.size x.n.size
def opRng (x : Op) : Bool :=
 if x.k = 1 then inB x.a 0 511 && decide ((x.o.size : Int) ≤ 512 - x.a)
 else if x.k = 2 then inB x.a 0 511 && inB x.e x.a (512 - (x.o.size + x.n.size))
 else if x.k = 3 then inB x.a 0 511 && inB x.e (x.a + (x.o.size + x.n.size)) 512
 else if x.k = 4 ∨ x.k = 5 then inB x.a 0 4095 && inB x.c 1 (4096 - x.a)
 else true
def opE (x : Op) : Int := if inB x.k 0 6 = false then 15 else
 firstE [unl (opForm x) 3, unl (opShape x) 10, unl (!opHas x.k || decide (0 < opLong x)) 17, unl (!opHas x.k || decide (opLong x ≤ 200)) 8, unl (opRng x) 2]
theorem firstE_zero : ∀ (l : List Int), firstE l = 0 ↔ ∀ e ∈ l, e = 0
 | [] => by simp [firstE]
 | e :: l => by
  have ih := firstE_zero l
  by_cases h : e = 0
  · simp [firstE, h, ih]
  · simp [firstE, h]
theorem unl_zero {b : Bool} {e : Int} (he : e ≠ 0) : unl b e = 0 ↔ b = true := by cases b <;> simp [unl, he]
def bitB (b : UInt8) (j : Nat) : Bool := b.toNat / 2 ^ j % 2 == 1
def putB (b : UInt8) (j : Nat) (v : Bool) : UInt8 := UInt8.ofNat (b.toNat - b.toNat / 2 ^ j % 2 * 2 ^ j + (if v then 2 ^ j else 0))
def putAt (l : List UInt8) (i : Nat) (v : Bool) : List UInt8 := l.set (i / 8) (putB (l.getD (i / 8) 0) (i % 8) v)
def bitAt (l : List UInt8) (i : Nat) : Bool := bitB (l.getD (i / 8) 0) (i % 8)
def bitsPut (l : List UInt8) (a : Nat) : Nat → Bool → List UInt8
 | 0, _ => l
 | c + 1, v => putAt (bitsPut l a c v) (a + c) v
def bitsAll (l : List UInt8) (a : Nat) : Nat → Bool → Bool
 | 0, _ => true
 | c + 1, v => bitsAll l a c v && (bitAt l (a + c) != v)
theorem bitsPut_length (l : List UInt8) (a c : Nat) (v : Bool) : (bitsPut l a c v).length = l.length := by
 induction c with
 | zero => rfl
 | succ c ih => unfold bitsPut putAt; rw [List.length_set, ih]
theorem putB_other (b : UInt8) (j j' : Nat) (v : Bool) (hj : j < 8) (hj' : j' < 8) (h : j ≠ j') : bitB (putB b j v) j' = bitB b j' := by
 have all : ∀ n : Fin 256, ∀ j : Fin 8, ∀ j' : Fin 8, ∀ v : Bool, j ≠ j' → bitB (putB (UInt8.ofNat n.val) j.val v) j'.val = bitB (UInt8.ofNat n.val) j'.val := by decide +kernel
 have := all ⟨b.toNat, b.toNat_lt⟩ ⟨j, hj⟩ ⟨j', hj'⟩ v (fun e => h (by simpa using e))
 simpa using this
theorem putB_same (b : UInt8) (j : Nat) (v : Bool) (hj : j < 8) : bitB (putB b j v) j = v := by
 have all : ∀ n : Fin 256, ∀ j : Fin 8, ∀ v : Bool, bitB (putB (UInt8.ofNat n.val) j.val v) j.val = v := by decide +kernel
 simpa using all ⟨b.toNat, b.toNat_lt⟩ ⟨j, hj⟩ v
theorem bitAt_putAt (l : List UInt8) (i i' : Nat) (v : Bool) (h : i / 8 < l.length) : bitAt (putAt l i v) i' = if i = i' then v else bitAt l i' := by
 unfold bitAt putAt
 by_cases hq : i / 8 = i' / 8
 · rw [← hq, List.getD_eq_getElem?_getD, List.getElem?_set_self h]
   simp only [Option.getD_some]
   by_cases e : i = i'
   · rw [if_pos e, ← e]; exact putB_same _ _ _ (by omega)
   · rw [if_neg e]; exact putB_other _ _ _ _ (by omega) (by omega) (by omega)
 · rw [if_neg (fun e => hq (by rw [e])), List.getD_eq_getElem?_getD, List.getElem?_set_ne hq, ← List.getD_eq_getElem?_getD]
theorem bitAt_bitsPut (l : List UInt8) (a c i : Nat) (v : Bool) (h : (a + c) ≤ 8 * l.length) : bitAt (bitsPut l a c v) i = if a ≤ i ∧ i < a + c then v else bitAt l i := by
 induction c with
 | zero => rw [if_neg (by omega)]; rfl
 | succ c ih =>
  unfold bitsPut
  rw [bitAt_putAt _ _ _ _ (by rw [bitsPut_length]; omega), ih (by omega)]
  by_cases e : a + c = i
  · rw [if_pos e, if_pos (by omega)]
  · rw [if_neg e]
    by_cases g : a ≤ i ∧ i < a + c
    · rw [if_pos g, if_pos (by omega)]
    · rw [if_neg g, if_neg (by omega)]
def insL (p : List UInt8) (a e : Nat) (n : List UInt8) : List UInt8 := p.take a ++ n ++ (p.take e).drop a ++ p.drop (e + n.length)
def remL (p : List UInt8) (a e : Nat) (n : Nat) : List UInt8 := p.take a ++ (p.take e).drop (a + n) ++ List.replicate n 0 ++ p.drop e
def zeroL (l : List UInt8) : Bool := l.all (· == 0)
def opDo (p : ByteArray) (x : Op) : ByteArray :=
 if x.k = 1 then patS p x.a.toNat x.n
 else if x.k = 2 then bs (insL (bl p) x.a.toNat x.e.toNat (bl x.n))
 else if x.k = 3 then bs (remL (bl p) x.a.toNat x.e.toNat x.o.size)
 else if x.k = 4 then bs (bitsPut (bl p) x.a.toNat x.c.toNat true)
 else if x.k = 5 then bs (bitsPut (bl p) x.a.toNat x.c.toNat false)
 else if x.k = 6 then x.n
 else p
def opFit (p : ByteArray) (x : Op) : Bool :=
 if x.k = 1 ∨ x.k = 3 then ((bl p).drop x.a.toNat).take x.o.size == bl x.o
 else if x.k = 2 then zeroL (((bl p).drop x.e.toNat).take x.n.size)
 else if x.k = 4 then bitsAll (bl p) x.a.toNat x.c.toNat true
 else if x.k = 5 then bitsAll (bl p) x.a.toNat x.c.toNat false
 else if x.k = 6 then bl p == bl x.o
 else true
def opTry (p : ByteArray) (x : Op) : ByteArray × Int := if opE x ≠ 0 then (⟨#[]⟩, opE x) else if opFit p x then (opDo p x, 0) else (⟨#[]⟩, 13)
def opAllG (p : ByteArray) : Nat → List Op → ByteArray × Nat × Int
 | i, [] => (p, i, 0)
 | i, x :: l => if (opTry p x).2 ≠ 0 then (⟨#[]⟩, i, (opTry p x).2) else opAllG (opTry p x).1 (i + 1) l
def pageE (p : ByteArray) : Int := unl (p.size == 512) 10
def opAll (p : ByteArray) (l : List Op) : ByteArray × Nat × Int := if pageE p ≠ 0 then (⟨#[]⟩, 0, pageE p) else if 64 < l.length then (⟨#[]⟩, 0, 8) else opAllG p 0 l
def opInv (x : Op) : Op :=
 if x.k = 2 then ⟨3, x.a, x.e + x.n.size, x.c, x.n, x.o⟩
 else if x.k = 3 then ⟨2, x.a, x.e - x.o.size, x.c, x.n, x.o⟩
 else if x.k = 4 then ⟨5, x.a, x.e, x.c, x.n, x.o⟩
 else if x.k = 5 then ⟨4, x.a, x.e, x.c, x.n, x.o⟩
 else ⟨x.k, x.a, x.e, x.c, x.n, x.o⟩
end Go.Proofs.YtcfdpfmchchkaaaGreatDoor
namespace Go.Proofs.YtcfdpfmchchkaaaGreatDoor
set_option linter.unusedVariables false
set_option linter.unusedSimpArgs false
open Go.RowKit
def I6 (n : Int) : Prop := -9223372036854775808 ≤ n ∧ n < 9223372036854775808
theorem eachE_hit {α : Type} (f : Nat → α → Int) : ∀ (l : List α) (i j : Nat) (h : j < l.length), (∀ k (hk : k < l.length), k < j → f (i + k) l[k] = 0) → f (i + j) l[j] ≠ 0 → eachE f i l = (((i + j : Nat) : Int), f (i + j) l[j])
 | x :: l, i, 0, h, _, h1 => by
  unfold eachE; rw [if_neg (show ¬ f i x = 0 from h1)]; rfl
 | x :: l, i, j + 1, h, h0, h1 => by
  have h00 := h0 0 (by simp) (by omega)
  unfold eachE; rw [if_pos (show f i x = 0 from h00)]
  have := eachE_hit f l (i + 1) j (by simpa using h) (fun k hk hkj => by have := h0 (k + 1) (by simpa using hk) (by omega); rw [show i + 1 + k = i + (k + 1) by omega]; simpa using this) (by rw [show i + 1 + j = i + (j + 1) by omega]; simpa using h1)
  rw [this, show i + 1 + j = i + (j + 1) by omega]; rfl
theorem eachE_none {α : Type} (f : Nat → α → Int) : ∀ (l : List α) (i : Nat), (∀ k (hk : k < l.length), f (i + k) l[k] = 0) → eachE f i l = (0, 0)
 | [], _, _ => rfl
 | x :: l, i, h => by
  unfold eachE; rw [if_pos (show f i x = 0 from h 0 (Nat.succ_pos _))]
  exact eachE_none f l (i + 1) fun k hk => by have := h (k + 1) (by simpa using hk); rw [show i + 1 + k = i + (k + 1) by omega]; simpa using this
structure HeadP (r : RngP) : Prop where
 pg : 4 ≤ r.pg ∧ r.pg ≤ 40
 rb : rstB r.r = true
 rr : (1 ≤ r.r.s ∧ r.r.s ≤ 60000) ∧ (0 ≤ r.r.c ∧ r.r.c ≤ 100000000) ∧ (0 ≤ r.r.o ∧ r.r.o ≤ 100000000)
 e : r.e = rst0 ∨ (rstB r.e = true ∧ r.e.s = r.r.s - 1)
 nx : 0 ≤ r.nx ∧ r.nx ≤ 100000000 ∧ r.nx % 8 = 0
 len : r.rs.length ≤ 100
theorem recE_zero {o q : Int} {f : Option RecP} {x : RecP} : recE o q f x = 0 ↔ x.b.size ≠ 0 ∧ x.b.size ≤ 3000 ∧ ordB o f x = true ∧ inB x.s 1 q = true ∧ seqB f x = true := by
 unfold recE
 by_cases h1 : x.b.size = 0
 · simp [h1]
 rw [if_neg h1]
 by_cases h2 : 3000 < x.b.size
 · rw [if_pos h2]; simp; omega
 rw [if_neg h2]
 by_cases h3 : ordB o f x = false
 · simp [h3]
 rw [if_neg h3]
 by_cases h4 : inB x.s 1 q = false
 · simp [h4]
 rw [if_neg h4, unl_zero (by decide)]
 simp at h3 h4
 simp [h1, h3, h4]; omega
end Go.Proofs.YtcfdpfmchchkaaaGreatDoor
namespace Go.Proofs.YtcfdpfmchchkaaaGreatDoor
set_option linter.unusedVariables false
set_option linter.unusedSimpArgs false
open Go.ChangeShapes Go.WideShapes Go.ChangeAt Go.RowKit
end Go.Proofs.YtcfdpfmchchkaaaGreatDoor
namespace Go.Proofs.YtcfdpfmchchkaaaGreatDoor
set_option linter.unusedVariables false
set_option linter.unusedSimpArgs false
open Go.ChangeShapes Go.WideShapes Go.ChangeAt Go.RowKit
theorem flat_len {α : Type} {f : α → List Value} {n : Nat} (hf : ∀ x, (f x).length = n) (l : List α) : (l.flatMap f).length = n * l.length := by
 induction l with
 | nil => rfl
 | cons x l ih => rw [List.flatMap_cons, List.length_append, hf, ih, List.length_cons, Nat.mul_succ, Nat.add_comm]
theorem flatO_get {α : Type} {f : α → List Value} {n : Nat} (hf : ∀ x, (f x).length = n) (l : List α) : ∀ (k : Nat) (h : k < l.length) (j : Nat) (u : Value), (f l[k])[j]? = some u → (l.flatMap f)[k * n + j]? = some u := by
 induction l with
 | nil => intro k h; exact absurd h (by simp)
 | cons x l ih =>
  intro k h j u hu
  have hj : j < n := by rw [← hf]; exact (List.getElem?_eq_some_iff.1 hu).1
  rw [List.flatMap_cons]
  cases k with
  | zero => rw [List.getElem?_append_left (by rw [hf]; omega), Nat.zero_mul, Nat.zero_add]; exact hu
  | succ k =>
   rw [List.getElem?_append_right (by rw [hf, Nat.succ_mul]; omega), hf, ← ih k (by simpa using h) j u (by simpa using hu), Nat.succ_mul]
   congr 1; omega
theorem flat_inv {α : Type} {f : α → List Value} {n : Nat} (hf : ∀ x, (f x).length = n) (l : List α) {j : Nat} {u : Value} (h : (l.flatMap f)[j]? = some u) :
 ∃ (k : Nat) (hk : k < l.length) (r : Nat), r < n ∧ j = k * n + r ∧ (f l[k])[r]? = some u := by
 have hj := (List.getElem?_eq_some_iff.1 h).1
 rw [flat_len hf] at hj
 have hn : 0 < n := by
  rcases Nat.eq_zero_or_pos n with h0 | h0
  · subst h0; simp at hj
  · exact h0
 have hk : j / n < l.length := (Nat.div_lt_iff_lt_mul hn).2 (by rw [Nat.mul_comm]; exact hj)
 have hr : j % n < n := Nat.mod_lt _ hn
 have e : j = j / n * n + j % n := by rw [Nat.mul_comm]; exact (Nat.div_add_mod j n).symm
 refine ⟨j / n, hk, j % n, hr, e, ?_⟩
 have h1 : (f l[j / n])[j % n]? = some ((f l[j / n])[j % n]'(by rw [hf]; exact hr)) := List.getElem?_eq_getElem _
 have h2 := flatO_get hf l _ hk _ _ h1
 rw [← e, h] at h2
 rw [h1, ← h2]
theorem trod_list {H : Type} {enc : TypeId × Value → H} {P : Program} {W : World} {t e : TypeId} {fuel0 : Nat} {cs0 : List Value} {x0 : DataW H × List MemPlace}
 {α : Type} (f : α → List Value) (n : Nat) (hf : ∀ x, (f x).length = n) (G : α → Prop) (ht : P.underlying t = some (.slice e)) (hC : P.cellsOf e = n)
 (each : ∀ (fuel : Nat) (cs : List Value) (x : DataW H × List MemPlace), cs.length = n → DataW.trod enc P W 0 (fun _ => true) true fuel e cs = some x → ∃ y, cs = f y ∧ G y)
 (hfu : DataW.trod enc P W 0 (fun _ => true) true fuel0 t cs0 = some x0) :
 ∃ (A : Option Addr) (c : Nat) (l : List α), cs0 = [.slice A l.length c] ∧ l.length ≤ maxLen ∧ Rd W W.heap.size A (l.flatMap f) ∧ ∀ x ∈ l, G x := by
 rcases Go.Deep.open_slice ht hfu with ⟨hcs, _⟩ | ⟨a, len, cap, m, k, D, Pl, hcs, _, hl, hm, hmm, _, hx⟩
 · exact ⟨none, 0, [], hcs, Nat.zero_le _, Rd.nil _ _ _, fun x hx => absurd hx (List.not_mem_nil)⟩
 · obtain ⟨len0, rfl⟩ : ∃ n, n = len := ⟨_, rfl⟩
   obtain ⟨cap0, rfl⟩ : ∃ n, n = cap := ⟨_, rfl⟩
   subst hcs
   rw [if_pos rfl] at hmm
   rw [hC] at hx
   have each' : ∀ i, i < len0 → ∃ y : α, G y ∧ ∀ j, j < n → W.cell? ((a.add (i * n)).add j) = (f y)[j]? := by
    intro i hi
    obtain ⟨cs', hc, ht'⟩ := hx i (by omega)
    obtain ⟨_, hlen, hat⟩ := World.cells?_some hc
    obtain ⟨y, rfl, hy⟩ := each _ _ _ hlen ht'
    exact ⟨y, hy, hat⟩
   by_cases h0 : len0 = 0
   · subst h0
     exact ⟨some a, cap0, [], rfl, Nat.zero_le _, Rd.nil _ _ _, fun x hx => absurd hx (List.not_mem_nil)⟩
   · obtain ⟨y0, _, _⟩ := each' 0 (by omega)
     have hpos : Nonempty α := ⟨y0⟩
     obtain ⟨q, hq⟩ := Classical.axiomOfChoice (r := fun (i : Nat) (y : α) => i < len0 → G y ∧ ∀ j, j < n → W.cell? ((a.add (i * n)).add j) = (f y)[j]?) (fun i => by
      by_cases hi : i < len0
      · obtain ⟨y, hy⟩ := each' i hi; exact ⟨y, fun _ => hy⟩
      · exact ⟨y0, fun h => absurd h hi⟩)
     have hlen : ((List.range len0).map q).length = len0 := by rw [List.length_map, List.length_range]
     refine ⟨some a, cap0, (List.range len0).map q, by rw [hlen], by rw [hlen]; omega, ?_, ?_⟩
     · intro j u hj
       obtain ⟨i, hi, r', hr, rfl, hu⟩ := flat_inv hf _ hj
       rw [hlen] at hi
       have hc := (hq i hi).2 r' hr
       rw [List.getElem_map, List.getElem_range] at hu
       rw [hu] at hc
       obtain ⟨b, o, sp⟩ := a
       have hs : sp = none := by
        have h0 := (hq 0 (by omega)).2 0 (by omega)
        rw [List.getElem?_eq_getElem (by rw [hf]; omega)] at h0
        have := World.cell?_spot h0
        simpa [Addr.add] using this
       subst hs
       have ea : ((⟨b, o, none⟩ : Addr).add (i * n)).add r' = ⟨b, o + (i * n + r'), none⟩ := by
        unfold Addr.add
        by_cases h1 : i * n = 0 <;> by_cases h2 : r' = 0 <;> simp [h1, h2, Nat.add_assoc]
       rw [ea] at hc
       exact ⟨b, o, rfl, block_lt_of_cell hc, hc⟩
     · intro x hx
       obtain ⟨i, hi, rfl⟩ := List.mem_map.1 hx
       exact (hq i (List.mem_range.1 hi)).1
theorem open_val {H : Type} {enc : TypeId × Value → H} {P : Program} {W : World} {r : Reach} {base : Nat} {t : TypeId} {fs : Array Field} {v : Value} {d : DataW H} {p : List MemPlace}
 {α : Type} (f : α → List Value) (n : Nat) (G : α → Prop) (ht : P.underlying t = some (.struct fs)) (hC : P.cellsOf t = n)
 (each : ∀ (fuel : Nat) (cs : List Value) (x : DataW H × List MemPlace), cs.length = n → DataW.trod enc P W 0 (fun _ => true) true fuel t cs = some x → ∃ y, cs = f y ∧ G y)
 (hv : Value.okWide P W r base t v) (h : DataW.Trod enc P W 0 (fun _ => true) true t v d p) : ∃ y, v = .agg (f y).toArray ∧ G y := by
 obtain ⟨cs, rfl, hsz⟩ := okWide_struct ht hv
 obtain ⟨fuel, hfu⟩ := h
 obtain ⟨y, hy, h1⟩ := each _ _ _ (by show cs.toList.length = n; rw [Array.length_toList]; exact hsz.trans hC) hfu
 have : cs = (f y).toArray := by apply Array.toList_inj.1; exact hy
 exact ⟨y, by rw [this], h1⟩
end Go.Proofs.YtcfdpfmchchkaaaGreatDoor
namespace Go.Proofs.YtcfdpfmchchkaaaGreatDoor
open Go.RowKit
theorem logop_within_any (n lo hi : Int) (w : World) :
 Calls Tryz.prog 152 #[.int .i64 n, .int .i64 lo, .int .i64 hi] w fun e w' => e = .returned (.bool (inB n lo hi)) ∧ w = w' := by
 by_cases h : lo ≤ n
 · go_enter Tryz.func152, Tryz.ntmps152
   go_wp2
   go_ret
   exact ⟨by simp [inB, h], rfl⟩
 · go_enter Tryz.func152, Tryz.ntmps152
   go_wp2
   go_ret
   exact ⟨by simp [inB]; omega, rfl⟩
theorem recovery_within_any (n lo hi : Int) (w : World) :
 Calls Tryz.prog 62 #[.int .i64 n, .int .i64 lo, .int .i64 hi] w fun e w' => e = .returned (.bool (inB n lo hi)) ∧ w = w' := by
 by_cases h : lo ≤ n
 · go_enter Tryz.func62, Tryz.ntmps62
   go_wp2
   go_ret
   exact ⟨by simp [inB, h], rfl⟩
 · go_enter Tryz.func62, Tryz.ntmps62
   go_wp2
   go_ret
   exact ⟨by simp [inB]; omega, rfl⟩
theorem logop_unless_any (ok : Bool) (e : Int) (w : World) :
 Calls Tryz.prog 151 #[.bool ok, .int .i64 e] w fun e' w' => e' = .returned (.int .i64 (unl ok e)) ∧ w = w' := by
 cases ok
 · go_enter Tryz.func151, Tryz.ntmps151
   go_wp2
   go_ret
   exact ⟨rfl, rfl⟩
 · go_enter Tryz.func151, Tryz.ntmps151
   go_wp2
   go_ret
   exact ⟨rfl, rfl⟩
theorem recovery_unless_any (ok : Bool) (e : Int) (w : World) :
 Calls Tryz.prog 64 #[.bool ok, .int .i64 e] w fun e' w' => e' = .returned (.int .i64 (unl ok e)) ∧ w = w' := by
 cases ok
 · go_enter Tryz.func64, Tryz.ntmps64
   go_wp2
   go_ret
   exact ⟨rfl, rfl⟩
 · go_enter Tryz.func64, Tryz.ntmps64
   go_wp2
   go_ret
   exact ⟨rfl, rfl⟩
theorem logop_first_any (b o : Nat) (es : List Int) (w : World) (hlen : es.length ≤ 100)
 (hc : ∀ k (_ : k < es.length), w.cell? ⟨b, o + k, none⟩ = some (.int .i64 es[k])) :
 Calls Tryz.prog 143 #[.slice (some ⟨b, o, none⟩) es.length es.length] w fun e w' => e = .returned (.int .i64 (firstE es)) ∧ w = w' := by
 go_enter Tryz.func143, Tryz.ntmps143
 go_wp2
 go_loop [7] (fun i => ∃ k : Nat, k ≤ es.length ∧ i = .int .i64 k ∧ firstE es = firstE (es.drop k)) (fun i => es.length - (intOf i).toNat)
 case atStart => exact ⟨0, Nat.zero_le _, rfl, rfl⟩
 case round =>
  obtain ⟨k, hk, rfl, hf⟩ := hrel
  have HF := Lib.hid hf
  clear hf
  by_cases hlt : k < es.length
  · have hck := hc k hlt
    have hd : es.drop k = es[k] :: es.drop (k + 1) := List.drop_eq_getElem_cons hlt
    have HD := Lib.hid hd
    clear hd hc
    by_cases h0 : es[k] = 0
    · have h0' : (es[k] != 0) = false := by simp [h0]
      have H0 := Lib.hid h0
      clear h0
      go_wp2
      go_round
      case rel => exact ⟨k + 1, by omega, by go_num, by rw [HF.out, HD.out]; simp [firstE, H0.out]⟩
      case measure => simp [intOf]; omega
    · have h0' : (es[k] != 0) = true := by simp [h0]
      have H0 := Lib.hid h0
      clear h0
      go_wp2
      go_ret
      exact ⟨by rw [HF.out, HD.out]; simp [firstE, H0.out], rfl⟩
  · go_wp2
    go_ret
    exact ⟨by rw [HF.out, List.drop_of_length_le (by omega)]; rfl, rfl⟩
theorem recovery_first_any (b o : Nat) (es : List Int) (w : World) (hlen : es.length ≤ 100)
 (hc : ∀ k (_ : k < es.length), w.cell? ⟨b, o + k, none⟩ = some (.int .i64 es[k])) :
 Calls Tryz.prog 63 #[.slice (some ⟨b, o, none⟩) es.length es.length] w fun e w' => e = .returned (.int .i64 (firstE es)) ∧ w = w' := by
 go_enter Tryz.func63, Tryz.ntmps63
 go_wp2
 go_loop [7] (fun i => ∃ k : Nat, k ≤ es.length ∧ i = .int .i64 k ∧ firstE es = firstE (es.drop k)) (fun i => es.length - (intOf i).toNat)
 case atStart => exact ⟨0, Nat.zero_le _, rfl, rfl⟩
 case round =>
  obtain ⟨k, hk, rfl, hf⟩ := hrel
  have HF := Lib.hid hf
  clear hf
  by_cases hlt : k < es.length
  · have hck := hc k hlt
    have hd : es.drop k = es[k] :: es.drop (k + 1) := List.drop_eq_getElem_cons hlt
    have HD := Lib.hid hd
    clear hd hc
    by_cases h0 : es[k] = 0
    · have h0' : (es[k] != 0) = false := by simp [h0]
      have H0 := Lib.hid h0
      clear h0
      go_wp2
      go_round
      case rel => exact ⟨k + 1, by omega, by go_num, by rw [HF.out, HD.out]; simp [firstE, H0.out]⟩
      case measure => simp [intOf]; omega
    · have h0' : (es[k] != 0) = true := by simp [h0]
      have H0 := Lib.hid h0
      clear h0
      go_wp2
      go_ret
      exact ⟨by rw [HF.out, HD.out]; simp [firstE, H0.out], rfl⟩
  · go_wp2
    go_ret
    exact ⟨by rw [HF.out, List.drop_of_length_le (by omega)]; rfl, rfl⟩
theorem bcell {W w1 : World} (hb : Below W.heap.size W w1) : (∀ b o, b < W.heap.size → w1.cell? ⟨b, o, none⟩ = W.cell? ⟨b, o, none⟩) ∧ (∀ b o, b < W.heap.size → w1.frozen? ⟨b, o, none⟩ = W.frozen? ⟨b, o, none⟩) :=
 ⟨fun b o h => hb.cell (p := ⟨b, o, none⟩) h, fun b o h => hb.frozen (p := ⟨b, o, none⟩) h⟩
theorem logop_first_list (es : List Int) (w : World) (hlen : es.length ≤ 100) :
 Calls Tryz.prog 143 #[.slice (some ⟨w.heap.size, 0, none⟩) es.length es.length] (w.alloc (.cells (es.map (Value.int .i64)).toArray 28)) fun e w' => e = .returned (.int .i64 (firstE es)) ∧ w.alloc (.cells (es.map (Value.int .i64)).toArray 28) = w' :=
 logop_first_any _ _ es _ hlen fun k hk => by simp [hk]
theorem Within_any (n lo hi : Int) (w : World) :
 Calls Tryz.prog 74 #[.int .i64 n, .int .i64 lo, .int .i64 hi] w fun e w' => e = .returned (.bool (inB n lo hi)) ∧ w = w' := by
 by_cases h : lo ≤ n
 · go_enter Tryz.func74, Tryz.ntmps74
   go_wp2
   go_ret
   exact ⟨by simp [inB, h], rfl⟩
 · go_enter Tryz.func74, Tryz.ntmps74
   go_wp2
   go_ret
   exact ⟨by simp [inB]; omega, rfl⟩
end Go.Proofs.YtcfdpfmchchkaaaGreatDoor
