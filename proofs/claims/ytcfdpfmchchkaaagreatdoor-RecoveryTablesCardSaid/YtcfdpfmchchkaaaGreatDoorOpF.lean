/-
  Chapter 21: the reference's Applied, Fits, Try.
  Chapter 21: lists of operations: AppliedAll, Applied; All and Try of the reference; inverses.
  Operations, entries and the like that came in: slices, pairs, structs.
  Chapter 22: plain words of tables. No program in sight.
-/
import Derived.Test.YtcfdpfmchchkaaaGreatDoorOpD
import Derived.Test.YtcfdpfmchchkaaaGreatDoorOpE
import Derived.Test.YtcfdpfmchchkaaaGreatDoorOpA
namespace Go.Proofs.YtcfdpfmchchkaaaGreatDoor
set_option linter.unusedVariables false
set_option linter.unusedSimpArgs false
open Go.RowKit Go.Sort
end Go.Proofs.YtcfdpfmchchkaaaGreatDoor
namespace Go.Proofs.YtcfdpfmchchkaaaGreatDoor
set_option linter.unusedVariables false
set_option linter.unusedSimpArgs false
open Go.RowKit Go.Sort
def opsV (l : List Op) : List Value := l.flatMap opVs
theorem opsV_length (l : List Op) : (opsV l).length = 6 * l.length := by
 induction l with
 | nil => rfl
 | cons f l ih => simp [opsV, opVs] at ih ⊢; omega
theorem opsV_get (l : List Op) : ∀ (k : Nat) (h : k < l.length) (j : Nat) (u : Value), (opVs l[k])[j]? = some u → (opsV l)[k * 6 + j]? = some u := by
 induction l with
 | nil => intro k h; exact absurd h (by simp)
 | cons f l ih =>
  intro k h j u hu
  have hj : j < 6 := (List.getElem?_eq_some_iff.1 hu).1
  cases k with
  | zero =>
   show (opVs f ++ opsV l)[0 * 6 + j]? = some u
   rw [List.getElem?_append_left (by show _ < 6; omega), Nat.zero_mul, Nat.zero_add]; exact hu
  | succ k =>
   show (opVs f ++ opsV l)[(k + 1) * 6 + j]? = some u
   rw [List.getElem?_append_right (by show 6 ≤ _; omega)]
   have := ih k (by simpa using h) j u (by simpa using hu)
   rw [← this]
   congr 1
   show (k + 1) * 6 + j - 6 = _
   omega
def ShortOps (l : List Op) : Prop := ∀ j (h : j < l.length), l[j].o.size ≤ 3100 ∧ l[j].n.size ≤ 3100
end Go.Proofs.YtcfdpfmchchkaaaGreatDoor
namespace Go.Proofs.YtcfdpfmchchkaaaGreatDoor
set_option linter.unusedVariables false
set_option linter.unusedSimpArgs false
open Go.ChangeShapes Go.WideShapes Go.ChangeAt Go.RowKit
set_option maxRecDepth 100000 in
structure Lge where
 k : Int
 t : Int
 p : Int
 x : Int
 g : Int
 f : Bool
 o : Op
 d : ByteArray
def entVs (e : Lge) : List Value := [.int .i64 e.k, .int .i64 e.t, .int .i64 e.p, .int .i64 e.x, .int .i64 e.g, .bool e.f, .int .i64 e.o.k, .int .i64 e.o.a, .int .i64 e.o.e, .int .i64 e.o.c, .string e.o.o, .string e.o.n, .string e.d]
def entV (e : Lge) : Value := .agg (entVs e).toArray
structure Rdo where
 f : Bool
 o : Op
 n : Int
end Go.Proofs.YtcfdpfmchchkaaaGreatDoor
namespace Go.Proofs.YtcfdpfmchchkaaaGreatDoor
set_option linter.unusedVariables false
set_option linter.unusedSimpArgs false
open Go.RowKit
structure Trn where
 i : Int
 l : Int
 u : Int
 c : Bool
 deriving DecidableEq
structure Dty where
 g : Int
 f : Bool
 l : Int
 deriving DecidableEq
structure Tbl where
 ts : List Trn
 ds : List Dty
 deriving DecidableEq
structure Rcd where
 l : Int
 e : Lge
structure Pgp where
 g : Int
 f : Bool
 b : ByteArray
 deriving DecidableEq
def tbl0 : Tbl := ⟨[], []⟩
def trsL (x : Trn) : List Value := [.int .i64 x.i, .int .i64 x.l, .int .i64 x.u, .bool x.c]
def dtyL (x : Dty) : List Value := [.int .i64 x.g, .bool x.f, .int .i64 x.l]
def rcdL (x : Rcd) : List Value := .int .i64 x.l :: entVs x.e
def pgpL (x : Pgp) : List Value := [.int .i64 x.g, .bool x.f, .string x.b]
theorem trsL_len (x : Trn) : (trsL x).length = 4 := rfl
theorem dtyL_len (x : Dty) : (dtyL x).length = 3 := rfl
theorem rcdL_len (x : Rcd) : (rcdL x).length = 14 := rfl
theorem pgpL_len (x : Pgp) : (pgpL x).length = 3 := rfl
theorem trsL_one (x : Trn) : ∀ u ∈ trsL x, u.oneCell' = true := by
 intro u hu
 simp only [trsL, List.mem_cons, List.not_mem_nil, or_false] at hu
 rcases hu with rfl | rfl | rfl | rfl <;> rfl
theorem dtyL_one (x : Dty) : ∀ u ∈ dtyL x, u.oneCell' = true := by
 intro u hu
 simp only [dtyL, List.mem_cons, List.not_mem_nil, or_false] at hu
 rcases hu with rfl | rfl | rfl <;> rfl
theorem pgpL_one (x : Pgp) : ∀ u ∈ pgpL x, u.oneCell' = true := by
 intro u hu
 simp only [pgpL, List.mem_cons, List.not_mem_nil, or_false] at hu
 rcases hu with rfl | rfl | rfl <;> rfl
def bfrL {α : Type} (l : List α) (i : Nat) : Option α := if i = 0 then none else l[i - 1]?
def trnE (p : Option Trn) (x : Trn) : Int := firstE [unl (inB x.i 1 9999 && inB x.l 1 2147483647 && inB x.u 0 x.l) 2, unl (match p with | none => true | some y => decide (y.i < x.i)) 9]
def dtyE (p : Option Dty) (x : Dty) : Int := firstE [unl (inB x.g 0 600 && inB x.l 1 2147483647) 2, unl (match p with | none => true | some y => decide (y.g < x.g)) 9]
def trnsE (l : List Trn) : Int × Int := eachE (fun i x => trnE (bfrL l i) x) 0 l
def dtysE (l : List Dty) : Int × Int := eachE (fun i x => dtyE (bfrL l i) x) 0 l
def tblE (t : Tbl) : Int := if 60 < t.ts.length ∨ 60 < t.ds.length then 8 else if (trnsE t.ts).2 ≠ 0 then (trnsE t.ts).2 else (dtysE t.ds).2
def bit1 (b : Bool) : Int := if b then 1 else 0
def trnY (x : Trn) : List UInt8 := lit x.i 2 ++ (lit x.l 4 ++ (lit x.u 4 ++ lit (bit1 x.c) 1))
def dtyY (x : Dty) : List UInt8 := lit x.g 2 ++ (lit (bit1 x.f) 1 ++ lit x.l 4)
def tblL (t : Tbl) : List UInt8 := lit t.ts.length 1 ++ lit t.ds.length 1 ++ (t.ts.flatMap trnY ++ t.ds.flatMap dtyY)
theorem trnY_len (x : Trn) : (trnY x).length = 11 := by unfold trnY; simp only [List.length_append, lit_length]
theorem dtyY_len (x : Dty) : (dtyY x).length = 7 := by unfold dtyY; simp only [List.length_append, lit_length]
def trnAt (s : List UInt8) (a : Nat) : Trn := ⟨nAt s a 2, nAt s (a + 2) 4, nAt s (a + 6) 4, nAt s (a + 10) 1 == 1⟩
def dtyAt (s : List UInt8) (a : Nat) : Dty := ⟨nAt s a 2, nAt s (a + 2) 1 == 1, nAt s (a + 3) 4⟩
def tofN (s : List UInt8) : Nat := (nAt s 0 1).toNat
def tofM (s : List UInt8) : Nat := (nAt s 1 1).toNat
def tofT (s : List UInt8) (k : Nat) : List Trn := (List.range k).map fun i => trnAt s (2 + 11 * i)
def tofD (s : List UInt8) (k : Nat) : List Dty := (List.range k).map fun i => dtyAt s (2 + 11 * tofN s + 7 * i)
def tofF (s : List UInt8) (k : Nat) : Bool := (List.range k).all fun i => decide (nAt s (2 + 11 * i + 10) 1 ≤ 1)
def tofG (s : List UInt8) (k : Nat) : Bool := (List.range k).all fun i => decide (nAt s (2 + 11 * tofN s + 7 * i + 2) 1 ≤ 1)
def tofV (s : List UInt8) : Tbl := ⟨tofT s (tofN s), tofD s (tofM s)⟩
def tofE (s : List UInt8) : Int := if s.length < 2 then 10 else if s.length ≠ 2 + 11 * tofN s + 7 * tofM s then 10 else firstE [unl (tofF s (tofN s) && tofG s (tofM s)) 3, tblE (tofV s)]
def tofR (s : List UInt8) : Tbl := if tofE s = 0 then tofV s else tbl0
theorem nAt_hd {s x t : List UInt8} {a c : Nat} (h : s.drop a = x ++ t) (hc : x.length = c) : nAt s a c = num x := by
 unfold nAt; rw [h, List.take_left' hc]
theorem drop_app {s x t : List UInt8} {a c : Nat} (h : s.drop a = x ++ t) (hc : x.length = c) : s.drop (a + c) = t := by
 rw [← List.drop_drop, h, List.drop_left' hc]
theorem nAt_ltl {s t : List UInt8} {a c : Nat} {n : Int} (h : s.drop a = lit n c ++ t) (h0 : 0 ≤ n) (h1 : n < 256 ^ c) : nAt s a c = n := by
 rw [nAt_hd h (lit_length _ _), num_lit]; exact Int.emod_eq_of_lt h0 h1
theorem lit_nAt {s : List UInt8} {a c : Nat} (h : a + c ≤ s.length) : lit (nAt s a c) c = (s.drop a).take c := by
 have hl : ((s.drop a).take c).length = c := by rw [List.length_take, List.length_drop]; omega
 have := lit_num ((s.drop a).take c)
 rw [hl] at this; exact this
theorem take_join (s : List UInt8) (a m n : Nat) : (s.drop a).take m ++ (s.drop (a + m)).take n = (s.drop a).take (m + n) := by
 rw [← List.drop_drop]
 generalize s.drop a = l
 rw [← List.take_append_drop m (l.take (m + n)), List.take_take, Nat.min_eq_left (by omega), List.drop_take, Nat.add_sub_cancel_left]
theorem bit1_nAt {s : List UInt8} {a : Nat} (h : nAt s a 1 ≤ 1) : bit1 (nAt s a 1 == 1) = nAt s a 1 := by
 have h0 := (nAt_bd s a 1).1
 unfold bit1
 rcases (show nAt s a 1 = 0 ∨ nAt s a 1 = 1 by omega) with h1 | h1 <;> rw [h1] <;> rfl
theorem trnY_at {s : List UInt8} {a : Nat} (h : a + 11 ≤ s.length) (hb : nAt s (a + 10) 1 ≤ 1) : trnY (trnAt s a) = (s.drop a).take 11 := by
 unfold trnY trnAt
 simp only
 rw [bit1_nAt hb, lit_nAt (by omega), lit_nAt (by omega), lit_nAt (by omega), lit_nAt (by omega), show a + 10 = a + 6 + 4 from rfl, take_join, show a + 6 = a + 2 + 4 from rfl, take_join, take_join]
theorem dtyY_at {s : List UInt8} {a : Nat} (h : a + 7 ≤ s.length) (hb : nAt s (a + 2) 1 ≤ 1) : dtyY (dtyAt s a) = (s.drop a).take 7 := by
 unfold dtyY dtyAt
 simp only
 rw [bit1_nAt hb, lit_nAt (by omega), lit_nAt (by omega), lit_nAt (by omega), show a + 3 = a + 2 + 1 from rfl, take_join, take_join]
theorem rows_join {α : Type} (f : α → List UInt8) (g : Nat → α) (s : List UInt8) (b k : Nat) : ∀ n : Nat, (∀ i, i < n → f (g i) = (s.drop (b + k * i)).take k) → ((List.range n).map g).flatMap f = (s.drop b).take (k * n)
 | 0, _ => by simp
 | n + 1, h => by
  rw [List.range_succ, List.map_append, List.flatMap_append, rows_join f g s b k n fun i hi => h i (by omega), List.map_singleton, List.flatMap_singleton, h n (by omega), take_join, Nat.mul_succ]
theorem tblL_back {s : List UInt8} (h : tofE s = 0) : tblL (tofV s) = s := by
 unfold tofE at h
 split at h
 · cases h
 rename_i h1
 split at h
 · cases h
 rename_i h2
 have h2 : s.length = 2 + 11 * tofN s + 7 * tofM s := by omega
 rw [firstE_zero] at h
 have h3 := (unl_zero (by decide)).1 (h (unl (tofF s (tofN s) && tofG s (tofM s)) 3) (by simp))
 rw [Bool.and_eq_true] at h3
 obtain ⟨h3, h4⟩ := h3
 have h3 : ∀ i, i < tofN s → nAt s (2 + 11 * i + 10) 1 ≤ 1 := fun i hi => by
  have := List.all_eq_true.1 h3 i (List.mem_range.2 hi); exact of_decide_eq_true this
 have h4 : ∀ i, i < tofM s → nAt s (2 + 11 * tofN s + 7 * i + 2) 1 ≤ 1 := fun i hi => by
  have := List.all_eq_true.1 h4 i (List.mem_range.2 hi); exact of_decide_eq_true this
 have e1 : (tofT s (tofN s)).flatMap trnY = (s.drop 2).take (11 * tofN s) :=
  rows_join trnY _ s 2 11 _ fun i hi => trnY_at (by omega) (h3 i hi)
 have e2 : (tofD s (tofM s)).flatMap dtyY = (s.drop (2 + 11 * tofN s)).take (7 * tofM s) :=
  rows_join dtyY _ s (2 + 11 * tofN s) 7 _ fun i hi => dtyY_at (by omega) (h4 i hi)
 have l1 : ((tofV s).ts.length : Int) = nAt s 0 1 := by
  have := (nAt_bd s 0 1).1
  show (((List.range (tofN s)).map _).length : Int) = _
  rw [List.length_map, List.length_range]; unfold tofN; omega
 have l2 : ((tofV s).ds.length : Int) = nAt s 1 1 := by
  have := (nAt_bd s 1 1).1
  show (((List.range (tofM s)).map _).length : Int) = _
  rw [List.length_map, List.length_range]; unfold tofM; omega
 unfold tblL
 rw [l1, l2, lit_nAt (by omega), lit_nAt (by omega)]
 show (s.drop 0).take 1 ++ (s.drop 1).take 1 ++ ((tofT s (tofN s)).flatMap trnY ++ (tofD s (tofM s)).flatMap dtyY) = s
 rw [e1, e2, take_join s 2, take_join s 0 1 1]
 have e3 := take_join s 0 (1 + 1) (11 * tofN s + 7 * tofM s)
 rw [show (0 : Nat) + (1 + 1) = 2 from rfl] at e3
 rw [e3, List.drop_zero, List.take_of_length_le (by omega)]
theorem flatB_drop {α : Type} {f : α → List UInt8} {n : Nat} (hf : ∀ x, (f x).length = n) (l : List α) (k : Nat) : (l.flatMap f).drop (n * k) = (l.drop k).flatMap f := by
 induction l generalizing k with
 | nil => simp
 | cons x l ih =>
  cases k with
  | zero => simp
  | succ k => rw [List.flatMap_cons, List.drop_succ_cons, ← ih k, Nat.mul_succ, Nat.add_comm, ← List.drop_drop, List.drop_left' (hf x)]
theorem flatB_len {α : Type} {f : α → List UInt8} {n : Nat} (hf : ∀ x, (f x).length = n) (l : List α) : (l.flatMap f).length = n * l.length := by
 induction l with
 | nil => rfl
 | cons x l ih => rw [List.flatMap_cons, List.length_append, ih, hf, List.length_cons, Nat.mul_succ, Nat.add_comm]
structure TrnOk (x : Trn) : Prop where
 i : 1 ≤ x.i ∧ x.i ≤ 9999
 l : 1 ≤ x.l ∧ x.l ≤ 2147483647
 u : 0 ≤ x.u ∧ x.u ≤ x.l
structure DtyOk (x : Dty) : Prop where
 g : 0 ≤ x.g ∧ x.g ≤ 600
 l : 1 ≤ x.l ∧ x.l ≤ 2147483647
theorem trnE_zero {p : Option Trn} {x : Trn} : trnE p x = 0 ↔ TrnOk x ∧ ∀ y, p = some y → y.i < x.i := by
 unfold trnE
 rw [firstE_zero]
 simp only [List.mem_cons, List.not_mem_nil, or_false, forall_eq_or_imp, forall_eq]
 rw [unl_zero (by decide), unl_zero (by decide), Bool.and_eq_true, Bool.and_eq_true, inB_true, inB_true, inB_true]
 constructor
 · rintro ⟨⟨⟨h1, h2⟩, h3⟩, h4⟩
   refine ⟨⟨h1, h2, h3⟩, fun y hy => ?_⟩
   subst hy; simpa using h4
 · rintro ⟨⟨h1, h2, h3⟩, h4⟩
   refine ⟨⟨⟨h1, h2⟩, h3⟩, ?_⟩
   cases p with
   | none => rfl
   | some y => simpa using h4 y rfl
theorem dtyE_zero {p : Option Dty} {x : Dty} : dtyE p x = 0 ↔ DtyOk x ∧ ∀ y, p = some y → y.g < x.g := by
 unfold dtyE
 rw [firstE_zero]
 simp only [List.mem_cons, List.not_mem_nil, or_false, forall_eq_or_imp, forall_eq]
 rw [unl_zero (by decide), unl_zero (by decide), Bool.and_eq_true, inB_true, inB_true]
 constructor
 · rintro ⟨⟨h1, h2⟩, h4⟩
   refine ⟨⟨h1, h2⟩, fun y hy => ?_⟩
   subst hy; simpa using h4
 · rintro ⟨⟨h1, h2⟩, h4⟩
   refine ⟨⟨h1, h2⟩, ?_⟩
   cases p with
   | none => rfl
   | some y => simpa using h4 y rfl
structure TblOk (t : Tbl) : Prop where
 n : t.ts.length ≤ 60
 m : t.ds.length ≤ 60
 ts : ∀ k (h : k < t.ts.length), TrnOk t.ts[k]
 ds : ∀ k (h : k < t.ds.length), DtyOk t.ds[k]
 tord : ∀ k (h : k + 1 < t.ts.length), t.ts[k].i < t.ts[k + 1].i
 dord : ∀ k (h : k + 1 < t.ds.length), t.ds[k].g < t.ds[k + 1].g
theorem eachE_iff {α : Type} (f : Nat → α → Int) (l : List α) : (eachE f 0 l).2 = 0 ↔ ∀ k (h : k < l.length), f k l[k] = 0 := by
 constructor
 · intro h k hk
   have := eachE_zero f l 0 h k hk
   rwa [Nat.zero_add] at this
 · intro h
   rw [eachE_none f l 0 fun k hk => by rw [Nat.zero_add]; exact h k hk]
theorem bfrL_succ {α : Type} (l : List α) (k : Nat) (h : k < l.length) : bfrL l (k + 1) = some l[k] := by
 unfold bfrL; rw [if_neg (by omega), Nat.add_sub_cancel, List.getElem?_eq_getElem h]
theorem tblE_zero {t : Tbl} : tblE t = 0 ↔ TblOk t := by
 unfold tblE trnsE dtysE
 constructor
 · intro h
   split at h
   · cases h
   rename_i h0
   split at h
   · rename_i h1; exact absurd h h1
   rename_i h1
   have h1 := (eachE_iff _ _).1 (Classical.not_not.1 h1)
   have h2 := (eachE_iff _ _).1 h
   refine ⟨by omega, by omega, fun k hk => (trnE_zero.1 (h1 k hk)).1, fun k hk => (dtyE_zero.1 (h2 k hk)).1, fun k hk => ?_, fun k hk => ?_⟩
   · exact (trnE_zero.1 (h1 (k + 1) hk)).2 _ (bfrL_succ _ _ _)
   · exact (dtyE_zero.1 (h2 (k + 1) hk)).2 _ (bfrL_succ _ _ _)
 · intro h
   rw [if_neg (by have := h.n; have := h.m; omega)]
   rw [if_neg]
   · rw [eachE_iff]
     intro k hk
     rw [dtyE_zero]
     refine ⟨h.ds k hk, fun y hy => ?_⟩
     cases k with
     | zero => cases hy
     | succ k => rw [bfrL_succ _ _ (by omega)] at hy; cases hy; exact h.dord k hk
   · rw [Classical.not_not, eachE_iff]
     intro k hk
     rw [trnE_zero]
     refine ⟨h.ts k hk, fun y hy => ?_⟩
     cases k with
     | zero => cases hy
     | succ k => rw [bfrL_succ _ _ (by omega)] at hy; cases hy; exact h.tord k hk
theorem bit1_beq (b : Bool) : (bit1 b == 1) = b := by cases b <;> rfl
theorem bit1_bd (b : Bool) : 0 ≤ bit1 b ∧ bit1 b ≤ 1 := by cases b <;> decide
theorem trnAt_of {s t : List UInt8} {a : Nat} {x : Trn} (h : s.drop a = trnY x ++ t) (hx : TrnOk x) : trnAt s a = x ∧ nAt s (a + 10) 1 ≤ 1 := by
 unfold trnY at h
 simp only [List.append_assoc] at h
 have h1 := hx.i
 have h2 := hx.l
 have h3 := hx.u
 have h4 := bit1_bd x.c
 have d2 := drop_app h (lit_length _ _)
 have d6 := drop_app d2 (lit_length _ _)
 have d10 := drop_app d6 (lit_length _ _)
 rw [Nat.add_assoc] at d6 d10
 rw [Nat.add_assoc] at d10
 have n10 : nAt s (a + 10) 1 = bit1 x.c := nAt_ltl d10 h4.1 (by omega)
 refine ⟨?_, by rw [n10]; exact h4.2⟩
 unfold trnAt
 rw [n10, bit1_beq, nAt_ltl h (by omega) (by omega), nAt_ltl d2 (by omega) (by omega), nAt_ltl d6 (by omega) (by omega)]
theorem dtyAt_of {s t : List UInt8} {a : Nat} {x : Dty} (h : s.drop a = dtyY x ++ t) (hx : DtyOk x) : dtyAt s a = x ∧ nAt s (a + 2) 1 ≤ 1 := by
 unfold dtyY at h
 simp only [List.append_assoc] at h
 have h1 := hx.g
 have h2 := hx.l
 have h4 := bit1_bd x.f
 have d2 := drop_app h (lit_length _ _)
 have d3 := drop_app d2 (lit_length _ _)
 rw [Nat.add_assoc] at d3
 have n2 : nAt s (a + 2) 1 = bit1 x.f := nAt_ltl d2 h4.1 (by omega)
 refine ⟨?_, by rw [n2]; exact h4.2⟩
 unfold dtyAt
 rw [n2, bit1_beq, nAt_ltl h (by omega) (by omega), nAt_ltl d3 (by omega) (by omega)]
theorem map_get {α : Type} (l : List α) (g : Nat → α) (h : ∀ k (hk : k < l.length), g k = l[k]) : (List.range l.length).map g = l := by
 apply List.ext_getElem (by simp)
 intro k h1 h2
 rw [List.getElem_map, List.getElem_range]
 exact h k h2
theorem tofE_back {t : Tbl} (h : tblE t = 0) : tofE (tblL t) = 0 ∧ tofV (tblL t) = t := by
 have hk := tblE_zero.1 h
 obtain ⟨s, hs⟩ : ∃ s, s = tblL t := ⟨_, rfl⟩
 rw [← hs]
 have hn := hk.n
 have hm := hk.m
 have d0 : s.drop 0 = lit t.ts.length 1 ++ (lit t.ds.length 1 ++ (t.ts.flatMap trnY ++ t.ds.flatMap dtyY)) := by rw [hs, List.drop_zero]; unfold tblL; rw [List.append_assoc]
 have d1 := drop_app d0 (lit_length _ _)
 have d2 := drop_app d1 (lit_length _ _)
 have n0 : nAt s 0 1 = t.ts.length := nAt_ltl d0 (by omega) (by omega)
 have n1 : nAt s 1 1 = t.ds.length := nAt_ltl d1 (by omega) (by omega)
 have hN : tofN s = t.ts.length := by unfold tofN; rw [n0]; rfl
 have hM : tofM s = t.ds.length := by unfold tofM; rw [n1]; rfl
 have e1 := flatB_len trnY_len t.ts
 have e2 := flatB_len dtyY_len t.ds
 have hlen : s.length = 2 + 11 * t.ts.length + 7 * t.ds.length := by
  rw [hs]; unfold tblL; simp only [List.length_append, lit_length, e1, e2]; omega
 have rT : ∀ k (hk' : k < t.ts.length), ∃ r, s.drop (2 + 11 * k) = trnY t.ts[k] ++ r := fun k hk' => by
  rw [← List.drop_drop]
  have d2' : s.drop 2 = t.ts.flatMap trnY ++ t.ds.flatMap dtyY := d2
  rw [d2', List.drop_append_of_le_length (by omega), flatB_drop trnY_len, List.drop_eq_getElem_cons hk', List.flatMap_cons, List.append_assoc]
  exact ⟨_, rfl⟩
 have rD : ∀ k (hk' : k < t.ds.length), ∃ r, s.drop (2 + 11 * t.ts.length + 7 * k) = dtyY t.ds[k] ++ r := fun k hk' => by
  have d2' : s.drop 2 = t.ts.flatMap trnY ++ t.ds.flatMap dtyY := d2
  rw [← List.drop_drop, ← List.drop_drop, d2', List.drop_left' e1, flatB_drop dtyY_len, List.drop_eq_getElem_cons hk', List.flatMap_cons]
  exact ⟨_, rfl⟩
 have hV : tofV s = t := by
  unfold tofV tofT tofD
  have q1 := map_get t.ts (fun i => trnAt s (2 + 11 * i)) fun k hk' => by
   obtain ⟨r, hr⟩ := rT k hk'
   exact (trnAt_of hr (hk.ts k hk')).1
  have q2 := map_get t.ds (fun i => dtyAt s (2 + 11 * t.ts.length + 7 * i)) fun k hk' => by
   obtain ⟨r, hr⟩ := rD k hk'
   exact (dtyAt_of hr (hk.ds k hk')).1
  rw [hN, hM, q1, q2]
 refine ⟨?_, hV⟩
 unfold tofE
 rw [if_neg (by omega), hN, hM, if_neg (by omega), firstE_zero]
 simp only [List.mem_cons, List.not_mem_nil, or_false, forall_eq_or_imp, forall_eq]
 refine ⟨?_, by rw [hV]; exact h⟩
 rw [unl_zero (by decide), Bool.and_eq_true]
 unfold tofF tofG
 refine ⟨List.all_eq_true.2 fun k hk' => decide_eq_true ?_, List.all_eq_true.2 fun k hk' => decide_eq_true ?_⟩
 · have hk2 := List.mem_range.1 hk'
   obtain ⟨r, hr⟩ := rT k hk2
   exact (trnAt_of hr (hk.ts k hk2)).2
 · have hk2 := List.mem_range.1 hk'
   obtain ⟨r, hr⟩ := rD k hk2
   rw [hN]
   exact (dtyAt_of hr (hk.ds k hk2)).2
end Go.Proofs.YtcfdpfmchchkaaaGreatDoor
