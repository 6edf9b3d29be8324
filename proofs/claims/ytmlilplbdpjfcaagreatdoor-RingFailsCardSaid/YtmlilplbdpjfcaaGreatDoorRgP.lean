/-
  Chapter 20: plain words of logs. No program in sight.
-/
import Derived.Test.YtmlilplbdpjfcaaGreatDoorKitA
namespace Go.Proofs.YtmlilplbdpjfcaaGreatDoor
set_option linter.unusedVariables false
set_option linter.unusedSimpArgs false
open Go.RowKit
structure RstP where
 s : Int
 c : Int
 o : Int
 deriving DecidableEq
structure RecP where
 l : Int
 s : Int
 b : ByteArray
 deriving DecidableEq
structure RngP where
 pg : Int
 r : RstP
 e : RstP
 rs : List RecP
 nx : Int
 deriving DecidableEq
def rst0 : RstP := ⟨0, 0, 0⟩
def rec0 : RecP := ⟨0, 0, ⟨#[]⟩⟩
def rng0 : RngP := ⟨0, rst0, rst0, [], 0⟩
def szR (n : Int) : Int := (n + 19) / 8 * 8
def bhR (x : RecP) : Int := x.l - 1 + szR x.b.size
def nxtR (p : Int) : Int := (p + 447) / 448 * 448
def pgsE (n : Int) : Int := unl (inB n 4 40) 2
def posB (n : Int) : Bool := inB n 0 100000000
def rstB (x : RstP) : Bool := inB x.s 1 60000 && posB x.c && posB x.o
def rstE (x : RstP) : Int := unl (rstB x) 2
def ordB (o : Int) (f : Option RecP) (x : RecP) : Bool := match f with
 | none => x.l == o && decide (1 ≤ o) && (o - 1) % 8 == 0
 | some y => x.l - 1 == bhR y || x.l - 1 == nxtR (bhR y)
def seqB (f : Option RecP) (x : RecP) : Bool := match f with
 | none => true
 | some y => x.s == y.s || (decide (y.s < x.s) && (x.l - 1) % 448 == 0)
def recE (o q : Int) (f : Option RecP) (x : RecP) : Int :=
 if x.b.size = 0 then 17 else if 3000 < x.b.size then 8 else if ordB o f x = false then 9 else if inB x.s 1 q = false then 2 else unl (seqB f x) 9
def bfrR (l : List RecP) (i : Nat) : Option RecP := if i = 0 then none else l[i - 1]?
def recsP (r : RngP) : Int × Int := eachE (fun i x => recE r.r.o r.r.s (bfrR r.rs i) x) 0 r.rs
def nextE (r : RngP) : Int := match r.rs.getLast? with
 | none => unl (r.nx == r.r.o - 1 && r.nx % 448 == 0) 9
 | some y => unl ((r.nx == bhR y || r.nx == nxtR (bhR y)) && (y.s == r.r.s || r.nx % 448 == 0)) 9
def hasR (l : List RecP) (n : Int) : Bool := l.any fun x => x.l == n
def roomsP (r : RngP) : Int × Int := match r.rs.getLast? with
 | none => (0, 0)
 | some y => ((r.r.o - 1) / 448, (bhR y - 1) / 448 - (r.r.o - 1) / 448 + 1)
def earE (r : RngP) : Int := if r.e = rst0 then 0 else firstE [rstE r.e, unl (r.e.s == r.r.s - 1) 9]
def headE (r : RngP) : Int := firstE [pgsE r.pg, rstE r.r, earE r, unl (posB r.nx && r.nx % 8 == 0) 2, unl (decide (r.rs.length ≤ 100)) 8]
def tailE (r : RngP) : Int := firstE [nextE r, unl (r.r.c == 0 || hasR r.rs r.r.c) 6, unl (decide ((roomsP r).2 ≤ r.pg - 2)) 16]
def chkR (r : RngP) : Int × Int := if headE r ≠ 0 then (0, headE r) else if (recsP r).2 ≠ 0 then recsP r else (0, tailE r)
def appV (r : RngP) (s : ByteArray) : RngP := { r with rs := r.rs ++ [⟨r.nx + 1, r.r.s, s⟩], nx := r.nx + szR s.size }
def appE (r : RngP) (s : ByteArray) : Int :=
 if s.size = 0 then 17 else if 3000 < s.size then 8 else if 100 ≤ r.rs.length then 8 else
  if r.pg - 2 < (roomsP (appV r s)).2 ∨ 100000000 < (appV r s).nx then 16 else 0
def appR (r : RngP) (s : ByteArray) : RngP := if appE r s = 0 then appV r s else rng0
def cloV (r : RngP) : RngP := { r with nx := nxtR r.nx }
def cloE (r : RngP) : Int := unl (decide (nxtR r.nx ≤ 100000000)) 16
def cloR (r : RngP) : RngP := if cloE r = 0 then cloV r else rng0
def rsaV (r : RngP) (c o : Int) : RngP := ⟨r.pg, ⟨r.r.s + 1, c, o⟩, r.r, r.rs.filter fun x => decide (o ≤ x.l), nxtR r.nx⟩
def rsaE (r : RngP) (c o : Int) : Int :=
 firstE [cloE r, unl (o == nxtR r.nx + 1 || hasR r.rs o) 6, unl (c == 0 || (decide (o ≤ c) && hasR r.rs c)) 6, unl (decide (r.r.s < 60000)) 2]
def encR (x : RecP) : List UInt8 :=
 lit x.b.size 2 ++ [0, 0] ++ lit x.l 4 ++ lit (sumL (bl x.b) 0) 4 ++ bl x.b ++ zerosL ((szR x.b.size).toNat - (12 + x.b.size))
def patL (l : List UInt8) (a : Nat) (b : List UInt8) : List UInt8 := l.take a ++ b ++ l.drop (a + b.length)
theorem patL_length {l b : List UInt8} {a : Nat} (h : a + b.length ≤ l.length) : (patL l a b).length = l.length := by
 unfold patL; simp only [List.length_append, List.length_take, List.length_drop]; omega
theorem patL_getD {l b : List UInt8} {a : Nat} (h : a + b.length ≤ l.length) (i : Nat) : (patL l a b).getD i 0 = if a ≤ i ∧ i < a + b.length then b.getD (i - a) 0 else l.getD i 0 := by
 unfold patL
 simp only [List.getD_eq_getElem?_getD]
 have h1 : (l.take a ++ b).length = a + b.length := by simp only [List.length_append, List.length_take]; omega
 have h2 : (l.take a).length = a := by rw [List.length_take]; omega
 by_cases hi : i < a + b.length
 · rw [List.getElem?_append_left (by omega)]
   by_cases hj : i < a
   · rw [List.getElem?_append_left (by omega), if_neg (by omega), List.getElem?_take, if_pos hj]
   · rw [List.getElem?_append_right (by omega), if_pos ⟨by omega, hi⟩, h2]
 · rw [List.getElem?_append_right (by omega), if_neg (by omega), h1, List.getElem?_drop]
   congr 2; omega
theorem gD {l : List UInt8} {i j : Nat} (h : i = j) : l.getD i 0 = l.getD j 0 := by rw [h]
theorem list_ext_getD {l m : List UInt8} (hl : l.length = m.length) (h : ∀ i, i < l.length → l.getD i 0 = m.getD i 0) : l = m := by
 refine List.ext_getElem hl fun i h1 h2 => ?_
 have := h i h1
 simpa [List.getD_eq_getElem?_getD, List.getElem?_eq_getElem h1, List.getElem?_eq_getElem h2] using this
theorem bl_patL (s : ByteArray) (a : Nat) (b : ByteArray) : bl (patS s a b) = patL (bl s) a (bl b) := by rw [bl_patS]; rfl
theorem take2_drop (l : List UInt8) (a : Nat) (h : a + 2 ≤ l.length) : (l.drop a).take 2 = [l.getD a 0, l.getD (a + 1) 0] := by
 rw [List.drop_eq_getElem_cons (by omega), List.drop_eq_getElem_cons (by omega)]
 simp only [List.take_succ_cons, List.take_zero, List.getD_eq_getElem?_getD, List.getElem?_eq_getElem (show a < l.length by omega), List.getElem?_eq_getElem (show a + 1 < l.length by omega), Option.getD_some]
def tlA (k : Nat) : Nat := 64 * k + 62
def prK (n : Int) (b : List UInt8) : Nat → List UInt8
 | 0 => patL b 40 (lit n 2)
 | k + 1 => patL (patL (prK n b k) (42 + 2 * k) (((prK n b k).drop (tlA k)).take 2)) (tlA k) (lit n 2)
def prL (b : List UInt8) (n : Int) : List UInt8 := prK n b 8
def prF (b : List UInt8) (n : Int) (k i : Nat) : UInt8 :=
 if 40 ≤ i ∧ i < 42 then (lit n 2).getD (i - 40) 0 else if 42 ≤ i ∧ i < 42 + 2 * k then b.getD (tlA ((i - 42) / 2) + (i - 42) % 2) 0
 else if 62 ≤ i % 64 ∧ i < 64 * k then (lit n 2).getD (i % 64 - 62) 0 else b.getD i 0
theorem lit2_length (n : Int) : (lit n 2).length = 2 := lit_length n 2
theorem prK_spec (n : Int) (b : List UInt8) (hb : b.length = 512) : ∀ k, k ≤ 8 → (prK n b k).length = 512 ∧ ∀ i, i < 512 → (prK n b k).getD i 0 = prF b n k i
 | 0, _ => by
  have hl := lit2_length n
  refine ⟨by unfold prK; rw [patL_length (by omega), hb], fun i hi => ?_⟩
  unfold prK prF
  rw [patL_getD (by omega), hl]
  by_cases h : 40 ≤ i ∧ i < 40 + 2
  · rw [if_pos h, if_pos (by omega)]
  · rw [if_neg h, if_neg (by omega), if_neg (by omega), if_neg (by omega)]
 | k + 1, hk => by
  obtain ⟨h1, h2⟩ := prK_spec n b hb k (by omega)
  have hl := lit2_length n
  have ht : (((prK n b k).drop (tlA k)).take 2).length = 2 := by
   rw [List.length_take, List.length_drop, h1]; unfold tlA; omega
  have hp : (patL (prK n b k) (42 + 2 * k) (((prK n b k).drop (tlA k)).take 2)).length = 512 := by rw [patL_length (by rw [ht, h1]; omega), h1]
  refine ⟨by show (patL _ _ _).length = _; rw [patL_length (by rw [hl, hp]; unfold tlA; omega), hp], fun i hi => ?_⟩
  show (patL _ _ _).getD i 0 = _
  rw [patL_getD (by rw [hl, hp]; unfold tlA; omega), patL_getD (by rw [ht, h1]; omega), hl, ht, take2_drop _ _ (by rw [h1]; unfold tlA; omega), h2 i hi, h2 _ (by unfold tlA; omega), h2 _ (by unfold tlA; omega)]
  have ef : ∀ j, j < 2 → prF b n k (tlA k + j) = b.getD (tlA k + j) 0 := fun j hj => by
   unfold prF tlA
   rw [if_neg (by omega), if_neg (by omega), if_neg (by omega)]
  have ef0 : prF b n k (tlA k) = b.getD (tlA k) 0 := ef 0 (by omega)
  rw [ef0, ef 1 (by omega)]
  by_cases ha : tlA k ≤ i ∧ i < tlA k + 2
  · rw [if_pos ha]
    unfold prF
    unfold tlA at ha
    rw [if_neg (by omega), if_neg (by omega), if_pos (by omega)]
    exact gD (by unfold tlA; omega)
  · rw [if_neg ha]
    unfold tlA at ha
    by_cases hc : 42 + 2 * k ≤ i ∧ i < 42 + 2 * k + 2
    · rw [if_pos hc]
      unfold prF
      rw [if_neg (by omega), if_pos (by omega)]
      have e1 : (i - 42) / 2 = k := by omega
      rw [e1]
      have : i = 42 + 2 * k ∨ i = 42 + 2 * k + 1 := by omega
      rcases this with rfl | rfl
      · rw [show 42 + 2 * k - (42 + 2 * k) = 0 by omega, show (42 + 2 * k - 42) % 2 = 0 by omega]; rfl
      · rw [show 42 + 2 * k + 1 - (42 + 2 * k) = 1 by omega, show (42 + 2 * k + 1 - 42) % 2 = 1 by omega]; rfl
    · rw [if_neg hc]
      unfold prF
      by_cases h3 : 40 ≤ i ∧ i < 42
      · rw [if_pos h3, if_pos h3]
      · rw [if_neg h3, if_neg h3]
        by_cases h4 : 42 ≤ i ∧ i < 42 + 2 * k
        · rw [if_pos h4, if_pos (by omega)]
        · rw [if_neg h4]
          by_cases h5 : 62 ≤ i % 64 ∧ i < 64 * k
          · rw [if_pos h5, if_neg (by omega), if_pos (by omega)]
          · rw [if_neg h5, if_neg (by omega), if_neg (by omega)]
theorem prL_length {b : List UInt8} (hb : b.length = 512) (n : Int) : (prL b n).length = 512 := (prK_spec n b hb 8 (by omega)).1
theorem prL_getD {b : List UInt8} (hb : b.length = 512) (n : Int) {i : Nat} (hi : i < 512) : (prL b n).getD i 0 = prF b n 8 i := (prK_spec n b hb 8 (by omega)).2 i hi
def usnL (s : List UInt8) : Int := num ((s.drop 40).take 2)
def trnB (s : List UInt8) (k : Nat) : Bool := usnL s == 0 || (s.drop (tlA k)).take 2 != (s.drop 40).take 2
def opB (s : List UInt8) : Bool := (List.range 8).all fun k => !trnB s k
def opK (s : List UInt8) : Nat → List UInt8
 | 0 => s
 | k + 1 => patL (opK s k) (tlA k) ((s.drop (42 + 2 * k)).take 2)
def opL (s : List UInt8) : List UInt8 := patL (opK s 8) 40 (zerosL 18)
def opF (s : List UInt8) (k i : Nat) : UInt8 := if 62 ≤ i % 64 ∧ i < 64 * k then s.getD (42 + 2 * (i / 64) + (i % 64 - 62)) 0 else s.getD i 0
theorem opK_spec (s : List UInt8) (hs : s.length = 512) : ∀ k, k ≤ 8 → (opK s k).length = 512 ∧ ∀ i, i < 512 → (opK s k).getD i 0 = opF s k i
 | 0, _ => ⟨hs, fun i hi => by unfold opK opF; rw [if_neg (by omega)]⟩
 | k + 1, hk => by
  obtain ⟨h1, h2⟩ := opK_spec s hs k (by omega)
  have ht : ((s.drop (42 + 2 * k)).take 2).length = 2 := by rw [List.length_take, List.length_drop, hs]; omega
  refine ⟨by show (patL _ _ _).length = _; rw [patL_length (by rw [ht, h1]; unfold tlA; omega), h1], fun i hi => ?_⟩
  show (patL _ _ _).getD i 0 = _
  rw [patL_getD (by rw [ht, h1]; unfold tlA; omega), ht, h2 i hi, take2_drop _ _ (by omega)]
  unfold opF tlA
  by_cases ha : 64 * k + 62 ≤ i ∧ i < 64 * k + 62 + 2
  · rw [if_pos ha, if_pos (by omega)]
    have : i = 64 * k + 62 ∨ i = 64 * k + 63 := by omega
    rcases this with rfl | rfl
    · rw [show 64 * k + 62 - (64 * k + 62) = 0 by omega, show (64 * k + 62) / 64 = k by omega, show (64 * k + 62) % 64 - 62 = 0 by omega]; rfl
    · rw [show 64 * k + 63 - (64 * k + 62) = 1 by omega, show (64 * k + 63) / 64 = k by omega, show (64 * k + 63) % 64 - 62 = 1 by omega]; rfl
  · rw [if_neg ha]
    by_cases h5 : 62 ≤ i % 64 ∧ i < 64 * k
    · rw [if_pos h5, if_pos (by omega)]
    · rw [if_neg h5, if_neg (by omega)]
theorem zeros_getD (n i : Nat) : (zerosL n).getD i 0 = 0 := by
 unfold zerosL
 rw [List.getD_eq_getElem?_getD, List.getElem?_replicate]
 split <;> rfl
theorem zerosL_length (n : Nat) : (zerosL n).length = n := by simp [zerosL]
theorem opL_length {s : List UInt8} (hs : s.length = 512) : (opL s).length = 512 := by
 obtain ⟨h1, _⟩ := opK_spec s hs 8 (by omega)
 unfold opL
 rw [patL_length (by rw [zerosL_length, h1]; omega), h1]
theorem opL_getD {s : List UInt8} (hs : s.length = 512) {i : Nat} (hi : i < 512) : (opL s).getD i 0 = if 40 ≤ i ∧ i < 58 then 0 else opF s 8 i := by
 obtain ⟨h1, h2⟩ := opK_spec s hs 8 (by omega)
 unfold opL
 rw [patL_getD (by rw [zerosL_length, h1]; omega), zerosL_length, h2 i hi, zeros_getD]
theorem opB_tail {s : List UInt8} (hs : s.length = 512) (h : opB s = true) : usnL s ≠ 0 ∧ ∀ i, i < 512 → 62 ≤ i % 64 → s.getD i 0 = s.getD (40 + (i % 64 - 62)) 0 := by
 unfold opB at h
 rw [List.all_eq_true] at h
 have hk : ∀ k, k < 8 → usnL s ≠ 0 ∧ s.getD (tlA k) 0 = s.getD 40 0 ∧ s.getD (tlA k + 1) 0 = s.getD 41 0 := fun k hk => by
  have := h k (List.mem_range.2 hk)
  unfold trnB at this
  rw [Bool.not_eq_true', Bool.or_eq_false_iff, take2_drop _ _ (by unfold tlA; omega), take2_drop _ _ (by omega)] at this
  obtain ⟨a1, a2⟩ := this
  simp only [bne_eq_false_iff_eq, List.cons.injEq, and_true] at a2
  exact ⟨by simpa using a1, a2.1, a2.2⟩
 refine ⟨(hk 0 (by omega)).1, fun i hi hm => ?_⟩
 have h2 := hk (i / 64) (by omega)
 have : i % 64 = 62 ∨ i % 64 = 63 := by omega
 rcases this with e | e
 · rw [show i = tlA (i / 64) by unfold tlA; omega, h2.2.1]; exact gD (by unfold tlA; omega)
 · rw [show i = tlA (i / 64) + 1 by unfold tlA; omega, h2.2.2]; exact gD (by unfold tlA; omega)
theorem num2_lit {n : Int} (h0 : 0 ≤ n) (h1 : n < 65536) : num (lit n 2) = n := by
 rw [num_lit]; omega
theorem lit2_pair (n : Int) : lit n 2 = [(lit n 2).getD 0 0, (lit n 2).getD 1 0] := by simp [lit]
theorem usn_pr {b : List UInt8} (hb : b.length = 512) {n : Int} (h0 : 0 ≤ n) (h1 : n < 65536) : usnL (prL b n) = n := by
 unfold usnL
 rw [take2_drop _ _ (by rw [prL_length hb]; omega), prL_getD hb n (by omega), prL_getD hb n (by omega)]
 show num [prF b n 8 40, prF b n 8 41] = n
 have e0 : prF b n 8 40 = (lit n 2).getD 0 0 := by unfold prF; rw [if_pos (by omega)]
 have e1 : prF b n 8 41 = (lit n 2).getD 1 0 := by unfold prF; rw [if_pos (by omega)]
 rw [e0, e1, ← lit2_pair]
 exact num2_lit h0 h1
theorem op_pr_ok {b : List UInt8} (hb : b.length = 512) {n : Int} (h0 : 1 ≤ n) (h1 : n < 65536) : opB (prL b n) = true := by
 unfold opB
 rw [List.all_eq_true]
 intro k hk
 have hk := List.mem_range.1 hk
 unfold trnB
 rw [usn_pr hb (by omega) h1, take2_drop _ _ (by rw [prL_length hb]; unfold tlA; omega), take2_drop _ _ (by rw [prL_length hb]; omega), prL_getD hb n (by unfold tlA; omega), prL_getD hb n (by unfold tlA; omega), prL_getD hb n (by omega), prL_getD hb n (by omega)]
 have e0 : prF b n 8 40 = (lit n 2).getD 0 0 := by unfold prF; rw [if_pos (by omega)]
 have e1 : prF b n 8 (40 + 1) = (lit n 2).getD 1 0 := by unfold prF; rw [if_pos (by omega)]
 have e2 : prF b n 8 (tlA k) = (lit n 2).getD 0 0 := by
  unfold prF tlA
  rw [if_neg (by omega), if_neg (by omega), if_pos (by omega)]; exact gD (by omega)
 have e3 : prF b n 8 (tlA k + 1) = (lit n 2).getD 1 0 := by
  unfold prF tlA
  rw [if_neg (by omega), if_neg (by omega), if_pos (by omega)]; exact gD (by omega)
 rw [e0, e1, e2, e3]
 have : (n == 0) = false := by rw [beq_eq_false_iff_ne]; omega
 rw [this]
 simp
theorem op_pr {b : List UInt8} (hb : b.length = 512) {n : Int} (hz : ∀ i, 40 ≤ i → i < 58 → b.getD i 0 = 0) : opL (prL b n) = b := by
 have hp := prL_length hb n
 refine list_ext_getD (by rw [opL_length hp, hb]) fun i hi => ?_
 rw [opL_length hp] at hi
 rw [opL_getD hp hi]
 by_cases h1 : 40 ≤ i ∧ i < 58
 · rw [if_pos h1, hz i h1.1 h1.2]
 · rw [if_neg h1]
   unfold opF
   by_cases h2 : 62 ≤ i % 64 ∧ i < 64 * 8
   · rw [if_pos h2, prL_getD hb n (by omega)]
     unfold prF tlA
     rw [if_neg (by omega), if_pos (by omega)]
     exact gD (by omega)
   · rw [if_neg h2, prL_getD hb n hi]
     unfold prF
     rw [if_neg (by omega), if_neg (by omega), if_neg (by omega)]
end Go.Proofs.YtmlilplbdpjfcaaGreatDoor
