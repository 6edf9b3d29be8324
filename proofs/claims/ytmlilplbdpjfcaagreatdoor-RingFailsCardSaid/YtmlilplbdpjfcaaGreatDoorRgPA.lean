/-
  Chapter 20: plain words of pages: what stands in a room, the page of it, the restart page; what is read. No program in sight.
  Chapter 21 in plain words: operations on pages: their errors, whether they fit, the page after them, inverses, bytes.
  Chapter 20: plain facts of valid logs. No program in sight.
-/
import Derived.Test.YtmlilplbdpjfcaaGreatDoorRgP
import Derived.Test.YtmlilplbdpjfcaaGreatDoorKitA
namespace Go.Proofs.YtmlilplbdpjfcaaGreatDoor
set_option linter.unusedVariables false
set_option linter.unusedSimpArgs false
open Go.RowKit
theorem patL_mid (x y z b : List UInt8) (h : b.length = y.length) : patL (x ++ (y ++ z)) x.length b = x ++ (b ++ z) := by
 unfold patL
 rw [List.take_left, h, List.append_assoc, ← List.drop_drop, List.drop_left, List.drop_left]
theorem zerosL_add (m n : Nat) : zerosL (m + n) = zerosL m ++ zerosL n := by
 unfold zerosL; rw [List.replicate_append_replicate]
theorem patL_at (x y z b : List UInt8) (a : Nat) (ha : a = x.length) (h : b.length = y.length) : patL (x ++ (y ++ z)) a b = x ++ (b ++ z) := by
 subst ha; exact patL_mid x y z b h
def pgH (q u s : Int) (c : List UInt8) : List UInt8 := [82, 67, 82, 68] ++ (zerosL 4 ++ (lit q 4 ++ (lit u 2 ++ (lit s 4 ++ (zerosL 46 ++ c)))))
theorem pgH_length (q u s : Int) (c : List UInt8) : (pgH q u s c).length = 64 + c.length := by
 unfold pgH; simp only [List.length_append, lit_length, zerosL_length, List.length_cons, List.length_nil]; omega
theorem pgH_steps (q u s : Int) (c : List UInt8) (hc : c.length ≤ 448) :
 patL (patL (patL (patL (patL (zerosL 512) 0 [82, 67, 82, 68]) 8 (lit q 4)) 12 (lit u 2)) 14 (lit s 4)) 64 c = pgH q u s (c ++ zerosL (448 - c.length)) := by
 have e0 : zerosL 512 = [] ++ (zerosL 4 ++ (zerosL 4 ++ (zerosL 4 ++ (zerosL 2 ++ (zerosL 4 ++ (zerosL 46 ++ (zerosL c.length ++ zerosL (448 - c.length)))))))) := by
  simp only [List.nil_append, ← zerosL_add]
  congr 1; omega
 rw [e0, patL_at [] (zerosL 4) _ [82, 67, 82, 68] 0 rfl (by simp [zerosL_length])]
 have e1 : ([] ++ ([82, 67, 82, 68] ++ (zerosL 4 ++ (zerosL 4 ++ (zerosL 2 ++ (zerosL 4 ++ (zerosL 46 ++ (zerosL c.length ++ zerosL (448 - c.length)))))))) : List UInt8) = ([82, 67, 82, 68] ++ zerosL 4) ++ (zerosL 4 ++ (zerosL 2 ++ (zerosL 4 ++ (zerosL 46 ++ (zerosL c.length ++ zerosL (448 - c.length)))))) := by simp only [List.nil_append, List.append_assoc]
 rw [e1, patL_at _ (zerosL 4) _ (lit q 4) 8 (by simp [zerosL_length]) (by rw [lit_length, zerosL_length])]
 have e2 : (([82, 67, 82, 68] ++ zerosL 4) ++ (lit q 4 ++ (zerosL 2 ++ (zerosL 4 ++ (zerosL 46 ++ (zerosL c.length ++ zerosL (448 - c.length)))))) : List UInt8) = ([82, 67, 82, 68] ++ (zerosL 4 ++ lit q 4)) ++ (zerosL 2 ++ (zerosL 4 ++ (zerosL 46 ++ (zerosL c.length ++ zerosL (448 - c.length))))) := by simp only [List.append_assoc]
 rw [e2, patL_at _ (zerosL 2) _ (lit u 2) 12 (by simp [zerosL_length, lit_length]) (by rw [lit_length, zerosL_length])]
 have e3 : (([82, 67, 82, 68] ++ (zerosL 4 ++ lit q 4)) ++ (lit u 2 ++ (zerosL 4 ++ (zerosL 46 ++ (zerosL c.length ++ zerosL (448 - c.length))))) : List UInt8) = ([82, 67, 82, 68] ++ (zerosL 4 ++ (lit q 4 ++ lit u 2))) ++ (zerosL 4 ++ (zerosL 46 ++ (zerosL c.length ++ zerosL (448 - c.length)))) := by simp only [List.append_assoc]
 rw [e3, patL_at _ (zerosL 4) _ (lit s 4) 14 (by simp [zerosL_length, lit_length]) (by rw [lit_length, zerosL_length])]
 have e4 : (([82, 67, 82, 68] ++ (zerosL 4 ++ (lit q 4 ++ lit u 2))) ++ (lit s 4 ++ (zerosL 46 ++ (zerosL c.length ++ zerosL (448 - c.length)))) : List UInt8) = ([82, 67, 82, 68] ++ (zerosL 4 ++ (lit q 4 ++ (lit u 2 ++ (lit s 4 ++ zerosL 46))))) ++ (zerosL c.length ++ zerosL (448 - c.length)) := by simp only [List.append_assoc]
 rw [e4, patL_at _ (zerosL c.length) _ c 64 (by simp [zerosL_length, lit_length]) (by rw [zerosL_length])]
 unfold pgH
 simp only [List.append_assoc]
def usnP (q s pg : Int) : Int := (q / (pg - 2) + s) % 65535 + 1
theorem usnP_bd (q s pg : Int) : 1 ≤ usnP q s pg ∧ usnP q s pg < 65536 := by unfold usnP; omega
def pageL (q s pg : Int) (c : List UInt8) : List UInt8 := prL (pgH q c.length s (c ++ zerosL (448 - c.length))) (usnP q s pg)
def rsH (x : RstP) (pg : Int) : List UInt8 := [82, 83, 84, 82] ++ (zerosL 4 ++ (lit x.s 4 ++ (lit x.c 4 ++ (lit x.o 4 ++ (lit pg 2 ++ zerosL 490)))))
theorem rsH_length (x : RstP) (pg : Int) : (rsH x pg).length = 512 := by
 unfold rsH
 rw [List.length_append, List.length_append, List.length_append, List.length_append, List.length_append, List.length_append, zerosL_length, zerosL_length, lit_length, lit_length, lit_length, lit_length]
 rfl
theorem rsH_steps (x : RstP) (pg : Int) :
 patL (patL (patL (patL (patL (zerosL 512) 0 [82, 83, 84, 82]) 8 (lit x.s 4)) 12 (lit x.c 4)) 16 (lit x.o 4)) 20 (lit pg 2) = rsH x pg := by
 have e0 : zerosL 512 = [] ++ (zerosL 4 ++ (zerosL 4 ++ (zerosL 4 ++ (zerosL 4 ++ (zerosL 4 ++ (zerosL 2 ++ zerosL 490)))))) := by
  rw [List.nil_append, ← zerosL_add, ← zerosL_add, ← zerosL_add, ← zerosL_add, ← zerosL_add, ← zerosL_add]
 rw [e0, patL_at [] (zerosL 4) _ [82, 83, 84, 82] 0 rfl (by simp [zerosL_length])]
 have e1 : ([] ++ ([82, 83, 84, 82] ++ (zerosL 4 ++ (zerosL 4 ++ (zerosL 4 ++ (zerosL 4 ++ (zerosL 2 ++ zerosL 490)))))) : List UInt8) = ([82, 83, 84, 82] ++ zerosL 4) ++ (zerosL 4 ++ (zerosL 4 ++ (zerosL 4 ++ (zerosL 2 ++ zerosL 490)))) := by simp only [List.nil_append, List.append_assoc]
 rw [e1, patL_at _ (zerosL 4) _ (lit x.s 4) 8 (by simp [zerosL_length]) (by rw [lit_length, zerosL_length])]
 have e2 : (([82, 83, 84, 82] ++ zerosL 4) ++ (lit x.s 4 ++ (zerosL 4 ++ (zerosL 4 ++ (zerosL 2 ++ zerosL 490)))) : List UInt8) = ([82, 83, 84, 82] ++ (zerosL 4 ++ lit x.s 4)) ++ (zerosL 4 ++ (zerosL 4 ++ (zerosL 2 ++ zerosL 490))) := by simp only [List.append_assoc]
 rw [e2, patL_at _ (zerosL 4) _ (lit x.c 4) 12 (by simp [zerosL_length, lit_length]) (by rw [lit_length, zerosL_length])]
 have e3 : (([82, 83, 84, 82] ++ (zerosL 4 ++ lit x.s 4)) ++ (lit x.c 4 ++ (zerosL 4 ++ (zerosL 2 ++ zerosL 490))) : List UInt8) = ([82, 83, 84, 82] ++ (zerosL 4 ++ (lit x.s 4 ++ lit x.c 4))) ++ (zerosL 4 ++ (zerosL 2 ++ zerosL 490)) := by simp only [List.append_assoc]
 rw [e3, patL_at _ (zerosL 4) _ (lit x.o 4) 16 (by simp [zerosL_length, lit_length]) (by rw [lit_length, zerosL_length])]
 have e4 : (([82, 83, 84, 82] ++ (zerosL 4 ++ (lit x.s 4 ++ lit x.c 4))) ++ (lit x.o 4 ++ (zerosL 2 ++ zerosL 490)) : List UInt8) = ([82, 83, 84, 82] ++ (zerosL 4 ++ (lit x.s 4 ++ (lit x.c 4 ++ lit x.o 4)))) ++ (zerosL 2 ++ zerosL 490) := by simp only [List.append_assoc]
 rw [e4, patL_at _ (zerosL 2) _ (lit pg 2) 20 (by simp [zerosL_length, lit_length]) (by rw [lit_length, zerosL_length])]
 unfold rsH
 simp only [List.append_assoc]
def rsL (x : RstP) (pg : Int) : List UInt8 := prL (rsH x pg) (x.s % 65535 + 1)
def nAt (l : List UInt8) (a c : Nat) : Int := num ((l.drop a).take c)
theorem nAt_bd (l : List UInt8) (a c : Nat) : 0 ≤ nAt l a c ∧ nAt l a c < 256 ^ c := by
 obtain ⟨h1, h2⟩ := num_bound ((l.drop a).take c)
 refine ⟨h1, Int.lt_of_lt_of_le h2 ?_⟩
 have : ((l.drop a).take c).length ≤ c := List.length_take_le _ _
 generalize ((l.drop a).take c).length = n at this
 have h3 : (256 : Nat) ^ n ≤ 256 ^ c := Nat.pow_le_pow_right (by decide) this
 have h4 := Int.ofNat_le.2 h3
 rwa [Int.natCast_pow, Int.natCast_pow] at h4
def rsoV (l : List UInt8) : RstP := ⟨nAt l 8 4, nAt l 12 4, nAt l 16 4⟩
def rsoE (s : List UInt8) (pg : Int) : Int :=
 if s.length ≠ 512 then 10 else if pgsE pg ≠ 0 then pgsE pg else if opB s = false then 31 else
  if rstE (rsoV (opL s)) ≠ 0 then 3 else if rsL (rsoV (opL s)) pg ≠ s then 3 else 0
def rsoR (s : List UInt8) (pg : Int) : RstP := if rsoE s pg = 0 then rsoV (opL s) else rst0
def pgStp (q : Int) (st : List UInt8 × Int × Int) (x : RecP) : List UInt8 × Int × Int :=
 if min ((q + 1) * 448) (bhR x) ≤ max (q * 448) (x.l - 1) then st
 else (patL st.1 (max (q * 448) (x.l - 1) - q * 448).toNat (((encR x).drop (max (q * 448) (x.l - 1) - (x.l - 1)).toNat).take (min ((q + 1) * 448) (bhR x) - max (q * 448) (x.l - 1)).toNat), min ((q + 1) * 448) (bhR x) - q * 448, x.s)
def pgFld (q : Int) (l : List RecP) : List UInt8 × Int × Int := l.foldl (pgStp q) (zerosL 448, 0, 0)
def pgR (r : RngP) (q : Int) : List UInt8 := prL (pgH q (pgFld q r.rs).2.1 (pgFld q r.rs).2.2 (pgFld q r.rs).1) (usnP q (pgFld q r.rs).2.2 r.pg)
def blkL (s : List UInt8) (k : Nat) : List UInt8 := (s.drop (512 * k)).take 512
def pgIn (s : List UInt8) (pg : Nat) (top : Int) (q : Nat) : Option (Int × List UInt8) :=
 if opB (blkL s (2 + q % (pg - 2))) = false then none
 else if inB (nAt (opL (blkL s (2 + q % (pg - 2)))) 12 2) 0 448 && inB (nAt (opL (blkL s (2 + q % (pg - 2)))) 14 4) 1 top && (pageL q (nAt (opL (blkL s (2 + q % (pg - 2)))) 14 4) pg (((opL (blkL s (2 + q % (pg - 2)))).drop 64).take (nAt (opL (blkL s (2 + q % (pg - 2)))) 12 2).toNat) == blkL s (2 + q % (pg - 2)))
 then some (nAt (opL (blkL s (2 + q % (pg - 2)))) 14 4, ((opL (blkL s (2 + q % (pg - 2)))).drop 64).take (nAt (opL (blkL s (2 + q % (pg - 2)))) 12 2).toNat)
 else none
def byIn (s : List UInt8) (pg : Nat) (top q : Int) : Nat → Nat → Nat → Option (List UInt8)
 | _, 0, _ => some []
 | 0, _ + 1, _ => none
 | f + 1, c + 1, at' =>
  match pgIn s pg top (at' / 448) with
  | none => none
  | some (q', b) =>
   if q' ≠ q ∨ b.length < at' % 448 + min (c + 1) (448 - at' % 448) then none
   else (byIn s pg top q f (c + 1 - min (c + 1) (448 - at' % 448)) (at' + min (c + 1) (448 - at' % 448))).map fun l => (b.drop (at' % 448)).take (min (c + 1) (448 - at' % 448)) ++ l
def rcIn (s : List UInt8) (pg : Nat) (top : Int) (at' : Int) (aft : Int) : Option RecP :=
 if at' < 0 ∨ at' % 8 ≠ 0 then none else
 match pgIn s pg top (at'.toNat / 448) with
 | none => none
 | some (q, _) =>
  if q < aft then none else
  match byIn s pg top q 3500 12 at'.toNat with
  | none => none
  | some hd =>
   if inB (nAt hd 0 2) 1 3000 = false then none else
   match byIn s pg top q 3500 (szR (nAt hd 0 2)).toNat at'.toNat with
   | none => none
   | some wh =>
    if encR ⟨at' + 1, q, bs ((wh.drop 12).take (nAt hd 0 2).toNat)⟩ = wh then some ⟨at' + 1, q, bs ((wh.drop 12).take (nAt hd 0 2).toNat)⟩ else none
def afIn (s : List UInt8) (pg : Nat) (top : Int) (x : RecP) : Option RecP :=
 match (rcIn s pg top (bhR x) x.s).filter (fun y => bhR x % 448 == 0 || y.s == x.s) with
 | some y => some y
 | none => if bhR x % 448 = 0 then none else
  match rcIn s pg top (nxtR (bhR x)) x.s with
  | none => none
  | some y => if x.s < y.s then some y else
   match pgIn s pg top ((bhR x).toNat / 448) with
   | none => none
   | some (_, b) => if (b.length : Int) = bhR x % 448 then some y else none
def allIn (s : List UInt8) (pg : Nat) (top : Int) : Nat → Option RecP → Option (List RecP)
 | _, none => some []
 | 0, some _ => none
 | f + 1, some x => (allIn s pg top f (afIn s pg top x)).map (x :: ·)
def arIn (s : List UInt8) (pg : Int) (i : Nat) : Option RstP := if rsoE (blkL s i) pg = 0 ∧ (rsoR (blkL s i) pg).s % 2 = i then some (rsoR (blkL s i) pg) else none
def rsIn (s : List UInt8) (pg : Int) : Option (RstP × RstP) :=
 match arIn s pg 0, arIn s pg 1 with
 | none, none => none
 | some x, none => some (x, rst0)
 | none, some y => some (y, rst0)
 | some x, some y => if x.s < y.s then some (y, if x.s = y.s - 1 then x else rst0) else some (x, if y.s = x.s - 1 then y else rst0)
def inV (s : List UInt8) : RngP × Int :=
 if s.length % 512 ≠ 0 ∨ pgsE ((s.length / 512 : Nat) : Int) ≠ 0 then (rng0, 10) else
 match rsIn s ((s.length / 512 : Nat) : Int) with
 | none => (rng0, 31)
 | some (la, ea) =>
  match allIn s (s.length / 512) la.s 100 (rcIn s (s.length / 512) la.s (la.o - 1) 0) with
  | none => (rng0, 8)
  | some l => (⟨((s.length / 512 : Nat) : Int), la, ea, l, match l.getLast? with | none => la.o - 1 | some x => nxtR (bhR x)⟩, 0)
def inE (s : List UInt8) : Int := if (inV s).2 ≠ 0 then (inV s).2 else (chkR (inV s).1).2
def inR (s : List UInt8) : RngP := if inE s = 0 then (inV s).1 else rng0
end Go.Proofs.YtmlilplbdpjfcaaGreatDoor
namespace Go.Proofs.YtmlilplbdpjfcaaGreatDoor
set_option linter.unusedVariables false
set_option linter.unusedSimpArgs false
open Go.RowKit
structure Op where
 k : Int
 a : Int
 e : Int
 c : Int
 o : ByteArray
 n : ByteArray
theorem firstE_zero : ∀ (l : List Int), firstE l = 0 ↔ ∀ e ∈ l, e = 0
 | [] => by simp [firstE]
 | e :: l => by
  have ih := firstE_zero l
  by_cases h : e = 0
  · simp [firstE, h, ih]
  · simp [firstE, h]
theorem unl_zero {b : Bool} {e : Int} (he : e ≠ 0) : unl b e = 0 ↔ b = true := by cases b <;> simp [unl, he]
end Go.Proofs.YtmlilplbdpjfcaaGreatDoor
namespace Go.Proofs.YtmlilplbdpjfcaaGreatDoor
set_option linter.unusedVariables false
set_option linter.unusedSimpArgs false
open Go.RowKit
def I6 (n : Int) : Prop := -9223372036854775808 ≤ n ∧ n < 9223372036854775808
theorem eachE_hit {α : Type} (f : Nat → α → Int) : ∀ (l : List α) (i j : Nat) (h : j < l.length), (∀ k (hk : k < l.length), k < j → f (i + k) l[k] = 0) → f (i + j) l[j] ≠ 0 → eachE f i l = (((i + j : Nat) : Int), f (i + j) l[j])
 | x :: l, i, 0, h, _, h1 => by
  unfold eachE; rw [if_neg (show ¬ f i x = 0 from h1)]; rfl
 | x :: l, i, j + 1, h, h0, h1 => by
  have h00 := h0 0 (by simp) (by omega)
  unfold eachE; rw [if_pos (show f i x = 0 from h00)]
  have := eachE_hit f l (i + 1) j (by simpa using h) (fun k hk hkj => by have := h0 (k + 1) (by simpa using hk) (by omega); rw [show i + 1 + k = i + (k + 1) by omega]; simpa using this) (by rw [show i + 1 + j = i + (j + 1) by omega]; simpa using h1)
  rw [this, show i + 1 + j = i + (j + 1) by omega]; rfl
theorem eachE_none {α : Type} (f : Nat → α → Int) : ∀ (l : List α) (i : Nat), (∀ k (hk : k < l.length), f (i + k) l[k] = 0) → eachE f i l = (0, 0)
 | [], _, _ => rfl
 | x :: l, i, h => by
  unfold eachE; rw [if_pos (show f i x = 0 from h 0 (Nat.succ_pos _))]
  exact eachE_none f l (i + 1) fun k hk => by have := h (k + 1) (by simpa using hk); rw [show i + 1 + k = i + (k + 1) by omega]; simpa using this
theorem rstB_bd {x : RstP} (h : rstB x = true) : (1 ≤ x.s ∧ x.s ≤ 60000) ∧ (0 ≤ x.c ∧ x.c ≤ 100000000) ∧ (0 ≤ x.o ∧ x.o ≤ 100000000) := by
 unfold rstB posB at h
 simp only [Bool.and_eq_true, inB_true] at h
 exact ⟨h.1.1, h.1.2, h.2⟩
structure HeadP (r : RngP) : Prop where
 pg : 4 ≤ r.pg ∧ r.pg ≤ 40
 rb : rstB r.r = true
 rr : (1 ≤ r.r.s ∧ r.r.s ≤ 60000) ∧ (0 ≤ r.r.c ∧ r.r.c ≤ 100000000) ∧ (0 ≤ r.r.o ∧ r.r.o ≤ 100000000)
 e : r.e = rst0 ∨ (rstB r.e = true ∧ r.e.s = r.r.s - 1)
 nx : 0 ≤ r.nx ∧ r.nx ≤ 100000000 ∧ r.nx % 8 = 0
 len : r.rs.length ≤ 100
theorem head_iff {r : RngP} : headE r = 0 ↔ HeadP r := by
 unfold headE
 rw [firstE_zero]
 constructor
 · intro h
   have h1 := h (pgsE r.pg) (by simp)
   have h2 := h (rstE r.r) (by simp)
   have h3 := h (earE r) (by simp)
   have h4 := h (unl (posB r.nx && r.nx % 8 == 0) 2) (by simp)
   have h5 := h (unl (decide (r.rs.length ≤ 100)) 8) (by simp)
   unfold pgsE at h1; unfold rstE at h2
   rw [unl_zero (by decide)] at h1 h2 h4 h5
   rw [inB_true] at h1
   refine ⟨h1, h2, rstB_bd h2, ?_, ?_, by simpa using h5⟩
   · unfold earE at h3
     split at h3
     · exact .inl (by assumption)
     · right
       rw [firstE_zero] at h3
       have a1 := h3 (rstE r.e) (by simp)
       have a2 := h3 (unl (r.e.s == r.r.s - 1) 9) (by simp)
       unfold rstE at a1
       rw [unl_zero (by decide)] at a1 a2
       exact ⟨a1, by simpa using a2⟩
   · unfold posB at h4
     rw [Bool.and_eq_true, inB_true] at h4
     exact ⟨h4.1.1, h4.1.2, by simpa using h4.2⟩
 · intro h e he
   simp only [List.mem_cons, List.not_mem_nil, or_false] at he
   rcases he with rfl | rfl | rfl | rfl | rfl
   · unfold pgsE; rw [unl_zero (by decide), inB_true]; exact h.pg
   · unfold rstE; rw [unl_zero (by decide)]; exact h.rb
   · unfold earE
     rcases h.e with h1 | ⟨h1, h2⟩
     · rw [if_pos h1]
     · split
       · rfl
       · rw [firstE_zero]; intro e he
         simp only [List.mem_cons, List.not_mem_nil, or_false] at he
         rcases he with rfl | rfl
         · unfold rstE; rw [unl_zero (by decide)]; exact h1
         · rw [unl_zero (by decide)]; simpa using h2
   · rw [unl_zero (by decide), Bool.and_eq_true]
     unfold posB
     rw [inB_true]
     exact ⟨⟨h.nx.1, h.nx.2.1⟩, by simpa using h.nx.2.2⟩
   · rw [unl_zero (by decide)]; simpa using h.len
theorem firstE_nest (a b c d : Int) : firstE [firstE [a, b], c, d] = firstE [a, b, c, d] := by
 simp only [firstE]
 by_cases ha : a = 0 <;> by_cases hb : b = 0 <;> simp [ha, hb]
theorem firstE_nest0 (a b : Int) : firstE [a, b] = firstE [a, b, 0] := by
 simp only [firstE]; simp
theorem firstE_nest3 (a b c d e : Int) : firstE [firstE [a, b, c], d, e] = firstE [a, b, c, d, e] := by
 simp only [firstE]
 by_cases ha : a = 0 <;> by_cases hb : b = 0 <;> by_cases hc : c = 0 <;> simp [ha, hb, hc]
theorem recE_zero {o q : Int} {f : Option RecP} {x : RecP} : recE o q f x = 0 ↔ x.b.size ≠ 0 ∧ x.b.size ≤ 3000 ∧ ordB o f x = true ∧ inB x.s 1 q = true ∧ seqB f x = true := by
 unfold recE
 by_cases h1 : x.b.size = 0
 · simp [h1]
 rw [if_neg h1]
 by_cases h2 : 3000 < x.b.size
 · rw [if_pos h2]; simp; omega
 rw [if_neg h2]
 by_cases h3 : ordB o f x = false
 · simp [h3]
 rw [if_neg h3]
 by_cases h4 : inB x.s 1 q = false
 · simp [h4]
 rw [if_neg h4, unl_zero (by decide)]
 simp at h3 h4
 simp [h1, h3, h4]; omega
theorem bfrR_succ {l : List RecP} {k : Nat} (h : k + 1 < l.length) : bfrR l (k + 1) = some l[k] := by
 unfold bfrR; rw [if_neg (by omega), Nat.add_sub_cancel, List.getElem?_eq_getElem (by omega)]
theorem szR_in {n : Nat} (h : n ≤ 3000) : 12 + (n : Int) ≤ szR n ∧ szR n ≤ 3016 ∧ szR n % 8 = 0 := by unfold szR; omega
theorem nxtR_in {p : Int} : p ≤ nxtR p ∧ nxtR p ≤ p + 447 ∧ nxtR p % 448 = 0 := by unfold nxtR; omega
theorem recs_bd (r : RngP) (ho : r.r.o ≤ 100000000) : ∀ (k : Nat) (hk : k < r.rs.length), (∀ m (hm : m < r.rs.length), m ≤ k → recE r.r.o r.r.s (bfrR r.rs m) r.rs[m] = 0) → 1 ≤ r.rs[k].l ∧ r.rs[k].l ≤ 100000000 + k * 4000 ∧ r.rs[k].b.size ≤ 3000
 | 0, hk, h => by
  have h0 := recE_zero.1 (h 0 hk (by omega))
  have h1 := h0.2.2.1
  unfold bfrR ordB at h1
  simp only [if_true, Bool.and_eq_true, beq_iff_eq, decide_eq_true_eq] at h1
  exact ⟨by omega, by omega, h0.2.1⟩
 | k + 1, hk, h => by
  obtain ⟨a1, a2, a3⟩ := recs_bd r ho k (by omega) fun m hm hmk => h m hm (by omega)
  have h0 := recE_zero.1 (h (k + 1) hk (by omega))
  have h1 := h0.2.2.1
  rw [bfrR_succ hk] at h1
  unfold ordB bhR at h1
  simp only [Bool.or_eq_true, beq_iff_eq] at h1
  have b1 := szR_in a3
  have b2 := nxtR_in (p := r.rs[k].l - 1 + szR r.rs[k].b.size)
  refine ⟨by omega, by push_cast; omega, h0.2.1⟩
end Go.Proofs.YtmlilplbdpjfcaaGreatDoor
