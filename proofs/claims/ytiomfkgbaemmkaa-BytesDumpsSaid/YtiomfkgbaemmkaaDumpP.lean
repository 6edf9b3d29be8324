/-
  Chapter 1, plain words: dumps, and the strings of dumps.
-/
import Derived.Test.YtiomfkgbaemmkaaPlain2
namespace Go.Proofs.Ytiomfkgbaemmkaa
set_option linter.unusedVariables false
set_option linter.unusedSimpArgs false
open Go.RowKit

def digsL : List UInt8 := [48, 49, 50, 51, 52, 53, 54, 55, 56, 57, 97, 98, 99, 100, 101, 102]
def hexD (n : Nat) : UInt8 := digsL.getD n 0
/-- so many hexadecimal digits -/
def hexN : Nat → Nat → List UInt8
  | 0, _ => []
  | k + 1, n => hexN k (n / 16) ++ [hexD (n % 16)]
theorem hexN_length : ∀ k n, (hexN k n).length = k
  | 0, _ => rfl
  | k + 1, n => by rw [hexN, List.length_append, hexN_length k]; rfl
theorem hexN_cons : ∀ k n, hexN (k + 1) n = hexD (n / 16 ^ k % 16) :: hexN k n
  | 0, n => by simp [hexN]
  | k + 1, n => by
    rw [hexN, hexN_cons k (n / 16), hexN, Nat.div_div_eq_div_mul, show 16 * 16 ^ k = 16 ^ (k + 1) by rw [Nat.pow_succ]; omega]
    rfl
/-- the value of a digit -/
def digO (c : UInt8) : Option Nat := digsL.findIdx? (· == c)
theorem digO_hexD : ∀ n, n < 16 → digO (hexD n) = some n := by decide
theorem hexD_ne : ∀ n, n < 16 → hexD n ≠ 58 ∧ hexD n ≠ 10 := by decide
theorem hexN_mem : ∀ k n c, c ∈ hexN k n → c ≠ 58 ∧ c ≠ 10
  | 0, _, c, h => by simp [hexN] at h
  | k + 1, n, c, h => by
    rw [hexN, List.mem_append] at h
    rcases h with h | h
    · exact hexN_mem k _ c h
    · rw [List.mem_singleton] at h; subst h; exact hexD_ne _ (Nat.mod_lt _ (by omega))
def shown (c : UInt8) : UInt8 := if 32 ≤ c.toNat ∧ c.toNat ≤ 126 then c else 46
theorem shown_ne (c : UInt8) : shown c ≠ 10 := by
  unfold shown
  split
  · rename_i h; intro e; rw [e] at h; exact absurd h (by decide)
  · decide
def cellsB (L : List UInt8) : List UInt8 := L.flatMap fun c => 32 :: hexN 2 c.toNat
/-- a line without its end -/
def rowL (at' : Nat) (L : List UInt8) : List UInt8 := hexN 4 at' ++ 58 :: (cellsB L ++ 32 :: 32 :: L.map shown)
def rowB (at' : Nat) (L : List UInt8) : List UInt8 := rowL at' L ++ [10]
/-- the first so many lines -/
def dumpB (l : List UInt8) (n : Nat) : List UInt8 := (List.range n).flatMap fun k => rowB (16 * k) ((l.drop (16 * k)).take 16)
theorem dumpB_succ (l : List UInt8) (n : Nat) : dumpB l (n + 1) = dumpB l n ++ rowB (16 * n) ((l.drop (16 * n)).take 16) := by
  unfold dumpB; rw [List.range_succ, List.flatMap_append]; simp
def dumpL (l : List UInt8) : List UInt8 := dumpB l ((l.length + 15) / 16)
theorem cellsB_snoc (L : List UInt8) (c : UInt8) : cellsB (L ++ [c]) = cellsB L ++ 32 :: hexN 2 c.toNat := by simp [cellsB]
theorem cellsB_length (L : List UInt8) : (cellsB L).length = 3 * L.length := by
  induction L with
  | nil => rfl
  | cons c L ih => rw [cellsB, List.flatMap_cons, List.length_append, ← cellsB, ih, List.length_cons, hexN_length, List.length_cons]; omega
theorem rowB_length (at' : Nat) (L : List UInt8) : (rowB at' L).length = 4 * L.length + 8 := by
  simp only [rowB, rowL, List.length_append, List.length_cons, List.length_nil, hexN_length, cellsB_length, List.length_map]; omega
theorem dumpB_length (l : List UInt8) (n : Nat) : (dumpB l n).length ≤ 72 * n := by
  induction n with
  | zero => simp [dumpB]
  | succ n ih =>
    rw [dumpB_succ, List.length_append, rowB_length, List.length_take, List.length_drop]
    omega

/-- the bytes that stand behind the colon -/
def trip : List UInt8 → List UInt8
  | a :: b :: c :: r => if a = 32 then match digO b, digO c with | some x, some y => UInt8.ofNat (16 * x + y) :: trip r | _, _ => [] else []
  | _ => []
/-- at most so many -/
def tripN : Nat → List UInt8 → List UInt8
  | 0, _ => []
  | k + 1, a :: b :: c :: r => if a = 32 then match digO b, digO c with | some x, some y => UInt8.ofNat (16 * x + y) :: tripN k r | _, _ => [] else []
  | _, _ => []
/-- behind a colon -/
def colon : List UInt8 → List UInt8
  | [] => []
  | c :: r => if c = 58 then r else colon r
theorem colon_app (p r : List UInt8) (h : ∀ c ∈ p, c ≠ 58) : colon (p ++ 58 :: r) = r := by
  induction p with
  | nil => simp [colon]
  | cons c p ih => rw [List.cons_append, colon, if_neg (h c (by simp)), ih (fun x hx => h x (by simp [hx]))]
theorem hexN_two (c : UInt8) : hexN 2 c.toNat = [hexD (c.toNat / 16), hexD (c.toNat % 16)] := by
  have := c.toNat_lt
  rw [hexN_cons, hexN_cons]
  simp only [hexN, Nat.pow_one, Nat.pow_zero, Nat.div_one]
  rw [Nat.mod_eq_of_lt (show c.toNat / 16 < 16 by omega)]
theorem byte_two (c : UInt8) : UInt8.ofNat (16 * (c.toNat / 16) + c.toNat % 16) = c := by
  rw [Nat.div_add_mod]; exact UInt8.ofNat_toNat
theorem trip_cells (L r : List UInt8) : trip (cellsB L ++ 32 :: 32 :: r) = L := by
  induction L with
  | nil =>
    cases r with
    | nil => simp [cellsB, trip]
    | cons x r => simp [cellsB, trip, show digO 32 = none from by decide]
  | cons c L ih =>
    have hlt := c.toNat_lt
    have h1 := digO_hexD (c.toNat / 16) (by omega)
    have h2 := digO_hexD (c.toNat % 16) (by omega)
    rw [cellsB, List.flatMap_cons, ← cellsB, hexN_two]
    simp only [List.cons_append, List.nil_append, List.append_assoc, trip, if_true, h1, h2, byte_two]
    rw [ih]
theorem tripN_cells : ∀ (k : Nat) (L r : List UInt8), L.length ≤ k → tripN k (cellsB L ++ 32 :: 32 :: r) = L
  | 0, L, r, h => by
    obtain rfl : L = [] := List.length_eq_zero_iff.1 (by omega)
    rfl
  | k + 1, [], r, h => by
    cases r with
    | nil => simp [cellsB, tripN]
    | cons x r => simp [cellsB, tripN, show digO 32 = none from by decide]
  | k + 1, c :: L, r, h => by
    have hlt := c.toNat_lt
    have h1 := digO_hexD (c.toNat / 16) (by omega)
    have h2 := digO_hexD (c.toNat % 16) (by omega)
    rw [cellsB, List.flatMap_cons, ← cellsB, hexN_two]
    simp only [List.cons_append, List.nil_append, List.append_assoc, tripN, if_true, h1, h2, byte_two]
    rw [tripN_cells k L r (by simp at h; omega)]
theorem trip_length : ∀ (n : Nat) (L : List UInt8), L.length ≤ n → 3 * (trip L).length ≤ L.length
  | 0, L, h => by
    obtain rfl : L = [] := List.length_eq_zero_iff.1 (by omega)
    simp [trip]
  | n + 1, [], _ => by simp [trip]
  | n + 1, [a], _ => by simp [trip]
  | n + 1, [a, b], _ => by simp [trip]
  | n + 1, a :: b :: c :: r, h => by
    unfold trip
    split
    · split
      · have := trip_length n r (by simp at h; omega)
        simp; omega
      · simp
    · simp

/-- the pieces between ends of lines: the whole lines without their ends, and the rest -/
def cutAt (d : UInt8) : List UInt8 → List (List UInt8)
  | [] => [[]]
  | c :: r => if c = d then [] :: cutAt d r else match cutAt d r with | [] => [[c]] | p :: ps => (c :: p) :: ps
theorem cutAt_ne (d : UInt8) : ∀ l, cutAt d l ≠ []
  | [] => by simp [cutAt]
  | c :: r => by unfold cutAt; split; simp; split <;> simp
theorem cutAt_app (d : UInt8) (p r : List UInt8) (h : ∀ c ∈ p, c ≠ d) : cutAt d (p ++ d :: r) = p :: cutAt d r := by
  induction p with
  | nil => simp [cutAt]
  | cons c p ih => rw [List.cons_append, cutAt, if_neg (h c (by simp)), ih (fun x hx => h x (by simp [hx]))]
theorem cutAt_none (d : UInt8) (p : List UInt8) (h : ∀ c ∈ p, c ≠ d) : cutAt d p = [p] := by
  induction p with
  | nil => simp [cutAt]
  | cons c p ih => rw [cutAt, if_neg (h c (by simp)), ih (fun x hx => h x (by simp [hx]))]
/-- lines with their ends -/
def linesAt (d : UInt8) : List UInt8 → List (List UInt8)
  | [] => []
  | c :: r => if c = d then [c] :: linesAt d r else match linesAt d r with | [] => [[c]] | p :: ps => (c :: p) :: ps
theorem linesAt_app (d : UInt8) (p r : List UInt8) (h : ∀ c ∈ p, c ≠ d) : linesAt d (p ++ d :: r) = (p ++ [d]) :: linesAt d r := by
  induction p with
  | nil => simp [linesAt]
  | cons c p ih => rw [List.cons_append, linesAt, if_neg (h c (by simp)), ih (fun x hx => h x (by simp [hx]))]; rfl
theorem linesAt_none (d : UInt8) (p : List UInt8) (h : ∀ c ∈ p, c ≠ d) (hp : p ≠ []) : linesAt d p = [p] := by
  induction p with
  | nil => exact absurd rfl hp
  | cons c p ih =>
    rw [linesAt, if_neg (h c (by simp))]
    cases p with
    | nil => rfl
    | cons x p => rw [ih (fun x hx => h x (by simp [hx])) (by simp)]

/-- what the code parses, and the reference -/
def parseC (t : List UInt8) : List UInt8 := (linesAt 10 t).flatMap fun l => trip (colon l)
def parseR (t : List UInt8) : List UInt8 := (cutAt 10 t).dropLast.flatMap fun l => tripN 16 (l.drop 5)

theorem rowL_ne (a : Nat) (L : List UInt8) : ∀ c ∈ rowL a L, c ≠ 10 := by
  intro c hc
  simp only [rowL, cellsB, List.mem_append, List.mem_cons, List.mem_flatMap, List.mem_map] at hc
  rcases hc with h | h | ⟨x, _, h | h⟩ | h | h | ⟨x, _, h⟩
  · exact (hexN_mem _ _ c h).2
  · subst h; decide
  · subst h; decide
  · exact (hexN_mem _ _ c h).2
  · subst h; decide
  · subst h; decide
  · subst h; exact shown_ne x
theorem cells_take (l : List UInt8) : ∀ n, (List.range n).flatMap (fun k => (l.drop (16 * k)).take 16) = l.take (16 * n)
  | 0 => by simp
  | n + 1 => by
    rw [List.range_succ, List.flatMap_append, cells_take l n]
    simp only [List.flatMap_cons, List.flatMap_nil, List.append_nil]
    rw [show 16 * (n + 1) = 16 * n + 16 by omega, List.take_add]
theorem flatMap_from (f : Nat → List UInt8) (g : List UInt8 → List UInt8) : ∀ n, (List.range n).flatMap f = (List.range n).flatMap f := fun _ => rfl
theorem range_from (n : Nat) : ∀ m, (List.range (n + m)) = List.range n ++ (List.range m).map (n + ·)
  | 0 => by simp
  | m + 1 => by rw [← Nat.add_assoc, List.range_succ, range_from n m, List.range_succ, List.map_append, List.append_assoc]; rfl
theorem parse_rows (l : List UInt8) (rows : List Nat) : linesAt 10 (rows.flatMap fun k => rowB (16 * k) ((l.drop (16 * k)).take 16)) = rows.map fun k => rowB (16 * k) ((l.drop (16 * k)).take 16) := by
  induction rows with
  | nil => rfl
  | cons k rows ih =>
    rw [List.flatMap_cons, List.map_cons, rowB, List.append_assoc, List.singleton_append, linesAt_app 10 _ _ (rowL_ne _ _), ih]
theorem parse_rowsR (l : List UInt8) (rows : List Nat) : cutAt 10 (rows.flatMap fun k => rowB (16 * k) ((l.drop (16 * k)).take 16)) = (rows.map fun k => rowL (16 * k) ((l.drop (16 * k)).take 16)) ++ [[]] := by
  induction rows with
  | nil => rfl
  | cons k rows ih =>
    rw [List.flatMap_cons, List.map_cons, rowB, List.append_assoc, List.singleton_append, cutAt_app 10 _ _ (rowL_ne _ _), ih]; rfl
theorem whole (l : List UInt8) : l.take (16 * ((l.length + 15) / 16)) = l := List.take_of_length_le (by omega)
theorem parseC_dump (l : List UInt8) : parseC (dumpL l) = l := by
  unfold parseC dumpL dumpB
  rw [parse_rows, List.flatMap_map]
  have : ∀ k, trip (colon (rowB (16 * k) ((l.drop (16 * k)).take 16))) = (l.drop (16 * k)).take 16 := fun k => by
    rw [rowB, rowL, List.append_assoc, List.cons_append, colon_app _ _ (fun c hc => (hexN_mem _ _ c hc).1), List.append_assoc]
    exact trip_cells _ _
  simp only [this]
  rw [cells_take, whole]
theorem parseR_dump (l : List UInt8) : parseR (dumpL l) = l := by
  unfold parseR dumpL dumpB
  rw [parse_rowsR, List.dropLast_concat, List.flatMap_map]
  have : ∀ k, tripN 16 ((rowL (16 * k) ((l.drop (16 * k)).take 16)).drop 5) = (l.drop (16 * k)).take 16 := fun k => by
    rw [rowL, show (5 : Nat) = (hexN 4 (16 * k)).length + 1 by rw [hexN_length], List.drop_append, List.drop_of_length_le (by omega), Nat.add_sub_cancel_left, List.nil_append, List.drop_succ_cons, List.drop_zero]
    exact tripN_cells 16 _ _ (by rw [List.length_take]; omega)
  simp only [this]
  rw [cells_take, whole]
/-- the two agree -/
theorem parse_iff (t : List UInt8) : (dumpL (parseC t) = t → parseR t = parseC t) ∧ (dumpL (parseR t) = t → parseC t = parseR t) := by
  constructor
  · intro h; have := parseR_dump (parseC t); rw [h] at this; exact this
  · intro h; have := parseC_dump (parseR t); rw [h] at this; exact this
def parsed (out t : List UInt8) : List UInt8 × Int := if out.length > 4096 ∨ dumpL out ≠ t then ([], 7) else (out, 0)
theorem parse_same (t : List UInt8) : parsed (parseC t) t = parsed (parseR t) t := by
  unfold parsed
  by_cases h : dumpL (parseC t) = t
  · rw [(parse_iff t).1 h]
  · by_cases h2 : dumpL (parseR t) = t
    · rw [(parse_iff t).2 h2]
    · rw [if_pos (.inr h), if_pos (.inr h2)]
theorem parsed_dump (l : List UInt8) (h : l.length ≤ 4096) : parsed (parseC (dumpL l)) (dumpL l) = (l, 0) := by
  rw [parseC_dump]; unfold parsed; rw [if_neg]; simp; exact h
end Go.Proofs.Ytiomfkgbaemmkaa
