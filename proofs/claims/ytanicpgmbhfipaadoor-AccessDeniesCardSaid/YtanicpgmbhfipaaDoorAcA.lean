/-
  Chapter 17, plain words: entries, descriptors, tokens; what decides a right.
  Chapter 17, plain: bits of numbers that are not negative.
  Chapter 17: identities, the errors of an entry and of an owner; masks.
  Chapter 17: entries: CheckAce, AceErr; lists of numbers: Has, Contains; the error of an order.
  Chapter 17: first over a slice that is made within a drawn region; the error of an entry of a descriptor.
  Chapter 17: each over the entries of a descriptor.
  slices.Grow of the nil slice and slices.Concat of two slices, at entries (four cells) and at numbers.
  Chapter 17: CheckDescriptor.
  Chapter 17: the error of ascending identities.
  Chapter 17: usersErr.
  Chapter 17: CheckToken.
  Chapter 17: whether a token has an identity, whether an entry counts.
  Chapter 17: Contains; what privileges grant; whether an entry counts.
-/
import Derived.Test.YtanicpgmbhfipaaDoorPlain2
import Derived.Laws.BitsAllLaws
import Derived.Test.YtanicpgmbhfipaaDoorTiny
import Derived.Test.YtanicpgmbhfipaaDoorFlow
import Derived.Test.YtanicpgmbhfipaaDoorKit
import Derived.Test.YtanicpgmbhfipaaDoorShelf
import Derived.Lib.AppendZerosOnto
import Derived.Lib.SliceRun
import Derived.Lib.Walk
namespace Go.Proofs.YtanicpgmbhfipaaDoor
set_option linter.unusedVariables false
set_option linter.unusedSimpArgs false
open Go.RowKit

structure AceP where
  k : Int
  f : Int
  m : Int
  w : Int
structure DscP where
  o : Int
  g : Int
  pr : Bool
  he : Bool
  es : List AceP
  us : List AceP
structure TokP where
  u : Int
  gs : List Int
  p : Int
def hldB (n : Int) : Bool := n == 4 || n == 5 || inB n 10 999
def whoB (n : Int) : Bool := inB n 1 5 || inB n 10 999
def aceR (a : AceP) : Bool := inB a.f 0 31 && inB a.m 1 511 && whoB a.w
def aceE (a : AceP) : Int := if inB a.k 0 2 = true then (if aceR a = true then 0 else 2) else 15
theorem aceE_first (a : AceP) : firstE [unl (inB a.k 0 2) 15, unl (aceR a) 2] = aceE a := by
  unfold aceE
  cases inB a.k 0 2 <;> cases aceR a <;> simp [firstE, unl]
def pairE (o g : Int) : Int := unl (hldB o && hldB g) 2
/-- an entry of a descriptor, at its index among all -/
def entE (n i : Nat) (a : AceP) : Int := if aceE a ≠ 0 then aceE a else unl ((a.k == 2) == decide (n ≤ i)) 15
def dscP (d : DscP) : Int × Int :=
  if pairE d.o d.g ≠ 0 then (0, pairE d.o d.g) else if 16 < d.es.length ∨ 16 < d.us.length then (0, 8) else if d.he = false ∧ d.es ≠ [] then (0, 3) else eachE (entE d.es.length) 0 (d.es ++ d.us)
def dscE (d : DscP) : Int := (dscP d).2
def ordE (l : List Int) (i : Nat) (n : Int) : Int := firstE [unl (hldB n) 2, unl (i == 0 || decide (l.getD (i - 1) 0 < n)) 9]
def usersE (l : List Int) : Int := (eachE (ordE l) 0 l).2
def tokE (t : TokP) : Int := firstE [unl (hldB t.u) 2, unl (decide (t.gs.length ≤ 16)) 8, usersE t.gs, unl (inB t.p 0 15) 2]
def mskE (m : Int) : Int := unl (inB m 1 511) 2

/-- a bit of a number that is not negative -/
def bitI (x : Int) (i : Nat) : Bool := x / 2 ^ i % 2 == 1
def isT (t : TokP) (who : Int) : Bool := who == 1 || who == t.u || t.gs.contains who
def cntB (a : AceP) : Bool := !bitI a.f 3
/-- whether privileges grant a right -/
def prvB (p : Int) (i : Nat) : Bool := (bitI p 0 && bitI 73 i) || (bitI p 1 && bitI 438 i) || (bitI p 3 && bitI 256 i)
def hitB (t : TokP) (i : Nat) (a : AceP) : Bool := cntB a && isT t a.w && bitI a.m i
/-- the first index of what is so, or -1 -/
def idxF {α : Type} (g : α → Bool) : Nat → List α → Int
  | _, [] => -1
  | k, a :: l => if g a = true then (k : Int) else idxF g (k + 1) l
theorem idxF_spec {α : Type} (g : α → Bool) : ∀ (l : List α) (k : Nat), (idxF g k l = -1 ∧ ∀ a ∈ l, g a = false) ∨ ∃ j, ∃ h : j < l.length, idxF g k l = ((k + j : Nat) : Int) ∧ g l[j] = true ∧ ∀ m (hm : m < j), g (l[m]'(by omega)) = false
  | [], k => .inl ⟨rfl, by simp⟩
  | a :: l, k => by
    unfold idxF
    by_cases h : g a = true
    · rw [if_pos h]
      exact .inr ⟨0, by simp, by simp, h, fun m hm => by omega⟩
    · rw [if_neg h]
      have h' : g a = false := by simpa using h
      rcases idxF_spec g l (k + 1) with ⟨h1, h2⟩ | ⟨j, hj, h1, h2, h3⟩
      · exact .inl ⟨h1, by simpa using ⟨h', h2⟩⟩
      · refine .inr ⟨j + 1, by simpa using hj, by rw [h1]; congr 1; omega, h2, fun m hm => ?_⟩
        cases m with
        | zero => exact h'
        | succ m => exact h3 m (by omega)
def byP (d : DscP) (t : TokP) (i : Nat) : Int :=
  if prvB t.p i = true then -1 else if ((i == 6 || i == 7) && isT t d.o) = true then -2 else if d.he = false then -3 else if idxF (hitB t i) 0 d.es < 0 then -4 else idxF (hitB t i) 0 d.es
def grtB (d : DscP) (t : TokP) (i : Nat) : Bool :=
  byP d t i != -4 && (decide (byP d t i < 0) || ((d.es.getD (byP d t i).toNat ⟨0, 0, 0, 0⟩).k == 0))
/-- the rights that are granted, of the first n -/
def rgtN (d : DscP) (t : TokP) : Nat → Int
  | 0 => 0
  | n + 1 => rgtN d t n + if grtB d t n = true then 2 ^ n else 0
def rgtP (d : DscP) (t : TokP) : Int := rgtN d t 9
def decP (d : DscP) (t : TokP) : List Int := (List.range 9).map (byP d t)
theorem rgtN_bd (d : DscP) (t : TokP) : ∀ n, 0 ≤ rgtN d t n ∧ rgtN d t n < 2 ^ n
  | 0 => by simp [rgtN]
  | n + 1 => by
    obtain ⟨h1, h2⟩ := rgtN_bd d t n
    have h3 : (2 : Int) ^ (n + 1) = 2 ^ n + 2 ^ n := by rw [Int.pow_succ]; omega
    unfold rgtN
    split <;> omega

/-- cells -/
def aceV (a : AceP) : List Value := [.int .i64 a.k, .int .i64 a.f, .int .i64 a.m, .int .i64 a.w]
def acesV (l : List AceP) : List Value := l.flatMap aceV
theorem acesV_length (l : List AceP) : (acesV l).length = l.length * 4 := by
  induction l with
  | nil => rfl
  | cons a l ih => unfold acesV at ih ⊢; rw [List.flatMap_cons, List.length_append, ih, List.length_cons]; show 4 + _ = _; omega
theorem acesV_get : ∀ (l : List AceP) (k : Nat) (h : k < l.length), (acesV l)[k * 4]? = some (.int .i64 l[k].k) ∧ (acesV l)[k * 4 + 1]? = some (.int .i64 l[k].f) ∧ (acesV l)[k * 4 + 1 + 1]? = some (.int .i64 l[k].m) ∧ (acesV l)[k * 4 + 1 + 1 + 1]? = some (.int .i64 l[k].w)
  | [], k, h => by simp at h
  | a :: l, 0, _ => ⟨rfl, rfl, rfl, rfl⟩
  | a :: l, k + 1, h => by
    have := acesV_get l k (by simpa using h)
    unfold acesV at this ⊢
    simp only [List.flatMap_cons, aceV, Nat.add_mul, Nat.one_mul, List.cons_append, List.nil_append, List.getElem_cons_succ]
    exact this
end Go.Proofs.YtanicpgmbhfipaaDoor
namespace Go.Proofs.YtanicpgmbhfipaaDoor
set_option linter.unusedVariables false
set_option linter.unusedSimpArgs false
open Go.RowKit

theorem wraps62 (n : Int) (h₀ : 0 ≤ n) (h₁ : n < 2 ^ 62) : IntKind.i64.wrap n = n := wraps_i64 62 (by decide) n h₀ h₁
theorem and_bit (x : Int) (i : Nat) (h0 : 0 ≤ x) (h1 : x < 2 ^ 62) (hi : i < 62) : (bits .and .i64 x ((2 : Int) ^ i) != 0) = bitI x i := by
  obtain ⟨n, rfl⟩ := Int.eq_ofNat_of_zero_le h0
  have hn : n < 2 ^ 62 := by exact_mod_cast h1
  have h2 : (2 : Nat) ^ i < 2 ^ 62 := Nat.pow_lt_pow_right (by decide) hi
  have e : ((2 : Int) ^ i) = ((2 ^ i : Nat) : Int) := by simp
  rw [e]
  show (bits .and .i64 ((n : Nat) : Int) ((2 ^ i : Nat) : Int) != 0) = _
  rw [(bits_nat .i64 62 (by decide) wraps62 n (2 ^ i) hn h2).1, nat_bit]
  have hp : 0 < 2 ^ i := Nat.two_pow_pos i
  unfold bitI
  have e2 : ((n : Nat) : Int) / 2 ^ i % 2 = ((n / 2 ^ i % 2 : Nat) : Int) := by push_cast; rfl
  show (((n / 2 ^ i % 2 * 2 ^ i : Nat) : Int) != 0) = (((n : Nat) : Int) / 2 ^ i % 2 == 1)
  rw [e2]
  have h3 : n / 2 ^ i % 2 = 0 ∨ n / 2 ^ i % 2 = 1 := by omega
  rcases h3 with h3 | h3
  · rw [h3]; simp
  · rw [h3]
    have : ((1 * 2 ^ i : Nat) : Int) ≠ 0 := by
      rw [Nat.one_mul]; exact_mod_cast (Nat.pos_iff_ne_zero.1 hp)
    have t1 : (((1 * 2 ^ i : Nat) : Int) != 0) = true := by simpa using this
    rw [t1]; rfl
/-- what privileges grant, so far -/
def gP (k : Nat) : Int := [1, 2, 8].getD k 0
def gR (k : Nat) : Int := [73, 438, 256].getD k 0
def prvR (p : Int) : Nat → Int
  | 0 => 0
  | k + 1 => if (bits .and .i64 p (gP k) != 0) = true then bits .or .i64 (prvR p k) (gR k) else prvR p k
theorem prvR_bits (p : Int) (h0 : 0 ≤ p) (h1 : p ≤ 15) (i : Nat) (hi : i < 9) : (bits .and .i64 (prvR p 3) ((2 : Int) ^ i) != 0) = prvB p i := by
  have all : ∀ p : Fin 16, ∀ i : Fin 9, (bits .and .i64 (prvR (p.val : Int) 3) ((2 : Int) ^ i.val) != 0) = prvB (p.val : Int) i.val := by decide +kernel
  obtain ⟨n, rfl⟩ := Int.eq_ofNat_of_zero_le h0
  exact all ⟨n, by omega⟩ ⟨i, hi⟩
theorem own_bits (i : Nat) (hi : i < 9) : (bits .and .i64 192 ((2 : Int) ^ i) != 0) = (i == 6 || i == 7) := by
  have all : ∀ i : Fin 9, (bits .and .i64 192 ((2 : Int) ^ i.val) != 0) = (i.val == 6 || i.val == 7) := by decide +kernel
  exact all ⟨i, hi⟩
theorem cnt_bits (a : AceP) (h0 : 0 ≤ a.f) (h1 : a.f ≤ 31) : (bits .and .i64 a.f 8 == 0) = cntB a := by
  have h := and_bit a.f 3 h0 (by omega) (by decide)
  unfold cntB
  rw [← h]
  simp [bne]
end Go.Proofs.YtanicpgmbhfipaaDoor
namespace Go.Proofs.YtanicpgmbhfipaaDoor
set_option linter.unusedVariables false
set_option linter.unusedSimpArgs false
open Go.RowKit Go.Sort

theorem hld_4 : hldB 4 = true := by decide
theorem hld_5 : hldB 5 = true := by decide
theorem hld_in (n : Int) (h4 : (n == 4) = false) (h5 : (n == 5) = false) : hldB n = inB n 10 999 := by unfold hldB; rw [h4, h5]; rfl
theorem isUser_any (n : Int) (w : World) : Calls Tryd.prog 36 #[.int .i64 n] w fun e w' => e = .returned (.bool (hldB n)) ∧ w = w' := by
  by_cases h4 : n = 4
  · subst h4
    go_enter Tryd.func36, Tryd.ntmps36
    go_wp2
    go_ret
    exact ⟨rfl, rfl⟩
  · by_cases h5 : n = 5
    · subst h5
      go_enter Tryd.func36, Tryd.ntmps36
      go_wp2
      go_ret
      exact ⟨rfl, rfl⟩
    · have k4 : (n == 4) = false := by simpa using h4
      have k5 : (n == 5) = false := by simpa using h5
      have H := Lib.hid (hld_in n k4 k5)
      clear h4 h5
      go_enter Tryd.func36, Tryd.ntmps36
      go_wp2_with (go_at_call 38; refine (access_within_any _ _ _ _).mono ?_; rintro e w' ⟨rfl, rfl⟩)
      go_ret
      exact ⟨by rw [H.out]; rfl, rfl⟩
theorem isIdentity_any (n : Int) (w : World) : Calls Tryd.prog 55 #[.int .i64 n] w fun e w' => e = .returned (.bool (whoB n)) ∧ w = w' := by
  cases h1 : inB n 1 5
  · have H := Lib.hid (show whoB n = inB n 10 999 by unfold whoB; rw [h1]; rfl)
    go_enter Tryd.func55, Tryd.ntmps55
    go_wp2_with (go_at_call 54; refine (acl_within_any _ _ _ _).mono ?_; rintro e w' ⟨rfl, rfl⟩)
    go_ret
    exact ⟨by rw [H.out]; rfl, rfl⟩
  · have H := Lib.hid (show whoB n = true by unfold whoB; rw [h1]; rfl)
    go_enter Tryd.func55, Tryd.ntmps55
    go_wp2_with (go_at_call 54; refine (acl_within_any _ _ _ _).mono ?_; rintro e w' ⟨rfl, rfl⟩)
    go_ret
    exact ⟨by rw [H.out]; rfl, rfl⟩
theorem IsUser_any (n : Int) (w : World) : Calls Tryd.prog 44 #[.int .i64 n] w fun e w' => e = .returned (.bool (inB n 10 999)) ∧ w = w' := by
  go_enter Tryd.func44, Tryd.ntmps44
  go_wp2_with (go_at_call 43; refine (Within_any _ _ _ _).mono ?_; rintro e w' ⟨rfl, rfl⟩)
  go_ret
  exact ⟨rfl, rfl⟩
theorem IsWho_any (n : Int) (w : World) : Calls Tryd.prog 20 #[.int .i64 n] w fun e w' => e = .returned (.bool (whoB n)) ∧ w = w' := by
  cases h1 : inB n 1 5
  · have H := Lib.hid (show whoB n = inB n 10 999 by unfold whoB; rw [h1]; rfl)
    go_enter Tryd.func20, Tryd.ntmps20
    go_wp2_with (first | (go_at_call 43; refine (Within_any _ _ _ _).mono ?_; rintro e w' ⟨rfl, rfl⟩) | (go_at_call 44; refine (IsUser_any _ _).mono ?_; rintro e w' ⟨rfl, rfl⟩))
    go_ret
    exact ⟨by rw [H.out]; rfl, rfl⟩
  · have H := Lib.hid (show whoB n = true by unfold whoB; rw [h1]; rfl)
    go_enter Tryd.func20, Tryd.ntmps20
    go_wp2_with (first | (go_at_call 43; refine (Within_any _ _ _ _).mono ?_; rintro e w' ⟨rfl, rfl⟩) | (go_at_call 44; refine (IsUser_any _ _).mono ?_; rintro e w' ⟨rfl, rfl⟩))
    go_ret
    exact ⟨by rw [H.out]; rfl, rfl⟩
theorem r16hold_any (n : Int) (w : World) : Calls Tryd.prog 74 #[.int .i64 n] w fun e w' => e = .returned (.bool (hldB n)) ∧ w = w' := by
  cases h1 : inB n 10 999
  · by_cases h4 : n = 4
    · subst h4
      go_enter Tryd.func74, Tryd.ntmps74
      go_wp2_with (go_at_call 44; refine (IsUser_any _ _).mono ?_; rintro e w' ⟨rfl, rfl⟩)
      go_ret
      exact ⟨rfl, rfl⟩
    · have k4 : (n == 4) = false := by simpa using h4
      have H := Lib.hid (show hldB n = (n == 5) by unfold hldB; rw [k4, h1]; simp)
      clear h4
      go_enter Tryd.func74, Tryd.ntmps74
      go_wp2_with (go_at_call 44; refine (IsUser_any _ _).mono ?_; rintro e w' ⟨rfl, rfl⟩)
      go_ret
      exact ⟨by rw [H.out]; rfl, rfl⟩
  · have H := Lib.hid (show hldB n = true by unfold hldB; rw [h1]; simp)
    go_enter Tryd.func74, Tryd.ntmps74
    go_wp2_with (go_at_call 44; refine (IsUser_any _ _).mono ?_; rintro e w' ⟨rfl, rfl⟩)
    go_ret
    exact ⟨by rw [H.out]; rfl, rfl⟩
theorem r17hold_any (n : Int) (w : World) : Calls Tryd.prog 41 #[.int .i64 n] w fun e w' => e = .returned (.bool (hldB n)) ∧ w = w' := by
  cases h1 : inB n 10 999
  · by_cases h4 : n = 4
    · subst h4
      go_enter Tryd.func41, Tryd.ntmps41
      go_wp2_with (go_at_call 44; refine (IsUser_any _ _).mono ?_; rintro e w' ⟨rfl, rfl⟩)
      go_ret
      exact ⟨rfl, rfl⟩
    · have k4 : (n == 4) = false := by simpa using h4
      have H := Lib.hid (show hldB n = (n == 5) by unfold hldB; rw [k4, h1]; simp)
      clear h4
      go_enter Tryd.func41, Tryd.ntmps41
      go_wp2_with (go_at_call 44; refine (IsUser_any _ _).mono ?_; rintro e w' ⟨rfl, rfl⟩)
      go_ret
      exact ⟨by rw [H.out]; rfl, rfl⟩
  · have H := Lib.hid (show hldB n = true by unfold hldB; rw [h1]; simp)
    go_enter Tryd.func41, Tryd.ntmps41
    go_wp2_with (go_at_call 44; refine (IsUser_any _ _).mono ?_; rintro e w' ⟨rfl, rfl⟩)
    go_ret
    exact ⟨by rw [H.out]; rfl, rfl⟩
theorem PairErr_any (o g : Int) (w : World) : Calls Tryd.prog 61 #[.int .i64 o, .int .i64 g] w fun e w' => e = .returned (.int .i64 (pairE o g)) ∧ w = w' := by
  cases h1 : hldB o
  · have H := Lib.hid (show pairE o g = 2 by unfold pairE; rw [h1]; rfl)
    go_enter Tryd.func61, Tryd.ntmps61
    go_wp2_with (go_at_call 74; refine (r16hold_any _ _).mono ?_; rintro e w' ⟨rfl, rfl⟩)
    go_ret
    exact ⟨by rw [H.out]; rfl, rfl⟩
  · cases h2 : hldB g
    · have H := Lib.hid (show pairE o g = 2 by unfold pairE; rw [h1, h2]; rfl)
      go_enter Tryd.func61, Tryd.ntmps61
      go_wp2_with (go_at_call 74; refine (r16hold_any _ _).mono ?_; rintro e w' ⟨rfl, rfl⟩)
      go_ret
      exact ⟨by rw [H.out]; rfl, rfl⟩
    · have H := Lib.hid (show pairE o g = 0 by unfold pairE; rw [h1, h2]; rfl)
      go_enter Tryd.func61, Tryd.ntmps61
      go_wp2_with (go_at_call 74; refine (r16hold_any _ _).mono ?_; rintro e w' ⟨rfl, rfl⟩)
      go_ret
      exact ⟨by rw [H.out]; rfl, rfl⟩
theorem maskErr_any (m : Int) (w : World) : Calls Tryd.prog 45 #[.int .i64 m] w fun e w' => e = .returned (.int .i64 (mskE m)) ∧ w = w' := by
  go_enter Tryd.func45, Tryd.ntmps45
  go_wp2_with (first | (go_at_call 38; refine (access_within_any _ _ _ _).mono ?_; rintro e w' ⟨rfl, rfl⟩) | (go_at_call 35; refine (access_unless_any _ _ _).mono ?_; rintro e w' ⟨rfl, rfl⟩))
  go_ret
  exact ⟨rfl, rfl⟩
theorem isCreator_any (n : Int) (w : World) : Calls Tryd.prog 83 #[.int .i64 n] w fun e w' => e = .returned (.bool (n == 2 || n == 3)) ∧ w = w' := by
  by_cases h4 : n = 2
  · subst h4
    go_enter Tryd.func83, Tryd.ntmps83
    go_wp2
    go_ret
    exact ⟨rfl, rfl⟩
  · have k4 : (n == 2) = false := by simpa using h4
    have H := Lib.hid (show (n == 2 || n == 3) = (n == 3) by rw [k4]; rfl)
    clear h4
    go_enter Tryd.func83, Tryd.ntmps83
    go_wp2
    go_ret
    exact ⟨by rw [H.out]; rfl, rfl⟩
end Go.Proofs.YtanicpgmbhfipaaDoor
namespace Go.Proofs.YtanicpgmbhfipaaDoor
set_option linter.unusedVariables false
set_option linter.unusedSimpArgs false
open Go.RowKit Go.Sort

theorem hld_who (n : Int) : hldB n = (whoB n && !(n == 2 || n == 3) && (n != 1)) := by
  by_cases h : inB n 1 5 = true
  · obtain ⟨h1, h2⟩ := inB_true.1 h
    have : n = 1 ∨ n = 2 ∨ n = 3 ∨ n = 4 ∨ n = 5 := by omega
    rcases this with rfl | rfl | rfl | rfl | rfl <;> decide
  · have h0 : inB n 1 5 = false := by simpa using h
    have h' : ¬ (1 ≤ n ∧ n ≤ 5) := fun ⟨a, b⟩ => h (inB_true.2 ⟨a, b⟩)
    have e4 : (n == 4) = false := by rw [beq_eq_false_iff_ne]; omega
    have e5 : (n == 5) = false := by rw [beq_eq_false_iff_ne]; omega
    have e2 : (n == 2) = false := by rw [beq_eq_false_iff_ne]; omega
    have e3 : (n == 3) = false := by rw [beq_eq_false_iff_ne]; omega
    have e1 : (n != 1) = true := by rw [bne_iff_ne]; omega
    unfold hldB whoB
    rw [h0, e4, e5, e2, e3, e1]
    simp
theorem aclHolder_any (n : Int) (w : World) : Calls Tryd.prog 75 #[.int .i64 n] w fun e w' => e = .returned (.bool (hldB n)) ∧ w = w' := by
  have hw := hld_who n
  cases h1 : whoB n
  · have H := Lib.hid (show hldB n = false by rw [hw, h1]; rfl)
    clear hw
    go_enter Tryd.func75, Tryd.ntmps75
    go_wp2_with (first | (go_at_call 55; refine (isIdentity_any _ _).mono ?_; rintro e w' ⟨rfl, rfl⟩) | (go_at_call 83; refine (isCreator_any _ _).mono ?_; rintro e w' ⟨rfl, rfl⟩))
    go_ret
    exact ⟨by rw [H.out]; rfl, rfl⟩
  · cases h2 : (n == 2 || n == 3)
    · have H := Lib.hid (show hldB n = (n != 1) by rw [hw, h1, h2]; rfl)
      have HC := Lib.hid (show ∀ W, Calls Tryd.prog 83 #[.int .i64 n] W fun e w' => e = .returned (.bool false) ∧ W = w' from fun W => by have := isCreator_any n W; rw [h2] at this; exact this)
      clear hw h2
      go_enter Tryd.func75, Tryd.ntmps75
      go_wp2_with (first | (go_at_call 55; refine (isIdentity_any _ _).mono ?_; rintro e w' ⟨rfl, rfl⟩) | (go_at_call 83; refine (HC.out _).mono ?_; rintro e w' ⟨rfl, rfl⟩))
      go_ret
      exact ⟨by rw [H.out]; rfl, rfl⟩
    · have H := Lib.hid (show hldB n = false by rw [hw, h1, h2]; rfl)
      have HC := Lib.hid (show ∀ W, Calls Tryd.prog 83 #[.int .i64 n] W fun e w' => e = .returned (.bool true) ∧ W = w' from fun W => by have := isCreator_any n W; rw [h2] at this; exact this)
      clear hw h2
      go_enter Tryd.func75, Tryd.ntmps75
      go_wp2_with (first | (go_at_call 55; refine (isIdentity_any _ _).mono ?_; rintro e w' ⟨rfl, rfl⟩) | (go_at_call 83; refine (HC.out _).mono ?_; rintro e w' ⟨rfl, rfl⟩))
      go_ret
      exact ⟨by rw [H.out]; rfl, rfl⟩
theorem holdersErr_any (o g : Int) (w : World) : Calls Tryd.prog 63 #[.int .i64 o, .int .i64 g] w fun e w' => e = .returned (.int .i64 (pairE o g)) ∧ w = w' := by
  cases h1 : hldB o
  · have H := Lib.hid (show pairE o g = unl false 2 by unfold pairE; rw [h1]; rfl)
    go_enter Tryd.func63, Tryd.ntmps63
    go_wp2_with (first | (go_at_call 75; refine (aclHolder_any _ _).mono ?_; rintro e w' ⟨rfl, rfl⟩) | (go_at_call 57; refine (acl_unless_any _ _ _).mono ?_; rintro e w' ⟨rfl, rfl⟩))
    go_ret
    exact ⟨by rw [H.out]; rfl, rfl⟩
  · have H := Lib.hid (show pairE o g = unl (hldB g) 2 by unfold pairE; rw [h1]; rfl)
    go_enter Tryd.func63, Tryd.ntmps63
    go_wp2_with (first | (go_at_call 75; refine (aclHolder_any _ _).mono ?_; rintro e w' ⟨rfl, rfl⟩) | (go_at_call 57; refine (acl_unless_any _ _ _).mono ?_; rintro e w' ⟨rfl, rfl⟩))
    go_ret
    exact ⟨by rw [H.out]; rfl, rfl⟩

theorem aceR_cases (a : AceP) : aceR a = (if inB a.f 0 31 = true then (if inB a.m 1 511 = true then whoB a.w else false) else false) := by
  unfold aceR
  cases inB a.f 0 31 <;> cases inB a.m 1 511 <;> simp
theorem CheckAce_any (a : AceP) (w : World) : Calls Tryd.prog 39 #[.agg #[.int .i64 a.k, .int .i64 a.f, .int .i64 a.m, .int .i64 a.w]] w fun e w' => e = .returned (.int .i64 (aceE a)) ∧ Below w.heap.size w w' := by
  have he := aceE_first a
  have hr := aceR_cases a
  obtain ⟨k, f, m, h⟩ := a
  dsimp only at he hr ⊢
  obtain ⟨E, hE⟩ : ∃ E, E = aceE ⟨k, f, m, h⟩ := ⟨_, rfl⟩
  obtain ⟨R, hR⟩ : ∃ R, R = aceR ⟨k, f, m, h⟩ := ⟨_, rfl⟩
  rw [← hE, ← hR] at he
  rw [← hR] at hr
  rw [← hE]
  have HF : ∀ W : World, Calls Tryd.prog 56 #[.slice (some ⟨W.heap.size, 0, none⟩) 2 2] (W.alloc (.cells #[.int .i64 (unl (inB k 0 2) 15), .int .i64 (unl R 2)] 35)) fun e w' => e = .returned (.int .i64 E) ∧ W.alloc (.cells #[.int .i64 (unl (inB k 0 2) 15), .int .i64 (unl R 2)] 35) = w' := fun W => by
    have := acl_first_list [unl (inB k 0 2) 15, unl R 2] W (by simp)
    rw [he] at this
    exact this
  clear he hE hR
  cases h1 : inB f 0 31
  · obtain rfl : R = false := by rw [hr, h1]; rfl
    have HF1 := HF (w.alloc (.cells #[.int .i64 k, .int .i64 f, .int .i64 m, .int .i64 h] 34))
    rw [World.size_alloc] at HF1
    have HF := Lib.hid HF1
    clear HF1
    clear hr
    go_enter Tryd.func39, Tryd.ntmps39
    go_wp2_with (first | (go_at_call 54; refine (acl_within_any _ _ _ _).mono ?_; rintro e w' ⟨rfl, rfl⟩) | (go_at_call 55; refine (isIdentity_any _ _).mono ?_; rintro e w' ⟨rfl, rfl⟩) | (go_at_call 57; refine (acl_unless_any _ _ _).mono ?_; rintro e w' ⟨rfl, rfl⟩) | (go_at_call 56; refine (HF.out).mono ?_; rintro e w' ⟨rfl, rfl⟩))
    go_ret
    exact ⟨rfl, bel_alloc (bel_alloc (Below.refl _ _) _) _⟩
  · cases h2 : inB m 1 511
    · obtain rfl : R = false := by rw [hr, h1, h2]; rfl
      have HF1 := HF (w.alloc (.cells #[.int .i64 k, .int .i64 f, .int .i64 m, .int .i64 h] 34))
      rw [World.size_alloc] at HF1
      have HF := Lib.hid HF1
      clear HF1
      clear hr
      go_enter Tryd.func39, Tryd.ntmps39
      go_wp2_with (first | (go_at_call 54; refine (acl_within_any _ _ _ _).mono ?_; rintro e w' ⟨rfl, rfl⟩) | (go_at_call 55; refine (isIdentity_any _ _).mono ?_; rintro e w' ⟨rfl, rfl⟩) | (go_at_call 57; refine (acl_unless_any _ _ _).mono ?_; rintro e w' ⟨rfl, rfl⟩) | (go_at_call 56; refine (HF.out).mono ?_; rintro e w' ⟨rfl, rfl⟩))
      go_ret
      exact ⟨rfl, bel_alloc (bel_alloc (Below.refl _ _) _) _⟩
    · obtain rfl : R = whoB h := by rw [hr, h1, h2]; rfl
      have HF1 := HF (w.alloc (.cells #[.int .i64 k, .int .i64 f, .int .i64 m, .int .i64 h] 34))
      rw [World.size_alloc] at HF1
      have HF := Lib.hid HF1
      clear HF1
      clear hr
      go_enter Tryd.func39, Tryd.ntmps39
      go_wp2_with (first | (go_at_call 54; refine (acl_within_any _ _ _ _).mono ?_; rintro e w' ⟨rfl, rfl⟩) | (go_at_call 55; refine (isIdentity_any _ _).mono ?_; rintro e w' ⟨rfl, rfl⟩) | (go_at_call 57; refine (acl_unless_any _ _ _).mono ?_; rintro e w' ⟨rfl, rfl⟩) | (go_at_call 56; refine (HF.out).mono ?_; rintro e w' ⟨rfl, rfl⟩))
      go_ret
      exact ⟨rfl, bel_alloc (bel_alloc (Below.refl _ _) _) _⟩
theorem AceErr_any (a : AceP) (w : World) : Calls Tryd.prog 62 #[.agg #[.int .i64 a.k, .int .i64 a.f, .int .i64 a.m, .int .i64 a.w]] w fun e w' => e = .returned (.int .i64 (aceE a)) ∧ Below w.heap.size w w' := by
  have hr := aceR_cases a
  have he : aceE a = if inB a.k 0 2 = true then (if aceR a = true then 0 else 2) else 15 := rfl
  obtain ⟨k, f, m, h⟩ := a
  dsimp only at hr he ⊢
  obtain ⟨E, hE⟩ : ∃ E, E = aceE ⟨k, f, m, h⟩ := ⟨_, rfl⟩
  rw [hr] at he
  rw [← hE] at he ⊢
  clear hr hE
  cases h0 : inB k 0 2 <;> cases h1 : inB f 0 31 <;> cases h2 : inB m 1 511 <;> cases h3 : whoB h
  all_goals
    rw [h0, h1, h2, h3] at he
    have HE := Lib.hid he
    clear he
    go_enter Tryd.func62, Tryd.ntmps62
    go_wp2_with (first | (go_at_call 43; refine (Within_any _ _ _ _).mono ?_; rintro e w' ⟨rfl, rfl⟩) | (go_at_call 20; refine (IsWho_any _ _).mono ?_; rintro e w' ⟨rfl, rfl⟩))
    go_ret
    exact ⟨by rw [HE.out]; rfl, bel_alloc (Below.refl _ _) _⟩
end Go.Proofs.YtanicpgmbhfipaaDoor
namespace Go.Proofs.YtanicpgmbhfipaaDoor
set_option linter.unusedVariables false
set_option linter.unusedSimpArgs false
open Go.RowKit Go.Sort

def ErrsI (B : Nat) (es : List Int) (v : Value) (X : World) : Prop := ∃ b, v = .slice (some ⟨b, 0, none⟩) es.length es.length ∧ B ≤ b ∧ X.heap[b]? = some (.cells (es.map (Value.int .i64)).toArray 35 (0, 0))
theorem ErrsI.stable {B : Nat} {es : List Int} (v : Value) (X X' : World) (h : ErrsI B es v X) (hb : Below X.heap.size X X') : ErrsI B es v X' := by
  obtain ⟨b, h1, h2, h3⟩ := h
  exact ⟨b, h1, h2, (hb.block b (Array.getElem?_eq_some_iff.1 h3).1).trans h3⟩
def IntV (n : Int) (v : Value) (X : World) : Prop := v = .int .i64 n
theorem IntV.stable {n : Int} (v : Value) (X X' : World) (h : IntV n v X) (hb : Below X.heap.size X X') : IntV n v X' := h
theorem leaves_alloc' {P : Program} {R : Value → World → Prop} {X : World} {s : Sem Next} {v : Value} {obj : Obj} (h : s.run P X = .ok (.value v) (X.alloc obj)) (hR : R v (X.alloc obj)) : LeavesR P R X (s.run P X) := by
  rw [h]; exact ⟨(Below.refl _ _).alloc (Nat.le_refl _) _, hR⟩
theorem leaves_call' {P : Program} {R : Value → World → Prop} {X : World} {s : Sem Next} {f : FuncId} {args : Array Value} (h : s.run P X = .ok (.enter f args) X)
    (hc : Calls P f args X (fun e X' => ∃ v, e = .returned v ∧ Below X.heap.size X X' ∧ R v X')) : LeavesR P R X (s.run P X) := by
  rw [h]; exact ⟨rfl, hc⟩
theorem access_first_errs {B : Nat} {X : World} (es : List Int) (hl : es.length ≤ 100) {v : Value} (hv : ErrsI B es v X) : Calls Tryd.prog 29 #[v] X (fun e X' => ∃ v, e = .returned v ∧ Below X.heap.size X X' ∧ IntV (firstE es) v X') := by
  obtain ⟨b, rfl, _, hb⟩ := hv
  refine (access_first_any b 0 es X hl fun k hk => ?_).mono fun e w' ⟨h1, h2⟩ => ⟨_, h1, by rw [← h2]; exact Below.refl _ _, rfl⟩
  simp [World.cell?, hb, hk]
theorem acl_first_errs {B : Nat} {X : World} (es : List Int) (hl : es.length ≤ 100) {v : Value} (hv : ErrsI B es v X) : Calls Tryd.prog 56 #[v] X (fun e X' => ∃ v, e = .returned v ∧ Below X.heap.size X X' ∧ IntV (firstE es) v X') := by
  obtain ⟨b, rfl, _, hb⟩ := hv
  refine (acl_first_any b 0 es X hl fun k hk => ?_).mono fun e w' ⟨h1, h2⟩ => ⟨_, h1, by rw [← h2]; exact Below.refl _ _, rfl⟩
  simp [World.cell?, hb, hk]
theorem entE_first (n i : Nat) (a : AceP) : firstE [aceE a, unl ((a.k == 2) == decide (n ≤ i)) 15] = entE n i a := by
  unfold entE firstE
  by_cases h : aceE a = 0
  · rw [if_pos h, if_neg (by simpa using h)]
    unfold firstE
    split
    · rename_i h2; rw [h2]; rfl
    · rfl
  · rw [if_neg h, if_pos h]
set_option maxRecDepth 100000 in
set_option maxHeartbeats 1000000 in
theorem CheckDsc1_any (D n c : Nat) (A : Option Addr) (i : Nat) (a : AceP) (w : World) (hD : D < w.heap.size) (hc : w.cell? ⟨D, 4, none⟩ = some (.slice A n c)) (hn : n ≤ 1000) (hi : i ≤ 1000) :
    Calls Tryd.prog 66 #[.int .i64 i, .agg #[.int .i64 a.k, .int .i64 a.f, .int .i64 a.m, .int .i64 a.w], .pointer (some ⟨D, 0, none⟩)] w fun e w' => e = .returned (.int .i64 (entE n i a)) ∧ Below w.heap.size w w' := by
  have HF := Lib.hid (entE_first n i a)
  have HA := Lib.hid (fun W => CheckAce_any a W)
  obtain ⟨e1, he1⟩ : ∃ e, e = aceE a := ⟨_, rfl⟩
  obtain ⟨r, hr⟩ : ∃ r, r = entE n i a := ⟨_, rfl⟩
  rw [← he1] at HF HA
  rw [← hr] at HF ⊢
  clear he1 hr
  obtain ⟨k, f, m, h⟩ := a
  dsimp only at HF HA ⊢
  have HU := Lib.hid (fun W => acl_unless_any ((k == 2) == decide (n ≤ i)) 15 W)
  obtain ⟨e2, he2⟩ : ∃ e, e = unl ((k == 2) == decide (n ≤ i)) 15 := ⟨_, rfl⟩
  rw [← he2] at HF HU
  clear he2
  have hdi : decide ((n : Int) ≤ i) = decide (n ≤ i) := by simp
  go_enter Tryd.func66, Tryd.ntmps66
  go_wp2
  (refine wp_region_flow [false, false, false, false, false, false, false, false, false, false, false, false, true, true] [⟨12, [], ErrsI w.heap.size [e1, e2], false⟩, ⟨13, [12], IntV r, false⟩] (by kernel_rfl) (by kernel_rfl) (by kernel_rfl) (by kernel_rfl) ?_; simp only [pick, List.length_cons, List.length_nil, List.drop_succ_cons, List.drop_zero, Nat.zero_add, Nat.reduceAdd]; apply Exists.intro; refine ⟨fun X hX => ?_, ?_⟩; (focus (obtain ⟨hcX, hfX⟩ := bcell hX; have hgX := regcell hX; have hsX := hX.size; (try simp only [World.size_alloc] at hsX); (repeat (go_big_quiet_step ((first | (go_at_call 39; (with_reducible exact Calls.regrown_of (HA.out _))) | (go_at_call 57; (with_reducible exact Calls.reg_pure (HU.out _))))))); exact wpQuiet_nil rfl)); simp only [wpND, told, toldAll, List.contains_cons, List.contains_nil, List.mem_cons, List.not_mem_nil, forall_eq_or_imp, false_implies, implies_true, and_true, Nat.reduceBEq, BEq.rfl, beq_self_eq_true, Bool.or_false, Bool.false_or, Bool.true_or, Bool.or_true, Bool.false_eq_true, if_true, if_false, true_implies, dstAt, List.getElem?_toArray, List.getElem?_cons_succ, List.getElem?_cons_zero, Option.some.injEq, forall_eq', Option.bind_some, Act.put, List.setIfInBounds_toArray, List.set_cons_succ, List.set_cons_zero])
  refine ⟨ErrsI.stable, fun X hX => ?_, fun v1 => ⟨IntV.stable, fun X hX hf => ?_, fun v2 X hX hf => ?_⟩⟩
  · exact leaves_alloc' (v := .slice (some ⟨X.heap.size, 0, none⟩) 2 2) (obj := .cells #[.int .i64 e1, .int .i64 e2] 35) (by kernel_rfl) ⟨X.heap.size, rfl, by have := hX.size; simp at this; omega, heap_alloc_new _ _⟩
  · refine leaves_call' (f := 56) (args := #[v1]) (by kernel_rfl) ?_
    rw [← HF.out]
    exact acl_first_errs [e1, e2] (by simp) hf
  · obtain ⟨h2v, _⟩ := hf
    obtain rfl : v2 = .int .i64 r := h2v
    go_wp2
    go_ret
    exact ⟨rfl, (bel_alloc (Below.refl _ _) _).trans (hX.mono (by simp))⟩
end Go.Proofs.YtanicpgmbhfipaaDoor
namespace Go.Proofs.YtanicpgmbhfipaaDoor
set_option linter.unusedVariables false
set_option linter.unusedSimpArgs false
open Go.RowKit Go.Sort

set_option maxRecDepth 100000 in
set_option maxHeartbeats 2000000 in
theorem eachDsc_any (A AE : Option Addr) (c cE D n : Nat) (l : List AceP) (w : World) (hlen : l.length ≤ 1000) (hr : Rd w w.heap.size A (acesV l)) (hD : D < w.heap.size) (hc : w.cell? ⟨D, 4, none⟩ = some (.slice AE n cE)) (hn : n ≤ 1000) :
    Calls Tryd.prog 64 #[.slice A l.length c, .func (.func 66) #[] #[.pointer (some ⟨D, 0, none⟩)]] w fun e w' =>
      e = .returned (.tuple #[.int .i64 (eachE (entE n) 0 l).1, .int .i64 (eachE (entE n) 0 l).2]) ∧ Below w.heap.size w w' := by
  have HC := Lib.hid (fun (i : Nat) (hi : i ≤ 1000) (a : AceP) (W : World) (hW : Below w.heap.size w W) => CheckDsc1_any D n cE AE i a W (by have := hW.size; omega) ((hW.cell (p := ⟨D, 4, none⟩) hD).trans hc) hn hi)
  clear hc
  go_enter Tryd.func64, Tryd.ntmps64
  go_wp2
  go_loopw [11] (fun i wr => ∃ k : Nat, k ≤ l.length ∧ i = .int .i64 k ∧ Below w.heap.size w wr ∧ eachE (entE n) 0 l = eachE (entE n) k (l.drop k)) (fun i _ => l.length - (intOf i).toNat)
  case atStart => exact ⟨0, Nat.zero_le _, rfl, Below.refl _ _, rfl⟩
  case round =>
    obtain ⟨k, hk, rfl, hb, hf⟩ := hrel
    have HF := Lib.hid hf
    clear hf
    by_cases hlt : k < l.length
    · have hr2 := hr.below hb
      obtain ⟨b, o, rfl, hB, hc⟩ := hr2.opened (by rw [acesV_length]; omega)
      obtain ⟨g0, g1, g2, g3⟩ := acesV_get l k hlt
      have c0 : wr.cell? ⟨b, o + k * 4, none⟩ = _ := hc _ _ g0
      have c1 : wr.cell? ⟨b, o + k * 4 + 1, none⟩ = _ := hc _ _ g1
      have c2 : wr.cell? ⟨b, o + k * 4 + 1 + 1, none⟩ = _ := hc _ _ g2
      have c3 : wr.cell? ⟨b, o + k * 4 + 1 + 1 + 1, none⟩ = _ := hc _ _ g3
      obtain ⟨a, ha⟩ : ∃ a, a = l[k] := ⟨_, rfl⟩
      rw [← ha] at c0 c1 c2 c3
      have hd : l.drop k = l[k] :: l.drop (k + 1) := List.drop_eq_getElem_cons hlt
      rw [← ha] at hd
      have HD := Lib.hid hd
      have hbs := hb.size
      obtain ⟨r, hre⟩ : ∃ r, r = entE n k a := ⟨_, rfl⟩
      have HC2 := Lib.hid (fun W (hW : Below w.heap.size w W) => HC.out k (by omega) a W hW)
      rw [← hre] at HC2
      obtain ⟨ak, af, am, aw⟩ := a
      dsimp only at c0 c1 c2 c3 HC2
      have HRE := Lib.hid hre
      clear hd ha g0 g1 g2 g3 hc hr hr2 hre
      by_cases h0 : r = 0
      · subst h0
        go_wp2_with (go_at_call 66; refine (HC2.out _ (bel_alloc hb _)).mono ?_; rintro e w1 ⟨rfl, hb1⟩)
        go_roundw
        case rel => exact ⟨k + 1, by omega, by go_num, bel_trans (bel_alloc hb _) hb1, by rw [HF.out, HD.out, eachE, if_pos HRE.out.symm]⟩
        case measure => simp [intOf]; omega
      · have h0' : (r != 0) = true := by simp [h0]
        have H0 := Lib.hid h0
        clear h0
        go_wp2_with (go_at_call 66; refine (HC2.out _ (bel_alloc hb _)).mono ?_; rintro e w1 ⟨rfl, hb1⟩)
        go_ret2
        have e : eachE (entE n) 0 l = ((k : Int), r) := by rw [HF.out, HD.out, eachE, if_neg (by rw [← HRE.out]; exact H0.out), ← HRE.out]
        exact ⟨retII (by rw [e]) (by rw [e]), bel_trans (bel_alloc hb _) hb1⟩
    · go_wp2
      go_ret2
      exact ⟨retII (by rw [HF.out, List.drop_of_length_le (by omega)]; rfl) (by rw [HF.out, List.drop_of_length_le (by omega)]; rfl), hb⟩
end Go.Proofs.YtanicpgmbhfipaaDoor
namespace Go.Proofs.YtanicpgmbhfipaaDoor
set_option linter.unusedVariables false
set_option linter.unusedSimpArgs false
open Go.RowKit Go.Sort

theorem infoAce : (Tryd.prog.info? 34).map (fun i => (i.zero, i.size, i.bytes)) = some (some (.agg #[.int .i64 0, .int .i64 0, .int .i64 0, .int .i64 0]), 4, 32) := by kernel_rfl
theorem infoInt : (Tryd.prog.info? 3).map (fun i => (i.zero, i.size, i.bytes)) = some (some (.int .i64 0), 1, 8) := by kernel_rfl
set_option maxRecDepth 100000 in
theorem ace_Grow (n : Nat) (w : World) (hn : n ≤ 100000) :
    Calls Tryd.prog 76 #[.slice none 0 0, .int .i64 n] w fun e w' => ∃ A c, e = .returned (.slice A 0 c) ∧ w'.ownsRow w.heap.size 34 4 (.slice A 0 c) 0 [] ∧ Below w.heap.size w w' := by
  obtain ⟨i0, hi, hz0, hz1, hz2⟩ := info_parts infoAce
  by_cases h0 : n = 0
  · subst h0
    go_enter Tryd.func76, Tryd.ntmps76
    go_wp2
    go_ret
    exact ⟨none, 0, rfl, World.ownsRow_nil _ _ _ _, Below.refl _ _⟩
  · have hn0 : (0 : Int) < n := by omega
    have hgr := growslice_fits (old := 0) (need := n) (bytes := i0.bytes) (by omega) (by rw [hz2]; omega)
    have hr := fun ty => Lib.run_append_grow_zeros (P := Tryd.prog) w 22 3 ty 34 i0 _ .i64 .i64 Tryd.underlying22 Tryd.underlying3 hi hz0 none 0 0 [] (run_firstCells_none w.drew i0.size 0 0 0) n (by omega) (by rw [hz1]; omega) (by omega) (by omega) (by rw [hz2]; omega) (by rw [Nat.zero_add]; exact hgr)
    simp only [Nat.zero_add, List.nil_append] at hr
    obtain ⟨G, hG⟩ : ∃ G, G = grownCap w n 0 34 := ⟨_, rfl⟩
    have hGn : n ≤ G := by rw [hG]; exact grownCap_ge w _ _ _
    have hGm : G ≤ maxLen := by rw [hG]; exact grownCap_le_maxLen w _ _ _ (by unfold maxLen; omega)
    rw [← hG] at hr
    obtain ⟨W1, hW1⟩ : ∃ W1, W1 = w.drew.alloc (.cells ((#[] : Array Value) ++ Builtin.zeroCells (Value.agg #[.int .i64 0, .int .i64 0, .int .i64 0, .int .i64 0]).cells n ++ Builtin.zeroCells (Value.agg #[.int .i64 0, .int .i64 0, .int .i64 0, .int .i64 0]).cells (G - n)) 34) := ⟨_, rfl⟩
    rw [← hW1] at hr
    have hbel : Below w.heap.size w W1 := by rw [hW1]; exact (Below.refl _ w).drew.alloc (Nat.le_refl _) _
    have hown : W1.ownsRow w.heap.size 34 4 (.slice (some ⟨w.heap.size, 0, none⟩) 0 G) 0 [] := by
      refine ⟨by simp, .inr ⟨w.heap.size, G, _, rfl, Nat.le_refl _, by rw [hW1]; exact heap_alloc_new w.drew _, Nat.zero_le _, hGm, ?_, by simp⟩⟩
      simp only [Array.size_append, Array.size_empty, size_zeroCells]
      show 0 + n * 4 + (G - n) * 4 = G * 4
      omega
    have HOWN := Lib.hid hown
    unfold maxLen at hGm
    clear hW1 hG hown hgr hz0 hz1 hz2 hi
    go_enter Tryd.func76, Tryd.ntmps76
    go_wp2_with (at_builtin; refine Lib.wpList_append_run _ rfl _ _ _ _ rfl _ _ rfl rfl _ _ (hr _) ?_)
    go_ret
    exact ⟨_, _, rfl, HOWN.out, hbel⟩
set_option maxRecDepth 100000 in
set_option maxHeartbeats 2000000 in
theorem ace_Concat (b n1 c1 n2 c2 : Nat) (A1 A2 : Option Addr) (xs1 xs2 : List Value) (w : World) (hb : b < w.heap.size) (h1 : w.cell? ⟨b, 0, none⟩ = some (.slice A1 n1 c1)) (h2 : w.cell? ⟨b, 1, none⟩ = some (.slice A2 n2 c2))
    (hl1 : xs1.length = n1 * 4) (hl2 : xs2.length = n2 * 4) (hr1 : Rd w w.heap.size A1 xs1) (hr2 : Rd w w.heap.size A2 xs2) (o1 : ∀ u ∈ xs1, u.oneCell' = true) (o2 : ∀ u ∈ xs2, u.oneCell' = true) (hn1 : n1 ≤ 1000) (hn2 : n2 ≤ 1000) :
    Calls Tryd.prog 65 #[.slice (some ⟨b, 0, none⟩) 2 2] w fun e w' => ∃ A c, e = .returned (.slice A (n1 + n2) c) ∧ w'.ownsRow w.heap.size 34 4 (.slice A (n1 + n2) c) (n1 + n2) (xs1 ++ xs2) ∧ Below w.heap.size w w' := by
  obtain ⟨i0, hi, hz0, hz1, hz2⟩ := info_parts infoAce
  have HR1 := Lib.hid hr1
  have HR2 := Lib.hid hr2
  clear hr1 hr2
  go_enter Tryd.func65, Tryd.ntmps65
  go_wp2
  go_loop [3, 11] (fun sz i => (i = .int .i64 0 ∧ sz = .int .i64 0) ∨ (i = .int .i64 1 ∧ sz = .int .i64 n1) ∨ (i = .int .i64 2 ∧ sz = .int .i64 ((n1 + n2 : Nat) : Int))) (fun _ i => 2 - (intOf i).toNat)
  case atStart => exact .inl ⟨rfl, rfl⟩
  case round =>
    rcases hrel with ⟨rfl, rfl⟩ | ⟨rfl, rfl⟩ | ⟨rfl, rfl⟩
    · go_wp2
      go_round
      case rel => exact .inr (.inl ⟨rfl, rfl⟩)
      case measure => simp [intOf]
    · go_wp2
      go_round
      case rel => exact .inr (.inr ⟨rfl, by go_num⟩)
      case measure => simp [intOf]
    · have HG := Lib.hid (ace_Grow (n1 + n2) w (by omega))
      obtain ⟨N, hN⟩ : ∃ N, N = n1 + n2 := ⟨_, rfl⟩
      rw [← hN] at HG ⊢
      have hNb : N ≤ 2000 := by omega
      have HN := Lib.hid hN
      clear hN
      go_wp2_with (go_at_call 76; refine HG.out.mono ?_; rintro e W1 ⟨A0, c0, rfl, hown0, hb1⟩; obtain ⟨hcb1, hfb1⟩ := bcell hb1)
      have HOWN0 := Lib.hid hown0
      clear hown0 HG hcb1 hfb1
      go_loopw [6, 27] (fun v i wr => Below w.heap.size w wr ∧ ((i = .int .i64 0 ∧ ∃ A c, v = .slice A 0 c ∧ wr.ownsRow w.heap.size 34 4 (.slice A 0 c) 0 []) ∨ (i = .int .i64 1 ∧ ∃ A c, v = .slice A n1 c ∧ wr.ownsRow w.heap.size 34 4 (.slice A n1 c) n1 xs1) ∨ (i = .int .i64 2 ∧ ∃ A c, v = .slice A (n1 + n2) c ∧ wr.ownsRow w.heap.size 34 4 (.slice A (n1 + n2) c) (n1 + n2) (xs1 ++ xs2)))) (fun _ i _ => 2 - (intOf i).toNat)
      case atStart => exact ⟨hb1, .inl ⟨rfl, _, _, rfl, HOWN0.out⟩⟩
      case round =>
        obtain ⟨hbr, hcase⟩ := hrel
        have hd1 : wr.cell? ⟨b, 0, none⟩ = some (.slice A1 n1 c1) := (hbr.cell (p := ⟨b, 0, none⟩) hb).trans h1
        have hd2 : wr.cell? ⟨b, 1, none⟩ = some (.slice A2 n2 c2) := (hbr.cell (p := ⟨b, 1, none⟩) hb).trans h2
        have hbs := hbr.size
        have hR1 : Rd wr wr.heap.size A1 xs1 := HR1.out.below' hbr
        have hR2 : Rd wr wr.heap.size A2 xs2 := HR2.out.below' hbr
        rcases hcase with ⟨rfl, A, c, rfl, hown⟩ | ⟨rfl, A, c, rfl, hown⟩ | ⟨rfl, A, c, rfl, hown⟩
        · go_wp2_with (at_builtin; refine wpList_append_rd _ rfl (.tmp 31) (.tmp 32) 22 rfl w.heap.size 34 i0 _ 4 32 Tryd.underlying22 hi hz0 hz1 hz2 rfl (by decide) (.slice A 0 c) 0 _ rfl hown wr.heap.size A1 n1 c1 xs1 rfl hl1 hR1 o1 (by unfold maxLen; omega) (by omega) hbs ?_; intro v' w1 hown1 hgrow hvb hbel; obtain ⟨A', c', rfl, _⟩ := ownsRow_form hown1)
          go_roundw
          case rel =>
            rw [Nat.zero_add, List.nil_append] at hown1
            exact ⟨hbr.trans hbel, .inr (.inl ⟨rfl, A', c', rfl, hown1⟩)⟩
          case measure => simp [intOf]
        · go_wp2_with (at_builtin; refine wpList_append_rd _ rfl (.tmp 31) (.tmp 32) 22 rfl w.heap.size 34 i0 _ 4 32 Tryd.underlying22 hi hz0 hz1 hz2 rfl (by decide) (.slice A n1 c) n1 _ rfl hown wr.heap.size A2 n2 c2 xs2 rfl hl2 hR2 o2 (by unfold maxLen; omega) (by omega) hbs ?_; intro v' w1 hown1 hgrow hvb hbel; obtain ⟨A', c', rfl, _⟩ := ownsRow_form hown1)
          go_roundw
          case rel => exact ⟨hbr.trans hbel, .inr (.inr ⟨rfl, A', c', rfl, hown1⟩)⟩
          case measure => simp [intOf]
        · go_wp2
          go_ret
          exact ⟨A, c, rfl, hown, hbr⟩
set_option maxRecDepth 100000 in
theorem int_Grow (n : Nat) (w : World) (hn : n ≤ 100000) :
    Calls Tryd.prog 77 #[.slice none 0 0, .int .i64 n] w fun e w' => ∃ A c, e = .returned (.slice A 0 c) ∧ w'.ownsRow w.heap.size 3 1 (.slice A 0 c) 0 [] ∧ Below w.heap.size w w' := by
  obtain ⟨i0, hi, hz0, hz1, hz2⟩ := info_parts infoInt
  by_cases h0 : n = 0
  · subst h0
    go_enter Tryd.func77, Tryd.ntmps77
    go_wp2
    go_ret
    exact ⟨none, 0, rfl, World.ownsRow_nil _ _ _ _, Below.refl _ _⟩
  · have hn0 : (0 : Int) < n := by omega
    have hgr := growslice_fits (old := 0) (need := n) (bytes := i0.bytes) (by omega) (by rw [hz2]; omega)
    have hr := fun ty => Lib.run_append_grow_zeros (P := Tryd.prog) w 25 3 ty 3 i0 _ .i64 .i64 Tryd.underlying25 Tryd.underlying3 hi hz0 none 0 0 [] (run_firstCells_none w.drew i0.size 0 0 0) n (by omega) (by rw [hz1]; omega) (by omega) (by omega) (by rw [hz2]; omega) (by rw [Nat.zero_add]; exact hgr)
    simp only [Nat.zero_add, List.nil_append] at hr
    obtain ⟨G, hG⟩ : ∃ G, G = grownCap w n 0 3 := ⟨_, rfl⟩
    have hGn : n ≤ G := by rw [hG]; exact grownCap_ge w _ _ _
    have hGm : G ≤ maxLen := by rw [hG]; exact grownCap_le_maxLen w _ _ _ (by unfold maxLen; omega)
    rw [← hG] at hr
    obtain ⟨W1, hW1⟩ : ∃ W1, W1 = w.drew.alloc (.cells ((#[] : Array Value) ++ Builtin.zeroCells (Value.int .i64 0).cells n ++ Builtin.zeroCells (Value.int .i64 0).cells (G - n)) 3) := ⟨_, rfl⟩
    rw [← hW1] at hr
    have hbel : Below w.heap.size w W1 := by rw [hW1]; exact (Below.refl _ w).drew.alloc (Nat.le_refl _) _
    have hown : W1.ownsRow w.heap.size 3 1 (.slice (some ⟨w.heap.size, 0, none⟩) 0 G) 0 [] := by
      refine ⟨by simp, .inr ⟨w.heap.size, G, _, rfl, Nat.le_refl _, by rw [hW1]; exact heap_alloc_new w.drew _, Nat.zero_le _, hGm, ?_, by simp⟩⟩
      simp only [Array.size_append, Array.size_empty, size_zeroCells]
      show 0 + n * 1 + (G - n) * 1 = G * 1
      omega
    have HOWN := Lib.hid hown
    unfold maxLen at hGm
    clear hW1 hG hown hgr hz0 hz1 hz2 hi
    go_enter Tryd.func77, Tryd.ntmps77
    go_wp2_with (at_builtin; refine Lib.wpList_append_run _ rfl _ _ _ _ rfl _ _ rfl rfl _ _ (hr _) ?_)
    go_ret
    exact ⟨_, _, rfl, HOWN.out, hbel⟩
set_option maxRecDepth 100000 in
set_option maxHeartbeats 2000000 in
theorem int_Concat (b n1 c1 n2 c2 : Nat) (A1 A2 : Option Addr) (xs1 xs2 : List Value) (w : World) (hb : b < w.heap.size) (h1 : w.cell? ⟨b, 0, none⟩ = some (.slice A1 n1 c1)) (h2 : w.cell? ⟨b, 1, none⟩ = some (.slice A2 n2 c2))
    (hl1 : xs1.length = n1 * 1) (hl2 : xs2.length = n2 * 1) (hr1 : Rd w w.heap.size A1 xs1) (hr2 : Rd w w.heap.size A2 xs2) (o1 : ∀ u ∈ xs1, u.oneCell' = true) (o2 : ∀ u ∈ xs2, u.oneCell' = true) (hn1 : n1 ≤ 1000) (hn2 : n2 ≤ 1000) :
    Calls Tryd.prog 72 #[.slice (some ⟨b, 0, none⟩) 2 2] w fun e w' => ∃ A c, e = .returned (.slice A (n1 + n2) c) ∧ w'.ownsRow w.heap.size 3 1 (.slice A (n1 + n2) c) (n1 + n2) (xs1 ++ xs2) ∧ Below w.heap.size w w' := by
  obtain ⟨i0, hi, hz0, hz1, hz2⟩ := info_parts infoInt
  have HR1 := Lib.hid hr1
  have HR2 := Lib.hid hr2
  clear hr1 hr2
  go_enter Tryd.func72, Tryd.ntmps72
  go_wp2
  go_loop [3, 11] (fun sz i => (i = .int .i64 0 ∧ sz = .int .i64 0) ∨ (i = .int .i64 1 ∧ sz = .int .i64 n1) ∨ (i = .int .i64 2 ∧ sz = .int .i64 ((n1 + n2 : Nat) : Int))) (fun _ i => 2 - (intOf i).toNat)
  case atStart => exact .inl ⟨rfl, rfl⟩
  case round =>
    rcases hrel with ⟨rfl, rfl⟩ | ⟨rfl, rfl⟩ | ⟨rfl, rfl⟩
    · go_wp2
      go_round
      case rel => exact .inr (.inl ⟨rfl, rfl⟩)
      case measure => simp [intOf]
    · go_wp2
      go_round
      case rel => exact .inr (.inr ⟨rfl, by go_num⟩)
      case measure => simp [intOf]
    · have HG := Lib.hid (int_Grow (n1 + n2) w (by omega))
      obtain ⟨N, hN⟩ : ∃ N, N = n1 + n2 := ⟨_, rfl⟩
      rw [← hN] at HG ⊢
      have hNb : N ≤ 2000 := by omega
      have HN := Lib.hid hN
      clear hN
      go_wp2_with (go_at_call 77; refine HG.out.mono ?_; rintro e W1 ⟨A0, c0, rfl, hown0, hb1⟩; obtain ⟨hcb1, hfb1⟩ := bcell hb1)
      have HOWN0 := Lib.hid hown0
      clear hown0 HG hcb1 hfb1
      go_loopw [6, 27] (fun v i wr => Below w.heap.size w wr ∧ ((i = .int .i64 0 ∧ ∃ A c, v = .slice A 0 c ∧ wr.ownsRow w.heap.size 3 1 (.slice A 0 c) 0 []) ∨ (i = .int .i64 1 ∧ ∃ A c, v = .slice A n1 c ∧ wr.ownsRow w.heap.size 3 1 (.slice A n1 c) n1 xs1) ∨ (i = .int .i64 2 ∧ ∃ A c, v = .slice A (n1 + n2) c ∧ wr.ownsRow w.heap.size 3 1 (.slice A (n1 + n2) c) (n1 + n2) (xs1 ++ xs2)))) (fun _ i _ => 2 - (intOf i).toNat)
      case atStart => exact ⟨hb1, .inl ⟨rfl, _, _, rfl, HOWN0.out⟩⟩
      case round =>
        obtain ⟨hbr, hcase⟩ := hrel
        have hd1 : wr.cell? ⟨b, 0, none⟩ = some (.slice A1 n1 c1) := (hbr.cell (p := ⟨b, 0, none⟩) hb).trans h1
        have hd2 : wr.cell? ⟨b, 1, none⟩ = some (.slice A2 n2 c2) := (hbr.cell (p := ⟨b, 1, none⟩) hb).trans h2
        have hbs := hbr.size
        have hR1 : Rd wr wr.heap.size A1 xs1 := HR1.out.below' hbr
        have hR2 : Rd wr wr.heap.size A2 xs2 := HR2.out.below' hbr
        rcases hcase with ⟨rfl, A, c, rfl, hown⟩ | ⟨rfl, A, c, rfl, hown⟩ | ⟨rfl, A, c, rfl, hown⟩
        · go_wp2_with (at_builtin; refine wpList_append_rd _ rfl (.tmp 31) (.tmp 32) 25 rfl w.heap.size 3 i0 _ 1 8 Tryd.underlying25 hi hz0 hz1 hz2 rfl (by decide) (.slice A 0 c) 0 _ rfl hown wr.heap.size A1 n1 c1 xs1 rfl hl1 hR1 o1 (by unfold maxLen; omega) (by omega) hbs ?_; intro v' w1 hown1 hgrow hvb hbel; obtain ⟨A', c', rfl, _⟩ := ownsRow_form hown1)
          go_roundw
          case rel =>
            rw [Nat.zero_add, List.nil_append] at hown1
            exact ⟨hbr.trans hbel, .inr (.inl ⟨rfl, A', c', rfl, hown1⟩)⟩
          case measure => simp [intOf]
        · go_wp2_with (at_builtin; refine wpList_append_rd _ rfl (.tmp 31) (.tmp 32) 25 rfl w.heap.size 3 i0 _ 1 8 Tryd.underlying25 hi hz0 hz1 hz2 rfl (by decide) (.slice A n1 c) n1 _ rfl hown wr.heap.size A2 n2 c2 xs2 rfl hl2 hR2 o2 (by unfold maxLen; omega) (by omega) hbs ?_; intro v' w1 hown1 hgrow hvb hbel; obtain ⟨A', c', rfl, _⟩ := ownsRow_form hown1)
          go_roundw
          case rel => exact ⟨hbr.trans hbel, .inr (.inr ⟨rfl, A', c', rfl, hown1⟩)⟩
          case measure => simp [intOf]
        · go_wp2
          go_ret
          exact ⟨A, c, rfl, hown, hbr⟩
end Go.Proofs.YtanicpgmbhfipaaDoor
namespace Go.Proofs.YtanicpgmbhfipaaDoor
set_option linter.unusedVariables false
set_option linter.unusedSimpArgs false
open Go.RowKit Go.Sort

def dsc0 (d : DscP) : Int := firstE [pairE d.o d.g, unl (decide (max d.es.length d.us.length ≤ 16)) 8, unl (d.he || decide (d.es.length = 0)) 3]
theorem dscP_eq (d : DscP) : dscP d = if dsc0 d ≠ 0 then (0, dsc0 d) else eachE (entE d.es.length) 0 (d.es ++ d.us) := by
  unfold dscP dsc0
  have hp : pairE d.o d.g = 0 ∨ pairE d.o d.g = 2 := by unfold pairE; cases (hldB d.o && hldB d.g) <;> simp [unl]
  rcases hp with h | h
  · rw [h]
    by_cases h1 : 16 < d.es.length ∨ 16 < d.us.length
    · have h2 : decide (max d.es.length d.us.length ≤ 16) = false := by simp; omega
      rw [h2]
      simp [firstE, unl, h1]
    · have h2 : decide (max d.es.length d.us.length ≤ 16) = true := by simp; omega
      rw [h2]
      cases hh : d.he
      · by_cases h3 : d.es = []
        · simp [firstE, unl, h1, h3]
          omega
        · have h4 : decide (d.es.length = 0) = false := by simp [h3]
          rw [h4]
          simp [firstE, unl, h1, h3]
      · simp [firstE, unl, h1]
  · rw [h]; simp [firstE]
theorem aceV_one (l : List AceP) : ∀ u ∈ acesV l, u.oneCell' = true := by
  intro u hu
  unfold acesV at hu
  obtain ⟨a, _, h⟩ := List.mem_flatMap.1 hu
  simp only [aceV, List.mem_cons, List.not_mem_nil, or_false] at h
  rcases h with rfl | rfl | rfl | rfl <;> rfl
theorem acesV_append (l m : List AceP) : acesV (l ++ m) = acesV l ++ acesV m := by unfold acesV; rw [List.flatMap_append]
def dscV (d : DscP) (A1 A2 : Option Addr) (c1 c2 : Nat) : Value := .agg #[.int .i64 d.o, .int .i64 d.g, .bool d.pr, .bool d.he, .slice A1 d.es.length c1, .slice A2 d.us.length c2]

set_option maxRecDepth 100000 in
set_option maxHeartbeats 4000000 in
theorem CheckDsc_any (d : DscP) (A1 A2 : Option Addr) (c1 c2 : Nat) (w : World) (h1 : d.es.length ≤ 500) (h2 : d.us.length ≤ 500) (hr1 : Rd w w.heap.size A1 (acesV d.es)) (hr2 : Rd w w.heap.size A2 (acesV d.us)) :
    Calls Tryd.prog 49 #[dscV d A1 A2 c1 c2] w fun e w' => e = .returned (.tuple #[.int .i64 (dscP d).1, .int .i64 (dscP d).2]) ∧ Below w.heap.size w w' := by
  obtain ⟨q1, q2, hq⟩ : ∃ q1 q2, dscP d = (q1, q2) := ⟨_, _, rfl⟩
  have hq2 := dscP_eq d
  rw [hq] at hq2 ⊢
  have h0 : dsc0 d = firstE [pairE d.o d.g, unl (decide (max d.es.length d.us.length ≤ 16)) 8, unl (d.he || decide (d.es.length = 0)) 3] := rfl
  unfold dscV
  clear hq
  obtain ⟨o, g, pr, he, es, us⟩ := d
  dsimp only at h0 hq2 h1 h2 hr1 hr2 ⊢
  obtain ⟨r, hr⟩ : ∃ r, r = dsc0 ⟨o, g, pr, he, es, us⟩ := ⟨_, rfl⟩
  rw [← hr] at h0 hq2
  obtain ⟨e1, he1⟩ : ∃ e, e = pairE o g := ⟨_, rfl⟩
  obtain ⟨e2, he2⟩ : ∃ e, e = unl (decide (max es.length us.length ≤ 16)) 8 := ⟨_, rfl⟩
  obtain ⟨e3, he3⟩ : ∃ e, e = unl (he || decide (es.length = 0)) 3 := ⟨_, rfl⟩
  rw [← he1, ← he2, ← he3] at h0
  have hmx : decide (max (es.length : Int) us.length ≤ 16) = decide (max es.length us.length ≤ 16) := by
    rw [decide_eq_decide]; omega
  have HH := Lib.hid (fun W => holdersErr_any o g W)
  have HU2 := Lib.hid (fun W => acl_unless_any (decide (max (es.length : Int) us.length ≤ 16)) 8 W)
  have HU3 := Lib.hid (fun W => acl_unless_any (he || decide (es.length = 0)) 3 W)
  rw [← he1] at HH
  rw [hmx, ← he2, ← hmx] at HU2
  rw [← he3] at HU3
  have H0 := Lib.hid h0
  have HQ := Lib.hid hq2
  have HR1 := Lib.hid hr1
  have HR2 := Lib.hid hr2
  clear h0 hq2 hr he1 he2 he3 hr1 hr2 hmx
  go_enter Tryd.func49, Tryd.ntmps49
  cases he
  · cases hd : decide (es.length = 0)
    · have hk : ((es.length : Int) == 0) = false := by
        rw [beq_eq_false_iff_ne]; intro h; have := of_decide_eq_false hd; omega
      rw [hd] at HU3
      replace HU3 := Lib.hid (show ∀ W, Calls Tryd.prog 57 #[.bool false, .int .i64 3] W fun e w' => e = .returned (.int .i64 e3) ∧ W = w' from HU3.out)
      go_wp2
      (refine wp_region_flow [false, false, false, false, false, false, false, false, false, false, false, false, false, false, false, false, false, false, false, false, false, false, false, true, true] [⟨23, [], ErrsI w.heap.size [e1, e2, e3], false⟩, ⟨24, [23], IntV r, false⟩] (by kernel_rfl) (by kernel_rfl) (by kernel_rfl) (by kernel_rfl) ?_; simp only [pick, List.length_cons, List.length_nil, List.drop_succ_cons, List.drop_zero, Nat.zero_add, Nat.reduceAdd]; apply Exists.intro; refine ⟨fun X hX => ?_, ?_⟩; (focus (obtain ⟨hcX, hfX⟩ := bcell hX; have hgX := regcell hX; have hsX := hX.size; (try simp only [World.size_alloc] at hsX); (repeat (go_big_quiet_step ((first | (go_at_call 63; (with_reducible exact Calls.reg_pure (HH.out _))) | (go_at_call 57; (with_reducible exact Calls.reg_pure (HU2.out _))) | (go_at_call 57; (with_reducible exact Calls.reg_pure (HU3.out _))))))); exact wpQuiet_nil rfl)); simp only [wpND, told, toldAll, List.contains_cons, List.contains_nil, List.mem_cons, List.not_mem_nil, forall_eq_or_imp, false_implies, implies_true, and_true, Nat.reduceBEq, BEq.rfl, beq_self_eq_true, Bool.or_false, Bool.false_or, Bool.true_or, Bool.or_true, Bool.false_eq_true, if_true, if_false, true_implies, dstAt, List.getElem?_toArray, List.getElem?_cons_succ, List.getElem?_cons_zero, Option.some.injEq, forall_eq', Option.bind_some, Act.put, List.setIfInBounds_toArray, List.set_cons_succ, List.set_cons_zero])
      refine ⟨ErrsI.stable, fun X hX => ?_, fun v1 => ⟨IntV.stable, fun X hX hf => ?_, fun v2 X hX hf => ?_⟩⟩
      · exact leaves_alloc' (v := .slice (some ⟨X.heap.size, 0, none⟩) 3 3) (obj := .cells #[.int .i64 e1, .int .i64 e2, .int .i64 e3] 35) (by kernel_rfl) ⟨X.heap.size, rfl, by have := hX.size; simp at this; omega, heap_alloc_new _ _⟩
      · refine leaves_call' (f := 56) (args := #[v1]) (by kernel_rfl) ?_
        rw [H0.out]
        exact acl_first_errs [e1, e2, e3] (by simp) hf
      · obtain ⟨h2v, _⟩ := hf
        obtain rfl : v2 = .int .i64 r := h2v
        have hbX : Below w.heap.size w X := bel_trans (bel_alloc (Below.refl _ _) _) hX
        have hDX : w.heap.size < X.heap.size := by have := hX.size; simp at this; omega
        have k4 : X.cell? ⟨w.heap.size, 4, none⟩ = some (.slice A1 es.length c1) := (hX.cell (p := ⟨w.heap.size, 4, none⟩) (by simp)).trans (by simp)
        have k5 : X.cell? ⟨w.heap.size, 5, none⟩ = some (.slice A2 us.length c2) := (hX.cell (p := ⟨w.heap.size, 5, none⟩) (by simp)).trans (by simp)
        by_cases hr0 : r = 0
        · have hr0' : (r != 0) = false := by rw [hr0]; rfl
          have hq := HQ.out
          rw [if_neg (by simpa using hr0)] at hq
          have hbX2 := bel_alloc hbX (.cells #[.slice A1 es.length c1, .slice A2 us.length c2] 22)
          have hcat := (ace_Concat X.heap.size es.length c1 us.length c2 A1 A2 (acesV es) (acesV us) (X.alloc (.cells #[.slice A1 es.length c1, .slice A2 us.length c2] 22)) (by simp) (by simp) (by simp) (acesV_length _) (acesV_length _) (HR1.out.below' hbX2) (HR2.out.below' hbX2) (aceV_one _) (aceV_one _) (by omega) (by omega))
          rw [← List.length_append, ← acesV_append] at hcat
          obtain ⟨L, hL⟩ : ∃ L, L = es ++ us := ⟨_, rfl⟩
          have hLl : L.length ≤ 1000 := by rw [hL, List.length_append]; omega
          rw [← hL] at hcat hq
          have HQ2 := Lib.hid hq
          clear hL
          have HCAT := Lib.hid hcat
          clear hcat
          have k4' := fun W (hW : Below (X.alloc (.cells #[.slice A1 es.length c1, .slice A2 us.length c2] 22)).heap.size (X.alloc (.cells #[.slice A1 es.length c1, .slice A2 us.length c2] 22)) W) => ((bel_trans (bel_alloc (Below.refl _ X) _) hW).cell (p := ⟨w.heap.size, 4, none⟩) hDX).trans k4
          have HK4 := Lib.hid k4'
          have hmf : ∀ (fn : Fn) (first cap : Array Value) (w : World), (Instr.makeFunc fn first cap).run Tryd.prog w = .ok (.func fn first cap) w := fun _ _ _ _ => rfl
          clear hr0 hq k4'
          go_wp2_with (first | (go_at_call 65; refine HCAT.out.mono ?_; rintro e W3 ⟨A3, c3, rfl, hown3, hb3⟩; have hs3 := hb3.size; rw [World.size_alloc] at hs3) | (go_at_call 64; refine (eachDsc_any A3 A1 c3 c1 w.heap.size es.length L W3 hLl (Rd.of_own hown3) (by omega) (HK4.out _ hb3) (by omega)).mono ?_; rintro e W4 ⟨rfl, hb4⟩))
          go_ret2
          exact ⟨retII (by rw [← HQ2.out]) (by rw [← HQ2.out]), bel_trans (bel_trans hbX2 hb3) hb4⟩
        · have hr0' : (r != 0) = true := by simpa using hr0
          have hq := HQ.out
          rw [if_pos hr0] at hq
          injection hq with hq1 hq2
          have HQ1 := Lib.hid hq1
          have HQ2 := Lib.hid hq2
          clear hr0 hq1 hq2
          go_wp2
          go_ret2
          exact ⟨retII HQ1.out.symm HQ2.out.symm, hbX⟩
    · have hk : ((es.length : Int) == 0) = true := by
        rw [beq_iff_eq]; have := of_decide_eq_true hd; omega
      rw [hd] at HU3
      replace HU3 := Lib.hid (show ∀ W, Calls Tryd.prog 57 #[.bool true, .int .i64 3] W fun e w' => e = .returned (.int .i64 e3) ∧ W = w' from HU3.out)
      go_wp2
      (refine wp_region_flow [false, false, false, false, false, false, false, false, false, false, false, false, false, false, false, false, false, false, false, false, false, false, false, true, true] [⟨23, [], ErrsI w.heap.size [e1, e2, e3], false⟩, ⟨24, [23], IntV r, false⟩] (by kernel_rfl) (by kernel_rfl) (by kernel_rfl) (by kernel_rfl) ?_; simp only [pick, List.length_cons, List.length_nil, List.drop_succ_cons, List.drop_zero, Nat.zero_add, Nat.reduceAdd]; apply Exists.intro; refine ⟨fun X hX => ?_, ?_⟩; (focus (obtain ⟨hcX, hfX⟩ := bcell hX; have hgX := regcell hX; have hsX := hX.size; (try simp only [World.size_alloc] at hsX); (repeat (go_big_quiet_step ((first | (go_at_call 63; (with_reducible exact Calls.reg_pure (HH.out _))) | (go_at_call 57; (with_reducible exact Calls.reg_pure (HU2.out _))) | (go_at_call 57; (with_reducible exact Calls.reg_pure (HU3.out _))))))); exact wpQuiet_nil rfl)); simp only [wpND, told, toldAll, List.contains_cons, List.contains_nil, List.mem_cons, List.not_mem_nil, forall_eq_or_imp, false_implies, implies_true, and_true, Nat.reduceBEq, BEq.rfl, beq_self_eq_true, Bool.or_false, Bool.false_or, Bool.true_or, Bool.or_true, Bool.false_eq_true, if_true, if_false, true_implies, dstAt, List.getElem?_toArray, List.getElem?_cons_succ, List.getElem?_cons_zero, Option.some.injEq, forall_eq', Option.bind_some, Act.put, List.setIfInBounds_toArray, List.set_cons_succ, List.set_cons_zero])
      refine ⟨ErrsI.stable, fun X hX => ?_, fun v1 => ⟨IntV.stable, fun X hX hf => ?_, fun v2 X hX hf => ?_⟩⟩
      · exact leaves_alloc' (v := .slice (some ⟨X.heap.size, 0, none⟩) 3 3) (obj := .cells #[.int .i64 e1, .int .i64 e2, .int .i64 e3] 35) (by kernel_rfl) ⟨X.heap.size, rfl, by have := hX.size; simp at this; omega, heap_alloc_new _ _⟩
      · refine leaves_call' (f := 56) (args := #[v1]) (by kernel_rfl) ?_
        rw [H0.out]
        exact acl_first_errs [e1, e2, e3] (by simp) hf
      · obtain ⟨h2v, _⟩ := hf
        obtain rfl : v2 = .int .i64 r := h2v
        have hbX : Below w.heap.size w X := bel_trans (bel_alloc (Below.refl _ _) _) hX
        have hDX : w.heap.size < X.heap.size := by have := hX.size; simp at this; omega
        have k4 : X.cell? ⟨w.heap.size, 4, none⟩ = some (.slice A1 es.length c1) := (hX.cell (p := ⟨w.heap.size, 4, none⟩) (by simp)).trans (by simp)
        have k5 : X.cell? ⟨w.heap.size, 5, none⟩ = some (.slice A2 us.length c2) := (hX.cell (p := ⟨w.heap.size, 5, none⟩) (by simp)).trans (by simp)
        by_cases hr0 : r = 0
        · have hr0' : (r != 0) = false := by rw [hr0]; rfl
          have hq := HQ.out
          rw [if_neg (by simpa using hr0)] at hq
          have hbX2 := bel_alloc hbX (.cells #[.slice A1 es.length c1, .slice A2 us.length c2] 22)
          have hcat := (ace_Concat X.heap.size es.length c1 us.length c2 A1 A2 (acesV es) (acesV us) (X.alloc (.cells #[.slice A1 es.length c1, .slice A2 us.length c2] 22)) (by simp) (by simp) (by simp) (acesV_length _) (acesV_length _) (HR1.out.below' hbX2) (HR2.out.below' hbX2) (aceV_one _) (aceV_one _) (by omega) (by omega))
          rw [← List.length_append, ← acesV_append] at hcat
          obtain ⟨L, hL⟩ : ∃ L, L = es ++ us := ⟨_, rfl⟩
          have hLl : L.length ≤ 1000 := by rw [hL, List.length_append]; omega
          rw [← hL] at hcat hq
          have HQ2 := Lib.hid hq
          clear hL
          have HCAT := Lib.hid hcat
          clear hcat
          have k4' := fun W (hW : Below (X.alloc (.cells #[.slice A1 es.length c1, .slice A2 us.length c2] 22)).heap.size (X.alloc (.cells #[.slice A1 es.length c1, .slice A2 us.length c2] 22)) W) => ((bel_trans (bel_alloc (Below.refl _ X) _) hW).cell (p := ⟨w.heap.size, 4, none⟩) hDX).trans k4
          have HK4 := Lib.hid k4'
          have hmf : ∀ (fn : Fn) (first cap : Array Value) (w : World), (Instr.makeFunc fn first cap).run Tryd.prog w = .ok (.func fn first cap) w := fun _ _ _ _ => rfl
          clear hr0 hq k4'
          go_wp2_with (first | (go_at_call 65; refine HCAT.out.mono ?_; rintro e W3 ⟨A3, c3, rfl, hown3, hb3⟩; have hs3 := hb3.size; rw [World.size_alloc] at hs3) | (go_at_call 64; refine (eachDsc_any A3 A1 c3 c1 w.heap.size es.length L W3 hLl (Rd.of_own hown3) (by omega) (HK4.out _ hb3) (by omega)).mono ?_; rintro e W4 ⟨rfl, hb4⟩))
          go_ret2
          exact ⟨retII (by rw [← HQ2.out]) (by rw [← HQ2.out]), bel_trans (bel_trans hbX2 hb3) hb4⟩
        · have hr0' : (r != 0) = true := by simpa using hr0
          have hq := HQ.out
          rw [if_pos hr0] at hq
          injection hq with hq1 hq2
          have HQ1 := Lib.hid hq1
          have HQ2 := Lib.hid hq2
          clear hr0 hq1 hq2
          go_wp2
          go_ret2
          exact ⟨retII HQ1.out.symm HQ2.out.symm, hbX⟩
  · replace HU3 := Lib.hid (show ∀ W, Calls Tryd.prog 57 #[.bool true, .int .i64 3] W fun e w' => e = .returned (.int .i64 e3) ∧ W = w' from HU3.out)
    go_wp2
    (refine wp_region_flow [false, false, false, false, false, false, false, false, false, false, false, false, false, false, false, false, false, false, false, false, false, false, false, true, true] [⟨23, [], ErrsI w.heap.size [e1, e2, e3], false⟩, ⟨24, [23], IntV r, false⟩] (by kernel_rfl) (by kernel_rfl) (by kernel_rfl) (by kernel_rfl) ?_; simp only [pick, List.length_cons, List.length_nil, List.drop_succ_cons, List.drop_zero, Nat.zero_add, Nat.reduceAdd]; apply Exists.intro; refine ⟨fun X hX => ?_, ?_⟩; (focus (obtain ⟨hcX, hfX⟩ := bcell hX; have hgX := regcell hX; have hsX := hX.size; (try simp only [World.size_alloc] at hsX); (repeat (go_big_quiet_step ((first | (go_at_call 63; (with_reducible exact Calls.reg_pure (HH.out _))) | (go_at_call 57; (with_reducible exact Calls.reg_pure (HU2.out _))) | (go_at_call 57; (with_reducible exact Calls.reg_pure (HU3.out _))))))); exact wpQuiet_nil rfl)); simp only [wpND, told, toldAll, List.contains_cons, List.contains_nil, List.mem_cons, List.not_mem_nil, forall_eq_or_imp, false_implies, implies_true, and_true, Nat.reduceBEq, BEq.rfl, beq_self_eq_true, Bool.or_false, Bool.false_or, Bool.true_or, Bool.or_true, Bool.false_eq_true, if_true, if_false, true_implies, dstAt, List.getElem?_toArray, List.getElem?_cons_succ, List.getElem?_cons_zero, Option.some.injEq, forall_eq', Option.bind_some, Act.put, List.setIfInBounds_toArray, List.set_cons_succ, List.set_cons_zero])
    refine ⟨ErrsI.stable, fun X hX => ?_, fun v1 => ⟨IntV.stable, fun X hX hf => ?_, fun v2 X hX hf => ?_⟩⟩
    · exact leaves_alloc' (v := .slice (some ⟨X.heap.size, 0, none⟩) 3 3) (obj := .cells #[.int .i64 e1, .int .i64 e2, .int .i64 e3] 35) (by kernel_rfl) ⟨X.heap.size, rfl, by have := hX.size; simp at this; omega, heap_alloc_new _ _⟩
    · refine leaves_call' (f := 56) (args := #[v1]) (by kernel_rfl) ?_
      rw [H0.out]
      exact acl_first_errs [e1, e2, e3] (by simp) hf
    · obtain ⟨h2v, _⟩ := hf
      obtain rfl : v2 = .int .i64 r := h2v
      have hbX : Below w.heap.size w X := bel_trans (bel_alloc (Below.refl _ _) _) hX
      have hDX : w.heap.size < X.heap.size := by have := hX.size; simp at this; omega
      have k4 : X.cell? ⟨w.heap.size, 4, none⟩ = some (.slice A1 es.length c1) := (hX.cell (p := ⟨w.heap.size, 4, none⟩) (by simp)).trans (by simp)
      have k5 : X.cell? ⟨w.heap.size, 5, none⟩ = some (.slice A2 us.length c2) := (hX.cell (p := ⟨w.heap.size, 5, none⟩) (by simp)).trans (by simp)
      by_cases hr0 : r = 0
      · have hr0' : (r != 0) = false := by rw [hr0]; rfl
        have hq := HQ.out
        rw [if_neg (by simpa using hr0)] at hq
        have hbX2 := bel_alloc hbX (.cells #[.slice A1 es.length c1, .slice A2 us.length c2] 22)
        have hcat := (ace_Concat X.heap.size es.length c1 us.length c2 A1 A2 (acesV es) (acesV us) (X.alloc (.cells #[.slice A1 es.length c1, .slice A2 us.length c2] 22)) (by simp) (by simp) (by simp) (acesV_length _) (acesV_length _) (HR1.out.below' hbX2) (HR2.out.below' hbX2) (aceV_one _) (aceV_one _) (by omega) (by omega))
        rw [← List.length_append, ← acesV_append] at hcat
        obtain ⟨L, hL⟩ : ∃ L, L = es ++ us := ⟨_, rfl⟩
        have hLl : L.length ≤ 1000 := by rw [hL, List.length_append]; omega
        rw [← hL] at hcat hq
        have HQ2 := Lib.hid hq
        clear hL
        have HCAT := Lib.hid hcat
        clear hcat
        have k4' := fun W (hW : Below (X.alloc (.cells #[.slice A1 es.length c1, .slice A2 us.length c2] 22)).heap.size (X.alloc (.cells #[.slice A1 es.length c1, .slice A2 us.length c2] 22)) W) => ((bel_trans (bel_alloc (Below.refl _ X) _) hW).cell (p := ⟨w.heap.size, 4, none⟩) hDX).trans k4
        have HK4 := Lib.hid k4'
        have hmf : ∀ (fn : Fn) (first cap : Array Value) (w : World), (Instr.makeFunc fn first cap).run Tryd.prog w = .ok (.func fn first cap) w := fun _ _ _ _ => rfl
        clear hr0 hq k4'
        go_wp2_with (first | (go_at_call 65; refine HCAT.out.mono ?_; rintro e W3 ⟨A3, c3, rfl, hown3, hb3⟩; have hs3 := hb3.size; rw [World.size_alloc] at hs3) | (go_at_call 64; refine (eachDsc_any A3 A1 c3 c1 w.heap.size es.length L W3 hLl (Rd.of_own hown3) (by omega) (HK4.out _ hb3) (by omega)).mono ?_; rintro e W4 ⟨rfl, hb4⟩))
        go_ret2
        exact ⟨retII (by rw [← HQ2.out]) (by rw [← HQ2.out]), bel_trans (bel_trans hbX2 hb3) hb4⟩
      · have hr0' : (r != 0) = true := by simpa using hr0
        have hq := HQ.out
        rw [if_pos hr0] at hq
        injection hq with hq1 hq2
        have HQ1 := Lib.hid hq1
        have HQ2 := Lib.hid hq2
        clear hr0 hq1 hq2
        go_wp2
        go_ret2
        exact ⟨retII HQ1.out.symm HQ2.out.symm, hbX⟩
end Go.Proofs.YtanicpgmbhfipaaDoor
namespace Go.Proofs.YtanicpgmbhfipaaDoor
set_option linter.unusedVariables false
set_option linter.unusedSimpArgs false
open Go.RowKit Go.Sort

theorem access_first2 (e1 e2 : Int) (w : World) : Calls Tryd.prog 29 #[.slice (some ⟨w.heap.size, 0, none⟩) 2 2] (w.alloc (.cells #[.int .i64 e1, .int .i64 e2] 35)) fun e w' => e = .returned (.int .i64 (firstE [e1, e2])) ∧ w.alloc (.cells #[.int .i64 e1, .int .i64 e2] 35) = w' :=
  access_first_list [e1, e2] w (by simp)
set_option maxRecDepth 100000 in
set_option maxHeartbeats 1000000 in
theorem usersErr1_any (D c : Nat) (A : Option Addr) (l : List Int) (i : Nat) (w : World) (hi : i < l.length) (hl : l.length ≤ 100000) (hD : D < w.heap.size) (hc : w.cell? ⟨D, 0, none⟩ = some (.slice A l.length c)) (hr : Rd w w.heap.size A (l.map (.int .i64))) :
    Calls Tryd.prog 53 #[.int .i64 i, .int .i64 l[i], .pointer (some ⟨D, 0, none⟩)] w fun e w' => e = .returned (.int .i64 (ordE l i l[i])) ∧ Below w.heap.size w w' := by
  obtain ⟨n, hn⟩ : ∃ n, n = l[i] := ⟨_, rfl⟩
  rw [← hn]
  obtain ⟨r, hre⟩ : ∃ r, r = ordE l i n := ⟨_, rfl⟩
  rw [← hre]
  unfold ordE at hre
  obtain ⟨e1, he1⟩ : ∃ e, e = unl (hldB n) 2 := ⟨_, rfl⟩
  have HU1 := Lib.hid (fun W => access_unless_any (hldB n) 2 W)
  rw [← he1] at HU1 hre
  by_cases h0 : i = 0
  · subst h0
    obtain ⟨e2, he2⟩ : ∃ e, e = unl true 9 := ⟨_, rfl⟩
    have hre' : r = firstE [e1, e2] := by rw [hre, he2]; rfl
    have HU2 := Lib.hid (fun W => access_unless_any true 9 W)
    rw [← he2] at HU2
    have HF := access_first2 e1 e2 w
    rw [← hre'] at HF
    have HF := Lib.hid HF
    clear hre hre' he1 he2 hn hr
    go_enter Tryd.func53, Tryd.ntmps53
    go_wp2_with (first | (go_at_call 36; refine (isUser_any _ _).mono ?_; rintro e w' ⟨rfl, rfl⟩) | (go_at_call 35; (with_reducible refine (HU1.out _).mono ?_); rintro e w' ⟨rfl, rfl⟩) | (go_at_call 35; (with_reducible refine (HU2.out _).mono ?_); rintro e w' ⟨rfl, rfl⟩) | (go_at_call 29; refine (HF.out).mono ?_; rintro e w' ⟨rfl, rfl⟩))
    go_ret
    exact ⟨rfl, bel_alloc (Below.refl _ _) _⟩
  · obtain ⟨j, rfl⟩ : ∃ j, i = j + 1 := ⟨i - 1, by omega⟩
    obtain ⟨b, o, rfl, hB, hcc⟩ := hr.opened (by rw [List.length_map]; omega)
    have cj : w.cell? ⟨b, o + j, none⟩ = some (.int .i64 (l[j]'(by omega))) := hcc _ _ (by rw [List.getElem?_map, List.getElem?_eq_getElem (by omega)]; rfl)
    obtain ⟨p, hp⟩ : ∃ p, p = l[j]'(by omega) := ⟨_, rfl⟩
    rw [← hp] at cj
    have hg : l.getD (j + 1 - 1) 0 = p := by rw [hp, Nat.add_sub_cancel, List.getD_eq_getElem?_getD, List.getElem?_eq_getElem (by omega)]; rfl
    obtain ⟨e2, he2⟩ : ∃ e, e = unl (decide (p < n)) 9 := ⟨_, rfl⟩
    have hre' : r = firstE [e1, e2] := by
      rw [hre, he2, hg, show (j + 1 == 0) = false from rfl]; rfl
    have HU2 := Lib.hid (fun W => access_unless_any (decide (p < n)) 9 W)
    rw [← he2] at HU2
    have HF := access_first2 e1 e2 w
    rw [← hre'] at HF
    have HF := Lib.hid HF
    have hmx : max 0 ((j : Int) + 1 - 1) = j := by omega
    have hne : ((j : Int) + 1 == 0) = false := by rw [beq_eq_false_iff_ne]; omega
    clear hre hre' he1 he2 hn hr hcc hp hg h0
    go_enter Tryd.func53, Tryd.ntmps53
    go_wp2_with (first | (go_at_call 36; refine (isUser_any _ _).mono ?_; rintro e w' ⟨rfl, rfl⟩) | (go_at_call 35; (with_reducible refine (HU1.out _).mono ?_); rintro e w' ⟨rfl, rfl⟩) | (go_at_call 35; (with_reducible refine (HU2.out _).mono ?_); rintro e w' ⟨rfl, rfl⟩) | (go_at_call 29; refine (HF.out).mono ?_; rintro e w' ⟨rfl, rfl⟩))
    go_ret
    exact ⟨rfl, bel_alloc (Below.refl _ _) _⟩
end Go.Proofs.YtanicpgmbhfipaaDoor
namespace Go.Proofs.YtanicpgmbhfipaaDoor
set_option linter.unusedVariables false
set_option linter.unusedSimpArgs false
open Go.RowKit Go.Sort

set_option maxRecDepth 100000 in
set_option maxHeartbeats 2000000 in
theorem eachUsers_any (A : Option Addr) (c D : Nat) (l : List Int) (w : World) (hlen : l.length ≤ 100000) (hr : Rd w w.heap.size A (l.map (.int .i64))) (hD : D < w.heap.size) (hc : w.cell? ⟨D, 0, none⟩ = some (.slice A l.length c)) :
    Calls Tryd.prog 52 #[.slice A l.length c, .func (.func 53) #[] #[.pointer (some ⟨D, 0, none⟩)]] w fun e w' =>
      e = .returned (.tuple #[.int .i64 (eachE (ordE l) 0 l).1, .int .i64 (eachE (ordE l) 0 l).2]) ∧ Below w.heap.size w w' := by
  have HC := Lib.hid (fun (i : Nat) (hi : i < l.length) (W : World) (hW : Below w.heap.size w W) => usersErr1_any D c A l i W hi hlen (by have := hW.size; omega) ((hW.cell (p := ⟨D, 0, none⟩) hD).trans hc) (hr.below' hW))
  clear hc
  go_enter Tryd.func52, Tryd.ntmps52
  go_wp2
  go_loopw [11] (fun i wr => ∃ k : Nat, k ≤ l.length ∧ i = .int .i64 k ∧ Below w.heap.size w wr ∧ eachE (ordE l) 0 l = eachE (ordE l) k (l.drop k)) (fun i _ => l.length - (intOf i).toNat)
  case atStart => exact ⟨0, Nat.zero_le _, rfl, Below.refl _ _, rfl⟩
  case round =>
    obtain ⟨k, hk, rfl, hb, hf⟩ := hrel
    have HF := Lib.hid hf
    clear hf
    by_cases hlt : k < l.length
    · have hr2 := hr.below hb
      obtain ⟨b, o, rfl, hB, hcc⟩ := hr2.opened (by rw [List.length_map]; omega)
      obtain ⟨n, hn⟩ : ∃ n, n = l[k] := ⟨_, rfl⟩
      have c0 : wr.cell? ⟨b, o + k, none⟩ = some (.int .i64 n) := hcc _ _ (by rw [List.getElem?_map, List.getElem?_eq_getElem hlt, hn]; rfl)
      have hd : l.drop k = l[k] :: l.drop (k + 1) := List.drop_eq_getElem_cons hlt
      obtain ⟨r, hre⟩ : ∃ r, r = ordE l k l[k] := ⟨_, rfl⟩
      have hC2 := HC.out k hlt wr hb
      rw [← hre, ← hn] at hC2
      rw [← hn] at hd hre
      have HD := Lib.hid hd
      have HC2 := Lib.hid hC2
      have HRE := Lib.hid hre
      clear hd hn hcc hr hr2 hre hC2
      by_cases h0 : r = 0
      · subst h0
        go_wp2_with (go_at_call 53; refine HC2.out.mono ?_; rintro e w1 ⟨rfl, hb1⟩)
        go_roundw
        case rel => exact ⟨k + 1, by omega, by go_num, bel_trans hb hb1, by rw [HF.out, HD.out, eachE, if_pos HRE.out.symm]⟩
        case measure => simp [intOf]; omega
      · have h0' : (r != 0) = true := by simp [h0]
        have H0 := Lib.hid h0
        clear h0
        go_wp2_with (go_at_call 53; refine HC2.out.mono ?_; rintro e w1 ⟨rfl, hb1⟩)
        go_ret2
        have e : eachE (ordE l) 0 l = ((k : Int), r) := by rw [HF.out, HD.out, eachE, if_neg (by rw [← HRE.out]; exact H0.out), ← HRE.out]
        exact ⟨retII (by rw [e]) (by rw [e]), bel_trans hb hb1⟩
    · go_wp2
      go_ret2
      exact ⟨retII (by rw [HF.out, List.drop_of_length_le (by omega)]; rfl) (by rw [HF.out, List.drop_of_length_le (by omega)]; rfl), hb⟩
set_option maxRecDepth 100000 in
theorem usersErr_any (A : Option Addr) (c : Nat) (l : List Int) (w : World) (hlen : l.length ≤ 100000) (hr : Rd w w.heap.size A (l.map (.int .i64))) :
    Calls Tryd.prog 37 #[.slice A l.length c] w fun e w' => e = .returned (.int .i64 (usersE l)) ∧ Below w.heap.size w w' := by
  have hmf : ∀ (fn : Fn) (first cap : Array Value) (w : World), (Instr.makeFunc fn first cap).run Tryd.prog w = .ok (.func fn first cap) w := fun _ _ _ _ => rfl
  have HE := Lib.hid (eachUsers_any A c w.heap.size l (w.alloc (.cells #[.slice A l.length c] 25)) hlen (hr.below' (bel_alloc (Below.refl _ _) _)) (by simp) (by simp))
  obtain ⟨q, hq⟩ : ∃ q, q = (eachE (ordE l) 0 l).1 := ⟨_, rfl⟩
  rw [← hq] at HE
  clear hq hr
  go_enter Tryd.func37, Tryd.ntmps37
  go_wp2_with (go_at_call 52; refine HE.out.mono ?_; rintro e w1 ⟨rfl, hb1⟩)
  go_ret
  exact ⟨rfl, bel_trans (bel_alloc (Below.refl _ _) _) hb1⟩
end Go.Proofs.YtanicpgmbhfipaaDoor
namespace Go.Proofs.YtanicpgmbhfipaaDoor
set_option linter.unusedVariables false
set_option linter.unusedSimpArgs false
open Go.RowKit Go.Sort

def tokV (t : TokP) (A : Option Addr) (c : Nat) : Value := .agg #[.int .i64 t.u, .slice A t.gs.length c, .int .i64 t.p]
set_option maxRecDepth 100000 in
set_option maxHeartbeats 2000000 in
theorem CheckToken_any (t : TokP) (A : Option Addr) (c : Nat) (w : World) (hl : t.gs.length ≤ 100000) (hr : Rd w w.heap.size A (t.gs.map (.int .i64))) :
    Calls Tryd.prog 17 #[tokV t A c] w fun e w' => e = .returned (.int .i64 (tokE t)) ∧ Below w.heap.size w w' := by
  obtain ⟨r, hre⟩ : ∃ r, r = tokE t := ⟨_, rfl⟩
  rw [← hre]
  unfold tokE at hre
  unfold tokV
  obtain ⟨u, gs, p⟩ := t
  dsimp only at hre hl hr ⊢
  obtain ⟨e1, he1⟩ : ∃ e, e = unl (hldB u) 2 := ⟨_, rfl⟩
  obtain ⟨e2, he2⟩ : ∃ e, e = unl (decide (gs.length ≤ 16)) 8 := ⟨_, rfl⟩
  obtain ⟨e3, he3⟩ : ∃ e, e = usersE gs := ⟨_, rfl⟩
  obtain ⟨e4, he4⟩ : ∃ e, e = unl (inB p 0 15) 2 := ⟨_, rfl⟩
  rw [← he1, ← he2, ← he3, ← he4] at hre
  have HU1 := Lib.hid (fun W => access_unless_any (hldB u) 2 W)
  have HU2 := Lib.hid (fun W => access_unless_any (decide (gs.length ≤ 16)) 8 W)
  have HU4 := Lib.hid (fun W => access_unless_any (inB p 0 15) 2 W)
  rw [← he1] at HU1
  rw [← he2] at HU2
  rw [← he4] at HU4
  have HR := Lib.hid hr
  have HUS := Lib.hid (fun W (hW : Below w.heap.size w W) => usersErr_any A c gs W hl (HR.out.below' hW))
  rw [← he3] at HUS
  have H0 := Lib.hid hre
  clear hre he1 he2 he3 he4 hr
  have hk16 : decide ((gs.length : Int) ≤ 16) = decide (gs.length ≤ 16) := by rw [decide_eq_decide]; omega
  go_enter Tryd.func17, Tryd.ntmps17
  go_wp2
  (refine wp_region_flow [false, false, false, false, false, false, false, false, false, false, false, false, false, false, false, false, true, true] [⟨16, [], ErrsI w.heap.size [e1, e2, e3, e4], false⟩, ⟨17, [16], IntV r, false⟩] (by kernel_rfl) (by kernel_rfl) (by kernel_rfl) (by kernel_rfl) ?_; simp only [pick, List.length_cons, List.length_nil, List.drop_succ_cons, List.drop_zero, Nat.zero_add, Nat.reduceAdd]; apply Exists.intro; refine ⟨fun X hX => ?_, ?_⟩; (focus (obtain ⟨hcX, hfX⟩ := bcell hX; have hgX := regcell hX; have hsX := hX.size; (try simp only [World.size_alloc] at hsX); (repeat (go_big_quiet_step ((first | (go_at_call 36; (with_reducible exact Calls.reg_pure (isUser_any _ _))) | (go_at_call 38; (with_reducible exact Calls.reg_pure (access_within_any _ _ _ _))) | (go_at_call 35; (with_reducible exact Calls.reg_pure (HU1.out _))) | (go_at_call 35; (with_reducible exact Calls.reg_pure (HU2.out _))) | (go_at_call 35; (with_reducible exact Calls.reg_pure (HU4.out _))) | (go_at_call 37; (with_reducible exact Calls.regrown_of (HUS.out _ (bel_trans (bel_trans (bel_alloc (Below.refl _ _) _) hX) (below_regrown X _ _))))))))); exact wpQuiet_nil rfl)); simp only [wpND, told, toldAll, List.contains_cons, List.contains_nil, List.mem_cons, List.not_mem_nil, forall_eq_or_imp, false_implies, implies_true, and_true, Nat.reduceBEq, BEq.rfl, beq_self_eq_true, Bool.or_false, Bool.false_or, Bool.true_or, Bool.or_true, Bool.false_eq_true, if_true, if_false, true_implies, dstAt, List.getElem?_toArray, List.getElem?_cons_succ, List.getElem?_cons_zero, Option.some.injEq, forall_eq', Option.bind_some, Act.put, List.setIfInBounds_toArray, List.set_cons_succ, List.set_cons_zero])
  refine ⟨ErrsI.stable, fun X hX => ?_, fun v1 => ⟨IntV.stable, fun X hX hf => ?_, fun v2 X hX hf => ?_⟩⟩
  · exact leaves_alloc' (v := .slice (some ⟨X.heap.size, 0, none⟩) 4 4) (obj := .cells #[.int .i64 e1, .int .i64 e2, .int .i64 e3, .int .i64 e4] 35) (by kernel_rfl) ⟨X.heap.size, rfl, by have := hX.size; simp at this; omega, heap_alloc_new _ _⟩
  · refine leaves_call' (f := 29) (args := #[v1]) (by kernel_rfl) ?_
    rw [H0.out]
    exact access_first_errs [e1, e2, e3, e4] (by simp) hf
  · obtain ⟨h2v, _⟩ := hf
    obtain rfl : v2 = .int .i64 r := h2v
    go_wp2
    go_ret
    exact ⟨rfl, bel_trans (bel_alloc (Below.refl _ _) _) hX⟩
end Go.Proofs.YtanicpgmbhfipaaDoor
namespace Go.Proofs.YtanicpgmbhfipaaDoor
set_option linter.unusedVariables false
set_option linter.unusedSimpArgs false
open Go.RowKit Go.Sort

set_option maxRecDepth 100000 in
theorem has_any (t : TokP) (A : Option Addr) (c : Nat) (who : Int) (w : World) (hl : t.gs.length ≤ 100000) (hr : Rd w w.heap.size A (t.gs.map (.int .i64)))
    (HCON : ∀ W, Below w.heap.size w W → Calls Tryd.prog 58 #[.slice A t.gs.length c, .int .i64 who] W fun e w' => e = .returned (.bool (t.gs.contains who)) ∧ W = w') :
    Calls Tryd.prog 40 #[tokV t A c, .int .i64 who] w fun e w' => e = .returned (.bool (isT t who)) ∧ Below w.heap.size w w' := by
  obtain ⟨r, hre⟩ : ∃ r, r = isT t who := ⟨_, rfl⟩
  rw [← hre]
  unfold isT at hre
  unfold tokV
  obtain ⟨u, gs, p⟩ := t
  dsimp only at hre hl hr HCON ⊢
  have HC := Lib.hid HCON
  clear HCON hr
  by_cases h1 : who = 1
  · subst h1
    have H := Lib.hid hre
    clear hre
    go_enter Tryd.func40, Tryd.ntmps40
    go_wp2
    go_ret
    exact ⟨by rw [H.out]; rfl, bel_alloc (Below.refl _ _) _⟩
  · have k1 : (who == 1) = false := by simpa using h1
    by_cases h2 : who = u
    · subst h2
      have H := Lib.hid (show r = true by rw [hre]; simp)
      clear hre h1
      go_enter Tryd.func40, Tryd.ntmps40
      go_wp2
      go_ret
      exact ⟨by rw [H.out]; rfl, bel_alloc (Below.refl _ _) _⟩
    · have k2 : (who == u) = false := by simpa using h2
      have H := Lib.hid (show r = gs.contains who by rw [hre, k1, k2]; rfl)
      clear hre h1 h2
      go_enter Tryd.func40, Tryd.ntmps40
      go_wp2_with (go_at_call 58; refine (HC.out _ (bel_alloc (Below.refl _ _) _)).mono ?_; rintro e w' ⟨rfl, rfl⟩)
      go_ret
      exact ⟨by rw [H.out, show gs.contains who = decide (who ∈ gs) by simp]; rfl, bel_alloc (Below.refl _ _) _⟩
end Go.Proofs.YtanicpgmbhfipaaDoor
namespace Go.Proofs.YtanicpgmbhfipaaDoor
set_option linter.unusedVariables false
set_option linter.unusedSimpArgs false
open Go.RowKit Go.Sort

theorem contains_any (A : Option Addr) (c : Nat) (l : List Int) (x : Int) (w : World) (hl : l.length ≤ 100000) (hr : Rd w w.heap.size A (l.map (.int .i64))) :
    Calls Tryd.prog 58 #[.slice A l.length c, .int .i64 x] w fun e w' => e = .returned (.bool (l.contains x)) ∧ w = w' := by
  by_cases h0 : l = []
  · subst h0
    exact (Tryd.slices_Contains_int_empty A c x w).mono fun e w' ⟨h1, h2⟩ => ⟨h1, h2.symm⟩
  · obtain ⟨b, o, rfl, hB, hc⟩ := hr.opened (by rw [List.length_map]; exact List.length_pos_iff.2 h0)
    refine (Tryd.slices_Contains_int b o l.length c l x w (Nat.le_refl _) (by omega) (fun j hj => hc _ _ ?_)).mono fun e w' ⟨h1, h2⟩ => ⟨by rw [h1, List.take_length], h2.symm⟩
    rw [List.getElem?_map, List.getElem?_eq_getElem hj, List.getD_eq_getElem?_getD, List.getElem?_eq_getElem hj]; rfl
theorem has_it (t : TokP) (A : Option Addr) (c : Nat) (who : Int) (w : World) (hl : t.gs.length ≤ 100000) (hr : Rd w w.heap.size A (t.gs.map (.int .i64))) :
    Calls Tryd.prog 40 #[tokV t A c, .int .i64 who] w fun e w' => e = .returned (.bool (isT t who)) ∧ Below w.heap.size w w' :=
  has_any t A c who w hl hr fun W hW => contains_any A c t.gs who W hl (hr.below' hW)

/-- the table of what privileges grant -/
def GrT (w : World) : Prop := Rd w w.heap.size (some ⟨0, 0, none⟩) [.int .i64 1, .int .i64 73, .int .i64 2, .int .i64 438, .int .i64 8, .int .i64 256]
theorem GrT.below {w w' : World} (h : GrT w) (hb : Below w.heap.size w w') : GrT w' := Rd.below' h hb
theorem GrT.cells {w : World} (h : GrT w) : 0 < w.heap.size ∧ w.cell? ⟨0, 0, none⟩ = some (.int .i64 1) ∧ w.cell? ⟨0, 1, none⟩ = some (.int .i64 73) ∧ w.cell? ⟨0, 2, none⟩ = some (.int .i64 2) ∧ w.cell? ⟨0, 3, none⟩ = some (.int .i64 438) ∧ w.cell? ⟨0, 4, none⟩ = some (.int .i64 8) ∧ w.cell? ⟨0, 5, none⟩ = some (.int .i64 256) := by
  obtain ⟨b, o, e, hB, hc⟩ := Rd.opened h (by simp)
  injection e with e
  injection e with e1 e2
  subst e1 e2
  exact ⟨hB, hc 0 _ rfl, hc 1 _ rfl, hc 2 _ rfl, hc 3 _ rfl, hc 4 _ rfl, hc 5 _ rfl⟩
set_option maxRecDepth 100000 in
set_option maxHeartbeats 1000000 in
theorem privileged_any (t : TokP) (A : Option Addr) (c : Nat) (w : World) (hg : GrT w) :
    Calls Tryd.prog 67 #[tokV t A c] w fun e w' => e = .returned (.int .i64 (prvR t.p 3)) ∧ Below w.heap.size w w' := by
  obtain ⟨u, gs, p⟩ := t
  unfold tokV
  dsimp only
  obtain ⟨h0, c0, c1, c2, c3, c4, c5⟩ := hg.cells
  obtain ⟨r1, h1⟩ : ∃ r, r = prvR p 1 := ⟨_, rfl⟩
  obtain ⟨r2, h2⟩ : ∃ r, r = prvR p 2 := ⟨_, rfl⟩
  obtain ⟨r3, h3⟩ : ∃ r, r = prvR p 3 := ⟨_, rfl⟩
  rw [← h3]
  have e1 : r1 = if (bits .and .i64 p 1 != 0) = true then bits .or .i64 0 73 else 0 := h1
  have e2 : r2 = if (bits .and .i64 p 2 != 0) = true then bits .or .i64 r1 438 else r1 := by rw [h1]; exact h2
  have e3 : r3 = if (bits .and .i64 p 8 != 0) = true then bits .or .i64 r2 256 else r2 := by rw [h2]; exact h3
  have E1 := Lib.hid e1
  have E2 := Lib.hid e2
  have E3 := Lib.hid e3
  clear e1 e2 e3 h1 h2 h3
  have hix0 : ∀ W, (Instr.index 102 (.agg #[.int .i64 1, .int .i64 73, .int .i64 2, .int .i64 438, .int .i64 8, .int .i64 256]) (.int .i64 0)).run Tryd.prog W = .ok (.agg #[.int .i64 1, .int .i64 73]) W := fun W => by kernel_rfl
  have hix1 : ∀ W, (Instr.index 102 (.agg #[.int .i64 1, .int .i64 73, .int .i64 2, .int .i64 438, .int .i64 8, .int .i64 256]) (.int .i64 1)).run Tryd.prog W = .ok (.agg #[.int .i64 2, .int .i64 438]) W := fun W => by kernel_rfl
  have hix2 : ∀ W, (Instr.index 102 (.agg #[.int .i64 1, .int .i64 73, .int .i64 2, .int .i64 438, .int .i64 8, .int .i64 256]) (.int .i64 2)).run Tryd.prog W = .ok (.agg #[.int .i64 8, .int .i64 256]) W := fun W => by kernel_rfl
  go_enter Tryd.func67, Tryd.ntmps67
  go_wp2
  go_loopw [3, 7] (fun r i wr => Below w.heap.size w wr ∧ wr.cell? ⟨w.heap.size, 2, none⟩ = some (.int .i64 p) ∧ ((i = .int .i64 0 ∧ r = .int .i64 0) ∨ (i = .int .i64 1 ∧ r = .int .i64 r1) ∨ (i = .int .i64 2 ∧ r = .int .i64 r2) ∨ (i = .int .i64 3 ∧ r = .int .i64 r3))) (fun _ i _ => 3 - (intOf i).toNat)
  case atStart => exact ⟨bel_alloc (Below.refl _ _) _, by simp, .inl ⟨rfl, rfl⟩⟩
  case round =>
    obtain ⟨hb, hp, hcase⟩ := hrel
    have hbs : w.heap.size < wr.heap.size := block_lt_of_cell hp
    rcases hcase with ⟨rfl, rfl⟩ | ⟨rfl, rfl⟩ | ⟨rfl, rfl⟩ | ⟨rfl, rfl⟩
    · cases hB : (bits .and .i64 p 1 != 0)
      · have H := Lib.hid (show r1 = 0 by rw [E1.out, hB]; rfl)
        go_wp2
        go_roundw
        case rel => exact ⟨bel_alloc hb _, ((bel_alloc (Below.refl _ wr) _).cell (p := ⟨w.heap.size, 2, none⟩) hbs).trans hp, .inr (.inl ⟨rfl, by rw [H.out]⟩)⟩
        case measure => simp [intOf]
      · have H := Lib.hid (show r1 = bits .or .i64 0 73 by rw [E1.out, hB]; rfl)
        go_wp2
        go_roundw
        case rel => exact ⟨bel_alloc hb _, ((bel_alloc (Below.refl _ wr) _).cell (p := ⟨w.heap.size, 2, none⟩) hbs).trans hp, .inr (.inl ⟨rfl, by rw [H.out] <;> rfl⟩)⟩
        case measure => simp [intOf]
    · cases hB : (bits .and .i64 p 2 != 0)
      · have H := Lib.hid (show r2 = r1 by rw [E2.out, hB]; rfl)
        go_wp2
        go_roundw
        case rel => exact ⟨bel_alloc hb _, ((bel_alloc (Below.refl _ wr) _).cell (p := ⟨w.heap.size, 2, none⟩) hbs).trans hp, .inr (.inr (.inl ⟨rfl, by rw [H.out]⟩))⟩
        case measure => simp [intOf]
      · have H := Lib.hid (show r2 = bits .or .i64 r1 438 by rw [E2.out, hB]; rfl)
        go_wp2
        go_roundw
        case rel => exact ⟨bel_alloc hb _, ((bel_alloc (Below.refl _ wr) _).cell (p := ⟨w.heap.size, 2, none⟩) hbs).trans hp, .inr (.inr (.inl ⟨rfl, by rw [H.out]⟩))⟩
        case measure => simp [intOf]
    · cases hB : (bits .and .i64 p 8 != 0)
      · have H := Lib.hid (show r3 = r2 by rw [E3.out, hB]; rfl)
        go_wp2
        go_roundw
        case rel => exact ⟨bel_alloc hb _, ((bel_alloc (Below.refl _ wr) _).cell (p := ⟨w.heap.size, 2, none⟩) hbs).trans hp, .inr (.inr (.inr ⟨rfl, by rw [H.out]⟩))⟩
        case measure => simp [intOf]
      · have H := Lib.hid (show r3 = bits .or .i64 r2 256 by rw [E3.out, hB]; rfl)
        go_wp2
        go_roundw
        case rel => exact ⟨bel_alloc hb _, ((bel_alloc (Below.refl _ wr) _).cell (p := ⟨w.heap.size, 2, none⟩) hbs).trans hp, .inr (.inr (.inr ⟨rfl, by rw [H.out]⟩))⟩
        case measure => simp [intOf]
    · go_wp2
      go_ret
      exact ⟨rfl, hb⟩
theorem counts_any (a : AceP) (w : World) (h0 : 0 ≤ a.f) (h1 : a.f ≤ 31) : Calls Tryd.prog 70 #[.agg #[.int .i64 a.k, .int .i64 a.f, .int .i64 a.m, .int .i64 a.w]] w fun e w' => e = .returned (.bool (cntB a)) ∧ Below w.heap.size w w' := by
  have h := cnt_bits a h0 h1
  obtain ⟨B, hB⟩ : ∃ B, B = cntB a := ⟨_, rfl⟩
  rw [← hB] at h ⊢
  have H := Lib.hid h
  clear h hB
  obtain ⟨k, f, m, v⟩ := a
  dsimp only at H ⊢
  go_enter Tryd.func70, Tryd.ntmps70
  go_wp2
  go_ret
  exact ⟨by rw [← H.out]; rfl, bel_alloc (Below.refl _ _) _⟩
end Go.Proofs.YtanicpgmbhfipaaDoor
