/-
  Chapter 22: plain words of histories: which are valid. No program in sight.
  Chapter 22: lists in the order of their keys; the table of a history. No program in sight.
  Chapter 21, plain words: the patches between two pages.
  Chapter 21, plain laws: the patches between two pages, applied, give the second one; they are apart; LSNs; redoing.
  Chapter 22: pages, redone; what is undone, and in which order. No program in sight.
  Rows of structs: lists of cells, each struct's cells behind the one before. No program in sight.
-/
import Derived.Test.YtcfdpfmchchkaaaGreatDoorOpF
import Derived.Test.YtcfdpfmchchkaaaGreatDoorOpEnt
import Derived.Test.YtcfdpfmchchkaaaGreatDoorOpB
import Derived.Test.YtcfdpfmchchkaaaGreatDoorSplD
import Derived.Test.YtcfdpfmchchkaaaGreatDoorOpA
namespace Go.Proofs.YtcfdpfmchchkaaaGreatDoor
set_option linter.unusedVariables false
set_option linter.unusedSimpArgs false
open Go.RowKit
instance opDec : DecidableEq Op := fun x y => decidable_of_iff (x.k = y.k ∧ x.a = y.a ∧ x.e = y.e ∧ x.c = y.c ∧ x.o = y.o ∧ x.n = y.n) (by cases x; cases y; simp)
structure Chn where
 l : Int
 k : Int
 u : Int
def aftC (c : Chn) (n : Int) (x : Lge) : Chn := ⟨n, x.k, if x.k = 0 then n else if x.k = 1 then x.x else c.u⟩
def isOpE (x : Lge) : Bool := x.k == 0 || x.k == 1
def fndI (l : List Rcd) (n : Int) : Option Rcd := l.find? fun x => x.l == n
def fstL (l : List Rcd) : Int := match l with | [] => 0 | x :: _ => x.l
def begR (h0 : Int) (x : Lge) (ended : Bool) : Chn × Int := if x.p > (if ended then 0 else h0 - 1) then (⟨0, 0, 0⟩, 14) else (⟨x.p, if x.p ≠ 0 then -1 else 0, if x.p ≠ 0 then -1 else 0⟩, 0)
def folL (k : Int) : List Int := if k = 0 then [0, 1, 2, 3, 4] else if k = 1 then [1, 4] else if k = 2 then [4] else if k = 3 then [1, 4] else []
def folB (k c : Int) : Bool := (folL k).any fun x => x == c
def undE (l : List Rcd) (i : Nat) (c : Chn) (x : Lge) : Int := if c.u = 0 then 13 else match fndI (l.take i) c.u with
 | none => unl (decide (x.x < fstL l)) 13
 | some u => unl (u.e.k == 0 && x.x == u.e.p && x.g == u.e.g && x.f == u.e.f && decide (x.o = opInv u.e.o)) 13
def rcdC (h0 : Int) (g : Int → Option Chn) (x : Lge) : Chn × Int := match g x.t with
 | some c => if c.k = 4 then begR h0 x true else (c, unl (x.p == c.l) 14)
 | none => begR h0 x false
def cpE (x : Lge) : Int := if x.t ≠ 0 ∨ x.p ≠ 0 then 3 else tofE (bl x.d)
def rcdE0 (l : List Rcd) (i : Nat) (x : Rcd) : Int := firstE [unl (inB x.l 1 2147483647) 2, unl (match bfrL l i with | none => true | some y => decide (y.l < x.l)) 9, entE x.e]
def rcdE1 (l : List Rcd) (i : Nat) (c : Chn × Int) (x : Lge) : Int := firstE [c.2, if c.1.k = -1 then 0 else unl (folB c.1.k x.k) 20, if x.k = 1 then undE l i c.1 x else 0]
def rcdE (l : List Rcd) (i : Nat) (g : Int → Option Chn) (x : Rcd) : Int :=
 if rcdE0 l i x ≠ 0 then rcdE0 l i x else if x.e.k = 5 then cpE x.e else if x.e.t = 0 then 2 else rcdE1 l i (rcdC (fstL l) g x.e) x.e
def updG (g : Int → Option Chn) (t : Int) (c : Chn) : Int → Option Chn := fun s => if s = t then some c else g s
def chsH (l : List Rcd) : Nat → Int → Option Chn
 | 0 => fun _ => none
 | i + 1 => match l[i]? with
  | none => chsH l i
  | some x => if x.e.k = 5 then chsH l i else updG (chsH l i) x.e.t (aftC (rcdC (fstL l) (chsH l i) x.e).1 x.l x.e)
def chkH (l : List Rcd) : Int × Int := if 100 < l.length then (0, 8) else eachE (fun i x => rcdE l i (chsH l i) x) 0 l
def bfrH (l : List Rcd) (t : Int) : Nat → Option Nat
 | 0 => none
 | k + 1 => match l[k]? with
  | none => bfrH l t k
  | some x => if x.e.k ≠ 5 ∧ x.e.t = t then some k else bfrH l t k
theorem bfrH_lt {l : List Rcd} {t : Int} : ∀ {i k : Nat}, bfrH l t i = some k → k < i ∧ ∃ x, l[k]? = some x ∧ x.e.k ≠ 5 ∧ x.e.t = t
 | 0, k, h => by cases h
 | i + 1, k, h => by
  unfold bfrH at h
  split at h
  · obtain ⟨h1, h2⟩ := bfrH_lt h; exact ⟨by omega, h2⟩
  · rename_i x hx
    split at h
    · rename_i hc
      cases h
      exact ⟨by omega, x, hx, hc⟩
    · obtain ⟨h1, h2⟩ := bfrH_lt h; exact ⟨by omega, h2⟩
def nxtH (l : List Rcd) (i : Nat) : Int :=
 match l[i]? with
 | none => 0
 | some x => if x.e.k = 0 then x.l else if x.e.k = 1 then x.e.x else
  match h : bfrH l x.e.t i with
  | none => if x.e.p ≠ 0 then -1 else 0
  | some k => if (match l[k]? with | none => false | some y => y.e.k != 4) then nxtH l k else if x.e.p ≠ 0 then -1 else 0
 termination_by i
 decreasing_by exact (bfrH_lt h).1
def kndH (l : List Rcd) (k : Nat) : Int := match l[k]? with | none => 0 | some y => y.e.k
def lsnH (l : List Rcd) (k : Nat) : Int := match l[k]? with | none => 0 | some y => y.l
def chnH (l : List Rcd) (k : Nat) : Chn := ⟨lsnH l k, kndH l k, nxtH l k⟩
theorem lsnH_get {l : List Rcd} {k : Nat} (h : k < l.length) : lsnH l k = l[k].l := by unfold lsnH; rw [List.getElem?_eq_getElem h]
theorem kndH_get {l : List Rcd} {k : Nat} (h : k < l.length) : kndH l k = l[k].e.k := by unfold kndH; rw [List.getElem?_eq_getElem h]
theorem nxtH_get {l : List Rcd} {i : Nat} (hi : i < l.length) : nxtH l i = if l[i].e.k = 0 then l[i].l else if l[i].e.k = 1 then l[i].e.x else
 match bfrH l l[i].e.t i with
 | none => if l[i].e.p ≠ 0 then -1 else 0
 | some k => if kndH l k ≠ 4 ∧ k < l.length then nxtH l k else if l[i].e.p ≠ 0 then -1 else 0 := by
 rw [nxtH, List.getElem?_eq_getElem hi]
 simp only
 by_cases h0 : l[i].e.k = 0
 · rw [if_pos h0, if_pos h0]
 rw [if_neg h0, if_neg h0]
 by_cases h1 : l[i].e.k = 1
 · rw [if_pos h1, if_pos h1]
 rw [if_neg h1, if_neg h1]
 split
 · rename_i hb; rw [hb]
 · rename_i k hb
   rw [hb]
   simp only
   obtain ⟨hk, x, hx, _⟩ := bfrH_lt hb
   have hkl : k < l.length := (List.getElem?_eq_some_iff.1 hx).1
   unfold kndH
   rw [hx]
   simp only
   by_cases h4 : x.e.k = 4
   · simp [h4]
   · rw [if_pos (by simpa using h4), if_pos ⟨h4, hkl⟩]
theorem bfrH_get {l : List Rcd} {t : Int} {k : Nat} (h : k < l.length) : bfrH l t (k + 1) = if l[k].e.k ≠ 5 ∧ l[k].e.t = t then some k else bfrH l t k := by
 rw [bfrH, List.getElem?_eq_getElem h]
theorem chsH_get {l : List Rcd} {k : Nat} (h : k < l.length) : chsH l (k + 1) = if l[k].e.k = 5 then chsH l k else updG (chsH l k) l[k].e.t (aftC (rcdC (fstL l) (chsH l k) l[k].e).1 l[k].l l[k].e) := by
 rw [chsH, List.getElem?_eq_getElem h]
theorem begR_ok {h0 : Int} {x : Lge} {b : Bool} (h : (begR h0 x b).2 = 0) : x.p ≤ (if b then 0 else h0 - 1) ∧ (begR h0 x b).1 = ⟨x.p, if x.p ≠ 0 then -1 else 0, if x.p ≠ 0 then -1 else 0⟩ := by
 unfold begR at h ⊢
 by_cases hc : x.p > (if b = true then 0 else h0 - 1)
 · rw [if_pos hc] at h; cases h
 · rw [if_neg hc]
   exact ⟨by omega, rfl⟩
theorem rcdE_ok {l : List Rcd} {i : Nat} {g : Int → Option Chn} {x : Rcd} (h : rcdE l i g x = 0) : rcdE0 l i x = 0 ∧ (x.e.k = 5 → cpE x.e = 0) ∧ (x.e.k ≠ 5 → x.e.t ≠ 0 ∧ (rcdC (fstL l) g x.e).2 = 0 ∧
 ((rcdC (fstL l) g x.e).1.k = -1 ∨ folB (rcdC (fstL l) g x.e).1.k x.e.k = true) ∧ (x.e.k = 1 → undE l i (rcdC (fstL l) g x.e).1 x.e = 0)) := by
 unfold rcdE at h
 split at h
 · rename_i h1; exact absurd h h1
 rename_i h1
 have h1 := Classical.not_not.1 h1
 refine ⟨h1, fun h5 => by rw [if_pos h5] at h; exact h, fun h5 => ?_⟩
 rw [if_neg h5] at h
 split at h
 · cases h
 rename_i ht
 unfold rcdE1 at h
 rw [firstE_zero] at h
 simp only [List.mem_cons, List.not_mem_nil, or_false, forall_eq_or_imp, forall_eq] at h
 obtain ⟨a1, a2, a3⟩ := h
 refine ⟨ht, a1, ?_, fun hk => by rw [if_pos hk] at a3; exact a3⟩
 split at a2
 · rename_i hc; exact .inl hc
 · exact .inr ((unl_zero (by decide)).1 a2)
theorem chs_bfr {l : List Rcd} : ∀ i, i ≤ l.length → (∀ k (hk : k < l.length), k < i → rcdE l k (chsH l k) l[k] = 0) → ∀ t, chsH l i t = (bfrH l t i).map (chnH l)
 | 0, _, _, t => rfl
 | i + 1, hi, h, t => by
  have ih := chs_bfr i (by omega) (fun k hk hki => h k hk (by omega))
  have hlt : i < l.length := by omega
  rw [chsH_get hlt, bfrH_get hlt]
  by_cases h5 : l[i].e.k = 5
  · rw [if_pos h5, if_neg (by simp [h5])]; exact ih t
  rw [if_neg h5]
  obtain ⟨_, _, hr⟩ := rcdE_ok (h i hlt (by omega))
  obtain ⟨h1, h2, h3, h4⟩ := hr h5
  unfold updG
  by_cases ht : t = l[i].e.t
  · subst ht
    rw [if_pos rfl, if_pos ⟨h5, rfl⟩, Option.map_some]
    congr 1
    unfold aftC chnH
    rw [lsnH_get hlt, kndH_get hlt, nxtH_get hlt]
    congr 1
    by_cases k0 : l[i].e.k = 0
    · rw [if_pos k0, if_pos k0]
    rw [if_neg k0, if_neg k0]
    by_cases k1 : l[i].e.k = 1
    · rw [if_pos k1, if_pos k1]
    rw [if_neg k1, if_neg k1]
    have hih := ih l[i].e.t
    unfold rcdC at h2 ⊢
    cases hb : bfrH l l[i].e.t i with
    | none =>
     rw [hb] at hih
     rw [hih] at h2 ⊢
     simp only [Option.map_none] at h2 ⊢
     rw [(begR_ok h2).2]
    | some k =>
     rw [hb] at hih
     rw [hih] at h2 ⊢
     simp only [Option.map_some] at h2 ⊢
     obtain ⟨hk, x, hx, _⟩ := bfrH_lt hb
     have hkl : k < l.length := by omega
     by_cases h4 : kndH l k = 4
     · have e : (chnH l k).k = 4 := h4
       rw [if_pos e] at h2 ⊢
       rw [if_neg (by simp [h4]), (begR_ok h2).2]
     · have e : ¬ (chnH l k).k = 4 := h4
       rw [if_neg e] at h2 ⊢
       rw [if_pos ⟨h4, hkl⟩]; rfl
  · rw [if_neg ht, if_neg (by rintro ⟨_, q⟩; exact ht q.symm)]; exact ih t
end Go.Proofs.YtcfdpfmchchkaaaGreatDoor
namespace Go.Proofs.YtcfdpfmchchkaaaGreatDoor
set_option linter.unusedVariables false
set_option linter.unusedSimpArgs false
open Go.RowKit
section
variable {α : Type} (κ : α → Int)
def fndK (l : List α) (i : Int) : Option α := l.find? fun x => κ x == i
def insK (l : List α) (x : α) : List α := l.filter (fun y => decide (κ y < κ x)) ++ x :: l.filter (fun y => decide (κ x < κ y))
def delK (l : List α) (i : Int) : List α := l.filter fun y => decide (κ y ≠ i)
def SrtK (l : List α) : Prop := l.Pairwise fun x y => κ x < κ y
variable {κ}
theorem fndK_filter (p : α → Bool) (l : List α) (i : Int) (h : ∀ x ∈ l, κ x = i → p x = true) : fndK κ (l.filter p) i = fndK κ l i := by
 unfold fndK
 induction l with
 | nil => rfl
 | cons x l ih =>
  have ih := ih fun y hy => h y (List.mem_cons_of_mem _ hy)
  rw [List.filter_cons, List.find?_cons]
  by_cases hx : κ x = i
  · rw [if_pos (h x (List.mem_cons_self ..) hx), List.find?_cons, beq_iff_eq.2 hx]
  · have e : (κ x == i) = false := by simpa using hx
    rw [e]
    split
    · rw [List.find?_cons, e]; exact ih
    · exact ih
theorem fndK_none_of (l : List α) (i : Int) (h : ∀ x ∈ l, κ x ≠ i) : fndK κ l i = none := by
 unfold fndK
 rw [List.find?_eq_none]
 intro x hx
 simpa using h x hx
theorem fndK_some {l : List α} {i : Int} {x : α} (h : fndK κ l i = some x) : x ∈ l ∧ κ x = i := by
 unfold fndK at h
 exact ⟨List.mem_of_find?_eq_some h, by simpa using List.find?_some h⟩
theorem fndK_ins (l : List α) (x : α) (i : Int) : fndK κ (insK κ l x) i = if i = κ x then some x else fndK κ l i := by
 have e : fndK κ (insK κ l x) i = (fndK κ (l.filter (fun y => decide (κ y < κ x))) i).or (fndK κ (x :: l.filter (fun y => decide (κ x < κ y))) i) := by
  unfold fndK insK; rw [List.find?_append]
 rw [e]
 by_cases hi : i = κ x
 · rw [if_pos hi, fndK_none_of (l.filter (fun y => decide (κ y < κ x))) i fun y hy => by
    have := List.mem_filter.1 hy
    have := of_decide_eq_true this.2
    omega]
   unfold fndK
   rw [List.find?_cons, beq_iff_eq.2 hi.symm]; rfl
 · rw [if_neg hi]
   have e2 : fndK κ (x :: l.filter (fun y => decide (κ x < κ y))) i = fndK κ (l.filter (fun y => decide (κ x < κ y))) i := by
    unfold fndK
    have : (κ x == i) = false := by simpa using fun q => hi q.symm
    rw [List.find?_cons, this]
   rw [e2]
   rcases Int.lt_trichotomy i (κ x) with h | h | h
   · rw [fndK_filter _ l i fun y _ hy => decide_eq_true (by omega), fndK_none_of (l.filter (fun y => decide (κ x < κ y))) i fun y hy => by
      have := of_decide_eq_true (List.mem_filter.1 hy).2
      omega]
     simp
   · exact absurd h hi
   · rw [fndK_none_of (l.filter (fun y => decide (κ y < κ x))) i fun y hy => by
      have := of_decide_eq_true (List.mem_filter.1 hy).2
      omega, fndK_filter _ l i fun y _ hy => decide_eq_true (by omega)]
     simp
theorem fndK_del (l : List α) (k i : Int) : fndK κ (delK κ l k) i = if i = k then none else fndK κ l i := by
 unfold delK
 by_cases hi : i = k
 · rw [if_pos hi]
   exact fndK_none_of _ _ fun y hy => by
    have := of_decide_eq_true (List.mem_filter.1 hy).2
    omega
 · rw [if_neg hi]
   exact fndK_filter _ l i fun y _ hy => decide_eq_true (by omega)
theorem srt_ins {l : List α} (h : SrtK κ l) (x : α) : SrtK κ (insK κ l x) := by
 unfold SrtK insK at *
 rw [List.pairwise_append, List.pairwise_cons]
 refine ⟨h.filter _, ⟨fun y hy => of_decide_eq_true (List.mem_filter.1 hy).2, h.filter _⟩, fun y hy z hz => ?_⟩
 have h1 := of_decide_eq_true (List.mem_filter.1 hy).2
 rcases List.mem_cons.1 hz with rfl | hz
 · exact h1
 · have h2 := of_decide_eq_true (List.mem_filter.1 hz).2
   omega
theorem srt_del {l : List α} (h : SrtK κ l) (k : Int) : SrtK κ (delK κ l k) := h.filter _
theorem srt_nil : SrtK κ [] := .nil
theorem fndK_mem {l : List α} (h : SrtK κ l) {x : α} (hx : x ∈ l) : fndK κ l (κ x) = some x := by
 unfold SrtK at h
 unfold fndK
 induction l with
 | nil => cases hx
 | cons y l ih =>
  rw [List.pairwise_cons] at h
  rcases List.mem_cons.1 hx with rfl | hx
  · rw [List.find?_cons, beq_self_eq_true]
  · have := h.1 x hx
    have e : (κ y == κ x) = false := by rw [beq_eq_false_iff_ne]; omega
    rw [List.find?_cons, e]
    exact ih h.2 hx
theorem srt_ext {a b : List α} (ha : SrtK κ a) (hb : SrtK κ b) (h : ∀ i, fndK κ a i = fndK κ b i) : a = b := by
 have hm : ∀ x, x ∈ a ↔ x ∈ b := fun x =>
  ⟨fun hx => (fndK_some ((h (κ x)).symm.trans (fndK_mem ha hx))).1, fun hx => (fndK_some ((h (κ x)).trans (fndK_mem hb hx))).1⟩
 clear h
 unfold SrtK at ha hb
 induction a generalizing b with
 | nil =>
  cases b with
  | nil => rfl
  | cons y b => exact absurd ((hm y).2 (List.mem_cons_self ..)) List.not_mem_nil
 | cons x a ih =>
  cases b with
  | nil => exact absurd ((hm x).1 (List.mem_cons_self ..)) List.not_mem_nil
  | cons y b =>
   rw [List.pairwise_cons] at ha hb
   have hxy : x = y := by
    rcases List.mem_cons.1 ((hm x).1 (List.mem_cons_self ..)) with h1 | h1
    · exact h1
    · rcases List.mem_cons.1 ((hm y).2 (List.mem_cons_self ..)) with h2 | h2
      · exact h2.symm
      · have := hb.1 x h1
        have := ha.1 y h2
        omega
   subst hxy
   congr 1
   refine ih ha.2 hb.2 fun z => ?_
   have := hm z
   simp only [List.mem_cons] at this
   constructor
   · intro hz
     rcases this.1 (.inr hz) with rfl | h1
     · have := ha.1 _ hz; omega
     · exact h1
   · intro hz
     rcases this.2 (.inr hz) with rfl | h1
     · have := hb.1 _ hz; omega
     · exact h1
theorem srt_of_mem {a : List α} (ha : SrtK κ a) {b : List α} (hb : SrtK κ b) (h : ∀ x, x ∈ a ↔ x ∈ b) : a = b :=
 srt_ext ha hb fun i => by
  cases h1 : fndK κ a i with
  | none =>
   cases h2 : fndK κ b i with
   | none => rfl
   | some y =>
    obtain ⟨m, e⟩ := fndK_some h2
    have := fndK_mem ha ((h y).2 m)
    rw [e, h1] at this; cases this
  | some x =>
   obtain ⟨m, e⟩ := fndK_some h1
   have := fndK_mem hb ((h x).1 m)
   rw [e] at this; exact this.symm
theorem srt_get {l : List α} : SrtK κ l ↔ ∀ k (h : k + 1 < l.length), κ l[k] < κ l[k + 1] := by
 unfold SrtK
 rw [List.pairwise_iff_getElem]
 constructor
 · intro h k hk; exact h k (k + 1) (by omega) hk (by omega)
 · intro h i j hi hj hij
   obtain ⟨d, rfl⟩ : ∃ d, j = i + 1 + d := ⟨j - (i + 1), by omega⟩
   clear hij
   induction d with
   | zero => exact h i hj
   | succ d ih => exact Int.lt_trans (ih (by omega)) (h (i + 1 + d) hj)
end
def fndT (l : List Trn) (i : Int) : Option Trn := fndK Trn.i l i
def fndD (l : List Dty) (g : Int) : Option Dty := fndK Dty.g l g
def trn0 : Trn := ⟨0, 0, 0, false⟩
def ownT (t : Tbl) (x : Rcd) : Trn := ⟨x.e.t, x.l, if x.e.k = 0 then x.l else if x.e.k = 1 then x.e.x else ((fndT t.ts x.e.t).getD trn0).u, x.e.k == 2 || ((fndT t.ts x.e.t).getD trn0).c⟩
def chgD (t : Tbl) (x : Rcd) : List Dty := if isOpE x.e = true ∧ fndD t.ds x.e.g = none then insK Dty.g t.ds ⟨x.e.g, x.e.f, x.l⟩ else t.ds
def chgT (t : Tbl) (x : Rcd) : Tbl := if x.e.k = 5 then t else ⟨if x.e.k = 4 then delK Trn.i t.ts x.e.t else insK Trn.i t.ts (ownT t x), chgD t x⟩
structure SrtT (t : Tbl) : Prop where
 ts : SrtK Trn.i t.ts
 ds : SrtK Dty.g t.ds
theorem srt_tbl0 : SrtT tbl0 := ⟨srt_nil, srt_nil⟩
theorem SrtT.chg {t : Tbl} (h : SrtT t) (x : Rcd) : SrtT (chgT t x) := by
 unfold chgT
 split
 · exact h
 · refine ⟨?_, ?_⟩
   · split
     · exact srt_del h.ts _
     · exact srt_ins h.ts _
   · show SrtK Dty.g (chgD t x)
     unfold chgD
     split
     · exact srt_ins h.ds _
     · exact h.ds
theorem SrtT.fold {l : List Rcd} : ∀ {t : Tbl}, SrtT t → SrtT (l.foldl chgT t) := by
 induction l with
 | nil => exact fun h => h
 | cons x l ih => exact fun h => ih (h.chg x)
theorem TblOk.srt {t : Tbl} (h : TblOk t) : SrtT t := ⟨srt_get.2 h.tord, srt_get.2 h.dord⟩
def anlG (t0 : Tbl) (l : List Rcd) : Tbl × Int := if tblE (l.foldl chgT t0) ≠ 0 then (tbl0, tblE (l.foldl chgT t0)) else (l.foldl chgT t0, 0)
def anlV (l : List Rcd) (a : Int) : Tbl × Int := if a = 0 then anlG tbl0 l else match fndI l a with
 | none => (tbl0, 6)
 | some x => if x.e.k ≠ 5 then (tbl0, 6) else anlG (tofR (bl x.e.d)) (l.filter fun y => decide (a < y.l))
end Go.Proofs.YtcfdpfmchchkaaaGreatDoor
namespace Go.Proofs.YtcfdpfmchchkaaaGreatDoor
set_option linter.unusedVariables false
set_option linter.unusedSimpArgs false
open Go.RowKit
end Go.Proofs.YtcfdpfmchchkaaaGreatDoor
namespace Go.Proofs.YtcfdpfmchchkaaaGreatDoor
set_option linter.unusedVariables false
set_option linter.unusedSimpArgs false
open Go.RowKit
def lsnP (p : ByteArray) : Int := num (((bl p).drop 8).take 4) % 2147483648
def lsnW (p : ByteArray) (n : Int) : ByteArray := patS p 8 (bs (lit n 4))
theorem lsnW_size {p : ByteArray} {n : Int} (hp : p.size = 512) : (lsnW p n).size = 512 := by
 have h1 : (bs (lit n 4)).size = 4 := by rw [bs_size, lit_length]
 rw [← bl_length]; unfold lsnW
 rw [bl_patS, List.length_append, List.length_append, List.length_take, List.length_drop, bl_length, bl_length, h1, hp]; rfl
def lsnE' (n : Int) : Int := unl (inB n 1 2147483647) 2
def redo (p : ByteArray) (plain : Bool) (n : Int) (x : Op) : ByteArray × Bool × Int :=
 if firstE [pageE p, lsnE' n, opE x] ≠ 0 then (⟨#[]⟩, false, firstE [pageE p, lsnE' n, opE x])
 else if plain then (if x.k = 2 ∨ x.k = 3 then (⟨#[]⟩, false, 15) else (opDo p x, !(bl (opDo p x) == bl p), 0))
 else if n ≤ lsnP p then (p, false, 0)
 else if opFit p x then (lsnW (opDo p x) n, true, 0) else (⟨#[]⟩, false, 13)
theorem redo_val {p : ByteArray} {plain : Bool} {n : Int} {x : Op} (hp : p.size = 512) (hn : inB n 1 2147483647 = true) (hx : opE x = 0) :
 redo p plain n x = if plain then (if x.k = 2 ∨ x.k = 3 then (⟨#[]⟩, false, 15) else (opDo p x, !(bl (opDo p x) == bl p), 0)) else if n ≤ lsnP p then (p, false, 0) else if opFit p x then (lsnW (opDo p x) n, true, 0) else (⟨#[]⟩, false, 13) := by
 have e1 : lsnE' n = 0 := by unfold lsnE'; rw [hn]; rfl
 have e3 : pageE p = 0 := by unfold pageE; rw [hp]; rfl
 have e2 : firstE [pageE p, lsnE' n, opE x] = 0 := by rw [e3, e1, hx]; rfl
 unfold redo
 rw [e2, if_neg (fun g => g rfl)]
end Go.Proofs.YtcfdpfmchchkaaaGreatDoor
namespace Go.Proofs.YtcfdpfmchchkaaaGreatDoor
set_option linter.unusedVariables false
set_option linter.unusedSimpArgs false
open Go.RowKit
def pgpE (p : Option Pgp) (x : Pgp) : Int := firstE [unl (inB x.g 0 600) 2, unl (match p with | none => true | some y => decide (y.g < x.g)) 9, unl (x.b.size == 512) 10]
def pgsPE (l : List Pgp) : Int × Int := eachE (fun i x => pgpE (bfrL l i) x) 0 l
def pgsE1 (l : List Pgp) : Int := if 40 < l.length then 8 else (pgsPE l).2
def fndP (l : List Pgp) (g : Int) : Option Pgp := fndK Pgp.g l g
def forE (p : List Pgp) (x : Rcd) : Int := if isOpE x.e = true then (match fndP p x.e.g with | none => 6 | some q => unl (q.f == x.e.f) 13) else 0
def pgfE (l : List Rcd) (p : List Pgp) : Int := if pgsE1 p ≠ 0 then pgsE1 p else (eachE (fun _ x => forE p x) 0 l).2
structure PgpOk (x : Pgp) : Prop where
 g : 0 ≤ x.g ∧ x.g ≤ 600
 b : x.b.size = 512
structure PgsOk (l : List Pgp) : Prop where
 n : l.length ≤ 40
 all : ∀ k (h : k < l.length), PgpOk l[k]
 srt : SrtK Pgp.g l
theorem pgpE_zero {p : Option Pgp} {x : Pgp} : pgpE p x = 0 ↔ PgpOk x ∧ ∀ y, p = some y → y.g < x.g := by
 unfold pgpE
 rw [firstE_zero]
 simp only [List.mem_cons, List.not_mem_nil, or_false, forall_eq_or_imp, forall_eq]
 rw [unl_zero (by decide), unl_zero (by decide), unl_zero (by decide), inB_true, beq_iff_eq]
 constructor
 · rintro ⟨h1, h2, h3⟩
   refine ⟨⟨h1, h3⟩, fun y hy => ?_⟩
   subst hy; simpa using h2
 · rintro ⟨⟨h1, h3⟩, h2⟩
   refine ⟨h1, ?_, h3⟩
   cases p with
   | none => rfl
   | some y => simpa using h2 y rfl
theorem pgsE1_zero {l : List Pgp} : pgsE1 l = 0 ↔ PgsOk l := by
 unfold pgsE1 pgsPE
 constructor
 · intro h
   split at h
   · cases h
   have h := (eachE_iff _ _).1 h
   refine ⟨by omega, fun k hk => (pgpE_zero.1 (h k hk)).1, srt_get.2 fun k hk => ?_⟩
   exact (pgpE_zero.1 (h (k + 1) hk)).2 _ (bfrL_succ _ _ _)
 · intro h
   rw [if_neg (by have := h.n; omega), eachE_iff]
   intro k hk
   rw [pgpE_zero]
   refine ⟨h.all k hk, fun y hy => ?_⟩
   cases k with
   | zero => cases hy
   | succ k => rw [bfrL_succ _ _ (by omega)] at hy; cases hy; exact srt_get.1 h.srt k hk
def setP (l : List Pgp) (g : Int) (s : ByteArray) : List Pgp := l.map fun q => if q.g = g then ⟨q.g, q.f, s⟩ else q
theorem setP_len (l : List Pgp) (g : Int) (s : ByteArray) : (setP l g s).length = l.length := List.length_map ..
theorem setP_get {l : List Pgp} {g : Int} {s : ByteArray} {k : Nat} (hk : k < (setP l g s).length) (hk' : k < l.length) : (setP l g s)[k] = if l[k].g = g then ⟨l[k].g, l[k].f, s⟩ else l[k] := by
 have h1 : (setP l g s)[k]? = some (if l[k].g = g then ⟨l[k].g, l[k].f, s⟩ else l[k]) := by
  unfold setP; rw [List.getElem?_map, List.getElem?_eq_getElem hk']; rfl
 rw [List.getElem?_eq_getElem hk] at h1
 exact Option.some.inj h1
theorem setP_key (l : List Pgp) (g : Int) (s : ByteArray) : (setP l g s).map Pgp.g = l.map Pgp.g := by
 unfold setP
 rw [List.map_map]
 apply List.map_congr_left
 intro q _
 show (if q.g = g then (⟨q.g, q.f, s⟩ : Pgp) else q).g = q.g
 split <;> rfl
theorem setP_ok {l : List Pgp} (h : PgsOk l) (g : Int) (s : ByteArray) (hs : s.size = 512) : PgsOk (setP l g s) := by
 refine ⟨by rw [setP_len]; exact h.n, fun k hk => ?_, ?_⟩
 · have hk' : k < l.length := by rw [setP_len] at hk; exact hk
   rw [setP_get hk hk']
   have h1 := h.all k hk'
   split
   · exact ⟨h1.g, hs⟩
   · exact h1
 · have h1 := h.srt
   unfold SrtK at h1 ⊢
   have h2 : (l.map Pgp.g).Pairwise (· < ·) := List.pairwise_map.2 h1
   rw [← setP_key l g s] at h2
   exact List.pairwise_map.1 h2
theorem setP_fnd (l : List Pgp) (g : Int) (s : ByteArray) (i : Int) : fndP (setP l g s) i = if i = g then (fndP l g).map (fun q => ⟨q.g, q.f, s⟩) else fndP l i := by
 unfold fndP fndK setP
 induction l with
 | nil => simp
 | cons q l ih =>
  rw [List.map_cons, List.find?_cons, List.find?_cons, List.find?_cons]
  by_cases hq : q.g = g
  · rw [if_pos hq]
    simp only
    by_cases hi : i = g
    · have e1 : (q.g == i) = true := by rw [beq_iff_eq]; omega
      have e2 : (q.g == g) = true := by rw [beq_iff_eq]; omega
      rw [e1, e2, if_pos hi]; rfl
    · have e1 : (q.g == i) = false := by rw [beq_eq_false_iff_ne]; omega
      rw [e1, if_neg hi]
      rw [if_neg hi] at ih
      exact ih
  · rw [if_neg hq]
    by_cases hi : i = g
    · have e1 : (q.g == i) = false := by rw [beq_eq_false_iff_ne]; omega
      have e2 : (q.g == g) = false := by rw [beq_eq_false_iff_ne]; omega
      rw [e1, e2]
      simp only
      exact ih
    · by_cases hqi : q.g = i
      · have e1 : (q.g == i) = true := by rw [beq_iff_eq]; exact hqi
        rw [e1, if_neg hi]
      · have e1 : (q.g == i) = false := by rw [beq_eq_false_iff_ne]; exact hqi
        rw [e1]
        rw [if_neg hi] at ih ⊢
        exact ih
theorem setP_set {l : List Pgp} (h : SrtK Pgp.g l) {k : Nat} (hk : k < l.length) (s : ByteArray) : setP l l[k].g s = l.set k ⟨l[k].g, l[k].f, s⟩ := by
 unfold SrtK at h
 rw [List.pairwise_iff_getElem] at h
 apply List.ext_getElem (by rw [setP_len, List.length_set])
 intro j h1 h2
 rw [setP_len] at h1
 have h1' := h1
 rw [setP_get (by rw [setP_len]; exact h1') h1', List.getElem_set]
 by_cases hj : k = j
 · subst hj
   rw [if_pos rfl, if_pos rfl]
 · rw [if_neg hj, if_neg]
   intro q
   rcases Nat.lt_or_gt_of_ne hj with h3 | h3
   · have := h k j hk h1 h3; omega
   · have := h j k h1 hk h3; omega
def dueB (t : Tbl) (x : Rcd) : Bool := isOpE x.e && match fndD t.ds x.e.g with | none => false | some d => decide (d.l ≤ x.l)
def rdoG (t : Tbl) : List Pgp → Int → List Rcd → List Pgp × Int × Int
 | p, n, [] => (p, n, 0)
 | p, n, x :: r => if dueB t x = true then (match fndP p x.e.g with
  | none => ([], 0, 0)
  | some q => if (redo q.b q.f x.l x.e.o).2.2 ≠ 0 then ([], 0, (redo q.b q.f x.l x.e.o).2.2) else rdoG t (setP p x.e.g (redo q.b q.f x.l x.e.o).1) (n + bit1 (redo q.b q.f x.l x.e.o).2.1) r) else rdoG t p n r
structure Los where
 j : Nat
 i : Int
 u : Int
def losG : Nat → List Trn → List Los
 | _, [] => []
 | j, x :: l => if x.c then losG (j + 1) l else ⟨j, x.i, x.u⟩ :: losG (j + 1) l
def bstL : List Los → Option Los
 | [] => none
 | x :: l => match bstL l with
  | none => some x
  | some y => if y.u > x.u then some y else some x
structure Stp where
 r : Rcd
 j : Nat
 z : Bool
def setL (l : List Los) (j : Nat) (u : Int) : List Los := l.map fun x => if x.j = j then ⟨x.j, x.i, u⟩ else x
def nxtU (x : Lge) : Int := if x.k = 1 then x.x else x.p
def plnG (l : List Rcd) : Nat → List Los → List Stp × Int
 | f, us => match bstL us with
  | none => ([], 0)
  | some b => if b.u = 0 then ([], 0) else match fndI l b.u with
   | none => ([], 6)
   | some r => if isOpE r.e = true ∧ r.e.t = b.i then (match f with
    | 0 => ([], 26)
    | f + 1 => if (plnG l f (setL us b.j (nxtU r.e))).2 ≠ 0 then ([], (plnG l f (setL us b.j (nxtU r.e))).2) else (⟨r, b.j, decide (nxtU r.e = 0)⟩ :: (plnG l f (setL us b.j (nxtU r.e))).1, 0)) else ([], 6)
def plnV (l : List Rcd) (t : Tbl) : List Stp × Int := plnG l 100 (losG 0 t.ts)
def ordV (l : List Rcd) (t : Tbl) : List Int := ((plnV l t).1.filter fun s => s.r.e.k == 0).map fun s => s.r.l
end Go.Proofs.YtcfdpfmchchkaaaGreatDoor
namespace Go.Proofs.YtcfdpfmchchkaaaGreatDoor
set_option linter.unusedVariables false
set_option linter.unusedSimpArgs false
open Go.RowKit Go.Sort
section
variable {α : Type} {f : α → List Value} {n : Nat}
theorem flat_drop (hf : ∀ x, (f x).length = n) (l : List α) (k : Nat) : (l.flatMap f).drop (k * n) = (l.drop k).flatMap f := by
 induction l generalizing k with
 | nil => simp
 | cons x l ih =>
  cases k with
  | zero => simp
  | succ k =>
   rw [List.flatMap_cons, List.drop_succ_cons, ← ih k, Nat.succ_mul, Nat.add_comm, ← List.drop_drop, List.drop_left' (hf x)]
theorem flat_take (hf : ∀ x, (f x).length = n) (l : List α) (k : Nat) : (l.flatMap f).take (k * n) = (l.take k).flatMap f := by
 induction l generalizing k with
 | nil => simp
 | cons x l ih =>
  cases k with
  | zero => simp
  | succ k =>
   rw [List.flatMap_cons, List.take_succ_cons, List.flatMap_cons, ← ih k, Nat.succ_mul, Nat.add_comm, List.take_append, List.take_of_length_le (by rw [hf]; omega), hf, Nat.add_sub_cancel_left]
theorem flatF_get (hf : ∀ x, (f x).length = n) (l : List α) {k : Nat} (hk : k < l.length) {j : Nat} {u : Value} (hu : (f l[k])[j]? = some u) : (l.flatMap f)[k * n + j]? = some u := by
 rw [← List.getElem?_drop, flat_drop hf, List.drop_eq_getElem_cons hk, List.flatMap_cons, List.getElem?_append_left (List.getElem?_eq_some_iff.1 hu).1]
 exact hu
theorem flatAt {X : World} {B b o : Nat} {l : List α} {k : Nat} (hf : ∀ x, (f x).length = n) (h : Rd X B (some ⟨b, o, none⟩) (l.flatMap f)) (hk : k < l.length) : ∀ (j : Nat) (u : Value), (f l[k])[j]? = some u → X.cell? ⟨b, o + k * n + j, none⟩ = some u := fun j u hu => by
 obtain ⟨b', o', e, _, hc⟩ := h (k * n + j) u (flatF_get hf l hk hu)
 injection e with e
 injection e with e1 e2
 subst e1 e2
 rw [Nat.add_assoc]; exact hc
end
end Go.Proofs.YtcfdpfmchchkaaaGreatDoor
