/-
  Chapter 17, plain: a descriptor simplified; it grants every token the same, and simplified again it does not change.
  Chapter 16, plain: entries in canonical order: an insertion sort gives the entries rank by rank.
  Chapter 17: the reference's subsets.
  Chapter 17: the reference's tokens; TokensOf.
  Chapter 17: the reference's Difference and More.
  Chapter 17: CheckDecided.
  Chapter 17: copies of descriptors, owned; those in drawn regions with stores.
-/
import Derived.Test.YtanicpgmbhfipaaGreatDoorKitE
import Derived.Laws.OwnMore
import Derived.Test.YtanicpgmbhfipaaGreatDoorKitC
namespace Go.Proofs.YtanicpgmbhfipaaGreatDoor
set_option linter.unusedVariables false
set_option linter.unusedSimpArgs false
open Go.RowKit
def fstA (t : TokP) (i : Nat) (l : List AceP) : Bool := match l.find? (hitB t i) with | some a => a.k == 0 | none => false
theorem grt_fst (d : DscP) (t : TokP) (i : Nat) : grtB d t i = (prvB t.p i || ((i == 6 || i == 7) && isT t d.o) || !d.he || fstA t i d.es) := by
 unfold grtB byP
 by_cases h1 : prvB t.p i = true
 · simp only [if_pos h1]; rw [h1]; rfl
 simp only [if_neg h1]
 have h1' : prvB t.p i = false := by simpa using h1
 rw [h1', Bool.false_or]
 by_cases h2 : ((i == 6 || i == 7) && isT t d.o) = true
 · simp only [if_pos h2]; rw [h2]; rfl
 simp only [if_neg h2]
 have h2' : ((i == 6 || i == 7) && isT t d.o) = false := by simpa using h2
 rw [h2', Bool.false_or]
 by_cases h3 : d.he = false
 · simp only [if_pos h3]; rw [h3]; rfl
 simp only [if_neg h3]
 have h3' : d.he = true := by simpa using h3
 rw [h3']
 show _ = fstA t i d.es
 unfold fstA
 rcases idxF_spec (hitB t i) d.es 0 with ⟨e, hn⟩ | ⟨j, hj, e, hg, hm⟩
 · rw [if_pos (by rw [e]; decide)]
   have : d.es.find? (hitB t i) = none := List.find?_eq_none.2 (fun a ha => by rw [hn a ha]; decide)
   rw [this]; rfl
 · rw [if_neg (by rw [e]; omega), e]
   have : d.es.find? (hitB t i) = some d.es[j] := by
    rw [List.find?_eq_some_iff_getElem]
    exact ⟨hg, j, hj, rfl, fun m hmj => by simpa using hm m hmj⟩
   rw [this]
   have e1 : (((0 + j : Nat) : Int) != -4) = true := by simp
   have e2 : decide (((0 + j : Nat) : Int) < 0) = false := decide_eq_false (by omega)
   rw [e1, e2]
   have e3 : ((0 + j : Nat) : Int).toNat = j := by omega
   rw [e3, List.getD_eq_getElem?_getD, List.getElem?_eq_getElem hj]
   rfl
end Go.Proofs.YtanicpgmbhfipaaGreatDoor
namespace Go.Proofs.YtanicpgmbhfipaaGreatDoor
set_option linter.unusedVariables false
set_option linter.unusedSimpArgs false
open Go.RowKit
theorem rank_in (a : AceP) : rankA a = 0 ∨ rankA a = 1 ∨ rankA a = 2 ∨ rankA a = 3 := by
 unfold rankA
 by_cases h1 : a.k = 1 <;> by_cases h2 : bitI a.f 4 = true
 · rw [if_pos h1, if_pos h2]; exact .inr (.inr (.inl rfl))
 · rw [if_pos h1, if_neg h2]; exact .inl rfl
 · rw [if_neg h1, if_pos h2]; exact .inr (.inr (.inr rfl))
 · rw [if_neg h1, if_neg h2]; exact .inr (.inl rfl)
def rkF (r : Int) (l : List AceP) : List AceP := l.filter fun a => rankA a == r
def canL (l : List AceP) : List AceP := rkF 0 l ++ (rkF 1 l ++ (rkF 2 l ++ rkF 3 l))
theorem rkF_none {l : List AceP} {r : Int} (h : ∀ a ∈ l, rankA a ≠ r) : rkF r l = [] := by
 unfold rkF
 rw [List.filter_eq_nil_iff]
 intro a ha
 have := h a ha
 simpa using this
theorem srt_can : ∀ (l : List AceP), l.Pairwise (fun x y => rankA x ≤ rankA y) → canL l = l
 | [], _ => rfl
 | a :: t, h => by
  obtain ⟨h1, h2⟩ := List.pairwise_cons.1 h
  have ih := srt_can t h2
  have hlo : ∀ r, r < rankA a → rkF r t = [] := fun r hr => rkF_none (fun b hb e => by have := h1 b hb; omega)
  have hc : ∀ r, rkF r (a :: t) = if rankA a = r then a :: rkF r t else rkF r t := fun r => by
   unfold rkF
   rw [List.filter_cons]
   by_cases e : rankA a = r
   · rw [if_pos e, if_pos (by rw [e]; simp)]
   · rw [if_neg e, if_neg (by simpa using e)]
  have ih' : rkF 0 t ++ (rkF 1 t ++ (rkF 2 t ++ rkF 3 t)) = t := ih
  unfold canL
  rw [hc 0, hc 1, hc 2, hc 3]
  rcases rank_in a with e | e | e | e <;> rw [e] at hlo ⊢
  · simp only [show ¬ (0 : Int) = 1 by decide, show ¬ (0 : Int) = 2 by decide, show ¬ (0 : Int) = 3 by decide, if_true, if_false]
    rw [List.cons_append, ih']
  · rw [hlo 0 (by decide)] at ih' ⊢
    simp only [show ¬ (1 : Int) = 0 by decide, show ¬ (1 : Int) = 2 by decide, show ¬ (1 : Int) = 3 by decide, if_true, if_false, List.nil_append] at ih' ⊢
    rw [List.cons_append, ih']
  · rw [hlo 0 (by decide), hlo 1 (by decide)] at ih' ⊢
    simp only [show ¬ (2 : Int) = 0 by decide, show ¬ (2 : Int) = 1 by decide, show ¬ (2 : Int) = 3 by decide, if_true, if_false, List.nil_append] at ih' ⊢
    rw [List.cons_append, ih']
  · rw [hlo 0 (by decide), hlo 1 (by decide), hlo 2 (by decide)] at ih' ⊢
    simp only [show ¬ (3 : Int) = 0 by decide, show ¬ (3 : Int) = 1 by decide, show ¬ (3 : Int) = 2 by decide, if_true, if_false, List.nil_append] at ih' ⊢
    rw [ih']
def sameR (y l : List AceP) : Prop := y.length = l.length ∧ ∀ r, rkF r y = rkF r l
theorem sameR.rfl' (l : List AceP) : sameR l l := ⟨rfl, fun _ => rfl⟩
theorem sameR.trans {x y l : List AceP} (h : sameR x y) (h' : sameR y l) : sameR x l := ⟨h.1.trans h'.1, fun r => (h.2 r).trans (h'.2 r)⟩
theorem can_of {y l : List AceP} (hs : y.Pairwise fun a b => rankA a ≤ rankA b) (h : sameR y l) : y = canL l := by
 rw [← srt_can y hs]
 unfold canL
 rw [h.2, h.2, h.2, h.2]
theorem can_perm (l : List AceP) : (canL l).Perm l := by
 classical
 rw [List.perm_iff_count]
 intro a
 unfold canL rkF
 rw [List.count_append, List.count_append, List.count_append]
 have hc : ∀ r, (l.filter fun b => rankA b == r).count a = if rankA a = r then l.count a else 0 := fun r => by
  by_cases e : rankA a = r
  · rw [if_pos e, List.count_filter (by rw [e]; simp)]
  · rw [if_neg e]
    apply List.count_eq_zero.2
    intro h
    have := (List.mem_filter.1 h).2
    exact e (by simpa using this)
 rw [hc, hc, hc, hc]
 rcases rank_in a with e | e | e | e <;> rw [e] <;> simp
def swpL (l : List AceP) (j : Nat) (h : j + 1 < l.length) : List AceP := (l.set j l[j + 1]).set (j + 1) (l[j]'(by omega))
theorem swpL_len {l : List AceP} {j : Nat} (h : j + 1 < l.length) : (swpL l j h).length = l.length := by unfold swpL; simp
theorem swpL_eq {l : List AceP} {j : Nat} (h : j + 1 < l.length) : swpL l j h = l.take j ++ ([l[j + 1], l[j]'(by omega)] ++ l.drop (j + 2)) := by
 apply List.ext_getElem?
 intro n
 unfold swpL
 rw [List.getElem?_set, List.getElem?_set]
 have hl : (l.take j).length = j := by rw [List.length_take]; omega
 rcases Nat.lt_trichotomy n j with hn | hn | hn
 · rw [if_neg (by omega), if_neg (by omega), List.getElem?_append_left (by omega), List.getElem?_take_of_lt hn]
 · subst hn
   rw [if_neg (by omega), if_pos rfl, if_pos (by omega), List.getElem?_append_right (by omega), hl, Nat.sub_self]
   rfl
 · rw [List.getElem?_append_right (by omega), hl]
   by_cases e : n = j + 1
   · subst e
     rw [if_pos rfl, if_pos (by rw [List.length_set]; omega), show j + 1 - j = 1 by omega]
     rfl
   · rw [if_neg (by omega), if_neg (by omega), List.getElem?_append_right (by simp; omega), List.getElem?_drop]
     congr 1
     simp; omega
theorem split_at {l : List AceP} {j : Nat} (h : j + 1 < l.length) : l = l.take j ++ ([l[j]'(by omega), l[j + 1]] ++ l.drop (j + 2)) := by
 conv => lhs; rw [← List.take_append_drop j l]
 congr 1
 rw [List.drop_eq_getElem_cons (by omega), List.drop_eq_getElem_cons (by omega)]
 rfl
theorem swp_same {l : List AceP} {j : Nat} (h : j + 1 < l.length) (hne : rankA l[j + 1] ≠ rankA (l[j]'(by omega))) : sameR (swpL l j h) l := by
 refine ⟨swpL_len h, fun r => ?_⟩
 rw [swpL_eq h]
 conv => rhs; rw [split_at h]
 unfold rkF
 rw [List.filter_append, List.filter_append, List.filter_append, List.filter_append]
 congr 2
 generalize l[j + 1] = x at hne ⊢
 generalize l[j]'(by omega) = y at hne ⊢
 simp only [List.filter_cons, List.filter_nil]
 by_cases e1 : rankA x = r
 · have : ¬ rankA y = r := fun e => hne (by rw [e1, e])
   simp [e1, this]
 · by_cases e2 : rankA y = r <;> simp [e1, e2]
def insI (a i j : Nat) (y : List AceP) : Prop := ∀ p q, a ≤ p → (hp : p < q) → q ≤ i → q ≠ j → ∀ (h : q < y.length), rankA (y[p]'(by omega)) ≤ rankA y[q]
def srtI (a i : Nat) (y : List AceP) : Prop := ∀ p q, a ≤ p → (hp : p < q) → q < i → ∀ (h : q < y.length), rankA (y[p]'(by omega)) ≤ rankA y[q]
theorem srtI_one (a : Nat) (y : List AceP) : srtI a (a + 1) y := fun p q h1 h2 h3 h => by omega
theorem insI_begin {a i : Nat} {y : List AceP} (h : srtI a i y) : insI a i i y := fun p q h1 h2 h3 h4 hq => h p q h1 h2 (by omega) hq
theorem swp_get {l : List AceP} {j : Nat} (h : j + 1 < l.length) (n : Nat) (hn : n < l.length) : (swpL l j h)[n]'(by rw [swpL_len]; exact hn) = if n = j then l[j + 1] else if n = j + 1 then l[j]'(by omega) else l[n] := by
 unfold swpL
 rw [List.getElem_set]
 by_cases e1 : n = j
 · subst e1
   rw [if_neg (by omega), if_pos rfl, List.getElem_set, if_pos rfl]
 · rw [if_neg e1]
   by_cases e2 : n = j + 1
   · rw [if_pos e2.symm, if_pos e2]
   · rw [if_neg (fun e => e2 e.symm), if_neg e2, List.getElem_set, if_neg (fun e => e1 e.symm)]
theorem insI_step {a i j : Nat} {y : List AceP} (hj : a ≤ j) (hi : j + 1 ≤ i) (h : j + 1 < y.length) (hI : insI a i (j + 1) y) (hlt : rankA y[j + 1] < rankA (y[j]'(by omega))) : insI a i j (swpL y j h) := by
 intro p q h1 h2 h3 h4 hq
 rw [swpL_len] at hq
 rw [swp_get h p (by omega), swp_get h q hq]
 by_cases q1 : q = j + 1
 · subst q1
   rw [if_neg (show ¬ j + 1 = j by omega), if_pos rfl]
   by_cases p1 : p = j
   · rw [if_pos p1]; omega
   · rw [if_neg p1, if_neg (show ¬ p = j + 1 by omega)]
     exact hI p j h1 (by omega) (by omega) (by omega) (by omega)
 · rw [if_neg h4, if_neg q1]
   by_cases p1 : p = j
   · rw [if_pos p1]
     exact hI (j + 1) q (by omega) (by omega) h3 q1 hq
   · rw [if_neg p1]
     by_cases p2 : p = j + 1
     · rw [if_pos p2]
       exact hI j q hj (by omega) h3 q1 hq
     · rw [if_neg p2]
       exact hI p q h1 h2 h3 q1 hq
theorem insI_end {a i j : Nat} {y : List AceP} (hI : insI a i j y) (h : j ≤ a ∨ ∃ hj : 0 < j ∧ j < y.length, rankA (y[j - 1]'(by omega)) ≤ rankA (y[j]'hj.2)) : srtI a (i + 1) y := by
 intro p q h1 h2 h3 hq
 by_cases e : q = j
 · subst e
   rcases h with h | ⟨⟨hj, hl⟩, hle⟩
   · omega
   · by_cases p1 : p = q - 1
     · subst p1; exact hle
     · have := hI p (q - 1) h1 (by omega) (by omega) (by omega) (by omega)
       omega
 · exact hI p q h1 h2 (by omega) e hq
theorem srtI_all {y : List AceP} (h : srtI 0 y.length y) : y.Pairwise fun a b => rankA a ≤ rankA b := by
 rw [List.pairwise_iff_getElem]
 intro i j hi hj hij
 exact h i j (Nat.zero_le _) hij hj hj
end Go.Proofs.YtanicpgmbhfipaaGreatDoor
namespace Go.Proofs.YtanicpgmbhfipaaGreatDoor
set_option linter.unusedVariables false
set_option linter.unusedSimpArgs false
open Go.RowKit Go.Sort
def Lit1 (B : Nat) (a : Int) (v : Value) (X : World) : Prop := ∃ g, v = .slice (some ⟨g, 0, none⟩) 1 1 ∧ B ≤ g ∧ X.heap[g]? = some (.cells #[.int .i64 a] 3 (0, 0))
theorem Lit1.stable {B : Nat} {a : Int} (v : Value) (X X' : World) (h : Lit1 B a v X) (hb : Below X.heap.size X X') : Lit1 B a v X' := by
 obtain ⟨g, h1, h2, h3⟩ := h
 exact ⟨g, h1, h2, (hb.block g (Array.getElem?_eq_some_iff.1 h3).1).trans h3⟩
def LitR (B : Nat) (l : List Int) (v : Value) (X : World) : Prop := ∃ g A c, v = .slice (some ⟨g, 0, none⟩) 1 1 ∧ B ≤ g ∧ X.heap[g]? = some (.cells #[.slice A l.length c] 25 (0, 0)) ∧ X.ownsRow B 3 1 (.slice A l.length c) l.length (l.map (.int .i64))
theorem LitR.stable {B : Nat} {l : List Int} (v : Value) (X X' : World) (h : LitR B l v X) (hb : Below X.heap.size X X') : LitR B l v X' := by
 obtain ⟨g, A, c, h1, h2, h3, h4⟩ := h
 exact ⟨g, A, c, h1, h2, (hb.block g (Array.getElem?_eq_some_iff.1 h3).1).trans h3, ownsRow_below h4 hb⟩
end Go.Proofs.YtanicpgmbhfipaaGreatDoor
namespace Go.Proofs.YtanicpgmbhfipaaGreatDoor
set_option linter.unusedVariables false
set_option linter.unusedSimpArgs false
open Go.RowKit Go.Sort
theorem InT.kept {X Y : World} {B B' n : Nat} {e : TypeId} {s : Nat} {p : Value × TokP} {v : Value} {xs : List Value} (h : InT X B p) (hv : X.ownsRow B' e s v n xs) (hne : 3 ≠ e) (hg : X.grownBy Y v.ownBlock) : InT Y B p := InO.kept h hv hne hg
def LitT (B : Nat) (u : Int) (A : Option Addr) (n c : Nat) (v : Value) (X : World) : Prop := ∃ g, v = .slice (some ⟨g, 0, none⟩) 1 1 ∧ B ≤ g ∧ X.heap[g]? = some (.cells #[.int .i64 u, .slice A n c, .int .i64 0] 27 (0, 0))
theorem LitT.stable {B : Nat} {u : Int} {A : Option Addr} {n c : Nat} (v : Value) (X X' : World) (h : LitT B u A n c v X) (hb : Below X.heap.size X X') : LitT B u A n c v X' := by
 obtain ⟨g, h1, h2, h3⟩ := h
 exact ⟨g, h1, h2, (hb.block g (Array.getElem?_eq_some_iff.1 h3).1).trans h3⟩
end Go.Proofs.YtanicpgmbhfipaaGreatDoor
namespace Go.Proofs.YtanicpgmbhfipaaGreatDoor
set_option linter.unusedVariables false
set_option linter.unusedSimpArgs false
open Go.RowKit Go.Sort
end Go.Proofs.YtanicpgmbhfipaaGreatDoor
namespace Go.Proofs.YtanicpgmbhfipaaGreatDoor
set_option linter.unusedVariables false
set_option linter.unusedSimpArgs false
open Go.RowKit Go.Sort
end Go.Proofs.YtanicpgmbhfipaaGreatDoor
namespace Go.Proofs.YtanicpgmbhfipaaGreatDoor
set_option linter.unusedVariables false
set_option linter.unusedSimpArgs false
open Go.RowKit Go.Sort
set_option maxRecDepth 100000 in
set_option maxHeartbeats 2000000 in
theorem CopyDsc_own (d : DscP) (A1 A2 : Option Addr) (c1 c2 : Nat) (w : World) (h1 : d.es.length ≤ 500) (h2 : d.us.length ≤ 500) (hr1 : Rd w w.heap.size A1 (acesV d.es)) (hr2 : Rd w w.heap.size A2 (acesV d.us)) :
 Calls Tryz.prog 12 #[dscV d A1 A2 c1 c2] w fun e w' => ∃ B1 B2 k1 k2, e = .returned (dscV d B1 B2 k1 k2) ∧ w'.ownsRow w.heap.size 111 4 (.slice B1 d.es.length k1) d.es.length (acesV d.es) ∧ w'.ownsRow w.heap.size 111 4 (.slice B2 d.us.length k2) d.us.length (acesV d.us) ∧ Below w.heap.size w w' := by
 have HR1 := Lib.hid hr1
 have HR2 := Lib.hid hr2
 unfold dscV
 obtain ⟨o, g, pr, he, es, us⟩ := d
 dsimp only at *
 have bD := (Box.new w #[.int .i64 o, .int .i64 g, .bool pr, .bool he, .slice A1 es.length c1, .slice A2 us.length c2] 24).old (.cells #[.int .i64 0, .int .i64 0, .bool false, .bool false, .slice none 0 0, .slice none 0 0] 24)
 have bR := Box.new (w.alloc (.cells #[.int .i64 o, .int .i64 g, .bool pr, .bool he, .slice A1 es.length c1, .slice A2 us.length c2] 24)) #[.int .i64 0, .int .i64 0, .bool false, .bool false, .slice none 0 0, .slice none 0 0] 24
 rw [World.size_alloc] at bR
 have hb0 : Below w.heap.size w ((w.alloc (.cells #[.int .i64 o, .int .i64 g, .bool pr, .bool he, .slice A1 es.length c1, .slice A2 us.length c2] 24)).alloc (.cells #[.int .i64 0, .int .i64 0, .bool false, .bool false, .slice none 0 0, .slice none 0 0] 24)) := bel_alloc (bel_alloc (Below.refl _ _) _) _
 obtain ⟨W0, hW0⟩ : ∃ W0, W0 = (w.alloc (.cells #[.int .i64 o, .int .i64 g, .bool pr, .bool he, .slice A1 es.length c1, .slice A2 us.length c2] 24)).alloc (.cells #[.int .i64 0, .int .i64 0, .bool false, .bool false, .slice none 0 0, .slice none 0 0] 24) := ⟨_, rfl⟩
 rw [← hW0] at bD bR hb0
 have HW0 := Lib.hid hW0
 have BD := Lib.hid bD
 have BR := Lib.hid bR
 have HB0 := Lib.hid hb0
 have hs0 : W0.heap.size = w.heap.size + 1 + 1 := by rw [hW0]; simp only [World.size_alloc]
 have y4 : W0.cell? ⟨w.heap.size, 4, none⟩ = some (.slice A1 es.length c1) := bD.cells 4
 have y5 : W0.cell? ⟨w.heap.size, 5, none⟩ = some (.slice A2 us.length c2) := bD.cells 5
 have l0 : w.heap.size < W0.heap.size := bD.lt
 clear hW0 bD bR hb0 hr1 hr2 hs0
 go_enter Tryz.func12, Tryz.ntmps12
 go_wp2
 rw [← HW0.out]
 (refine wp_region_flow [false, false, true, false, false, true, false] [⟨2, [], RowA W0.heap.size es, false⟩, ⟨5, [], RowA W0.heap.size us, false⟩] (by kernel_rfl) (by kernel_rfl) (by kernel_rfl) (by kernel_rfl) ?_; simp only [pick, List.length_cons, List.length_nil, List.drop_succ_cons, List.drop_zero, Nat.zero_add, Nat.reduceAdd]; apply Exists.intro; refine ⟨fun X hX => ?_, ?_⟩; (focus (obtain ⟨hcX, hfX⟩ := bcell hX; have hgX := regcell hX; have hsX := hX.size; (try simp only [World.size_alloc] at hsX); (repeat (go_big_quiet_step ((first | fail)))); exact wpQuiet_nil rfl)); simp only [wpND, told, toldAll, List.contains_cons, List.contains_nil, List.mem_cons, List.not_mem_nil, forall_eq_or_imp, false_implies, implies_true, and_true, Nat.reduceBEq, BEq.rfl, beq_self_eq_true, Bool.or_false, Bool.false_or, Bool.true_or, Bool.or_true, Bool.false_eq_true, if_true, if_false, true_implies, dstAt, List.getElem?_toArray, List.getElem?_cons_succ, List.getElem?_cons_zero, Option.some.injEq, forall_eq', Option.bind_some, Act.put, List.setIfInBounds_toArray, List.set_cons_succ, List.set_cons_zero])
 refine ⟨RowA.stable, fun X hX => ?_, fun v1 => ⟨RowA.stable, fun X hX => ?_, fun v2 X hX hf => ?_⟩⟩
 · refine leaves_call' (f := 42) (args := #[.slice A1 es.length c1]) (by kernel_rfl) ((CopyAces_it A1 c1 es X (by omega) (HR1.out.below' (bel_trans HB0.out hX))).mono ?_)
   rintro e w' ⟨A', c', rfl, ho, hb⟩
   exact ⟨_, rfl, hb, A', c', rfl, ownsRow_mono ho hX.size⟩
 · refine leaves_call' (f := 42) (args := #[.slice A2 us.length c2]) (by kernel_rfl) ((CopyAces_it A2 c2 us X (by omega) (HR2.out.below' (bel_trans HB0.out hX))).mono ?_)
   rintro e w' ⟨A', c', rfl, ho, hb⟩
   exact ⟨_, rfl, hb, A', c', rfl, ownsRow_mono ho hX.size⟩
 · obtain ⟨⟨B2, k2, rfl, ho2⟩, B1, k1, rfl, ho1⟩ := hf
   have hbX := bel_trans HB0.out hX
   have bd := BD.out.below hX
   have br := BR.out.below hX
   have hne : w.heap.size + 1 ≠ w.heap.size := by omega
   have HX := Lib.hid hX
   have HO1 := Lib.hid ho1
   have HO2 := Lib.hid ho2
   clear hX y4 y5 l0 ho1 ho2
   refine wpList_store_fieldG rfl 22 (.tmp 9) (.tmp 5) rfl rfl w.heap.size 4 (.slice B1 es.length k1) rfl rfl rfl (by kernel_rfl) 24 _ bd (by simp) ?_
   intro W2 g2 bd2 keep2
   have br2 := keep2 _ _ _ hne br
   go_wp2_with (first | (at_builtin; fail) | (refine wpList_store_fieldG rfl 22 (.tmp 10) (.tmp 8) rfl rfl w.heap.size 5 (.slice B2 us.length k2) rfl rfl rfl (by kernel_rfl) 24 _ bd2 (by simp) ?_; intro W3 g3 bd3 keep3; have br3 := keep3 _ _ _ hne br2; have y0 : W3.cell? ⟨w.heap.size, 0, none⟩ = some (.int .i64 o) := bd3.cells 0; have y1 : W3.cell? ⟨w.heap.size, 1, none⟩ = some (.int .i64 g) := bd3.cells 1; have y2 : W3.cell? ⟨w.heap.size, 2, none⟩ = some (.bool pr) := bd3.cells 2; have y3 : W3.cell? ⟨w.heap.size, 3, none⟩ = some (.bool he) := bd3.cells 3; have y4 : W3.cell? ⟨w.heap.size, 4, none⟩ = some (.slice B1 es.length k1) := bd3.cells 4; have y5 : W3.cell? ⟨w.heap.size, 5, none⟩ = some (.slice B2 us.length k2) := bd3.cells 5) | (refine wpList_store_newG rfl 24 (.tmp 2) (.tmp 11) rfl rfl (w.heap.size + 1) #[.int .i64 o, .int .i64 g, .bool pr, .bool he, .slice B1 es.length k1, .slice B2 us.length k2] rfl rfl 24 _ br3 (by kernel_rfl) (by kernel_rfl) (by kernel_rfl) ?_; intro W4 g4 br4 keep4; clear y0 y1 y2 y3 y4 y5))
   have hb4 := g4.belowAt (g3.belowAt (g2.belowAt hbX (Nat.le_refl _)) (Nat.le_refl _)) (by omega)
   have hs0 : W0.heap.size = w.heap.size + 1 + 1 := by rw [HW0.out]; simp only [World.size_alloc]
   have o1 := ownsRow_grw (ownsRow_grw (ownsRow_grw HO1.out g2 (by omega)) g3 (by omega)) g4 (by omega)
   have o2 := ownsRow_grw (ownsRow_grw (ownsRow_grw HO2.out g2 (by omega)) g3 (by omega)) g4 (by omega)
   exact bodyPost_ret (results_cell1 Tryz.results12 _ W4 (w.heap.size + 1) 24 _ _ rfl br4 Tryz.underlying24 rfl (by kernel_rfl)) rfl ⟨B1, B2, k1, k2, rfl, ownsRow_mono o1 (by omega), ownsRow_mono o2 (by omega), hb4⟩
def DscW (B : Nat) (d : DscP) (_ : Act) (v : Value) (X : World) : Prop := ∃ B1 B2 k1 k2, v = dscV d B1 B2 k1 k2 ∧ X.ownsRow B 111 4 (.slice B1 d.es.length k1) d.es.length (acesV d.es) ∧ X.ownsRow B 111 4 (.slice B2 d.us.length k2) d.us.length (acesV d.us)
def IntsW (B : Nat) (l : List Int) (_ : Act) (v : Value) (X : World) : Prop := ∃ A c, v = .slice A l.length c ∧ X.ownsRow B 3 1 (.slice A l.length c) l.length (l.map (.int .i64))
def DifW (B : Nat) (t : TokP) (vs : List Value) (_ : Act) (v : Value) (X : World) : Prop := ∃ A c, v = .tuple (tokV t A c :: vs).toArray ∧ X.ownsRow B 3 1 (.slice A t.gs.length c) t.gs.length (t.gs.map (.int .i64))
def TokW (B : Nat) (t : TokP) (_ : Act) (v : Value) (X : World) : Prop := ∃ A c, v = tokV t A c ∧ X.ownsRow B 3 1 (.slice A t.gs.length c) t.gs.length (t.gs.map (.int .i64))
theorem DscW.stable {B : Nat} {d : DscP} (g : Act) (v : Value) (X X' : World) (h : DscW B d g v X) (hb : Below X.heap.size X X') : DscW B d g v X' := by
 obtain ⟨B1, B2, k1, k2, h1, h2, h3⟩ := h; exact ⟨B1, B2, k1, k2, h1, ownsRow_below h2 hb, ownsRow_below h3 hb⟩
theorem DscW.grw {B N : Nat} {d : DscP} (g : Act) (v : Value) (X X' : World) (h : DscW B d g v X) (hX : Grw (BoxesO N 27) X X') : DscW B d g v X' := by
 obtain ⟨B1, B2, k1, k2, h1, h2, h3⟩ := h; exact ⟨B1, B2, k1, k2, h1, ownsRow_boxes h2 hX (by decide), ownsRow_boxes h3 hX (by decide)⟩
theorem IntsW.stable {B : Nat} {l : List Int} (g : Act) (v : Value) (X X' : World) (h : IntsW B l g v X) (hb : Below X.heap.size X X') : IntsW B l g v X' := by
 obtain ⟨A, c, h1, h2⟩ := h; exact ⟨A, c, h1, ownsRow_below h2 hb⟩
theorem IntsW.grw {B N : Nat} {l : List Int} (g : Act) (v : Value) (X X' : World) (h : IntsW B l g v X) (hX : Grw (BoxesO N 27) X X') : IntsW B l g v X' := by
 obtain ⟨A, c, h1, h2⟩ := h; exact ⟨A, c, h1, ownsRow_boxes h2 hX (by decide)⟩
theorem DifW.stable {B : Nat} {t : TokP} {vs : List Value} (g : Act) (v : Value) (X X' : World) (h : DifW B t vs g v X) (hb : Below X.heap.size X X') : DifW B t vs g v X' := by
 obtain ⟨A, c, h1, h2⟩ := h; exact ⟨A, c, h1, ownsRow_below h2 hb⟩
theorem DifW.grw {B N : Nat} {t : TokP} {vs : List Value} (g : Act) (v : Value) (X X' : World) (h : DifW B t vs g v X) (hX : Grw (BoxesO N 27) X X') : DifW B t vs g v X' := by
 obtain ⟨A, c, h1, h2⟩ := h; exact ⟨A, c, h1, ownsRow_boxes h2 hX (by decide)⟩
theorem TokW.stable {B : Nat} {t : TokP} (g : Act) (v : Value) (X X' : World) (h : TokW B t g v X) (hb : Below X.heap.size X X') : TokW B t g v X' := by
 obtain ⟨A, c, h1, h2⟩ := h; exact ⟨A, c, h1, ownsRow_below h2 hb⟩
theorem TokW.grw {B N : Nat} {t : TokP} (g : Act) (v : Value) (X X' : World) (h : TokW B t g v X) (hX : Grw (BoxesO N 27) X X') : TokW B t g v X' := by
 obtain ⟨A, c, h1, h2⟩ := h; exact ⟨A, c, h1, ownsRow_boxes h2 hX (by decide)⟩
end Go.Proofs.YtanicpgmbhfipaaGreatDoor
