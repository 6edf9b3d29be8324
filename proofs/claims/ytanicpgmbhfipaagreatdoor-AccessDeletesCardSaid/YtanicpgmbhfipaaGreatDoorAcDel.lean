/-
  Chapter 17: whether a file may be deleted.
-/
import Derived.Test.YtanicpgmbhfipaaGreatDoorAcL
namespace Go.Proofs.YtanicpgmbhfipaaGreatDoor
set_option linter.unusedVariables false
set_option linter.unusedSimpArgs false
open Go.RowKit Go.Sort

theorem bit_add_hi (x : Int) (i n : Nat) (h : i < n) : bitI (x + 2 ^ n) i = bitI x i := by
  unfold bitI
  obtain ⟨k, rfl⟩ : ∃ k, n = i + 1 + k := ⟨n - (i + 1), by omega⟩
  have e : x + (2 : Int) ^ (i + 1 + k) = x + 2 ^ i * (2 * 2 ^ k) := by rw [Int.pow_add, Int.pow_succ, Int.mul_assoc]
  rw [e, Int.add_mul_ediv_left _ _ (by have := Int.pow_pos (n := 2) (m := i) (by decide); omega)]
  have : (x / 2 ^ i + 2 * 2 ^ k) % 2 = x / 2 ^ i % 2 := by omega
  rw [this]
theorem rgt_bit (d : DscP) (t : TokP) (i : Nat) : ∀ n, i < n → bitI (rgtN d t n) i = grtB d t i
  | 0, h => by omega
  | n + 1, h => by
    obtain ⟨b1, b2⟩ := rgtN_bd d t n
    have hp : (0 : Int) < 2 ^ n := Int.pow_pos (by decide)
    by_cases hi : i < n
    · have ih := rgt_bit d t i n hi
      unfold rgtN
      split
      · rw [bit_add_hi _ _ _ hi, ih]
      · rw [Int.add_zero, ih]
    · obtain rfl : i = n := by omega
      unfold rgtN bitI
      cases h : grtB d t i
      · rw [if_neg (by decide), Int.add_zero, Int.ediv_eq_zero_of_lt b1 b2]; rfl
      · rw [if_pos rfl]
        have : (rgtN d t i + 2 ^ i) / 2 ^ i = 1 := by
          rw [show rgtN d t i + (2 : Int) ^ i = rgtN d t i + 2 ^ i * 1 by rw [Int.mul_one], Int.add_mul_ediv_left _ _ (by omega), Int.ediv_eq_zero_of_lt b1 b2]; rfl
        rw [this]; rfl
theorem rgt_and (d : DscP) (t : TokP) (i : Nat) (hi : i < 9) : (bits .and .i64 (rgtP d t) ((2 : Int) ^ i) != 0) = grtB d t i := by
  obtain ⟨b1, b2⟩ := rgtN_bd d t 9
  rw [and_bit (rgtP d t) i b1 (by unfold rgtP; omega) (by omega)]
  exact rgt_bit d t i 9 hi
def mayE (a b : DscP) (t : TokP) : Int := firstE [dscE a, dscE b, tokE t]
def mayI (a b : DscP) (t : TokP) : Bool := grtB b t 5 || grtB a t 4
theorem mayE_zero {a b : DscP} {t : TokP} (h : mayE a b t = 0) : botE a t = 0 ∧ botE b t = 0 := by
  have hz := firstE_zero h
  have h1 := hz (dscE a) (by simp)
  have h2 := hz (dscE b) (by simp)
  have h3 := hz (tokE t) (by simp)
  unfold botE
  rw [h1, h2, h3]
  exact ⟨rfl, rfl⟩
theorem mayE_eq (a b : DscP) (t : TokP) : mayE a b t = if dscE a ≠ 0 then dscE a else botE b t := by
  unfold mayE botE
  by_cases h : dscE a = 0
  · simp [firstE, h]
  · simp [firstE, h]
set_option maxRecDepth 100000 in
set_option maxHeartbeats 4000000 in
theorem MayDelete_any (a b : DscP) (t : TokP) (A1 A2 B1 B2 A : Option Addr) (a1 a2 b1 b2 c : Nat) (w : World) (h : DT a t A1 A2 A w) (k : DT b t B1 B2 A w) :
    Calls Tryz.prog 33 #[dscV a A1 A2 a1 a2, dscV b B1 B2 b1 b2, tokV t A c] w fun e w' => e = .returned (.tuple #[.bool (if mayE a b t = 0 then mayI a b t else false), .int .i64 (mayE a b t)]) ∧ Below w.heap.size w w' := by
  have HO1 := Lib.hid (fun (hb : mayE a b t = 0) W (hW : Below w.heap.size w W) => most_any a t A1 A2 A a1 a2 c W (h.below hW) (dtO_of (mayE_zero hb).1))
  have HO2 := Lib.hid (fun (hb : mayE a b t = 0) W (hW : Below w.heap.size w W) => most_any b t B1 B2 A b1 b2 c W (k.below hW) (dtO_of (mayE_zero hb).2))
  have HD1 := Lib.hid (fun W (hW : Below w.heap.size w W) => (h.below hW).dsc a1 a2)
  have HD2 := Lib.hid (fun W (hW : Below w.heap.size w W) => (k.below hW).dsc b1 b2)
  have HT := Lib.hid (fun W (hW : Below w.heap.size w W) => (h.below hW).tok c)
  obtain ⟨r, hr⟩ : ∃ r, r = mayE a b t := ⟨_, rfl⟩
  rw [← hr] at HO1 HO2 ⊢
  obtain ⟨e1, he1⟩ : ∃ e, e = dscE a := ⟨_, rfl⟩
  obtain ⟨e2, he2⟩ : ∃ e, e = dscE b := ⟨_, rfl⟩
  obtain ⟨e3, he3⟩ : ∃ e, e = tokE t := ⟨_, rfl⟩
  obtain ⟨R1, hR1⟩ : ∃ e, e = rgtP a t := ⟨_, rfl⟩
  obtain ⟨R2, hR2⟩ : ∃ e, e = rgtP b t := ⟨_, rfl⟩
  have H0 := Lib.hid (show r = firstE [e1, e2, e3] by rw [hr, he1, he2, he3]; rfl)
  rw [← he1] at HD1
  rw [← he2] at HD2
  rw [← he3] at HT
  have hg4 := rgt_and a t 4 (by decide)
  have hg5 := rgt_and b t 5 (by decide)
  rw [← hR1] at HO1 hg4
  rw [← hR2] at HO2 hg5
  obtain ⟨g4, hgg4⟩ : ∃ g, g = grtB a t 4 := ⟨_, rfl⟩
  obtain ⟨g5, hgg5⟩ : ∃ g, g = grtB b t 5 := ⟨_, rfl⟩
  unfold mayI
  rw [← hgg4] at hg4 ⊢
  rw [← hgg5] at hg5 ⊢
  obtain ⟨q4, hx4⟩ : ∃ x, bits .and .i64 R1 16 = x := ⟨_, rfl⟩
  obtain ⟨q5, hx5⟩ : ∃ x, bits .and .i64 R2 32 = x := ⟨_, rfl⟩
  replace hg4 : (q4 != 0) = g4 := by rw [← hx4]; exact hg4
  replace hg5 : (q5 != 0) = g5 := by rw [← hx5]; exact hg5
  obtain ⟨ans, hans⟩ : ∃ x, x = (if r = 0 then g5 || g4 else false) := ⟨_, rfl⟩
  rw [← hans]
  have HANS := Lib.hid hans
  clear hans
  unfold dscV tokV at *
  have bD := ((Box.new w (dscC a A1 A2 a1 a2) 24).old (.cells (dscC b B1 B2 b1 b2) 24)).old (.cells (tokC t A c) 27)
  have bE := (Box.new (w.alloc (.cells (dscC a A1 A2 a1 a2) 24)) (dscC b B1 B2 b1 b2) 24).old (.cells (tokC t A c) 27)
  have bT := Box.new ((w.alloc (.cells (dscC a A1 A2 a1 a2) 24)).alloc (.cells (dscC b B1 B2 b1 b2) 24)) (tokC t A c) 27
  rw [World.size_alloc] at bE
  rw [World.size_alloc, World.size_alloc] at bT
  have BD := Lib.hid (fun W hW => bD.below (w' := W) hW)
  have BE := Lib.hid (fun W hW => bE.below (w' := W) hW)
  have BT := Lib.hid (fun W hW => bT.below (w' := W) hW)
  unfold dscC tokC at BD BE BT
  clear hr he1 he2 he3 h k hR1 hR2 bD bE bT hgg4 hgg5
  go_enter Tryz.func33, Tryz.ntmps33
  go_wp2
  (refine wp_region_flow [false, false, false, false, false, false, true, true] [⟨6, [], ErrsI w.heap.size [e1, e2, e3], false⟩, ⟨7, [6], IntV r, false⟩] (by kernel_rfl) (by kernel_rfl) (by kernel_rfl) (by kernel_rfl) ?_; simp only [pick, List.length_cons, List.length_nil, List.drop_succ_cons, List.drop_zero, Nat.zero_add, Nat.reduceAdd]; apply Exists.intro; refine ⟨fun X hX => ?_, ?_⟩; (focus (obtain ⟨hcX, hfX⟩ := bcell hX; have hgX := regcell hX; have hsX := hX.size; (try simp only [World.size_alloc] at hsX); (repeat (go_big_quiet_step ((first | (go_at_call 52; (with_reducible exact Calls.regrown_of (HD1.out _ (bel_trans (bel_trans (bel_alloc (bel_alloc (bel_alloc (Below.refl _ _) _) _) _) hX) (below_regrown X _ _))))) | (go_at_call 52; (with_reducible exact Calls.regrown_of (HD2.out _ (bel_trans (bel_trans (bel_alloc (bel_alloc (bel_alloc (Below.refl _ _) _) _) _) hX) (below_regrown X _ _))))) | (go_at_call 53; (with_reducible exact Calls.regrown_of (HT.out _ (bel_trans (bel_trans (bel_alloc (bel_alloc (bel_alloc (Below.refl _ _) _) _) _) hX) (below_regrown X _ _))))))))); exact wpQuiet_nil rfl)); simp only [wpND, told, toldAll, List.contains_cons, List.contains_nil, List.mem_cons, List.not_mem_nil, forall_eq_or_imp, false_implies, implies_true, and_true, Nat.reduceBEq, BEq.rfl, beq_self_eq_true, Bool.or_false, Bool.false_or, Bool.true_or, Bool.or_true, Bool.false_eq_true, if_true, if_false, true_implies, dstAt, List.getElem?_toArray, List.getElem?_cons_succ, List.getElem?_cons_zero, Option.some.injEq, forall_eq', Option.bind_some, Act.put, List.setIfInBounds_toArray, List.set_cons_succ, List.set_cons_zero])
  refine ⟨ErrsI.stable, fun X hX => ?_, fun v1 => ⟨IntV.stable, fun X hX hf => ?_, fun v2 X hX hf => ?_⟩⟩
  · exact leaves_alloc' (v := .slice (some ⟨X.heap.size, 0, none⟩) 3 3) (obj := .cells #[.int .i64 e1, .int .i64 e2, .int .i64 e3] 30) (by kernel_rfl) ⟨X.heap.size, rfl, by have := hX.size; simp at this; omega, heap_alloc_new _ _⟩
  · refine leaves_call' (f := 51) (args := #[v1]) (by kernel_rfl) ?_
    rw [H0.out]
    exact access_first_errs [e1, e2, e3] (by simp) hf
  · obtain ⟨h2v, _⟩ := hf
    obtain rfl : v2 = .int .i64 r := h2v
    have hb : Below w.heap.size w X := bel_trans (bel_alloc (bel_alloc (bel_alloc (Below.refl _ _) _) _) _) hX
    by_cases h0 : r = 0
    · subst h0
      obtain rfl := HANS.out.trans (if_pos rfl)
      have HM1 := Lib.hid (HO1.out rfl)
      have HM2 := Lib.hid (HO2.out rfl)
      have bd := BD.out X hX
      have be := BE.out X hX
      have bt := BT.out X hX
      have y0 : X.cell? ⟨w.heap.size, 0, none⟩ = some (.int .i64 a.o) := Box.cells bd 0; have y1 : X.cell? ⟨w.heap.size, 1, none⟩ = some (.int .i64 a.g) := Box.cells bd 1; have y2 : X.cell? ⟨w.heap.size, 2, none⟩ = some (.bool a.pr) := Box.cells bd 2; have y3 : X.cell? ⟨w.heap.size, 3, none⟩ = some (.bool a.he) := Box.cells bd 3; have y4 : X.cell? ⟨w.heap.size, 4, none⟩ = some (.slice A1 a.es.length a1) := Box.cells bd 4; have y5 : X.cell? ⟨w.heap.size, 5, none⟩ = some (.slice A2 a.us.length a2) := Box.cells bd 5
      have x0 : X.cell? ⟨w.heap.size + 1, 0, none⟩ = some (.int .i64 b.o) := Box.cells be 0; have x1 : X.cell? ⟨w.heap.size + 1, 1, none⟩ = some (.int .i64 b.g) := Box.cells be 1; have x2 : X.cell? ⟨w.heap.size + 1, 2, none⟩ = some (.bool b.pr) := Box.cells be 2; have x3 : X.cell? ⟨w.heap.size + 1, 3, none⟩ = some (.bool b.he) := Box.cells be 3; have x4 : X.cell? ⟨w.heap.size + 1, 4, none⟩ = some (.slice B1 b.es.length b1) := Box.cells be 4; have x5 : X.cell? ⟨w.heap.size + 1, 5, none⟩ = some (.slice B2 b.us.length b2) := Box.cells be 5
      have z0 : X.cell? ⟨w.heap.size + 1 + 1, 0, none⟩ = some (.int .i64 t.u) := Box.cells bt 0; have z1 : X.cell? ⟨w.heap.size + 1 + 1, 1, none⟩ = some (.slice A t.gs.length c) := Box.cells bt 1; have z2 : X.cell? ⟨w.heap.size + 1 + 1, 2, none⟩ = some (.int .i64 t.p) := Box.cells bt 2
      have l0 := bd.lt
      have l1 := be.lt
      have l2 := bt.lt
      clear HO1 HO2 hX bd be bt
      cases g5
      · have z5 : q5 = 0 := by simpa using hg5
        subst z5
        cases g4
        · have z4 : q4 = 0 := by simpa using hg4
          subst z4
          go_wp2_with (first | (go_at_call 54; (with_reducible refine (HM2.out _ hb).mono ?_); rintro e V ⟨rfl, hV⟩; obtain ⟨hcV, hfV⟩ := bcell hV; have k0 : w.heap.size < V.heap.size := (by have := hV.size; omega); have k1 : w.heap.size + 1 + 1 < V.heap.size := (by have := hV.size; omega); have hb := bel_trans hb hV) | (go_at_call 54; (with_reducible refine (HM1.out _ hb).mono ?_); rintro e U ⟨rfl, hU⟩; have hb := bel_trans hb hU))
          go_ret2
          exact ⟨rfl, hb⟩
        · go_wp2_with (first | (go_at_call 54; (with_reducible refine (HM2.out _ hb).mono ?_); rintro e V ⟨rfl, hV⟩; obtain ⟨hcV, hfV⟩ := bcell hV; have k0 : w.heap.size < V.heap.size := (by have := hV.size; omega); have k1 : w.heap.size + 1 + 1 < V.heap.size := (by have := hV.size; omega); have hb := bel_trans hb hV) | (go_at_call 54; (with_reducible refine (HM1.out _ hb).mono ?_); rintro e U ⟨rfl, hU⟩; have hb := bel_trans hb hU))
          go_ret2
          exact ⟨rfl, hb⟩
      · go_wp2_with (first | (go_at_call 54; (with_reducible refine (HM2.out _ hb).mono ?_); rintro e V ⟨rfl, hV⟩; obtain ⟨hcV, hfV⟩ := bcell hV; have hb := bel_trans hb hV))
        go_ret2
        exact ⟨rfl, hb⟩
    · have h0' : (r != 0) = true := by simp [h0]
      obtain rfl := HANS.out.trans (if_neg h0)
      go_wp2
      go_ret2
      exact ⟨rfl, hb⟩
set_option maxRecDepth 100000 in
set_option maxHeartbeats 4000000 in
theorem refMayDelete_any (a b : DscP) (t : TokP) (A1 A2 B1 B2 A : Option Addr) (a1 a2 b1 b2 c : Nat) (w : World) (h : DT a t A1 A2 A w) (k : DT b t B1 B2 A w) (ha : dtO a t) (hb : dtO b t) :
    Calls Tryz.prog 35 #[dscV a A1 A2 a1 a2, dscV b B1 B2 b1 b2, tokV t A c] w fun e w' => e = .returned (.bool (mayI a b t)) ∧ Below w.heap.size w w' := by
  have HB1 := Lib.hid (fun W (hW : Below w.heap.size w W) => By_any a t A1 A2 A a1 a2 c 4 W (h.below hW) ha (by decide))
  have HB2 := Lib.hid (fun W (hW : Below w.heap.size w W) => By_any b t B1 B2 A b1 b2 c 5 W (k.below hW) hb (by decide))
  obtain ⟨g4, hg4⟩ : ∃ g, g = grtB a t 4 := ⟨_, rfl⟩
  obtain ⟨g5, hg5⟩ : ∃ g, g = grtB b t 5 := ⟨_, rfl⟩
  obtain ⟨p4, hp4⟩ : ∃ g, g = byP a t 4 := ⟨_, rfl⟩
  obtain ⟨p5, hp5⟩ : ∃ g, g = byP b t 5 := ⟨_, rfl⟩
  unfold mayI
  rw [← hg4] at HB1 ⊢
  rw [← hg5] at HB2 ⊢
  rw [← hp4, show ((2 : Int) ^ 4) = 16 by decide] at HB1
  rw [← hp5, show ((2 : Int) ^ 5) = 32 by decide] at HB2
  unfold dscV tokV at *
  have bD := ((Box.new w (dscC a A1 A2 a1 a2) 24).old (.cells (dscC b B1 B2 b1 b2) 24)).old (.cells (tokC t A c) 27)
  have bT := Box.new ((w.alloc (.cells (dscC a A1 A2 a1 a2) 24)).alloc (.cells (dscC b B1 B2 b1 b2) 24)) (tokC t A c) 27
  rw [World.size_alloc, World.size_alloc] at bT
  have BD := Lib.hid (fun W hW => bD.below (w' := W) hW)
  have BT := Lib.hid (fun W hW => bT.below (w' := W) hW)
  unfold dscC tokC at BD BT
  clear h k hg4 hg5 hp4 hp5 bD bT ha hb
  cases g5
  · go_enter Tryz.func35, Tryz.ntmps35
    go_wp2_with (first | (go_at_call 47; (with_reducible refine (HB2.out _ (bel_alloc (bel_alloc (bel_alloc (Below.refl _ _) _) _) _)).mono ?_); rintro e V ⟨rfl, hV⟩; have hb := bel_trans (bel_alloc (bel_alloc (bel_alloc (Below.refl _ w) _) _) _) hV; have bd := BD.out V hV; have bt := BT.out V hV; have y0 : V.cell? ⟨w.heap.size, 0, none⟩ = some (.int .i64 a.o) := Box.cells bd 0; have y1 : V.cell? ⟨w.heap.size, 1, none⟩ = some (.int .i64 a.g) := Box.cells bd 1; have y2 : V.cell? ⟨w.heap.size, 2, none⟩ = some (.bool a.pr) := Box.cells bd 2; have y3 : V.cell? ⟨w.heap.size, 3, none⟩ = some (.bool a.he) := Box.cells bd 3; have y4 : V.cell? ⟨w.heap.size, 4, none⟩ = some (.slice A1 a.es.length a1) := Box.cells bd 4; have y5 : V.cell? ⟨w.heap.size, 5, none⟩ = some (.slice A2 a.us.length a2) := Box.cells bd 5; have z0 : V.cell? ⟨w.heap.size + 1 + 1, 0, none⟩ = some (.int .i64 t.u) := Box.cells bt 0; have z1 : V.cell? ⟨w.heap.size + 1 + 1, 1, none⟩ = some (.slice A t.gs.length c) := Box.cells bt 1; have z2 : V.cell? ⟨w.heap.size + 1 + 1, 2, none⟩ = some (.int .i64 t.p) := Box.cells bt 2; have l0 := bd.lt; have l2 := bt.lt; clear bd bt) | (go_at_call 47; (with_reducible refine (HB1.out _ hb).mono ?_); rintro e U ⟨rfl, hU⟩; have hb := bel_trans hb hU))
    go_ret
    exact ⟨rfl, hb⟩
  · go_enter Tryz.func35, Tryz.ntmps35
    go_wp2_with (first | (go_at_call 47; (with_reducible refine (HB2.out _ (bel_alloc (bel_alloc (bel_alloc (Below.refl _ _) _) _) _)).mono ?_); rintro e V ⟨rfl, hV⟩; have hb := bel_trans (bel_alloc (bel_alloc (bel_alloc (Below.refl _ w) _) _) _) hV; have bd := BD.out V hV; have bt := BT.out V hV; have y0 : V.cell? ⟨w.heap.size, 0, none⟩ = some (.int .i64 a.o) := Box.cells bd 0; have y1 : V.cell? ⟨w.heap.size, 1, none⟩ = some (.int .i64 a.g) := Box.cells bd 1; have y2 : V.cell? ⟨w.heap.size, 2, none⟩ = some (.bool a.pr) := Box.cells bd 2; have y3 : V.cell? ⟨w.heap.size, 3, none⟩ = some (.bool a.he) := Box.cells bd 3; have y4 : V.cell? ⟨w.heap.size, 4, none⟩ = some (.slice A1 a.es.length a1) := Box.cells bd 4; have y5 : V.cell? ⟨w.heap.size, 5, none⟩ = some (.slice A2 a.us.length a2) := Box.cells bd 5; have z0 : V.cell? ⟨w.heap.size + 1 + 1, 0, none⟩ = some (.int .i64 t.u) := Box.cells bt 0; have z1 : V.cell? ⟨w.heap.size + 1 + 1, 1, none⟩ = some (.slice A t.gs.length c) := Box.cells bt 1; have z2 : V.cell? ⟨w.heap.size + 1 + 1, 2, none⟩ = some (.int .i64 t.p) := Box.cells bt 2; have l0 := bd.lt; have l2 := bt.lt; clear bd bt) | (go_at_call 47; (with_reducible refine (HB1.out _ hb).mono ?_); rintro e U ⟨rfl, hU⟩; have hb := bel_trans hb hU))
    go_ret
    exact ⟨rfl, hb⟩
end Go.Proofs.YtanicpgmbhfipaaGreatDoor
