/-
  Chapter 1: the code's ParseDump.
-/
import Derived.Test.YtiomfkgbaemmkaaDump5
namespace Go.Proofs.Ytiomfkgbaemmkaa
set_option linter.unusedVariables false
set_option linter.unusedSimpArgs false
open Go.RowKit Go.Shelf Go.Sort
attribute [local go_sem] Oper.semAt_some wide_fn wide_depth

def outC (pre : List ByteArray) : List UInt8 := pre.flatMap fun l => trip (colon (bl l))
theorem outC_snoc (pre : List ByteArray) (x : ByteArray) : outC (pre ++ [x]) = outC pre ++ trip (colon (bl x)) := by simp [outC]
theorem outC_all (t : ByteArray) : outC (linesS t) = parseC (bl t) := by
  unfold outC linesS parseC
  rw [List.flatMap_map]
  rfl

theorem linesAt_flat (d : UInt8) : ∀ t, (linesAt d t).flatten = t
  | [] => rfl
  | c :: r => by
    have ih := linesAt_flat d r
    unfold linesAt
    split
    · simp [ih]
    · split
      · rename_i h; rw [h] at ih; simp at ih; simp [← ih]
      · rename_i p ps h; rw [h] at ih; simp at ih; simp [ih]
theorem flatMap_len (g : List UInt8 → List UInt8) (hg : ∀ l, (g l).length ≤ l.length) : ∀ L : List (List UInt8), (L.flatMap g).length ≤ L.flatten.length
  | [] => by simp
  | l :: L => by
    have := flatMap_len g hg L
    have := hg l
    simp only [List.flatMap_cons, List.flatten_cons, List.length_append]
    omega
theorem parseC_len (t : List UInt8) : (parseC t).length ≤ t.length := by
  have := flatMap_len (fun l => trip (colon l)) (fun l => by have := trip_length _ (colon l) (Nat.le_refl _); have := colon_le l; show (trip (colon l)).length ≤ _; omega) (linesAt 10 t)
  rw [linesAt_flat] at this
  exact this
theorem outC_le (t : ByteArray) (pre : List ByteArray) (x : ByteArray) (rest : List ByteArray) (h : linesS t = pre ++ x :: rest) : (outC pre ++ trip (colon (bl x))).length ≤ t.size := by
  have h1 := parseC_len (bl t)
  rw [← outC_all, h, show pre ++ x :: rest = (pre ++ [x]) ++ rest by simp, show outC ((pre ++ [x]) ++ rest) = outC (pre ++ [x]) ++ outC rest by unfold outC; rw [List.flatMap_append], outC_snoc, List.length_append, bl_length] at h1
  omega
theorem digI_some (c : UInt8) : (digI c < 0 ∧ digO c = none) ∨ ∃ n : Nat, n < 16 ∧ digI c = (n : Int) ∧ digO c = some n := by
  have h := digI_lt c
  unfold digI at h ⊢
  cases hd : digO c with
  | none => left; simp
  | some n => right; rw [hd] at h; simp at h; exact ⟨n, by omega, rfl, rfl⟩
theorem strCut_any (s : ByteArray) (w : World) (hs : s.size ≤ maxLen) :
    Calls Try.prog 65 #[.string s, .string ⟨#[58]⟩] w fun e w' => (∃ b f, e = .returned (.tuple #[.string b, .string (bs (colon (bl s))), .bool f])) ∧ Below w.heap.size w w' := by
  go_enter Try.func65, Try.ntmps65
  go_wp2_with (go_at_call 83; refine (slCut_any s _ hs).mono ?_; rintro e W1 ⟨⟨b, f, rfl⟩, hbW1⟩)
  go_ret3
  exact ⟨⟨_, _, rfl⟩, hbW1⟩

def OneB (B : Nat) (x : UInt8) (v : Value) (X : World) : Prop := ∃ b, v = .slice (some ⟨b, 0, none⟩) 1 1 ∧ B ≤ b ∧ X.heap[b]? = some (.cells #[byteV x] 5 (0, 0))
theorem OneB.stable {B : Nat} {x : UInt8} (v : Value) (X X' : World) (h : OneB B x v X) (hb : Below X.heap.size X X') : OneB B x v X' := by
  obtain ⟨b, h1, h2, h3⟩ := h
  exact ⟨b, h1, h2, (hb.block b (Array.getElem?_eq_some_iff.1 h3).1).trans h3⟩
theorem leaves_alloc' {P : Program} {R : Value → World → Prop} {X : World} {s : Sem Next} {v : Value} {obj : Obj} (h : s.run P X = .ok (.value v) (X.alloc obj)) (hR : R v (X.alloc obj)) : LeavesR P R X (s.run P X) := by
  rw [h]; exact ⟨(Below.refl _ _).alloc (Nat.le_refl _) _, hR⟩
theorem or_digits (a b : Nat) (ha : a < 16) (hb : b < 16) : bits .or .i64 ((a : Int) * 16) (b : Int) = ((16 * a + b : Nat) : Int) := by
  have all : ∀ a b : Fin 16, bits .or .i64 ((a.val : Int) * 16) (b.val : Int) = ((16 * a.val + b.val : Nat) : Int) := by decide +kernel
  exact all ⟨a, ha⟩ ⟨b, hb⟩
theorem Rd.one {X : World} {b : Nat} {u : Value} {T : TypeId} (h : X.heap[b]? = some (.cells #[u] T (0, 0))) : Rd X X.heap.size (some ⟨b, 0, none⟩) [u] := fun j v hj => by
  cases j with
  | zero =>
    injection hj with hj
    subst hj
    exact ⟨b, 0, rfl, (Array.getElem?_eq_some_iff.1 h).1, by simp [World.cell?, h]⟩
  | succ j => simp at hj
theorem ba_loop (s : ByteArray) : ∀ (n i : Nat) (r : List UInt8), s.size - i = n → ByteArray.toList.loop s i r = r.reverse ++ (bl s).drop i := by
  intro n
  induction n with
  | zero =>
    intro i r h
    unfold ByteArray.toList.loop
    rw [if_neg (by omega), List.drop_of_length_le (by rw [bl_length]; omega), List.append_nil]
  | succ n ih =>
    intro i r h
    unfold ByteArray.toList.loop
    rw [if_pos (by omega), ih (i + 1) _ (by omega), drop_bl s i (by omega), List.reverse_cons, List.append_assoc]
    have : s.get! i = s[i]'(by omega) := by
      show s.data[i]! = _
      rw [getElem!_pos s.data i (by show i < s.size; omega)]; rfl
    rw [this]; rfl
theorem ba_toList (s : ByteArray) : s.toList = bl s := by
  unfold ByteArray.toList
  rw [ba_loop s _ 0 [] rfl]; rfl
/-- between two rounds -/
def PI (w : World) (pre : List UInt8) (W : World) : Prop :=
  (∃ v, Boxed W w.heap.size 26 v ∧ W.ownsRow (w.heap.size + 2) 5 1 v pre.length (pre.map byteV)) ∧ Below w.heap.size w W

set_option maxRecDepth 100000 in
set_option maxHeartbeats 4000000 in
theorem ParseDump_any (s : ByteArray) (w : World) (hs : s.size ≤ 2000) :
    Calls Try.prog 38 #[.string s] w fun e w' => e = .returned (.tuple #[.string (bs (parsed (parseC (bl s)) (bl s)).1), .int .i64 (parsed (parseC (bl s)) (bl s)).2]) ∧ Below w.heap.size w w' := by
  obtain ⟨i0, hi, hz0, hz1, hz2⟩ := info_parts info_byte
  obtain ⟨rs, rn, hpr⟩ : ∃ rs rn, parsed (parseC (bl s)) (bl s) = (rs, rn) := ⟨_, _, rfl⟩
  rw [hpr]
  have HPR := Lib.hid hpr
  clear hpr
  have hse : strE s = 0 := strE_zero.2 (by omega)
  have hse' : (strE s != 0) = false := by rw [hse]; rfl
  refine (callsIn_wide (n := 6)).1 ?_
  refine callsIn_of_wp_marks Try.func38 rfl trivial ?_ rfl
  simp only [Try.ntmps38, List.size_toArray, List.length_cons, List.length_nil, Nat.reduceAdd, Nat.reduceSub, Array.replicate_succ, Array.replicate_zero, List.push_toArray, List.append_toArray, List.nil_append, List.cons_append]
  gi_wp2_with (first | (gi_at_call 47; refine (callsIn_wide.2 (stringErr_any s w (by unfold maxLen; omega))).mono ?_; rintro e w' ⟨rfl, rfl⟩) | (gi_at_call 64; refine (callsIn_wide.2 (Lines_any s _)).mono ?_; rintro e w' ⟨rfl, rfl⟩))
  have bO := Boxed.new w 26 (.slice none 0 0)
  have bN := Boxed.new (w.alloc (.cells #[.slice none 0 0] 26)) 9 (.string s)
  have bO2 := bO.alloc (.cells #[.string s] 9)
  rw [World.size_alloc] at bN
  have hB0 : Below w.heap.size w ((w.alloc (.cells #[.slice none 0 0] 26)).alloc (.cells #[.string s] 9)) := ((Below.refl _ w).alloc (Nat.le_refl _) _).alloc (by simp) _
  obtain ⟨W0, hW0⟩ : ∃ W0, W0 = (w.alloc (.cells #[.slice none 0 0] 26)).alloc (.cells #[.string s] 9) := ⟨_, rfl⟩
  have hsz0 : W0.heap.size = w.heap.size + 1 + 1 := by rw [hW0]; simp
  rw [← hW0] at bN bO2 hB0 ⊢
  refine wpIn_rangeFunc_cell (gf := 81) (lb := #[.pointer (some ⟨w.heap.size + 1, 0, none⟩)]) rfl (enters_of Try.func81 (by kernel_rfl) rfl) (lines_seq _ (w.heap.size + 1) s (by omega)) (by omega) bN.cell bN.frozen (fun _ => rfl)
    (fun pre W => PI w (outC pre) W) ?hI ?hIs ?h0 ?round ?done
  case hI =>
    rintro pre A B row ⟨⟨v, hbx, hown⟩, hb⟩ hg hr
    refine ⟨⟨v, hbx.kept hg (fun e => by have := (hr _ e.symm).1; omega), hown.kept hg ?_⟩, hb.trans ⟨hg.os, hg.tape, hg.output, hg.size, fun k hk => hg.block k (by have := hb.size; omega) (fun e => by have := (hr _ e.symm).1; omega)⟩⟩
    rcases hown.2 with ⟨rfl, _⟩ | ⟨g, cap, cur, rfl, _, hgb, _⟩
    · exact .inl rfl
    · refine .inr fun e => ?_
      obtain ⟨_, o, ho, hc⟩ := hr g e.symm
      rw [hgb] at ho
      injection ho with ho
      subst ho
      cases hc
  case hIs =>
    rintro pre A u ⟨⟨v, hbx, hown⟩, hb⟩
    have hg := grownBy_setCell' A (w.heap.size + 1) u
    refine ⟨⟨v, hbx.kept hg (fun e => by injection e with e; omega), hown.kept hg (.inr (fun e => by have := (hown.lt _ e).1; omega))⟩, hb.setCell (p := ⟨w.heap.size + 1, 0, none⟩) (Nat.le_succ _) _⟩
  case h0 => exact ⟨⟨.slice none 0 0, bO2, World.ownsRow_nil _ _ _ _⟩, hB0⟩
  case round =>
    intro l pre x rest W hx
    gi_wp2
    refine ⟨trivial, fun W2 hbi hI => ?_⟩
    have hxs : x.size ≤ 2000 := by
      have h1 : x ∈ linesS s := by rw [hx]; simp
      unfold linesS at h1
      obtain ⟨y, hy, rfl⟩ := List.mem_map.1 h1
      have h2 : y.length ≤ (linesAt 10 (bl s)).flatten.length := by
        obtain ⟨a, b, hab⟩ := List.append_of_mem hy
        rw [hab]; simp; omega
      rw [linesAt_flat, bl_length] at h2
      rw [bs_size]; omega
    have hle := outC_le s pre x rest hx
    have HLE := Lib.hid hle
    have HI := Lib.hid hI
    clear hle hx hI
    gi_wp2_with (gi_at_call 65; refine (CallsIn.inRound l (callsIn_wide.2 (strCut_any x _ (by unfold maxLen; omega)))).mono ?_; rintro e W3 ⟨⟨bb, ff, rfl⟩, hb3⟩)
    have hI3 : PI w (outC pre) W3 := by
      obtain ⟨⟨v, h1, h2⟩, h3⟩ := HI.out
      exact ⟨⟨v, (hb3.block _ h1.lt).trans h1, ownsRow_below h2 hb3⟩, bel_trans h3 hb3⟩
    have hK3 : KeepsFrom (w.heap.size + 1 + 1) W2 W3 := ⟨hb3.size, fun k o _ hk _ => (hb3.block k (Array.getElem?_eq_some_iff.1 hk).1).trans hk⟩
    have hi3 : W3.heap[w.heap.size + 1]? = W2.heap[w.heap.size + 1]? := hb3.block _ hbi
    have hcs : (bs (colon (bl x))).size ≤ 2000 := by rw [bs_size]; have := colon_le (bl x); rw [bl_length] at this; omega
    gi_loopw [8] (fun r wr => ∃ (R : ByteArray) (out : List UInt8), r = .string R ∧ R.size ≤ 2000 ∧ out ++ trip (bl R) = outC pre ++ trip (colon (bl x)) ∧ PI w out wr ∧ KeepsFrom (w.heap.size + 1 + 1) W2 wr ∧ wr.heap[w.heap.size + 1]? = W2.heap[w.heap.size + 1]?) (fun r _ => match r with | .string R => R.size | _ => 0)
    case atStart => exact ⟨bs (colon (bl x)), outC pre, rfl, hcs, by rw [bl_bs], hI3, hK3, hi3⟩
    case round =>
      obtain ⟨R, out, rfl, hR, hout, hI4, hK4, hi4⟩ := hrel
      clear hI3 hK3 hi3 hcs
      have fin : trip (bl R) = [] → KeepsFrom (w.heap.size + 1 + 1) W2 wr ∧ wr.heap[w.heap.size + 1]? = W2.heap[w.heap.size + 1]? ∧ PI w (outC (pre ++ [x])) wr := fun h => by
        rw [h, List.append_nil] at hout
        exact ⟨hK4, hi4, by rw [outC_snoc, ← hout]; exact hI4⟩
      have FIN := Lib.hid fin
      clear fin
      by_cases h2 : 2 < R.size
      · obtain ⟨a, b, c, r, hRb⟩ : ∃ a b c r, bl R = a :: b :: c :: r := by
          have h3 : 2 < (bl R).length := by rw [bl_length]; exact h2
          match hm : bl R with
          | [] => rw [hm] at h3; simp at h3
          | [_] => rw [hm] at h3; simp at h3
          | [_, _] => rw [hm] at h3; simp at h3
          | a :: b :: c :: r => exact ⟨a, b, c, r, rfl⟩
        have g0 : ∀ h, R[0]'h = a := fun h => by
          show (bl R)[0]'h = a
          simp only [hRb, List.getElem_cons_zero]
        have g1 : ∀ h, R[1]'h = b := fun h => by
          show (bl R)[1]'h = b
          simp only [hRb, List.getElem_cons_succ, List.getElem_cons_zero]
        have g2 : ∀ h, R[2]'h = c := fun h => by
          show (bl R)[2]'h = c
          simp only [hRb, List.getElem_cons_succ, List.getElem_cons_zero]
        have HRB := Lib.hid hRb
        have HOUT := Lib.hid hout
        have HI4 := Lib.hid hI4
        clear hRb hout hI4
        by_cases ha : a = 32
        · subst ha
          rcases digI_some b with ⟨hb1, hb2⟩ | ⟨nb, hb0, hb1, hb2⟩
          · have HT := Lib.hid (show trip (bl R) = [] by rw [HRB.out]; unfold trip; rw [if_pos rfl, hb2])
            clear hb2
            gi_wp2_with (gi_at_call 66; refine (CallsIn.inRound l (callsIn_wide.2 (digit_any _ _))).mono ?_; rintro e w' ⟨rfl, rfl⟩)
            obtain ⟨q1, q2, q3⟩ := FIN.out HT.out
            first | exact q3 | exact ⟨q1, q3⟩
          · rcases digI_some c with ⟨hc1, hc2⟩ | ⟨nc, hc0, hc1, hc2⟩
            · have HT := Lib.hid (show trip (bl R) = [] by rw [HRB.out]; unfold trip; rw [if_pos rfl, hb2, hc2])
              clear hb2 hc2
              gi_wp2_with (gi_at_call 66; refine (CallsIn.inRound l (callsIn_wide.2 (digit_any _ _))).mono ?_; rintro e w' ⟨rfl, rfl⟩)
              obtain ⟨q1, q2, q3⟩ := FIN.out HT.out
              first | exact q3 | exact ⟨q1, q3⟩
            · obtain ⟨D, hD⟩ : ∃ D, D = UInt8.ofNat (16 * nb + nc) := ⟨_, rfl⟩
              have HT := Lib.hid (show trip (bl R) = D :: trip r by rw [HRB.out, hD]; simp only [trip, if_true, hb2, hc2])
              clear hb2 hc2
              have HD1 := Lib.hid (fun W => (digit_any b W).mono (R' := fun e w' => e = .returned (.int .i64 nb) ∧ W = w') (fun e w' ⟨p1, p2⟩ => ⟨by rw [p1, hb1], p2⟩))
              have HD2 := Lib.hid (fun W => (digit_any c W).mono (R' := fun e w' => e = .returned (.int .i64 nc) ∧ W = w') (fun e w' ⟨p1, p2⟩ => ⟨by rw [p1, hc1], p2⟩))
              clear hb1 hc1
              have hbo := or_digits nb nc hb0 hc0
              obtain ⟨m, hm⟩ : ∃ m, m = 16 * nb + nc := ⟨_, rfl⟩
              rw [← hm] at hD hbo
              have hm256 : m < 256 := by omega
              have hmod : (m : Int) % 256 = m := by omega
              have hDm : (D.toNat : Int) = m := by rw [hD, UInt8.toNat_ofNat']; omega
              have HDM := Lib.hid hDm
              clear hm hDm hD
              gi_wp2_with (first | (gi_at_call 66; (with_reducible refine (CallsIn.inRound l (callsIn_wide.2 (HD1.out _))).mono ?_); rintro e w' ⟨rfl, rfl⟩) | (gi_at_call 66; (with_reducible refine (CallsIn.inRound l (callsIn_wide.2 (HD2.out _))).mono ?_); rintro e w' ⟨rfl, rfl⟩))
              obtain ⟨⟨v, hbx, hown⟩, hbw⟩ := HI4.out
              obtain ⟨A, cA, rfl, _⟩ := ownsRow_form hown
              have hcv := hbx.cell
              have hbl := hbx.lt
              have hb16 : nb ≤ 15 := by omega
              have hc16 : nc ≤ 15 := by omega
              have HBX := Lib.hid hbx
              have HOWN := Lib.hid hown
              clear hbx hown
              (refine wpIn_region_flow [false, false, false, false, false, false, false, false, false, false, true] [⟨10, [], OneB wr.heap.size D, false⟩] (by kernel_rfl) (by kernel_rfl) (by rintro ⟨_, _, h⟩; first | exact h | exact absurd h.1 (fun e => by cases e)) (by kernel_rfl) (by kernel_rfl) ?_; simp only [pick, List.length_cons, List.length_nil, List.drop_succ_cons, List.drop_zero, Nat.zero_add, Nat.reduceAdd]; apply Exists.intro; refine ⟨fun X hX => ?_, ?_⟩; (focus (obtain ⟨hcX, hfX⟩ := bcell hX; have hgX := regcell hX; have hsX := hX.size; (try simp only [World.size_alloc] at hsX); (repeat (go_big_quiet_step ((first | (go_at_call 66; (with_reducible exact Calls.reg_pure (HD1.out _))) | (go_at_call 66; (with_reducible exact Calls.reg_pure (HD2.out _))))))); exact wpQuiet_nil rfl)); simp only [wpND, told, toldAll, List.contains_cons, List.contains_nil, List.mem_cons, List.not_mem_nil, forall_eq_or_imp, false_implies, implies_true, and_true, Nat.reduceBEq, BEq.rfl, beq_self_eq_true, Bool.or_false, Bool.false_or, Bool.true_or, Bool.or_true, Bool.false_eq_true, if_true, if_false, true_implies, dstAt, List.getElem?_toArray, List.getElem?_cons_succ, List.getElem?_cons_zero, Option.some.injEq, forall_eq', Option.bind_some, Act.put, List.setIfInBounds_toArray, List.set_cons_succ, List.set_cons_zero])
              have hwr2 := hK4.size
              have hrs : (R.extract 3 R.size).size = R.size - 3 := by rw [ByteArray.size_extract]; omega
              have hrb : bl (R.extract 3 R.size) = r := by
                rw [bl_extract, ← bl_length, List.take_length, HRB.out]; rfl
              have HRX := Lib.hid hrb
              clear hrb g0 g1 g2
              refine ⟨OneB.stable, fun X hX => ?_, fun v1 X hX hf => ?_⟩
              · exact leaves_alloc' (v := .slice (some ⟨X.heap.size, 0, none⟩) 1 1) (obj := .cells #[.int .u8 m] 5) (by kernel_rfl) ⟨X.heap.size, rfl, hX.size, by rw [show byteV D = .int .u8 m by unfold byteV; rw [HDM.out]]; exact heap_alloc_new _ _⟩
              · obtain ⟨b3, rfl, hb3, hx3⟩ := hf
                have hmv := ownsRow_below HOWN.out hX
                have hlen : out.length ≤ 2000 := by
                  have h1 := HLE.out
                  rw [← HOUT.out, List.length_append] at h1
                  omega
                refine wpList_append_rd X rfl (.tmp 44) (.tmp 54) 26 rfl (w.heap.size + 2) 5 i0 _ 1 1 Try.underlying26 hi hz0 hz1 hz2 rfl (by decide) (.slice A out.length cA) out.length _ rfl hmv X.heap.size (some ⟨b3, 0, none⟩) 1 1 [byteV D] rfl rfl (Rd.one hx3) (by intro u hu; simp at hu; subst hu; rfl) (by unfold maxLen; omega) (by omega) (by have := hX.size; omega) ?_
                intro v' w1 hown1 hgrow hvb hbel
                obtain ⟨A', c', rfl, _⟩ := ownsRow_form hown1
                have hbx1 : Boxed w1 w.heap.size 26 (.slice A out.length cA) := ((hX.block _ hbl).trans HBX.out : X.heap[w.heap.size]? = _) |> fun h => Boxed.kept (W := X) h hgrow (Boxed.not_row (W := X) h (by decide) hmv)
                have hbi1 : w1.heap[w.heap.size + 1]? = W2.heap[w.heap.size + 1]? := (hgrow.block _ (by have := hX.size; omega) (fun e => by have := (hmv.lt _ e.symm).1; omega)).trans ((hX.block _ (by omega)).trans hi4)
                have hK1 : KeepsFrom (w.heap.size + 1 + 1) W2 w1 := hK4.trans ⟨Nat.le_trans hX.size hgrow.size, fun k o hB hk ho => by
                  have hk' : X.heap[k]? = some o := (hX.block k (Array.getElem?_eq_some_iff.1 hk).1).trans hk
                  refine (hgrow.block k (Array.getElem?_eq_some_iff.1 hk').1 (fun e => ?_)).trans hk'
                  rcases hmv.2 with ⟨h0, _⟩ | ⟨g, cap, cur, h0, _, hgb, _⟩
                  · rw [h0] at e; cases e
                  · rw [h0] at e
                    injection e with e
                    subst e
                    rw [hgb] at hk'
                    injection hk' with hk'
                    subst hk'
                    cases ho⟩
                have hbw1 : Below w.heap.size w w1 := (bel_trans hbw hX).trans (hbel.mono (by omega))
                have hc1 := hbx1.cell
                have hf1 := hbx1.frozen
                have hs1 : w.heap.size < w1.heap.size := hbx1.lt
                have HB1 := Lib.hid hbx1
                have HO1 := Lib.hid hown1
                have HK1 := Lib.hid hK1
                have HBI1 := Lib.hid hbi1
                have HBW1 := Lib.hid hbw1
                clear hbx1 hown1 hK1 hbi1 hbw1 hgrow hvb hbel hmv hx3
                go_wp2
                gi_wp2
                go_roundw
                case rel =>
                  refine ⟨R.extract 3 R.size, out ++ [D], rfl, by omega, by rw [HRX.out, ← HOUT.out, HT.out, List.append_assoc]; rfl, ⟨⟨.slice A' (out.length + 1) c', HB1.out.set _, ?_⟩, HBW1.out.setCell (p := ⟨w.heap.size, 0, none⟩) (Nat.le_refl _) _⟩, ?_, ?_⟩
                  · rw [List.length_append, List.map_append]
                    exact HO1.out.kept (grownBy_setCell' w1 w.heap.size _) (.inr (fun e => by have := (HO1.out.lt _ e).1; omega))
                  · exact HK1.out.trans ((KeepsOthers.setCell _ _ _).from _)
                  · exact (Below.heap_setCell _ _ _ _ (by show w.heap.size + 1 ≠ w.heap.size; omega)).trans HBI1.out
                case measure => show (R.extract 3 R.size).size < R.size; omega
        · have HT := Lib.hid (show trip (bl R) = [] by rw [HRB.out]; unfold trip; rw [if_neg ha])
          have ha' : ((a.toNat : Int) == 32) = false := by
            rw [beq_eq_false_iff_ne]; intro h; exact ha (UInt8.toNat_inj.1 (by show _ = 32; omega))
          clear ha
          gi_wp2
          obtain ⟨q1, q2, q3⟩ := FIN.out HT.out
          first | exact q3 | exact ⟨q1, q3⟩
      · have HT := Lib.hid (show trip (bl R) = [] by
          have h3 : ¬ 2 < (bl R).length := by rw [bl_length]; exact h2
          match hm : bl R with
          | [] => rfl
          | [_] => rfl
          | [_, _] => rfl
          | a :: b :: c :: r => rw [hm] at h3; simp at h3)
        gi_wp2
        obtain ⟨q1, q2, q3⟩ := FIN.out HT.out
        first | exact q3 | exact ⟨q1, q3⟩
  case done =>
    intro D W hD hI hK
    rw [outC_all] at hI
    have hlen := parseC_len (bl s)
    rw [bl_length] at hlen
    obtain ⟨out, hout⟩ : ∃ o, o = parseC (bl s) := ⟨_, rfl⟩
    have hpr := HPR.out
    rw [← hout] at hI hlen hpr
    obtain ⟨⟨v, hbx, hown⟩, hbw⟩ := hI
    have hconv := conv_own hown
    obtain ⟨A, cA, rfl, _⟩ := ownsRow_form hown
    have hcv := hbx.cell
    have hDW : D < W.heap.size := (Array.getElem?_eq_some_iff.1 hK).1
    have hl1 : decide ((out.length : Int) > 4096) = false := by simp; omega
    obtain ⟨Z, hZ⟩ : ∃ Z, Z = bs (dumpL out) := ⟨_, rfl⟩
    have HDU := Lib.hid (show Calls Try.prog 63 #[.string (bs out)] W fun e w' => e = .returned (.string Z) ∧ Below W.heap.size W w' from (dump_any (bs out) W (by rw [bs_size]; omega)).mono (fun e w' ⟨p, q⟩ => ⟨by rw [p, bl_bs, hZ], q⟩))
    have HOWN := Lib.hid hown
    have HBX := Lib.hid hbx
    clear hown hbx
    by_cases hd : dumpL out = bl s
    · rw [hd, bs_bl] at hZ
      subst hZ
      rw [show parsed out (bl Z) = (out, 0) by unfold parsed; rw [if_neg (by rintro (h | h); omega; exact h hd)]] at hpr
      injection hpr with hp1 hp2
      subst hp1
      subst hp2
      clear hd hout HPR
      gi_wp2_with (gi_at_call 63; refine (callsIn_wide.2 HDU.out).mono ?_; rintro e W5 ⟨rfl, hb5⟩; have hK5 := (hb5.block D hDW).trans hK; have hcv5 := (hb5.cell (p := ⟨w.heap.size, 0, none⟩) HBX.out.lt).trans hcv; have hconv5 := conv_own (ownsRow_below HOWN.out hb5); have hbw5 := bel_trans hbw hb5)
      refine ⟨by simp, .inl ⟨_, _, rfl, run_takeDeferred hK5, ?_⟩⟩
      exact ⟨_, results_tmp2 rfl _ _ _, rfl, hbw5.trans ((Below.refl w.heap.size W5).grown (grownBy_putObj' W5 D _) (by have := hbw5.size; omega) (fun k e => by cases e; omega))⟩
    · have hZs : Z ≠ s := fun e => hd (by rw [← e, hZ, bl_bs])
      have hzz : (Z.toList == s.toList) = false := by
        rw [beq_eq_false_iff_ne]
        intro h
        exact hZs (bl_inj (by rw [← ba_toList, ← ba_toList]; exact h))
      rw [show parsed out (bl s) = ([], 7) by unfold parsed; rw [if_pos (.inr hd)]] at hpr
      injection hpr with hp1 hp2
      subst hp1
      subst hp2
      clear hd hout hZ HPR
      gi_wp2_with (gi_at_call 63; refine (callsIn_wide.2 HDU.out).mono ?_; rintro e W5 ⟨rfl, hb5⟩; have hK5 := (hb5.block D hDW).trans hK; have hbw5 := bel_trans hbw hb5)
      refine ⟨by simp, .inl ⟨_, _, rfl, run_takeDeferred hK5, ?_⟩⟩
      exact ⟨_, results_tmp2 rfl _ _ _, rfl, hbw5.trans ((Below.refl w.heap.size W5).grown (grownBy_putObj' W5 D _) (by have := hbw5.size; omega) (fun k e => by cases e; omega))⟩
end Go.Proofs.Ytiomfkgbaemmkaa
