/-
  Chapter 21: the bytes of an operation; equal lists of operations.
-/
import Derived.Test.YtgmipogidmcilaaDoorOpAll2
namespace Go.Proofs.YtgmipogidmcilaaDoor
set_option linter.unusedVariables false
set_option linter.unusedSimpArgs false
open Go.RowKit Go.Sort

def opNums (x : Op) : List Int := [x.a, x.e, x.c, x.o.size, x.n.size]
def opBytesAt (x : Op) (k : Nat) : List UInt8 := lit x.k 1 ++ ((opNums x).take k).flatMap (fun n => lit n 2)
def opBytesL (x : Op) : List UInt8 := opBytesAt x 5 ++ bl x.o ++ bl x.n
theorem opBytesAt_succ (x : Op) (k : Nat) (n : Int) (h : (opNums x)[k]? = some n) : opBytesAt x (k + 1) = opBytesAt x k ++ lit n 2 := by
  unfold opBytesAt
  obtain ⟨hk, hv⟩ := List.getElem?_eq_some_iff.1 h
  rw [List.take_succ_eq_append_getElem hk, hv, List.flatMap_append, List.append_assoc]
  simp
theorem opBytesAt_len (x : Op) (k : Nat) (hk : k ≤ 5) : (opBytesAt x k).length = 1 + 2 * k := by
  have : k = 0 ∨ k = 1 ∨ k = 2 ∨ k = 3 ∨ k = 4 ∨ k = 5 := by omega
  rcases this with rfl | rfl | rfl | rfl | rfl | rfl <;> simp [opBytesAt, opNums, lit_length]
theorem bs_app (l m : List UInt8) : bs l ++ bs m = bs (l ++ m) := by apply bl_inj; rw [bl_append]; rfl
/-- numbers that are not negative -/
structure OpPos (x : Op) : Prop where
  k : 0 ≤ x.k ∧ x.k ≤ 5000
  a : 0 ≤ x.a ∧ x.a ≤ 5000
  e : 0 ≤ x.e ∧ x.e ≤ 5000
  c : 0 ≤ x.c ∧ x.c ≤ 5000
  o : x.o.size ≤ 3100
  n : x.n.size ≤ 3100
theorem opOK_pos {x : Op} (h : opOK x) : OpPos x := by unfold opOK at h; constructor <;> omega

set_option maxRecDepth 100000 in
set_option maxHeartbeats 1000000 in
theorem opBytes_any (x : Op) (w : World) (h : OpPos x) :
    Calls Tryd.prog 68 #[opV x] w fun r w' => r = .returned (.string (bs (opBytesL x))) ∧ Below w.heap.size w w' := by
  obtain ⟨hk, ha, he, hc, ho, hn⟩ := h
  obtain ⟨K, a, e, c, o, n⟩ := x
  dsimp only at hk ha he hc ho hn
  obtain ⟨X, hX⟩ : ∃ X, X = Op.mk K a e c o n := ⟨_, rfl⟩
  have h0 : bs (lit K 1) = bs (opBytesAt X 0) := by rw [hX]; simp [opBytesAt]
  have hs : ∀ j, j ≤ 5 → (bs (opBytesAt X j)).size = 1 + 2 * j := fun j hj => by rw [bs_size, opBytesAt_len X j hj]
  have g0 : (opNums X)[0]? = some a := by rw [hX]; rfl
  have g1 : (opNums X)[1]? = some e := by rw [hX]; rfl
  have g2 : (opNums X)[2]? = some c := by rw [hX]; rfl
  have g3 : (opNums X)[3]? = some (o.size : Int) := by rw [hX]; rfl
  have g4 : (opNums X)[4]? = some (n.size : Int) := by rw [hX]; rfl
  have hfin : bs (opBytesAt X 5) ++ o ++ n = bs (opBytesL X) := by
    rw [hX]; apply bl_inj; rw [bl_append, bl_append]; rfl
  have H0 := Lib.hid h0
  have HS := Lib.hid hs
  have G0 := Lib.hid g0
  have G1 := Lib.hid g1
  have G2 := Lib.hid g2
  have G3 := Lib.hid g3
  have G4 := Lib.hid g4
  have HF := Lib.hid hfin
  show Calls Tryd.prog 68 #[.agg #[.int .i64 K, .int .i64 a, .int .i64 e, .int .i64 c, .string o, .string n]] w fun r w' => r = .returned (.string (bs (opBytesL ⟨K, a, e, c, o, n⟩))) ∧ Below w.heap.size w w'
  rw [← hX]
  clear h0 hs g0 g1 g2 g3 g4 hfin hX
  have hL := fun W => logop_little_any K 1 hk.1 (by omega) (by omega) W
  rw [H0.out] at hL
  have HL := Lib.hid hL
  clear hL
  have hla := fun W => logop_little_any a 2 ha.1 (by omega) (by omega) W
  have hle := fun W => logop_little_any e 2 he.1 (by omega) (by omega) W
  have hlc := fun W => logop_little_any c 2 hc.1 (by omega) (by omega) W
  have hlo := fun W => logop_little_any (o.size : Int) 2 (by omega) (by omega) (by omega) W
  have hln := fun W => logop_little_any (n.size : Int) 2 (by omega) (by omega) (by omega) W
  have HLA := Lib.hid hla
  have HLE := Lib.hid hle
  have HLC := Lib.hid hlc
  have HLO := Lib.hid hlo
  have HLN := Lib.hid hln
  clear hla hle hlc hlo hln
  go_enter Tryd.func68, Tryd.ntmps68
  go_wp2_with (go_at_call 71; refine (HL.out _).mono ?_; rintro e W1 ⟨rfl, hbW1⟩; obtain ⟨hcW1, hfW1⟩ := bcell hbW1; have hsW1 : w.heap.size < W1.heap.size := (by have h := hbW1.size; simp at h; omega))
  go_loopw [3, 22] (fun s i wr => ∃ (k : Nat) (S : ByteArray), k ≤ 5 ∧ i = .int .i64 k ∧ s = .string S ∧ S = bs (opBytesAt X k) ∧ Below W1.heap.size W1 wr) (fun _ i _ => 5 - (intOf i).toNat)
  case atStart => exact ⟨0, _, by omega, rfl, rfl, rfl, Below.refl _ _⟩
  case round =>
    obtain ⟨k, S, hk5, rfl, rfl, hS, hb⟩ := hrel
    have hsz : S.size = 1 + 2 * k := by rw [hS]; exact HS.out k hk5
    have hsz' : S.size ≤ 11 := by omega
    have HSS := Lib.hid hS
    have hz2 : ∀ m : Int, (bs (lit m 2)).size = 2 := fun m => by rw [bs_size, lit_length]
    clear hS
    have : k = 0 ∨ k = 1 ∨ k = 2 ∨ k = 3 ∨ k = 4 ∨ k = 5 := by omega
    rcases this with rfl | rfl | rfl | rfl | rfl | rfl
    · clear hsz
      have hix : ∀ W, (Instr.index 117 (.agg #[.int .i64 a, .int .i64 e, .int .i64 c, .int .i64 o.size, .int .i64 n.size]) (.int .i64 0)).run Tryd.prog W = .ok (.int .i64 a) W := fun W => by kernel_rfl
      go_wp2_with (go_at_call 71; refine (HLA.out _).mono ?_; rintro e W2 ⟨rfl, hbW2⟩)
      go_roundw
      case rel => exact ⟨0 + 1, _, by omega, by go_num, rfl, (by rw [HSS.out, bs_app, opBytesAt_succ X 0 _ G0.out]), bel_trans hb hbW2⟩
      case measure => simp [intOf]
    · clear hsz
      have hix : ∀ W, (Instr.index 117 (.agg #[.int .i64 a, .int .i64 e, .int .i64 c, .int .i64 o.size, .int .i64 n.size]) (.int .i64 1)).run Tryd.prog W = .ok (.int .i64 e) W := fun W => by kernel_rfl
      go_wp2_with (go_at_call 71; refine (HLE.out _).mono ?_; rintro e W2 ⟨rfl, hbW2⟩)
      go_roundw
      case rel => exact ⟨1 + 1, _, by omega, by go_num, rfl, (by rw [HSS.out, bs_app, opBytesAt_succ X 1 _ G1.out]), bel_trans hb hbW2⟩
      case measure => simp [intOf]
    · clear hsz
      have hix : ∀ W, (Instr.index 117 (.agg #[.int .i64 a, .int .i64 e, .int .i64 c, .int .i64 o.size, .int .i64 n.size]) (.int .i64 2)).run Tryd.prog W = .ok (.int .i64 c) W := fun W => by kernel_rfl
      go_wp2_with (go_at_call 71; refine (HLC.out _).mono ?_; rintro e W2 ⟨rfl, hbW2⟩)
      go_roundw
      case rel => exact ⟨2 + 1, _, by omega, by go_num, rfl, (by rw [HSS.out, bs_app, opBytesAt_succ X 2 _ G2.out]), bel_trans hb hbW2⟩
      case measure => simp [intOf]
    · clear hsz
      have hix : ∀ W, (Instr.index 117 (.agg #[.int .i64 a, .int .i64 e, .int .i64 c, .int .i64 o.size, .int .i64 n.size]) (.int .i64 3)).run Tryd.prog W = .ok (.int .i64 o.size) W := fun W => by kernel_rfl
      go_wp2_with (go_at_call 71; refine (HLO.out _).mono ?_; rintro e W2 ⟨rfl, hbW2⟩)
      go_roundw
      case rel => exact ⟨3 + 1, _, by omega, by go_num, rfl, (by rw [HSS.out, bs_app, opBytesAt_succ X 3 _ G3.out]), bel_trans hb hbW2⟩
      case measure => simp [intOf]
    · clear hsz
      have hix : ∀ W, (Instr.index 117 (.agg #[.int .i64 a, .int .i64 e, .int .i64 c, .int .i64 o.size, .int .i64 n.size]) (.int .i64 4)).run Tryd.prog W = .ok (.int .i64 n.size) W := fun W => by kernel_rfl
      go_wp2_with (go_at_call 71; refine (HLN.out _).mono ?_; rintro e W2 ⟨rfl, hbW2⟩)
      go_roundw
      case rel => exact ⟨4 + 1, _, by omega, by go_num, rfl, (by rw [HSS.out, bs_app, opBytesAt_succ X 4 _ G4.out]), bel_trans hb hbW2⟩
      case measure => simp [intOf]
    · have hfin : S ++ o ++ n = bs (opBytesL X) := by rw [HSS.out]; exact HF.out
      have HFIN := Lib.hid hfin
      obtain ⟨hcR, hfR⟩ := bcell hb
      have hso : (S ++ o).size = S.size + o.size := ByteArray.size_append
      clear hfin hsz
      go_wp2
      go_ret
      exact ⟨retS HFIN.out, by (repeat (first | assumption | exact Below.refl _ _ | refine bel_drewN ?_ _ | refine bel_alloc ?_ _ | refine bel_trans ?_ (by assumption) | refine Below.trans ?_ (by assumption)))⟩
end Go.Proofs.YtgmipogidmcilaaDoor
