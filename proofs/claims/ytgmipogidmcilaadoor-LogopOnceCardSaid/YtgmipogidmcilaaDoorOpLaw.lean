/-
  Chapter 21: the examples of the document (awake), and what the laws ask first.
-/
import Derived.Test.YtgmipogidmcilaaDoorOpAwk
namespace Go.Proofs.YtgmipogidmcilaaDoor
set_option linter.unusedVariables false
set_option linter.unusedSimpArgs false
open Go.RowKit Go.Sort

def pg0 : ByteArray := patS (bs (zerosL 512)) 64 ⟨#[97, 98, 99, 100, 101]⟩
def pgA : ByteArray := patS pg0 64 ⟨#[88]⟩
def pgB : ByteArray := patS pgA 67 ⟨#[89]⟩
def exA : Op := ⟨1, 66, 0, 0, ⟨#[99]⟩, ⟨#[88]⟩⟩
def exB : Op := ⟨2, 65, 69, 0, ⟨#[]⟩, ⟨#[88, 89]⟩⟩
def exC : Op := ⟨4, 6, 0, 3, ⟨#[]⟩, ⟨#[]⟩⟩
def exD : Op := ⟨1, 64, 0, 0, ⟨#[97, 98, 99, 100]⟩, ⟨#[88, 98, 99, 89]⟩⟩
def L0 : List UInt8 := zerosL 64 ++ ([97, 98, 99, 100, 101] ++ zerosL 443)
def LB : List UInt8 := zerosL 64 ++ ([88, 98, 99, 89, 101] ++ zerosL 443)
theorem bl_lit (l : List UInt8) : bl ⟨l.toArray⟩ = l := rfl
theorem pg0_eq : pg0 = bs L0 := by
  apply bl_inj
  unfold pg0
  rw [bl_patS, bl_bs, bl_bs]
  show (zerosL 512).take 64 ++ [97, 98, 99, 100, 101] ++ (zerosL 512).drop 69 = L0
  decide +kernel
theorem pgB_eq : pgB = bs LB := by
  apply bl_inj
  unfold pgB pgA
  have h1 : (⟨#[89]⟩ : ByteArray).size = 1 := rfl
  have h2 : (⟨#[88]⟩ : ByteArray).size = 1 := rfl
  rw [bl_patS, bl_patS, pg0_eq, bl_bs, bl_bs]
  show (L0.take 64 ++ [88] ++ L0.drop 65).take 67 ++ [89] ++ (L0.take 64 ++ [88] ++ L0.drop 65).drop 68 = LB
  decide +kernel
theorem pg0_size : pg0.size = 512 := by rw [pg0_eq, bs_size]; kernel_rfl
theorem pgA_size : pgA.size = 512 := by
  unfold pgA
  have h2 : (⟨#[88]⟩ : ByteArray).size = 1 := rfl
  rw [← bl_length, bl_patS, pg0_eq, bl_bs]
  show (L0.take 64 ++ [88] ++ L0.drop 65).length = 512
  decide +kernel
theorem pgB_size : pgB.size = 512 := by rw [pgB_eq, bs_size]; kernel_rfl
def LX : List UInt8 := L0.take 66 ++ [88] ++ L0.drop 67
def LY : List UInt8 := insL L0 65 69 [88, 89]
theorem pat66 (L : List UInt8) : patS (bs L) 66 ⟨#[88]⟩ = bs (L.take 66 ++ [88] ++ L.drop 67) := by
  apply bl_inj; rw [bl_patS]; rfl
set_option maxRecDepth 100000 in
theorem exA_all : opOne pg0 exA = (bs LX, 0) := by
  have h1 : opE exA = 0 := by kernel_rfl
  have h2 : opFit pg0 exA = true := by rw [pg0_eq]; kernel_rfl
  have h3 : opDo pg0 exA = bs LX := by
    show patS pg0 66 ⟨#[88]⟩ = bs LX
    rw [pg0_eq, pat66 L0]; rfl
  unfold opOne opTry
  rw [pageE_zero.2 pg0_size, if_neg (fun h => h rfl), h1, if_neg (fun h => h rfl), h2, if_pos rfl, h3]
theorem exB_all : opOne pg0 exB = (bs LY, 0) := by
  have h1 : opE exB = 0 := by kernel_rfl
  have h2 : opFit pg0 exB = true := by rw [pg0_eq]; kernel_rfl
  have h3 : opDo pg0 exB = bs LY := by
    show bs (insL (bl pg0) 65 69 [88, 89]) = bs LY
    rw [pg0_eq, bl_bs]; rfl
  unfold opOne opTry
  rw [pageE_zero.2 pg0_size, if_neg (fun h => h rfl), h1, if_neg (fun h => h rfl), h2, if_pos rfl, h3]
theorem exA_err : (opOne pg0 exA).2 = 0 := by rw [exA_all]
theorem exB_err : (opOne pg0 exB).2 = 0 := by rw [exB_all]
theorem exA_size : (opOne pg0 exA).1.size = 512 := by rw [exA_all, bs_size]; kernel_rfl
theorem exB_size : (opOne pg0 exB).1.size = 512 := by rw [exB_all, bs_size]; kernel_rfl
theorem exA_cut : (opOne pg0 exA).1.extract 64 69 = ⟨#[97, 98, 88, 100, 101]⟩ := by
  apply bl_inj; rw [exA_all, bl_extract, bl_bs]; kernel_rfl
theorem exB_cut : (opOne pg0 exB).1.extract 64 71 = ⟨#[97, 88, 89, 98, 99, 100, 101]⟩ := by
  apply bl_inj; rw [exB_all, bl_extract, bl_bs]; kernel_rfl
theorem exC_err : opE exC = 0 := by kernel_rfl
theorem exC_bytes : opBytesE exC = ⟨#[4, 6, 0, 0, 0, 3, 0, 0, 0, 0, 0]⟩ := by
  unfold opBytesE; rw [exC_err, if_pos rfl]; kernel_rfl
theorem skipTo_all {a b : ByteArray} : ∀ f k, (∀ i, k ≤ i → dif a b i = false) → skipTo a b f k = k + f
  | 0, k, _ => rfl
  | f + 1, k, h => by
    rw [skipTo_succ, h k (Nat.le_refl _), if_neg (by decide), skipTo_all f (k + 1) (fun i hi => h i (by omega))]; omega
theorem exD_tail (i : Nat) (h : 68 ≤ i) : dif (bs L0) (bs LB) i = false := by
  have e0 : L0 = (zerosL 64 ++ [97, 98, 99, 100]) ++ (101 :: zerosL 443) := by kernel_rfl
  have e1 : LB = (zerosL 64 ++ [88, 98, 99, 89]) ++ (101 :: zerosL 443) := by kernel_rfl
  have l0 : (zerosL 64 ++ [97, 98, 99, 100]).length = 68 := by kernel_rfl
  have l1 : (zerosL 64 ++ [88, 98, 99, 89]).length = 68 := by kernel_rfl
  unfold dif
  rw [bl_bs, bl_bs, getD_get, getD_get, e0, e1, List.getElem?_append_right (by rw [l0]; exact h), List.getElem?_append_right (by rw [l1]; exact h), l0, l1]
  simp
theorem exD_bet : between pg0 pgB = [exD] := by
  rw [pg0_eq, pgB_eq]
  have h1 : patSkip (bs L0) (bs LB) 0 = 64 := by kernel_rfl
  have h2 : patEnd (bs L0) (bs LB) 64 = 68 := by kernel_rfl
  have h3 : patSkip (bs L0) (bs LB) 68 = 512 := by
    unfold patSkip; rw [skipTo_all _ _ (fun i hi => exD_tail i hi)]
  have h4 : patOp (bs L0) (bs LB) 64 68 = exD := by
    unfold patOp exD
    have g1 : (bs L0).extract 64 68 = ⟨#[97, 98, 99, 100]⟩ := by apply bl_inj; rw [bl_extract, bl_bs]; kernel_rfl
    have g2 : (bs LB).extract 64 68 = ⟨#[88, 98, 99, 89]⟩ := by apply bl_inj; rw [bl_extract, bl_bs]; kernel_rfl
    rw [g1, g2]; rfl
  unfold between
  rw [betL_next (by rw [h1]; decide), h1, h2, betL_end h3, h4]

theorem exD_rd (W : World) : Rd (W.alloc (.cells #[.int .i64 1, .int .i64 64, .int .i64 0, .int .i64 0, .string ⟨#[97, 98, 99, 100]⟩, .string ⟨#[88, 98, 99, 89]⟩] 27)) (W.alloc (.cells #[.int .i64 1, .int .i64 64, .int .i64 0, .int .i64 0, .string ⟨#[97, 98, 99, 100]⟩, .string ⟨#[88, 98, 99, 89]⟩] 27)).heap.size (some ⟨W.heap.size, 0, none⟩) (opsV [exD]) := fun j u hj => by
  have hb := Box.new W #[.int .i64 1, .int .i64 64, .int .i64 0, .int .i64 0, .string ⟨#[97, 98, 99, 100]⟩, .string ⟨#[88, 98, 99, 89]⟩] 27
  refine ⟨W.heap.size, 0, rfl, hb.lt, ?_⟩
  rw [Nat.zero_add, hb.cells j]
  simpa [opsV, opVs, exD] using hj
theorem Page_any (w : World) : Calls Tryd.prog 50 #[] w fun e w' => e = .returned (.string pg0) ∧ Below w.heap.size w w' := by
  have hz : (bs (zerosL 512)).size = 512 := zerosL_size _
  have hZ := fun W => Zeros_any 512 W (by omega)
  have hP := fun W => Patch_any (bs (zerosL 512)) ⟨#[97, 98, 99, 100, 101]⟩ 64 W (by omega) (by rw [hz]; decide)
  have HZ := Lib.hid hZ
  have HP := Lib.hid hP
  clear hz hZ hP
  go_enter Tryd.func50, Tryd.ntmps50
  go_wp2_with (first | (go_at_call 78; refine (HZ.out _).mono ?_; rintro e W1 ⟨rfl, hbW1⟩) | (go_at_call 51; refine (HP.out _).mono ?_; rintro e W2 ⟨rfl, hbW2⟩))
  go_ret
  exact ⟨rfl, by (repeat (first | assumption | exact Below.refl _ _ | refine bel_drewN ?_ _ | refine bel_alloc ?_ _ | refine bel_trans ?_ (by assumption) | refine Below.trans ?_ (by assumption)))⟩

set_option maxRecDepth 100000 in
theorem short_any (x : Op) (w : World) (ho : x.o.size ≤ maxLen) (hn : x.n.size ≤ maxLen) :
    Calls Tryd.prog 14 #[opV x] w fun e w' => e = .returned (.bool (decide (x.o.size ≤ 600) && decide (x.n.size ≤ 600))) ∧ Below w.heap.size w w' := by
  unfold maxLen at ho hn
  unfold opV
  by_cases h1 : x.o.size ≤ 600
  · by_cases h2 : x.n.size ≤ 600
    · go_enter Tryd.func14, Tryd.ntmps14
      go_wp2
      go_ret
      exact ⟨retB (by rw [Bool.eq_iff_iff]; simp; try omega), by (repeat (first | assumption | exact Below.refl _ _ | refine bel_drewN ?_ _ | refine bel_alloc ?_ _ | refine bel_trans ?_ (by assumption) | refine Below.trans ?_ (by assumption)))⟩
    · go_enter Tryd.func14, Tryd.ntmps14
      go_wp2
      go_ret
      exact ⟨retB (by rw [Bool.eq_iff_iff]; simp; try omega), by (repeat (first | assumption | exact Below.refl _ _ | refine bel_drewN ?_ _ | refine bel_alloc ?_ _ | refine bel_trans ?_ (by assumption) | refine Below.trans ?_ (by assumption)))⟩
  · rw [decide_eq_false h1, Bool.false_and]
    go_enter Tryd.func14, Tryd.ntmps14
    go_wp2
    go_ret
    exact ⟨rfl, by (repeat (first | assumption | exact Below.refl _ _ | refine bel_drewN ?_ _ | refine bel_alloc ?_ _ | refine bel_trans ?_ (by assumption) | refine Below.trans ?_ (by assumption)))⟩

theorem pageLike_any (p : ByteArray) (w : World) (hp : p.size ≤ maxLen) :
    Calls Tryd.prog 13 #[.string p] w fun e w' => e = .returned (.bool (decide (p.size ≤ 522))) ∧ w = w' := by
  unfold maxLen at hp
  by_cases h1 : p.size ≤ 522
  · have h1' : (p.size : Int) ≤ 522 := by omega
    go_enter Tryd.func13, Tryd.ntmps13
    go_wp2
    go_ret
    exact ⟨retB (by simp [h1]), rfl⟩
  · have h1' : ¬ (p.size : Int) ≤ 522 := by omega
    go_enter Tryd.func13, Tryd.ntmps13
    go_wp2
    go_ret
    exact ⟨retB (by simp [h1]), rfl⟩

set_option maxRecDepth 100000 in
set_option maxHeartbeats 2000000 in
theorem awake21_any (w : World) : Calls Tryd.prog 12 #[] w fun e w' => e = .returned (.bool true) ∧ Below w.heap.size w w' := by
  have hA : ∀ W, Calls Tryd.prog 18 #[.string pg0, .agg #[.int .i64 1, .int .i64 66, .int .i64 0, .int .i64 0, .string ⟨#[99]⟩, .string ⟨#[88]⟩]] W fun r w' => r = .returned (.tuple #[.string (opOne pg0 exA).1, .int .i64 (opOne pg0 exA).2]) ∧ Below W.heap.size W w' := fun W => Applied_any pg0 exA W (by rw [pg0_size]; unfold maxLen; omega) (by decide) (by decide)
  have hB : ∀ W, Calls Tryd.prog 18 #[.string pg0, .agg #[.int .i64 2, .int .i64 65, .int .i64 69, .int .i64 0, .string ⟨#[]⟩, .string ⟨#[88, 89]⟩]] W fun r w' => r = .returned (.tuple #[.string (opOne pg0 exB).1, .int .i64 (opOne pg0 exB).2]) ∧ Below W.heap.size W w' := fun W => Applied_any pg0 exB W (by rw [pg0_size]; unfold maxLen; omega) (by decide) (by decide)
  have hC : ∀ W, Calls Tryd.prog 31 #[.agg #[.int .i64 4, .int .i64 6, .int .i64 0, .int .i64 3, .string ⟨#[]⟩, .string ⟨#[]⟩]] W fun r w' => r = .returned (.tuple #[.string (opBytesE exC), .int .i64 (opE exC)]) ∧ Below W.heap.size W w' := fun W => BytesOf_any exC W (by decide) (by decide)
  have hD := fun W => Between_ok pg0 pgB W pg0_size pgB_size
  have hPA : ∀ W, Calls Tryd.prog 51 #[.string pg0, .int .i64 64, .string ⟨#[88]⟩] W fun e w' => e = .returned (.string pgA) ∧ Below W.heap.size W w' := fun W => Patch_any pg0 ⟨#[88]⟩ 64 W (by rw [pg0_size]; omega) (by rw [pg0_size]; decide)
  have hPB : ∀ W, Calls Tryd.prog 51 #[.string pgA, .int .i64 67, .string ⟨#[89]⟩] W fun e w' => e = .returned (.string pgB) ∧ Below W.heap.size W w' := fun W => Patch_any pgA ⟨#[89]⟩ 67 W (by rw [pgA_size]; omega) (by rw [pgA_size]; decide)
  have hPg := Page_any
  rw [exA_err] at hA
  rw [exB_err] at hB
  rw [exC_err, exC_bytes] at hC
  rw [exD_bet] at hD
  obtain ⟨s1, hs1⟩ : ∃ s, s = (opOne pg0 exA).1 := ⟨_, rfl⟩
  obtain ⟨s2, hs2⟩ : ∃ s, s = (opOne pg0 exB).1 := ⟨_, rfl⟩
  have z1 := exA_size
  have z2 := exB_size
  have x1 := exA_cut
  have x2 := exB_cut
  rw [← hs1] at hA z1 x1
  rw [← hs2] at hB z2 x2
  have n1 : ((s1.size : Int) != 512) = false := by rw [z1]; rfl
  have n2 : ((s2.size : Int) != 512) = false := by rw [z2]; rfl
  have l1 : 512 ≤ s1.size := by omega
  have l2 : 512 ≤ s2.size := by omega
  have l3 : s1.size ≤ 513 := by omega
  have l4 : s2.size ≤ 513 := by omega
  clear hs1 hs2 z1 z2
  obtain ⟨P0, hp0⟩ : ∃ p, p = pg0 := ⟨_, rfl⟩
  obtain ⟨PA, hpa⟩ : ∃ p, p = pgA := ⟨_, rfl⟩
  obtain ⟨PB, hpb⟩ : ∃ p, p = pgB := ⟨_, rfl⟩
  rw [← hp0] at hA hB hPA hPg hD
  rw [← hpa] at hPA hPB
  rw [← hpb] at hPB hD
  have HA := Lib.hid hA
  have HB := Lib.hid hB
  have HC := Lib.hid hC
  have HD := Lib.hid hD
  have HPA := Lib.hid hPA
  have HPB := Lib.hid hPB
  have HPG := Lib.hid hPg
  clear hA hB hC hD hPA hPB hPg hp0 hpa hpb
  go_enter Tryd.func12, Tryd.ntmps12
  go_wp2_with (first | (go_at_call 50; (with_reducible refine (HPG.out _).mono ?_); rintro e W1 ⟨rfl, hbW1⟩) | (go_at_call 18; (with_reducible refine (HA.out _).mono ?_); rintro e W2 ⟨rfl, hbW2⟩) | (go_at_call 18; (with_reducible refine (HB.out _).mono ?_); rintro e W3 ⟨rfl, hbW3⟩) | (go_at_call 51; (with_reducible refine (HPA.out _).mono ?_); rintro e W4 ⟨rfl, hbW4⟩) | (go_at_call 51; (with_reducible refine (HPB.out _).mono ?_); rintro e W5 ⟨rfl, hbW5⟩) | (go_at_call 25; (with_reducible refine (HD.out _).mono ?_); rintro e W6 ⟨A6, c6, rfl, hr6, hbW6⟩) | (go_at_call 31; (with_reducible refine (HC.out _).mono ?_); rintro e W7 ⟨rfl, hbW7⟩) | (go_at_call 26; refine (SameOps_same A6 (some ⟨W7.heap.size, 0, none⟩) c6 1 [exD] _ (by simp) ((hr6.below' hbW7).below' (bel_alloc (Below.refl _ _) _)) (exD_rd W7)).mono ?_; rintro e W8 ⟨rfl, hbW8⟩))
  go_ret
  exact ⟨rfl, by (repeat (first | assumption | exact Below.refl _ _ | refine bel_drewN ?_ _ | refine bel_alloc ?_ _ | refine bel_trans ?_ (by assumption) | refine Below.trans ?_ (by assumption)))⟩
end Go.Proofs.YtgmipogidmcilaaDoor
