/-
  Chapter 17: the law AccessDiffers: its walk.
-/
import Derived.Test.YtanicpgmbhfipaaGreatDoorWAcDf1
import Derived.Test.YtanicpgmbhfipaaGreatDoorWAcDf2
import Derived.Test.YtanicpgmbhfipaaGreatDoorWAcDf3
namespace Go.Proofs.YtanicpgmbhfipaaGreatDoor
set_option linter.unusedVariables false
set_option linter.unusedSimpArgs false
open Go.RowKit Go.Sort

set_option maxRecDepth 100000 in
set_option maxHeartbeats 8000000 in
theorem wAccessDiffers (a : DscP) (A1 A2 : Option Addr) (a1 a2 : Nat) (b : DscP) (B1 B2 : Option Addr) (b1 b2 : Nat) (AW : Option Addr) (cw : Nat) (who : List Int) (w : World) (hra1 : Rd w w.heap.size A1 (acesV a.es)) (hra2 : Rd w w.heap.size A2 (acesV a.us)) (hrb1 : Rd w w.heap.size B1 (acesV b.es)) (hrb2 : Rd w w.heap.size B2 (acesV b.us)) (hwl : who.length ≤ maxLen) (hr3 : Rd w w.heap.size AW (who.map (.int .i64))) (hg : GrT w) :
    Calls Tryz.prog 5 #[dscV a A1 A2 a1 a2, dscV b B1 B2 b1 b2, .slice AW who.length cw] w fun e w' => e = .returned (.bool true) ∧ Below w.heap.size w w' := by
  have hwl0 := hwl
  unfold maxLen at hwl
  have HAR := Lib.hid (And.intro hra1 (And.intro hra2 (And.intro hrb1 (And.intro hrb2 (And.intro hr3 hg)))))
  have HWL := Lib.hid hwl0
  have HW := Lib.hid (fun W (hW : Below w.heap.size w W) => awake17_any W (hg.below hW))
  have bA := (Box.new w (dscC a A1 A2 a1 a2) 24).old (.cells (dscC b B1 B2 b1 b2) 24)
  have bB := Box.new (w.alloc (.cells (dscC a A1 A2 a1 a2) 24)) (dscC b B1 B2 b1 b2) 24
  rw [World.size_alloc] at bB
  have BA := Lib.hid (fun W hW => bA.below (w' := W) hW)
  have BB := Lib.hid (fun W hW => bB.below (w' := W) hW)
  unfold dscC at BA BB
  have HF1 := Lib.hid (fun W => Few_any a A1 A2 a1 a2 W)
  have HF2 := Lib.hid (fun W => Few_any b B1 B2 b1 b2 W)
  obtain ⟨fa, hfa⟩ : ∃ fw, fw = fewD a := ⟨_, rfl⟩
  obtain ⟨fb, hfb⟩ : ∃ fw, fw = fewD b := ⟨_, rfl⟩
  rw [← hfa] at HF1
  rw [← hfb] at HF2
  unfold dscV at HF1 HF2
  clear bA bB
  by_cases hgd : fa = false ∨ (fa = true ∧ fb = false) ∨ (fa = true ∧ fb = true ∧ 7 < who.length)
  · clear hra1 hra2 hrb1 hrb2 hr3 hg hfa hfb HAR HWL hwl0
    unfold dscV
    rcases hgd with rfl | ⟨rfl, rfl⟩ | ⟨rfl, rfl, h7⟩
    · go_enter Tryz.func5, Tryz.ntmps5
      go_wp2_with (first | (go_at_call 9; refine (HW.out _ (bel_alloc (bel_alloc (Below.refl _ _) _) _)).mono ?_; rintro e V ⟨rfl, hV⟩; have ba := BA.out V hV; have bb := BB.out V hV; have hb := bel_trans (bel_alloc (bel_alloc (Below.refl _ w) _) _) hV; have y0 : V.cell? ⟨w.heap.size, 0, none⟩ = some (.int .i64 a.o) := Box.cells ba 0; have y1 : V.cell? ⟨w.heap.size, 1, none⟩ = some (.int .i64 a.g) := Box.cells ba 1; have y2 : V.cell? ⟨w.heap.size, 2, none⟩ = some (.bool a.pr) := Box.cells ba 2; have y3 : V.cell? ⟨w.heap.size, 3, none⟩ = some (.bool a.he) := Box.cells ba 3; have y4 : V.cell? ⟨w.heap.size, 4, none⟩ = some (.slice A1 a.es.length a1) := Box.cells ba 4; have y5 : V.cell? ⟨w.heap.size, 5, none⟩ = some (.slice A2 a.us.length a2) := Box.cells ba 5; have x0 : V.cell? ⟨w.heap.size + 1, 0, none⟩ = some (.int .i64 b.o) := Box.cells bb 0; have x1 : V.cell? ⟨w.heap.size + 1, 1, none⟩ = some (.int .i64 b.g) := Box.cells bb 1; have x2 : V.cell? ⟨w.heap.size + 1, 2, none⟩ = some (.bool b.pr) := Box.cells bb 2; have x3 : V.cell? ⟨w.heap.size + 1, 3, none⟩ = some (.bool b.he) := Box.cells bb 3; have x4 : V.cell? ⟨w.heap.size + 1, 4, none⟩ = some (.slice B1 b.es.length b1) := Box.cells bb 4; have x5 : V.cell? ⟨w.heap.size + 1, 5, none⟩ = some (.slice B2 b.us.length b2) := Box.cells bb 5; have l0 := ba.lt; have l1 := bb.lt) | (go_at_call 23; (with_reducible refine (HF1.out _).mono ?_); rintro e V2 ⟨rfl, hV2⟩; obtain ⟨hcV2, hfV2⟩ := bcell hV2; have hb := bel_trans hb hV2; have k1 : w.heap.size + 1 < V2.heap.size := (by have := hV2.size; omega)))
      go_ret
      exact ⟨rfl, hb⟩
    · go_enter Tryz.func5, Tryz.ntmps5
      go_wp2_with (first | (go_at_call 9; refine (HW.out _ (bel_alloc (bel_alloc (Below.refl _ _) _) _)).mono ?_; rintro e V ⟨rfl, hV⟩; have ba := BA.out V hV; have bb := BB.out V hV; have hb := bel_trans (bel_alloc (bel_alloc (Below.refl _ w) _) _) hV; have y0 : V.cell? ⟨w.heap.size, 0, none⟩ = some (.int .i64 a.o) := Box.cells ba 0; have y1 : V.cell? ⟨w.heap.size, 1, none⟩ = some (.int .i64 a.g) := Box.cells ba 1; have y2 : V.cell? ⟨w.heap.size, 2, none⟩ = some (.bool a.pr) := Box.cells ba 2; have y3 : V.cell? ⟨w.heap.size, 3, none⟩ = some (.bool a.he) := Box.cells ba 3; have y4 : V.cell? ⟨w.heap.size, 4, none⟩ = some (.slice A1 a.es.length a1) := Box.cells ba 4; have y5 : V.cell? ⟨w.heap.size, 5, none⟩ = some (.slice A2 a.us.length a2) := Box.cells ba 5; have x0 : V.cell? ⟨w.heap.size + 1, 0, none⟩ = some (.int .i64 b.o) := Box.cells bb 0; have x1 : V.cell? ⟨w.heap.size + 1, 1, none⟩ = some (.int .i64 b.g) := Box.cells bb 1; have x2 : V.cell? ⟨w.heap.size + 1, 2, none⟩ = some (.bool b.pr) := Box.cells bb 2; have x3 : V.cell? ⟨w.heap.size + 1, 3, none⟩ = some (.bool b.he) := Box.cells bb 3; have x4 : V.cell? ⟨w.heap.size + 1, 4, none⟩ = some (.slice B1 b.es.length b1) := Box.cells bb 4; have x5 : V.cell? ⟨w.heap.size + 1, 5, none⟩ = some (.slice B2 b.us.length b2) := Box.cells bb 5; have l0 := ba.lt; have l1 := bb.lt) | (go_at_call 23; (with_reducible refine (HF1.out _).mono ?_); rintro e V2 ⟨rfl, hV2⟩; obtain ⟨hcV2, hfV2⟩ := bcell hV2; have hb := bel_trans hb hV2; have k1 : w.heap.size + 1 < V2.heap.size := (by have := hV2.size; omega)) | (go_at_call 23; (with_reducible refine (HF2.out _).mono ?_); rintro e X ⟨rfl, hV3⟩; have hb := bel_trans hb hV3))
      go_ret
      exact ⟨rfl, hb⟩
    · go_enter Tryz.func5, Tryz.ntmps5
      go_wp2_with (first | (go_at_call 9; refine (HW.out _ (bel_alloc (bel_alloc (Below.refl _ _) _) _)).mono ?_; rintro e V ⟨rfl, hV⟩; have ba := BA.out V hV; have bb := BB.out V hV; have hb := bel_trans (bel_alloc (bel_alloc (Below.refl _ w) _) _) hV; have y0 : V.cell? ⟨w.heap.size, 0, none⟩ = some (.int .i64 a.o) := Box.cells ba 0; have y1 : V.cell? ⟨w.heap.size, 1, none⟩ = some (.int .i64 a.g) := Box.cells ba 1; have y2 : V.cell? ⟨w.heap.size, 2, none⟩ = some (.bool a.pr) := Box.cells ba 2; have y3 : V.cell? ⟨w.heap.size, 3, none⟩ = some (.bool a.he) := Box.cells ba 3; have y4 : V.cell? ⟨w.heap.size, 4, none⟩ = some (.slice A1 a.es.length a1) := Box.cells ba 4; have y5 : V.cell? ⟨w.heap.size, 5, none⟩ = some (.slice A2 a.us.length a2) := Box.cells ba 5; have x0 : V.cell? ⟨w.heap.size + 1, 0, none⟩ = some (.int .i64 b.o) := Box.cells bb 0; have x1 : V.cell? ⟨w.heap.size + 1, 1, none⟩ = some (.int .i64 b.g) := Box.cells bb 1; have x2 : V.cell? ⟨w.heap.size + 1, 2, none⟩ = some (.bool b.pr) := Box.cells bb 2; have x3 : V.cell? ⟨w.heap.size + 1, 3, none⟩ = some (.bool b.he) := Box.cells bb 3; have x4 : V.cell? ⟨w.heap.size + 1, 4, none⟩ = some (.slice B1 b.es.length b1) := Box.cells bb 4; have x5 : V.cell? ⟨w.heap.size + 1, 5, none⟩ = some (.slice B2 b.us.length b2) := Box.cells bb 5; have l0 := ba.lt; have l1 := bb.lt) | (go_at_call 23; (with_reducible refine (HF1.out _).mono ?_); rintro e V2 ⟨rfl, hV2⟩; obtain ⟨hcV2, hfV2⟩ := bcell hV2; have hb := bel_trans hb hV2; have k1 : w.heap.size + 1 < V2.heap.size := (by have := hV2.size; omega)) | (go_at_call 23; (with_reducible refine (HF2.out _).mono ?_); rintro e X ⟨rfl, hV3⟩; have hb := bel_trans hb hV3))
      go_ret
      exact ⟨rfl, hb⟩
  have hfe : fewD a = true ∧ fewD b = true ∧ ¬ 7 < who.length := by
    rw [← hfa, ← hfb]
    cases fa
    · exact absurd (.inl rfl) hgd
    · cases fb
      · exact absurd (.inr (.inl ⟨rfl, rfl⟩)) hgd
      · exact ⟨rfl, rfl, fun h => hgd (.inr (.inr ⟨rfl, rfl, h⟩))⟩
  obtain ⟨r1, r2, r3, r4, r5, r6⟩ := HAR.out
  by_cases hq : whoE who = 0
  · by_cases hd : dscE a = 0 ∧ dscE b = 0
    · exact wAcDif_ok a A1 A2 a1 a2 b B1 B2 b1 b2 AW cw who w r1 r2 r3 r4 HWL.out r5 r6 hfe hq hd
    · exact wAcDif_dsc a A1 A2 a1 a2 b B1 B2 b1 b2 AW cw who w r1 r2 r3 r4 HWL.out r5 r6 hfe hq (by
        by_cases h : dscE a = 0
        · exact .inr fun h2 => hd ⟨h, h2⟩
        · exact .inl h)
  · exact wAcDif_who a A1 A2 a1 a2 b B1 B2 b1 b2 AW cw who w r1 r2 r3 r4 HWL.out r5 r6 hfe hq
end Go.Proofs.YtanicpgmbhfipaaGreatDoor
