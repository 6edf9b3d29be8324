/-
  Chapter 21: entries: the reference's errors.
-/
import Derived.Test.YtgmipogidmcilaaDoorOpEnt
namespace Go.Proofs.YtgmipogidmcilaaDoor
set_option linter.unusedVariables false
set_option linter.unusedSimpArgs false
open Go.RowKit Go.Sort

theorem CheckEntry_any (e : Ent) (w : World) (ho : e.o.o.size ≤ 3100) (hn : e.o.n.size ≤ 3100) (hd : e.d.size ≤ maxLen) :
    Calls Tryd.prog 33 #[entV e] w fun r w' => r = .returned (.int .i64 (entE e)) ∧ Below w.heap.size w w' :=
  CheckEntry_f e.k e.t e.p e.x e.g e.f e.o e.d w ho hn hd

theorem refIsZero_any (o : Op) (w : World) :
    Calls Tryd.prog 72 #[opV o] w fun r w' => r = .returned (.bool (opNil o)) ∧ Below w.heap.size w w' := by
  have hnil := op_nil_run o
  obtain ⟨Bn, hBn⟩ : ∃ b, opNil o = b := ⟨_, rfl⟩
  rw [hBn] at hnil ⊢
  clear hBn
  unfold opV
  go_enter Tryd.func72, Tryd.ntmps72
  go_wp2
  go_ret
  exact ⟨rfl, by (repeat (first | assumption | exact Below.refl _ _ | refine bel_drewN ?_ _ | refine bel_alloc ?_ _ | refine bel_trans ?_ (by assumption) | refine Below.trans ?_ (by assumption)))⟩

theorem entE_if (e : Ent) : entE e = if inB e.k 0 5 = false then 15 else if entRng e = false then 2 else if entForm e = false then 3 else if (1000 : Int) < e.d.size then 8 else opE e.o := by
  unfold entE
  have h4 : decide ((e.d.size : Int) ≤ 1000) = !decide ((1000 : Int) < e.d.size) := by
    by_cases h : (1000 : Int) < e.d.size
    · rw [decide_eq_true h, decide_eq_false (by omega)]; rfl
    · rw [decide_eq_false h, decide_eq_true (by omega)]; rfl
  rw [h4]
  cases inB e.k 0 5 <;> cases entRng e <;> cases entForm e <;> by_cases h : (1000 : Int) < e.d.size <;> simp [firstE, unl, h] <;> (intro h; exact h.symm)

set_option maxRecDepth 100000 in
set_option maxHeartbeats 4000000 in
theorem refEntryErr_f (k t p x g : Int) (f : Bool) (o : Op) (d : ByteArray) (w : World) (ho : o.o.size ≤ 3100) (hn : o.n.size ≤ 3100) (hd : d.size ≤ maxLen) :
    Calls Tryd.prog 35 #[.agg #[.int .i64 k, .int .i64 t, .int .i64 p, .int .i64 x, .int .i64 g, .bool f, .int .i64 o.k, .int .i64 o.a, .int .i64 o.e, .int .i64 o.c, .string o.o, .string o.n, .string d]] w fun r w' => r = .returned (.int .i64 (entE ⟨k, t, p, x, g, f, o, d⟩)) ∧ Below w.heap.size w w' := by
  have hE := fun W => refOpErr_any o W ho hn
  obtain ⟨er, her⟩ : ∃ x, x = opE o := ⟨_, rfl⟩
  rw [← her] at hE
  unfold opV at hE
  have HE := Lib.hid hE
  have HER := Lib.hid her
  unfold maxLen at hd
  clear hE her ho hn
  have hnil := fun W => refIsZero_any o W
  obtain ⟨Bn, hBn⟩ : ∃ b, opNil o = b := ⟨_, rfl⟩
  rw [hBn] at hnil
  unfold opV at hnil
  have HNIL := Lib.hid hnil
  obtain ⟨Nx, hNx⟩ : ∃ b, (x != 0) = b := ⟨_, rfl⟩
  obtain ⟨B0, hB0⟩ : ∃ b, (k == 0) = b := ⟨_, rfl⟩
  obtain ⟨B1, hB1⟩ : ∃ b, (k == 1) = b := ⟨_, rfl⟩
  obtain ⟨N1, hN1⟩ : ∃ b, (k != 1) = b := ⟨_, rfl⟩
  obtain ⟨N5, hN5⟩ : ∃ b, (k != 5) = b := ⟨_, rfl⟩
  obtain ⟨Ng, hNg⟩ : ∃ b, (g != 0) = b := ⟨_, rfl⟩
  obtain ⟨Bd, hBd⟩ : ∃ b, d.toList.isEmpty = b := ⟨_, rfl⟩
  obtain ⟨F, hF⟩ : ∃ F, entForm ⟨k, t, p, x, g, f, o, d⟩ = F := ⟨_, rfl⟩
  have hF' : F = !((N1 && Nx) || (!(B0 || B1) && (Ng || f || !Bn)) || (N5 && !Bd)) := by
    have e1 : (x == 0) = !Nx := by rw [← hNx, bne, Bool.not_not]
    have e2 : (k == 1) = !N1 := by rw [← hN1, bne, Bool.not_not]
    have e3 : (k == 5) = !N5 := by rw [← hN5, bne, Bool.not_not]
    have e4 : (g == 0) = !Ng := by rw [← hNg, bne, Bool.not_not]
    have e5 : (d.size == 0) = Bd := by rw [← hBd, isEmpty_eq]
    have e6 : B1 = !N1 := by rw [← hB1, e2]
    rw [← hF, e6, ← hB0]
    unfold entForm
    dsimp only
    rw [e1, e2, e3, e4, e5, hBn, hB0]
    cases N1 <;> cases Nx <;> cases B0 <;> cases Ng <;> cases f <;> cases Bn <;> cases N5 <;> cases Bd <;> rfl
  have HF := Lib.hid hF
  have HF' := Lib.hid hF'
  clear hBn hF hF' hnil
  obtain ⟨bt, hbt⟩ : ∃ b, b = inB t 0 9999 := ⟨_, rfl⟩
  obtain ⟨bp, hbp⟩ : ∃ b, b = inB p 0 2147483647 := ⟨_, rfl⟩
  obtain ⟨bx, hbx⟩ : ∃ b, b = inB x 0 2147483647 := ⟨_, rfl⟩
  obtain ⟨bg, hbg⟩ : ∃ b, b = inB g 0 600 := ⟨_, rfl⟩
  obtain ⟨bk, hbk⟩ : ∃ b, b = inB k 0 5 := ⟨_, rfl⟩
  have hK := fun W => Within_any k 0 5 W
  have hT := fun W => Within_any t 0 9999 W
  have hG := fun W => Within_any g 0 600 W
  have hP := fun W => IsNumber_any p W
  have hX := fun W => IsNumber_any x W
  rw [← hbk] at hK
  rw [← hbt] at hT
  rw [← hbg] at hG
  rw [← hbp] at hP
  rw [← hbx] at hX
  have HK := Lib.hid hK
  have HT := Lib.hid hT
  have HG := Lib.hid hG
  have HP := Lib.hid hP
  have HX := Lib.hid hX
  obtain ⟨R, hR⟩ : ∃ R, R = (bt && bp && bx && bg) := ⟨_, rfl⟩
  have hv : entE ⟨k, t, p, x, g, f, o, d⟩ = if bk = false then 15 else if R = false then 2 else if F = false then 3 else if (1000 : Int) < d.size then 8 else er := by
    rw [entE_if, HER.out, hbk, hR, hbt, hbp, hbx, hbg, ← HF.out]; rfl
  have HV := Lib.hid hv
  have HR := Lib.hid hR
  clear hK hT hG hP hX hv hbt hbp hbx hbg hbk hR
  rw [HV.out]
  go_enter Tryd.func35, Tryd.ntmps35
  cases bk
  · go_wp2_with (first | (go_at_call 60; (with_reducible refine (HK.out _).mono ?_); rintro e w' ⟨rfl, rfl⟩))
    go_ret
    exact ⟨rfl, by (repeat (first | assumption | exact Below.refl _ _ | refine bel_drewN ?_ _ | refine bel_alloc ?_ _ | refine bel_trans ?_ (by assumption) | refine Below.trans ?_ (by assumption)))⟩
  · go_upto_region 3 with (first | (go_at_call 60; (with_reducible refine (HK.out _).mono ?_); rintro e w' ⟨rfl, rfl⟩))
    go_cut [29] (fun s29 wx => s29 = .bool (!R) ∧ wx = w.alloc (.cells #[.int .i64 k, .int .i64 t, .int .i64 p, .int .i64 x, .int .i64 g, .bool f, .int .i64 o.k, .int .i64 o.a, .int .i64 o.e, .int .i64 o.c, .string o.o, .string o.n, .string d] 57))
    case first =>
      go_wp2_with (first | (go_at_call 60; (with_reducible refine (HT.out _).mono ?_); rintro e w' ⟨rfl, rfl⟩) | (go_at_call 60; (with_reducible refine (HG.out _).mono ?_); rintro e w' ⟨rfl, rfl⟩) | (go_at_call 42; (with_reducible refine (HP.out _).mono ?_); rintro e w' ⟨rfl, rfl⟩) | (go_at_call 42; (with_reducible refine (HX.out _).mono ?_); rintro e w' ⟨rfl, rfl⟩))
      all_goals
        go_meet
        refine ⟨congrArg Value.bool ?_, rfl⟩
        have h1 := HR.out
        simp_all
    case rest =>
    obtain ⟨rfl, rfl⟩ := hcut
    cases R
    · go_wp2
      go_ret
      exact ⟨rfl, by (repeat (first | assumption | exact Below.refl _ _ | refine bel_drewN ?_ _ | refine bel_alloc ?_ _ | refine bel_trans ?_ (by assumption) | refine Below.trans ?_ (by assumption)))⟩
    · go_upto_region 5 with (fail)
      go_cut [3] (fun s3 wx => s3 = .bool (B0 || B1) ∧ wx = w.alloc (.cells #[.int .i64 k, .int .i64 t, .int .i64 p, .int .i64 x, .int .i64 g, .bool f, .int .i64 o.k, .int .i64 o.a, .int .i64 o.e, .int .i64 o.c, .string o.o, .string o.n, .string d] 57))
      case first =>
        go_wp2_with fail
        all_goals
          go_meet
          refine ⟨congrArg Value.bool ?_, rfl⟩
          cases B0 <;> cases B1 <;> simp_all
      case rest =>
      obtain ⟨rfl, rfl⟩ := hcut
      obtain ⟨Bc, hBc⟩ : ∃ b, (B0 || B1) = b := ⟨_, rfl⟩
      rw [hBc]
      have HBc := Lib.hid hBc
      clear hBc
      go_upto_region 6 with (fail)
      go_cut [3, 74] (fun _ s74 wx => s74 = .bool (!F) ∧ Below (w.alloc (.cells #[.int .i64 k, .int .i64 t, .int .i64 p, .int .i64 x, .int .i64 g, .bool f, .int .i64 o.k, .int .i64 o.a, .int .i64 o.e, .int .i64 o.c, .string o.o, .string o.n, .string d] 57)).heap.size (w.alloc (.cells #[.int .i64 k, .int .i64 t, .int .i64 p, .int .i64 x, .int .i64 g, .bool f, .int .i64 o.k, .int .i64 o.a, .int .i64 o.e, .int .i64 o.c, .string o.o, .string o.n, .string d] 57)) wx)
      case first =>
        cases f
        all_goals
          go_wp2_with (first | ((go_at_call 72; (with_reducible refine (HNIL.out _).mono ?_); rintro e W1 ⟨rfl, hbW1⟩; obtain ⟨hcW1, hfW1⟩ := bcell hbW1); have hsW1 : w.heap.size < W1.heap.size := (by have h := hbW1.size; (try simp at h); omega)))
          all_goals
            go_meet
            refine ⟨congrArg Value.bool ?_, by first | exact hbW1 | exact Below.refl _ _⟩
            have h1 := HF'.out
            have h2 := HBc.out
            simp_all
      case rest =>
      obtain ⟨rfl, hbX⟩ := hcut
      obtain ⟨hcX, hfX⟩ := bcell hbX
      have hsX := hbX.size
      simp at hsX
      have hsX' := Nat.lt_of_succ_le hsX
      have hbX' := (bel_alloc (Below.refl _ _) _ : Below w.heap.size w (w.alloc (.cells #[.int .i64 k, .int .i64 t, .int .i64 p, .int .i64 x, .int .i64 g, .bool f, .int .i64 o.k, .int .i64 o.a, .int .i64 o.e, .int .i64 o.c, .string o.o, .string o.n, .string d] 57)))
      cases F
      · go_wp2
        go_ret
        exact ⟨rfl, by (repeat (first | assumption | exact Below.refl _ _ | refine bel_drewN ?_ _ | refine bel_alloc ?_ _ | refine bel_trans ?_ (by assumption) | refine Below.trans ?_ (by assumption)))⟩
      · by_cases h8 : (1000 : Int) < d.size
        · go_wp2
          go_ret
          exact ⟨by simp [h8], by (repeat (first | assumption | exact Below.refl _ _ | refine bel_drewN ?_ _ | refine bel_alloc ?_ _ | refine bel_trans ?_ (by assumption) | refine Below.trans ?_ (by assumption)))⟩
        · go_wp2_with (first | (go_at_call 23; (with_reducible refine (HE.out _).mono ?_); rintro e W2 ⟨rfl, hbW2⟩))
          go_ret
          exact ⟨by simp [h8], by (repeat (first | assumption | exact Below.refl _ _ | refine bel_drewN ?_ _ | refine bel_alloc ?_ _ | refine bel_trans ?_ (by assumption) | refine Below.trans ?_ (by assumption)))⟩
theorem refEntryErr_any (e : Ent) (w : World) (ho : e.o.o.size ≤ 3100) (hn : e.o.n.size ≤ 3100) (hd : e.d.size ≤ maxLen) :
    Calls Tryd.prog 35 #[entV e] w fun r w' => r = .returned (.int .i64 (entE e)) ∧ Below w.heap.size w w' :=
  refEntryErr_f e.k e.t e.p e.x e.g e.f e.o e.d w ho hn hd
end Go.Proofs.YtgmipogidmcilaaDoor
