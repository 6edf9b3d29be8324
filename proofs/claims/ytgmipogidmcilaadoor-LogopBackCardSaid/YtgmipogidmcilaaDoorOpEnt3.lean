/-
  Chapter 21: the bytes of entries and of operations.
-/
import Derived.Test.YtgmipogidmcilaaDoorOpEnt2
import Derived.Test.YtgmipogidmcilaaDoorOpAwk
namespace Go.Proofs.YtgmipogidmcilaaDoor
set_option linter.unusedVariables false
set_option linter.unusedSimpArgs false
open Go.RowKit Go.Sort

def entBytesL (e : Ent) : List UInt8 := lit e.k 1 ++ lit (if e.f then 1 else 0) 1 ++ lit e.t 2 ++ lit e.p 4 ++ lit e.x 4 ++ lit e.g 2 ++ lit (e.d.size : Int) 2 ++ bl e.d ++ opBytesL e.o
def entBytesE (e : Ent) : ByteArray := if entE e = 0 then bs (entBytesL e) else ⟨#[]⟩
theorem entE_zero {e : Ent} (h : entE e = 0) : (0 ≤ e.k ∧ e.k ≤ 5) ∧ entRng e = true ∧ entForm e = true ∧ e.d.size ≤ 1000 ∧ opOK e.o := by
  have hz := (firstE_zero _).1 h
  have z1 := (unl_zero (by decide)).1 (hz (unl (inB e.k 0 5) 15) (by simp))
  have z2 := (unl_zero (by decide)).1 (hz (unl (entRng e) 2) (by simp))
  have z3 := (unl_zero (by decide)).1 (hz (unl (entForm e) 3) (by simp))
  have z4 := (unl_zero (by decide)).1 (hz (unl (decide ((e.d.size : Int) ≤ 1000)) 8) (by simp))
  have z5 := hz (opE e.o) (by simp)
  exact ⟨inB_true.1 z1, z2, z3, by have := of_decide_eq_true z4; omega, (opE_iff _).1 z5⟩
theorem entRng_true {e : Ent} (h : entRng e = true) : (0 ≤ e.t ∧ e.t ≤ 9999) ∧ (0 ≤ e.p ∧ e.p ≤ 2147483647) ∧ (0 ≤ e.x ∧ e.x ≤ 2147483647) ∧ (0 ≤ e.g ∧ e.g ≤ 600) := by
  unfold entRng at h
  simp only [Bool.and_eq_true] at h
  obtain ⟨⟨⟨h1, h2⟩, h3⟩, h4⟩ := h
  exact ⟨inB_true.1 h1, inB_true.1 h2, inB_true.1 h3, inB_true.1 h4⟩

set_option maxRecDepth 100000 in
set_option maxHeartbeats 4000000 in
theorem EntryBytes_f (k t p x g : Int) (f : Bool) (o : Op) (d : ByteArray) (w : World) (ho : o.o.size ≤ 3100) (hn : o.n.size ≤ 3100) (hd : d.size ≤ maxLen) :
    Calls Tryd.prog 34 #[.agg #[.int .i64 k, .int .i64 t, .int .i64 p, .int .i64 x, .int .i64 g, .bool f, .int .i64 o.k, .int .i64 o.a, .int .i64 o.e, .int .i64 o.c, .string o.o, .string o.n, .string d]] w fun r w' => r = .returned (.tuple #[.string (entBytesE ⟨k, t, p, x, g, f, o, d⟩), .int .i64 (entE ⟨k, t, p, x, g, f, o, d⟩)]) ∧ Below w.heap.size w w' := by
  have hC := fun W => CheckEntry_f k t p x g f o d W ho hn hd
  by_cases h0 : entE ⟨k, t, p, x, g, f, o, d⟩ = 0
  · obtain ⟨⟨k1, k2⟩, hr, _, hd1, hok⟩ := entE_zero h0
    obtain ⟨⟨t1, t2⟩, ⟨p1, p2⟩, ⟨x1, x2⟩, g1, g2⟩ := entRng_true hr
    dsimp only at k1 k2 t1 t2 p1 p2 x1 x2 g1 g2 hd1 hok
    have hv : entBytesE ⟨k, t, p, x, g, f, o, d⟩ = bs (entBytesL ⟨k, t, p, x, g, f, o, d⟩) := by unfold entBytesE; rw [if_pos h0]
    rw [h0] at hC
    rw [h0, hv]
    have HC := Lib.hid hC
    have HB := Lib.hid (fun W => opBytes_any o W (opOK_pos hok))
    have HLk := Lib.hid (fun W => logop_little_any k 1 k1 (by omega) (by omega) W)
    have HLt := Lib.hid (fun W => logop_little_any t 2 t1 (by omega) (by omega) W)
    have HLp := Lib.hid (fun W => logop_little_any p 4 p1 (by omega) (by omega) W)
    have HLx := Lib.hid (fun W => logop_little_any x 4 x1 (by omega) (by omega) W)
    have HLg := Lib.hid (fun W => logop_little_any g 2 g1 (by omega) (by omega) W)
    have HLd := Lib.hid (fun W => logop_little_any (d.size : Int) 2 (by omega) (by omega) (by omega) W)
    have HL0 := Lib.hid (fun W => logop_little_any 0 1 (by omega) (by omega) (by omega) W)
    have HL1 := Lib.hid (fun W => logop_little_any 1 1 (by omega) (by omega) (by omega) W)
    have s1 : ∀ n, (bs (lit n 1)).size = 1 := fun n => by rw [bs_size, lit_length]
    have s2 : ∀ n, (bs (lit n 2)).size = 2 := fun n => by rw [bs_size, lit_length]
    have s4 : ∀ n, (bs (lit n 4)).size = 4 := fun n => by rw [bs_size, lit_length]
    have hob : (bs (opBytesL o)).size ≤ 3000 := by
      have hp := opOK_pos hok
      have e : (bs (opBytesL o)).size = 11 + o.o.size + o.n.size := by
        rw [bs_size]; unfold opBytesL; rw [List.length_append, List.length_append, opBytesAt_len _ 5 (by omega), bl_length, bl_length]
      have hq : opOK o := hok
      unfold opOK at hq
      omega
    clear h0 hC hr hok hv ho hn
    unfold maxLen at hd
    unfold opV at HB
    cases f
    all_goals
      go_enter Tryd.func34, Tryd.ntmps34
      go_wp2_with ((go_at_call 33; (with_reducible refine (HC.out _).mono ?_); rintro e W1 ⟨rfl, hbW1⟩; obtain ⟨hcW1, hfW1⟩ := bcell hbW1); have hsW1 : w.heap.size < W1.heap.size := (by have h := hbW1.size; (try simp at h); omega))
      (refine wp_region_quiet_below (by kernel_rfl) (by kernel_rfl) ?_; (repeat (go_big_quiet_step ((first | (go_at_call 71; (with_reducible exact Calls.regrown_of (HLk.out _))) | (go_at_call 71; (with_reducible exact Calls.regrown_of (HLt.out _))) | (go_at_call 71; (with_reducible exact Calls.regrown_of (HLp.out _))) | (go_at_call 71; (with_reducible exact Calls.regrown_of (HLx.out _))) | (go_at_call 71; (with_reducible exact Calls.regrown_of (HLg.out _))) | (go_at_call 71; (with_reducible exact Calls.regrown_of (HLd.out _))) | (go_at_call 71; (with_reducible exact Calls.regrown_of (HL0.out _))) | (go_at_call 71; (with_reducible exact Calls.regrown_of (HL1.out _))))))); (with_reducible refine wpQuiet_nil ?_); intro W2 hreg; have hbW2 := below_of_reg hreg; clear hreg; obtain ⟨hcW2, hfW2⟩ := bcell hbW2)
      have hsW2 : w.heap.size < W2.heap.size := by have h := hbW2.size; (try simp at h); omega
      go_wp2_with fail
      (refine wp_region_quiet_below (by kernel_rfl) (by kernel_rfl) ?_; (repeat (go_big_quiet_step ((first | (go_at_call 68; (with_reducible exact Calls.regrown_of (HB.out _))))))); (with_reducible refine wpQuiet_nil ?_); intro W3 hreg; have hbW3 := below_of_reg hreg; clear hreg; obtain ⟨hcW3, hfW3⟩ := bcell hbW3)
      go_wp2_with fail
      go_ret2
      exact ⟨retSI (by apply bl_inj; simp only [bl_append, bl_bs]; rfl) rfl, by (repeat (first | assumption | exact Below.refl _ _ | refine bel_drewN ?_ _ | refine bel_alloc ?_ _ | refine bel_trans ?_ (by assumption) | refine Below.trans ?_ (by assumption)))⟩
  · have hv : entBytesE ⟨k, t, p, x, g, f, o, d⟩ = ⟨#[]⟩ := by unfold entBytesE; rw [if_neg h0]
    rw [hv]
    obtain ⟨er, her⟩ : ∃ e, e = entE ⟨k, t, p, x, g, f, o, d⟩ := ⟨_, rfl⟩
    rw [← her] at hC h0 ⊢
    have hz : (er != 0) = true := by simp [h0]
    have HC := Lib.hid hC
    clear hC h0 hv her
    go_enter Tryd.func34, Tryd.ntmps34
    go_wp2_with ((go_at_call 33; (with_reducible refine (HC.out _).mono ?_); rintro e W1 ⟨rfl, hbW1⟩; obtain ⟨hcW1, hfW1⟩ := bcell hbW1))
    go_ret2
    exact ⟨rfl, by (repeat (first | assumption | exact Below.refl _ _ | refine bel_drewN ?_ _ | refine bel_alloc ?_ _ | refine bel_trans ?_ (by assumption) | refine Below.trans ?_ (by assumption)))⟩

theorem EntryBytes_any (e : Ent) (w : World) (ho : e.o.o.size ≤ 3100) (hn : e.o.n.size ≤ 3100) (hd : e.d.size ≤ maxLen) :
    Calls Tryd.prog 34 #[entV e] w fun r w' => r = .returned (.tuple #[.string (entBytesE e), .int .i64 (entE e)]) ∧ Below w.heap.size w w' :=
  EntryBytes_f e.k e.t e.p e.x e.g e.f e.o e.d w ho hn hd

set_option maxRecDepth 100000 in
set_option maxHeartbeats 4000000 in
theorem refBytes_any (o : Op) (w : World) (hok : OpPos o) :
    Calls Tryd.prog 32 #[opV o] w fun r w' => r = .returned (.string (bs (opBytesL o))) ∧ Below w.heap.size w w' := by
  obtain ⟨⟨k1, k2⟩, ⟨a1, a2⟩, ⟨e1, e2⟩, ⟨c1, c2⟩, ho, hn⟩ := hok
  have HLk := Lib.hid (fun W => Little_any o.k 1 k1 (by omega) (by omega) W)
  have HLa := Lib.hid (fun W => Little_any o.a 2 a1 (by omega) (by omega) W)
  have HLe := Lib.hid (fun W => Little_any o.e 2 e1 (by omega) (by omega) W)
  have HLc := Lib.hid (fun W => Little_any o.c 2 c1 (by omega) (by omega) W)
  have HLo := Lib.hid (fun W => Little_any (o.o.size : Int) 2 (by omega) (by omega) (by omega) W)
  have HLn := Lib.hid (fun W => Little_any (o.n.size : Int) 2 (by omega) (by omega) (by omega) W)
  have s1 : ∀ n, (bs (lit n 1)).size = 1 := fun n => by rw [bs_size, lit_length]
  have s2 : ∀ n, (bs (lit n 2)).size = 2 := fun n => by rw [bs_size, lit_length]
  unfold opV
  go_enter Tryd.func32, Tryd.ntmps32
  go_wp2_with fail
  (refine wp_region_quiet_below (by kernel_rfl) (by kernel_rfl) ?_; (repeat (go_big_quiet_step ((first | (go_at_call 69; (with_reducible exact Calls.regrown_of (HLk.out _))) | (go_at_call 69; (with_reducible exact Calls.regrown_of (HLa.out _))) | (go_at_call 69; (with_reducible exact Calls.regrown_of (HLe.out _))) | (go_at_call 69; (with_reducible exact Calls.regrown_of (HLc.out _))) | (go_at_call 69; (with_reducible exact Calls.regrown_of (HLo.out _))) | (go_at_call 69; (with_reducible exact Calls.regrown_of (HLn.out _))))))); (with_reducible refine wpQuiet_nil ?_); intro W1 hreg; have hbW1 := below_of_reg hreg; clear hreg; obtain ⟨hcW1, hfW1⟩ := bcell hbW1)
  go_wp2_with fail
  go_ret
  exact ⟨retS (by apply bl_inj; simp [opBytesL, opBytesAt, opNums, bl_append, bl_bs, List.append_assoc]), by (repeat (first | assumption | exact Below.refl _ _ | refine bel_drewN ?_ _ | refine bel_alloc ?_ _ | refine bel_trans ?_ (by assumption) | refine Below.trans ?_ (by assumption)))⟩

set_option maxRecDepth 100000 in
set_option maxHeartbeats 4000000 in
theorem refEntryBytes_f (k t p x g : Int) (f : Bool) (o : Op) (d : ByteArray) (w : World) (h0 : entE ⟨k, t, p, x, g, f, o, d⟩ = 0) :
    Calls Tryd.prog 36 #[.agg #[.int .i64 k, .int .i64 t, .int .i64 p, .int .i64 x, .int .i64 g, .bool f, .int .i64 o.k, .int .i64 o.a, .int .i64 o.e, .int .i64 o.c, .string o.o, .string o.n, .string d]] w fun r w' => r = .returned (.string (bs (entBytesL ⟨k, t, p, x, g, f, o, d⟩))) ∧ Below w.heap.size w w' := by
  obtain ⟨⟨k1, k2⟩, hr, _, hd1, hok⟩ := entE_zero h0
  obtain ⟨⟨t1, t2⟩, ⟨p1, p2⟩, ⟨x1, x2⟩, g1, g2⟩ := entRng_true hr
  dsimp only at k1 k2 t1 t2 p1 p2 x1 x2 g1 g2 hd1 hok
  have HB := Lib.hid (fun W => refBytes_any o W (opOK_pos hok))
  have HF := Lib.hid (fun W => Bit_any f W)
  have HLk := Lib.hid (fun W => Little_any k 1 k1 (by omega) (by omega) W)
  have HLt := Lib.hid (fun W => Little_any t 2 t1 (by omega) (by omega) W)
  have HLp := Lib.hid (fun W => Little_any p 4 p1 (by omega) (by omega) W)
  have HLx := Lib.hid (fun W => Little_any x 4 x1 (by omega) (by omega) W)
  have HLg := Lib.hid (fun W => Little_any g 2 g1 (by omega) (by omega) W)
  have HLd := Lib.hid (fun W => Little_any (d.size : Int) 2 (by omega) (by omega) (by omega) W)
  have HL0 := Lib.hid (fun W => Little_any 0 1 (by omega) (by omega) (by omega) W)
  have HL1 := Lib.hid (fun W => Little_any 1 1 (by omega) (by omega) (by omega) W)
  have s1 : ∀ n, (bs (lit n 1)).size = 1 := fun n => by rw [bs_size, lit_length]
  have s2 : ∀ n, (bs (lit n 2)).size = 2 := fun n => by rw [bs_size, lit_length]
  have s4 : ∀ n, (bs (lit n 4)).size = 4 := fun n => by rw [bs_size, lit_length]
  have hob : (bs (opBytesL o)).size ≤ 3000 := by
    have e : (bs (opBytesL o)).size = 11 + o.o.size + o.n.size := by
      rw [bs_size]; unfold opBytesL; rw [List.length_append, List.length_append, opBytesAt_len _ 5 (by omega), bl_length, bl_length]
    have hq : opOK o := hok
    unfold opOK at hq
    omega
  clear h0 hr hok
  unfold opV at HB
  cases f
  all_goals
    (try simp only [Bool.false_eq_true, if_false, if_true] at HF)
    go_enter Tryd.func36, Tryd.ntmps36
    go_wp2_with fail
    (refine wp_region_quiet_below (by kernel_rfl) (by kernel_rfl) ?_; (repeat (go_big_quiet_step ((first | (go_at_call 69; (with_reducible exact Calls.regrown_of (HLk.out _))) | (go_at_call 69; (with_reducible exact Calls.regrown_of (HLt.out _))) | (go_at_call 69; (with_reducible exact Calls.regrown_of (HLp.out _))) | (go_at_call 69; (with_reducible exact Calls.regrown_of (HLx.out _))) | (go_at_call 69; (with_reducible exact Calls.regrown_of (HLg.out _))) | (go_at_call 69; (with_reducible exact Calls.regrown_of (HLd.out _))) | (go_at_call 69; (with_reducible exact Calls.regrown_of (HL0.out _))) | (go_at_call 69; (with_reducible exact Calls.regrown_of (HL1.out _))) | (go_at_call 67; (with_reducible exact Calls.reg_pure (HF.out _))) | (go_at_call 32; (with_reducible exact Calls.regrown_of (HB.out _))))))); (with_reducible refine wpQuiet_nil ?_); intro W2 hreg; have hbW2 := below_of_reg hreg; clear hreg; obtain ⟨hcW2, hfW2⟩ := bcell hbW2)
    go_wp2_with fail
    go_ret
    exact ⟨retS (by apply bl_inj; simp only [bl_append, bl_bs]; rfl), by (repeat (first | assumption | exact Below.refl _ _ | refine bel_drewN ?_ _ | refine bel_alloc ?_ _ | refine bel_trans ?_ (by assumption) | refine Below.trans ?_ (by assumption)))⟩
theorem refEntryBytes_any (e : Ent) (w : World) (h0 : entE e = 0) :
    Calls Tryd.prog 36 #[entV e] w fun r w' => r = .returned (.string (bs (entBytesL e))) ∧ Below w.heap.size w w' :=
  refEntryBytes_f e.k e.t e.p e.x e.g e.f e.o e.d w h0
end Go.Proofs.YtgmipogidmcilaaDoor
