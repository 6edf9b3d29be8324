/-
  Chapter 21: lists of operations: AppliedAll, Applied; All and Try of the reference; inverses.
-/
import Derived.Test.YtgmipogidmcilaaDoorOpRef2
namespace Go.Proofs.YtgmipogidmcilaaDoor
set_option linter.unusedVariables false
set_option linter.unusedSimpArgs false
open Go.RowKit Go.Sort

def opsV (l : List Op) : List Value := l.flatMap opVs
theorem opsV_length (l : List Op) : (opsV l).length = 6 * l.length := by
  induction l with
  | nil => rfl
  | cons f l ih => simp [opsV, opVs] at ih ⊢; omega
theorem opsV_get (l : List Op) : ∀ (k : Nat) (h : k < l.length) (j : Nat) (u : Value), (opVs l[k])[j]? = some u → (opsV l)[k * 6 + j]? = some u := by
  induction l with
  | nil => intro k h; exact absurd h (by simp)
  | cons f l ih =>
    intro k h j u hu
    have hj : j < 6 := (List.getElem?_eq_some_iff.1 hu).1
    cases k with
    | zero =>
      show (opVs f ++ opsV l)[0 * 6 + j]? = some u
      rw [List.getElem?_append_left (by show _ < 6; omega), Nat.zero_mul, Nat.zero_add]; exact hu
    | succ k =>
      show (opVs f ++ opsV l)[(k + 1) * 6 + j]? = some u
      rw [List.getElem?_append_right (by show 6 ≤ _; omega)]
      have := ih k (by simpa using h) j u (by simpa using hu)
      rw [← this]
      congr 1
      show (k + 1) * 6 + j - 6 = _
      omega
/-- operations whose bytes are not many -/
def ShortOps (l : List Op) : Prop := ∀ j (h : j < l.length), l[j].o.size ≤ 3100 ∧ l[j].n.size ≤ 3100

set_option maxRecDepth 100000 in
theorem Fits_any (p : ByteArray) (x : Op) (w : World) (hp : p.size = 512) (h : opOK x) :
    Calls Tryd.prog 30 #[.string p, opV x] w fun r w' => r = .returned (.bool (opFit p x)) ∧ Below w.heap.size w w' := by
  obtain ⟨k, a, e, c, o, n⟩ := x
  unfold opOK at h
  dsimp only at h
  rcases h with ⟨rfl, rfl, rfl, rfl, ho, hn⟩ | ⟨rfl, rfl, rfl, hs, h1, h2, h3, h4⟩ | ⟨rfl, rfl, ho, h1, h2, h3, h4, h5⟩ | ⟨rfl, rfl, hn, h1, h2, h3, h4, h5⟩ | ⟨hk, rfl, ho, hn, h1, h2, h3, h4⟩ | ⟨rfl, rfl, rfl, rfl, ho, hn⟩
  · exact Fits_0 p o n w
  · obtain ⟨A, rfl⟩ := Int.eq_ofNat_of_zero_le h3
    exact Fits_1 p A o n w hp hs h2 (by omega)
  · obtain ⟨A, rfl⟩ := Int.eq_ofNat_of_zero_le h3
    obtain ⟨E, rfl⟩ := Int.eq_ofNat_of_zero_le (show 0 ≤ e by omega)
    exact Fits_2 p A E o n w hp ho h2 (by omega) (by omega)
  · obtain ⟨A, rfl⟩ := Int.eq_ofNat_of_zero_le h3
    obtain ⟨E, rfl⟩ := Int.eq_ofNat_of_zero_le (show 0 ≤ e by omega)
    exact Fits_3 p A E o n w hp hn h2 (by omega) (by omega)
  · obtain ⟨A, rfl⟩ := Int.eq_ofNat_of_zero_le h1
    obtain ⟨C, rfl⟩ := Int.eq_ofNat_of_zero_le (show 0 ≤ c by omega)
    rcases hk with rfl | rfl
    · exact Fits_4 p A C o n w hp ho hn (by omega)
    · exact Fits_5 p A C o n w hp ho hn (by omega)
  · exact Fits_6 p o n w
theorem refApplied_any (p : ByteArray) (x : Op) (w : World) (hp : p.size = 512) (h : opOK x) :
    Calls Tryd.prog 56 #[.string p, opV x] w fun r w' => r = .returned (.string (opDo p x)) ∧ Below w.heap.size w w' := by
  obtain ⟨k, a, e, c, o, n⟩ := x
  unfold opOK at h
  dsimp only at h
  rcases h with ⟨rfl, rfl, rfl, rfl, ho, hn⟩ | ⟨rfl, rfl, rfl, hs, h1, h2, h3, h4⟩ | ⟨rfl, rfl, ho, h1, h2, h3, h4, h5⟩ | ⟨rfl, rfl, hn, h1, h2, h3, h4, h5⟩ | ⟨hk, rfl, ho, hn, h1, h2, h3, h4⟩ | ⟨rfl, rfl, rfl, rfl, ho, hn⟩
  · exact refApplied_0 p o n w
  · obtain ⟨A, rfl⟩ := Int.eq_ofNat_of_zero_le h3
    exact refApplied_1 p A o n w hp hs h2 (by omega)
  · obtain ⟨A, rfl⟩ := Int.eq_ofNat_of_zero_le h3
    obtain ⟨E, rfl⟩ := Int.eq_ofNat_of_zero_le (show 0 ≤ e by omega)
    exact refApplied_2 p A E o n w hp ho h2 (by omega) (by omega)
  · obtain ⟨A, rfl⟩ := Int.eq_ofNat_of_zero_le h3
    obtain ⟨E, rfl⟩ := Int.eq_ofNat_of_zero_le (show 0 ≤ e by omega)
    exact refApplied_3 p A E o n w hp hn h2 (by omega) (by omega)
  · obtain ⟨A, rfl⟩ := Int.eq_ofNat_of_zero_le h1
    obtain ⟨C, rfl⟩ := Int.eq_ofNat_of_zero_le (show 0 ≤ c by omega)
    rcases hk with rfl | rfl
    · exact refApplied_4 p A C o n w hp ho hn (by omega)
    · exact refApplied_5 p A C o n w hp ho hn (by omega)
  · exact refApplied_6 p o n w

theorem refOpErr_any (x : Op) (w : World) (ho : x.o.size ≤ 3100) (hn : x.n.size ≤ 3100) :
    Calls Tryd.prog 23 #[opV x] w fun r w' => r = .returned (.int .i64 (opE x)) ∧ Below w.heap.size w w' := by
  cases hk : inB x.k 0 6
  · exact refOpErr_out x w hk
  · obtain ⟨k, a, e, c, o, n⟩ := x
    rw [inB_true] at hk
    dsimp only at hk
    have : k = 0 ∨ k = 1 ∨ k = 2 ∨ k = 3 ∨ k = 4 ∨ k = 5 ∨ k = 6 := by omega
    rcases this with rfl | rfl | rfl | rfl | rfl | rfl | rfl
    · exact refOpErr_0 a e c o n w ho hn
    · exact refOpErr_1 a e c o n w ho hn
    · exact refOpErr_2 a e c o n w ho hn
    · exact refOpErr_3 a e c o n w ho hn
    · exact refOpErr_4 a e c o n w ho hn
    · exact refOpErr_5 a e c o n w ho hn
    · exact refOpErr_6 a e c o n w ho hn

set_option maxRecDepth 100000 in
set_option maxHeartbeats 1000000 in
theorem Try_any (p : ByteArray) (x : Op) (w : World) (hp : p.size = 512) (ho : x.o.size ≤ 3100) (hn : x.n.size ≤ 3100) :
    Calls Tryd.prog 20 #[.string p, opV x] w fun r w' => r = .returned (.tuple #[.string (opTry p x).1, .int .i64 (opTry p x).2]) ∧ Below w.heap.size w w' := by
  have hE := fun W => refOpErr_any x W ho hn
  obtain ⟨er, her⟩ : ∃ e, e = opE x := ⟨_, rfl⟩
  rw [← her] at hE
  have HE := Lib.hid hE
  clear hE
  by_cases h0 : er = 0
  · have hok := (opE_iff x).1 (her.symm.trans h0)
    have hF := fun W => Fits_any p x W hp hok
    have hD := fun W => refApplied_any p x W hp hok
    have ht : opTry p x = if opFit p x then (opDo p x, 0) else (⟨#[]⟩, 13) := by unfold opTry; rw [if_neg (by rw [← her]; exact fun h => h h0)]
    obtain ⟨f, hf⟩ : ∃ f, f = opFit p x := ⟨_, rfl⟩
    rw [← hf] at hF ht
    have HF := Lib.hid hF
    have HD := Lib.hid hD
    have HT := Lib.hid ht
    have h0' : (er != 0) = false := by simp [h0]
    clear hF hD ht hok her hf h0
    unfold opV at *
    cases f
    all_goals
      go_enter Tryd.func20, Tryd.ntmps20
      go_wp2_with (first | ((go_at_call 23; (with_reducible refine (HE.out _).mono ?_); rintro e W1 ⟨rfl, hbW1⟩; obtain ⟨hcW1, hfW1⟩ := bcell hbW1); have hsW1 : w.heap.size < W1.heap.size := (by have h := hbW1.size; simp at h; omega)) | ((go_at_call 30; (with_reducible refine (HF.out _).mono ?_); rintro e W2 ⟨rfl, hbW2⟩; obtain ⟨hcW2, hfW2⟩ := bcell hbW2); have hsW2 : w.heap.size < W2.heap.size := (by have h := hbW2.size; omega)) | (go_at_call 56; (with_reducible refine (HD.out _).mono ?_); rintro e W3 ⟨rfl, hbW3⟩; obtain ⟨hcW3, hfW3⟩ := bcell hbW3))
      go_ret2
      exact ⟨retSI (by rw [HT.out]; rfl) (by rw [HT.out]; rfl), by (repeat (first | assumption | exact Below.refl _ _ | refine bel_drewN ?_ _ | refine bel_alloc ?_ _ | refine bel_trans ?_ (by assumption) | refine Below.trans ?_ (by assumption)))⟩
  · have ht : opTry p x = (⟨#[]⟩, er) := by unfold opTry; rw [← her, if_pos h0]
    have HT := Lib.hid ht
    have h0' : (er != 0) = true := by simp [h0]
    clear ht her h0
    unfold opV at *
    go_enter Tryd.func20, Tryd.ntmps20
    go_wp2_with (first | ((go_at_call 23; (with_reducible refine (HE.out _).mono ?_); rintro e W1 ⟨rfl, hbW1⟩; obtain ⟨hcW1, hfW1⟩ := bcell hbW1); have hsW1 : w.heap.size < W1.heap.size := (by have h := hbW1.size; simp at h; omega)))
    go_ret2
    exact ⟨retSI (by rw [HT.out]) (by rw [HT.out]), by (repeat (first | assumption | exact Below.refl _ _ | refine bel_drewN ?_ _ | refine bel_alloc ?_ _ | refine bel_trans ?_ (by assumption) | refine Below.trans ?_ (by assumption)))⟩
end Go.Proofs.YtgmipogidmcilaaDoor
