/-
  Chapter 17: CheckDecided.
-/
import Derived.Test.YtanicpgmbhfipaaGreatDoorAcB
namespace Go.Proofs.YtanicpgmbhfipaaGreatDoor
set_option linter.unusedVariables false
set_option linter.unusedSimpArgs false
open Go.RowKit Go.Sort

def dcdE (L : List Int) (i : Nat) (n : Int) : Int := unl (n == L.getD i 0) 19
def ckE (d : DscP) (t : TokP) (l : List Int) : Int := firstE [botE d t, unl ((l.length : Int) == 9) 10]
def ckP (d : DscP) (t : TokP) (l : List Int) : Int × Int := if ckE d t l = 0 then eachE (dcdE (decP d t)) 0 l else (0, ckE d t l)
set_option maxRecDepth 100000 in
set_option maxHeartbeats 1000000 in
theorem Dcd1_any (D c : Nat) (A : Option Addr) (L : List Int) (i : Nat) (n : Int) (w : World) (hi : i < L.length) (hl : L.length ≤ 100000) (hD : D < w.heap.size) (hc : w.cell? ⟨D, 0, none⟩ = some (.slice A L.length c)) (hr : Rd w w.heap.size A (L.map (.int .i64))) :
    Calls Tryz.prog 61 #[.int .i64 i, .int .i64 n, .pointer (some ⟨D, 0, none⟩)] w fun e w' => e = .returned (.int .i64 (dcdE L i n)) ∧ Below w.heap.size w w' := by
  obtain ⟨b, o, rfl, hB, hcc⟩ := hr.opened (by rw [List.length_map]; omega)
  have cj : w.cell? ⟨b, o + i, none⟩ = some (.int .i64 L[i]) := hcc _ _ (by rw [List.getElem?_map, List.getElem?_eq_getElem (by omega)]; rfl)
  obtain ⟨r, hre⟩ : ∃ r, r = dcdE L i n := ⟨_, rfl⟩
  rw [← hre]
  obtain ⟨p, hp⟩ : ∃ p, p = L[i] := ⟨_, rfl⟩
  have hg : L.getD i 0 = p := by rw [hp, List.getD_eq_getElem?_getD, List.getElem?_eq_getElem hi]; rfl
  rw [← hp] at cj
  unfold dcdE at hre
  rw [hg] at hre
  have HU := Lib.hid (fun W => access_unless_any (n == p) 19 W)
  rw [← hre] at HU
  clear hre hp hg hcc hr
  go_enter Tryz.func61, Tryz.ntmps61
  go_wp2_with (go_at_call 59; (with_reducible refine (HU.out _).mono ?_); rintro e w' ⟨rfl, rfl⟩)
  go_ret
  exact ⟨rfl, Below.refl _ _⟩
set_option maxRecDepth 100000 in
set_option maxHeartbeats 2000000 in
theorem eachDcd_any (A AL : Option Addr) (c cL D : Nat) (l L : List Int) (w : World) (hlen : l.length ≤ 100000) (hLl : l.length ≤ L.length) (hL : L.length ≤ 100000) (hr : Rd w w.heap.size A (l.map (.int .i64))) (hrL : Rd w w.heap.size AL (L.map (.int .i64))) (hD : D < w.heap.size) (hc : w.cell? ⟨D, 0, none⟩ = some (.slice AL L.length cL)) :
    Calls Tryz.prog 60 #[.slice A l.length c, .func (.func 61) #[] #[.pointer (some ⟨D, 0, none⟩)]] w fun e w' =>
      e = .returned (.tuple #[.int .i64 (eachE (dcdE L) 0 l).1, .int .i64 (eachE (dcdE L) 0 l).2]) ∧ Below w.heap.size w w' := by
  have HC := Lib.hid (fun (i : Nat) (hi : i < l.length) (W : World) (hW : Below w.heap.size w W) => Dcd1_any D cL AL L i l[i] W (by omega) hL (by have := hW.size; omega) ((hW.cell (p := ⟨D, 0, none⟩) hD).trans hc) (hrL.below' hW))
  clear hc hrL
  go_enter Tryz.func60, Tryz.ntmps60
  go_wp2
  go_loopw [11] (fun i wr => ∃ k : Nat, k ≤ l.length ∧ i = .int .i64 k ∧ Below w.heap.size w wr ∧ eachE (dcdE L) 0 l = eachE (dcdE L) k (l.drop k)) (fun i _ => l.length - (intOf i).toNat)
  case atStart => exact ⟨0, Nat.zero_le _, rfl, Below.refl _ _, rfl⟩
  case round =>
    obtain ⟨k, hk, rfl, hb, hf⟩ := hrel
    have HF := Lib.hid hf
    clear hf
    by_cases hlt : k < l.length
    · have hr2 := hr.below hb
      obtain ⟨b, o, rfl, hB, hcc⟩ := hr2.opened (by rw [List.length_map]; omega)
      obtain ⟨n, hn⟩ : ∃ n, n = l[k] := ⟨_, rfl⟩
      have c0 : wr.cell? ⟨b, o + k, none⟩ = some (.int .i64 n) := hcc _ _ (by rw [List.getElem?_map, List.getElem?_eq_getElem hlt, hn]; rfl)
      have hd : l.drop k = l[k] :: l.drop (k + 1) := List.drop_eq_getElem_cons hlt
      obtain ⟨r, hre⟩ : ∃ r, r = dcdE L k l[k] := ⟨_, rfl⟩
      have hC2 := HC.out k hlt wr hb
      rw [← hre, ← hn] at hC2
      rw [← hn] at hd hre
      have HD := Lib.hid hd
      have HC2 := Lib.hid hC2
      have HRE := Lib.hid hre
      clear hd hn hcc hr hr2 hre hC2
      by_cases h0 : r = 0
      · subst h0
        go_wp2_with (go_at_call 61; refine HC2.out.mono ?_; rintro e w1 ⟨rfl, hb1⟩)
        go_roundw
        case rel => exact ⟨k + 1, by omega, by go_num, bel_trans hb hb1, by rw [HF.out, HD.out, eachE, if_pos HRE.out.symm]⟩
        case measure => simp [intOf]; omega
      · have h0' : (r != 0) = true := by simp [h0]
        have H0 := Lib.hid h0
        clear h0
        go_wp2_with (go_at_call 61; refine HC2.out.mono ?_; rintro e w1 ⟨rfl, hb1⟩)
        go_ret2
        have e : eachE (dcdE L) 0 l = ((k : Int), r) := by rw [HF.out, HD.out, eachE, if_neg (by rw [← HRE.out]; exact H0.out), ← HRE.out]
        exact ⟨retII (by rw [e]) (by rw [e]), bel_trans hb hb1⟩
    · go_wp2
      go_ret2
      exact ⟨retII (by rw [HF.out, List.drop_of_length_le (by omega)]; rfl) (by rw [HF.out, List.drop_of_length_le (by omega)]; rfl), hb⟩
set_option maxRecDepth 100000 in
set_option maxHeartbeats 4000000 in
theorem CheckDecided_any (d : DscP) (t : TokP) (l : List Int) (A1 A2 A AB : Option Addr) (c1 c2 c cB : Nat) (w : World) (h : DT d t A1 A2 A w) (hl : l.length ≤ 100000) (hrl : Rd w w.heap.size AB (l.map (.int .i64))) :
    Calls Tryz.prog 21 #[dscV d A1 A2 c1 c2, tokV t A c, .slice AB l.length cB] w fun e w' => e = .returned (.tuple #[.int .i64 (ckP d t l).1, .int .i64 (ckP d t l).2]) ∧ Below w.heap.size w w' := by
  have hmf : ∀ (fn : Fn) (first cap : Array Value) (w : World), (Instr.makeFunc fn first cap).run Tryz.prog w = .ok (.func fn first cap) w := fun _ _ _ _ => rfl
  have HD := Lib.hid (fun W (hW : Below w.heap.size w W) => DecidedBy_any d t A1 A2 A c1 c2 c W (h.below hW))
  obtain ⟨e1, he1⟩ : ∃ e, e = botE d t := ⟨_, rfl⟩
  obtain ⟨e2, he2⟩ : ∃ e, e = unl ((l.length : Int) == 9) 10 := ⟨_, rfl⟩
  obtain ⟨r, hr⟩ : ∃ r, r = ckE d t l := ⟨_, rfl⟩
  have hr' : r = firstE [e1, e2] := by rw [hr, he1, he2]; rfl
  have HU := Lib.hid (fun W => access_unless_any ((l.length : Int) == 9) 10 W)
  rw [← he2] at HU
  obtain ⟨L, hL⟩ : ∃ L, L = (if botE d t = 0 then decP d t else []) := ⟨_, rfl⟩
  rw [← hL, ← he1] at HD
  have hLl : L.length ≤ 9 := by rw [hL]; split <;> simp [decP]
  have HP := Lib.hid (fun W => access_first2 e1 e2 W)
  rw [← hr'] at HP
  have HR := Lib.hid (fun W (hW : Below w.heap.size w W) => hrl.below' hW)
  unfold dscV tokV at *
  have H1 := Lib.hid he1
  have H2 := Lib.hid he2
  have H3 := Lib.hid hr
  have H4 := Lib.hid hL
  have H5 := Lib.hid hr'
  clear he1 he2 hr hL h hrl hr'
  by_cases h0 : r = 0
  · have hz := firstE_zero (H5.out.symm.trans h0)
    have hz1 : e1 = 0 := hz e1 (by simp)
    have hz2 : e2 = 0 := hz e2 (by simp)
    have h9 : l.length = 9 := by
      have := unl_zero (by decide) (H2.out.symm.trans hz2)
      have := of_decide_eq_true (p := (l.length : Int) = 9) (by simpa using this)
      omega
    have hLd : L = decP d t := by rw [H4.out, if_pos (H1.out.symm.trans hz1)]
    have hL9 : L.length = 9 := by rw [hLd]; simp [decP]
    obtain ⟨q, hq⟩ : ∃ q, q = ckP d t l := ⟨_, rfl⟩
    have hqe : q = eachE (dcdE L) 0 l := by rw [hq, ckP, if_pos (H3.out.symm.trans h0), ← hLd]
    rw [← hq]
    have HE := Lib.hid (fun AL cL D W hr hrL hD hc => eachDcd_any AB AL cB cL D l L W hl (by omega) (by omega) hr hrL hD hc)
    rw [← hqe] at HE
    have H9 := Lib.hid h9
    have HL9 := Lib.hid hL9
    subst h0
    subst hz1
    clear hz2 hLd hq hqe h9 hL9 hz
    go_enter Tryz.func21, Tryz.ntmps21
    go_wp2_with (first | (go_at_call 15; refine (HD.out _ (bel_alloc (bel_alloc (Below.refl _ _) _) _)).mono ?_; rintro e W1 ⟨Ao, co, rfl, ho, hb⟩; have HO := Lib.hid ho; have HBB := Lib.hid (bel_trans (bel_alloc (bel_alloc (Below.refl _ w) _) _) hb)) | (go_at_call 59; (with_reducible refine (HU.out _).mono ?_); rintro e w' ⟨rfl, rfl⟩) | (go_at_call 51; have hp1 := HP.out (W1.alloc (.cells #[.slice Ao L.length co] 25)); rw [World.size_alloc] at hp1; (with_reducible refine hp1.mono ?_); clear hp1; rintro e w' ⟨rfl, rfl⟩) | (go_at_call 60; refine (HE.out Ao co W1.heap.size ((W1.alloc (.cells #[.slice Ao L.length co] 25)).alloc (.cells #[.int .i64 0, .int .i64 e2] 30)) (HR.out _ (bel_alloc (bel_alloc HBB.out _) _)) ((Rd.of_own HO.out).below' (bel_alloc (bel_alloc (Below.refl _ _) _) _)) (by simp; omega) (by simp)).mono ?_; rintro e W2 ⟨rfl, hb2⟩))
    go_ret2
    exact ⟨rfl, bel_trans (bel_alloc (bel_alloc HBB.out _) _) hb2⟩
  · have h0' : (r != 0) = true := by simp [h0]
    have hq : ckP d t l = (0, r) := by rw [ckP, if_neg (by rw [← H3.out]; exact h0), ← H3.out]
    rw [hq]
    go_enter Tryz.func21, Tryz.ntmps21
    go_wp2_with (first | (go_at_call 15; refine (HD.out _ (bel_alloc (bel_alloc (Below.refl _ _) _) _)).mono ?_; rintro e W1 ⟨Ao, co, rfl, ho, hb⟩; have HO := Lib.hid ho; have HBB := Lib.hid (bel_trans (bel_alloc (bel_alloc (Below.refl _ w) _) _) hb)) | (go_at_call 59; (with_reducible refine (HU.out _).mono ?_); rintro e w' ⟨rfl, rfl⟩) | (go_at_call 51; have hp1 := HP.out (W1.alloc (.cells #[.slice Ao L.length co] 25)); rw [World.size_alloc] at hp1; (with_reducible refine hp1.mono ?_); clear hp1; rintro e w' ⟨rfl, rfl⟩))
    go_ret2
    exact ⟨rfl, bel_alloc (bel_alloc HBB.out _) _⟩
end Go.Proofs.YtanicpgmbhfipaaGreatDoor
