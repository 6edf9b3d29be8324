/-
  Chapter 1: comparisons of values; the reference's decoding of a field.
-/
import Derived.Test.YtiomfkgbaemmkaaDoorDec4
import Derived.Test.YtiomfkgbaemmkaaDoorBox
namespace Go.Proofs.YtiomfkgbaemmkaaDoor
set_option linter.unusedVariables false
set_option linter.unusedSimpArgs false
open Go.RowKit Go.Sort

theorem Ints_same (A A' : Option Addr) (c c' : Nat) (xs : List Int) (w : World) (hl : xs.length ≤ maxLen) (hr : Rd w w.heap.size A (xs.map (.int .i64))) (hr' : Rd w w.heap.size A' (xs.map (.int .i64))) :
    Calls Tryd.prog 34 #[.slice A xs.length c, .slice A' xs.length c'] w fun e w' => e = .returned (.bool true) ∧ Below w.heap.size w w' :=
  (Ints_any A A' c c' xs xs w hl hl hr hr').mono fun e w' ⟨h1, h2⟩ => ⟨by rw [h1, decide_eq_true rfl], h2⟩

set_option maxRecDepth 100000 in
set_option maxHeartbeats 1000000 in
theorem SameValues_same (A A2 : Option Addr) (c c2 : Nat) (vs ws : List VC) (w : World) (hvl : vs.length ≤ maxLen) (hsame : vs.map dvOf = ws.map dvOf) (hr : Rd w w.heap.size A (vcsV vs)) (hr2 : Rd w w.heap.size A2 (vcsV ws))
    (hv : ∀ x ∈ vs, VOk w w.heap.size x) (hv2 : ∀ x ∈ ws, VOk w w.heap.size x) :
    Calls Tryd.prog 12 #[.slice A vs.length c, .slice A2 ws.length c2] w fun e w' => e = .returned (.bool true) ∧ Below w.heap.size w w' := by
  have hlen : vs.length = ws.length := by have := congrArg List.length hsame; simpa using this
  unfold maxLen at hvl
  have h1 : ((vs.length : Int) != ws.length) = false := by simp [hlen]
  have HL := Lib.hid hlen
  have HS := Lib.hid hsame
  have HV := Lib.hid hv
  have HV2 := Lib.hid hv2
  clear hlen hsame hv hv2
  go_enter Tryd.func12, Tryd.ntmps12
  go_wp2
  go_loopw [5] (fun i wr => ∃ k : Nat, k ≤ vs.length ∧ i = .int .i64 k ∧ Below w.heap.size w wr) (fun i _ => vs.length - (intOf i).toNat)
  case atStart => exact ⟨0, Nat.zero_le _, rfl, Below.refl _ _⟩
  case round =>
    obtain ⟨k, hk, rfl, hb⟩ := hrel
    by_cases hlt : k < vs.length
    · have hltw : k < ws.length := by rw [← HL.out]; exact hlt
      obtain ⟨b, o, rfl, hB, hc⟩ := (hr.below hb).opened (by rw [vcsV_length]; omega)
      obtain ⟨b', o', rfl, hB', hc'⟩ := (hr2.below hb).opened (by rw [vcsV_length]; omega)
      obtain ⟨g0, g1, g2⟩ := vcsV_get vs k hlt
      obtain ⟨g0', g1', g2'⟩ := vcsV_get ws k hltw
      have c0 : wr.cell? ⟨b, o + k * 3, none⟩ = _ := hc _ _ g0
      have c1 : wr.cell? ⟨b, o + k * 3 + 1, none⟩ = _ := hc _ _ g1
      have c2 : wr.cell? ⟨b, o + k * 3 + 1 + 1, none⟩ = _ := hc _ _ g2
      have d0 : wr.cell? ⟨b', o' + k * 3, none⟩ = _ := hc' _ _ g0'
      have d1 : wr.cell? ⟨b', o' + k * 3 + 1, none⟩ = _ := hc' _ _ g1'
      have d2 : wr.cell? ⟨b', o' + k * 3 + 1 + 1, none⟩ = _ := hc' _ _ g2'
      have hbs := hb.size
      obtain ⟨hs, hn, hrd⟩ := HV.out vs[k] (List.getElem_mem hlt)
      obtain ⟨hs', hn', hrd'⟩ := HV2.out ws[k] (List.getElem_mem hltw)
      have he : dvOf vs[k] = dvOf ws[k] := by
        have h5 : (vs.map dvOf)[k]? = (ws.map dvOf)[k]? := by rw [HS.out]
        simpa [hlt, hltw] using h5
      obtain ⟨⟨n, s, Ax, cx, ns⟩, hx⟩ : ∃ x, x = vs[k] := ⟨_, rfl⟩
      obtain ⟨⟨n', s', Ax', cx', ns'⟩, hx'⟩ : ∃ x, x = ws[k] := ⟨_, rfl⟩
      rw [← hx] at c0 c1 c2 hs hn hrd he
      rw [← hx'] at d0 d1 d2 hs' hn' hrd' he
      dsimp only at c0 c1 c2 d0 d1 d2 hs hn hrd hs' hn' hrd'
      unfold dvOf at he
      injection he with e1 e2 e3
      subst e1 e2 e3
      have hb1 : b < wr.heap.size := by omega
      have hb2 : b' < wr.heap.size := by omega
      have HR1 := Lib.hid ((hrd.below hb).mono hbs)
      have HR2 := Lib.hid ((hrd'.below hb).mono hbs)
      have HN := Lib.hid hn
      clear hx hx' g0 g1 g2 g0' g1' g2' hc hc' hrd hrd' hn hn' hs hs'
      go_wp2
      (refine wp_region_quiet_below (by kernel_rfl) (by kernel_rfl) ?_; (repeat (go_big_quiet_step ((first | (go_at_call 34; exact Calls.regrown_of (Ints_same Ax Ax' cx cx' ns _ HN.out (Rd.reg HR1.out (Below.refl _ _)) (Rd.reg HR2.out (Below.refl _ _)))))))); (with_reducible refine wpQuiet_nil ?_); intro W1 hreg; have hbW1 := below_of_reg hreg; clear hreg; obtain ⟨hcW1, hfW1⟩ := bcell hbW1)
      go_wp2
      go_roundw
      case rel => exact ⟨k + 1, by omega, by go_num, bel_trans hb hbW1⟩
      case measure => simp [intOf]; omega
    · obtain rfl : k = vs.length := by omega
      go_wp2
      go_ret
      exact ⟨rfl, hb⟩

/-- a struct in a block and two slots: what a function hands back -/
theorem results_cell_tmp2 {P : Program} {fn : Func} {p q r : Tmp} {ty : TypeId} (h : fn.results = #[.cell p ty, .tmp q, .tmp r]) (tmps : Array Value) (w : World) (g : Nat) (t : TypeId) (cs : Array Value) (d : TypeDesc) (u x : Value)
    (hp : tmps.getD p undef = .pointer (some ⟨g, 0, none⟩)) (hq : tmps.getD q undef = u) (hr : tmps.getD r undef = x) (hg : Box w g cs t)
    (hu : P.underlying ty = some d) (hd : (match d with | .struct _ | .array _ _ => true | _ => false) = true) (hi : (P.info? ty).map (·.size) = some cs.size) :
    (results fn tmps).run P w = .ok (.tuple #[.agg cs, u, x]) w := by
  have hp' : tmps[p]?.getD undef = .pointer (some ⟨g, 0, none⟩) := by simpa using hp
  have hq' : tmps[q]?.getD undef = u := by simpa using hq
  have hr' : tmps[r]?.getD undef = x := by simpa using hr
  simp [results, h, hp', hq', hr', asAddr, run_loadVar_row w g t ty cs (0, 0) d hg hu hd hi]
theorem ownsRow_box {w W2 : World} {base g : Nat} {e : TypeId} {size n : Nat} {v : Value} {xs : List Value} (h : w.ownsRow base e size v n xs) (hg : g < base) (hk : ∀ b cs T, b ≠ g → Box w b cs T → Box W2 b cs T) : W2.ownsRow base e size v n xs := by
  refine ⟨h.1, ?_⟩
  rcases h.2 with h' | ⟨b, cap, cur, h1, h2, h3, h4⟩
  · exact .inl h'
  · exact .inr ⟨b, cap, cur, h1, h2, hk b cur e (by omega) h3, h4⟩
/-- a slice of one number, made -/
def OneI (B : Nat) (x : Int) (v : Value) (X : World) : Prop := ∃ b, v = .slice (some ⟨b, 0, none⟩) 1 1 ∧ B ≤ b ∧ X.heap[b]? = some (.cells #[.int .i64 x] 3 (0, 0))
theorem OneI.stable {B : Nat} {x : Int} (v : Value) (X X' : World) (h : OneI B x v X) (hb : Below X.heap.size X X') : OneI B x v X' := by
  obtain ⟨b, h1, h2, h3⟩ := h
  exact ⟨b, h1, h2, (hb.block b (Array.getElem?_eq_some_iff.1 h3).1).trans h3⟩

def zB (l : List UInt8) : Bool := l.all (· == 0)
theorem all_zero_step (s : ByteArray) (k : Nat) (h : k < s.size) : zB ((bl s).drop k) = (s[k] == 0 && zB ((bl s).drop (k + 1))) := by
  rw [drop_bl s k h]; rfl
theorem IsZeros_all (s : ByteArray) (w : World) (hs : s.size ≤ maxLen) :
    Calls Tryd.prog 61 #[.string s] w fun e w' => e = .returned (.bool (zB (bl s))) ∧ w = w' := by
  unfold maxLen at hs
  go_enter Tryd.func61, Tryd.ntmps61
  go_wp2
  go_loop [3] (fun i => ∃ k : Nat, k ≤ s.size ∧ i = .int .i64 k ∧ zB (bl s) = zB ((bl s).drop k)) (fun i => s.size - (intOf i).toNat)
  case atStart => exact ⟨0, Nat.zero_le _, rfl, rfl⟩
  case round =>
    obtain ⟨k, hk, rfl, hf⟩ := hrel
    have HF := Lib.hid hf
    clear hf
    by_cases hlt : k < s.size
    · have hz := all_zero_step s k hlt
      have HZ := Lib.hid hz
      clear hz
      by_cases h0 : s[k] = 0
      · have h0' : ((s[k].toNat : Int) != 0) = false := by rw [h0]; rfl
        have H0 := Lib.hid h0
        clear h0
        go_wp2
        go_round
        case rel => exact ⟨k + 1, by omega, by go_num, by rw [HF.out, HZ.out, H0.out]; rfl⟩
        case measure => simp [intOf]; omega
      · have h0' : ((s[k].toNat : Int) != 0) = true := by
          simp only [bne_iff_ne, ne_eq]; intro h; apply h0; apply UInt8.toNat_inj.1; simpa using h
        have H0 := Lib.hid h0
        clear h0
        go_wp2
        go_ret
        exact ⟨retB (by rw [HF.out, HZ.out, beq_eq_false_iff_ne.2 H0.out]; rfl), rfl⟩
    · go_wp2
      go_ret
      exact ⟨retB (by rw [HF.out, List.drop_of_length_le (by rw [bl_length]; omega)]; rfl), rfl⟩
end Go.Proofs.YtiomfkgbaemmkaaDoor
