/-
  Chapter 1: values in memory: what the guards ask, copies, comparisons.
-/
import Derived.Test.YtiomfkgbaemmkaaDoorAwake
import Derived.Test.YtiomfkgbaemmkaaDoorFlow
import Derived.Test.YtiomfkgbaemmkaaDoorDecP2
namespace Go.Proofs.YtiomfkgbaemmkaaDoor
set_option linter.unusedVariables false
set_option linter.unusedSimpArgs false
open Go.RowKit Go.Sort

/-- a slice's cells read as these, and do not lie in the row of v -/
def RdA (w : World) (v : Value) (A : Option Addr) (xs : List Value) : Prop := ∀ j u, xs[j]? = some u → ∃ b o, A = some ⟨b, o, none⟩ ∧ b < w.heap.size ∧ v.ownBlock ≠ some b ∧ w.cell? ⟨b, o + j, none⟩ = some u
theorem RdA.rd {w : World} {v : Value} {A : Option Addr} {xs : List Value} (h : RdA w v A xs) : Rd w w.heap.size A xs := fun j u hj => by
  obtain ⟨b, o, h1, h2, _, h4⟩ := h j u hj
  exact ⟨b, o, h1, h2, h4⟩
theorem RdA.below {w w' : World} {v : Value} {A : Option Addr} {xs : List Value} (h : RdA w v A xs) (hb : Below w.heap.size w w') : RdA w' v A xs := fun j u hj => by
  obtain ⟨b, o, h1, h2, h3, h4⟩ := h j u hj
  exact ⟨b, o, h1, by have := hb.size; omega, h3, (hb.cell (p := ⟨b, o + j, none⟩) h2).trans h4⟩
theorem RdA.grown {w w' : World} {v v' : Value} {A : Option Addr} {xs : List Value} (h : RdA w v A xs) (hb : w.grownBy w' v.ownBlock) (hv : v'.ownBlock = v.ownBlock ∨ v'.ownBlock = some w.heap.size) : RdA w' v' A xs := fun j u hj => by
  obtain ⟨b, o, h1, h2, h3, h4⟩ := h j u hj
  refine ⟨b, o, h1, by have := hb.size; omega, ?_, (World.cell?_of_block (w := w) (a := ⟨b, o + j, none⟩) (hb.block b h2 (fun e => h3 e.symm))).trans h4⟩
  rcases hv with hv | hv
  · rw [hv]; exact h3
  · rw [hv]; intro e; injection e with e; omega
/-- a row that was made behind everything that v has -/
theorem RdA.fresh {w w' : World} {v : Value} {e : TypeId} {size n : Nat} {A : Option Addr} {c : Nat} {xs : List Value} (hv : ∀ g, v.ownBlock = some g → g < w.heap.size) (h : w'.ownsRow w.heap.size e size (.slice A n c) n xs) : RdA w' v A xs := fun j u hj => by
  obtain ⟨b, o, h1, h2, h4⟩ := Rd.of_own h j u hj
  refine ⟨b, o, h1, h2, fun e => ?_, h4⟩
  have h5 := hv _ e
  rcases h.2 with ⟨h6, _⟩ | ⟨g, cap, cur, h6, h7, _⟩
  · rw [h1] at h6; injection h6 with h6; cases h6
  · rw [h1] at h6; injection h6 with h6; injection h6 with h6; injection h6 with h6; omega

/-- the value as it lies beside the row v -/
def VIn (w : World) (v : Value) (x : VC) : Prop := x.s.size ≤ maxLen ∧ x.ns.length ≤ maxLen ∧ RdA w v x.A (x.ns.map (.int .i64))
theorem VIn.below {w w' : World} {v : Value} {x : VC} (h : VIn w v x) (hb : Below w.heap.size w w') : VIn w' v x := ⟨h.1, h.2.1, h.2.2.below hb⟩
theorem VIn.grown {w w' : World} {v v' : Value} {x : VC} (h : VIn w v x) (hb : w.grownBy w' v.ownBlock) (hv : v'.ownBlock = v.ownBlock ∨ v'.ownBlock = some w.heap.size) : VIn w' v' x := ⟨h.1, h.2.1, h.2.2.grown hb hv⟩
theorem VIn.ok {w : World} {v : Value} {x : VC} (h : VIn w v x) : VOk w w.heap.size x := ⟨h.1, h.2.1, h.2.2.rd⟩

def fewB (l : List Fld) (vs : List VC) : Bool := decide (l.length ≤ 26) && decide (vs.length ≤ 26) && vs.all fun v => decide (v.s.size ≤ 300) && decide (v.ns.length ≤ 200)
theorem few_any (A A2 : Option Addr) (c c2 : Nat) (l : List Fld) (vs : List VC) (w : World) (hlen : l.length ≤ maxLen) (hvl : vs.length ≤ maxLen) (hr2 : Rd w w.heap.size A2 (vcsV vs)) (hv : ∀ x ∈ vs, VOk w w.heap.size x) :
    Calls Tryd.prog 6 #[.slice A l.length c, .slice A2 vs.length c2] w fun e w' => e = .returned (.bool (fewB l vs)) ∧ w = w' := by
  unfold maxLen at hlen hvl
  by_cases h1 : l.length ≤ 26
  · have h1' : decide ((l.length : Int) > 26) = false := by simp; omega
    by_cases h2 : vs.length ≤ 26
    · have h2' : decide ((vs.length : Int) > 26) = false := by simp; omega
      have hf : fewB l vs = vs.all (fun v => decide (v.s.size ≤ 300) && decide (v.ns.length ≤ 200)) := by simp [fewB, h1, h2]
      have HF := Lib.hid hf
      have HV := Lib.hid hv
      clear hf hv
      go_enter Tryd.func6, Tryd.ntmps6
      go_wp2
      go_loop [5] (fun i => ∃ k : Nat, k ≤ vs.length ∧ i = .int .i64 k ∧ fewB l vs = (vs.drop k).all (fun v => decide (v.s.size ≤ 300) && decide (v.ns.length ≤ 200))) (fun i => vs.length - (intOf i).toNat)
      case atStart => exact ⟨0, Nat.zero_le _, rfl, HF.out⟩
      case round =>
        obtain ⟨k, hk, rfl, hg⟩ := hrel
        have HG := Lib.hid hg
        clear hg
        by_cases hlt : k < vs.length
        · obtain ⟨b, o, rfl, hB, hc⟩ := hr2.opened (by rw [vcsV_length]; omega)
          obtain ⟨g0, g1, g2⟩ := vcsV_get vs k hlt
          have d1 : w.cell? ⟨b, o + k * 3 + 1, none⟩ = _ := hc _ _ g1
          have d2 : w.cell? ⟨b, o + k * 3 + 1 + 1, none⟩ = _ := hc _ _ g2
          have hd : vs.drop k = vs[k] :: vs.drop (k + 1) := List.drop_eq_getElem_cons hlt
          obtain ⟨hs, hn, _⟩ := HV.out vs[k] (List.getElem_mem hlt)
          obtain ⟨x, hx⟩ : ∃ x, x = vs[k] := ⟨_, rfl⟩
          rw [← hx] at d1 d2 hd hs hn
          unfold maxLen at hs hn
          have HD := Lib.hid hd
          clear hd hx g0 g1 g2 hc hr2
          by_cases h3 : x.s.size ≤ 300
          · have h3' : decide ((x.s.size : Int) > 300) = false := by simp; omega
            by_cases h4 : x.ns.length ≤ 200
            · have h4' : decide ((x.ns.length : Int) > 200) = false := by simp; omega
              go_wp2
              go_round
              case rel => exact ⟨k + 1, by omega, by go_num, by rw [HG.out, HD.out]; simp [h3, h4]⟩
              case measure => simp [intOf]; omega
            · have h4' : decide ((x.ns.length : Int) > 200) = true := by simp; omega
              go_wp2
              go_ret
              exact ⟨retB (by rw [HG.out, HD.out]; simp [h4]), rfl⟩
          · have h3' : decide ((x.s.size : Int) > 300) = true := by simp; omega
            go_wp2
            go_ret
            exact ⟨retB (by rw [HG.out, HD.out]; simp [h3]), rfl⟩
        · obtain rfl : k = vs.length := by omega
          go_wp2
          go_ret
          exact ⟨retB (by rw [HG.out, List.drop_length]; rfl), rfl⟩
    · have h2' : decide ((vs.length : Int) > 26) = true := by simp; omega
      have hf : fewB l vs = false := by simp [fewB, h2]
      have HF := Lib.hid hf
      clear hf
      go_enter Tryd.func6, Tryd.ntmps6
      go_wp2
      go_ret
      exact ⟨retB HF.out.symm, rfl⟩
  · have h1' : decide ((l.length : Int) > 26) = true := by simp; omega
    have hf : fewB l vs = false := by simp [fewB, h1]
    have HF := Lib.hid hf
    clear hf
    go_enter Tryd.func6, Tryd.ntmps6
    go_wp2
    go_ret
    exact ⟨retB HF.out.symm, rfl⟩

theorem CopyInts_any (A : Option Addr) (c : Nat) (l : List Int) (w : World) (hlen : l.length ≤ 1000000) (hr : Rd w w.heap.size A (l.map (.int .i64))) :
    Calls Tryd.prog 27 #[.slice A l.length c] w fun e w' =>
      ∃ v, e = .returned v ∧ w'.ownsRow w.heap.size 3 1 v l.length (l.map (.int .i64)) ∧ Below w.heap.size w w' := by
  obtain ⟨i0, hi, hz0, hz1, hz2⟩ := info_parts info_int
  go_enter Tryd.func27, Tryd.ntmps27
  have hown := World.ownsRow_lit (base := w.heap.size) (e := 3) (size := 1) w #[] 0 (Nat.le_refl _) (by unfold maxLen; omega) rfl
  go_wp2_with (at_builtin; refine wpList_append_rd _ rfl (.tmp 3) (.tmp 4) 45 rfl w.heap.size 3 i0 (.int .i64 0) 1 8 Tryd.underlying45 hi hz0 hz1 hz2 rfl (by decide) _ _ _ rfl hown (w.heap.size + 1) A l.length c (l.map (.int .i64)) rfl (by simp) ((hr.below ((Below.refl _ _).alloc (Nat.le_refl _) _)).mono (by omega)) (by intro u hu; obtain ⟨f, _, rfl⟩ := List.mem_map.1 hu; rfl) (by unfold maxLen; omega) (by omega) (by simp) ?_; intro v1 w1 hown1 _ _ hb1)
  go_ret
  exact ⟨v1, rfl, by simpa using hown1, (bel_alloc (Below.refl _ _) _).trans hb1⟩

theorem leaves_alloc {P : Program} {R : Value → World → Prop} {X : World} {s : Sem Next} {v : Value} {obj : Obj} (h : s.run P X = .ok (.value v) (X.alloc obj)) (hR : R v (X.alloc obj)) : LeavesR P R X (s.run P X) := by
  rw [h]; exact ⟨(Below.refl _ _).alloc (Nat.le_refl _) _, hR⟩
theorem leaves_pure {P : Program} {R : Value → World → Prop} {X : World} {s : Sem Next} {v : Value} (h : s.run P X = .ok (.value v) X) (hR : R v X) : LeavesR P R X (s.run P X) := by
  rw [h]; exact ⟨Below.refl _ _, hR⟩
theorem leaves_call {P : Program} {R : Value → World → Prop} {X : World} {s : Sem Next} {f : FuncId} {args : Array Value} (h : s.run P X = .ok (.enter f args) X)
    (hc : Calls P f args X (fun e X' => ∃ v, e = .returned v ∧ Below X.heap.size X X' ∧ R v X')) : LeavesR P R X (s.run P X) := by
  rw [h]; exact ⟨rfl, hc⟩

def RI (B : Nat) (ns : List Int) (v : Value) (X : World) : Prop := ∃ A c, v = .slice A ns.length c ∧ X.ownsRow B 3 1 (.slice A ns.length c) ns.length (ns.map (.int .i64))
def RB (B : Nat) (n : Int) (s : ByteArray) (ns : List Int) (v : Value) (X : World) : Prop := ∃ A c, v = .agg #[.int .i64 n, .string s, .slice A ns.length c] ∧ X.ownsRow B 3 1 (.slice A ns.length c) ns.length (ns.map (.int .i64))
def RS (B : Nat) (n : Int) (s : ByteArray) (ns : List Int) (v : Value) (X : World) : Prop := ∃ b A c, v = .slice (some ⟨b, 0, none⟩) 1 1 ∧ B ≤ b ∧ X.heap[b]? = some (.cells #[.int .i64 n, .string s, .slice A ns.length c] 47 (0, 0)) ∧
  X.ownsRow B 3 1 (.slice A ns.length c) ns.length (ns.map (.int .i64))
theorem RI.stable {B : Nat} {ns : List Int} (v : Value) (X X' : World) (h : RI B ns v X) (hb : Below X.heap.size X X') : RI B ns v X' := by
  obtain ⟨A, c, h1, h2⟩ := h; exact ⟨A, c, h1, ownsRow_below h2 hb⟩
theorem RB.stable {B : Nat} {n : Int} {s : ByteArray} {ns : List Int} (v : Value) (X X' : World) (h : RB B n s ns v X) (hb : Below X.heap.size X X') : RB B n s ns v X' := by
  obtain ⟨A, c, h1, h2⟩ := h; exact ⟨A, c, h1, ownsRow_below h2 hb⟩
theorem RS.stable {B : Nat} {n : Int} {s : ByteArray} {ns : List Int} (v : Value) (X X' : World) (h : RS B n s ns v X) (hb : Below X.heap.size X X') : RS B n s ns v X' := by
  obtain ⟨b, A, c, h1, h2, h3, h4⟩ := h
  exact ⟨b, A, c, h1, h2, (hb.block b (Array.getElem?_eq_some_iff.1 h3).1).trans h3, ownsRow_below h4 hb⟩

theorem info_bv : (Tryd.prog.info? 47).map (fun i => (i.zero, i.size, i.bytes)) = some (some (.agg #[.int .i64 0, .string ⟨#[]⟩, .slice none 0 0]), 3, 48) := by kernel_rfl
theorem vcsV_snoc (l : List VC) (x : VC) : vcsV (l ++ [x]) = vcsV l ++ vcV x := by simp [vcsV]
set_option maxRecDepth 100000 in
set_option maxHeartbeats 1000000 in
theorem CopyValues_any (A : Option Addr) (c : Nat) (vs : List VC) (w : World) (hlen : vs.length ≤ 1000) (hr : Rd w w.heap.size A (vcsV vs)) (hv : ∀ x ∈ vs, VOk w w.heap.size x ∧ x.ns.length ≤ 1000000) :
    Calls Tryd.prog 9 #[.slice A vs.length c] w fun e w' =>
      ∃ A' c' vs', e = .returned (.slice A' vs'.length c') ∧ vs'.map dvOf = vs.map dvOf ∧ Rd w' w'.heap.size A' (vcsV vs') ∧ (∀ x ∈ vs', VOk w' w'.heap.size x) ∧ Below w.heap.size w w' := by
  obtain ⟨i0, hi, hz0, hz1, hz2⟩ := info_parts info_bv
  have HV := Lib.hid hv
  clear hv
  go_enter Tryd.func9, Tryd.ntmps9
  go_wp2
  go_loopw [3, 4] (fun v i wr => ∃ (k : Nat) (vs' : List VC), k ≤ vs.length ∧ i = .int .i64 k ∧ Below w.heap.size w wr ∧ vs'.map dvOf = (vs.take k).map dvOf ∧ wr.ownsRow w.heap.size 47 3 v k (vcsV vs') ∧ ∀ x ∈ vs', VIn wr v x) (fun _ i _ => vs.length - (intOf i).toNat)
  case atStart => exact ⟨0, [], Nat.zero_le _, rfl, Below.refl _ _, rfl, World.ownsRow_nil _ _ _ _, fun x hx => absurd hx (List.not_mem_nil)⟩
  case round =>
    obtain ⟨k, vs', hk, rfl, hb, hmap, hown, hin⟩ := hrel
    have hbs := hb.size
    by_cases hlt : k < vs.length
    · obtain ⟨b, o, rfl, hB, hc⟩ := (hr.below hb).opened (by rw [vcsV_length]; omega)
      obtain ⟨g0, g1, g2⟩ := vcsV_get vs k hlt
      have d0 : wr.cell? ⟨b, o + k * 3, none⟩ = _ := hc _ _ g0
      have d1 : wr.cell? ⟨b, o + k * 3 + 1, none⟩ = _ := hc _ _ g1
      have d2 : wr.cell? ⟨b, o + k * 3 + 1 + 1, none⟩ = _ := hc _ _ g2
      obtain ⟨⟨hs, hn, hrd⟩, hn6⟩ := HV.out vs[k] (List.getElem_mem hlt)
      have htk : (vs.take (k + 1)).map dvOf = (vs.take k).map dvOf ++ [dvOf vs[k]] := by rw [List.take_succ_eq_append_getElem hlt, List.map_append]; rfl
      obtain ⟨⟨n, s, Ax, cx, ns⟩, hx⟩ : ∃ x, x = vs[k] := ⟨_, rfl⟩
      rw [← hx] at d0 d1 d2 hs hn hrd hn6 htk
      dsimp only at d0 d1 d2 hs hn hrd hn6
      have hrd2 := (hrd.below hb).mono hbs
      have HM := Lib.hid hmap
      have HT := Lib.hid htk
      have HIN := Lib.hid hin
      have HR := Lib.hid hrd2
      have HOWN := Lib.hid hown
      have hbw : b < wr.heap.size := by omega
      unfold maxLen at hs hn
      clear hx g0 g1 g2 hc hmap htk hin hrd hrd2 hown
      go_wp2
      (refine wp_region_flow [false, false, false, false, false, false, false, false, false, false, false, false, false, false, false, false, true, true, true] [⟨16, [], RI wr.heap.size ns, false⟩, ⟨17, [16], RB wr.heap.size n s ns, false⟩, ⟨18, [17], RS wr.heap.size n s ns, false⟩] (by kernel_rfl) (by kernel_rfl) (by kernel_rfl) (by kernel_rfl) ?_; simp only [pick, List.length_cons, List.length_nil, List.drop_succ_cons, List.drop_zero, Nat.zero_add, Nat.reduceAdd]; apply Exists.intro; refine ⟨fun X hX => ?_, ?_⟩; (focus (obtain ⟨hcX, hfX⟩ := bcell hX; have hgX := regcell hX; have hsX := hX.size; (try simp only [World.size_alloc] at hsX); (repeat (go_big_quiet_step ((first | fail)))); exact wpQuiet_nil rfl)); simp only [wpND, told, toldAll, List.contains_cons, List.contains_nil, List.mem_cons, List.not_mem_nil, forall_eq_or_imp, false_implies, implies_true, and_true, Nat.reduceBEq, BEq.rfl, beq_self_eq_true, Bool.or_false, Bool.false_or, Bool.true_or, Bool.or_true, Bool.false_eq_true, if_true, if_false, true_implies, dstAt, List.getElem?_toArray, List.getElem?_cons_succ, List.getElem?_cons_zero, Option.some.injEq, forall_eq', Option.bind_some, Act.put, List.setIfInBounds_toArray, List.set_cons_succ, List.set_cons_zero])
      refine ⟨RI.stable, fun X hX => ?_, fun v1 => ⟨RB.stable, fun X hX hf => ?_, fun v2 => ⟨RS.stable, fun X hX hf => ?_, fun v3 X hX hf => ?_⟩⟩⟩
      · refine leaves_call (f := 27) (args := #[.slice Ax ns.length cx]) (by kernel_rfl) ?_
        refine (CopyInts_any Ax cx ns X hn6 (HR.out.below' hX)).mono ?_
        rintro e W1 ⟨v, rfl, ho, hb1⟩
        obtain ⟨A1, c1, rfl, _⟩ := ownsRow_form ho
        exact ⟨_, rfl, hb1, A1, c1, rfl, ownsRow_mono ho hX.size⟩
      · obtain ⟨A1, c1, rfl, ho1⟩ := hf
        exact leaves_pure (v := .agg #[.int .i64 n, .string s, .slice A1 ns.length c1]) (by kernel_rfl) ⟨A1, c1, rfl, ho1⟩
      · obtain ⟨A1, c1, rfl, ho1⟩ := hf
        exact leaves_alloc (v := .slice (some ⟨X.heap.size, 0, none⟩) 1 1) (obj := .cells #[.int .i64 n, .string s, .slice A1 ns.length c1] 47) (by kernel_rfl) ⟨X.heap.size, A1, c1, rfl, hX.size, heap_alloc_new _ _, ho1.alloc _⟩
      · obtain ⟨⟨b3, A3, c3, rfl, hb3, hx3, ho3⟩, _⟩ := hf
        have hmv := HOWN.out
        refine wpList_append_rd X rfl (.tmp 11) (.tmp 29) 23 rfl w.heap.size 47 i0 _ 3 48 Tryd.underlying23 hi hz0 hz1 hz2 rfl (by decide) _ k (vcsV vs') rfl (ownsRow_below hmv hX) X.heap.size (some ⟨b3, 0, none⟩) 1 1 [.int .i64 n, .string s, .slice A3 ns.length c3] rfl rfl (Rd.of_block hx3) (by intro u hu; simp at hu; rcases hu with rfl | rfl | rfl <;> rfl) (by unfold maxLen; omega) (by omega) (by have := hX.size; omega) ?_
        intro v' w1 hown1 hgrow hown hbel
        have hin1 : ∀ x ∈ vs' ++ [⟨n, s, A3, c3, ns⟩], VIn w1 v' x := fun x hx => by
          rcases List.mem_append.1 hx with hx | hx
          · exact ((HIN.out x hx).below hX).grown hgrow hown
          · obtain rfl := List.mem_singleton.1 hx
            refine ⟨by unfold maxLen; exact hs, by unfold maxLen; exact hn, RdA.grown (RdA.fresh (w := wr) (fun g hg => (HOWN.out.lt g hg).2) ho3) hgrow hown⟩
        have hown2 : w1.ownsRow w.heap.size 47 3 v' (k + 1) (vcsV (vs' ++ [⟨n, s, A3, c3, ns⟩])) := by rw [vcsV_snoc]; exact hown1
        have HIN1 := Lib.hid hin1
        have HOWN2 := Lib.hid hown2
        have hb1 : Below w.heap.size w w1 := (hb.trans (hX.mono hbs)).trans hbel
        clear hin1 hown2 hown1 hgrow hown hbel hmv
        go_wp2
        go_roundw
        case rel => exact ⟨k + 1, vs' ++ [⟨n, s, A3, c3, ns⟩], by omega, by go_num, hb1, by rw [HT.out, List.map_append, HM.out]; rfl, HOWN2.out, HIN1.out⟩
        case measure => simp [intOf]; omega
    · obtain rfl : k = vs.length := by omega
      obtain ⟨A', c', rfl, hrd⟩ := ownsRow_form hown
      have hl : vs'.length = vs.length := by have := congrArg List.length hmap; simpa using this
      rw [List.take_length] at hmap
      rw [← hl] at hown ⊢
      have HM := Lib.hid hmap
      have HIN := Lib.hid hin
      have HL := Lib.hid hl
      clear hmap hin hown
      go_wp2
      go_ret
      exact ⟨A', c', vs', rfl, HM.out, hrd, fun x hx => (HIN.out x hx).ok, hb⟩
end Go.Proofs.YtiomfkgbaemmkaaDoor
