/-
  Chapter 1: strings.Lines: its iterator keeps what is left in a cell.
-/
import Derived.Test.YtiomfkgbaemmkaaRange
import Derived.Test.YtiomfkgbaemmkaaDump4
namespace Go.Proofs.Ytiomfkgbaemmkaa
set_option linter.unusedVariables false
set_option linter.unusedSimpArgs false
open Go.RowKit Go.Shelf Go.Sort
attribute [local go_sem] Oper.semAt_some wide_fn wide_depth

theorem index_spec (d : UInt8) : ∀ l : List UInt8, (Lib.indexByte l d = -1 ∧ ∀ c ∈ l, c ≠ d) ∨ ∃ i : Nat, Lib.indexByte l d = i ∧ i < l.length ∧ l = l.take i ++ d :: l.drop (i + 1) ∧ ∀ c ∈ l.take i, c ≠ d
  | [] => .inl ⟨rfl, by simp⟩
  | c :: l => by
    unfold Lib.indexByte
    by_cases h : c = d
    · subst h
      exact .inr ⟨0, by simp, by simp, by simp, by simp⟩
    · rw [if_neg (by simpa using h)]
      rcases index_spec d l with ⟨h1, h2⟩ | ⟨i, h1, h2, h3, h4⟩
      · exact .inl ⟨by rw [h1]; rfl, by simpa using ⟨h, h2⟩⟩
      · refine .inr ⟨i + 1, ?_, by simp; omega, ?_, by simpa using ⟨h, h4⟩⟩
        · rw [h1, if_neg (by rw [beq_iff_eq]; omega)]; omega
        · simp only [List.take_succ_cons, List.drop_succ_cons, List.cons_append]
          rw [← h3]
theorem lines_at (d : UInt8) (l : List UInt8) (i : Nat) (h : l = l.take i ++ d :: l.drop (i + 1)) (hi : i < l.length) (hne : ∀ c ∈ l.take i, c ≠ d) : linesAt d l = l.take (i + 1) :: linesAt d (l.drop (i + 1)) := by
  have e : l.take (i + 1) = l.take i ++ [d] := by
    have : l.drop i = d :: l.drop (i + 1) := List.append_cancel_left ((List.take_append_drop i l).trans h)
    rw [List.take_add, this]; rfl
  rw [e]
  conv => lhs; rw [h]
  rw [linesAt_app d _ _ hne]
def linesS (s : ByteArray) : List ByteArray := (linesAt 10 (bl s)).map bs
theorem linesS_hit (R : ByteArray) (i : Nat) (h : bl R = (bl R).take i ++ 10 :: (bl R).drop (i + 1)) (hi : i < (bl R).length) (hne : ∀ c ∈ (bl R).take i, c ≠ 10) : linesS R = R.extract 0 (i + 1) :: linesS (R.extract (i + 1) R.size) := by
  unfold linesS
  rw [lines_at 10 _ i h hi hne, List.map_cons]
  have e1 : bs ((bl R).take (i + 1)) = R.extract 0 (i + 1) := bl_inj (by rw [bl_bs, bl_extract, List.drop_zero])
  have e2 : bl (R.extract (i + 1) R.size) = (bl R).drop (i + 1) := by rw [bl_extract, ← bl_length, List.take_length]
  rw [e1, e2]
theorem linesS_miss (R : ByteArray) (h : ∀ c ∈ bl R, c ≠ 10) (h0 : 0 < R.size) : linesS R = [R] := by
  unfold linesS
  rw [linesAt_none 10 _ h (fun e => by rw [← bl_length, e] at h0; simp at h0)]
  rfl

theorem Lines_any (s : ByteArray) (w : World) :
    Calls Try.prog 64 #[.string s] w fun e w' => e = .returned (.func (.func 81) #[] #[.pointer (some ⟨w.heap.size, 0, none⟩)]) ∧ w' = w.alloc (.cells #[.string s] 9) := by
  have hmf : ∀ (fn : Fn) (first cap : Array Value) (w : World), (Instr.makeFunc fn first cap).run Try.prog w = .ok (.func fn first cap) w := fun _ _ _ _ => rfl
  go_enter Try.func64, Try.ntmps64
  go_wp2
  go_ret
  exact ⟨rfl, rfl⟩

/-- how much is left -/
def leftS (bi : Nat) (w : World) : Nat := match w.cell? ⟨bi, 0, none⟩ with | some (.string R) => R.size | _ => 0
theorem leftS_eq {bi : Nat} {w : World} {R : ByteArray} (h : w.cell? ⟨bi, 0, none⟩ = some (.string R)) : leftS bi w = R.size := by unfold leftS; rw [h]

set_option maxHeartbeats 2000000 in
theorem lines_seq (n bi : Nat) (s : ByteArray) (hs : s.size ≤ 1000000) : SeqCell n Try.prog 81 #[.pointer (some ⟨bi, 0, none⟩)] (fun x : ByteArray => #[.string x]) bi (.string s) (linesS s) := by
  intro l J W hcell hfr hJs hJb hY h0
  refine callsIn_of_wp Try.func81 rfl trivial ?_ rfl
  simp only [Try.ntmps81, List.size_toArray, List.length_cons, List.length_nil, Nat.reduceAdd, Nat.reduceSub, Array.replicate_succ, Array.replicate_zero, List.push_toArray, List.append_toArray, List.nil_append, List.cons_append]
  gi_wp2
  gi_loopw [3] (fun _ wr => ∃ (pre : List ByteArray) (R : ByteArray), R.size ≤ 1000000 ∧ linesS s = pre ++ linesS R ∧ wr.cell? ⟨bi, 0, none⟩ = some (.string R) ∧ wr.frozen? ⟨bi, 0, none⟩ = false ∧ J pre wr) (fun _ wr => leftS bi wr)
  case atStart => exact ⟨[], s, hs, rfl, hcell, hfr, h0⟩
  case round =>
    obtain ⟨pre, R, hR, hl, hc, hf, hJ⟩ := hrel
    clear hcell hfr h0
    by_cases hz : 0 < R.size
    · rcases index_spec 10 (bl R) with ⟨h1, h2⟩ | ⟨i, h1, h2, h3, h4⟩
      · have hl2 := linesS_miss R h2 hz
        have HI := Lib.hid (((Try.strings_IndexByte R 10 wr).mono (R' := fun e w' => e = .returned (.int .i64 (-1)) ∧ wr = w') (fun e w' ⟨a, b⟩ => ⟨by rw [a]; exact congrArg (fun z => Ending.returned (.int .i64 z)) h1, b.symm⟩)))
        have HL := Lib.hid hl
        have HL2 := Lib.hid hl2
        obtain ⟨fn, tmps, assign, body, hy, hR'⟩ := hY pre R [] (wr.setCell ⟨bi, 0, none⟩ (.string ⟨#[]⟩)) (by rw [hl, hl2]) (hJs _ _ _ hJ)
        clear hY hl hl2 h1 h2
        gi_wp2
        gi_at_call 82
        refine (callsIn_wide.2 HI.out).mono ?_
        rintro e w' ⟨rfl, rfl⟩
        gi_wp2
        refine hR'.mono ?_
        rintro e W3 ⟨rfl, hJ3, hb3⟩
        have hc3 : W3.cell? ⟨bi, 0, none⟩ = some (.string ⟨#[]⟩) := (World.cell?_of_block (a := ⟨bi, 0, none⟩) hb3).trans (World.cell?_setCell_same' _ _ _ (by rw [hc]; rfl))
        have hf3 : W3.frozen? ⟨bi, 0, none⟩ = false := by
          have : (wr.setCell ⟨bi, 0, none⟩ (.string ⟨#[]⟩)).frozen? ⟨bi, 0, none⟩ = false := by rw [World.frozen?_setCell]; exact hf
          unfold World.frozen? at this ⊢; rw [hb3]; exact this
        gi_wp2
        go_roundw
        case rel => exact ⟨pre ++ [R], ⟨#[]⟩, by show 0 ≤ _; omega, by rw [HL.out, HL2.out, show linesS ⟨#[]⟩ = [] from rfl, List.append_nil], hc3, hf3, hJ3⟩
        case measure => rw [leftS_eq hc3, leftS_eq hc]; exact hz
      · have hl2 := linesS_hit R i h3 h2 h4
        have hi : (i : Int) + 1 ≤ R.size := by rw [bl_length] at h2; omega
        have HI := Lib.hid (((Try.strings_IndexByte R 10 wr).mono (R' := fun e w' => e = .returned (.int .i64 i) ∧ wr = w') (fun e w' ⟨a, b⟩ => ⟨by rw [a]; exact congrArg (fun z => Ending.returned (.int .i64 z)) h1, b.symm⟩)))
        have HL := Lib.hid hl
        have HL2 := Lib.hid hl2
        have HY := Lib.hid (fun X (hX : Below wr.heap.size wr X) (hJ' : J pre X) => hY pre (R.extract 0 (i + 1)) (linesS (R.extract (i + 1) R.size)) (X.setCell ⟨bi, 0, none⟩ (.string (R.extract (i + 1) R.size))) (by rw [hl, hl2]) (hJs _ _ _ hJ'))
        clear hY hl hl2 h1 h2 h3 h4
        gi_wp2_with (gi_at_call 82; refine (callsIn_wide.2 HI.out).mono ?_; rintro e w' ⟨rfl, rfl⟩)
        have hbi : bi < wr.heap.size := block_lt_of_cell hc
        (refine wpIn_region_flowV [false, false, false, false, false, false, false, false, false] [] (by kernel_rfl) (by kernel_rfl) (by kernel_rfl) ?_; simp only [pick, List.length_cons, List.length_nil, List.drop_succ_cons, List.drop_zero, Nat.zero_add, Nat.reduceAdd]; apply Exists.intro; refine ⟨fun X hX => ?_, ?_⟩; (focus (obtain ⟨hcX, hfX⟩ := bcell hX; have hgX := regcell hX; have hsX := hX.size; (try simp only [World.size_alloc] at hsX); (repeat (go_big_quiet_step ((first | fail)))); exact wpQuiet_nil rfl)); simp only [wpND, told, toldAll, List.contains_cons, List.contains_nil, List.mem_cons, List.not_mem_nil, forall_eq_or_imp, false_implies, implies_true, and_true, Nat.reduceBEq, BEq.rfl, beq_self_eq_true, Bool.or_false, Bool.false_or, Bool.true_or, Bool.or_true, Bool.false_eq_true, if_true, if_false, true_implies, dstAt, List.getElem?_toArray, List.getElem?_cons_succ, List.getElem?_cons_zero, Option.some.injEq, forall_eq', Option.bind_some, Act.put, List.setIfInBounds_toArray, List.set_cons_succ, List.set_cons_zero])
        intro X hX
        have hJX := hJb _ _ _ hJ hX
        have hcX : X.cell? ⟨bi, 0, none⟩ = some (.string R) := (hX.cell (p := ⟨bi, 0, none⟩) hbi).trans hc
        have hfX : X.frozen? ⟨bi, 0, none⟩ = false := (hX.frozen (p := ⟨bi, 0, none⟩) hbi).trans hf
        obtain ⟨fn, tmps, assign, body, hy, hR'⟩ := HY.out X hX hJX
        obtain ⟨R2, hR2⟩ : ∃ R2, R2 = R.extract (i + 1) R.size := ⟨_, rfl⟩
        have hR2s : R2.size < R.size := by rw [hR2, ByteArray.size_extract]; omega
        rw [← hR2] at hy hR' HL2
        have hR2e := hR2.symm
        clear hR2
        go_wp2
        gi_wp2
        refine hR'.mono ?_
        rintro e W3 ⟨rfl, hJ3, hb3⟩
        have hc3 : W3.cell? ⟨bi, 0, none⟩ = some (.string R2) := (World.cell?_of_block (a := ⟨bi, 0, none⟩) hb3).trans (World.cell?_setCell_same' _ _ _ (by rw [hcX]; rfl))
        have hf3 : W3.frozen? ⟨bi, 0, none⟩ = false := by
          have : (X.setCell ⟨bi, 0, none⟩ (.string R2)).frozen? ⟨bi, 0, none⟩ = false := by rw [World.frozen?_setCell]; exact hfX
          unfold World.frozen? at this ⊢; rw [hb3]; exact this
        gi_wp2
        go_roundw
        case rel => exact ⟨pre ++ [R.extract 0 (i + 1)], R2, by omega, by rw [HL.out, HL2.out, List.append_assoc]; rfl, hc3, hf3, hJ3⟩
        case measure => rw [leftS_eq hc3, leftS_eq hc]; exact hR2s
    · gi_wp2
      go_end0
      have hz0 : R.size = 0 := by omega
      refine ⟨⟨_, rfl⟩, ?_⟩
      rw [hl, show linesS R = [] by unfold linesS; rw [show bl R = [] from List.eq_nil_of_length_eq_zero (by rw [bl_length]; exact hz0)]; rfl, List.append_nil]
      exact hJ
end Go.Proofs.Ytiomfkgbaemmkaa
