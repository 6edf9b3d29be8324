/-
  Chapter 21: the law LogopOnce: its walk.
-/
import Derived.Test.YtgmipogidmcilaaDoorOpOnce
import Derived.Test.YtgmipogidmcilaaDoorWLopApp
namespace Go.Proofs.YtgmipogidmcilaaDoor
set_option linter.unusedVariables false
set_option linter.unusedSimpArgs false
open Go.RowKit Go.Sort

theorem u8_wf {d : Int} (h : (Lit.int .u8 d).wf = true) : 0 ≤ d ∧ d ≤ 255 := by
  simp [Lit.wf] at h
  have h1 : IntKind.u8.min = 0 := by decide
  have h2 : IntKind.u8.max = 255 := by decide
  rw [h1, h2] at h
  exact h
theorem info_str : (Tryd.prog.info? 9).map (fun i => (i.zero, i.size, i.bytes)) = some (some (.string ⟨#[]⟩), 1, 16) := by kernel_rfl
theorem rd_cells {w V : World} {b o : Nat} {l : List Op} (h : Rd w w.heap.size (some ⟨b, o, none⟩) (opsV l)) (hb : Below w.heap.size w V) (k : Nat) (hk : k < l.length) : OpCells V b (o + k * 6) l[k] :=
  op_cells_at (h.below hb) k hk
/-- what is behind the first half of a round: the page after the operation, an error, what is touched -/
def OncMid (w : World) (l : List Op) (k : Nat) (g : Nat → ByteArray) (Av : Option Addr) (cv : Nat) (x : Op) (lo hi nx er : Value) (W : World) : Prop :=
  ∃ (a b e : Int) (s : ByteArray), lo = .int .i64 a ∧ hi = .int .i64 b ∧ nx = .string s ∧ er = .int .i64 e ∧ Below w.heap.size w W ∧ W.ownsRow w.heap.size 9 1 (.slice Av k cv) k (pgsV g k) ∧ (e = 0 → opE x = 0 ∧ opFit (g k) x = true ∧ s = opDo (g k) x)

set_option maxRecDepth 100000 in
set_option maxHeartbeats 8000000 in
theorem wLogopOnce_main {w : World} (p : ByteArray) (A : Option Addr) (c : Nat) (l : List Op) (d : Int) (hps : p.size = 512) (hl : l.length ≤ 12) (hr0 : Rd w w.heap.size A (opsV l)) (hg : ∀ x ∈ l, OpMax x) (hd0 : 0 ≤ d) (hd1 : d ≤ 255) :
    Calls Tryd.prog 9 #[.string p, .slice A l.length c, .int .u8 d] w fun e w' => e = .returned (.bool true) ∧ Below w.heap.size w w' := by
  obtain ⟨i0, hi, hz0, hz1, hz2⟩ := info_parts info_str
  have HAW := Lib.hid awake21_any
  have hPE := fun W => PageErr_any p W (by unfold maxLen; omega)
  rw [pageE_zero.2 hps] at hPE
  have HPE := Lib.hid hPE
  have HW0 := Lib.hid (fun W => refWithLSN_any p 0 W hps (by omega) (by omega))
  have hst := Once.start (l := l) hps
  obtain ⟨P0, hP0⟩ : ∃ P0, P0 = wLsn p 0 := ⟨_, rfl⟩
  have hW0 := HW0.out
  rw [← hP0] at hW0 hst
  have HW0 := Lib.hid hW0
  have HST := Lib.hid hst
  have hP5 : P0.size = 512 := by rw [hP0]; exact lsnW_size hps
  have h12 : (l.length : Int) ≤ 12 := by omega
  have HR0 := Lib.hid hr0
  have HG := Lib.hid hg
  have HPS := Lib.hid hP5
  clear hr0 hg hPE hW0 hst hP0 hP5 hps
  go_enter Tryd.func9, Tryd.ntmps9
  go_wp2_with (first
    | (go_at_call 12; (with_reducible refine (HAW.out _).mono ?_); rintro e W1 ⟨rfl, hbW1⟩)
    | (go_at_call 19; (with_reducible refine (HPE.out _).mono ?_); rintro e w' ⟨rfl, rfl⟩)
    | (go_at_call 43; (with_reducible refine (HW0.out _).mono ?_); rintro e W2 ⟨rfl, hbW2⟩; have b0 := bel_trans hbW1 hbW2; clear hbW1 hbW2))
  go_loopw [7, 8, 9] (fun all v i wr => ∃ (k : Nat) (g : Nat → ByteArray), k ≤ l.length ∧ i = .int .i64 k ∧ all = .string (g k) ∧ Below w.heap.size w wr ∧ wr.ownsRow w.heap.size 9 1 v k (pgsV g k) ∧ g 0 = P0 ∧ Once l k g ∧ ∀ j (h : j < l.length), j < k → l[j].o.size ≤ 600 ∧ l[j].n.size ≤ 600) (fun _ _ i _ => l.length - (intOf i).toNat)
  case atStart => exact ⟨0, fun _ => P0, Nat.zero_le _, rfl, rfl, b0, World.ownsRow_nil _ _ _ _, rfl, HST.out, fun j h hj => absurd hj (Nat.not_lt_zero _)⟩
  case round =>
    obtain ⟨k, g, hk, rfl, rfl, hb, hown, hg0, honce, hsh⟩ := hrel
    have HG0 := Lib.hid hg0
    have HON := Lib.hid honce
    have HSH := Lib.hid hsh
    obtain ⟨Av, cv, rfl, hrv⟩ := ownsRow_form hown
    clear hg0 honce hsh hrv b0 HST HAW HPE HW0
    by_cases hlt : k < l.length
    · obtain ⟨b, o, rfl, hB, _⟩ := op_cells HR0.out (by omega)
      have hbs := hb.size
      have hBr : b < wr.heap.size := by omega
      have hxc := fun V (h : Below w.heap.size w V) => rd_cells HR0.out h k hlt
      have hmx := HG.out l[k] (List.getElem_mem hlt)
      have hnext := fun h1 h2 => HON.out.next hlt h1 h2 (by omega)
      obtain ⟨x, hx⟩ : ∃ x, x = l[k] := ⟨_, rfl⟩
      rw [← hx] at hxc hmx hnext
      have hlt' : (k : Int) < l.length := by omega
      have HXC := Lib.hid hxc
      have HNX := Lib.hid hnext
      have HX := Lib.hid hx
      have HMX := Lib.hid hmx
      have HGS := Lib.hid (HON.out.size k (Nat.le_refl _))
      clear hxc hnext hx hmx hk
      obtain ⟨c0, c1, c2, c3, c4, c5⟩ := HXC.out _ hb
      by_cases hs : x.o.size ≤ 600 ∧ x.n.size ≤ 600
      · have hS := fun W => short_any x W HMX.out.1 HMX.out.2
        rw [short_yes hs] at hS
        unfold opV at hS
        have HS := Lib.hid hS
        have HSS := Lib.hid hs
        clear hS hs
        have hE := fun W => refOpErr_any x W (by have := HSS.out; omega) (by have := HSS.out; omega)
        have hY := fun W => Try_any (g k) x W HGS.out (by have := HSS.out; omega) (by have := HSS.out; omega)
        by_cases z1 : opE x = 0
        · have hok := (opE_iff x).1 z1
          have hT := fun W => reftch_any x W hok
          rw [z1] at hE
          obtain ⟨⟨lo, hi'⟩, hlh⟩ : ∃ t, t = opTch x := ⟨_, rfl⟩
          rw [← hlh] at hT
          dsimp only at hT
          unfold opV at hE hT hY
          have HE := Lib.hid hE
          have HT := Lib.hid hT
          by_cases z2 : opFit (g k) x = true
          · have et : opTry (g k) x = (opDo (g k) x, 0) := by unfold opTry; rw [if_neg (fun h => h z1), if_pos z2]
            rw [et] at hY
            dsimp only at hY
            have HY := Lib.hid hY
            have hW := fun W => refWithLSN_any (opDo (g k) x) ((k : Int) + 1) W (opDo_size HGS.out hok) (by omega) (by omega)
            obtain ⟨nx, hnxx⟩ : ∃ n, n = wLsn (opDo (g k) x) ((k : Int) + 1) := ⟨_, rfl⟩
            rw [← hnxx] at hW
            have HNXX := Lib.hid hnxx
            have HW := Lib.hid hW
            have HN2 := Lib.hid (HNX.out z1 z2)
            have f1 : k + 1 ≤ maxLen := by unfold maxLen; omega
            have f2 : (k + 1) * 16 ≤ 140737488355328 := by omega
            clear hE hT hY hW et z1 z2 hok hlh hnxx
            by_cases gg : lo < 12 ∧ 8 < hi'
            · obtain ⟨g1, g2⟩ := gg
              go_wp2_with (first | (go_at_call 14; (with_reducible refine (HS.out _).mono ?_); rintro e V1 ⟨rfl, hV1⟩; have b1 := bel_trans hb hV1; have ow1 := ownsRow_below hown hV1; obtain ⟨cv10, cv11, cv12, cv13, cv14, cv15⟩ := HXC.out _ b1; clear hV1) | (go_at_call 23; (with_reducible refine (HE.out _).mono ?_); rintro e V2 ⟨rfl, hV2⟩; have b2 := bel_trans b1 hV2; have ow2 := ownsRow_below ow1 hV2; obtain ⟨cv20, cv21, cv22, cv23, cv24, cv25⟩ := HXC.out _ b2; clear hV2) | (go_at_call 44; (with_reducible refine (HT.out _).mono ?_); rintro e V3 ⟨rfl, hV3⟩; have b3 := bel_trans b2 hV3; have ow3 := ownsRow_below ow2 hV3; obtain ⟨cv30, cv31, cv32, cv33, cv34, cv35⟩ := HXC.out _ b3; clear hV3) | (go_at_call 20; (with_reducible refine (HY.out _).mono ?_); rintro e V4 ⟨rfl, hV4⟩; have b4 := bel_trans b3 hV4; have ow4 := ownsRow_below ow3 hV4; clear hV4))
              go_ret
              exact ⟨rfl, b4⟩
            · obtain ⟨G, hG⟩ : ∃ G, G = decide (lo < 12) := ⟨_, rfl⟩
              cases G
              · have g1 : 12 ≤ lo := by have := hG.symm; rw [decide_eq_false_iff_not] at this; omega
                clear gg hG
                go_wp2_with (first | (go_at_call 14; (with_reducible refine (HS.out _).mono ?_); rintro e V1 ⟨rfl, hV1⟩; have b1 := bel_trans hb hV1; have ow1 := ownsRow_below hown hV1; obtain ⟨cv10, cv11, cv12, cv13, cv14, cv15⟩ := HXC.out _ b1; clear hV1) | (go_at_call 23; (with_reducible refine (HE.out _).mono ?_); rintro e V2 ⟨rfl, hV2⟩; have b2 := bel_trans b1 hV2; have ow2 := ownsRow_below ow1 hV2; obtain ⟨cv20, cv21, cv22, cv23, cv24, cv25⟩ := HXC.out _ b2; clear hV2) | (go_at_call 44; (with_reducible refine (HT.out _).mono ?_); rintro e V3 ⟨rfl, hV3⟩; have b3 := bel_trans b2 hV3; have ow3 := ownsRow_below ow2 hV3; obtain ⟨cv30, cv31, cv32, cv33, cv34, cv35⟩ := HXC.out _ b3; clear hV3) | (go_at_call 20; (with_reducible refine (HY.out _).mono ?_); rintro e V4 ⟨rfl, hV4⟩; have b4 := bel_trans b3 hV4; have ow4 := ownsRow_below ow3 hV4; clear hV4) | (at_builtin; refine wpList_push _ rfl (.tmp 86) (.tmp 88) 77 rfl w.heap.size 9 i0 _ 1 16 [.string (g k)] Tryd.underlying77 hi hz0 hz1 hz2 rfl (by decide) (.slice Av k cv) _ _ rfl ow4 _ rfl rfl rfl (by intro u hu; simp at hu; rw [hu]; rfl) f1 f2 b4.size ?_; intro v5 V5 ow5 hk5 hs5 hb5 hv5 be5; have b5 := b4.trans be5; clear hk5 hs5 hb5 hv5 be5) | (go_at_call 43; (with_reducible refine (HW.out _).mono ?_); rintro e V6 ⟨rfl, hV6⟩; have b6 := bel_trans b5 hV6; have ow6 := ownsRow_below ow5 hV6; clear hV6))
                go_roundw
                case rel =>
                  refine ⟨k + 1, fun j => if j ≤ k then g j else wLsn (opDo (g k) l[k]) ((k + 1 : Nat) : Int), by omega, by go_num, ?_, b6, ?_, ?_, ?_, ?_⟩
                  · dsimp only; rw [if_neg (by omega), HNXX.out, HX.out]; rfl
                  · rw [pgsV_snoc, pgsV_congr (g := fun j => if j ≤ k then g j else wLsn (opDo (g k) l[k]) ((k + 1 : Nat) : Int)) (g' := g) (fun j hj => by show (if j ≤ k then g j else _) = g j; rw [if_pos (by omega)])]
                    rw [if_pos (Nat.le_refl k)]
                    exact ow6
                  · dsimp only; rw [if_pos (Nat.zero_le _)]; exact HG0.out
                  · have := HN2.out
                    rw [HX.out] at this
                    exact this
                  · intro j h hj
                    by_cases hjk : j < k
                    · exact HSH.out j h hjk
                    · obtain rfl : j = k := by omega
                      rw [← HX.out]; exact HSS.out
                case measure => simp [intOf]; omega
              · have g1 : lo < 12 := by have := hG.symm; rw [decide_eq_true_eq] at this; exact this
                have g2 : hi' ≤ 8 := by omega
                clear gg hG
                go_wp2_with (first | (go_at_call 14; (with_reducible refine (HS.out _).mono ?_); rintro e V1 ⟨rfl, hV1⟩; have b1 := bel_trans hb hV1; have ow1 := ownsRow_below hown hV1; obtain ⟨cv10, cv11, cv12, cv13, cv14, cv15⟩ := HXC.out _ b1; clear hV1) | (go_at_call 23; (with_reducible refine (HE.out _).mono ?_); rintro e V2 ⟨rfl, hV2⟩; have b2 := bel_trans b1 hV2; have ow2 := ownsRow_below ow1 hV2; obtain ⟨cv20, cv21, cv22, cv23, cv24, cv25⟩ := HXC.out _ b2; clear hV2) | (go_at_call 44; (with_reducible refine (HT.out _).mono ?_); rintro e V3 ⟨rfl, hV3⟩; have b3 := bel_trans b2 hV3; have ow3 := ownsRow_below ow2 hV3; obtain ⟨cv30, cv31, cv32, cv33, cv34, cv35⟩ := HXC.out _ b3; clear hV3) | (go_at_call 20; (with_reducible refine (HY.out _).mono ?_); rintro e V4 ⟨rfl, hV4⟩; have b4 := bel_trans b3 hV4; have ow4 := ownsRow_below ow3 hV4; clear hV4) | (at_builtin; refine wpList_push _ rfl (.tmp 86) (.tmp 88) 77 rfl w.heap.size 9 i0 _ 1 16 [.string (g k)] Tryd.underlying77 hi hz0 hz1 hz2 rfl (by decide) (.slice Av k cv) _ _ rfl ow4 _ rfl rfl rfl (by intro u hu; simp at hu; rw [hu]; rfl) f1 f2 b4.size ?_; intro v5 V5 ow5 hk5 hs5 hb5 hv5 be5; have b5 := b4.trans be5; clear hk5 hs5 hb5 hv5 be5) | (go_at_call 43; (with_reducible refine (HW.out _).mono ?_); rintro e V6 ⟨rfl, hV6⟩; have b6 := bel_trans b5 hV6; have ow6 := ownsRow_below ow5 hV6; clear hV6))
                go_roundw
                case rel =>
                  refine ⟨k + 1, fun j => if j ≤ k then g j else wLsn (opDo (g k) l[k]) ((k + 1 : Nat) : Int), by omega, by go_num, ?_, b6, ?_, ?_, ?_, ?_⟩
                  · dsimp only; rw [if_neg (by omega), HNXX.out, HX.out]; rfl
                  · rw [pgsV_snoc, pgsV_congr (g := fun j => if j ≤ k then g j else wLsn (opDo (g k) l[k]) ((k + 1 : Nat) : Int)) (g' := g) (fun j hj => by show (if j ≤ k then g j else _) = g j; rw [if_pos (by omega)])]
                    rw [if_pos (Nat.le_refl k)]
                    exact ow6
                  · dsimp only; rw [if_pos (Nat.zero_le _)]; exact HG0.out
                  · have := HN2.out
                    rw [HX.out] at this
                    exact this
                  · intro j h hj
                    by_cases hjk : j < k
                    · exact HSH.out j h hjk
                    · obtain rfl : j = k := by omega
                      rw [← HX.out]; exact HSS.out
                case measure => simp [intOf]; omega
          · have et : opTry (g k) x = (⟨#[]⟩, 13) := by unfold opTry; rw [if_neg (fun h => h z1), if_neg z2]
            rw [et] at hY
            dsimp only at hY
            have HY := Lib.hid hY
            clear hE hT hY et z1 z2 hok hlh
            go_wp2_with (first | (go_at_call 14; (with_reducible refine (HS.out _).mono ?_); rintro e V1 ⟨rfl, hV1⟩; have b1 := bel_trans hb hV1; have ow1 := ownsRow_below hown hV1; obtain ⟨cv10, cv11, cv12, cv13, cv14, cv15⟩ := HXC.out _ b1; clear hV1) | (go_at_call 23; (with_reducible refine (HE.out _).mono ?_); rintro e V2 ⟨rfl, hV2⟩; have b2 := bel_trans b1 hV2; have ow2 := ownsRow_below ow1 hV2; obtain ⟨cv20, cv21, cv22, cv23, cv24, cv25⟩ := HXC.out _ b2; clear hV2) | (go_at_call 44; (with_reducible refine (HT.out _).mono ?_); rintro e V3 ⟨rfl, hV3⟩; have b3 := bel_trans b2 hV3; have ow3 := ownsRow_below ow2 hV3; obtain ⟨cv30, cv31, cv32, cv33, cv34, cv35⟩ := HXC.out _ b3; clear hV3) | (go_at_call 20; (with_reducible refine (HY.out _).mono ?_); rintro e V4 ⟨rfl, hV4⟩; have b4 := bel_trans b3 hV4; have ow4 := ownsRow_below ow3 hV4; clear hV4))
            go_ret
            exact ⟨rfl, b4⟩
        · have et : opTry (g k) x = (⟨#[]⟩, opE x) := by unfold opTry; rw [if_pos z1]
          rw [et] at hY
          dsimp only at hY
          obtain ⟨er, her⟩ : ∃ e, e = opE x := ⟨_, rfl⟩
          rw [← her] at hY hE z1
          unfold opV at hY hE
          have hz1' : (er == 0) = false := by rw [beq_eq_false_iff_ne]; exact z1
          have hz2' : (er != 0) = true := by simp [z1]
          have HE := Lib.hid hE
          have HY := Lib.hid hY
          clear hE hY et z1 her
          go_wp2_with (first | (go_at_call 14; (with_reducible refine (HS.out _).mono ?_); rintro e V1 ⟨rfl, hV1⟩; have b1 := bel_trans hb hV1; have ow1 := ownsRow_below hown hV1; obtain ⟨cv10, cv11, cv12, cv13, cv14, cv15⟩ := HXC.out _ b1; clear hV1) | (go_at_call 23; (with_reducible refine (HE.out _).mono ?_); rintro e V2 ⟨rfl, hV2⟩; have b2 := bel_trans b1 hV2; have ow2 := ownsRow_below ow1 hV2; obtain ⟨cv20, cv21, cv22, cv23, cv24, cv25⟩ := HXC.out _ b2; clear hV2) | (go_at_call 20; (with_reducible refine (HY.out _).mono ?_); rintro e V4 ⟨rfl, hV4⟩; have b4 := bel_trans b2 hV4; have ow4 := ownsRow_below ow2 hV4; clear hV4))
          go_ret
          exact ⟨rfl, b4⟩
      · have hS := fun W => short_any x W HMX.out.1 HMX.out.2
        rw [short_no hs] at hS
        unfold opV at hS
        have HS := Lib.hid hS
        clear hS hs
        go_wp2_with (first | (go_at_call 14; (with_reducible refine (HS.out _).mono ?_); rintro e V1 ⟨rfl, hV1⟩; have b1 := bel_trans hb hV1; have ow1 := ownsRow_below hown hV1; obtain ⟨cv10, cv11, cv12, cv13, cv14, cv15⟩ := HXC.out _ b1; clear hV1))
        go_ret
        exact ⟨rfl, b1⟩
    · obtain rfl : k = l.length := by omega
      have f1 : l.length + 1 ≤ maxLen := by unfold maxLen; omega
      have f2 : (l.length + 1) * 16 ≤ 140737488355328 := by omega
      obtain ⟨m, hm⟩ : ∃ m, m = d.toNat % (l.length + 1) := ⟨_, rfl⟩
      have hmlt : m < l.length + 1 := by rw [hm]; exact Nat.mod_lt _ (by omega)
      have hrem : Int.tmod d ((l.length : Int) + 1) = (m : Int) := by
        obtain ⟨D, rfl⟩ := Int.eq_ofNat_of_zero_le hd0
        rw [hm]
        exact_mod_cast Int.tmod_eq_emod_of_nonneg (a := (D : Int)) (b := ((l.length + 1 : Nat) : Int)) (by omega)
      have hmI : (m : Int) < (l.length : Int) + 1 := by omega
      have HREM := Lib.hid hrem
      have ow4 := hown
      have b4 := hb
      clear hm hrem hlt hk
      go_upto_region 21 with (fail)
      go_wp2_with (first | (at_builtin; refine wpList_push _ rfl (.tmp 94) (.tmp 96) 77 rfl w.heap.size 9 i0 _ 1 16 [.string (g l.length)] Tryd.underlying77 hi hz0 hz1 hz2 rfl (by decide) (.slice Av l.length cv) _ _ rfl ow4 _ rfl rfl rfl (by intro u hu; simp at hu; rw [hu]; rfl) f1 f2 b4.size ?_; intro v5 V5 ow5 hk5 hs5 hb5 hv5 be5; have b5 := b4.trans be5; rw [← pgsV_snoc] at ow5; obtain ⟨Aw, cw, rfl, rw5⟩ := ownsRow_form ow5; obtain ⟨bp, op, rfl, hBp, hcp⟩ := rw5.opened (by unfold pgsV; simp); have hcm := hcp m _ (pgsV_get g (l.length + 1) m hmlt); clear hk5 hs5 hb5 hv5 be5 ow5 rw5 hcp; have hrem := HREM.out))
      clear hcm hrem HREM
      have HMM : m ≤ l.length := by omega
      go_loopw [14, 15] (fun at' i wr => ∃ k : Nat, k ≤ l.length ∧ i = .int .i64 k ∧ at' = .string (g (max k m)) ∧ Below w.heap.size w wr) (fun _ i _ => l.length - (intOf i).toNat)
      case atStart => exact ⟨0, Nat.zero_le _, rfl, by rw [Nat.zero_max], b5⟩
      case round =>
        obtain ⟨k, hk, rfl, rfl, hb2⟩ := hrel
        clear hb hown ow4 b4 b5 f1 f2 hBp hmlt hmI
        by_cases hlt : k < l.length
        · obtain ⟨b, o, rfl, hB, _⟩ := op_cells HR0.out (by omega)
          have hbs := hb2.size
          have hBr : b < wr.heap.size := by omega
          obtain ⟨bb, hre⟩ := HON.out.redo (by omega) k m hlt HMM
          have hxc := rd_cells HR0.out hb2 k hlt
          have hsz := HSH.out k hlt hlt
          have hg5 := HON.out.size (max k m) (by omega)
          have hRd := fun W => Redone_any (g (max k m)) false ((k : Int) + 1) l[k] W (by unfold maxLen; omega) (by omega) (by omega)
          rw [hre] at hRd
          obtain ⟨x, hx⟩ : ∃ x, x = l[k] := ⟨_, rfl⟩
          rw [← hx] at hxc hRd
          dsimp only at hRd
          unfold opV at hRd
          have HRd := Lib.hid hRd
          have hlt' : (k : Int) < l.length := by omega
          obtain ⟨c0, c1, c2, c3, c4, c5⟩ := hxc
          clear hRd hre hsz hg5 hx
          go_wp2_with (first | (go_at_call 37; (with_reducible refine (HRd.out _).mono ?_); rintro e V1 ⟨rfl, hV1⟩; have b6 := bel_trans hb2 hV1))
          go_roundw
          case rel => exact ⟨k + 1, by omega, by go_num, rfl, b6⟩
          case measure => simp [intOf]; omega
        · obtain rfl : k = l.length := by omega
          rw [show max l.length m = l.length by omega]
          have hs2 := HON.out.size l.length (Nat.le_refl _)
          obtain ⟨gn, hgn⟩ : ∃ q, q = g l.length := ⟨_, rfl⟩
          rw [← hgn] at hs2
          rw [← hgn]
          have hBO := fun W => Between_ok P0 gn W HPS.out hs2
          have hLl : (between P0 gn).length ≤ 513 := betL_length P0 gn 513 0
          have hsho := between_short HPS.out hs2
          have hall := fun h => between_opAll HPS.out hs2 h
          have hapi : ∀ L, L = between P0 gn → ∀ (i k : Nat) (hi : i < L.length) (hk : k < i), apI L[i] (L[k]'(by omega)) = true ∧ firstE [opE L[i], opE (L[k]'(by omega))] = 0 := fun L h => by
            subst h; intro i k hi hk; exact between_apI HPS.out hs2 i k hi hk
          have hmem : ∀ L, L = between P0 gn → ∀ (i : Nat) (hi : i < L.length), opOK L[i] ∧ L[i].o.size ≤ 200 ∧ L[i].n.size ≤ 200 := fun L h => by
            subst h; intro i hi; exact between_mem HPS.out hs2 (List.getElem_mem hi)
          obtain ⟨L, hL⟩ : ∃ L, L = between P0 gn := ⟨_, rfl⟩
          rw [← hL] at hBO hLl hsho hall
          have HBO := Lib.hid hBO
          have HSHO := Lib.hid hsho
          have HALL := Lib.hid hall
          have HAPI := Lib.hid (hapi L hL)
          have HMEM := Lib.hid (hmem L hL)
          have HP5 : P0.size ≤ maxLen := by have := HPS.out; unfold maxLen; omega
          clear hBO hsho hall hapi hmem hL hs2 hgn hlt hk HON HSH HG0 HMM
          by_cases h64 : L.length ≤ 64
          · have h64' : (L.length : Int) ≤ 64 := by omega
            have HAA := Lib.hid (fun A c W hr => AppliedAll_any P0 A c L W HP5 (by omega) HSHO.out hr)
            have haa := HAA.out
            rw [HALL.out h64] at haa
            dsimp only at haa
            have HAA := Lib.hid haa
            clear haa
            go_wp2_with (first | (go_at_call 25; (with_reducible refine (HBO.out _).mono ?_); rintro e V2 ⟨A2, c2, rfl, r2, hV2⟩; have b7 := bel_trans hb2 hV2; clear hV2))
            go_loopw [21] (fun i wr => ∃ k : Nat, k ≤ L.length ∧ i = .int .i64 k ∧ Below w.heap.size w wr ∧ Rd wr wr.heap.size A2 (opsV L)) (fun i _ => L.length - (intOf i).toNat)
            case atStart => exact ⟨0, Nat.zero_le _, rfl, b7, r2⟩
            case round =>
              obtain ⟨k, hk, rfl, b8, r8⟩ := hrel
              clear hb2 b7 r2
              by_cases hlt : k < L.length
              · have hlt' : (k : Int) < L.length := by omega
                go_wp2
                go_loopw [22] (fun i wi => ∃ k2 : Nat, k2 ≤ k ∧ i = .int .i64 k2 ∧ Below w.heap.size w wi ∧ Rd wi wi.heap.size A2 (opsV L)) (fun i _ => k - (intOf i).toNat)
                case atStart => exact ⟨0, Nat.zero_le _, rfl, b8, r8⟩
                case round =>
                  obtain ⟨k2, hk2, rfl, b9, r9⟩ := hrel
                  clear b8 r8
                  by_cases hlt2 : k2 < k
                  · have hlt2' : (k2 : Int) < k := by omega
                    have hlt3' : (k2 : Int) < L.length := by omega
                    obtain ⟨b, o, rfl, hB, hc⟩ := op_cells r9 (by omega)
                    obtain ⟨c0, c1, c2, c3, c4, c5⟩ := hc k hlt
                    obtain ⟨d0, d1, d2, d3, d4, d5⟩ := hc k2 (by omega)
                    have hmx := HMEM.out k hlt
                    have hmy := HMEM.out k2 (by omega)
                    have hap := HAPI.out k k2 hlt hlt2
                    obtain ⟨x, hx⟩ : ∃ x, x = L[k] := ⟨_, rfl⟩
                    obtain ⟨y, hy⟩ : ∃ y, y = L[k2]'(by omega) := ⟨_, rfl⟩
                    rw [← hx] at c0 c1 c2 c3 c4 c5 hmx hap
                    rw [← hy] at d0 d1 d2 d3 d4 d5 hmy hap
                    have hAp := fun W => Apart_any x y W ⟨by omega, by omega⟩ ⟨by omega, by omega⟩
                    rw [hap.1, hap.2] at hAp
                    unfold opV at hAp
                    have HAP := Lib.hid hAp
                    clear hAp hap hmx hmy hx hy hc
                    go_wp2_with fail
                    (refine wp_region_quiet_below (by kernel_rfl) (by kernel_rfl) ?_; (repeat (go_big_quiet_step ((first | (go_at_call 28; (with_reducible exact Calls.regrown_of (HAP.out _))))))); (with_reducible refine wpQuiet_nil ?_); intro V3 hreg; have hbV3 := below_of_reg hreg; clear hreg; obtain ⟨hcV3, hfV3⟩ := bcell hbV3)
                    go_wp2
                    go_roundw
                    case rel => exact ⟨k2 + 1, by omega, by go_num, bel_trans b9 hbV3, r9.below' hbV3⟩
                    case measure => simp [intOf]; omega
                  · obtain rfl : k2 = k := by omega
                    go_wp2
                    go_roundw
                    case rel => exact ⟨k2 + 1, by omega, by go_num, b9, r9⟩
                    case measure => simp [intOf]; omega
              · obtain rfl : k = L.length := by omega
                have hk1 : L.length ≤ 1000 := by omega
                go_wp2_with (first | (go_at_call 16; (with_reducible refine (CopyOps_rd A2 _ L wr hk1 r8).mono ?_); rintro e V4 ⟨A4, c4, rfl, r4, hV4⟩; have b10 := bel_trans b8 hV4; clear hV4) | (go_at_call 15; (with_reducible refine (HAA.out A4 c4 V4 r4).mono ?_); rintro e V5 ⟨rfl, hV5⟩; have b11 := bel_trans b10 hV5; clear hV5))
                go_ret
                exact ⟨rfl, b11⟩
          · have h64' : (64 : Int) < L.length := by omega
            go_wp2_with (first | (go_at_call 25; (with_reducible refine (HBO.out _).mono ?_); rintro e V2 ⟨A2, c2, rfl, r2, hV2⟩; have b7 := bel_trans hb2 hV2; clear hV2))
            go_ret
            exact ⟨rfl, b7⟩

set_option maxRecDepth 100000 in
set_option maxHeartbeats 4000000 in
theorem wLogopOnce {w : World} (p : ByteArray) (hp : p.size ≤ maxLen) (A : Option Addr) (c : Nat) (l : List Op) (hlm : l.length ≤ maxLen) (hr0 : Rd w w.heap.size A (opsV l)) (hg : ∀ x ∈ l, OpMax x) (d : Int) (hd : (Lit.int .u8 d).wf = true) :
    Calls Tryd.prog 9 #[.string p, .slice A l.length c, .int .u8 d] w fun e w' => e = .returned (.bool true) ∧ Below w.heap.size w w' := by
  have HAW := Lib.hid awake21_any
  have hPE := fun W => PageErr_any p W hp
  by_cases z1 : pageE p = 0
  · by_cases h : l.length ≤ 12
    · exact wLogopOnce_main p A c l d (pageE_zero.1 z1) h hr0 hg (u8_wf hd).1 (u8_wf hd).2
    · rw [z1] at hPE
      have HPE := Lib.hid hPE
      have h' : (12 : Int) < l.length := by omega
      unfold maxLen at hlm
      clear hPE z1 h hr0 hg hd
      go_enter Tryd.func9, Tryd.ntmps9
      go_wp2_with (first
        | (go_at_call 12; (with_reducible refine (HAW.out _).mono ?_); rintro e W1 ⟨rfl, hbW1⟩)
        | (go_at_call 19; (with_reducible refine (HPE.out _).mono ?_); rintro e w' ⟨rfl, rfl⟩))
      go_ret
      exact ⟨rfl, hbW1⟩
  · obtain ⟨e4, he4⟩ : ∃ e, e = pageE p := ⟨_, rfl⟩
    rw [← he4] at hPE z1
    have hz4 : (e4 != 0) = true := by simp [z1]
    have HPE := Lib.hid hPE
    clear hPE z1 he4 hr0 hg hd
    go_enter Tryd.func9, Tryd.ntmps9
    go_wp2_with (first
      | (go_at_call 12; (with_reducible refine (HAW.out _).mono ?_); rintro e W1 ⟨rfl, hbW1⟩)
      | (go_at_call 19; (with_reducible refine (HPE.out _).mono ?_); rintro e w' ⟨rfl, rfl⟩))
    go_ret
    exact ⟨rfl, hbW1⟩
end Go.Proofs.YtgmipogidmcilaaDoor
