/-
  Chapter 21: the first patch between two pages.
-/
import Derived.Test.YtgmipogidmcilaaDoorOpPage3
import Derived.Test.YtgmipogidmcilaaDoorOp5
namespace Go.Proofs.YtgmipogidmcilaaDoor
set_option linter.unusedVariables false
set_option linter.unusedSimpArgs false
open Go.RowKit Go.Sort

theorem results_cell_tmp2 {P : Program} {fn : Func} {p q r : Tmp} {ty : TypeId} (h : fn.results = #[.cell p ty, .tmp q, .tmp r]) (tmps : Array Value) (w : World) (g : Nat) (t : TypeId) (cs : Array Value) (d : TypeDesc) (u v : Value)
    (hp : tmps.getD p undef = .pointer (some ⟨g, 0, none⟩)) (hq : tmps.getD q undef = u) (hr : tmps.getD r undef = v) (hg : Box w g cs t)
    (hu : P.underlying ty = some d) (hd : (match d with | .struct _ | .array _ _ => true | _ => false) = true) (hi : (P.info? ty).map (·.size) = some cs.size) :
    (results fn tmps).run P w = .ok (.tuple #[.agg cs, u, v]) w := by
  have hp' : tmps[p]?.getD undef = .pointer (some ⟨g, 0, none⟩) := by simpa using hp
  have hq' : tmps[q]?.getD undef = u := by simpa using hq
  have hr' : tmps[r]?.getD undef = v := by simpa using hr
  simp [results, h, hp', hq', hr', asAddr, run_loadVar_row w g t ty cs (0, 0) d hg hu hd hi]

theorem dif_get (a b : ByteArray) (k : Nat) (ha : k < a.size) (hb : k < b.size) : ((a[k].toNat : Int) == (b[k].toNat : Int)) = !dif a b k ∧ ((a[k].toNat : Int) != (b[k].toNat : Int)) = dif a b k := by
  have e1 : (bl a).getD k 0 = a[k] := by rw [getD_get, List.getElem?_eq_getElem (by rw [bl_length]; exact ha)]; rfl
  have e2 : (bl b).getD k 0 = b[k] := by rw [getD_get, List.getElem?_eq_getElem (by rw [bl_length]; exact hb)]; rfl
  have e3 : ((a[k].toNat : Int) == (b[k].toNat : Int)) = (a[k] == b[k]) := by
    rw [intBeq, Bool.eq_iff_iff, beq_iff_eq, beq_iff_eq]; exact UInt8.toNat_inj
  unfold dif
  rw [e1, e2]
  refine ⟨by rw [e3, bne, Bool.not_not], by unfold bne; rw [e3]⟩

theorem drewN_two (w : World) (n m : Nat) : (w.drewN n).drewN m = w.drewN (n + m) := by unfold World.drewN; simp [Nat.add_assoc]
def opZ : Array Value := #[.int .i64 0, .int .i64 0, .int .i64 0, .int .i64 0, .string ⟨#[]⟩, .string ⟨#[]⟩]
set_option maxRecDepth 100000 in
set_option maxHeartbeats 1000000 in
theorem patch_any (a b : ByteArray) (k0 : Nat) (w : World) (ha : a.size = 512) (hb : b.size = 512) (hk0 : k0 ≤ 512) :
    Calls Tryd.prog 63 #[.string a, .string b, .int .i64 k0] w fun r w' =>
      r = .returned (if patSkip a b k0 = 512 then .tuple #[opV op0, .int .i64 512, .bool false] else .tuple #[opV (patOp a b (patSkip a b k0) (patEnd a b (patSkip a b k0))), .int .i64 (patEnd a b (patSkip a b k0)), .bool true]) ∧ Below w.heap.size w w' := by
  have HA := Lib.hid ha
  have HB := Lib.hid hb
  have hal : (a.size : Int) ≤ 512 := by omega
  have hbl : (b.size : Int) ≤ 512 := by omega
  have hag : (512 : Int) ≤ a.size := by omega
  clear ha hb
  obtain ⟨R, hR⟩ : ∃ R, R = (if patSkip a b k0 = 512 then Value.tuple #[opV op0, .int .i64 512, .bool false] else .tuple #[opV (patOp a b (patSkip a b k0) (patEnd a b (patSkip a b k0))), .int .i64 (patEnd a b (patSkip a b k0)), .bool true]) := ⟨_, rfl⟩
  rw [← hR]
  have HR := Lib.hid hR
  clear hR
  go_enter Tryd.func63, Tryd.ntmps63
  go_wp2
  go_loopw [2] (fun t wr => ∃ (k nd : Nat), k ≤ 512 ∧ t = .int .i64 k ∧ wr = (w.alloc (.cells #[.int .i64 0, .int .i64 0, .int .i64 0, .int .i64 0, .string ⟨#[]⟩, .string ⟨#[]⟩] 27)).drewN nd ∧ patSkip a b k0 = patSkip a b k) (fun t _ => 512 - (intOf t).toNat)
  case atStart => exact ⟨k0, 0, hk0, rfl, rfl, rfl⟩
  case round =>
    obtain ⟨k, nd, hk, rfl, rfl, hp⟩ := hrel
    have HP := Lib.hid hp
    clear hp
    by_cases hlt : k < 512
    · have hka : k < a.size := by have := HA.out; omega
      have hkb : k < b.size := by have := HB.out; omega
      have hka' : (k : Int) < a.size := by omega
      have hkb' : (k : Int) < b.size := by omega
      obtain ⟨d, hd⟩ : ∃ d, d = dif a b k := ⟨_, rfl⟩
      obtain ⟨d1, _⟩ := dif_get a b k hka hkb
      rw [← hd] at d1
      have HD := Lib.hid hd
      clear hd
      cases d
      · have d1 : ((a[k].toNat : Int) == (b[k].toNat : Int)) = true := d1
        go_wp2
        go_quiet (fail)
        go_wp2
        go_roundw
        case rel => exact ⟨k + 1, nd + nq, by omega, by go_num, rfl, HP.out.trans (patSkip_same hlt HD.out.symm)⟩
        case measure => simp [intOf]; omega
      · have d1 : ((a[k].toNat : Int) == (b[k].toNat : Int)) = false := d1
        have hne : ((k : Int) == (a.size : Int)) = false := by
          rw [beq_eq_false_iff_ne]; omega
        have hps : patSkip a b k0 = k := HP.out.trans (patSkip_dif hlt HD.out.symm)
        have HPS := Lib.hid hps
        obtain ⟨lim, hlim⟩ : ∃ lim, lim = patLim k := ⟨_, rfl⟩
        have hl1 : lim ≤ 512 := by rw [hlim]; unfold patLim; omega
        have hl2 : lim ≤ k + 200 := by rw [hlim]; unfold patLim; omega
        have hl3 : ¬ (lim < 512 ∧ lim < k + 200) := by rw [hlim]; unfold patLim; omega
        have hl4 : k + 1 ≤ lim := by rw [hlim]; unfold patLim; omega
        have HLIM := Lib.hid hlim
        clear hlim hps
        go_wp2
        go_quiet (fail)
        go_wp2
        go_loopw [9, 10] (fun se si wr => ∃ (e i nd2 : Nat), k + 1 ≤ e ∧ e ≤ i ∧ i ≤ lim ∧ se = .int .i64 e ∧ si = .int .i64 i ∧ wr = (w.alloc (.cells #[.int .i64 0, .int .i64 0, .int .i64 0, .int .i64 0, .string ⟨#[]⟩, .string ⟨#[]⟩] 27)).drewN nd2 ∧ patEnd a b k = endAt a b lim (lim - i) i e) (fun _ si _ => 512 - (intOf si).toNat)
        case atStart => exact ⟨k + 1, k + 1, nd + nq, Nat.le_refl _, Nat.le_refl _, hl4, by go_num, by go_num, rfl, by rw [HLIM.out]; rfl⟩
        case round =>
          obtain ⟨e, i, nd2, he1, he2, hi1, rfl, rfl, rfl, hend⟩ := hrel
          have HE := Lib.hid hend
          clear hend d1 hne
          by_cases hc : i < lim ∧ i < e + 4
          · obtain ⟨hc1, hc2⟩ := hc
            have hia : i < a.size := by have := HA.out; omega
            have hib : i < b.size := by have := HB.out; omega
            have hia' : (i : Int) < a.size := by omega
            have hib' : (i : Int) < b.size := by omega
            obtain ⟨d, hd⟩ : ∃ d, d = dif a b i := ⟨_, rfl⟩
            obtain ⟨_, d2⟩ := dif_get a b i hia hib
            rw [← hd] at d2
            have hgo := endAt_go (a := a) (b := b) ⟨hc1, hc2⟩
            rw [← hd] at hgo
            have HGO := Lib.hid hgo
            have hmin1 : (i : Int) < (a.size : Int) := hia'
            have hmin2 : (i : Int) < (k : Int) + 200 := by omega
            clear hd hgo
            cases d
            · go_wp2
              go_quiet (fail)
              go_wp2
              go_roundw
              case rel => exact ⟨e, i + 1, nd2 + nq, he1, by omega, by omega, rfl, by go_num, rfl, HE.out.trans HGO.out⟩
              case measure => simp [intOf]; omega
            · go_wp2
              go_quiet (fail)
              go_wp2
              go_roundw
              case rel => exact ⟨i + 1, i + 1, nd2 + nq, by omega, Nat.le_refl _, by omega, by go_num, by go_num, rfl, HE.out.trans HGO.out⟩
              case measure => simp [intOf]; omega
          · have hstop := endAt_stop (a := a) (b := b) hc (lim - i)
            have hpe : patEnd a b k = e := HE.out.trans hstop
            have HPE := Lib.hid hpe
            have hea : (e : Int) ≤ a.size := by omega
            have heb : (e : Int) ≤ b.size := by have := HB.out; omega
            clear hstop hpe
            have hbx : Box ((w.alloc (.cells #[.int .i64 0, .int .i64 0, .int .i64 0, .int .i64 0, .string ⟨#[]⟩, .string ⟨#[]⟩] 27)).drewN nd2) w.heap.size #[.int .i64 0, .int .i64 0, .int .i64 0, .int .i64 0, .string ⟨#[]⟩, .string ⟨#[]⟩] 27 := Box.new w _ _
            have hbw : Below w.heap.size w ((w.alloc (.cells #[.int .i64 0, .int .i64 0, .int .i64 0, .int .i64 0, .string ⟨#[]⟩, .string ⟨#[]⟩] 27)).drewN nd2) := bel_drewN (bel_alloc (Below.refl _ _) _) _
            have HBX := Lib.hid hbx
            clear hbx
            have hres : R = .tuple #[opV (patOp a b k e), .int .i64 e, .bool true] := by
              rw [HR.out, HPS.out, HPE.out, if_neg (by omega)]
            by_cases hcl : i < lim
            · have hc4 : e + 4 ≤ i := by omega
              have hmin1 : (i : Int) < (a.size : Int) := by omega
              have hmin2 : (i : Int) < (k : Int) + 200 := by omega
              go_wp2
              go_region
              go_wp2
              refine bodyPost_ret (results_cell_tmp2 Tryd.results63 _ _ w.heap.size 27 #[.int .i64 1, .int .i64 k, .int .i64 0, .int .i64 0, .string (a.extract k e), .string (b.extract k e)] _ _ _ rfl rfl rfl ?_ Tryd.underlying27 rfl (by kernel_rfl)) rfl ⟨by rw [hres]; rfl, ?_⟩
              · exact ((((((Box.new w _ _ : Box ((w.alloc (.cells #[.int .i64 0, .int .i64 0, .int .i64 0, .int .i64 0, .string ⟨#[]⟩, .string ⟨#[]⟩] 27)).drewN (nd2 + 1)) w.heap.size _ _).setCell 0 _).setCell 1 _).setCell 2 _).setCell 3 _).setCell 4 _).setCell 5 _
              · exact (((((((bel_drewN (bel_alloc (Below.refl _ _) _) _).setCell (Nat.le_refl _) _).setCell (Nat.le_refl _) _).setCell (Nat.le_refl _) _).setCell (Nat.le_refl _) _).setCell (Nat.le_refl _) _).setCell (Nat.le_refl _) _)
            · go_wp2
              go_region
              go_wp2
              refine bodyPost_ret (results_cell_tmp2 Tryd.results63 _ _ w.heap.size 27 #[.int .i64 1, .int .i64 k, .int .i64 0, .int .i64 0, .string (a.extract k e), .string (b.extract k e)] _ _ _ rfl rfl rfl ?_ Tryd.underlying27 rfl (by kernel_rfl)) rfl ⟨by rw [hres]; rfl, ?_⟩
              · exact ((((((Box.new w _ _ : Box ((w.alloc (.cells #[.int .i64 0, .int .i64 0, .int .i64 0, .int .i64 0, .string ⟨#[]⟩, .string ⟨#[]⟩] 27)).drewN (nd2 + 1)) w.heap.size _ _).setCell 0 _).setCell 1 _).setCell 2 _).setCell 3 _).setCell 4 _).setCell 5 _
              · exact (((((((bel_drewN (bel_alloc (Below.refl _ _) _) _).setCell (Nat.le_refl _) _).setCell (Nat.le_refl _) _).setCell (Nat.le_refl _) _).setCell (Nat.le_refl _) _).setCell (Nat.le_refl _) _).setCell (Nat.le_refl _) _)
    · have hk5 : k = 512 := by omega
      have hge : (a.size : Int) ≤ (k : Int) := by omega
      have hdec : decide ((k : Int) < (a.size : Int)) = false := by rw [decide_eq_false_iff_not]; omega
      have hdec2 : decide (k < a.size) = false := by rw [decide_eq_false_iff_not]; omega
      have heq : ((k : Int) == (a.size : Int)) = true := by rw [beq_iff_eq]; omega
      have hres : R = .tuple #[opV op0, .int .i64 k, .bool false] := by
        rw [HR.out, if_pos (by rw [HP.out, hk5]; rfl), hk5]; rfl
      have hbx : Box ((w.alloc (.cells #[.int .i64 0, .int .i64 0, .int .i64 0, .int .i64 0, .string ⟨#[]⟩, .string ⟨#[]⟩] 27)).drewN nd) w.heap.size #[.int .i64 0, .int .i64 0, .int .i64 0, .int .i64 0, .string ⟨#[]⟩, .string ⟨#[]⟩] 27 := Box.new w _ _
      have HBX := Lib.hid hbx
      have HRES := Lib.hid hres
      clear hbx hres hk5 hlt
      go_wp2
      go_quiet (fail)
      have hblk : Box ((w.alloc (.cells #[.int .i64 0, .int .i64 0, .int .i64 0, .int .i64 0, .string ⟨#[]⟩, .string ⟨#[]⟩] 27)).drewN (nd + nq)) w.heap.size #[.int .i64 0, .int .i64 0, .int .i64 0, .int .i64 0, .string ⟨#[]⟩, .string ⟨#[]⟩] 27 := Box.new w _ _
      have hbel : Below w.heap.size w ((w.alloc (.cells #[.int .i64 0, .int .i64 0, .int .i64 0, .int .i64 0, .string ⟨#[]⟩, .string ⟨#[]⟩] 27)).drewN (nd + nq)) := bel_drewN (bel_alloc (Below.refl _ _) _) _
      go_wp2_with (refine wpList_store_new rfl 27 (.tmp 6) (.tmp 30) rfl rfl w.heap.size #[.int .i64 0, .int .i64 0, .int .i64 0, .int .i64 0, .string ⟨#[]⟩, .string ⟨#[]⟩] rfl rfl w hbel (Nat.le_refl _) 27 _ hblk (by kernel_rfl) (by kernel_rfl) (by kernel_rfl) ?_; intro W3 hb3 hbox3 _)
      exact bodyPost_ret (results_cell_tmp2 Tryd.results63 _ W3 w.heap.size 27 _ _ _ _ rfl rfl rfl hbox3 Tryd.underlying27 rfl (by kernel_rfl)) rfl ⟨by rw [HRES.out]; rfl, hb3⟩
end Go.Proofs.YtgmipogidmcilaaDoor
