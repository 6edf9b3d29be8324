/-
  Chapter 1: the reference's ParseDump.
-/
import Derived.Test.YtiomfkgbaemmkaaDump6
namespace Go.Proofs.Ytiomfkgbaemmkaa
set_option linter.unusedVariables false
set_option linter.unusedSimpArgs false
open Go.RowKit Go.Sort

def outR (P : List (List UInt8)) (k : Nat) : List UInt8 := (P.take k).flatMap fun l => tripN 16 (l.drop 5)
theorem outR_succ (P : List (List UInt8)) (k : Nat) (h : k < P.length) : outR P (k + 1) = outR P k ++ tripN 16 (P[k].drop 5) := by
  unfold outR; rw [List.take_succ_eq_append_getElem h, List.flatMap_append]; simp
theorem tripN_len : ∀ (k : Nat) (l : List UInt8), (tripN k l).length ≤ k
  | 0, _ => by simp [tripN]
  | k + 1, [] => by simp [tripN]
  | k + 1, [_] => by simp [tripN]
  | k + 1, [_, _] => by simp [tripN]
  | k + 1, a :: b :: c :: r => by
    unfold tripN
    split
    · split
      · have := tripN_len k r; simp; omega
      · simp
    · simp
theorem outR_len (P : List (List UInt8)) : ∀ k, (outR P k).length ≤ 16 * k
  | 0 => by simp [outR]
  | k + 1 => by
    by_cases h : k < P.length
    · rw [outR_succ P k h, List.length_append]
      have := outR_len P k
      have := tripN_len 16 (P[k].drop 5)
      omega
    · have := outR_len P k
      unfold outR at this ⊢
      rw [List.take_of_length_le (by omega)] at this ⊢
      omega
def StrV (S : ByteArray) (v : Value) (X : World) : Prop := v = .string S
theorem StrV.stable {S : ByteArray} (v : Value) (X X' : World) (h : StrV S v X) (hb : Below X.heap.size X X') : StrV S v X' := h
theorem leaves_pure' {P : Program} {R : Value → World → Prop} {X : World} {s : Sem Next} {v : Value} (h : s.run P X = .ok (.value v) X) (hR : R v X) : LeavesR P R X (s.run P X) := by
  rw [h]; exact ⟨Below.refl _ _, hR⟩

set_option maxRecDepth 100000 in
set_option maxHeartbeats 4000000 in
theorem refParseDump_any (s : ByteArray) (w : World) (hs : s.size ≤ 2000) :
    Calls Try.prog 39 #[.string s] w fun e w' => e = .returned (.tuple #[.string (bs (parsed (parseR (bl s)) (bl s)).1), .int .i64 (parsed (parseR (bl s)) (bl s)).2]) ∧ Below w.heap.size w w' := by
  obtain ⟨i0, hi, hz0, hz1, hz2⟩ := info_parts info_byte
  obtain ⟨rs, rn, hpr⟩ : ∃ rs rn, parsed (parseR (bl s)) (bl s) = (rs, rn) := ⟨_, _, rfl⟩
  rw [hpr]
  have HPR := Lib.hid hpr
  clear hpr
  have hse : strE s = 0 := strE_zero.2 (by omega)
  have hse' : (strE s != 0) = false := by rw [hse]; rfl
  obtain ⟨P, hP⟩ : ∃ P, P = cutAt 10 (bl s) := ⟨_, rfl⟩
  have hPl : P.length ≤ 2001 := by rw [hP]; have := cutAt_len 10 (bl s); rw [bl_length] at this; omega
  have hP0 : 0 < P.length := by rw [hP]; exact List.length_pos_iff.2 (cutAt_ne _ _)
  have hPe : ∀ p ∈ P, p.length ≤ 2000 := fun p hp => by rw [hP] at hp; have := cutAt_each 10 (bl s) p hp; rw [bl_length] at this; omega
  have HCUT := Lib.hid (baseCut_any s 10 w (by omega))
  rw [← hP] at HCUT
  have HP := Lib.hid hP
  have HPE := Lib.hid hPe
  clear hP hPe
  go_enter Try.func39, Try.ntmps39
  go_wp2_with (first | (go_at_call 55; refine (StringErr_any _ _ (by unfold maxLen; omega)).mono ?_; rintro e w' ⟨rfl, rfl⟩) | (go_at_call 67; refine HCUT.out.mono ?_; rintro e W1 ⟨⟨A, c, rfl, hown⟩, hb1⟩))
  have HOWN := Lib.hid hown
  clear hown HCUT
  go_loopw [6, 8] (fun out i wr => ∃ (k : Nat) (O : ByteArray), k + 1 ≤ P.length ∧ i = .int .i64 k ∧ out = .string O ∧ bl O = outR P k ∧ Below W1.heap.size W1 wr) (fun _ i _ => P.length - (intOf i).toNat)
  case atStart => exact ⟨0, ⟨#[]⟩, by omega, rfl, rfl, rfl, Below.refl _ _⟩
  case round =>
    obtain ⟨k, O, hk, rfl, rfl, hO, hb⟩ := hrel
    have hOs : O.size ≤ 16 * k := by rw [← bl_length, hO]; exact outR_len P k
    by_cases hlt : k + 1 < P.length
    · have hlt' : (k : Int) < (P.length : Int) - 1 := by omega
      obtain ⟨L, hL⟩ : ∃ L, L = P[k] := ⟨_, rfl⟩
      have hLs : L.length ≤ 2000 := by rw [hL]; exact HPE.out _ (List.getElem_mem _)
      have hrd : Rd wr wr.heap.size A (strsV P) := (Rd.of_own HOWN.out).below' hb
      obtain ⟨b, o, rfl, hB, hc⟩ := hrd.opened (by unfold strsV; rw [List.length_map]; omega)
      have hcl : wr.cell? ⟨b, o + k, none⟩ = some (.string (bs L)) := hc k _ (by unfold strsV; rw [List.getElem?_map, List.getElem?_eq_getElem (by omega), hL]; rfl)
      obtain ⟨S, hS⟩ : ∃ S, S = bs L := ⟨_, rfl⟩
      rw [← hS] at hcl
      have hSs : S.size = L.length := by rw [hS, bs_size]
      have hSb : bl S = L := by rw [hS, bl_bs]
      have HO := Lib.hid hO
      have HL := Lib.hid hL
      have HSB := Lib.hid hSb
      have HCL := Lib.hid (fun X (h : Below wr.heap.size wr X) => (h.cell (p := ⟨b, o + k, none⟩) hB).trans hcl)
      have HBB := Lib.hid (fun X (h : Below wr.heap.size wr X) => bel_trans hb h)
      clear hO hL hS hSb hrd hc
      go_wp2
      go_loopw [6, 9, 10] (fun out at' tk wr2 => ∃ (t a : Nat) (O2 : ByteArray), t ≤ 16 ∧ tk = .int .i64 t ∧ at' = .int .i64 (a : Int) ∧ a = 5 + 3 * t ∧ out = .string O2 ∧ O2.size ≤ 16 * k + t ∧ bl O2 ++ tripN (16 - t) (L.drop a) = outR P k ++ tripN 16 (L.drop 5) ∧ Below wr.heap.size wr wr2) (fun _ _ tk _ => 17 - (intOf tk).toNat)
      case atStart => exact ⟨0, 5, O, by omega, rfl, rfl, rfl, rfl, by omega, by rw [HO.out], Below.refl _ _⟩
      case round =>
        obtain ⟨t, a, O2, ht, rfl, rfl, ha, rfl, hO2s, hO2, hb2⟩ := hrel
        have hOk := outR_succ P k (by omega)
        have hLk := HL.out
        rw [← hLk] at hOk
        have FIN := Lib.hid (fun (h : tripN (16 - t) (L.drop a) = []) => show bl O2 = outR P (k + 1) by rw [h, List.append_nil] at hO2; rw [hO2, hOk])
        have HO2 := Lib.hid hO2
        have HOK := Lib.hid hOk
        have hcl2 := HCL.out _ hb2
        have ha2 : a ≤ 53 := by omega
        have HA := Lib.hid ha
        clear hO2 hOk hLk ha
        by_cases ht16 : t < 16
        · obtain ⟨n1, hn1⟩ : ∃ n1, 16 - t = n1 + 1 := ⟨15 - t, by omega⟩
          by_cases h3 : a + 3 ≤ S.size
          · obtain ⟨x, y, z, r, hd⟩ : ∃ x y z r, L.drop a = x :: y :: z :: r := by
              have h4 : 2 < (L.drop a).length := by rw [List.length_drop]; omega
              match hm : L.drop a with
              | [] => rw [hm] at h4; simp at h4
              | [_] => rw [hm] at h4; simp at h4
              | [_, _] => rw [hm] at h4; simp at h4
              | x :: y :: z :: r => exact ⟨x, y, z, r, rfl⟩
            have at0 : ∀ j u, (L.drop a)[j]? = some u → ∀ h, S[a + j]'h = u := fun j u hj h => by
              rw [List.getElem?_drop] at hj
              have : (bl S)[a + j]? = some u := by rw [HSB.out]; exact hj
              rw [List.getElem?_eq_getElem (by rw [bl_length]; exact h)] at this
              injection this
            have g0 : ∀ h, S[a]'h = x := at0 0 x (by rw [hd]; rfl)
            have g1 : ∀ h, S[a + 1]'h = y := at0 1 y (by rw [hd]; rfl)
            have g2 : ∀ h, S[a + 2]'h = z := at0 2 z (by rw [hd]; rfl)
            have hdr : L.drop (a + 3) = r := by rw [← List.drop_drop, hd]; rfl
            have HD := Lib.hid hd
            have HDR := Lib.hid hdr
            have HN1 := Lib.hid hn1
            clear at0 hd hdr hn1
            by_cases hx : x = 32
            · subst hx
              rcases digI_some y with ⟨hy1, hy2⟩ | ⟨ny, hy0, hy1, hy2⟩
              · have HT := Lib.hid (show tripN (16 - t) (L.drop a) = [] by rw [HN1.out, HD.out]; unfold tripN; rw [if_pos rfl, hy2])
                clear hy2
                go_wp2_with (go_at_call 68; refine (refdigit_any _ _).mono ?_; rintro e w' ⟨rfl, rfl⟩)
                go_roundw
                case rel => exact ⟨k + 1, O2, by omega, by go_num, rfl, FIN.out HT.out, HBB.out _ hb2⟩
                case measure => simp [intOf]; omega
              · rcases digI_some z with ⟨hz1, hz2⟩ | ⟨nz, hz0, hz1, hz2⟩
                · have HT := Lib.hid (show tripN (16 - t) (L.drop a) = [] by rw [HN1.out, HD.out]; unfold tripN; rw [if_pos rfl, hy2, hz2])
                  clear hy2 hz2
                  go_wp2_with (go_at_call 68; refine (refdigit_any _ _).mono ?_; rintro e w' ⟨rfl, rfl⟩)
                  go_roundw
                  case rel => exact ⟨k + 1, O2, by omega, by go_num, rfl, FIN.out HT.out, HBB.out _ hb2⟩
                  case measure => simp [intOf]; omega
                · obtain ⟨D, hD⟩ : ∃ D, D = UInt8.ofNat (16 * ny + nz) := ⟨_, rfl⟩
                  have HT := Lib.hid (show tripN (16 - t) (L.drop a) = D :: tripN n1 r by rw [HN1.out, HD.out, hD]; simp only [tripN, if_true, hy2, hz2])
                  clear hy2 hz2
                  have HD1 := Lib.hid (fun W => (refdigit_any y W).mono (R' := fun e w' => e = .returned (.int .i64 ny) ∧ W = w') (fun e w' ⟨p1, p2⟩ => ⟨by rw [p1, hy1], p2⟩))
                  have HD2 := Lib.hid (fun W => (refdigit_any z W).mono (R' := fun e w' => e = .returned (.int .i64 nz) ∧ W = w') (fun e w' ⟨p1, p2⟩ => ⟨by rw [p1, hz1], p2⟩))
                  clear hy1 hz1
                  have hDm : (D.toNat : Int) = 16 * (ny : Int) + nz := by rw [hD, UInt8.toNat_ofNat']; omega
                  have hy15 : ny ≤ 15 := by omega
                  have hz15 : nz ≤ 15 := by omega
                  have HDM := Lib.hid hDm
                  clear hDm hD
                  go_wp2_with (first | (go_at_call 68; (with_reducible refine (HD1.out _).mono ?_); rintro e w' ⟨rfl, rfl⟩) | (go_at_call 68; (with_reducible refine (HD2.out _).mono ?_); rintro e w' ⟨rfl, rfl⟩))
                  have hbw : b < wr.heap.size := by have := hb2.size; omega
                  (refine wp_region_flow [false, false, false, false, false, false, false, false, false, false, false, false, false, false, false, false, false, false, false, false, true, true] [⟨20, [], OneB wr.heap.size D, false⟩, ⟨21, [20], StrV (bs [D]), false⟩] (by kernel_rfl) (by kernel_rfl) (by kernel_rfl) (by kernel_rfl) ?_; simp only [pick, List.length_cons, List.length_nil, List.drop_succ_cons, List.drop_zero, Nat.zero_add, Nat.reduceAdd]; apply Exists.intro; refine ⟨fun X hX => ?_, ?_⟩; (focus (obtain ⟨hcX, hfX⟩ := bcell hX; have hgX := regcell hX; have hsX := hX.size; (try simp only [World.size_alloc] at hsX); (repeat (go_big_quiet_step ((first | (go_at_call 68; (with_reducible exact Calls.reg_pure (HD1.out _))) | (go_at_call 68; (with_reducible exact Calls.reg_pure (HD2.out _))))))); exact wpQuiet_nil rfl)); simp only [wpND, told, toldAll, List.contains_cons, List.contains_nil, List.mem_cons, List.not_mem_nil, forall_eq_or_imp, false_implies, implies_true, and_true, Nat.reduceBEq, BEq.rfl, beq_self_eq_true, Bool.or_false, Bool.false_or, Bool.true_or, Bool.or_true, Bool.false_eq_true, if_true, if_false, true_implies, dstAt, List.getElem?_toArray, List.getElem?_cons_succ, List.getElem?_cons_zero, Option.some.injEq, forall_eq', Option.bind_some, Act.put, List.setIfInBounds_toArray, List.set_cons_succ, List.set_cons_zero])
                  refine ⟨OneB.stable, fun X hX => ?_, fun v1 => ⟨StrV.stable, fun X hX hf => ?_, fun v2 X hX hf => ?_⟩⟩
                  · exact leaves_alloc' (v := .slice (some ⟨X.heap.size, 0, none⟩) 1 1) (obj := .cells #[.int .u8 (16 * (ny : Int) + nz)] 5) (by kernel_rfl) ⟨X.heap.size, rfl, hX.size, by rw [show byteV D = .int .u8 (16 * (ny : Int) + nz) by unfold byteV; rw [HDM.out]]; exact heap_alloc_new _ _⟩
                  · obtain ⟨b3, rfl, hb3, hx3⟩ := hf
                    have hconv := conv_row X b3 1 1 [D] rfl (fun j hj => by
                      obtain rfl : j = 0 := by simpa using hj
                      rw [show X.cell? ⟨b3, 0, none⟩ = some (byteV D) by simp [World.cell?, hx3]]; rfl)
                    refine leaves_pure' (v := .string (bs [D])) ?_ rfl
                    show Sem.run _ (execOp _ _) X = _
                    go_simp
                  · obtain ⟨h2v, h1v, _⟩ := hf
                    obtain rfl : v2 = .string (bs [D]) := h2v
                    have hbX := bel_trans hb2 hX
                    have hs1 : (bs [D]).size = 1 := rfl
                    go_wp2
                    go_roundw
                    case rel =>
                      refine ⟨t + 1, a + 3, O2 ++ bs [D], by omega, by go_num, by go_num, by have := HA.out; omega, rfl, by rw [ByteArray.size_append]; show _ + 1 ≤ _; omega, ?_, hbX⟩
                      rw [bl_append, bl_bs, HDR.out, ← HO2.out, HT.out, List.append_assoc, show 16 - (t + 1) = n1 by have := HN1.out; omega]; rfl
                    case measure => simp [intOf]; omega
            · have HT := Lib.hid (show tripN (16 - t) (L.drop a) = [] by rw [HN1.out, HD.out]; unfold tripN; rw [if_neg hx])
              have hx' : ((x.toNat : Int) == 32) = false := by
                rw [beq_eq_false_iff_ne]; intro h; exact hx (UInt8.toNat_inj.1 (by show _ = 32; omega))
              clear hx
              go_wp2
              go_roundw
              case rel => exact ⟨k + 1, O2, by omega, by go_num, rfl, FIN.out HT.out, HBB.out _ hb2⟩
              case measure => simp [intOf]; omega
          · have HT := Lib.hid (show tripN (16 - t) (L.drop a) = [] by
              have h4 : ¬ 2 < (L.drop a).length := by rw [List.length_drop]; omega
              rw [hn1]
              match hm : L.drop a with
              | [] => rfl
              | [_] => rfl
              | [_, _] => rfl
              | x :: y :: z :: r => rw [hm] at h4; simp at h4)
            go_wp2
            go_roundw
            case rel => exact ⟨k + 1, O2, by omega, by go_num, rfl, FIN.out HT.out, HBB.out _ hb2⟩
            case measure => simp [intOf]; omega
        · obtain rfl : t = 16 := by omega
          have HT := Lib.hid (show tripN (16 - 16) (L.drop a) = [] by rfl)
          go_wp2
          go_roundw
          case rel => exact ⟨k + 1, O2, by omega, by go_num, rfl, FIN.out HT.out, HBB.out _ hb2⟩
          case measure => simp [intOf]; omega
    · have hke : k + 1 = P.length := by omega
      have hkl : (k : Int) = (P.length : Int) - 1 := by omega
      have hout : outR P k = parseR (bl s) := by
        unfold outR parseR
        rw [← HP.out, show k = P.length - 1 by omega, ← List.dropLast_eq_take]
      rw [hout] at hO
      obtain ⟨out, ho⟩ : ∃ o, o = parseR (bl s) := ⟨_, rfl⟩
      have hpr := HPR.out
      rw [← ho] at hO hpr
      have hl1 : O.size ≤ 32016 := by omega
      obtain ⟨Z, hZ⟩ : ∃ Z, Z = bs (dumpL out) := ⟨_, rfl⟩
      have HDU := Lib.hid (show ∀ W, Calls Try.prog 40 #[.string O] W fun e w' => e = .returned (.string Z) ∧ W = w' from fun W => (refDump_any O W (by omega)).mono (fun e w' ⟨p, q⟩ => ⟨by rw [p, hO, hZ], q⟩))
      have hOe : O = bs out := bl_inj (by rw [hO, bl_bs])
      by_cases hlen : O.size ≤ 4096
      · have hol : ¬ (4096 < out.length) := by rw [← hO, bl_length]; omega
        by_cases hd : dumpL out = bl s
        · rw [hd, bs_bl] at hZ
          subst hZ
          rw [show parsed out (bl Z) = (out, 0) by unfold parsed; rw [if_neg (by rintro (h | h); exact hol h; exact h hd)]] at hpr
          injection hpr with hp1 hp2
          subst hp1
          subst hp2
          have HOE := Lib.hid hOe
          clear hd hout HPR hO ho hOe hke hol
          go_wp2_with (go_at_call 40; refine (HDU.out _).mono ?_; rintro e w' ⟨rfl, rfl⟩)
          go_ret2
          exact ⟨by rw [← HOE.out]; rfl, hb1.trans (hb.mono hb1.size)⟩
        · have hZs : Z ≠ s := fun e => hd (by rw [← e, hZ, bl_bs])
          have hzz : (Z.toList == s.toList) = false := by
            rw [beq_eq_false_iff_ne]
            intro h
            exact hZs (bl_inj (by rw [← ba_toList, ← ba_toList]; exact h))
          rw [show parsed out (bl s) = ([], 7) by unfold parsed; rw [if_pos (.inr hd)]] at hpr
          injection hpr with hp1 hp2
          subst hp1
          subst hp2
          clear hd hout hZ HPR hO ho hOe hke hol
          go_wp2_with (go_at_call 40; refine (HDU.out _).mono ?_; rintro e w' ⟨rfl, rfl⟩)
          go_ret2
          exact ⟨rfl, hb1.trans (hb.mono hb1.size)⟩
      · rw [show parsed out (bl s) = ([], 7) by unfold parsed; rw [if_pos (.inl (by rw [← hO, bl_length]; omega))]] at hpr
        injection hpr with hp1 hp2
        subst hp1
        subst hp2
        clear hout hZ HPR hO ho hOe hke
        go_wp2
        go_ret2
        exact ⟨rfl, hb1.trans (hb.mono hb1.size)⟩
end Go.Proofs.Ytiomfkgbaemmkaa
