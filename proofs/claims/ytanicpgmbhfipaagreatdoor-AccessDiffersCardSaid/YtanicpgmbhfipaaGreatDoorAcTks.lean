/-
  Chapter 17: the reference's tokens; TokensOf.
-/
import Derived.Test.YtanicpgmbhfipaaGreatDoorAcSub
namespace Go.Proofs.YtanicpgmbhfipaaGreatDoor
set_option linter.unusedVariables false
set_option linter.unusedSimpArgs false
open Go.RowKit Go.Sort

theorem WhoErr_any (A : Option Addr) (c : Nat) (l : List Int) (w : World) (hlen : l.length ≤ 100000) (hr : Rd w w.heap.size A (l.map (.int .i64))) :
    Calls Tryz.prog 27 #[.slice A l.length c] w fun e w' => e = .returned (.int .i64 (whoE l)) ∧ Below w.heap.size w w' := by
  have HA := Lib.hid (ascending_any A c l w hlen hr)
  obtain ⟨u, hu⟩ : ∃ u, u = usersE l := ⟨_, rfl⟩
  rw [← hu] at HA
  by_cases h5 : 5 < l.length
  · have hw : whoE l = 8 := by unfold whoE; rw [show decide (l.length ≤ 5) = false by simp; omega]; rfl
    rw [hw]
    clear hr
    go_enter Tryz.func27, Tryz.ntmps27
    go_wp2
    go_ret
    exact ⟨rfl, Below.refl _ _⟩
  · have hw : whoE l = u := by
      unfold whoE
      rw [show decide (l.length ≤ 5) = true by simp; omega, ← hu]
      by_cases h : u = 0
      · subst h; rfl
      · simp [firstE, unl, h]
    rw [hw]
    clear hr hw hu
    go_enter Tryz.func27, Tryz.ntmps27
    go_wp2_with (go_at_call 67; refine (HA.out).mono ?_; rintro e W1 ⟨rfl, hbW1⟩; obtain ⟨hcW1, hfW1⟩ := bcell hbW1)
    go_ret
    exact ⟨rfl, hbW1⟩
theorem whoE_len {l : List Int} (h : whoE l = 0) : l.length ≤ 5 ∧ usersE l = 0 := by
  have hz := firstE_zero h
  have h1 := unl_zero (by decide) (hz (unl (decide (l.length ≤ 5)) 8) (by simp))
  exact ⟨by simpa using h1, hz _ (by simp)⟩
/-- tokens and an error -/
def TksR (w : World) (L : List TokP) (r : Int) (e : Ending) (w' : World) : Prop := ∃ ps B k, e = .returned (.tuple #[.slice B ps.length k, .int .i64 r]) ∧ ps.map (·.2) = L ∧ w'.ownsRow w.heap.size 27 3 (.slice B ps.length k) ps.length (toksV ps) ∧ (∀ p ∈ ps, InT w' w.heap.size p) ∧ Below w.heap.size w w'
set_option maxRecDepth 100000 in
theorem TokensOf_any (A : Option Addr) (c : Nat) (l : List Int) (w : World) (hlen : l.length ≤ 100000) (hlc : l.length ≤ c) (hcm : c ≤ maxLen) (hr : Rd w w.heap.size A (l.map (.int .i64))) :
    Calls Tryz.prog 24 #[.slice A l.length c] w (TksR w (if whoE l = 0 then toksP l else []) (whoE l)) := by
  have HW := Lib.hid (whoErr_any A c l w hlen hr)
  obtain ⟨r, hre⟩ : ∃ r, r = whoE l := ⟨_, rfl⟩
  rw [← hre] at HW ⊢
  by_cases h0 : r = 0
  · obtain ⟨h5, hu⟩ := whoE_len (hre.symm.trans h0)
    have HT := Lib.hid (fun W (hW : Below w.heap.size w W) => tokens_any A c l W h5 hlc hcm (usersE_asc hu).1 (hr.below' hW))
    subst h0
    rw [if_pos rfl]
    obtain ⟨L, hL⟩ : ∃ L, L = toksP l := ⟨_, rfl⟩
    rw [← hL] at HT ⊢
    clear hre hu hr h5 hcm hL
    go_enter Tryz.func24, Tryz.ntmps24
    go_wp2_with (first | (go_at_call 62; refine (HW.out).mono ?_; rintro e W1 ⟨rfl, hbW1⟩; obtain ⟨hcW1, hfW1⟩ := bcell hbW1) | (go_at_call 63; refine (HT.out _ hbW1).mono ?_; rintro e W2 ⟨ps, B, k, rfl, h1, h2, h3, h4⟩))
    go_ret2
    exact ⟨ps, B, k, rfl, h1, ownsRow_mono h2 hbW1.size, fun p hp => by obtain ⟨A, c, g1, g2⟩ := h3 p hp; exact ⟨A, c, g1, ownsRow_mono g2 hbW1.size⟩, bel_trans hbW1 h4⟩
  · have h0' : (r != 0) = true := by simpa using h0
    rw [if_neg h0]
    clear hre hr
    go_enter Tryz.func24, Tryz.ntmps24
    go_wp2_with (go_at_call 62; refine (HW.out).mono ?_; rintro e W1 ⟨rfl, hbW1⟩; obtain ⟨hcW1, hfW1⟩ := bcell hbW1)
    go_ret2
    exact ⟨[], none, 0, rfl, rfl, World.ownsRow_nil _ _ _ _, (fun p hp => by simp at hp), hbW1⟩
def othN (l : List Int) (i : Nat) : Nat → List Int
  | 0 => []
  | j + 1 => othN l i j ++ (if j = i then [] else [l.getD j 0])
theorem othN_eq (l : List Int) (i : Nat) : ∀ j, j ≤ l.length → othN l i j = if j ≤ i then l.take j else l.take i ++ (l.take j).drop (i + 1)
  | 0, _ => by simp [othN]
  | j + 1, h => by
    have ih := othN_eq l i j (by omega)
    have hg : l.getD j 0 = l[j] := by rw [List.getD_eq_getElem?_getD, List.getElem?_eq_getElem (by omega)]; rfl
    have htk : l.take (j + 1) = l.take j ++ [l[j]] := List.take_succ_eq_append_getElem (by omega)
    unfold othN
    rw [ih, hg]
    by_cases h1 : j < i
    · rw [if_pos (by omega), if_neg (by omega), if_pos (by omega), htk]
    · by_cases h2 : j = i
      · subst h2
        rw [if_pos (Nat.le_refl _), if_pos rfl, if_neg (by omega), List.drop_of_length_le (by rw [List.length_take]; omega)]
      · rw [if_neg (by omega), if_neg h2, if_neg (by omega), htk, List.drop_append_of_le_length (by rw [List.length_take]; omega), List.append_assoc]
theorem othN_all (l : List Int) (i : Nat) (hi : i < l.length) : othN l i l.length = othL l i := by
  rw [othN_eq l i _ (Nat.le_refl _), if_neg (by omega), List.take_of_length_le (Nat.le_refl _)]; rfl
theorem othN_len (l : List Int) (i : Nat) : ∀ j, (othN l i j).length ≤ j
  | 0 => Nat.le_refl _
  | j + 1 => by
    have := othN_len l i j
    unfold othN
    rw [List.length_append]
    split <;> simp <;> omega
def tokI (u : Int) (s : List Int) : TokP := ⟨u, s, 0⟩
def lvl (o : List Int) (j : Nat) : List (List Int) := (List.range j).flatMap (subL o)
theorem lvl_succ (o : List Int) (j : Nat) : lvl o (j + 1) = lvl o j ++ subL o j := by
  unfold lvl
  rw [List.range_succ, List.flatMap_append, List.flatMap_singleton]
theorem lvl_len (o : List Int) (h : o.length ≤ 4) : ∀ j, (lvl o j).length ≤ 16 * j
  | 0 => by simp [lvl]
  | j + 1 => by
    have h1 := lvl_len o h j
    have h2 := subL_len o j
    have h3 : 2 ^ o.length ≤ 2 ^ 4 := Nat.pow_le_pow_right (by decide) h
    rw [lvl_succ, List.length_append]
    omega
theorem lvl_all (l : List Int) (i : Nat) (hi : i < l.length) : toksN l (i + 1) = toksN l i ++ (lvl (othL l i) ((othL l i).length + 1)).map (tokI (l.getD i 0)) := by
  rw [toksN_succ]; rfl
theorem InT.kept {X Y : World} {B B' n : Nat} {e : TypeId} {s : Nat} {p : Value × TokP} {v : Value} {xs : List Value} (h : InT X B p) (hv : X.ownsRow B' e s v n xs) (hne : 3 ≠ e) (hg : X.grownBy Y v.ownBlock) : InT Y B p := InO.kept h hv hne hg
def LitT (B : Nat) (u : Int) (A : Option Addr) (n c : Nat) (v : Value) (X : World) : Prop := ∃ g, v = .slice (some ⟨g, 0, none⟩) 1 1 ∧ B ≤ g ∧ X.heap[g]? = some (.cells #[.int .i64 u, .slice A n c, .int .i64 0] 27 (0, 0))
theorem LitT.stable {B : Nat} {u : Int} {A : Option Addr} {n c : Nat} (v : Value) (X X' : World) (h : LitT B u A n c v X) (hb : Below X.heap.size X X') : LitT B u A n c v X' := by
  obtain ⟨g, h1, h2, h3⟩ := h
  exact ⟨g, h1, h2, (hb.block g (Array.getElem?_eq_some_iff.1 h3).1).trans h3⟩
set_option maxRecDepth 100000 in
set_option maxHeartbeats 8000000 in
theorem refTokens_any (A : Option Addr) (c : Nat) (l : List Int) (w : World) (hl : l.length ≤ 5) (hr : Rd w w.heap.size A (l.map (.int .i64))) :
    Calls Tryz.prog 28 #[.slice A l.length c] w fun e w' => ∃ ps B k, e = .returned (.slice B ps.length k) ∧ ps.map (·.2) = toksP l ∧ w'.ownsRow w.heap.size 27 3 (.slice B ps.length k) ps.length (toksV ps) ∧ (∀ p ∈ ps, InT w' w.heap.size p) ∧ Below w.heap.size w w' := by
  obtain ⟨i0, hi, hz0, hz1, hz2⟩ := info_parts infoTok
  obtain ⟨k0, hk0, hx0, hx1, hx2⟩ := info_parts DecidedBy_info
  have HR := Lib.hid (fun W (hW : Below w.heap.size w W) => hr.below' hW)
  clear hr
  go_enter Tryz.func28, Tryz.ntmps28
  go_wp2
  go_loopw [3, 4] (fun out ix wr => ∃ (k : Nat) (ps : List (Value × TokP)) (B : Option Addr) (cB : Nat), k ≤ l.length ∧ ix = .int .i64 k ∧ out = .slice B ps.length cB ∧ wr.ownsRow w.heap.size 27 3 (.slice B ps.length cB) ps.length (toksV ps) ∧ ps.map (·.2) = toksN l k ∧ (∀ p ∈ ps, InT wr w.heap.size p) ∧ Below w.heap.size w wr) (fun _ ix _ => l.length - (intOf ix).toNat)
  case atStart => exact ⟨0, [], none, 0, Nat.zero_le _, rfl, rfl, World.ownsRow_nil _ _ _ _, rfl, (fun p hp => by simp at hp), Below.refl _ _⟩
  case round =>
    obtain ⟨k, ps, B, cB, hk, rfl, rfl, hown, hls, hin, hb⟩ := hrel
    by_cases hlt : k < l.length
    · have hpl : ps.length ≤ 80 := by
        have h1 := congrArg List.length hls
        rw [List.length_map] at h1
        have h2 := toksN_len l hl k hk
        omega
      have HOWN := Lib.hid hown
      have HLS := Lib.hid hls
      have HIN := Lib.hid hin
      have HB := Lib.hid hb
      clear hown hls hin hb
      rename World => w1
      go_wp2
      go_loopw [5, 6] (fun r jx wx => ∃ (j : Nat) (A' : Option Addr) (c' : Nat), j ≤ l.length ∧ jx = .int .i64 j ∧ r = .slice A' (othN l k j).length c' ∧ wx.ownsRow w1.heap.size 3 1 (.slice A' (othN l k j).length c') (othN l k j).length ((othN l k j).map (.int .i64)) ∧ Below w1.heap.size w1 wx) (fun _ jx _ => l.length - (intOf jx).toNat)
      case atStart => exact ⟨0, none, 0, Nat.zero_le _, rfl, rfl, World.ownsRow_nil _ _ _ _, Below.refl _ _⟩
      case round =>
        obtain ⟨j, Ao, co, hj, rfl, rfl, ho, hbo⟩ := hrel
        have hol := othN_len l k j
        by_cases hlt2 : j < l.length
        · have hsu : othN l k (j + 1) = othN l k j ++ (if j = k then [] else [l.getD j 0]) := rfl
          obtain ⟨O, hO⟩ : ∃ O, O = othN l k j := ⟨_, rfl⟩
          rw [← hO] at ho hol hsu ⊢
          have HSU := Lib.hid hsu
          have HO := Lib.hid ho
          have HBO := Lib.hid hbo
          clear hO hsu ho hbo
          by_cases hjk : j = k
          · have hjk' : ((j : Int) != k) = false := by simp [hjk]
            have HJ := Lib.hid hjk
            clear hjk
            go_wp2
            go_roundw
            case rel =>
              have e : othN l k (j + 1) = O := by rw [HSU.out, if_pos HJ.out, List.append_nil]
              exact ⟨j + 1, Ao, co, by omega, by go_num, by rw [e], by rw [e]; exact HO.out, HBO.out⟩
            case measure => simp [intOf]; omega
          · have hjk' : ((j : Int) != k) = true := by simp; omega
            obtain ⟨bl, ol, rfl, hBl, hcl⟩ := (HR.out wr (bel_trans HB.out HBO.out)).opened (by simp; omega)
            have e0 := hcl j (.int .i64 l[j]) (by simp [hlt2])
            have hg : l.getD j 0 = l[j] := by rw [List.getD_eq_getElem?_getD, List.getElem?_eq_getElem hlt2]; rfl
            obtain ⟨u, hu⟩ : ∃ u, u = l[j] := ⟨_, rfl⟩
            rw [← hu] at e0 hg
            have e : othN l k (j + 1) = O ++ [u] := by rw [HSU.out, if_neg hjk, hg]
            have HE := Lib.hid e
            have hown := HO.out
            have hszX := HBO.out.size
            clear hcl hu hg e hjk
            go_wp2_with (at_builtin; refine wpList_push _ rfl (.tmp 25) (.tmp 30) 25 rfl w1.heap.size 3 k0 _ 1 8 [.int .i64 u] Tryz.underlying25 hk0 hx0 hx1 hx2 rfl (by decide) (.slice Ao O.length co) _ _ rfl hown _ rfl rfl rfl (by intro u hu; simp at hu; subst hu; rfl) (by unfold maxLen; omega) (by omega) hszX ?_; intro v5 V5 ow5 hk5 hs5 hb5 hv5 be5; obtain ⟨A5, c5, rfl, _⟩ := ownsRow_form ow5; clear hk5 hb5 hv5)
            go_roundw
            case rel => exact ⟨j + 1, A5, c5, by omega, by go_num, by rw [HE.out]; simp, by rw [HE.out, List.length_append, List.map_append]; exact ow5, HBO.out.trans be5⟩
            case measure => simp [intOf]; omega
        · obtain rfl : j = l.length := by omega
          rw [othN_all l k hlt] at ho hol ⊢
          have ho4 : (othL l k).length ≤ 4 := by rw [othL_len l k hlt]; omega
          have hall := lvl_all l k hlt
          obtain ⟨O, hO⟩ : ∃ O, O = othL l k := ⟨_, rfl⟩
          obtain ⟨u, hu⟩ : ∃ u, u = l.getD k 0 := ⟨_, rfl⟩
          rw [← hO] at ho hol ho4 hall ⊢
          rw [← hu] at hall
          have hu2 : u = l[k] := by rw [hu, List.getD_eq_getElem?_getD, List.getElem?_eq_getElem hlt]; rfl
          have HALL := Lib.hid hall
          have HU := Lib.hid hu2
          have hownX := ownsRow_below HOWN.out hbo
          have hinX := fun p hp => (InO.below (HIN.out p hp) hbo : InT wr w.heap.size p)
          have hbX := bel_trans HB.out hbo
          have hoX := ownsRow_mono ho HB.out.size
          have HO1 := Lib.hid hownX
          have HI1 := Lib.hid hinX
          have HB1 := Lib.hid hbX
          have HO2 := Lib.hid hoX
          clear hO hu hall hu2 ho hbo hownX hinX hbX hoX HOWN HIN HB
          rename World => w2
          go_wp2
          go_loopw [3, 7] (fun out jx wx => ∃ (j : Nat) (ps : List (Value × TokP)) (B : Option Addr) (cB : Nat), j ≤ O.length + 1 ∧ jx = .int .i64 j ∧ out = .slice B ps.length cB ∧ wx.ownsRow w.heap.size 27 3 (.slice B ps.length cB) ps.length (toksV ps) ∧ ps.map (·.2) = toksN l k ++ (lvl O j).map (tokI u) ∧ (∀ p ∈ ps, InT wx w.heap.size p) ∧ wx.ownsRow w.heap.size 3 1 (.slice Ao O.length co) O.length (O.map (.int .i64)) ∧ Below w.heap.size w wx) (fun _ jx _ => O.length + 1 - (intOf jx).toNat)
          case atStart => exact ⟨0, ps, B, cB, by omega, rfl, rfl, HO1.out, by rw [HLS.out]; simp [lvl], HI1.out, HO2.out, HB1.out⟩
          case round =>
            obtain ⟨j, ps2, B3, cB3, hj, rfl, rfl, hown, hls, hin, hoo, hb⟩ := hrel
            by_cases hlt3 : j ≤ O.length
            · have hcap := ownsRow_cap hoo
              have hcm := ownsRow_capmax hoo
              have HSUB := Lib.hid (subsets_any j O Ao co wr (by omega) ho4 hcap.1 hcm (Rd.of_own hoo))
              have hb16 : 2 ^ O.length ≤ 2 ^ 4 := Nat.pow_le_pow_right (by decide) ho4
              have hsl := subL_len O j
              have hpl3 : ps2.length ≤ 160 := by
                have h1 := congrArg List.length hls
                rw [List.length_map, List.length_append, List.length_map] at h1
                have h2 := toksN_len l hl k hk
                have h3 := lvl_len O ho4 j
                omega
              have HOWN := Lib.hid hown
              have HLS3 := Lib.hid hls
              have HIN := Lib.hid hin
              have HOO := Lib.hid hoo
              have HB := Lib.hid hb
              clear hown hls hin hoo hb hcap hcm HO1 HI1 HO2 HLS
              go_wp2_with (go_at_call 68; refine HSUB.out.mono ?_; rintro e W1 ⟨els, B2, k2, rfl, hl2, ho2, hin2, hb1⟩)
              have hel : els.length ≤ 16 := by
                have h1 := congrArg List.length hl2
                have h4 : (rowsL els).length = els.length := by simp [rowsL]
                omega
              have hs4 : ∀ p ∈ els, p.2.length ≤ 4 := fun p hp => by
                have h1 : p.2 ∈ subL O j := by rw [← hl2]; exact List.mem_map_of_mem hp
                have := subL_each _ _ _ h1
                omega
              have HS4 := Lib.hid hs4
              have HL2 := Lib.hid hl2
              have HO1 := Lib.hid (ownsRow_below HOWN.out hb1)
              have HI1 := Lib.hid (fun p hp => (InO.below (HIN.out p hp) hb1 : InT W1 w.heap.size p))
              have HO2 := Lib.hid (ownsRow_below HOO.out hb1)
              have HE1 := Lib.hid (ownsRow_mono ho2 HB.out.size)
              have HE2 := Lib.hid (fun p hp => (fun (h : InO W1 wr.heap.size p) => (show InO W1 w.heap.size p from by obtain ⟨A, c, h1, h2⟩ := h; exact ⟨A, c, h1, ownsRow_mono h2 HB.out.size⟩)) (hin2 p hp))
              have HB3 := Lib.hid (bel_trans HB.out hb1)
              clear hs4 hl2 ho2 hin2 hb1 HOWN HIN HOO HB HSUB hsl hb16
              rename World => w3
              go_wp2
              go_loopw [3, 9] (fun out jx wx => ∃ (m : Nat) (ps3 : List (Value × TokP)) (B : Option Addr) (cB : Nat), m ≤ els.length ∧ jx = .int .i64 m ∧ out = .slice B ps3.length cB ∧ wx.ownsRow w.heap.size 27 3 (.slice B ps3.length cB) ps3.length (toksV ps3) ∧ ps3.map (·.2) = toksN l k ++ (lvl O j).map (tokI u) ++ ((rowsL els).take m).map (tokI u) ∧ ps3.length ≤ 160 + m ∧ (∀ p ∈ ps3, InT wx w.heap.size p) ∧ wx.ownsRow w.heap.size 3 1 (.slice Ao O.length co) O.length (O.map (.int .i64)) ∧ wx.ownsRow w.heap.size 25 1 (.slice B2 els.length k2) els.length (rowsV els) ∧ (∀ p ∈ els, InO wx w.heap.size p) ∧ Below w.heap.size w wx) (fun _ jx _ => els.length - (intOf jx).toNat)
              case atStart => exact ⟨0, ps2, B3, cB3, Nat.zero_le _, rfl, rfl, HO1.out, by rw [HLS3.out]; simp, by omega, HI1.out, HO2.out, HE1.out, HE2.out, HB3.out⟩
              case round =>
                obtain ⟨m, ps3, B4, cB4, hm, rfl, rfl, hown, hls, hp3, hin, hoo, hea, hei, hb⟩ := hrel
                by_cases hlt4 : m < els.length
                · obtain ⟨bl, ol, rfl, hBl, hcl⟩ := (HR.out wr hb).opened (by simp; omega)
                  have e0 := hcl k (.int .i64 l[k]) (by simp [hlt])
                  rw [← HU.out] at e0
                  obtain ⟨b2, o2, rfl, hb2, hc2⟩ := (Rd.of_own hea).opened (by simp [rowsV]; omega)
                  obtain ⟨Ai, ci, hv, hown1⟩ := hei els[m] (List.getElem_mem hlt4)
                  have e1 := hc2 m els[m].1 (by simp [rowsV, hlt4])
                  rw [hv] at e1
                  have hs := HS4.out els[m] (List.getElem_mem hlt4)
                  have htk : (rowsL els).take (m + 1) = (rowsL els).take m ++ [els[m].2] := by
                    rw [List.take_succ_eq_append_getElem (by simp [rowsL, hlt4])]
                    simp [rowsL]
                  obtain ⟨s, hss⟩ : ∃ s, s = els[m].2 := ⟨_, rfl⟩
                  rw [← hss] at e1 hown1 hs htk
                  have HHR := Lib.hid hown1
                  have HLS4 := Lib.hid hls
                  have HTK := Lib.hid htk
                  have HOWN := Lib.hid hown
                  have HIN := Lib.hid hin
                  have HOO := Lib.hid hoo
                  have HEA := Lib.hid hea
                  have HEI := Lib.hid hei
                  have HB := Lib.hid hb
                  clear hls htk hown hin hoo hea hei hb hv hown1 hss hc2 hcl HO1 HI1 HO2 HE1 HE2 HB3
                  go_wp2
                  (refine wp_region_flow [false, false, false, false, false, false, false, false, false, false, true] [⟨10, [], LitT wr.heap.size u Ai s.length ci, false⟩] (by kernel_rfl) (by kernel_rfl) (by kernel_rfl) (by kernel_rfl) ?_; simp only [pick, List.length_cons, List.length_nil, List.drop_succ_cons, List.drop_zero, Nat.zero_add, Nat.reduceAdd]; apply Exists.intro; refine ⟨fun X hX => ?_, ?_⟩; (focus (obtain ⟨hcX, hfX⟩ := bcell hX; have hgX := regcell hX; have hsX := hX.size; (try simp only [World.size_alloc] at hsX); (repeat (go_big_quiet_step ((first | fail)))); exact wpQuiet_nil rfl)); simp only [wpND, told, toldAll, List.contains_cons, List.contains_nil, List.mem_cons, List.not_mem_nil, forall_eq_or_imp, false_implies, implies_true, and_true, Nat.reduceBEq, BEq.rfl, beq_self_eq_true, Bool.or_false, Bool.false_or, Bool.true_or, Bool.or_true, Bool.false_eq_true, if_true, if_false, true_implies, dstAt, List.getElem?_toArray, List.getElem?_cons_succ, List.getElem?_cons_zero, Option.some.injEq, forall_eq', Option.bind_some, Act.put, List.setIfInBounds_toArray, List.set_cons_succ, List.set_cons_zero])
                  refine ⟨LitT.stable, fun X hX => ?_, fun v10 X hX hf => ?_⟩
                  · exact leaves_alloc' (v := .slice (some ⟨X.heap.size, 0, none⟩) 1 1) (obj := .cells #[.int .i64 u, .slice Ai s.length ci, .int .i64 0] 27) (by kernel_rfl) ⟨X.heap.size, rfl, hX.size, heap_alloc_new _ _⟩
                  · obtain ⟨g, rfl, hg1, hg2⟩ := hf
                    have hownX := ownsRow_below HOWN.out hX
                    have hszX := (bel_trans HB.out hX).size
                    go_wp2_with (at_builtin; refine wpList_push3 X rfl (.tmp 47) (.tmp 57) 48 rfl w.heap.size 27 i0 _ 3 40 [.int .i64 u, .slice Ai s.length ci, .int .i64 0] Tryz.underlying48 hi hz0 hz1 hz2 rfl (by decide) (.slice B4 ps3.length cB4) _ _ rfl hownX g rfl hg2 rfl (by intro u hu; simp at hu; rcases hu with rfl | rfl | rfl <;> rfl) (by unfold maxLen; omega) (by omega) hszX ?_; intro v5 V5 ow5 gr5 ob5 kc5 be5; obtain ⟨A5, c5, rfl, _⟩ := ownsRow_form ow5)
                    have hbX := bel_trans HB.out hX
                    have hl3 : (ps3 ++ [((.slice Ai s.length ci : Value), tokI u s)]).length = ps3.length + 1 := by simp
                    go_roundw
                    case rel =>
                      refine ⟨m + 1, ps3 ++ [((.slice Ai s.length ci : Value), tokI u s)], A5, c5, by omega, by go_num, by rw [hl3], ?_, ?_, by omega, ?_, (ownsRow_below HOO.out hX).kept gr5 (ownsRow_tags (ownsRow_below HOO.out hX) hownX (by decide)), (ownsRow_below HEA.out hX).kept gr5 (ownsRow_tags (ownsRow_below HEA.out hX) hownX (by decide)), fun p hp => ((HEI.out p hp).below hX).kept hownX (by decide) gr5, hbX.trans be5⟩
                      · have e : toksV (ps3 ++ [((.slice Ai s.length ci : Value), tokI u s)]) = toksV ps3 ++ [.int .i64 u, .slice Ai s.length ci, .int .i64 0] := by simp [toksV, tokCl, tokI]
                        rw [hl3, e]
                        exact ow5
                      · rw [HTK.out, List.map_append, HLS4.out]; simp
                      · intro p hp
                        rcases List.mem_append.1 hp with hp | hp
                        · exact InT.kept (InO.below (HIN.out p hp) hX) hownX (by decide) gr5
                        · obtain rfl : p = ((.slice Ai s.length ci : Value), tokI u s) := by simpa using hp
                          exact InT.kept (p := ((.slice Ai s.length ci : Value), tokI u s)) ⟨Ai, ci, rfl, ownsRow_below HHR.out hX⟩ hownX (by decide) gr5
                    case measure => simp [intOf]; omega
                · obtain rfl : m = els.length := by omega
                  have htk : (rowsL els).take els.length = subL O j := by
                    rw [List.take_of_length_le (by simp [rowsL]), HL2.out]
                  rw [htk] at hls
                  have hfin : ps3.map (·.2) = toksN l k ++ (lvl O (j + 1)).map (tokI u) := by rw [hls, lvl_succ, List.map_append, List.append_assoc]
                  have HFIN := Lib.hid hfin
                  have HOWN := Lib.hid hown
                  have HIN := Lib.hid hin
                  have HOO := Lib.hid hoo
                  have HB := Lib.hid hb
                  clear hls htk hfin hown hin hoo hea hei hb
                  go_wp2
                  go_roundw
                  case rel => exact ⟨j + 1, ps3, B4, cB4, by omega, by go_num, rfl, HOWN.out, HFIN.out, HIN.out, HOO.out, HB.out⟩
                  case measure => simp [intOf]; omega
            · obtain rfl : j = O.length + 1 := by omega
              have HFIN := Lib.hid (hls.trans HALL.out.symm)
              have HOWN := Lib.hid hown
              have HIN := Lib.hid hin
              have HB := Lib.hid hb
              clear hls hown hin hoo hb
              go_wp2
              go_roundw
              case rel => exact ⟨k + 1, ps2, B3, cB3, by omega, by go_num, rfl, HOWN.out, HFIN.out, HIN.out, HB.out⟩
              case measure => simp [intOf]; omega
    · obtain rfl : k = l.length := by omega
      go_wp2
      go_ret
      exact ⟨ps, B, cB, rfl, hls, hown, hin, hb⟩
end Go.Proofs.YtanicpgmbhfipaaGreatDoor
