/-
  Chapter 20: protected blocks.
-/
import Derived.Test.YtmlilplbdpjfcaaGreatDoorRg7
import Derived.Test.YtmlilplbdpjfcaaGreatDoorShelf
namespace Go.Proofs.YtmlilplbdpjfcaaGreatDoor
set_option linter.unusedVariables false
set_option linter.unusedSimpArgs false
set_option maxRecDepth 4000
open Go.RowKit Go.Sort
theorem disk_first2 {X : World} {b : Nat} {e1 e2 : Int} {T : TypeId} (hb : Box X b #[.int .i64 e1, .int .i64 e2] T) : Calls Tryz.prog 139 #[.slice (some ⟨b, 0, none⟩) 2 2] X fun e w' => e = .returned (.int .i64 (firstE [e1, e2])) ∧ X = w' :=
  disk_first_any b 0 [e1, e2] X (by simp) (fun k hk => by
    rw [Nat.zero_add, Box.cells hb k]
    have : k = 0 ∨ k = 1 := by simp at hk; omega
    rcases this with rfl | rfl <;> rfl)
theorem CheckBlock_any (s : ByteArray) (w : World) : Calls Tryz.prog 86 #[.string s] w fun e w' => e = .returned (.int .i64 (unl (s.size == 512) 10)) ∧ w = w' := by
  refine st_enter (N := 7) Tryz.func86 rfl rfl rfl (fun a0 h0 => ?_)
  have S0 := St.init w
  refine st_seq (st_reg ?_)
  refine ma h0 rfl rfl fun a1 h1 => ?_
  refine st_nil (go_then (st_seq (st_reg ?_)))
  refine mv h1 rfl rfl fun a2 h2 => ?_
  refine sl_val h2 (wn rfl) (ex_slen Tryz.underlying9 (h2.ev rfl)) rfl rfl fun a3 h3 => ?_
  refine sl_val h3 (wn rfl) (ex_eql (h3.ev rfl) (h3.ev rfl)) rfl rfl fun a4 h4 => ?_
  refine sl_pure h4 (wn rfl) (ex_call (fun _ _ => by kernel_rfl) (h4.evs rfl) rfl) rfl rfl (disk_unless_any _ _ _) fun a5 h5 => ?_
  refine ma h5 rfl rfl fun a6 h6 => ?_
  refine st_nil (go_then (wp_ret ?_))
  refine fin1 h6 rfl rfl ?_
  exact ⟨by rw [show ((s.size : Int) == 512) = (s.size == 512) by rw [Bool.eq_iff_iff, beq_iff_eq, beq_iff_eq]; omega], rfl⟩
theorem dtail_any (i : Nat) (w : World) (h : i ≤ 1000) : Calls Tryz.prog 126 #[.int .i64 i] w fun e w' => e = .returned (.int .i64 (tlA i : Nat)) ∧ w = w' := by
  refine st_enter (N := 7) Tryz.func126 rfl rfl rfl (fun a0 h0 => ?_)
  have S0 := St.init w
  refine st_seq (st_reg ?_)
  refine ma h0 rfl rfl fun a1 h1 => ?_
  refine st_nil (go_then (st_seq (st_reg ?_)))
  refine mv h1 rfl rfl fun a2 h2 => ?_
  refine sl_val h2 (wn rfl) (ex_add (h2.ev rfl) (h2.ev rfl) (by omega)) rfl rfl fun a3 h3 => ?_
  refine sl_val h3 (wn rfl) (ex_mul (h3.ev rfl) (h3.ev rfl) (by omega)) rfl rfl fun a4 h4 => ?_
  refine sl_val h4 (wn rfl) (ex_sub (h4.ev rfl) (h4.ev rfl) (by omega)) rfl rfl fun a5 h5 => ?_
  refine ma h5 rfl rfl fun a6 h6 => ?_
  refine st_nil (go_then (wp_ret ?_))
  refine fin1 h6 rfl rfl ?_
  exact ⟨by congr 2; unfold tlA; push_cast; omega, rfl⟩
theorem dlittle_any (n : Int) (w : World) (h : 0 ≤ n) : Calls Tryz.prog 142 #[.int .i64 n] w fun e w' => e = .returned (.string (bs (lit n 2))) ∧ Below w.heap.size w w' := by
  refine st_enter (N := 10) Tryz.func142 rfl rfl rfl (fun a0 h0 => ?_)
  have S0 := St.init w
  refine st_seq (st_reg ?_)
  refine ma h0 rfl rfl fun a1 h1 => ?_
  refine st_nil (go_then (st_seq (st_reg ?_)))
  refine mv h1 rfl rfl fun a2 h2 => ?_
  refine sl_val h2 (wn rfl) (ex_conv (k0 := .i64) (by kernel_rfl) Tryz.underlying5 (h2.ev rfl)) rfl rfl fun a3 h3 => ?_
  refine mv h3 rfl rfl fun a4 h4 => ?_
  refine sl_val h4 (wn rfl) (ex_shr (n := 8) (h4.ev rfl) (h4.ev rfl) rfl (by omega)) rfl rfl fun a5 h5 => ?_
  refine sl_val h5 (wn rfl) (ex_conv (k0 := .i64) (by kernel_rfl) Tryz.underlying5 (h5.ev rfl)) rfl rfl fun a6 h6 => ?_
  refine sl_new h6 (wn rfl) (f := fun b => .slice (some ⟨b, 0, none⟩) 2 2) (ex_bslice Tryz.underlying130 (by kernel_rfl) (by kernel_rfl) (h6.evs2 rfl) rfl rfl rfl (by decide) (by decide)) rfl rfl S0 fun b8 a7 X7 gb8 h7 S7 => ?_
  have S9 := S7.toRow (i := 0) (n := 2) (sz := 1) rfl rfl (by decide)
  refine sl_val h7 (wn rfl) (ex_rstr (us := lit n 2) Tryz.underlying130 Tryz.underlying5 Tryz.underlying9 (h7.ev rfl) (by have q := S9.at_ (i := 0) rfl; rw [← lit2_bytes]; exact q)) rfl rfl fun a8 h8 => ?_
  refine ma h8 rfl rfl fun a9 h9 => ?_
  refine st_nil (go_then (wp_ret ?_))
  refine fin1 h9 rfl rfl ?_
  exact ⟨rfl, S7.below⟩
theorem dnumber_any (s : ByteArray) (w : World) (h : 2 ≤ s.size) : Calls Tryz.prog 123 #[.string s] w fun e w' => e = .returned (.int .i64 (g16 (bl s) 0)) ∧ Below w.heap.size w w' := by
  have u1 := ((bl s).getD 0 0).toNat_lt
  have u2 := ((bl s).getD 1 0).toNat_lt
  refine st_enter (N := 11) Tryz.func123 rfl rfl rfl (fun a0 h0 => ?_)
  have S0 := St.init w
  refine st_seq (st_reg ?_)
  refine ma h0 rfl rfl fun a1 h1 => ?_
  refine st_nil (go_then (st_seq ?_))
  apply dr_flow h1 [false, false, false, false, false, false, false] _ (by kernel_rfl)
  case h =>
   refine sq_val h1 (wn rfl) rfl rfl (fun X hX => (ex_move (h1.ev rfl))) fun a2 h2 => ?_
   refine sq_val h2 (wn rfl) rfl rfl (fun X hX => (ex_sindex (i := 0) Tryz.underlying9 (h2.ev rfl) (h2.ev rfl) (by omega) (by omega))) fun a3 h3 => ?_
   refine sq_val h3 (wn rfl) rfl rfl (fun X hX => (ex_convin (by kernel_rfl) Tryz.underlying3 (h3.ev rfl) (wrap_in (by omega)))) fun a4 h4 => ?_
   refine sq_val h4 (wn rfl) rfl rfl (fun X hX => (ex_move (h4.ev rfl))) fun a5 h5 => ?_
   refine sq_val h5 (wn rfl) rfl rfl (fun X hX => (ex_sindex (i := 1) Tryz.underlying9 (h5.ev rfl) (h5.ev rfl) (by omega) (by omega))) fun a6 h6 => ?_
   refine sq_val h6 (wn rfl) rfl rfl (fun X hX => (ex_convin (by kernel_rfl) Tryz.underlying3 (h6.ev rfl) (wrap_in (by omega)))) fun a7 h7 => ?_
   refine sq_val h7 (wn rfl) rfl rfl (fun X hX => (ex_shl (n := 8) (r := (((bl s).getD 1 0).toNat : Int) * 256) (h7.ev rfl) (h7.ev rfl) rfl (by rw [wrap_in (by omega)]; omega))) fun a8 h8 => ?_
   refine sq_nil ?_
   refine nd_end fun X9 hX9 hΦ9 => ?_
   have S9 := S0.grow hX9
   refine sl_val h8 (wn rfl) (ex_bits (r := g16 (bl s) 0) rfl (h8.ev rfl) (h8.ev rfl) (bits_or8 u1 u2)) rfl rfl fun a10 h10 => ?_
   refine ma h10 rfl rfl fun a11 h11 => ?_
   refine st_nil (go_then (wp_ret ?_))
   refine fin1 h11 rfl rfl ?_
   exact ⟨rfl, S9.below⟩
  case hB => kernel_rfl
  case hst => rfl
theorem dat_any (b c i m : Nat) (l : List UInt8) (w : World) (hb : BytB w b l) (hi : i + 2 ≤ l.length) (hm : l.length = m) (hc : m ≤ c) (hl : m ≤ 100000) :
    Calls Tryz.prog 124 #[.slice (some ⟨b, 0, none⟩) m c, .int .i64 i] w fun e w' => e = .returned (.string (bs ((l.drop i).take 2))) ∧ Below w.heap.size w w' := by
  refine st_enter (N := 11) Tryz.func124 rfl rfl rfl (fun a0 h0 => ?_)
  have S0 := St.initByt hb
  refine st_seq (st_reg ?_)
  refine ma h0 rfl rfl fun a1 h1 => ?_
  refine st_nil (go_then (st_seq (st_reg ?_)))
  refine mv h1 rfl rfl fun a2 h2 => ?_
  refine mv h2 rfl rfl fun a3 h3 => ?_
  refine mv h3 rfl rfl fun a4 h4 => ?_
  refine sl_val h4 (wn rfl) (ex_add (h4.ev rfl) (h4.ev rfl) (by omega)) rfl rfl fun a5 h5 => ?_
  refine sl_val h5 (wn rfl) (ex_slice (l := i) (h := i + 2) (sz := 1) Tryz.underlying161 (by kernel_rfl) (h5.ev rfl) (h5.ev rfl) (h5.ev rfl) (by omega) (by omega) (.inl (by omega)) rfl) rfl rfl fun a6 h6 => ?_
  refine sl_val h6 (wn rfl) (ex_bstr Tryz.underlying161 Tryz.underlying5 Tryz.underlying9 (h6.ev rfl) (S0.bytStr (i := 0) (o' := (0 + i * 1)) (n := (i + 2 - i)) rfl (by omega)).1 (S0.bytStr (i := 0) (o' := (0 + i * 1)) (n := (i + 2 - i)) rfl (by omega)).2) rfl rfl fun a7 h7 => ?_
  refine ma h7 rfl rfl fun a8 h8 => ?_
  refine st_nil (go_then (wp_ret ?_))
  refine fin1 h8 rfl rfl ?_
  exact ⟨by rw [Nat.zero_add, Nat.mul_one, show i + 2 - i = 2 by omega], Below.refl _ _⟩
theorem dput_any (b c a m : Nat) (l us : List UInt8) (w : World) (hb : BytB w b l) (ha : a + us.length ≤ l.length) (hu : 0 < us.length) (hm : l.length = m) (hc : m ≤ c) (hl : m ≤ 100000) :
    Calls Tryz.prog 125 #[.slice (some ⟨b, 0, none⟩) m c, .int .i64 a, .string (bs us)] w fun r w' => r = .returned (.tuple #[]) ∧ St [b] w w' [.byt b (patL l a us)] := by
  have hsz : (bs us).size = us.length := bs_size us
  refine st_enter (N := 11) Tryz.func125 rfl rfl rfl (fun a0 h0 => ?_)
  have S0 := St.initByt hb
  refine st_reg ?_
  refine mv h0 rfl rfl fun a1 h1 => ?_
  refine mv h1 rfl rfl fun a2 h2 => ?_
  refine sl_val h2 (wn rfl) (ex_slice (l := a) (h := m) (sz := 1) Tryz.underlying161 (by kernel_rfl) (h2.ev rfl) (h2.ev rfl) rfl (by omega) hc (.inl (by omega)) rfl) rfl rfl fun a3 h3 => ?_
  refine mv h3 rfl rfl fun a4 h4 => ?_
  refine sl_copys h4 (wn rfl) rfl Tryz.underlying161 (by kernel_rfl) (h4.ev rfl) (h4.ev rfl) S0 (i := 0) rfl (by omega) fun a5 X5 hq5 S5 => ?_
  have h5 := hq5 rfl
  refine st_nil ?_
  refine fin0 h5 rfl ?_
  refine ⟨rfl, ?_⟩
  have e : patL l a us = l.take (0 + a * 1) ++ (bl (bs us)).take (m - a) ++ l.drop (0 + a * 1 + min (bs us).size (m - a)) := by
    rw [bl_bs, hsz, Nat.zero_add, Nat.mul_one, Nat.min_eq_left (by omega), List.take_of_length_le (l := us) (by omega)]; rfl
  rw [e]; exact S5
theorem dropWhile_all {l : List UInt8} {c : UInt8} (h : ∀ x ∈ l, x = c) : l.dropWhile (· == c) = [] := by
  induction l with
  | nil => rfl
  | cons x l ih =>
   rw [List.dropWhile_cons, if_pos (by rw [h x (by simp)]; simp)]
   exact ih fun y hy => h y (by simp [hy])
theorem trimB_all {l : List UInt8} {c : UInt8} (h : ∀ x ∈ l, x = c) : Lib.trimB l c = [] := by
  have e1 : Lib.trimRightB l c = [] := by
    unfold Lib.trimRightB
    have := dropWhile_all (l := l.reverse) (c := c) (fun x hx => h x (by simpa using hx))
    simp_all
  unfold Lib.trimB
  rw [e1]; rfl
theorem trim0_any (s : ByteArray) (w : World) (hs : s.size ≤ 100000) (hz : ∀ x ∈ bl s, x = 0) : Calls Tryz.prog 140 #[.string s, .string ⟨#[0]⟩] w fun e w' => e = .returned (.string ⟨#[]⟩) ∧ Below w.heap.size w w' := by
  refine (Tryz.strings_Trim_one s 0 (by decide) w (by omega)).mono ?_
  rintro e w' ⟨rfl, hw⟩
  refine ⟨by rw [show Lib.trimB s.data.toList 0 = [] from trimB_all hz], ?_⟩
  rcases hw with rfl | rfl
  · exact Below.refl _ _
  · exact ⟨rfl, rfl, rfl, Nat.le_refl _, fun _ _ => rfl⟩
theorem protect_ok (s : ByteArray) (n : Int) (hs : s.size = 512) (hz : ∀ i, 40 ≤ i → i < 58 → (bl s).getD i 0 = 0) (hn : 1 ≤ n ∧ n ≤ 65535) (w : World) :
    Calls Tryz.prog 120 #[.string s, .int .i64 n] w fun e w' => e = .returned (.tuple #[.string (bs (prL (bl s) n)), .int .i64 0]) ∧ Below w.heap.size w w' := by
  have hbl : (bl s).length = 512 := by rw [bl_length]; exact hs
  have hpk := fun k (hk : k ≤ 8) => (prK_spec n (bl s) hbl k hk).1
  have hsz2 : (s.extract 40 58).size = 18 := by rw [ByteArray.size_extract]; omega
  have hzz : ∀ x ∈ bl (s.extract 40 58), x = 0 := by
    intro x hx
    obtain ⟨j, hj, rfl⟩ := List.getElem_of_mem hx
    rw [bl_length, hsz2] at hj
    have e : bl (s.extract 40 58) = ((bl s).drop 40).take 18 := by
      unfold bl; rw [ByteArray.data_extract, Array.toList_extract, List.extract_eq_take_drop]
    have h1 := hz (40 + j) (by omega) (by omega)
    rw [List.getD_eq_getElem?_getD, List.getElem?_eq_getElem (by omega), Option.getD_some] at h1
    rw [← h1]
    simp only [e, List.getElem_take, List.getElem_drop]
  have hl2 : (lit n 2).length = 2 := lit_length n 2
  refine st_enter (N := 55) Tryz.func120 rfl rfl rfl (fun a0 h0 => ?_)
  have S0 := St.init w
  refine st_seq (st_reg ?_)
  refine ma h0 rfl rfl fun a1 h1 => ?_
  refine ma h1 rfl rfl fun a2 h2 => ?_
  refine st_nil (go_then (st_seq (st_seq (st_reg ?_))))
  refine mv h2 rfl rfl fun a3 h3 => ?_
  refine sl_pure h3 (wn rfl) (ex_call (fun _ _ => by kernel_rfl) (h3.evs rfl) rfl) rfl rfl (CheckBlock_any _ _) fun a4 h4 => ?_
  refine ma h4 rfl rfl fun a5 h5 => ?_
  refine st_nil (go_then (st_seq (st_reg ?_)))
  refine mv h5 rfl rfl fun a6 h6 => ?_
  refine sl_val h6 (wn rfl) (ex_neq (h6.ev rfl) (h6.ev rfl)) rfl rfl fun a7 h7 => ?_
  refine st_nil (go_then ?_)
  refine st_if_f (h7.ev rfl) ((by rw [hs]; rfl)) ?_
  refine wp_skip (go_then (st_seq (st_seq (st_reg ?_))))
  refine mv h7 rfl rfl fun a8 h8 => ?_
  refine sl_val h8 (wn rfl) (ex_sslice (l := 40) (h := 58) Tryz.underlying9 (h8.ev rfl) (h8.ev rfl) (h8.ev rfl) (by omega) (by omega)) rfl rfl fun a9 h9 => ?_
  refine sl_bel h9 (wn rfl) (ex_call (fun _ _ => by kernel_rfl) (h9.evs rfl) rfl) rfl rfl S0 (trim0_any _ _ (by omega) hzz) fun a10 X10 h10 S10 => ?_
  refine sl_val h10 (wn rfl) (ex_seql (h10.ev rfl) (h10.ev rfl)) rfl rfl fun a11 h11 => ?_
  refine sl_pure h11 (wn rfl) (ex_call (fun _ _ => by kernel_rfl) (h11.evs rfl) rfl) rfl rfl (disk_unless_any _ _ _) fun a12 h12 => ?_
  refine mv h12 rfl rfl fun a13 h13 => ?_
  refine sl_pure h13 (wn rfl) (ex_call (fun _ _ => by kernel_rfl) (h13.evs rfl) rfl) rfl rfl (disk_within_any _ _ _ _) fun a14 h14 => ?_
  refine sl_pure h14 (wn rfl) (ex_call (fun _ _ => by kernel_rfl) (h14.evs rfl) rfl) rfl rfl (disk_unless_any _ _ _) fun a15 h15 => ?_
  refine sl_new h15 (wn rfl) (f := fun b => .slice (some ⟨b, 0, none⟩) 2 2) (ex_bslice Tryz.underlying140 (by kernel_rfl) (by kernel_rfl) (h15.evs2 rfl) rfl rfl rfl (by decide) (by decide)) rfl rfl S10 fun b23 a16 X16 gb23 h16 S16 => ?_
  refine sl_pure h16 (wn rfl) (ex_call (fun _ _ => by kernel_rfl) (h16.evs rfl) rfl) rfl rfl (disk_first2 (S16.at_ (i := 0) rfl)) fun a17 h17 => ?_
  refine ma h17 rfl rfl fun a18 h18 => ?_
  refine st_nil (go_then (st_seq (st_reg ?_)))
  refine mv h18 rfl rfl fun a19 h19 => ?_
  refine sl_val h19 (wn rfl) (ex_neq (h19.ev rfl) (h19.ev rfl)) rfl rfl fun a20 h20 => ?_
  refine st_nil (go_then ?_)
  refine st_if_f (h20.ev rfl) ((by rw [show inB n 1 65535 = true from inB_true.2 hn]; rfl)) ?_
  refine wp_skip (go_then (st_seq (st_reg ?_)))
  refine mv h20 rfl rfl fun a21 h21 => ?_
  refine sl_bytes h21 (wn rfl) ⟨rfl, rfl⟩ rfl Tryz.underlying9 Tryz.underlying161 Tryz.underlying5 (h21.ev rfl) S16 fun b29 cb29 a22 X22 gb29 zb29 h22 S22 => ?_
  refine ma h22 rfl rfl fun a23 h23 => ?_
  refine st_nil (go_then (st_seq (st_reg ?_)))
  refine mv h23 rfl rfl fun a24 h24 => ?_
  refine mv h24 rfl rfl fun a25 h25 => ?_
  refine sl_bel h25 (wn rfl) (ex_call (fun _ _ => by kernel_rfl) (h25.evs rfl) rfl) rfl rfl S22 (dlittle_any _ _ (by omega)) fun a26 X26 h26 S26 => ?_
  refine sl_upd h26 (wn rfl) (ex_call (fun _ _ => by kernel_rfl) (h26.evs rfl) rfl) S26 (i := 0) rfl rfl (dput_any b29 cb29 40 s.size _ (lit n 2) _ (S26.at_ (i := 0) rfl) (by omega) (by omega) (by omega) (by omega) (by omega)) fun a27 X27 hq27 S27 => ?_
  have h27 := hq27 rfl
  refine st_nil (go_then (st_seq (st_seq (st_reg ?_))))
  refine mv h27 rfl rfl fun a28 h28 => ?_
  refine st_nil (go_then (wp_block ?_))
  refine st_loop h28 S27 [8, 5, 4, 1] (fun (k : Nat) => [(34, .int .i64 k)]) (fun (k : Nat) => k ≤ 8) (fun k L => L.set 0 (.byt b29 (prK n (bl s) k))) (fun (k : Nat) => 8 - k) (0) ((by omega)) ⟨rfl, rfl, rfl, rfl, rfl, trivial⟩ (S27) ?_
  intro k a29 X29 hF0 h29 S29
  refine st_seq (st_reg ?_)
  refine sl_val h29 (wn rfl) (ex_lss (h29.ev rfl) (h29.ev rfl)) rfl rfl fun a30 h30 => ?_
  refine st_nil (go_then (st_seq ?_))
  refine st_if (h30.ev rfl) (fun hc2 => ?_) (fun hc2 => ?_)
  · skip
    have hk : k < 8 := by have := of_decide_eq_true hc2; omega
    have hp := hpk k (by omega)
    have hta : tlA k = 64 * k + 62 := rfl
    have htk : (((prK n (bl s) k).drop (tlA k)).take 2).length = 2 := by rw [List.length_take, List.length_drop]; omega
    refine wp_skip (go_then (st_seq (wp_block (st_seq (st_reg ?_)))))
    refine mv h30 rfl rfl fun a31 h31 => ?_
    refine ma h31 rfl rfl fun a32 h32 => ?_
    refine st_nil (go_then (st_seq (st_reg ?_)))
    refine mv h32 rfl rfl fun a33 h33 => ?_
    refine mv h33 rfl rfl fun a34 h34 => ?_
    refine sl_val h34 (wn rfl) (ex_mul (h34.ev rfl) (h34.ev rfl) (by omega)) rfl rfl fun a35 h35 => ?_
    refine sl_val h35 (wn rfl) (as_val (v' := .int .i64 ((42 + 2 * k : Nat) : Int)) (congrArg _ (by omega)) (ex_add (h35.ev rfl) (h35.ev rfl) (by omega))) rfl rfl fun a36 h36 => ?_
    refine mv h36 rfl rfl fun a37 h37 => ?_
    refine mv h37 rfl rfl fun a38 h38 => ?_
    refine sl_pure h38 (wn rfl) (ex_call (fun _ _ => by kernel_rfl) (h38.evs rfl) rfl) rfl rfl (dtail_any _ _ (by omega)) fun a39 h39 => ?_
    refine sl_bel h39 (wn rfl) (ex_call (fun _ _ => by kernel_rfl) (h39.evs rfl) rfl) rfl rfl S29 (dat_any b29 cb29 (tlA k) s.size _ _ (S29.at_ (i := 0) rfl) (by omega) (by omega) (by omega) (by omega)) fun a40 X40 h40 S40 => ?_
    refine sl_upd h40 (wn rfl) (ex_call (fun _ _ => by kernel_rfl) (h40.evs rfl) rfl) S40 (i := 0) rfl rfl (dput_any b29 cb29 (42 + 2 * k) s.size _ _ _ (S40.at_ (i := 0) rfl) (by omega) (by omega) (by omega) (by omega) (by omega)) fun a41 X41 hq41 S41 => ?_
    have h41 := hq41 rfl
    refine st_nil (go_then (st_reg ?_))
    refine mv h41 rfl rfl fun a42 h42 => ?_
    refine mv h42 rfl rfl fun a43 h43 => ?_
    refine sl_pure h43 (wn rfl) (ex_call (fun _ _ => by kernel_rfl) (h43.evs rfl) rfl) rfl rfl (dtail_any _ _ (by omega)) fun a44 h44 => ?_
    refine mv h44 rfl rfl fun a45 h45 => ?_
    refine sl_bel h45 (wn rfl) (ex_call (fun _ _ => by kernel_rfl) (h45.evs rfl) rfl) rfl rfl S41 (dlittle_any _ _ (by omega)) fun a46 X46 h46 S46 => ?_
    refine sl_upd h46 (wn rfl) (ex_call (fun _ _ => by kernel_rfl) (h46.evs rfl) rfl) S46 (i := 0) rfl rfl (dput_any b29 cb29 (tlA k) s.size _ (lit n 2) _ (S46.at_ (i := 0) rfl) (by rw [patL_length (by omega)]; omega) (by omega) (by rw [patL_length (by omega)]; omega) (by omega) (by omega)) fun a47 X47 hq47 S47 => ?_
    have h47 := hq47 rfl
    refine st_nil (go_block (go_then (st_reg ?_)))
    refine sl_val h47 (wn rfl) (ex_add (h47.ev rfl) (h47.ev rfl) (by omega)) rfl rfl fun a48 h48 => ?_
    refine mv h48 rfl rfl fun a49 h49 => ?_
    refine st_nil (go_then ?_)
    exact ⟨k + 1, by omega, by omega, h49.re ⟨rfl, rfl, rfl, rfl, rfl, trivial⟩, S47⟩
  · skip
    have hk : k = 8 := by have := of_decide_eq_false hc2; omega
    subst hk
    refine wp_exit ?_
    refine go_exit_then ?_
    refine go_exit_then ?_
    refine go_exit ?_
    refine go_then (st_seq (st_reg ?_))
    refine mv h30 rfl rfl fun a50 h50 => ?_
    refine sl_val h50 (wn rfl) (ex_bstr Tryz.underlying161 Tryz.underlying5 Tryz.underlying9 (h50.ev rfl) (S29.bytStr (i := 0) (n := s.size) rfl (by rw [hpk 8 (by omega)]; omega)).1 (S29.bytStr (i := 0) (n := s.size) rfl (by rw [hpk 8 (by omega)]; omega)).2) rfl rfl fun a51 h51 => ?_
    refine ma h51 rfl rfl fun a52 h52 => ?_
    refine ma h52 rfl rfl fun a53 h53 => ?_
    refine st_nil (go_then (wp_ret ?_))
    refine fin2 h53 rfl rfl rfl ?_
    refine ⟨?_, S29.below⟩
    rw [List.drop_zero, List.take_of_length_le (by rw [hpk 8 (by omega)]; omega)]; rfl
def trnL (l : List UInt8) (k : Nat) : List Nat := (List.range k).filter fun i => trnB l i
def intV (k : Nat) : Value := .int .i64 k
theorem trnL_succ (l : List UInt8) (k : Nat) : trnL l (k + 1) = if trnB l k then trnL l k ++ [k] else trnL l k := by
  unfold trnL
  rw [List.range_succ, List.filter_append]
  cases h : trnB l k <;> simp [h]
theorem trnL_le (l : List UInt8) (k : Nat) : (trnL l k).length ≤ k := by
  have := List.length_filter_le (fun i => trnB l i) (List.range k)
  rw [List.length_range] at this; exact this
theorem g16_usn {l : List UInt8} (h : l.length = 512) : g16 (bl (bs ((l.drop 40).take 2))) 0 = usnL l := by
  have h2 : ((l.drop 40).take 2).length = 2 := by rw [List.length_take, List.length_drop]; omega
  rw [bl_bs, g16_nAt (by omega)]
  show num ((((l.drop 40).take 2).drop 0).take 2) = num ((l.drop 40).take 2)
  rw [List.drop_zero, List.take_take, Nat.min_self]
theorem bs_eq (a b : List UInt8) : decide (bs a = bs b) = (a == b) := by
  rw [Bool.eq_iff_iff, decide_eq_true_eq, beq_iff_eq]
  exact ⟨fun h => by rw [← bl_bs a, h, bl_bs], fun h => by rw [h]⟩
theorem trn_eq {l : List UInt8} (h : l.length = 512) (k : Nat) : (g16 (bl (bs ((l.drop 40).take 2))) 0 == 0 || !decide (bs ((l.drop (tlA k)).take 2) = bs ((l.drop 40).take 2))) = trnB l k := by
  rw [g16_usn h, bs_eq]; rfl
theorem torn_any (s : ByteArray) (hs : s.size = 512) (w : World) :
    Calls Tryz.prog 122 #[.string s] w fun e w' => ∃ A c, e = .returned (.slice A (trnL (bl s) 8).length c) ∧ w'.ownsRow w.heap.size 3 1 (.slice A (trnL (bl s) 8).length c) (trnL (bl s) 8).length ((trnL (bl s) 8).map intV) ∧ Below w.heap.size w w' := by
  have hbl : (bl s).length = 512 := by rw [bl_length]; exact hs
  refine st_enter (N := 30) Tryz.func122 rfl rfl rfl (fun a0 h0 => ?_)
  have S0 := St.init w
  refine st_seq (st_reg ?_)
  refine ma h0 rfl rfl fun a1 h1 => ?_
  refine st_nil (go_then (st_seq (st_reg ?_)))
  refine mv h1 rfl rfl fun a2 h2 => ?_
  refine sl_bytes h2 (wn rfl) ⟨rfl, rfl⟩ rfl Tryz.underlying9 Tryz.underlying161 Tryz.underlying5 (h2.ev rfl) S0 fun b7 cb7 a3 X3 gb7 zb7 h3 S3 => ?_
  refine ma h3 rfl rfl fun a4 h4 => ?_
  refine st_nil (go_then (st_seq (st_reg ?_)))
  refine ma h4 rfl rfl fun a5 h5 => ?_
  have S6 := S3.nilRow 3 1
  refine st_nil (go_then (st_seq (st_seq (st_reg ?_))))
  refine mv h5 rfl rfl fun a7 h7 => ?_
  refine st_nil (go_then (wp_block ?_))
  refine st_loop h7 S6 [3, 2] (fun (q : Nat × Option Addr × Nat) => [(8, .int .i64 (q.1 : Nat)), (4, .slice q.2.1 (trnL (bl s) q.1).length q.2.2)]) (fun (q : Nat × Option Addr × Nat) => q.1 ≤ 8) (fun q L => L.set 0 (.row (.slice q.2.1 (trnL (bl s) q.1).length q.2.2) (trnL (bl s) q.1).length 3 1 ((trnL (bl s) q.1).map intV))) (fun (q : Nat × Option Addr × Nat) => 8 - q.1) ((0, none, 0)) ((by show 0 ≤ 8; omega)) ⟨rfl, rfl, rfl, rfl, trivial⟩ (S6) ?_
  intro q a8 X8 hF0 h8 S8
  refine st_seq (st_reg ?_)
  refine sl_val h8 (wn rfl) (ex_lss (h8.ev rfl) (h8.ev rfl)) rfl rfl fun a9 h9 => ?_
  refine st_nil (go_then (st_seq ?_))
  refine st_if (h9.ev rfl) (fun hc0 => ?_) (fun hc0 => ?_)
  · skip
    have hk : q.1 < 8 := by have := of_decide_eq_true hc0; omega
    have hta : tlA q.1 = 64 * q.1 + 62 := rfl
    have hh2 : (bs (((bl s).drop 40).take 2)).size = 2 := by rw [bs_size, List.length_take, List.length_drop]; omega
    refine wp_skip (go_then (st_seq (wp_block (st_seq (st_reg ?_)))))
    refine mv h9 rfl rfl fun a10 h10 => ?_
    refine ma h10 rfl rfl fun a11 h11 => ?_
    refine st_nil (go_then (st_seq (st_reg ?_)))
    refine mv h11 rfl rfl fun a12 h12 => ?_
    refine sl_bel h12 (wn rfl) (ex_call (fun _ _ => by kernel_rfl) (h12.evs rfl) rfl) rfl rfl S8 (dat_any b7 cb7 40 s.size _ _ (S8.at_ (i := 1) rfl) (by omega) (by omega) (by omega) (by omega)) fun a13 X13 h13 S13 => ?_
    refine sl_bel h13 (wn rfl) (ex_call (fun _ _ => by kernel_rfl) (h13.evs rfl) rfl) rfl rfl S13 (dnumber_any _ _ (by omega)) fun a14 X14 h14 S14 => ?_
    refine sl_val h14 (wn rfl) (ex_eql (h14.ev rfl) (h14.ev rfl)) rfl rfl fun a15 h15 => ?_
    refine mv h15 rfl rfl fun a16 h16 => ?_
    apply sl_or h16 S14 15 rfl 8 23
    case hf =>
     intro gc15
     refine sl_val h16 (wanted_yes h16 _ rfl rfl rfl gc15) (ex_move (h16.ev rfl)) rfl rfl fun a17 h17 => ?_
     refine sl_val h17 (wanted_yes h17 _ rfl rfl rfl gc15) (ex_move (h17.ev rfl)) rfl rfl fun a18 h18 => ?_
     refine sl_pure h18 (wanted_yes h18 _ rfl rfl rfl gc15) (ex_call (fun _ _ => by kernel_rfl) (h18.evs rfl) rfl) rfl rfl (dtail_any _ _ (by omega)) fun a19 h19 => ?_
     refine sl_bel h19 (wanted_yes h19 _ rfl rfl rfl gc15) (ex_call (fun _ _ => by kernel_rfl) (h19.evs rfl) rfl) rfl rfl S14 (dat_any b7 cb7 (tlA q.1) s.size _ _ (S14.at_ (i := 1) rfl) (by omega) (by omega) (by omega) (by omega)) fun a20 X20 h20 S20 => ?_
     refine sl_val h20 (wanted_yes h20 _ rfl rfl rfl gc15) (ex_move (h20.ev rfl)) rfl rfl fun a21 h21 => ?_
     refine sl_bel h21 (wanted_yes h21 _ rfl rfl rfl gc15) (ex_call (fun _ _ => by kernel_rfl) (h21.evs rfl) rfl) rfl rfl S20 (dat_any b7 cb7 40 s.size _ _ (S20.at_ (i := 1) rfl) (by omega) (by omega) (by omega) (by omega)) fun a22 X22 h22 S22 => ?_
     refine sl_val h22 (wanted_yes h22 _ rfl rfl rfl gc15) (ex_sneq (h22.ev rfl) (h22.ev rfl)) rfl rfl fun a23 h23 => ?_
     refine sl_val h23 (wn rfl) (ex_pick_f (h23.ev rfl) gc15 (h23.ev rfl)) rfl rfl fun a24 h24 => ?_
     exact st_nil ⟨h24.mid (m := [(_, _), (_, _), (_, _), (_, _), (_, _), (_, _), (_, _)]) rfl, S22⟩
    case ht =>
     intro gc15
     refine sl_no h16 (wanted_no h16 _ rfl rfl rfl gc15) rfl rfl fun a25 h25 => ?_
     refine sl_no h25 (wanted_no h25 _ rfl rfl rfl gc15) rfl rfl fun a26 h26 => ?_
     refine sl_no h26 (wanted_no h26 _ rfl rfl rfl gc15) rfl rfl fun a27 h27 => ?_
     refine sl_no h27 (wanted_no h27 _ rfl rfl rfl gc15) rfl rfl fun a28 h28 => ?_
     refine sl_no h28 (wanted_no h28 _ rfl rfl rfl gc15) rfl rfl fun a29 h29 => ?_
     refine sl_no h29 (wanted_no h29 _ rfl rfl rfl gc15) rfl rfl fun a30 h30 => ?_
     refine sl_no h30 (wanted_no h30 _ rfl rfl rfl gc15) rfl rfl fun a31 h31 => ?_
     refine sl_val h31 (wn rfl) (ex_pick_t (h31.ev rfl) gc15 (h31.ev rfl)) rfl rfl fun a32 h32 => ?_
     exact st_nil ⟨h32.mid (m := [(_, _), (_, _), (_, _), (_, _), (_, _), (_, _), (_, _)]) rfl, S14⟩
    case h =>
     rintro a33 X33 ⟨h33, S33⟩
     refine st_nil (go_then ?_)
     refine st_if (h33.ev rfl) (fun hc1 => ?_) (fun hc1 => ?_)
     · skip
       rw [trn_eq hbl] at hc1
       have e1 : (trnL (bl s) q.1).length + 1 = (trnL (bl s) (q.1 + 1)).length := by rw [trnL_succ, if_pos hc1]; simp
       have hle := trnL_le (bl s) q.1
       have e2 : (trnL (bl s) q.1).map intV ++ #[Value.int .i64 (q.1 : Int)].toList = (trnL (bl s) (q.1 + 1)).map intV := by rw [trnL_succ, if_pos hc1, List.map_append]; rfl
       refine st_reg ?_
       refine mv h33 rfl rfl fun a34 h34 => ?_
       refine mv h34 rfl rfl fun a35 h35 => ?_
       refine sl_new h35 (wn rfl) (f := fun b => .slice (some ⟨b, 0, none⟩) 1 1) (ex_bslice Tryz.underlying159 (by kernel_rfl) (by kernel_rfl) (h35.evs2 rfl) rfl rfl rfl (by decide) (by decide)) rfl rfl S33 fun b26 a36 X36 gb26 h36 S36 => ?_
       refine sl_append (z := .int .i64 0) (sz := 1) (bytes := 8) h36 (wn rfl) ⟨rfl, rfl⟩ rfl Tryz.underlying159 (by kernel_rfl) rfl rfl (h36.ev rfl) (h36.ev rfl) S36 (i := 1) rfl (S36.boxRd (i := 0) rfl) rfl (List.all_eq_true.1 rfl) ⟨(by show (trnL (bl s) q.1).length + 1 ≤ 1000000; omega), by decide⟩ fun A27 c27 a37 X37 h37 S37 => ?_
       refine ma h37 rfl rfl fun a38 h38 => ?_
       rw [e1] at h38 S37
       rw [e2] at S37
       refine st_nil (go_block (go_then (st_reg ?_)))
       refine sl_val h38 (wn rfl) (ex_add (h38.ev rfl) (h38.ev rfl) (by omega)) rfl rfl fun a39 h39 => ?_
       refine mv h39 rfl rfl fun a40 h40 => ?_
       refine st_nil (go_then ?_)
       exact ⟨(q.1 + 1, A27, c27), (by show 8 - (q.1 + 1) < 8 - q.1; omega), hk, h40.re ⟨rfl, rfl, rfl, rfl, trivial⟩, S37.sub (.cons _ (.cons_cons _ (.cons_cons _ .slnil)))⟩
     · skip
       rw [trn_eq hbl] at hc1
       have e3 : trnL (bl s) q.1 = trnL (bl s) (q.1 + 1) := by rw [trnL_succ, if_neg (by rw [hc1]; simp)]
       rw [e3] at h33 S33
       refine wp_skip (go_block (go_then (st_reg ?_)))
       refine sl_val h33 (wn rfl) (ex_add (h33.ev rfl) (h33.ev rfl) (by omega)) rfl rfl fun a41 h41 => ?_
       refine mv h41 rfl rfl fun a42 h42 => ?_
       refine st_nil (go_then ?_)
       exact ⟨(q.1 + 1, q.2), (by show 8 - (q.1 + 1) < 8 - q.1; omega), hk, h42.re ⟨rfl, rfl, rfl, rfl, trivial⟩, S33⟩
  · skip
    have hk : q.1 = 8 := by have := of_decide_eq_false hc0; omega
    refine wp_exit ?_
    refine go_exit_then ?_
    refine go_exit_then ?_
    refine go_exit ?_
    refine go_then (st_seq (st_reg ?_))
    refine mv h9 rfl rfl fun a43 h43 => ?_
    refine ma h43 rfl rfl fun a44 h44 => ?_
    refine st_nil (go_then (wp_ret ?_))
    refine fin1 h44 rfl rfl ?_
    rw [hk] at S8
    exact ⟨_, _, by rw [← hk], S8.ownB (i := 0) rfl, S8.below⟩
theorem opK_at {s : List UInt8} (hs : s.length = 512) (k j : Nat) (hk : k ≤ 8) (hj : j < 8) : ((opK s k).drop (42 + 2 * j)).take 2 = (s.drop (42 + 2 * j)).take 2 := by
  obtain ⟨h1, h2⟩ := opK_spec s hs k hk
  rw [take2_drop _ _ (by omega), take2_drop _ _ (by omega), h2 _ (by omega), h2 _ (by omega)]
  unfold opF
  rw [if_neg (by omega), if_neg (by omega)]
def opnE (s : List UInt8) : Int := if s.length ≠ 512 then 10 else if opB s = false then 31 else 0
theorem opB_trn (l : List UInt8) : opB l = decide ((trnL l 8).length = 0) := by
  unfold opB trnL
  rw [Bool.eq_iff_iff, decide_eq_true_eq, List.length_eq_zero_iff, List.filter_eq_nil_iff, List.all_eq_true]
  exact ⟨fun h a ha => by have := h a ha; simpa using this, fun h a ha => by have := h a ha; simpa using this⟩
theorem OpenBlock_any (s : ByteArray) (w : World) (hl : s.size ≤ 1000000) :
    Calls Tryz.prog 87 #[.string s] w fun e w' => e = .returned (.tuple #[.string (if opnE (bl s) = 0 then bs (opL (bl s)) else ⟨#[]⟩), .int .i64 (if opnE (bl s) = 0 then usnL (bl s) else 0), .int .i64 (opnE (bl s))]) ∧ Below w.heap.size w w' := by
  refine st_enter (N := 41) Tryz.func87 rfl rfl rfl (fun a0 h0 => ?_)
  have S0 := St.init w
  refine st_seq (st_reg ?_)
  refine ma h0 rfl rfl fun a1 h1 => ?_
  refine ma h1 rfl rfl fun a2 h2 => ?_
  refine ma h2 rfl rfl fun a3 h3 => ?_
  refine st_nil (go_then (st_seq (st_seq (st_reg ?_))))
  refine mv h3 rfl rfl fun a4 h4 => ?_
  refine sl_pure h4 (wn rfl) (ex_call (fun _ _ => by kernel_rfl) (h4.evs rfl) rfl) rfl rfl (CheckBlock_any _ _) fun a5 h5 => ?_
  refine ma h5 rfl rfl fun a6 h6 => ?_
  refine st_nil (go_then (st_seq (st_reg ?_)))
  refine mv h6 rfl rfl fun a7 h7 => ?_
  refine sl_val h7 (wn rfl) (ex_neq (h7.ev rfl) (h7.ev rfl)) rfl rfl fun a8 h8 => ?_
  refine st_nil (go_then ?_)
  refine st_if (h8.ev rfl) (fun hc0 => ?_) (fun hc0 => ?_)
  · skip
    have hs : ¬ s.size = 512 := by intro h; rw [h] at hc0; exact absurd hc0 (by decide)
    have hE : opnE (bl s) = 10 := by unfold opnE; rw [bl_length, if_pos hs]
    have hv : unl (s.size == 512) 10 = 10 := by rw [show (s.size == 512) = false by simpa using hs]; rfl
    refine st_seq (st_reg ?_)
    refine mv h8 rfl rfl fun a9 h9 => ?_
    refine ma h9 rfl rfl fun a10 h10 => ?_
    refine ma h10 rfl rfl fun a11 h11 => ?_
    refine ma h11 rfl rfl fun a12 h12 => ?_
    refine st_nil (go_then (wp_ret (ret_then ?_)))
    refine fin3 h12 rfl rfl rfl rfl ?_
    exact ⟨by rw [if_neg (by rw [hE]; decide), if_neg (by rw [hE]; decide), hE, hv], S0.below⟩
  · skip
    have hs : s.size = 512 := by
      cases h : (s.size == 512) with
      | true => simpa using h
      | false => rw [h] at hc0; exact absurd hc0 (by decide)
    have hbl : (bl s).length = 512 := by rw [bl_length]; exact hs
    have hok := fun k (hk : k ≤ 8) => (opK_spec (bl s) hbl k hk).1
    refine wp_skip (go_then (st_seq (st_seq (st_reg ?_))))
    refine mv h8 rfl rfl fun a13 h13 => ?_
    refine sl_own h13 (wn rfl) (ex_call (fun _ _ => by kernel_rfl) (h13.evs rfl) rfl) rfl rfl S0 (torn_any _ hs _) (Nat.le_refl _) fun A15 c15 a14 X14 h14 S14 => ?_
    refine sl_val h14 (wn rfl) (ex_len Tryz.underlying159 (h14.ev rfl)) rfl rfl fun a15 h15 => ?_
    refine sl_val h15 (wn rfl) (ex_gtr (h15.ev rfl) (h15.ev rfl)) rfl rfl fun a16 h16 => ?_
    refine st_nil (go_then ?_)
    refine st_if (h16.ev rfl) (fun hc1 => ?_) (fun hc1 => ?_)
    · skip
      have hB : opB (bl s) = false := by rw [opB_trn, decide_eq_false_iff_not]; have := of_decide_eq_true hc1; omega
      have hE : opnE (bl s) = 31 := by unfold opnE; rw [if_neg (by simpa using hbl), if_pos hB]
      refine st_seq (st_reg ?_)
      refine ma h16 rfl rfl fun a17 h17 => ?_
      refine ma h17 rfl rfl fun a18 h18 => ?_
      refine ma h18 rfl rfl fun a19 h19 => ?_
      refine st_nil (go_then (wp_ret (ret_then ?_)))
      refine fin3 h19 rfl rfl rfl rfl ?_
      exact ⟨by rw [if_neg (by rw [hE]; decide), if_neg (by rw [hE]; decide), hE], S14.below⟩
    · skip
      have hB : opB (bl s) = true := by rw [opB_trn, decide_eq_true_eq]; have := of_decide_eq_false hc1; omega
      have hE : opnE (bl s) = 0 := by unfold opnE; rw [if_neg (by simpa using hbl), if_neg (by rw [hB]; decide)]
      refine wp_skip (go_then (st_seq (st_reg ?_)))
      refine mv h16 rfl rfl fun a20 h20 => ?_
      refine sl_bytes h20 (wn rfl) ⟨rfl, rfl⟩ rfl Tryz.underlying9 Tryz.underlying161 Tryz.underlying5 (h20.ev rfl) S14 fun b19 cb19 a21 X21 gb19 zb19 h21 S21 => ?_
      refine ma h21 rfl rfl fun a22 h22 => ?_
      refine st_nil (go_then (st_seq (st_reg ?_)))
      refine mv h22 rfl rfl fun a23 h23 => ?_
      refine sl_bel h23 (wn rfl) (ex_call (fun _ _ => by kernel_rfl) (h23.evs rfl) rfl) rfl rfl S21 (dat_any b19 cb19 40 s.size _ _ (S21.at_ (i := 0) rfl) (by omega) (by omega) (by omega) (by omega)) fun a24 X24 h24 S24 => ?_
      refine sl_bel h24 (wn rfl) (ex_call (fun _ _ => by kernel_rfl) (h24.evs rfl) rfl) rfl rfl S24 (dnumber_any _ _ (by rw [bs_size, List.length_take, List.length_drop]; omega)) fun a25 X25 h25 S25 => ?_
      refine ma h25 rfl rfl fun a26 h26 => ?_
      refine st_nil (go_then (st_seq (st_seq (st_reg ?_))))
      refine mv h26 rfl rfl fun a27 h27 => ?_
      refine st_nil (go_then (wp_block ?_))
      refine st_loop h27 S25 [7, 6, 4, 3, 2] (fun (k : Nat) => [(23, .int .i64 k)]) (fun (k : Nat) => k ≤ 8) (fun k L => L.set 0 (.byt b19 (opK (bl s) k))) (fun (k : Nat) => 8 - k) (0) ((by omega)) ⟨rfl, rfl, rfl, rfl, rfl, rfl, trivial⟩ (S25) ?_
      intro k a28 X28 hF0 h28 S28
      refine st_seq (st_reg ?_)
      refine sl_val h28 (wn rfl) (ex_lss (h28.ev rfl) (h28.ev rfl)) rfl rfl fun a29 h29 => ?_
      refine st_nil (go_then (st_seq ?_))
      refine st_if (h29.ev rfl) (fun hc2 => ?_) (fun hc2 => ?_)
      · skip
        have hk : k < 8 := by have := of_decide_eq_true hc2; omega
        have hp := hok k (by omega)
        have hta : tlA k = 64 * k + 62 := rfl
        have htk : (((opK (bl s) k).drop (42 + 2 * k)).take 2).length = 2 := by rw [List.length_take, List.length_drop]; omega
        refine wp_skip (go_then (st_seq (wp_block (st_seq (st_reg ?_)))))
        refine mv h29 rfl rfl fun a30 h30 => ?_
        refine ma h30 rfl rfl fun a31 h31 => ?_
        refine st_nil (go_then (st_reg ?_))
        refine mv h31 rfl rfl fun a32 h32 => ?_
        refine mv h32 rfl rfl fun a33 h33 => ?_
        refine sl_pure h33 (wn rfl) (ex_call (fun _ _ => by kernel_rfl) (h33.evs rfl) rfl) rfl rfl (dtail_any _ _ (by omega)) fun a34 h34 => ?_
        refine mv h34 rfl rfl fun a35 h35 => ?_
        refine mv h35 rfl rfl fun a36 h36 => ?_
        refine sl_val h36 (wn rfl) (ex_mul (h36.ev rfl) (h36.ev rfl) (by omega)) rfl rfl fun a37 h37 => ?_
        refine sl_val h37 (wn rfl) (as_val (v' := .int .i64 ((42 + 2 * k : Nat) : Int)) (congrArg _ (by omega)) (ex_add (h37.ev rfl) (h37.ev rfl) (by omega))) rfl rfl fun a38 h38 => ?_
        refine sl_bel h38 (wn rfl) (ex_call (fun _ _ => by kernel_rfl) (h38.evs rfl) rfl) rfl rfl S28 (dat_any b19 cb19 (42 + 2 * k) s.size _ _ (S28.at_ (i := 0) rfl) (by omega) (by omega) (by omega) (by omega)) fun a39 X39 h39 S39 => ?_
        refine sl_upd h39 (wn rfl) (ex_call (fun _ _ => by kernel_rfl) (h39.evs rfl) rfl) S39 (i := 0) rfl rfl (dput_any b19 cb19 (tlA k) s.size _ _ _ (S39.at_ (i := 0) rfl) (by omega) (by omega) (by omega) (by omega) (by omega)) fun a40 X40 hq40 S40 => ?_
        have h40 := hq40 rfl
        rw [opK_at hbl k k (by omega) hk] at S40
        refine st_nil (go_block (go_then (st_reg ?_)))
        refine sl_val h40 (wn rfl) (ex_add (h40.ev rfl) (h40.ev rfl) (by omega)) rfl rfl fun a41 h41 => ?_
        refine mv h41 rfl rfl fun a42 h42 => ?_
        refine st_nil (go_then ?_)
        exact ⟨k + 1, by omega, by omega, h42.re ⟨rfl, rfl, rfl, rfl, rfl, rfl, trivial⟩, S40⟩
      · skip
        have hk : k = 8 := by have := of_decide_eq_false hc2; omega
        subst hk
        have hp := hok 8 (by omega)
        refine wp_exit ?_
        refine go_exit_then ?_
        refine go_exit_then ?_
        refine go_exit ?_
        refine go_then (st_seq (st_reg ?_))
        refine mv h29 rfl rfl fun a43 h43 => ?_
        refine sl_val h43 (wn rfl) (ex_slice (l := 40) (h := 58) (sz := 1) Tryz.underlying161 (by kernel_rfl) (h43.ev rfl) (h43.ev rfl) (h43.ev rfl) (by omega) (by omega) (.inl (by omega)) rfl) rfl rfl fun a44 h44 => ?_
        refine sl_bclear h44 (wn rfl) ⟨rfl, rfl⟩ Tryz.underlying161 (by kernel_rfl) (h44.ev rfl) S28 (i := 0) rfl (by omega) fun X45 S45 => ?_
        refine st_nil (go_then (st_seq (st_reg ?_)))
        refine mv h44 rfl rfl fun a46 h46 => ?_
        refine sl_val h46 (wn rfl) (ex_bstr Tryz.underlying161 Tryz.underlying5 Tryz.underlying9 (h46.ev rfl) (S45.bytStr (i := 0) (n := s.size) rfl (by show 0 + s.size ≤ (opL (bl s)).length; rw [opL_length hbl]; omega)).1 (S45.bytStr (i := 0) (n := s.size) rfl (by show 0 + s.size ≤ (opL (bl s)).length; rw [opL_length hbl]; omega)).2) rfl rfl fun a47 h47 => ?_
        refine mv h47 rfl rfl fun a48 h48 => ?_
        refine ma h48 rfl rfl fun a49 h49 => ?_
        refine ma h49 rfl rfl fun a50 h50 => ?_
        refine ma h50 rfl rfl fun a51 h51 => ?_
        refine st_nil (go_then (wp_ret ?_))
        refine fin3 h51 rfl rfl rfl rfl ?_
        refine ⟨?_, S45.below⟩
        rw [if_pos hE, if_pos hE, hE, g16_usn hbl]
        show Ending.returned (.tuple #[.string (bs (((opL (bl s)).drop 0).take s.size)), _, _]) = _
        rw [List.drop_zero, List.take_of_length_le (by rw [opL_length hbl]; omega)]
end Go.Proofs.YtmlilplbdpjfcaaGreatDoor
