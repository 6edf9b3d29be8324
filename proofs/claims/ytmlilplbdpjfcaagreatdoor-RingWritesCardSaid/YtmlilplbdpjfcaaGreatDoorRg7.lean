/-
  Chapter 20: numbers in bytes, the bytes of a record.
-/
import Derived.Test.YtmlilplbdpjfcaaGreatDoorRg6
import Derived.Test.YtmlilplbdpjfcaaGreatDoorSums
import Derived.Test.YtmlilplbdpjfcaaGreatDoorRgP3
namespace Go.Proofs.YtmlilplbdpjfcaaGreatDoor
set_option linter.unusedVariables false
set_option linter.unusedSimpArgs false
set_option maxRecDepth 4000
open Go.RowKit Go.Sort
theorem u16_wrap {m : Int} : IntKind.u16.wrap m = m % 65536 := by
  have := wrap_u16 (n := m % 65536) (by omega)
  rw [← this]
  simp [IntKind.wrap, IntKind.bits, IntKind.signed]
theorem lit2_bytes (m : Int) : [Value.int .u8 (IntKind.u8.wrap m), .int .u8 (IntKind.u8.wrap (m / 2 ^ 8))] = (lit m 2).map byteV := by
  rw [byt_u8, byt_u8]; rfl
theorem lit4_split (m : Int) : lit m 4 = lit (m % 65536) 2 ++ [UInt8.ofNat (m / 2 ^ 16 % 256).toNat, UInt8.ofNat (m / 2 ^ 24 % 256).toNat] := by
  have h1 : m % 65536 % 256 = m % 256 := by omega
  have h2 : m % 65536 / 256 % 256 = m / 256 % 256 := by omega
  have h3 : m / 256 / 256 % 256 = m / 2 ^ 16 % 256 := by omega
  have h4 : m / 256 / 256 / 256 % 256 = m / 2 ^ 24 % 256 := by omega
  simp only [lit, List.cons_append, List.nil_append, h1, h2, h3, h4]
theorem append16_any (v : Value) (n : Nat) (us : List UInt8) (m : Int) (h0 : 0 ≤ m) (w : World) (ho : w.ownsRow 0 5 1 v n (us.map byteV)) (hn : n ≤ 100000) :
    Calls Tryz.prog 135 #[v, .int .u16 m] w fun r w' => ∃ A c, r = .returned (.slice A (n + 2) c) ∧ St v.ownBlock.toList w w' [.row (.slice A (n + 2) c) (n + 2) 5 1 ((us ++ lit m 2).map byteV)] := by
  refine st_enter (N := 13) Tryz.func135 rfl rfl rfl (fun a0 h0 => ?_)
  have S0 := St.initO ho
  refine st_seq (st_reg ?_)
  refine ma h0 rfl rfl fun a1 h1 => ?_
  refine st_nil (go_then (st_seq (st_reg ?_)))
  refine mv h1 rfl rfl fun a2 h2 => ?_
  refine mv h2 rfl rfl fun a3 h3 => ?_
  refine sl_val h3 (wn rfl) (ex_conv (k0 := .i64) (by kernel_rfl) Tryz.underlying5 (h3.ev rfl)) rfl rfl fun a4 h4 => ?_
  refine mv h4 rfl rfl fun a5 h5 => ?_
  refine sl_val h5 (wn rfl) (ex_shr (n := 8) (h5.ev rfl) (h5.ev rfl) rfl (by omega)) rfl rfl fun a6 h6 => ?_
  refine sl_val h6 (wn rfl) (ex_conv (k0 := .i64) (by kernel_rfl) Tryz.underlying5 (h6.ev rfl)) rfl rfl fun a7 h7 => ?_
  refine sl_new h7 (wn rfl) (f := fun b => .slice (some ⟨b, 0, none⟩) 2 2) (ex_bslice Tryz.underlying130 (by kernel_rfl) (by kernel_rfl) (h7.evs2 rfl) rfl rfl rfl (by decide) (by decide)) rfl rfl S0 fun b11 a8 X8 gb11 h8 S8 => ?_
  refine sl_append (z := .int .u8 0) (sz := 1) (bytes := 1) h8 (wn rfl) ⟨rfl, rfl⟩ rfl Tryz.underlying130 (by kernel_rfl) rfl rfl (h8.ev rfl) (h8.ev rfl) S8 (i := 1) rfl (S8.boxRd (i := 0) rfl) rfl (List.all_eq_true.1 rfl) ⟨(by omega), by decide⟩ fun A12 c12 a9 X9 h9 S9 => ?_
  refine ma h9 rfl rfl fun a10 h10 => ?_
  refine st_nil (go_then (wp_ret ?_))
  refine fin1 h10 rfl rfl ?_
  refine ⟨A12, c12, rfl, ?_⟩
  have q := (S9.sub (.cons _ (.cons_cons _ .slnil)))
  rw [List.map_append, ← lit2_bytes]; exact q
theorem append32_any (v : Value) (n : Nat) (us : List UInt8) (m : Int) (h0 : 0 ≤ m) (w : World) (ho : w.ownsRow 0 5 1 v n (us.map byteV)) (hn : n ≤ 90000) :
    Calls Tryz.prog 136 #[v, .int .u32 m] w fun r w' => ∃ A c, r = .returned (.slice A (n + 2 + 2) c) ∧ St v.ownBlock.toList w w' [.row (.slice A (n + 2 + 2) c) (n + 2 + 2) 5 1 ((us ++ lit m 4).map byteV)] := by
  refine st_enter (N := 17) Tryz.func136 rfl rfl rfl (fun a0 h0 => ?_)
  have S0 := St.initO ho
  refine st_seq (st_reg ?_)
  refine ma h0 rfl rfl fun a1 h1 => ?_
  refine st_nil (go_then (st_seq (st_reg ?_)))
  refine mv h1 rfl rfl fun a2 h2 => ?_
  refine mv h2 rfl rfl fun a3 h3 => ?_
  refine sl_val h3 (wn rfl) (ex_conv (k0 := .i64) (by kernel_rfl) Tryz.underlying151 (h3.ev rfl)) rfl rfl fun a4 h4 => ?_
  refine sl_grow h4 (wn rfl) (ex_call (fun _ _ => by kernel_rfl) (h4.evs rfl) rfl) rfl rfl S0 (i := 0) rfl (append16_any _ _ us _ (by rw [u16_wrap]; omega) _ (S0.at_ (i := 0) rfl) (by omega)) fun A8 c8 a5 X5 h5 S5 => ?_
  refine mv h5 rfl rfl fun a6 h6 => ?_
  refine sl_val h6 (wn rfl) (ex_shr (n := 16) (h6.ev rfl) (h6.ev rfl) rfl (by omega)) rfl rfl fun a7 h7 => ?_
  refine sl_val h7 (wn rfl) (ex_conv (k0 := .i64) (by kernel_rfl) Tryz.underlying5 (h7.ev rfl)) rfl rfl fun a8 h8 => ?_
  refine mv h8 rfl rfl fun a9 h9 => ?_
  refine sl_val h9 (wn rfl) (ex_shr (n := 24) (h9.ev rfl) (h9.ev rfl) rfl (by omega)) rfl rfl fun a10 h10 => ?_
  refine sl_val h10 (wn rfl) (ex_conv (k0 := .i64) (by kernel_rfl) Tryz.underlying5 (h10.ev rfl)) rfl rfl fun a11 h11 => ?_
  refine sl_new h11 (wn rfl) (f := fun b => .slice (some ⟨b, 0, none⟩) 2 2) (ex_bslice Tryz.underlying130 (by kernel_rfl) (by kernel_rfl) (h11.evs2 rfl) rfl rfl rfl (by decide) (by decide)) rfl rfl S5 fun b15 a12 X12 gb15 h12 S12 => ?_
  refine sl_append (z := .int .u8 0) (sz := 1) (bytes := 1) h12 (wn rfl) ⟨rfl, rfl⟩ rfl Tryz.underlying130 (by kernel_rfl) rfl rfl (h12.ev rfl) (h12.ev rfl) S12 (i := 1) rfl (S12.boxRd (i := 0) rfl) rfl (List.all_eq_true.1 rfl) ⟨(by omega), by decide⟩ fun A16 c16 a13 X13 h13 S13 => ?_
  refine ma h13 rfl rfl fun a14 h14 => ?_
  refine st_nil (go_then (wp_ret ?_))
  refine fin1 h14 rfl rfl ?_
  refine ⟨A16, c16, rfl, ?_⟩
  have q := (S13.sub (.cons _ (.cons_cons _ .slnil)))
  have e : (us ++ lit m 4).map byteV = (us ++ lit (IntKind.u16.wrap m) 2).map byteV ++ [.int .u8 (IntKind.u8.wrap (m / 2 ^ 16)), .int .u8 (IntKind.u8.wrap (m / 2 ^ 24))] := by
    rw [byt_u8, byt_u8, lit4_split, u16_wrap]; simp only [List.map_append, List.append_assoc]; rfl
  rw [e]; exact q
theorem sum_any (s : ByteArray) (w : World) (h : s.size ≤ 100000) : Calls Tryz.prog 137 #[.string s] w fun e w' => e = .returned (.int .i64 (sumL (bl s) 0)) ∧ Below w.heap.size w w' := by
  refine st_enter (N := 11) Tryz.func137 rfl rfl rfl (fun a0 h0 => ?_)
  have S0 := St.init w
  refine st_seq (st_reg ?_)
  refine ma h0 rfl rfl fun a1 h1 => ?_
  refine st_nil (go_then (st_seq (st_reg ?_)))
  refine mv h1 rfl rfl fun a2 h2 => ?_
  refine sl_bel h2 (wn rfl) (ex_call (fun _ _ => by kernel_rfl) (h2.evs rfl) rfl) rfl rfl S0 (SumOf_any _ _ (by unfold maxLen; omega) (by omega)) fun a3 X3 h3 S3 => ?_
  refine mv h3 rfl rfl fun a4 h4 => ?_
  refine sl_val h4 (wn rfl) (ex_extract (h4.ev rfl) rfl) rfl rfl fun a5 h5 => ?_
  refine sl_val h5 (wn rfl) (ex_extract (h5.ev rfl) rfl) rfl rfl fun a6 h6 => ?_
  refine ma h6 rfl rfl fun a7 h7 => ?_
  refine ma h7 rfl rfl fun a8 h8 => ?_
  refine st_nil (go_then (st_seq (st_reg ?_)))
  refine mv h8 rfl rfl fun a9 h9 => ?_
  refine ma h9 rfl rfl fun a10 h10 => ?_
  refine st_nil (go_then (wp_ret ?_))
  refine fin1 h10 rfl rfl ?_
  exact ⟨rfl, S3.below⟩
def g16 (l : List UInt8) (o : Nat) : Int := (l.getD o 0).toNat + 256 * (l.getD (o + 1) 0).toNat
def g32 (l : List UInt8) (o : Nat) : Int := g16 l o + 65536 * g16 l (o + 2)
theorem g16_bd (l : List UInt8) (o : Nat) : 0 ≤ g16 l o ∧ g16 l o < 65536 := by
  have h1 := (l.getD o 0).toNat_lt
  have h2 := (l.getD (o + 1) 0).toNat_lt
  unfold g16; omega
theorem g32_bd (l : List UInt8) (o : Nat) : 0 ≤ g32 l o ∧ g32 l o < 4294967296 := by
  have h1 := g16_bd l o
  have h2 := g16_bd l (o + 2)
  unfold g32; omega
theorem g16_nAt {l : List UInt8} {o : Nat} (h : o + 2 ≤ l.length) : g16 l o = nAt l o 2 := by
  unfold nAt g16
  rw [take2_drop l o h]
  simp [num]
theorem get16_any (b o n c : Nat) (l : List UInt8) (w : World) (hb : BytB w b l) (h : o + 2 ≤ l.length) (hn : 2 ≤ n) :
    Calls Tryz.prog 111 #[.slice (some ⟨b, o, none⟩) n c] w fun e w' => e = .returned (.int .u16 (g16 l o)) ∧ Below w.heap.size w w' := by
  have u1 := (l.getD o 0).toNat_lt
  have u2 := (l.getD (o + 1) 0).toNat_lt
  refine st_enter (N := 13) Tryz.func111 rfl rfl rfl (fun a0 h0 => ?_)
  have S0 := St.init w
  refine st_seq (st_reg ?_)
  refine ma h0 rfl rfl fun a1 h1 => ?_
  refine st_nil (go_then (st_seq ?_))
  apply dr_flow h1 [false, false, false, false, false, false, false, false, false] _ (by kernel_rfl)
  case h =>
   refine sq_val h1 (wn rfl) rfl rfl (fun X hX => (ex_move (h1.ev rfl))) fun a2 h2 => ?_
   refine sq_val h2 (wn rfl) rfl rfl (fun X hX => (ex_index (i := 0) (sz := 1) Tryz.underlying130 (by kernel_rfl) (h2.ev rfl) (h2.ev rfl) (by omega) (by omega) rfl)) fun a3 h3 => ?_
   refine sq_val (v := byteV (l.getD o 0)) h3 (wn rfl) rfl rfl (fun X hX => (ex_load (by kernel_rfl) (h3.ev rfl) ((bytAt (i := 0) (byt_below hb (S0.grow hX).below) (by omega)) 0 _ rfl))) fun a4 h4 => ?_
   refine sq_val h4 (wn rfl) rfl rfl (fun X hX => (ex_convin (by kernel_rfl) Tryz.underlying151 (h4.ev rfl) (wrap_u16 (by omega)))) fun a5 h5 => ?_
   refine sq_val h5 (wn rfl) rfl rfl (fun X hX => (ex_move (h5.ev rfl))) fun a6 h6 => ?_
   refine sq_val h6 (wn rfl) rfl rfl (fun X hX => (ex_index (i := 1) (sz := 1) Tryz.underlying130 (by kernel_rfl) (h6.ev rfl) (h6.ev rfl) (by omega) (by omega) rfl)) fun a7 h7 => ?_
   refine sq_val (v := byteV (l.getD (o + 1) 0)) h7 (wn rfl) rfl rfl (fun X hX => (ex_load (by kernel_rfl) (h7.ev rfl) ((bytAt (i := 1) (byt_below hb (S0.grow hX).below) (by omega)) 0 _ rfl))) fun a8 h8 => ?_
   refine sq_val h8 (wn rfl) rfl rfl (fun X hX => (ex_convin (by kernel_rfl) Tryz.underlying151 (h8.ev rfl) (wrap_u16 (by omega)))) fun a9 h9 => ?_
   refine sq_val h9 (wn rfl) rfl rfl (fun X hX => (ex_shl (n := 8) (r := ((l.getD (o + 1) 0).toNat : Int) * 256) (h9.ev rfl) (h9.ev rfl) rfl (by rw [wrap_u16 (by omega)]; omega))) fun a10 h10 => ?_
   refine sq_nil ?_
   refine nd_end fun X11 hX11 hΦ11 => ?_
   have S11 := S0.grow hX11
   refine sl_val h10 (wn rfl) (ex_bits (r := g16 l o) rfl (h10.ev rfl) (h10.ev rfl) (bits_or16 u1 u2)) rfl rfl fun a12 h12 => ?_
   refine ma h12 rfl rfl fun a13 h13 => ?_
   refine st_nil (go_then (wp_ret ?_))
   refine fin1 h13 rfl rfl ?_
   exact ⟨rfl, S11.below⟩
  case hB => kernel_rfl
  case hst => rfl
theorem get32_any (b o n c : Nat) (l : List UInt8) (w : World) (hb : BytB w b l) (h : o + 4 ≤ l.length) (hn : 4 ≤ n) (hc : n ≤ c) :
    Calls Tryz.prog 89 #[.slice (some ⟨b, o, none⟩) n c] w fun e w' => e = .returned (.int .u32 (g32 l o)) ∧ Below w.heap.size w w' := by
  have u1 := g16_bd l o
  have u2 := g16_bd l (o + 2)
  refine st_enter (N := 12) Tryz.func89 rfl rfl rfl (fun a0 h0 => ?_)
  have S0 := St.init w
  refine st_seq (st_reg ?_)
  refine ma h0 rfl rfl fun a1 h1 => ?_
  refine st_nil (go_then (st_seq ?_))
  apply dr_flow h1 [false, false, false, false, false, false, false, false] _ (by kernel_rfl)
  case h =>
   refine sq_val h1 (wn rfl) rfl rfl (fun X hX => (ex_move (h1.ev rfl))) fun a2 h2 => ?_
   refine sq_bel h2 (wn rfl) rfl rfl (fun X => (ex_call (fun _ _ => by kernel_rfl) (h2.evs rfl) rfl)) (fun X hX => get16_any b o n c l _ (byt_below hb (S0.grow hX).below) (by omega) (by omega)) fun a3 h3 => ?_
   refine sq_val h3 (wn rfl) rfl rfl (fun X hX => (ex_convin (by kernel_rfl) Tryz.underlying128 (h3.ev rfl) (wrap_u32 (by omega)))) fun a4 h4 => ?_
   refine sq_val h4 (wn rfl) rfl rfl (fun X hX => (ex_move (h4.ev rfl))) fun a5 h5 => ?_
   refine sq_val h5 (wn rfl) rfl rfl (fun X hX => (ex_slice (l := 2) (h := n) (sz := 1) Tryz.underlying130 (by kernel_rfl) (h5.ev rfl) (h5.ev rfl) rfl (by omega) hc (.inl (by omega)) rfl)) fun a6 h6 => ?_
   refine sq_bel h6 (wn rfl) rfl rfl (fun X => (ex_call (fun _ _ => by kernel_rfl) (h6.evs rfl) rfl)) (fun X hX => get16_any b (o + 2 * 1) (n - 2) (c - 2) l _ (byt_below hb (S0.grow hX).below) (by omega) (by omega)) fun a7 h7 => ?_
   refine sq_val h7 (wn rfl) rfl rfl (fun X hX => (ex_convin (by kernel_rfl) Tryz.underlying128 (h7.ev rfl) (wrap_u32 (by show 0 ≤ g16 l (o + 2) ∧ g16 l (o + 2) < 4294967296; omega)))) fun a8 h8 => ?_
   refine sq_val h8 (wn rfl) rfl rfl (fun X hX => (ex_shl (n := 16) (r := g16 l (o + 2) * 65536) (h8.ev rfl) (h8.ev rfl) rfl (by show IntKind.u32.wrap (g16 l (o + 2) * 2 ^ 16) = _; rw [wrap_u32 (by omega)]; omega))) fun a9 h9 => ?_
   refine sq_nil ?_
   refine nd_end fun X10 hX10 hΦ10 => ?_
   have S10 := S0.grow hX10
   refine sl_val h9 (wn rfl) (ex_bits (r := g32 l o) rfl (h9.ev rfl) (h9.ev rfl) (by obtain ⟨a, ha⟩ := Int.eq_ofNat_of_zero_le u1.1; obtain ⟨b', hb'⟩ := Int.eq_ofNat_of_zero_le u2.1; unfold g32; rw [ha, hb']; rw [ha] at u1; rw [hb'] at u2; exact bits_or32 (by omega) (by omega))) rfl rfl fun a11 h11 => ?_
   refine ma h11 rfl rfl fun a12 h12 => ?_
   refine st_nil (go_then (wp_ret ?_))
   refine fin1 h12 rfl rfl ?_
   exact ⟨rfl, S10.below⟩
  case hB => kernel_rfl
  case hst => rfl
theorem put2 (l : List UInt8) (o : Nat) (a b : UInt8) (h : o + 2 ≤ l.length) : (l.take (o + 0 * 1) ++ [a] ++ l.drop (o + 0 * 1 + 1)).take (o + 1 * 1) ++ [b] ++ (l.take (o + 0 * 1) ++ [a] ++ l.drop (o + 0 * 1 + 1)).drop (o + 1 * 1 + 1) = patL l o [a, b] := by
  have hl : (l.take o ++ [a]).length = o + 1 := by simp; omega
  unfold patL
  simp only [Nat.zero_mul, Nat.add_zero, Nat.one_mul]
  have e1 : (l.take o ++ [a] ++ l.drop (o + 1)).take (o + 1) = l.take o ++ [a] := by rw [← hl, List.take_left]
  have e2 : (l.take o ++ [a] ++ l.drop (o + 1)).drop (o + 1 + 1) = l.drop (o + 2) := by
    rw [← List.drop_drop, ← hl, List.drop_left, List.drop_drop]; congr 1; omega
  rw [e1, e2]
  simp
theorem put16_any (b o n c : Nat) (l : List UInt8) (m : Int) (h0 : 0 ≤ m) (w : World) (hb : BytB w b l) (h : o + 2 ≤ l.length) (hn : 2 ≤ n) :
    Calls Tryz.prog 119 #[.slice (some ⟨b, o, none⟩) n c, .int .u16 m] w fun r w' => r = .returned (.tuple #[]) ∧ St [b] w w' [.byt b (patL l o (lit m 2))] := by
  refine st_enter (N := 13) Tryz.func119 rfl rfl rfl (fun a0 h0 => ?_)
  have S0 := St.initByt hb
  refine st_reg ?_
  refine mv h0 rfl rfl fun a1 h1 => ?_
  refine mv h1 rfl rfl fun a2 h2 => ?_
  refine mv h2 rfl rfl fun a3 h3 => ?_
  refine sl_val h3 (wn rfl) (ex_conv (k0 := .i64) (by kernel_rfl) Tryz.underlying5 (h3.ev rfl)) rfl rfl fun a4 h4 => ?_
  refine mv h4 rfl rfl fun a5 h5 => ?_
  refine sl_val h5 (wn rfl) (ex_shr (n := 8) (h5.ev rfl) (h5.ev rfl) rfl (by omega)) rfl rfl fun a6 h6 => ?_
  refine sl_val h6 (wn rfl) (ex_conv (k0 := .i64) (by kernel_rfl) Tryz.underlying5 (h6.ev rfl)) rfl rfl fun a7 h7 => ?_
  refine sl_val h7 (wn rfl) (ex_index (i := 0) (sz := 1) Tryz.underlying130 (by kernel_rfl) (h7.ev rfl) (h7.ev rfl) (by omega) (by omega) rfl) rfl rfl fun a8 h8 => ?_
  refine sl_bset h8 (wn rfl) ⟨rfl, rfl⟩ (by kernel_rfl) (h8.ev rfl) (h8.ev rfl) (byt_u8 m) S0 (i := 0) rfl (by omega) fun X9 S9 => ?_
  refine sl_val h8 (wn rfl) (ex_index (i := 1) (sz := 1) Tryz.underlying130 (by kernel_rfl) (h8.ev rfl) (h8.ev rfl) (by omega) (by omega) rfl) rfl rfl fun a10 h10 => ?_
  refine sl_bset h10 (wn rfl) ⟨rfl, rfl⟩ (by kernel_rfl) (h10.ev rfl) (h10.ev rfl) (byt_u8 (m / 2 ^ 8)) S9 (i := 0) rfl (by simp only [List.length_append, List.length_take, List.length_drop, List.length_cons, List.length_nil]; omega) fun X11 S11 => ?_
  refine st_nil ?_
  refine fin0 h10 rfl ?_
  refine ⟨rfl, ?_⟩
  have q := S11
  have e : patL l o (lit m 2) = _ := (put2 l o _ _ h).symm
  rw [e]; exact q
theorem lit4_two (m : Int) : lit m 4 = lit (m % 65536) 2 ++ lit (m / 2 ^ 16 % 65536) 2 := by
  rw [lit4_split]
  congr 1
  have h1 : m / 2 ^ 16 % 65536 % 256 = m / 2 ^ 16 % 256 := by omega
  have h2 : m / 2 ^ 16 % 65536 / 256 % 256 = m / 2 ^ 24 % 256 := by omega
  simp only [lit, h1, h2]
theorem patL_two (l a b : List UInt8) (o : Nat) (h : o + a.length + b.length ≤ l.length) : patL (patL l o a) (o + a.length) b = patL l o (a ++ b) := by
  unfold patL
  have hl : (l.take o ++ a).length = o + a.length := by simp; omega
  have e1 : (l.take o ++ a ++ l.drop (o + a.length)).take (o + a.length) = l.take o ++ a := by rw [← hl, List.take_left]
  have e2 : (l.take o ++ a ++ l.drop (o + a.length)).drop (o + a.length + b.length) = l.drop (o + (a ++ b).length) := by
    rw [← List.drop_drop, ← hl, List.drop_left, List.drop_drop, hl, List.length_append]; congr 1; omega
  rw [e1, e2]
  simp
theorem put32_any (b o n c : Nat) (l : List UInt8) (m : Int) (h0 : 0 ≤ m) (w : World) (hb : BytB w b l) (h : o + 4 ≤ l.length) (hn : 4 ≤ n) (hc : n ≤ c) :
    Calls Tryz.prog 118 #[.slice (some ⟨b, o, none⟩) n c, .int .u32 m] w fun r w' => r = .returned (.tuple #[]) ∧ St [b] w w' [.byt b (patL l o (lit m 4))] := by
  refine st_enter (N := 14) Tryz.func118 rfl rfl rfl (fun a0 h0 => ?_)
  have S0 := St.initByt hb
  refine st_seq (st_reg ?_)
  refine mv h0 rfl rfl fun a1 h1 => ?_
  refine mv h1 rfl rfl fun a2 h2 => ?_
  refine sl_val h2 (wn rfl) (ex_conv (k0 := .i64) (by kernel_rfl) Tryz.underlying151 (h2.ev rfl)) rfl rfl fun a3 h3 => ?_
  refine sl_upd h3 (wn rfl) (ex_call (fun _ _ => by kernel_rfl) (h3.evs rfl) rfl) S0 (i := 0) rfl rfl (put16_any b o n c l _ (by rw [u16_wrap]; omega) _ (S0.at_ (i := 0) rfl) (by omega) (by omega)) fun a4 X4 hq4 S4 => ?_
  have h4 := hq4 rfl
  refine st_nil (go_then (st_reg ?_))
  refine mv h4 rfl rfl fun a5 h5 => ?_
  refine sl_val h5 (wn rfl) (ex_slice (l := 2) (h := n) (sz := 1) Tryz.underlying130 (by kernel_rfl) (h5.ev rfl) (h5.ev rfl) rfl (by omega) hc (.inl (by omega)) rfl) rfl rfl fun a6 h6 => ?_
  refine mv h6 rfl rfl fun a7 h7 => ?_
  refine sl_val h7 (wn rfl) (ex_shr (n := 16) (h7.ev rfl) (h7.ev rfl) rfl (by omega)) rfl rfl fun a8 h8 => ?_
  refine sl_val h8 (wn rfl) (ex_conv (k0 := .i64) (by kernel_rfl) Tryz.underlying151 (h8.ev rfl)) rfl rfl fun a9 h9 => ?_
  refine sl_upd h9 (wn rfl) (ex_call (fun _ _ => by kernel_rfl) (h9.evs rfl) rfl) S4 (i := 0) rfl rfl (put16_any b (o + 2 * 1) (n - 2) (c - 2) _ _ (by rw [u16_wrap]; omega) _ (S4.at_ (i := 0) rfl) (by rw [patL_length (by rw [lit_length]; omega)]; omega) (by omega)) fun a10 X10 hq10 S10 => ?_
  have h10 := hq10 rfl
  refine st_nil ?_
  refine fin0 h10 rfl ?_
  refine ⟨rfl, ?_⟩
  have q := S10
  have e : patL l o (lit m 4) = patL (patL l o (lit (IntKind.u16.wrap m) 2)) (o + 2 * 1) (lit (IntKind.u16.wrap (m / 2 ^ 16)) 2) := by
    rw [lit4_two, u16_wrap, u16_wrap]
    have := patL_two l (lit (m % 65536) 2) (lit (m / 2 ^ 16 % 65536) 2) o (by rw [lit_length, lit_length]; omega)
    rw [lit_length] at this
    exact this.symm
  rw [e]; exact q
theorem encoded_any (x : RecP) (h0 : 0 ≤ x.l) (h1 : x.l < 4294967296) (h2 : x.b.size ≤ 3000) (w : World) :
    Calls Tryz.prog 112 #[recV x] w fun e w' => e = .returned (.string (bs (encR x))) ∧ Below w.heap.size w w' := by
  have hz := szR_in h2
  have hsum := sumL_bd (bl x.b) 0 (by omega) (by omega)
  refine st_enter (N := 37) Tryz.func112 rfl rfl rfl (fun a0 h0 => ?_)
  have S0 := St.init w
  refine st_seq (st_reg ?_)
  refine sl_new h0 (wn rfl) (f := fun b => .pointer (some ⟨b, 0, none⟩)) (ex_box (h0.ev rfl)) rfl rfl S0 fun b1 a1 X1 gb1 h1 S1 => ?_
  refine ma h1 rfl rfl fun a2 h2 => ?_
  refine st_nil (go_then (st_seq (st_reg ?_)))
  refine sl_val h2 (wn rfl) (ex_field (off := 2) (j := 2) (by kernel_rfl) (h2.ev rfl) rfl) rfl rfl fun a3 h3 => ?_
  refine sl_val h3 (wn rfl) (ex_load (by kernel_rfl) (h3.ev rfl) (S1.cell (i := 0) rfl rfl)) rfl rfl fun a4 h4 => ?_
  refine sl_val h4 (wn rfl) (ex_slen Tryz.underlying9 (h4.ev rfl)) rfl rfl fun a5 h5 => ?_
  refine sl_val h5 (wn rfl) (ex_convin (by kernel_rfl) Tryz.underlying151 (h5.ev rfl) (wrap_u16 (by omega))) rfl rfl fun a6 h6 => ?_
  have S7 := S1.nilRow 5 1
  refine sl_grow h6 (wn rfl) (ex_call (fun _ _ => by kernel_rfl) (h6.evs rfl) rfl) rfl rfl S7 (i := 0) rfl (append16_any (.slice none 0 0) 0 [] _ (by omega) _ (S7.at_ (i := 0) rfl) (by omega)) fun A8 c8 a8 X8 h8 S8 => ?_
  refine ma h8 rfl rfl fun a9 h9 => ?_
  refine st_nil (go_then (st_seq (st_reg ?_)))
  refine mv h9 rfl rfl fun a10 h10 => ?_
  refine sl_new h10 (wn rfl) (f := fun b => .slice (some ⟨b, 0, none⟩) 2 2) (ex_bslice Tryz.underlying130 (by kernel_rfl) (by kernel_rfl) (h10.evs2 rfl) rfl rfl rfl (by decide) (by decide)) rfl rfl S8 fun b10 a11 X11 gb10 h11 S11 => ?_
  refine sl_append (z := .int .u8 0) (sz := 1) (bytes := 1) h11 (wn rfl) ⟨rfl, rfl⟩ rfl Tryz.underlying130 (by kernel_rfl) rfl rfl (h11.ev rfl) (h11.ev rfl) S11 (i := 1) rfl (S11.boxRd (i := 0) rfl) rfl (List.all_eq_true.1 rfl) ⟨(by omega), by decide⟩ fun A11 c11 a12 X12 h12 S12 => ?_
  have e11 : ([] ++ lit (x.b.size : Int) 2).map byteV ++ #[Value.int .u8 0, Value.int .u8 0].toList = (lit (x.b.size : Int) 2 ++ [0, 0]).map byteV := by rw [List.nil_append, List.map_append]; rfl
  rw [e11] at S12
  refine ma h12 rfl rfl fun a13 h13 => ?_
  refine st_nil (go_then (st_seq (st_reg ?_)))
  refine mv h13 rfl rfl fun a14 h14 => ?_
  refine sl_val h14 (wn rfl) (ex_field (off := 0) (j := 0) (by kernel_rfl) (h14.ev rfl) rfl) rfl rfl fun a15 h15 => ?_
  refine sl_val h15 (wn rfl) (ex_load (by kernel_rfl) (h15.ev rfl) (S12.cell (i := 2) rfl rfl)) rfl rfl fun a16 h16 => ?_
  refine sl_val h16 (wn rfl) (ex_convin (by kernel_rfl) Tryz.underlying128 (h16.ev rfl) (wrap_u32 (by omega))) rfl rfl fun a17 h17 => ?_
  refine sl_grow h17 (wn rfl) (ex_call (fun _ _ => by kernel_rfl) (h17.evs rfl) rfl) rfl rfl S12 (i := 1) rfl (append32_any _ _ _ _ (by omega) _ (S12.at_ (i := 1) rfl) (by omega)) fun A16 c16 a18 X18 h18 S18 => ?_
  refine ma h18 rfl rfl fun a19 h19 => ?_
  refine st_nil (go_then (st_seq (st_reg ?_)))
  refine mv h19 rfl rfl fun a20 h20 => ?_
  refine sl_val h20 (wn rfl) (ex_field (off := 2) (j := 2) (by kernel_rfl) (h20.ev rfl) rfl) rfl rfl fun a21 h21 => ?_
  refine sl_val h21 (wn rfl) (ex_load (by kernel_rfl) (h21.ev rfl) (S18.cell (i := 2) rfl rfl)) rfl rfl fun a22 h22 => ?_
  refine sl_bel h22 (wn rfl) (ex_call (fun _ _ => by kernel_rfl) (h22.evs rfl) rfl) rfl rfl S18 (sum_any _ _ (by omega)) fun a23 X23 h23 S23 => ?_
  refine sl_val h23 (wn rfl) (ex_convin (by kernel_rfl) Tryz.underlying128 (h23.ev rfl) (wrap_u32 (by omega))) rfl rfl fun a24 h24 => ?_
  refine sl_grow h24 (wn rfl) (ex_call (fun _ _ => by kernel_rfl) (h24.evs rfl) rfl) rfl rfl S23 (i := 1) rfl (append32_any _ _ _ _ (by omega) _ (S23.at_ (i := 1) rfl) (by omega)) fun A22 c22 a25 X25 h25 S25 => ?_
  refine ma h25 rfl rfl fun a26 h26 => ?_
  refine st_nil (go_then (st_seq (st_reg ?_)))
  refine mv h26 rfl rfl fun a27 h27 => ?_
  refine sl_val h27 (wn rfl) (ex_field (off := 2) (j := 2) (by kernel_rfl) (h27.ev rfl) rfl) rfl rfl fun a28 h28 => ?_
  refine sl_val h28 (wn rfl) (ex_load (by kernel_rfl) (h28.ev rfl) (S25.cell (i := 2) rfl rfl)) rfl rfl fun a29 h29 => ?_
  refine sl_appstr h29 (wn rfl) ⟨rfl, rfl⟩ rfl Tryz.underlying130 Tryz.underlying9 (by kernel_rfl) (h29.ev rfl) (h29.ev rfl) S25 (i := 1) rfl (by omega) fun A26 c26 a30 X30 h30 S30 => ?_
  rw [← List.map_append] at S30
  refine ma h30 rfl rfl fun a31 h31 => ?_
  refine st_nil (go_then (st_seq (st_reg ?_)))
  refine mv h31 rfl rfl fun a32 h32 => ?_
  refine sl_val h32 (wn rfl) (ex_field (off := 2) (j := 2) (by kernel_rfl) (h32.ev rfl) rfl) rfl rfl fun a33 h33 => ?_
  refine sl_val h33 (wn rfl) (ex_load (by kernel_rfl) (h33.ev rfl) (S30.cell (i := 2) rfl rfl)) rfl rfl fun a34 h34 => ?_
  refine sl_val h34 (wn rfl) (ex_slen Tryz.underlying9 (h34.ev rfl)) rfl rfl fun a35 h35 => ?_
  refine sl_pure h35 (wn rfl) (ex_call (fun _ _ => by kernel_rfl) (h35.evs rfl) rfl) rfl rfl (sizeOf_any _ _ (by omega) (by omega)) fun a36 h36 => ?_
  refine mv h36 rfl rfl fun a37 h37 => ?_
  refine sl_val h37 (wn rfl) (ex_len Tryz.underlying130 (h37.ev rfl)) rfl rfl fun a38 h38 => ?_
  refine sl_val h38 (wn rfl) (as_val (v' := .int .i64 (((szR x.b.size).toNat - (12 + x.b.size) : Nat) : Int)) (congrArg _ (by omega)) (ex_sub (h38.ev rfl) (h38.ev rfl) (by omega))) rfl rfl fun a39 h39 => ?_
  refine sl_appzer (m := ((szR x.b.size).toNat - (12 + x.b.size))) h39 (wn rfl) ⟨rfl, rfl⟩ rfl Tryz.underlying130 Tryz.underlying3 Tryz.underlying9 (by kernel_rfl) (h39.ev rfl) (h39.ev rfl) S30 (i := 1) rfl (by omega) fun A35 c35 a40 X40 h40 S40 => ?_
  rw [← List.map_append] at S40
  refine sl_val h40 (wn rfl) (ex_rstr Tryz.underlying130 Tryz.underlying5 Tryz.underlying9 (h40.ev rfl) (S40.at_ (i := 1) rfl)) rfl rfl fun a41 h41 => ?_
  refine ma h41 rfl rfl fun a42 h42 => ?_
  refine st_nil (go_then (wp_ret ?_))
  refine fin1 h42 rfl rfl ?_
  exact ⟨rfl, S40.below⟩
end Go.Proofs.YtmlilplbdpjfcaaGreatDoor
