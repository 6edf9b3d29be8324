/-
  Chapter 20: numbers in bytes, the bytes of a record.
  Chapter 20: protected blocks.
  Chapter 20: pages.
-/
import Derived.Test.YtmlilplbdpjfcaaGreatDoorRg6
import Derived.Test.YtmlilplbdpjfcaaGreatDoorSums
import Derived.Test.YtmlilplbdpjfcaaGreatDoorRgP3
import Derived.Test.YtmlilplbdpjfcaaGreatDoorShelf
import Derived.Test.YtmlilplbdpjfcaaGreatDoorRgP5
namespace Go.Proofs.YtmlilplbdpjfcaaGreatDoor
set_option linter.unusedVariables false
set_option linter.unusedSimpArgs false
set_option maxRecDepth 4000
open Go.RowKit Go.Sort
theorem u16_wrap {m : Int} : IntKind.u16.wrap m = m % 65536 := by
 have := wrap_u16 (n := m % 65536) (by omega)
 rw [← this]
 simp [IntKind.wrap, IntKind.bits, IntKind.signed]
theorem lit2_bytes (m : Int) : [Value.int .u8 (IntKind.u8.wrap m), .int .u8 (IntKind.u8.wrap (m / 2 ^ 8))] = (lit m 2).map byteV := by
 rw [byt_u8, byt_u8]; rfl
theorem lit4_split (m : Int) : lit m 4 = lit (m % 65536) 2 ++ [UInt8.ofNat (m / 2 ^ 16 % 256).toNat, UInt8.ofNat (m / 2 ^ 24 % 256).toNat] := by
 have h1 : m % 65536 % 256 = m % 256 := by omega
 have h2 : m % 65536 / 256 % 256 = m / 256 % 256 := by omega
 have h3 : m / 256 / 256 % 256 = m / 2 ^ 16 % 256 := by omega
 have h4 : m / 256 / 256 / 256 % 256 = m / 2 ^ 24 % 256 := by omega
 simp only [lit, List.cons_append, List.nil_append, h1, h2, h3, h4]
theorem append16_any (v : Value) (n : Nat) (us : List UInt8) (m : Int) (h0 : 0 ≤ m) (w : World) (ho : w.ownsRow 0 5 1 v n (us.map byteV)) (hn : n ≤ 100000) :
 Calls Tryz.prog 135 #[v, .int .u16 m] w fun r w' => ∃ A c, r = .returned (.slice A (n + 2) c) ∧ St v.ownBlock.toList w w' [.row (.slice A (n + 2) c) (n + 2) 5 1 ((us ++ lit m 2).map byteV)] := by
 refine st_enter (N := 13) Tryz.func135 rfl rfl rfl (fun a0 h0 => ?_)
 have S0 := St.initO ho
 refine st_seq (st_reg ?_)
 refine ma h0 rfl rfl fun a1 h1 => ?_
 refine nsr ?_
 refine mv h1 rfl rfl fun a2 h2 => ?_
 refine mv h2 rfl rfl fun a3 h3 => ?_
 refine sv h3 (ex_conv (k0 := .i64) (by kernel_rfl) Tryz.underlying5 (h3.ev rfl)) fun a4 h4 => ?_
 refine mv h4 rfl rfl fun a5 h5 => ?_
 refine sv h5 (ex_shr (n := 8) (h5.ev rfl) (h5.ev rfl) rfl (by omega)) fun a6 h6 => ?_
 refine sv h6 (ex_conv (k0 := .i64) (by kernel_rfl) Tryz.underlying5 (h6.ev rfl)) fun a7 h7 => ?_
 refine sl_new h7 (wn rfl) (f := fun b => .slice (some ⟨b, 0, none⟩) 2 2) (ex_bslice Tryz.underlying130 (by kernel_rfl) (by kernel_rfl) (h7.evs2 rfl) rfl rfl rfl (by decide) (by decide)) rfl rfl S0 fun b11 a8 X8 gb11 h8 S8 => ?_
 refine sl_append (z := .int .u8 0) (sz := 1) (bytes := 1) h8 (wn rfl) ⟨rfl, rfl⟩ rfl Tryz.underlying130 (by kernel_rfl) rfl rfl (h8.ev rfl) (h8.ev rfl) S8 (i := 1) rfl (S8.boxRd (i := 0) rfl) rfl (List.all_eq_true.1 rfl) ⟨(by omega), by decide⟩ fun A12 c12 a9 X9 h9 S9 => ?_
 refine ma h9 rfl rfl fun a10 h10 => ?_
 refine st_nil (go_then (wp_ret ?_))
 refine fin1 h10 rfl rfl ?_
 refine ⟨A12, c12, rfl, ?_⟩
 have q := (S9.sub (.cons _ (.cons_cons _ .slnil)))
 rw [List.map_append, ← lit2_bytes]; exact q
theorem append32_any (v : Value) (n : Nat) (us : List UInt8) (m : Int) (h0 : 0 ≤ m) (w : World) (ho : w.ownsRow 0 5 1 v n (us.map byteV)) (hn : n ≤ 90000) :
 Calls Tryz.prog 136 #[v, .int .u32 m] w fun r w' => ∃ A c, r = .returned (.slice A (n + 2 + 2) c) ∧ St v.ownBlock.toList w w' [.row (.slice A (n + 2 + 2) c) (n + 2 + 2) 5 1 ((us ++ lit m 4).map byteV)] := by
 refine st_enter (N := 17) Tryz.func136 rfl rfl rfl (fun a0 h0 => ?_)
 have S0 := St.initO ho
 refine st_seq (st_reg ?_)
 refine ma h0 rfl rfl fun a1 h1 => ?_
 refine nsr ?_
 refine mv h1 rfl rfl fun a2 h2 => ?_
 refine mv h2 rfl rfl fun a3 h3 => ?_
 refine sv h3 (ex_conv (k0 := .i64) (by kernel_rfl) Tryz.underlying151 (h3.ev rfl)) fun a4 h4 => ?_
 refine sl_grow h4 (wn rfl) (ex_call (fun _ _ => by kernel_rfl) (h4.evs rfl) rfl) rfl rfl S0 (i := 0) rfl (append16_any _ _ us _ (by rw [u16_wrap]; omega) _ (S0.at_ (i := 0) rfl) (by omega)) fun A8 c8 a5 X5 h5 S5 => ?_
 refine mv h5 rfl rfl fun a6 h6 => ?_
 refine sv h6 (ex_shr (n := 16) (h6.ev rfl) (h6.ev rfl) rfl (by omega)) fun a7 h7 => ?_
 refine sv h7 (ex_conv (k0 := .i64) (by kernel_rfl) Tryz.underlying5 (h7.ev rfl)) fun a8 h8 => ?_
 refine mv h8 rfl rfl fun a9 h9 => ?_
 refine sv h9 (ex_shr (n := 24) (h9.ev rfl) (h9.ev rfl) rfl (by omega)) fun a10 h10 => ?_
 refine sv h10 (ex_conv (k0 := .i64) (by kernel_rfl) Tryz.underlying5 (h10.ev rfl)) fun a11 h11 => ?_
 refine sl_new h11 (wn rfl) (f := fun b => .slice (some ⟨b, 0, none⟩) 2 2) (ex_bslice Tryz.underlying130 (by kernel_rfl) (by kernel_rfl) (h11.evs2 rfl) rfl rfl rfl (by decide) (by decide)) rfl rfl S5 fun b15 a12 X12 gb15 h12 S12 => ?_
 refine sl_append (z := .int .u8 0) (sz := 1) (bytes := 1) h12 (wn rfl) ⟨rfl, rfl⟩ rfl Tryz.underlying130 (by kernel_rfl) rfl rfl (h12.ev rfl) (h12.ev rfl) S12 (i := 1) rfl (S12.boxRd (i := 0) rfl) rfl (List.all_eq_true.1 rfl) ⟨(by omega), by decide⟩ fun A16 c16 a13 X13 h13 S13 => ?_
 refine ma h13 rfl rfl fun a14 h14 => ?_
 refine st_nil (go_then (wp_ret ?_))
 refine fin1 h14 rfl rfl ?_
 refine ⟨A16, c16, rfl, ?_⟩
 have q := (S13.sub (.cons _ (.cons_cons _ .slnil)))
 have e : (us ++ lit m 4).map byteV = (us ++ lit (IntKind.u16.wrap m) 2).map byteV ++ [.int .u8 (IntKind.u8.wrap (m / 2 ^ 16)), .int .u8 (IntKind.u8.wrap (m / 2 ^ 24))] := by
  rw [byt_u8, byt_u8, lit4_split, u16_wrap]; simp only [List.map_append, List.append_assoc]; rfl
 rw [e]; exact q
theorem sum_any (s : ByteArray) (w : World) (h : s.size ≤ 100000) : Calls Tryz.prog 137 #[.string s] w fun e w' => e = .returned (.int .i64 (sumL (bl s) 0)) ∧ Below w.heap.size w w' := by
 refine st_enter (N := 11) Tryz.func137 rfl rfl rfl (fun a0 h0 => ?_)
 have S0 := St.init w
 refine st_seq (st_reg ?_)
 refine ma h0 rfl rfl fun a1 h1 => ?_
 refine nsr ?_
 refine mv h1 rfl rfl fun a2 h2 => ?_
 refine sl_bel h2 (wn rfl) (ex_call (fun _ _ => by kernel_rfl) (h2.evs rfl) rfl) rfl rfl S0 (SumOf_any _ _ (by unfold maxLen; omega) (by omega)) fun a3 X3 h3 S3 => ?_
 refine mv h3 rfl rfl fun a4 h4 => ?_
 refine vx h4 rfl rfl rfl fun a5 h5 => ?_
 refine vx h5 rfl rfl rfl fun a6 h6 => ?_
 refine ma h6 rfl rfl fun a7 h7 => ?_
 refine ma h7 rfl rfl fun a8 h8 => ?_
 refine nsr ?_
 refine mv h8 rfl rfl fun a9 h9 => ?_
 refine ma h9 rfl rfl fun a10 h10 => ?_
 refine st_nil (go_then (wp_ret ?_))
 refine fin1 h10 rfl rfl ?_
 exact ⟨rfl, S3.below⟩
def g16 (l : List UInt8) (o : Nat) : Int := (l.getD o 0).toNat + 256 * (l.getD (o + 1) 0).toNat
def g32 (l : List UInt8) (o : Nat) : Int := g16 l o + 65536 * g16 l (o + 2)
theorem g16_bd (l : List UInt8) (o : Nat) : 0 ≤ g16 l o ∧ g16 l o < 65536 := by
 have h1 := (l.getD o 0).toNat_lt
 have h2 := (l.getD (o + 1) 0).toNat_lt
 unfold g16; omega
theorem g32_bd (l : List UInt8) (o : Nat) : 0 ≤ g32 l o ∧ g32 l o < 4294967296 := by
 have h1 := g16_bd l o
 have h2 := g16_bd l (o + 2)
 unfold g32; omega
theorem g16_nAt {l : List UInt8} {o : Nat} (h : o + 2 ≤ l.length) : g16 l o = nAt l o 2 := by
 unfold nAt g16
 rw [take2_drop l o h]
 simp [num]
theorem get16_any (b o n c : Nat) (l : List UInt8) (w : World) (hb : BytB w b l) (h : o + 2 ≤ l.length) (hn : 2 ≤ n) :
 Calls Tryz.prog 111 #[.slice (some ⟨b, o, none⟩) n c] w fun e w' => e = .returned (.int .u16 (g16 l o)) ∧ Below w.heap.size w w' := by
 have u1 := (l.getD o 0).toNat_lt
 have u2 := (l.getD (o + 1) 0).toNat_lt
 refine st_enter (N := 13) Tryz.func111 rfl rfl rfl (fun a0 h0 => ?_)
 have S0 := St.init w
 refine st_seq (st_reg ?_)
 refine ma h0 rfl rfl fun a1 h1 => ?_
 refine st_nil (go_then (st_seq ?_))
 apply dr_flow h1 [false, false, false, false, false, false, false, false, false] _ (by kernel_rfl)
 case h =>
  refine qv h1 (fun X hX => ex_move (h1.ev rfl)) fun a2 h2 => ?_
  refine qv h2 (fun X hX => ex_index (i := 0) (sz := 1) Tryz.underlying130 (by kernel_rfl) (h2.ev rfl) (h2.ev rfl) (by omega) (by omega) rfl) fun a3 h3 => ?_
  refine qv (v := byteV (l.getD o 0)) h3 (fun X hX => ex_load (by kernel_rfl) (h3.ev rfl) ((bytAt (i := 0) (byt_below hb (S0.grow hX).below) (by omega)) 0 _ rfl)) fun a4 h4 => ?_
  refine qv h4 (fun X hX => ex_convin (by kernel_rfl) Tryz.underlying151 (h4.ev rfl) (wrap_u16 (by omega))) fun a5 h5 => ?_
  refine qv h5 (fun X hX => ex_move (h5.ev rfl)) fun a6 h6 => ?_
  refine qv h6 (fun X hX => ex_index (i := 1) (sz := 1) Tryz.underlying130 (by kernel_rfl) (h6.ev rfl) (h6.ev rfl) (by omega) (by omega) rfl) fun a7 h7 => ?_
  refine qv (v := byteV (l.getD (o + 1) 0)) h7 (fun X hX => ex_load (by kernel_rfl) (h7.ev rfl) ((bytAt (i := 1) (byt_below hb (S0.grow hX).below) (by omega)) 0 _ rfl)) fun a8 h8 => ?_
  refine qv h8 (fun X hX => ex_convin (by kernel_rfl) Tryz.underlying151 (h8.ev rfl) (wrap_u16 (by omega))) fun a9 h9 => ?_
  refine qv h9 (fun X hX => ex_shl (n := 8) (r := ((l.getD (o + 1) 0).toNat : Int) * 256) (h9.ev rfl) (h9.ev rfl) rfl (by rw [wrap_u16 (by omega)]; omega)) fun a10 h10 => ?_
  refine sq_nil ?_
  refine nd_end fun X11 hX11 hΦ11 => ?_
  have S11 := S0.grow hX11
  refine sv h10 (ex_bits (r := g16 l o) rfl (h10.ev rfl) (h10.ev rfl) (bits_or16 u1 u2)) fun a12 h12 => ?_
  refine ma h12 rfl rfl fun a13 h13 => ?_
  refine st_nil (go_then (wp_ret ?_))
  refine fin1 h13 rfl rfl ?_
  exact ⟨rfl, S11.below⟩
 case hB => kernel_rfl
 case hst => rfl
theorem get32_any (b o n c : Nat) (l : List UInt8) (w : World) (hb : BytB w b l) (h : o + 4 ≤ l.length) (hn : 4 ≤ n) (hc : n ≤ c) :
 Calls Tryz.prog 89 #[.slice (some ⟨b, o, none⟩) n c] w fun e w' => e = .returned (.int .u32 (g32 l o)) ∧ Below w.heap.size w w' := by
 have u1 := g16_bd l o
 have u2 := g16_bd l (o + 2)
 refine st_enter (N := 12) Tryz.func89 rfl rfl rfl (fun a0 h0 => ?_)
 have S0 := St.init w
 refine st_seq (st_reg ?_)
 refine ma h0 rfl rfl fun a1 h1 => ?_
 refine st_nil (go_then (st_seq ?_))
 apply dr_flow h1 [false, false, false, false, false, false, false, false] _ (by kernel_rfl)
 case h =>
  refine qv h1 (fun X hX => ex_move (h1.ev rfl)) fun a2 h2 => ?_
  refine sq_bel h2 (wn rfl) rfl rfl (fun X => (ex_call (fun _ _ => by kernel_rfl) (h2.evs rfl) rfl)) (fun X hX => get16_any b o n c l _ (byt_below hb (S0.grow hX).below) (by omega) (by omega)) fun a3 h3 => ?_
  refine qv h3 (fun X hX => ex_convin (by kernel_rfl) Tryz.underlying128 (h3.ev rfl) (wrap_u32 (by omega))) fun a4 h4 => ?_
  refine qv h4 (fun X hX => ex_move (h4.ev rfl)) fun a5 h5 => ?_
  refine qv h5 (fun X hX => ex_slice (l := 2) (h := n) (sz := 1) Tryz.underlying130 (by kernel_rfl) (h5.ev rfl) (h5.ev rfl) rfl (by omega) hc (.inl (by omega)) rfl) fun a6 h6 => ?_
  refine sq_bel h6 (wn rfl) rfl rfl (fun X => (ex_call (fun _ _ => by kernel_rfl) (h6.evs rfl) rfl)) (fun X hX => get16_any b (o + 2 * 1) (n - 2) (c - 2) l _ (byt_below hb (S0.grow hX).below) (by omega) (by omega)) fun a7 h7 => ?_
  refine qv h7 (fun X hX => ex_convin (by kernel_rfl) Tryz.underlying128 (h7.ev rfl) (wrap_u32 (by show 0 ≤ g16 l (o + 2) ∧ g16 l (o + 2) < 4294967296; omega))) fun a8 h8 => ?_
  refine qv h8 (fun X hX => ex_shl (n := 16) (r := g16 l (o + 2) * 65536) (h8.ev rfl) (h8.ev rfl) rfl (by show IntKind.u32.wrap (g16 l (o + 2) * 2 ^ 16) = _; rw [wrap_u32 (by omega)]; omega)) fun a9 h9 => ?_
  refine sq_nil ?_
  refine nd_end fun X10 hX10 hΦ10 => ?_
  have S10 := S0.grow hX10
  refine sv h9 (ex_bits (r := g32 l o) rfl (h9.ev rfl) (h9.ev rfl) (by obtain ⟨a, ha⟩ := Int.eq_ofNat_of_zero_le u1.1; obtain ⟨b', hb'⟩ := Int.eq_ofNat_of_zero_le u2.1; unfold g32; rw [ha, hb']; rw [ha] at u1; rw [hb'] at u2; exact bits_or32 (by omega) (by omega))) fun a11 h11 => ?_
  refine ma h11 rfl rfl fun a12 h12 => ?_
  refine st_nil (go_then (wp_ret ?_))
  refine fin1 h12 rfl rfl ?_
  exact ⟨rfl, S10.below⟩
 case hB => kernel_rfl
 case hst => rfl
theorem put2 (l : List UInt8) (o : Nat) (a b : UInt8) (h : o + 2 ≤ l.length) : (l.take (o + 0 * 1) ++ [a] ++ l.drop (o + 0 * 1 + 1)).take (o + 1 * 1) ++ [b] ++ (l.take (o + 0 * 1) ++ [a] ++ l.drop (o + 0 * 1 + 1)).drop (o + 1 * 1 + 1) = patL l o [a, b] := by
 have hl : (l.take o ++ [a]).length = o + 1 := by simp; omega
 unfold patL
 simp only [Nat.zero_mul, Nat.add_zero, Nat.one_mul]
 have e1 : (l.take o ++ [a] ++ l.drop (o + 1)).take (o + 1) = l.take o ++ [a] := by rw [← hl, List.take_left]
 have e2 : (l.take o ++ [a] ++ l.drop (o + 1)).drop (o + 1 + 1) = l.drop (o + 2) := by
  rw [← List.drop_drop, ← hl, List.drop_left, List.drop_drop]; congr 1; omega
 rw [e1, e2]
 simp
theorem put16_any (b o n c : Nat) (l : List UInt8) (m : Int) (h0 : 0 ≤ m) (w : World) (hb : BytB w b l) (h : o + 2 ≤ l.length) (hn : 2 ≤ n) :
 Calls Tryz.prog 119 #[.slice (some ⟨b, o, none⟩) n c, .int .u16 m] w fun r w' => r = .returned (.tuple #[]) ∧ St [b] w w' [.byt b (patL l o (lit m 2))] := by
 refine st_enter (N := 13) Tryz.func119 rfl rfl rfl (fun a0 h0 => ?_)
 have S0 := St.initByt hb
 refine st_reg ?_
 refine mv h0 rfl rfl fun a1 h1 => ?_
 refine mv h1 rfl rfl fun a2 h2 => ?_
 refine mv h2 rfl rfl fun a3 h3 => ?_
 refine sv h3 (ex_conv (k0 := .i64) (by kernel_rfl) Tryz.underlying5 (h3.ev rfl)) fun a4 h4 => ?_
 refine mv h4 rfl rfl fun a5 h5 => ?_
 refine sv h5 (ex_shr (n := 8) (h5.ev rfl) (h5.ev rfl) rfl (by omega)) fun a6 h6 => ?_
 refine sv h6 (ex_conv (k0 := .i64) (by kernel_rfl) Tryz.underlying5 (h6.ev rfl)) fun a7 h7 => ?_
 refine sv h7 (ex_index (i := 0) (sz := 1) Tryz.underlying130 (by kernel_rfl) (h7.ev rfl) (h7.ev rfl) (by omega) (by omega) rfl) fun a8 h8 => ?_
 refine sl_bset h8 (wn rfl) ⟨rfl, rfl⟩ (by kernel_rfl) (h8.ev rfl) (h8.ev rfl) (byt_u8 m) S0 (i := 0) rfl (by omega) fun X9 S9 => ?_
 refine sv h8 (ex_index (i := 1) (sz := 1) Tryz.underlying130 (by kernel_rfl) (h8.ev rfl) (h8.ev rfl) (by omega) (by omega) rfl) fun a10 h10 => ?_
 refine sl_bset h10 (wn rfl) ⟨rfl, rfl⟩ (by kernel_rfl) (h10.ev rfl) (h10.ev rfl) (byt_u8 (m / 2 ^ 8)) S9 (i := 0) rfl (by simp only [List.length_append, List.length_take, List.length_drop, List.length_cons, List.length_nil]; omega) fun X11 S11 => ?_
 refine st_nil ?_
 refine fin0 h10 rfl ?_
 refine ⟨rfl, ?_⟩
 have q := S11
 have e : patL l o (lit m 2) = _ := (put2 l o _ _ h).symm
 rw [e]; exact q
theorem lit4_two (m : Int) : lit m 4 = lit (m % 65536) 2 ++ lit (m / 2 ^ 16 % 65536) 2 := by
 rw [lit4_split]
 congr 1
 have h1 : m / 2 ^ 16 % 65536 % 256 = m / 2 ^ 16 % 256 := by omega
 have h2 : m / 2 ^ 16 % 65536 / 256 % 256 = m / 2 ^ 24 % 256 := by omega
 simp only [lit, h1, h2]
theorem patL_two (l a b : List UInt8) (o : Nat) (h : o + a.length + b.length ≤ l.length) : patL (patL l o a) (o + a.length) b = patL l o (a ++ b) := by
 unfold patL
 have hl : (l.take o ++ a).length = o + a.length := by simp; omega
 have e1 : (l.take o ++ a ++ l.drop (o + a.length)).take (o + a.length) = l.take o ++ a := by rw [← hl, List.take_left]
 have e2 : (l.take o ++ a ++ l.drop (o + a.length)).drop (o + a.length + b.length) = l.drop (o + (a ++ b).length) := by
  rw [← List.drop_drop, ← hl, List.drop_left, List.drop_drop, hl, List.length_append]; congr 1; omega
 rw [e1, e2]
 simp
theorem put32_any (b o n c : Nat) (l : List UInt8) (m : Int) (h0 : 0 ≤ m) (w : World) (hb : BytB w b l) (h : o + 4 ≤ l.length) (hn : 4 ≤ n) (hc : n ≤ c) :
 Calls Tryz.prog 118 #[.slice (some ⟨b, o, none⟩) n c, .int .u32 m] w fun r w' => r = .returned (.tuple #[]) ∧ St [b] w w' [.byt b (patL l o (lit m 4))] := by
 refine st_enter (N := 14) Tryz.func118 rfl rfl rfl (fun a0 h0 => ?_)
 have S0 := St.initByt hb
 refine st_seq (st_reg ?_)
 refine mv h0 rfl rfl fun a1 h1 => ?_
 refine mv h1 rfl rfl fun a2 h2 => ?_
 refine sv h2 (ex_conv (k0 := .i64) (by kernel_rfl) Tryz.underlying151 (h2.ev rfl)) fun a3 h3 => ?_
 refine sl_upd h3 (wn rfl) (ex_call (fun _ _ => by kernel_rfl) (h3.evs rfl) rfl) S0 (i := 0) rfl rfl (put16_any b o n c l _ (by rw [u16_wrap]; omega) _ (S0.at_ (i := 0) rfl) (by omega) (by omega)) fun a4 X4 hq4 S4 => ?_
 have h4 := hq4 rfl
 refine st_nil (go_then (st_reg ?_))
 refine mv h4 rfl rfl fun a5 h5 => ?_
 refine sv h5 (ex_slice (l := 2) (h := n) (sz := 1) Tryz.underlying130 (by kernel_rfl) (h5.ev rfl) (h5.ev rfl) rfl (by omega) hc (.inl (by omega)) rfl) fun a6 h6 => ?_
 refine mv h6 rfl rfl fun a7 h7 => ?_
 refine sv h7 (ex_shr (n := 16) (h7.ev rfl) (h7.ev rfl) rfl (by omega)) fun a8 h8 => ?_
 refine sv h8 (ex_conv (k0 := .i64) (by kernel_rfl) Tryz.underlying151 (h8.ev rfl)) fun a9 h9 => ?_
 refine sl_upd h9 (wn rfl) (ex_call (fun _ _ => by kernel_rfl) (h9.evs rfl) rfl) S4 (i := 0) rfl rfl (put16_any b (o + 2 * 1) (n - 2) (c - 2) _ _ (by rw [u16_wrap]; omega) _ (S4.at_ (i := 0) rfl) (by rw [patL_length (by rw [lit_length]; omega)]; omega) (by omega)) fun a10 X10 hq10 S10 => ?_
 have h10 := hq10 rfl
 refine st_nil ?_
 refine fin0 h10 rfl ?_
 refine ⟨rfl, ?_⟩
 have q := S10
 have e : patL l o (lit m 4) = patL (patL l o (lit (IntKind.u16.wrap m) 2)) (o + 2 * 1) (lit (IntKind.u16.wrap (m / 2 ^ 16)) 2) := by
  rw [lit4_two, u16_wrap, u16_wrap]
  have := patL_two l (lit (m % 65536) 2) (lit (m / 2 ^ 16 % 65536) 2) o (by rw [lit_length, lit_length]; omega)
  rw [lit_length] at this
  exact this.symm
 rw [e]; exact q
theorem encoded_any (x : RecP) (h0 : 0 ≤ x.l) (h1 : x.l < 4294967296) (h2 : x.b.size ≤ 3000) (w : World) :
 Calls Tryz.prog 112 #[recV x] w fun e w' => e = .returned (.string (bs (encR x))) ∧ Below w.heap.size w w' := by
 have hz := szR_in h2
 have hsum := sumL_bd (bl x.b) 0 (by omega) (by omega)
 refine st_enter (N := 37) Tryz.func112 rfl rfl rfl (fun a0 h0 => ?_)
 have S0 := St.init w
 refine st_seq (st_reg ?_)
 refine nb h0 rfl rfl S0 fun b1 a1 X1 gb1 h1 S1 => ?_
 refine ma h1 rfl rfl fun a2 h2 => ?_
 refine nsr ?_
 refine vf h2 2 2 rfl rfl rfl fun a3 h3 => ?_
 refine vl h3 S1 0 rfl rfl rfl rfl fun a4 h4 => ?_
 refine sv h4 (ex_slen Tryz.underlying9 (h4.ev rfl)) fun a5 h5 => ?_
 refine sv h5 (ex_convin (by kernel_rfl) Tryz.underlying151 (h5.ev rfl) (wrap_u16 (by omega))) fun a6 h6 => ?_
 have S7 := S1.nilRow 5 1
 refine sl_grow h6 (wn rfl) (ex_call (fun _ _ => by kernel_rfl) (h6.evs rfl) rfl) rfl rfl S7 (i := 0) rfl (append16_any (.slice none 0 0) 0 [] _ (by omega) _ (S7.at_ (i := 0) rfl) (by omega)) fun A8 c8 a8 X8 h8 S8 => ?_
 refine ma h8 rfl rfl fun a9 h9 => ?_
 refine nsr ?_
 refine mv h9 rfl rfl fun a10 h10 => ?_
 refine sl_new h10 (wn rfl) (f := fun b => .slice (some ⟨b, 0, none⟩) 2 2) (ex_bslice Tryz.underlying130 (by kernel_rfl) (by kernel_rfl) (h10.evs2 rfl) rfl rfl rfl (by decide) (by decide)) rfl rfl S8 fun b10 a11 X11 gb10 h11 S11 => ?_
 refine sl_append (z := .int .u8 0) (sz := 1) (bytes := 1) h11 (wn rfl) ⟨rfl, rfl⟩ rfl Tryz.underlying130 (by kernel_rfl) rfl rfl (h11.ev rfl) (h11.ev rfl) S11 (i := 1) rfl (S11.boxRd (i := 0) rfl) rfl (List.all_eq_true.1 rfl) ⟨(by omega), by decide⟩ fun A11 c11 a12 X12 h12 S12 => ?_
 have e11 : ([] ++ lit (x.b.size : Int) 2).map byteV ++ #[Value.int .u8 0, Value.int .u8 0].toList = (lit (x.b.size : Int) 2 ++ [0, 0]).map byteV := by rw [List.nil_append, List.map_append]; rfl
 rw [e11] at S12
 refine ma h12 rfl rfl fun a13 h13 => ?_
 refine nsr ?_
 refine mv h13 rfl rfl fun a14 h14 => ?_
 refine vf h14 0 0 rfl rfl rfl fun a15 h15 => ?_
 refine vl h15 S12 2 rfl rfl rfl rfl fun a16 h16 => ?_
 refine sv h16 (ex_convin (by kernel_rfl) Tryz.underlying128 (h16.ev rfl) (wrap_u32 (by omega))) fun a17 h17 => ?_
 refine sl_grow h17 (wn rfl) (ex_call (fun _ _ => by kernel_rfl) (h17.evs rfl) rfl) rfl rfl S12 (i := 1) rfl (append32_any _ _ _ _ (by omega) _ (S12.at_ (i := 1) rfl) (by omega)) fun A16 c16 a18 X18 h18 S18 => ?_
 refine ma h18 rfl rfl fun a19 h19 => ?_
 refine nsr ?_
 refine mv h19 rfl rfl fun a20 h20 => ?_
 refine vf h20 2 2 rfl rfl rfl fun a21 h21 => ?_
 refine vl h21 S18 2 rfl rfl rfl rfl fun a22 h22 => ?_
 refine sl_bel h22 (wn rfl) (ex_call (fun _ _ => by kernel_rfl) (h22.evs rfl) rfl) rfl rfl S18 (sum_any _ _ (by omega)) fun a23 X23 h23 S23 => ?_
 refine sv h23 (ex_convin (by kernel_rfl) Tryz.underlying128 (h23.ev rfl) (wrap_u32 (by omega))) fun a24 h24 => ?_
 refine sl_grow h24 (wn rfl) (ex_call (fun _ _ => by kernel_rfl) (h24.evs rfl) rfl) rfl rfl S23 (i := 1) rfl (append32_any _ _ _ _ (by omega) _ (S23.at_ (i := 1) rfl) (by omega)) fun A22 c22 a25 X25 h25 S25 => ?_
 refine ma h25 rfl rfl fun a26 h26 => ?_
 refine nsr ?_
 refine mv h26 rfl rfl fun a27 h27 => ?_
 refine vf h27 2 2 rfl rfl rfl fun a28 h28 => ?_
 refine vl h28 S25 2 rfl rfl rfl rfl fun a29 h29 => ?_
 refine sl_appstr h29 (wn rfl) ⟨rfl, rfl⟩ rfl Tryz.underlying130 Tryz.underlying9 (by kernel_rfl) (h29.ev rfl) (h29.ev rfl) S25 (i := 1) rfl (by omega) fun A26 c26 a30 X30 h30 S30 => ?_
 rw [← List.map_append] at S30
 refine ma h30 rfl rfl fun a31 h31 => ?_
 refine nsr ?_
 refine mv h31 rfl rfl fun a32 h32 => ?_
 refine vf h32 2 2 rfl rfl rfl fun a33 h33 => ?_
 refine vl h33 S30 2 rfl rfl rfl rfl fun a34 h34 => ?_
 refine sv h34 (ex_slen Tryz.underlying9 (h34.ev rfl)) fun a35 h35 => ?_
 refine sl_pure h35 (wn rfl) (ex_call (fun _ _ => by kernel_rfl) (h35.evs rfl) rfl) rfl rfl (sizeOf_any _ _ (by omega) (by omega)) fun a36 h36 => ?_
 refine mv h36 rfl rfl fun a37 h37 => ?_
 refine sv h37 (ex_len Tryz.underlying130 (h37.ev rfl)) fun a38 h38 => ?_
 refine sv h38 (as_val (v' := .int .i64 (((szR x.b.size).toNat - (12 + x.b.size) : Nat) : Int)) (congrArg _ (by omega)) (ex_sub (h38.ev rfl) (h38.ev rfl) (by omega))) fun a39 h39 => ?_
 refine sl_appzer (m := ((szR x.b.size).toNat - (12 + x.b.size))) h39 (wn rfl) ⟨rfl, rfl⟩ rfl Tryz.underlying130 Tryz.underlying3 Tryz.underlying9 (by kernel_rfl) (h39.ev rfl) (h39.ev rfl) S30 (i := 1) rfl (by omega) fun A35 c35 a40 X40 h40 S40 => ?_
 rw [← List.map_append] at S40
 refine sv h40 (ex_rstr Tryz.underlying130 Tryz.underlying5 Tryz.underlying9 (h40.ev rfl) (S40.at_ (i := 1) rfl)) fun a41 h41 => ?_
 refine ma h41 rfl rfl fun a42 h42 => ?_
 refine st_nil (go_then (wp_ret ?_))
 refine fin1 h42 rfl rfl ?_
 exact ⟨rfl, S40.below⟩
end Go.Proofs.YtmlilplbdpjfcaaGreatDoor
namespace Go.Proofs.YtmlilplbdpjfcaaGreatDoor
set_option linter.unusedVariables false
set_option linter.unusedSimpArgs false
set_option maxRecDepth 4000
open Go.RowKit Go.Sort
theorem disk_first2 {X : World} {b : Nat} {e1 e2 : Int} {T : TypeId} (hb : Box X b #[.int .i64 e1, .int .i64 e2] T) : Calls Tryz.prog 139 #[.slice (some ⟨b, 0, none⟩) 2 2] X fun e w' => e = .returned (.int .i64 (firstE [e1, e2])) ∧ X = w' :=
 disk_first_any b 0 [e1, e2] X (by simp) (fun k hk => by
  rw [Nat.zero_add, Box.cells hb k]
  have : k = 0 ∨ k = 1 := by simp at hk; omega
  rcases this with rfl | rfl <;> rfl)
theorem CheckBlock_any (s : ByteArray) (w : World) : Calls Tryz.prog 86 #[.string s] w fun e w' => e = .returned (.int .i64 (unl (s.size == 512) 10)) ∧ w = w' := by
 refine st_enter (N := 7) Tryz.func86 rfl rfl rfl (fun a0 h0 => ?_)
 have S0 := St.init w
 refine st_seq (st_reg ?_)
 refine ma h0 rfl rfl fun a1 h1 => ?_
 refine nsr ?_
 refine mv h1 rfl rfl fun a2 h2 => ?_
 refine sv h2 (ex_slen Tryz.underlying9 (h2.ev rfl)) fun a3 h3 => ?_
 refine sv h3 (ex_eql (h3.ev rfl) (h3.ev rfl)) fun a4 h4 => ?_
 refine sl_pure h4 (wn rfl) (ex_call (fun _ _ => by kernel_rfl) (h4.evs rfl) rfl) rfl rfl (disk_unless_any _ _ _) fun a5 h5 => ?_
 refine ma h5 rfl rfl fun a6 h6 => ?_
 refine st_nil (go_then (wp_ret ?_))
 refine fin1 h6 rfl rfl ?_
 exact ⟨by rw [show ((s.size : Int) == 512) = (s.size == 512) by rw [Bool.eq_iff_iff, beq_iff_eq, beq_iff_eq]; omega], rfl⟩
theorem dtail_any (i : Nat) (w : World) (h : i ≤ 1000) : Calls Tryz.prog 126 #[.int .i64 i] w fun e w' => e = .returned (.int .i64 (tlA i : Nat)) ∧ w = w' := by
 refine st_enter (N := 7) Tryz.func126 rfl rfl rfl (fun a0 h0 => ?_)
 have S0 := St.init w
 refine st_seq (st_reg ?_)
 refine ma h0 rfl rfl fun a1 h1 => ?_
 refine nsr ?_
 refine mv h1 rfl rfl fun a2 h2 => ?_
 refine sv h2 (ex_add (h2.ev rfl) (h2.ev rfl) (by omega)) fun a3 h3 => ?_
 refine sv h3 (ex_mul (h3.ev rfl) (h3.ev rfl) (by omega)) fun a4 h4 => ?_
 refine sv h4 (ex_sub (h4.ev rfl) (h4.ev rfl) (by omega)) fun a5 h5 => ?_
 refine ma h5 rfl rfl fun a6 h6 => ?_
 refine st_nil (go_then (wp_ret ?_))
 refine fin1 h6 rfl rfl ?_
 exact ⟨by congr 2; unfold tlA; push_cast; omega, rfl⟩
theorem dlittle_any (n : Int) (w : World) (h : 0 ≤ n) : Calls Tryz.prog 142 #[.int .i64 n] w fun e w' => e = .returned (.string (bs (lit n 2))) ∧ Below w.heap.size w w' := by
 refine st_enter (N := 10) Tryz.func142 rfl rfl rfl (fun a0 h0 => ?_)
 have S0 := St.init w
 refine st_seq (st_reg ?_)
 refine ma h0 rfl rfl fun a1 h1 => ?_
 refine nsr ?_
 refine mv h1 rfl rfl fun a2 h2 => ?_
 refine sv h2 (ex_conv (k0 := .i64) (by kernel_rfl) Tryz.underlying5 (h2.ev rfl)) fun a3 h3 => ?_
 refine mv h3 rfl rfl fun a4 h4 => ?_
 refine sv h4 (ex_shr (n := 8) (h4.ev rfl) (h4.ev rfl) rfl (by omega)) fun a5 h5 => ?_
 refine sv h5 (ex_conv (k0 := .i64) (by kernel_rfl) Tryz.underlying5 (h5.ev rfl)) fun a6 h6 => ?_
 refine sl_new h6 (wn rfl) (f := fun b => .slice (some ⟨b, 0, none⟩) 2 2) (ex_bslice Tryz.underlying130 (by kernel_rfl) (by kernel_rfl) (h6.evs2 rfl) rfl rfl rfl (by decide) (by decide)) rfl rfl S0 fun b8 a7 X7 gb8 h7 S7 => ?_
 have S9 := S7.toRow (i := 0) (n := 2) (sz := 1) rfl rfl (by decide)
 refine sv h7 (ex_rstr (us := lit n 2) Tryz.underlying130 Tryz.underlying5 Tryz.underlying9 (h7.ev rfl) (by have q := S9.at_ (i := 0) rfl; rw [← lit2_bytes]; exact q)) fun a8 h8 => ?_
 refine ma h8 rfl rfl fun a9 h9 => ?_
 refine st_nil (go_then (wp_ret ?_))
 refine fin1 h9 rfl rfl ?_
 exact ⟨rfl, S7.below⟩
theorem dnumber_any (s : ByteArray) (w : World) (h : 2 ≤ s.size) : Calls Tryz.prog 123 #[.string s] w fun e w' => e = .returned (.int .i64 (g16 (bl s) 0)) ∧ Below w.heap.size w w' := by
 have u1 := ((bl s).getD 0 0).toNat_lt
 have u2 := ((bl s).getD 1 0).toNat_lt
 refine st_enter (N := 11) Tryz.func123 rfl rfl rfl (fun a0 h0 => ?_)
 have S0 := St.init w
 refine st_seq (st_reg ?_)
 refine ma h0 rfl rfl fun a1 h1 => ?_
 refine st_nil (go_then (st_seq ?_))
 apply dr_flow h1 [false, false, false, false, false, false, false] _ (by kernel_rfl)
 case h =>
  refine qv h1 (fun X hX => ex_move (h1.ev rfl)) fun a2 h2 => ?_
  refine qv h2 (fun X hX => ex_sindex (i := 0) Tryz.underlying9 (h2.ev rfl) (h2.ev rfl) (by omega) (by omega)) fun a3 h3 => ?_
  refine qv h3 (fun X hX => ex_convin (by kernel_rfl) Tryz.underlying3 (h3.ev rfl) (wrap_in (by omega))) fun a4 h4 => ?_
  refine qv h4 (fun X hX => ex_move (h4.ev rfl)) fun a5 h5 => ?_
  refine qv h5 (fun X hX => ex_sindex (i := 1) Tryz.underlying9 (h5.ev rfl) (h5.ev rfl) (by omega) (by omega)) fun a6 h6 => ?_
  refine qv h6 (fun X hX => ex_convin (by kernel_rfl) Tryz.underlying3 (h6.ev rfl) (wrap_in (by omega))) fun a7 h7 => ?_
  refine qv h7 (fun X hX => ex_shl (n := 8) (r := (((bl s).getD 1 0).toNat : Int) * 256) (h7.ev rfl) (h7.ev rfl) rfl (by rw [wrap_in (by omega)]; omega)) fun a8 h8 => ?_
  refine sq_nil ?_
  refine nd_end fun X9 hX9 hΦ9 => ?_
  have S9 := S0.grow hX9
  refine sv h8 (ex_bits (r := g16 (bl s) 0) rfl (h8.ev rfl) (h8.ev rfl) (bits_or8 u1 u2)) fun a10 h10 => ?_
  refine ma h10 rfl rfl fun a11 h11 => ?_
  refine st_nil (go_then (wp_ret ?_))
  refine fin1 h11 rfl rfl ?_
  exact ⟨rfl, S9.below⟩
 case hB => kernel_rfl
 case hst => rfl
theorem dat_any (b c i m : Nat) (l : List UInt8) (w : World) (hb : BytB w b l) (hi : i + 2 ≤ l.length) (hm : l.length = m) (hc : m ≤ c) (hl : m ≤ 100000) :
 Calls Tryz.prog 124 #[.slice (some ⟨b, 0, none⟩) m c, .int .i64 i] w fun e w' => e = .returned (.string (bs ((l.drop i).take 2))) ∧ Below w.heap.size w w' := by
 refine st_enter (N := 11) Tryz.func124 rfl rfl rfl (fun a0 h0 => ?_)
 have S0 := St.initByt hb
 refine st_seq (st_reg ?_)
 refine ma h0 rfl rfl fun a1 h1 => ?_
 refine nsr ?_
 refine mv h1 rfl rfl fun a2 h2 => ?_
 refine mv h2 rfl rfl fun a3 h3 => ?_
 refine mv h3 rfl rfl fun a4 h4 => ?_
 refine sv h4 (ex_add (h4.ev rfl) (h4.ev rfl) (by omega)) fun a5 h5 => ?_
 refine sv h5 (ex_slice (l := i) (h := i + 2) (sz := 1) Tryz.underlying161 (by kernel_rfl) (h5.ev rfl) (h5.ev rfl) (h5.ev rfl) (by omega) (by omega) (.inl (by omega)) rfl) fun a6 h6 => ?_
 refine sv h6 (ex_bstr Tryz.underlying161 Tryz.underlying5 Tryz.underlying9 (h6.ev rfl) (S0.bytStr (i := 0) (o' := (0 + i * 1)) (n := (i + 2 - i)) rfl (by omega)).1 (S0.bytStr (i := 0) (o' := (0 + i * 1)) (n := (i + 2 - i)) rfl (by omega)).2) fun a7 h7 => ?_
 refine ma h7 rfl rfl fun a8 h8 => ?_
 refine st_nil (go_then (wp_ret ?_))
 refine fin1 h8 rfl rfl ?_
 exact ⟨by rw [Nat.zero_add, Nat.mul_one, show i + 2 - i = 2 by omega], Below.refl _ _⟩
theorem dput_any (b c a m : Nat) (l us : List UInt8) (w : World) (hb : BytB w b l) (ha : a + us.length ≤ l.length) (hu : 0 < us.length) (hm : l.length = m) (hc : m ≤ c) (hl : m ≤ 100000) :
 Calls Tryz.prog 125 #[.slice (some ⟨b, 0, none⟩) m c, .int .i64 a, .string (bs us)] w fun r w' => r = .returned (.tuple #[]) ∧ St [b] w w' [.byt b (patL l a us)] := by
 have hsz : (bs us).size = us.length := bs_size us
 refine st_enter (N := 11) Tryz.func125 rfl rfl rfl (fun a0 h0 => ?_)
 have S0 := St.initByt hb
 refine st_reg ?_
 refine mv h0 rfl rfl fun a1 h1 => ?_
 refine mv h1 rfl rfl fun a2 h2 => ?_
 refine sv h2 (ex_slice (l := a) (h := m) (sz := 1) Tryz.underlying161 (by kernel_rfl) (h2.ev rfl) (h2.ev rfl) rfl (by omega) hc (.inl (by omega)) rfl) fun a3 h3 => ?_
 refine mv h3 rfl rfl fun a4 h4 => ?_
 refine sl_copys h4 (wn rfl) rfl Tryz.underlying161 (by kernel_rfl) (h4.ev rfl) (h4.ev rfl) S0 (i := 0) rfl (by omega) fun a5 X5 hq5 S5 => ?_
 have h5 := hq5 rfl
 refine st_nil ?_
 refine fin0 h5 rfl ?_
 refine ⟨rfl, ?_⟩
 have e : patL l a us = l.take (0 + a * 1) ++ (bl (bs us)).take (m - a) ++ l.drop (0 + a * 1 + min (bs us).size (m - a)) := by
  rw [bl_bs, hsz, Nat.zero_add, Nat.mul_one, Nat.min_eq_left (by omega), List.take_of_length_le (l := us) (by omega)]; rfl
 rw [e]; exact S5
theorem dropWhile_all {l : List UInt8} {c : UInt8} (h : ∀ x ∈ l, x = c) : l.dropWhile (· == c) = [] := by
 induction l with
 | nil => rfl
 | cons x l ih =>
  rw [List.dropWhile_cons, if_pos (by rw [h x (by simp)]; simp)]
  exact ih fun y hy => h y (by simp [hy])
theorem trimB_all {l : List UInt8} {c : UInt8} (h : ∀ x ∈ l, x = c) : Lib.trimB l c = [] := by
 have e1 : Lib.trimRightB l c = [] := by
  unfold Lib.trimRightB
  have := dropWhile_all (l := l.reverse) (c := c) (fun x hx => h x (by simpa using hx))
  simp_all
 unfold Lib.trimB
 rw [e1]; rfl
theorem trim0_any (s : ByteArray) (w : World) (hs : s.size ≤ 100000) (hz : ∀ x ∈ bl s, x = 0) : Calls Tryz.prog 140 #[.string s, .string ⟨#[0]⟩] w fun e w' => e = .returned (.string ⟨#[]⟩) ∧ Below w.heap.size w w' := by
 refine (Tryz.strings_Trim_one s 0 (by decide) w (by omega)).mono ?_
 rintro e w' ⟨rfl, hw⟩
 refine ⟨by rw [show Lib.trimB s.data.toList 0 = [] from trimB_all hz], ?_⟩
 rcases hw with rfl | rfl
 · exact Below.refl _ _
 · exact ⟨rfl, rfl, rfl, Nat.le_refl _, fun _ _ => rfl⟩
theorem protect_ok (s : ByteArray) (n : Int) (hs : s.size = 512) (hz : ∀ i, 40 ≤ i → i < 58 → (bl s).getD i 0 = 0) (hn : 1 ≤ n ∧ n ≤ 65535) (w : World) :
 Calls Tryz.prog 120 #[.string s, .int .i64 n] w fun e w' => e = .returned (.tuple #[.string (bs (prL (bl s) n)), .int .i64 0]) ∧ Below w.heap.size w w' := by
 have hbl : (bl s).length = 512 := by rw [bl_length]; exact hs
 have hpk := fun k (hk : k ≤ 8) => (prK_spec n (bl s) hbl k hk).1
 have hsz2 : (s.extract 40 58).size = 18 := by rw [ByteArray.size_extract]; omega
 have hzz : ∀ x ∈ bl (s.extract 40 58), x = 0 := by
  intro x hx
  obtain ⟨j, hj, rfl⟩ := List.getElem_of_mem hx
  rw [bl_length, hsz2] at hj
  have e : bl (s.extract 40 58) = ((bl s).drop 40).take 18 := by
   unfold bl; rw [ByteArray.data_extract, Array.toList_extract, List.extract_eq_take_drop]
  have h1 := hz (40 + j) (by omega) (by omega)
  rw [List.getD_eq_getElem?_getD, List.getElem?_eq_getElem (by omega), Option.getD_some] at h1
  rw [← h1]
  simp only [e, List.getElem_take, List.getElem_drop]
 have hl2 : (lit n 2).length = 2 := lit_length n 2
 refine st_enter (N := 55) Tryz.func120 rfl rfl rfl (fun a0 h0 => ?_)
 have S0 := St.init w
 refine st_seq (st_reg ?_)
 refine ma h0 rfl rfl fun a1 h1 => ?_
 refine ma h1 rfl rfl fun a2 h2 => ?_
 refine st_nil (go_then (st_seq (st_seq (st_reg ?_))))
 refine mv h2 rfl rfl fun a3 h3 => ?_
 refine sl_pure h3 (wn rfl) (ex_call (fun _ _ => by kernel_rfl) (h3.evs rfl) rfl) rfl rfl (CheckBlock_any _ _) fun a4 h4 => ?_
 refine ma h4 rfl rfl fun a5 h5 => ?_
 refine nsr ?_
 refine mv h5 rfl rfl fun a6 h6 => ?_
 refine sv h6 (ex_neq (h6.ev rfl) (h6.ev rfl)) fun a7 h7 => ?_
 refine st_nil (go_then ?_)
 refine st_if_f (h7.ev rfl) ((by rw [hs]; rfl)) ?_
 refine wp_skip (go_then (st_seq (st_seq (st_reg ?_))))
 refine mv h7 rfl rfl fun a8 h8 => ?_
 refine sv h8 (ex_sslice (l := 40) (h := 58) Tryz.underlying9 (h8.ev rfl) (h8.ev rfl) (h8.ev rfl) (by omega) (by omega)) fun a9 h9 => ?_
 refine sl_bel h9 (wn rfl) (ex_call (fun _ _ => by kernel_rfl) (h9.evs rfl) rfl) rfl rfl S0 (trim0_any _ _ (by omega) hzz) fun a10 X10 h10 S10 => ?_
 refine sv h10 (ex_seql (h10.ev rfl) (h10.ev rfl)) fun a11 h11 => ?_
 refine sl_pure h11 (wn rfl) (ex_call (fun _ _ => by kernel_rfl) (h11.evs rfl) rfl) rfl rfl (disk_unless_any _ _ _) fun a12 h12 => ?_
 refine mv h12 rfl rfl fun a13 h13 => ?_
 refine sl_pure h13 (wn rfl) (ex_call (fun _ _ => by kernel_rfl) (h13.evs rfl) rfl) rfl rfl (disk_within_any _ _ _ _) fun a14 h14 => ?_
 refine sl_pure h14 (wn rfl) (ex_call (fun _ _ => by kernel_rfl) (h14.evs rfl) rfl) rfl rfl (disk_unless_any _ _ _) fun a15 h15 => ?_
 refine sl_new h15 (wn rfl) (f := fun b => .slice (some ⟨b, 0, none⟩) 2 2) (ex_bslice Tryz.underlying140 (by kernel_rfl) (by kernel_rfl) (h15.evs2 rfl) rfl rfl rfl (by decide) (by decide)) rfl rfl S10 fun b23 a16 X16 gb23 h16 S16 => ?_
 refine sl_pure h16 (wn rfl) (ex_call (fun _ _ => by kernel_rfl) (h16.evs rfl) rfl) rfl rfl (disk_first2 (S16.at_ (i := 0) rfl)) fun a17 h17 => ?_
 refine ma h17 rfl rfl fun a18 h18 => ?_
 refine nsr ?_
 refine mv h18 rfl rfl fun a19 h19 => ?_
 refine sv h19 (ex_neq (h19.ev rfl) (h19.ev rfl)) fun a20 h20 => ?_
 refine st_nil (go_then ?_)
 refine st_if_f (h20.ev rfl) ((by rw [show inB n 1 65535 = true from inB_true.2 hn]; rfl)) ?_
 refine wp_skip (go_then (st_seq (st_reg ?_)))
 refine mv h20 rfl rfl fun a21 h21 => ?_
 refine sl_bytes h21 (wn rfl) ⟨rfl, rfl⟩ rfl Tryz.underlying9 Tryz.underlying161 Tryz.underlying5 (h21.ev rfl) S16 fun b29 cb29 a22 X22 gb29 zb29 h22 S22 => ?_
 refine ma h22 rfl rfl fun a23 h23 => ?_
 refine nsr ?_
 refine mv h23 rfl rfl fun a24 h24 => ?_
 refine mv h24 rfl rfl fun a25 h25 => ?_
 refine sl_bel h25 (wn rfl) (ex_call (fun _ _ => by kernel_rfl) (h25.evs rfl) rfl) rfl rfl S22 (dlittle_any _ _ (by omega)) fun a26 X26 h26 S26 => ?_
 refine sl_upd h26 (wn rfl) (ex_call (fun _ _ => by kernel_rfl) (h26.evs rfl) rfl) S26 (i := 0) rfl rfl (dput_any b29 cb29 40 s.size _ (lit n 2) _ (S26.at_ (i := 0) rfl) (by omega) (by omega) (by omega) (by omega) (by omega)) fun a27 X27 hq27 S27 => ?_
 have h27 := hq27 rfl
 refine st_nil (go_then (st_seq (st_seq (st_reg ?_))))
 refine mv h27 rfl rfl fun a28 h28 => ?_
 refine st_nil (go_then (wp_block ?_))
 refine st_loop h28 S27 [8, 5, 4, 1] (fun (k : Nat) => [(34, .int .i64 k)]) (fun (k : Nat) => k ≤ 8) (fun k L => L.set 0 (.byt b29 (prK n (bl s) k))) (fun (k : Nat) => 8 - k) (0) ((by omega)) ⟨rfl, rfl, rfl, rfl, rfl, trivial⟩ (S27) ?_
 intro k a29 X29 hF0 h29 S29
 refine st_seq (st_reg ?_)
 refine sv h29 (ex_lss (h29.ev rfl) (h29.ev rfl)) fun a30 h30 => ?_
 refine st_nil (go_then (st_seq ?_))
 refine st_if (h30.ev rfl) (fun hc2 => ?_) (fun hc2 => ?_)
 ·
  have hk : k < 8 := by have := of_decide_eq_true hc2; omega
  have hp := hpk k (by omega)
  have hta : tlA k = 64 * k + 62 := rfl
  have htk : (((prK n (bl s) k).drop (tlA k)).take 2).length = 2 := by rw [List.length_take, List.length_drop]; omega
  refine wp_skip (go_then (st_seq (wp_block (st_seq (st_reg ?_)))))
  refine mv h30 rfl rfl fun a31 h31 => ?_
  refine ma h31 rfl rfl fun a32 h32 => ?_
  refine nsr ?_
  refine mv h32 rfl rfl fun a33 h33 => ?_
  refine mv h33 rfl rfl fun a34 h34 => ?_
  refine sv h34 (ex_mul (h34.ev rfl) (h34.ev rfl) (by omega)) fun a35 h35 => ?_
  refine sv h35 (as_val (v' := .int .i64 ((42 + 2 * k : Nat) : Int)) (congrArg _ (by omega)) (ex_add (h35.ev rfl) (h35.ev rfl) (by omega))) fun a36 h36 => ?_
  refine mv h36 rfl rfl fun a37 h37 => ?_
  refine mv h37 rfl rfl fun a38 h38 => ?_
  refine sl_pure h38 (wn rfl) (ex_call (fun _ _ => by kernel_rfl) (h38.evs rfl) rfl) rfl rfl (dtail_any _ _ (by omega)) fun a39 h39 => ?_
  refine sl_bel h39 (wn rfl) (ex_call (fun _ _ => by kernel_rfl) (h39.evs rfl) rfl) rfl rfl S29 (dat_any b29 cb29 (tlA k) s.size _ _ (S29.at_ (i := 0) rfl) (by omega) (by omega) (by omega) (by omega)) fun a40 X40 h40 S40 => ?_
  refine sl_upd h40 (wn rfl) (ex_call (fun _ _ => by kernel_rfl) (h40.evs rfl) rfl) S40 (i := 0) rfl rfl (dput_any b29 cb29 (42 + 2 * k) s.size _ _ _ (S40.at_ (i := 0) rfl) (by omega) (by omega) (by omega) (by omega) (by omega)) fun a41 X41 hq41 S41 => ?_
  have h41 := hq41 rfl
  refine st_nil (go_then (st_reg ?_))
  refine mv h41 rfl rfl fun a42 h42 => ?_
  refine mv h42 rfl rfl fun a43 h43 => ?_
  refine sl_pure h43 (wn rfl) (ex_call (fun _ _ => by kernel_rfl) (h43.evs rfl) rfl) rfl rfl (dtail_any _ _ (by omega)) fun a44 h44 => ?_
  refine mv h44 rfl rfl fun a45 h45 => ?_
  refine sl_bel h45 (wn rfl) (ex_call (fun _ _ => by kernel_rfl) (h45.evs rfl) rfl) rfl rfl S41 (dlittle_any _ _ (by omega)) fun a46 X46 h46 S46 => ?_
  refine sl_upd h46 (wn rfl) (ex_call (fun _ _ => by kernel_rfl) (h46.evs rfl) rfl) S46 (i := 0) rfl rfl (dput_any b29 cb29 (tlA k) s.size _ (lit n 2) _ (S46.at_ (i := 0) rfl) (by rw [patL_length (by omega)]; omega) (by omega) (by rw [patL_length (by omega)]; omega) (by omega) (by omega)) fun a47 X47 hq47 S47 => ?_
  have h47 := hq47 rfl
  refine st_nil (go_block (go_then (st_reg ?_)))
  refine sv h47 (ex_add (h47.ev rfl) (h47.ev rfl) (by omega)) fun a48 h48 => ?_
  refine mv h48 rfl rfl fun a49 h49 => ?_
  refine st_nil (go_then ?_)
  exact ⟨k + 1, by omega, by omega, h49.re ⟨rfl, rfl, rfl, rfl, rfl, trivial⟩, S47⟩
 ·
  have hk : k = 8 := by have := of_decide_eq_false hc2; omega
  subst hk
  refine wp_exit ?_
  refine go_exit_then ?_
  refine go_exit_then ?_
  refine go_exit ?_
  refine go_then (st_seq (st_reg ?_))
  refine mv h30 rfl rfl fun a50 h50 => ?_
  refine sv h50 (ex_bstr Tryz.underlying161 Tryz.underlying5 Tryz.underlying9 (h50.ev rfl) (S29.bytStr (i := 0) (n := s.size) rfl (by rw [hpk 8 (by omega)]; omega)).1 (S29.bytStr (i := 0) (n := s.size) rfl (by rw [hpk 8 (by omega)]; omega)).2) fun a51 h51 => ?_
  refine ma h51 rfl rfl fun a52 h52 => ?_
  refine ma h52 rfl rfl fun a53 h53 => ?_
  refine st_nil (go_then (wp_ret ?_))
  refine fin2 h53 rfl rfl rfl ?_
  refine ⟨?_, S29.below⟩
  rw [List.drop_zero, List.take_of_length_le (by rw [hpk 8 (by omega)]; omega)]; rfl
def trnL (l : List UInt8) (k : Nat) : List Nat := (List.range k).filter fun i => trnB l i
def intV (k : Nat) : Value := .int .i64 k
theorem trnL_succ (l : List UInt8) (k : Nat) : trnL l (k + 1) = if trnB l k then trnL l k ++ [k] else trnL l k := by
 unfold trnL
 rw [List.range_succ, List.filter_append]
 cases h : trnB l k <;> simp [h]
theorem trnL_le (l : List UInt8) (k : Nat) : (trnL l k).length ≤ k := by
 have := List.length_filter_le (fun i => trnB l i) (List.range k)
 rw [List.length_range] at this; exact this
theorem g16_usn {l : List UInt8} (h : l.length = 512) : g16 (bl (bs ((l.drop 40).take 2))) 0 = usnL l := by
 have h2 : ((l.drop 40).take 2).length = 2 := by rw [List.length_take, List.length_drop]; omega
 rw [bl_bs, g16_nAt (by omega)]
 show num ((((l.drop 40).take 2).drop 0).take 2) = num ((l.drop 40).take 2)
 rw [List.drop_zero, List.take_take, Nat.min_self]
theorem bs_eq (a b : List UInt8) : decide (bs a = bs b) = (a == b) := by
 rw [Bool.eq_iff_iff, decide_eq_true_eq, beq_iff_eq]
 exact ⟨fun h => by rw [← bl_bs a, h, bl_bs], fun h => by rw [h]⟩
theorem trn_eq {l : List UInt8} (h : l.length = 512) (k : Nat) : (g16 (bl (bs ((l.drop 40).take 2))) 0 == 0 || !decide (bs ((l.drop (tlA k)).take 2) = bs ((l.drop 40).take 2))) = trnB l k := by
 rw [g16_usn h, bs_eq]; rfl
theorem torn_any (s : ByteArray) (hs : s.size = 512) (w : World) :
 Calls Tryz.prog 122 #[.string s] w fun e w' => ∃ A c, e = .returned (.slice A (trnL (bl s) 8).length c) ∧ w'.ownsRow w.heap.size 3 1 (.slice A (trnL (bl s) 8).length c) (trnL (bl s) 8).length ((trnL (bl s) 8).map intV) ∧ Below w.heap.size w w' := by
 have hbl : (bl s).length = 512 := by rw [bl_length]; exact hs
 refine st_enter (N := 30) Tryz.func122 rfl rfl rfl (fun a0 h0 => ?_)
 have S0 := St.init w
 refine st_seq (st_reg ?_)
 refine ma h0 rfl rfl fun a1 h1 => ?_
 refine nsr ?_
 refine mv h1 rfl rfl fun a2 h2 => ?_
 refine sl_bytes h2 (wn rfl) ⟨rfl, rfl⟩ rfl Tryz.underlying9 Tryz.underlying161 Tryz.underlying5 (h2.ev rfl) S0 fun b7 cb7 a3 X3 gb7 zb7 h3 S3 => ?_
 refine ma h3 rfl rfl fun a4 h4 => ?_
 refine nsr ?_
 refine ma h4 rfl rfl fun a5 h5 => ?_
 have S6 := S3.nilRow 3 1
 refine st_nil (go_then (st_seq (st_seq (st_reg ?_))))
 refine mv h5 rfl rfl fun a7 h7 => ?_
 refine st_nil (go_then (wp_block ?_))
 refine st_loop h7 S6 [3, 2] (fun (q : Nat × Option Addr × Nat) => [(8, .int .i64 (q.1 : Nat)), (4, .slice q.2.1 (trnL (bl s) q.1).length q.2.2)]) (fun (q : Nat × Option Addr × Nat) => q.1 ≤ 8) (fun q L => L.set 0 (.row (.slice q.2.1 (trnL (bl s) q.1).length q.2.2) (trnL (bl s) q.1).length 3 1 ((trnL (bl s) q.1).map intV))) (fun (q : Nat × Option Addr × Nat) => 8 - q.1) ((0, none, 0)) ((by show 0 ≤ 8; omega)) ⟨rfl, rfl, rfl, rfl, trivial⟩ (S6) ?_
 intro q a8 X8 hF0 h8 S8
 refine st_seq (st_reg ?_)
 refine sv h8 (ex_lss (h8.ev rfl) (h8.ev rfl)) fun a9 h9 => ?_
 refine st_nil (go_then (st_seq ?_))
 refine st_if (h9.ev rfl) (fun hc0 => ?_) (fun hc0 => ?_)
 ·
  have hk : q.1 < 8 := by have := of_decide_eq_true hc0; omega
  have hta : tlA q.1 = 64 * q.1 + 62 := rfl
  have hh2 : (bs (((bl s).drop 40).take 2)).size = 2 := by rw [bs_size, List.length_take, List.length_drop]; omega
  refine wp_skip (go_then (st_seq (wp_block (st_seq (st_reg ?_)))))
  refine mv h9 rfl rfl fun a10 h10 => ?_
  refine ma h10 rfl rfl fun a11 h11 => ?_
  refine nsr ?_
  refine mv h11 rfl rfl fun a12 h12 => ?_
  refine sl_bel h12 (wn rfl) (ex_call (fun _ _ => by kernel_rfl) (h12.evs rfl) rfl) rfl rfl S8 (dat_any b7 cb7 40 s.size _ _ (S8.at_ (i := 1) rfl) (by omega) (by omega) (by omega) (by omega)) fun a13 X13 h13 S13 => ?_
  refine sl_bel h13 (wn rfl) (ex_call (fun _ _ => by kernel_rfl) (h13.evs rfl) rfl) rfl rfl S13 (dnumber_any _ _ (by omega)) fun a14 X14 h14 S14 => ?_
  refine sv h14 (ex_eql (h14.ev rfl) (h14.ev rfl)) fun a15 h15 => ?_
  refine mv h15 rfl rfl fun a16 h16 => ?_
  apply sl_or h16 S14 15 rfl 8 23
  case hf =>
   intro gc15
   refine sy h16 rfl rfl rfl gc15 (ex_move (h16.ev rfl)) rfl rfl fun a17 h17 => ?_
   refine sy h17 rfl rfl rfl gc15 (ex_move (h17.ev rfl)) rfl rfl fun a18 h18 => ?_
   refine sl_pure h18 (wanted_yes h18 _ rfl rfl rfl gc15) (ex_call (fun _ _ => by kernel_rfl) (h18.evs rfl) rfl) rfl rfl (dtail_any _ _ (by omega)) fun a19 h19 => ?_
   refine sl_bel h19 (wanted_yes h19 _ rfl rfl rfl gc15) (ex_call (fun _ _ => by kernel_rfl) (h19.evs rfl) rfl) rfl rfl S14 (dat_any b7 cb7 (tlA q.1) s.size _ _ (S14.at_ (i := 1) rfl) (by omega) (by omega) (by omega) (by omega)) fun a20 X20 h20 S20 => ?_
   refine sy h20 rfl rfl rfl gc15 (ex_move (h20.ev rfl)) rfl rfl fun a21 h21 => ?_
   refine sl_bel h21 (wanted_yes h21 _ rfl rfl rfl gc15) (ex_call (fun _ _ => by kernel_rfl) (h21.evs rfl) rfl) rfl rfl S20 (dat_any b7 cb7 40 s.size _ _ (S20.at_ (i := 1) rfl) (by omega) (by omega) (by omega) (by omega)) fun a22 X22 h22 S22 => ?_
   refine sy h22 rfl rfl rfl gc15 (ex_sneq (h22.ev rfl) (h22.ev rfl)) rfl rfl fun a23 h23 => ?_
   refine sv h23 (ex_pick_f (h23.ev rfl) gc15 (h23.ev rfl)) fun a24 h24 => ?_
   exact st_nil ⟨h24.mid (m := [(_, _), (_, _), (_, _), (_, _), (_, _), (_, _), (_, _)]) rfl, S22⟩
  case ht =>
   intro gc15
   refine no h16 rfl rfl rfl gc15 rfl rfl fun a25 h25 => ?_
   refine no h25 rfl rfl rfl gc15 rfl rfl fun a26 h26 => ?_
   refine no h26 rfl rfl rfl gc15 rfl rfl fun a27 h27 => ?_
   refine no h27 rfl rfl rfl gc15 rfl rfl fun a28 h28 => ?_
   refine no h28 rfl rfl rfl gc15 rfl rfl fun a29 h29 => ?_
   refine no h29 rfl rfl rfl gc15 rfl rfl fun a30 h30 => ?_
   refine no h30 rfl rfl rfl gc15 rfl rfl fun a31 h31 => ?_
   refine sv h31 (ex_pick_t (h31.ev rfl) gc15 (h31.ev rfl)) fun a32 h32 => ?_
   exact st_nil ⟨h32.mid (m := [(_, _), (_, _), (_, _), (_, _), (_, _), (_, _), (_, _)]) rfl, S14⟩
  case h =>
   rintro a33 X33 ⟨h33, S33⟩
   refine st_nil (go_then ?_)
   refine st_if (h33.ev rfl) (fun hc1 => ?_) (fun hc1 => ?_)
   ·
    rw [trn_eq hbl] at hc1
    have e1 : (trnL (bl s) q.1).length + 1 = (trnL (bl s) (q.1 + 1)).length := by rw [trnL_succ, if_pos hc1]; simp
    have hle := trnL_le (bl s) q.1
    have e2 : (trnL (bl s) q.1).map intV ++ #[Value.int .i64 (q.1 : Int)].toList = (trnL (bl s) (q.1 + 1)).map intV := by rw [trnL_succ, if_pos hc1, List.map_append]; rfl
    refine st_reg ?_
    refine mv h33 rfl rfl fun a34 h34 => ?_
    refine mv h34 rfl rfl fun a35 h35 => ?_
    refine sl_new h35 (wn rfl) (f := fun b => .slice (some ⟨b, 0, none⟩) 1 1) (ex_bslice Tryz.underlying159 (by kernel_rfl) (by kernel_rfl) (h35.evs2 rfl) rfl rfl rfl (by decide) (by decide)) rfl rfl S33 fun b26 a36 X36 gb26 h36 S36 => ?_
    refine sl_append (z := .int .i64 0) (sz := 1) (bytes := 8) h36 (wn rfl) ⟨rfl, rfl⟩ rfl Tryz.underlying159 (by kernel_rfl) rfl rfl (h36.ev rfl) (h36.ev rfl) S36 (i := 1) rfl (S36.boxRd (i := 0) rfl) rfl (List.all_eq_true.1 rfl) ⟨(by show (trnL (bl s) q.1).length + 1 ≤ 1000000; omega), by decide⟩ fun A27 c27 a37 X37 h37 S37 => ?_
    refine ma h37 rfl rfl fun a38 h38 => ?_
    rw [e1] at h38 S37
    rw [e2] at S37
    refine st_nil (go_block (go_then (st_reg ?_)))
    refine sv h38 (ex_add (h38.ev rfl) (h38.ev rfl) (by omega)) fun a39 h39 => ?_
    refine mv h39 rfl rfl fun a40 h40 => ?_
    refine st_nil (go_then ?_)
    exact ⟨(q.1 + 1, A27, c27), (by show 8 - (q.1 + 1) < 8 - q.1; omega), hk, h40.re ⟨rfl, rfl, rfl, rfl, trivial⟩, S37.sub (.cons _ (.cons_cons _ (.cons_cons _ .slnil)))⟩
   ·
    rw [trn_eq hbl] at hc1
    have e3 : trnL (bl s) q.1 = trnL (bl s) (q.1 + 1) := by rw [trnL_succ, if_neg (by rw [hc1]; simp)]
    rw [e3] at h33 S33
    refine wp_skip (go_block (go_then (st_reg ?_)))
    refine sv h33 (ex_add (h33.ev rfl) (h33.ev rfl) (by omega)) fun a41 h41 => ?_
    refine mv h41 rfl rfl fun a42 h42 => ?_
    refine st_nil (go_then ?_)
    exact ⟨(q.1 + 1, q.2), (by show 8 - (q.1 + 1) < 8 - q.1; omega), hk, h42.re ⟨rfl, rfl, rfl, rfl, trivial⟩, S33⟩
 ·
  have hk : q.1 = 8 := by have := of_decide_eq_false hc0; omega
  refine wp_exit ?_
  refine go_exit_then ?_
  refine go_exit_then ?_
  refine go_exit ?_
  refine go_then (st_seq (st_reg ?_))
  refine mv h9 rfl rfl fun a43 h43 => ?_
  refine ma h43 rfl rfl fun a44 h44 => ?_
  refine st_nil (go_then (wp_ret ?_))
  refine fin1 h44 rfl rfl ?_
  rw [hk] at S8
  exact ⟨_, _, by rw [← hk], S8.ownB (i := 0) rfl, S8.below⟩
theorem opK_at {s : List UInt8} (hs : s.length = 512) (k j : Nat) (hk : k ≤ 8) (hj : j < 8) : ((opK s k).drop (42 + 2 * j)).take 2 = (s.drop (42 + 2 * j)).take 2 := by
 obtain ⟨h1, h2⟩ := opK_spec s hs k hk
 rw [take2_drop _ _ (by omega), take2_drop _ _ (by omega), h2 _ (by omega), h2 _ (by omega)]
 unfold opF
 rw [if_neg (by omega), if_neg (by omega)]
def opnE (s : List UInt8) : Int := if s.length ≠ 512 then 10 else if opB s = false then 31 else 0
theorem opB_trn (l : List UInt8) : opB l = decide ((trnL l 8).length = 0) := by
 unfold opB trnL
 rw [Bool.eq_iff_iff, decide_eq_true_eq, List.length_eq_zero_iff, List.filter_eq_nil_iff, List.all_eq_true]
 exact ⟨fun h a ha => by have := h a ha; simpa using this, fun h a ha => by have := h a ha; simpa using this⟩
theorem OpenBlock_any (s : ByteArray) (w : World) (hl : s.size ≤ 1000000) :
 Calls Tryz.prog 87 #[.string s] w fun e w' => e = .returned (.tuple #[.string (if opnE (bl s) = 0 then bs (opL (bl s)) else ⟨#[]⟩), .int .i64 (if opnE (bl s) = 0 then usnL (bl s) else 0), .int .i64 (opnE (bl s))]) ∧ Below w.heap.size w w' := by
 refine st_enter (N := 41) Tryz.func87 rfl rfl rfl (fun a0 h0 => ?_)
 have S0 := St.init w
 refine st_seq (st_reg ?_)
 refine ma h0 rfl rfl fun a1 h1 => ?_
 refine ma h1 rfl rfl fun a2 h2 => ?_
 refine ma h2 rfl rfl fun a3 h3 => ?_
 refine st_nil (go_then (st_seq (st_seq (st_reg ?_))))
 refine mv h3 rfl rfl fun a4 h4 => ?_
 refine sl_pure h4 (wn rfl) (ex_call (fun _ _ => by kernel_rfl) (h4.evs rfl) rfl) rfl rfl (CheckBlock_any _ _) fun a5 h5 => ?_
 refine ma h5 rfl rfl fun a6 h6 => ?_
 refine nsr ?_
 refine mv h6 rfl rfl fun a7 h7 => ?_
 refine sv h7 (ex_neq (h7.ev rfl) (h7.ev rfl)) fun a8 h8 => ?_
 refine st_nil (go_then ?_)
 refine st_if (h8.ev rfl) (fun hc0 => ?_) (fun hc0 => ?_)
 ·
  have hs : ¬ s.size = 512 := by intro h; rw [h] at hc0; exact absurd hc0 (by decide)
  have hE : opnE (bl s) = 10 := by unfold opnE; rw [bl_length, if_pos hs]
  have hv : unl (s.size == 512) 10 = 10 := by rw [show (s.size == 512) = false by simpa using hs]; rfl
  refine st_seq (st_reg ?_)
  refine mv h8 rfl rfl fun a9 h9 => ?_
  refine ma h9 rfl rfl fun a10 h10 => ?_
  refine ma h10 rfl rfl fun a11 h11 => ?_
  refine ma h11 rfl rfl fun a12 h12 => ?_
  refine st_nil (go_then (wp_ret (ret_then ?_)))
  refine fin3 h12 rfl rfl rfl rfl ?_
  exact ⟨by rw [if_neg (by rw [hE]; decide), if_neg (by rw [hE]; decide), hE, hv], S0.below⟩
 ·
  have hs : s.size = 512 := by
   cases h : (s.size == 512) with
   | true => simpa using h
   | false => rw [h] at hc0; exact absurd hc0 (by decide)
  have hbl : (bl s).length = 512 := by rw [bl_length]; exact hs
  have hok := fun k (hk : k ≤ 8) => (opK_spec (bl s) hbl k hk).1
  refine wp_skip (go_then (st_seq (st_seq (st_reg ?_))))
  refine mv h8 rfl rfl fun a13 h13 => ?_
  refine sl_own h13 (wn rfl) (ex_call (fun _ _ => by kernel_rfl) (h13.evs rfl) rfl) rfl rfl S0 (torn_any _ hs _) (Nat.le_refl _) fun A15 c15 a14 X14 h14 S14 => ?_
  refine sv h14 (ex_len Tryz.underlying159 (h14.ev rfl)) fun a15 h15 => ?_
  refine sv h15 (ex_gtr (h15.ev rfl) (h15.ev rfl)) fun a16 h16 => ?_
  refine st_nil (go_then ?_)
  refine st_if (h16.ev rfl) (fun hc1 => ?_) (fun hc1 => ?_)
  ·
   have hB : opB (bl s) = false := by rw [opB_trn, decide_eq_false_iff_not]; have := of_decide_eq_true hc1; omega
   have hE : opnE (bl s) = 31 := by unfold opnE; rw [if_neg (by simpa using hbl), if_pos hB]
   refine st_seq (st_reg ?_)
   refine ma h16 rfl rfl fun a17 h17 => ?_
   refine ma h17 rfl rfl fun a18 h18 => ?_
   refine ma h18 rfl rfl fun a19 h19 => ?_
   refine st_nil (go_then (wp_ret (ret_then ?_)))
   refine fin3 h19 rfl rfl rfl rfl ?_
   exact ⟨by rw [if_neg (by rw [hE]; decide), if_neg (by rw [hE]; decide), hE], S14.below⟩
  ·
   have hB : opB (bl s) = true := by rw [opB_trn, decide_eq_true_eq]; have := of_decide_eq_false hc1; omega
   have hE : opnE (bl s) = 0 := by unfold opnE; rw [if_neg (by simpa using hbl), if_neg (by rw [hB]; decide)]
   refine wp_skip (go_then (st_seq (st_reg ?_)))
   refine mv h16 rfl rfl fun a20 h20 => ?_
   refine sl_bytes h20 (wn rfl) ⟨rfl, rfl⟩ rfl Tryz.underlying9 Tryz.underlying161 Tryz.underlying5 (h20.ev rfl) S14 fun b19 cb19 a21 X21 gb19 zb19 h21 S21 => ?_
   refine ma h21 rfl rfl fun a22 h22 => ?_
   refine nsr ?_
   refine mv h22 rfl rfl fun a23 h23 => ?_
   refine sl_bel h23 (wn rfl) (ex_call (fun _ _ => by kernel_rfl) (h23.evs rfl) rfl) rfl rfl S21 (dat_any b19 cb19 40 s.size _ _ (S21.at_ (i := 0) rfl) (by omega) (by omega) (by omega) (by omega)) fun a24 X24 h24 S24 => ?_
   refine sl_bel h24 (wn rfl) (ex_call (fun _ _ => by kernel_rfl) (h24.evs rfl) rfl) rfl rfl S24 (dnumber_any _ _ (by rw [bs_size, List.length_take, List.length_drop]; omega)) fun a25 X25 h25 S25 => ?_
   refine ma h25 rfl rfl fun a26 h26 => ?_
   refine st_nil (go_then (st_seq (st_seq (st_reg ?_))))
   refine mv h26 rfl rfl fun a27 h27 => ?_
   refine st_nil (go_then (wp_block ?_))
   refine st_loop h27 S25 [7, 6, 4, 3, 2] (fun (k : Nat) => [(23, .int .i64 k)]) (fun (k : Nat) => k ≤ 8) (fun k L => L.set 0 (.byt b19 (opK (bl s) k))) (fun (k : Nat) => 8 - k) (0) ((by omega)) ⟨rfl, rfl, rfl, rfl, rfl, rfl, trivial⟩ (S25) ?_
   intro k a28 X28 hF0 h28 S28
   refine st_seq (st_reg ?_)
   refine sv h28 (ex_lss (h28.ev rfl) (h28.ev rfl)) fun a29 h29 => ?_
   refine st_nil (go_then (st_seq ?_))
   refine st_if (h29.ev rfl) (fun hc2 => ?_) (fun hc2 => ?_)
   ·
    have hk : k < 8 := by have := of_decide_eq_true hc2; omega
    have hp := hok k (by omega)
    have hta : tlA k = 64 * k + 62 := rfl
    have htk : (((opK (bl s) k).drop (42 + 2 * k)).take 2).length = 2 := by rw [List.length_take, List.length_drop]; omega
    refine wp_skip (go_then (st_seq (wp_block (st_seq (st_reg ?_)))))
    refine mv h29 rfl rfl fun a30 h30 => ?_
    refine ma h30 rfl rfl fun a31 h31 => ?_
    refine st_nil (go_then (st_reg ?_))
    refine mv h31 rfl rfl fun a32 h32 => ?_
    refine mv h32 rfl rfl fun a33 h33 => ?_
    refine sl_pure h33 (wn rfl) (ex_call (fun _ _ => by kernel_rfl) (h33.evs rfl) rfl) rfl rfl (dtail_any _ _ (by omega)) fun a34 h34 => ?_
    refine mv h34 rfl rfl fun a35 h35 => ?_
    refine mv h35 rfl rfl fun a36 h36 => ?_
    refine sv h36 (ex_mul (h36.ev rfl) (h36.ev rfl) (by omega)) fun a37 h37 => ?_
    refine sv h37 (as_val (v' := .int .i64 ((42 + 2 * k : Nat) : Int)) (congrArg _ (by omega)) (ex_add (h37.ev rfl) (h37.ev rfl) (by omega))) fun a38 h38 => ?_
    refine sl_bel h38 (wn rfl) (ex_call (fun _ _ => by kernel_rfl) (h38.evs rfl) rfl) rfl rfl S28 (dat_any b19 cb19 (42 + 2 * k) s.size _ _ (S28.at_ (i := 0) rfl) (by omega) (by omega) (by omega) (by omega)) fun a39 X39 h39 S39 => ?_
    refine sl_upd h39 (wn rfl) (ex_call (fun _ _ => by kernel_rfl) (h39.evs rfl) rfl) S39 (i := 0) rfl rfl (dput_any b19 cb19 (tlA k) s.size _ _ _ (S39.at_ (i := 0) rfl) (by omega) (by omega) (by omega) (by omega) (by omega)) fun a40 X40 hq40 S40 => ?_
    have h40 := hq40 rfl
    rw [opK_at hbl k k (by omega) hk] at S40
    refine st_nil (go_block (go_then (st_reg ?_)))
    refine sv h40 (ex_add (h40.ev rfl) (h40.ev rfl) (by omega)) fun a41 h41 => ?_
    refine mv h41 rfl rfl fun a42 h42 => ?_
    refine st_nil (go_then ?_)
    exact ⟨k + 1, by omega, by omega, h42.re ⟨rfl, rfl, rfl, rfl, rfl, rfl, trivial⟩, S40⟩
   ·
    have hk : k = 8 := by have := of_decide_eq_false hc2; omega
    subst hk
    have hp := hok 8 (by omega)
    refine wp_exit ?_
    refine go_exit_then ?_
    refine go_exit_then ?_
    refine go_exit ?_
    refine go_then (st_seq (st_reg ?_))
    refine mv h29 rfl rfl fun a43 h43 => ?_
    refine sv h43 (ex_slice (l := 40) (h := 58) (sz := 1) Tryz.underlying161 (by kernel_rfl) (h43.ev rfl) (h43.ev rfl) (h43.ev rfl) (by omega) (by omega) (.inl (by omega)) rfl) fun a44 h44 => ?_
    refine sl_bclear h44 (wn rfl) ⟨rfl, rfl⟩ Tryz.underlying161 (by kernel_rfl) (h44.ev rfl) S28 (i := 0) rfl (by omega) fun X45 S45 => ?_
    refine nsr ?_
    refine mv h44 rfl rfl fun a46 h46 => ?_
    refine sv h46 (ex_bstr Tryz.underlying161 Tryz.underlying5 Tryz.underlying9 (h46.ev rfl) (S45.bytStr (i := 0) (n := s.size) rfl (by show 0 + s.size ≤ (opL (bl s)).length; rw [opL_length hbl]; omega)).1 (S45.bytStr (i := 0) (n := s.size) rfl (by show 0 + s.size ≤ (opL (bl s)).length; rw [opL_length hbl]; omega)).2) fun a47 h47 => ?_
    refine mv h47 rfl rfl fun a48 h48 => ?_
    refine ma h48 rfl rfl fun a49 h49 => ?_
    refine ma h49 rfl rfl fun a50 h50 => ?_
    refine ma h50 rfl rfl fun a51 h51 => ?_
    refine st_nil (go_then (wp_ret ?_))
    refine fin3 h51 rfl rfl rfl rfl ?_
    refine ⟨?_, S45.below⟩
    rw [if_pos hE, if_pos hE, hE, g16_usn hbl]
    show Ending.returned (.tuple #[.string (bs (((opL (bl s)).drop 0).take s.size)), _, _]) = _
    rw [List.drop_zero, List.take_of_length_le (by rw [opL_length hbl]; omega)]
end Go.Proofs.YtmlilplbdpjfcaaGreatDoor
namespace Go.Proofs.YtmlilplbdpjfcaaGreatDoor
set_option linter.unusedVariables false
set_option linter.unusedSimpArgs false
set_option maxRecDepth 4000
open Go.RowKit Go.Sort
theorem protect_l (l : List UInt8) (n : Int) (hl : l.length = 512) (hz : ∀ i, 40 ≤ i → i < 58 → l.getD i 0 = 0) (hn : 1 ≤ n ∧ n ≤ 65535) (w : World) :
 Calls Tryz.prog 120 #[.string (bs l), .int .i64 n] w fun e w' => e = .returned (.tuple #[.string (bs (prL l n)), .int .i64 0]) ∧ Below w.heap.size w w' := by
 have := protect_ok (bs l) n (by rw [bs_size]; exact hl) (by rw [bl_bs]; exact hz) hn w
 rw [bl_bs] at this; exact this
def pageV (q s : Int) (c : ByteArray) : Value := .agg #[.int .i64 q, .int .i64 s, .string c]
theorem block_any (q s : Int) (c : List UInt8) (rooms : Int) (hq : 0 ≤ q ∧ q < 4294967296) (hs : 0 ≤ s ∧ s < 4294967296) (hc : c.length ≤ 448) (hr : 1 ≤ rooms) (w : World) :
 Calls Tryz.prog 128 #[pageV q s (bs c), .int .i64 rooms] w fun e w' => e = .returned (.string (bs (prL (pgH q c.length s (c ++ zerosL (448 - c.length))) ((q / rooms + s) % 65535 + 1)))) ∧ Below w.heap.size w w' := by
 have l0 : (patL (zerosL 512) 0 [82, 67, 82, 68]).length = 512 := by rw [patL_length (by rw [zerosL_length]; decide), zerosL_length]
 have l1 : (patL (patL (zerosL 512) 0 [82, 67, 82, 68]) 8 (lit q 4)).length = 512 := by rw [patL_length (by rw [l0, lit_length]; omega), l0]
 have l2 : (patL (patL (patL (zerosL 512) 0 [82, 67, 82, 68]) 8 (lit q 4)) 12 (lit c.length 2)).length = 512 := by rw [patL_length (by rw [l1, lit_length]; omega), l1]
 have l3 : (patL (patL (patL (patL (zerosL 512) 0 [82, 67, 82, 68]) 8 (lit q 4)) 12 (lit c.length 2)) 14 (lit s 4)).length = 512 := by rw [patL_length (by rw [l2, lit_length]; omega), l2]
 have hsz : (bs c).size = c.length := bs_size c
 have hqr : 0 ≤ q / rooms := Int.ediv_nonneg hq.1 (by omega)
 have hqr2 : q / rooms ≤ q := Int.ediv_le_self _ hq.1
 have hP : (pgH q c.length s (c ++ zerosL (448 - c.length))).length = 512 := by rw [pgH_length, List.length_append, zerosL_length]; omega
 have hst : (patL (patL (patL (patL (zerosL 512) 0 [82, 67, 82, 68]) 8 (lit q 4)) 12 (lit c.length 2)) 14 (lit s 4)).take (0 + 64 * 1) ++ (bl (bs c)).take (512 - 64) ++ (patL (patL (patL (patL (zerosL 512) 0 [82, 67, 82, 68]) 8 (lit q 4)) 12 (lit c.length 2)) 14 (lit s 4)).drop (0 + 64 * 1 + min (bs c).size (512 - 64)) = pgH q c.length s (c ++ zerosL (448 - c.length)) := by
  rw [bl_bs, hsz, List.take_of_length_le (l := c) (by omega), Nat.min_eq_left (by omega), ← pgH_steps q c.length s c hc]
  rfl
 refine st_enter (N := 51) Tryz.func128 rfl rfl rfl (fun a0 h0 => ?_)
 have S0 := St.init w
 refine st_seq (st_reg ?_)
 refine nb h0 rfl rfl S0 fun b2 a1 X1 gb2 h1 S1 => ?_
 refine ma h1 rfl rfl fun a2 h2 => ?_
 refine nsr ?_
 refine sl_make (n := 512) h2 (wn rfl) ⟨rfl, rfl⟩ rfl Tryz.underlying130 (by kernel_rfl) (h2.ev rfl) (h2.ev rfl) (by omega) S1 fun b8 a3 X3 gb8 h3 S3 => ?_
 refine ma h3 rfl rfl fun a4 h4 => ?_
 refine nsr ?_
 refine mv h4 rfl rfl fun a5 h5 => ?_
 refine sl_copys h5 (wn rfl) rfl Tryz.underlying130 (by kernel_rfl) (h5.ev rfl) (h5.ev rfl) S3 (i := 0) rfl (by rw [zerosL_length]; omega) fun a6 X6 hq6 S6 => ?_
 have h6 := hq6 rfl
 refine st_nil (go_then (st_seq ?_))
 apply dr_flow h6 [false, false, false, false, false] _ (by kernel_rfl)
 case h =>
  refine qv h6 (fun X hX => ex_move (h6.ev rfl)) fun a7 h7 => ?_
  refine qv h7 (fun X hX => ex_slice (l := 8) (h := 512) (sz := 1) Tryz.underlying130 (by kernel_rfl) (h7.ev rfl) (h7.ev rfl) rfl (by omega) (by omega) (.inl (by omega)) rfl) fun a8 h8 => ?_
  refine qv h8 (fun X hX => ex_field (off := 0) (j := 0) (by kernel_rfl) (h8.ev rfl) rfl) fun a9 h9 => ?_
  refine qv h9 (fun X hX => ex_load (by kernel_rfl) (h9.ev rfl) ((S6.grow hX).cell (i := 1) rfl rfl)) fun a10 h10 => ?_
  refine qv h10 (fun X hX => ex_convin (by kernel_rfl) Tryz.underlying128 (h10.ev rfl) (wrap_u32 hq)) fun a11 h11 => ?_
  refine sq_nil ?_
  refine nd_end fun X12 hX12 hΦ12 => ?_
  have S12 := S6.grow hX12
  refine sl_upd h11 (wn rfl) (ex_call (fun _ _ => by kernel_rfl) (h11.evs rfl) rfl) S12 (i := 0) rfl rfl (put32_any b8 (0 + 8 * 1) (512 - 8) (512 - 8) (patL (zerosL 512) 0 [82, 67, 82, 68]) _ hq.1 _ (S12.at_ (i := 0) rfl) (by rw [l0]; omega) (by omega) (by omega)) fun a13 X13 hq13 S13 => ?_
  have h13 := hq13 rfl
  refine st_nil (go_then (st_seq ?_))
  apply dr_flow h13 [false, false, false, false, false, false] _ (by kernel_rfl)
  case h =>
   refine qv h13 (fun X hX => ex_move (h13.ev rfl)) fun a14 h14 => ?_
   refine qv h14 (fun X hX => ex_slice (l := 12) (h := 512) (sz := 1) Tryz.underlying130 (by kernel_rfl) (h14.ev rfl) (h14.ev rfl) rfl (by omega) (by omega) (.inl (by omega)) rfl) fun a15 h15 => ?_
   refine qv h15 (fun X hX => ex_field (off := 2) (j := 2) (by kernel_rfl) (h15.ev rfl) rfl) fun a16 h16 => ?_
   refine qv h16 (fun X hX => ex_load (by kernel_rfl) (h16.ev rfl) ((S13.grow hX).cell (i := 1) rfl rfl)) fun a17 h17 => ?_
   refine qv h17 (fun X hX => ex_slen Tryz.underlying9 (h17.ev rfl)) fun a18 h18 => ?_
   refine qv h18 (fun X hX => as_val (v' := .int .u16 (c.length : Int)) (by rw [hsz, wrap_u16 (by omega)]) (ex_conv (k0 := .i64) (by kernel_rfl) Tryz.underlying151 (h18.ev rfl))) fun a19 h19 => ?_
   refine sq_nil ?_
   refine nd_end fun X20 hX20 hΦ20 => ?_
   have S20 := S13.grow hX20
   refine sl_upd h19 (wn rfl) (ex_call (fun _ _ => by kernel_rfl) (h19.evs rfl) rfl) S20 (i := 0) rfl rfl (put16_any b8 (0 + 12 * 1) (512 - 12) (512 - 12) _ _ (by omega) _ (S20.at_ (i := 0) rfl) (by show 0 + 12 * 1 + 2 ≤ (patL (patL (zerosL 512) 0 [82, 67, 82, 68]) 8 (lit q 4)).length; rw [l1]; omega) (by omega)) fun a21 X21 hq21 S21 => ?_
   have h21 := hq21 rfl
   refine st_nil (go_then (st_seq ?_))
   apply dr_flow h21 [false, false, false, false, false] _ (by kernel_rfl)
   case h =>
    refine qv h21 (fun X hX => ex_move (h21.ev rfl)) fun a22 h22 => ?_
    refine qv h22 (fun X hX => ex_slice (l := 14) (h := 512) (sz := 1) Tryz.underlying130 (by kernel_rfl) (h22.ev rfl) (h22.ev rfl) rfl (by omega) (by omega) (.inl (by omega)) rfl) fun a23 h23 => ?_
    refine qv h23 (fun X hX => ex_field (off := 1) (j := 1) (by kernel_rfl) (h23.ev rfl) rfl) fun a24 h24 => ?_
    refine qv h24 (fun X hX => ex_load (by kernel_rfl) (h24.ev rfl) ((S21.grow hX).cell (i := 1) rfl rfl)) fun a25 h25 => ?_
    refine qv h25 (fun X hX => ex_convin (by kernel_rfl) Tryz.underlying128 (h25.ev rfl) (wrap_u32 hs)) fun a26 h26 => ?_
    refine sq_nil ?_
    refine nd_end fun X27 hX27 hΦ27 => ?_
    have S27 := S21.grow hX27
    refine sl_upd h26 (wn rfl) (ex_call (fun _ _ => by kernel_rfl) (h26.evs rfl) rfl) S27 (i := 0) rfl rfl (put32_any b8 (0 + 14 * 1) (512 - 14) (512 - 14) _ _ hs.1 _ (S27.at_ (i := 0) rfl) (by show 0 + 14 * 1 + 4 ≤ (patL (patL (patL (zerosL 512) 0 [82, 67, 82, 68]) 8 (lit q 4)) 12 (lit c.length 2)).length; rw [l2]; omega) (by omega) (by omega)) fun a28 X28 hq28 S28 => ?_
    have h28 := hq28 rfl
    refine st_nil (go_then (st_seq ?_))
    apply dr_flow h28 [false, false, false, false] _ (by kernel_rfl)
    case h =>
     refine qv h28 (fun X hX => ex_move (h28.ev rfl)) fun a29 h29 => ?_
     refine qv h29 (fun X hX => ex_slice (l := 64) (h := 512) (sz := 1) Tryz.underlying130 (by kernel_rfl) (h29.ev rfl) (h29.ev rfl) rfl (by omega) (by omega) (.inl (by omega)) rfl) fun a30 h30 => ?_
     refine qv h30 (fun X hX => ex_field (off := 2) (j := 2) (by kernel_rfl) (h30.ev rfl) rfl) fun a31 h31 => ?_
     refine qv h31 (fun X hX => ex_load (by kernel_rfl) (h31.ev rfl) ((S28.grow hX).cell (i := 1) rfl rfl)) fun a32 h32 => ?_
     refine sq_nil ?_
     refine nd_end fun X33 hX33 hΦ33 => ?_
     have S33 := S28.grow hX33
     refine sl_copys h32 (wn rfl) rfl Tryz.underlying130 (by kernel_rfl) (h32.ev rfl) (h32.ev rfl) S33 (i := 0) rfl (by show 0 + 64 * 1 + (512 - 64) ≤ (patL (patL (patL (patL (zerosL 512) 0 [82, 67, 82, 68]) 8 (lit q 4)) 12 (lit c.length 2)) 14 (lit s 4)).length; rw [l3]; omega) fun a34 X34 hq34 S34 => ?_
     have h34 := hq34 rfl
     replace S34 := S34.byEq (i := 0) rfl hst
     refine st_nil (go_then (st_seq ?_))
     apply dr_flow h34 [false, false, false, false, false, false, false, false, false, false, false, false, false, false, false, false] _ (by kernel_rfl)
     case h =>
      refine qv h34 (fun X hX => ex_move (h34.ev rfl)) fun a35 h35 => ?_
      refine qv h35 (fun X hX => as_val (v' := .string (bs (pgH q c.length s (c ++ zerosL (448 - c.length))))) (by rw [List.drop_zero, List.take_of_length_le (by omega)]) (ex_bstr Tryz.underlying130 Tryz.underlying5 Tryz.underlying9 (h35.ev rfl) ((S34.grow hX).bytStr (i := 0) (n := 512) rfl (by omega)).1 ((S34.grow hX).bytStr (i := 0) (n := 512) rfl (by omega)).2)) fun a36 h36 => ?_
      refine qv h36 (fun X hX => ex_field (off := 0) (j := 0) (by kernel_rfl) (h36.ev rfl) rfl) fun a37 h37 => ?_
      refine qv h37 (fun X hX => ex_load (by kernel_rfl) (h37.ev rfl) ((S34.grow hX).cell (i := 1) rfl rfl)) fun a38 h38 => ?_
      refine qv h38 (fun X hX => ex_move (h38.ev rfl)) fun a39 h39 => ?_
      refine qv h39 (fun X hX => ex_quo (h39.ev rfl) (h39.ev rfl) (by omega)) fun a40 h40 => ?_
      refine qv h40 (fun X hX => ex_field (off := 1) (j := 1) (by kernel_rfl) (h40.ev rfl) rfl) fun a41 h41 => ?_
      refine qv h41 (fun X hX => ex_load (by kernel_rfl) (h41.ev rfl) ((S34.grow hX).cell (i := 1) rfl rfl)) fun a42 h42 => ?_
      refine qv h42 (fun X hX => ex_add (h42.ev rfl) (h42.ev rfl) (by omega)) fun a43 h43 => ?_
      refine qv h43 (fun X hX => ex_rem (h43.ev rfl) (h43.ev rfl) (by omega)) fun a44 h44 => ?_
      refine qv h44 (fun X hX => ex_add (h44.ev rfl) (h44.ev rfl) (by omega)) fun a45 h45 => ?_
      refine sq_bel h45 (wn rfl) rfl rfl (fun X => (ex_call (fun _ _ => by kernel_rfl) (h45.evs rfl) rfl)) (fun X hX => protect_l _ _ hP (fun i hi1 hi2 => pgH_zero _ _ _ _ i (by omega) (by omega)) (by omega) _) fun a46 h46 => ?_
      refine qv h46 (fun X hX => ex_move (h46.ev rfl)) fun a47 h47 => ?_
      refine qv h47 (fun X hX => ex_extract (h47.ev rfl) rfl) fun a48 h48 => ?_
      refine qv h48 (fun X hX => ex_extract (h48.ev rfl) rfl) fun a49 h49 => ?_
      refine qv h49 (fun X hX => ex_assign (h49.ev rfl)) fun a50 h50 => ?_
      refine sq_nil ?_
      refine nd_end fun X51 hX51 hΦ51 => ?_
      have S51 := S34.grow hX51
      refine ma h50 rfl rfl fun a52 h52 => ?_
      refine nsr ?_
      refine mv h52 rfl rfl fun a53 h53 => ?_
      refine ma h53 rfl rfl fun a54 h54 => ?_
      refine st_nil (go_then (wp_ret ?_))
      refine fin1 h54 rfl rfl ?_
      exact ⟨rfl, S51.below⟩
     case hB => kernel_rfl
     case hst => rfl
    case hB => kernel_rfl
    case hst => rfl
   case hB => kernel_rfl
   case hst => rfl
  case hB => kernel_rfl
  case hst => rfl
 case hB => kernel_rfl
 case hst => rfl
def U4 (n : Int) : Prop := 0 ≤ n ∧ n < 4294967296
theorem restartPage_any (x : RstP) (pg : Int) (hs : U4 x.s) (hc : U4 x.c) (ho : U4 x.o) (hpg : 0 ≤ pg ∧ pg < 65536) (w : World) :
 Calls Tryz.prog 85 #[rstV x, .int .i64 pg] w fun e w' => e = .returned (.string (bs (rsL x pg))) ∧ Below w.heap.size w w' := by
 have l0 : (patL (zerosL 512) 0 [82, 83, 84, 82]).length = 512 := by rw [patL_length (by rw [zerosL_length]; decide), zerosL_length]
 have l1 : (patL (patL (zerosL 512) 0 [82, 83, 84, 82]) 8 (lit x.s 4)).length = 512 := by rw [patL_length (by rw [l0, lit_length]; omega), l0]
 have l2 : (patL (patL (patL (zerosL 512) 0 [82, 83, 84, 82]) 8 (lit x.s 4)) 12 (lit x.c 4)).length = 512 := by rw [patL_length (by rw [l1, lit_length]; omega), l1]
 have l3 : (patL (patL (patL (patL (zerosL 512) 0 [82, 83, 84, 82]) 8 (lit x.s 4)) 12 (lit x.c 4)) 16 (lit x.o 4)).length = 512 := by rw [patL_length (by rw [l2, lit_length]; omega), l2]
 have hP := rsH_length x pg
 refine st_enter (N := 45) Tryz.func85 rfl rfl rfl (fun a0 h0 => ?_)
 have S0 := St.init w
 refine st_seq (st_reg ?_)
 refine nb h0 rfl rfl S0 fun b2 a1 X1 gb2 h1 S1 => ?_
 refine ma h1 rfl rfl fun a2 h2 => ?_
 refine nsr ?_
 refine sl_make (n := 512) h2 (wn rfl) ⟨rfl, rfl⟩ rfl Tryz.underlying130 (by kernel_rfl) (h2.ev rfl) (h2.ev rfl) (by omega) S1 fun b8 a3 X3 gb8 h3 S3 => ?_
 refine ma h3 rfl rfl fun a4 h4 => ?_
 refine nsr ?_
 refine mv h4 rfl rfl fun a5 h5 => ?_
 refine sl_copys h5 (wn rfl) rfl Tryz.underlying130 (by kernel_rfl) (h5.ev rfl) (h5.ev rfl) S3 (i := 0) rfl (by rw [zerosL_length]; omega) fun a6 X6 hq6 S6 => ?_
 have h6 := hq6 rfl
 refine st_nil (go_then (st_seq ?_))
 apply dr_flow h6 [false, false, false, false, false] _ (by kernel_rfl)
 case h =>
  refine qv h6 (fun X hX => ex_move (h6.ev rfl)) fun a7 h7 => ?_
  refine qv h7 (fun X hX => ex_slice (l := 8) (h := 512) (sz := 1) Tryz.underlying130 (by kernel_rfl) (h7.ev rfl) (h7.ev rfl) rfl (by omega) (by omega) (.inl (by omega)) rfl) fun a8 h8 => ?_
  refine qv h8 (fun X hX => ex_field (off := 0) (j := 0) (by kernel_rfl) (h8.ev rfl) rfl) fun a9 h9 => ?_
  refine qv h9 (fun X hX => ex_load (by kernel_rfl) (h9.ev rfl) ((S6.grow hX).cell (i := 1) rfl rfl)) fun a10 h10 => ?_
  refine qv h10 (fun X hX => ex_convin (by kernel_rfl) Tryz.underlying128 (h10.ev rfl) (wrap_u32 hs)) fun a11 h11 => ?_
  refine sq_nil ?_
  refine nd_end fun X12 hX12 hΦ12 => ?_
  have S12 := S6.grow hX12
  refine sl_upd h11 (wn rfl) (ex_call (fun _ _ => by kernel_rfl) (h11.evs rfl) rfl) S12 (i := 0) rfl rfl (put32_any b8 (0 + 8 * 1) (512 - 8) (512 - 8) (patL (zerosL 512) 0 [82, 83, 84, 82]) _ hs.1 _ (S12.at_ (i := 0) rfl) (by rw [l0]; omega) (by omega) (by omega)) fun a13 X13 hq13 S13 => ?_
  have h13 := hq13 rfl
  refine st_nil (go_then (st_seq ?_))
  apply dr_flow h13 [false, false, false, false, false] _ (by kernel_rfl)
  case h =>
   refine qv h13 (fun X hX => ex_move (h13.ev rfl)) fun a14 h14 => ?_
   refine qv h14 (fun X hX => ex_slice (l := 12) (h := 512) (sz := 1) Tryz.underlying130 (by kernel_rfl) (h14.ev rfl) (h14.ev rfl) rfl (by omega) (by omega) (.inl (by omega)) rfl) fun a15 h15 => ?_
   refine qv h15 (fun X hX => ex_field (off := 1) (j := 1) (by kernel_rfl) (h15.ev rfl) rfl) fun a16 h16 => ?_
   refine qv h16 (fun X hX => ex_load (by kernel_rfl) (h16.ev rfl) ((S13.grow hX).cell (i := 1) rfl rfl)) fun a17 h17 => ?_
   refine qv h17 (fun X hX => ex_convin (by kernel_rfl) Tryz.underlying128 (h17.ev rfl) (wrap_u32 hc)) fun a18 h18 => ?_
   refine sq_nil ?_
   refine nd_end fun X19 hX19 hΦ19 => ?_
   have S19 := S13.grow hX19
   refine sl_upd h18 (wn rfl) (ex_call (fun _ _ => by kernel_rfl) (h18.evs rfl) rfl) S19 (i := 0) rfl rfl (put32_any b8 (0 + 12 * 1) (512 - 12) (512 - 12) _ _ hc.1 _ (S19.at_ (i := 0) rfl) (by show 0 + 12 * 1 + 4 ≤ (patL (patL (zerosL 512) 0 [82, 83, 84, 82]) 8 (lit x.s 4)).length; rw [l1]; omega) (by omega) (by omega)) fun a20 X20 hq20 S20 => ?_
   have h20 := hq20 rfl
   refine st_nil (go_then (st_seq ?_))
   apply dr_flow h20 [false, false, false, false, false] _ (by kernel_rfl)
   case h =>
    refine qv h20 (fun X hX => ex_move (h20.ev rfl)) fun a21 h21 => ?_
    refine qv h21 (fun X hX => ex_slice (l := 16) (h := 512) (sz := 1) Tryz.underlying130 (by kernel_rfl) (h21.ev rfl) (h21.ev rfl) rfl (by omega) (by omega) (.inl (by omega)) rfl) fun a22 h22 => ?_
    refine qv h22 (fun X hX => ex_field (off := 2) (j := 2) (by kernel_rfl) (h22.ev rfl) rfl) fun a23 h23 => ?_
    refine qv h23 (fun X hX => ex_load (by kernel_rfl) (h23.ev rfl) ((S20.grow hX).cell (i := 1) rfl rfl)) fun a24 h24 => ?_
    refine qv h24 (fun X hX => ex_convin (by kernel_rfl) Tryz.underlying128 (h24.ev rfl) (wrap_u32 ho)) fun a25 h25 => ?_
    refine sq_nil ?_
    refine nd_end fun X26 hX26 hΦ26 => ?_
    have S26 := S20.grow hX26
    refine sl_upd h25 (wn rfl) (ex_call (fun _ _ => by kernel_rfl) (h25.evs rfl) rfl) S26 (i := 0) rfl rfl (put32_any b8 (0 + 16 * 1) (512 - 16) (512 - 16) _ _ ho.1 _ (S26.at_ (i := 0) rfl) (by show 0 + 16 * 1 + 4 ≤ (patL (patL (patL (zerosL 512) 0 [82, 83, 84, 82]) 8 (lit x.s 4)) 12 (lit x.c 4)).length; rw [l2]; omega) (by omega) (by omega)) fun a27 X27 hq27 S27 => ?_
    have h27 := hq27 rfl
    refine nsr ?_
    refine mv h27 rfl rfl fun a28 h28 => ?_
    refine sv h28 (ex_slice (l := 20) (h := 512) (sz := 1) Tryz.underlying130 (by kernel_rfl) (h28.ev rfl) (h28.ev rfl) rfl (by omega) (by omega) (.inl (by omega)) rfl) fun a29 h29 => ?_
    refine mv h29 rfl rfl fun a30 h30 => ?_
    refine sv h30 (ex_convin (by kernel_rfl) Tryz.underlying151 (h30.ev rfl) (wrap_u16 hpg)) fun a31 h31 => ?_
    refine sl_upd h31 (wn rfl) (ex_call (fun _ _ => by kernel_rfl) (h31.evs rfl) rfl) S27 (i := 0) rfl rfl (put16_any b8 (0 + 20 * 1) (512 - 20) (512 - 20) _ _ hpg.1 _ (S27.at_ (i := 0) rfl) (by show 0 + 20 * 1 + 2 ≤ (patL (patL (patL (patL (zerosL 512) 0 [82, 83, 84, 82]) 8 (lit x.s 4)) 12 (lit x.c 4)) 16 (lit x.o 4)).length; rw [l3]; omega) (by omega)) fun a32 X32 hq32 S32 => ?_
    have h32 := hq32 rfl
    replace S32 := S32.byEq (i := 0) rfl (rsH_steps x pg)
    refine nsr ?_
    refine mv h32 rfl rfl fun a33 h33 => ?_
    refine sv h33 (as_val (v' := .string (bs (rsH x pg))) (by rw [List.drop_zero, List.take_of_length_le (by omega)]) (ex_bstr Tryz.underlying130 Tryz.underlying5 Tryz.underlying9 (h33.ev rfl) (S32.bytStr (i := 0) (n := 512) rfl (by omega)).1 (S32.bytStr (i := 0) (n := 512) rfl (by omega)).2)) fun a34 h34 => ?_
    refine vf h34 0 0 rfl rfl rfl fun a35 h35 => ?_
    refine vl h35 S32 1 rfl rfl rfl rfl fun a36 h36 => ?_
    refine sv h36 (ex_rem (h36.ev rfl) (h36.ev rfl) (by have := hs.1; omega)) fun a37 h37 => ?_
    refine sv h37 (ex_add (h37.ev rfl) (h37.ev rfl) (by have := hs.1; omega)) fun a38 h38 => ?_
    refine sl_bel h38 (wn rfl) (ex_call (fun _ _ => by kernel_rfl) (h38.evs rfl) rfl) rfl rfl S32 (protect_l _ _ hP (fun i hi1 hi2 => rsH_zero _ _ i (by omega)) (by have := hs.1; omega) _) fun a39 X39 h39 S39 => ?_
    refine mv h39 rfl rfl fun a40 h40 => ?_
    refine vx h40 rfl rfl rfl fun a41 h41 => ?_
    refine vx h41 rfl rfl rfl fun a42 h42 => ?_
    refine ma h42 rfl rfl fun a43 h43 => ?_
    refine ma h43 rfl rfl fun a44 h44 => ?_
    refine nsr ?_
    refine mv h44 rfl rfl fun a45 h45 => ?_
    refine ma h45 rfl rfl fun a46 h46 => ?_
    refine st_nil (go_then (wp_ret ?_))
    refine fin1 h46 rfl rfl ?_
    exact ⟨rfl, S39.below⟩
   case hB => kernel_rfl
   case hst => rfl
  case hB => kernel_rfl
  case hst => rfl
 case hB => kernel_rfl
 case hst => rfl
theorem rstB_U4 {x : RstP} (h : rstB x = true) : U4 x.s ∧ U4 x.c ∧ U4 x.o := by
 obtain ⟨h1, h2, h3⟩ := rstB_bd h
 unfold U4; omega
theorem pgsE_zero {n : Int} : pgsE n = 0 ↔ 4 ≤ n ∧ n ≤ 40 := by unfold pgsE; rw [unl_zero (by decide), inB_true]
theorem g32_nAt {l : List UInt8} {o : Nat} (h : o + 4 ≤ l.length) : g32 l o = nAt l o 4 := by
 have e : (l.drop o).take 4 = [l.getD o 0, l.getD (o + 1) 0, l.getD (o + 2) 0, l.getD (o + 3) 0] := by
  rw [show (4 : Nat) = 2 + 2 from rfl, List.take_add, List.drop_drop, take2_drop _ _ (by omega), take2_drop _ _ (by omega)]
  rfl
 unfold nAt
 rw [e]
 unfold g32 g16
 have e2 : o + 2 + 1 = o + 3 := rfl
 rw [e2]
 simp [num]
 omega
theorem rso1_any (s : ByteArray) (i : Nat) (b : Nat) (T : TypeId) (w : World) (hb : Box w b #[.string s] T) (hi : i + 4 ≤ s.size) (hl : s.size ≤ 1000000) :
 Calls Tryz.prog 88 #[.int .i64 i, .pointer (some ⟨b, 0, none⟩)] w fun e w' => e = .returned (.int .i64 (nAt (bl s) i 4)) ∧ Below w.heap.size w w' := by
 have hsz : (s.extract i s.size).size = s.size - i := by rw [ByteArray.size_extract]; omega
 have hbl : bl (s.extract i s.size) = (bl s).drop i := by
  unfold bl; rw [ByteArray.data_extract, Array.toList_extract, List.extract_eq_take_drop, List.take_of_length_le]
  rw [List.length_drop]; show s.size - i ≤ _; omega
 have hg : g32 (bl (s.extract i s.size)) 0 = nAt (bl s) i 4 := by
  rw [g32_nAt (by rw [bl_length]; omega), hbl]
  unfold nAt; rw [List.drop_zero]
 have hbd := g32_bd (bl (s.extract i s.size)) 0
 refine st_enter (N := 10) Tryz.func88 rfl rfl rfl (fun a0 h0 => ?_)
 have S0 := St.init w
 refine st_seq (st_reg ?_)
 refine ma h0 rfl rfl fun a1 h1 => ?_
 refine nsr ?_
 refine sv h1 (ex_load (by kernel_rfl) (h1.ev rfl) (box_cell (hb.below S0.below) rfl)) fun a2 h2 => ?_
 refine mv h2 rfl rfl fun a3 h3 => ?_
 refine sv h3 (ex_sslice (l := i) (h := s.size) Tryz.underlying9 (h3.ev rfl) (h3.ev rfl) rfl (by omega) (by omega)) fun a4 h4 => ?_
 refine sl_bytes h4 (wn rfl) ⟨rfl, rfl⟩ rfl Tryz.underlying9 Tryz.underlying130 Tryz.underlying5 (h4.ev rfl) S0 fun b7 cb7 a5 X5 gb7 zb7 h5 S5 => ?_
 refine sl_bel h5 (wn rfl) (ex_call (fun _ _ => by kernel_rfl) (h5.evs rfl) rfl) rfl rfl S5 (get32_any b7 0 (s.extract i s.size).size cb7 (bl (s.extract i s.size)) _ (S5.at_ (i := 0) rfl) (by rw [bl_length]; omega) (by omega) (by omega)) fun a6 X6 h6 S6 => ?_
 refine sv h6 (ex_convin (by kernel_rfl) Tryz.underlying3 (h6.ev rfl) (wrap_in (by omega))) fun a7 h7 => ?_
 refine ma h7 rfl rfl fun a8 h8 => ?_
 refine st_nil (go_then (wp_ret ?_))
 refine fin1 h8 rfl rfl ?_
 exact ⟨by rw [hg], S6.below⟩
theorem rsoV_U4 (l : List UInt8) : U4 (rsoV l).s ∧ U4 (rsoV l).c ∧ U4 (rsoV l).o := by
 have h1 := nAt_bd l 8 4
 have h2 := nAt_bd l 12 4
 have h3 := nAt_bd l 16 4
 simp only [Int.reducePow] at h1 h2 h3
 exact ⟨h1, h2, h3⟩
attribute [local irreducible] nAt opL opB rsL
theorem RestartOf_any (s : ByteArray) (pg : Int) (w : World) (hl : s.size ≤ 1000000) :
 Calls Tryz.prog 36 #[.string s, .int .i64 pg] w fun e w' => e = .returned (.tuple #[rstV (rsoR (bl s) pg), .int .i64 (rsoE (bl s) pg)]) ∧ Below w.heap.size w w' := by
 have hbd : ∀ a, 0 ≤ nAt (opL (bl s)) a 4 ∧ nAt (opL (bl s)) a 4 < 4294967296 := fun a => by
  have := nAt_bd (opL (bl s)) a 4
  simp only [Int.reducePow] at this; exact this
 obtain ⟨v1, v2, v3⟩ := rsoV_U4 (opL (bl s))
 refine st_enter (N := 51) Tryz.func36 rfl rfl rfl (fun a0 h0 => ?_)
 have S0 := St.init w
 refine st_seq (st_reg ?_)
 refine na (.agg #[.int .i64 0, .int .i64 0, .int .i64 0]) h0 rfl S0 fun b4 a1 X1 gb4 h1 S1 => ?_
 refine ma h1 rfl rfl fun a2 h2 => ?_
 refine st_nil (go_then (st_seq (st_seq (st_reg ?_))))
 refine mv h2 rfl rfl fun a3 h3 => ?_
 refine sl_pure h3 (wn rfl) (ex_call (fun _ _ => by kernel_rfl) (h3.evs rfl) rfl) rfl rfl (CheckBlock_any _ _) fun a4 h4 => ?_
 refine mv h4 rfl rfl fun a5 h5 => ?_
 refine sl_pure h5 (wn rfl) (ex_call (fun _ _ => by kernel_rfl) (h5.evs rfl) rfl) rfl rfl (pagesErr_any _ _) fun a6 h6 => ?_
 refine sl_new h6 (wn rfl) (f := fun b => .slice (some ⟨b, 0, none⟩) 2 2) (ex_bslice Tryz.underlying140 (by kernel_rfl) (by kernel_rfl) (h6.evs2 rfl) rfl rfl rfl (by decide) (by decide)) rfl rfl S1 fun b16 a7 X7 gb16 h7 S7 => ?_
 refine sl_pure h7 (wn rfl) (ex_call (fun _ _ => by kernel_rfl) (h7.evs rfl) rfl) rfl rfl (logring_first2 (S7.at_ (i := 0) rfl)) fun a8 h8 => ?_
 refine ma h8 rfl rfl fun a9 h9 => ?_
 refine nsr ?_
 refine mv h9 rfl rfl fun a10 h10 => ?_
 refine sv h10 (ex_neq (h10.ev rfl) (h10.ev rfl)) fun a11 h11 => ?_
 refine st_nil (go_then ?_)
 refine st_if (h11.ev rfl) (fun hc0 => ?_) (fun hc0 => ?_)
 ·
  have hE : rsoE (bl s) pg = firstE [unl (s.size == 512) 10, pgsE pg] := by
   unfold rsoE
   rw [bl_length]
   by_cases h : s.size = 512
   · have h1 : unl (s.size == 512) 10 = 0 := by rw [h]; rfl
     rw [h1] at hc0 ⊢
     rw [if_neg (by simpa using h)]
     simp only [firstE, if_true] at hc0 ⊢
     by_cases h2 : pgsE pg = 0
     · rw [h2] at hc0; simp at hc0
     · rw [if_pos h2, if_neg h2]
   · have h1 : unl (s.size == 512) 10 = 10 := by rw [show (s.size == 512) = false by simpa using h]; rfl
     rw [h1, if_pos h]; rfl
  have hR : rsoR (bl s) pg = rst0 := by
   unfold rsoR; rw [if_neg (by rw [hE]; simpa using hc0)]
  refine st_seq (st_reg ?_)
  refine sv h11 (ex_build (zs := [.int .i64 0, .int .i64 0, .int .i64 0]) (pl := [(0, 1), (1, 1), (2, 1)]) (by kernel_rfl) (by kernel_rfl) (h11.evs2 rfl) rfl rfl) fun a12 h12 => ?_
  refine mv h12 rfl rfl fun a13 h13 => ?_
  refine sl_store0 h13 (wn rfl) ⟨rfl, rfl⟩ (h13.ev rfl) (h13.ev rfl) rfl (by kernel_rfl) S7 (i := 1) rfl rfl rfl fun X14 S14 => ?_
  refine ma h13 rfl rfl fun a15 h15 => ?_
  refine st_nil (go_then (wp_ret (ret_then ?_)))
  refine finct h15 rfl rfl rfl S14 (i := 1) rfl (by kernel_rfl) (by kernel_rfl) ?_
  exact ⟨by rw [hR, hE]; rfl, S14.below⟩
 ·
  have hz : unl (s.size == 512) 10 = 0 ∧ pgsE pg = 0 := by
   have : firstE [unl (s.size == 512) 10, pgsE pg] = 0 := by simpa using hc0
   rw [firstE_zero] at this
   exact ⟨this _ (.head _), this _ (.tail _ (.head _))⟩
  have hs : s.size = 512 := by
   have := (unl_zero (by decide)).1 hz.1
   simpa using this
  have hbl : (bl s).length = 512 := by rw [bl_length]; exact hs
  have hpg := pgsE_zero.1 hz.2
  have hE0 : rsoE (bl s) pg = if opB (bl s) = false then 31 else if rstE (rsoV (opL (bl s))) ≠ 0 then 3 else if rsL (rsoV (opL (bl s))) pg ≠ bl s then 3 else 0 := by
   unfold rsoE; rw [if_neg (by simpa using hbl), if_neg (by simpa using hz.2)]
  have hO : opnE (bl s) = if opB (bl s) = false then 31 else 0 := by unfold opnE; rw [if_neg (by simpa using hbl)]
  refine wp_skip (go_then (st_seq (st_reg ?_)))
  refine mv h11 rfl rfl fun a16 h16 => ?_
  refine sl_bel h16 (wn rfl) (ex_call (fun _ _ => by kernel_rfl) (h16.evs rfl) rfl) rfl rfl S7 (OpenBlock_any _ _ hl) fun a17 X17 h17 S17 => ?_
  refine mv h17 rfl rfl fun a18 h18 => ?_
  refine vx h18 rfl rfl rfl fun a19 h19 => ?_
  refine vx h19 rfl rfl rfl fun a20 h20 => ?_
  refine vx h20 rfl rfl rfl fun a21 h21 => ?_
  refine na (.string ⟨#[]⟩) h21 rfl S17 fun b7 a22 X22 gb7 h22 S22 => ?_
  refine sl_store0 h22 (wn rfl) ⟨rfl, rfl⟩ (h22.ev rfl) (h22.ev rfl) rfl (by kernel_rfl) S22 (i := 0) rfl rfl rfl fun X23 S23 => ?_
  refine ma h22 rfl rfl fun a24 h24 => ?_
  refine ma h24 rfl rfl fun a25 h25 => ?_
  refine st_nil (go_then (st_seq (st_seq (st_reg ?_))))
  refine mv h25 rfl rfl fun a26 h26 => ?_
  refine sv h26 (ex_neq (h26.ev rfl) (h26.ev rfl)) fun a27 h27 => ?_
  refine st_nil (go_then ?_)
  refine st_if (h27.ev rfl) (fun hc1 => ?_) (fun hc1 => ?_)
  ·
   have hB : opB (bl s) = false := by
    rw [hO] at hc1
    cases h : opB (bl s) with
    | false => rfl
    | true => rw [h] at hc1; simp at hc1
   have hE : rsoE (bl s) pg = 31 := by rw [hE0, if_pos hB]
   have hR : rsoR (bl s) pg = rst0 := by unfold rsoR; rw [if_neg (by rw [hE]; decide)]
   refine st_seq (st_reg ?_)
   refine sv h27 (ex_build (zs := [.int .i64 0, .int .i64 0, .int .i64 0]) (pl := [(0, 1), (1, 1), (2, 1)]) (by kernel_rfl) (by kernel_rfl) (h27.evs2 rfl) rfl rfl) fun a28 h28 => ?_
   refine sl_store0 h28 (wn rfl) ⟨rfl, rfl⟩ (h28.ev rfl) (h28.ev rfl) rfl (by kernel_rfl) S23 (i := 2) rfl rfl rfl fun X29 S29 => ?_
   refine ma h28 rfl rfl fun a30 h30 => ?_
   refine st_nil (go_then (wp_ret (ret_then ?_)))
   refine finct h30 rfl rfl rfl S29 (i := 2) rfl (by kernel_rfl) (by kernel_rfl) ?_
   exact ⟨by rw [hR, hE]; rfl, S29.below⟩
  ·
   have hB : opB (bl s) = true := by
    rw [hO] at hc1
    cases h : opB (bl s) with
    | true => rfl
    | false => rw [h] at hc1; simp at hc1
   have hO1 : opnE (bl s) = 0 := by rw [hO, if_neg (by rw [hB]; decide)]
   have hst : (if opnE (bl s) = 0 then bs (opL (bl s)) else ⟨#[]⟩) = bs (opL (bl s)) := by rw [if_pos hO1]
   rw [hst] at S23
   have hE1 : rsoE (bl s) pg = if rstE (rsoV (opL (bl s))) ≠ 0 then 3 else if rsL (rsoV (opL (bl s))) pg ≠ bl s then 3 else 0 := by
    rw [hE0, if_neg (by rw [hB]; decide)]
   have hosz : (bs (opL (bl s))).size = 512 := by rw [bs_size, opL_length hbl]
   have hob : bl (bs (opL (bl s))) = opL (bl s) := bl_bs _
   refine wp_skip (go_then (st_seq (st_reg ?_)))
   refine sv h27 (ex_func (h27.evs rfl) (h27.evs rfl)) fun a31 h31 => ?_
   refine ma h31 rfl rfl fun a32 h32 => ?_
   refine nsr ?_
   refine mv h32 rfl rfl fun a33 h33 => ?_
   refine sl_bel h33 (wn rfl) (ex_callv (fun _ _ => by kernel_rfl) (h33.ev rfl) (h33.evs rfl) rfl) rfl rfl S23 (rso1_any (bs (opL (bl s))) 8 b7 _ _ (S23.at_ (i := 0) rfl) (by omega) (by omega)) fun a34 X34 h34 S34 => ?_
   rw [hob] at h34
   refine mv h34 rfl rfl fun a35 h35 => ?_
   refine sl_bel h35 (wn rfl) (ex_callv (fun _ _ => by kernel_rfl) (h35.ev rfl) (h35.evs rfl) rfl) rfl rfl S34 (rso1_any (bs (opL (bl s))) 12 b7 _ _ (S34.at_ (i := 0) rfl) (by omega) (by omega)) fun a36 X36 h36 S36 => ?_
   rw [hob] at h36
   refine mv h36 rfl rfl fun a37 h37 => ?_
   refine sl_bel h37 (wn rfl) (ex_callv (fun _ _ => by kernel_rfl) (h37.ev rfl) (h37.evs rfl) rfl) rfl rfl S36 (rso1_any (bs (opL (bl s))) 16 b7 _ _ (S36.at_ (i := 0) rfl) (by omega) (by omega)) fun a38 X38 h38 S38 => ?_
   rw [hob] at h38
   refine sv (v := rstV (rsoV (opL (bl s)))) h38 (ex_build (zs := [.int .i64 0, .int .i64 0, .int .i64 0]) (pl := [(0, 1), (1, 1), (2, 1)]) (by kernel_rfl) (by kernel_rfl) (h38.evs2 rfl) rfl rfl) fun a39 h39 => ?_
   refine na (.agg #[.int .i64 0, .int .i64 0, .int .i64 0]) h39 rfl S38 fun b11 a40 X40 gb11 h40 S40 => ?_
   refine sl_store0 h40 (wn rfl) ⟨rfl, rfl⟩ (h40.ev rfl) (h40.ev rfl) rfl (by kernel_rfl) S40 (i := 0) rfl rfl rfl fun X41 S41 => ?_
   refine st_nil (go_then (st_seq (st_seq (st_reg ?_))))
   refine sv (v := rstV (rsoV (opL (bl s)))) h40 (ex_loads (by kernel_rfl) (by kernel_rfl) (h40.ev rfl) (S41.cellsAll (i := 0) rfl)) fun a42 h42 => ?_
   refine sl_bel h42 (wn rfl) (ex_call (fun _ _ => by kernel_rfl) (h42.evs rfl) rfl) rfl rfl S41 (areaErr_any (rsoV (opL (bl s))) _) fun a43 X43 h43 S43 => ?_
   refine sv h43 (ex_neq (h43.ev rfl) (h43.ev rfl)) fun a44 h44 => ?_
   refine mv h44 rfl rfl fun a45 h45 => ?_
   apply sl_or h45 S43 42 rfl 6 48
   case hf =>
    intro gc42
    refine sl_val (v := rstV (rsoV (opL (bl s)))) h45 (wanted_yes h45 _ rfl rfl rfl gc42) (ex_loads (by kernel_rfl) (by kernel_rfl) (h45.ev rfl) (S43.cellsAll (i := 0) rfl)) rfl rfl fun a46 h46 => ?_
    refine sy h46 rfl rfl rfl gc42 (ex_move (h46.ev rfl)) rfl rfl fun a47 h47 => ?_
    refine sl_bel h47 (wanted_yes h47 _ rfl rfl rfl gc42) (ex_call (fun _ _ => by kernel_rfl) (h47.evs rfl) rfl) rfl rfl S43 (restartPage_any (rsoV (opL (bl s))) pg v1 v2 v3 (by omega) _) fun a48 X48 h48 S48 => ?_
    refine sy h48 rfl rfl rfl gc42 (ex_move (h48.ev rfl)) rfl rfl fun a49 h49 => ?_
    refine sy h49 rfl rfl rfl gc42 (ex_sneq (h49.ev rfl) (h49.ev rfl)) rfl rfl fun a50 h50 => ?_
    refine sv h50 (ex_pick_f (h50.ev rfl) gc42 (h50.ev rfl)) fun a51 h51 => ?_
    exact st_nil ⟨h51.mid (m := [(_, _), (_, _), (_, _), (_, _), (_, _)]) rfl, S48⟩
   case ht =>
    intro gc42
    refine no h45 rfl rfl rfl gc42 rfl rfl fun a52 h52 => ?_
    refine no h52 rfl rfl rfl gc42 rfl rfl fun a53 h53 => ?_
    refine no h53 rfl rfl rfl gc42 rfl rfl fun a54 h54 => ?_
    refine no h54 rfl rfl rfl gc42 rfl rfl fun a55 h55 => ?_
    refine no h55 rfl rfl rfl gc42 rfl rfl fun a56 h56 => ?_
    refine sv h56 (ex_pick_t (h56.ev rfl) gc42 (h56.ev rfl)) fun a57 h57 => ?_
    exact st_nil ⟨h57.mid (m := [(_, _), (_, _), (_, _), (_, _), (_, _)]) rfl, S43⟩
   case h =>
    rintro a58 X58 ⟨h58, S58⟩
    refine st_nil (go_then ?_)
    refine st_if (h58.ev rfl) (fun hc2 => ?_) (fun hc2 => ?_)
    ·
     have hE : rsoE (bl s) pg = 3 := by
      rw [hE1]
      by_cases h1 : rstE (rsoV (opL (bl s))) = 0
      · rw [if_neg (by simpa using h1)]
        rw [h1] at hc2
        have h2 : ¬ bs (rsL (rsoV (opL (bl s))) pg) = s := by simpa using hc2
        rw [if_pos (fun h => h2 (by rw [h, bs_bl]))]
      · rw [if_pos h1]
     have hR : rsoR (bl s) pg = rst0 := by unfold rsoR; rw [if_neg (by rw [hE]; decide)]
     refine st_seq (st_reg ?_)
     refine sv h58 (ex_build (zs := [.int .i64 0, .int .i64 0, .int .i64 0]) (pl := [(0, 1), (1, 1), (2, 1)]) (by kernel_rfl) (by kernel_rfl) (h58.evs2 rfl) rfl rfl) fun a59 h59 => ?_
     refine sl_store0 h59 (wn rfl) ⟨rfl, rfl⟩ (h59.ev rfl) (h59.ev rfl) rfl (by kernel_rfl) S58 (i := 3) rfl rfl rfl fun X60 S60 => ?_
     refine ma h59 rfl rfl fun a61 h61 => ?_
     refine st_nil (go_then (wp_ret (ret_then ?_)))
     refine finct h61 rfl rfl rfl S60 (i := 3) rfl (by kernel_rfl) (by kernel_rfl) ?_
     exact ⟨by rw [hR, hE]; rfl, S60.below⟩
    ·
     have hE : rsoE (bl s) pg = 0 := by
      rw [Bool.or_eq_false_iff] at hc2
      rw [hE1, if_neg (by have := hc2.1; simpa using this)]
      have h2 : bs (rsL (rsoV (opL (bl s))) pg) = s := by have := hc2.2; simpa using this
      rw [if_neg (fun hne => hne (by have := congrArg bl h2; rw [bl_bs] at this; exact this))]
     have hR : rsoR (bl s) pg = rsoV (opL (bl s)) := by unfold rsoR; rw [if_pos hE]
     refine wp_skip (go_then (st_seq (st_reg ?_)))
     refine sv (v := rstV (rsoV (opL (bl s)))) h58 (ex_loads (by kernel_rfl) (by kernel_rfl) (h58.ev rfl) (S58.cellsAll (i := 0) rfl)) fun a62 h62 => ?_
     refine sl_store0 h62 (wn rfl) ⟨rfl, rfl⟩ (h62.ev rfl) (h62.ev rfl) rfl (by kernel_rfl) S58 (i := 3) rfl rfl rfl fun X63 S63 => ?_
     refine ma h62 rfl rfl fun a64 h64 => ?_
     refine st_nil (go_then (wp_ret ?_))
     refine finct h64 rfl rfl rfl S63 (i := 3) rfl (by kernel_rfl) (by kernel_rfl) ?_
     exact ⟨by rw [hR, hE]; rfl, S63.below⟩
end Go.Proofs.YtmlilplbdpjfcaaGreatDoor
