/-
  Chapter 20: logs with a record more, closed, restarted.
  Chapter 20: logs restarted.
  Chapter 20: plain words: the reference's way of reading is the program's. No program in sight.
  Chapter 20: numbers in bytes, the bytes of a record.
-/
import Derived.Test.YtcfdpfmchchkaaaGreatDoorRgA
import Derived.Test.YtcfdpfmchchkaaaGreatDoorSplD
import Derived.Test.YtcfdpfmchchkaaaGreatDoorOpA
import Derived.Test.YtcfdpfmchchkaaaGreatDoorOpB
namespace Go.Proofs.YtcfdpfmchchkaaaGreatDoor
set_option linter.unusedVariables false
set_option maxRecDepth 4000
set_option linter.unusedSimpArgs false
open Go.RowKit Go.Sort
end Go.Proofs.YtcfdpfmchchkaaaGreatDoor
namespace Go.Proofs.YtcfdpfmchchkaaaGreatDoor
set_option linter.unusedVariables false
set_option linter.unusedSimpArgs false
set_option maxRecDepth 4000
open Go.RowKit Go.Sort
end Go.Proofs.YtcfdpfmchchkaaaGreatDoor
namespace Go.Proofs.YtcfdpfmchchkaaaGreatDoor
set_option linter.unusedVariables false
set_option linter.unusedSimpArgs false
open Go.RowKit
end Go.Proofs.YtcfdpfmchchkaaaGreatDoor
namespace Go.Proofs.YtcfdpfmchchkaaaGreatDoor
set_option linter.unusedVariables false
set_option linter.unusedSimpArgs false
set_option maxRecDepth 4000
open Go.RowKit Go.Sort
theorem u16_wrap {m : Int} : IntKind.u16.wrap m = m % 65536 := by
 have := wrap_u16 (n := m % 65536) (by omega)
 rw [← this]
 simp [IntKind.wrap, IntKind.bits, IntKind.signed]
theorem u32_wrap {m : Int} : IntKind.u32.wrap m = m % 4294967296 := by
 have := wrap_u32 (n := m % 4294967296) (by omega)
 rw [← this]
 simp [IntKind.wrap, IntKind.bits, IntKind.signed]
theorem lit2_bytes (m : Int) : [Value.int .u8 (IntKind.u8.wrap m), .int .u8 (IntKind.u8.wrap (m / 2 ^ 8))] = (lit m 2).map byteV := by
 rw [byt_u8, byt_u8]; rfl
theorem lit4_split (m : Int) : lit m 4 = lit (m % 65536) 2 ++ [UInt8.ofNat (m / 2 ^ 16 % 256).toNat, UInt8.ofNat (m / 2 ^ 24 % 256).toNat] := by
 have h1 : m % 65536 % 256 = m % 256 := by omega
 have h2 : m % 65536 / 256 % 256 = m / 256 % 256 := by omega
 have h3 : m / 256 / 256 % 256 = m / 2 ^ 16 % 256 := by omega
 have h4 : m / 256 / 256 / 256 % 256 = m / 2 ^ 24 % 256 := by omega
 simp only [lit, List.cons_append, List.nil_append, h1, h2, h3, h4]
def g16 (l : List UInt8) (o : Nat) : Int := (l.getD o 0).toNat + 256 * (l.getD (o + 1) 0).toNat
def g32 (l : List UInt8) (o : Nat) : Int := g16 l o + 65536 * g16 l (o + 2)
theorem g16_bd (l : List UInt8) (o : Nat) : 0 ≤ g16 l o ∧ g16 l o < 65536 := by
 have h1 := (l.getD o 0).toNat_lt
 have h2 := (l.getD (o + 1) 0).toNat_lt
 unfold g16; omega
theorem g32_bd (l : List UInt8) (o : Nat) : 0 ≤ g32 l o ∧ g32 l o < 4294967296 := by
 have h1 := g16_bd l o
 have h2 := g16_bd l (o + 2)
 unfold g32; omega
theorem g16_nAt {l : List UInt8} {o : Nat} (h : o + 2 ≤ l.length) : g16 l o = nAt l o 2 := by
 unfold nAt g16
 rw [take2_drop l o h]
 simp [num]
theorem lit4_two (m : Int) : lit m 4 = lit (m % 65536) 2 ++ lit (m / 2 ^ 16 % 65536) 2 := by
 rw [lit4_split]
 congr 1
 have h1 : m / 2 ^ 16 % 65536 % 256 = m / 2 ^ 16 % 256 := by omega
 have h2 : m / 2 ^ 16 % 65536 / 256 % 256 = m / 2 ^ 24 % 256 := by omega
 simp only [lit, h1, h2]
end Go.Proofs.YtcfdpfmchchkaaaGreatDoor
