/-
  DERIVED. GIVEN WITH THE SEED: THE CARDS: each row of YtmlilplbdpjfcaaGreatDoorRows.lean that lists a variable, with what it lists TIED to the program's text (the seventh form; the later family's looks); each row that meets fmt, with fmt's text TOLD by the authors' own Lean function (tested against real Go, not proved from fmt's source: count such statements apart). THE CARD IS WHAT COUNTS. Prove the row's statement (the work); the ties are given (YtmlilplbdpjfcaaGreatDoorTie.lean); close each card by the builder's one call (the guide's Derived/Test/ToyasCard.lean, 'card_holds'). Laid BY PROGRAM, IN A SANDBOX (cutbox-door.mjs). By AI agents, Wed Nov 11 2026. No macro, syntax, notation, axiom, sorry.
-/
import Derived.Test.YtmlilplbdpjfcaaGreatDoorRows
import GoSem.ClaimSeven
namespace Go.Proofs.YtmlilplbdpjfcaaGreatDoor
namespace Rows

/-- THE TIED CARD OF 'depositorylaw20.RingRestarts'. -/
def ringRestartsCard : Claim7 := { stood := { row := ringRestartsRow, standIns := [], harness := (true, "5e7869dd5b5063895618eb58b7422d0d53034aec73f6b2a862da6aec6ba82b34"), looks := false }, kinds := [], alts := [], laidByText := true, laidKinds := [.data, .pinned], laidTests := true, laidLooks := .later }
def RingRestartsCardSaid : Prop := Claim7.holds Tryz.pinned (.plain (OpenSpec.ofChange ringRestartsSpec)) ringRestartsCard

/-- THE TIED CARD OF 'depositorylaw20.RingReads'. -/
def ringReadsCard : Claim7 := { stood := { row := ringReadsRow, standIns := [], harness := (true, "5e7869dd5b5063895618eb58b7422d0d53034aec73f6b2a862da6aec6ba82b34"), looks := false }, kinds := [], alts := [], laidByText := true, laidKinds := [.data, .pinned], laidTests := true, laidLooks := .later }
def RingReadsCardSaid : Prop := Claim7.holds Tryz.pinned (.plain (OpenSpec.ofChange ringReadsSpec)) ringReadsCard

/-- THE TIED CARD OF 'depositorylaw20.RingChecks'. -/
def ringChecksCard : Claim7 := { stood := { row := ringChecksRow, standIns := [], harness := (true, "5e7869dd5b5063895618eb58b7422d0d53034aec73f6b2a862da6aec6ba82b34"), looks := false }, kinds := [], alts := [], laidByText := true, laidKinds := [.data, .pinned], laidTests := true, laidLooks := .later }
def RingChecksCardSaid : Prop := Claim7.holds Tryz.pinned (.plain (OpenSpec.ofChange ringChecksSpec)) ringChecksCard

/-- THE TIED CARD OF 'depositorylaw20.RingAppends'. -/
def ringAppendsCard : Claim7 := { stood := { row := ringAppendsRow, standIns := [], harness := (true, "5e7869dd5b5063895618eb58b7422d0d53034aec73f6b2a862da6aec6ba82b34"), looks := false }, kinds := [], alts := [], laidByText := true, laidKinds := [.data, .pinned], laidTests := true, laidLooks := .later }
def RingAppendsCardSaid : Prop := Claim7.holds Tryz.pinned (.plain (OpenSpec.ofChange ringAppendsSpec)) ringAppendsCard

/-- THE TIED CARD OF 'depositorylaw20.RingAreas'. -/
def ringAreasCard : Claim7 := { stood := { row := ringAreasRow, standIns := [], harness := (true, "5e7869dd5b5063895618eb58b7422d0d53034aec73f6b2a862da6aec6ba82b34"), looks := false }, kinds := [], alts := [], laidByText := true, laidKinds := [.data, .pinned], laidTests := true, laidLooks := .later }
def RingAreasCardSaid : Prop := Claim7.holds Tryz.pinned (.plain (OpenSpec.ofChange ringAreasSpec)) ringAreasCard

/-- THE TIED CARD OF 'depositorylaw20.RingWrites'. -/
def ringWritesCard : Claim7 := { stood := { row := ringWritesRow, standIns := [], harness := (true, "5e7869dd5b5063895618eb58b7422d0d53034aec73f6b2a862da6aec6ba82b34"), looks := false }, kinds := [], alts := [], laidByText := true, laidKinds := [.data, .pinned], laidTests := true, laidLooks := .later }
def RingWritesCardSaid : Prop := Claim7.holds Tryz.pinned (.plain (OpenSpec.ofChange ringWritesSpec)) ringWritesCard

/-- THE TIED CARD OF 'depositorylaw20.RingFails'. -/
def ringFailsCard : Claim7 := { stood := { row := ringFailsRow, standIns := [], harness := (true, "5e7869dd5b5063895618eb58b7422d0d53034aec73f6b2a862da6aec6ba82b34"), looks := false }, kinds := [], alts := [], laidByText := true, laidKinds := [.data, .pinned], laidTests := true, laidLooks := .later }
def RingFailsCardSaid : Prop := Claim7.holds Tryz.pinned (.plain (OpenSpec.ofChange ringFailsSpec)) ringFailsCard

/-- THE TIED CARD OF 'depositorylaw20.RingPages'. -/
def ringPagesCard : Claim7 := { stood := { row := ringPagesRow, standIns := [], harness := (true, "5e7869dd5b5063895618eb58b7422d0d53034aec73f6b2a862da6aec6ba82b34"), looks := false }, kinds := [], alts := [], laidByText := true, laidKinds := [.data, .pinned], laidTests := true, laidLooks := .later }
def RingPagesCardSaid : Prop := Claim7.holds Tryz.pinned (.plain (OpenSpec.ofChange ringPagesSpec)) ringPagesCard

/-- THE SECOND FORM's CARD OF 'depositorylaw20.RingRestarts'. -/
def ringRestartsUptoCard : Claim7 := { stood := { row := ringRestartsUptoRow, standIns := [], harness := (true, "5e7869dd5b5063895618eb58b7422d0d53034aec73f6b2a862da6aec6ba82b34"), looks := false }, kinds := [], alts := [], laidByText := true, laidKinds := [.data, .pinned], laidTests := true, laidLooks := .later }
def RingRestartsUptoCardSaid : Prop := Claim7.holds Tryz.pinned (.plain (OpenSpec.upto ringRestartsSpec)) ringRestartsUptoCard

/-- THE SECOND FORM's CARD OF 'depositorylaw20.RingReads'. -/
def ringReadsUptoCard : Claim7 := { stood := { row := ringReadsUptoRow, standIns := [], harness := (true, "5e7869dd5b5063895618eb58b7422d0d53034aec73f6b2a862da6aec6ba82b34"), looks := false }, kinds := [], alts := [], laidByText := true, laidKinds := [.data, .pinned], laidTests := true, laidLooks := .later }
def RingReadsUptoCardSaid : Prop := Claim7.holds Tryz.pinned (.plain (OpenSpec.upto ringReadsSpec)) ringReadsUptoCard

/-- THE SECOND FORM's CARD OF 'depositorylaw20.RingChecks'. -/
def ringChecksUptoCard : Claim7 := { stood := { row := ringChecksUptoRow, standIns := [], harness := (true, "5e7869dd5b5063895618eb58b7422d0d53034aec73f6b2a862da6aec6ba82b34"), looks := false }, kinds := [], alts := [], laidByText := true, laidKinds := [.data, .pinned], laidTests := true, laidLooks := .later }
def RingChecksUptoCardSaid : Prop := Claim7.holds Tryz.pinned (.plain (OpenSpec.upto ringChecksSpec)) ringChecksUptoCard

/-- THE SECOND FORM's CARD OF 'depositorylaw20.RingAppends'. -/
def ringAppendsUptoCard : Claim7 := { stood := { row := ringAppendsUptoRow, standIns := [], harness := (true, "5e7869dd5b5063895618eb58b7422d0d53034aec73f6b2a862da6aec6ba82b34"), looks := false }, kinds := [], alts := [], laidByText := true, laidKinds := [.data, .pinned], laidTests := true, laidLooks := .later }
def RingAppendsUptoCardSaid : Prop := Claim7.holds Tryz.pinned (.plain (OpenSpec.upto ringAppendsSpec)) ringAppendsUptoCard

/-- THE SECOND FORM's CARD OF 'depositorylaw20.RingAreas'. -/
def ringAreasUptoCard : Claim7 := { stood := { row := ringAreasUptoRow, standIns := [], harness := (true, "5e7869dd5b5063895618eb58b7422d0d53034aec73f6b2a862da6aec6ba82b34"), looks := false }, kinds := [], alts := [], laidByText := true, laidKinds := [.data, .pinned], laidTests := true, laidLooks := .later }
def RingAreasUptoCardSaid : Prop := Claim7.holds Tryz.pinned (.plain (OpenSpec.upto ringAreasSpec)) ringAreasUptoCard

/-- THE SECOND FORM's CARD OF 'depositorylaw20.RingWrites'. -/
def ringWritesUptoCard : Claim7 := { stood := { row := ringWritesUptoRow, standIns := [], harness := (true, "5e7869dd5b5063895618eb58b7422d0d53034aec73f6b2a862da6aec6ba82b34"), looks := false }, kinds := [], alts := [], laidByText := true, laidKinds := [.data, .pinned], laidTests := true, laidLooks := .later }
def RingWritesUptoCardSaid : Prop := Claim7.holds Tryz.pinned (.plain (OpenSpec.upto ringWritesSpec)) ringWritesUptoCard

/-- THE SECOND FORM's CARD OF 'depositorylaw20.RingFails'. -/
def ringFailsUptoCard : Claim7 := { stood := { row := ringFailsUptoRow, standIns := [], harness := (true, "5e7869dd5b5063895618eb58b7422d0d53034aec73f6b2a862da6aec6ba82b34"), looks := false }, kinds := [], alts := [], laidByText := true, laidKinds := [.data, .pinned], laidTests := true, laidLooks := .later }
def RingFailsUptoCardSaid : Prop := Claim7.holds Tryz.pinned (.plain (OpenSpec.upto ringFailsSpec)) ringFailsUptoCard

/-- THE SECOND FORM's CARD OF 'depositorylaw20.RingPages'. -/
def ringPagesUptoCard : Claim7 := { stood := { row := ringPagesUptoRow, standIns := [], harness := (true, "5e7869dd5b5063895618eb58b7422d0d53034aec73f6b2a862da6aec6ba82b34"), looks := false }, kinds := [], alts := [], laidByText := true, laidKinds := [.data, .pinned], laidTests := true, laidLooks := .later }
def RingPagesUptoCardSaid : Prop := Claim7.holds Tryz.pinned (.plain (OpenSpec.upto ringPagesSpec)) ringPagesUptoCard
end Rows
end Go.Proofs.YtmlilplbdpjfcaaGreatDoor
