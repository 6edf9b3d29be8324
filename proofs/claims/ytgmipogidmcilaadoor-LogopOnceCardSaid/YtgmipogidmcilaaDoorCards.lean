/-
  DERIVED. GIVEN WITH THE SEED: THE CARDS: each row of YtgmipogidmcilaaDoorRows.lean that lists a variable, with what it lists TIED to the program's text (the seventh form; the later family's looks); each row that meets fmt, with fmt's text TOLD by the authors' own Lean function (tested against real Go, not proved from fmt's source: count such statements apart). THE CARD IS WHAT COUNTS. Prove the row's statement (the work); the ties are given (YtgmipogidmcilaaDoorTie.lean); close each card by the builder's one call (the guide's Derived/Test/ToyasCard.lean, 'card_holds'). Laid BY PROGRAM, IN A SANDBOX (cutbox-door.mjs). By AI agents, Wed Nov 11 2026. No macro, syntax, notation, axiom, sorry.
-/
import Derived.Test.YtgmipogidmcilaaDoorRows
import GoSem.ClaimSeven
namespace Go.Proofs.YtgmipogidmcilaaDoor
namespace Rows

/-- THE TIED CARD OF 'depositorylaw21.LogopApplies'. -/
def logopAppliesCard : Claim7 := { stood := { row := logopAppliesRow, standIns := [], harness := (true, "97b78680a004b767b0ea5e9841a7b01b67f99cf6336b5528ef6ef79867ec190f"), looks := false }, kinds := [], alts := [], laidByText := true, laidKinds := [.data, .pinned], laidTests := true, laidLooks := .later }
def LogopAppliesCardSaid : Prop := Claim7.holds Tryd.pinned (.plain (OpenSpec.ofChange logopAppliesSpec)) logopAppliesCard

/-- THE TIED CARD OF 'depositorylaw21.LogopErrors'. -/
def logopErrorsCard : Claim7 := { stood := { row := logopErrorsRow, standIns := [], harness := (true, "97b78680a004b767b0ea5e9841a7b01b67f99cf6336b5528ef6ef79867ec190f"), looks := false }, kinds := [], alts := [], laidByText := true, laidKinds := [.data, .pinned], laidTests := true, laidLooks := .later }
def LogopErrorsCardSaid : Prop := Claim7.holds Tryd.pinned (.plain (OpenSpec.ofChange logopErrorsSpec)) logopErrorsCard

/-- THE TIED CARD OF 'depositorylaw21.LogopBetween'. -/
def logopBetweenCard : Claim7 := { stood := { row := logopBetweenRow, standIns := [], harness := (true, "97b78680a004b767b0ea5e9841a7b01b67f99cf6336b5528ef6ef79867ec190f"), looks := false }, kinds := [], alts := [], laidByText := true, laidKinds := [.data, .pinned], laidTests := true, laidLooks := .later }
def LogopBetweenCardSaid : Prop := Claim7.holds Tryd.pinned (.plain (OpenSpec.ofChange logopBetweenSpec)) logopBetweenCard

/-- THE TIED CARD OF 'depositorylaw21.LogopApart'. -/
def logopApartCard : Claim7 := { stood := { row := logopApartRow, standIns := [], harness := (true, "97b78680a004b767b0ea5e9841a7b01b67f99cf6336b5528ef6ef79867ec190f"), looks := false }, kinds := [], alts := [], laidByText := true, laidKinds := [.data, .pinned], laidTests := true, laidLooks := .later }
def LogopApartCardSaid : Prop := Claim7.holds Tryd.pinned (.plain (OpenSpec.ofChange logopApartSpec)) logopApartCard

/-- THE TIED CARD OF 'depositorylaw21.LogopBytes'. -/
def logopBytesCard : Claim7 := { stood := { row := logopBytesRow, standIns := [], harness := (true, "97b78680a004b767b0ea5e9841a7b01b67f99cf6336b5528ef6ef79867ec190f"), looks := false }, kinds := [], alts := [], laidByText := true, laidKinds := [.data, .pinned], laidTests := true, laidLooks := .later }
def LogopBytesCardSaid : Prop := Claim7.holds Tryd.pinned (.plain (OpenSpec.ofChange logopBytesSpec)) logopBytesCard

/-- THE TIED CARD OF 'depositorylaw21.LogopRedoes'. -/
def logopRedoesCard : Claim7 := { stood := { row := logopRedoesRow, standIns := [], harness := (true, "97b78680a004b767b0ea5e9841a7b01b67f99cf6336b5528ef6ef79867ec190f"), looks := false }, kinds := [], alts := [], laidByText := true, laidKinds := [.data, .pinned], laidTests := true, laidLooks := .later }
def LogopRedoesCardSaid : Prop := Claim7.holds Tryd.pinned (.plain (OpenSpec.ofChange logopRedoesSpec)) logopRedoesCard

/-- THE TIED CARD OF 'depositorylaw21.LogopOnce'. -/
def logopOnceCard : Claim7 := { stood := { row := logopOnceRow, standIns := [], harness := (true, "97b78680a004b767b0ea5e9841a7b01b67f99cf6336b5528ef6ef79867ec190f"), looks := false }, kinds := [], alts := [], laidByText := true, laidKinds := [.data, .pinned], laidTests := true, laidLooks := .later }
def LogopOnceCardSaid : Prop := Claim7.holds Tryd.pinned (.plain (OpenSpec.ofChange logopOnceSpec)) logopOnceCard

/-- THE TIED CARD OF 'depositorylaw21.LogopReads'. -/
def logopReadsCard : Claim7 := { stood := { row := logopReadsRow, standIns := [], harness := (true, "97b78680a004b767b0ea5e9841a7b01b67f99cf6336b5528ef6ef79867ec190f"), looks := false }, kinds := [], alts := [], laidByText := true, laidKinds := [.data, .pinned], laidTests := true, laidLooks := .later }
def LogopReadsCardSaid : Prop := Claim7.holds Tryd.pinned (.plain (OpenSpec.ofChange logopReadsSpec)) logopReadsCard

/-- THE TIED CARD OF 'depositorylaw21.LogopBack'. -/
def logopBackCard : Claim7 := { stood := { row := logopBackRow, standIns := [], harness := (true, "97b78680a004b767b0ea5e9841a7b01b67f99cf6336b5528ef6ef79867ec190f"), looks := false }, kinds := [], alts := [], laidByText := true, laidKinds := [.data, .pinned], laidTests := true, laidLooks := .later }
def LogopBackCardSaid : Prop := Claim7.holds Tryd.pinned (.plain (OpenSpec.ofChange logopBackSpec)) logopBackCard

/-- THE SECOND FORM's CARD OF 'depositorylaw21.LogopApplies'. -/
def logopAppliesUptoCard : Claim7 := { stood := { row := logopAppliesUptoRow, standIns := [], harness := (true, "97b78680a004b767b0ea5e9841a7b01b67f99cf6336b5528ef6ef79867ec190f"), looks := false }, kinds := [], alts := [], laidByText := true, laidKinds := [.data, .pinned], laidTests := true, laidLooks := .later }
def LogopAppliesUptoCardSaid : Prop := Claim7.holds Tryd.pinned (.plain (OpenSpec.upto logopAppliesSpec)) logopAppliesUptoCard

/-- THE SECOND FORM's CARD OF 'depositorylaw21.LogopErrors'. -/
def logopErrorsUptoCard : Claim7 := { stood := { row := logopErrorsUptoRow, standIns := [], harness := (true, "97b78680a004b767b0ea5e9841a7b01b67f99cf6336b5528ef6ef79867ec190f"), looks := false }, kinds := [], alts := [], laidByText := true, laidKinds := [.data, .pinned], laidTests := true, laidLooks := .later }
def LogopErrorsUptoCardSaid : Prop := Claim7.holds Tryd.pinned (.plain (OpenSpec.upto logopErrorsSpec)) logopErrorsUptoCard

/-- THE SECOND FORM's CARD OF 'depositorylaw21.LogopBetween'. -/
def logopBetweenUptoCard : Claim7 := { stood := { row := logopBetweenUptoRow, standIns := [], harness := (true, "97b78680a004b767b0ea5e9841a7b01b67f99cf6336b5528ef6ef79867ec190f"), looks := false }, kinds := [], alts := [], laidByText := true, laidKinds := [.data, .pinned], laidTests := true, laidLooks := .later }
def LogopBetweenUptoCardSaid : Prop := Claim7.holds Tryd.pinned (.plain (OpenSpec.upto logopBetweenSpec)) logopBetweenUptoCard

/-- THE SECOND FORM's CARD OF 'depositorylaw21.LogopApart'. -/
def logopApartUptoCard : Claim7 := { stood := { row := logopApartUptoRow, standIns := [], harness := (true, "97b78680a004b767b0ea5e9841a7b01b67f99cf6336b5528ef6ef79867ec190f"), looks := false }, kinds := [], alts := [], laidByText := true, laidKinds := [.data, .pinned], laidTests := true, laidLooks := .later }
def LogopApartUptoCardSaid : Prop := Claim7.holds Tryd.pinned (.plain (OpenSpec.upto logopApartSpec)) logopApartUptoCard

/-- THE SECOND FORM's CARD OF 'depositorylaw21.LogopBytes'. -/
def logopBytesUptoCard : Claim7 := { stood := { row := logopBytesUptoRow, standIns := [], harness := (true, "97b78680a004b767b0ea5e9841a7b01b67f99cf6336b5528ef6ef79867ec190f"), looks := false }, kinds := [], alts := [], laidByText := true, laidKinds := [.data, .pinned], laidTests := true, laidLooks := .later }
def LogopBytesUptoCardSaid : Prop := Claim7.holds Tryd.pinned (.plain (OpenSpec.upto logopBytesSpec)) logopBytesUptoCard

/-- THE SECOND FORM's CARD OF 'depositorylaw21.LogopRedoes'. -/
def logopRedoesUptoCard : Claim7 := { stood := { row := logopRedoesUptoRow, standIns := [], harness := (true, "97b78680a004b767b0ea5e9841a7b01b67f99cf6336b5528ef6ef79867ec190f"), looks := false }, kinds := [], alts := [], laidByText := true, laidKinds := [.data, .pinned], laidTests := true, laidLooks := .later }
def LogopRedoesUptoCardSaid : Prop := Claim7.holds Tryd.pinned (.plain (OpenSpec.upto logopRedoesSpec)) logopRedoesUptoCard

/-- THE SECOND FORM's CARD OF 'depositorylaw21.LogopOnce'. -/
def logopOnceUptoCard : Claim7 := { stood := { row := logopOnceUptoRow, standIns := [], harness := (true, "97b78680a004b767b0ea5e9841a7b01b67f99cf6336b5528ef6ef79867ec190f"), looks := false }, kinds := [], alts := [], laidByText := true, laidKinds := [.data, .pinned], laidTests := true, laidLooks := .later }
def LogopOnceUptoCardSaid : Prop := Claim7.holds Tryd.pinned (.plain (OpenSpec.upto logopOnceSpec)) logopOnceUptoCard

/-- THE SECOND FORM's CARD OF 'depositorylaw21.LogopReads'. -/
def logopReadsUptoCard : Claim7 := { stood := { row := logopReadsUptoRow, standIns := [], harness := (true, "97b78680a004b767b0ea5e9841a7b01b67f99cf6336b5528ef6ef79867ec190f"), looks := false }, kinds := [], alts := [], laidByText := true, laidKinds := [.data, .pinned], laidTests := true, laidLooks := .later }
def LogopReadsUptoCardSaid : Prop := Claim7.holds Tryd.pinned (.plain (OpenSpec.upto logopReadsSpec)) logopReadsUptoCard

/-- THE SECOND FORM's CARD OF 'depositorylaw21.LogopBack'. -/
def logopBackUptoCard : Claim7 := { stood := { row := logopBackUptoRow, standIns := [], harness := (true, "97b78680a004b767b0ea5e9841a7b01b67f99cf6336b5528ef6ef79867ec190f"), looks := false }, kinds := [], alts := [], laidByText := true, laidKinds := [.data, .pinned], laidTests := true, laidLooks := .later }
def LogopBackUptoCardSaid : Prop := Claim7.holds Tryd.pinned (.plain (OpenSpec.upto logopBackSpec)) logopBackUptoCard
end Rows
end Go.Proofs.YtgmipogidmcilaaDoor
