/-
  DERIVED. GIVEN WITH THE SEED: THE CARDS: each row of YtcfdpfmchchkaaaGreatDoorRows.lean that lists a variable, with what it lists TIED to the program's text (the seventh form; the later family's looks); each row that meets fmt, with fmt's text TOLD by the authors' own Lean function (tested against real Go, not proved from fmt's source: count such statements apart). THE CARD IS WHAT COUNTS. Prove the row's statement (the work); the ties are given (YtcfdpfmchchkaaaGreatDoorTie.lean); close each card by the builder's one call (the guide's Derived/Test/ToyasCard.lean, 'card_holds'). Laid BY PROGRAM, IN A SANDBOX (cutbox-door.mjs). By AI agents, Wed Nov 11 2026. No macro, syntax, notation, axiom, sorry.
-/
import Derived.Test.YtcfdpfmchchkaaaGreatDoorRows
import GoSem.ClaimSeven
namespace Go.Proofs.YtcfdpfmchchkaaaGreatDoor
namespace Rows

/-- THE TIED CARD OF 'depositorylaw22.RecoveryTables'. -/
def recoveryTablesCard : Claim7 := { stood := { row := recoveryTablesRow, standIns := [], harness := (true, "19dc9cebbdbf87c9480bc7c42ae735aa4b7ed09dfb6ff79039443bfba012b8a2"), looks := false }, kinds := [], alts := [], laidByText := true, laidKinds := [.data, .widerDeep, .pinned], laidTests := true, laidLooks := .later }
def RecoveryTablesCardSaid : Prop := Claim7.holds Tryz.pinned (.plain (OpenSpec.ofChange recoveryTablesSpec)) recoveryTablesCard

/-- THE TIED CARD OF 'depositorylaw22.RecoveryAnalyses'. -/
def recoveryAnalysesCard : Claim7 := { stood := { row := recoveryAnalysesRow, standIns := [], harness := (true, "19dc9cebbdbf87c9480bc7c42ae735aa4b7ed09dfb6ff79039443bfba012b8a2"), looks := false }, kinds := [], alts := [], laidByText := true, laidKinds := [.data, .widerDeep, .pinned], laidTests := true, laidLooks := .later }
def RecoveryAnalysesCardSaid : Prop := Claim7.holds Tryz.pinned (.plain (OpenSpec.ofChange recoveryAnalysesSpec)) recoveryAnalysesCard

/-- THE TIED CARD OF 'depositorylaw22.RecoveryRedoes'. -/
def recoveryRedoesCard : Claim7 := { stood := { row := recoveryRedoesRow, standIns := [], harness := (true, "19dc9cebbdbf87c9480bc7c42ae735aa4b7ed09dfb6ff79039443bfba012b8a2"), looks := false }, kinds := [], alts := [], laidByText := true, laidKinds := [.data, .widerDeep, .pinned], laidTests := true, laidLooks := .later }
def RecoveryRedoesCardSaid : Prop := Claim7.holds Tryz.pinned (.plain (OpenSpec.ofChange recoveryRedoesSpec)) recoveryRedoesCard

/-- THE TIED CARD OF 'depositorylaw22.RecoveryMeans'. -/
def recoveryMeansCard : Claim7 := { stood := { row := recoveryMeansRow, standIns := [], harness := (true, "19dc9cebbdbf87c9480bc7c42ae735aa4b7ed09dfb6ff79039443bfba012b8a2"), looks := false }, kinds := [], alts := [], laidByText := true, laidKinds := [.data, .widerDeep, .pinned], laidTests := true, laidLooks := .later }
def RecoveryMeansCardSaid : Prop := Claim7.holds Tryz.pinned (.plain (OpenSpec.ofChange recoveryMeansSpec)) recoveryMeansCard

/-- THE TIED CARD OF 'depositorylaw22.RecoveryHistories'. -/
def recoveryHistoriesCard : Claim7 := { stood := { row := recoveryHistoriesRow, standIns := [], harness := (true, "19dc9cebbdbf87c9480bc7c42ae735aa4b7ed09dfb6ff79039443bfba012b8a2"), looks := false }, kinds := [], alts := [], laidByText := true, laidKinds := [.data, .widerDeep, .pinned], laidTests := true, laidLooks := .later }
def RecoveryHistoriesCardSaid : Prop := Claim7.holds Tryz.pinned (.plain (OpenSpec.ofChange recoveryHistoriesSpec)) recoveryHistoriesCard

/-- THE TIED CARD OF 'depositorylaw22.RecoveryUndoes'. -/
def recoveryUndoesCard : Claim7 := { stood := { row := recoveryUndoesRow, standIns := [], harness := (true, "19dc9cebbdbf87c9480bc7c42ae735aa4b7ed09dfb6ff79039443bfba012b8a2"), looks := false }, kinds := [], alts := [], laidByText := true, laidKinds := [.data, .widerDeep, .pinned], laidTests := true, laidLooks := .later }
def RecoveryUndoesCardSaid : Prop := Claim7.holds Tryz.pinned (.plain (OpenSpec.ofChange recoveryUndoesSpec)) recoveryUndoesCard

/-- THE TIED CARD OF 'depositorylaw22.RecoveryCheckpoints'. -/
def recoveryCheckpointsCard : Claim7 := { stood := { row := recoveryCheckpointsRow, standIns := [], harness := (true, "19dc9cebbdbf87c9480bc7c42ae735aa4b7ed09dfb6ff79039443bfba012b8a2"), looks := false }, kinds := [], alts := [], laidByText := true, laidKinds := [.data, .widerDeep, .pinned], laidTests := true, laidLooks := .later }
def RecoveryCheckpointsCardSaid : Prop := Claim7.holds Tryz.pinned (.plain (OpenSpec.ofChange recoveryCheckpointsSpec)) recoveryCheckpointsCard

/-- THE TIED CARD OF 'depositorylaw22.RecoveryRecovers'. -/
def recoveryRecoversCard : Claim7 := { stood := { row := recoveryRecoversRow, standIns := [], harness := (true, "19dc9cebbdbf87c9480bc7c42ae735aa4b7ed09dfb6ff79039443bfba012b8a2"), looks := false }, kinds := [], alts := [], laidByText := true, laidKinds := [.data, .widerDeep, .pinned], laidTests := true, laidLooks := .later }
def RecoveryRecoversCardSaid : Prop := Claim7.holds Tryz.pinned (.plain (OpenSpec.ofChange recoveryRecoversSpec)) recoveryRecoversCard

/-- THE TIED CARD OF 'depositorylaw22.RecoveryKeeps'. -/
def recoveryKeepsCard : Claim7 := { stood := { row := recoveryKeepsRow, standIns := [], harness := (true, "19dc9cebbdbf87c9480bc7c42ae735aa4b7ed09dfb6ff79039443bfba012b8a2"), looks := false }, kinds := [], alts := [], laidByText := true, laidKinds := [.data, .widerDeep, .pinned], laidTests := true, laidLooks := .later }
def RecoveryKeepsCardSaid : Prop := Claim7.holds Tryz.pinned (.plain (OpenSpec.ofChange recoveryKeepsSpec)) recoveryKeepsCard

/-- THE TIED CARD OF 'depositorylaw22.RecoveryTwice'. -/
def recoveryTwiceCard : Claim7 := { stood := { row := recoveryTwiceRow, standIns := [], harness := (true, "19dc9cebbdbf87c9480bc7c42ae735aa4b7ed09dfb6ff79039443bfba012b8a2"), looks := false }, kinds := [], alts := [], laidByText := true, laidKinds := [.data, .widerDeep, .pinned], laidTests := true, laidLooks := .later }
def RecoveryTwiceCardSaid : Prop := Claim7.holds Tryz.pinned (.plain (OpenSpec.ofChange recoveryTwiceSpec)) recoveryTwiceCard

/-- THE SECOND FORM's CARD OF 'depositorylaw22.RecoveryTables'. -/
def recoveryTablesUptoCard : Claim7 := { stood := { row := recoveryTablesUptoRow, standIns := [], harness := (true, "19dc9cebbdbf87c9480bc7c42ae735aa4b7ed09dfb6ff79039443bfba012b8a2"), looks := false }, kinds := [], alts := [], laidByText := true, laidKinds := [.data, .widerDeep, .pinned], laidTests := true, laidLooks := .later }
def RecoveryTablesUptoCardSaid : Prop := Claim7.holds Tryz.pinned (.plain (OpenSpec.upto recoveryTablesSpec)) recoveryTablesUptoCard

/-- THE SECOND FORM's CARD OF 'depositorylaw22.RecoveryAnalyses'. -/
def recoveryAnalysesUptoCard : Claim7 := { stood := { row := recoveryAnalysesUptoRow, standIns := [], harness := (true, "19dc9cebbdbf87c9480bc7c42ae735aa4b7ed09dfb6ff79039443bfba012b8a2"), looks := false }, kinds := [], alts := [], laidByText := true, laidKinds := [.data, .widerDeep, .pinned], laidTests := true, laidLooks := .later }
def RecoveryAnalysesUptoCardSaid : Prop := Claim7.holds Tryz.pinned (.plain (OpenSpec.upto recoveryAnalysesSpec)) recoveryAnalysesUptoCard

/-- THE SECOND FORM's CARD OF 'depositorylaw22.RecoveryRedoes'. -/
def recoveryRedoesUptoCard : Claim7 := { stood := { row := recoveryRedoesUptoRow, standIns := [], harness := (true, "19dc9cebbdbf87c9480bc7c42ae735aa4b7ed09dfb6ff79039443bfba012b8a2"), looks := false }, kinds := [], alts := [], laidByText := true, laidKinds := [.data, .widerDeep, .pinned], laidTests := true, laidLooks := .later }
def RecoveryRedoesUptoCardSaid : Prop := Claim7.holds Tryz.pinned (.plain (OpenSpec.upto recoveryRedoesSpec)) recoveryRedoesUptoCard

/-- THE SECOND FORM's CARD OF 'depositorylaw22.RecoveryMeans'. -/
def recoveryMeansUptoCard : Claim7 := { stood := { row := recoveryMeansUptoRow, standIns := [], harness := (true, "19dc9cebbdbf87c9480bc7c42ae735aa4b7ed09dfb6ff79039443bfba012b8a2"), looks := false }, kinds := [], alts := [], laidByText := true, laidKinds := [.data, .widerDeep, .pinned], laidTests := true, laidLooks := .later }
def RecoveryMeansUptoCardSaid : Prop := Claim7.holds Tryz.pinned (.plain (OpenSpec.upto recoveryMeansSpec)) recoveryMeansUptoCard

/-- THE SECOND FORM's CARD OF 'depositorylaw22.RecoveryHistories'. -/
def recoveryHistoriesUptoCard : Claim7 := { stood := { row := recoveryHistoriesUptoRow, standIns := [], harness := (true, "19dc9cebbdbf87c9480bc7c42ae735aa4b7ed09dfb6ff79039443bfba012b8a2"), looks := false }, kinds := [], alts := [], laidByText := true, laidKinds := [.data, .widerDeep, .pinned], laidTests := true, laidLooks := .later }
def RecoveryHistoriesUptoCardSaid : Prop := Claim7.holds Tryz.pinned (.plain (OpenSpec.upto recoveryHistoriesSpec)) recoveryHistoriesUptoCard

/-- THE SECOND FORM's CARD OF 'depositorylaw22.RecoveryUndoes'. -/
def recoveryUndoesUptoCard : Claim7 := { stood := { row := recoveryUndoesUptoRow, standIns := [], harness := (true, "19dc9cebbdbf87c9480bc7c42ae735aa4b7ed09dfb6ff79039443bfba012b8a2"), looks := false }, kinds := [], alts := [], laidByText := true, laidKinds := [.data, .widerDeep, .pinned], laidTests := true, laidLooks := .later }
def RecoveryUndoesUptoCardSaid : Prop := Claim7.holds Tryz.pinned (.plain (OpenSpec.upto recoveryUndoesSpec)) recoveryUndoesUptoCard

/-- THE SECOND FORM's CARD OF 'depositorylaw22.RecoveryCheckpoints'. -/
def recoveryCheckpointsUptoCard : Claim7 := { stood := { row := recoveryCheckpointsUptoRow, standIns := [], harness := (true, "19dc9cebbdbf87c9480bc7c42ae735aa4b7ed09dfb6ff79039443bfba012b8a2"), looks := false }, kinds := [], alts := [], laidByText := true, laidKinds := [.data, .widerDeep, .pinned], laidTests := true, laidLooks := .later }
def RecoveryCheckpointsUptoCardSaid : Prop := Claim7.holds Tryz.pinned (.plain (OpenSpec.upto recoveryCheckpointsSpec)) recoveryCheckpointsUptoCard

/-- THE SECOND FORM's CARD OF 'depositorylaw22.RecoveryRecovers'. -/
def recoveryRecoversUptoCard : Claim7 := { stood := { row := recoveryRecoversUptoRow, standIns := [], harness := (true, "19dc9cebbdbf87c9480bc7c42ae735aa4b7ed09dfb6ff79039443bfba012b8a2"), looks := false }, kinds := [], alts := [], laidByText := true, laidKinds := [.data, .widerDeep, .pinned], laidTests := true, laidLooks := .later }
def RecoveryRecoversUptoCardSaid : Prop := Claim7.holds Tryz.pinned (.plain (OpenSpec.upto recoveryRecoversSpec)) recoveryRecoversUptoCard

/-- THE SECOND FORM's CARD OF 'depositorylaw22.RecoveryKeeps'. -/
def recoveryKeepsUptoCard : Claim7 := { stood := { row := recoveryKeepsUptoRow, standIns := [], harness := (true, "19dc9cebbdbf87c9480bc7c42ae735aa4b7ed09dfb6ff79039443bfba012b8a2"), looks := false }, kinds := [], alts := [], laidByText := true, laidKinds := [.data, .widerDeep, .pinned], laidTests := true, laidLooks := .later }
def RecoveryKeepsUptoCardSaid : Prop := Claim7.holds Tryz.pinned (.plain (OpenSpec.upto recoveryKeepsSpec)) recoveryKeepsUptoCard

/-- THE SECOND FORM's CARD OF 'depositorylaw22.RecoveryTwice'. -/
def recoveryTwiceUptoCard : Claim7 := { stood := { row := recoveryTwiceUptoRow, standIns := [], harness := (true, "19dc9cebbdbf87c9480bc7c42ae735aa4b7ed09dfb6ff79039443bfba012b8a2"), looks := false }, kinds := [], alts := [], laidByText := true, laidKinds := [.data, .widerDeep, .pinned], laidTests := true, laidLooks := .later }
def RecoveryTwiceUptoCardSaid : Prop := Claim7.holds Tryz.pinned (.plain (OpenSpec.upto recoveryTwiceSpec)) recoveryTwiceUptoCard
end Rows
end Go.Proofs.YtcfdpfmchchkaaaGreatDoor
