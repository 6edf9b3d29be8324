/-
  NARROWER THAN 'FOR EVERY INPUT', by the rows' own cells (each row's printed sentence says how): RecoveryTables: laid · RecoveryAnalyses: laid · RecoveryRedoes: laid · RecoveryMeans: laid · RecoveryHistories: laid · RecoveryUndoes: laid · RecoveryCheckpoints: laid · RecoveryRecovers: laid · RecoveryKeeps: laid · RecoveryTwice: laid.
  DERIVED. THE GIVEN ROWS OF THIS SEAT. 10 by the template 'for every input the law returns true; each argument reads behind the call as it read before'; 0 by the template 'total and deterministic' (their statements: YtcfdpfmchchkaaaGreatDoorTotals.lean).
  GIVEN WITH THE SEED: the statements are not yours to turn. If you find one false, say at which input.
  Laid BY PROGRAM, IN A SANDBOX (cutbox-rows.mjs): the forced cells as the released guide's own fill.sh prints them over the translation 40a6d11522dd2c7c… (all of the seat's roots in one cut). By AI agents, Wed Nov 11 2026. No macro, syntax, notation, axiom, sorry.
-/
import Derived.Test.YtcfdpfmchchkaaaGreatDoorChecked
import GoSem.PinnedTables
import GoSem.Claim
import GoSem.ClaimJoined
import GoSem.ClaimMapViews
import Derived.JoinedTies
import Derived.KernelRfl
namespace Go.Proofs.YtcfdpfmchchkaaaGreatDoor
/- THE CELL 'sum', in the pinned program and in every row, IS THE sha256 OF THE DUMP (.gsa) THAT YtcfdpfmchchkaaaGreatDoorProg.lean LOADS. Nothing in Lean hashes anything: it is a label: what it is worth is what the hold of that sum in a sandbox is worth. -/
noncomputable def Tryz.pinned : Pinned := { name := "ytcfdpfmchchkaaagreatdoor", sum := "40a6d11522dd2c7c266acc32f8bd55e17a140bb9aaae5579d9849247821e0e8c", checked := Tryz.checked }
namespace Rows
def none {H : Type} : Left H := { results := [], args := [] }

/- WHAT THE LISTED PACKAGE-LEVEL VARIABLES READ AS WHEN THE CALL BEGINS. Each datum BY PROGRAM (the guide's laid-datum.mjs) off the statement by which the dump's own 'gosem.cut.vars' lays the variable. In a bare row this is a premise. The card (YtcfdpfmchchkaaaGreatDoorCards.lean) ties it to the program's text. -/
def laid_unicode_utf8_acceptRanges {H : Type} : DataW H := .agg [.agg [.lit (.int .u8 128), .lit (.int .u8 191)], .agg [.lit (.int .u8 160), .lit (.int .u8 191)], .agg [.lit (.int .u8 128), .lit (.int .u8 159)], .agg [.lit (.int .u8 144), .lit (.int .u8 191)], .agg [.lit (.int .u8 128), .lit (.int .u8 143)], .agg [.lit (.int .u8 0), .lit (.int .u8 0)], .agg [.lit (.int .u8 0), .lit (.int .u8 0)], .agg [.lit (.int .u8 0), .lit (.int .u8 0)], .agg [.lit (.int .u8 0), .lit (.int .u8 0)], .agg [.lit (.int .u8 0), .lit (.int .u8 0)], .agg [.lit (.int .u8 0), .lit (.int .u8 0)], .agg [.lit (.int .u8 0), .lit (.int .u8 0)], .agg [.lit (.int .u8 0), .lit (.int .u8 0)], .agg [.lit (.int .u8 0), .lit (.int .u8 0)], .agg [.lit (.int .u8 0), .lit (.int .u8 0)], .agg [.lit (.int .u8 0), .lit (.int .u8 0)]]
def laid_depository_recovery_follows {H : Type} : DataW H := .agg [.slice [.lit (.int .i64 0), .lit (.int .i64 1), .lit (.int .i64 2), .lit (.int .i64 3), .lit (.int .i64 4)] [], .slice [.lit (.int .i64 1), .lit (.int .i64 4)] [], .slice [.lit (.int .i64 4)] [], .slice [.lit (.int .i64 1), .lit (.int .i64 4)] [], .nil, .nil]
/-- One of Go's own tables, pinned by name: the form's constant. -/
def laid_unicode_utf8_first : DataW Unit := Go.Pinned.utf8First

/-- 'depositorylaw22.RecoveryTables': WHATEVER THE INPUT: true; the input reads as it did. -/
def recoveryTablesSpec : ChangeSpec := { name := "recoveryTables", fn := fun _ => fun
  | [d1, d2] => { results := [.lit (.bool true)], args := [d1, d2] }
  | _ => none }
def recoveryTablesRow : OpenClaim := { program := "ytcfdpfmchchkaaagreatdoor", sum := "40a6d11522dd2c7c266acc32f8bd55e17a140bb9aaae5579d9849247821e0e8c", func := "depository/depositorylaw22.RecoveryTables", spec := "recoveryTables", inPlace := ["internal/bytealg.IndexByteString", "internal/bytealg.IndexString", "internal/abi.NoEscape", "internal/bytealg.MakeNoZero"], unfollowed := true, recurses := true, named := ["depository/recovery.follows", "unicode/utf8.first", "unicode/utf8.acceptRanges", "internal/bytealg.MaxLen"], apart := false, laid := [("unicode/utf8.acceptRanges", laid_unicode_utf8_acceptRanges), ("depository/recovery.follows", laid_depository_recovery_follows), ("unicode/utf8.first", laid_unicode_utf8_first)] }
def RecoveryTablesSaid : Prop := recoveryTablesRow.holds Tryz.pinned (OpenSpec.ofChange recoveryTablesSpec)

/-- ITS FALSE NEIGHBOUR: 'it returns false'. Refute it at one input. -/
def recoveryTablesWrong : ChangeSpec := { name := "recoveryTables", fn := fun _ => fun
  | [d1, d2] => { results := [.lit (.bool false)], args := [d1, d2] }
  | _ => none }
def RecoveryTablesWrongFalsely : Prop := recoveryTablesRow.holds Tryz.pinned (OpenSpec.ofChange recoveryTablesWrong)

/-- 'depositorylaw22.RecoveryAnalyses': WHATEVER THE INPUT: true; the input reads as it did. -/
def recoveryAnalysesSpec : ChangeSpec := { name := "recoveryAnalyses", fn := fun _ => fun
  | [d1, d2] => { results := [.lit (.bool true)], args := [d1, d2] }
  | _ => none }
def recoveryAnalysesRow : OpenClaim := { program := "ytcfdpfmchchkaaagreatdoor", sum := "40a6d11522dd2c7c266acc32f8bd55e17a140bb9aaae5579d9849247821e0e8c", func := "depository/depositorylaw22.RecoveryAnalyses", spec := "recoveryAnalyses", inPlace := ["internal/bytealg.IndexByteString", "internal/bytealg.IndexString", "internal/abi.NoEscape", "internal/bytealg.MakeNoZero"], unfollowed := true, recurses := true, named := ["depository/recovery.follows", "unicode/utf8.first", "unicode/utf8.acceptRanges", "internal/bytealg.MaxLen"], apart := false, laid := [("unicode/utf8.acceptRanges", laid_unicode_utf8_acceptRanges), ("depository/recovery.follows", laid_depository_recovery_follows), ("unicode/utf8.first", laid_unicode_utf8_first)] }
def RecoveryAnalysesSaid : Prop := recoveryAnalysesRow.holds Tryz.pinned (OpenSpec.ofChange recoveryAnalysesSpec)

/-- ITS FALSE NEIGHBOUR: 'it returns false'. Refute it at one input. -/
def recoveryAnalysesWrong : ChangeSpec := { name := "recoveryAnalyses", fn := fun _ => fun
  | [d1, d2] => { results := [.lit (.bool false)], args := [d1, d2] }
  | _ => none }
def RecoveryAnalysesWrongFalsely : Prop := recoveryAnalysesRow.holds Tryz.pinned (OpenSpec.ofChange recoveryAnalysesWrong)

/-- 'depositorylaw22.RecoveryRedoes': WHATEVER THE INPUT: true; the input reads as it did. -/
def recoveryRedoesSpec : ChangeSpec := { name := "recoveryRedoes", fn := fun _ => fun
  | [d1, d2, d3] => { results := [.lit (.bool true)], args := [d1, d2, d3] }
  | _ => none }
def recoveryRedoesRow : OpenClaim := { program := "ytcfdpfmchchkaaagreatdoor", sum := "40a6d11522dd2c7c266acc32f8bd55e17a140bb9aaae5579d9849247821e0e8c", func := "depository/depositorylaw22.RecoveryRedoes", spec := "recoveryRedoes", inPlace := ["internal/bytealg.IndexByteString", "internal/bytealg.IndexString", "internal/abi.NoEscape", "internal/bytealg.MakeNoZero"], unfollowed := true, recurses := true, named := ["depository/recovery.follows", "unicode/utf8.first", "unicode/utf8.acceptRanges", "internal/bytealg.MaxLen"], apart := false, laid := [("unicode/utf8.acceptRanges", laid_unicode_utf8_acceptRanges), ("depository/recovery.follows", laid_depository_recovery_follows), ("unicode/utf8.first", laid_unicode_utf8_first)] }
def RecoveryRedoesSaid : Prop := recoveryRedoesRow.holds Tryz.pinned (OpenSpec.ofChange recoveryRedoesSpec)

/-- ITS FALSE NEIGHBOUR: 'it returns false'. Refute it at one input. -/
def recoveryRedoesWrong : ChangeSpec := { name := "recoveryRedoes", fn := fun _ => fun
  | [d1, d2, d3] => { results := [.lit (.bool false)], args := [d1, d2, d3] }
  | _ => none }
def RecoveryRedoesWrongFalsely : Prop := recoveryRedoesRow.holds Tryz.pinned (OpenSpec.ofChange recoveryRedoesWrong)

/-- 'depositorylaw22.RecoveryMeans': WHATEVER THE INPUT: true; the input reads as it did. -/
def recoveryMeansSpec : ChangeSpec := { name := "recoveryMeans", fn := fun _ => fun
  | [d1, d2] => { results := [.lit (.bool true)], args := [d1, d2] }
  | _ => none }
def recoveryMeansRow : OpenClaim := { program := "ytcfdpfmchchkaaagreatdoor", sum := "40a6d11522dd2c7c266acc32f8bd55e17a140bb9aaae5579d9849247821e0e8c", func := "depository/depositorylaw22.RecoveryMeans", spec := "recoveryMeans", inPlace := ["internal/bytealg.IndexByteString", "internal/bytealg.IndexString", "internal/abi.NoEscape", "internal/bytealg.MakeNoZero"], unfollowed := true, recurses := true, named := ["depository/recovery.follows", "unicode/utf8.first", "unicode/utf8.acceptRanges", "internal/bytealg.MaxLen"], apart := false, laid := [("unicode/utf8.acceptRanges", laid_unicode_utf8_acceptRanges), ("depository/recovery.follows", laid_depository_recovery_follows), ("unicode/utf8.first", laid_unicode_utf8_first)] }
def RecoveryMeansSaid : Prop := recoveryMeansRow.holds Tryz.pinned (OpenSpec.ofChange recoveryMeansSpec)

/-- ITS FALSE NEIGHBOUR: 'it returns false'. Refute it at one input. -/
def recoveryMeansWrong : ChangeSpec := { name := "recoveryMeans", fn := fun _ => fun
  | [d1, d2] => { results := [.lit (.bool false)], args := [d1, d2] }
  | _ => none }
def RecoveryMeansWrongFalsely : Prop := recoveryMeansRow.holds Tryz.pinned (OpenSpec.ofChange recoveryMeansWrong)

/-- 'depositorylaw22.RecoveryHistories': WHATEVER THE INPUT: true; the input reads as it did. -/
def recoveryHistoriesSpec : ChangeSpec := { name := "recoveryHistories", fn := fun _ => fun
  | [d1, d2] => { results := [.lit (.bool true)], args := [d1, d2] }
  | _ => none }
def recoveryHistoriesRow : OpenClaim := { program := "ytcfdpfmchchkaaagreatdoor", sum := "40a6d11522dd2c7c266acc32f8bd55e17a140bb9aaae5579d9849247821e0e8c", func := "depository/depositorylaw22.RecoveryHistories", spec := "recoveryHistories", inPlace := ["internal/bytealg.IndexByteString", "internal/bytealg.IndexString", "internal/abi.NoEscape", "internal/bytealg.MakeNoZero"], unfollowed := true, recurses := true, named := ["depository/recovery.follows", "unicode/utf8.first", "unicode/utf8.acceptRanges", "internal/bytealg.MaxLen"], apart := false, laid := [("unicode/utf8.acceptRanges", laid_unicode_utf8_acceptRanges), ("depository/recovery.follows", laid_depository_recovery_follows), ("unicode/utf8.first", laid_unicode_utf8_first)] }
def RecoveryHistoriesSaid : Prop := recoveryHistoriesRow.holds Tryz.pinned (OpenSpec.ofChange recoveryHistoriesSpec)

/-- ITS FALSE NEIGHBOUR: 'it returns false'. Refute it at one input. -/
def recoveryHistoriesWrong : ChangeSpec := { name := "recoveryHistories", fn := fun _ => fun
  | [d1, d2] => { results := [.lit (.bool false)], args := [d1, d2] }
  | _ => none }
def RecoveryHistoriesWrongFalsely : Prop := recoveryHistoriesRow.holds Tryz.pinned (OpenSpec.ofChange recoveryHistoriesWrong)

/-- 'depositorylaw22.RecoveryUndoes': WHATEVER THE INPUT: true; the input reads as it did. -/
def recoveryUndoesSpec : ChangeSpec := { name := "recoveryUndoes", fn := fun _ => fun
  | [d1, d2, d3] => { results := [.lit (.bool true)], args := [d1, d2, d3] }
  | _ => none }
def recoveryUndoesRow : OpenClaim := { program := "ytcfdpfmchchkaaagreatdoor", sum := "40a6d11522dd2c7c266acc32f8bd55e17a140bb9aaae5579d9849247821e0e8c", func := "depository/depositorylaw22.RecoveryUndoes", spec := "recoveryUndoes", inPlace := ["internal/bytealg.IndexByteString", "internal/bytealg.IndexString", "internal/abi.NoEscape", "internal/bytealg.MakeNoZero"], unfollowed := true, recurses := true, named := ["depository/recovery.follows", "unicode/utf8.first", "unicode/utf8.acceptRanges", "internal/bytealg.MaxLen"], apart := false, laid := [("unicode/utf8.acceptRanges", laid_unicode_utf8_acceptRanges), ("depository/recovery.follows", laid_depository_recovery_follows), ("unicode/utf8.first", laid_unicode_utf8_first)] }
def RecoveryUndoesSaid : Prop := recoveryUndoesRow.holds Tryz.pinned (OpenSpec.ofChange recoveryUndoesSpec)

/-- ITS FALSE NEIGHBOUR: 'it returns false'. Refute it at one input. -/
def recoveryUndoesWrong : ChangeSpec := { name := "recoveryUndoes", fn := fun _ => fun
  | [d1, d2, d3] => { results := [.lit (.bool false)], args := [d1, d2, d3] }
  | _ => none }
def RecoveryUndoesWrongFalsely : Prop := recoveryUndoesRow.holds Tryz.pinned (OpenSpec.ofChange recoveryUndoesWrong)

/-- 'depositorylaw22.RecoveryCheckpoints': WHATEVER THE INPUT: true; the input reads as it did. -/
def recoveryCheckpointsSpec : ChangeSpec := { name := "recoveryCheckpoints", fn := fun _ => fun
  | [d1, d2] => { results := [.lit (.bool true)], args := [d1, d2] }
  | _ => none }
def recoveryCheckpointsRow : OpenClaim := { program := "ytcfdpfmchchkaaagreatdoor", sum := "40a6d11522dd2c7c266acc32f8bd55e17a140bb9aaae5579d9849247821e0e8c", func := "depository/depositorylaw22.RecoveryCheckpoints", spec := "recoveryCheckpoints", inPlace := ["internal/bytealg.IndexByteString", "internal/bytealg.IndexString", "internal/abi.NoEscape", "internal/bytealg.MakeNoZero"], unfollowed := true, recurses := true, named := ["depository/recovery.follows", "unicode/utf8.first", "unicode/utf8.acceptRanges", "internal/bytealg.MaxLen"], apart := false, laid := [("unicode/utf8.acceptRanges", laid_unicode_utf8_acceptRanges), ("depository/recovery.follows", laid_depository_recovery_follows), ("unicode/utf8.first", laid_unicode_utf8_first)] }
def RecoveryCheckpointsSaid : Prop := recoveryCheckpointsRow.holds Tryz.pinned (OpenSpec.ofChange recoveryCheckpointsSpec)

/-- ITS FALSE NEIGHBOUR: 'it returns false'. Refute it at one input. -/
def recoveryCheckpointsWrong : ChangeSpec := { name := "recoveryCheckpoints", fn := fun _ => fun
  | [d1, d2] => { results := [.lit (.bool false)], args := [d1, d2] }
  | _ => none }
def RecoveryCheckpointsWrongFalsely : Prop := recoveryCheckpointsRow.holds Tryz.pinned (OpenSpec.ofChange recoveryCheckpointsWrong)

/-- 'depositorylaw22.RecoveryRecovers': WHATEVER THE INPUT: true; the input reads as it did. -/
def recoveryRecoversSpec : ChangeSpec := { name := "recoveryRecovers", fn := fun _ => fun
  | [d1, d2] => { results := [.lit (.bool true)], args := [d1, d2] }
  | _ => none }
def recoveryRecoversRow : OpenClaim := { program := "ytcfdpfmchchkaaagreatdoor", sum := "40a6d11522dd2c7c266acc32f8bd55e17a140bb9aaae5579d9849247821e0e8c", func := "depository/depositorylaw22.RecoveryRecovers", spec := "recoveryRecovers", inPlace := ["internal/bytealg.IndexByteString", "internal/bytealg.IndexString", "internal/abi.NoEscape", "internal/bytealg.MakeNoZero"], unfollowed := true, recurses := true, named := ["depository/recovery.follows", "unicode/utf8.first", "unicode/utf8.acceptRanges", "internal/bytealg.MaxLen"], apart := false, laid := [("unicode/utf8.acceptRanges", laid_unicode_utf8_acceptRanges), ("depository/recovery.follows", laid_depository_recovery_follows), ("unicode/utf8.first", laid_unicode_utf8_first)] }
def RecoveryRecoversSaid : Prop := recoveryRecoversRow.holds Tryz.pinned (OpenSpec.ofChange recoveryRecoversSpec)

/-- ITS FALSE NEIGHBOUR: 'it returns false'. Refute it at one input. -/
def recoveryRecoversWrong : ChangeSpec := { name := "recoveryRecovers", fn := fun _ => fun
  | [d1, d2] => { results := [.lit (.bool false)], args := [d1, d2] }
  | _ => none }
def RecoveryRecoversWrongFalsely : Prop := recoveryRecoversRow.holds Tryz.pinned (OpenSpec.ofChange recoveryRecoversWrong)

/-- 'depositorylaw22.RecoveryKeeps': WHATEVER THE INPUT: true; the input reads as it did. -/
def recoveryKeepsSpec : ChangeSpec := { name := "recoveryKeeps", fn := fun _ => fun
  | [d1, d2, d3] => { results := [.lit (.bool true)], args := [d1, d2, d3] }
  | _ => none }
def recoveryKeepsRow : OpenClaim := { program := "ytcfdpfmchchkaaagreatdoor", sum := "40a6d11522dd2c7c266acc32f8bd55e17a140bb9aaae5579d9849247821e0e8c", func := "depository/depositorylaw22.RecoveryKeeps", spec := "recoveryKeeps", inPlace := ["internal/bytealg.IndexByteString", "internal/bytealg.IndexString", "internal/abi.NoEscape", "internal/bytealg.MakeNoZero"], unfollowed := true, recurses := true, named := ["depository/recovery.follows", "unicode/utf8.first", "unicode/utf8.acceptRanges", "internal/bytealg.MaxLen"], apart := false, laid := [("unicode/utf8.acceptRanges", laid_unicode_utf8_acceptRanges), ("depository/recovery.follows", laid_depository_recovery_follows), ("unicode/utf8.first", laid_unicode_utf8_first)] }
def RecoveryKeepsSaid : Prop := recoveryKeepsRow.holds Tryz.pinned (OpenSpec.ofChange recoveryKeepsSpec)

/-- ITS FALSE NEIGHBOUR: 'it returns false'. Refute it at one input. -/
def recoveryKeepsWrong : ChangeSpec := { name := "recoveryKeeps", fn := fun _ => fun
  | [d1, d2, d3] => { results := [.lit (.bool false)], args := [d1, d2, d3] }
  | _ => none }
def RecoveryKeepsWrongFalsely : Prop := recoveryKeepsRow.holds Tryz.pinned (OpenSpec.ofChange recoveryKeepsWrong)

/-- 'depositorylaw22.RecoveryTwice': WHATEVER THE INPUT: true; the input reads as it did. -/
def recoveryTwiceSpec : ChangeSpec := { name := "recoveryTwice", fn := fun _ => fun
  | [d1, d2, d3] => { results := [.lit (.bool true)], args := [d1, d2, d3] }
  | _ => none }
def recoveryTwiceRow : OpenClaim := { program := "ytcfdpfmchchkaaagreatdoor", sum := "40a6d11522dd2c7c266acc32f8bd55e17a140bb9aaae5579d9849247821e0e8c", func := "depository/depositorylaw22.RecoveryTwice", spec := "recoveryTwice", inPlace := ["internal/bytealg.IndexByteString", "internal/bytealg.IndexString", "internal/abi.NoEscape", "internal/bytealg.MakeNoZero"], unfollowed := true, recurses := true, named := ["depository/recovery.follows", "unicode/utf8.first", "unicode/utf8.acceptRanges", "internal/bytealg.MaxLen"], apart := false, laid := [("unicode/utf8.acceptRanges", laid_unicode_utf8_acceptRanges), ("depository/recovery.follows", laid_depository_recovery_follows), ("unicode/utf8.first", laid_unicode_utf8_first)] }
def RecoveryTwiceSaid : Prop := recoveryTwiceRow.holds Tryz.pinned (OpenSpec.ofChange recoveryTwiceSpec)

/-- ITS FALSE NEIGHBOUR: 'it returns false'. Refute it at one input. -/
def recoveryTwiceWrong : ChangeSpec := { name := "recoveryTwice", fn := fun _ => fun
  | [d1, d2, d3] => { results := [.lit (.bool false)], args := [d1, d2, d3] }
  | _ => none }
def RecoveryTwiceWrongFalsely : Prop := recoveryTwiceRow.holds Tryz.pinned (OpenSpec.ofChange recoveryTwiceWrong)

/- THE SECOND FORM. 'bulk': how many values and letters a reading holds, each counted each time it is reached (what is shared counts as often as it is met; a slice's spare places count too). A statement '..UptoSaid' is the law's where the arguments, and the package variables that the reading takes, are together of bulk at most 1048576: NARROWER than '..Said'. Prove '..Said' where nothing that the law and all that it calls make is longer than what came in: it says more and counts as full. Else prove '..UptoSaid'. A law counts once. -/
mutual
def uptoBulk {H : Type} : DataW H → Nat
  | .lit (.string bytes) => bytes.length + 1
  | .lit _ => 1
  | .nil => 1
  | .ptr d => uptoBulk d + 1
  | .slice elems spare => uptoBulkAll elems + uptoBulkAll spare + 1
  | .agg parts => uptoBulkAll parts + 1
  | .iface _ d => uptoBulk d + 1
  | .map entries => uptoBulkEntries entries + 1
  | .held _ => 1
def uptoBulkAll {H : Type} : List (DataW H) → Nat
  | [] => 0
  | d :: r => uptoBulk d + uptoBulkAll r
def uptoBulkEntries {H : Type} : List (Lit × DataW H) → Nat
  | [] => 0
  | x :: r => uptoBulkEntry x + uptoBulkEntries r
def uptoBulkEntry {H : Type} : Lit × DataW H → Nat
  | (.string bytes, d) => bytes.length + uptoBulk d + 1
  | (_, d) => uptoBulk d + 1
 end
def uptoSmall : (H : Type) → List (DataW H) → Bool := fun _ ds => decide (uptoBulkAll ds ≤ 1048576)
def OpenSpec.upto (s : _root_.Go.ChangeSpec) : _root_.Go.OpenSpec := { _root_.Go.OpenSpec.ofChange s with cond := some uptoSmall }

/-- 'depositorylaw22.RecoveryTables', WHERE WHAT IT READS IS OF BULK AT MOST 1048576: true; the input reads as it did. -/
def recoveryTablesUptoRow : OpenClaim := { program := "ytcfdpfmchchkaaagreatdoor", sum := "40a6d11522dd2c7c266acc32f8bd55e17a140bb9aaae5579d9849247821e0e8c", func := "depository/depositorylaw22.RecoveryTables", spec := "recoveryTables", inPlace := ["internal/bytealg.IndexByteString", "internal/bytealg.IndexString", "internal/abi.NoEscape", "internal/bytealg.MakeNoZero"], unfollowed := true, recurses := true, named := ["depository/recovery.follows", "unicode/utf8.first", "unicode/utf8.acceptRanges", "internal/bytealg.MaxLen"], apart := false, laid := [("unicode/utf8.acceptRanges", laid_unicode_utf8_acceptRanges), ("depository/recovery.follows", laid_depository_recovery_follows), ("unicode/utf8.first", laid_unicode_utf8_first)], narrowed := true }
def RecoveryTablesUptoSaid : Prop := recoveryTablesUptoRow.holds Tryz.pinned (OpenSpec.upto recoveryTablesSpec)

/-- 'depositorylaw22.RecoveryAnalyses', WHERE WHAT IT READS IS OF BULK AT MOST 1048576: true; the input reads as it did. -/
def recoveryAnalysesUptoRow : OpenClaim := { program := "ytcfdpfmchchkaaagreatdoor", sum := "40a6d11522dd2c7c266acc32f8bd55e17a140bb9aaae5579d9849247821e0e8c", func := "depository/depositorylaw22.RecoveryAnalyses", spec := "recoveryAnalyses", inPlace := ["internal/bytealg.IndexByteString", "internal/bytealg.IndexString", "internal/abi.NoEscape", "internal/bytealg.MakeNoZero"], unfollowed := true, recurses := true, named := ["depository/recovery.follows", "unicode/utf8.first", "unicode/utf8.acceptRanges", "internal/bytealg.MaxLen"], apart := false, laid := [("unicode/utf8.acceptRanges", laid_unicode_utf8_acceptRanges), ("depository/recovery.follows", laid_depository_recovery_follows), ("unicode/utf8.first", laid_unicode_utf8_first)], narrowed := true }
def RecoveryAnalysesUptoSaid : Prop := recoveryAnalysesUptoRow.holds Tryz.pinned (OpenSpec.upto recoveryAnalysesSpec)

/-- 'depositorylaw22.RecoveryRedoes', WHERE WHAT IT READS IS OF BULK AT MOST 1048576: true; the input reads as it did. -/
def recoveryRedoesUptoRow : OpenClaim := { program := "ytcfdpfmchchkaaagreatdoor", sum := "40a6d11522dd2c7c266acc32f8bd55e17a140bb9aaae5579d9849247821e0e8c", func := "depository/depositorylaw22.RecoveryRedoes", spec := "recoveryRedoes", inPlace := ["internal/bytealg.IndexByteString", "internal/bytealg.IndexString", "internal/abi.NoEscape", "internal/bytealg.MakeNoZero"], unfollowed := true, recurses := true, named := ["depository/recovery.follows", "unicode/utf8.first", "unicode/utf8.acceptRanges", "internal/bytealg.MaxLen"], apart := false, laid := [("unicode/utf8.acceptRanges", laid_unicode_utf8_acceptRanges), ("depository/recovery.follows", laid_depository_recovery_follows), ("unicode/utf8.first", laid_unicode_utf8_first)], narrowed := true }
def RecoveryRedoesUptoSaid : Prop := recoveryRedoesUptoRow.holds Tryz.pinned (OpenSpec.upto recoveryRedoesSpec)

/-- 'depositorylaw22.RecoveryMeans', WHERE WHAT IT READS IS OF BULK AT MOST 1048576: true; the input reads as it did. -/
def recoveryMeansUptoRow : OpenClaim := { program := "ytcfdpfmchchkaaagreatdoor", sum := "40a6d11522dd2c7c266acc32f8bd55e17a140bb9aaae5579d9849247821e0e8c", func := "depository/depositorylaw22.RecoveryMeans", spec := "recoveryMeans", inPlace := ["internal/bytealg.IndexByteString", "internal/bytealg.IndexString", "internal/abi.NoEscape", "internal/bytealg.MakeNoZero"], unfollowed := true, recurses := true, named := ["depository/recovery.follows", "unicode/utf8.first", "unicode/utf8.acceptRanges", "internal/bytealg.MaxLen"], apart := false, laid := [("unicode/utf8.acceptRanges", laid_unicode_utf8_acceptRanges), ("depository/recovery.follows", laid_depository_recovery_follows), ("unicode/utf8.first", laid_unicode_utf8_first)], narrowed := true }
def RecoveryMeansUptoSaid : Prop := recoveryMeansUptoRow.holds Tryz.pinned (OpenSpec.upto recoveryMeansSpec)

/-- 'depositorylaw22.RecoveryHistories', WHERE WHAT IT READS IS OF BULK AT MOST 1048576: true; the input reads as it did. -/
def recoveryHistoriesUptoRow : OpenClaim := { program := "ytcfdpfmchchkaaagreatdoor", sum := "40a6d11522dd2c7c266acc32f8bd55e17a140bb9aaae5579d9849247821e0e8c", func := "depository/depositorylaw22.RecoveryHistories", spec := "recoveryHistories", inPlace := ["internal/bytealg.IndexByteString", "internal/bytealg.IndexString", "internal/abi.NoEscape", "internal/bytealg.MakeNoZero"], unfollowed := true, recurses := true, named := ["depository/recovery.follows", "unicode/utf8.first", "unicode/utf8.acceptRanges", "internal/bytealg.MaxLen"], apart := false, laid := [("unicode/utf8.acceptRanges", laid_unicode_utf8_acceptRanges), ("depository/recovery.follows", laid_depository_recovery_follows), ("unicode/utf8.first", laid_unicode_utf8_first)], narrowed := true }
def RecoveryHistoriesUptoSaid : Prop := recoveryHistoriesUptoRow.holds Tryz.pinned (OpenSpec.upto recoveryHistoriesSpec)

/-- 'depositorylaw22.RecoveryUndoes', WHERE WHAT IT READS IS OF BULK AT MOST 1048576: true; the input reads as it did. -/
def recoveryUndoesUptoRow : OpenClaim := { program := "ytcfdpfmchchkaaagreatdoor", sum := "40a6d11522dd2c7c266acc32f8bd55e17a140bb9aaae5579d9849247821e0e8c", func := "depository/depositorylaw22.RecoveryUndoes", spec := "recoveryUndoes", inPlace := ["internal/bytealg.IndexByteString", "internal/bytealg.IndexString", "internal/abi.NoEscape", "internal/bytealg.MakeNoZero"], unfollowed := true, recurses := true, named := ["depository/recovery.follows", "unicode/utf8.first", "unicode/utf8.acceptRanges", "internal/bytealg.MaxLen"], apart := false, laid := [("unicode/utf8.acceptRanges", laid_unicode_utf8_acceptRanges), ("depository/recovery.follows", laid_depository_recovery_follows), ("unicode/utf8.first", laid_unicode_utf8_first)], narrowed := true }
def RecoveryUndoesUptoSaid : Prop := recoveryUndoesUptoRow.holds Tryz.pinned (OpenSpec.upto recoveryUndoesSpec)

/-- 'depositorylaw22.RecoveryCheckpoints', WHERE WHAT IT READS IS OF BULK AT MOST 1048576: true; the input reads as it did. -/
def recoveryCheckpointsUptoRow : OpenClaim := { program := "ytcfdpfmchchkaaagreatdoor", sum := "40a6d11522dd2c7c266acc32f8bd55e17a140bb9aaae5579d9849247821e0e8c", func := "depository/depositorylaw22.RecoveryCheckpoints", spec := "recoveryCheckpoints", inPlace := ["internal/bytealg.IndexByteString", "internal/bytealg.IndexString", "internal/abi.NoEscape", "internal/bytealg.MakeNoZero"], unfollowed := true, recurses := true, named := ["depository/recovery.follows", "unicode/utf8.first", "unicode/utf8.acceptRanges", "internal/bytealg.MaxLen"], apart := false, laid := [("unicode/utf8.acceptRanges", laid_unicode_utf8_acceptRanges), ("depository/recovery.follows", laid_depository_recovery_follows), ("unicode/utf8.first", laid_unicode_utf8_first)], narrowed := true }
def RecoveryCheckpointsUptoSaid : Prop := recoveryCheckpointsUptoRow.holds Tryz.pinned (OpenSpec.upto recoveryCheckpointsSpec)

/-- 'depositorylaw22.RecoveryRecovers', WHERE WHAT IT READS IS OF BULK AT MOST 1048576: true; the input reads as it did. -/
def recoveryRecoversUptoRow : OpenClaim := { program := "ytcfdpfmchchkaaagreatdoor", sum := "40a6d11522dd2c7c266acc32f8bd55e17a140bb9aaae5579d9849247821e0e8c", func := "depository/depositorylaw22.RecoveryRecovers", spec := "recoveryRecovers", inPlace := ["internal/bytealg.IndexByteString", "internal/bytealg.IndexString", "internal/abi.NoEscape", "internal/bytealg.MakeNoZero"], unfollowed := true, recurses := true, named := ["depository/recovery.follows", "unicode/utf8.first", "unicode/utf8.acceptRanges", "internal/bytealg.MaxLen"], apart := false, laid := [("unicode/utf8.acceptRanges", laid_unicode_utf8_acceptRanges), ("depository/recovery.follows", laid_depository_recovery_follows), ("unicode/utf8.first", laid_unicode_utf8_first)], narrowed := true }
def RecoveryRecoversUptoSaid : Prop := recoveryRecoversUptoRow.holds Tryz.pinned (OpenSpec.upto recoveryRecoversSpec)

/-- 'depositorylaw22.RecoveryKeeps', WHERE WHAT IT READS IS OF BULK AT MOST 1048576: true; the input reads as it did. -/
def recoveryKeepsUptoRow : OpenClaim := { program := "ytcfdpfmchchkaaagreatdoor", sum := "40a6d11522dd2c7c266acc32f8bd55e17a140bb9aaae5579d9849247821e0e8c", func := "depository/depositorylaw22.RecoveryKeeps", spec := "recoveryKeeps", inPlace := ["internal/bytealg.IndexByteString", "internal/bytealg.IndexString", "internal/abi.NoEscape", "internal/bytealg.MakeNoZero"], unfollowed := true, recurses := true, named := ["depository/recovery.follows", "unicode/utf8.first", "unicode/utf8.acceptRanges", "internal/bytealg.MaxLen"], apart := false, laid := [("unicode/utf8.acceptRanges", laid_unicode_utf8_acceptRanges), ("depository/recovery.follows", laid_depository_recovery_follows), ("unicode/utf8.first", laid_unicode_utf8_first)], narrowed := true }
def RecoveryKeepsUptoSaid : Prop := recoveryKeepsUptoRow.holds Tryz.pinned (OpenSpec.upto recoveryKeepsSpec)

/-- 'depositorylaw22.RecoveryTwice', WHERE WHAT IT READS IS OF BULK AT MOST 1048576: true; the input reads as it did. -/
def recoveryTwiceUptoRow : OpenClaim := { program := "ytcfdpfmchchkaaagreatdoor", sum := "40a6d11522dd2c7c266acc32f8bd55e17a140bb9aaae5579d9849247821e0e8c", func := "depository/depositorylaw22.RecoveryTwice", spec := "recoveryTwice", inPlace := ["internal/bytealg.IndexByteString", "internal/bytealg.IndexString", "internal/abi.NoEscape", "internal/bytealg.MakeNoZero"], unfollowed := true, recurses := true, named := ["depository/recovery.follows", "unicode/utf8.first", "unicode/utf8.acceptRanges", "internal/bytealg.MaxLen"], apart := false, laid := [("unicode/utf8.acceptRanges", laid_unicode_utf8_acceptRanges), ("depository/recovery.follows", laid_depository_recovery_follows), ("unicode/utf8.first", laid_unicode_utf8_first)], narrowed := true }
def RecoveryTwiceUptoSaid : Prop := recoveryTwiceUptoRow.holds Tryz.pinned (OpenSpec.upto recoveryTwiceSpec)

end Rows
end Go.Proofs.YtcfdpfmchchkaaaGreatDoor
