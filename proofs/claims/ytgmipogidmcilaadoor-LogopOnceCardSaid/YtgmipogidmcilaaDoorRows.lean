/-
  NARROWER THAN 'FOR EVERY INPUT', by the rows' own cells (each row's printed sentence says how): LogopApplies: laid · LogopErrors: laid · LogopBetween: laid · LogopApart: laid · LogopBytes: laid · LogopRedoes: laid · LogopOnce: laid · LogopReads: laid · LogopBack: laid.
  DERIVED. THE GIVEN ROWS OF THIS SEAT. 9 by the template 'for every input the law returns true; each argument reads behind the call as it read before'; 0 by the template 'total and deterministic' (their statements: YtgmipogidmcilaaDoorTotals.lean).
  GIVEN WITH THE SEED: the statements are not yours to turn. If you find one false, say at which input.
  Laid BY PROGRAM, IN A SANDBOX (cutbox-rows.mjs): the forced cells as the released guide's own fill.sh prints them over the translation 1dcb1a41f1ca4f57… (all of the seat's roots in one cut). By AI agents, Wed Nov 11 2026. No macro, syntax, notation, axiom, sorry.
-/
import Derived.Test.YtgmipogidmcilaaDoorChecked
import GoSem.PinnedTables
import GoSem.Claim
import GoSem.ClaimJoined
import GoSem.ClaimMapViews
import Derived.JoinedTies
import Derived.KernelRfl
namespace Go.Proofs.YtgmipogidmcilaaDoor
/- THE CELL 'sum', in the pinned program and in every row, IS THE sha256 OF THE DUMP (.gsa) THAT YtgmipogidmcilaaDoorProg.lean LOADS. Nothing in Lean hashes anything: it is a label: what it is worth is what the hold of that sum in a sandbox is worth. -/
noncomputable def Tryd.pinned : Pinned := { name := "ytgmipogidmcilaadoor", sum := "1dcb1a41f1ca4f57c0b8901391a9b000daa0e5a066c546717cbed2d7a0c2bbba", checked := Tryd.checked }
namespace Rows
def none {H : Type} : Left H := { results := [], args := [] }

/- WHAT THE LISTED PACKAGE-LEVEL VARIABLES READ AS WHEN THE CALL BEGINS. Each datum BY PROGRAM (the guide's laid-datum.mjs) off the statement by which the dump's own 'gosem.cut.vars' lays the variable. In a bare row this is a premise. The card (YtgmipogidmcilaaDoorCards.lean) ties it to the program's text. -/
def laid_unicode_utf8_acceptRanges {H : Type} : DataW H := .agg [.agg [.lit (.int .u8 128), .lit (.int .u8 191)], .agg [.lit (.int .u8 160), .lit (.int .u8 191)], .agg [.lit (.int .u8 128), .lit (.int .u8 159)], .agg [.lit (.int .u8 144), .lit (.int .u8 191)], .agg [.lit (.int .u8 128), .lit (.int .u8 143)], .agg [.lit (.int .u8 0), .lit (.int .u8 0)], .agg [.lit (.int .u8 0), .lit (.int .u8 0)], .agg [.lit (.int .u8 0), .lit (.int .u8 0)], .agg [.lit (.int .u8 0), .lit (.int .u8 0)], .agg [.lit (.int .u8 0), .lit (.int .u8 0)], .agg [.lit (.int .u8 0), .lit (.int .u8 0)], .agg [.lit (.int .u8 0), .lit (.int .u8 0)], .agg [.lit (.int .u8 0), .lit (.int .u8 0)], .agg [.lit (.int .u8 0), .lit (.int .u8 0)], .agg [.lit (.int .u8 0), .lit (.int .u8 0)], .agg [.lit (.int .u8 0), .lit (.int .u8 0)]]
/-- One of Go's own tables, pinned by name: the form's constant. -/
def laid_unicode_utf8_first : DataW Unit := Go.Pinned.utf8First

/-- 'depositorylaw21.LogopApplies': WHATEVER THE INPUT: true; the input reads as it did. -/
def logopAppliesSpec : ChangeSpec := { name := "logopApplies", fn := fun _ => fun
  | [d1, d2] => { results := [.lit (.bool true)], args := [d1, d2] }
  | _ => none }
def logopAppliesRow : OpenClaim := { program := "ytgmipogidmcilaadoor", sum := "1dcb1a41f1ca4f57c0b8901391a9b000daa0e5a066c546717cbed2d7a0c2bbba", func := "depository/depositorylaw21.LogopApplies", spec := "logopApplies", inPlace := ["internal/bytealg.IndexByteString", "internal/bytealg.IndexString", "internal/abi.NoEscape", "internal/bytealg.MakeNoZero"], named := ["unicode/utf8.first", "unicode/utf8.acceptRanges", "internal/bytealg.MaxLen"], apart := false, laid := [("unicode/utf8.acceptRanges", laid_unicode_utf8_acceptRanges), ("unicode/utf8.first", laid_unicode_utf8_first)] }
def LogopAppliesSaid : Prop := logopAppliesRow.holds Tryd.pinned (OpenSpec.ofChange logopAppliesSpec)

/-- ITS FALSE NEIGHBOUR: 'it returns false'. Refute it at one input. -/
def logopAppliesWrong : ChangeSpec := { name := "logopApplies", fn := fun _ => fun
  | [d1, d2] => { results := [.lit (.bool false)], args := [d1, d2] }
  | _ => none }
def LogopAppliesWrongFalsely : Prop := logopAppliesRow.holds Tryd.pinned (OpenSpec.ofChange logopAppliesWrong)

/-- 'depositorylaw21.LogopErrors': WHATEVER THE INPUT: true; the input reads as it did. -/
def logopErrorsSpec : ChangeSpec := { name := "logopErrors", fn := fun _ => fun
  | [d] => { results := [.lit (.bool true)], args := [d] }
  | _ => none }
def logopErrorsRow : OpenClaim := { program := "ytgmipogidmcilaadoor", sum := "1dcb1a41f1ca4f57c0b8901391a9b000daa0e5a066c546717cbed2d7a0c2bbba", func := "depository/depositorylaw21.LogopErrors", spec := "logopErrors", inPlace := ["internal/bytealg.IndexByteString", "internal/bytealg.IndexString", "internal/abi.NoEscape", "internal/bytealg.MakeNoZero"], named := ["unicode/utf8.first", "unicode/utf8.acceptRanges", "internal/bytealg.MaxLen"], apart := false, laid := [("unicode/utf8.acceptRanges", laid_unicode_utf8_acceptRanges), ("unicode/utf8.first", laid_unicode_utf8_first)] }
def LogopErrorsSaid : Prop := logopErrorsRow.holds Tryd.pinned (OpenSpec.ofChange logopErrorsSpec)

/-- ITS FALSE NEIGHBOUR: 'it returns false'. Refute it at one input. -/
def logopErrorsWrong : ChangeSpec := { name := "logopErrors", fn := fun _ => fun
  | [d] => { results := [.lit (.bool false)], args := [d] }
  | _ => none }
def LogopErrorsWrongFalsely : Prop := logopErrorsRow.holds Tryd.pinned (OpenSpec.ofChange logopErrorsWrong)

/-- 'depositorylaw21.LogopBetween': WHATEVER THE INPUT: true; the input reads as it did. -/
def logopBetweenSpec : ChangeSpec := { name := "logopBetween", fn := fun _ => fun
  | [d1, d2, d3] => { results := [.lit (.bool true)], args := [d1, d2, d3] }
  | _ => none }
def logopBetweenRow : OpenClaim := { program := "ytgmipogidmcilaadoor", sum := "1dcb1a41f1ca4f57c0b8901391a9b000daa0e5a066c546717cbed2d7a0c2bbba", func := "depository/depositorylaw21.LogopBetween", spec := "logopBetween", inPlace := ["internal/bytealg.IndexByteString", "internal/bytealg.IndexString", "internal/abi.NoEscape", "internal/bytealg.MakeNoZero"], named := ["unicode/utf8.first", "unicode/utf8.acceptRanges", "internal/bytealg.MaxLen"], apart := false, laid := [("unicode/utf8.acceptRanges", laid_unicode_utf8_acceptRanges), ("unicode/utf8.first", laid_unicode_utf8_first)] }
def LogopBetweenSaid : Prop := logopBetweenRow.holds Tryd.pinned (OpenSpec.ofChange logopBetweenSpec)

/-- ITS FALSE NEIGHBOUR: 'it returns false'. Refute it at one input. -/
def logopBetweenWrong : ChangeSpec := { name := "logopBetween", fn := fun _ => fun
  | [d1, d2, d3] => { results := [.lit (.bool false)], args := [d1, d2, d3] }
  | _ => none }
def LogopBetweenWrongFalsely : Prop := logopBetweenRow.holds Tryd.pinned (OpenSpec.ofChange logopBetweenWrong)

/-- 'depositorylaw21.LogopApart': WHATEVER THE INPUT: true; the input reads as it did. -/
def logopApartSpec : ChangeSpec := { name := "logopApart", fn := fun _ => fun
  | [d1, d2, d3] => { results := [.lit (.bool true)], args := [d1, d2, d3] }
  | _ => none }
def logopApartRow : OpenClaim := { program := "ytgmipogidmcilaadoor", sum := "1dcb1a41f1ca4f57c0b8901391a9b000daa0e5a066c546717cbed2d7a0c2bbba", func := "depository/depositorylaw21.LogopApart", spec := "logopApart", inPlace := ["internal/bytealg.IndexByteString", "internal/bytealg.IndexString", "internal/abi.NoEscape", "internal/bytealg.MakeNoZero"], named := ["unicode/utf8.first", "unicode/utf8.acceptRanges", "internal/bytealg.MaxLen"], apart := false, laid := [("unicode/utf8.acceptRanges", laid_unicode_utf8_acceptRanges), ("unicode/utf8.first", laid_unicode_utf8_first)] }
def LogopApartSaid : Prop := logopApartRow.holds Tryd.pinned (OpenSpec.ofChange logopApartSpec)

/-- ITS FALSE NEIGHBOUR: 'it returns false'. Refute it at one input. -/
def logopApartWrong : ChangeSpec := { name := "logopApart", fn := fun _ => fun
  | [d1, d2, d3] => { results := [.lit (.bool false)], args := [d1, d2, d3] }
  | _ => none }
def LogopApartWrongFalsely : Prop := logopApartRow.holds Tryd.pinned (OpenSpec.ofChange logopApartWrong)

/-- 'depositorylaw21.LogopBytes': WHATEVER THE INPUT: true; the input reads as it did. -/
def logopBytesSpec : ChangeSpec := { name := "logopBytes", fn := fun _ => fun
  | [d] => { results := [.lit (.bool true)], args := [d] }
  | _ => none }
def logopBytesRow : OpenClaim := { program := "ytgmipogidmcilaadoor", sum := "1dcb1a41f1ca4f57c0b8901391a9b000daa0e5a066c546717cbed2d7a0c2bbba", func := "depository/depositorylaw21.LogopBytes", spec := "logopBytes", inPlace := ["internal/bytealg.IndexByteString", "internal/bytealg.IndexString", "internal/abi.NoEscape", "internal/bytealg.MakeNoZero"], unfollowed := true, recurses := true, named := ["unicode/utf8.first", "unicode/utf8.acceptRanges", "internal/bytealg.MaxLen"], apart := false, laid := [("unicode/utf8.acceptRanges", laid_unicode_utf8_acceptRanges), ("unicode/utf8.first", laid_unicode_utf8_first)] }
def LogopBytesSaid : Prop := logopBytesRow.holds Tryd.pinned (OpenSpec.ofChange logopBytesSpec)

/-- ITS FALSE NEIGHBOUR: 'it returns false'. Refute it at one input. -/
def logopBytesWrong : ChangeSpec := { name := "logopBytes", fn := fun _ => fun
  | [d] => { results := [.lit (.bool false)], args := [d] }
  | _ => none }
def LogopBytesWrongFalsely : Prop := logopBytesRow.holds Tryd.pinned (OpenSpec.ofChange logopBytesWrong)

/-- 'depositorylaw21.LogopRedoes': WHATEVER THE INPUT: true; the input reads as it did. -/
def logopRedoesSpec : ChangeSpec := { name := "logopRedoes", fn := fun _ => fun
  | [d1, d2] => { results := [.lit (.bool true)], args := [d1, d2] }
  | _ => none }
def logopRedoesRow : OpenClaim := { program := "ytgmipogidmcilaadoor", sum := "1dcb1a41f1ca4f57c0b8901391a9b000daa0e5a066c546717cbed2d7a0c2bbba", func := "depository/depositorylaw21.LogopRedoes", spec := "logopRedoes", inPlace := ["internal/bytealg.IndexByteString", "internal/bytealg.IndexString", "internal/abi.NoEscape", "internal/bytealg.MakeNoZero"], named := ["unicode/utf8.first", "unicode/utf8.acceptRanges", "internal/bytealg.MaxLen"], apart := false, laid := [("unicode/utf8.acceptRanges", laid_unicode_utf8_acceptRanges), ("unicode/utf8.first", laid_unicode_utf8_first)] }
def LogopRedoesSaid : Prop := logopRedoesRow.holds Tryd.pinned (OpenSpec.ofChange logopRedoesSpec)

/-- ITS FALSE NEIGHBOUR: 'it returns false'. Refute it at one input. -/
def logopRedoesWrong : ChangeSpec := { name := "logopRedoes", fn := fun _ => fun
  | [d1, d2] => { results := [.lit (.bool false)], args := [d1, d2] }
  | _ => none }
def LogopRedoesWrongFalsely : Prop := logopRedoesRow.holds Tryd.pinned (OpenSpec.ofChange logopRedoesWrong)

/-- 'depositorylaw21.LogopOnce': WHATEVER THE INPUT: true; the input reads as it did. -/
def logopOnceSpec : ChangeSpec := { name := "logopOnce", fn := fun _ => fun
  | [d1, d2, d3] => { results := [.lit (.bool true)], args := [d1, d2, d3] }
  | _ => none }
def logopOnceRow : OpenClaim := { program := "ytgmipogidmcilaadoor", sum := "1dcb1a41f1ca4f57c0b8901391a9b000daa0e5a066c546717cbed2d7a0c2bbba", func := "depository/depositorylaw21.LogopOnce", spec := "logopOnce", inPlace := ["internal/bytealg.IndexByteString", "internal/bytealg.IndexString", "internal/abi.NoEscape", "internal/bytealg.MakeNoZero"], named := ["unicode/utf8.first", "unicode/utf8.acceptRanges", "internal/bytealg.MaxLen"], apart := false, laid := [("unicode/utf8.acceptRanges", laid_unicode_utf8_acceptRanges), ("unicode/utf8.first", laid_unicode_utf8_first)] }
def LogopOnceSaid : Prop := logopOnceRow.holds Tryd.pinned (OpenSpec.ofChange logopOnceSpec)

/-- ITS FALSE NEIGHBOUR: 'it returns false'. Refute it at one input. -/
def logopOnceWrong : ChangeSpec := { name := "logopOnce", fn := fun _ => fun
  | [d1, d2, d3] => { results := [.lit (.bool false)], args := [d1, d2, d3] }
  | _ => none }
def LogopOnceWrongFalsely : Prop := logopOnceRow.holds Tryd.pinned (OpenSpec.ofChange logopOnceWrong)

/-- 'depositorylaw21.LogopReads': WHATEVER THE INPUT: true; the input reads as it did. -/
def logopReadsSpec : ChangeSpec := { name := "logopReads", fn := fun _ => fun
  | [d] => { results := [.lit (.bool true)], args := [d] }
  | _ => none }
def logopReadsRow : OpenClaim := { program := "ytgmipogidmcilaadoor", sum := "1dcb1a41f1ca4f57c0b8901391a9b000daa0e5a066c546717cbed2d7a0c2bbba", func := "depository/depositorylaw21.LogopReads", spec := "logopReads", inPlace := ["internal/bytealg.IndexByteString", "internal/bytealg.IndexString", "internal/abi.NoEscape", "internal/bytealg.MakeNoZero"], unfollowed := true, recurses := true, named := ["unicode/utf8.first", "unicode/utf8.acceptRanges", "internal/bytealg.MaxLen"], apart := false, laid := [("unicode/utf8.acceptRanges", laid_unicode_utf8_acceptRanges), ("unicode/utf8.first", laid_unicode_utf8_first)] }
def LogopReadsSaid : Prop := logopReadsRow.holds Tryd.pinned (OpenSpec.ofChange logopReadsSpec)

/-- ITS FALSE NEIGHBOUR: 'it returns false'. Refute it at one input. -/
def logopReadsWrong : ChangeSpec := { name := "logopReads", fn := fun _ => fun
  | [d] => { results := [.lit (.bool false)], args := [d] }
  | _ => none }
def LogopReadsWrongFalsely : Prop := logopReadsRow.holds Tryd.pinned (OpenSpec.ofChange logopReadsWrong)

/-- 'depositorylaw21.LogopBack': WHATEVER THE INPUT: true; the input reads as it did. -/
def logopBackSpec : ChangeSpec := { name := "logopBack", fn := fun _ => fun
  | [d1, d2, d3] => { results := [.lit (.bool true)], args := [d1, d2, d3] }
  | _ => none }
def logopBackRow : OpenClaim := { program := "ytgmipogidmcilaadoor", sum := "1dcb1a41f1ca4f57c0b8901391a9b000daa0e5a066c546717cbed2d7a0c2bbba", func := "depository/depositorylaw21.LogopBack", spec := "logopBack", inPlace := ["internal/bytealg.IndexByteString", "internal/bytealg.IndexString", "internal/abi.NoEscape", "internal/bytealg.MakeNoZero"], unfollowed := true, recurses := true, named := ["unicode/utf8.first", "unicode/utf8.acceptRanges", "internal/bytealg.MaxLen"], apart := false, laid := [("unicode/utf8.acceptRanges", laid_unicode_utf8_acceptRanges), ("unicode/utf8.first", laid_unicode_utf8_first)] }
def LogopBackSaid : Prop := logopBackRow.holds Tryd.pinned (OpenSpec.ofChange logopBackSpec)

/-- ITS FALSE NEIGHBOUR: 'it returns false'. Refute it at one input. -/
def logopBackWrong : ChangeSpec := { name := "logopBack", fn := fun _ => fun
  | [d1, d2, d3] => { results := [.lit (.bool false)], args := [d1, d2, d3] }
  | _ => none }
def LogopBackWrongFalsely : Prop := logopBackRow.holds Tryd.pinned (OpenSpec.ofChange logopBackWrong)

/- THE SECOND FORM. 'bulk': how many values and letters a reading holds, each counted each time it is reached (what is shared counts as often as it is met; a slice's spare places count too). A statement '..UptoSaid' is the law's where the arguments, and the package variables that the reading takes, are together of bulk at most 1048576: NARROWER than '..Said'. Prove '..Said' where nothing that the law and all that it calls make is longer than what came in: it says more and counts as full. Else prove '..UptoSaid'. A law counts once. -/
mutual
def uptoBulk {H : Type} : DataW H → Nat
  | .lit (.string bytes) => bytes.length + 1
  | .lit _ => 1
  | .nil => 1
  | .ptr d => uptoBulk d + 1
  | .slice elems spare => uptoBulkAll elems + uptoBulkAll spare + 1
  | .agg parts => uptoBulkAll parts + 1
  | .iface _ d => uptoBulk d + 1
  | .map entries => uptoBulkEntries entries + 1
  | .held _ => 1
def uptoBulkAll {H : Type} : List (DataW H) → Nat
  | [] => 0
  | d :: r => uptoBulk d + uptoBulkAll r
def uptoBulkEntries {H : Type} : List (Lit × DataW H) → Nat
  | [] => 0
  | x :: r => uptoBulkEntry x + uptoBulkEntries r
def uptoBulkEntry {H : Type} : Lit × DataW H → Nat
  | (.string bytes, d) => bytes.length + uptoBulk d + 1
  | (_, d) => uptoBulk d + 1
 end
def uptoSmall : (H : Type) → List (DataW H) → Bool := fun _ ds => decide (uptoBulkAll ds ≤ 1048576)
def OpenSpec.upto (s : _root_.Go.ChangeSpec) : _root_.Go.OpenSpec := { _root_.Go.OpenSpec.ofChange s with cond := some uptoSmall }

/-- 'depositorylaw21.LogopApplies', WHERE WHAT IT READS IS OF BULK AT MOST 1048576: true; the input reads as it did. -/
def logopAppliesUptoRow : OpenClaim := { program := "ytgmipogidmcilaadoor", sum := "1dcb1a41f1ca4f57c0b8901391a9b000daa0e5a066c546717cbed2d7a0c2bbba", func := "depository/depositorylaw21.LogopApplies", spec := "logopApplies", inPlace := ["internal/bytealg.IndexByteString", "internal/bytealg.IndexString", "internal/abi.NoEscape", "internal/bytealg.MakeNoZero"], named := ["unicode/utf8.first", "unicode/utf8.acceptRanges", "internal/bytealg.MaxLen"], apart := false, laid := [("unicode/utf8.acceptRanges", laid_unicode_utf8_acceptRanges), ("unicode/utf8.first", laid_unicode_utf8_first)], narrowed := true }
def LogopAppliesUptoSaid : Prop := logopAppliesUptoRow.holds Tryd.pinned (OpenSpec.upto logopAppliesSpec)

/-- 'depositorylaw21.LogopErrors', WHERE WHAT IT READS IS OF BULK AT MOST 1048576: true; the input reads as it did. -/
def logopErrorsUptoRow : OpenClaim := { program := "ytgmipogidmcilaadoor", sum := "1dcb1a41f1ca4f57c0b8901391a9b000daa0e5a066c546717cbed2d7a0c2bbba", func := "depository/depositorylaw21.LogopErrors", spec := "logopErrors", inPlace := ["internal/bytealg.IndexByteString", "internal/bytealg.IndexString", "internal/abi.NoEscape", "internal/bytealg.MakeNoZero"], named := ["unicode/utf8.first", "unicode/utf8.acceptRanges", "internal/bytealg.MaxLen"], apart := false, laid := [("unicode/utf8.acceptRanges", laid_unicode_utf8_acceptRanges), ("unicode/utf8.first", laid_unicode_utf8_first)], narrowed := true }
def LogopErrorsUptoSaid : Prop := logopErrorsUptoRow.holds Tryd.pinned (OpenSpec.upto logopErrorsSpec)

/-- 'depositorylaw21.LogopBetween', WHERE WHAT IT READS IS OF BULK AT MOST 1048576: true; the input reads as it did. -/
def logopBetweenUptoRow : OpenClaim := { program := "ytgmipogidmcilaadoor", sum := "1dcb1a41f1ca4f57c0b8901391a9b000daa0e5a066c546717cbed2d7a0c2bbba", func := "depository/depositorylaw21.LogopBetween", spec := "logopBetween", inPlace := ["internal/bytealg.IndexByteString", "internal/bytealg.IndexString", "internal/abi.NoEscape", "internal/bytealg.MakeNoZero"], named := ["unicode/utf8.first", "unicode/utf8.acceptRanges", "internal/bytealg.MaxLen"], apart := false, laid := [("unicode/utf8.acceptRanges", laid_unicode_utf8_acceptRanges), ("unicode/utf8.first", laid_unicode_utf8_first)], narrowed := true }
def LogopBetweenUptoSaid : Prop := logopBetweenUptoRow.holds Tryd.pinned (OpenSpec.upto logopBetweenSpec)

/-- 'depositorylaw21.LogopApart', WHERE WHAT IT READS IS OF BULK AT MOST 1048576: true; the input reads as it did. -/
def logopApartUptoRow : OpenClaim := { program := "ytgmipogidmcilaadoor", sum := "1dcb1a41f1ca4f57c0b8901391a9b000daa0e5a066c546717cbed2d7a0c2bbba", func := "depository/depositorylaw21.LogopApart", spec := "logopApart", inPlace := ["internal/bytealg.IndexByteString", "internal/bytealg.IndexString", "internal/abi.NoEscape", "internal/bytealg.MakeNoZero"], named := ["unicode/utf8.first", "unicode/utf8.acceptRanges", "internal/bytealg.MaxLen"], apart := false, laid := [("unicode/utf8.acceptRanges", laid_unicode_utf8_acceptRanges), ("unicode/utf8.first", laid_unicode_utf8_first)], narrowed := true }
def LogopApartUptoSaid : Prop := logopApartUptoRow.holds Tryd.pinned (OpenSpec.upto logopApartSpec)

/-- 'depositorylaw21.LogopBytes', WHERE WHAT IT READS IS OF BULK AT MOST 1048576: true; the input reads as it did. -/
def logopBytesUptoRow : OpenClaim := { program := "ytgmipogidmcilaadoor", sum := "1dcb1a41f1ca4f57c0b8901391a9b000daa0e5a066c546717cbed2d7a0c2bbba", func := "depository/depositorylaw21.LogopBytes", spec := "logopBytes", inPlace := ["internal/bytealg.IndexByteString", "internal/bytealg.IndexString", "internal/abi.NoEscape", "internal/bytealg.MakeNoZero"], unfollowed := true, recurses := true, named := ["unicode/utf8.first", "unicode/utf8.acceptRanges", "internal/bytealg.MaxLen"], apart := false, laid := [("unicode/utf8.acceptRanges", laid_unicode_utf8_acceptRanges), ("unicode/utf8.first", laid_unicode_utf8_first)], narrowed := true }
def LogopBytesUptoSaid : Prop := logopBytesUptoRow.holds Tryd.pinned (OpenSpec.upto logopBytesSpec)

/-- 'depositorylaw21.LogopRedoes', WHERE WHAT IT READS IS OF BULK AT MOST 1048576: true; the input reads as it did. -/
def logopRedoesUptoRow : OpenClaim := { program := "ytgmipogidmcilaadoor", sum := "1dcb1a41f1ca4f57c0b8901391a9b000daa0e5a066c546717cbed2d7a0c2bbba", func := "depository/depositorylaw21.LogopRedoes", spec := "logopRedoes", inPlace := ["internal/bytealg.IndexByteString", "internal/bytealg.IndexString", "internal/abi.NoEscape", "internal/bytealg.MakeNoZero"], named := ["unicode/utf8.first", "unicode/utf8.acceptRanges", "internal/bytealg.MaxLen"], apart := false, laid := [("unicode/utf8.acceptRanges", laid_unicode_utf8_acceptRanges), ("unicode/utf8.first", laid_unicode_utf8_first)], narrowed := true }
def LogopRedoesUptoSaid : Prop := logopRedoesUptoRow.holds Tryd.pinned (OpenSpec.upto logopRedoesSpec)

/-- 'depositorylaw21.LogopOnce', WHERE WHAT IT READS IS OF BULK AT MOST 1048576: true; the input reads as it did. -/
def logopOnceUptoRow : OpenClaim := { program := "ytgmipogidmcilaadoor", sum := "1dcb1a41f1ca4f57c0b8901391a9b000daa0e5a066c546717cbed2d7a0c2bbba", func := "depository/depositorylaw21.LogopOnce", spec := "logopOnce", inPlace := ["internal/bytealg.IndexByteString", "internal/bytealg.IndexString", "internal/abi.NoEscape", "internal/bytealg.MakeNoZero"], named := ["unicode/utf8.first", "unicode/utf8.acceptRanges", "internal/bytealg.MaxLen"], apart := false, laid := [("unicode/utf8.acceptRanges", laid_unicode_utf8_acceptRanges), ("unicode/utf8.first", laid_unicode_utf8_first)], narrowed := true }
def LogopOnceUptoSaid : Prop := logopOnceUptoRow.holds Tryd.pinned (OpenSpec.upto logopOnceSpec)

/-- 'depositorylaw21.LogopReads', WHERE WHAT IT READS IS OF BULK AT MOST 1048576: true; the input reads as it did. -/
def logopReadsUptoRow : OpenClaim := { program := "ytgmipogidmcilaadoor", sum := "1dcb1a41f1ca4f57c0b8901391a9b000daa0e5a066c546717cbed2d7a0c2bbba", func := "depository/depositorylaw21.LogopReads", spec := "logopReads", inPlace := ["internal/bytealg.IndexByteString", "internal/bytealg.IndexString", "internal/abi.NoEscape", "internal/bytealg.MakeNoZero"], unfollowed := true, recurses := true, named := ["unicode/utf8.first", "unicode/utf8.acceptRanges", "internal/bytealg.MaxLen"], apart := false, laid := [("unicode/utf8.acceptRanges", laid_unicode_utf8_acceptRanges), ("unicode/utf8.first", laid_unicode_utf8_first)], narrowed := true }
def LogopReadsUptoSaid : Prop := logopReadsUptoRow.holds Tryd.pinned (OpenSpec.upto logopReadsSpec)

/-- 'depositorylaw21.LogopBack', WHERE WHAT IT READS IS OF BULK AT MOST 1048576: true; the input reads as it did. -/
def logopBackUptoRow : OpenClaim := { program := "ytgmipogidmcilaadoor", sum := "1dcb1a41f1ca4f57c0b8901391a9b000daa0e5a066c546717cbed2d7a0c2bbba", func := "depository/depositorylaw21.LogopBack", spec := "logopBack", inPlace := ["internal/bytealg.IndexByteString", "internal/bytealg.IndexString", "internal/abi.NoEscape", "internal/bytealg.MakeNoZero"], unfollowed := true, recurses := true, named := ["unicode/utf8.first", "unicode/utf8.acceptRanges", "internal/bytealg.MaxLen"], apart := false, laid := [("unicode/utf8.acceptRanges", laid_unicode_utf8_acceptRanges), ("unicode/utf8.first", laid_unicode_utf8_first)], narrowed := true }
def LogopBackUptoSaid : Prop := logopBackUptoRow.holds Tryd.pinned (OpenSpec.upto logopBackSpec)

end Rows
end Go.Proofs.YtgmipogidmcilaaDoor
