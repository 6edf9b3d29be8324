/-
  NARROWER THAN 'FOR EVERY INPUT', by the rows' own cells (each row's printed sentence says how): RingRestarts: laid · RingReads: laid · RingChecks: laid · RingAppends: laid · RingAreas: laid · RingWrites: laid · RingFails: laid · RingPages: laid.
  DERIVED. THE GIVEN ROWS OF THIS SEAT. 8 by the template 'for every input the law returns true; each argument reads behind the call as it read before'; 0 by the template 'total and deterministic' (their statements: YtmlilplbdpjfcaaGreatDoorTotals.lean).
  GIVEN WITH THE SEED: the statements are not yours to turn. If you find one false, say at which input.
  Laid BY PROGRAM, IN A SANDBOX (cutbox-rows.mjs): the forced cells as the released guide's own fill.sh prints them over the translation 5434e42f57fdc85b… (all of the seat's roots in one cut). By AI agents, Wed Nov 11 2026. No macro, syntax, notation, axiom, sorry.
-/
import Derived.Test.YtmlilplbdpjfcaaGreatDoorChecked
import GoSem.PinnedTables
import GoSem.Claim
import GoSem.ClaimJoined
import GoSem.ClaimMapViews
import Derived.JoinedTies
import Derived.KernelRfl
namespace Go.Proofs.YtmlilplbdpjfcaaGreatDoor
/- THE CELL 'sum', in the pinned program and in every row, IS THE sha256 OF THE DUMP (.gsa) THAT YtmlilplbdpjfcaaGreatDoorProg.lean LOADS. Nothing in Lean hashes anything: it is a label: what it is worth is what the hold of that sum in a sandbox is worth. -/
noncomputable def Tryz.pinned : Pinned := { name := "ytmlilplbdpjfcaagreatdoor", sum := "5434e42f57fdc85bfea9750fb84c7995ebcd19f0df8288e425ae0a85aa3fed5a", checked := Tryz.checked }
namespace Rows
def none {H : Type} : Left H := { results := [], args := [] }

/- WHAT THE LISTED PACKAGE-LEVEL VARIABLES READ AS WHEN THE CALL BEGINS. Each datum BY PROGRAM (the guide's laid-datum.mjs) off the statement by which the dump's own 'gosem.cut.vars' lays the variable. In a bare row this is a premise. The card (YtmlilplbdpjfcaaGreatDoorCards.lean) ties it to the program's text. -/
def laid_unicode_utf8_acceptRanges {H : Type} : DataW H := .agg [.agg [.lit (.int .u8 128), .lit (.int .u8 191)], .agg [.lit (.int .u8 160), .lit (.int .u8 191)], .agg [.lit (.int .u8 128), .lit (.int .u8 159)], .agg [.lit (.int .u8 144), .lit (.int .u8 191)], .agg [.lit (.int .u8 128), .lit (.int .u8 143)], .agg [.lit (.int .u8 0), .lit (.int .u8 0)], .agg [.lit (.int .u8 0), .lit (.int .u8 0)], .agg [.lit (.int .u8 0), .lit (.int .u8 0)], .agg [.lit (.int .u8 0), .lit (.int .u8 0)], .agg [.lit (.int .u8 0), .lit (.int .u8 0)], .agg [.lit (.int .u8 0), .lit (.int .u8 0)], .agg [.lit (.int .u8 0), .lit (.int .u8 0)], .agg [.lit (.int .u8 0), .lit (.int .u8 0)], .agg [.lit (.int .u8 0), .lit (.int .u8 0)], .agg [.lit (.int .u8 0), .lit (.int .u8 0)], .agg [.lit (.int .u8 0), .lit (.int .u8 0)]]
/-- One of Go's own tables, pinned by name: the form's constant. -/
def laid_unicode_utf8_first : DataW Unit := Go.Pinned.utf8First

/-- 'depositorylaw20.RingRestarts': WHATEVER THE INPUT: true; the input reads as it did. -/
def ringRestartsSpec : ChangeSpec := { name := "ringRestarts", fn := fun _ => fun
  | [d1, d2, d3] => { results := [.lit (.bool true)], args := [d1, d2, d3] }
  | _ => none }
def ringRestartsRow : OpenClaim := { program := "ytmlilplbdpjfcaagreatdoor", sum := "5434e42f57fdc85bfea9750fb84c7995ebcd19f0df8288e425ae0a85aa3fed5a", func := "depository/depositorylaw20.RingRestarts", spec := "ringRestarts", inPlace := ["internal/bytealg.IndexByteString", "internal/bytealg.IndexString", "internal/abi.NoEscape", "internal/bytealg.MakeNoZero"], unfollowed := true, recurses := true, named := ["unicode/utf8.first", "unicode/utf8.acceptRanges", "internal/bytealg.MaxLen"], apart := false, laid := [("unicode/utf8.acceptRanges", laid_unicode_utf8_acceptRanges), ("unicode/utf8.first", laid_unicode_utf8_first)] }
def RingRestartsSaid : Prop := ringRestartsRow.holds Tryz.pinned (OpenSpec.ofChange ringRestartsSpec)

/-- ITS FALSE NEIGHBOUR: 'it returns false'. Refute it at one input. -/
def ringRestartsWrong : ChangeSpec := { name := "ringRestarts", fn := fun _ => fun
  | [d1, d2, d3] => { results := [.lit (.bool false)], args := [d1, d2, d3] }
  | _ => none }
def RingRestartsWrongFalsely : Prop := ringRestartsRow.holds Tryz.pinned (OpenSpec.ofChange ringRestartsWrong)

/-- 'depositorylaw20.RingReads': WHATEVER THE INPUT: true; the input reads as it did. -/
def ringReadsSpec : ChangeSpec := { name := "ringReads", fn := fun _ => fun
  | [d] => { results := [.lit (.bool true)], args := [d] }
  | _ => none }
def ringReadsRow : OpenClaim := { program := "ytmlilplbdpjfcaagreatdoor", sum := "5434e42f57fdc85bfea9750fb84c7995ebcd19f0df8288e425ae0a85aa3fed5a", func := "depository/depositorylaw20.RingReads", spec := "ringReads", inPlace := ["internal/bytealg.IndexByteString", "internal/bytealg.IndexString", "internal/abi.NoEscape", "internal/bytealg.MakeNoZero"], unfollowed := true, recurses := true, named := ["unicode/utf8.first", "unicode/utf8.acceptRanges", "internal/bytealg.MaxLen"], apart := false, laid := [("unicode/utf8.acceptRanges", laid_unicode_utf8_acceptRanges), ("unicode/utf8.first", laid_unicode_utf8_first)] }
def RingReadsSaid : Prop := ringReadsRow.holds Tryz.pinned (OpenSpec.ofChange ringReadsSpec)

/-- ITS FALSE NEIGHBOUR: 'it returns false'. Refute it at one input. -/
def ringReadsWrong : ChangeSpec := { name := "ringReads", fn := fun _ => fun
  | [d] => { results := [.lit (.bool false)], args := [d] }
  | _ => none }
def RingReadsWrongFalsely : Prop := ringReadsRow.holds Tryz.pinned (OpenSpec.ofChange ringReadsWrong)

/-- 'depositorylaw20.RingChecks': WHATEVER THE INPUT: true; the input reads as it did. -/
def ringChecksSpec : ChangeSpec := { name := "ringChecks", fn := fun _ => fun
  | [d1, d2] => { results := [.lit (.bool true)], args := [d1, d2] }
  | _ => none }
def ringChecksRow : OpenClaim := { program := "ytmlilplbdpjfcaagreatdoor", sum := "5434e42f57fdc85bfea9750fb84c7995ebcd19f0df8288e425ae0a85aa3fed5a", func := "depository/depositorylaw20.RingChecks", spec := "ringChecks", inPlace := ["internal/bytealg.IndexByteString", "internal/bytealg.IndexString", "internal/abi.NoEscape", "internal/bytealg.MakeNoZero"], unfollowed := true, recurses := true, named := ["unicode/utf8.first", "unicode/utf8.acceptRanges", "internal/bytealg.MaxLen"], apart := false, laid := [("unicode/utf8.acceptRanges", laid_unicode_utf8_acceptRanges), ("unicode/utf8.first", laid_unicode_utf8_first)] }
def RingChecksSaid : Prop := ringChecksRow.holds Tryz.pinned (OpenSpec.ofChange ringChecksSpec)

/-- ITS FALSE NEIGHBOUR: 'it returns false'. Refute it at one input. -/
def ringChecksWrong : ChangeSpec := { name := "ringChecks", fn := fun _ => fun
  | [d1, d2] => { results := [.lit (.bool false)], args := [d1, d2] }
  | _ => none }
def RingChecksWrongFalsely : Prop := ringChecksRow.holds Tryz.pinned (OpenSpec.ofChange ringChecksWrong)

/-- 'depositorylaw20.RingAppends': WHATEVER THE INPUT: true; the input reads as it did. -/
def ringAppendsSpec : ChangeSpec := { name := "ringAppends", fn := fun _ => fun
  | [d1, d2, d3] => { results := [.lit (.bool true)], args := [d1, d2, d3] }
  | _ => none }
def ringAppendsRow : OpenClaim := { program := "ytmlilplbdpjfcaagreatdoor", sum := "5434e42f57fdc85bfea9750fb84c7995ebcd19f0df8288e425ae0a85aa3fed5a", func := "depository/depositorylaw20.RingAppends", spec := "ringAppends", inPlace := ["internal/bytealg.IndexByteString", "internal/bytealg.IndexString", "internal/abi.NoEscape", "internal/bytealg.MakeNoZero"], unfollowed := true, recurses := true, named := ["unicode/utf8.first", "unicode/utf8.acceptRanges", "internal/bytealg.MaxLen"], apart := false, laid := [("unicode/utf8.acceptRanges", laid_unicode_utf8_acceptRanges), ("unicode/utf8.first", laid_unicode_utf8_first)] }
def RingAppendsSaid : Prop := ringAppendsRow.holds Tryz.pinned (OpenSpec.ofChange ringAppendsSpec)

/-- ITS FALSE NEIGHBOUR: 'it returns false'. Refute it at one input. -/
def ringAppendsWrong : ChangeSpec := { name := "ringAppends", fn := fun _ => fun
  | [d1, d2, d3] => { results := [.lit (.bool false)], args := [d1, d2, d3] }
  | _ => none }
def RingAppendsWrongFalsely : Prop := ringAppendsRow.holds Tryz.pinned (OpenSpec.ofChange ringAppendsWrong)

/-- 'depositorylaw20.RingAreas': WHATEVER THE INPUT: true; the input reads as it did. -/
def ringAreasSpec : ChangeSpec := { name := "ringAreas", fn := fun _ => fun
  | [d1, d2, d3] => { results := [.lit (.bool true)], args := [d1, d2, d3] }
  | _ => none }
def ringAreasRow : OpenClaim := { program := "ytmlilplbdpjfcaagreatdoor", sum := "5434e42f57fdc85bfea9750fb84c7995ebcd19f0df8288e425ae0a85aa3fed5a", func := "depository/depositorylaw20.RingAreas", spec := "ringAreas", inPlace := ["internal/bytealg.IndexByteString", "internal/bytealg.IndexString", "internal/abi.NoEscape", "internal/bytealg.MakeNoZero"], unfollowed := true, recurses := true, named := ["unicode/utf8.first", "unicode/utf8.acceptRanges", "internal/bytealg.MaxLen"], apart := false, laid := [("unicode/utf8.acceptRanges", laid_unicode_utf8_acceptRanges), ("unicode/utf8.first", laid_unicode_utf8_first)] }
def RingAreasSaid : Prop := ringAreasRow.holds Tryz.pinned (OpenSpec.ofChange ringAreasSpec)

/-- ITS FALSE NEIGHBOUR: 'it returns false'. Refute it at one input. -/
def ringAreasWrong : ChangeSpec := { name := "ringAreas", fn := fun _ => fun
  | [d1, d2, d3] => { results := [.lit (.bool false)], args := [d1, d2, d3] }
  | _ => none }
def RingAreasWrongFalsely : Prop := ringAreasRow.holds Tryz.pinned (OpenSpec.ofChange ringAreasWrong)

/-- 'depositorylaw20.RingWrites': WHATEVER THE INPUT: true; the input reads as it did. -/
def ringWritesSpec : ChangeSpec := { name := "ringWrites", fn := fun _ => fun
  | [d1, d2, d3] => { results := [.lit (.bool true)], args := [d1, d2, d3] }
  | _ => none }
def ringWritesRow : OpenClaim := { program := "ytmlilplbdpjfcaagreatdoor", sum := "5434e42f57fdc85bfea9750fb84c7995ebcd19f0df8288e425ae0a85aa3fed5a", func := "depository/depositorylaw20.RingWrites", spec := "ringWrites", inPlace := ["internal/bytealg.IndexByteString", "internal/bytealg.IndexString", "internal/abi.NoEscape", "internal/bytealg.MakeNoZero"], unfollowed := true, recurses := true, named := ["unicode/utf8.first", "unicode/utf8.acceptRanges", "internal/bytealg.MaxLen"], apart := false, laid := [("unicode/utf8.acceptRanges", laid_unicode_utf8_acceptRanges), ("unicode/utf8.first", laid_unicode_utf8_first)] }
def RingWritesSaid : Prop := ringWritesRow.holds Tryz.pinned (OpenSpec.ofChange ringWritesSpec)

/-- ITS FALSE NEIGHBOUR: 'it returns false'. Refute it at one input. -/
def ringWritesWrong : ChangeSpec := { name := "ringWrites", fn := fun _ => fun
  | [d1, d2, d3] => { results := [.lit (.bool false)], args := [d1, d2, d3] }
  | _ => none }
def RingWritesWrongFalsely : Prop := ringWritesRow.holds Tryz.pinned (OpenSpec.ofChange ringWritesWrong)

/-- 'depositorylaw20.RingFails': WHATEVER THE INPUT: true; the input reads as it did. -/
def ringFailsSpec : ChangeSpec := { name := "ringFails", fn := fun _ => fun
  | [d1, d2, d3] => { results := [.lit (.bool true)], args := [d1, d2, d3] }
  | _ => none }
def ringFailsRow : OpenClaim := { program := "ytmlilplbdpjfcaagreatdoor", sum := "5434e42f57fdc85bfea9750fb84c7995ebcd19f0df8288e425ae0a85aa3fed5a", func := "depository/depositorylaw20.RingFails", spec := "ringFails", inPlace := ["internal/bytealg.IndexByteString", "internal/bytealg.IndexString", "internal/abi.NoEscape", "internal/bytealg.MakeNoZero"], unfollowed := true, recurses := true, named := ["unicode/utf8.first", "unicode/utf8.acceptRanges", "internal/bytealg.MaxLen"], apart := false, laid := [("unicode/utf8.acceptRanges", laid_unicode_utf8_acceptRanges), ("unicode/utf8.first", laid_unicode_utf8_first)] }
def RingFailsSaid : Prop := ringFailsRow.holds Tryz.pinned (OpenSpec.ofChange ringFailsSpec)

/-- ITS FALSE NEIGHBOUR: 'it returns false'. Refute it at one input. -/
def ringFailsWrong : ChangeSpec := { name := "ringFails", fn := fun _ => fun
  | [d1, d2, d3] => { results := [.lit (.bool false)], args := [d1, d2, d3] }
  | _ => none }
def RingFailsWrongFalsely : Prop := ringFailsRow.holds Tryz.pinned (OpenSpec.ofChange ringFailsWrong)

/-- 'depositorylaw20.RingPages': WHATEVER THE INPUT: true; the input reads as it did. -/
def ringPagesSpec : ChangeSpec := { name := "ringPages", fn := fun _ => fun
  | [d1, d2, d3] => { results := [.lit (.bool true)], args := [d1, d2, d3] }
  | _ => none }
def ringPagesRow : OpenClaim := { program := "ytmlilplbdpjfcaagreatdoor", sum := "5434e42f57fdc85bfea9750fb84c7995ebcd19f0df8288e425ae0a85aa3fed5a", func := "depository/depositorylaw20.RingPages", spec := "ringPages", inPlace := ["internal/bytealg.IndexByteString", "internal/bytealg.IndexString", "internal/abi.NoEscape", "internal/bytealg.MakeNoZero"], unfollowed := true, recurses := true, named := ["unicode/utf8.first", "unicode/utf8.acceptRanges", "internal/bytealg.MaxLen"], apart := false, laid := [("unicode/utf8.acceptRanges", laid_unicode_utf8_acceptRanges), ("unicode/utf8.first", laid_unicode_utf8_first)] }
def RingPagesSaid : Prop := ringPagesRow.holds Tryz.pinned (OpenSpec.ofChange ringPagesSpec)

/-- ITS FALSE NEIGHBOUR: 'it returns false'. Refute it at one input. -/
def ringPagesWrong : ChangeSpec := { name := "ringPages", fn := fun _ => fun
  | [d1, d2, d3] => { results := [.lit (.bool false)], args := [d1, d2, d3] }
  | _ => none }
def RingPagesWrongFalsely : Prop := ringPagesRow.holds Tryz.pinned (OpenSpec.ofChange ringPagesWrong)

/- THE SECOND FORM. 'bulk': how many values and letters a reading holds, each counted each time it is reached (what is shared counts as often as it is met; a slice's spare places count too). A statement '..UptoSaid' is the law's where the arguments, and the package variables that the reading takes, are together of bulk at most 1048576: NARROWER than '..Said'. Prove '..Said' where nothing that the law and all that it calls make is longer than what came in: it says more and counts as full. Else prove '..UptoSaid'. A law counts once. -/
mutual
def uptoBulk {H : Type} : DataW H → Nat
  | .lit (.string bytes) => bytes.length + 1
  | .lit _ => 1
  | .nil => 1
  | .ptr d => uptoBulk d + 1
  | .slice elems spare => uptoBulkAll elems + uptoBulkAll spare + 1
  | .agg parts => uptoBulkAll parts + 1
  | .iface _ d => uptoBulk d + 1
  | .map entries => uptoBulkEntries entries + 1
  | .held _ => 1
def uptoBulkAll {H : Type} : List (DataW H) → Nat
  | [] => 0
  | d :: r => uptoBulk d + uptoBulkAll r
def uptoBulkEntries {H : Type} : List (Lit × DataW H) → Nat
  | [] => 0
  | x :: r => uptoBulkEntry x + uptoBulkEntries r
def uptoBulkEntry {H : Type} : Lit × DataW H → Nat
  | (.string bytes, d) => bytes.length + uptoBulk d + 1
  | (_, d) => uptoBulk d + 1
 end
def uptoSmall : (H : Type) → List (DataW H) → Bool := fun _ ds => decide (uptoBulkAll ds ≤ 1048576)
def OpenSpec.upto (s : _root_.Go.ChangeSpec) : _root_.Go.OpenSpec := { _root_.Go.OpenSpec.ofChange s with cond := some uptoSmall }

/-- 'depositorylaw20.RingRestarts', WHERE WHAT IT READS IS OF BULK AT MOST 1048576: true; the input reads as it did. -/
def ringRestartsUptoRow : OpenClaim := { program := "ytmlilplbdpjfcaagreatdoor", sum := "5434e42f57fdc85bfea9750fb84c7995ebcd19f0df8288e425ae0a85aa3fed5a", func := "depository/depositorylaw20.RingRestarts", spec := "ringRestarts", inPlace := ["internal/bytealg.IndexByteString", "internal/bytealg.IndexString", "internal/abi.NoEscape", "internal/bytealg.MakeNoZero"], unfollowed := true, recurses := true, named := ["unicode/utf8.first", "unicode/utf8.acceptRanges", "internal/bytealg.MaxLen"], apart := false, laid := [("unicode/utf8.acceptRanges", laid_unicode_utf8_acceptRanges), ("unicode/utf8.first", laid_unicode_utf8_first)], narrowed := true }
def RingRestartsUptoSaid : Prop := ringRestartsUptoRow.holds Tryz.pinned (OpenSpec.upto ringRestartsSpec)

/-- 'depositorylaw20.RingReads', WHERE WHAT IT READS IS OF BULK AT MOST 1048576: true; the input reads as it did. -/
def ringReadsUptoRow : OpenClaim := { program := "ytmlilplbdpjfcaagreatdoor", sum := "5434e42f57fdc85bfea9750fb84c7995ebcd19f0df8288e425ae0a85aa3fed5a", func := "depository/depositorylaw20.RingReads", spec := "ringReads", inPlace := ["internal/bytealg.IndexByteString", "internal/bytealg.IndexString", "internal/abi.NoEscape", "internal/bytealg.MakeNoZero"], unfollowed := true, recurses := true, named := ["unicode/utf8.first", "unicode/utf8.acceptRanges", "internal/bytealg.MaxLen"], apart := false, laid := [("unicode/utf8.acceptRanges", laid_unicode_utf8_acceptRanges), ("unicode/utf8.first", laid_unicode_utf8_first)], narrowed := true }
def RingReadsUptoSaid : Prop := ringReadsUptoRow.holds Tryz.pinned (OpenSpec.upto ringReadsSpec)

/-- 'depositorylaw20.RingChecks', WHERE WHAT IT READS IS OF BULK AT MOST 1048576: true; the input reads as it did. -/
def ringChecksUptoRow : OpenClaim := { program := "ytmlilplbdpjfcaagreatdoor", sum := "5434e42f57fdc85bfea9750fb84c7995ebcd19f0df8288e425ae0a85aa3fed5a", func := "depository/depositorylaw20.RingChecks", spec := "ringChecks", inPlace := ["internal/bytealg.IndexByteString", "internal/bytealg.IndexString", "internal/abi.NoEscape", "internal/bytealg.MakeNoZero"], unfollowed := true, recurses := true, named := ["unicode/utf8.first", "unicode/utf8.acceptRanges", "internal/bytealg.MaxLen"], apart := false, laid := [("unicode/utf8.acceptRanges", laid_unicode_utf8_acceptRanges), ("unicode/utf8.first", laid_unicode_utf8_first)], narrowed := true }
def RingChecksUptoSaid : Prop := ringChecksUptoRow.holds Tryz.pinned (OpenSpec.upto ringChecksSpec)

/-- 'depositorylaw20.RingAppends', WHERE WHAT IT READS IS OF BULK AT MOST 1048576: true; the input reads as it did. -/
def ringAppendsUptoRow : OpenClaim := { program := "ytmlilplbdpjfcaagreatdoor", sum := "5434e42f57fdc85bfea9750fb84c7995ebcd19f0df8288e425ae0a85aa3fed5a", func := "depository/depositorylaw20.RingAppends", spec := "ringAppends", inPlace := ["internal/bytealg.IndexByteString", "internal/bytealg.IndexString", "internal/abi.NoEscape", "internal/bytealg.MakeNoZero"], unfollowed := true, recurses := true, named := ["unicode/utf8.first", "unicode/utf8.acceptRanges", "internal/bytealg.MaxLen"], apart := false, laid := [("unicode/utf8.acceptRanges", laid_unicode_utf8_acceptRanges), ("unicode/utf8.first", laid_unicode_utf8_first)], narrowed := true }
def RingAppendsUptoSaid : Prop := ringAppendsUptoRow.holds Tryz.pinned (OpenSpec.upto ringAppendsSpec)

/-- 'depositorylaw20.RingAreas', WHERE WHAT IT READS IS OF BULK AT MOST 1048576: true; the input reads as it did. -/
def ringAreasUptoRow : OpenClaim := { program := "ytmlilplbdpjfcaagreatdoor", sum := "5434e42f57fdc85bfea9750fb84c7995ebcd19f0df8288e425ae0a85aa3fed5a", func := "depository/depositorylaw20.RingAreas", spec := "ringAreas", inPlace := ["internal/bytealg.IndexByteString", "internal/bytealg.IndexString", "internal/abi.NoEscape", "internal/bytealg.MakeNoZero"], unfollowed := true, recurses := true, named := ["unicode/utf8.first", "unicode/utf8.acceptRanges", "internal/bytealg.MaxLen"], apart := false, laid := [("unicode/utf8.acceptRanges", laid_unicode_utf8_acceptRanges), ("unicode/utf8.first", laid_unicode_utf8_first)], narrowed := true }
def RingAreasUptoSaid : Prop := ringAreasUptoRow.holds Tryz.pinned (OpenSpec.upto ringAreasSpec)

/-- 'depositorylaw20.RingWrites', WHERE WHAT IT READS IS OF BULK AT MOST 1048576: true; the input reads as it did. -/
def ringWritesUptoRow : OpenClaim := { program := "ytmlilplbdpjfcaagreatdoor", sum := "5434e42f57fdc85bfea9750fb84c7995ebcd19f0df8288e425ae0a85aa3fed5a", func := "depository/depositorylaw20.RingWrites", spec := "ringWrites", inPlace := ["internal/bytealg.IndexByteString", "internal/bytealg.IndexString", "internal/abi.NoEscape", "internal/bytealg.MakeNoZero"], unfollowed := true, recurses := true, named := ["unicode/utf8.first", "unicode/utf8.acceptRanges", "internal/bytealg.MaxLen"], apart := false, laid := [("unicode/utf8.acceptRanges", laid_unicode_utf8_acceptRanges), ("unicode/utf8.first", laid_unicode_utf8_first)], narrowed := true }
def RingWritesUptoSaid : Prop := ringWritesUptoRow.holds Tryz.pinned (OpenSpec.upto ringWritesSpec)

/-- 'depositorylaw20.RingFails', WHERE WHAT IT READS IS OF BULK AT MOST 1048576: true; the input reads as it did. -/
def ringFailsUptoRow : OpenClaim := { program := "ytmlilplbdpjfcaagreatdoor", sum := "5434e42f57fdc85bfea9750fb84c7995ebcd19f0df8288e425ae0a85aa3fed5a", func := "depository/depositorylaw20.RingFails", spec := "ringFails", inPlace := ["internal/bytealg.IndexByteString", "internal/bytealg.IndexString", "internal/abi.NoEscape", "internal/bytealg.MakeNoZero"], unfollowed := true, recurses := true, named := ["unicode/utf8.first", "unicode/utf8.acceptRanges", "internal/bytealg.MaxLen"], apart := false, laid := [("unicode/utf8.acceptRanges", laid_unicode_utf8_acceptRanges), ("unicode/utf8.first", laid_unicode_utf8_first)], narrowed := true }
def RingFailsUptoSaid : Prop := ringFailsUptoRow.holds Tryz.pinned (OpenSpec.upto ringFailsSpec)

/-- 'depositorylaw20.RingPages', WHERE WHAT IT READS IS OF BULK AT MOST 1048576: true; the input reads as it did. -/
def ringPagesUptoRow : OpenClaim := { program := "ytmlilplbdpjfcaagreatdoor", sum := "5434e42f57fdc85bfea9750fb84c7995ebcd19f0df8288e425ae0a85aa3fed5a", func := "depository/depositorylaw20.RingPages", spec := "ringPages", inPlace := ["internal/bytealg.IndexByteString", "internal/bytealg.IndexString", "internal/abi.NoEscape", "internal/bytealg.MakeNoZero"], unfollowed := true, recurses := true, named := ["unicode/utf8.first", "unicode/utf8.acceptRanges", "internal/bytealg.MaxLen"], apart := false, laid := [("unicode/utf8.acceptRanges", laid_unicode_utf8_acceptRanges), ("unicode/utf8.first", laid_unicode_utf8_first)], narrowed := true }
def RingPagesUptoSaid : Prop := ringPagesUptoRow.holds Tryz.pinned (OpenSpec.upto ringPagesSpec)

end Rows
end Go.Proofs.YtmlilplbdpjfcaaGreatDoor
