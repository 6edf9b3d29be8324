/-
  No cell of these rows narrows 'for every input' (looked for: loops, veiled, ifaces, maps, wideKeys, modest, calm, conditions, laid).
  DERIVED. THE GIVEN ROWS OF THIS SEAT. 7 by the template 'for every input the law returns true; each argument reads behind the call as it read before'; 0 by the template 'total and deterministic' (their statements: YtiomfkgbaemmkaaTotals.lean).
  GIVEN WITH THE SEED: the statements are not yours to turn. If you find one false, say at which input.
  Laid BY PROGRAM, IN A SANDBOX (cutbox-rows.mjs): the forced cells as the released guide's own fill.sh prints them over the translation 2bb1b536bee473a6… (all of the seat's roots in one cut). By AI agents, Wed Nov 11 2026. No macro, syntax, notation, axiom, sorry.
-/
import Derived.Test.YtiomfkgbaemmkaaChecked
import GoSem.Claim
import GoSem.ClaimJoined
import GoSem.ClaimMapViews
import Derived.JoinedTies
import Derived.KernelRfl
namespace Go.Proofs.Ytiomfkgbaemmkaa
/- THE CELL 'sum', in the pinned program and in every row, IS THE sha256 OF THE DUMP (.gsa) THAT YtiomfkgbaemmkaaProg.lean LOADS. Nothing in Lean hashes anything: it is a label: what it is worth is what the hold of that sum in a sandbox is worth. -/
noncomputable def Try.pinned : Pinned := { name := "ytiomfkgbaemmkaa", sum := "2bb1b536bee473a6248d4191a66957fefdb9397e225f6d199384765927374073", checked := Try.checked }
namespace Rows
def none {H : Type} : Left H := { results := [], args := [] }

/-- 'depositorylaw01.BytesSums': WHATEVER THE INPUT: true; the input reads as it did. -/
def bytesSumsSpec : ChangeSpec := { name := "bytesSums", fn := fun _ => fun
  | [d1, d2] => { results := [.lit (.bool true)], args := [d1, d2] }
  | _ => none }
def bytesSumsRow : OpenClaim := { program := "ytiomfkgbaemmkaa", sum := "2bb1b536bee473a6248d4191a66957fefdb9397e225f6d199384765927374073", func := "depository/depositorylaw01.BytesSums", spec := "bytesSums", inPlace := ["internal/abi.NoEscape", "internal/bytealg.MakeNoZero"], unfollowed := true, recurses := true, apart := false }
def BytesSumsSaid : Prop := bytesSumsRow.holds Try.pinned (OpenSpec.ofChange bytesSumsSpec)

/-- ITS FALSE NEIGHBOUR: 'it returns false'. Refute it at one input. -/
def bytesSumsWrong : ChangeSpec := { name := "bytesSums", fn := fun _ => fun
  | [d1, d2] => { results := [.lit (.bool false)], args := [d1, d2] }
  | _ => none }
def BytesSumsWrongFalsely : Prop := bytesSumsRow.holds Try.pinned (OpenSpec.ofChange bytesSumsWrong)

/-- 'depositorylaw01.BytesDiffer': WHATEVER THE INPUT: true; the input reads as it did. -/
def bytesDifferSpec : ChangeSpec := { name := "bytesDiffer", fn := fun _ => fun
  | [d1, d2, d3] => { results := [.lit (.bool true)], args := [d1, d2, d3] }
  | _ => none }
def bytesDifferRow : OpenClaim := { program := "ytiomfkgbaemmkaa", sum := "2bb1b536bee473a6248d4191a66957fefdb9397e225f6d199384765927374073", func := "depository/depositorylaw01.BytesDiffer", spec := "bytesDiffer", inPlace := ["internal/abi.NoEscape", "internal/bytealg.MakeNoZero"], unfollowed := true, recurses := true, apart := false }
def BytesDifferSaid : Prop := bytesDifferRow.holds Try.pinned (OpenSpec.ofChange bytesDifferSpec)

/-- ITS FALSE NEIGHBOUR: 'it returns false'. Refute it at one input. -/
def bytesDifferWrong : ChangeSpec := { name := "bytesDiffer", fn := fun _ => fun
  | [d1, d2, d3] => { results := [.lit (.bool false)], args := [d1, d2, d3] }
  | _ => none }
def BytesDifferWrongFalsely : Prop := bytesDifferRow.holds Try.pinned (OpenSpec.ofChange bytesDifferWrong)

/-- 'depositorylaw01.BytesLayouts': WHATEVER THE INPUT: true; the input reads as it did. -/
def bytesLayoutsSpec : ChangeSpec := { name := "bytesLayouts", fn := fun _ => fun
  | [d] => { results := [.lit (.bool true)], args := [d] }
  | _ => none }
def bytesLayoutsRow : OpenClaim := { program := "ytiomfkgbaemmkaa", sum := "2bb1b536bee473a6248d4191a66957fefdb9397e225f6d199384765927374073", func := "depository/depositorylaw01.BytesLayouts", spec := "bytesLayouts", inPlace := ["internal/abi.NoEscape", "internal/bytealg.MakeNoZero"], unfollowed := true, recurses := true, apart := false }
def BytesLayoutsSaid : Prop := bytesLayoutsRow.holds Try.pinned (OpenSpec.ofChange bytesLayoutsSpec)

/-- ITS FALSE NEIGHBOUR: 'it returns false'. Refute it at one input. -/
def bytesLayoutsWrong : ChangeSpec := { name := "bytesLayouts", fn := fun _ => fun
  | [d] => { results := [.lit (.bool false)], args := [d] }
  | _ => none }
def BytesLayoutsWrongFalsely : Prop := bytesLayoutsRow.holds Try.pinned (OpenSpec.ofChange bytesLayoutsWrong)

/-- 'depositorylaw01.BytesStrings': WHATEVER THE INPUT: true; the input reads as it did. -/
def bytesStringsSpec : ChangeSpec := { name := "bytesStrings", fn := fun _ => fun
  | [d1, d2, d3] => { results := [.lit (.bool true)], args := [d1, d2, d3] }
  | _ => none }
def bytesStringsRow : OpenClaim := { program := "ytiomfkgbaemmkaa", sum := "2bb1b536bee473a6248d4191a66957fefdb9397e225f6d199384765927374073", func := "depository/depositorylaw01.BytesStrings", spec := "bytesStrings", inPlace := ["internal/abi.NoEscape", "internal/bytealg.MakeNoZero"], unfollowed := true, recurses := true, apart := false }
def BytesStringsSaid : Prop := bytesStringsRow.holds Try.pinned (OpenSpec.ofChange bytesStringsSpec)

/-- ITS FALSE NEIGHBOUR: 'it returns false'. Refute it at one input. -/
def bytesStringsWrong : ChangeSpec := { name := "bytesStrings", fn := fun _ => fun
  | [d1, d2, d3] => { results := [.lit (.bool false)], args := [d1, d2, d3] }
  | _ => none }
def BytesStringsWrongFalsely : Prop := bytesStringsRow.holds Try.pinned (OpenSpec.ofChange bytesStringsWrong)

/-- 'depositorylaw01.BytesNumbers': WHATEVER THE INPUT: true; the input reads as it did. -/
def bytesNumbersSpec : ChangeSpec := { name := "bytesNumbers", fn := fun _ => fun
  | [d1, d2, d3] => { results := [.lit (.bool true)], args := [d1, d2, d3] }
  | _ => none }
def bytesNumbersRow : OpenClaim := { program := "ytiomfkgbaemmkaa", sum := "2bb1b536bee473a6248d4191a66957fefdb9397e225f6d199384765927374073", func := "depository/depositorylaw01.BytesNumbers", spec := "bytesNumbers", inPlace := ["internal/abi.NoEscape", "internal/bytealg.MakeNoZero"], unfollowed := true, recurses := true, apart := false }
def BytesNumbersSaid : Prop := bytesNumbersRow.holds Try.pinned (OpenSpec.ofChange bytesNumbersSpec)

/-- ITS FALSE NEIGHBOUR: 'it returns false'. Refute it at one input. -/
def bytesNumbersWrong : ChangeSpec := { name := "bytesNumbers", fn := fun _ => fun
  | [d1, d2, d3] => { results := [.lit (.bool false)], args := [d1, d2, d3] }
  | _ => none }
def BytesNumbersWrongFalsely : Prop := bytesNumbersRow.holds Try.pinned (OpenSpec.ofChange bytesNumbersWrong)

/-- 'depositorylaw01.BytesSigned': WHATEVER THE INPUT: true; the input reads as it did. -/
def bytesSignedSpec : ChangeSpec := { name := "bytesSigned", fn := fun _ => fun
  | [d1, d2, d3] => { results := [.lit (.bool true)], args := [d1, d2, d3] }
  | _ => none }
def bytesSignedRow : OpenClaim := { program := "ytiomfkgbaemmkaa", sum := "2bb1b536bee473a6248d4191a66957fefdb9397e225f6d199384765927374073", func := "depository/depositorylaw01.BytesSigned", spec := "bytesSigned", inPlace := ["internal/abi.NoEscape", "internal/bytealg.MakeNoZero"], unfollowed := true, recurses := true, apart := false }
def BytesSignedSaid : Prop := bytesSignedRow.holds Try.pinned (OpenSpec.ofChange bytesSignedSpec)

/-- ITS FALSE NEIGHBOUR: 'it returns false'. Refute it at one input. -/
def bytesSignedWrong : ChangeSpec := { name := "bytesSigned", fn := fun _ => fun
  | [d1, d2, d3] => { results := [.lit (.bool false)], args := [d1, d2, d3] }
  | _ => none }
def BytesSignedWrongFalsely : Prop := bytesSignedRow.holds Try.pinned (OpenSpec.ofChange bytesSignedWrong)

/-- 'depositorylaw01.BytesDumps': WHATEVER THE INPUT: true; the input reads as it did. -/
def bytesDumpsSpec : ChangeSpec := { name := "bytesDumps", fn := fun _ => fun
  | [d1, d2] => { results := [.lit (.bool true)], args := [d1, d2] }
  | _ => none }
def bytesDumpsRow : OpenClaim := { program := "ytiomfkgbaemmkaa", sum := "2bb1b536bee473a6248d4191a66957fefdb9397e225f6d199384765927374073", func := "depository/depositorylaw01.BytesDumps", spec := "bytesDumps", inPlace := ["internal/abi.NoEscape", "internal/bytealg.MakeNoZero", "internal/bytealg.IndexByteString", "internal/bytealg.IndexString"], unfollowed := true, recurses := true, named := ["internal/bytealg.MaxLen"], apart := false }
def BytesDumpsSaid : Prop := bytesDumpsRow.holds Try.pinned (OpenSpec.ofChange bytesDumpsSpec)

/-- ITS FALSE NEIGHBOUR: 'it returns false'. Refute it at one input. -/
def bytesDumpsWrong : ChangeSpec := { name := "bytesDumps", fn := fun _ => fun
  | [d1, d2] => { results := [.lit (.bool false)], args := [d1, d2] }
  | _ => none }
def BytesDumpsWrongFalsely : Prop := bytesDumpsRow.holds Try.pinned (OpenSpec.ofChange bytesDumpsWrong)

/- THE SECOND FORM. 'bulk': how many values and letters a reading holds, each counted each time it is reached (what is shared counts as often as it is met; a slice's spare places count too). A statement '..UptoSaid' is the law's where the arguments, and the package variables that the reading takes, are together of bulk at most 1048576: NARROWER than '..Said'. Prove '..Said' where nothing that the law and all that it calls make is longer than what came in: it says more and counts as full. Else prove '..UptoSaid'. A law counts once. -/
mutual
def uptoBulk {H : Type} : DataW H → Nat
  | .lit (.string bytes) => bytes.length + 1
  | .lit _ => 1
  | .nil => 1
  | .ptr d => uptoBulk d + 1
  | .slice elems spare => uptoBulkAll elems + uptoBulkAll spare + 1
  | .agg parts => uptoBulkAll parts + 1
  | .iface _ d => uptoBulk d + 1
  | .map entries => uptoBulkEntries entries + 1
  | .held _ => 1
def uptoBulkAll {H : Type} : List (DataW H) → Nat
  | [] => 0
  | d :: r => uptoBulk d + uptoBulkAll r
def uptoBulkEntries {H : Type} : List (Lit × DataW H) → Nat
  | [] => 0
  | x :: r => uptoBulkEntry x + uptoBulkEntries r
def uptoBulkEntry {H : Type} : Lit × DataW H → Nat
  | (.string bytes, d) => bytes.length + uptoBulk d + 1
  | (_, d) => uptoBulk d + 1
 end
def uptoSmall : (H : Type) → List (DataW H) → Bool := fun _ ds => decide (uptoBulkAll ds ≤ 1048576)
def OpenSpec.upto (s : _root_.Go.ChangeSpec) : _root_.Go.OpenSpec := { _root_.Go.OpenSpec.ofChange s with cond := some uptoSmall }

/-- 'depositorylaw01.BytesSums', WHERE WHAT IT READS IS OF BULK AT MOST 1048576: true; the input reads as it did. -/
def bytesSumsUptoRow : OpenClaim := { program := "ytiomfkgbaemmkaa", sum := "2bb1b536bee473a6248d4191a66957fefdb9397e225f6d199384765927374073", func := "depository/depositorylaw01.BytesSums", spec := "bytesSums", inPlace := ["internal/abi.NoEscape", "internal/bytealg.MakeNoZero"], unfollowed := true, recurses := true, apart := false, narrowed := true }
def BytesSumsUptoSaid : Prop := bytesSumsUptoRow.holds Try.pinned (OpenSpec.upto bytesSumsSpec)

/-- 'depositorylaw01.BytesDiffer', WHERE WHAT IT READS IS OF BULK AT MOST 1048576: true; the input reads as it did. -/
def bytesDifferUptoRow : OpenClaim := { program := "ytiomfkgbaemmkaa", sum := "2bb1b536bee473a6248d4191a66957fefdb9397e225f6d199384765927374073", func := "depository/depositorylaw01.BytesDiffer", spec := "bytesDiffer", inPlace := ["internal/abi.NoEscape", "internal/bytealg.MakeNoZero"], unfollowed := true, recurses := true, apart := false, narrowed := true }
def BytesDifferUptoSaid : Prop := bytesDifferUptoRow.holds Try.pinned (OpenSpec.upto bytesDifferSpec)

/-- 'depositorylaw01.BytesLayouts', WHERE WHAT IT READS IS OF BULK AT MOST 1048576: true; the input reads as it did. -/
def bytesLayoutsUptoRow : OpenClaim := { program := "ytiomfkgbaemmkaa", sum := "2bb1b536bee473a6248d4191a66957fefdb9397e225f6d199384765927374073", func := "depository/depositorylaw01.BytesLayouts", spec := "bytesLayouts", inPlace := ["internal/abi.NoEscape", "internal/bytealg.MakeNoZero"], unfollowed := true, recurses := true, apart := false, narrowed := true }
def BytesLayoutsUptoSaid : Prop := bytesLayoutsUptoRow.holds Try.pinned (OpenSpec.upto bytesLayoutsSpec)

/-- 'depositorylaw01.BytesStrings', WHERE WHAT IT READS IS OF BULK AT MOST 1048576: true; the input reads as it did. -/
def bytesStringsUptoRow : OpenClaim := { program := "ytiomfkgbaemmkaa", sum := "2bb1b536bee473a6248d4191a66957fefdb9397e225f6d199384765927374073", func := "depository/depositorylaw01.BytesStrings", spec := "bytesStrings", inPlace := ["internal/abi.NoEscape", "internal/bytealg.MakeNoZero"], unfollowed := true, recurses := true, apart := false, narrowed := true }
def BytesStringsUptoSaid : Prop := bytesStringsUptoRow.holds Try.pinned (OpenSpec.upto bytesStringsSpec)

/-- 'depositorylaw01.BytesNumbers', WHERE WHAT IT READS IS OF BULK AT MOST 1048576: true; the input reads as it did. -/
def bytesNumbersUptoRow : OpenClaim := { program := "ytiomfkgbaemmkaa", sum := "2bb1b536bee473a6248d4191a66957fefdb9397e225f6d199384765927374073", func := "depository/depositorylaw01.BytesNumbers", spec := "bytesNumbers", inPlace := ["internal/abi.NoEscape", "internal/bytealg.MakeNoZero"], unfollowed := true, recurses := true, apart := false, narrowed := true }
def BytesNumbersUptoSaid : Prop := bytesNumbersUptoRow.holds Try.pinned (OpenSpec.upto bytesNumbersSpec)

/-- 'depositorylaw01.BytesSigned', WHERE WHAT IT READS IS OF BULK AT MOST 1048576: true; the input reads as it did. -/
def bytesSignedUptoRow : OpenClaim := { program := "ytiomfkgbaemmkaa", sum := "2bb1b536bee473a6248d4191a66957fefdb9397e225f6d199384765927374073", func := "depository/depositorylaw01.BytesSigned", spec := "bytesSigned", inPlace := ["internal/abi.NoEscape", "internal/bytealg.MakeNoZero"], unfollowed := true, recurses := true, apart := false, narrowed := true }
def BytesSignedUptoSaid : Prop := bytesSignedUptoRow.holds Try.pinned (OpenSpec.upto bytesSignedSpec)

/-- 'depositorylaw01.BytesDumps', WHERE WHAT IT READS IS OF BULK AT MOST 1048576: true; the input reads as it did. -/
def bytesDumpsUptoRow : OpenClaim := { program := "ytiomfkgbaemmkaa", sum := "2bb1b536bee473a6248d4191a66957fefdb9397e225f6d199384765927374073", func := "depository/depositorylaw01.BytesDumps", spec := "bytesDumps", inPlace := ["internal/abi.NoEscape", "internal/bytealg.MakeNoZero", "internal/bytealg.IndexByteString", "internal/bytealg.IndexString"], unfollowed := true, recurses := true, named := ["internal/bytealg.MaxLen"], apart := false, narrowed := true }
def BytesDumpsUptoSaid : Prop := bytesDumpsUptoRow.holds Try.pinned (OpenSpec.upto bytesDumpsSpec)

end Rows
end Go.Proofs.Ytiomfkgbaemmkaa
