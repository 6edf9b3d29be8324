/-
  NARROWER THAN 'FOR EVERY INPUT', by the rows' own cells (each row's printed sentence says how): AccessDecides: laid · AccessAccepts: laid · AccessDiffers: laid · AccessDeletes: laid · AccessSimplifies: laid · AccessOwns: laid.
  DERIVED. THE GIVEN ROWS OF THIS SEAT. 6 by the template 'for every input the law returns true; each argument reads behind the call as it read before'; 0 by the template 'total and deterministic' (their statements: YtanicpgmbhfipaaGreatDoorTotals.lean).
  GIVEN WITH THE SEED: the statements are not yours to turn. If you find one false, say at which input.
  Laid BY PROGRAM, IN A SANDBOX (cutbox-rows.mjs): the forced cells as the released guide's own fill.sh prints them over the translation a788ac99eee0dd9e… (all of the seat's roots in one cut). By AI agents, Wed Nov 11 2026. No macro, syntax, notation, axiom, sorry.
-/
import Derived.Test.YtanicpgmbhfipaaGreatDoorChecked
import GoSem.Claim
import GoSem.ClaimJoined
import GoSem.ClaimMapViews
import Derived.JoinedTies
import Derived.KernelRfl
namespace Go.Proofs.YtanicpgmbhfipaaGreatDoor
/- THE CELL 'sum', in the pinned program and in every row, IS THE sha256 OF THE DUMP (.gsa) THAT YtanicpgmbhfipaaGreatDoorProg.lean LOADS. Nothing in Lean hashes anything: it is a label: what it is worth is what the hold of that sum in a sandbox is worth. -/
noncomputable def Tryz.pinned : Pinned := { name := "ytanicpgmbhfipaagreatdoor", sum := "a788ac99eee0dd9e7ad9fc190b83bb23a98d74998a139de1eba773d093bbc3a6", checked := Tryz.checked }
namespace Rows
def none {H : Type} : Left H := { results := [], args := [] }

/- WHAT THE LISTED PACKAGE-LEVEL VARIABLES READ AS WHEN THE CALL BEGINS. Each datum BY PROGRAM (the guide's laid-datum.mjs) off the statement by which the dump's own 'gosem.cut.vars' lays the variable. In a bare row this is a premise. The card (YtanicpgmbhfipaaGreatDoorCards.lean) ties it to the program's text. -/
def laid_depository_access_grants {H : Type} : DataW H := .agg [.agg [.lit (.int .i64 1), .lit (.int .i64 73)], .agg [.lit (.int .i64 2), .lit (.int .i64 438)], .agg [.lit (.int .i64 8), .lit (.int .i64 256)]]

/-- 'depositorylaw17.AccessDecides': WHATEVER THE INPUT: true; the input reads as it did. -/
def accessDecidesSpec : ChangeSpec := { name := "accessDecides", fn := fun _ => fun
  | [d1, d2, d3] => { results := [.lit (.bool true)], args := [d1, d2, d3] }
  | _ => none }
def accessDecidesRow : OpenClaim := { program := "ytanicpgmbhfipaagreatdoor", sum := "a788ac99eee0dd9e7ad9fc190b83bb23a98d74998a139de1eba773d093bbc3a6", func := "depository/depositorylaw17.AccessDecides", spec := "accessDecides", unfollowed := true, recurses := true, named := ["depository/access.grants"], plainKeys := false, apart := false, laid := [("depository/access.grants", laid_depository_access_grants)] }
def AccessDecidesSaid : Prop := accessDecidesRow.holds Tryz.pinned (OpenSpec.ofChange accessDecidesSpec)

/-- ITS FALSE NEIGHBOUR: 'it returns false'. Refute it at one input. -/
def accessDecidesWrong : ChangeSpec := { name := "accessDecides", fn := fun _ => fun
  | [d1, d2, d3] => { results := [.lit (.bool false)], args := [d1, d2, d3] }
  | _ => none }
def AccessDecidesWrongFalsely : Prop := accessDecidesRow.holds Tryz.pinned (OpenSpec.ofChange accessDecidesWrong)

/-- 'depositorylaw17.AccessAccepts': WHATEVER THE INPUT: true; the input reads as it did. -/
def accessAcceptsSpec : ChangeSpec := { name := "accessAccepts", fn := fun _ => fun
  | [d1, d2, d3] => { results := [.lit (.bool true)], args := [d1, d2, d3] }
  | _ => none }
def accessAcceptsRow : OpenClaim := { program := "ytanicpgmbhfipaagreatdoor", sum := "a788ac99eee0dd9e7ad9fc190b83bb23a98d74998a139de1eba773d093bbc3a6", func := "depository/depositorylaw17.AccessAccepts", spec := "accessAccepts", unfollowed := true, recurses := true, named := ["depository/access.grants"], plainKeys := false, apart := false, laid := [("depository/access.grants", laid_depository_access_grants)] }
def AccessAcceptsSaid : Prop := accessAcceptsRow.holds Tryz.pinned (OpenSpec.ofChange accessAcceptsSpec)

/-- ITS FALSE NEIGHBOUR: 'it returns false'. Refute it at one input. -/
def accessAcceptsWrong : ChangeSpec := { name := "accessAccepts", fn := fun _ => fun
  | [d1, d2, d3] => { results := [.lit (.bool false)], args := [d1, d2, d3] }
  | _ => none }
def AccessAcceptsWrongFalsely : Prop := accessAcceptsRow.holds Tryz.pinned (OpenSpec.ofChange accessAcceptsWrong)

/-- 'depositorylaw17.AccessDiffers': WHATEVER THE INPUT: true; the input reads as it did. -/
def accessDiffersSpec : ChangeSpec := { name := "accessDiffers", fn := fun _ => fun
  | [d1, d2, d3] => { results := [.lit (.bool true)], args := [d1, d2, d3] }
  | _ => none }
def accessDiffersRow : OpenClaim := { program := "ytanicpgmbhfipaagreatdoor", sum := "a788ac99eee0dd9e7ad9fc190b83bb23a98d74998a139de1eba773d093bbc3a6", func := "depository/depositorylaw17.AccessDiffers", spec := "accessDiffers", unfollowed := true, recurses := true, named := ["depository/access.grants"], plainKeys := false, apart := false, laid := [("depository/access.grants", laid_depository_access_grants)] }
def AccessDiffersSaid : Prop := accessDiffersRow.holds Tryz.pinned (OpenSpec.ofChange accessDiffersSpec)

/-- ITS FALSE NEIGHBOUR: 'it returns false'. Refute it at one input. -/
def accessDiffersWrong : ChangeSpec := { name := "accessDiffers", fn := fun _ => fun
  | [d1, d2, d3] => { results := [.lit (.bool false)], args := [d1, d2, d3] }
  | _ => none }
def AccessDiffersWrongFalsely : Prop := accessDiffersRow.holds Tryz.pinned (OpenSpec.ofChange accessDiffersWrong)

/-- 'depositorylaw17.AccessDeletes': WHATEVER THE INPUT: true; the input reads as it did. -/
def accessDeletesSpec : ChangeSpec := { name := "accessDeletes", fn := fun _ => fun
  | [d1, d2, d3] => { results := [.lit (.bool true)], args := [d1, d2, d3] }
  | _ => none }
def accessDeletesRow : OpenClaim := { program := "ytanicpgmbhfipaagreatdoor", sum := "a788ac99eee0dd9e7ad9fc190b83bb23a98d74998a139de1eba773d093bbc3a6", func := "depository/depositorylaw17.AccessDeletes", spec := "accessDeletes", unfollowed := true, recurses := true, named := ["depository/access.grants"], plainKeys := false, apart := false, laid := [("depository/access.grants", laid_depository_access_grants)] }
def AccessDeletesSaid : Prop := accessDeletesRow.holds Tryz.pinned (OpenSpec.ofChange accessDeletesSpec)

/-- ITS FALSE NEIGHBOUR: 'it returns false'. Refute it at one input. -/
def accessDeletesWrong : ChangeSpec := { name := "accessDeletes", fn := fun _ => fun
  | [d1, d2, d3] => { results := [.lit (.bool false)], args := [d1, d2, d3] }
  | _ => none }
def AccessDeletesWrongFalsely : Prop := accessDeletesRow.holds Tryz.pinned (OpenSpec.ofChange accessDeletesWrong)

/-- 'depositorylaw17.AccessSimplifies': WHATEVER THE INPUT: true; the input reads as it did. -/
def accessSimplifiesSpec : ChangeSpec := { name := "accessSimplifies", fn := fun _ => fun
  | [d1, d2, d3] => { results := [.lit (.bool true)], args := [d1, d2, d3] }
  | _ => none }
def accessSimplifiesRow : OpenClaim := { program := "ytanicpgmbhfipaagreatdoor", sum := "a788ac99eee0dd9e7ad9fc190b83bb23a98d74998a139de1eba773d093bbc3a6", func := "depository/depositorylaw17.AccessSimplifies", spec := "accessSimplifies", unfollowed := true, recurses := true, named := ["depository/access.grants"], plainKeys := false, apart := false, laid := [("depository/access.grants", laid_depository_access_grants)] }
def AccessSimplifiesSaid : Prop := accessSimplifiesRow.holds Tryz.pinned (OpenSpec.ofChange accessSimplifiesSpec)

/-- ITS FALSE NEIGHBOUR: 'it returns false'. Refute it at one input. -/
def accessSimplifiesWrong : ChangeSpec := { name := "accessSimplifies", fn := fun _ => fun
  | [d1, d2, d3] => { results := [.lit (.bool false)], args := [d1, d2, d3] }
  | _ => none }
def AccessSimplifiesWrongFalsely : Prop := accessSimplifiesRow.holds Tryz.pinned (OpenSpec.ofChange accessSimplifiesWrong)

/-- 'depositorylaw17.AccessOwns': WHATEVER THE INPUT: true; the input reads as it did. -/
def accessOwnsSpec : ChangeSpec := { name := "accessOwns", fn := fun _ => fun
  | [d1, d2, d3] => { results := [.lit (.bool true)], args := [d1, d2, d3] }
  | _ => none }
def accessOwnsRow : OpenClaim := { program := "ytanicpgmbhfipaagreatdoor", sum := "a788ac99eee0dd9e7ad9fc190b83bb23a98d74998a139de1eba773d093bbc3a6", func := "depository/depositorylaw17.AccessOwns", spec := "accessOwns", unfollowed := true, recurses := true, named := ["depository/access.grants"], plainKeys := false, apart := false, laid := [("depository/access.grants", laid_depository_access_grants)] }
def AccessOwnsSaid : Prop := accessOwnsRow.holds Tryz.pinned (OpenSpec.ofChange accessOwnsSpec)

/-- ITS FALSE NEIGHBOUR: 'it returns false'. Refute it at one input. -/
def accessOwnsWrong : ChangeSpec := { name := "accessOwns", fn := fun _ => fun
  | [d1, d2, d3] => { results := [.lit (.bool false)], args := [d1, d2, d3] }
  | _ => none }
def AccessOwnsWrongFalsely : Prop := accessOwnsRow.holds Tryz.pinned (OpenSpec.ofChange accessOwnsWrong)

/- THE SECOND FORM. 'bulk': how many values and letters a reading holds, each counted each time it is reached (what is shared counts as often as it is met; a slice's spare places count too). A statement '..UptoSaid' is the law's where the arguments, and the package variables that the reading takes, are together of bulk at most 1048576: NARROWER than '..Said'. Prove '..Said' where nothing that the law and all that it calls make is longer than what came in: it says more and counts as full. Else prove '..UptoSaid'. A law counts once. -/
mutual
def uptoBulk {H : Type} : DataW H → Nat
  | .lit (.string bytes) => bytes.length + 1
  | .lit _ => 1
  | .nil => 1
  | .ptr d => uptoBulk d + 1
  | .slice elems spare => uptoBulkAll elems + uptoBulkAll spare + 1
  | .agg parts => uptoBulkAll parts + 1
  | .iface _ d => uptoBulk d + 1
  | .map entries => uptoBulkEntries entries + 1
  | .held _ => 1
def uptoBulkAll {H : Type} : List (DataW H) → Nat
  | [] => 0
  | d :: r => uptoBulk d + uptoBulkAll r
def uptoBulkEntries {H : Type} : List (Lit × DataW H) → Nat
  | [] => 0
  | x :: r => uptoBulkEntry x + uptoBulkEntries r
def uptoBulkEntry {H : Type} : Lit × DataW H → Nat
  | (.string bytes, d) => bytes.length + uptoBulk d + 1
  | (_, d) => uptoBulk d + 1
 end
def uptoSmall : (H : Type) → List (DataW H) → Bool := fun _ ds => decide (uptoBulkAll ds ≤ 1048576)
def OpenSpec.upto (s : _root_.Go.ChangeSpec) : _root_.Go.OpenSpec := { _root_.Go.OpenSpec.ofChange s with cond := some uptoSmall }

/-- 'depositorylaw17.AccessDecides', WHERE WHAT IT READS IS OF BULK AT MOST 1048576: true; the input reads as it did. -/
def accessDecidesUptoRow : OpenClaim := { program := "ytanicpgmbhfipaagreatdoor", sum := "a788ac99eee0dd9e7ad9fc190b83bb23a98d74998a139de1eba773d093bbc3a6", func := "depository/depositorylaw17.AccessDecides", spec := "accessDecides", unfollowed := true, recurses := true, named := ["depository/access.grants"], plainKeys := false, apart := false, laid := [("depository/access.grants", laid_depository_access_grants)], narrowed := true }
def AccessDecidesUptoSaid : Prop := accessDecidesUptoRow.holds Tryz.pinned (OpenSpec.upto accessDecidesSpec)

/-- 'depositorylaw17.AccessAccepts', WHERE WHAT IT READS IS OF BULK AT MOST 1048576: true; the input reads as it did. -/
def accessAcceptsUptoRow : OpenClaim := { program := "ytanicpgmbhfipaagreatdoor", sum := "a788ac99eee0dd9e7ad9fc190b83bb23a98d74998a139de1eba773d093bbc3a6", func := "depository/depositorylaw17.AccessAccepts", spec := "accessAccepts", unfollowed := true, recurses := true, named := ["depository/access.grants"], plainKeys := false, apart := false, laid := [("depository/access.grants", laid_depository_access_grants)], narrowed := true }
def AccessAcceptsUptoSaid : Prop := accessAcceptsUptoRow.holds Tryz.pinned (OpenSpec.upto accessAcceptsSpec)

/-- 'depositorylaw17.AccessDiffers', WHERE WHAT IT READS IS OF BULK AT MOST 1048576: true; the input reads as it did. -/
def accessDiffersUptoRow : OpenClaim := { program := "ytanicpgmbhfipaagreatdoor", sum := "a788ac99eee0dd9e7ad9fc190b83bb23a98d74998a139de1eba773d093bbc3a6", func := "depository/depositorylaw17.AccessDiffers", spec := "accessDiffers", unfollowed := true, recurses := true, named := ["depository/access.grants"], plainKeys := false, apart := false, laid := [("depository/access.grants", laid_depository_access_grants)], narrowed := true }
def AccessDiffersUptoSaid : Prop := accessDiffersUptoRow.holds Tryz.pinned (OpenSpec.upto accessDiffersSpec)

/-- 'depositorylaw17.AccessDeletes', WHERE WHAT IT READS IS OF BULK AT MOST 1048576: true; the input reads as it did. -/
def accessDeletesUptoRow : OpenClaim := { program := "ytanicpgmbhfipaagreatdoor", sum := "a788ac99eee0dd9e7ad9fc190b83bb23a98d74998a139de1eba773d093bbc3a6", func := "depository/depositorylaw17.AccessDeletes", spec := "accessDeletes", unfollowed := true, recurses := true, named := ["depository/access.grants"], plainKeys := false, apart := false, laid := [("depository/access.grants", laid_depository_access_grants)], narrowed := true }
def AccessDeletesUptoSaid : Prop := accessDeletesUptoRow.holds Tryz.pinned (OpenSpec.upto accessDeletesSpec)

/-- 'depositorylaw17.AccessSimplifies', WHERE WHAT IT READS IS OF BULK AT MOST 1048576: true; the input reads as it did. -/
def accessSimplifiesUptoRow : OpenClaim := { program := "ytanicpgmbhfipaagreatdoor", sum := "a788ac99eee0dd9e7ad9fc190b83bb23a98d74998a139de1eba773d093bbc3a6", func := "depository/depositorylaw17.AccessSimplifies", spec := "accessSimplifies", unfollowed := true, recurses := true, named := ["depository/access.grants"], plainKeys := false, apart := false, laid := [("depository/access.grants", laid_depository_access_grants)], narrowed := true }
def AccessSimplifiesUptoSaid : Prop := accessSimplifiesUptoRow.holds Tryz.pinned (OpenSpec.upto accessSimplifiesSpec)

/-- 'depositorylaw17.AccessOwns', WHERE WHAT IT READS IS OF BULK AT MOST 1048576: true; the input reads as it did. -/
def accessOwnsUptoRow : OpenClaim := { program := "ytanicpgmbhfipaagreatdoor", sum := "a788ac99eee0dd9e7ad9fc190b83bb23a98d74998a139de1eba773d093bbc3a6", func := "depository/depositorylaw17.AccessOwns", spec := "accessOwns", unfollowed := true, recurses := true, named := ["depository/access.grants"], plainKeys := false, apart := false, laid := [("depository/access.grants", laid_depository_access_grants)], narrowed := true }
def AccessOwnsUptoSaid : Prop := accessOwnsUptoRow.holds Tryz.pinned (OpenSpec.upto accessOwnsSpec)

end Rows
end Go.Proofs.YtanicpgmbhfipaaGreatDoor
