/-
  NARROWER THAN 'FOR EVERY INPUT', by the rows' own cells (each row's printed sentence says how): AccessDenies: laid · AccessTokens: laid.
  DERIVED. THE GIVEN ROWS OF THIS SEAT. 2 by the template 'for every input the law returns true; each argument reads behind the call as it read before'; 0 by the template 'total and deterministic' (their statements: YtanicpgmbhfipaaDoorTotals.lean).
  GIVEN WITH THE SEED: the statements are not yours to turn. If you find one false, say at which input.
  Laid BY PROGRAM, IN A SANDBOX (cutbox-rows.mjs): the forced cells as the released guide's own fill.sh prints them over the translation cbf6f8f86ad0f953… (all of the seat's roots in one cut). By AI agents, Wed Nov 11 2026. No macro, syntax, notation, axiom, sorry.
-/
import Derived.Test.YtanicpgmbhfipaaDoorChecked
import GoSem.Claim
import GoSem.ClaimJoined
import GoSem.ClaimMapViews
import Derived.JoinedTies
import Derived.KernelRfl
namespace Go.Proofs.YtanicpgmbhfipaaDoor
/- THE CELL 'sum', in the pinned program and in every row, IS THE sha256 OF THE DUMP (.gsa) THAT YtanicpgmbhfipaaDoorProg.lean LOADS. Nothing in Lean hashes anything: it is a label: what it is worth is what the hold of that sum in a sandbox is worth. -/
noncomputable def Tryd.pinned : Pinned := { name := "ytanicpgmbhfipaadoor", sum := "cbf6f8f86ad0f95322bbd994468da0f8c9042378c5921812052979007456f8d7", checked := Tryd.checked }
namespace Rows
def none {H : Type} : Left H := { results := [], args := [] }

/- WHAT THE LISTED PACKAGE-LEVEL VARIABLES READ AS WHEN THE CALL BEGINS. Each datum BY PROGRAM (the guide's laid-datum.mjs) off the statement by which the dump's own 'gosem.cut.vars' lays the variable. In a bare row this is a premise. The card (YtanicpgmbhfipaaDoorCards.lean) ties it to the program's text. -/
def laid_depository_access_grants {H : Type} : DataW H := .agg [.agg [.lit (.int .i64 1), .lit (.int .i64 73)], .agg [.lit (.int .i64 2), .lit (.int .i64 438)], .agg [.lit (.int .i64 8), .lit (.int .i64 256)]]

/-- 'depositorylaw17.AccessDenies': WHATEVER THE INPUT: true; the input reads as it did. -/
def accessDeniesSpec : ChangeSpec := { name := "accessDenies", fn := fun _ => fun
  | [d1, d2] => { results := [.lit (.bool true)], args := [d1, d2] }
  | _ => none }
def accessDeniesRow : OpenClaim := { program := "ytanicpgmbhfipaadoor", sum := "cbf6f8f86ad0f95322bbd994468da0f8c9042378c5921812052979007456f8d7", func := "depository/depositorylaw17.AccessDenies", spec := "accessDenies", unfollowed := true, recurses := true, named := ["depository/access.grants"], apart := false, laid := [("depository/access.grants", laid_depository_access_grants)] }
def AccessDeniesSaid : Prop := accessDeniesRow.holds Tryd.pinned (OpenSpec.ofChange accessDeniesSpec)

/-- ITS FALSE NEIGHBOUR: 'it returns false'. Refute it at one input. -/
def accessDeniesWrong : ChangeSpec := { name := "accessDenies", fn := fun _ => fun
  | [d1, d2] => { results := [.lit (.bool false)], args := [d1, d2] }
  | _ => none }
def AccessDeniesWrongFalsely : Prop := accessDeniesRow.holds Tryd.pinned (OpenSpec.ofChange accessDeniesWrong)

/-- 'depositorylaw17.AccessTokens': WHATEVER THE INPUT: true; the input reads as it did. -/
def accessTokensSpec : ChangeSpec := { name := "accessTokens", fn := fun _ => fun
  | [d1, d2] => { results := [.lit (.bool true)], args := [d1, d2] }
  | _ => none }
def accessTokensRow : OpenClaim := { program := "ytanicpgmbhfipaadoor", sum := "cbf6f8f86ad0f95322bbd994468da0f8c9042378c5921812052979007456f8d7", func := "depository/depositorylaw17.AccessTokens", spec := "accessTokens", unfollowed := true, recurses := true, named := ["depository/access.grants"], apart := false, laid := [("depository/access.grants", laid_depository_access_grants)] }
def AccessTokensSaid : Prop := accessTokensRow.holds Tryd.pinned (OpenSpec.ofChange accessTokensSpec)

/-- ITS FALSE NEIGHBOUR: 'it returns false'. Refute it at one input. -/
def accessTokensWrong : ChangeSpec := { name := "accessTokens", fn := fun _ => fun
  | [d1, d2] => { results := [.lit (.bool false)], args := [d1, d2] }
  | _ => none }
def AccessTokensWrongFalsely : Prop := accessTokensRow.holds Tryd.pinned (OpenSpec.ofChange accessTokensWrong)

/- THE SECOND FORM. 'bulk': how many values and letters a reading holds, each counted each time it is reached (what is shared counts as often as it is met; a slice's spare places count too). A statement '..UptoSaid' is the law's where the arguments, and the package variables that the reading takes, are together of bulk at most 1048576: NARROWER than '..Said'. Prove '..Said' where nothing that the law and all that it calls make is longer than what came in: it says more and counts as full. Else prove '..UptoSaid'. A law counts once. -/
mutual
def uptoBulk {H : Type} : DataW H → Nat
  | .lit (.string bytes) => bytes.length + 1
  | .lit _ => 1
  | .nil => 1
  | .ptr d => uptoBulk d + 1
  | .slice elems spare => uptoBulkAll elems + uptoBulkAll spare + 1
  | .agg parts => uptoBulkAll parts + 1
  | .iface _ d => uptoBulk d + 1
  | .map entries => uptoBulkEntries entries + 1
  | .held _ => 1
def uptoBulkAll {H : Type} : List (DataW H) → Nat
  | [] => 0
  | d :: r => uptoBulk d + uptoBulkAll r
def uptoBulkEntries {H : Type} : List (Lit × DataW H) → Nat
  | [] => 0
  | x :: r => uptoBulkEntry x + uptoBulkEntries r
def uptoBulkEntry {H : Type} : Lit × DataW H → Nat
  | (.string bytes, d) => bytes.length + uptoBulk d + 1
  | (_, d) => uptoBulk d + 1
 end
def uptoSmall : (H : Type) → List (DataW H) → Bool := fun _ ds => decide (uptoBulkAll ds ≤ 1048576)
def OpenSpec.upto (s : _root_.Go.ChangeSpec) : _root_.Go.OpenSpec := { _root_.Go.OpenSpec.ofChange s with cond := some uptoSmall }

/-- 'depositorylaw17.AccessDenies', WHERE WHAT IT READS IS OF BULK AT MOST 1048576: true; the input reads as it did. -/
def accessDeniesUptoRow : OpenClaim := { program := "ytanicpgmbhfipaadoor", sum := "cbf6f8f86ad0f95322bbd994468da0f8c9042378c5921812052979007456f8d7", func := "depository/depositorylaw17.AccessDenies", spec := "accessDenies", unfollowed := true, recurses := true, named := ["depository/access.grants"], apart := false, laid := [("depository/access.grants", laid_depository_access_grants)], narrowed := true }
def AccessDeniesUptoSaid : Prop := accessDeniesUptoRow.holds Tryd.pinned (OpenSpec.upto accessDeniesSpec)

/-- 'depositorylaw17.AccessTokens', WHERE WHAT IT READS IS OF BULK AT MOST 1048576: true; the input reads as it did. -/
def accessTokensUptoRow : OpenClaim := { program := "ytanicpgmbhfipaadoor", sum := "cbf6f8f86ad0f95322bbd994468da0f8c9042378c5921812052979007456f8d7", func := "depository/depositorylaw17.AccessTokens", spec := "accessTokens", unfollowed := true, recurses := true, named := ["depository/access.grants"], apart := false, laid := [("depository/access.grants", laid_depository_access_grants)], narrowed := true }
def AccessTokensUptoSaid : Prop := accessTokensUptoRow.holds Tryd.pinned (OpenSpec.upto accessTokensSpec)

end Rows
end Go.Proofs.YtanicpgmbhfipaaDoor
