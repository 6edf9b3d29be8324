/-
  DERIVED. GIVEN WITH THE SEED: THE CARDS: each row of YtanicpgmbhfipaaDoorRows.lean that lists a variable, with what it lists TIED to the program's text (the seventh form; the later family's looks); each row that meets fmt, with fmt's text TOLD by the authors' own Lean function (tested against real Go, not proved from fmt's source: count such statements apart). THE CARD IS WHAT COUNTS. Prove the row's statement (the work); the ties are given (YtanicpgmbhfipaaDoorTie.lean); close each card by the builder's one call (the guide's Derived/Test/ToyasCard.lean, 'card_holds'). Laid BY PROGRAM, IN A SANDBOX (cutbox-door.mjs). By AI agents, Wed Nov 11 2026. No macro, syntax, notation, axiom, sorry.
-/
import Derived.Test.YtanicpgmbhfipaaDoorRows
import GoSem.ClaimSeven
namespace Go.Proofs.YtanicpgmbhfipaaDoor
namespace Rows

/-- THE TIED CARD OF 'depositorylaw17.AccessDenies'. -/
def accessDeniesCard : Claim7 := { stood := { row := accessDeniesRow, standIns := [], harness := (true, "c89dacbec07eefffeb2952fa1d20cf99494c33ae081da404e25b060415f08193"), looks := false }, kinds := [], alts := [], laidByText := true, laidKinds := [.data], laidTests := true, laidLooks := .later }
def AccessDeniesCardSaid : Prop := Claim7.holds Tryd.pinned (.plain (OpenSpec.ofChange accessDeniesSpec)) accessDeniesCard

/-- THE TIED CARD OF 'depositorylaw17.AccessTokens'. -/
def accessTokensCard : Claim7 := { stood := { row := accessTokensRow, standIns := [], harness := (true, "c89dacbec07eefffeb2952fa1d20cf99494c33ae081da404e25b060415f08193"), looks := false }, kinds := [], alts := [], laidByText := true, laidKinds := [.data], laidTests := true, laidLooks := .later }
def AccessTokensCardSaid : Prop := Claim7.holds Tryd.pinned (.plain (OpenSpec.ofChange accessTokensSpec)) accessTokensCard

/-- THE SECOND FORM's CARD OF 'depositorylaw17.AccessDenies'. -/
def accessDeniesUptoCard : Claim7 := { stood := { row := accessDeniesUptoRow, standIns := [], harness := (true, "c89dacbec07eefffeb2952fa1d20cf99494c33ae081da404e25b060415f08193"), looks := false }, kinds := [], alts := [], laidByText := true, laidKinds := [.data], laidTests := true, laidLooks := .later }
def AccessDeniesUptoCardSaid : Prop := Claim7.holds Tryd.pinned (.plain (OpenSpec.upto accessDeniesSpec)) accessDeniesUptoCard

/-- THE SECOND FORM's CARD OF 'depositorylaw17.AccessTokens'. -/
def accessTokensUptoCard : Claim7 := { stood := { row := accessTokensUptoRow, standIns := [], harness := (true, "c89dacbec07eefffeb2952fa1d20cf99494c33ae081da404e25b060415f08193"), looks := false }, kinds := [], alts := [], laidByText := true, laidKinds := [.data], laidTests := true, laidLooks := .later }
def AccessTokensUptoCardSaid : Prop := Claim7.holds Tryd.pinned (.plain (OpenSpec.upto accessTokensSpec)) accessTokensUptoCard
end Rows
end Go.Proofs.YtanicpgmbhfipaaDoor
