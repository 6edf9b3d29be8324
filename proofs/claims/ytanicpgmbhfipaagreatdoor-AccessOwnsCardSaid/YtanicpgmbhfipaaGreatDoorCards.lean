/-
  DERIVED. GIVEN WITH THE SEED: THE CARDS: each row of YtanicpgmbhfipaaGreatDoorRows.lean that lists a variable, with what it lists TIED to the program's text (the seventh form; the later family's looks); each row that meets fmt, with fmt's text TOLD by the authors' own Lean function (tested against real Go, not proved from fmt's source: count such statements apart). THE CARD IS WHAT COUNTS. Prove the row's statement (the work); the ties are given (YtanicpgmbhfipaaGreatDoorTie.lean); close each card by the builder's one call (the guide's Derived/Test/ToyasCard.lean, 'card_holds'). Laid BY PROGRAM, IN A SANDBOX (cutbox-door.mjs). By AI agents, Wed Nov 11 2026. No macro, syntax, notation, axiom, sorry.
-/
import Derived.Test.YtanicpgmbhfipaaGreatDoorRows
import GoSem.ClaimSeven
namespace Go.Proofs.YtanicpgmbhfipaaGreatDoor
namespace Rows

/-- THE TIED CARD OF 'depositorylaw17.AccessDecides'. -/
def accessDecidesCard : Claim7 := { stood := { row := accessDecidesRow, standIns := [], harness := (true, "f60fc5b2533b240c83f0bf589a734959095bef0868cef398a4b06cdce53122bb"), looks := false }, kinds := [], alts := [], laidByText := true, laidKinds := [.data], laidTests := true, laidLooks := .later }
def AccessDecidesCardSaid : Prop := Claim7.holds Tryz.pinned (.plain (OpenSpec.ofChange accessDecidesSpec)) accessDecidesCard

/-- THE TIED CARD OF 'depositorylaw17.AccessAccepts'. -/
def accessAcceptsCard : Claim7 := { stood := { row := accessAcceptsRow, standIns := [], harness := (true, "f60fc5b2533b240c83f0bf589a734959095bef0868cef398a4b06cdce53122bb"), looks := false }, kinds := [], alts := [], laidByText := true, laidKinds := [.data], laidTests := true, laidLooks := .later }
def AccessAcceptsCardSaid : Prop := Claim7.holds Tryz.pinned (.plain (OpenSpec.ofChange accessAcceptsSpec)) accessAcceptsCard

/-- THE TIED CARD OF 'depositorylaw17.AccessDiffers'. -/
def accessDiffersCard : Claim7 := { stood := { row := accessDiffersRow, standIns := [], harness := (true, "f60fc5b2533b240c83f0bf589a734959095bef0868cef398a4b06cdce53122bb"), looks := false }, kinds := [], alts := [], laidByText := true, laidKinds := [.data], laidTests := true, laidLooks := .later }
def AccessDiffersCardSaid : Prop := Claim7.holds Tryz.pinned (.plain (OpenSpec.ofChange accessDiffersSpec)) accessDiffersCard

/-- THE TIED CARD OF 'depositorylaw17.AccessDeletes'. -/
def accessDeletesCard : Claim7 := { stood := { row := accessDeletesRow, standIns := [], harness := (true, "f60fc5b2533b240c83f0bf589a734959095bef0868cef398a4b06cdce53122bb"), looks := false }, kinds := [], alts := [], laidByText := true, laidKinds := [.data], laidTests := true, laidLooks := .later }
def AccessDeletesCardSaid : Prop := Claim7.holds Tryz.pinned (.plain (OpenSpec.ofChange accessDeletesSpec)) accessDeletesCard

/-- THE TIED CARD OF 'depositorylaw17.AccessSimplifies'. -/
def accessSimplifiesCard : Claim7 := { stood := { row := accessSimplifiesRow, standIns := [], harness := (true, "f60fc5b2533b240c83f0bf589a734959095bef0868cef398a4b06cdce53122bb"), looks := false }, kinds := [], alts := [], laidByText := true, laidKinds := [.data], laidTests := true, laidLooks := .later }
def AccessSimplifiesCardSaid : Prop := Claim7.holds Tryz.pinned (.plain (OpenSpec.ofChange accessSimplifiesSpec)) accessSimplifiesCard

/-- THE TIED CARD OF 'depositorylaw17.AccessOwns'. -/
def accessOwnsCard : Claim7 := { stood := { row := accessOwnsRow, standIns := [], harness := (true, "f60fc5b2533b240c83f0bf589a734959095bef0868cef398a4b06cdce53122bb"), looks := false }, kinds := [], alts := [], laidByText := true, laidKinds := [.data], laidTests := true, laidLooks := .later }
def AccessOwnsCardSaid : Prop := Claim7.holds Tryz.pinned (.plain (OpenSpec.ofChange accessOwnsSpec)) accessOwnsCard

/-- THE SECOND FORM's CARD OF 'depositorylaw17.AccessDecides'. -/
def accessDecidesUptoCard : Claim7 := { stood := { row := accessDecidesUptoRow, standIns := [], harness := (true, "f60fc5b2533b240c83f0bf589a734959095bef0868cef398a4b06cdce53122bb"), looks := false }, kinds := [], alts := [], laidByText := true, laidKinds := [.data], laidTests := true, laidLooks := .later }
def AccessDecidesUptoCardSaid : Prop := Claim7.holds Tryz.pinned (.plain (OpenSpec.upto accessDecidesSpec)) accessDecidesUptoCard

/-- THE SECOND FORM's CARD OF 'depositorylaw17.AccessAccepts'. -/
def accessAcceptsUptoCard : Claim7 := { stood := { row := accessAcceptsUptoRow, standIns := [], harness := (true, "f60fc5b2533b240c83f0bf589a734959095bef0868cef398a4b06cdce53122bb"), looks := false }, kinds := [], alts := [], laidByText := true, laidKinds := [.data], laidTests := true, laidLooks := .later }
def AccessAcceptsUptoCardSaid : Prop := Claim7.holds Tryz.pinned (.plain (OpenSpec.upto accessAcceptsSpec)) accessAcceptsUptoCard

/-- THE SECOND FORM's CARD OF 'depositorylaw17.AccessDiffers'. -/
def accessDiffersUptoCard : Claim7 := { stood := { row := accessDiffersUptoRow, standIns := [], harness := (true, "f60fc5b2533b240c83f0bf589a734959095bef0868cef398a4b06cdce53122bb"), looks := false }, kinds := [], alts := [], laidByText := true, laidKinds := [.data], laidTests := true, laidLooks := .later }
def AccessDiffersUptoCardSaid : Prop := Claim7.holds Tryz.pinned (.plain (OpenSpec.upto accessDiffersSpec)) accessDiffersUptoCard

/-- THE SECOND FORM's CARD OF 'depositorylaw17.AccessDeletes'. -/
def accessDeletesUptoCard : Claim7 := { stood := { row := accessDeletesUptoRow, standIns := [], harness := (true, "f60fc5b2533b240c83f0bf589a734959095bef0868cef398a4b06cdce53122bb"), looks := false }, kinds := [], alts := [], laidByText := true, laidKinds := [.data], laidTests := true, laidLooks := .later }
def AccessDeletesUptoCardSaid : Prop := Claim7.holds Tryz.pinned (.plain (OpenSpec.upto accessDeletesSpec)) accessDeletesUptoCard

/-- THE SECOND FORM's CARD OF 'depositorylaw17.AccessSimplifies'. -/
def accessSimplifiesUptoCard : Claim7 := { stood := { row := accessSimplifiesUptoRow, standIns := [], harness := (true, "f60fc5b2533b240c83f0bf589a734959095bef0868cef398a4b06cdce53122bb"), looks := false }, kinds := [], alts := [], laidByText := true, laidKinds := [.data], laidTests := true, laidLooks := .later }
def AccessSimplifiesUptoCardSaid : Prop := Claim7.holds Tryz.pinned (.plain (OpenSpec.upto accessSimplifiesSpec)) accessSimplifiesUptoCard

/-- THE SECOND FORM's CARD OF 'depositorylaw17.AccessOwns'. -/
def accessOwnsUptoCard : Claim7 := { stood := { row := accessOwnsUptoRow, standIns := [], harness := (true, "f60fc5b2533b240c83f0bf589a734959095bef0868cef398a4b06cdce53122bb"), looks := false }, kinds := [], alts := [], laidByText := true, laidKinds := [.data], laidTests := true, laidLooks := .later }
def AccessOwnsUptoCardSaid : Prop := Claim7.holds Tryz.pinned (.plain (OpenSpec.upto accessOwnsSpec)) accessOwnsUptoCard
end Rows
end Go.Proofs.YtanicpgmbhfipaaGreatDoor
