/-
  DERIVED. GIVEN WITH THE SEED: THE CARDS: each row of YtiomfkgbaemmkaaDoorRows.lean that lists a variable, with what it lists TIED to the program's text (the seventh form; the later family's looks); each row that meets fmt, with fmt's text TOLD by the authors' own Lean function (tested against real Go, not proved from fmt's source: count such statements apart). THE CARD IS WHAT COUNTS. Prove the row's statement (the work); the ties are given (YtiomfkgbaemmkaaDoorTie.lean); close each card by the builder's one call (the guide's Derived/Test/ToyasCard.lean, 'card_holds'). Laid BY PROGRAM, IN A SANDBOX (cutbox-door.mjs). By AI agents, Wed Nov 11 2026. No macro, syntax, notation, axiom, sorry.
-/
import Derived.Test.YtiomfkgbaemmkaaDoorRows
import GoSem.ClaimSeven
namespace Go.Proofs.YtiomfkgbaemmkaaDoor
namespace Rows

/-- THE TIED CARD OF 'depositorylaw01.BytesEncoded'. -/
def bytesEncodedCard : Claim7 := { stood := { row := bytesEncodedRow, standIns := [], harness := (true, "8e0adf60daab2f4707ea3a4a5038de15e21a1c8cc631b590b25005f6b263c935"), looks := false }, kinds := [], alts := [], laidByText := true, laidKinds := [.data, .pinned], laidTests := true, laidLooks := .later }
def BytesEncodedCardSaid : Prop := Claim7.holds Tryd.pinned (.plain (OpenSpec.ofChange bytesEncodedSpec)) bytesEncodedCard

/-- THE TIED CARD OF 'depositorylaw01.BytesDecoded'. -/
def bytesDecodedCard : Claim7 := { stood := { row := bytesDecodedRow, standIns := [], harness := (true, "8e0adf60daab2f4707ea3a4a5038de15e21a1c8cc631b590b25005f6b263c935"), looks := false }, kinds := [], alts := [], laidByText := true, laidKinds := [.data, .pinned], laidTests := true, laidLooks := .later }
def BytesDecodedCardSaid : Prop := Claim7.holds Tryd.pinned (.plain (OpenSpec.ofChange bytesDecodedSpec)) bytesDecodedCard

/-- THE SECOND FORM's CARD OF 'depositorylaw01.BytesEncoded'. -/
def bytesEncodedUptoCard : Claim7 := { stood := { row := bytesEncodedUptoRow, standIns := [], harness := (true, "8e0adf60daab2f4707ea3a4a5038de15e21a1c8cc631b590b25005f6b263c935"), looks := false }, kinds := [], alts := [], laidByText := true, laidKinds := [.data, .pinned], laidTests := true, laidLooks := .later }
def BytesEncodedUptoCardSaid : Prop := Claim7.holds Tryd.pinned (.plain (OpenSpec.upto bytesEncodedSpec)) bytesEncodedUptoCard

/-- THE SECOND FORM's CARD OF 'depositorylaw01.BytesDecoded'. -/
def bytesDecodedUptoCard : Claim7 := { stood := { row := bytesDecodedUptoRow, standIns := [], harness := (true, "8e0adf60daab2f4707ea3a4a5038de15e21a1c8cc631b590b25005f6b263c935"), looks := false }, kinds := [], alts := [], laidByText := true, laidKinds := [.data, .pinned], laidTests := true, laidLooks := .later }
def BytesDecodedUptoCardSaid : Prop := Claim7.holds Tryd.pinned (.plain (OpenSpec.upto bytesDecodedSpec)) bytesDecodedUptoCard
end Rows
end Go.Proofs.YtiomfkgbaemmkaaDoor
