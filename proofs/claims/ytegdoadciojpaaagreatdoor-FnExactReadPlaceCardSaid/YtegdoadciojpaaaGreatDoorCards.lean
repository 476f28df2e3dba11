/-
  DERIVED. GIVEN WITH THE SEED: THE CARDS: each row of YtegdoadciojpaaaGreatDoorRows.lean that lists a variable, with what it lists TIED to the program's text (the seventh form; the later family's looks); each row that meets fmt, with fmt's text TOLD by the authors' own Lean function (tested against real Go, not proved from fmt's source: count such statements apart). THE CARD IS WHAT COUNTS. Prove the row's statement (the work); the ties are given (YtegdoadciojpaaaGreatDoorTie.lean); close each card by the builder's one call (the guide's Derived/Test/ToyasCard.lean, 'card_holds'). Laid BY PROGRAM, IN A SANDBOX (cutbox-door.mjs). By AI agents, Wed Nov 11 2026. No macro, syntax, notation, axiom, sorry.
-/
import Derived.Test.YtegdoadciojpaaaGreatDoorRows
import GoSem.ClaimSeven
namespace Go.Proofs.YtegdoadciojpaaaGreatDoor
namespace Rows

/-- THE TIED CARD OF 'laws.FnExactReadPlace'. -/
def fnExactReadPlaceCard : Claim7 := { stood := { row := fnExactReadPlaceRow, standIns := [], harness := (true, "0b55ff346fcf77c7a2230dddeae9ac9fff0f3f395ebb66dfac240c4155a707c8"), looks := true }, kinds := [], alts := [], laidByText := true, laidKinds := [.data, .data, .data, .data, .sentinel, .sentinel, .pinned], laidTests := true, laidLooks := .later }
def FnExactReadPlaceCardSaid : Prop := Claim7.holds Tryz.pinned (.plain (OpenSpec.ofChange fnExactReadPlaceSpec)) fnExactReadPlaceCard

/-- THE SECOND FORM's CARD OF 'laws.FnExactReadPlace'. -/
def fnExactReadPlaceUptoCard : Claim7 := { stood := { row := fnExactReadPlaceUptoRow, standIns := [], harness := (true, "0b55ff346fcf77c7a2230dddeae9ac9fff0f3f395ebb66dfac240c4155a707c8"), looks := true }, kinds := [], alts := [], laidByText := true, laidKinds := [.data, .data, .data, .data, .sentinel, .sentinel, .pinned], laidTests := true, laidLooks := .later }
def FnExactReadPlaceUptoCardSaid : Prop := Claim7.holds Tryz.pinned (.plain (OpenSpec.upto fnExactReadPlaceSpec)) fnExactReadPlaceUptoCard
end Rows
end Go.Proofs.YtegdoadciojpaaaGreatDoor
