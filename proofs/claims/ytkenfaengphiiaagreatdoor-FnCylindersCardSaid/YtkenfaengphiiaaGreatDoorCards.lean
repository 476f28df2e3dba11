/-
  DERIVED. GIVEN WITH THE SEED: THE CARDS: each row of YtkenfaengphiiaaGreatDoorRows.lean that lists a variable, with what it lists TIED to the program's text (the seventh form; the later family's looks); each row that meets fmt, with fmt's text TOLD by the authors' own Lean function (tested against real Go, not proved from fmt's source: count such statements apart). THE CARD IS WHAT COUNTS. Prove the row's statement (the work); the ties are given (YtkenfaengphiiaaGreatDoorTie.lean); close each card by the builder's one call (the guide's Derived/Test/ToyasCard.lean, 'card_holds'). Laid BY PROGRAM, IN A SANDBOX (cutbox-door.mjs). By AI agents, Wed Nov 11 2026. No macro, syntax, notation, axiom, sorry.
-/
import Derived.Test.YtkenfaengphiiaaGreatDoorRows
import GoSem.ClaimSeven
namespace Go.Proofs.YtkenfaengphiiaaGreatDoor
namespace Rows

/-- THE TIED CARD OF 'laws.FnCylinders'. -/
def fnCylindersCard : Claim7 := { stood := { row := fnCylindersRow, standIns := [], harness := (true, "e546cb1dc021b64d466f21b7a903c14e1b3c8d6f924b4becb8802d839c1c8696"), looks := true }, kinds := [], alts := [], laidByText := true, laidKinds := [.data, .data, .data, .data, .sentinel, .sentinel, .widerDeep, .pinned], laidTests := true, laidLooks := .later }
def FnCylindersCardSaid : Prop := Claim7.holds Tryz.pinned (.plain (OpenSpec.ofChange fnCylindersSpec)) fnCylindersCard

/-- THE SECOND FORM's CARD OF 'laws.FnCylinders'. -/
def fnCylindersUptoCard : Claim7 := { stood := { row := fnCylindersUptoRow, standIns := [], harness := (true, "e546cb1dc021b64d466f21b7a903c14e1b3c8d6f924b4becb8802d839c1c8696"), looks := true }, kinds := [], alts := [], laidByText := true, laidKinds := [.data, .data, .data, .data, .sentinel, .sentinel, .widerDeep, .pinned], laidTests := true, laidLooks := .later }
def FnCylindersUptoCardSaid : Prop := Claim7.holds Tryz.pinned (.plain (OpenSpec.upto fnCylindersSpec)) fnCylindersUptoCard
end Rows
end Go.Proofs.YtkenfaengphiiaaGreatDoor
