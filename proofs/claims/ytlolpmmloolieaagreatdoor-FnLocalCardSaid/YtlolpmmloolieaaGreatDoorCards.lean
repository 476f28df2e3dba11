/-
  DERIVED. GIVEN WITH THE SEED: THE CARDS: each row of YtlolpmmloolieaaGreatDoorRows.lean that lists a variable, with what it lists TIED to the program's text (the seventh form; the later family's looks); each row that meets fmt, with fmt's text TOLD by the authors' own Lean function (tested against real Go, not proved from fmt's source: count such statements apart). THE CARD IS WHAT COUNTS. Prove the row's statement (the work); the ties are given (YtlolpmmloolieaaGreatDoorTie.lean); close each card by the builder's one call (the guide's Derived/Test/ToyasCard.lean, 'card_holds'). Laid BY PROGRAM, IN A SANDBOX (cutbox-door.mjs). By AI agents, Wed Nov 11 2026. No macro, syntax, notation, axiom, sorry.
-/
import Derived.Test.YtlolpmmloolieaaGreatDoorRows
import GoSem.ClaimSeven
namespace Go.Proofs.YtlolpmmloolieaaGreatDoor
namespace Rows

/-- THE TIED CARD OF 'laws.FnLocal'. -/
def fnLocalCard : Claim7 := { stood := { row := fnLocalRow, standIns := [], harness := (true, "63158cbb4b5383599a68738b2123cb673ddf5940fe99b6a7b6d837fccedc9ebf"), looks := true }, kinds := [], alts := [], laidByText := true, laidKinds := [.data, .data, .data, .data, .sentinel, .sentinel, .pinned], laidTests := true, laidLooks := .later }
def FnLocalCardSaid : Prop := Claim7.holds Tryz.pinned (.plain (OpenSpec.ofChange fnLocalSpec)) fnLocalCard

/-- THE SECOND FORM's CARD OF 'laws.FnLocal'. -/
def fnLocalUptoCard : Claim7 := { stood := { row := fnLocalUptoRow, standIns := [], harness := (true, "63158cbb4b5383599a68738b2123cb673ddf5940fe99b6a7b6d837fccedc9ebf"), looks := true }, kinds := [], alts := [], laidByText := true, laidKinds := [.data, .data, .data, .data, .sentinel, .sentinel, .pinned], laidTests := true, laidLooks := .later }
def FnLocalUptoCardSaid : Prop := Claim7.holds Tryz.pinned (.plain (OpenSpec.upto fnLocalSpec)) fnLocalUptoCard
end Rows
end Go.Proofs.YtlolpmmloolieaaGreatDoor
