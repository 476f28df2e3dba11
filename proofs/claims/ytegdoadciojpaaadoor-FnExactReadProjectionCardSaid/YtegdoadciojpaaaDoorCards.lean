/-
  DERIVED. GIVEN WITH THE SEED: THE CARDS: each row of YtegdoadciojpaaaDoorRows.lean that lists a variable, with what it lists TIED to the program's text (the seventh form; the later family's looks); each row that meets fmt, with fmt's text TOLD by the authors' own Lean function (tested against real Go, not proved from fmt's source: count such statements apart). THE CARD IS WHAT COUNTS. Prove the row's statement (the work); the ties are given (YtegdoadciojpaaaDoorTie.lean); close each card by the builder's one call (the guide's Derived/Test/ToyasCard.lean, 'card_holds'). Laid BY PROGRAM, IN A SANDBOX (cutbox-door.mjs). By AI agents, Wed Nov 11 2026. No macro, syntax, notation, axiom, sorry.
-/
import Derived.Test.YtegdoadciojpaaaDoorRows
import GoSem.ClaimSeven
namespace Go.Proofs.YtegdoadciojpaaaDoor
namespace Rows

/-- THE TIED CARD OF 'laws.FnExactProjectionName'. -/
def fnExactProjectionNameCard : Claim7 := { stood := { row := fnExactProjectionNameRow, standIns := [], harness := (true, "56733a2bd8a47e1d74e14b2d3d85a12210363140d470813950da3ca977fe65bd"), looks := true }, kinds := [], alts := [], laidByText := true, laidKinds := [.widerDeep], laidTests := true, laidLooks := .later }
def FnExactProjectionNameCardSaid : Prop := Claim7.holds Tryd.pinned (.plain (OpenSpec.ofChange fnExactProjectionNameSpec)) fnExactProjectionNameCard

/-- THE TIED CARD OF 'laws.FnExactProjectionNamed'. -/
def fnExactProjectionNamedCard : Claim7 := { stood := { row := fnExactProjectionNamedRow, standIns := [], harness := (true, "56733a2bd8a47e1d74e14b2d3d85a12210363140d470813950da3ca977fe65bd"), looks := true }, kinds := [], alts := [], laidByText := true, laidKinds := [.widerDeep], laidTests := true, laidLooks := .later }
def FnExactProjectionNamedCardSaid : Prop := Claim7.holds Tryd.pinned (.plain (OpenSpec.ofChange fnExactProjectionNamedSpec)) fnExactProjectionNamedCard

/-- THE TIED CARD OF 'laws.FnExactProjectionText'. -/
def fnExactProjectionTextCard : Claim7 := { stood := { row := fnExactProjectionTextRow, standIns := [], harness := (true, "56733a2bd8a47e1d74e14b2d3d85a12210363140d470813950da3ca977fe65bd"), looks := true }, kinds := [], alts := [], laidByText := true, laidKinds := [.data, .data, .data, .widerDeep], laidTests := true, laidLooks := .later }
def FnExactProjectionTextCardSaid : Prop := Claim7.holds Tryd.pinned (.plain (OpenSpec.ofChange fnExactProjectionTextSpec)) fnExactProjectionTextCard

/-- THE TIED CARD OF 'laws.FnExactPlaceText'. -/
def fnExactPlaceTextCard : Claim7 := { stood := { row := fnExactPlaceTextRow, standIns := [], harness := (true, "56733a2bd8a47e1d74e14b2d3d85a12210363140d470813950da3ca977fe65bd"), looks := true }, kinds := [], alts := [], laidByText := true, laidKinds := [.data, .data, .data], laidTests := true, laidLooks := .later }
def FnExactPlaceTextCardSaid : Prop := Claim7.holds Tryd.pinned (.plain (OpenSpec.ofChange fnExactPlaceTextSpec)) fnExactPlaceTextCard

/-- THE TIED CARD OF 'laws.FnExactReadProjection'. -/
def fnExactReadProjectionCard : Claim7 := { stood := { row := fnExactReadProjectionRow, standIns := [], harness := (true, "56733a2bd8a47e1d74e14b2d3d85a12210363140d470813950da3ca977fe65bd"), looks := true }, kinds := [], alts := [], laidByText := true, laidKinds := [.data, .data, .data, .data, .sentinel, .sentinel, .widerDeep, .pinned], laidTests := true, laidLooks := .later }
def FnExactReadProjectionCardSaid : Prop := Claim7.holds Tryd.pinned (.plain (OpenSpec.ofChange fnExactReadProjectionSpec)) fnExactReadProjectionCard

/-- THE SECOND FORM's CARD OF 'laws.FnExactProjectionName'. -/
def fnExactProjectionNameUptoCard : Claim7 := { stood := { row := fnExactProjectionNameUptoRow, standIns := [], harness := (true, "56733a2bd8a47e1d74e14b2d3d85a12210363140d470813950da3ca977fe65bd"), looks := true }, kinds := [], alts := [], laidByText := true, laidKinds := [.widerDeep], laidTests := true, laidLooks := .later }
def FnExactProjectionNameUptoCardSaid : Prop := Claim7.holds Tryd.pinned (.plain (OpenSpec.upto fnExactProjectionNameSpec)) fnExactProjectionNameUptoCard

/-- THE SECOND FORM's CARD OF 'laws.FnExactProjectionNamed'. -/
def fnExactProjectionNamedUptoCard : Claim7 := { stood := { row := fnExactProjectionNamedUptoRow, standIns := [], harness := (true, "56733a2bd8a47e1d74e14b2d3d85a12210363140d470813950da3ca977fe65bd"), looks := true }, kinds := [], alts := [], laidByText := true, laidKinds := [.widerDeep], laidTests := true, laidLooks := .later }
def FnExactProjectionNamedUptoCardSaid : Prop := Claim7.holds Tryd.pinned (.plain (OpenSpec.upto fnExactProjectionNamedSpec)) fnExactProjectionNamedUptoCard

/-- THE SECOND FORM's CARD OF 'laws.FnExactProjectionText'. -/
def fnExactProjectionTextUptoCard : Claim7 := { stood := { row := fnExactProjectionTextUptoRow, standIns := [], harness := (true, "56733a2bd8a47e1d74e14b2d3d85a12210363140d470813950da3ca977fe65bd"), looks := true }, kinds := [], alts := [], laidByText := true, laidKinds := [.data, .data, .data, .widerDeep], laidTests := true, laidLooks := .later }
def FnExactProjectionTextUptoCardSaid : Prop := Claim7.holds Tryd.pinned (.plain (OpenSpec.upto fnExactProjectionTextSpec)) fnExactProjectionTextUptoCard

/-- THE SECOND FORM's CARD OF 'laws.FnExactPlaceText'. -/
def fnExactPlaceTextUptoCard : Claim7 := { stood := { row := fnExactPlaceTextUptoRow, standIns := [], harness := (true, "56733a2bd8a47e1d74e14b2d3d85a12210363140d470813950da3ca977fe65bd"), looks := true }, kinds := [], alts := [], laidByText := true, laidKinds := [.data, .data, .data], laidTests := true, laidLooks := .later }
def FnExactPlaceTextUptoCardSaid : Prop := Claim7.holds Tryd.pinned (.plain (OpenSpec.upto fnExactPlaceTextSpec)) fnExactPlaceTextUptoCard

/-- THE SECOND FORM's CARD OF 'laws.FnExactReadProjection'. -/
def fnExactReadProjectionUptoCard : Claim7 := { stood := { row := fnExactReadProjectionUptoRow, standIns := [], harness := (true, "56733a2bd8a47e1d74e14b2d3d85a12210363140d470813950da3ca977fe65bd"), looks := true }, kinds := [], alts := [], laidByText := true, laidKinds := [.data, .data, .data, .data, .sentinel, .sentinel, .widerDeep, .pinned], laidTests := true, laidLooks := .later }
def FnExactReadProjectionUptoCardSaid : Prop := Claim7.holds Tryd.pinned (.plain (OpenSpec.upto fnExactReadProjectionSpec)) fnExactReadProjectionUptoCard
end Rows
end Go.Proofs.YtegdoadciojpaaaDoor
