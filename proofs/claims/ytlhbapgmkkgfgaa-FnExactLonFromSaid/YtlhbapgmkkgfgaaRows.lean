/-
  No cell of these rows narrows 'for every input' (looked for: loops, veiled, ifaces, maps, wideKeys, modest, calm, conditions, laid).
  DERIVED. THE GIVEN ROWS OF THIS SEAT. 4 by the template 'for every input the law returns true; each argument reads behind the call as it read before'; 0 by the template 'total and deterministic' (their statements: YtlhbapgmkkgfgaaTotals.lean).
  GIVEN WITH THE SEED: the statements are not yours to turn. If you find one false, say at which input.
  Laid BY PROGRAM, IN A SANDBOX (cutbox-rows.mjs): the forced cells as the released guide's own fill.sh prints them over the translation be980069c24afb5b… (all of the seat's roots in one cut). By AI agents, Wed Nov 11 2026. No macro, syntax, notation, axiom, sorry.
-/
import Derived.Test.YtlhbapgmkkgfgaaChecked
import GoSem.Claim
import GoSem.ClaimJoined
import GoSem.ClaimMapViews
import Derived.JoinedTies
import Derived.KernelRfl
namespace Go.Proofs.Ytlhbapgmkkgfgaa
/- THE CELL 'sum', in the pinned program and in every row, IS THE sha256 OF THE DUMP (.gsa) THAT YtlhbapgmkkgfgaaProg.lean LOADS. Nothing in Lean hashes anything: it is a label: what it is worth is what the hold of that sum in a sandbox is worth. -/
noncomputable def Try.pinned : Pinned := { name := "ytlhbapgmkkgfgaa", sum := "be980069c24afb5b66985cb4c1ac13ce306fadcda676446195cfcd723dca7995", checked := Try.checked }
namespace Rows
def none {H : Type} : Left H := { results := [], args := [] }

/-- 'laws.FnExactValidPlace': WHATEVER THE INPUT: true; the input reads as it did. -/
def fnExactValidPlaceSpec : ChangeSpec := { name := "fnExactValidPlace", fn := fun _ => fun
  | [d] => { results := [.lit (.bool true)], args := [d] }
  | _ => none }
def fnExactValidPlaceRow : OpenClaim := { program := "ytlhbapgmkkgfgaa", sum := "be980069c24afb5b66985cb4c1ac13ce306fadcda676446195cfcd723dca7995", func := "loop.example/g00880/laws.FnExactValidPlace", spec := "fnExactValidPlace", apart := false }
def FnExactValidPlaceSaid : Prop := fnExactValidPlaceRow.holds Try.pinned (OpenSpec.ofChange fnExactValidPlaceSpec)

/-- ITS FALSE NEIGHBOUR: 'it returns false'. Refute it at one input. -/
def fnExactValidPlaceWrong : ChangeSpec := { name := "fnExactValidPlace", fn := fun _ => fun
  | [d] => { results := [.lit (.bool false)], args := [d] }
  | _ => none }
def FnExactValidPlaceWrongFalsely : Prop := fnExactValidPlaceRow.holds Try.pinned (OpenSpec.ofChange fnExactValidPlaceWrong)

/-- 'laws.FnExactValidProjection': WHATEVER THE INPUT: true; the input reads as it did. -/
def fnExactValidProjectionSpec : ChangeSpec := { name := "fnExactValidProjection", fn := fun _ => fun
  | [d] => { results := [.lit (.bool true)], args := [d] }
  | _ => none }
def fnExactValidProjectionRow : OpenClaim := { program := "ytlhbapgmkkgfgaa", sum := "be980069c24afb5b66985cb4c1ac13ce306fadcda676446195cfcd723dca7995", func := "loop.example/g00880/laws.FnExactValidProjection", spec := "fnExactValidProjection", apart := false }
def FnExactValidProjectionSaid : Prop := fnExactValidProjectionRow.holds Try.pinned (OpenSpec.ofChange fnExactValidProjectionSpec)

/-- ITS FALSE NEIGHBOUR: 'it returns false'. Refute it at one input. -/
def fnExactValidProjectionWrong : ChangeSpec := { name := "fnExactValidProjection", fn := fun _ => fun
  | [d] => { results := [.lit (.bool false)], args := [d] }
  | _ => none }
def FnExactValidProjectionWrongFalsely : Prop := fnExactValidProjectionRow.holds Try.pinned (OpenSpec.ofChange fnExactValidProjectionWrong)

/-- 'laws.FnExactHeightI': WHATEVER THE INPUT: true; the input reads as it did. -/
def fnExactHeightISpec : ChangeSpec := { name := "fnExactHeightI", fn := fun _ => fun
  | [d] => { results := [.lit (.bool true)], args := [d] }
  | _ => none }
def fnExactHeightIRow : OpenClaim := { program := "ytlhbapgmkkgfgaa", sum := "be980069c24afb5b66985cb4c1ac13ce306fadcda676446195cfcd723dca7995", func := "loop.example/g00880/laws.FnExactHeightI", spec := "fnExactHeightI", inPlace := ["math/bits.Sub64", "math/bits.Add64"], named := ["math/bits.divideError", "math/bits.overflowError"], apart := false }
def FnExactHeightISaid : Prop := fnExactHeightIRow.holds Try.pinned (OpenSpec.ofChange fnExactHeightISpec)

/-- ITS FALSE NEIGHBOUR: 'it returns false'. Refute it at one input. -/
def fnExactHeightIWrong : ChangeSpec := { name := "fnExactHeightI", fn := fun _ => fun
  | [d] => { results := [.lit (.bool false)], args := [d] }
  | _ => none }
def FnExactHeightIWrongFalsely : Prop := fnExactHeightIRow.holds Try.pinned (OpenSpec.ofChange fnExactHeightIWrong)

/-- 'laws.FnExactLonFrom': WHATEVER THE INPUT: true; the input reads as it did. -/
def fnExactLonFromSpec : ChangeSpec := { name := "fnExactLonFrom", fn := fun _ => fun
  | [d1, d2] => { results := [.lit (.bool true)], args := [d1, d2] }
  | _ => none }
def fnExactLonFromRow : OpenClaim := { program := "ytlhbapgmkkgfgaa", sum := "be980069c24afb5b66985cb4c1ac13ce306fadcda676446195cfcd723dca7995", func := "loop.example/g00880/laws.FnExactLonFrom", spec := "fnExactLonFrom", inPlace := ["math/bits.Sub64", "math/bits.Add64"], recurses := true, named := ["math/bits.divideError", "math/bits.overflowError"], apart := false }
def FnExactLonFromSaid : Prop := fnExactLonFromRow.holds Try.pinned (OpenSpec.ofChange fnExactLonFromSpec)

/-- ITS FALSE NEIGHBOUR: 'it returns false'. Refute it at one input. -/
def fnExactLonFromWrong : ChangeSpec := { name := "fnExactLonFrom", fn := fun _ => fun
  | [d1, d2] => { results := [.lit (.bool false)], args := [d1, d2] }
  | _ => none }
def FnExactLonFromWrongFalsely : Prop := fnExactLonFromRow.holds Try.pinned (OpenSpec.ofChange fnExactLonFromWrong)

/- THE SECOND FORM. 'bulk': how many values and letters a reading holds, each counted each time it is reached (what is shared counts as often as it is met; a slice's spare places count too). A statement '..UptoSaid' is the law's where the arguments, and the package variables that the reading takes, are together of bulk at most 1048576: NARROWER than '..Said'. Prove '..Said' where nothing that the law and all that it calls make is longer than what came in: it says more and counts as full. Else prove '..UptoSaid'. A law counts once. -/
mutual
def uptoBulk {H : Type} : DataW H → Nat
  | .lit (.string bytes) => bytes.length + 1
  | .lit _ => 1
  | .nil => 1
  | .ptr d => uptoBulk d + 1
  | .slice elems spare => uptoBulkAll elems + uptoBulkAll spare + 1
  | .agg parts => uptoBulkAll parts + 1
  | .iface _ d => uptoBulk d + 1
  | .map entries => uptoBulkEntries entries + 1
  | .held _ => 1
def uptoBulkAll {H : Type} : List (DataW H) → Nat
  | [] => 0
  | d :: r => uptoBulk d + uptoBulkAll r
def uptoBulkEntries {H : Type} : List (Lit × DataW H) → Nat
  | [] => 0
  | x :: r => uptoBulkEntry x + uptoBulkEntries r
def uptoBulkEntry {H : Type} : Lit × DataW H → Nat
  | (.string bytes, d) => bytes.length + uptoBulk d + 1
  | (_, d) => uptoBulk d + 1
 end
def uptoSmall : (H : Type) → List (DataW H) → Bool := fun _ ds => decide (uptoBulkAll ds ≤ 1048576)
def OpenSpec.upto (s : _root_.Go.ChangeSpec) : _root_.Go.OpenSpec := { _root_.Go.OpenSpec.ofChange s with cond := some uptoSmall }

/-- 'laws.FnExactValidPlace', WHERE WHAT IT READS IS OF BULK AT MOST 1048576: true; the input reads as it did. -/
def fnExactValidPlaceUptoRow : OpenClaim := { program := "ytlhbapgmkkgfgaa", sum := "be980069c24afb5b66985cb4c1ac13ce306fadcda676446195cfcd723dca7995", func := "loop.example/g00880/laws.FnExactValidPlace", spec := "fnExactValidPlace", apart := false, narrowed := true }
def FnExactValidPlaceUptoSaid : Prop := fnExactValidPlaceUptoRow.holds Try.pinned (OpenSpec.upto fnExactValidPlaceSpec)

/-- 'laws.FnExactValidProjection', WHERE WHAT IT READS IS OF BULK AT MOST 1048576: true; the input reads as it did. -/
def fnExactValidProjectionUptoRow : OpenClaim := { program := "ytlhbapgmkkgfgaa", sum := "be980069c24afb5b66985cb4c1ac13ce306fadcda676446195cfcd723dca7995", func := "loop.example/g00880/laws.FnExactValidProjection", spec := "fnExactValidProjection", apart := false, narrowed := true }
def FnExactValidProjectionUptoSaid : Prop := fnExactValidProjectionUptoRow.holds Try.pinned (OpenSpec.upto fnExactValidProjectionSpec)

/-- 'laws.FnExactHeightI', WHERE WHAT IT READS IS OF BULK AT MOST 1048576: true; the input reads as it did. -/
def fnExactHeightIUptoRow : OpenClaim := { program := "ytlhbapgmkkgfgaa", sum := "be980069c24afb5b66985cb4c1ac13ce306fadcda676446195cfcd723dca7995", func := "loop.example/g00880/laws.FnExactHeightI", spec := "fnExactHeightI", inPlace := ["math/bits.Sub64", "math/bits.Add64"], named := ["math/bits.divideError", "math/bits.overflowError"], apart := false, narrowed := true }
def FnExactHeightIUptoSaid : Prop := fnExactHeightIUptoRow.holds Try.pinned (OpenSpec.upto fnExactHeightISpec)

/-- 'laws.FnExactLonFrom', WHERE WHAT IT READS IS OF BULK AT MOST 1048576: true; the input reads as it did. -/
def fnExactLonFromUptoRow : OpenClaim := { program := "ytlhbapgmkkgfgaa", sum := "be980069c24afb5b66985cb4c1ac13ce306fadcda676446195cfcd723dca7995", func := "loop.example/g00880/laws.FnExactLonFrom", spec := "fnExactLonFrom", inPlace := ["math/bits.Sub64", "math/bits.Add64"], recurses := true, named := ["math/bits.divideError", "math/bits.overflowError"], apart := false, narrowed := true }
def FnExactLonFromUptoSaid : Prop := fnExactLonFromUptoRow.holds Try.pinned (OpenSpec.upto fnExactLonFromSpec)

end Rows
end Go.Proofs.Ytlhbapgmkkgfgaa
