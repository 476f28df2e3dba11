/-
  No cell of these rows narrows 'for every input' (looked for: loops, veiled, ifaces, maps, wideKeys, modest, calm, conditions, laid).
  DERIVED. THE GIVEN ROWS OF THIS SEAT. 9 by the template 'for every input the law returns true; each argument reads behind the call as it read before'; 0 by the template 'total and deterministic' (their statements: YtfcjhkkpbnobhaaGreatTotals.lean).
  GIVEN WITH THE SEED: the statements are not yours to turn. If you find one false, say at which input.
  Laid BY PROGRAM, IN A SANDBOX (cutbox-rows.mjs): the forced cells as the released guide's own fill.sh prints them over the translation 59ca13222435e650… (all of the seat's roots in one cut). By AI agents, Wed Nov 11 2026. No macro, syntax, notation, axiom, sorry.
-/
import Derived.Test.YtfcjhkkpbnobhaaGreatChecked
import GoSem.Claim
import GoSem.ClaimJoined
import GoSem.ClaimMapViews
import Derived.JoinedTies
import Derived.KernelRfl
namespace Go.Proofs.YtfcjhkkpbnobhaaGreat
/- THE CELL 'sum', in the pinned program and in every row, IS THE sha256 OF THE DUMP (.gsa) THAT YtfcjhkkpbnobhaaGreatProg.lean LOADS. Nothing in Lean hashes anything: it is a label: what it is worth is what the hold of that sum in a sandbox is worth. -/
noncomputable def Tryz.pinned : Pinned := { name := "ytfcjhkkpbnobhaagreat", sum := "59ca13222435e6500048d1ef4b0640b4bf04911a9c5aee012ddc54a9a2032056", checked := Tryz.checked }
namespace Rows
def none {H : Type} : Left H := { results := [], args := [] }

/-- 'laws.FnSides': WHATEVER THE INPUT: true; the input reads as it did. -/
def fnSidesSpec : ChangeSpec := { name := "fnSides", fn := fun _ => fun
  | [d] => { results := [.lit (.bool true)], args := [d] }
  | _ => none }
def fnSidesRow : OpenClaim := { program := "ytfcjhkkpbnobhaagreat", sum := "59ca13222435e6500048d1ef4b0640b4bf04911a9c5aee012ddc54a9a2032056", func := "loop.example/g00880/laws.FnSides", spec := "fnSides", inPlace := ["math/bits.Sub64", "math/bits.Add64"], unfollowed := true, recurses := true, named := ["math/bits.divideError", "math/bits.overflowError"], apart := false }
def FnSidesSaid : Prop := fnSidesRow.holds Tryz.pinned (OpenSpec.ofChange fnSidesSpec)

/-- ITS FALSE NEIGHBOUR: 'it returns false'. Refute it at one input. -/
def fnSidesWrong : ChangeSpec := { name := "fnSides", fn := fun _ => fun
  | [d] => { results := [.lit (.bool false)], args := [d] }
  | _ => none }
def FnSidesWrongFalsely : Prop := fnSidesRow.holds Tryz.pinned (OpenSpec.ofChange fnSidesWrong)

/-- 'laws.FnMidway': WHATEVER THE INPUT: true; the input reads as it did. -/
def fnMidwaySpec : ChangeSpec := { name := "fnMidway", fn := fun _ => fun
  | [d1, d2] => { results := [.lit (.bool true)], args := [d1, d2] }
  | _ => none }
def fnMidwayRow : OpenClaim := { program := "ytfcjhkkpbnobhaagreat", sum := "59ca13222435e6500048d1ef4b0640b4bf04911a9c5aee012ddc54a9a2032056", func := "loop.example/g00880/laws.FnMidway", spec := "fnMidway", inPlace := ["math/bits.Sub64", "math/bits.Add64"], unfollowed := true, recurses := true, named := ["math/bits.divideError", "math/bits.overflowError"], apart := false }
def FnMidwaySaid : Prop := fnMidwayRow.holds Tryz.pinned (OpenSpec.ofChange fnMidwaySpec)

/-- ITS FALSE NEIGHBOUR: 'it returns false'. Refute it at one input. -/
def fnMidwayWrong : ChangeSpec := { name := "fnMidway", fn := fun _ => fun
  | [d1, d2] => { results := [.lit (.bool false)], args := [d1, d2] }
  | _ => none }
def FnMidwayWrongFalsely : Prop := fnMidwayRow.holds Tryz.pinned (OpenSpec.ofChange fnMidwayWrong)

/-- 'laws.FnSphere': WHATEVER THE INPUT: true; the input reads as it did. -/
def fnSphereSpec : ChangeSpec := { name := "fnSphere", fn := fun _ => fun
  | [d] => { results := [.lit (.bool true)], args := [d] }
  | _ => none }
def fnSphereRow : OpenClaim := { program := "ytfcjhkkpbnobhaagreat", sum := "59ca13222435e6500048d1ef4b0640b4bf04911a9c5aee012ddc54a9a2032056", func := "loop.example/g00880/laws.FnSphere", spec := "fnSphere", inPlace := ["math/bits.Sub64", "math/bits.Add64"], unfollowed := true, recurses := true, named := ["math/bits.divideError", "math/bits.overflowError"], apart := false }
def FnSphereSaid : Prop := fnSphereRow.holds Tryz.pinned (OpenSpec.ofChange fnSphereSpec)

/-- ITS FALSE NEIGHBOUR: 'it returns false'. Refute it at one input. -/
def fnSphereWrong : ChangeSpec := { name := "fnSphere", fn := fun _ => fun
  | [d] => { results := [.lit (.bool false)], args := [d] }
  | _ => none }
def FnSphereWrongFalsely : Prop := fnSphereRow.holds Tryz.pinned (OpenSpec.ofChange fnSphereWrong)

/-- 'laws.FnCartesian': WHATEVER THE INPUT: true; the input reads as it did. -/
def fnCartesianSpec : ChangeSpec := { name := "fnCartesian", fn := fun _ => fun
  | [d1, d2] => { results := [.lit (.bool true)], args := [d1, d2] }
  | _ => none }
def fnCartesianRow : OpenClaim := { program := "ytfcjhkkpbnobhaagreat", sum := "59ca13222435e6500048d1ef4b0640b4bf04911a9c5aee012ddc54a9a2032056", func := "loop.example/g00880/laws.FnCartesian", spec := "fnCartesian", inPlace := ["math/bits.Sub64", "math/bits.Add64"], unfollowed := true, recurses := true, named := ["math/bits.divideError", "math/bits.overflowError"], apart := false }
def FnCartesianSaid : Prop := fnCartesianRow.holds Tryz.pinned (OpenSpec.ofChange fnCartesianSpec)

/-- ITS FALSE NEIGHBOUR: 'it returns false'. Refute it at one input. -/
def fnCartesianWrong : ChangeSpec := { name := "fnCartesian", fn := fun _ => fun
  | [d1, d2] => { results := [.lit (.bool false)], args := [d1, d2] }
  | _ => none }
def FnCartesianWrongFalsely : Prop := fnCartesianRow.holds Tryz.pinned (OpenSpec.ofChange fnCartesianWrong)

/-- 'laws.FnRhumbs': WHATEVER THE INPUT: true; the input reads as it did. -/
def fnRhumbsSpec : ChangeSpec := { name := "fnRhumbs", fn := fun _ => fun
  | [d] => { results := [.lit (.bool true)], args := [d] }
  | _ => none }
def fnRhumbsRow : OpenClaim := { program := "ytfcjhkkpbnobhaagreat", sum := "59ca13222435e6500048d1ef4b0640b4bf04911a9c5aee012ddc54a9a2032056", func := "loop.example/g00880/laws.FnRhumbs", spec := "fnRhumbs", inPlace := ["math/bits.Sub64", "math/bits.Add64"], unfollowed := true, recurses := true, named := ["math/bits.divideError", "math/bits.overflowError"], apart := false }
def FnRhumbsSaid : Prop := fnRhumbsRow.holds Tryz.pinned (OpenSpec.ofChange fnRhumbsSpec)

/-- ITS FALSE NEIGHBOUR: 'it returns false'. Refute it at one input. -/
def fnRhumbsWrong : ChangeSpec := { name := "fnRhumbs", fn := fun _ => fun
  | [d] => { results := [.lit (.bool false)], args := [d] }
  | _ => none }
def FnRhumbsWrongFalsely : Prop := fnRhumbsRow.holds Tryz.pinned (OpenSpec.ofChange fnRhumbsWrong)

/-- 'laws.FnZones': WHATEVER THE INPUT: true; the input reads as it did. -/
def fnZonesSpec : ChangeSpec := { name := "fnZones", fn := fun _ => fun
  | [d1, d2] => { results := [.lit (.bool true)], args := [d1, d2] }
  | _ => none }
def fnZonesRow : OpenClaim := { program := "ytfcjhkkpbnobhaagreat", sum := "59ca13222435e6500048d1ef4b0640b4bf04911a9c5aee012ddc54a9a2032056", func := "loop.example/g00880/laws.FnZones", spec := "fnZones", inPlace := ["math/bits.Sub64", "math/bits.Add64"], unfollowed := true, recurses := true, named := ["math/bits.divideError", "math/bits.overflowError"], apart := false }
def FnZonesSaid : Prop := fnZonesRow.holds Tryz.pinned (OpenSpec.ofChange fnZonesSpec)

/-- ITS FALSE NEIGHBOUR: 'it returns false'. Refute it at one input. -/
def fnZonesWrong : ChangeSpec := { name := "fnZones", fn := fun _ => fun
  | [d1, d2] => { results := [.lit (.bool false)], args := [d1, d2] }
  | _ => none }
def FnZonesWrongFalsely : Prop := fnZonesRow.holds Tryz.pinned (OpenSpec.ofChange fnZonesWrong)

/-- 'laws.FnOmega': WHATEVER THE INPUT: true; the input reads as it did. -/
def fnOmegaSpec : ChangeSpec := { name := "fnOmega", fn := fun _ => fun
  | [d1, d2] => { results := [.lit (.bool true)], args := [d1, d2] }
  | _ => none }
def fnOmegaRow : OpenClaim := { program := "ytfcjhkkpbnobhaagreat", sum := "59ca13222435e6500048d1ef4b0640b4bf04911a9c5aee012ddc54a9a2032056", func := "loop.example/g00880/laws.FnOmega", spec := "fnOmega", inPlace := ["math/bits.Sub64", "math/bits.Add64"], unfollowed := true, recurses := true, named := ["math/bits.divideError", "math/bits.overflowError"], apart := false }
def FnOmegaSaid : Prop := fnOmegaRow.holds Tryz.pinned (OpenSpec.ofChange fnOmegaSpec)

/-- ITS FALSE NEIGHBOUR: 'it returns false'. Refute it at one input. -/
def fnOmegaWrong : ChangeSpec := { name := "fnOmega", fn := fun _ => fun
  | [d1, d2] => { results := [.lit (.bool false)], args := [d1, d2] }
  | _ => none }
def FnOmegaWrongFalsely : Prop := fnOmegaRow.holds Tryz.pinned (OpenSpec.ofChange fnOmegaWrong)

/-- 'laws.FnGeodesics': WHATEVER THE INPUT: true; the input reads as it did. -/
def fnGeodesicsSpec : ChangeSpec := { name := "fnGeodesics", fn := fun _ => fun
  | [d1, d2] => { results := [.lit (.bool true)], args := [d1, d2] }
  | _ => none }
def fnGeodesicsRow : OpenClaim := { program := "ytfcjhkkpbnobhaagreat", sum := "59ca13222435e6500048d1ef4b0640b4bf04911a9c5aee012ddc54a9a2032056", func := "loop.example/g00880/laws.FnGeodesics", spec := "fnGeodesics", inPlace := ["math/bits.Sub64", "math/bits.Add64"], unfollowed := true, recurses := true, named := ["math/bits.divideError", "math/bits.overflowError"], apart := false }
def FnGeodesicsSaid : Prop := fnGeodesicsRow.holds Tryz.pinned (OpenSpec.ofChange fnGeodesicsSpec)

/-- ITS FALSE NEIGHBOUR: 'it returns false'. Refute it at one input. -/
def fnGeodesicsWrong : ChangeSpec := { name := "fnGeodesics", fn := fun _ => fun
  | [d1, d2] => { results := [.lit (.bool false)], args := [d1, d2] }
  | _ => none }
def FnGeodesicsWrongFalsely : Prop := fnGeodesicsRow.holds Tryz.pinned (OpenSpec.ofChange fnGeodesicsWrong)

/-- 'laws.FnExactPathLength': WHATEVER THE INPUT: true; the input reads as it did. -/
def fnExactPathLengthSpec : ChangeSpec := { name := "fnExactPathLength", fn := fun _ => fun
  | [d1, d2, d3] => { results := [.lit (.bool true)], args := [d1, d2, d3] }
  | _ => none }
def fnExactPathLengthRow : OpenClaim := { program := "ytfcjhkkpbnobhaagreat", sum := "59ca13222435e6500048d1ef4b0640b4bf04911a9c5aee012ddc54a9a2032056", func := "loop.example/g00880/laws.FnExactPathLength", spec := "fnExactPathLength", inPlace := ["math/bits.Sub64", "math/bits.Add64"], unfollowed := true, recurses := true, named := ["math/bits.divideError", "math/bits.overflowError"], apart := false }
def FnExactPathLengthSaid : Prop := fnExactPathLengthRow.holds Tryz.pinned (OpenSpec.ofChange fnExactPathLengthSpec)

/-- ITS FALSE NEIGHBOUR: 'it returns false'. Refute it at one input. -/
def fnExactPathLengthWrong : ChangeSpec := { name := "fnExactPathLength", fn := fun _ => fun
  | [d1, d2, d3] => { results := [.lit (.bool false)], args := [d1, d2, d3] }
  | _ => none }
def FnExactPathLengthWrongFalsely : Prop := fnExactPathLengthRow.holds Tryz.pinned (OpenSpec.ofChange fnExactPathLengthWrong)

/- THE SECOND FORM. 'bulk': how many values and letters a reading holds, each counted each time it is reached (what is shared counts as often as it is met; a slice's spare places count too). A statement '..UptoSaid' is the law's where the arguments, and the package variables that the reading takes, are together of bulk at most 1048576: NARROWER than '..Said'. Prove '..Said' where nothing that the law and all that it calls make is longer than what came in: it says more and counts as full. Else prove '..UptoSaid'. A law counts once. -/
mutual
def uptoBulk {H : Type} : DataW H → Nat
  | .lit (.string bytes) => bytes.length + 1
  | .lit _ => 1
  | .nil => 1
  | .ptr d => uptoBulk d + 1
  | .slice elems spare => uptoBulkAll elems + uptoBulkAll spare + 1
  | .agg parts => uptoBulkAll parts + 1
  | .iface _ d => uptoBulk d + 1
  | .map entries => uptoBulkEntries entries + 1
  | .held _ => 1
def uptoBulkAll {H : Type} : List (DataW H) → Nat
  | [] => 0
  | d :: r => uptoBulk d + uptoBulkAll r
def uptoBulkEntries {H : Type} : List (Lit × DataW H) → Nat
  | [] => 0
  | x :: r => uptoBulkEntry x + uptoBulkEntries r
def uptoBulkEntry {H : Type} : Lit × DataW H → Nat
  | (.string bytes, d) => bytes.length + uptoBulk d + 1
  | (_, d) => uptoBulk d + 1
 end
def uptoSmall : (H : Type) → List (DataW H) → Bool := fun _ ds => decide (uptoBulkAll ds ≤ 1048576)
def OpenSpec.upto (s : _root_.Go.ChangeSpec) : _root_.Go.OpenSpec := { _root_.Go.OpenSpec.ofChange s with cond := some uptoSmall }

/-- 'laws.FnSides', WHERE WHAT IT READS IS OF BULK AT MOST 1048576: true; the input reads as it did. -/
def fnSidesUptoRow : OpenClaim := { program := "ytfcjhkkpbnobhaagreat", sum := "59ca13222435e6500048d1ef4b0640b4bf04911a9c5aee012ddc54a9a2032056", func := "loop.example/g00880/laws.FnSides", spec := "fnSides", inPlace := ["math/bits.Sub64", "math/bits.Add64"], unfollowed := true, recurses := true, named := ["math/bits.divideError", "math/bits.overflowError"], apart := false, narrowed := true }
def FnSidesUptoSaid : Prop := fnSidesUptoRow.holds Tryz.pinned (OpenSpec.upto fnSidesSpec)

/-- 'laws.FnMidway', WHERE WHAT IT READS IS OF BULK AT MOST 1048576: true; the input reads as it did. -/
def fnMidwayUptoRow : OpenClaim := { program := "ytfcjhkkpbnobhaagreat", sum := "59ca13222435e6500048d1ef4b0640b4bf04911a9c5aee012ddc54a9a2032056", func := "loop.example/g00880/laws.FnMidway", spec := "fnMidway", inPlace := ["math/bits.Sub64", "math/bits.Add64"], unfollowed := true, recurses := true, named := ["math/bits.divideError", "math/bits.overflowError"], apart := false, narrowed := true }
def FnMidwayUptoSaid : Prop := fnMidwayUptoRow.holds Tryz.pinned (OpenSpec.upto fnMidwaySpec)

/-- 'laws.FnSphere', WHERE WHAT IT READS IS OF BULK AT MOST 1048576: true; the input reads as it did. -/
def fnSphereUptoRow : OpenClaim := { program := "ytfcjhkkpbnobhaagreat", sum := "59ca13222435e6500048d1ef4b0640b4bf04911a9c5aee012ddc54a9a2032056", func := "loop.example/g00880/laws.FnSphere", spec := "fnSphere", inPlace := ["math/bits.Sub64", "math/bits.Add64"], unfollowed := true, recurses := true, named := ["math/bits.divideError", "math/bits.overflowError"], apart := false, narrowed := true }
def FnSphereUptoSaid : Prop := fnSphereUptoRow.holds Tryz.pinned (OpenSpec.upto fnSphereSpec)

/-- 'laws.FnCartesian', WHERE WHAT IT READS IS OF BULK AT MOST 1048576: true; the input reads as it did. -/
def fnCartesianUptoRow : OpenClaim := { program := "ytfcjhkkpbnobhaagreat", sum := "59ca13222435e6500048d1ef4b0640b4bf04911a9c5aee012ddc54a9a2032056", func := "loop.example/g00880/laws.FnCartesian", spec := "fnCartesian", inPlace := ["math/bits.Sub64", "math/bits.Add64"], unfollowed := true, recurses := true, named := ["math/bits.divideError", "math/bits.overflowError"], apart := false, narrowed := true }
def FnCartesianUptoSaid : Prop := fnCartesianUptoRow.holds Tryz.pinned (OpenSpec.upto fnCartesianSpec)

/-- 'laws.FnRhumbs', WHERE WHAT IT READS IS OF BULK AT MOST 1048576: true; the input reads as it did. -/
def fnRhumbsUptoRow : OpenClaim := { program := "ytfcjhkkpbnobhaagreat", sum := "59ca13222435e6500048d1ef4b0640b4bf04911a9c5aee012ddc54a9a2032056", func := "loop.example/g00880/laws.FnRhumbs", spec := "fnRhumbs", inPlace := ["math/bits.Sub64", "math/bits.Add64"], unfollowed := true, recurses := true, named := ["math/bits.divideError", "math/bits.overflowError"], apart := false, narrowed := true }
def FnRhumbsUptoSaid : Prop := fnRhumbsUptoRow.holds Tryz.pinned (OpenSpec.upto fnRhumbsSpec)

/-- 'laws.FnZones', WHERE WHAT IT READS IS OF BULK AT MOST 1048576: true; the input reads as it did. -/
def fnZonesUptoRow : OpenClaim := { program := "ytfcjhkkpbnobhaagreat", sum := "59ca13222435e6500048d1ef4b0640b4bf04911a9c5aee012ddc54a9a2032056", func := "loop.example/g00880/laws.FnZones", spec := "fnZones", inPlace := ["math/bits.Sub64", "math/bits.Add64"], unfollowed := true, recurses := true, named := ["math/bits.divideError", "math/bits.overflowError"], apart := false, narrowed := true }
def FnZonesUptoSaid : Prop := fnZonesUptoRow.holds Tryz.pinned (OpenSpec.upto fnZonesSpec)

/-- 'laws.FnOmega', WHERE WHAT IT READS IS OF BULK AT MOST 1048576: true; the input reads as it did. -/
def fnOmegaUptoRow : OpenClaim := { program := "ytfcjhkkpbnobhaagreat", sum := "59ca13222435e6500048d1ef4b0640b4bf04911a9c5aee012ddc54a9a2032056", func := "loop.example/g00880/laws.FnOmega", spec := "fnOmega", inPlace := ["math/bits.Sub64", "math/bits.Add64"], unfollowed := true, recurses := true, named := ["math/bits.divideError", "math/bits.overflowError"], apart := false, narrowed := true }
def FnOmegaUptoSaid : Prop := fnOmegaUptoRow.holds Tryz.pinned (OpenSpec.upto fnOmegaSpec)

/-- 'laws.FnGeodesics', WHERE WHAT IT READS IS OF BULK AT MOST 1048576: true; the input reads as it did. -/
def fnGeodesicsUptoRow : OpenClaim := { program := "ytfcjhkkpbnobhaagreat", sum := "59ca13222435e6500048d1ef4b0640b4bf04911a9c5aee012ddc54a9a2032056", func := "loop.example/g00880/laws.FnGeodesics", spec := "fnGeodesics", inPlace := ["math/bits.Sub64", "math/bits.Add64"], unfollowed := true, recurses := true, named := ["math/bits.divideError", "math/bits.overflowError"], apart := false, narrowed := true }
def FnGeodesicsUptoSaid : Prop := fnGeodesicsUptoRow.holds Tryz.pinned (OpenSpec.upto fnGeodesicsSpec)

/-- 'laws.FnExactPathLength', WHERE WHAT IT READS IS OF BULK AT MOST 1048576: true; the input reads as it did. -/
def fnExactPathLengthUptoRow : OpenClaim := { program := "ytfcjhkkpbnobhaagreat", sum := "59ca13222435e6500048d1ef4b0640b4bf04911a9c5aee012ddc54a9a2032056", func := "loop.example/g00880/laws.FnExactPathLength", spec := "fnExactPathLength", inPlace := ["math/bits.Sub64", "math/bits.Add64"], unfollowed := true, recurses := true, named := ["math/bits.divideError", "math/bits.overflowError"], apart := false, narrowed := true }
def FnExactPathLengthUptoSaid : Prop := fnExactPathLengthUptoRow.holds Tryz.pinned (OpenSpec.upto fnExactPathLengthSpec)

end Rows
end Go.Proofs.YtfcjhkkpbnobhaaGreat
