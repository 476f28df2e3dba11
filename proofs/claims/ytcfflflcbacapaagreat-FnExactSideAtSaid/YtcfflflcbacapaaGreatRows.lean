/-
  No cell of these rows narrows 'for every input' (looked for: loops, veiled, ifaces, maps, wideKeys, modest, calm, conditions, laid).
  DERIVED. THE GIVEN ROWS OF THIS SEAT. 12 by the template 'for every input the law returns true; each argument reads behind the call as it read before'; 0 by the template 'total and deterministic' (their statements: YtcfflflcbacapaaGreatTotals.lean).
  GIVEN WITH THE SEED: the statements are not yours to turn. If you find one false, say at which input.
  Laid BY PROGRAM, IN A SANDBOX (cutbox-rows.mjs): the forced cells as the released guide's own fill.sh prints them over the translation 7af790c7ba9497bb… (all of the seat's roots in one cut). By AI agents, Wed Nov 11 2026. No macro, syntax, notation, axiom, sorry.
-/
import Derived.Test.YtcfflflcbacapaaGreatChecked
import GoSem.Claim
import GoSem.ClaimJoined
import GoSem.ClaimMapViews
import Derived.JoinedTies
import Derived.KernelRfl
namespace Go.Proofs.YtcfflflcbacapaaGreat
/- THE CELL 'sum', in the pinned program and in every row, IS THE sha256 OF THE DUMP (.gsa) THAT YtcfflflcbacapaaGreatProg.lean LOADS. Nothing in Lean hashes anything: it is a label: what it is worth is what the hold of that sum in a sandbox is worth. -/
noncomputable def Tryz.pinned : Pinned := { name := "ytcfflflcbacapaagreat", sum := "7af790c7ba9497bb538c3feb032572ae4a046ba10f2e3f143ee4daf97988e017", checked := Tryz.checked }
namespace Rows
def none {H : Type} : Left H := { results := [], args := [] }

/-- 'laws.FnExactLocalOf': WHATEVER THE INPUT: true; the input reads as it did. -/
def fnExactLocalOfSpec : ChangeSpec := { name := "fnExactLocalOf", fn := fun _ => fun
  | [d1, d2] => { results := [.lit (.bool true)], args := [d1, d2] }
  | _ => none }
def fnExactLocalOfRow : OpenClaim := { program := "ytcfflflcbacapaagreat", sum := "7af790c7ba9497bb538c3feb032572ae4a046ba10f2e3f143ee4daf97988e017", func := "loop.example/g00880/laws.FnExactLocalOf", spec := "fnExactLocalOf", inPlace := ["math/bits.Sub64", "math/bits.Add64"], unfollowed := true, recurses := true, named := ["math/bits.divideError", "math/bits.overflowError"], apart := false }
def FnExactLocalOfSaid : Prop := fnExactLocalOfRow.holds Tryz.pinned (OpenSpec.ofChange fnExactLocalOfSpec)

/-- ITS FALSE NEIGHBOUR: 'it returns false'. Refute it at one input. -/
def fnExactLocalOfWrong : ChangeSpec := { name := "fnExactLocalOf", fn := fun _ => fun
  | [d1, d2] => { results := [.lit (.bool false)], args := [d1, d2] }
  | _ => none }
def FnExactLocalOfWrongFalsely : Prop := fnExactLocalOfRow.holds Tryz.pinned (OpenSpec.ofChange fnExactLocalOfWrong)

/-- 'laws.FnExactAzimuthalAngle': WHATEVER THE INPUT: true; the input reads as it did. -/
def fnExactAzimuthalAngleSpec : ChangeSpec := { name := "fnExactAzimuthalAngle", fn := fun _ => fun
  | [d1, d2] => { results := [.lit (.bool true)], args := [d1, d2] }
  | _ => none }
def fnExactAzimuthalAngleRow : OpenClaim := { program := "ytcfflflcbacapaagreat", sum := "7af790c7ba9497bb538c3feb032572ae4a046ba10f2e3f143ee4daf97988e017", func := "loop.example/g00880/laws.FnExactAzimuthalAngle", spec := "fnExactAzimuthalAngle", inPlace := ["math/bits.Sub64", "math/bits.Add64"], unfollowed := true, recurses := true, named := ["math/bits.divideError", "math/bits.overflowError"], apart := false }
def FnExactAzimuthalAngleSaid : Prop := fnExactAzimuthalAngleRow.holds Tryz.pinned (OpenSpec.ofChange fnExactAzimuthalAngleSpec)

/-- ITS FALSE NEIGHBOUR: 'it returns false'. Refute it at one input. -/
def fnExactAzimuthalAngleWrong : ChangeSpec := { name := "fnExactAzimuthalAngle", fn := fun _ => fun
  | [d1, d2] => { results := [.lit (.bool false)], args := [d1, d2] }
  | _ => none }
def FnExactAzimuthalAngleWrongFalsely : Prop := fnExactAzimuthalAngleRow.holds Tryz.pinned (OpenSpec.ofChange fnExactAzimuthalAngleWrong)

/-- 'laws.FnExactCylinderScales': WHATEVER THE INPUT: true; the input reads as it did. -/
def fnExactCylinderScalesSpec : ChangeSpec := { name := "fnExactCylinderScales", fn := fun _ => fun
  | [d1, d2] => { results := [.lit (.bool true)], args := [d1, d2] }
  | _ => none }
def fnExactCylinderScalesRow : OpenClaim := { program := "ytcfflflcbacapaagreat", sum := "7af790c7ba9497bb538c3feb032572ae4a046ba10f2e3f143ee4daf97988e017", func := "loop.example/g00880/laws.FnExactCylinderScales", spec := "fnExactCylinderScales", inPlace := ["math/bits.Sub64", "math/bits.Add64"], unfollowed := true, recurses := true, named := ["math/bits.divideError", "math/bits.overflowError"], apart := false }
def FnExactCylinderScalesSaid : Prop := fnExactCylinderScalesRow.holds Tryz.pinned (OpenSpec.ofChange fnExactCylinderScalesSpec)

/-- ITS FALSE NEIGHBOUR: 'it returns false'. Refute it at one input. -/
def fnExactCylinderScalesWrong : ChangeSpec := { name := "fnExactCylinderScales", fn := fun _ => fun
  | [d1, d2] => { results := [.lit (.bool false)], args := [d1, d2] }
  | _ => none }
def FnExactCylinderScalesWrongFalsely : Prop := fnExactCylinderScalesRow.holds Tryz.pinned (OpenSpec.ofChange fnExactCylinderScalesWrong)

/-- 'laws.FnExactSideAt': WHATEVER THE INPUT: true; the input reads as it did. -/
def fnExactSideAtSpec : ChangeSpec := { name := "fnExactSideAt", fn := fun _ => fun
  | [d1, d2, d3] => { results := [.lit (.bool true)], args := [d1, d2, d3] }
  | _ => none }
def fnExactSideAtRow : OpenClaim := { program := "ytcfflflcbacapaagreat", sum := "7af790c7ba9497bb538c3feb032572ae4a046ba10f2e3f143ee4daf97988e017", func := "loop.example/g00880/laws.FnExactSideAt", spec := "fnExactSideAt", inPlace := ["math/bits.Sub64", "math/bits.Add64"], unfollowed := true, recurses := true, named := ["math/bits.divideError", "math/bits.overflowError"], apart := false }
def FnExactSideAtSaid : Prop := fnExactSideAtRow.holds Tryz.pinned (OpenSpec.ofChange fnExactSideAtSpec)

/-- ITS FALSE NEIGHBOUR: 'it returns false'. Refute it at one input. -/
def fnExactSideAtWrong : ChangeSpec := { name := "fnExactSideAt", fn := fun _ => fun
  | [d1, d2, d3] => { results := [.lit (.bool false)], args := [d1, d2, d3] }
  | _ => none }
def FnExactSideAtWrongFalsely : Prop := fnExactSideAtRow.holds Tryz.pinned (OpenSpec.ofChange fnExactSideAtWrong)

/-- 'laws.FnExactToCartesian': WHATEVER THE INPUT: true; the input reads as it did. -/
def fnExactToCartesianSpec : ChangeSpec := { name := "fnExactToCartesian", fn := fun _ => fun
  | [d1, d2] => { results := [.lit (.bool true)], args := [d1, d2] }
  | _ => none }
def fnExactToCartesianRow : OpenClaim := { program := "ytcfflflcbacapaagreat", sum := "7af790c7ba9497bb538c3feb032572ae4a046ba10f2e3f143ee4daf97988e017", func := "loop.example/g00880/laws.FnExactToCartesian", spec := "fnExactToCartesian", inPlace := ["math/bits.Sub64", "math/bits.Add64"], unfollowed := true, recurses := true, named := ["math/bits.divideError", "math/bits.overflowError"], apart := false }
def FnExactToCartesianSaid : Prop := fnExactToCartesianRow.holds Tryz.pinned (OpenSpec.ofChange fnExactToCartesianSpec)

/-- ITS FALSE NEIGHBOUR: 'it returns false'. Refute it at one input. -/
def fnExactToCartesianWrong : ChangeSpec := { name := "fnExactToCartesian", fn := fun _ => fun
  | [d1, d2] => { results := [.lit (.bool false)], args := [d1, d2] }
  | _ => none }
def FnExactToCartesianWrongFalsely : Prop := fnExactToCartesianRow.holds Tryz.pinned (OpenSpec.ofChange fnExactToCartesianWrong)

/-- 'laws.FnExactLocalTo': WHATEVER THE INPUT: true; the input reads as it did. -/
def fnExactLocalToSpec : ChangeSpec := { name := "fnExactLocalTo", fn := fun _ => fun
  | [d1, d2, d3] => { results := [.lit (.bool true)], args := [d1, d2, d3] }
  | _ => none }
def fnExactLocalToRow : OpenClaim := { program := "ytcfflflcbacapaagreat", sum := "7af790c7ba9497bb538c3feb032572ae4a046ba10f2e3f143ee4daf97988e017", func := "loop.example/g00880/laws.FnExactLocalTo", spec := "fnExactLocalTo", inPlace := ["math/bits.Sub64", "math/bits.Add64"], unfollowed := true, recurses := true, named := ["math/bits.divideError", "math/bits.overflowError"], apart := false }
def FnExactLocalToSaid : Prop := fnExactLocalToRow.holds Tryz.pinned (OpenSpec.ofChange fnExactLocalToSpec)

/-- ITS FALSE NEIGHBOUR: 'it returns false'. Refute it at one input. -/
def fnExactLocalToWrong : ChangeSpec := { name := "fnExactLocalTo", fn := fun _ => fun
  | [d1, d2, d3] => { results := [.lit (.bool false)], args := [d1, d2, d3] }
  | _ => none }
def FnExactLocalToWrongFalsely : Prop := fnExactLocalToRow.holds Tryz.pinned (OpenSpec.ofChange fnExactLocalToWrong)

/-- 'laws.FnExactChordBetween': WHATEVER THE INPUT: true; the input reads as it did. -/
def fnExactChordBetweenSpec : ChangeSpec := { name := "fnExactChordBetween", fn := fun _ => fun
  | [d1, d2, d3] => { results := [.lit (.bool true)], args := [d1, d2, d3] }
  | _ => none }
def fnExactChordBetweenRow : OpenClaim := { program := "ytcfflflcbacapaagreat", sum := "7af790c7ba9497bb538c3feb032572ae4a046ba10f2e3f143ee4daf97988e017", func := "loop.example/g00880/laws.FnExactChordBetween", spec := "fnExactChordBetween", inPlace := ["math/bits.Sub64", "math/bits.Add64"], unfollowed := true, recurses := true, named := ["math/bits.divideError", "math/bits.overflowError"], apart := false }
def FnExactChordBetweenSaid : Prop := fnExactChordBetweenRow.holds Tryz.pinned (OpenSpec.ofChange fnExactChordBetweenSpec)

/-- ITS FALSE NEIGHBOUR: 'it returns false'. Refute it at one input. -/
def fnExactChordBetweenWrong : ChangeSpec := { name := "fnExactChordBetween", fn := fun _ => fun
  | [d1, d2, d3] => { results := [.lit (.bool false)], args := [d1, d2, d3] }
  | _ => none }
def FnExactChordBetweenWrongFalsely : Prop := fnExactChordBetweenRow.holds Tryz.pinned (OpenSpec.ofChange fnExactChordBetweenWrong)

/-- 'laws.FnExactLatitudeOf': WHATEVER THE INPUT: true; the input reads as it did. -/
def fnExactLatitudeOfSpec : ChangeSpec := { name := "fnExactLatitudeOf", fn := fun _ => fun
  | [d1, d2] => { results := [.lit (.bool true)], args := [d1, d2] }
  | _ => none }
def fnExactLatitudeOfRow : OpenClaim := { program := "ytcfflflcbacapaagreat", sum := "7af790c7ba9497bb538c3feb032572ae4a046ba10f2e3f143ee4daf97988e017", func := "loop.example/g00880/laws.FnExactLatitudeOf", spec := "fnExactLatitudeOf", inPlace := ["math/bits.Add64", "math/bits.Sub64"], unfollowed := true, recurses := true, named := ["math/bits.divideError", "math/bits.overflowError"], apart := false }
def FnExactLatitudeOfSaid : Prop := fnExactLatitudeOfRow.holds Tryz.pinned (OpenSpec.ofChange fnExactLatitudeOfSpec)

/-- ITS FALSE NEIGHBOUR: 'it returns false'. Refute it at one input. -/
def fnExactLatitudeOfWrong : ChangeSpec := { name := "fnExactLatitudeOf", fn := fun _ => fun
  | [d1, d2] => { results := [.lit (.bool false)], args := [d1, d2] }
  | _ => none }
def FnExactLatitudeOfWrongFalsely : Prop := fnExactLatitudeOfRow.holds Tryz.pinned (OpenSpec.ofChange fnExactLatitudeOfWrong)

/-- 'laws.FnExactFromCartesian': WHATEVER THE INPUT: true; the input reads as it did. -/
def fnExactFromCartesianSpec : ChangeSpec := { name := "fnExactFromCartesian", fn := fun _ => fun
  | [d1, d2] => { results := [.lit (.bool true)], args := [d1, d2] }
  | _ => none }
def fnExactFromCartesianRow : OpenClaim := { program := "ytcfflflcbacapaagreat", sum := "7af790c7ba9497bb538c3feb032572ae4a046ba10f2e3f143ee4daf97988e017", func := "loop.example/g00880/laws.FnExactFromCartesian", spec := "fnExactFromCartesian", inPlace := ["math/bits.Add64", "math/bits.Sub64"], unfollowed := true, recurses := true, named := ["math/bits.divideError", "math/bits.overflowError"], apart := false }
def FnExactFromCartesianSaid : Prop := fnExactFromCartesianRow.holds Tryz.pinned (OpenSpec.ofChange fnExactFromCartesianSpec)

/-- ITS FALSE NEIGHBOUR: 'it returns false'. Refute it at one input. -/
def fnExactFromCartesianWrong : ChangeSpec := { name := "fnExactFromCartesian", fn := fun _ => fun
  | [d1, d2] => { results := [.lit (.bool false)], args := [d1, d2] }
  | _ => none }
def FnExactFromCartesianWrongFalsely : Prop := fnExactFromCartesianRow.holds Tryz.pinned (OpenSpec.ofChange fnExactFromCartesianWrong)

/-- 'laws.FnExactInsideOf': WHATEVER THE INPUT: true; the input reads as it did. -/
def fnExactInsideOfSpec : ChangeSpec := { name := "fnExactInsideOf", fn := fun _ => fun
  | [d1, d2] => { results := [.lit (.bool true)], args := [d1, d2] }
  | _ => none }
def fnExactInsideOfRow : OpenClaim := { program := "ytcfflflcbacapaagreat", sum := "7af790c7ba9497bb538c3feb032572ae4a046ba10f2e3f143ee4daf97988e017", func := "loop.example/g00880/laws.FnExactInsideOf", spec := "fnExactInsideOf", inPlace := ["math/bits.Add64", "math/bits.Sub64"], unfollowed := true, recurses := true, named := ["math/bits.divideError", "math/bits.overflowError"], apart := false }
def FnExactInsideOfSaid : Prop := fnExactInsideOfRow.holds Tryz.pinned (OpenSpec.ofChange fnExactInsideOfSpec)

/-- ITS FALSE NEIGHBOUR: 'it returns false'. Refute it at one input. -/
def fnExactInsideOfWrong : ChangeSpec := { name := "fnExactInsideOf", fn := fun _ => fun
  | [d1, d2] => { results := [.lit (.bool false)], args := [d1, d2] }
  | _ => none }
def FnExactInsideOfWrongFalsely : Prop := fnExactInsideOfRow.holds Tryz.pinned (OpenSpec.ofChange fnExactInsideOfWrong)

/-- 'laws.FnExactZoneArea': WHATEVER THE INPUT: true; the input reads as it did. -/
def fnExactZoneAreaSpec : ChangeSpec := { name := "fnExactZoneArea", fn := fun _ => fun
  | [d1, d2, d3] => { results := [.lit (.bool true)], args := [d1, d2, d3] }
  | _ => none }
def fnExactZoneAreaRow : OpenClaim := { program := "ytcfflflcbacapaagreat", sum := "7af790c7ba9497bb538c3feb032572ae4a046ba10f2e3f143ee4daf97988e017", func := "loop.example/g00880/laws.FnExactZoneArea", spec := "fnExactZoneArea", inPlace := ["math/bits.Sub64", "math/bits.Add64"], unfollowed := true, recurses := true, named := ["math/bits.divideError", "math/bits.overflowError"], apart := false }
def FnExactZoneAreaSaid : Prop := fnExactZoneAreaRow.holds Tryz.pinned (OpenSpec.ofChange fnExactZoneAreaSpec)

/-- ITS FALSE NEIGHBOUR: 'it returns false'. Refute it at one input. -/
def fnExactZoneAreaWrong : ChangeSpec := { name := "fnExactZoneArea", fn := fun _ => fun
  | [d1, d2, d3] => { results := [.lit (.bool false)], args := [d1, d2, d3] }
  | _ => none }
def FnExactZoneAreaWrongFalsely : Prop := fnExactZoneAreaRow.holds Tryz.pinned (OpenSpec.ofChange fnExactZoneAreaWrong)

/-- 'laws.FnExactRhumbTo': WHATEVER THE INPUT: true; the input reads as it did. -/
def fnExactRhumbToSpec : ChangeSpec := { name := "fnExactRhumbTo", fn := fun _ => fun
  | [d1, d2] => { results := [.lit (.bool true)], args := [d1, d2] }
  | _ => none }
def fnExactRhumbToRow : OpenClaim := { program := "ytcfflflcbacapaagreat", sum := "7af790c7ba9497bb538c3feb032572ae4a046ba10f2e3f143ee4daf97988e017", func := "loop.example/g00880/laws.FnExactRhumbTo", spec := "fnExactRhumbTo", inPlace := ["math/bits.Sub64", "math/bits.Add64"], unfollowed := true, recurses := true, named := ["math/bits.divideError", "math/bits.overflowError"], apart := false }
def FnExactRhumbToSaid : Prop := fnExactRhumbToRow.holds Tryz.pinned (OpenSpec.ofChange fnExactRhumbToSpec)

/-- ITS FALSE NEIGHBOUR: 'it returns false'. Refute it at one input. -/
def fnExactRhumbToWrong : ChangeSpec := { name := "fnExactRhumbTo", fn := fun _ => fun
  | [d1, d2] => { results := [.lit (.bool false)], args := [d1, d2] }
  | _ => none }
def FnExactRhumbToWrongFalsely : Prop := fnExactRhumbToRow.holds Tryz.pinned (OpenSpec.ofChange fnExactRhumbToWrong)

/- THE SECOND FORM. 'bulk': how many values and letters a reading holds, each counted each time it is reached (what is shared counts as often as it is met; a slice's spare places count too). A statement '..UptoSaid' is the law's where the arguments, and the package variables that the reading takes, are together of bulk at most 1048576: NARROWER than '..Said'. Prove '..Said' where nothing that the law and all that it calls make is longer than what came in: it says more and counts as full. Else prove '..UptoSaid'. A law counts once. -/
mutual
def uptoBulk {H : Type} : DataW H → Nat
  | .lit (.string bytes) => bytes.length + 1
  | .lit _ => 1
  | .nil => 1
  | .ptr d => uptoBulk d + 1
  | .slice elems spare => uptoBulkAll elems + uptoBulkAll spare + 1
  | .agg parts => uptoBulkAll parts + 1
  | .iface _ d => uptoBulk d + 1
  | .map entries => uptoBulkEntries entries + 1
  | .held _ => 1
def uptoBulkAll {H : Type} : List (DataW H) → Nat
  | [] => 0
  | d :: r => uptoBulk d + uptoBulkAll r
def uptoBulkEntries {H : Type} : List (Lit × DataW H) → Nat
  | [] => 0
  | x :: r => uptoBulkEntry x + uptoBulkEntries r
def uptoBulkEntry {H : Type} : Lit × DataW H → Nat
  | (.string bytes, d) => bytes.length + uptoBulk d + 1
  | (_, d) => uptoBulk d + 1
 end
def uptoSmall : (H : Type) → List (DataW H) → Bool := fun _ ds => decide (uptoBulkAll ds ≤ 1048576)
def OpenSpec.upto (s : _root_.Go.ChangeSpec) : _root_.Go.OpenSpec := { _root_.Go.OpenSpec.ofChange s with cond := some uptoSmall }

/-- 'laws.FnExactLocalOf', WHERE WHAT IT READS IS OF BULK AT MOST 1048576: true; the input reads as it did. -/
def fnExactLocalOfUptoRow : OpenClaim := { program := "ytcfflflcbacapaagreat", sum := "7af790c7ba9497bb538c3feb032572ae4a046ba10f2e3f143ee4daf97988e017", func := "loop.example/g00880/laws.FnExactLocalOf", spec := "fnExactLocalOf", inPlace := ["math/bits.Sub64", "math/bits.Add64"], unfollowed := true, recurses := true, named := ["math/bits.divideError", "math/bits.overflowError"], apart := false, narrowed := true }
def FnExactLocalOfUptoSaid : Prop := fnExactLocalOfUptoRow.holds Tryz.pinned (OpenSpec.upto fnExactLocalOfSpec)

/-- 'laws.FnExactAzimuthalAngle', WHERE WHAT IT READS IS OF BULK AT MOST 1048576: true; the input reads as it did. -/
def fnExactAzimuthalAngleUptoRow : OpenClaim := { program := "ytcfflflcbacapaagreat", sum := "7af790c7ba9497bb538c3feb032572ae4a046ba10f2e3f143ee4daf97988e017", func := "loop.example/g00880/laws.FnExactAzimuthalAngle", spec := "fnExactAzimuthalAngle", inPlace := ["math/bits.Sub64", "math/bits.Add64"], unfollowed := true, recurses := true, named := ["math/bits.divideError", "math/bits.overflowError"], apart := false, narrowed := true }
def FnExactAzimuthalAngleUptoSaid : Prop := fnExactAzimuthalAngleUptoRow.holds Tryz.pinned (OpenSpec.upto fnExactAzimuthalAngleSpec)

/-- 'laws.FnExactCylinderScales', WHERE WHAT IT READS IS OF BULK AT MOST 1048576: true; the input reads as it did. -/
def fnExactCylinderScalesUptoRow : OpenClaim := { program := "ytcfflflcbacapaagreat", sum := "7af790c7ba9497bb538c3feb032572ae4a046ba10f2e3f143ee4daf97988e017", func := "loop.example/g00880/laws.FnExactCylinderScales", spec := "fnExactCylinderScales", inPlace := ["math/bits.Sub64", "math/bits.Add64"], unfollowed := true, recurses := true, named := ["math/bits.divideError", "math/bits.overflowError"], apart := false, narrowed := true }
def FnExactCylinderScalesUptoSaid : Prop := fnExactCylinderScalesUptoRow.holds Tryz.pinned (OpenSpec.upto fnExactCylinderScalesSpec)

/-- 'laws.FnExactSideAt', WHERE WHAT IT READS IS OF BULK AT MOST 1048576: true; the input reads as it did. -/
def fnExactSideAtUptoRow : OpenClaim := { program := "ytcfflflcbacapaagreat", sum := "7af790c7ba9497bb538c3feb032572ae4a046ba10f2e3f143ee4daf97988e017", func := "loop.example/g00880/laws.FnExactSideAt", spec := "fnExactSideAt", inPlace := ["math/bits.Sub64", "math/bits.Add64"], unfollowed := true, recurses := true, named := ["math/bits.divideError", "math/bits.overflowError"], apart := false, narrowed := true }
def FnExactSideAtUptoSaid : Prop := fnExactSideAtUptoRow.holds Tryz.pinned (OpenSpec.upto fnExactSideAtSpec)

/-- 'laws.FnExactToCartesian', WHERE WHAT IT READS IS OF BULK AT MOST 1048576: true; the input reads as it did. -/
def fnExactToCartesianUptoRow : OpenClaim := { program := "ytcfflflcbacapaagreat", sum := "7af790c7ba9497bb538c3feb032572ae4a046ba10f2e3f143ee4daf97988e017", func := "loop.example/g00880/laws.FnExactToCartesian", spec := "fnExactToCartesian", inPlace := ["math/bits.Sub64", "math/bits.Add64"], unfollowed := true, recurses := true, named := ["math/bits.divideError", "math/bits.overflowError"], apart := false, narrowed := true }
def FnExactToCartesianUptoSaid : Prop := fnExactToCartesianUptoRow.holds Tryz.pinned (OpenSpec.upto fnExactToCartesianSpec)

/-- 'laws.FnExactLocalTo', WHERE WHAT IT READS IS OF BULK AT MOST 1048576: true; the input reads as it did. -/
def fnExactLocalToUptoRow : OpenClaim := { program := "ytcfflflcbacapaagreat", sum := "7af790c7ba9497bb538c3feb032572ae4a046ba10f2e3f143ee4daf97988e017", func := "loop.example/g00880/laws.FnExactLocalTo", spec := "fnExactLocalTo", inPlace := ["math/bits.Sub64", "math/bits.Add64"], unfollowed := true, recurses := true, named := ["math/bits.divideError", "math/bits.overflowError"], apart := false, narrowed := true }
def FnExactLocalToUptoSaid : Prop := fnExactLocalToUptoRow.holds Tryz.pinned (OpenSpec.upto fnExactLocalToSpec)

/-- 'laws.FnExactChordBetween', WHERE WHAT IT READS IS OF BULK AT MOST 1048576: true; the input reads as it did. -/
def fnExactChordBetweenUptoRow : OpenClaim := { program := "ytcfflflcbacapaagreat", sum := "7af790c7ba9497bb538c3feb032572ae4a046ba10f2e3f143ee4daf97988e017", func := "loop.example/g00880/laws.FnExactChordBetween", spec := "fnExactChordBetween", inPlace := ["math/bits.Sub64", "math/bits.Add64"], unfollowed := true, recurses := true, named := ["math/bits.divideError", "math/bits.overflowError"], apart := false, narrowed := true }
def FnExactChordBetweenUptoSaid : Prop := fnExactChordBetweenUptoRow.holds Tryz.pinned (OpenSpec.upto fnExactChordBetweenSpec)

/-- 'laws.FnExactLatitudeOf', WHERE WHAT IT READS IS OF BULK AT MOST 1048576: true; the input reads as it did. -/
def fnExactLatitudeOfUptoRow : OpenClaim := { program := "ytcfflflcbacapaagreat", sum := "7af790c7ba9497bb538c3feb032572ae4a046ba10f2e3f143ee4daf97988e017", func := "loop.example/g00880/laws.FnExactLatitudeOf", spec := "fnExactLatitudeOf", inPlace := ["math/bits.Add64", "math/bits.Sub64"], unfollowed := true, recurses := true, named := ["math/bits.divideError", "math/bits.overflowError"], apart := false, narrowed := true }
def FnExactLatitudeOfUptoSaid : Prop := fnExactLatitudeOfUptoRow.holds Tryz.pinned (OpenSpec.upto fnExactLatitudeOfSpec)

/-- 'laws.FnExactFromCartesian', WHERE WHAT IT READS IS OF BULK AT MOST 1048576: true; the input reads as it did. -/
def fnExactFromCartesianUptoRow : OpenClaim := { program := "ytcfflflcbacapaagreat", sum := "7af790c7ba9497bb538c3feb032572ae4a046ba10f2e3f143ee4daf97988e017", func := "loop.example/g00880/laws.FnExactFromCartesian", spec := "fnExactFromCartesian", inPlace := ["math/bits.Add64", "math/bits.Sub64"], unfollowed := true, recurses := true, named := ["math/bits.divideError", "math/bits.overflowError"], apart := false, narrowed := true }
def FnExactFromCartesianUptoSaid : Prop := fnExactFromCartesianUptoRow.holds Tryz.pinned (OpenSpec.upto fnExactFromCartesianSpec)

/-- 'laws.FnExactInsideOf', WHERE WHAT IT READS IS OF BULK AT MOST 1048576: true; the input reads as it did. -/
def fnExactInsideOfUptoRow : OpenClaim := { program := "ytcfflflcbacapaagreat", sum := "7af790c7ba9497bb538c3feb032572ae4a046ba10f2e3f143ee4daf97988e017", func := "loop.example/g00880/laws.FnExactInsideOf", spec := "fnExactInsideOf", inPlace := ["math/bits.Add64", "math/bits.Sub64"], unfollowed := true, recurses := true, named := ["math/bits.divideError", "math/bits.overflowError"], apart := false, narrowed := true }
def FnExactInsideOfUptoSaid : Prop := fnExactInsideOfUptoRow.holds Tryz.pinned (OpenSpec.upto fnExactInsideOfSpec)

/-- 'laws.FnExactZoneArea', WHERE WHAT IT READS IS OF BULK AT MOST 1048576: true; the input reads as it did. -/
def fnExactZoneAreaUptoRow : OpenClaim := { program := "ytcfflflcbacapaagreat", sum := "7af790c7ba9497bb538c3feb032572ae4a046ba10f2e3f143ee4daf97988e017", func := "loop.example/g00880/laws.FnExactZoneArea", spec := "fnExactZoneArea", inPlace := ["math/bits.Sub64", "math/bits.Add64"], unfollowed := true, recurses := true, named := ["math/bits.divideError", "math/bits.overflowError"], apart := false, narrowed := true }
def FnExactZoneAreaUptoSaid : Prop := fnExactZoneAreaUptoRow.holds Tryz.pinned (OpenSpec.upto fnExactZoneAreaSpec)

/-- 'laws.FnExactRhumbTo', WHERE WHAT IT READS IS OF BULK AT MOST 1048576: true; the input reads as it did. -/
def fnExactRhumbToUptoRow : OpenClaim := { program := "ytcfflflcbacapaagreat", sum := "7af790c7ba9497bb538c3feb032572ae4a046ba10f2e3f143ee4daf97988e017", func := "loop.example/g00880/laws.FnExactRhumbTo", spec := "fnExactRhumbTo", inPlace := ["math/bits.Sub64", "math/bits.Add64"], unfollowed := true, recurses := true, named := ["math/bits.divideError", "math/bits.overflowError"], apart := false, narrowed := true }
def FnExactRhumbToUptoSaid : Prop := fnExactRhumbToUptoRow.holds Tryz.pinned (OpenSpec.upto fnExactRhumbToSpec)

end Rows
end Go.Proofs.YtcfflflcbacapaaGreat
