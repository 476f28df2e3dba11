/-
  No cell of these rows narrows 'for every input' (looked for: loops, veiled, ifaces, maps, wideKeys, modest, calm, conditions, laid).
  DERIVED. THE GIVEN ROWS OF THIS SEAT. 15 by the template 'for every input the law returns true; each argument reads behind the call as it read before'; 0 by the template 'total and deterministic' (their statements: YtecfhpgpojgjkaaGreatTotals.lean).
  GIVEN WITH THE SEED: the statements are not yours to turn. If you find one false, say at which input.
  Laid BY PROGRAM, IN A SANDBOX (cutbox-rows.mjs): the forced cells as the released guide's own fill.sh prints them over the translation 5896b1b4935ba833… (all of the seat's roots in one cut). By AI agents, Wed Nov 11 2026. No macro, syntax, notation, axiom, sorry.
-/
import Derived.Test.YtecfhpgpojgjkaaGreatChecked
import GoSem.Claim
import GoSem.ClaimJoined
import GoSem.ClaimMapViews
import Derived.JoinedTies
import Derived.KernelRfl
namespace Go.Proofs.YtecfhpgpojgjkaaGreat
/- THE CELL 'sum', in the pinned program and in every row, IS THE sha256 OF THE DUMP (.gsa) THAT YtecfhpgpojgjkaaGreatProg.lean LOADS. Nothing in Lean hashes anything: it is a label: what it is worth is what the hold of that sum in a sandbox is worth. -/
noncomputable def Tryz.pinned : Pinned := { name := "ytecfhpgpojgjkaagreat", sum := "5896b1b4935ba833a1e5f4b64812dca843b293f5136e7a05dd4e7c3b6ff8af49", checked := Tryz.checked }
namespace Rows
def none {H : Type} : Left H := { results := [], args := [] }

/-- 'laws.FnExactCylinderForward': WHATEVER THE INPUT: true; the input reads as it did. -/
def fnExactCylinderForwardSpec : ChangeSpec := { name := "fnExactCylinderForward", fn := fun _ => fun
  | [d1, d2] => { results := [.lit (.bool true)], args := [d1, d2] }
  | _ => none }
def fnExactCylinderForwardRow : OpenClaim := { program := "ytecfhpgpojgjkaagreat", sum := "5896b1b4935ba833a1e5f4b64812dca843b293f5136e7a05dd4e7c3b6ff8af49", func := "loop.example/g00880/laws.FnExactCylinderForward", spec := "fnExactCylinderForward", inPlace := ["math/bits.Sub64", "math/bits.Add64"], unfollowed := true, recurses := true, named := ["math/bits.divideError", "math/bits.overflowError"], apart := false }
def FnExactCylinderForwardSaid : Prop := fnExactCylinderForwardRow.holds Tryz.pinned (OpenSpec.ofChange fnExactCylinderForwardSpec)

/-- ITS FALSE NEIGHBOUR: 'it returns false'. Refute it at one input. -/
def fnExactCylinderForwardWrong : ChangeSpec := { name := "fnExactCylinderForward", fn := fun _ => fun
  | [d1, d2] => { results := [.lit (.bool false)], args := [d1, d2] }
  | _ => none }
def FnExactCylinderForwardWrongFalsely : Prop := fnExactCylinderForwardRow.holds Tryz.pinned (OpenSpec.ofChange fnExactCylinderForwardWrong)

/-- 'laws.FnExactCylinderInverse': WHATEVER THE INPUT: true; the input reads as it did. -/
def fnExactCylinderInverseSpec : ChangeSpec := { name := "fnExactCylinderInverse", fn := fun _ => fun
  | [d1, d2] => { results := [.lit (.bool true)], args := [d1, d2] }
  | _ => none }
def fnExactCylinderInverseRow : OpenClaim := { program := "ytecfhpgpojgjkaagreat", sum := "5896b1b4935ba833a1e5f4b64812dca843b293f5136e7a05dd4e7c3b6ff8af49", func := "loop.example/g00880/laws.FnExactCylinderInverse", spec := "fnExactCylinderInverse", inPlace := ["math/bits.Sub64", "math/bits.Add64"], unfollowed := true, recurses := true, named := ["math/bits.divideError", "math/bits.overflowError"], apart := false }
def FnExactCylinderInverseSaid : Prop := fnExactCylinderInverseRow.holds Tryz.pinned (OpenSpec.ofChange fnExactCylinderInverseSpec)

/-- ITS FALSE NEIGHBOUR: 'it returns false'. Refute it at one input. -/
def fnExactCylinderInverseWrong : ChangeSpec := { name := "fnExactCylinderInverse", fn := fun _ => fun
  | [d1, d2] => { results := [.lit (.bool false)], args := [d1, d2] }
  | _ => none }
def FnExactCylinderInverseWrongFalsely : Prop := fnExactCylinderInverseRow.holds Tryz.pinned (OpenSpec.ofChange fnExactCylinderInverseWrong)

/-- 'laws.FnExactLatitudeAt': WHATEVER THE INPUT: true; the input reads as it did. -/
def fnExactLatitudeAtSpec : ChangeSpec := { name := "fnExactLatitudeAt", fn := fun _ => fun
  | [d1, d2, d3] => { results := [.lit (.bool true)], args := [d1, d2, d3] }
  | _ => none }
def fnExactLatitudeAtRow : OpenClaim := { program := "ytecfhpgpojgjkaagreat", sum := "5896b1b4935ba833a1e5f4b64812dca843b293f5136e7a05dd4e7c3b6ff8af49", func := "loop.example/g00880/laws.FnExactLatitudeAt", spec := "fnExactLatitudeAt", inPlace := ["math/bits.Sub64", "math/bits.Add64"], unfollowed := true, recurses := true, named := ["math/bits.divideError", "math/bits.overflowError"], apart := false }
def FnExactLatitudeAtSaid : Prop := fnExactLatitudeAtRow.holds Tryz.pinned (OpenSpec.ofChange fnExactLatitudeAtSpec)

/-- ITS FALSE NEIGHBOUR: 'it returns false'. Refute it at one input. -/
def fnExactLatitudeAtWrong : ChangeSpec := { name := "fnExactLatitudeAt", fn := fun _ => fun
  | [d1, d2, d3] => { results := [.lit (.bool false)], args := [d1, d2, d3] }
  | _ => none }
def FnExactLatitudeAtWrongFalsely : Prop := fnExactLatitudeAtRow.holds Tryz.pinned (OpenSpec.ofChange fnExactLatitudeAtWrong)

/-- 'laws.FnExactLatitudeI': WHATEVER THE INPUT: true; the input reads as it did. -/
def fnExactLatitudeISpec : ChangeSpec := { name := "fnExactLatitudeI", fn := fun _ => fun
  | [d1, d2, d3] => { results := [.lit (.bool true)], args := [d1, d2, d3] }
  | _ => none }
def fnExactLatitudeIRow : OpenClaim := { program := "ytecfhpgpojgjkaagreat", sum := "5896b1b4935ba833a1e5f4b64812dca843b293f5136e7a05dd4e7c3b6ff8af49", func := "loop.example/g00880/laws.FnExactLatitudeI", spec := "fnExactLatitudeI", inPlace := ["math/bits.Sub64", "math/bits.Add64"], unfollowed := true, recurses := true, named := ["math/bits.divideError", "math/bits.overflowError"], apart := false }
def FnExactLatitudeISaid : Prop := fnExactLatitudeIRow.holds Tryz.pinned (OpenSpec.ofChange fnExactLatitudeISpec)

/-- ITS FALSE NEIGHBOUR: 'it returns false'. Refute it at one input. -/
def fnExactLatitudeIWrong : ChangeSpec := { name := "fnExactLatitudeI", fn := fun _ => fun
  | [d1, d2, d3] => { results := [.lit (.bool false)], args := [d1, d2, d3] }
  | _ => none }
def FnExactLatitudeIWrongFalsely : Prop := fnExactLatitudeIRow.holds Tryz.pinned (OpenSpec.ofChange fnExactLatitudeIWrong)

/-- 'laws.FnExactInverseLatitude': WHATEVER THE INPUT: true; the input reads as it did. -/
def fnExactInverseLatitudeSpec : ChangeSpec := { name := "fnExactInverseLatitude", fn := fun _ => fun
  | [d1, d2, d3] => { results := [.lit (.bool true)], args := [d1, d2, d3] }
  | _ => none }
def fnExactInverseLatitudeRow : OpenClaim := { program := "ytecfhpgpojgjkaagreat", sum := "5896b1b4935ba833a1e5f4b64812dca843b293f5136e7a05dd4e7c3b6ff8af49", func := "loop.example/g00880/laws.FnExactInverseLatitude", spec := "fnExactInverseLatitude", inPlace := ["math/bits.Sub64", "math/bits.Add64"], unfollowed := true, recurses := true, named := ["math/bits.divideError", "math/bits.overflowError"], apart := false }
def FnExactInverseLatitudeSaid : Prop := fnExactInverseLatitudeRow.holds Tryz.pinned (OpenSpec.ofChange fnExactInverseLatitudeSpec)

/-- ITS FALSE NEIGHBOUR: 'it returns false'. Refute it at one input. -/
def fnExactInverseLatitudeWrong : ChangeSpec := { name := "fnExactInverseLatitude", fn := fun _ => fun
  | [d1, d2, d3] => { results := [.lit (.bool false)], args := [d1, d2, d3] }
  | _ => none }
def FnExactInverseLatitudeWrongFalsely : Prop := fnExactInverseLatitudeRow.holds Tryz.pinned (OpenSpec.ofChange fnExactInverseLatitudeWrong)

/-- 'laws.FnExactConvertLatitude': WHATEVER THE INPUT: true; the input reads as it did. -/
def fnExactConvertLatitudeSpec : ChangeSpec := { name := "fnExactConvertLatitude", fn := fun _ => fun
  | [d1, d2, d3, d4] => { results := [.lit (.bool true)], args := [d1, d2, d3, d4] }
  | _ => none }
def fnExactConvertLatitudeRow : OpenClaim := { program := "ytecfhpgpojgjkaagreat", sum := "5896b1b4935ba833a1e5f4b64812dca843b293f5136e7a05dd4e7c3b6ff8af49", func := "loop.example/g00880/laws.FnExactConvertLatitude", spec := "fnExactConvertLatitude", inPlace := ["math/bits.Sub64", "math/bits.Add64"], unfollowed := true, recurses := true, named := ["math/bits.divideError", "math/bits.overflowError"], apart := false }
def FnExactConvertLatitudeSaid : Prop := fnExactConvertLatitudeRow.holds Tryz.pinned (OpenSpec.ofChange fnExactConvertLatitudeSpec)

/-- ITS FALSE NEIGHBOUR: 'it returns false'. Refute it at one input. -/
def fnExactConvertLatitudeWrong : ChangeSpec := { name := "fnExactConvertLatitude", fn := fun _ => fun
  | [d1, d2, d3, d4] => { results := [.lit (.bool false)], args := [d1, d2, d3, d4] }
  | _ => none }
def FnExactConvertLatitudeWrongFalsely : Prop := fnExactConvertLatitudeRow.holds Tryz.pinned (OpenSpec.ofChange fnExactConvertLatitudeWrong)

/-- 'laws.FnExactOmegaStart': WHATEVER THE INPUT: true; the input reads as it did. -/
def fnExactOmegaStartSpec : ChangeSpec := { name := "fnExactOmegaStart", fn := fun _ => fun
  | [d1, d2, d3] => { results := [.lit (.bool true)], args := [d1, d2, d3] }
  | _ => none }
def fnExactOmegaStartRow : OpenClaim := { program := "ytecfhpgpojgjkaagreat", sum := "5896b1b4935ba833a1e5f4b64812dca843b293f5136e7a05dd4e7c3b6ff8af49", func := "loop.example/g00880/laws.FnExactOmegaStart", spec := "fnExactOmegaStart", inPlace := ["math/bits.Sub64", "math/bits.Add64"], unfollowed := true, recurses := true, named := ["math/bits.divideError", "math/bits.overflowError"], apart := false }
def FnExactOmegaStartSaid : Prop := fnExactOmegaStartRow.holds Tryz.pinned (OpenSpec.ofChange fnExactOmegaStartSpec)

/-- ITS FALSE NEIGHBOUR: 'it returns false'. Refute it at one input. -/
def fnExactOmegaStartWrong : ChangeSpec := { name := "fnExactOmegaStart", fn := fun _ => fun
  | [d1, d2, d3] => { results := [.lit (.bool false)], args := [d1, d2, d3] }
  | _ => none }
def FnExactOmegaStartWrongFalsely : Prop := fnExactOmegaStartRow.holds Tryz.pinned (OpenSpec.ofChange fnExactOmegaStartWrong)

/-- 'laws.FnExactReducedAngle': WHATEVER THE INPUT: true; the input reads as it did. -/
def fnExactReducedAngleSpec : ChangeSpec := { name := "fnExactReducedAngle", fn := fun _ => fun
  | [d1, d2, d3, d4] => { results := [.lit (.bool true)], args := [d1, d2, d3, d4] }
  | _ => none }
def fnExactReducedAngleRow : OpenClaim := { program := "ytecfhpgpojgjkaagreat", sum := "5896b1b4935ba833a1e5f4b64812dca843b293f5136e7a05dd4e7c3b6ff8af49", func := "loop.example/g00880/laws.FnExactReducedAngle", spec := "fnExactReducedAngle", inPlace := ["math/bits.Sub64", "math/bits.Add64"], unfollowed := true, recurses := true, named := ["math/bits.divideError", "math/bits.overflowError"], apart := false }
def FnExactReducedAngleSaid : Prop := fnExactReducedAngleRow.holds Tryz.pinned (OpenSpec.ofChange fnExactReducedAngleSpec)

/-- ITS FALSE NEIGHBOUR: 'it returns false'. Refute it at one input. -/
def fnExactReducedAngleWrong : ChangeSpec := { name := "fnExactReducedAngle", fn := fun _ => fun
  | [d1, d2, d3, d4] => { results := [.lit (.bool false)], args := [d1, d2, d3, d4] }
  | _ => none }
def FnExactReducedAngleWrongFalsely : Prop := fnExactReducedAngleRow.holds Tryz.pinned (OpenSpec.ofChange fnExactReducedAngleWrong)

/-- 'laws.FnExactGeodesicBounds': WHATEVER THE INPUT: true; the input reads as it did. -/
def fnExactGeodesicBoundsSpec : ChangeSpec := { name := "fnExactGeodesicBounds", fn := fun _ => fun
  | [d1, d2, d3] => { results := [.lit (.bool true)], args := [d1, d2, d3] }
  | _ => none }
def fnExactGeodesicBoundsRow : OpenClaim := { program := "ytecfhpgpojgjkaagreat", sum := "5896b1b4935ba833a1e5f4b64812dca843b293f5136e7a05dd4e7c3b6ff8af49", func := "loop.example/g00880/laws.FnExactGeodesicBounds", spec := "fnExactGeodesicBounds", inPlace := ["math/bits.Sub64", "math/bits.Add64"], unfollowed := true, recurses := true, named := ["math/bits.divideError", "math/bits.overflowError"], apart := false }
def FnExactGeodesicBoundsSaid : Prop := fnExactGeodesicBoundsRow.holds Tryz.pinned (OpenSpec.ofChange fnExactGeodesicBoundsSpec)

/-- ITS FALSE NEIGHBOUR: 'it returns false'. Refute it at one input. -/
def fnExactGeodesicBoundsWrong : ChangeSpec := { name := "fnExactGeodesicBounds", fn := fun _ => fun
  | [d1, d2, d3] => { results := [.lit (.bool false)], args := [d1, d2, d3] }
  | _ => none }
def FnExactGeodesicBoundsWrongFalsely : Prop := fnExactGeodesicBoundsRow.holds Tryz.pinned (OpenSpec.ofChange fnExactGeodesicBoundsWrong)

/-- 'laws.FnExactAzimuthalRadius': WHATEVER THE INPUT: true; the input reads as it did. -/
def fnExactAzimuthalRadiusSpec : ChangeSpec := { name := "fnExactAzimuthalRadius", fn := fun _ => fun
  | [d1, d2] => { results := [.lit (.bool true)], args := [d1, d2] }
  | _ => none }
def fnExactAzimuthalRadiusRow : OpenClaim := { program := "ytecfhpgpojgjkaagreat", sum := "5896b1b4935ba833a1e5f4b64812dca843b293f5136e7a05dd4e7c3b6ff8af49", func := "loop.example/g00880/laws.FnExactAzimuthalRadius", spec := "fnExactAzimuthalRadius", inPlace := ["math/bits.Sub64", "math/bits.Add64"], unfollowed := true, recurses := true, named := ["math/bits.divideError", "math/bits.overflowError"], apart := false }
def FnExactAzimuthalRadiusSaid : Prop := fnExactAzimuthalRadiusRow.holds Tryz.pinned (OpenSpec.ofChange fnExactAzimuthalRadiusSpec)

/-- ITS FALSE NEIGHBOUR: 'it returns false'. Refute it at one input. -/
def fnExactAzimuthalRadiusWrong : ChangeSpec := { name := "fnExactAzimuthalRadius", fn := fun _ => fun
  | [d1, d2] => { results := [.lit (.bool false)], args := [d1, d2] }
  | _ => none }
def FnExactAzimuthalRadiusWrongFalsely : Prop := fnExactAzimuthalRadiusRow.holds Tryz.pinned (OpenSpec.ofChange fnExactAzimuthalRadiusWrong)

/-- 'laws.FnExactOmegaStep': WHATEVER THE INPUT: true; the input reads as it did. -/
def fnExactOmegaStepSpec : ChangeSpec := { name := "fnExactOmegaStep", fn := fun _ => fun
  | [d1, d2, d3, d4, d5] => { results := [.lit (.bool true)], args := [d1, d2, d3, d4, d5] }
  | _ => none }
def fnExactOmegaStepRow : OpenClaim := { program := "ytecfhpgpojgjkaagreat", sum := "5896b1b4935ba833a1e5f4b64812dca843b293f5136e7a05dd4e7c3b6ff8af49", func := "loop.example/g00880/laws.FnExactOmegaStep", spec := "fnExactOmegaStep", inPlace := ["math/bits.Sub64", "math/bits.Add64"], unfollowed := true, recurses := true, named := ["math/bits.divideError", "math/bits.overflowError"], apart := false }
def FnExactOmegaStepSaid : Prop := fnExactOmegaStepRow.holds Tryz.pinned (OpenSpec.ofChange fnExactOmegaStepSpec)

/-- ITS FALSE NEIGHBOUR: 'it returns false'. Refute it at one input. -/
def fnExactOmegaStepWrong : ChangeSpec := { name := "fnExactOmegaStep", fn := fun _ => fun
  | [d1, d2, d3, d4, d5] => { results := [.lit (.bool false)], args := [d1, d2, d3, d4, d5] }
  | _ => none }
def FnExactOmegaStepWrongFalsely : Prop := fnExactOmegaStepRow.holds Tryz.pinned (OpenSpec.ofChange fnExactOmegaStepWrong)

/-- 'laws.FnExactGeodesicOmega': WHATEVER THE INPUT: true; the input reads as it did. -/
def fnExactGeodesicOmegaSpec : ChangeSpec := { name := "fnExactGeodesicOmega", fn := fun _ => fun
  | [d1, d2, d3, d4] => { results := [.lit (.bool true)], args := [d1, d2, d3, d4] }
  | _ => none }
def fnExactGeodesicOmegaRow : OpenClaim := { program := "ytecfhpgpojgjkaagreat", sum := "5896b1b4935ba833a1e5f4b64812dca843b293f5136e7a05dd4e7c3b6ff8af49", func := "loop.example/g00880/laws.FnExactGeodesicOmega", spec := "fnExactGeodesicOmega", inPlace := ["math/bits.Sub64", "math/bits.Add64"], unfollowed := true, recurses := true, named := ["math/bits.divideError", "math/bits.overflowError"], apart := false }
def FnExactGeodesicOmegaSaid : Prop := fnExactGeodesicOmegaRow.holds Tryz.pinned (OpenSpec.ofChange fnExactGeodesicOmegaSpec)

/-- ITS FALSE NEIGHBOUR: 'it returns false'. Refute it at one input. -/
def fnExactGeodesicOmegaWrong : ChangeSpec := { name := "fnExactGeodesicOmega", fn := fun _ => fun
  | [d1, d2, d3, d4] => { results := [.lit (.bool false)], args := [d1, d2, d3, d4] }
  | _ => none }
def FnExactGeodesicOmegaWrongFalsely : Prop := fnExactGeodesicOmegaRow.holds Tryz.pinned (OpenSpec.ofChange fnExactGeodesicOmegaWrong)

/-- 'laws.FnExactGeodesicAzimuth': WHATEVER THE INPUT: true; the input reads as it did. -/
def fnExactGeodesicAzimuthSpec : ChangeSpec := { name := "fnExactGeodesicAzimuth", fn := fun _ => fun
  | [d1, d2, d3, d4] => { results := [.lit (.bool true)], args := [d1, d2, d3, d4] }
  | _ => none }
def fnExactGeodesicAzimuthRow : OpenClaim := { program := "ytecfhpgpojgjkaagreat", sum := "5896b1b4935ba833a1e5f4b64812dca843b293f5136e7a05dd4e7c3b6ff8af49", func := "loop.example/g00880/laws.FnExactGeodesicAzimuth", spec := "fnExactGeodesicAzimuth", inPlace := ["math/bits.Sub64", "math/bits.Add64"], unfollowed := true, recurses := true, named := ["math/bits.divideError", "math/bits.overflowError"], apart := false }
def FnExactGeodesicAzimuthSaid : Prop := fnExactGeodesicAzimuthRow.holds Tryz.pinned (OpenSpec.ofChange fnExactGeodesicAzimuthSpec)

/-- ITS FALSE NEIGHBOUR: 'it returns false'. Refute it at one input. -/
def fnExactGeodesicAzimuthWrong : ChangeSpec := { name := "fnExactGeodesicAzimuth", fn := fun _ => fun
  | [d1, d2, d3, d4] => { results := [.lit (.bool false)], args := [d1, d2, d3, d4] }
  | _ => none }
def FnExactGeodesicAzimuthWrongFalsely : Prop := fnExactGeodesicAzimuthRow.holds Tryz.pinned (OpenSpec.ofChange fnExactGeodesicAzimuthWrong)

/-- 'laws.FnExactGeodesicLength': WHATEVER THE INPUT: true; the input reads as it did. -/
def fnExactGeodesicLengthSpec : ChangeSpec := { name := "fnExactGeodesicLength", fn := fun _ => fun
  | [d1, d2, d3, d4] => { results := [.lit (.bool true)], args := [d1, d2, d3, d4] }
  | _ => none }
def fnExactGeodesicLengthRow : OpenClaim := { program := "ytecfhpgpojgjkaagreat", sum := "5896b1b4935ba833a1e5f4b64812dca843b293f5136e7a05dd4e7c3b6ff8af49", func := "loop.example/g00880/laws.FnExactGeodesicLength", spec := "fnExactGeodesicLength", inPlace := ["math/bits.Sub64", "math/bits.Add64"], unfollowed := true, recurses := true, named := ["math/bits.divideError", "math/bits.overflowError"], apart := false }
def FnExactGeodesicLengthSaid : Prop := fnExactGeodesicLengthRow.holds Tryz.pinned (OpenSpec.ofChange fnExactGeodesicLengthSpec)

/-- ITS FALSE NEIGHBOUR: 'it returns false'. Refute it at one input. -/
def fnExactGeodesicLengthWrong : ChangeSpec := { name := "fnExactGeodesicLength", fn := fun _ => fun
  | [d1, d2, d3, d4] => { results := [.lit (.bool false)], args := [d1, d2, d3, d4] }
  | _ => none }
def FnExactGeodesicLengthWrongFalsely : Prop := fnExactGeodesicLengthRow.holds Tryz.pinned (OpenSpec.ofChange fnExactGeodesicLengthWrong)

/-- 'laws.FnExactPathLength': WHATEVER THE INPUT: true; the input reads as it did. -/
def fnExactPathLengthSpec : ChangeSpec := { name := "fnExactPathLength", fn := fun _ => fun
  | [d1, d2, d3] => { results := [.lit (.bool true)], args := [d1, d2, d3] }
  | _ => none }
def fnExactPathLengthRow : OpenClaim := { program := "ytecfhpgpojgjkaagreat", sum := "5896b1b4935ba833a1e5f4b64812dca843b293f5136e7a05dd4e7c3b6ff8af49", func := "loop.example/g00880/laws.FnExactPathLength", spec := "fnExactPathLength", inPlace := ["math/bits.Sub64", "math/bits.Add64"], unfollowed := true, recurses := true, named := ["math/bits.divideError", "math/bits.overflowError"], apart := false }
def FnExactPathLengthSaid : Prop := fnExactPathLengthRow.holds Tryz.pinned (OpenSpec.ofChange fnExactPathLengthSpec)

/-- ITS FALSE NEIGHBOUR: 'it returns false'. Refute it at one input. -/
def fnExactPathLengthWrong : ChangeSpec := { name := "fnExactPathLength", fn := fun _ => fun
  | [d1, d2, d3] => { results := [.lit (.bool false)], args := [d1, d2, d3] }
  | _ => none }
def FnExactPathLengthWrongFalsely : Prop := fnExactPathLengthRow.holds Tryz.pinned (OpenSpec.ofChange fnExactPathLengthWrong)

/- THE SECOND FORM. 'bulk': how many values and letters a reading holds, each counted each time it is reached (what is shared counts as often as it is met; a slice's spare places count too). A statement '..UptoSaid' is the law's where the arguments, and the package variables that the reading takes, are together of bulk at most 1048576: NARROWER than '..Said'. Prove '..Said' where nothing that the law and all that it calls make is longer than what came in: it says more and counts as full. Else prove '..UptoSaid'. A law counts once. -/
mutual
def uptoBulk {H : Type} : DataW H → Nat
  | .lit (.string bytes) => bytes.length + 1
  | .lit _ => 1
  | .nil => 1
  | .ptr d => uptoBulk d + 1
  | .slice elems spare => uptoBulkAll elems + uptoBulkAll spare + 1
  | .agg parts => uptoBulkAll parts + 1
  | .iface _ d => uptoBulk d + 1
  | .map entries => uptoBulkEntries entries + 1
  | .held _ => 1
def uptoBulkAll {H : Type} : List (DataW H) → Nat
  | [] => 0
  | d :: r => uptoBulk d + uptoBulkAll r
def uptoBulkEntries {H : Type} : List (Lit × DataW H) → Nat
  | [] => 0
  | x :: r => uptoBulkEntry x + uptoBulkEntries r
def uptoBulkEntry {H : Type} : Lit × DataW H → Nat
  | (.string bytes, d) => bytes.length + uptoBulk d + 1
  | (_, d) => uptoBulk d + 1
 end
def uptoSmall : (H : Type) → List (DataW H) → Bool := fun _ ds => decide (uptoBulkAll ds ≤ 1048576)
def OpenSpec.upto (s : _root_.Go.ChangeSpec) : _root_.Go.OpenSpec := { _root_.Go.OpenSpec.ofChange s with cond := some uptoSmall }

/-- 'laws.FnExactCylinderForward', WHERE WHAT IT READS IS OF BULK AT MOST 1048576: true; the input reads as it did. -/
def fnExactCylinderForwardUptoRow : OpenClaim := { program := "ytecfhpgpojgjkaagreat", sum := "5896b1b4935ba833a1e5f4b64812dca843b293f5136e7a05dd4e7c3b6ff8af49", func := "loop.example/g00880/laws.FnExactCylinderForward", spec := "fnExactCylinderForward", inPlace := ["math/bits.Sub64", "math/bits.Add64"], unfollowed := true, recurses := true, named := ["math/bits.divideError", "math/bits.overflowError"], apart := false, narrowed := true }
def FnExactCylinderForwardUptoSaid : Prop := fnExactCylinderForwardUptoRow.holds Tryz.pinned (OpenSpec.upto fnExactCylinderForwardSpec)

/-- 'laws.FnExactCylinderInverse', WHERE WHAT IT READS IS OF BULK AT MOST 1048576: true; the input reads as it did. -/
def fnExactCylinderInverseUptoRow : OpenClaim := { program := "ytecfhpgpojgjkaagreat", sum := "5896b1b4935ba833a1e5f4b64812dca843b293f5136e7a05dd4e7c3b6ff8af49", func := "loop.example/g00880/laws.FnExactCylinderInverse", spec := "fnExactCylinderInverse", inPlace := ["math/bits.Sub64", "math/bits.Add64"], unfollowed := true, recurses := true, named := ["math/bits.divideError", "math/bits.overflowError"], apart := false, narrowed := true }
def FnExactCylinderInverseUptoSaid : Prop := fnExactCylinderInverseUptoRow.holds Tryz.pinned (OpenSpec.upto fnExactCylinderInverseSpec)

/-- 'laws.FnExactLatitudeAt', WHERE WHAT IT READS IS OF BULK AT MOST 1048576: true; the input reads as it did. -/
def fnExactLatitudeAtUptoRow : OpenClaim := { program := "ytecfhpgpojgjkaagreat", sum := "5896b1b4935ba833a1e5f4b64812dca843b293f5136e7a05dd4e7c3b6ff8af49", func := "loop.example/g00880/laws.FnExactLatitudeAt", spec := "fnExactLatitudeAt", inPlace := ["math/bits.Sub64", "math/bits.Add64"], unfollowed := true, recurses := true, named := ["math/bits.divideError", "math/bits.overflowError"], apart := false, narrowed := true }
def FnExactLatitudeAtUptoSaid : Prop := fnExactLatitudeAtUptoRow.holds Tryz.pinned (OpenSpec.upto fnExactLatitudeAtSpec)

/-- 'laws.FnExactLatitudeI', WHERE WHAT IT READS IS OF BULK AT MOST 1048576: true; the input reads as it did. -/
def fnExactLatitudeIUptoRow : OpenClaim := { program := "ytecfhpgpojgjkaagreat", sum := "5896b1b4935ba833a1e5f4b64812dca843b293f5136e7a05dd4e7c3b6ff8af49", func := "loop.example/g00880/laws.FnExactLatitudeI", spec := "fnExactLatitudeI", inPlace := ["math/bits.Sub64", "math/bits.Add64"], unfollowed := true, recurses := true, named := ["math/bits.divideError", "math/bits.overflowError"], apart := false, narrowed := true }
def FnExactLatitudeIUptoSaid : Prop := fnExactLatitudeIUptoRow.holds Tryz.pinned (OpenSpec.upto fnExactLatitudeISpec)

/-- 'laws.FnExactInverseLatitude', WHERE WHAT IT READS IS OF BULK AT MOST 1048576: true; the input reads as it did. -/
def fnExactInverseLatitudeUptoRow : OpenClaim := { program := "ytecfhpgpojgjkaagreat", sum := "5896b1b4935ba833a1e5f4b64812dca843b293f5136e7a05dd4e7c3b6ff8af49", func := "loop.example/g00880/laws.FnExactInverseLatitude", spec := "fnExactInverseLatitude", inPlace := ["math/bits.Sub64", "math/bits.Add64"], unfollowed := true, recurses := true, named := ["math/bits.divideError", "math/bits.overflowError"], apart := false, narrowed := true }
def FnExactInverseLatitudeUptoSaid : Prop := fnExactInverseLatitudeUptoRow.holds Tryz.pinned (OpenSpec.upto fnExactInverseLatitudeSpec)

/-- 'laws.FnExactConvertLatitude', WHERE WHAT IT READS IS OF BULK AT MOST 1048576: true; the input reads as it did. -/
def fnExactConvertLatitudeUptoRow : OpenClaim := { program := "ytecfhpgpojgjkaagreat", sum := "5896b1b4935ba833a1e5f4b64812dca843b293f5136e7a05dd4e7c3b6ff8af49", func := "loop.example/g00880/laws.FnExactConvertLatitude", spec := "fnExactConvertLatitude", inPlace := ["math/bits.Sub64", "math/bits.Add64"], unfollowed := true, recurses := true, named := ["math/bits.divideError", "math/bits.overflowError"], apart := false, narrowed := true }
def FnExactConvertLatitudeUptoSaid : Prop := fnExactConvertLatitudeUptoRow.holds Tryz.pinned (OpenSpec.upto fnExactConvertLatitudeSpec)

/-- 'laws.FnExactOmegaStart', WHERE WHAT IT READS IS OF BULK AT MOST 1048576: true; the input reads as it did. -/
def fnExactOmegaStartUptoRow : OpenClaim := { program := "ytecfhpgpojgjkaagreat", sum := "5896b1b4935ba833a1e5f4b64812dca843b293f5136e7a05dd4e7c3b6ff8af49", func := "loop.example/g00880/laws.FnExactOmegaStart", spec := "fnExactOmegaStart", inPlace := ["math/bits.Sub64", "math/bits.Add64"], unfollowed := true, recurses := true, named := ["math/bits.divideError", "math/bits.overflowError"], apart := false, narrowed := true }
def FnExactOmegaStartUptoSaid : Prop := fnExactOmegaStartUptoRow.holds Tryz.pinned (OpenSpec.upto fnExactOmegaStartSpec)

/-- 'laws.FnExactReducedAngle', WHERE WHAT IT READS IS OF BULK AT MOST 1048576: true; the input reads as it did. -/
def fnExactReducedAngleUptoRow : OpenClaim := { program := "ytecfhpgpojgjkaagreat", sum := "5896b1b4935ba833a1e5f4b64812dca843b293f5136e7a05dd4e7c3b6ff8af49", func := "loop.example/g00880/laws.FnExactReducedAngle", spec := "fnExactReducedAngle", inPlace := ["math/bits.Sub64", "math/bits.Add64"], unfollowed := true, recurses := true, named := ["math/bits.divideError", "math/bits.overflowError"], apart := false, narrowed := true }
def FnExactReducedAngleUptoSaid : Prop := fnExactReducedAngleUptoRow.holds Tryz.pinned (OpenSpec.upto fnExactReducedAngleSpec)

/-- 'laws.FnExactGeodesicBounds', WHERE WHAT IT READS IS OF BULK AT MOST 1048576: true; the input reads as it did. -/
def fnExactGeodesicBoundsUptoRow : OpenClaim := { program := "ytecfhpgpojgjkaagreat", sum := "5896b1b4935ba833a1e5f4b64812dca843b293f5136e7a05dd4e7c3b6ff8af49", func := "loop.example/g00880/laws.FnExactGeodesicBounds", spec := "fnExactGeodesicBounds", inPlace := ["math/bits.Sub64", "math/bits.Add64"], unfollowed := true, recurses := true, named := ["math/bits.divideError", "math/bits.overflowError"], apart := false, narrowed := true }
def FnExactGeodesicBoundsUptoSaid : Prop := fnExactGeodesicBoundsUptoRow.holds Tryz.pinned (OpenSpec.upto fnExactGeodesicBoundsSpec)

/-- 'laws.FnExactAzimuthalRadius', WHERE WHAT IT READS IS OF BULK AT MOST 1048576: true; the input reads as it did. -/
def fnExactAzimuthalRadiusUptoRow : OpenClaim := { program := "ytecfhpgpojgjkaagreat", sum := "5896b1b4935ba833a1e5f4b64812dca843b293f5136e7a05dd4e7c3b6ff8af49", func := "loop.example/g00880/laws.FnExactAzimuthalRadius", spec := "fnExactAzimuthalRadius", inPlace := ["math/bits.Sub64", "math/bits.Add64"], unfollowed := true, recurses := true, named := ["math/bits.divideError", "math/bits.overflowError"], apart := false, narrowed := true }
def FnExactAzimuthalRadiusUptoSaid : Prop := fnExactAzimuthalRadiusUptoRow.holds Tryz.pinned (OpenSpec.upto fnExactAzimuthalRadiusSpec)

/-- 'laws.FnExactOmegaStep', WHERE WHAT IT READS IS OF BULK AT MOST 1048576: true; the input reads as it did. -/
def fnExactOmegaStepUptoRow : OpenClaim := { program := "ytecfhpgpojgjkaagreat", sum := "5896b1b4935ba833a1e5f4b64812dca843b293f5136e7a05dd4e7c3b6ff8af49", func := "loop.example/g00880/laws.FnExactOmegaStep", spec := "fnExactOmegaStep", inPlace := ["math/bits.Sub64", "math/bits.Add64"], unfollowed := true, recurses := true, named := ["math/bits.divideError", "math/bits.overflowError"], apart := false, narrowed := true }
def FnExactOmegaStepUptoSaid : Prop := fnExactOmegaStepUptoRow.holds Tryz.pinned (OpenSpec.upto fnExactOmegaStepSpec)

/-- 'laws.FnExactGeodesicOmega', WHERE WHAT IT READS IS OF BULK AT MOST 1048576: true; the input reads as it did. -/
def fnExactGeodesicOmegaUptoRow : OpenClaim := { program := "ytecfhpgpojgjkaagreat", sum := "5896b1b4935ba833a1e5f4b64812dca843b293f5136e7a05dd4e7c3b6ff8af49", func := "loop.example/g00880/laws.FnExactGeodesicOmega", spec := "fnExactGeodesicOmega", inPlace := ["math/bits.Sub64", "math/bits.Add64"], unfollowed := true, recurses := true, named := ["math/bits.divideError", "math/bits.overflowError"], apart := false, narrowed := true }
def FnExactGeodesicOmegaUptoSaid : Prop := fnExactGeodesicOmegaUptoRow.holds Tryz.pinned (OpenSpec.upto fnExactGeodesicOmegaSpec)

/-- 'laws.FnExactGeodesicAzimuth', WHERE WHAT IT READS IS OF BULK AT MOST 1048576: true; the input reads as it did. -/
def fnExactGeodesicAzimuthUptoRow : OpenClaim := { program := "ytecfhpgpojgjkaagreat", sum := "5896b1b4935ba833a1e5f4b64812dca843b293f5136e7a05dd4e7c3b6ff8af49", func := "loop.example/g00880/laws.FnExactGeodesicAzimuth", spec := "fnExactGeodesicAzimuth", inPlace := ["math/bits.Sub64", "math/bits.Add64"], unfollowed := true, recurses := true, named := ["math/bits.divideError", "math/bits.overflowError"], apart := false, narrowed := true }
def FnExactGeodesicAzimuthUptoSaid : Prop := fnExactGeodesicAzimuthUptoRow.holds Tryz.pinned (OpenSpec.upto fnExactGeodesicAzimuthSpec)

/-- 'laws.FnExactGeodesicLength', WHERE WHAT IT READS IS OF BULK AT MOST 1048576: true; the input reads as it did. -/
def fnExactGeodesicLengthUptoRow : OpenClaim := { program := "ytecfhpgpojgjkaagreat", sum := "5896b1b4935ba833a1e5f4b64812dca843b293f5136e7a05dd4e7c3b6ff8af49", func := "loop.example/g00880/laws.FnExactGeodesicLength", spec := "fnExactGeodesicLength", inPlace := ["math/bits.Sub64", "math/bits.Add64"], unfollowed := true, recurses := true, named := ["math/bits.divideError", "math/bits.overflowError"], apart := false, narrowed := true }
def FnExactGeodesicLengthUptoSaid : Prop := fnExactGeodesicLengthUptoRow.holds Tryz.pinned (OpenSpec.upto fnExactGeodesicLengthSpec)

/-- 'laws.FnExactPathLength', WHERE WHAT IT READS IS OF BULK AT MOST 1048576: true; the input reads as it did. -/
def fnExactPathLengthUptoRow : OpenClaim := { program := "ytecfhpgpojgjkaagreat", sum := "5896b1b4935ba833a1e5f4b64812dca843b293f5136e7a05dd4e7c3b6ff8af49", func := "loop.example/g00880/laws.FnExactPathLength", spec := "fnExactPathLength", inPlace := ["math/bits.Sub64", "math/bits.Add64"], unfollowed := true, recurses := true, named := ["math/bits.divideError", "math/bits.overflowError"], apart := false, narrowed := true }
def FnExactPathLengthUptoSaid : Prop := fnExactPathLengthUptoRow.holds Tryz.pinned (OpenSpec.upto fnExactPathLengthSpec)

end Rows
end Go.Proofs.YtecfhpgpojgjkaaGreat
