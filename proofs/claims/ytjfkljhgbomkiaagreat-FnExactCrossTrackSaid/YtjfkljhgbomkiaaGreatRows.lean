/-
  No cell of these rows narrows 'for every input' (looked for: loops, veiled, ifaces, maps, wideKeys, modest, calm, conditions, laid).
  DERIVED. THE GIVEN ROWS OF THIS SEAT. 12 by the template 'for every input the law returns true; each argument reads behind the call as it read before'; 0 by the template 'total and deterministic' (their statements: YtjfkljhgbomkiaaGreatTotals.lean).
  GIVEN WITH THE SEED: the statements are not yours to turn. If you find one false, say at which input.
  Laid BY PROGRAM, IN A SANDBOX (cutbox-rows.mjs): the forced cells as the released guide's own fill.sh prints them over the translation bab3b3e821c927e2… (all of the seat's roots in one cut). By AI agents, Wed Nov 11 2026. No macro, syntax, notation, axiom, sorry.
-/
import Derived.Test.YtjfkljhgbomkiaaGreatChecked
import GoSem.Claim
import GoSem.ClaimJoined
import GoSem.ClaimMapViews
import Derived.JoinedTies
import Derived.KernelRfl
namespace Go.Proofs.YtjfkljhgbomkiaaGreat
/- THE CELL 'sum', in the pinned program and in every row, IS THE sha256 OF THE DUMP (.gsa) THAT YtjfkljhgbomkiaaGreatProg.lean LOADS. Nothing in Lean hashes anything: it is a label: what it is worth is what the hold of that sum in a sandbox is worth. -/
noncomputable def Tryz.pinned : Pinned := { name := "ytjfkljhgbomkiaagreat", sum := "bab3b3e821c927e2481da8bf04a96c05ea1e3c89a1905a6426871cb64ffc317a", checked := Tryz.checked }
namespace Rows
def none {H : Type} : Left H := { results := [], args := [] }

/-- 'laws.FnExactVectorOf': WHATEVER THE INPUT: true; the input reads as it did. -/
def fnExactVectorOfSpec : ChangeSpec := { name := "fnExactVectorOf", fn := fun _ => fun
  | [d] => { results := [.lit (.bool true)], args := [d] }
  | _ => none }
def fnExactVectorOfRow : OpenClaim := { program := "ytjfkljhgbomkiaagreat", sum := "bab3b3e821c927e2481da8bf04a96c05ea1e3c89a1905a6426871cb64ffc317a", func := "loop.example/g00880/laws.FnExactVectorOf", spec := "fnExactVectorOf", inPlace := ["math/bits.Sub64", "math/bits.Add64"], unfollowed := true, recurses := true, named := ["math/bits.divideError", "math/bits.overflowError"], apart := false }
def FnExactVectorOfSaid : Prop := fnExactVectorOfRow.holds Tryz.pinned (OpenSpec.ofChange fnExactVectorOfSpec)

/-- ITS FALSE NEIGHBOUR: 'it returns false'. Refute it at one input. -/
def fnExactVectorOfWrong : ChangeSpec := { name := "fnExactVectorOf", fn := fun _ => fun
  | [d] => { results := [.lit (.bool false)], args := [d] }
  | _ => none }
def FnExactVectorOfWrongFalsely : Prop := fnExactVectorOfRow.holds Tryz.pinned (OpenSpec.ofChange fnExactVectorOfWrong)

/-- 'laws.FnExactSideOf': WHATEVER THE INPUT: true; the input reads as it did. -/
def fnExactSideOfSpec : ChangeSpec := { name := "fnExactSideOf", fn := fun _ => fun
  | [d1, d2, d3] => { results := [.lit (.bool true)], args := [d1, d2, d3] }
  | _ => none }
def fnExactSideOfRow : OpenClaim := { program := "ytjfkljhgbomkiaagreat", sum := "bab3b3e821c927e2481da8bf04a96c05ea1e3c89a1905a6426871cb64ffc317a", func := "loop.example/g00880/laws.FnExactSideOf", spec := "fnExactSideOf", inPlace := ["math/bits.Sub64", "math/bits.Add64"], unfollowed := true, recurses := true, named := ["math/bits.divideError", "math/bits.overflowError"], apart := false }
def FnExactSideOfSaid : Prop := fnExactSideOfRow.holds Tryz.pinned (OpenSpec.ofChange fnExactSideOfSpec)

/-- ITS FALSE NEIGHBOUR: 'it returns false'. Refute it at one input. -/
def fnExactSideOfWrong : ChangeSpec := { name := "fnExactSideOf", fn := fun _ => fun
  | [d1, d2, d3] => { results := [.lit (.bool false)], args := [d1, d2, d3] }
  | _ => none }
def FnExactSideOfWrongFalsely : Prop := fnExactSideOfRow.holds Tryz.pinned (OpenSpec.ofChange fnExactSideOfWrong)

/-- 'laws.FnExactPositionOf': WHATEVER THE INPUT: true; the input reads as it did. -/
def fnExactPositionOfSpec : ChangeSpec := { name := "fnExactPositionOf", fn := fun _ => fun
  | [d] => { results := [.lit (.bool true)], args := [d] }
  | _ => none }
def fnExactPositionOfRow : OpenClaim := { program := "ytjfkljhgbomkiaagreat", sum := "bab3b3e821c927e2481da8bf04a96c05ea1e3c89a1905a6426871cb64ffc317a", func := "loop.example/g00880/laws.FnExactPositionOf", spec := "fnExactPositionOf", inPlace := ["math/bits.Add64", "math/bits.Sub64"], unfollowed := true, recurses := true, named := ["math/bits.divideError", "math/bits.overflowError"], apart := false }
def FnExactPositionOfSaid : Prop := fnExactPositionOfRow.holds Tryz.pinned (OpenSpec.ofChange fnExactPositionOfSpec)

/-- ITS FALSE NEIGHBOUR: 'it returns false'. Refute it at one input. -/
def fnExactPositionOfWrong : ChangeSpec := { name := "fnExactPositionOf", fn := fun _ => fun
  | [d] => { results := [.lit (.bool false)], args := [d] }
  | _ => none }
def FnExactPositionOfWrongFalsely : Prop := fnExactPositionOfRow.holds Tryz.pinned (OpenSpec.ofChange fnExactPositionOfWrong)

/-- 'laws.FnExactAzimuthTo': WHATEVER THE INPUT: true; the input reads as it did. -/
def fnExactAzimuthToSpec : ChangeSpec := { name := "fnExactAzimuthTo", fn := fun _ => fun
  | [d1, d2] => { results := [.lit (.bool true)], args := [d1, d2] }
  | _ => none }
def fnExactAzimuthToRow : OpenClaim := { program := "ytjfkljhgbomkiaagreat", sum := "bab3b3e821c927e2481da8bf04a96c05ea1e3c89a1905a6426871cb64ffc317a", func := "loop.example/g00880/laws.FnExactAzimuthTo", spec := "fnExactAzimuthTo", inPlace := ["math/bits.Sub64", "math/bits.Add64"], unfollowed := true, recurses := true, named := ["math/bits.divideError", "math/bits.overflowError"], apart := false }
def FnExactAzimuthToSaid : Prop := fnExactAzimuthToRow.holds Tryz.pinned (OpenSpec.ofChange fnExactAzimuthToSpec)

/-- ITS FALSE NEIGHBOUR: 'it returns false'. Refute it at one input. -/
def fnExactAzimuthToWrong : ChangeSpec := { name := "fnExactAzimuthTo", fn := fun _ => fun
  | [d1, d2] => { results := [.lit (.bool false)], args := [d1, d2] }
  | _ => none }
def FnExactAzimuthToWrongFalsely : Prop := fnExactAzimuthToRow.holds Tryz.pinned (OpenSpec.ofChange fnExactAzimuthToWrong)

/-- 'laws.FnExactExcessOf': WHATEVER THE INPUT: true; the input reads as it did. -/
def fnExactExcessOfSpec : ChangeSpec := { name := "fnExactExcessOf", fn := fun _ => fun
  | [d1, d2, d3] => { results := [.lit (.bool true)], args := [d1, d2, d3] }
  | _ => none }
def fnExactExcessOfRow : OpenClaim := { program := "ytjfkljhgbomkiaagreat", sum := "bab3b3e821c927e2481da8bf04a96c05ea1e3c89a1905a6426871cb64ffc317a", func := "loop.example/g00880/laws.FnExactExcessOf", spec := "fnExactExcessOf", inPlace := ["math/bits.Sub64", "math/bits.Add64"], unfollowed := true, recurses := true, named := ["math/bits.divideError", "math/bits.overflowError"], apart := false }
def FnExactExcessOfSaid : Prop := fnExactExcessOfRow.holds Tryz.pinned (OpenSpec.ofChange fnExactExcessOfSpec)

/-- ITS FALSE NEIGHBOUR: 'it returns false'. Refute it at one input. -/
def fnExactExcessOfWrong : ChangeSpec := { name := "fnExactExcessOf", fn := fun _ => fun
  | [d1, d2, d3] => { results := [.lit (.bool false)], args := [d1, d2, d3] }
  | _ => none }
def FnExactExcessOfWrongFalsely : Prop := fnExactExcessOfRow.holds Tryz.pinned (OpenSpec.ofChange fnExactExcessOfWrong)

/-- 'laws.FnExactMidwayOf': WHATEVER THE INPUT: true; the input reads as it did. -/
def fnExactMidwayOfSpec : ChangeSpec := { name := "fnExactMidwayOf", fn := fun _ => fun
  | [d1, d2] => { results := [.lit (.bool true)], args := [d1, d2] }
  | _ => none }
def fnExactMidwayOfRow : OpenClaim := { program := "ytjfkljhgbomkiaagreat", sum := "bab3b3e821c927e2481da8bf04a96c05ea1e3c89a1905a6426871cb64ffc317a", func := "loop.example/g00880/laws.FnExactMidwayOf", spec := "fnExactMidwayOf", inPlace := ["math/bits.Sub64", "math/bits.Add64"], unfollowed := true, recurses := true, named := ["math/bits.divideError", "math/bits.overflowError"], apart := false }
def FnExactMidwayOfSaid : Prop := fnExactMidwayOfRow.holds Tryz.pinned (OpenSpec.ofChange fnExactMidwayOfSpec)

/-- ITS FALSE NEIGHBOUR: 'it returns false'. Refute it at one input. -/
def fnExactMidwayOfWrong : ChangeSpec := { name := "fnExactMidwayOf", fn := fun _ => fun
  | [d1, d2] => { results := [.lit (.bool false)], args := [d1, d2] }
  | _ => none }
def FnExactMidwayOfWrongFalsely : Prop := fnExactMidwayOfRow.holds Tryz.pinned (OpenSpec.ofChange fnExactMidwayOfWrong)

/-- 'laws.FnExactAngleBetween': WHATEVER THE INPUT: true; the input reads as it did. -/
def fnExactAngleBetweenSpec : ChangeSpec := { name := "fnExactAngleBetween", fn := fun _ => fun
  | [d1, d2] => { results := [.lit (.bool true)], args := [d1, d2] }
  | _ => none }
def fnExactAngleBetweenRow : OpenClaim := { program := "ytjfkljhgbomkiaagreat", sum := "bab3b3e821c927e2481da8bf04a96c05ea1e3c89a1905a6426871cb64ffc317a", func := "loop.example/g00880/laws.FnExactAngleBetween", spec := "fnExactAngleBetween", inPlace := ["math/bits.Sub64", "math/bits.Add64"], unfollowed := true, recurses := true, named := ["math/bits.divideError", "math/bits.overflowError"], apart := false }
def FnExactAngleBetweenSaid : Prop := fnExactAngleBetweenRow.holds Tryz.pinned (OpenSpec.ofChange fnExactAngleBetweenSpec)

/-- ITS FALSE NEIGHBOUR: 'it returns false'. Refute it at one input. -/
def fnExactAngleBetweenWrong : ChangeSpec := { name := "fnExactAngleBetween", fn := fun _ => fun
  | [d1, d2] => { results := [.lit (.bool false)], args := [d1, d2] }
  | _ => none }
def FnExactAngleBetweenWrongFalsely : Prop := fnExactAngleBetweenRow.holds Tryz.pinned (OpenSpec.ofChange fnExactAngleBetweenWrong)

/-- 'laws.FnExactCrossTrack': WHATEVER THE INPUT: true; the input reads as it did. -/
def fnExactCrossTrackSpec : ChangeSpec := { name := "fnExactCrossTrack", fn := fun _ => fun
  | [d1, d2, d3] => { results := [.lit (.bool true)], args := [d1, d2, d3] }
  | _ => none }
def fnExactCrossTrackRow : OpenClaim := { program := "ytjfkljhgbomkiaagreat", sum := "bab3b3e821c927e2481da8bf04a96c05ea1e3c89a1905a6426871cb64ffc317a", func := "loop.example/g00880/laws.FnExactCrossTrack", spec := "fnExactCrossTrack", inPlace := ["math/bits.Sub64", "math/bits.Add64"], unfollowed := true, recurses := true, named := ["math/bits.divideError", "math/bits.overflowError"], apart := false }
def FnExactCrossTrackSaid : Prop := fnExactCrossTrackRow.holds Tryz.pinned (OpenSpec.ofChange fnExactCrossTrackSpec)

/-- ITS FALSE NEIGHBOUR: 'it returns false'. Refute it at one input. -/
def fnExactCrossTrackWrong : ChangeSpec := { name := "fnExactCrossTrack", fn := fun _ => fun
  | [d1, d2, d3] => { results := [.lit (.bool false)], args := [d1, d2, d3] }
  | _ => none }
def FnExactCrossTrackWrongFalsely : Prop := fnExactCrossTrackRow.holds Tryz.pinned (OpenSpec.ofChange fnExactCrossTrackWrong)

/-- 'laws.FnExactDestination': WHATEVER THE INPUT: true; the input reads as it did. -/
def fnExactDestinationSpec : ChangeSpec := { name := "fnExactDestination", fn := fun _ => fun
  | [d1, d2, d3] => { results := [.lit (.bool true)], args := [d1, d2, d3] }
  | _ => none }
def fnExactDestinationRow : OpenClaim := { program := "ytjfkljhgbomkiaagreat", sum := "bab3b3e821c927e2481da8bf04a96c05ea1e3c89a1905a6426871cb64ffc317a", func := "loop.example/g00880/laws.FnExactDestination", spec := "fnExactDestination", inPlace := ["math/bits.Sub64", "math/bits.Add64"], unfollowed := true, recurses := true, named := ["math/bits.divideError", "math/bits.overflowError"], apart := false }
def FnExactDestinationSaid : Prop := fnExactDestinationRow.holds Tryz.pinned (OpenSpec.ofChange fnExactDestinationSpec)

/-- ITS FALSE NEIGHBOUR: 'it returns false'. Refute it at one input. -/
def fnExactDestinationWrong : ChangeSpec := { name := "fnExactDestination", fn := fun _ => fun
  | [d1, d2, d3] => { results := [.lit (.bool false)], args := [d1, d2, d3] }
  | _ => none }
def FnExactDestinationWrongFalsely : Prop := fnExactDestinationRow.holds Tryz.pinned (OpenSpec.ofChange fnExactDestinationWrong)

/-- 'laws.FnExactCrossingOf': WHATEVER THE INPUT: true; the input reads as it did. -/
def fnExactCrossingOfSpec : ChangeSpec := { name := "fnExactCrossingOf", fn := fun _ => fun
  | [d1, d2, d3, d4] => { results := [.lit (.bool true)], args := [d1, d2, d3, d4] }
  | _ => none }
def fnExactCrossingOfRow : OpenClaim := { program := "ytjfkljhgbomkiaagreat", sum := "bab3b3e821c927e2481da8bf04a96c05ea1e3c89a1905a6426871cb64ffc317a", func := "loop.example/g00880/laws.FnExactCrossingOf", spec := "fnExactCrossingOf", inPlace := ["math/bits.Sub64", "math/bits.Add64"], unfollowed := true, recurses := true, named := ["math/bits.divideError", "math/bits.overflowError"], apart := false }
def FnExactCrossingOfSaid : Prop := fnExactCrossingOfRow.holds Tryz.pinned (OpenSpec.ofChange fnExactCrossingOfSpec)

/-- ITS FALSE NEIGHBOUR: 'it returns false'. Refute it at one input. -/
def fnExactCrossingOfWrong : ChangeSpec := { name := "fnExactCrossingOf", fn := fun _ => fun
  | [d1, d2, d3, d4] => { results := [.lit (.bool false)], args := [d1, d2, d3, d4] }
  | _ => none }
def FnExactCrossingOfWrongFalsely : Prop := fnExactCrossingOfRow.holds Tryz.pinned (OpenSpec.ofChange fnExactCrossingOfWrong)

/-- 'laws.FnExactRhumbTo': WHATEVER THE INPUT: true; the input reads as it did. -/
def fnExactRhumbToSpec : ChangeSpec := { name := "fnExactRhumbTo", fn := fun _ => fun
  | [d1, d2] => { results := [.lit (.bool true)], args := [d1, d2] }
  | _ => none }
def fnExactRhumbToRow : OpenClaim := { program := "ytjfkljhgbomkiaagreat", sum := "bab3b3e821c927e2481da8bf04a96c05ea1e3c89a1905a6426871cb64ffc317a", func := "loop.example/g00880/laws.FnExactRhumbTo", spec := "fnExactRhumbTo", inPlace := ["math/bits.Sub64", "math/bits.Add64"], unfollowed := true, recurses := true, named := ["math/bits.divideError", "math/bits.overflowError"], apart := false }
def FnExactRhumbToSaid : Prop := fnExactRhumbToRow.holds Tryz.pinned (OpenSpec.ofChange fnExactRhumbToSpec)

/-- ITS FALSE NEIGHBOUR: 'it returns false'. Refute it at one input. -/
def fnExactRhumbToWrong : ChangeSpec := { name := "fnExactRhumbTo", fn := fun _ => fun
  | [d1, d2] => { results := [.lit (.bool false)], args := [d1, d2] }
  | _ => none }
def FnExactRhumbToWrongFalsely : Prop := fnExactRhumbToRow.holds Tryz.pinned (OpenSpec.ofChange fnExactRhumbToWrong)

/-- 'laws.FnExactNearSide': WHATEVER THE INPUT: true; the input reads as it did. -/
def fnExactNearSideSpec : ChangeSpec := { name := "fnExactNearSide", fn := fun _ => fun
  | [d1, d2] => { results := [.lit (.bool true)], args := [d1, d2] }
  | _ => none }
def fnExactNearSideRow : OpenClaim := { program := "ytjfkljhgbomkiaagreat", sum := "bab3b3e821c927e2481da8bf04a96c05ea1e3c89a1905a6426871cb64ffc317a", func := "loop.example/g00880/laws.FnExactNearSide", spec := "fnExactNearSide", inPlace := ["math/bits.Sub64", "math/bits.Add64"], unfollowed := true, recurses := true, named := ["math/bits.divideError", "math/bits.overflowError"], apart := false }
def FnExactNearSideSaid : Prop := fnExactNearSideRow.holds Tryz.pinned (OpenSpec.ofChange fnExactNearSideSpec)

/-- ITS FALSE NEIGHBOUR: 'it returns false'. Refute it at one input. -/
def fnExactNearSideWrong : ChangeSpec := { name := "fnExactNearSide", fn := fun _ => fun
  | [d1, d2] => { results := [.lit (.bool false)], args := [d1, d2] }
  | _ => none }
def FnExactNearSideWrongFalsely : Prop := fnExactNearSideRow.holds Tryz.pinned (OpenSpec.ofChange fnExactNearSideWrong)

/- THE SECOND FORM. 'bulk': how many values and letters a reading holds, each counted each time it is reached (what is shared counts as often as it is met; a slice's spare places count too). A statement '..UptoSaid' is the law's where the arguments, and the package variables that the reading takes, are together of bulk at most 1048576: NARROWER than '..Said'. Prove '..Said' where nothing that the law and all that it calls make is longer than what came in: it says more and counts as full. Else prove '..UptoSaid'. A law counts once. -/
mutual
def uptoBulk {H : Type} : DataW H → Nat
  | .lit (.string bytes) => bytes.length + 1
  | .lit _ => 1
  | .nil => 1
  | .ptr d => uptoBulk d + 1
  | .slice elems spare => uptoBulkAll elems + uptoBulkAll spare + 1
  | .agg parts => uptoBulkAll parts + 1
  | .iface _ d => uptoBulk d + 1
  | .map entries => uptoBulkEntries entries + 1
  | .held _ => 1
def uptoBulkAll {H : Type} : List (DataW H) → Nat
  | [] => 0
  | d :: r => uptoBulk d + uptoBulkAll r
def uptoBulkEntries {H : Type} : List (Lit × DataW H) → Nat
  | [] => 0
  | x :: r => uptoBulkEntry x + uptoBulkEntries r
def uptoBulkEntry {H : Type} : Lit × DataW H → Nat
  | (.string bytes, d) => bytes.length + uptoBulk d + 1
  | (_, d) => uptoBulk d + 1
 end
def uptoSmall : (H : Type) → List (DataW H) → Bool := fun _ ds => decide (uptoBulkAll ds ≤ 1048576)
def OpenSpec.upto (s : _root_.Go.ChangeSpec) : _root_.Go.OpenSpec := { _root_.Go.OpenSpec.ofChange s with cond := some uptoSmall }

/-- 'laws.FnExactVectorOf', WHERE WHAT IT READS IS OF BULK AT MOST 1048576: true; the input reads as it did. -/
def fnExactVectorOfUptoRow : OpenClaim := { program := "ytjfkljhgbomkiaagreat", sum := "bab3b3e821c927e2481da8bf04a96c05ea1e3c89a1905a6426871cb64ffc317a", func := "loop.example/g00880/laws.FnExactVectorOf", spec := "fnExactVectorOf", inPlace := ["math/bits.Sub64", "math/bits.Add64"], unfollowed := true, recurses := true, named := ["math/bits.divideError", "math/bits.overflowError"], apart := false, narrowed := true }
def FnExactVectorOfUptoSaid : Prop := fnExactVectorOfUptoRow.holds Tryz.pinned (OpenSpec.upto fnExactVectorOfSpec)

/-- 'laws.FnExactSideOf', WHERE WHAT IT READS IS OF BULK AT MOST 1048576: true; the input reads as it did. -/
def fnExactSideOfUptoRow : OpenClaim := { program := "ytjfkljhgbomkiaagreat", sum := "bab3b3e821c927e2481da8bf04a96c05ea1e3c89a1905a6426871cb64ffc317a", func := "loop.example/g00880/laws.FnExactSideOf", spec := "fnExactSideOf", inPlace := ["math/bits.Sub64", "math/bits.Add64"], unfollowed := true, recurses := true, named := ["math/bits.divideError", "math/bits.overflowError"], apart := false, narrowed := true }
def FnExactSideOfUptoSaid : Prop := fnExactSideOfUptoRow.holds Tryz.pinned (OpenSpec.upto fnExactSideOfSpec)

/-- 'laws.FnExactPositionOf', WHERE WHAT IT READS IS OF BULK AT MOST 1048576: true; the input reads as it did. -/
def fnExactPositionOfUptoRow : OpenClaim := { program := "ytjfkljhgbomkiaagreat", sum := "bab3b3e821c927e2481da8bf04a96c05ea1e3c89a1905a6426871cb64ffc317a", func := "loop.example/g00880/laws.FnExactPositionOf", spec := "fnExactPositionOf", inPlace := ["math/bits.Add64", "math/bits.Sub64"], unfollowed := true, recurses := true, named := ["math/bits.divideError", "math/bits.overflowError"], apart := false, narrowed := true }
def FnExactPositionOfUptoSaid : Prop := fnExactPositionOfUptoRow.holds Tryz.pinned (OpenSpec.upto fnExactPositionOfSpec)

/-- 'laws.FnExactAzimuthTo', WHERE WHAT IT READS IS OF BULK AT MOST 1048576: true; the input reads as it did. -/
def fnExactAzimuthToUptoRow : OpenClaim := { program := "ytjfkljhgbomkiaagreat", sum := "bab3b3e821c927e2481da8bf04a96c05ea1e3c89a1905a6426871cb64ffc317a", func := "loop.example/g00880/laws.FnExactAzimuthTo", spec := "fnExactAzimuthTo", inPlace := ["math/bits.Sub64", "math/bits.Add64"], unfollowed := true, recurses := true, named := ["math/bits.divideError", "math/bits.overflowError"], apart := false, narrowed := true }
def FnExactAzimuthToUptoSaid : Prop := fnExactAzimuthToUptoRow.holds Tryz.pinned (OpenSpec.upto fnExactAzimuthToSpec)

/-- 'laws.FnExactExcessOf', WHERE WHAT IT READS IS OF BULK AT MOST 1048576: true; the input reads as it did. -/
def fnExactExcessOfUptoRow : OpenClaim := { program := "ytjfkljhgbomkiaagreat", sum := "bab3b3e821c927e2481da8bf04a96c05ea1e3c89a1905a6426871cb64ffc317a", func := "loop.example/g00880/laws.FnExactExcessOf", spec := "fnExactExcessOf", inPlace := ["math/bits.Sub64", "math/bits.Add64"], unfollowed := true, recurses := true, named := ["math/bits.divideError", "math/bits.overflowError"], apart := false, narrowed := true }
def FnExactExcessOfUptoSaid : Prop := fnExactExcessOfUptoRow.holds Tryz.pinned (OpenSpec.upto fnExactExcessOfSpec)

/-- 'laws.FnExactMidwayOf', WHERE WHAT IT READS IS OF BULK AT MOST 1048576: true; the input reads as it did. -/
def fnExactMidwayOfUptoRow : OpenClaim := { program := "ytjfkljhgbomkiaagreat", sum := "bab3b3e821c927e2481da8bf04a96c05ea1e3c89a1905a6426871cb64ffc317a", func := "loop.example/g00880/laws.FnExactMidwayOf", spec := "fnExactMidwayOf", inPlace := ["math/bits.Sub64", "math/bits.Add64"], unfollowed := true, recurses := true, named := ["math/bits.divideError", "math/bits.overflowError"], apart := false, narrowed := true }
def FnExactMidwayOfUptoSaid : Prop := fnExactMidwayOfUptoRow.holds Tryz.pinned (OpenSpec.upto fnExactMidwayOfSpec)

/-- 'laws.FnExactAngleBetween', WHERE WHAT IT READS IS OF BULK AT MOST 1048576: true; the input reads as it did. -/
def fnExactAngleBetweenUptoRow : OpenClaim := { program := "ytjfkljhgbomkiaagreat", sum := "bab3b3e821c927e2481da8bf04a96c05ea1e3c89a1905a6426871cb64ffc317a", func := "loop.example/g00880/laws.FnExactAngleBetween", spec := "fnExactAngleBetween", inPlace := ["math/bits.Sub64", "math/bits.Add64"], unfollowed := true, recurses := true, named := ["math/bits.divideError", "math/bits.overflowError"], apart := false, narrowed := true }
def FnExactAngleBetweenUptoSaid : Prop := fnExactAngleBetweenUptoRow.holds Tryz.pinned (OpenSpec.upto fnExactAngleBetweenSpec)

/-- 'laws.FnExactCrossTrack', WHERE WHAT IT READS IS OF BULK AT MOST 1048576: true; the input reads as it did. -/
def fnExactCrossTrackUptoRow : OpenClaim := { program := "ytjfkljhgbomkiaagreat", sum := "bab3b3e821c927e2481da8bf04a96c05ea1e3c89a1905a6426871cb64ffc317a", func := "loop.example/g00880/laws.FnExactCrossTrack", spec := "fnExactCrossTrack", inPlace := ["math/bits.Sub64", "math/bits.Add64"], unfollowed := true, recurses := true, named := ["math/bits.divideError", "math/bits.overflowError"], apart := false, narrowed := true }
def FnExactCrossTrackUptoSaid : Prop := fnExactCrossTrackUptoRow.holds Tryz.pinned (OpenSpec.upto fnExactCrossTrackSpec)

/-- 'laws.FnExactDestination', WHERE WHAT IT READS IS OF BULK AT MOST 1048576: true; the input reads as it did. -/
def fnExactDestinationUptoRow : OpenClaim := { program := "ytjfkljhgbomkiaagreat", sum := "bab3b3e821c927e2481da8bf04a96c05ea1e3c89a1905a6426871cb64ffc317a", func := "loop.example/g00880/laws.FnExactDestination", spec := "fnExactDestination", inPlace := ["math/bits.Sub64", "math/bits.Add64"], unfollowed := true, recurses := true, named := ["math/bits.divideError", "math/bits.overflowError"], apart := false, narrowed := true }
def FnExactDestinationUptoSaid : Prop := fnExactDestinationUptoRow.holds Tryz.pinned (OpenSpec.upto fnExactDestinationSpec)

/-- 'laws.FnExactCrossingOf', WHERE WHAT IT READS IS OF BULK AT MOST 1048576: true; the input reads as it did. -/
def fnExactCrossingOfUptoRow : OpenClaim := { program := "ytjfkljhgbomkiaagreat", sum := "bab3b3e821c927e2481da8bf04a96c05ea1e3c89a1905a6426871cb64ffc317a", func := "loop.example/g00880/laws.FnExactCrossingOf", spec := "fnExactCrossingOf", inPlace := ["math/bits.Sub64", "math/bits.Add64"], unfollowed := true, recurses := true, named := ["math/bits.divideError", "math/bits.overflowError"], apart := false, narrowed := true }
def FnExactCrossingOfUptoSaid : Prop := fnExactCrossingOfUptoRow.holds Tryz.pinned (OpenSpec.upto fnExactCrossingOfSpec)

/-- 'laws.FnExactRhumbTo', WHERE WHAT IT READS IS OF BULK AT MOST 1048576: true; the input reads as it did. -/
def fnExactRhumbToUptoRow : OpenClaim := { program := "ytjfkljhgbomkiaagreat", sum := "bab3b3e821c927e2481da8bf04a96c05ea1e3c89a1905a6426871cb64ffc317a", func := "loop.example/g00880/laws.FnExactRhumbTo", spec := "fnExactRhumbTo", inPlace := ["math/bits.Sub64", "math/bits.Add64"], unfollowed := true, recurses := true, named := ["math/bits.divideError", "math/bits.overflowError"], apart := false, narrowed := true }
def FnExactRhumbToUptoSaid : Prop := fnExactRhumbToUptoRow.holds Tryz.pinned (OpenSpec.upto fnExactRhumbToSpec)

/-- 'laws.FnExactNearSide', WHERE WHAT IT READS IS OF BULK AT MOST 1048576: true; the input reads as it did. -/
def fnExactNearSideUptoRow : OpenClaim := { program := "ytjfkljhgbomkiaagreat", sum := "bab3b3e821c927e2481da8bf04a96c05ea1e3c89a1905a6426871cb64ffc317a", func := "loop.example/g00880/laws.FnExactNearSide", spec := "fnExactNearSide", inPlace := ["math/bits.Sub64", "math/bits.Add64"], unfollowed := true, recurses := true, named := ["math/bits.divideError", "math/bits.overflowError"], apart := false, narrowed := true }
def FnExactNearSideUptoSaid : Prop := fnExactNearSideUptoRow.holds Tryz.pinned (OpenSpec.upto fnExactNearSideSpec)

end Rows
end Go.Proofs.YtjfkljhgbomkiaaGreat
