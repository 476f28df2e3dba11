/-
  No cell of these rows narrows 'for every input' (looked for: loops, veiled, ifaces, maps, wideKeys, modest, calm, conditions, laid).
  DERIVED. THE GIVEN ROWS OF THIS SEAT. 10 by the template 'for every input the law returns true; each argument reads behind the call as it read before'; 0 by the template 'total and deterministic' (their statements: YtkenfaengphiiaaGreatTotals.lean).
  GIVEN WITH THE SEED: the statements are not yours to turn. If you find one false, say at which input.
  Laid BY PROGRAM, IN A SANDBOX (cutbox-rows.mjs): the forced cells as the released guide's own fill.sh prints them over the translation 99cc58ac8a581074… (all of the seat's roots in one cut). By AI agents, Wed Nov 11 2026. No macro, syntax, notation, axiom, sorry.
-/
import Derived.Test.YtkenfaengphiiaaGreatChecked
import GoSem.Claim
import GoSem.ClaimJoined
import GoSem.ClaimMapViews
import Derived.JoinedTies
import Derived.KernelRfl
namespace Go.Proofs.YtkenfaengphiiaaGreat
/- THE CELL 'sum', in the pinned program and in every row, IS THE sha256 OF THE DUMP (.gsa) THAT YtkenfaengphiiaaGreatProg.lean LOADS. Nothing in Lean hashes anything: it is a label: what it is worth is what the hold of that sum in a sandbox is worth. -/
noncomputable def Tryz.pinned : Pinned := { name := "ytkenfaengphiiaagreat", sum := "99cc58ac8a581074aac0c0a5ba2b8dbe12855080d5a04749f3946b91c8fafb93", checked := Tryz.checked }
namespace Rows
def none {H : Type} : Left H := { results := [], args := [] }

/-- 'laws.FnSides': WHATEVER THE INPUT: true; the input reads as it did. -/
def fnSidesSpec : ChangeSpec := { name := "fnSides", fn := fun _ => fun
  | [d] => { results := [.lit (.bool true)], args := [d] }
  | _ => none }
def fnSidesRow : OpenClaim := { program := "ytkenfaengphiiaagreat", sum := "99cc58ac8a581074aac0c0a5ba2b8dbe12855080d5a04749f3946b91c8fafb93", func := "loop.example/g00880/laws.FnSides", spec := "fnSides", inPlace := ["math/bits.Sub64", "math/bits.Add64"], unfollowed := true, recurses := true, named := ["math/bits.divideError", "math/bits.overflowError"], apart := false }
def FnSidesSaid : Prop := fnSidesRow.holds Tryz.pinned (OpenSpec.ofChange fnSidesSpec)

/-- ITS FALSE NEIGHBOUR: 'it returns false'. Refute it at one input. -/
def fnSidesWrong : ChangeSpec := { name := "fnSides", fn := fun _ => fun
  | [d] => { results := [.lit (.bool false)], args := [d] }
  | _ => none }
def FnSidesWrongFalsely : Prop := fnSidesRow.holds Tryz.pinned (OpenSpec.ofChange fnSidesWrong)

/-- 'laws.FnMidway': WHATEVER THE INPUT: true; the input reads as it did. -/
def fnMidwaySpec : ChangeSpec := { name := "fnMidway", fn := fun _ => fun
  | [d1, d2] => { results := [.lit (.bool true)], args := [d1, d2] }
  | _ => none }
def fnMidwayRow : OpenClaim := { program := "ytkenfaengphiiaagreat", sum := "99cc58ac8a581074aac0c0a5ba2b8dbe12855080d5a04749f3946b91c8fafb93", func := "loop.example/g00880/laws.FnMidway", spec := "fnMidway", inPlace := ["math/bits.Sub64", "math/bits.Add64"], unfollowed := true, recurses := true, named := ["math/bits.divideError", "math/bits.overflowError"], apart := false }
def FnMidwaySaid : Prop := fnMidwayRow.holds Tryz.pinned (OpenSpec.ofChange fnMidwaySpec)

/-- ITS FALSE NEIGHBOUR: 'it returns false'. Refute it at one input. -/
def fnMidwayWrong : ChangeSpec := { name := "fnMidway", fn := fun _ => fun
  | [d1, d2] => { results := [.lit (.bool false)], args := [d1, d2] }
  | _ => none }
def FnMidwayWrongFalsely : Prop := fnMidwayRow.holds Tryz.pinned (OpenSpec.ofChange fnMidwayWrong)

/-- 'laws.FnSphere': WHATEVER THE INPUT: true; the input reads as it did. -/
def fnSphereSpec : ChangeSpec := { name := "fnSphere", fn := fun _ => fun
  | [d] => { results := [.lit (.bool true)], args := [d] }
  | _ => none }
def fnSphereRow : OpenClaim := { program := "ytkenfaengphiiaagreat", sum := "99cc58ac8a581074aac0c0a5ba2b8dbe12855080d5a04749f3946b91c8fafb93", func := "loop.example/g00880/laws.FnSphere", spec := "fnSphere", inPlace := ["math/bits.Sub64", "math/bits.Add64"], unfollowed := true, recurses := true, named := ["math/bits.divideError", "math/bits.overflowError"], apart := false }
def FnSphereSaid : Prop := fnSphereRow.holds Tryz.pinned (OpenSpec.ofChange fnSphereSpec)

/-- ITS FALSE NEIGHBOUR: 'it returns false'. Refute it at one input. -/
def fnSphereWrong : ChangeSpec := { name := "fnSphere", fn := fun _ => fun
  | [d] => { results := [.lit (.bool false)], args := [d] }
  | _ => none }
def FnSphereWrongFalsely : Prop := fnSphereRow.holds Tryz.pinned (OpenSpec.ofChange fnSphereWrong)

/-- 'laws.FnCartesian': WHATEVER THE INPUT: true; the input reads as it did. -/
def fnCartesianSpec : ChangeSpec := { name := "fnCartesian", fn := fun _ => fun
  | [d1, d2] => { results := [.lit (.bool true)], args := [d1, d2] }
  | _ => none }
def fnCartesianRow : OpenClaim := { program := "ytkenfaengphiiaagreat", sum := "99cc58ac8a581074aac0c0a5ba2b8dbe12855080d5a04749f3946b91c8fafb93", func := "loop.example/g00880/laws.FnCartesian", spec := "fnCartesian", inPlace := ["math/bits.Sub64", "math/bits.Add64"], unfollowed := true, recurses := true, named := ["math/bits.divideError", "math/bits.overflowError"], apart := false }
def FnCartesianSaid : Prop := fnCartesianRow.holds Tryz.pinned (OpenSpec.ofChange fnCartesianSpec)

/-- ITS FALSE NEIGHBOUR: 'it returns false'. Refute it at one input. -/
def fnCartesianWrong : ChangeSpec := { name := "fnCartesian", fn := fun _ => fun
  | [d1, d2] => { results := [.lit (.bool false)], args := [d1, d2] }
  | _ => none }
def FnCartesianWrongFalsely : Prop := fnCartesianRow.holds Tryz.pinned (OpenSpec.ofChange fnCartesianWrong)

/-- 'laws.FnExactLocalTo': WHATEVER THE INPUT: true; the input reads as it did. -/
def fnExactLocalToSpec : ChangeSpec := { name := "fnExactLocalTo", fn := fun _ => fun
  | [d1, d2, d3] => { results := [.lit (.bool true)], args := [d1, d2, d3] }
  | _ => none }
def fnExactLocalToRow : OpenClaim := { program := "ytkenfaengphiiaagreat", sum := "99cc58ac8a581074aac0c0a5ba2b8dbe12855080d5a04749f3946b91c8fafb93", func := "loop.example/g00880/laws.FnExactLocalTo", spec := "fnExactLocalTo", inPlace := ["math/bits.Sub64", "math/bits.Add64"], unfollowed := true, recurses := true, named := ["math/bits.divideError", "math/bits.overflowError"], apart := false }
def FnExactLocalToSaid : Prop := fnExactLocalToRow.holds Tryz.pinned (OpenSpec.ofChange fnExactLocalToSpec)

/-- ITS FALSE NEIGHBOUR: 'it returns false'. Refute it at one input. -/
def fnExactLocalToWrong : ChangeSpec := { name := "fnExactLocalTo", fn := fun _ => fun
  | [d1, d2, d3] => { results := [.lit (.bool false)], args := [d1, d2, d3] }
  | _ => none }
def FnExactLocalToWrongFalsely : Prop := fnExactLocalToRow.holds Tryz.pinned (OpenSpec.ofChange fnExactLocalToWrong)

/-- 'laws.FnExactChordBetween': WHATEVER THE INPUT: true; the input reads as it did. -/
def fnExactChordBetweenSpec : ChangeSpec := { name := "fnExactChordBetween", fn := fun _ => fun
  | [d1, d2, d3] => { results := [.lit (.bool true)], args := [d1, d2, d3] }
  | _ => none }
def fnExactChordBetweenRow : OpenClaim := { program := "ytkenfaengphiiaagreat", sum := "99cc58ac8a581074aac0c0a5ba2b8dbe12855080d5a04749f3946b91c8fafb93", func := "loop.example/g00880/laws.FnExactChordBetween", spec := "fnExactChordBetween", inPlace := ["math/bits.Sub64", "math/bits.Add64"], unfollowed := true, recurses := true, named := ["math/bits.divideError", "math/bits.overflowError"], apart := false }
def FnExactChordBetweenSaid : Prop := fnExactChordBetweenRow.holds Tryz.pinned (OpenSpec.ofChange fnExactChordBetweenSpec)

/-- ITS FALSE NEIGHBOUR: 'it returns false'. Refute it at one input. -/
def fnExactChordBetweenWrong : ChangeSpec := { name := "fnExactChordBetween", fn := fun _ => fun
  | [d1, d2, d3] => { results := [.lit (.bool false)], args := [d1, d2, d3] }
  | _ => none }
def FnExactChordBetweenWrongFalsely : Prop := fnExactChordBetweenRow.holds Tryz.pinned (OpenSpec.ofChange fnExactChordBetweenWrong)

/-- 'laws.FnExactInsideOf': WHATEVER THE INPUT: true; the input reads as it did. -/
def fnExactInsideOfSpec : ChangeSpec := { name := "fnExactInsideOf", fn := fun _ => fun
  | [d1, d2] => { results := [.lit (.bool true)], args := [d1, d2] }
  | _ => none }
def fnExactInsideOfRow : OpenClaim := { program := "ytkenfaengphiiaagreat", sum := "99cc58ac8a581074aac0c0a5ba2b8dbe12855080d5a04749f3946b91c8fafb93", func := "loop.example/g00880/laws.FnExactInsideOf", spec := "fnExactInsideOf", inPlace := ["math/bits.Add64", "math/bits.Sub64"], unfollowed := true, recurses := true, named := ["math/bits.divideError", "math/bits.overflowError"], apart := false }
def FnExactInsideOfSaid : Prop := fnExactInsideOfRow.holds Tryz.pinned (OpenSpec.ofChange fnExactInsideOfSpec)

/-- ITS FALSE NEIGHBOUR: 'it returns false'. Refute it at one input. -/
def fnExactInsideOfWrong : ChangeSpec := { name := "fnExactInsideOf", fn := fun _ => fun
  | [d1, d2] => { results := [.lit (.bool false)], args := [d1, d2] }
  | _ => none }
def FnExactInsideOfWrongFalsely : Prop := fnExactInsideOfRow.holds Tryz.pinned (OpenSpec.ofChange fnExactInsideOfWrong)

/-- 'laws.FnExactCylinderForward': WHATEVER THE INPUT: true; the input reads as it did. -/
def fnExactCylinderForwardSpec : ChangeSpec := { name := "fnExactCylinderForward", fn := fun _ => fun
  | [d1, d2] => { results := [.lit (.bool true)], args := [d1, d2] }
  | _ => none }
def fnExactCylinderForwardRow : OpenClaim := { program := "ytkenfaengphiiaagreat", sum := "99cc58ac8a581074aac0c0a5ba2b8dbe12855080d5a04749f3946b91c8fafb93", func := "loop.example/g00880/laws.FnExactCylinderForward", spec := "fnExactCylinderForward", inPlace := ["math/bits.Sub64", "math/bits.Add64"], unfollowed := true, recurses := true, named := ["math/bits.divideError", "math/bits.overflowError"], apart := false }
def FnExactCylinderForwardSaid : Prop := fnExactCylinderForwardRow.holds Tryz.pinned (OpenSpec.ofChange fnExactCylinderForwardSpec)

/-- ITS FALSE NEIGHBOUR: 'it returns false'. Refute it at one input. -/
def fnExactCylinderForwardWrong : ChangeSpec := { name := "fnExactCylinderForward", fn := fun _ => fun
  | [d1, d2] => { results := [.lit (.bool false)], args := [d1, d2] }
  | _ => none }
def FnExactCylinderForwardWrongFalsely : Prop := fnExactCylinderForwardRow.holds Tryz.pinned (OpenSpec.ofChange fnExactCylinderForwardWrong)

/-- 'laws.FnExactCylinderInverse': WHATEVER THE INPUT: true; the input reads as it did. -/
def fnExactCylinderInverseSpec : ChangeSpec := { name := "fnExactCylinderInverse", fn := fun _ => fun
  | [d1, d2] => { results := [.lit (.bool true)], args := [d1, d2] }
  | _ => none }
def fnExactCylinderInverseRow : OpenClaim := { program := "ytkenfaengphiiaagreat", sum := "99cc58ac8a581074aac0c0a5ba2b8dbe12855080d5a04749f3946b91c8fafb93", func := "loop.example/g00880/laws.FnExactCylinderInverse", spec := "fnExactCylinderInverse", inPlace := ["math/bits.Sub64", "math/bits.Add64"], unfollowed := true, recurses := true, named := ["math/bits.divideError", "math/bits.overflowError"], apart := false }
def FnExactCylinderInverseSaid : Prop := fnExactCylinderInverseRow.holds Tryz.pinned (OpenSpec.ofChange fnExactCylinderInverseSpec)

/-- ITS FALSE NEIGHBOUR: 'it returns false'. Refute it at one input. -/
def fnExactCylinderInverseWrong : ChangeSpec := { name := "fnExactCylinderInverse", fn := fun _ => fun
  | [d1, d2] => { results := [.lit (.bool false)], args := [d1, d2] }
  | _ => none }
def FnExactCylinderInverseWrongFalsely : Prop := fnExactCylinderInverseRow.holds Tryz.pinned (OpenSpec.ofChange fnExactCylinderInverseWrong)

/-- 'laws.FnExactPathLength': WHATEVER THE INPUT: true; the input reads as it did. -/
def fnExactPathLengthSpec : ChangeSpec := { name := "fnExactPathLength", fn := fun _ => fun
  | [d1, d2, d3] => { results := [.lit (.bool true)], args := [d1, d2, d3] }
  | _ => none }
def fnExactPathLengthRow : OpenClaim := { program := "ytkenfaengphiiaagreat", sum := "99cc58ac8a581074aac0c0a5ba2b8dbe12855080d5a04749f3946b91c8fafb93", func := "loop.example/g00880/laws.FnExactPathLength", spec := "fnExactPathLength", inPlace := ["math/bits.Sub64", "math/bits.Add64"], unfollowed := true, recurses := true, named := ["math/bits.divideError", "math/bits.overflowError"], apart := false }
def FnExactPathLengthSaid : Prop := fnExactPathLengthRow.holds Tryz.pinned (OpenSpec.ofChange fnExactPathLengthSpec)

/-- ITS FALSE NEIGHBOUR: 'it returns false'. Refute it at one input. -/
def fnExactPathLengthWrong : ChangeSpec := { name := "fnExactPathLength", fn := fun _ => fun
  | [d1, d2, d3] => { results := [.lit (.bool false)], args := [d1, d2, d3] }
  | _ => none }
def FnExactPathLengthWrongFalsely : Prop := fnExactPathLengthRow.holds Tryz.pinned (OpenSpec.ofChange fnExactPathLengthWrong)

/- THE SECOND FORM. 'bulk': how many values and letters a reading holds, each counted each time it is reached (what is shared counts as often as it is met; a slice's spare places count too). A statement '..UptoSaid' is the law's where the arguments, and the package variables that the reading takes, are together of bulk at most 1048576: NARROWER than '..Said'. Prove '..Said' where nothing that the law and all that it calls make is longer than what came in: it says more and counts as full. Else prove '..UptoSaid'. A law counts once. -/
mutual
def uptoBulk {H : Type} : DataW H → Nat
  | .lit (.string bytes) => bytes.length + 1
  | .lit _ => 1
  | .nil => 1
  | .ptr d => uptoBulk d + 1
  | .slice elems spare => uptoBulkAll elems + uptoBulkAll spare + 1
  | .agg parts => uptoBulkAll parts + 1
  | .iface _ d => uptoBulk d + 1
  | .map entries => uptoBulkEntries entries + 1
  | .held _ => 1
def uptoBulkAll {H : Type} : List (DataW H) → Nat
  | [] => 0
  | d :: r => uptoBulk d + uptoBulkAll r
def uptoBulkEntries {H : Type} : List (Lit × DataW H) → Nat
  | [] => 0
  | x :: r => uptoBulkEntry x + uptoBulkEntries r
def uptoBulkEntry {H : Type} : Lit × DataW H → Nat
  | (.string bytes, d) => bytes.length + uptoBulk d + 1
  | (_, d) => uptoBulk d + 1
 end
def uptoSmall : (H : Type) → List (DataW H) → Bool := fun _ ds => decide (uptoBulkAll ds ≤ 1048576)
def OpenSpec.upto (s : _root_.Go.ChangeSpec) : _root_.Go.OpenSpec := { _root_.Go.OpenSpec.ofChange s with cond := some uptoSmall }

/-- 'laws.FnSides', WHERE WHAT IT READS IS OF BULK AT MOST 1048576: true; the input reads as it did. -/
def fnSidesUptoRow : OpenClaim := { program := "ytkenfaengphiiaagreat", sum := "99cc58ac8a581074aac0c0a5ba2b8dbe12855080d5a04749f3946b91c8fafb93", func := "loop.example/g00880/laws.FnSides", spec := "fnSides", inPlace := ["math/bits.Sub64", "math/bits.Add64"], unfollowed := true, recurses := true, named := ["math/bits.divideError", "math/bits.overflowError"], apart := false, narrowed := true }
def FnSidesUptoSaid : Prop := fnSidesUptoRow.holds Tryz.pinned (OpenSpec.upto fnSidesSpec)

/-- 'laws.FnMidway', WHERE WHAT IT READS IS OF BULK AT MOST 1048576: true; the input reads as it did. -/
def fnMidwayUptoRow : OpenClaim := { program := "ytkenfaengphiiaagreat", sum := "99cc58ac8a581074aac0c0a5ba2b8dbe12855080d5a04749f3946b91c8fafb93", func := "loop.example/g00880/laws.FnMidway", spec := "fnMidway", inPlace := ["math/bits.Sub64", "math/bits.Add64"], unfollowed := true, recurses := true, named := ["math/bits.divideError", "math/bits.overflowError"], apart := false, narrowed := true }
def FnMidwayUptoSaid : Prop := fnMidwayUptoRow.holds Tryz.pinned (OpenSpec.upto fnMidwaySpec)

/-- 'laws.FnSphere', WHERE WHAT IT READS IS OF BULK AT MOST 1048576: true; the input reads as it did. -/
def fnSphereUptoRow : OpenClaim := { program := "ytkenfaengphiiaagreat", sum := "99cc58ac8a581074aac0c0a5ba2b8dbe12855080d5a04749f3946b91c8fafb93", func := "loop.example/g00880/laws.FnSphere", spec := "fnSphere", inPlace := ["math/bits.Sub64", "math/bits.Add64"], unfollowed := true, recurses := true, named := ["math/bits.divideError", "math/bits.overflowError"], apart := false, narrowed := true }
def FnSphereUptoSaid : Prop := fnSphereUptoRow.holds Tryz.pinned (OpenSpec.upto fnSphereSpec)

/-- 'laws.FnCartesian', WHERE WHAT IT READS IS OF BULK AT MOST 1048576: true; the input reads as it did. -/
def fnCartesianUptoRow : OpenClaim := { program := "ytkenfaengphiiaagreat", sum := "99cc58ac8a581074aac0c0a5ba2b8dbe12855080d5a04749f3946b91c8fafb93", func := "loop.example/g00880/laws.FnCartesian", spec := "fnCartesian", inPlace := ["math/bits.Sub64", "math/bits.Add64"], unfollowed := true, recurses := true, named := ["math/bits.divideError", "math/bits.overflowError"], apart := false, narrowed := true }
def FnCartesianUptoSaid : Prop := fnCartesianUptoRow.holds Tryz.pinned (OpenSpec.upto fnCartesianSpec)

/-- 'laws.FnExactLocalTo', WHERE WHAT IT READS IS OF BULK AT MOST 1048576: true; the input reads as it did. -/
def fnExactLocalToUptoRow : OpenClaim := { program := "ytkenfaengphiiaagreat", sum := "99cc58ac8a581074aac0c0a5ba2b8dbe12855080d5a04749f3946b91c8fafb93", func := "loop.example/g00880/laws.FnExactLocalTo", spec := "fnExactLocalTo", inPlace := ["math/bits.Sub64", "math/bits.Add64"], unfollowed := true, recurses := true, named := ["math/bits.divideError", "math/bits.overflowError"], apart := false, narrowed := true }
def FnExactLocalToUptoSaid : Prop := fnExactLocalToUptoRow.holds Tryz.pinned (OpenSpec.upto fnExactLocalToSpec)

/-- 'laws.FnExactChordBetween', WHERE WHAT IT READS IS OF BULK AT MOST 1048576: true; the input reads as it did. -/
def fnExactChordBetweenUptoRow : OpenClaim := { program := "ytkenfaengphiiaagreat", sum := "99cc58ac8a581074aac0c0a5ba2b8dbe12855080d5a04749f3946b91c8fafb93", func := "loop.example/g00880/laws.FnExactChordBetween", spec := "fnExactChordBetween", inPlace := ["math/bits.Sub64", "math/bits.Add64"], unfollowed := true, recurses := true, named := ["math/bits.divideError", "math/bits.overflowError"], apart := false, narrowed := true }
def FnExactChordBetweenUptoSaid : Prop := fnExactChordBetweenUptoRow.holds Tryz.pinned (OpenSpec.upto fnExactChordBetweenSpec)

/-- 'laws.FnExactInsideOf', WHERE WHAT IT READS IS OF BULK AT MOST 1048576: true; the input reads as it did. -/
def fnExactInsideOfUptoRow : OpenClaim := { program := "ytkenfaengphiiaagreat", sum := "99cc58ac8a581074aac0c0a5ba2b8dbe12855080d5a04749f3946b91c8fafb93", func := "loop.example/g00880/laws.FnExactInsideOf", spec := "fnExactInsideOf", inPlace := ["math/bits.Add64", "math/bits.Sub64"], unfollowed := true, recurses := true, named := ["math/bits.divideError", "math/bits.overflowError"], apart := false, narrowed := true }
def FnExactInsideOfUptoSaid : Prop := fnExactInsideOfUptoRow.holds Tryz.pinned (OpenSpec.upto fnExactInsideOfSpec)

/-- 'laws.FnExactCylinderForward', WHERE WHAT IT READS IS OF BULK AT MOST 1048576: true; the input reads as it did. -/
def fnExactCylinderForwardUptoRow : OpenClaim := { program := "ytkenfaengphiiaagreat", sum := "99cc58ac8a581074aac0c0a5ba2b8dbe12855080d5a04749f3946b91c8fafb93", func := "loop.example/g00880/laws.FnExactCylinderForward", spec := "fnExactCylinderForward", inPlace := ["math/bits.Sub64", "math/bits.Add64"], unfollowed := true, recurses := true, named := ["math/bits.divideError", "math/bits.overflowError"], apart := false, narrowed := true }
def FnExactCylinderForwardUptoSaid : Prop := fnExactCylinderForwardUptoRow.holds Tryz.pinned (OpenSpec.upto fnExactCylinderForwardSpec)

/-- 'laws.FnExactCylinderInverse', WHERE WHAT IT READS IS OF BULK AT MOST 1048576: true; the input reads as it did. -/
def fnExactCylinderInverseUptoRow : OpenClaim := { program := "ytkenfaengphiiaagreat", sum := "99cc58ac8a581074aac0c0a5ba2b8dbe12855080d5a04749f3946b91c8fafb93", func := "loop.example/g00880/laws.FnExactCylinderInverse", spec := "fnExactCylinderInverse", inPlace := ["math/bits.Sub64", "math/bits.Add64"], unfollowed := true, recurses := true, named := ["math/bits.divideError", "math/bits.overflowError"], apart := false, narrowed := true }
def FnExactCylinderInverseUptoSaid : Prop := fnExactCylinderInverseUptoRow.holds Tryz.pinned (OpenSpec.upto fnExactCylinderInverseSpec)

/-- 'laws.FnExactPathLength', WHERE WHAT IT READS IS OF BULK AT MOST 1048576: true; the input reads as it did. -/
def fnExactPathLengthUptoRow : OpenClaim := { program := "ytkenfaengphiiaagreat", sum := "99cc58ac8a581074aac0c0a5ba2b8dbe12855080d5a04749f3946b91c8fafb93", func := "loop.example/g00880/laws.FnExactPathLength", spec := "fnExactPathLength", inPlace := ["math/bits.Sub64", "math/bits.Add64"], unfollowed := true, recurses := true, named := ["math/bits.divideError", "math/bits.overflowError"], apart := false, narrowed := true }
def FnExactPathLengthUptoSaid : Prop := fnExactPathLengthUptoRow.holds Tryz.pinned (OpenSpec.upto fnExactPathLengthSpec)

end Rows
end Go.Proofs.YtkenfaengphiiaaGreat
