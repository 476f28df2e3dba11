/-
  No cell of these rows narrows 'for every input' (looked for: loops, veiled, ifaces, maps, wideKeys, modest, calm, conditions, laid).
  DERIVED. THE GIVEN ROWS OF THIS SEAT. 8 by the template 'for every input the law returns true; each argument reads behind the call as it read before'; 0 by the template 'total and deterministic' (their statements: YtaoakfodkoifoaaGreatTotals.lean).
  GIVEN WITH THE SEED: the statements are not yours to turn. If you find one false, say at which input.
  Laid BY PROGRAM, IN A SANDBOX (cutbox-rows.mjs): the forced cells as the released guide's own fill.sh prints them over the translation cec2cfd4f96f036e… (all of the seat's roots in one cut). By AI agents, Wed Nov 11 2026. No macro, syntax, notation, axiom, sorry.
-/
import Derived.Test.YtaoakfodkoifoaaGreatChecked
import GoSem.Claim
import GoSem.ClaimJoined
import GoSem.ClaimMapViews
import Derived.JoinedTies
import Derived.KernelRfl
namespace Go.Proofs.YtaoakfodkoifoaaGreat
/- THE CELL 'sum', in the pinned program and in every row, IS THE sha256 OF THE DUMP (.gsa) THAT YtaoakfodkoifoaaGreatProg.lean LOADS. Nothing in Lean hashes anything: it is a label: what it is worth is what the hold of that sum in a sandbox is worth. -/
noncomputable def Tryz.pinned : Pinned := { name := "ytaoakfodkoifoaagreat", sum := "cec2cfd4f96f036ed9736b2ed5aed6e9144b332703ac85220e1d3cec66e58592", checked := Tryz.checked }
namespace Rows
def none {H : Type} : Left H := { results := [], args := [] }

/-- 'laws.FnOmega': WHATEVER THE INPUT: true; the input reads as it did. -/
def fnOmegaSpec : ChangeSpec := { name := "fnOmega", fn := fun _ => fun
  | [d1, d2] => { results := [.lit (.bool true)], args := [d1, d2] }
  | _ => none }
def fnOmegaRow : OpenClaim := { program := "ytaoakfodkoifoaagreat", sum := "cec2cfd4f96f036ed9736b2ed5aed6e9144b332703ac85220e1d3cec66e58592", func := "loop.example/g00880/laws.FnOmega", spec := "fnOmega", inPlace := ["math/bits.Sub64", "math/bits.Add64"], unfollowed := true, recurses := true, named := ["math/bits.divideError", "math/bits.overflowError"], apart := false }
def FnOmegaSaid : Prop := fnOmegaRow.holds Tryz.pinned (OpenSpec.ofChange fnOmegaSpec)

/-- ITS FALSE NEIGHBOUR: 'it returns false'. Refute it at one input. -/
def fnOmegaWrong : ChangeSpec := { name := "fnOmega", fn := fun _ => fun
  | [d1, d2] => { results := [.lit (.bool false)], args := [d1, d2] }
  | _ => none }
def FnOmegaWrongFalsely : Prop := fnOmegaRow.holds Tryz.pinned (OpenSpec.ofChange fnOmegaWrong)

/-- 'laws.FnGeodesics': WHATEVER THE INPUT: true; the input reads as it did. -/
def fnGeodesicsSpec : ChangeSpec := { name := "fnGeodesics", fn := fun _ => fun
  | [d1, d2] => { results := [.lit (.bool true)], args := [d1, d2] }
  | _ => none }
def fnGeodesicsRow : OpenClaim := { program := "ytaoakfodkoifoaagreat", sum := "cec2cfd4f96f036ed9736b2ed5aed6e9144b332703ac85220e1d3cec66e58592", func := "loop.example/g00880/laws.FnGeodesics", spec := "fnGeodesics", inPlace := ["math/bits.Sub64", "math/bits.Add64"], unfollowed := true, recurses := true, named := ["math/bits.divideError", "math/bits.overflowError"], apart := false }
def FnGeodesicsSaid : Prop := fnGeodesicsRow.holds Tryz.pinned (OpenSpec.ofChange fnGeodesicsSpec)

/-- ITS FALSE NEIGHBOUR: 'it returns false'. Refute it at one input. -/
def fnGeodesicsWrong : ChangeSpec := { name := "fnGeodesics", fn := fun _ => fun
  | [d1, d2] => { results := [.lit (.bool false)], args := [d1, d2] }
  | _ => none }
def FnGeodesicsWrongFalsely : Prop := fnGeodesicsRow.holds Tryz.pinned (OpenSpec.ofChange fnGeodesicsWrong)

/-- 'laws.FnExactPathLength': WHATEVER THE INPUT: true; the input reads as it did. -/
def fnExactPathLengthSpec : ChangeSpec := { name := "fnExactPathLength", fn := fun _ => fun
  | [d1, d2, d3] => { results := [.lit (.bool true)], args := [d1, d2, d3] }
  | _ => none }
def fnExactPathLengthRow : OpenClaim := { program := "ytaoakfodkoifoaagreat", sum := "cec2cfd4f96f036ed9736b2ed5aed6e9144b332703ac85220e1d3cec66e58592", func := "loop.example/g00880/laws.FnExactPathLength", spec := "fnExactPathLength", inPlace := ["math/bits.Sub64", "math/bits.Add64"], unfollowed := true, recurses := true, named := ["math/bits.divideError", "math/bits.overflowError"], apart := false }
def FnExactPathLengthSaid : Prop := fnExactPathLengthRow.holds Tryz.pinned (OpenSpec.ofChange fnExactPathLengthSpec)

/-- ITS FALSE NEIGHBOUR: 'it returns false'. Refute it at one input. -/
def fnExactPathLengthWrong : ChangeSpec := { name := "fnExactPathLength", fn := fun _ => fun
  | [d1, d2, d3] => { results := [.lit (.bool false)], args := [d1, d2, d3] }
  | _ => none }
def FnExactPathLengthWrongFalsely : Prop := fnExactPathLengthRow.holds Tryz.pinned (OpenSpec.ofChange fnExactPathLengthWrong)

/-- 'laws.FnExactGeodesicOmega': WHATEVER THE INPUT: true; the input reads as it did. -/
def fnExactGeodesicOmegaSpec : ChangeSpec := { name := "fnExactGeodesicOmega", fn := fun _ => fun
  | [d1, d2, d3, d4] => { results := [.lit (.bool true)], args := [d1, d2, d3, d4] }
  | _ => none }
def fnExactGeodesicOmegaRow : OpenClaim := { program := "ytaoakfodkoifoaagreat", sum := "cec2cfd4f96f036ed9736b2ed5aed6e9144b332703ac85220e1d3cec66e58592", func := "loop.example/g00880/laws.FnExactGeodesicOmega", spec := "fnExactGeodesicOmega", inPlace := ["math/bits.Sub64", "math/bits.Add64"], unfollowed := true, recurses := true, named := ["math/bits.divideError", "math/bits.overflowError"], apart := false }
def FnExactGeodesicOmegaSaid : Prop := fnExactGeodesicOmegaRow.holds Tryz.pinned (OpenSpec.ofChange fnExactGeodesicOmegaSpec)

/-- ITS FALSE NEIGHBOUR: 'it returns false'. Refute it at one input. -/
def fnExactGeodesicOmegaWrong : ChangeSpec := { name := "fnExactGeodesicOmega", fn := fun _ => fun
  | [d1, d2, d3, d4] => { results := [.lit (.bool false)], args := [d1, d2, d3, d4] }
  | _ => none }
def FnExactGeodesicOmegaWrongFalsely : Prop := fnExactGeodesicOmegaRow.holds Tryz.pinned (OpenSpec.ofChange fnExactGeodesicOmegaWrong)

/-- 'laws.FnExactOmegaStep': WHATEVER THE INPUT: true; the input reads as it did. -/
def fnExactOmegaStepSpec : ChangeSpec := { name := "fnExactOmegaStep", fn := fun _ => fun
  | [d1, d2, d3, d4, d5] => { results := [.lit (.bool true)], args := [d1, d2, d3, d4, d5] }
  | _ => none }
def fnExactOmegaStepRow : OpenClaim := { program := "ytaoakfodkoifoaagreat", sum := "cec2cfd4f96f036ed9736b2ed5aed6e9144b332703ac85220e1d3cec66e58592", func := "loop.example/g00880/laws.FnExactOmegaStep", spec := "fnExactOmegaStep", inPlace := ["math/bits.Sub64", "math/bits.Add64"], unfollowed := true, recurses := true, named := ["math/bits.divideError", "math/bits.overflowError"], apart := false }
def FnExactOmegaStepSaid : Prop := fnExactOmegaStepRow.holds Tryz.pinned (OpenSpec.ofChange fnExactOmegaStepSpec)

/-- ITS FALSE NEIGHBOUR: 'it returns false'. Refute it at one input. -/
def fnExactOmegaStepWrong : ChangeSpec := { name := "fnExactOmegaStep", fn := fun _ => fun
  | [d1, d2, d3, d4, d5] => { results := [.lit (.bool false)], args := [d1, d2, d3, d4, d5] }
  | _ => none }
def FnExactOmegaStepWrongFalsely : Prop := fnExactOmegaStepRow.holds Tryz.pinned (OpenSpec.ofChange fnExactOmegaStepWrong)

/-- 'laws.FnExactOmegaStart': WHATEVER THE INPUT: true; the input reads as it did. -/
def fnExactOmegaStartSpec : ChangeSpec := { name := "fnExactOmegaStart", fn := fun _ => fun
  | [d1, d2, d3] => { results := [.lit (.bool true)], args := [d1, d2, d3] }
  | _ => none }
def fnExactOmegaStartRow : OpenClaim := { program := "ytaoakfodkoifoaagreat", sum := "cec2cfd4f96f036ed9736b2ed5aed6e9144b332703ac85220e1d3cec66e58592", func := "loop.example/g00880/laws.FnExactOmegaStart", spec := "fnExactOmegaStart", inPlace := ["math/bits.Sub64", "math/bits.Add64"], unfollowed := true, recurses := true, named := ["math/bits.divideError", "math/bits.overflowError"], apart := false }
def FnExactOmegaStartSaid : Prop := fnExactOmegaStartRow.holds Tryz.pinned (OpenSpec.ofChange fnExactOmegaStartSpec)

/-- ITS FALSE NEIGHBOUR: 'it returns false'. Refute it at one input. -/
def fnExactOmegaStartWrong : ChangeSpec := { name := "fnExactOmegaStart", fn := fun _ => fun
  | [d1, d2, d3] => { results := [.lit (.bool false)], args := [d1, d2, d3] }
  | _ => none }
def FnExactOmegaStartWrongFalsely : Prop := fnExactOmegaStartRow.holds Tryz.pinned (OpenSpec.ofChange fnExactOmegaStartWrong)

/-- 'laws.FnExactGeodesicBounds': WHATEVER THE INPUT: true; the input reads as it did. -/
def fnExactGeodesicBoundsSpec : ChangeSpec := { name := "fnExactGeodesicBounds", fn := fun _ => fun
  | [d1, d2, d3] => { results := [.lit (.bool true)], args := [d1, d2, d3] }
  | _ => none }
def fnExactGeodesicBoundsRow : OpenClaim := { program := "ytaoakfodkoifoaagreat", sum := "cec2cfd4f96f036ed9736b2ed5aed6e9144b332703ac85220e1d3cec66e58592", func := "loop.example/g00880/laws.FnExactGeodesicBounds", spec := "fnExactGeodesicBounds", inPlace := ["math/bits.Sub64", "math/bits.Add64"], unfollowed := true, recurses := true, named := ["math/bits.divideError", "math/bits.overflowError"], apart := false }
def FnExactGeodesicBoundsSaid : Prop := fnExactGeodesicBoundsRow.holds Tryz.pinned (OpenSpec.ofChange fnExactGeodesicBoundsSpec)

/-- ITS FALSE NEIGHBOUR: 'it returns false'. Refute it at one input. -/
def fnExactGeodesicBoundsWrong : ChangeSpec := { name := "fnExactGeodesicBounds", fn := fun _ => fun
  | [d1, d2, d3] => { results := [.lit (.bool false)], args := [d1, d2, d3] }
  | _ => none }
def FnExactGeodesicBoundsWrongFalsely : Prop := fnExactGeodesicBoundsRow.holds Tryz.pinned (OpenSpec.ofChange fnExactGeodesicBoundsWrong)

/-- 'laws.FnSphere': WHATEVER THE INPUT: true; the input reads as it did. -/
def fnSphereSpec : ChangeSpec := { name := "fnSphere", fn := fun _ => fun
  | [d] => { results := [.lit (.bool true)], args := [d] }
  | _ => none }
def fnSphereRow : OpenClaim := { program := "ytaoakfodkoifoaagreat", sum := "cec2cfd4f96f036ed9736b2ed5aed6e9144b332703ac85220e1d3cec66e58592", func := "loop.example/g00880/laws.FnSphere", spec := "fnSphere", inPlace := ["math/bits.Sub64", "math/bits.Add64"], unfollowed := true, recurses := true, named := ["math/bits.divideError", "math/bits.overflowError"], apart := false }
def FnSphereSaid : Prop := fnSphereRow.holds Tryz.pinned (OpenSpec.ofChange fnSphereSpec)

/-- ITS FALSE NEIGHBOUR: 'it returns false'. Refute it at one input. -/
def fnSphereWrong : ChangeSpec := { name := "fnSphere", fn := fun _ => fun
  | [d] => { results := [.lit (.bool false)], args := [d] }
  | _ => none }
def FnSphereWrongFalsely : Prop := fnSphereRow.holds Tryz.pinned (OpenSpec.ofChange fnSphereWrong)

/- THE SECOND FORM. 'bulk': how many values and letters a reading holds, each counted each time it is reached (what is shared counts as often as it is met; a slice's spare places count too). A statement '..UptoSaid' is the law's where the arguments, and the package variables that the reading takes, are together of bulk at most 1048576: NARROWER than '..Said'. Prove '..Said' where nothing that the law and all that it calls make is longer than what came in: it says more and counts as full. Else prove '..UptoSaid'. A law counts once. -/
mutual
def uptoBulk {H : Type} : DataW H → Nat
  | .lit (.string bytes) => bytes.length + 1
  | .lit _ => 1
  | .nil => 1
  | .ptr d => uptoBulk d + 1
  | .slice elems spare => uptoBulkAll elems + uptoBulkAll spare + 1
  | .agg parts => uptoBulkAll parts + 1
  | .iface _ d => uptoBulk d + 1
  | .map entries => uptoBulkEntries entries + 1
  | .held _ => 1
def uptoBulkAll {H : Type} : List (DataW H) → Nat
  | [] => 0
  | d :: r => uptoBulk d + uptoBulkAll r
def uptoBulkEntries {H : Type} : List (Lit × DataW H) → Nat
  | [] => 0
  | x :: r => uptoBulkEntry x + uptoBulkEntries r
def uptoBulkEntry {H : Type} : Lit × DataW H → Nat
  | (.string bytes, d) => bytes.length + uptoBulk d + 1
  | (_, d) => uptoBulk d + 1
 end
def uptoSmall : (H : Type) → List (DataW H) → Bool := fun _ ds => decide (uptoBulkAll ds ≤ 1048576)
def OpenSpec.upto (s : _root_.Go.ChangeSpec) : _root_.Go.OpenSpec := { _root_.Go.OpenSpec.ofChange s with cond := some uptoSmall }

/-- 'laws.FnOmega', WHERE WHAT IT READS IS OF BULK AT MOST 1048576: true; the input reads as it did. -/
def fnOmegaUptoRow : OpenClaim := { program := "ytaoakfodkoifoaagreat", sum := "cec2cfd4f96f036ed9736b2ed5aed6e9144b332703ac85220e1d3cec66e58592", func := "loop.example/g00880/laws.FnOmega", spec := "fnOmega", inPlace := ["math/bits.Sub64", "math/bits.Add64"], unfollowed := true, recurses := true, named := ["math/bits.divideError", "math/bits.overflowError"], apart := false, narrowed := true }
def FnOmegaUptoSaid : Prop := fnOmegaUptoRow.holds Tryz.pinned (OpenSpec.upto fnOmegaSpec)

/-- 'laws.FnGeodesics', WHERE WHAT IT READS IS OF BULK AT MOST 1048576: true; the input reads as it did. -/
def fnGeodesicsUptoRow : OpenClaim := { program := "ytaoakfodkoifoaagreat", sum := "cec2cfd4f96f036ed9736b2ed5aed6e9144b332703ac85220e1d3cec66e58592", func := "loop.example/g00880/laws.FnGeodesics", spec := "fnGeodesics", inPlace := ["math/bits.Sub64", "math/bits.Add64"], unfollowed := true, recurses := true, named := ["math/bits.divideError", "math/bits.overflowError"], apart := false, narrowed := true }
def FnGeodesicsUptoSaid : Prop := fnGeodesicsUptoRow.holds Tryz.pinned (OpenSpec.upto fnGeodesicsSpec)

/-- 'laws.FnExactPathLength', WHERE WHAT IT READS IS OF BULK AT MOST 1048576: true; the input reads as it did. -/
def fnExactPathLengthUptoRow : OpenClaim := { program := "ytaoakfodkoifoaagreat", sum := "cec2cfd4f96f036ed9736b2ed5aed6e9144b332703ac85220e1d3cec66e58592", func := "loop.example/g00880/laws.FnExactPathLength", spec := "fnExactPathLength", inPlace := ["math/bits.Sub64", "math/bits.Add64"], unfollowed := true, recurses := true, named := ["math/bits.divideError", "math/bits.overflowError"], apart := false, narrowed := true }
def FnExactPathLengthUptoSaid : Prop := fnExactPathLengthUptoRow.holds Tryz.pinned (OpenSpec.upto fnExactPathLengthSpec)

/-- 'laws.FnExactGeodesicOmega', WHERE WHAT IT READS IS OF BULK AT MOST 1048576: true; the input reads as it did. -/
def fnExactGeodesicOmegaUptoRow : OpenClaim := { program := "ytaoakfodkoifoaagreat", sum := "cec2cfd4f96f036ed9736b2ed5aed6e9144b332703ac85220e1d3cec66e58592", func := "loop.example/g00880/laws.FnExactGeodesicOmega", spec := "fnExactGeodesicOmega", inPlace := ["math/bits.Sub64", "math/bits.Add64"], unfollowed := true, recurses := true, named := ["math/bits.divideError", "math/bits.overflowError"], apart := false, narrowed := true }
def FnExactGeodesicOmegaUptoSaid : Prop := fnExactGeodesicOmegaUptoRow.holds Tryz.pinned (OpenSpec.upto fnExactGeodesicOmegaSpec)

/-- 'laws.FnExactOmegaStep', WHERE WHAT IT READS IS OF BULK AT MOST 1048576: true; the input reads as it did. -/
def fnExactOmegaStepUptoRow : OpenClaim := { program := "ytaoakfodkoifoaagreat", sum := "cec2cfd4f96f036ed9736b2ed5aed6e9144b332703ac85220e1d3cec66e58592", func := "loop.example/g00880/laws.FnExactOmegaStep", spec := "fnExactOmegaStep", inPlace := ["math/bits.Sub64", "math/bits.Add64"], unfollowed := true, recurses := true, named := ["math/bits.divideError", "math/bits.overflowError"], apart := false, narrowed := true }
def FnExactOmegaStepUptoSaid : Prop := fnExactOmegaStepUptoRow.holds Tryz.pinned (OpenSpec.upto fnExactOmegaStepSpec)

/-- 'laws.FnExactOmegaStart', WHERE WHAT IT READS IS OF BULK AT MOST 1048576: true; the input reads as it did. -/
def fnExactOmegaStartUptoRow : OpenClaim := { program := "ytaoakfodkoifoaagreat", sum := "cec2cfd4f96f036ed9736b2ed5aed6e9144b332703ac85220e1d3cec66e58592", func := "loop.example/g00880/laws.FnExactOmegaStart", spec := "fnExactOmegaStart", inPlace := ["math/bits.Sub64", "math/bits.Add64"], unfollowed := true, recurses := true, named := ["math/bits.divideError", "math/bits.overflowError"], apart := false, narrowed := true }
def FnExactOmegaStartUptoSaid : Prop := fnExactOmegaStartUptoRow.holds Tryz.pinned (OpenSpec.upto fnExactOmegaStartSpec)

/-- 'laws.FnExactGeodesicBounds', WHERE WHAT IT READS IS OF BULK AT MOST 1048576: true; the input reads as it did. -/
def fnExactGeodesicBoundsUptoRow : OpenClaim := { program := "ytaoakfodkoifoaagreat", sum := "cec2cfd4f96f036ed9736b2ed5aed6e9144b332703ac85220e1d3cec66e58592", func := "loop.example/g00880/laws.FnExactGeodesicBounds", spec := "fnExactGeodesicBounds", inPlace := ["math/bits.Sub64", "math/bits.Add64"], unfollowed := true, recurses := true, named := ["math/bits.divideError", "math/bits.overflowError"], apart := false, narrowed := true }
def FnExactGeodesicBoundsUptoSaid : Prop := fnExactGeodesicBoundsUptoRow.holds Tryz.pinned (OpenSpec.upto fnExactGeodesicBoundsSpec)

/-- 'laws.FnSphere', WHERE WHAT IT READS IS OF BULK AT MOST 1048576: true; the input reads as it did. -/
def fnSphereUptoRow : OpenClaim := { program := "ytaoakfodkoifoaagreat", sum := "cec2cfd4f96f036ed9736b2ed5aed6e9144b332703ac85220e1d3cec66e58592", func := "loop.example/g00880/laws.FnSphere", spec := "fnSphere", inPlace := ["math/bits.Sub64", "math/bits.Add64"], unfollowed := true, recurses := true, named := ["math/bits.divideError", "math/bits.overflowError"], apart := false, narrowed := true }
def FnSphereUptoSaid : Prop := fnSphereUptoRow.holds Tryz.pinned (OpenSpec.upto fnSphereSpec)

end Rows
end Go.Proofs.YtaoakfodkoifoaaGreat
