/- What the rows of this seat ask of the whole program: each a closed fact. No conditions. -/
import Derived.Test.YtcfflflcbacapaaGreatRows
import Derived.JoinedOf
import Derived.KernelRfl
namespace Go.Proofs.YtcfflflcbacapaaGreat
open Go Go.ChangeShapes Go.WideShapes
set_option maxRecDepth 100000
theorem and_t {a b : Bool} (ha : a = true) (hb : b = true) : (a && b) = true := by rw [ha, hb]; rfl
theorem j_1 : (laidOutB Tryz.pinned.checked.prog) = true := by kernel_rfl
theorem j_2 : (mapsRowed Tryz.pinned.checked.prog) = true := by kernel_rfl
theorem j_6 : ((Tryz.pinned.checked.prog.stops == [])) = true := by kernel_rfl
theorem j_8 : ((Tryz.pinned.checked.prog.stopKnobs == [])) = true := by kernel_rfl
theorem j_22 : ((Rows.fnExactLocalOfRow.plainKeys == Tryz.pinned.checked.prog.plainKeys)) = true := by kernel_rfl
theorem j_24 : (Tryz.pinned.checked.prog.stopsHeard) = true := by kernel_rfl
theorem j_25 : (Tryz.pinned.checked.prog.mayEnter) = true := by kernel_rfl
theorem j_26 : ((Rows.fnExactLocalOfRow.lifted == Tryz.pinned.checked.prog.liftsFinal)) = true := by kernel_rfl
theorem j_27 : ((Tryz.pinned.checked.prog.make == some Rows.fnExactLocalOfRow.make)) = true := by kernel_rfl
end Go.Proofs.YtcfflflcbacapaaGreat
