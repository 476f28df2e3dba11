/- What the listed tables give the walk; the door's own heap meets the condition. -/
import Derived.Test.YtegdoadciojpaaaDoorFvC
import Derived.Test.YtegdoadciojpaaaDoorChecked
import Derived.Test.YtegdoadciojpaaaDoorRows
import Derived.ProofKit
import Derived.LaidMore
import Derived.OpenShut
import Derived.Lib.LaidTab
import Derived.Lib.ItoaNum
import Derived.ChangeArms
import Derived.Stop.Joined
import Derived.KernelRfl
namespace Go.Proofs.YtegdoadciojpaaaDoor
open Go.ChangeShapes Go.WideShapes Go.ChangeAt Go.RowKit
set_option linter.unusedVariables false
theorem tabs_own : ownKnob Tryd.prog.godebug = none := by kernel_rfl
def tabs3 : List (String × DataW Unit) := [("math/bits.deBruijn32tab", Rows.laid_math_bits_deBruijn32tab), ("math/bits.deBruijn64tab", Rows.laid_math_bits_deBruijn64tab), ("internal/strconv.uint64pow10", Rows.laid_internal_strconv_uint64pow10)]
theorem gTab : Tryd.prog.globalNamed "internal/strconv.uint64pow10" = some 1 := by kernel_rfl
theorem tTab : (Tryd.prog.globals[1]?).map (·.type) = some 115 := by kernel_rfl
theorem uTab : ∃ e, Tryd.prog.underlying 115 = some (.array 20 e) ∧ Tryd.prog.underlying e = some (.int .u64) ∧ Tryd.prog.cellsOf e = 1 := ⟨90, by kernel_rfl, by kernel_rfl, by kernel_rfl⟩
theorem cTab : Tryd.prog.cellsOf 115 = 20 := by kernel_rfl
theorem dTab : (Rows.laid_internal_strconv_uint64pow10 : DataW Unit) = Lib.tabData .u64 Lib.pow10Tab := by kernel_rfl
theorem pows_eq : (Ev.pow10s.map fun x => Value.int .u64 x.val) = Lib.pow10Tab.map fun z => Value.int .u64 z := by kernel_rfl
theorem inv_of_tabs {W : World} (h : laidMetH Tryd.prog tabs3 W) : Ev.Inv0 W := by
  rw [MakeChecks.laidMetH_plain _ _ _ (by kernel_rfl)] at h
  obtain ⟨ps, ⟨g1, t1, cs1, f1, p1, q1, hg1, ht1, hv1, hd1, ⟨g2, t2, cs2, f2, p2, q2, hg2, ht2, hv2, hd2, ⟨g3, t3, cs3, f3, p3, q3, hg3, ht3, hv3, hd3, _, hps3⟩, hps2⟩, hps1⟩, _, hz⟩ := h
  obtain rfl := Option.some.inj (gTab.symm.trans hg3)
  obtain rfl := Option.some.inj (tTab.symm.trans ht3)
  obtain ⟨e, u1, u2, u3⟩ := uTab
  rw [dTab] at hd3
  have hcs := Lib.cells_of_tab u1 u2 u3 cTab hd3
  intro g cs hg
  match g, hg with
  | 1, hg =>
    simp only [Ev.gcells, Option.some.injEq] at hg
    subst hg
    have hh : ∃ t fr, W.heap[1]? = some (.cells cs3 t fr) := by
      simp only [World.var?, hg3, Option.bind_some] at hv3
      split at hv3
      · rename_i c t fr hc
        cases hv3
        exact ⟨t, fr, hc⟩
      · cases hv3
    obtain ⟨t, fr, hh⟩ := hh
    have hL : (Lib.pow10Tab.map fun z => Value.int .u64 z).length = 20 := by simp [Lib.pow10Tab]
    have hsz : 0 < cs3.size := by
      have := congrArg List.length hcs
      rw [hL] at this
      simp at this
      omega
    obtain ⟨⟨c, t', hc⟩, _⟩ := hz 1 0 (by
      rw [hps1, hps2, hps3]
      refine List.mem_append_right _ (List.mem_append_right _ (List.mem_append_left _ (List.mem_append_left _ ?_)))
      exact List.mem_map.2 ⟨0, List.mem_range.2 hsz, rfl⟩)
    rw [hh] at hc
    simp only [Option.some.injEq, Obj.cells.injEq] at hc
    obtain ⟨rfl, rfl, rfl⟩ := hc
    refine ⟨Ev.pow10s.map fun x => Value.int .u64 x.val, t, by rw [hh, pows_eq, ← hcs, Array.toArray_toList], ?_⟩
    generalize Ev.pow10s = L
    induction L with
    | nil => exact .nil
    | cons s L ih => exact .cons (.u64 s) ih
set_option maxRecDepth 100000 in
theorem tabs_met (os : Os) (args : Array Value) : laidMetH Tryd.prog tabs3 ((World.doorLaid Tryd.prog 77 os).forCall (fun _ _ => 0) ⟨#[], args, []⟩).memory :=
  laidMetH_of_parts3 (fuel := 8) (laidMet_of_run' 8 (by kernel_rfl) (by kernel_rfl)) (by kernel_rfl) (by kernel_rfl)
end Go.Proofs.YtegdoadciojpaaaDoor
