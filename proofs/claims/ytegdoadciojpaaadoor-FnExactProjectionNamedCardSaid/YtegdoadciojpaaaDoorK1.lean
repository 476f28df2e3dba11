/- What the listed table gives the walks; the door's own heap meets the condition. -/
import Derived.Test.YtegdoadciojpaaaDoorEvC
import Derived.Test.YtegdoadciojpaaaDoorChecked
import Derived.Test.YtegdoadciojpaaaDoorRows
import Derived.ProofKit
import Derived.LaidMore
import Derived.OpenShut
import Derived.OpenVars
import Derived.ChangeArms
import Derived.Stop.Joined
import Derived.KernelRfl
namespace Go.Proofs.YtegdoadciojpaaaDoor
open Go.ChangeShapes Go.WideShapes Go.ChangeAt Go.RowKit
set_option linter.unusedVariables false

theorem card_own : ownKnob Tryd.prog.godebug = none := by kernel_rfl
theorem card_out : laidOutB Tryd.prog = true := by kernel_rfl
def names1 : List (String × DataW Unit) := [("loop.example/g00880/impl.projectionNames", Rows.laid_loop_example_g00880_impl_projectionNames)]
theorem gNames : Tryd.prog.globalNamed "loop.example/g00880/impl.projectionNames" = some 0 := by kernel_rfl
theorem tNames : (Tryd.prog.globals[0]?).map (·.type) = some 48 := by kernel_rfl
theorem cells9 : Tryd.prog.cellsOf 9 = 1 := by kernel_rfl
theorem cells48 : Tryd.prog.cellsOf 48 = 17 := by kernel_rfl
theorem names_lit : (Rows.laid_loop_example_g00880_impl_projectionNames : DataW Unit) = .agg (Ev.names.map fun s => .lit (.string s.data.toList)) := by kernel_rfl
theorem namesRowed : varsRowed Tryd.prog ["loop.example/g00880/impl.projectionNames"] = true := by kernel_rfl

theorem ba_ext {a b : ByteArray} (h : a.data.toList = b.data.toList) : a = b := by
  cases a; cases b
  simp only at h
  rw [Array.ext' h]
/-- A table of texts, cell by cell. -/
theorem texts_of {enc : TypeId × Value → Unit} {w : World} {sp : Nat → Bool} {m : Nat} {L : List ByteArray} {cs : List Value} {xs : List (DataW Unit × List MemPlace)} (hlen : cs.length = L.length)
    (hx : xs.map (·.1) = L.map fun s => .lit (.string s.data.toList)) (hel : ∀ i, i < L.length → DataW.trod enc Tryd.prog w 0 sp false m 9 ((cs.drop i).take 1) = xs[i]?) : cs = L.map Value.string := by
  apply List.ext_getElem?
  intro i
  by_cases hi : i < L.length
  · have hc : i < cs.length := by omega
    have h1 := hel i hi
    have hxl : xs.length = L.length := by have := congrArg List.length hx; simpa using this
    have hxi : xs[i]? = some xs[i] := List.getElem?_eq_getElem (by omega)
    rw [hxi] at h1
    obtain ⟨s, e1, e2, _⟩ := DataW.trod_string Tryd.underlying9 h1
    have e3 : (cs.drop i).take 1 = [cs[i]] := by
      rw [List.drop_eq_getElem_cons hc, List.take_succ_cons, List.take_zero]
    rw [e3] at e1
    have e4 : cs[i] = .string s := by simpa using e1
    have e5 : (xs.map (·.1))[i]? = some (.lit (.string s.data.toList)) := by
      rw [List.getElem?_map, hxi, e2]; rfl
    rw [hx, List.getElem?_map, List.getElem?_eq_getElem hi] at e5
    simp only [Option.map_some, Option.some.injEq, DataW.lit.injEq, Lit.string.injEq] at e5
    rw [List.getElem?_eq_getElem hc, e4, List.getElem?_map, List.getElem?_eq_getElem hi, ba_ext e5]
    rfl
  · rw [List.getElem?_eq_none (by omega), List.getElem?_eq_none (by simp; omega)]

/-- The table's cells. -/
theorem inv_of_laid {W : World} (h : laidMetH Tryd.prog names1 W) : Ev.Inv0 W := by
  rw [MakeChecks.laidMetH_plain _ _ _ (by kernel_rfl)] at h
  obtain ⟨ps, ⟨g0, t0, cs0, f0, p0, q0, hg0, ht0, hv0, hd0, _, hps⟩, _, hz⟩ := h
  obtain rfl := Option.some.inj (gNames.symm.trans hg0)
  obtain rfl := Option.some.inj (tNames.symm.trans ht0)
  obtain ⟨xs, m, rfl, hx, hlen, hn, hel⟩ := DataW.trod_array Tryd.underlying48 hd0
  rw [names_lit] at hx
  simp only [Prod.mk.injEq, DataW.agg.injEq] at hx
  have hL : Ev.names.length = 17 := by decide +kernel
  have hcs : cs0.toList = Ev.names.map Value.string := texts_of (by rw [hlen, cells48, hL]) hx.1.symm (fun i hi => by
    have := hel i (by rw [hL] at hi; exact hi)
    rw [cells9, Nat.mul_one] at this
    exact this)
  intro g cs hg
  match g, hg with
  | 0, hg =>
    simp only [Ev.gcells, Option.some.injEq] at hg
    subst hg
    have hh : ∃ t fr, W.heap[0]? = some (.cells cs0 t fr) := by
      simp only [World.var?, hg0, Option.bind_some] at hv0
      split at hv0
      · rename_i c t fr hc
        cases hv0
        exact ⟨t, fr, hc⟩
      · cases hv0
    obtain ⟨t, fr, hh⟩ := hh
    have hsz : 0 < cs0.size := by
      have := congrArg List.length hcs
      simp [hL] at this
      omega
    obtain ⟨⟨c, t', hc⟩, _⟩ := hz 0 0 (by
      rw [hps]
      refine List.mem_append_left _ (List.mem_append_left _ ?_)
      exact List.mem_map.2 ⟨0, List.mem_range.2 hsz, rfl⟩)
    rw [hh] at hc
    simp only [Option.some.injEq, Obj.cells.injEq] at hc
    obtain ⟨rfl, rfl, rfl⟩ := hc
    refine ⟨Ev.names.map Value.string, t, by rw [hh, ← hcs, Array.toArray_toList], ?_⟩
    generalize Ev.names = L
    induction L with
    | nil => exact .nil
    | cons s L ih => exact .cons (.str s) ih
set_option maxRecDepth 100000 in
/-- The door's own heap meets the condition. -/
theorem door_met (os : Os) (args : Array Value) : laidMetH Tryd.prog names1 ((World.doorLaid Tryd.prog 77 os).forCall (fun _ _ => 0) ⟨#[], args, []⟩).memory :=
  laidMetH_of_parts3 (fuel := 8) (laidMet_of_run' 8 (by kernel_rfl) (by kernel_rfl)) (by kernel_rfl) (by kernel_rfl)
end Go.Proofs.YtegdoadciojpaaaDoor
