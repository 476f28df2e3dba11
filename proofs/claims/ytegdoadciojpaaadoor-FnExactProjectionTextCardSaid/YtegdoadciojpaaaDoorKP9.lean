/- What the listed tables give the walk; the door's own heap meets the condition. -/
import Derived.Test.YtegdoadciojpaaaDoorGvC
import Derived.Test.YtegdoadciojpaaaDoorChecked
import Derived.Test.YtegdoadciojpaaaDoorRows
import Derived.ProofKit
import Derived.LaidMore
import Derived.OpenShut
import Derived.OpenVars
import Derived.Lib.LaidTab
import Derived.Lib.ItoaNum
import Derived.ChangeArms
import Derived.Stop.Joined
import Derived.KernelRfl
namespace Go.Proofs.YtegdoadciojpaaaDoor
open Go.ChangeShapes Go.WideShapes Go.ChangeAt Go.RowKit
set_option linter.unusedVariables false
theorem card_own : ownKnob Tryd.prog.godebug = none := by kernel_rfl
theorem card_out : laidOutB Tryd.prog = true := by kernel_rfl
def names1 : List (String × DataW Unit) := [("loop.example/g00880/impl.projectionNames", Rows.laid_loop_example_g00880_impl_projectionNames)]
theorem gNames : Tryd.prog.globalNamed "loop.example/g00880/impl.projectionNames" = some 0 := by kernel_rfl
theorem tNames : (Tryd.prog.globals[0]?).map (·.type) = some 48 := by kernel_rfl
theorem cells9 : Tryd.prog.cellsOf 9 = 1 := by kernel_rfl
theorem cells48 : Tryd.prog.cellsOf 48 = 17 := by kernel_rfl
theorem names_lit : (Rows.laid_loop_example_g00880_impl_projectionNames : DataW Unit) = .agg (Ev.names.map fun s => .lit (.string s.data.toList)) := by kernel_rfl
theorem namesRowed : varsRowed Tryd.prog ["loop.example/g00880/impl.projectionNames"] = true := by kernel_rfl

theorem ba_ext {a b : ByteArray} (h : a.data.toList = b.data.toList) : a = b := by
  cases a; cases b
  simp only at h
  rw [Array.ext' h]
/-- A table of texts, cell by cell. -/
theorem texts_of {enc : TypeId × Value → Unit} {w : World} {sp : Nat → Bool} {m : Nat} {L : List ByteArray} {cs : List Value} {xs : List (DataW Unit × List MemPlace)} (hlen : cs.length = L.length)
    (hx : xs.map (·.1) = L.map fun s => .lit (.string s.data.toList)) (hel : ∀ i, i < L.length → DataW.trod enc Tryd.prog w 0 sp false m 9 ((cs.drop i).take 1) = xs[i]?) : cs = L.map Value.string := by
  apply List.ext_getElem?
  intro i
  by_cases hi : i < L.length
  · have hc : i < cs.length := by omega
    have h1 := hel i hi
    have hxl : xs.length = L.length := by have := congrArg List.length hx; simpa using this
    have hxi : xs[i]? = some xs[i] := List.getElem?_eq_getElem (by omega)
    rw [hxi] at h1
    obtain ⟨s, e1, e2, _⟩ := DataW.trod_string Tryd.underlying9 h1
    have e3 : (cs.drop i).take 1 = [cs[i]] := by
      rw [List.drop_eq_getElem_cons hc, List.take_succ_cons, List.take_zero]
    rw [e3] at e1
    have e4 : cs[i] = .string s := by simpa using e1
    have e5 : (xs.map (·.1))[i]? = some (.lit (.string s.data.toList)) := by
      rw [List.getElem?_map, hxi, e2]; rfl
    rw [hx, List.getElem?_map, List.getElem?_eq_getElem hi] at e5
    simp only [Option.map_some, Option.some.injEq, DataW.lit.injEq, Lit.string.injEq] at e5
    rw [List.getElem?_eq_getElem hc, e4, List.getElem?_map, List.getElem?_eq_getElem hi, ba_ext e5]
    rfl
  · rw [List.getElem?_eq_none (by omega), List.getElem?_eq_none (by simp; omega)]

theorem gTab : Tryd.prog.globalNamed "internal/strconv.uint64pow10" = some 1 := by kernel_rfl
theorem tTab : (Tryd.prog.globals[1]?).map (·.type) = some 115 := by kernel_rfl
theorem uTab : ∃ e, Tryd.prog.underlying 115 = some (.array 20 e) ∧ Tryd.prog.underlying e = some (.int .u64) ∧ Tryd.prog.cellsOf e = 1 := ⟨90, by kernel_rfl, by kernel_rfl, by kernel_rfl⟩
theorem cTab : Tryd.prog.cellsOf 115 = 20 := by kernel_rfl
theorem dTab : (Rows.laid_internal_strconv_uint64pow10 : DataW Unit) = Lib.tabData .u64 Lib.pow10Tab := by kernel_rfl
theorem pows_eq : (Ev.pow10s.map fun x => Value.int .u64 x.val) = Lib.pow10Tab.map fun z => Value.int .u64 z := by kernel_rfl

def tabs4 : List (String × DataW Unit) := [("math/bits.deBruijn32tab", Rows.laid_math_bits_deBruijn32tab), ("math/bits.deBruijn64tab", Rows.laid_math_bits_deBruijn64tab), ("internal/strconv.uint64pow10", Rows.laid_internal_strconv_uint64pow10), ("loop.example/g00880/impl.projectionNames", Rows.laid_loop_example_g00880_impl_projectionNames)]
theorem row_at {W : World} {n : String} {g : Nat} {cs : Array Value} {L : List Value} (hg : Tryd.prog.globalNamed n = some g) (hv : W.var? Tryd.prog n = some cs) (hcs : cs.toList = L) (hL : 0 < L.length)
    (hz : ∃ c t, W.heap[g]? = some (.cells c t (0, 0))) : ∃ t, W.heap[g]? = some (.cells L.toArray t (0, 0)) := by
  obtain ⟨c, t, hc⟩ := hz
  have : cs = c := by
    simp only [World.var?, hg, Option.bind_some, hc, Option.some.injEq] at hv
    exact hv.symm
  subst this
  exact ⟨t, by rw [hc, ← hcs, Array.toArray_toList]⟩
theorem inv_of_four {W : World} (h : laidMetH Tryd.prog tabs4 W) : Ev.Inv0 W := by
  rw [MakeChecks.laidMetH_plain _ _ _ (by kernel_rfl)] at h
  obtain ⟨ps, ⟨g1, t1, cs1, f1, p1, q1, hg1, ht1, hv1, hd1, ⟨g2, t2, cs2, f2, p2, q2, hg2, ht2, hv2, hd2, ⟨g3, t3, cs3, f3, p3, q3, hg3, ht3, hv3, hd3, ⟨g0, t0, cs0, f0, p0, q0, hg0, ht0, hv0, hd0, _, hps0⟩, hps3⟩, hps2⟩, hps1⟩, _, hz⟩ := h
  obtain rfl := Option.some.inj (gTab.symm.trans hg3)
  obtain rfl := Option.some.inj (tTab.symm.trans ht3)
  obtain rfl := Option.some.inj (gNames.symm.trans hg0)
  obtain rfl := Option.some.inj (tNames.symm.trans ht0)
  obtain ⟨e, u1, u2, u3⟩ := uTab
  rw [dTab] at hd3
  have hcs := Lib.cells_of_tab u1 u2 u3 cTab hd3
  obtain ⟨xs, m, rfl, hx, hlen, hn, hel⟩ := DataW.trod_array Tryd.underlying48 hd0
  rw [names_lit] at hx
  simp only [Prod.mk.injEq, DataW.agg.injEq] at hx
  have hL : Ev.names.length = 17 := by decide +kernel
  have hcs0 : cs0.toList = Ev.names.map Value.string := texts_of (by rw [hlen, cells48, hL]) hx.1.symm (fun i hi => by
    have := hel i (by rw [hL] at hi; exact hi)
    rw [cells9, Nat.mul_one] at this
    exact this)
  have hLP : (Lib.pow10Tab.map fun z => Value.int .u64 z).length = 20 := by simp [Lib.pow10Tab]
  have hs3 : 0 < cs3.size := by
    have := congrArg List.length hcs
    rw [hLP] at this
    simp at this
    omega
  have hs0 : 0 < cs0.size := by
    have := congrArg List.length hcs0
    simp [hL] at this
    omega
  have z3 := (hz 1 0 (by
    rw [hps1, hps2, hps3]
    refine List.mem_append_right _ (List.mem_append_right _ (List.mem_append_left _ (List.mem_append_left _ ?_)))
    exact List.mem_map.2 ⟨0, List.mem_range.2 hs3, rfl⟩)).1
  have z0 := (hz 0 0 (by
    rw [hps1, hps2, hps3, hps0]
    refine List.mem_append_right _ (List.mem_append_right _ (List.mem_append_right _ (List.mem_append_left _ (List.mem_append_left _ ?_))))
    exact List.mem_map.2 ⟨0, List.mem_range.2 hs0, rfl⟩)).1
  intro g cs hg
  match g, hg with
  | 0, hg =>
    simp only [Ev.gcells, Option.some.injEq] at hg
    subst hg
    obtain ⟨t, ht⟩ := row_at gNames hv0 hcs0 (by simp [hL]) z0
    refine ⟨_, t, ht, ?_⟩
    generalize Ev.names = L
    induction L with
    | nil => exact .nil
    | cons s L ih => exact .cons (.str s) ih
  | 1, hg =>
    simp only [Ev.gcells, Option.some.injEq] at hg
    subst hg
    obtain ⟨t, ht⟩ := row_at gTab hv3 hcs (by rw [hLP]; decide) z3
    rw [← pows_eq] at ht
    refine ⟨_, t, ht, ?_⟩
    generalize Ev.pow10s = L
    induction L with
    | nil => exact .nil
    | cons s L ih => exact .cons (.u64 s) ih
set_option maxRecDepth 100000 in
theorem four_met (os : Os) (args : Array Value) : laidMetH Tryd.prog tabs4 ((World.doorLaid Tryd.prog 77 os).forCall (fun _ _ => 0) ⟨#[], args, []⟩).memory :=
  laidMetH_of_parts3 (fuel := 8) (laidMet_of_run' 8 (by kernel_rfl) (by kernel_rfl)) (by kernel_rfl) (by kernel_rfl)
end Go.Proofs.YtegdoadciojpaaaDoor
