/- The law FnExactCylinderForward gives true, whatever comes in; each argument reads behind the call as it read before. No conditions. -/
import Derived.Test.YtecfhpgpojgjkaaGreatEvC
import Derived.Test.YtecfhpgpojgjkaaGreatP28
import Derived.Test.YtecfhpgpojgjkaaGreatRows
import Derived.Test.YtecfhpgpojgjkaaGreatRJ
namespace Go.Proofs.YtecfhpgpojgjkaaGreat
open Go.ChangeShapes Go.WideShapes Go.ChangeAt Go.RowKit

theorem fnExactCylinderForward_own : ownKnob Tryz.prog.godebug = none := by kernel_rfl
section
open Go
set_option maxRecDepth 100000
theorem fnExactCylinderForward_c0 : (Rows.fnExactCylinderForwardRow.wf (OpenSpec.ofChange Rows.fnExactCylinderForwardSpec)) = true := by kernel_rfl
theorem fnExactCylinderForward_c3 : (Tryz.f3.params.all (Tryz.pinned.checked.prog.readableRec ·)) = true := by kernel_rfl
theorem fnExactCylinderForward_c4 : (namedTie Tryz.pinned.checked.prog Rows.fnExactCylinderForwardRow.named Rows.fnExactCylinderForwardSpec.vars) = true := by kernel_rfl
theorem fnExactCylinderForward_c5 : ((Rows.fnExactCylinderForwardRow.stops == [])) = true := by kernel_rfl
theorem fnExactCylinderForward_c7 : ((Rows.fnExactCylinderForwardRow.knobs == [])) = true := by kernel_rfl
theorem fnExactCylinderForward_c9 : ((Rows.fnExactCylinderForwardRow.inPlace == Tryz.pinned.checked.prog.inPlace 3)) = true := by kernel_rfl
theorem fnExactCylinderForward_c10 : ((Rows.fnExactCylinderForwardRow.unfollowed == Tryz.pinned.checked.prog.unfollowed 3)) = true := by kernel_rfl
theorem fnExactCylinderForward_c11 : ((Rows.fnExactCylinderForwardRow.recurses == Tryz.pinned.checked.prog.recurses 3)) = true := by kernel_rfl
theorem fnExactCylinderForward_c12 : ((Rows.fnExactCylinderForwardRow.named == Tryz.pinned.checked.prog.varsNamed 3)) = true := by kernel_rfl
theorem fnExactCylinderForward_c13 : ((Rows.fnExactCylinderForwardRow.maps == (Tryz.f3.params.toList ++ Rows.fnExactCylinderForwardSpec.plain.varTypes Tryz.pinned.checked.prog).any (Tryz.pinned.checked.prog.mapsRec ·))) = true := by kernel_rfl
theorem fnExactCylinderForward_c14 : ((Rows.fnExactCylinderForwardRow.ifaces == (Tryz.f3.params.toList ++ Rows.fnExactCylinderForwardSpec.plain.varTypes Tryz.pinned.checked.prog).any (Tryz.pinned.checked.prog.ifacesRec ·))) = true := by kernel_rfl
theorem fnExactCylinderForward_c15 : ((Rows.fnExactCylinderForwardRow.mapsOut == Tryz.pinned.checked.prog.mapsAmong Tryz.f3.resultTypes.toList)) = true := by kernel_rfl
theorem fnExactCylinderForward_c16 : ((Rows.fnExactCylinderForwardRow.loops == (Tryz.f3.params.toList ++ Rows.fnExactCylinderForwardSpec.plain.varTypes Tryz.pinned.checked.prog).any (Tryz.pinned.checked.prog.loopsFrom ·))) = true := by kernel_rfl
theorem fnExactCylinderForward_c17 : ((Rows.fnExactCylinderForwardRow.wideKeys == (Tryz.f3.params.toList ++ Rows.fnExactCylinderForwardSpec.plain.varTypes Tryz.pinned.checked.prog ++ Tryz.f3.resultTypes.toList).any (Tryz.pinned.checked.prog.wideKeysFrom ·))) = true := by kernel_rfl
theorem fnExactCylinderForward_c18 : (Rows.fnExactCylinderForwardSpec.vars.all (Tryz.pinned.checked.prog.varReadable ·)) = true := by kernel_rfl
theorem fnExactCylinderForward_c19 : (Tryz.f3.resultTypes.all (fun t => Tryz.pinned.checked.prog.readableRec t && decide (t < Tryz.pinned.checked.prog.types.size))) = true := by kernel_rfl
theorem fnExactCylinderForward_c20 : ((Rows.fnExactCylinderForwardRow.ifacesOut == Tryz.f3.resultTypes.toList.any (Tryz.pinned.checked.prog.ifacesRec ·))) = true := by kernel_rfl
theorem fnExactCylinderForward_c21 : ((Rows.fnExactCylinderForwardRow.loopsOut == Tryz.f3.resultTypes.toList.any (Tryz.pinned.checked.prog.loopsFrom ·))) = true := by kernel_rfl
theorem fnExactCylinderForward_c23 : (Rows.fnExactCylinderForwardRow.shortTexts.isNone) = true := by kernel_rfl
theorem fnExactCylinderForward_c28 : ((Rows.fnExactCylinderForwardRow.kinds == (if Rows.fnExactCylinderForwardRow.domain.isEmpty then [] else Tryz.f3.params.toList.map fun t => match Tryz.pinned.checked.prog.underlying t with | some (.int k) => some k | _ => none))) = true := by kernel_rfl
theorem fnExactCylinderForward_c29 : ((Rows.fnExactCylinderForwardRow.pinned == Rows.fnExactCylinderForwardRow.pinnedBy)) = true := by kernel_rfl
theorem fnExactCylinderForward_c30 : ((Rows.fnExactCylinderForwardRow.veiled == (Tryz.f3.params.toList ++ Rows.fnExactCylinderForwardSpec.plain.varTypes Tryz.pinned.checked.prog ++ Tryz.f3.resultTypes.toList).any (Tryz.pinned.checked.prog.veiledRec ·))) = true := by kernel_rfl
theorem fnExactCylinderForward_c31 : (Rows.fnExactCylinderForwardRow.veiledFits Tryz.pinned.checked.prog Tryz.f3.params.toList (Tryz.f3.params.toList ++ Rows.fnExactCylinderForwardSpec.plain.varTypes Tryz.pinned.checked.prog ++ Tryz.f3.resultTypes.toList)) = true := by kernel_rfl
theorem fnExactCylinderForward_closed : joinedFacts Tryz.pinned.checked.prog 3 Tryz.f3 Rows.fnExactCylinderForwardSpec Rows.fnExactCylinderForwardRow = true := by
  unfold joinedFacts
  exact (and_t (and_t (and_t (and_t (and_t (and_t (and_t (and_t (and_t (and_t (and_t (and_t (and_t (and_t (and_t (and_t (and_t (and_t (and_t (and_t (and_t (and_t (and_t (and_t (and_t (and_t (and_t (and_t (and_t (and_t (and_t fnExactCylinderForward_c0 j_1) j_2) fnExactCylinderForward_c3) fnExactCylinderForward_c4) fnExactCylinderForward_c5) j_6) fnExactCylinderForward_c7) j_8) fnExactCylinderForward_c9) fnExactCylinderForward_c10) fnExactCylinderForward_c11) fnExactCylinderForward_c12) fnExactCylinderForward_c13) fnExactCylinderForward_c14) fnExactCylinderForward_c15) fnExactCylinderForward_c16) fnExactCylinderForward_c17) fnExactCylinderForward_c18) fnExactCylinderForward_c19) fnExactCylinderForward_c20) fnExactCylinderForward_c21) j_22) fnExactCylinderForward_c23) j_24) j_25) j_26) j_27) fnExactCylinderForward_c28) fnExactCylinderForward_c29) fnExactCylinderForward_c30) fnExactCylinderForward_c31)
end
set_option maxRecDepth 100000 in
theorem fnExactCylinderForward_lifted (os : Os) (started : os.Started) (H : Type) (enc : TypeId × Value → H) :
    ReturnsInHanded {} Tryz.checked os 3 .any (Rows.fnExactCylinderForwardSpec.pre6 enc Tryz.prog Tryz.f3 Rows.fnExactCylinderForwardRow.domain false) (Rows.fnExactCylinderForwardSpec.post enc Tryz.prog Tryz.f3 false true false false) := by
  refine returnsInHanded_of_change (C := Tryz.checked) fnExactCylinderForward_own started (by kernel_rfl) Tryz.func3
    (ChangeSpec.witness6 (enc := enc) (C := Tryz.checked) false ⟨#[], #[.agg #[.int .i64 0, .int .i64 0, .int .i64 0, .int .i64 0, .int .i64 0], .agg #[.int .i64 0, .int .i64 0]], []⟩ 8 (by kernel_rfl) (by kernel_rfl) (by kernel_rfl) (by kernel_rfl)) ?_
  intro W base args ds gs before hval0 hW hcnd _
  have hval : ∀ (j : Nat) t v, Tryz.f3.params[j]? = some t → args[j]? = some v → Value.okWide Tryz.prog W .any base t v := hval0
  have hW1 := hW
  obtain ⟨p, q, hA0, hV, rfl, hfz, hnd⟩ := hW
  have hA : DataW.TrodAll enc Tryz.prog W 0 (fun _ => true) true Tryz.f3.params.toList args.toList ds p := hA0
  rw [Tryz.params3] at hA hval
  obtain ⟨v0, v1, d0, d1, p0, p1, rfl, rfl, rfl, h0, h1⟩ := trodAll_two hA
  obtain ⟨rfl, rfl⟩ := trodVars_none hV
  obtain ⟨⟨x0, r0⟩, rfl, s0⟩ := Ev.open_arg (α := Ev.Proj) (by kernel_rfl) (by kernel_rfl) (hval 0 23 v0 rfl rfl) h0
  obtain ⟨⟨x1, r1⟩, rfl, s1⟩ := Ev.open_arg (α := Ev.Point) (by kernel_rfl) (by kernel_rfl) (hval 1 25 v1 rfl rfl) h1
  clear hA0 hval0
  refine (Ev.Tb.run_sound (ρ := fun _ => none) (t := Ev.Tb3) (b := Ev.B3) (γ := Bool) (y := true) (Ev.law_FnExactCylinderForward x0 x1) (.cons (r0 _) (.cons (r1 _) .nil)) (by simp [Ev.V.pfs, Ev.Enc.pf])).mono fun e W1 he => ?_
  obtain ⟨x, rfl, hx, hb⟩ := he
  have hx1 := hx (fun _ => none)
  cases hx1
  exact ⟨_, rfl, Ev.post_flat hW1 (fun _ _ _ => trodAll_mk1 (shut_bool Tryz.underlying4 true)) (fun sp => trodAll_mk2 (s0 _ _ _ _) (s1 _ _ _ _)) (fun _ => rfl) hb (ok_one (by kernel_rfl) rfl (okWide_bool_mk Tryz.underlying4 true))⟩

theorem fnExactCylinderForward_holds : Rows.FnExactCylinderForwardSaid :=
  OpenClaim.holds_of_wide 3 Tryz.f3 rfl rfl rfl rfl rfl rfl rfl ⟨rfl, rfl, rfl, rfl, rfl⟩ rfl rfl rfl rfl rfl (by kernel_rfl) Tryz.func3 fnExactCylinderForward_closed
    (of_decide_eq_true (by kernel_rfl)) (by unfold Func.isWrapper; first | (rw [if_pos (by decide +kernel)]; kernel_rfl) | (rw [if_neg (by decide +kernel)]; exact ⟨rfl, rfl⟩))
    (fun os started H enc _ => fnExactCylinderForward_lifted os started H enc)

end Go.Proofs.YtecfhpgpojgjkaaGreat
