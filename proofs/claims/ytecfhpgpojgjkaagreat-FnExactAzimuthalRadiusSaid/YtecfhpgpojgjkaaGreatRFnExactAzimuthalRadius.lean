/- The law FnExactAzimuthalRadius gives true, whatever comes in; each argument reads behind the call as it read before. No conditions. -/
import Derived.Test.YtecfhpgpojgjkaaGreatEvC
import Derived.Test.YtecfhpgpojgjkaaGreatP28
import Derived.Test.YtecfhpgpojgjkaaGreatRows
import Derived.Test.YtecfhpgpojgjkaaGreatRJ
namespace Go.Proofs.YtecfhpgpojgjkaaGreat
open Go.ChangeShapes Go.WideShapes Go.ChangeAt Go.RowKit

theorem fnExactAzimuthalRadius_own : ownKnob Tryz.prog.godebug = none := by kernel_rfl
section
open Go
set_option maxRecDepth 100000
theorem fnExactAzimuthalRadius_c0 : (Rows.fnExactAzimuthalRadiusRow.wf (OpenSpec.ofChange Rows.fnExactAzimuthalRadiusSpec)) = true := by kernel_rfl
theorem fnExactAzimuthalRadius_c3 : (Tryz.f12.params.all (Tryz.pinned.checked.prog.readableRec ·)) = true := by kernel_rfl
theorem fnExactAzimuthalRadius_c4 : (namedTie Tryz.pinned.checked.prog Rows.fnExactAzimuthalRadiusRow.named Rows.fnExactAzimuthalRadiusSpec.vars) = true := by kernel_rfl
theorem fnExactAzimuthalRadius_c5 : ((Rows.fnExactAzimuthalRadiusRow.stops == [])) = true := by kernel_rfl
theorem fnExactAzimuthalRadius_c7 : ((Rows.fnExactAzimuthalRadiusRow.knobs == [])) = true := by kernel_rfl
theorem fnExactAzimuthalRadius_c9 : ((Rows.fnExactAzimuthalRadiusRow.inPlace == Tryz.pinned.checked.prog.inPlace 12)) = true := by kernel_rfl
theorem fnExactAzimuthalRadius_c10 : ((Rows.fnExactAzimuthalRadiusRow.unfollowed == Tryz.pinned.checked.prog.unfollowed 12)) = true := by kernel_rfl
theorem fnExactAzimuthalRadius_c11 : ((Rows.fnExactAzimuthalRadiusRow.recurses == Tryz.pinned.checked.prog.recurses 12)) = true := by kernel_rfl
theorem fnExactAzimuthalRadius_c12 : ((Rows.fnExactAzimuthalRadiusRow.named == Tryz.pinned.checked.prog.varsNamed 12)) = true := by kernel_rfl
theorem fnExactAzimuthalRadius_c13 : ((Rows.fnExactAzimuthalRadiusRow.maps == (Tryz.f12.params.toList ++ Rows.fnExactAzimuthalRadiusSpec.plain.varTypes Tryz.pinned.checked.prog).any (Tryz.pinned.checked.prog.mapsRec ·))) = true := by kernel_rfl
theorem fnExactAzimuthalRadius_c14 : ((Rows.fnExactAzimuthalRadiusRow.ifaces == (Tryz.f12.params.toList ++ Rows.fnExactAzimuthalRadiusSpec.plain.varTypes Tryz.pinned.checked.prog).any (Tryz.pinned.checked.prog.ifacesRec ·))) = true := by kernel_rfl
theorem fnExactAzimuthalRadius_c15 : ((Rows.fnExactAzimuthalRadiusRow.mapsOut == Tryz.pinned.checked.prog.mapsAmong Tryz.f12.resultTypes.toList)) = true := by kernel_rfl
theorem fnExactAzimuthalRadius_c16 : ((Rows.fnExactAzimuthalRadiusRow.loops == (Tryz.f12.params.toList ++ Rows.fnExactAzimuthalRadiusSpec.plain.varTypes Tryz.pinned.checked.prog).any (Tryz.pinned.checked.prog.loopsFrom ·))) = true := by kernel_rfl
theorem fnExactAzimuthalRadius_c17 : ((Rows.fnExactAzimuthalRadiusRow.wideKeys == (Tryz.f12.params.toList ++ Rows.fnExactAzimuthalRadiusSpec.plain.varTypes Tryz.pinned.checked.prog ++ Tryz.f12.resultTypes.toList).any (Tryz.pinned.checked.prog.wideKeysFrom ·))) = true := by kernel_rfl
theorem fnExactAzimuthalRadius_c18 : (Rows.fnExactAzimuthalRadiusSpec.vars.all (Tryz.pinned.checked.prog.varReadable ·)) = true := by kernel_rfl
theorem fnExactAzimuthalRadius_c19 : (Tryz.f12.resultTypes.all (fun t => Tryz.pinned.checked.prog.readableRec t && decide (t < Tryz.pinned.checked.prog.types.size))) = true := by kernel_rfl
theorem fnExactAzimuthalRadius_c20 : ((Rows.fnExactAzimuthalRadiusRow.ifacesOut == Tryz.f12.resultTypes.toList.any (Tryz.pinned.checked.prog.ifacesRec ·))) = true := by kernel_rfl
theorem fnExactAzimuthalRadius_c21 : ((Rows.fnExactAzimuthalRadiusRow.loopsOut == Tryz.f12.resultTypes.toList.any (Tryz.pinned.checked.prog.loopsFrom ·))) = true := by kernel_rfl
theorem fnExactAzimuthalRadius_c23 : (Rows.fnExactAzimuthalRadiusRow.shortTexts.isNone) = true := by kernel_rfl
theorem fnExactAzimuthalRadius_c28 : ((Rows.fnExactAzimuthalRadiusRow.kinds == (if Rows.fnExactAzimuthalRadiusRow.domain.isEmpty then [] else Tryz.f12.params.toList.map fun t => match Tryz.pinned.checked.prog.underlying t with | some (.int k) => some k | _ => none))) = true := by kernel_rfl
theorem fnExactAzimuthalRadius_c29 : ((Rows.fnExactAzimuthalRadiusRow.pinned == Rows.fnExactAzimuthalRadiusRow.pinnedBy)) = true := by kernel_rfl
theorem fnExactAzimuthalRadius_c30 : ((Rows.fnExactAzimuthalRadiusRow.veiled == (Tryz.f12.params.toList ++ Rows.fnExactAzimuthalRadiusSpec.plain.varTypes Tryz.pinned.checked.prog ++ Tryz.f12.resultTypes.toList).any (Tryz.pinned.checked.prog.veiledRec ·))) = true := by kernel_rfl
theorem fnExactAzimuthalRadius_c31 : (Rows.fnExactAzimuthalRadiusRow.veiledFits Tryz.pinned.checked.prog Tryz.f12.params.toList (Tryz.f12.params.toList ++ Rows.fnExactAzimuthalRadiusSpec.plain.varTypes Tryz.pinned.checked.prog ++ Tryz.f12.resultTypes.toList)) = true := by kernel_rfl
theorem fnExactAzimuthalRadius_closed : joinedFacts Tryz.pinned.checked.prog 12 Tryz.f12 Rows.fnExactAzimuthalRadiusSpec Rows.fnExactAzimuthalRadiusRow = true := by
  unfold joinedFacts
  exact (and_t (and_t (and_t (and_t (and_t (and_t (and_t (and_t (and_t (and_t (and_t (and_t (and_t (and_t (and_t (and_t (and_t (and_t (and_t (and_t (and_t (and_t (and_t (and_t (and_t (and_t (and_t (and_t (and_t (and_t (and_t fnExactAzimuthalRadius_c0 j_1) j_2) fnExactAzimuthalRadius_c3) fnExactAzimuthalRadius_c4) fnExactAzimuthalRadius_c5) j_6) fnExactAzimuthalRadius_c7) j_8) fnExactAzimuthalRadius_c9) fnExactAzimuthalRadius_c10) fnExactAzimuthalRadius_c11) fnExactAzimuthalRadius_c12) fnExactAzimuthalRadius_c13) fnExactAzimuthalRadius_c14) fnExactAzimuthalRadius_c15) fnExactAzimuthalRadius_c16) fnExactAzimuthalRadius_c17) fnExactAzimuthalRadius_c18) fnExactAzimuthalRadius_c19) fnExactAzimuthalRadius_c20) fnExactAzimuthalRadius_c21) j_22) fnExactAzimuthalRadius_c23) j_24) j_25) j_26) j_27) fnExactAzimuthalRadius_c28) fnExactAzimuthalRadius_c29) fnExactAzimuthalRadius_c30) fnExactAzimuthalRadius_c31)
end
set_option maxRecDepth 100000 in
theorem fnExactAzimuthalRadius_lifted (os : Os) (started : os.Started) (H : Type) (enc : TypeId × Value → H) :
    ReturnsInHanded {} Tryz.checked os 12 .any (Rows.fnExactAzimuthalRadiusSpec.pre6 enc Tryz.prog Tryz.f12 Rows.fnExactAzimuthalRadiusRow.domain false) (Rows.fnExactAzimuthalRadiusSpec.post enc Tryz.prog Tryz.f12 false true false false) := by
  refine returnsInHanded_of_change (C := Tryz.checked) fnExactAzimuthalRadius_own started (by kernel_rfl) Tryz.func12
    (ChangeSpec.witness6 (enc := enc) (C := Tryz.checked) false ⟨#[], #[.int .i64 0, .agg #[.int .i64 0, .int .i64 0]], []⟩ 8 (by kernel_rfl) (by kernel_rfl) (by kernel_rfl) (by kernel_rfl)) ?_
  intro W base args ds gs before hval0 hW hcnd _
  have hval : ∀ (j : Nat) t v, Tryz.f12.params[j]? = some t → args[j]? = some v → Value.okWide Tryz.prog W .any base t v := hval0
  have hW1 := hW
  obtain ⟨p, q, hA0, hV, rfl, hfz, hnd⟩ := hW
  have hA : DataW.TrodAll enc Tryz.prog W 0 (fun _ => true) true Tryz.f12.params.toList args.toList ds p := hA0
  rw [Tryz.params12] at hA hval
  obtain ⟨v0, v1, d0, d1, p0, p1, rfl, rfl, rfl, h0, h1⟩ := trodAll_two hA
  obtain ⟨rfl, rfl⟩ := trodVars_none hV
  obtain ⟨⟨x0, r0⟩, rfl, s0⟩ := Ev.open_arg (α := Ev.I64) (by kernel_rfl) (by kernel_rfl) (hval 0 2 v0 rfl rfl) h0
  obtain ⟨⟨x1, r1⟩, rfl, s1⟩ := Ev.open_arg (α := Ev.Iv) (by kernel_rfl) (by kernel_rfl) (hval 1 38 v1 rfl rfl) h1
  clear hA0 hval0
  refine (Ev.Tb.run_sound (ρ := fun _ => none) (t := Ev.Tb12) (b := Ev.B12) (γ := Bool) (y := true) (Ev.law_FnExactAzimuthalRadius x0 x1) (.cons (r0 _) (.cons (r1 _) .nil)) (by simp [Ev.V.pfs, Ev.Enc.pf])).mono fun e W1 he => ?_
  obtain ⟨x, rfl, hx, hb⟩ := he
  have hx1 := hx (fun _ => none)
  cases hx1
  exact ⟨_, rfl, Ev.post_flat hW1 (fun _ _ _ => trodAll_mk1 (shut_bool Tryz.underlying4 true)) (fun sp => trodAll_mk2 (s0 _ _ _ _) (s1 _ _ _ _)) (fun _ => rfl) hb (ok_one (by kernel_rfl) rfl (okWide_bool_mk Tryz.underlying4 true))⟩

theorem fnExactAzimuthalRadius_holds : Rows.FnExactAzimuthalRadiusSaid :=
  OpenClaim.holds_of_wide 12 Tryz.f12 rfl rfl rfl rfl rfl rfl rfl ⟨rfl, rfl, rfl, rfl, rfl⟩ rfl rfl rfl rfl rfl (by kernel_rfl) Tryz.func12 fnExactAzimuthalRadius_closed
    (of_decide_eq_true (by kernel_rfl)) (by unfold Func.isWrapper; first | (rw [if_pos (by decide +kernel)]; kernel_rfl) | (rw [if_neg (by decide +kernel)]; exact ⟨rfl, rfl⟩))
    (fun os started H enc _ => fnExactAzimuthalRadius_lifted os started H enc)

end Go.Proofs.YtecfhpgpojgjkaaGreat
