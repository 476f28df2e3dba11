/- The law FnExactCylinderScales gives true, whatever comes in; each argument reads behind the call as it read before. No conditions. -/
import Derived.Test.YtcfflflcbacapaaGreatEv7
import Derived.Test.YtcfflflcbacapaaGreatP15
import Derived.Test.YtcfflflcbacapaaGreatRows
import Derived.Test.YtcfflflcbacapaaGreatRJ
namespace Go.Proofs.YtcfflflcbacapaaGreat
open Go.ChangeShapes Go.WideShapes Go.ChangeAt Go.RowKit

theorem fnExactCylinderScales_own : ownKnob Tryz.prog.godebug = none := by kernel_rfl
section
open Go
set_option maxRecDepth 100000
theorem fnExactCylinderScales_c0 : (Rows.fnExactCylinderScalesRow.wf (OpenSpec.ofChange Rows.fnExactCylinderScalesSpec)) = true := by kernel_rfl
theorem fnExactCylinderScales_c3 : (Tryz.f5.params.all (Tryz.pinned.checked.prog.readableRec ·)) = true := by kernel_rfl
theorem fnExactCylinderScales_c4 : (namedTie Tryz.pinned.checked.prog Rows.fnExactCylinderScalesRow.named Rows.fnExactCylinderScalesSpec.vars) = true := by kernel_rfl
theorem fnExactCylinderScales_c5 : ((Rows.fnExactCylinderScalesRow.stops == [])) = true := by kernel_rfl
theorem fnExactCylinderScales_c7 : ((Rows.fnExactCylinderScalesRow.knobs == [])) = true := by kernel_rfl
theorem fnExactCylinderScales_c9 : ((Rows.fnExactCylinderScalesRow.inPlace == Tryz.pinned.checked.prog.inPlace 5)) = true := by kernel_rfl
theorem fnExactCylinderScales_c10 : ((Rows.fnExactCylinderScalesRow.unfollowed == Tryz.pinned.checked.prog.unfollowed 5)) = true := by kernel_rfl
theorem fnExactCylinderScales_c11 : ((Rows.fnExactCylinderScalesRow.recurses == Tryz.pinned.checked.prog.recurses 5)) = true := by kernel_rfl
theorem fnExactCylinderScales_c12 : ((Rows.fnExactCylinderScalesRow.named == Tryz.pinned.checked.prog.varsNamed 5)) = true := by kernel_rfl
theorem fnExactCylinderScales_c13 : ((Rows.fnExactCylinderScalesRow.maps == (Tryz.f5.params.toList ++ Rows.fnExactCylinderScalesSpec.plain.varTypes Tryz.pinned.checked.prog).any (Tryz.pinned.checked.prog.mapsRec ·))) = true := by kernel_rfl
theorem fnExactCylinderScales_c14 : ((Rows.fnExactCylinderScalesRow.ifaces == (Tryz.f5.params.toList ++ Rows.fnExactCylinderScalesSpec.plain.varTypes Tryz.pinned.checked.prog).any (Tryz.pinned.checked.prog.ifacesRec ·))) = true := by kernel_rfl
theorem fnExactCylinderScales_c15 : ((Rows.fnExactCylinderScalesRow.mapsOut == Tryz.pinned.checked.prog.mapsAmong Tryz.f5.resultTypes.toList)) = true := by kernel_rfl
theorem fnExactCylinderScales_c16 : ((Rows.fnExactCylinderScalesRow.loops == (Tryz.f5.params.toList ++ Rows.fnExactCylinderScalesSpec.plain.varTypes Tryz.pinned.checked.prog).any (Tryz.pinned.checked.prog.loopsFrom ·))) = true := by kernel_rfl
theorem fnExactCylinderScales_c17 : ((Rows.fnExactCylinderScalesRow.wideKeys == (Tryz.f5.params.toList ++ Rows.fnExactCylinderScalesSpec.plain.varTypes Tryz.pinned.checked.prog ++ Tryz.f5.resultTypes.toList).any (Tryz.pinned.checked.prog.wideKeysFrom ·))) = true := by kernel_rfl
theorem fnExactCylinderScales_c18 : (Rows.fnExactCylinderScalesSpec.vars.all (Tryz.pinned.checked.prog.varReadable ·)) = true := by kernel_rfl
theorem fnExactCylinderScales_c19 : (Tryz.f5.resultTypes.all (fun t => Tryz.pinned.checked.prog.readableRec t && decide (t < Tryz.pinned.checked.prog.types.size))) = true := by kernel_rfl
theorem fnExactCylinderScales_c20 : ((Rows.fnExactCylinderScalesRow.ifacesOut == Tryz.f5.resultTypes.toList.any (Tryz.pinned.checked.prog.ifacesRec ·))) = true := by kernel_rfl
theorem fnExactCylinderScales_c21 : ((Rows.fnExactCylinderScalesRow.loopsOut == Tryz.f5.resultTypes.toList.any (Tryz.pinned.checked.prog.loopsFrom ·))) = true := by kernel_rfl
theorem fnExactCylinderScales_c23 : (Rows.fnExactCylinderScalesRow.shortTexts.isNone) = true := by kernel_rfl
theorem fnExactCylinderScales_c28 : ((Rows.fnExactCylinderScalesRow.kinds == (if Rows.fnExactCylinderScalesRow.domain.isEmpty then [] else Tryz.f5.params.toList.map fun t => match Tryz.pinned.checked.prog.underlying t with | some (.int k) => some k | _ => none))) = true := by kernel_rfl
theorem fnExactCylinderScales_c29 : ((Rows.fnExactCylinderScalesRow.pinned == Rows.fnExactCylinderScalesRow.pinnedBy)) = true := by kernel_rfl
theorem fnExactCylinderScales_c30 : ((Rows.fnExactCylinderScalesRow.veiled == (Tryz.f5.params.toList ++ Rows.fnExactCylinderScalesSpec.plain.varTypes Tryz.pinned.checked.prog ++ Tryz.f5.resultTypes.toList).any (Tryz.pinned.checked.prog.veiledRec ·))) = true := by kernel_rfl
theorem fnExactCylinderScales_c31 : (Rows.fnExactCylinderScalesRow.veiledFits Tryz.pinned.checked.prog Tryz.f5.params.toList (Tryz.f5.params.toList ++ Rows.fnExactCylinderScalesSpec.plain.varTypes Tryz.pinned.checked.prog ++ Tryz.f5.resultTypes.toList)) = true := by kernel_rfl
theorem fnExactCylinderScales_closed : joinedFacts Tryz.pinned.checked.prog 5 Tryz.f5 Rows.fnExactCylinderScalesSpec Rows.fnExactCylinderScalesRow = true := by
  unfold joinedFacts
  exact (and_t (and_t (and_t (and_t (and_t (and_t (and_t (and_t (and_t (and_t (and_t (and_t (and_t (and_t (and_t (and_t (and_t (and_t (and_t (and_t (and_t (and_t (and_t (and_t (and_t (and_t (and_t (and_t (and_t (and_t (and_t fnExactCylinderScales_c0 j_1) j_2) fnExactCylinderScales_c3) fnExactCylinderScales_c4) fnExactCylinderScales_c5) j_6) fnExactCylinderScales_c7) j_8) fnExactCylinderScales_c9) fnExactCylinderScales_c10) fnExactCylinderScales_c11) fnExactCylinderScales_c12) fnExactCylinderScales_c13) fnExactCylinderScales_c14) fnExactCylinderScales_c15) fnExactCylinderScales_c16) fnExactCylinderScales_c17) fnExactCylinderScales_c18) fnExactCylinderScales_c19) fnExactCylinderScales_c20) fnExactCylinderScales_c21) j_22) fnExactCylinderScales_c23) j_24) j_25) j_26) j_27) fnExactCylinderScales_c28) fnExactCylinderScales_c29) fnExactCylinderScales_c30) fnExactCylinderScales_c31)
end
set_option maxRecDepth 100000 in
theorem fnExactCylinderScales_lifted (os : Os) (started : os.Started) (H : Type) (enc : TypeId × Value → H) :
    ReturnsInHanded {} Tryz.checked os 5 .any (Rows.fnExactCylinderScalesSpec.pre6 enc Tryz.prog Tryz.f5 Rows.fnExactCylinderScalesRow.domain false) (Rows.fnExactCylinderScalesSpec.post enc Tryz.prog Tryz.f5 false true false false) := by
  refine returnsInHanded_of_change (C := Tryz.checked) fnExactCylinderScales_own started (by kernel_rfl) Tryz.func5
    (ChangeSpec.witness6 (enc := enc) (C := Tryz.checked) false ⟨#[], #[.agg #[.int .i64 0, .int .i64 0, .int .i64 0, .int .i64 0, .int .i64 0], .agg #[.int .i64 0, .int .i64 0]], []⟩ 8 (by kernel_rfl) (by kernel_rfl) (by kernel_rfl) (by kernel_rfl)) ?_
  intro W base args ds gs before hval0 hW hcnd _
  have hval : ∀ (j : Nat) t v, Tryz.f5.params[j]? = some t → args[j]? = some v → Value.okWide Tryz.prog W .any base t v := hval0
  have hW1 := hW
  obtain ⟨p, q, hA0, hV, rfl, hfz, hnd⟩ := hW
  have hA : DataW.TrodAll enc Tryz.prog W 0 (fun _ => true) true Tryz.f5.params.toList args.toList ds p := hA0
  rw [Tryz.params5] at hA hval
  obtain ⟨v0, v1, d0, d1, p0, p1, rfl, rfl, rfl, h0, h1⟩ := trodAll_two hA
  obtain ⟨rfl, rfl⟩ := trodVars_none hV
  obtain ⟨⟨x0, r0⟩, rfl, s0⟩ := Ev.open_arg (α := Ev.Proj) (by kernel_rfl) (by kernel_rfl) (hval 0 23 v0 rfl rfl) h0
  obtain ⟨⟨x1, r1⟩, rfl, s1⟩ := Ev.open_arg (α := Ev.Point) (by kernel_rfl) (by kernel_rfl) (hval 1 25 v1 rfl rfl) h1
  clear hA0 hval0
  refine (Ev.Tb.run_sound (ρ := fun _ => none) (t := Ev.Tb5) (b := Ev.B5) (γ := Bool) (y := true) (Ev.law_FnExactCylinderScales x0 x1) (.cons (r0 _) (.cons (r1 _) .nil)) (by simp [Ev.V.pfs, Ev.Enc.pf])).mono fun e W1 he => ?_
  obtain ⟨x, rfl, hx, hb⟩ := he
  have hx1 := hx (fun _ => none)
  cases hx1
  exact ⟨_, rfl, Ev.post_flat hW1 (fun _ _ _ => trodAll_mk1 (shut_bool Tryz.underlying4 true)) (fun sp => trodAll_mk2 (s0 _ _ _ _) (s1 _ _ _ _)) (fun _ => rfl) hb (ok_one (by kernel_rfl) rfl (okWide_bool_mk Tryz.underlying4 true))⟩

theorem fnExactCylinderScales_holds : Rows.FnExactCylinderScalesSaid :=
  OpenClaim.holds_of_wide 5 Tryz.f5 rfl rfl rfl rfl rfl rfl rfl ⟨rfl, rfl, rfl, rfl, rfl⟩ rfl rfl rfl rfl rfl (by kernel_rfl) Tryz.func5 fnExactCylinderScales_closed
    (of_decide_eq_true (by kernel_rfl)) (by unfold Func.isWrapper; first | (rw [if_pos (by decide +kernel)]; kernel_rfl) | (rw [if_neg (by decide +kernel)]; exact ⟨rfl, rfl⟩))
    (fun os started H enc _ => fnExactCylinderScales_lifted os started H enc)

end Go.Proofs.YtcfflflcbacapaaGreat
