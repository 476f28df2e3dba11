/- The law FnExactAzimuthalAngle gives true, whatever comes in; each argument reads behind the call as it read before. No conditions. -/
import Derived.Test.YtcfflflcbacapaaGreatEv7
import Derived.Test.YtcfflflcbacapaaGreatP15
import Derived.Test.YtcfflflcbacapaaGreatRows
import Derived.Test.YtcfflflcbacapaaGreatRJ
namespace Go.Proofs.YtcfflflcbacapaaGreat
open Go.ChangeShapes Go.WideShapes Go.ChangeAt Go.RowKit

theorem fnExactAzimuthalAngle_own : ownKnob Tryz.prog.godebug = none := by kernel_rfl
section
open Go
set_option maxRecDepth 100000
theorem fnExactAzimuthalAngle_c0 : (Rows.fnExactAzimuthalAngleRow.wf (OpenSpec.ofChange Rows.fnExactAzimuthalAngleSpec)) = true := by kernel_rfl
theorem fnExactAzimuthalAngle_c3 : (Tryz.f4.params.all (Tryz.pinned.checked.prog.readableRec ·)) = true := by kernel_rfl
theorem fnExactAzimuthalAngle_c4 : (namedTie Tryz.pinned.checked.prog Rows.fnExactAzimuthalAngleRow.named Rows.fnExactAzimuthalAngleSpec.vars) = true := by kernel_rfl
theorem fnExactAzimuthalAngle_c5 : ((Rows.fnExactAzimuthalAngleRow.stops == [])) = true := by kernel_rfl
theorem fnExactAzimuthalAngle_c7 : ((Rows.fnExactAzimuthalAngleRow.knobs == [])) = true := by kernel_rfl
theorem fnExactAzimuthalAngle_c9 : ((Rows.fnExactAzimuthalAngleRow.inPlace == Tryz.pinned.checked.prog.inPlace 4)) = true := by kernel_rfl
theorem fnExactAzimuthalAngle_c10 : ((Rows.fnExactAzimuthalAngleRow.unfollowed == Tryz.pinned.checked.prog.unfollowed 4)) = true := by kernel_rfl
theorem fnExactAzimuthalAngle_c11 : ((Rows.fnExactAzimuthalAngleRow.recurses == Tryz.pinned.checked.prog.recurses 4)) = true := by kernel_rfl
theorem fnExactAzimuthalAngle_c12 : ((Rows.fnExactAzimuthalAngleRow.named == Tryz.pinned.checked.prog.varsNamed 4)) = true := by kernel_rfl
theorem fnExactAzimuthalAngle_c13 : ((Rows.fnExactAzimuthalAngleRow.maps == (Tryz.f4.params.toList ++ Rows.fnExactAzimuthalAngleSpec.plain.varTypes Tryz.pinned.checked.prog).any (Tryz.pinned.checked.prog.mapsRec ·))) = true := by kernel_rfl
theorem fnExactAzimuthalAngle_c14 : ((Rows.fnExactAzimuthalAngleRow.ifaces == (Tryz.f4.params.toList ++ Rows.fnExactAzimuthalAngleSpec.plain.varTypes Tryz.pinned.checked.prog).any (Tryz.pinned.checked.prog.ifacesRec ·))) = true := by kernel_rfl
theorem fnExactAzimuthalAngle_c15 : ((Rows.fnExactAzimuthalAngleRow.mapsOut == Tryz.pinned.checked.prog.mapsAmong Tryz.f4.resultTypes.toList)) = true := by kernel_rfl
theorem fnExactAzimuthalAngle_c16 : ((Rows.fnExactAzimuthalAngleRow.loops == (Tryz.f4.params.toList ++ Rows.fnExactAzimuthalAngleSpec.plain.varTypes Tryz.pinned.checked.prog).any (Tryz.pinned.checked.prog.loopsFrom ·))) = true := by kernel_rfl
theorem fnExactAzimuthalAngle_c17 : ((Rows.fnExactAzimuthalAngleRow.wideKeys == (Tryz.f4.params.toList ++ Rows.fnExactAzimuthalAngleSpec.plain.varTypes Tryz.pinned.checked.prog ++ Tryz.f4.resultTypes.toList).any (Tryz.pinned.checked.prog.wideKeysFrom ·))) = true := by kernel_rfl
theorem fnExactAzimuthalAngle_c18 : (Rows.fnExactAzimuthalAngleSpec.vars.all (Tryz.pinned.checked.prog.varReadable ·)) = true := by kernel_rfl
theorem fnExactAzimuthalAngle_c19 : (Tryz.f4.resultTypes.all (fun t => Tryz.pinned.checked.prog.readableRec t && decide (t < Tryz.pinned.checked.prog.types.size))) = true := by kernel_rfl
theorem fnExactAzimuthalAngle_c20 : ((Rows.fnExactAzimuthalAngleRow.ifacesOut == Tryz.f4.resultTypes.toList.any (Tryz.pinned.checked.prog.ifacesRec ·))) = true := by kernel_rfl
theorem fnExactAzimuthalAngle_c21 : ((Rows.fnExactAzimuthalAngleRow.loopsOut == Tryz.f4.resultTypes.toList.any (Tryz.pinned.checked.prog.loopsFrom ·))) = true := by kernel_rfl
theorem fnExactAzimuthalAngle_c23 : (Rows.fnExactAzimuthalAngleRow.shortTexts.isNone) = true := by kernel_rfl
theorem fnExactAzimuthalAngle_c28 : ((Rows.fnExactAzimuthalAngleRow.kinds == (if Rows.fnExactAzimuthalAngleRow.domain.isEmpty then [] else Tryz.f4.params.toList.map fun t => match Tryz.pinned.checked.prog.underlying t with | some (.int k) => some k | _ => none))) = true := by kernel_rfl
theorem fnExactAzimuthalAngle_c29 : ((Rows.fnExactAzimuthalAngleRow.pinned == Rows.fnExactAzimuthalAngleRow.pinnedBy)) = true := by kernel_rfl
theorem fnExactAzimuthalAngle_c30 : ((Rows.fnExactAzimuthalAngleRow.veiled == (Tryz.f4.params.toList ++ Rows.fnExactAzimuthalAngleSpec.plain.varTypes Tryz.pinned.checked.prog ++ Tryz.f4.resultTypes.toList).any (Tryz.pinned.checked.prog.veiledRec ·))) = true := by kernel_rfl
theorem fnExactAzimuthalAngle_c31 : (Rows.fnExactAzimuthalAngleRow.veiledFits Tryz.pinned.checked.prog Tryz.f4.params.toList (Tryz.f4.params.toList ++ Rows.fnExactAzimuthalAngleSpec.plain.varTypes Tryz.pinned.checked.prog ++ Tryz.f4.resultTypes.toList)) = true := by kernel_rfl
theorem fnExactAzimuthalAngle_closed : joinedFacts Tryz.pinned.checked.prog 4 Tryz.f4 Rows.fnExactAzimuthalAngleSpec Rows.fnExactAzimuthalAngleRow = true := by
  unfold joinedFacts
  exact (and_t (and_t (and_t (and_t (and_t (and_t (and_t (and_t (and_t (and_t (and_t (and_t (and_t (and_t (and_t (and_t (and_t (and_t (and_t (and_t (and_t (and_t (and_t (and_t (and_t (and_t (and_t (and_t (and_t (and_t (and_t fnExactAzimuthalAngle_c0 j_1) j_2) fnExactAzimuthalAngle_c3) fnExactAzimuthalAngle_c4) fnExactAzimuthalAngle_c5) j_6) fnExactAzimuthalAngle_c7) j_8) fnExactAzimuthalAngle_c9) fnExactAzimuthalAngle_c10) fnExactAzimuthalAngle_c11) fnExactAzimuthalAngle_c12) fnExactAzimuthalAngle_c13) fnExactAzimuthalAngle_c14) fnExactAzimuthalAngle_c15) fnExactAzimuthalAngle_c16) fnExactAzimuthalAngle_c17) fnExactAzimuthalAngle_c18) fnExactAzimuthalAngle_c19) fnExactAzimuthalAngle_c20) fnExactAzimuthalAngle_c21) j_22) fnExactAzimuthalAngle_c23) j_24) j_25) j_26) j_27) fnExactAzimuthalAngle_c28) fnExactAzimuthalAngle_c29) fnExactAzimuthalAngle_c30) fnExactAzimuthalAngle_c31)
end
set_option maxRecDepth 100000 in
theorem fnExactAzimuthalAngle_lifted (os : Os) (started : os.Started) (H : Type) (enc : TypeId × Value → H) :
    ReturnsInHanded {} Tryz.checked os 4 .any (Rows.fnExactAzimuthalAngleSpec.pre6 enc Tryz.prog Tryz.f4 Rows.fnExactAzimuthalAngleRow.domain false) (Rows.fnExactAzimuthalAngleSpec.post enc Tryz.prog Tryz.f4 false true false false) := by
  refine returnsInHanded_of_change (C := Tryz.checked) fnExactAzimuthalAngle_own started (by kernel_rfl) Tryz.func4
    (ChangeSpec.witness6 (enc := enc) (C := Tryz.checked) false ⟨#[], #[.int .i64 0, .agg #[.int .i64 0, .int .i64 0]], []⟩ 8 (by kernel_rfl) (by kernel_rfl) (by kernel_rfl) (by kernel_rfl)) ?_
  intro W base args ds gs before hval0 hW hcnd _
  have hval : ∀ (j : Nat) t v, Tryz.f4.params[j]? = some t → args[j]? = some v → Value.okWide Tryz.prog W .any base t v := hval0
  have hW1 := hW
  obtain ⟨p, q, hA0, hV, rfl, hfz, hnd⟩ := hW
  have hA : DataW.TrodAll enc Tryz.prog W 0 (fun _ => true) true Tryz.f4.params.toList args.toList ds p := hA0
  rw [Tryz.params4] at hA hval
  obtain ⟨v0, v1, d0, d1, p0, p1, rfl, rfl, rfl, h0, h1⟩ := trodAll_two hA
  obtain ⟨rfl, rfl⟩ := trodVars_none hV
  obtain ⟨⟨x0, r0⟩, rfl, s0⟩ := Ev.open_arg (α := Ev.I64) (by kernel_rfl) (by kernel_rfl) (hval 0 2 v0 rfl rfl) h0
  obtain ⟨⟨x1, r1⟩, rfl, s1⟩ := Ev.open_arg (α := Ev.Iv) (by kernel_rfl) (by kernel_rfl) (hval 1 38 v1 rfl rfl) h1
  clear hA0 hval0
  refine (Ev.Tb.run_sound (ρ := fun _ => none) (t := Ev.Tb4) (b := Ev.B4) (γ := Bool) (y := true) (Ev.law_FnExactAzimuthalAngle x0 x1) (.cons (r0 _) (.cons (r1 _) .nil)) (by simp [Ev.V.pfs, Ev.Enc.pf])).mono fun e W1 he => ?_
  obtain ⟨x, rfl, hx, hb⟩ := he
  have hx1 := hx (fun _ => none)
  cases hx1
  exact ⟨_, rfl, Ev.post_flat hW1 (fun _ _ _ => trodAll_mk1 (shut_bool Tryz.underlying4 true)) (fun sp => trodAll_mk2 (s0 _ _ _ _) (s1 _ _ _ _)) (fun _ => rfl) hb (ok_one (by kernel_rfl) rfl (okWide_bool_mk Tryz.underlying4 true))⟩

theorem fnExactAzimuthalAngle_holds : Rows.FnExactAzimuthalAngleSaid :=
  OpenClaim.holds_of_wide 4 Tryz.f4 rfl rfl rfl rfl rfl rfl rfl ⟨rfl, rfl, rfl, rfl, rfl⟩ rfl rfl rfl rfl rfl (by kernel_rfl) Tryz.func4 fnExactAzimuthalAngle_closed
    (of_decide_eq_true (by kernel_rfl)) (by unfold Func.isWrapper; first | (rw [if_pos (by decide +kernel)]; kernel_rfl) | (rw [if_neg (by decide +kernel)]; exact ⟨rfl, rfl⟩))
    (fun os started H enc _ => fnExactAzimuthalAngle_lifted os started H enc)

end Go.Proofs.YtcfflflcbacapaaGreat
