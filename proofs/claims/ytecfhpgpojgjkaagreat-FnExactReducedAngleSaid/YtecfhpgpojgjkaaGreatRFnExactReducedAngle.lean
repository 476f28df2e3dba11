/- The law FnExactReducedAngle gives true, whatever comes in; each argument reads behind the call as it read before. No conditions. -/
import Derived.Test.YtecfhpgpojgjkaaGreatEvC
import Derived.Test.YtecfhpgpojgjkaaGreatP31
import Derived.Test.YtecfhpgpojgjkaaGreatRows
import Derived.Test.YtecfhpgpojgjkaaGreatRJ
namespace Go.Proofs.YtecfhpgpojgjkaaGreat
open Go.ChangeShapes Go.WideShapes Go.ChangeAt Go.RowKit

theorem fnExactReducedAngle_own : ownKnob Tryz.prog.godebug = none := by kernel_rfl
section
open Go
set_option maxRecDepth 100000
theorem fnExactReducedAngle_c0 : (Rows.fnExactReducedAngleRow.wf (OpenSpec.ofChange Rows.fnExactReducedAngleSpec)) = true := by kernel_rfl
theorem fnExactReducedAngle_c3 : (Tryz.f10.params.all (Tryz.pinned.checked.prog.readableRec ·)) = true := by kernel_rfl
theorem fnExactReducedAngle_c4 : (namedTie Tryz.pinned.checked.prog Rows.fnExactReducedAngleRow.named Rows.fnExactReducedAngleSpec.vars) = true := by kernel_rfl
theorem fnExactReducedAngle_c5 : ((Rows.fnExactReducedAngleRow.stops == [])) = true := by kernel_rfl
theorem fnExactReducedAngle_c7 : ((Rows.fnExactReducedAngleRow.knobs == [])) = true := by kernel_rfl
theorem fnExactReducedAngle_c9 : ((Rows.fnExactReducedAngleRow.inPlace == Tryz.pinned.checked.prog.inPlace 10)) = true := by kernel_rfl
theorem fnExactReducedAngle_c10 : ((Rows.fnExactReducedAngleRow.unfollowed == Tryz.pinned.checked.prog.unfollowed 10)) = true := by kernel_rfl
theorem fnExactReducedAngle_c11 : ((Rows.fnExactReducedAngleRow.recurses == Tryz.pinned.checked.prog.recurses 10)) = true := by kernel_rfl
theorem fnExactReducedAngle_c12 : ((Rows.fnExactReducedAngleRow.named == Tryz.pinned.checked.prog.varsNamed 10)) = true := by kernel_rfl
theorem fnExactReducedAngle_c13 : ((Rows.fnExactReducedAngleRow.maps == (Tryz.f10.params.toList ++ Rows.fnExactReducedAngleSpec.plain.varTypes Tryz.pinned.checked.prog).any (Tryz.pinned.checked.prog.mapsRec ·))) = true := by kernel_rfl
theorem fnExactReducedAngle_c14 : ((Rows.fnExactReducedAngleRow.ifaces == (Tryz.f10.params.toList ++ Rows.fnExactReducedAngleSpec.plain.varTypes Tryz.pinned.checked.prog).any (Tryz.pinned.checked.prog.ifacesRec ·))) = true := by kernel_rfl
theorem fnExactReducedAngle_c15 : ((Rows.fnExactReducedAngleRow.mapsOut == Tryz.pinned.checked.prog.mapsAmong Tryz.f10.resultTypes.toList)) = true := by kernel_rfl
theorem fnExactReducedAngle_c16 : ((Rows.fnExactReducedAngleRow.loops == (Tryz.f10.params.toList ++ Rows.fnExactReducedAngleSpec.plain.varTypes Tryz.pinned.checked.prog).any (Tryz.pinned.checked.prog.loopsFrom ·))) = true := by kernel_rfl
theorem fnExactReducedAngle_c17 : ((Rows.fnExactReducedAngleRow.wideKeys == (Tryz.f10.params.toList ++ Rows.fnExactReducedAngleSpec.plain.varTypes Tryz.pinned.checked.prog ++ Tryz.f10.resultTypes.toList).any (Tryz.pinned.checked.prog.wideKeysFrom ·))) = true := by kernel_rfl
theorem fnExactReducedAngle_c18 : (Rows.fnExactReducedAngleSpec.vars.all (Tryz.pinned.checked.prog.varReadable ·)) = true := by kernel_rfl
theorem fnExactReducedAngle_c19 : (Tryz.f10.resultTypes.all (fun t => Tryz.pinned.checked.prog.readableRec t && decide (t < Tryz.pinned.checked.prog.types.size))) = true := by kernel_rfl
theorem fnExactReducedAngle_c20 : ((Rows.fnExactReducedAngleRow.ifacesOut == Tryz.f10.resultTypes.toList.any (Tryz.pinned.checked.prog.ifacesRec ·))) = true := by kernel_rfl
theorem fnExactReducedAngle_c21 : ((Rows.fnExactReducedAngleRow.loopsOut == Tryz.f10.resultTypes.toList.any (Tryz.pinned.checked.prog.loopsFrom ·))) = true := by kernel_rfl
theorem fnExactReducedAngle_c23 : (Rows.fnExactReducedAngleRow.shortTexts.isNone) = true := by kernel_rfl
theorem fnExactReducedAngle_c28 : ((Rows.fnExactReducedAngleRow.kinds == (if Rows.fnExactReducedAngleRow.domain.isEmpty then [] else Tryz.f10.params.toList.map fun t => match Tryz.pinned.checked.prog.underlying t with | some (.int k) => some k | _ => none))) = true := by kernel_rfl
theorem fnExactReducedAngle_c29 : ((Rows.fnExactReducedAngleRow.pinned == Rows.fnExactReducedAngleRow.pinnedBy)) = true := by kernel_rfl
theorem fnExactReducedAngle_c30 : ((Rows.fnExactReducedAngleRow.veiled == (Tryz.f10.params.toList ++ Rows.fnExactReducedAngleSpec.plain.varTypes Tryz.pinned.checked.prog ++ Tryz.f10.resultTypes.toList).any (Tryz.pinned.checked.prog.veiledRec ·))) = true := by kernel_rfl
theorem fnExactReducedAngle_c31 : (Rows.fnExactReducedAngleRow.veiledFits Tryz.pinned.checked.prog Tryz.f10.params.toList (Tryz.f10.params.toList ++ Rows.fnExactReducedAngleSpec.plain.varTypes Tryz.pinned.checked.prog ++ Tryz.f10.resultTypes.toList)) = true := by kernel_rfl
theorem fnExactReducedAngle_closed : joinedFacts Tryz.pinned.checked.prog 10 Tryz.f10 Rows.fnExactReducedAngleSpec Rows.fnExactReducedAngleRow = true := by
  unfold joinedFacts
  exact (and_t (and_t (and_t (and_t (and_t (and_t (and_t (and_t (and_t (and_t (and_t (and_t (and_t (and_t (and_t (and_t (and_t (and_t (and_t (and_t (and_t (and_t (and_t (and_t (and_t (and_t (and_t (and_t (and_t (and_t (and_t fnExactReducedAngle_c0 j_1) j_2) fnExactReducedAngle_c3) fnExactReducedAngle_c4) fnExactReducedAngle_c5) j_6) fnExactReducedAngle_c7) j_8) fnExactReducedAngle_c9) fnExactReducedAngle_c10) fnExactReducedAngle_c11) fnExactReducedAngle_c12) fnExactReducedAngle_c13) fnExactReducedAngle_c14) fnExactReducedAngle_c15) fnExactReducedAngle_c16) fnExactReducedAngle_c17) fnExactReducedAngle_c18) fnExactReducedAngle_c19) fnExactReducedAngle_c20) fnExactReducedAngle_c21) j_22) fnExactReducedAngle_c23) j_24) j_25) j_26) j_27) fnExactReducedAngle_c28) fnExactReducedAngle_c29) fnExactReducedAngle_c30) fnExactReducedAngle_c31)
end
set_option maxRecDepth 100000 in
theorem fnExactReducedAngle_lifted (os : Os) (started : os.Started) (H : Type) (enc : TypeId × Value → H) :
    ReturnsInHanded {} Tryz.checked os 10 .any (Rows.fnExactReducedAngleSpec.pre6 enc Tryz.prog Tryz.f10 Rows.fnExactReducedAngleRow.domain false) (Rows.fnExactReducedAngleSpec.post enc Tryz.prog Tryz.f10 false true false false) := by
  refine returnsInHanded_of_change (C := Tryz.checked) fnExactReducedAngle_own started (by kernel_rfl) Tryz.func10
    (ChangeSpec.witness6 (enc := enc) (C := Tryz.checked) false ⟨#[], #[.agg #[.int .i64 0, .int .i64 0, .int .i64 0], .agg #[.int .i64 0, .int .i64 0], .agg #[.int .i64 0, .int .i64 0], .agg #[.int .i64 0, .int .i64 0]], []⟩ 8 (by kernel_rfl) (by kernel_rfl) (by kernel_rfl) (by kernel_rfl)) ?_
  intro W base args ds gs before hval0 hW hcnd _
  have hval : ∀ (j : Nat) t v, Tryz.f10.params[j]? = some t → args[j]? = some v → Value.okWide Tryz.prog W .any base t v := hval0
  have hW1 := hW
  obtain ⟨p, q, hA0, hV, rfl, hfz, hnd⟩ := hW
  have hA : DataW.TrodAll enc Tryz.prog W 0 (fun _ => true) true Tryz.f10.params.toList args.toList ds p := hA0
  rw [Tryz.params10] at hA hval
  obtain ⟨v0, v1, v2, v3, d0, d1, d2, d3, p0, p1, p2, p3, rfl, rfl, rfl, h0, h1, h2, h3⟩ := trodAll_four hA
  obtain ⟨rfl, rfl⟩ := trodVars_none hV
  obtain ⟨⟨x0, r0⟩, rfl, s0⟩ := Ev.open_arg (α := Ev.Ell) (by kernel_rfl) (by kernel_rfl) (hval 0 47 v0 rfl rfl) h0
  obtain ⟨⟨x1, r1⟩, rfl, s1⟩ := Ev.open_arg (α := Ev.Point) (by kernel_rfl) (by kernel_rfl) (hval 1 25 v1 rfl rfl) h1
  obtain ⟨⟨x2, r2⟩, rfl, s2⟩ := Ev.open_arg (α := Ev.Point) (by kernel_rfl) (by kernel_rfl) (hval 2 25 v2 rfl rfl) h2
  obtain ⟨⟨x3, r3⟩, rfl, s3⟩ := Ev.open_arg (α := Ev.Iv) (by kernel_rfl) (by kernel_rfl) (hval 3 38 v3 rfl rfl) h3
  clear hA0 hval0
  refine (Ev.Tb.run_sound (ρ := fun _ => none) (t := Ev.Tb10) (b := Ev.B10) (γ := Bool) (y := true) (Ev.law_FnExactReducedAngle x0 x1 x2 x3) (.cons (r0 _) (.cons (r1 _) (.cons (r2 _) (.cons (r3 _) .nil)))) (by simp [Ev.V.pfs, Ev.Enc.pf])).mono fun e W1 he => ?_
  obtain ⟨x, rfl, hx, hb⟩ := he
  have hx1 := hx (fun _ => none)
  cases hx1
  exact ⟨_, rfl, Ev.post_flat hW1 (fun _ _ _ => trodAll_mk1 (shut_bool Tryz.underlying4 true)) (fun sp => trodAll_mk4 (s0 _ _ _ _) (s1 _ _ _ _) (s2 _ _ _ _) (s3 _ _ _ _)) (fun _ => rfl) hb (ok_one (by kernel_rfl) rfl (okWide_bool_mk Tryz.underlying4 true))⟩

theorem fnExactReducedAngle_holds : Rows.FnExactReducedAngleSaid :=
  OpenClaim.holds_of_wide 10 Tryz.f10 rfl rfl rfl rfl rfl rfl rfl ⟨rfl, rfl, rfl, rfl, rfl⟩ rfl rfl rfl rfl rfl (by kernel_rfl) Tryz.func10 fnExactReducedAngle_closed
    (of_decide_eq_true (by kernel_rfl)) (by unfold Func.isWrapper; first | (rw [if_pos (by decide +kernel)]; kernel_rfl) | (rw [if_neg (by decide +kernel)]; exact ⟨rfl, rfl⟩))
    (fun os started H enc _ => fnExactReducedAngle_lifted os started H enc)

end Go.Proofs.YtecfhpgpojgjkaaGreat
