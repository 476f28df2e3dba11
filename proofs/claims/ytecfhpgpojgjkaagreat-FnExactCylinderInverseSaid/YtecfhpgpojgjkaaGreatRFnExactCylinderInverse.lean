/- The law FnExactCylinderInverse gives true, whatever comes in; each argument reads behind the call as it read before. No conditions. -/
import Derived.Test.YtecfhpgpojgjkaaGreatEvC
import Derived.Test.YtecfhpgpojgjkaaGreatP28
import Derived.Test.YtecfhpgpojgjkaaGreatRows
import Derived.Test.YtecfhpgpojgjkaaGreatRJ
namespace Go.Proofs.YtecfhpgpojgjkaaGreat
open Go.ChangeShapes Go.WideShapes Go.ChangeAt Go.RowKit

theorem fnExactCylinderInverse_own : ownKnob Tryz.prog.godebug = none := by kernel_rfl
section
open Go
set_option maxRecDepth 100000
theorem fnExactCylinderInverse_c0 : (Rows.fnExactCylinderInverseRow.wf (OpenSpec.ofChange Rows.fnExactCylinderInverseSpec)) = true := by kernel_rfl
theorem fnExactCylinderInverse_c3 : (Tryz.f4.params.all (Tryz.pinned.checked.prog.readableRec ·)) = true := by kernel_rfl
theorem fnExactCylinderInverse_c4 : (namedTie Tryz.pinned.checked.prog Rows.fnExactCylinderInverseRow.named Rows.fnExactCylinderInverseSpec.vars) = true := by kernel_rfl
theorem fnExactCylinderInverse_c5 : ((Rows.fnExactCylinderInverseRow.stops == [])) = true := by kernel_rfl
theorem fnExactCylinderInverse_c7 : ((Rows.fnExactCylinderInverseRow.knobs == [])) = true := by kernel_rfl
theorem fnExactCylinderInverse_c9 : ((Rows.fnExactCylinderInverseRow.inPlace == Tryz.pinned.checked.prog.inPlace 4)) = true := by kernel_rfl
theorem fnExactCylinderInverse_c10 : ((Rows.fnExactCylinderInverseRow.unfollowed == Tryz.pinned.checked.prog.unfollowed 4)) = true := by kernel_rfl
theorem fnExactCylinderInverse_c11 : ((Rows.fnExactCylinderInverseRow.recurses == Tryz.pinned.checked.prog.recurses 4)) = true := by kernel_rfl
theorem fnExactCylinderInverse_c12 : ((Rows.fnExactCylinderInverseRow.named == Tryz.pinned.checked.prog.varsNamed 4)) = true := by kernel_rfl
theorem fnExactCylinderInverse_c13 : ((Rows.fnExactCylinderInverseRow.maps == (Tryz.f4.params.toList ++ Rows.fnExactCylinderInverseSpec.plain.varTypes Tryz.pinned.checked.prog).any (Tryz.pinned.checked.prog.mapsRec ·))) = true := by kernel_rfl
theorem fnExactCylinderInverse_c14 : ((Rows.fnExactCylinderInverseRow.ifaces == (Tryz.f4.params.toList ++ Rows.fnExactCylinderInverseSpec.plain.varTypes Tryz.pinned.checked.prog).any (Tryz.pinned.checked.prog.ifacesRec ·))) = true := by kernel_rfl
theorem fnExactCylinderInverse_c15 : ((Rows.fnExactCylinderInverseRow.mapsOut == Tryz.pinned.checked.prog.mapsAmong Tryz.f4.resultTypes.toList)) = true := by kernel_rfl
theorem fnExactCylinderInverse_c16 : ((Rows.fnExactCylinderInverseRow.loops == (Tryz.f4.params.toList ++ Rows.fnExactCylinderInverseSpec.plain.varTypes Tryz.pinned.checked.prog).any (Tryz.pinned.checked.prog.loopsFrom ·))) = true := by kernel_rfl
theorem fnExactCylinderInverse_c17 : ((Rows.fnExactCylinderInverseRow.wideKeys == (Tryz.f4.params.toList ++ Rows.fnExactCylinderInverseSpec.plain.varTypes Tryz.pinned.checked.prog ++ Tryz.f4.resultTypes.toList).any (Tryz.pinned.checked.prog.wideKeysFrom ·))) = true := by kernel_rfl
theorem fnExactCylinderInverse_c18 : (Rows.fnExactCylinderInverseSpec.vars.all (Tryz.pinned.checked.prog.varReadable ·)) = true := by kernel_rfl
theorem fnExactCylinderInverse_c19 : (Tryz.f4.resultTypes.all (fun t => Tryz.pinned.checked.prog.readableRec t && decide (t < Tryz.pinned.checked.prog.types.size))) = true := by kernel_rfl
theorem fnExactCylinderInverse_c20 : ((Rows.fnExactCylinderInverseRow.ifacesOut == Tryz.f4.resultTypes.toList.any (Tryz.pinned.checked.prog.ifacesRec ·))) = true := by kernel_rfl
theorem fnExactCylinderInverse_c21 : ((Rows.fnExactCylinderInverseRow.loopsOut == Tryz.f4.resultTypes.toList.any (Tryz.pinned.checked.prog.loopsFrom ·))) = true := by kernel_rfl
theorem fnExactCylinderInverse_c23 : (Rows.fnExactCylinderInverseRow.shortTexts.isNone) = true := by kernel_rfl
theorem fnExactCylinderInverse_c28 : ((Rows.fnExactCylinderInverseRow.kinds == (if Rows.fnExactCylinderInverseRow.domain.isEmpty then [] else Tryz.f4.params.toList.map fun t => match Tryz.pinned.checked.prog.underlying t with | some (.int k) => some k | _ => none))) = true := by kernel_rfl
theorem fnExactCylinderInverse_c29 : ((Rows.fnExactCylinderInverseRow.pinned == Rows.fnExactCylinderInverseRow.pinnedBy)) = true := by kernel_rfl
theorem fnExactCylinderInverse_c30 : ((Rows.fnExactCylinderInverseRow.veiled == (Tryz.f4.params.toList ++ Rows.fnExactCylinderInverseSpec.plain.varTypes Tryz.pinned.checked.prog ++ Tryz.f4.resultTypes.toList).any (Tryz.pinned.checked.prog.veiledRec ·))) = true := by kernel_rfl
theorem fnExactCylinderInverse_c31 : (Rows.fnExactCylinderInverseRow.veiledFits Tryz.pinned.checked.prog Tryz.f4.params.toList (Tryz.f4.params.toList ++ Rows.fnExactCylinderInverseSpec.plain.varTypes Tryz.pinned.checked.prog ++ Tryz.f4.resultTypes.toList)) = true := by kernel_rfl
theorem fnExactCylinderInverse_closed : joinedFacts Tryz.pinned.checked.prog 4 Tryz.f4 Rows.fnExactCylinderInverseSpec Rows.fnExactCylinderInverseRow = true := by
  unfold joinedFacts
  exact (and_t (and_t (and_t (and_t (and_t (and_t (and_t (and_t (and_t (and_t (and_t (and_t (and_t (and_t (and_t (and_t (and_t (and_t (and_t (and_t (and_t (and_t (and_t (and_t (and_t (and_t (and_t (and_t (and_t (and_t (and_t fnExactCylinderInverse_c0 j_1) j_2) fnExactCylinderInverse_c3) fnExactCylinderInverse_c4) fnExactCylinderInverse_c5) j_6) fnExactCylinderInverse_c7) j_8) fnExactCylinderInverse_c9) fnExactCylinderInverse_c10) fnExactCylinderInverse_c11) fnExactCylinderInverse_c12) fnExactCylinderInverse_c13) fnExactCylinderInverse_c14) fnExactCylinderInverse_c15) fnExactCylinderInverse_c16) fnExactCylinderInverse_c17) fnExactCylinderInverse_c18) fnExactCylinderInverse_c19) fnExactCylinderInverse_c20) fnExactCylinderInverse_c21) j_22) fnExactCylinderInverse_c23) j_24) j_25) j_26) j_27) fnExactCylinderInverse_c28) fnExactCylinderInverse_c29) fnExactCylinderInverse_c30) fnExactCylinderInverse_c31)
end
set_option maxRecDepth 100000 in
theorem fnExactCylinderInverse_lifted (os : Os) (started : os.Started) (H : Type) (enc : TypeId × Value → H) :
    ReturnsInHanded {} Tryz.checked os 4 .any (Rows.fnExactCylinderInverseSpec.pre6 enc Tryz.prog Tryz.f4 Rows.fnExactCylinderInverseRow.domain false) (Rows.fnExactCylinderInverseSpec.post enc Tryz.prog Tryz.f4 false true false false) := by
  refine returnsInHanded_of_change (C := Tryz.checked) fnExactCylinderInverse_own started (by kernel_rfl) Tryz.func4
    (ChangeSpec.witness6 (enc := enc) (C := Tryz.checked) false ⟨#[], #[.agg #[.int .i64 0, .int .i64 0, .int .i64 0, .int .i64 0, .int .i64 0], .agg #[.int .i64 0, .int .i64 0, .int .i64 0, .int .i64 0]], []⟩ 8 (by kernel_rfl) (by kernel_rfl) (by kernel_rfl) (by kernel_rfl)) ?_
  intro W base args ds gs before hval0 hW hcnd _
  have hval : ∀ (j : Nat) t v, Tryz.f4.params[j]? = some t → args[j]? = some v → Value.okWide Tryz.prog W .any base t v := hval0
  have hW1 := hW
  obtain ⟨p, q, hA0, hV, rfl, hfz, hnd⟩ := hW
  have hA : DataW.TrodAll enc Tryz.prog W 0 (fun _ => true) true Tryz.f4.params.toList args.toList ds p := hA0
  rw [Tryz.params4] at hA hval
  obtain ⟨v0, v1, d0, d1, p0, p1, rfl, rfl, rfl, h0, h1⟩ := trodAll_two hA
  obtain ⟨rfl, rfl⟩ := trodVars_none hV
  obtain ⟨⟨x0, r0⟩, rfl, s0⟩ := Ev.open_arg (α := Ev.Proj) (by kernel_rfl) (by kernel_rfl) (hval 0 23 v0 rfl rfl) h0
  obtain ⟨⟨x1, r1⟩, rfl, s1⟩ := Ev.open_arg (α := Ev.Planar) (by kernel_rfl) (by kernel_rfl) (hval 1 40 v1 rfl rfl) h1
  clear hA0 hval0
  refine (Ev.Tb.run_sound (ρ := fun _ => none) (t := Ev.Tb4) (b := Ev.B4) (γ := Bool) (y := true) (Ev.law_FnExactCylinderInverse x0 x1) (.cons (r0 _) (.cons (r1 _) .nil)) (by simp [Ev.V.pfs, Ev.Enc.pf])).mono fun e W1 he => ?_
  obtain ⟨x, rfl, hx, hb⟩ := he
  have hx1 := hx (fun _ => none)
  cases hx1
  exact ⟨_, rfl, Ev.post_flat hW1 (fun _ _ _ => trodAll_mk1 (shut_bool Tryz.underlying4 true)) (fun sp => trodAll_mk2 (s0 _ _ _ _) (s1 _ _ _ _)) (fun _ => rfl) hb (ok_one (by kernel_rfl) rfl (okWide_bool_mk Tryz.underlying4 true))⟩

theorem fnExactCylinderInverse_holds : Rows.FnExactCylinderInverseSaid :=
  OpenClaim.holds_of_wide 4 Tryz.f4 rfl rfl rfl rfl rfl rfl rfl ⟨rfl, rfl, rfl, rfl, rfl⟩ rfl rfl rfl rfl rfl (by kernel_rfl) Tryz.func4 fnExactCylinderInverse_closed
    (of_decide_eq_true (by kernel_rfl)) (by unfold Func.isWrapper; first | (rw [if_pos (by decide +kernel)]; kernel_rfl) | (rw [if_neg (by decide +kernel)]; exact ⟨rfl, rfl⟩))
    (fun os started H enc _ => fnExactCylinderInverse_lifted os started H enc)

end Go.Proofs.YtecfhpgpojgjkaaGreat
