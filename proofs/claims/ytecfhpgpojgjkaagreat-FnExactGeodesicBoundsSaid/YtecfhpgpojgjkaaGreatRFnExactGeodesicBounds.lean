/- The law FnExactGeodesicBounds gives true, whatever comes in; each argument reads behind the call as it read before. No conditions. -/
import Derived.Test.YtecfhpgpojgjkaaGreatEvC
import Derived.Test.YtecfhpgpojgjkaaGreatP31
import Derived.Test.YtecfhpgpojgjkaaGreatRows
import Derived.Test.YtecfhpgpojgjkaaGreatRJ
namespace Go.Proofs.YtecfhpgpojgjkaaGreat
open Go.ChangeShapes Go.WideShapes Go.ChangeAt Go.RowKit

theorem fnExactGeodesicBounds_own : ownKnob Tryz.prog.godebug = none := by kernel_rfl
section
open Go
set_option maxRecDepth 100000
theorem fnExactGeodesicBounds_c0 : (Rows.fnExactGeodesicBoundsRow.wf (OpenSpec.ofChange Rows.fnExactGeodesicBoundsSpec)) = true := by kernel_rfl
theorem fnExactGeodesicBounds_c3 : (Tryz.f11.params.all (Tryz.pinned.checked.prog.readableRec ·)) = true := by kernel_rfl
theorem fnExactGeodesicBounds_c4 : (namedTie Tryz.pinned.checked.prog Rows.fnExactGeodesicBoundsRow.named Rows.fnExactGeodesicBoundsSpec.vars) = true := by kernel_rfl
theorem fnExactGeodesicBounds_c5 : ((Rows.fnExactGeodesicBoundsRow.stops == [])) = true := by kernel_rfl
theorem fnExactGeodesicBounds_c7 : ((Rows.fnExactGeodesicBoundsRow.knobs == [])) = true := by kernel_rfl
theorem fnExactGeodesicBounds_c9 : ((Rows.fnExactGeodesicBoundsRow.inPlace == Tryz.pinned.checked.prog.inPlace 11)) = true := by kernel_rfl
theorem fnExactGeodesicBounds_c10 : ((Rows.fnExactGeodesicBoundsRow.unfollowed == Tryz.pinned.checked.prog.unfollowed 11)) = true := by kernel_rfl
theorem fnExactGeodesicBounds_c11 : ((Rows.fnExactGeodesicBoundsRow.recurses == Tryz.pinned.checked.prog.recurses 11)) = true := by kernel_rfl
theorem fnExactGeodesicBounds_c12 : ((Rows.fnExactGeodesicBoundsRow.named == Tryz.pinned.checked.prog.varsNamed 11)) = true := by kernel_rfl
theorem fnExactGeodesicBounds_c13 : ((Rows.fnExactGeodesicBoundsRow.maps == (Tryz.f11.params.toList ++ Rows.fnExactGeodesicBoundsSpec.plain.varTypes Tryz.pinned.checked.prog).any (Tryz.pinned.checked.prog.mapsRec ·))) = true := by kernel_rfl
theorem fnExactGeodesicBounds_c14 : ((Rows.fnExactGeodesicBoundsRow.ifaces == (Tryz.f11.params.toList ++ Rows.fnExactGeodesicBoundsSpec.plain.varTypes Tryz.pinned.checked.prog).any (Tryz.pinned.checked.prog.ifacesRec ·))) = true := by kernel_rfl
theorem fnExactGeodesicBounds_c15 : ((Rows.fnExactGeodesicBoundsRow.mapsOut == Tryz.pinned.checked.prog.mapsAmong Tryz.f11.resultTypes.toList)) = true := by kernel_rfl
theorem fnExactGeodesicBounds_c16 : ((Rows.fnExactGeodesicBoundsRow.loops == (Tryz.f11.params.toList ++ Rows.fnExactGeodesicBoundsSpec.plain.varTypes Tryz.pinned.checked.prog).any (Tryz.pinned.checked.prog.loopsFrom ·))) = true := by kernel_rfl
theorem fnExactGeodesicBounds_c17 : ((Rows.fnExactGeodesicBoundsRow.wideKeys == (Tryz.f11.params.toList ++ Rows.fnExactGeodesicBoundsSpec.plain.varTypes Tryz.pinned.checked.prog ++ Tryz.f11.resultTypes.toList).any (Tryz.pinned.checked.prog.wideKeysFrom ·))) = true := by kernel_rfl
theorem fnExactGeodesicBounds_c18 : (Rows.fnExactGeodesicBoundsSpec.vars.all (Tryz.pinned.checked.prog.varReadable ·)) = true := by kernel_rfl
theorem fnExactGeodesicBounds_c19 : (Tryz.f11.resultTypes.all (fun t => Tryz.pinned.checked.prog.readableRec t && decide (t < Tryz.pinned.checked.prog.types.size))) = true := by kernel_rfl
theorem fnExactGeodesicBounds_c20 : ((Rows.fnExactGeodesicBoundsRow.ifacesOut == Tryz.f11.resultTypes.toList.any (Tryz.pinned.checked.prog.ifacesRec ·))) = true := by kernel_rfl
theorem fnExactGeodesicBounds_c21 : ((Rows.fnExactGeodesicBoundsRow.loopsOut == Tryz.f11.resultTypes.toList.any (Tryz.pinned.checked.prog.loopsFrom ·))) = true := by kernel_rfl
theorem fnExactGeodesicBounds_c23 : (Rows.fnExactGeodesicBoundsRow.shortTexts.isNone) = true := by kernel_rfl
theorem fnExactGeodesicBounds_c28 : ((Rows.fnExactGeodesicBoundsRow.kinds == (if Rows.fnExactGeodesicBoundsRow.domain.isEmpty then [] else Tryz.f11.params.toList.map fun t => match Tryz.pinned.checked.prog.underlying t with | some (.int k) => some k | _ => none))) = true := by kernel_rfl
theorem fnExactGeodesicBounds_c29 : ((Rows.fnExactGeodesicBoundsRow.pinned == Rows.fnExactGeodesicBoundsRow.pinnedBy)) = true := by kernel_rfl
theorem fnExactGeodesicBounds_c30 : ((Rows.fnExactGeodesicBoundsRow.veiled == (Tryz.f11.params.toList ++ Rows.fnExactGeodesicBoundsSpec.plain.varTypes Tryz.pinned.checked.prog ++ Tryz.f11.resultTypes.toList).any (Tryz.pinned.checked.prog.veiledRec ·))) = true := by kernel_rfl
theorem fnExactGeodesicBounds_c31 : (Rows.fnExactGeodesicBoundsRow.veiledFits Tryz.pinned.checked.prog Tryz.f11.params.toList (Tryz.f11.params.toList ++ Rows.fnExactGeodesicBoundsSpec.plain.varTypes Tryz.pinned.checked.prog ++ Tryz.f11.resultTypes.toList)) = true := by kernel_rfl
theorem fnExactGeodesicBounds_closed : joinedFacts Tryz.pinned.checked.prog 11 Tryz.f11 Rows.fnExactGeodesicBoundsSpec Rows.fnExactGeodesicBoundsRow = true := by
  unfold joinedFacts
  exact (and_t (and_t (and_t (and_t (and_t (and_t (and_t (and_t (and_t (and_t (and_t (and_t (and_t (and_t (and_t (and_t (and_t (and_t (and_t (and_t (and_t (and_t (and_t (and_t (and_t (and_t (and_t (and_t (and_t (and_t (and_t fnExactGeodesicBounds_c0 j_1) j_2) fnExactGeodesicBounds_c3) fnExactGeodesicBounds_c4) fnExactGeodesicBounds_c5) j_6) fnExactGeodesicBounds_c7) j_8) fnExactGeodesicBounds_c9) fnExactGeodesicBounds_c10) fnExactGeodesicBounds_c11) fnExactGeodesicBounds_c12) fnExactGeodesicBounds_c13) fnExactGeodesicBounds_c14) fnExactGeodesicBounds_c15) fnExactGeodesicBounds_c16) fnExactGeodesicBounds_c17) fnExactGeodesicBounds_c18) fnExactGeodesicBounds_c19) fnExactGeodesicBounds_c20) fnExactGeodesicBounds_c21) j_22) fnExactGeodesicBounds_c23) j_24) j_25) j_26) j_27) fnExactGeodesicBounds_c28) fnExactGeodesicBounds_c29) fnExactGeodesicBounds_c30) fnExactGeodesicBounds_c31)
end
set_option maxRecDepth 100000 in
theorem fnExactGeodesicBounds_lifted (os : Os) (started : os.Started) (H : Type) (enc : TypeId × Value → H) :
    ReturnsInHanded {} Tryz.checked os 11 .any (Rows.fnExactGeodesicBoundsSpec.pre6 enc Tryz.prog Tryz.f11 Rows.fnExactGeodesicBoundsRow.domain false) (Rows.fnExactGeodesicBoundsSpec.post enc Tryz.prog Tryz.f11 false true false false) := by
  refine returnsInHanded_of_change (C := Tryz.checked) fnExactGeodesicBounds_own started (by kernel_rfl) Tryz.func11
    (ChangeSpec.witness6 (enc := enc) (C := Tryz.checked) false ⟨#[], #[.agg #[.int .i64 0, .int .i64 0, .int .i64 0], .agg #[.int .i64 0, .int .i64 0], .agg #[.int .i64 0, .int .i64 0]], []⟩ 8 (by kernel_rfl) (by kernel_rfl) (by kernel_rfl) (by kernel_rfl)) ?_
  intro W base args ds gs before hval0 hW hcnd _
  have hval : ∀ (j : Nat) t v, Tryz.f11.params[j]? = some t → args[j]? = some v → Value.okWide Tryz.prog W .any base t v := hval0
  have hW1 := hW
  obtain ⟨p, q, hA0, hV, rfl, hfz, hnd⟩ := hW
  have hA : DataW.TrodAll enc Tryz.prog W 0 (fun _ => true) true Tryz.f11.params.toList args.toList ds p := hA0
  rw [Tryz.params11] at hA hval
  obtain ⟨v0, v1, v2, d0, d1, d2, p0, p1, p2, rfl, rfl, rfl, h0, h1, h2⟩ := trodAll_three hA
  obtain ⟨rfl, rfl⟩ := trodVars_none hV
  obtain ⟨⟨x0, r0⟩, rfl, s0⟩ := Ev.open_arg (α := Ev.Ell) (by kernel_rfl) (by kernel_rfl) (hval 0 47 v0 rfl rfl) h0
  obtain ⟨⟨x1, r1⟩, rfl, s1⟩ := Ev.open_arg (α := Ev.Point) (by kernel_rfl) (by kernel_rfl) (hval 1 25 v1 rfl rfl) h1
  obtain ⟨⟨x2, r2⟩, rfl, s2⟩ := Ev.open_arg (α := Ev.Point) (by kernel_rfl) (by kernel_rfl) (hval 2 25 v2 rfl rfl) h2
  clear hA0 hval0
  refine (Ev.Tb.run_sound (ρ := fun _ => none) (t := Ev.Tb11) (b := Ev.B11) (γ := Bool) (y := true) (Ev.law_FnExactGeodesicBounds x0 x1 x2) (.cons (r0 _) (.cons (r1 _) (.cons (r2 _) .nil))) (by simp [Ev.V.pfs, Ev.Enc.pf])).mono fun e W1 he => ?_
  obtain ⟨x, rfl, hx, hb⟩ := he
  have hx1 := hx (fun _ => none)
  cases hx1
  exact ⟨_, rfl, Ev.post_flat hW1 (fun _ _ _ => trodAll_mk1 (shut_bool Tryz.underlying4 true)) (fun sp => trodAll_mk3 (s0 _ _ _ _) (s1 _ _ _ _) (s2 _ _ _ _)) (fun _ => rfl) hb (ok_one (by kernel_rfl) rfl (okWide_bool_mk Tryz.underlying4 true))⟩

theorem fnExactGeodesicBounds_holds : Rows.FnExactGeodesicBoundsSaid :=
  OpenClaim.holds_of_wide 11 Tryz.f11 rfl rfl rfl rfl rfl rfl rfl ⟨rfl, rfl, rfl, rfl, rfl⟩ rfl rfl rfl rfl rfl (by kernel_rfl) Tryz.func11 fnExactGeodesicBounds_closed
    (of_decide_eq_true (by kernel_rfl)) (by unfold Func.isWrapper; first | (rw [if_pos (by decide +kernel)]; kernel_rfl) | (rw [if_neg (by decide +kernel)]; exact ⟨rfl, rfl⟩))
    (fun os started H enc _ => fnExactGeodesicBounds_lifted os started H enc)

end Go.Proofs.YtecfhpgpojgjkaaGreat
