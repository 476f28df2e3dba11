/- The law FnExactInverseLatitude gives true, whatever comes in; each argument reads behind the call as it read before. No conditions. -/
import Derived.Test.YtecfhpgpojgjkaaGreatEvC
import Derived.Test.YtecfhpgpojgjkaaGreatP30
import Derived.Test.YtecfhpgpojgjkaaGreatRows
import Derived.Test.YtecfhpgpojgjkaaGreatRJ
namespace Go.Proofs.YtecfhpgpojgjkaaGreat
open Go.ChangeShapes Go.WideShapes Go.ChangeAt Go.RowKit

theorem fnExactInverseLatitude_own : ownKnob Tryz.prog.godebug = none := by kernel_rfl
section
open Go
set_option maxRecDepth 100000
theorem fnExactInverseLatitude_c0 : (Rows.fnExactInverseLatitudeRow.wf (OpenSpec.ofChange Rows.fnExactInverseLatitudeSpec)) = true := by kernel_rfl
theorem fnExactInverseLatitude_c3 : (Tryz.f7.params.all (Tryz.pinned.checked.prog.readableRec ·)) = true := by kernel_rfl
theorem fnExactInverseLatitude_c4 : (namedTie Tryz.pinned.checked.prog Rows.fnExactInverseLatitudeRow.named Rows.fnExactInverseLatitudeSpec.vars) = true := by kernel_rfl
theorem fnExactInverseLatitude_c5 : ((Rows.fnExactInverseLatitudeRow.stops == [])) = true := by kernel_rfl
theorem fnExactInverseLatitude_c7 : ((Rows.fnExactInverseLatitudeRow.knobs == [])) = true := by kernel_rfl
theorem fnExactInverseLatitude_c9 : ((Rows.fnExactInverseLatitudeRow.inPlace == Tryz.pinned.checked.prog.inPlace 7)) = true := by kernel_rfl
theorem fnExactInverseLatitude_c10 : ((Rows.fnExactInverseLatitudeRow.unfollowed == Tryz.pinned.checked.prog.unfollowed 7)) = true := by kernel_rfl
theorem fnExactInverseLatitude_c11 : ((Rows.fnExactInverseLatitudeRow.recurses == Tryz.pinned.checked.prog.recurses 7)) = true := by kernel_rfl
theorem fnExactInverseLatitude_c12 : ((Rows.fnExactInverseLatitudeRow.named == Tryz.pinned.checked.prog.varsNamed 7)) = true := by kernel_rfl
theorem fnExactInverseLatitude_c13 : ((Rows.fnExactInverseLatitudeRow.maps == (Tryz.f7.params.toList ++ Rows.fnExactInverseLatitudeSpec.plain.varTypes Tryz.pinned.checked.prog).any (Tryz.pinned.checked.prog.mapsRec ·))) = true := by kernel_rfl
theorem fnExactInverseLatitude_c14 : ((Rows.fnExactInverseLatitudeRow.ifaces == (Tryz.f7.params.toList ++ Rows.fnExactInverseLatitudeSpec.plain.varTypes Tryz.pinned.checked.prog).any (Tryz.pinned.checked.prog.ifacesRec ·))) = true := by kernel_rfl
theorem fnExactInverseLatitude_c15 : ((Rows.fnExactInverseLatitudeRow.mapsOut == Tryz.pinned.checked.prog.mapsAmong Tryz.f7.resultTypes.toList)) = true := by kernel_rfl
theorem fnExactInverseLatitude_c16 : ((Rows.fnExactInverseLatitudeRow.loops == (Tryz.f7.params.toList ++ Rows.fnExactInverseLatitudeSpec.plain.varTypes Tryz.pinned.checked.prog).any (Tryz.pinned.checked.prog.loopsFrom ·))) = true := by kernel_rfl
theorem fnExactInverseLatitude_c17 : ((Rows.fnExactInverseLatitudeRow.wideKeys == (Tryz.f7.params.toList ++ Rows.fnExactInverseLatitudeSpec.plain.varTypes Tryz.pinned.checked.prog ++ Tryz.f7.resultTypes.toList).any (Tryz.pinned.checked.prog.wideKeysFrom ·))) = true := by kernel_rfl
theorem fnExactInverseLatitude_c18 : (Rows.fnExactInverseLatitudeSpec.vars.all (Tryz.pinned.checked.prog.varReadable ·)) = true := by kernel_rfl
theorem fnExactInverseLatitude_c19 : (Tryz.f7.resultTypes.all (fun t => Tryz.pinned.checked.prog.readableRec t && decide (t < Tryz.pinned.checked.prog.types.size))) = true := by kernel_rfl
theorem fnExactInverseLatitude_c20 : ((Rows.fnExactInverseLatitudeRow.ifacesOut == Tryz.f7.resultTypes.toList.any (Tryz.pinned.checked.prog.ifacesRec ·))) = true := by kernel_rfl
theorem fnExactInverseLatitude_c21 : ((Rows.fnExactInverseLatitudeRow.loopsOut == Tryz.f7.resultTypes.toList.any (Tryz.pinned.checked.prog.loopsFrom ·))) = true := by kernel_rfl
theorem fnExactInverseLatitude_c23 : (Rows.fnExactInverseLatitudeRow.shortTexts.isNone) = true := by kernel_rfl
theorem fnExactInverseLatitude_c28 : ((Rows.fnExactInverseLatitudeRow.kinds == (if Rows.fnExactInverseLatitudeRow.domain.isEmpty then [] else Tryz.f7.params.toList.map fun t => match Tryz.pinned.checked.prog.underlying t with | some (.int k) => some k | _ => none))) = true := by kernel_rfl
theorem fnExactInverseLatitude_c29 : ((Rows.fnExactInverseLatitudeRow.pinned == Rows.fnExactInverseLatitudeRow.pinnedBy)) = true := by kernel_rfl
theorem fnExactInverseLatitude_c30 : ((Rows.fnExactInverseLatitudeRow.veiled == (Tryz.f7.params.toList ++ Rows.fnExactInverseLatitudeSpec.plain.varTypes Tryz.pinned.checked.prog ++ Tryz.f7.resultTypes.toList).any (Tryz.pinned.checked.prog.veiledRec ·))) = true := by kernel_rfl
theorem fnExactInverseLatitude_c31 : (Rows.fnExactInverseLatitudeRow.veiledFits Tryz.pinned.checked.prog Tryz.f7.params.toList (Tryz.f7.params.toList ++ Rows.fnExactInverseLatitudeSpec.plain.varTypes Tryz.pinned.checked.prog ++ Tryz.f7.resultTypes.toList)) = true := by kernel_rfl
theorem fnExactInverseLatitude_closed : joinedFacts Tryz.pinned.checked.prog 7 Tryz.f7 Rows.fnExactInverseLatitudeSpec Rows.fnExactInverseLatitudeRow = true := by
  unfold joinedFacts
  exact (and_t (and_t (and_t (and_t (and_t (and_t (and_t (and_t (and_t (and_t (and_t (and_t (and_t (and_t (and_t (and_t (and_t (and_t (and_t (and_t (and_t (and_t (and_t (and_t (and_t (and_t (and_t (and_t (and_t (and_t (and_t fnExactInverseLatitude_c0 j_1) j_2) fnExactInverseLatitude_c3) fnExactInverseLatitude_c4) fnExactInverseLatitude_c5) j_6) fnExactInverseLatitude_c7) j_8) fnExactInverseLatitude_c9) fnExactInverseLatitude_c10) fnExactInverseLatitude_c11) fnExactInverseLatitude_c12) fnExactInverseLatitude_c13) fnExactInverseLatitude_c14) fnExactInverseLatitude_c15) fnExactInverseLatitude_c16) fnExactInverseLatitude_c17) fnExactInverseLatitude_c18) fnExactInverseLatitude_c19) fnExactInverseLatitude_c20) fnExactInverseLatitude_c21) j_22) fnExactInverseLatitude_c23) j_24) j_25) j_26) j_27) fnExactInverseLatitude_c28) fnExactInverseLatitude_c29) fnExactInverseLatitude_c30) fnExactInverseLatitude_c31)
end
set_option maxRecDepth 100000 in
theorem fnExactInverseLatitude_lifted (os : Os) (started : os.Started) (H : Type) (enc : TypeId × Value → H) :
    ReturnsInHanded {} Tryz.checked os 7 .any (Rows.fnExactInverseLatitudeSpec.pre6 enc Tryz.prog Tryz.f7 Rows.fnExactInverseLatitudeRow.domain false) (Rows.fnExactInverseLatitudeSpec.post enc Tryz.prog Tryz.f7 false true false false) := by
  refine returnsInHanded_of_change (C := Tryz.checked) fnExactInverseLatitude_own started (by kernel_rfl) Tryz.func7
    (ChangeSpec.witness6 (enc := enc) (C := Tryz.checked) false ⟨#[], #[.int .i64 0, .agg #[.int .i64 0, .int .i64 0, .int .i64 0], .agg #[.int .i64 0, .int .i64 0]], []⟩ 8 (by kernel_rfl) (by kernel_rfl) (by kernel_rfl) (by kernel_rfl)) ?_
  intro W base args ds gs before hval0 hW hcnd _
  have hval : ∀ (j : Nat) t v, Tryz.f7.params[j]? = some t → args[j]? = some v → Value.okWide Tryz.prog W .any base t v := hval0
  have hW1 := hW
  obtain ⟨p, q, hA0, hV, rfl, hfz, hnd⟩ := hW
  have hA : DataW.TrodAll enc Tryz.prog W 0 (fun _ => true) true Tryz.f7.params.toList args.toList ds p := hA0
  rw [Tryz.params7] at hA hval
  obtain ⟨v0, v1, v2, d0, d1, d2, p0, p1, p2, rfl, rfl, rfl, h0, h1, h2⟩ := trodAll_three hA
  obtain ⟨rfl, rfl⟩ := trodVars_none hV
  obtain ⟨⟨x0, r0⟩, rfl, s0⟩ := Ev.open_arg (α := Ev.I64) (by kernel_rfl) (by kernel_rfl) (hval 0 2 v0 rfl rfl) h0
  obtain ⟨⟨x1, r1⟩, rfl, s1⟩ := Ev.open_arg (α := Ev.Ell) (by kernel_rfl) (by kernel_rfl) (hval 1 47 v1 rfl rfl) h1
  obtain ⟨⟨x2, r2⟩, rfl, s2⟩ := Ev.open_arg (α := Ev.Iv) (by kernel_rfl) (by kernel_rfl) (hval 2 38 v2 rfl rfl) h2
  clear hA0 hval0
  refine (Ev.Tb.run_sound (ρ := fun _ => none) (t := Ev.Tb7) (b := Ev.B7) (γ := Bool) (y := true) (Ev.law_FnExactInverseLatitude x0 x1 x2) (.cons (r0 _) (.cons (r1 _) (.cons (r2 _) .nil))) (by simp [Ev.V.pfs, Ev.Enc.pf])).mono fun e W1 he => ?_
  obtain ⟨x, rfl, hx, hb⟩ := he
  have hx1 := hx (fun _ => none)
  cases hx1
  exact ⟨_, rfl, Ev.post_flat hW1 (fun _ _ _ => trodAll_mk1 (shut_bool Tryz.underlying4 true)) (fun sp => trodAll_mk3 (s0 _ _ _ _) (s1 _ _ _ _) (s2 _ _ _ _)) (fun _ => rfl) hb (ok_one (by kernel_rfl) rfl (okWide_bool_mk Tryz.underlying4 true))⟩

theorem fnExactInverseLatitude_holds : Rows.FnExactInverseLatitudeSaid :=
  OpenClaim.holds_of_wide 7 Tryz.f7 rfl rfl rfl rfl rfl rfl rfl ⟨rfl, rfl, rfl, rfl, rfl⟩ rfl rfl rfl rfl rfl (by kernel_rfl) Tryz.func7 fnExactInverseLatitude_closed
    (of_decide_eq_true (by kernel_rfl)) (by unfold Func.isWrapper; first | (rw [if_pos (by decide +kernel)]; kernel_rfl) | (rw [if_neg (by decide +kernel)]; exact ⟨rfl, rfl⟩))
    (fun os started H enc _ => fnExactInverseLatitude_lifted os started H enc)

end Go.Proofs.YtecfhpgpojgjkaaGreat
