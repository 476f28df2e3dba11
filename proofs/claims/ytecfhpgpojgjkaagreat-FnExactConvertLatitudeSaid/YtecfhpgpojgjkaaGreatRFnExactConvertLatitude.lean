/- The law FnExactConvertLatitude gives true, whatever comes in; each argument reads behind the call as it read before. No conditions. -/
import Derived.Test.YtecfhpgpojgjkaaGreatEvC
import Derived.Test.YtecfhpgpojgjkaaGreatP30
import Derived.Test.YtecfhpgpojgjkaaGreatRows
import Derived.Test.YtecfhpgpojgjkaaGreatRJ
namespace Go.Proofs.YtecfhpgpojgjkaaGreat
open Go.ChangeShapes Go.WideShapes Go.ChangeAt Go.RowKit

theorem fnExactConvertLatitude_own : ownKnob Tryz.prog.godebug = none := by kernel_rfl
section
open Go
set_option maxRecDepth 100000
theorem fnExactConvertLatitude_c0 : (Rows.fnExactConvertLatitudeRow.wf (OpenSpec.ofChange Rows.fnExactConvertLatitudeSpec)) = true := by kernel_rfl
theorem fnExactConvertLatitude_c3 : (Tryz.f8.params.all (Tryz.pinned.checked.prog.readableRec ·)) = true := by kernel_rfl
theorem fnExactConvertLatitude_c4 : (namedTie Tryz.pinned.checked.prog Rows.fnExactConvertLatitudeRow.named Rows.fnExactConvertLatitudeSpec.vars) = true := by kernel_rfl
theorem fnExactConvertLatitude_c5 : ((Rows.fnExactConvertLatitudeRow.stops == [])) = true := by kernel_rfl
theorem fnExactConvertLatitude_c7 : ((Rows.fnExactConvertLatitudeRow.knobs == [])) = true := by kernel_rfl
theorem fnExactConvertLatitude_c9 : ((Rows.fnExactConvertLatitudeRow.inPlace == Tryz.pinned.checked.prog.inPlace 8)) = true := by kernel_rfl
theorem fnExactConvertLatitude_c10 : ((Rows.fnExactConvertLatitudeRow.unfollowed == Tryz.pinned.checked.prog.unfollowed 8)) = true := by kernel_rfl
theorem fnExactConvertLatitude_c11 : ((Rows.fnExactConvertLatitudeRow.recurses == Tryz.pinned.checked.prog.recurses 8)) = true := by kernel_rfl
theorem fnExactConvertLatitude_c12 : ((Rows.fnExactConvertLatitudeRow.named == Tryz.pinned.checked.prog.varsNamed 8)) = true := by kernel_rfl
theorem fnExactConvertLatitude_c13 : ((Rows.fnExactConvertLatitudeRow.maps == (Tryz.f8.params.toList ++ Rows.fnExactConvertLatitudeSpec.plain.varTypes Tryz.pinned.checked.prog).any (Tryz.pinned.checked.prog.mapsRec ·))) = true := by kernel_rfl
theorem fnExactConvertLatitude_c14 : ((Rows.fnExactConvertLatitudeRow.ifaces == (Tryz.f8.params.toList ++ Rows.fnExactConvertLatitudeSpec.plain.varTypes Tryz.pinned.checked.prog).any (Tryz.pinned.checked.prog.ifacesRec ·))) = true := by kernel_rfl
theorem fnExactConvertLatitude_c15 : ((Rows.fnExactConvertLatitudeRow.mapsOut == Tryz.pinned.checked.prog.mapsAmong Tryz.f8.resultTypes.toList)) = true := by kernel_rfl
theorem fnExactConvertLatitude_c16 : ((Rows.fnExactConvertLatitudeRow.loops == (Tryz.f8.params.toList ++ Rows.fnExactConvertLatitudeSpec.plain.varTypes Tryz.pinned.checked.prog).any (Tryz.pinned.checked.prog.loopsFrom ·))) = true := by kernel_rfl
theorem fnExactConvertLatitude_c17 : ((Rows.fnExactConvertLatitudeRow.wideKeys == (Tryz.f8.params.toList ++ Rows.fnExactConvertLatitudeSpec.plain.varTypes Tryz.pinned.checked.prog ++ Tryz.f8.resultTypes.toList).any (Tryz.pinned.checked.prog.wideKeysFrom ·))) = true := by kernel_rfl
theorem fnExactConvertLatitude_c18 : (Rows.fnExactConvertLatitudeSpec.vars.all (Tryz.pinned.checked.prog.varReadable ·)) = true := by kernel_rfl
theorem fnExactConvertLatitude_c19 : (Tryz.f8.resultTypes.all (fun t => Tryz.pinned.checked.prog.readableRec t && decide (t < Tryz.pinned.checked.prog.types.size))) = true := by kernel_rfl
theorem fnExactConvertLatitude_c20 : ((Rows.fnExactConvertLatitudeRow.ifacesOut == Tryz.f8.resultTypes.toList.any (Tryz.pinned.checked.prog.ifacesRec ·))) = true := by kernel_rfl
theorem fnExactConvertLatitude_c21 : ((Rows.fnExactConvertLatitudeRow.loopsOut == Tryz.f8.resultTypes.toList.any (Tryz.pinned.checked.prog.loopsFrom ·))) = true := by kernel_rfl
theorem fnExactConvertLatitude_c23 : (Rows.fnExactConvertLatitudeRow.shortTexts.isNone) = true := by kernel_rfl
theorem fnExactConvertLatitude_c28 : ((Rows.fnExactConvertLatitudeRow.kinds == (if Rows.fnExactConvertLatitudeRow.domain.isEmpty then [] else Tryz.f8.params.toList.map fun t => match Tryz.pinned.checked.prog.underlying t with | some (.int k) => some k | _ => none))) = true := by kernel_rfl
theorem fnExactConvertLatitude_c29 : ((Rows.fnExactConvertLatitudeRow.pinned == Rows.fnExactConvertLatitudeRow.pinnedBy)) = true := by kernel_rfl
theorem fnExactConvertLatitude_c30 : ((Rows.fnExactConvertLatitudeRow.veiled == (Tryz.f8.params.toList ++ Rows.fnExactConvertLatitudeSpec.plain.varTypes Tryz.pinned.checked.prog ++ Tryz.f8.resultTypes.toList).any (Tryz.pinned.checked.prog.veiledRec ·))) = true := by kernel_rfl
theorem fnExactConvertLatitude_c31 : (Rows.fnExactConvertLatitudeRow.veiledFits Tryz.pinned.checked.prog Tryz.f8.params.toList (Tryz.f8.params.toList ++ Rows.fnExactConvertLatitudeSpec.plain.varTypes Tryz.pinned.checked.prog ++ Tryz.f8.resultTypes.toList)) = true := by kernel_rfl
theorem fnExactConvertLatitude_closed : joinedFacts Tryz.pinned.checked.prog 8 Tryz.f8 Rows.fnExactConvertLatitudeSpec Rows.fnExactConvertLatitudeRow = true := by
  unfold joinedFacts
  exact (and_t (and_t (and_t (and_t (and_t (and_t (and_t (and_t (and_t (and_t (and_t (and_t (and_t (and_t (and_t (and_t (and_t (and_t (and_t (and_t (and_t (and_t (and_t (and_t (and_t (and_t (and_t (and_t (and_t (and_t (and_t fnExactConvertLatitude_c0 j_1) j_2) fnExactConvertLatitude_c3) fnExactConvertLatitude_c4) fnExactConvertLatitude_c5) j_6) fnExactConvertLatitude_c7) j_8) fnExactConvertLatitude_c9) fnExactConvertLatitude_c10) fnExactConvertLatitude_c11) fnExactConvertLatitude_c12) fnExactConvertLatitude_c13) fnExactConvertLatitude_c14) fnExactConvertLatitude_c15) fnExactConvertLatitude_c16) fnExactConvertLatitude_c17) fnExactConvertLatitude_c18) fnExactConvertLatitude_c19) fnExactConvertLatitude_c20) fnExactConvertLatitude_c21) j_22) fnExactConvertLatitude_c23) j_24) j_25) j_26) j_27) fnExactConvertLatitude_c28) fnExactConvertLatitude_c29) fnExactConvertLatitude_c30) fnExactConvertLatitude_c31)
end
set_option maxRecDepth 100000 in
theorem fnExactConvertLatitude_lifted (os : Os) (started : os.Started) (H : Type) (enc : TypeId × Value → H) :
    ReturnsInHanded {} Tryz.checked os 8 .any (Rows.fnExactConvertLatitudeSpec.pre6 enc Tryz.prog Tryz.f8 Rows.fnExactConvertLatitudeRow.domain false) (Rows.fnExactConvertLatitudeSpec.post enc Tryz.prog Tryz.f8 false true false false) := by
  refine returnsInHanded_of_change (C := Tryz.checked) fnExactConvertLatitude_own started (by kernel_rfl) Tryz.func8
    (ChangeSpec.witness6 (enc := enc) (C := Tryz.checked) false ⟨#[], #[.int .i64 0, .int .i64 0, .agg #[.int .i64 0, .int .i64 0, .int .i64 0], .agg #[.int .i64 0, .int .i64 0]], []⟩ 8 (by kernel_rfl) (by kernel_rfl) (by kernel_rfl) (by kernel_rfl)) ?_
  intro W base args ds gs before hval0 hW hcnd _
  have hval : ∀ (j : Nat) t v, Tryz.f8.params[j]? = some t → args[j]? = some v → Value.okWide Tryz.prog W .any base t v := hval0
  have hW1 := hW
  obtain ⟨p, q, hA0, hV, rfl, hfz, hnd⟩ := hW
  have hA : DataW.TrodAll enc Tryz.prog W 0 (fun _ => true) true Tryz.f8.params.toList args.toList ds p := hA0
  rw [Tryz.params8] at hA hval
  obtain ⟨v0, v1, v2, v3, d0, d1, d2, d3, p0, p1, p2, p3, rfl, rfl, rfl, h0, h1, h2, h3⟩ := trodAll_four hA
  obtain ⟨rfl, rfl⟩ := trodVars_none hV
  obtain ⟨⟨x0, r0⟩, rfl, s0⟩ := Ev.open_arg (α := Ev.I64) (by kernel_rfl) (by kernel_rfl) (hval 0 2 v0 rfl rfl) h0
  obtain ⟨⟨x1, r1⟩, rfl, s1⟩ := Ev.open_arg (α := Ev.I64) (by kernel_rfl) (by kernel_rfl) (hval 1 2 v1 rfl rfl) h1
  obtain ⟨⟨x2, r2⟩, rfl, s2⟩ := Ev.open_arg (α := Ev.Ell) (by kernel_rfl) (by kernel_rfl) (hval 2 47 v2 rfl rfl) h2
  obtain ⟨⟨x3, r3⟩, rfl, s3⟩ := Ev.open_arg (α := Ev.Iv) (by kernel_rfl) (by kernel_rfl) (hval 3 38 v3 rfl rfl) h3
  clear hA0 hval0
  refine (Ev.Tb.run_sound (ρ := fun _ => none) (t := Ev.Tb8) (b := Ev.B8) (γ := Bool) (y := true) (Ev.law_FnExactConvertLatitude x0 x1 x2 x3) (.cons (r0 _) (.cons (r1 _) (.cons (r2 _) (.cons (r3 _) .nil)))) (by simp [Ev.V.pfs, Ev.Enc.pf])).mono fun e W1 he => ?_
  obtain ⟨x, rfl, hx, hb⟩ := he
  have hx1 := hx (fun _ => none)
  cases hx1
  exact ⟨_, rfl, Ev.post_flat hW1 (fun _ _ _ => trodAll_mk1 (shut_bool Tryz.underlying4 true)) (fun sp => trodAll_mk4 (s0 _ _ _ _) (s1 _ _ _ _) (s2 _ _ _ _) (s3 _ _ _ _)) (fun _ => rfl) hb (ok_one (by kernel_rfl) rfl (okWide_bool_mk Tryz.underlying4 true))⟩

theorem fnExactConvertLatitude_holds : Rows.FnExactConvertLatitudeSaid :=
  OpenClaim.holds_of_wide 8 Tryz.f8 rfl rfl rfl rfl rfl rfl rfl ⟨rfl, rfl, rfl, rfl, rfl⟩ rfl rfl rfl rfl rfl (by kernel_rfl) Tryz.func8 fnExactConvertLatitude_closed
    (of_decide_eq_true (by kernel_rfl)) (by unfold Func.isWrapper; first | (rw [if_pos (by decide +kernel)]; kernel_rfl) | (rw [if_neg (by decide +kernel)]; exact ⟨rfl, rfl⟩))
    (fun os started H enc _ => fnExactConvertLatitude_lifted os started H enc)

end Go.Proofs.YtecfhpgpojgjkaaGreat
