/- The law FnExactGeodesicOmega gives true, whatever comes in; each argument reads behind the call as it read before. No conditions. -/
import Derived.Test.YtecfhpgpojgjkaaGreatEvC
import Derived.Test.YtecfhpgpojgjkaaGreatP33
import Derived.Test.YtecfhpgpojgjkaaGreatRows
import Derived.Test.YtecfhpgpojgjkaaGreatRJ
namespace Go.Proofs.YtecfhpgpojgjkaaGreat
open Go.ChangeShapes Go.WideShapes Go.ChangeAt Go.RowKit

theorem fnExactGeodesicOmega_own : ownKnob Tryz.prog.godebug = none := by kernel_rfl
section
open Go
set_option maxRecDepth 100000
theorem fnExactGeodesicOmega_c0 : (Rows.fnExactGeodesicOmegaRow.wf (OpenSpec.ofChange Rows.fnExactGeodesicOmegaSpec)) = true := by kernel_rfl
theorem fnExactGeodesicOmega_c3 : (Tryz.f14.params.all (Tryz.pinned.checked.prog.readableRec ·)) = true := by kernel_rfl
theorem fnExactGeodesicOmega_c4 : (namedTie Tryz.pinned.checked.prog Rows.fnExactGeodesicOmegaRow.named Rows.fnExactGeodesicOmegaSpec.vars) = true := by kernel_rfl
theorem fnExactGeodesicOmega_c5 : ((Rows.fnExactGeodesicOmegaRow.stops == [])) = true := by kernel_rfl
theorem fnExactGeodesicOmega_c7 : ((Rows.fnExactGeodesicOmegaRow.knobs == [])) = true := by kernel_rfl
theorem fnExactGeodesicOmega_c9 : ((Rows.fnExactGeodesicOmegaRow.inPlace == Tryz.pinned.checked.prog.inPlace 14)) = true := by kernel_rfl
theorem fnExactGeodesicOmega_c10 : ((Rows.fnExactGeodesicOmegaRow.unfollowed == Tryz.pinned.checked.prog.unfollowed 14)) = true := by kernel_rfl
theorem fnExactGeodesicOmega_c11 : ((Rows.fnExactGeodesicOmegaRow.recurses == Tryz.pinned.checked.prog.recurses 14)) = true := by kernel_rfl
theorem fnExactGeodesicOmega_c12 : ((Rows.fnExactGeodesicOmegaRow.named == Tryz.pinned.checked.prog.varsNamed 14)) = true := by kernel_rfl
theorem fnExactGeodesicOmega_c13 : ((Rows.fnExactGeodesicOmegaRow.maps == (Tryz.f14.params.toList ++ Rows.fnExactGeodesicOmegaSpec.plain.varTypes Tryz.pinned.checked.prog).any (Tryz.pinned.checked.prog.mapsRec ·))) = true := by kernel_rfl
theorem fnExactGeodesicOmega_c14 : ((Rows.fnExactGeodesicOmegaRow.ifaces == (Tryz.f14.params.toList ++ Rows.fnExactGeodesicOmegaSpec.plain.varTypes Tryz.pinned.checked.prog).any (Tryz.pinned.checked.prog.ifacesRec ·))) = true := by kernel_rfl
theorem fnExactGeodesicOmega_c15 : ((Rows.fnExactGeodesicOmegaRow.mapsOut == Tryz.pinned.checked.prog.mapsAmong Tryz.f14.resultTypes.toList)) = true := by kernel_rfl
theorem fnExactGeodesicOmega_c16 : ((Rows.fnExactGeodesicOmegaRow.loops == (Tryz.f14.params.toList ++ Rows.fnExactGeodesicOmegaSpec.plain.varTypes Tryz.pinned.checked.prog).any (Tryz.pinned.checked.prog.loopsFrom ·))) = true := by kernel_rfl
theorem fnExactGeodesicOmega_c17 : ((Rows.fnExactGeodesicOmegaRow.wideKeys == (Tryz.f14.params.toList ++ Rows.fnExactGeodesicOmegaSpec.plain.varTypes Tryz.pinned.checked.prog ++ Tryz.f14.resultTypes.toList).any (Tryz.pinned.checked.prog.wideKeysFrom ·))) = true := by kernel_rfl
theorem fnExactGeodesicOmega_c18 : (Rows.fnExactGeodesicOmegaSpec.vars.all (Tryz.pinned.checked.prog.varReadable ·)) = true := by kernel_rfl
theorem fnExactGeodesicOmega_c19 : (Tryz.f14.resultTypes.all (fun t => Tryz.pinned.checked.prog.readableRec t && decide (t < Tryz.pinned.checked.prog.types.size))) = true := by kernel_rfl
theorem fnExactGeodesicOmega_c20 : ((Rows.fnExactGeodesicOmegaRow.ifacesOut == Tryz.f14.resultTypes.toList.any (Tryz.pinned.checked.prog.ifacesRec ·))) = true := by kernel_rfl
theorem fnExactGeodesicOmega_c21 : ((Rows.fnExactGeodesicOmegaRow.loopsOut == Tryz.f14.resultTypes.toList.any (Tryz.pinned.checked.prog.loopsFrom ·))) = true := by kernel_rfl
theorem fnExactGeodesicOmega_c23 : (Rows.fnExactGeodesicOmegaRow.shortTexts.isNone) = true := by kernel_rfl
theorem fnExactGeodesicOmega_c28 : ((Rows.fnExactGeodesicOmegaRow.kinds == (if Rows.fnExactGeodesicOmegaRow.domain.isEmpty then [] else Tryz.f14.params.toList.map fun t => match Tryz.pinned.checked.prog.underlying t with | some (.int k) => some k | _ => none))) = true := by kernel_rfl
theorem fnExactGeodesicOmega_c29 : ((Rows.fnExactGeodesicOmegaRow.pinned == Rows.fnExactGeodesicOmegaRow.pinnedBy)) = true := by kernel_rfl
theorem fnExactGeodesicOmega_c30 : ((Rows.fnExactGeodesicOmegaRow.veiled == (Tryz.f14.params.toList ++ Rows.fnExactGeodesicOmegaSpec.plain.varTypes Tryz.pinned.checked.prog ++ Tryz.f14.resultTypes.toList).any (Tryz.pinned.checked.prog.veiledRec ·))) = true := by kernel_rfl
theorem fnExactGeodesicOmega_c31 : (Rows.fnExactGeodesicOmegaRow.veiledFits Tryz.pinned.checked.prog Tryz.f14.params.toList (Tryz.f14.params.toList ++ Rows.fnExactGeodesicOmegaSpec.plain.varTypes Tryz.pinned.checked.prog ++ Tryz.f14.resultTypes.toList)) = true := by kernel_rfl
theorem fnExactGeodesicOmega_closed : joinedFacts Tryz.pinned.checked.prog 14 Tryz.f14 Rows.fnExactGeodesicOmegaSpec Rows.fnExactGeodesicOmegaRow = true := by
  unfold joinedFacts
  exact (and_t (and_t (and_t (and_t (and_t (and_t (and_t (and_t (and_t (and_t (and_t (and_t (and_t (and_t (and_t (and_t (and_t (and_t (and_t (and_t (and_t (and_t (and_t (and_t (and_t (and_t (and_t (and_t (and_t (and_t (and_t fnExactGeodesicOmega_c0 j_1) j_2) fnExactGeodesicOmega_c3) fnExactGeodesicOmega_c4) fnExactGeodesicOmega_c5) j_6) fnExactGeodesicOmega_c7) j_8) fnExactGeodesicOmega_c9) fnExactGeodesicOmega_c10) fnExactGeodesicOmega_c11) fnExactGeodesicOmega_c12) fnExactGeodesicOmega_c13) fnExactGeodesicOmega_c14) fnExactGeodesicOmega_c15) fnExactGeodesicOmega_c16) fnExactGeodesicOmega_c17) fnExactGeodesicOmega_c18) fnExactGeodesicOmega_c19) fnExactGeodesicOmega_c20) fnExactGeodesicOmega_c21) j_22) fnExactGeodesicOmega_c23) j_24) j_25) j_26) j_27) fnExactGeodesicOmega_c28) fnExactGeodesicOmega_c29) fnExactGeodesicOmega_c30) fnExactGeodesicOmega_c31)
end
set_option maxRecDepth 100000 in
theorem fnExactGeodesicOmega_lifted (os : Os) (started : os.Started) (H : Type) (enc : TypeId × Value → H) :
    ReturnsInHanded {} Tryz.checked os 14 .any (Rows.fnExactGeodesicOmegaSpec.pre6 enc Tryz.prog Tryz.f14 Rows.fnExactGeodesicOmegaRow.domain false) (Rows.fnExactGeodesicOmegaSpec.post enc Tryz.prog Tryz.f14 false true false false) := by
  refine returnsInHanded_of_change (C := Tryz.checked) fnExactGeodesicOmega_own started (by kernel_rfl) Tryz.func14
    (ChangeSpec.witness6 (enc := enc) (C := Tryz.checked) false ⟨#[], #[.agg #[.int .i64 0, .int .i64 0, .int .i64 0], .agg #[.int .i64 0, .int .i64 0], .agg #[.int .i64 0, .int .i64 0], .int .i64 0], []⟩ 8 (by kernel_rfl) (by kernel_rfl) (by kernel_rfl) (by kernel_rfl)) ?_
  intro W base args ds gs before hval0 hW hcnd _
  have hval : ∀ (j : Nat) t v, Tryz.f14.params[j]? = some t → args[j]? = some v → Value.okWide Tryz.prog W .any base t v := hval0
  have hW1 := hW
  obtain ⟨p, q, hA0, hV, rfl, hfz, hnd⟩ := hW
  have hA : DataW.TrodAll enc Tryz.prog W 0 (fun _ => true) true Tryz.f14.params.toList args.toList ds p := hA0
  rw [Tryz.params14] at hA hval
  obtain ⟨v0, v1, v2, v3, d0, d1, d2, d3, p0, p1, p2, p3, rfl, rfl, rfl, h0, h1, h2, h3⟩ := trodAll_four hA
  obtain ⟨rfl, rfl⟩ := trodVars_none hV
  obtain ⟨⟨x0, r0⟩, rfl, s0⟩ := Ev.open_arg (α := Ev.Ell) (by kernel_rfl) (by kernel_rfl) (hval 0 47 v0 rfl rfl) h0
  obtain ⟨⟨x1, r1⟩, rfl, s1⟩ := Ev.open_arg (α := Ev.Point) (by kernel_rfl) (by kernel_rfl) (hval 1 25 v1 rfl rfl) h1
  obtain ⟨⟨x2, r2⟩, rfl, s2⟩ := Ev.open_arg (α := Ev.Point) (by kernel_rfl) (by kernel_rfl) (hval 2 25 v2 rfl rfl) h2
  obtain ⟨⟨x3, r3⟩, rfl, s3⟩ := Ev.open_arg (α := Ev.I64) (by kernel_rfl) (by kernel_rfl) (hval 3 2 v3 rfl rfl) h3
  clear hA0 hval0
  refine (Ev.Tb.run_sound (ρ := fun _ => none) (t := Ev.Tb14) (b := Ev.B14) (γ := Bool) (y := true) (Ev.law_FnExactGeodesicOmega x0 x1 x2 x3) (.cons (r0 _) (.cons (r1 _) (.cons (r2 _) (.cons (r3 _) .nil)))) (by simp [Ev.V.pfs, Ev.Enc.pf])).mono fun e W1 he => ?_
  obtain ⟨x, rfl, hx, hb⟩ := he
  have hx1 := hx (fun _ => none)
  cases hx1
  exact ⟨_, rfl, Ev.post_flat hW1 (fun _ _ _ => trodAll_mk1 (shut_bool Tryz.underlying4 true)) (fun sp => trodAll_mk4 (s0 _ _ _ _) (s1 _ _ _ _) (s2 _ _ _ _) (s3 _ _ _ _)) (fun _ => rfl) hb (ok_one (by kernel_rfl) rfl (okWide_bool_mk Tryz.underlying4 true))⟩

theorem fnExactGeodesicOmega_holds : Rows.FnExactGeodesicOmegaSaid :=
  OpenClaim.holds_of_wide 14 Tryz.f14 rfl rfl rfl rfl rfl rfl rfl ⟨rfl, rfl, rfl, rfl, rfl⟩ rfl rfl rfl rfl rfl (by kernel_rfl) Tryz.func14 fnExactGeodesicOmega_closed
    (of_decide_eq_true (by kernel_rfl)) (by unfold Func.isWrapper; first | (rw [if_pos (by decide +kernel)]; kernel_rfl) | (rw [if_neg (by decide +kernel)]; exact ⟨rfl, rfl⟩))
    (fun os started H enc _ => fnExactGeodesicOmega_lifted os started H enc)

end Go.Proofs.YtecfhpgpojgjkaaGreat
