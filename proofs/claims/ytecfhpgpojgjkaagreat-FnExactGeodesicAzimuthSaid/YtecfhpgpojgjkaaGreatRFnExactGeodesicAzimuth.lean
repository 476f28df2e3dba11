/- The law FnExactGeodesicAzimuth gives true, whatever comes in; each argument reads behind the call as it read before. No conditions. -/
import Derived.Test.YtecfhpgpojgjkaaGreatEvC
import Derived.Test.YtecfhpgpojgjkaaGreatP33
import Derived.Test.YtecfhpgpojgjkaaGreatRows
import Derived.Test.YtecfhpgpojgjkaaGreatRJ
namespace Go.Proofs.YtecfhpgpojgjkaaGreat
open Go.ChangeShapes Go.WideShapes Go.ChangeAt Go.RowKit

theorem fnExactGeodesicAzimuth_own : ownKnob Tryz.prog.godebug = none := by kernel_rfl
section
open Go
set_option maxRecDepth 100000
theorem fnExactGeodesicAzimuth_c0 : (Rows.fnExactGeodesicAzimuthRow.wf (OpenSpec.ofChange Rows.fnExactGeodesicAzimuthSpec)) = true := by kernel_rfl
theorem fnExactGeodesicAzimuth_c3 : (Tryz.f15.params.all (Tryz.pinned.checked.prog.readableRec ·)) = true := by kernel_rfl
theorem fnExactGeodesicAzimuth_c4 : (namedTie Tryz.pinned.checked.prog Rows.fnExactGeodesicAzimuthRow.named Rows.fnExactGeodesicAzimuthSpec.vars) = true := by kernel_rfl
theorem fnExactGeodesicAzimuth_c5 : ((Rows.fnExactGeodesicAzimuthRow.stops == [])) = true := by kernel_rfl
theorem fnExactGeodesicAzimuth_c7 : ((Rows.fnExactGeodesicAzimuthRow.knobs == [])) = true := by kernel_rfl
theorem fnExactGeodesicAzimuth_c9 : ((Rows.fnExactGeodesicAzimuthRow.inPlace == Tryz.pinned.checked.prog.inPlace 15)) = true := by kernel_rfl
theorem fnExactGeodesicAzimuth_c10 : ((Rows.fnExactGeodesicAzimuthRow.unfollowed == Tryz.pinned.checked.prog.unfollowed 15)) = true := by kernel_rfl
theorem fnExactGeodesicAzimuth_c11 : ((Rows.fnExactGeodesicAzimuthRow.recurses == Tryz.pinned.checked.prog.recurses 15)) = true := by kernel_rfl
theorem fnExactGeodesicAzimuth_c12 : ((Rows.fnExactGeodesicAzimuthRow.named == Tryz.pinned.checked.prog.varsNamed 15)) = true := by kernel_rfl
theorem fnExactGeodesicAzimuth_c13 : ((Rows.fnExactGeodesicAzimuthRow.maps == (Tryz.f15.params.toList ++ Rows.fnExactGeodesicAzimuthSpec.plain.varTypes Tryz.pinned.checked.prog).any (Tryz.pinned.checked.prog.mapsRec ·))) = true := by kernel_rfl
theorem fnExactGeodesicAzimuth_c14 : ((Rows.fnExactGeodesicAzimuthRow.ifaces == (Tryz.f15.params.toList ++ Rows.fnExactGeodesicAzimuthSpec.plain.varTypes Tryz.pinned.checked.prog).any (Tryz.pinned.checked.prog.ifacesRec ·))) = true := by kernel_rfl
theorem fnExactGeodesicAzimuth_c15 : ((Rows.fnExactGeodesicAzimuthRow.mapsOut == Tryz.pinned.checked.prog.mapsAmong Tryz.f15.resultTypes.toList)) = true := by kernel_rfl
theorem fnExactGeodesicAzimuth_c16 : ((Rows.fnExactGeodesicAzimuthRow.loops == (Tryz.f15.params.toList ++ Rows.fnExactGeodesicAzimuthSpec.plain.varTypes Tryz.pinned.checked.prog).any (Tryz.pinned.checked.prog.loopsFrom ·))) = true := by kernel_rfl
theorem fnExactGeodesicAzimuth_c17 : ((Rows.fnExactGeodesicAzimuthRow.wideKeys == (Tryz.f15.params.toList ++ Rows.fnExactGeodesicAzimuthSpec.plain.varTypes Tryz.pinned.checked.prog ++ Tryz.f15.resultTypes.toList).any (Tryz.pinned.checked.prog.wideKeysFrom ·))) = true := by kernel_rfl
theorem fnExactGeodesicAzimuth_c18 : (Rows.fnExactGeodesicAzimuthSpec.vars.all (Tryz.pinned.checked.prog.varReadable ·)) = true := by kernel_rfl
theorem fnExactGeodesicAzimuth_c19 : (Tryz.f15.resultTypes.all (fun t => Tryz.pinned.checked.prog.readableRec t && decide (t < Tryz.pinned.checked.prog.types.size))) = true := by kernel_rfl
theorem fnExactGeodesicAzimuth_c20 : ((Rows.fnExactGeodesicAzimuthRow.ifacesOut == Tryz.f15.resultTypes.toList.any (Tryz.pinned.checked.prog.ifacesRec ·))) = true := by kernel_rfl
theorem fnExactGeodesicAzimuth_c21 : ((Rows.fnExactGeodesicAzimuthRow.loopsOut == Tryz.f15.resultTypes.toList.any (Tryz.pinned.checked.prog.loopsFrom ·))) = true := by kernel_rfl
theorem fnExactGeodesicAzimuth_c23 : (Rows.fnExactGeodesicAzimuthRow.shortTexts.isNone) = true := by kernel_rfl
theorem fnExactGeodesicAzimuth_c28 : ((Rows.fnExactGeodesicAzimuthRow.kinds == (if Rows.fnExactGeodesicAzimuthRow.domain.isEmpty then [] else Tryz.f15.params.toList.map fun t => match Tryz.pinned.checked.prog.underlying t with | some (.int k) => some k | _ => none))) = true := by kernel_rfl
theorem fnExactGeodesicAzimuth_c29 : ((Rows.fnExactGeodesicAzimuthRow.pinned == Rows.fnExactGeodesicAzimuthRow.pinnedBy)) = true := by kernel_rfl
theorem fnExactGeodesicAzimuth_c30 : ((Rows.fnExactGeodesicAzimuthRow.veiled == (Tryz.f15.params.toList ++ Rows.fnExactGeodesicAzimuthSpec.plain.varTypes Tryz.pinned.checked.prog ++ Tryz.f15.resultTypes.toList).any (Tryz.pinned.checked.prog.veiledRec ·))) = true := by kernel_rfl
theorem fnExactGeodesicAzimuth_c31 : (Rows.fnExactGeodesicAzimuthRow.veiledFits Tryz.pinned.checked.prog Tryz.f15.params.toList (Tryz.f15.params.toList ++ Rows.fnExactGeodesicAzimuthSpec.plain.varTypes Tryz.pinned.checked.prog ++ Tryz.f15.resultTypes.toList)) = true := by kernel_rfl
theorem fnExactGeodesicAzimuth_closed : joinedFacts Tryz.pinned.checked.prog 15 Tryz.f15 Rows.fnExactGeodesicAzimuthSpec Rows.fnExactGeodesicAzimuthRow = true := by
  unfold joinedFacts
  exact (and_t (and_t (and_t (and_t (and_t (and_t (and_t (and_t (and_t (and_t (and_t (and_t (and_t (and_t (and_t (and_t (and_t (and_t (and_t (and_t (and_t (and_t (and_t (and_t (and_t (and_t (and_t (and_t (and_t (and_t (and_t fnExactGeodesicAzimuth_c0 j_1) j_2) fnExactGeodesicAzimuth_c3) fnExactGeodesicAzimuth_c4) fnExactGeodesicAzimuth_c5) j_6) fnExactGeodesicAzimuth_c7) j_8) fnExactGeodesicAzimuth_c9) fnExactGeodesicAzimuth_c10) fnExactGeodesicAzimuth_c11) fnExactGeodesicAzimuth_c12) fnExactGeodesicAzimuth_c13) fnExactGeodesicAzimuth_c14) fnExactGeodesicAzimuth_c15) fnExactGeodesicAzimuth_c16) fnExactGeodesicAzimuth_c17) fnExactGeodesicAzimuth_c18) fnExactGeodesicAzimuth_c19) fnExactGeodesicAzimuth_c20) fnExactGeodesicAzimuth_c21) j_22) fnExactGeodesicAzimuth_c23) j_24) j_25) j_26) j_27) fnExactGeodesicAzimuth_c28) fnExactGeodesicAzimuth_c29) fnExactGeodesicAzimuth_c30) fnExactGeodesicAzimuth_c31)
end
set_option maxRecDepth 100000 in
theorem fnExactGeodesicAzimuth_lifted (os : Os) (started : os.Started) (H : Type) (enc : TypeId × Value → H) :
    ReturnsInHanded {} Tryz.checked os 15 .any (Rows.fnExactGeodesicAzimuthSpec.pre6 enc Tryz.prog Tryz.f15 Rows.fnExactGeodesicAzimuthRow.domain false) (Rows.fnExactGeodesicAzimuthSpec.post enc Tryz.prog Tryz.f15 false true false false) := by
  refine returnsInHanded_of_change (C := Tryz.checked) fnExactGeodesicAzimuth_own started (by kernel_rfl) Tryz.func15
    (ChangeSpec.witness6 (enc := enc) (C := Tryz.checked) false ⟨#[], #[.agg #[.int .i64 0, .int .i64 0, .int .i64 0], .agg #[.int .i64 0, .int .i64 0], .agg #[.int .i64 0, .int .i64 0], .int .i64 0], []⟩ 8 (by kernel_rfl) (by kernel_rfl) (by kernel_rfl) (by kernel_rfl)) ?_
  intro W base args ds gs before hval0 hW hcnd _
  have hval : ∀ (j : Nat) t v, Tryz.f15.params[j]? = some t → args[j]? = some v → Value.okWide Tryz.prog W .any base t v := hval0
  have hW1 := hW
  obtain ⟨p, q, hA0, hV, rfl, hfz, hnd⟩ := hW
  have hA : DataW.TrodAll enc Tryz.prog W 0 (fun _ => true) true Tryz.f15.params.toList args.toList ds p := hA0
  rw [Tryz.params15] at hA hval
  obtain ⟨v0, v1, v2, v3, d0, d1, d2, d3, p0, p1, p2, p3, rfl, rfl, rfl, h0, h1, h2, h3⟩ := trodAll_four hA
  obtain ⟨rfl, rfl⟩ := trodVars_none hV
  obtain ⟨⟨x0, r0⟩, rfl, s0⟩ := Ev.open_arg (α := Ev.Ell) (by kernel_rfl) (by kernel_rfl) (hval 0 47 v0 rfl rfl) h0
  obtain ⟨⟨x1, r1⟩, rfl, s1⟩ := Ev.open_arg (α := Ev.Point) (by kernel_rfl) (by kernel_rfl) (hval 1 25 v1 rfl rfl) h1
  obtain ⟨⟨x2, r2⟩, rfl, s2⟩ := Ev.open_arg (α := Ev.Point) (by kernel_rfl) (by kernel_rfl) (hval 2 25 v2 rfl rfl) h2
  obtain ⟨⟨x3, r3⟩, rfl, s3⟩ := Ev.open_arg (α := Ev.I64) (by kernel_rfl) (by kernel_rfl) (hval 3 2 v3 rfl rfl) h3
  clear hA0 hval0
  refine (Ev.Tb.run_sound (ρ := fun _ => none) (t := Ev.Tb15) (b := Ev.B15) (γ := Bool) (y := true) (Ev.law_FnExactGeodesicAzimuth x0 x1 x2 x3) (.cons (r0 _) (.cons (r1 _) (.cons (r2 _) (.cons (r3 _) .nil)))) (by simp [Ev.V.pfs, Ev.Enc.pf])).mono fun e W1 he => ?_
  obtain ⟨x, rfl, hx, hb⟩ := he
  have hx1 := hx (fun _ => none)
  cases hx1
  exact ⟨_, rfl, Ev.post_flat hW1 (fun _ _ _ => trodAll_mk1 (shut_bool Tryz.underlying4 true)) (fun sp => trodAll_mk4 (s0 _ _ _ _) (s1 _ _ _ _) (s2 _ _ _ _) (s3 _ _ _ _)) (fun _ => rfl) hb (ok_one (by kernel_rfl) rfl (okWide_bool_mk Tryz.underlying4 true))⟩

theorem fnExactGeodesicAzimuth_holds : Rows.FnExactGeodesicAzimuthSaid :=
  OpenClaim.holds_of_wide 15 Tryz.f15 rfl rfl rfl rfl rfl rfl rfl ⟨rfl, rfl, rfl, rfl, rfl⟩ rfl rfl rfl rfl rfl (by kernel_rfl) Tryz.func15 fnExactGeodesicAzimuth_closed
    (of_decide_eq_true (by kernel_rfl)) (by unfold Func.isWrapper; first | (rw [if_pos (by decide +kernel)]; kernel_rfl) | (rw [if_neg (by decide +kernel)]; exact ⟨rfl, rfl⟩))
    (fun os started H enc _ => fnExactGeodesicAzimuth_lifted os started H enc)

end Go.Proofs.YtecfhpgpojgjkaaGreat
