/- The law FnExactGeodesicLength gives true, whatever comes in; each argument reads behind the call as it read before. No conditions. -/
import Derived.Test.YtecfhpgpojgjkaaGreatEvC
import Derived.Test.YtecfhpgpojgjkaaGreatP38
import Derived.Test.YtecfhpgpojgjkaaGreatRows
import Derived.Test.YtecfhpgpojgjkaaGreatRJ
namespace Go.Proofs.YtecfhpgpojgjkaaGreat
open Go.ChangeShapes Go.WideShapes Go.ChangeAt Go.RowKit

theorem fnExactGeodesicLength_own : ownKnob Tryz.prog.godebug = none := by kernel_rfl
section
open Go
set_option maxRecDepth 100000
theorem fnExactGeodesicLength_c0 : (Rows.fnExactGeodesicLengthRow.wf (OpenSpec.ofChange Rows.fnExactGeodesicLengthSpec)) = true := by kernel_rfl
theorem fnExactGeodesicLength_c3 : (Tryz.f16.params.all (Tryz.pinned.checked.prog.readableRec ·)) = true := by kernel_rfl
theorem fnExactGeodesicLength_c4 : (namedTie Tryz.pinned.checked.prog Rows.fnExactGeodesicLengthRow.named Rows.fnExactGeodesicLengthSpec.vars) = true := by kernel_rfl
theorem fnExactGeodesicLength_c5 : ((Rows.fnExactGeodesicLengthRow.stops == [])) = true := by kernel_rfl
theorem fnExactGeodesicLength_c7 : ((Rows.fnExactGeodesicLengthRow.knobs == [])) = true := by kernel_rfl
theorem fnExactGeodesicLength_c9 : ((Rows.fnExactGeodesicLengthRow.inPlace == Tryz.pinned.checked.prog.inPlace 16)) = true := by kernel_rfl
theorem fnExactGeodesicLength_c10 : ((Rows.fnExactGeodesicLengthRow.unfollowed == Tryz.pinned.checked.prog.unfollowed 16)) = true := by kernel_rfl
theorem fnExactGeodesicLength_c11 : ((Rows.fnExactGeodesicLengthRow.recurses == Tryz.pinned.checked.prog.recurses 16)) = true := by kernel_rfl
theorem fnExactGeodesicLength_c12 : ((Rows.fnExactGeodesicLengthRow.named == Tryz.pinned.checked.prog.varsNamed 16)) = true := by kernel_rfl
theorem fnExactGeodesicLength_c13 : ((Rows.fnExactGeodesicLengthRow.maps == (Tryz.f16.params.toList ++ Rows.fnExactGeodesicLengthSpec.plain.varTypes Tryz.pinned.checked.prog).any (Tryz.pinned.checked.prog.mapsRec ·))) = true := by kernel_rfl
theorem fnExactGeodesicLength_c14 : ((Rows.fnExactGeodesicLengthRow.ifaces == (Tryz.f16.params.toList ++ Rows.fnExactGeodesicLengthSpec.plain.varTypes Tryz.pinned.checked.prog).any (Tryz.pinned.checked.prog.ifacesRec ·))) = true := by kernel_rfl
theorem fnExactGeodesicLength_c15 : ((Rows.fnExactGeodesicLengthRow.mapsOut == Tryz.pinned.checked.prog.mapsAmong Tryz.f16.resultTypes.toList)) = true := by kernel_rfl
theorem fnExactGeodesicLength_c16 : ((Rows.fnExactGeodesicLengthRow.loops == (Tryz.f16.params.toList ++ Rows.fnExactGeodesicLengthSpec.plain.varTypes Tryz.pinned.checked.prog).any (Tryz.pinned.checked.prog.loopsFrom ·))) = true := by kernel_rfl
theorem fnExactGeodesicLength_c17 : ((Rows.fnExactGeodesicLengthRow.wideKeys == (Tryz.f16.params.toList ++ Rows.fnExactGeodesicLengthSpec.plain.varTypes Tryz.pinned.checked.prog ++ Tryz.f16.resultTypes.toList).any (Tryz.pinned.checked.prog.wideKeysFrom ·))) = true := by kernel_rfl
theorem fnExactGeodesicLength_c18 : (Rows.fnExactGeodesicLengthSpec.vars.all (Tryz.pinned.checked.prog.varReadable ·)) = true := by kernel_rfl
theorem fnExactGeodesicLength_c19 : (Tryz.f16.resultTypes.all (fun t => Tryz.pinned.checked.prog.readableRec t && decide (t < Tryz.pinned.checked.prog.types.size))) = true := by kernel_rfl
theorem fnExactGeodesicLength_c20 : ((Rows.fnExactGeodesicLengthRow.ifacesOut == Tryz.f16.resultTypes.toList.any (Tryz.pinned.checked.prog.ifacesRec ·))) = true := by kernel_rfl
theorem fnExactGeodesicLength_c21 : ((Rows.fnExactGeodesicLengthRow.loopsOut == Tryz.f16.resultTypes.toList.any (Tryz.pinned.checked.prog.loopsFrom ·))) = true := by kernel_rfl
theorem fnExactGeodesicLength_c23 : (Rows.fnExactGeodesicLengthRow.shortTexts.isNone) = true := by kernel_rfl
theorem fnExactGeodesicLength_c28 : ((Rows.fnExactGeodesicLengthRow.kinds == (if Rows.fnExactGeodesicLengthRow.domain.isEmpty then [] else Tryz.f16.params.toList.map fun t => match Tryz.pinned.checked.prog.underlying t with | some (.int k) => some k | _ => none))) = true := by kernel_rfl
theorem fnExactGeodesicLength_c29 : ((Rows.fnExactGeodesicLengthRow.pinned == Rows.fnExactGeodesicLengthRow.pinnedBy)) = true := by kernel_rfl
theorem fnExactGeodesicLength_c30 : ((Rows.fnExactGeodesicLengthRow.veiled == (Tryz.f16.params.toList ++ Rows.fnExactGeodesicLengthSpec.plain.varTypes Tryz.pinned.checked.prog ++ Tryz.f16.resultTypes.toList).any (Tryz.pinned.checked.prog.veiledRec ·))) = true := by kernel_rfl
theorem fnExactGeodesicLength_c31 : (Rows.fnExactGeodesicLengthRow.veiledFits Tryz.pinned.checked.prog Tryz.f16.params.toList (Tryz.f16.params.toList ++ Rows.fnExactGeodesicLengthSpec.plain.varTypes Tryz.pinned.checked.prog ++ Tryz.f16.resultTypes.toList)) = true := by kernel_rfl
theorem fnExactGeodesicLength_closed : joinedFacts Tryz.pinned.checked.prog 16 Tryz.f16 Rows.fnExactGeodesicLengthSpec Rows.fnExactGeodesicLengthRow = true := by
  unfold joinedFacts
  exact (and_t (and_t (and_t (and_t (and_t (and_t (and_t (and_t (and_t (and_t (and_t (and_t (and_t (and_t (and_t (and_t (and_t (and_t (and_t (and_t (and_t (and_t (and_t (and_t (and_t (and_t (and_t (and_t (and_t (and_t (and_t fnExactGeodesicLength_c0 j_1) j_2) fnExactGeodesicLength_c3) fnExactGeodesicLength_c4) fnExactGeodesicLength_c5) j_6) fnExactGeodesicLength_c7) j_8) fnExactGeodesicLength_c9) fnExactGeodesicLength_c10) fnExactGeodesicLength_c11) fnExactGeodesicLength_c12) fnExactGeodesicLength_c13) fnExactGeodesicLength_c14) fnExactGeodesicLength_c15) fnExactGeodesicLength_c16) fnExactGeodesicLength_c17) fnExactGeodesicLength_c18) fnExactGeodesicLength_c19) fnExactGeodesicLength_c20) fnExactGeodesicLength_c21) j_22) fnExactGeodesicLength_c23) j_24) j_25) j_26) j_27) fnExactGeodesicLength_c28) fnExactGeodesicLength_c29) fnExactGeodesicLength_c30) fnExactGeodesicLength_c31)
end
set_option maxRecDepth 100000 in
theorem fnExactGeodesicLength_lifted (os : Os) (started : os.Started) (H : Type) (enc : TypeId × Value → H) :
    ReturnsInHanded {} Tryz.checked os 16 .any (Rows.fnExactGeodesicLengthSpec.pre6 enc Tryz.prog Tryz.f16 Rows.fnExactGeodesicLengthRow.domain false) (Rows.fnExactGeodesicLengthSpec.post enc Tryz.prog Tryz.f16 false true false false) := by
  refine returnsInHanded_of_change (C := Tryz.checked) fnExactGeodesicLength_own started (by kernel_rfl) Tryz.func16
    (ChangeSpec.witness6 (enc := enc) (C := Tryz.checked) false ⟨#[], #[.agg #[.int .i64 0, .int .i64 0, .int .i64 0], .agg #[.int .i64 0, .int .i64 0], .agg #[.int .i64 0, .int .i64 0], .int .i64 0], []⟩ 8 (by kernel_rfl) (by kernel_rfl) (by kernel_rfl) (by kernel_rfl)) ?_
  intro W base args ds gs before hval0 hW hcnd _
  have hval : ∀ (j : Nat) t v, Tryz.f16.params[j]? = some t → args[j]? = some v → Value.okWide Tryz.prog W .any base t v := hval0
  have hW1 := hW
  obtain ⟨p, q, hA0, hV, rfl, hfz, hnd⟩ := hW
  have hA : DataW.TrodAll enc Tryz.prog W 0 (fun _ => true) true Tryz.f16.params.toList args.toList ds p := hA0
  rw [Tryz.params16] at hA hval
  obtain ⟨v0, v1, v2, v3, d0, d1, d2, d3, p0, p1, p2, p3, rfl, rfl, rfl, h0, h1, h2, h3⟩ := trodAll_four hA
  obtain ⟨rfl, rfl⟩ := trodVars_none hV
  obtain ⟨⟨x0, r0⟩, rfl, s0⟩ := Ev.open_arg (α := Ev.Ell) (by kernel_rfl) (by kernel_rfl) (hval 0 47 v0 rfl rfl) h0
  obtain ⟨⟨x1, r1⟩, rfl, s1⟩ := Ev.open_arg (α := Ev.Point) (by kernel_rfl) (by kernel_rfl) (hval 1 25 v1 rfl rfl) h1
  obtain ⟨⟨x2, r2⟩, rfl, s2⟩ := Ev.open_arg (α := Ev.Point) (by kernel_rfl) (by kernel_rfl) (hval 2 25 v2 rfl rfl) h2
  obtain ⟨⟨x3, r3⟩, rfl, s3⟩ := Ev.open_arg (α := Ev.I64) (by kernel_rfl) (by kernel_rfl) (hval 3 2 v3 rfl rfl) h3
  clear hA0 hval0
  refine (Ev.Tb.run_sound (ρ := fun _ => none) (t := Ev.Tb16) (b := Ev.B16) (γ := Bool) (y := true) (Ev.law_FnExactGeodesicLength x0 x1 x2 x3) (.cons (r0 _) (.cons (r1 _) (.cons (r2 _) (.cons (r3 _) .nil)))) (by simp [Ev.V.pfs, Ev.Enc.pf])).mono fun e W1 he => ?_
  obtain ⟨x, rfl, hx, hb⟩ := he
  have hx1 := hx (fun _ => none)
  cases hx1
  exact ⟨_, rfl, Ev.post_flat hW1 (fun _ _ _ => trodAll_mk1 (shut_bool Tryz.underlying4 true)) (fun sp => trodAll_mk4 (s0 _ _ _ _) (s1 _ _ _ _) (s2 _ _ _ _) (s3 _ _ _ _)) (fun _ => rfl) hb (ok_one (by kernel_rfl) rfl (okWide_bool_mk Tryz.underlying4 true))⟩

theorem fnExactGeodesicLength_holds : Rows.FnExactGeodesicLengthSaid :=
  OpenClaim.holds_of_wide 16 Tryz.f16 rfl rfl rfl rfl rfl rfl rfl ⟨rfl, rfl, rfl, rfl, rfl⟩ rfl rfl rfl rfl rfl (by kernel_rfl) Tryz.func16 fnExactGeodesicLength_closed
    (of_decide_eq_true (by kernel_rfl)) (by unfold Func.isWrapper; first | (rw [if_pos (by decide +kernel)]; kernel_rfl) | (rw [if_neg (by decide +kernel)]; exact ⟨rfl, rfl⟩))
    (fun os started H enc _ => fnExactGeodesicLength_lifted os started H enc)

end Go.Proofs.YtecfhpgpojgjkaaGreat
