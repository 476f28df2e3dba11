/- The law FnExactNearSide gives true, whatever comes in; each argument reads behind the call as it read before. No conditions. -/
import Derived.Test.YtjfkljhgbomkiaaGreatEv7
import Derived.Test.YtjfkljhgbomkiaaGreatP14
import Derived.Test.YtjfkljhgbomkiaaGreatRows
import Derived.Test.YtjfkljhgbomkiaaGreatRJ
namespace Go.Proofs.YtjfkljhgbomkiaaGreat
open Go.ChangeShapes Go.WideShapes Go.ChangeAt Go.RowKit

theorem fnExactNearSide_own : ownKnob Tryz.prog.godebug = none := by kernel_rfl
section
open Go
set_option maxRecDepth 100000
theorem fnExactNearSide_c0 : (Rows.fnExactNearSideRow.wf (OpenSpec.ofChange Rows.fnExactNearSideSpec)) = true := by kernel_rfl
theorem fnExactNearSide_c3 : (Tryz.f14.params.all (Tryz.pinned.checked.prog.readableRec ·)) = true := by kernel_rfl
theorem fnExactNearSide_c4 : (namedTie Tryz.pinned.checked.prog Rows.fnExactNearSideRow.named Rows.fnExactNearSideSpec.vars) = true := by kernel_rfl
theorem fnExactNearSide_c5 : ((Rows.fnExactNearSideRow.stops == [])) = true := by kernel_rfl
theorem fnExactNearSide_c7 : ((Rows.fnExactNearSideRow.knobs == [])) = true := by kernel_rfl
theorem fnExactNearSide_c9 : ((Rows.fnExactNearSideRow.inPlace == Tryz.pinned.checked.prog.inPlace 14)) = true := by kernel_rfl
theorem fnExactNearSide_c10 : ((Rows.fnExactNearSideRow.unfollowed == Tryz.pinned.checked.prog.unfollowed 14)) = true := by kernel_rfl
theorem fnExactNearSide_c11 : ((Rows.fnExactNearSideRow.recurses == Tryz.pinned.checked.prog.recurses 14)) = true := by kernel_rfl
theorem fnExactNearSide_c12 : ((Rows.fnExactNearSideRow.named == Tryz.pinned.checked.prog.varsNamed 14)) = true := by kernel_rfl
theorem fnExactNearSide_c13 : ((Rows.fnExactNearSideRow.maps == (Tryz.f14.params.toList ++ Rows.fnExactNearSideSpec.plain.varTypes Tryz.pinned.checked.prog).any (Tryz.pinned.checked.prog.mapsRec ·))) = true := by kernel_rfl
theorem fnExactNearSide_c14 : ((Rows.fnExactNearSideRow.ifaces == (Tryz.f14.params.toList ++ Rows.fnExactNearSideSpec.plain.varTypes Tryz.pinned.checked.prog).any (Tryz.pinned.checked.prog.ifacesRec ·))) = true := by kernel_rfl
theorem fnExactNearSide_c15 : ((Rows.fnExactNearSideRow.mapsOut == Tryz.pinned.checked.prog.mapsAmong Tryz.f14.resultTypes.toList)) = true := by kernel_rfl
theorem fnExactNearSide_c16 : ((Rows.fnExactNearSideRow.loops == (Tryz.f14.params.toList ++ Rows.fnExactNearSideSpec.plain.varTypes Tryz.pinned.checked.prog).any (Tryz.pinned.checked.prog.loopsFrom ·))) = true := by kernel_rfl
theorem fnExactNearSide_c17 : ((Rows.fnExactNearSideRow.wideKeys == (Tryz.f14.params.toList ++ Rows.fnExactNearSideSpec.plain.varTypes Tryz.pinned.checked.prog ++ Tryz.f14.resultTypes.toList).any (Tryz.pinned.checked.prog.wideKeysFrom ·))) = true := by kernel_rfl
theorem fnExactNearSide_c18 : (Rows.fnExactNearSideSpec.vars.all (Tryz.pinned.checked.prog.varReadable ·)) = true := by kernel_rfl
theorem fnExactNearSide_c19 : (Tryz.f14.resultTypes.all (fun t => Tryz.pinned.checked.prog.readableRec t && decide (t < Tryz.pinned.checked.prog.types.size))) = true := by kernel_rfl
theorem fnExactNearSide_c20 : ((Rows.fnExactNearSideRow.ifacesOut == Tryz.f14.resultTypes.toList.any (Tryz.pinned.checked.prog.ifacesRec ·))) = true := by kernel_rfl
theorem fnExactNearSide_c21 : ((Rows.fnExactNearSideRow.loopsOut == Tryz.f14.resultTypes.toList.any (Tryz.pinned.checked.prog.loopsFrom ·))) = true := by kernel_rfl
theorem fnExactNearSide_c23 : (Rows.fnExactNearSideRow.shortTexts.isNone) = true := by kernel_rfl
theorem fnExactNearSide_c28 : ((Rows.fnExactNearSideRow.kinds == (if Rows.fnExactNearSideRow.domain.isEmpty then [] else Tryz.f14.params.toList.map fun t => match Tryz.pinned.checked.prog.underlying t with | some (.int k) => some k | _ => none))) = true := by kernel_rfl
theorem fnExactNearSide_c29 : ((Rows.fnExactNearSideRow.pinned == Rows.fnExactNearSideRow.pinnedBy)) = true := by kernel_rfl
theorem fnExactNearSide_c30 : ((Rows.fnExactNearSideRow.veiled == (Tryz.f14.params.toList ++ Rows.fnExactNearSideSpec.plain.varTypes Tryz.pinned.checked.prog ++ Tryz.f14.resultTypes.toList).any (Tryz.pinned.checked.prog.veiledRec ·))) = true := by kernel_rfl
theorem fnExactNearSide_c31 : (Rows.fnExactNearSideRow.veiledFits Tryz.pinned.checked.prog Tryz.f14.params.toList (Tryz.f14.params.toList ++ Rows.fnExactNearSideSpec.plain.varTypes Tryz.pinned.checked.prog ++ Tryz.f14.resultTypes.toList)) = true := by kernel_rfl
theorem fnExactNearSide_closed : joinedFacts Tryz.pinned.checked.prog 14 Tryz.f14 Rows.fnExactNearSideSpec Rows.fnExactNearSideRow = true := by
  unfold joinedFacts
  exact (and_t (and_t (and_t (and_t (and_t (and_t (and_t (and_t (and_t (and_t (and_t (and_t (and_t (and_t (and_t (and_t (and_t (and_t (and_t (and_t (and_t (and_t (and_t (and_t (and_t (and_t (and_t (and_t (and_t (and_t (and_t fnExactNearSide_c0 j_1) j_2) fnExactNearSide_c3) fnExactNearSide_c4) fnExactNearSide_c5) j_6) fnExactNearSide_c7) j_8) fnExactNearSide_c9) fnExactNearSide_c10) fnExactNearSide_c11) fnExactNearSide_c12) fnExactNearSide_c13) fnExactNearSide_c14) fnExactNearSide_c15) fnExactNearSide_c16) fnExactNearSide_c17) fnExactNearSide_c18) fnExactNearSide_c19) fnExactNearSide_c20) fnExactNearSide_c21) j_22) fnExactNearSide_c23) j_24) j_25) j_26) j_27) fnExactNearSide_c28) fnExactNearSide_c29) fnExactNearSide_c30) fnExactNearSide_c31)
end
set_option maxRecDepth 100000 in
theorem fnExactNearSide_lifted (os : Os) (started : os.Started) (H : Type) (enc : TypeId × Value → H) :
    ReturnsInHanded {} Tryz.checked os 14 .any (Rows.fnExactNearSideSpec.pre6 enc Tryz.prog Tryz.f14 Rows.fnExactNearSideRow.domain false) (Rows.fnExactNearSideSpec.post enc Tryz.prog Tryz.f14 false true false false) := by
  refine returnsInHanded_of_change (C := Tryz.checked) fnExactNearSide_own started (by kernel_rfl) Tryz.func14
    (ChangeSpec.witness6 (enc := enc) (C := Tryz.checked) false ⟨#[], #[.agg #[.int .i64 0, .int .i64 0, .int .i64 0, .int .i64 0, .int .i64 0], .agg #[.int .i64 0, .int .i64 0]], []⟩ 8 (by kernel_rfl) (by kernel_rfl) (by kernel_rfl) (by kernel_rfl)) ?_
  intro W base args ds gs before hval0 hW hcnd _
  have hval : ∀ (j : Nat) t v, Tryz.f14.params[j]? = some t → args[j]? = some v → Value.okWide Tryz.prog W .any base t v := hval0
  have hW1 := hW
  obtain ⟨p, q, hA0, hV, rfl, hfz, hnd⟩ := hW
  have hA : DataW.TrodAll enc Tryz.prog W 0 (fun _ => true) true Tryz.f14.params.toList args.toList ds p := hA0
  rw [Tryz.params14] at hA hval
  obtain ⟨v0, v1, d0, d1, p0, p1, rfl, rfl, rfl, h0, h1⟩ := trodAll_two hA
  obtain ⟨rfl, rfl⟩ := trodVars_none hV
  obtain ⟨⟨x0, r0⟩, rfl, s0⟩ := Ev.open_arg (α := Ev.Proj) (by kernel_rfl) (by kernel_rfl) (hval 0 56 v0 rfl rfl) h0
  obtain ⟨⟨x1, r1⟩, rfl, s1⟩ := Ev.open_arg (α := Ev.Point) (by kernel_rfl) (by kernel_rfl) (hval 1 23 v1 rfl rfl) h1
  clear hA0 hval0
  refine (Ev.Tb.run_sound (ρ := fun _ => none) (t := Ev.Tb14) (b := Ev.B14) (γ := Bool) (y := true) (Ev.law_FnExactNearSide x0 x1) (.cons (r0 _) (.cons (r1 _) .nil)) (by simp [Ev.V.pfs, Ev.Enc.pf])).mono fun e W1 he => ?_
  obtain ⟨x, rfl, hx, hb⟩ := he
  have hx1 := hx (fun _ => none)
  cases hx1
  exact ⟨_, rfl, Ev.post_flat hW1 (fun _ _ _ => trodAll_mk1 (shut_bool Tryz.underlying4 true)) (fun sp => trodAll_mk2 (s0 _ _ _ _) (s1 _ _ _ _)) (fun _ => rfl) hb (ok_one (by kernel_rfl) rfl (okWide_bool_mk Tryz.underlying4 true))⟩

theorem fnExactNearSide_holds : Rows.FnExactNearSideSaid :=
  OpenClaim.holds_of_wide 14 Tryz.f14 rfl rfl rfl rfl rfl rfl rfl ⟨rfl, rfl, rfl, rfl, rfl⟩ rfl rfl rfl rfl rfl (by kernel_rfl) Tryz.func14 fnExactNearSide_closed
    (of_decide_eq_true (by kernel_rfl)) (by unfold Func.isWrapper; first | (rw [if_pos (by decide +kernel)]; kernel_rfl) | (rw [if_neg (by decide +kernel)]; exact ⟨rfl, rfl⟩))
    (fun os started H enc _ => fnExactNearSide_lifted os started H enc)

end Go.Proofs.YtjfkljhgbomkiaaGreat
