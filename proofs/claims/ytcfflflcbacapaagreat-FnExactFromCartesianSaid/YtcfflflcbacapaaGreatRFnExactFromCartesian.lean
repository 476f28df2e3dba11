/- The law FnExactFromCartesian gives true, whatever comes in; each argument reads behind the call as it read before. No conditions. -/
import Derived.Test.YtcfflflcbacapaaGreatEv7
import Derived.Test.YtcfflflcbacapaaGreatP20
import Derived.Test.YtcfflflcbacapaaGreatRows
import Derived.Test.YtcfflflcbacapaaGreatRJ
namespace Go.Proofs.YtcfflflcbacapaaGreat
open Go.ChangeShapes Go.WideShapes Go.ChangeAt Go.RowKit

theorem fnExactFromCartesian_own : ownKnob Tryz.prog.godebug = none := by kernel_rfl
section
open Go
set_option maxRecDepth 100000
theorem fnExactFromCartesian_c0 : (Rows.fnExactFromCartesianRow.wf (OpenSpec.ofChange Rows.fnExactFromCartesianSpec)) = true := by kernel_rfl
theorem fnExactFromCartesian_c3 : (Tryz.f11.params.all (Tryz.pinned.checked.prog.readableRec ·)) = true := by kernel_rfl
theorem fnExactFromCartesian_c4 : (namedTie Tryz.pinned.checked.prog Rows.fnExactFromCartesianRow.named Rows.fnExactFromCartesianSpec.vars) = true := by kernel_rfl
theorem fnExactFromCartesian_c5 : ((Rows.fnExactFromCartesianRow.stops == [])) = true := by kernel_rfl
theorem fnExactFromCartesian_c7 : ((Rows.fnExactFromCartesianRow.knobs == [])) = true := by kernel_rfl
theorem fnExactFromCartesian_c9 : ((Rows.fnExactFromCartesianRow.inPlace == Tryz.pinned.checked.prog.inPlace 11)) = true := by kernel_rfl
theorem fnExactFromCartesian_c10 : ((Rows.fnExactFromCartesianRow.unfollowed == Tryz.pinned.checked.prog.unfollowed 11)) = true := by kernel_rfl
theorem fnExactFromCartesian_c11 : ((Rows.fnExactFromCartesianRow.recurses == Tryz.pinned.checked.prog.recurses 11)) = true := by kernel_rfl
theorem fnExactFromCartesian_c12 : ((Rows.fnExactFromCartesianRow.named == Tryz.pinned.checked.prog.varsNamed 11)) = true := by kernel_rfl
theorem fnExactFromCartesian_c13 : ((Rows.fnExactFromCartesianRow.maps == (Tryz.f11.params.toList ++ Rows.fnExactFromCartesianSpec.plain.varTypes Tryz.pinned.checked.prog).any (Tryz.pinned.checked.prog.mapsRec ·))) = true := by kernel_rfl
theorem fnExactFromCartesian_c14 : ((Rows.fnExactFromCartesianRow.ifaces == (Tryz.f11.params.toList ++ Rows.fnExactFromCartesianSpec.plain.varTypes Tryz.pinned.checked.prog).any (Tryz.pinned.checked.prog.ifacesRec ·))) = true := by kernel_rfl
theorem fnExactFromCartesian_c15 : ((Rows.fnExactFromCartesianRow.mapsOut == Tryz.pinned.checked.prog.mapsAmong Tryz.f11.resultTypes.toList)) = true := by kernel_rfl
theorem fnExactFromCartesian_c16 : ((Rows.fnExactFromCartesianRow.loops == (Tryz.f11.params.toList ++ Rows.fnExactFromCartesianSpec.plain.varTypes Tryz.pinned.checked.prog).any (Tryz.pinned.checked.prog.loopsFrom ·))) = true := by kernel_rfl
theorem fnExactFromCartesian_c17 : ((Rows.fnExactFromCartesianRow.wideKeys == (Tryz.f11.params.toList ++ Rows.fnExactFromCartesianSpec.plain.varTypes Tryz.pinned.checked.prog ++ Tryz.f11.resultTypes.toList).any (Tryz.pinned.checked.prog.wideKeysFrom ·))) = true := by kernel_rfl
theorem fnExactFromCartesian_c18 : (Rows.fnExactFromCartesianSpec.vars.all (Tryz.pinned.checked.prog.varReadable ·)) = true := by kernel_rfl
theorem fnExactFromCartesian_c19 : (Tryz.f11.resultTypes.all (fun t => Tryz.pinned.checked.prog.readableRec t && decide (t < Tryz.pinned.checked.prog.types.size))) = true := by kernel_rfl
theorem fnExactFromCartesian_c20 : ((Rows.fnExactFromCartesianRow.ifacesOut == Tryz.f11.resultTypes.toList.any (Tryz.pinned.checked.prog.ifacesRec ·))) = true := by kernel_rfl
theorem fnExactFromCartesian_c21 : ((Rows.fnExactFromCartesianRow.loopsOut == Tryz.f11.resultTypes.toList.any (Tryz.pinned.checked.prog.loopsFrom ·))) = true := by kernel_rfl
theorem fnExactFromCartesian_c23 : (Rows.fnExactFromCartesianRow.shortTexts.isNone) = true := by kernel_rfl
theorem fnExactFromCartesian_c28 : ((Rows.fnExactFromCartesianRow.kinds == (if Rows.fnExactFromCartesianRow.domain.isEmpty then [] else Tryz.f11.params.toList.map fun t => match Tryz.pinned.checked.prog.underlying t with | some (.int k) => some k | _ => none))) = true := by kernel_rfl
theorem fnExactFromCartesian_c29 : ((Rows.fnExactFromCartesianRow.pinned == Rows.fnExactFromCartesianRow.pinnedBy)) = true := by kernel_rfl
theorem fnExactFromCartesian_c30 : ((Rows.fnExactFromCartesianRow.veiled == (Tryz.f11.params.toList ++ Rows.fnExactFromCartesianSpec.plain.varTypes Tryz.pinned.checked.prog ++ Tryz.f11.resultTypes.toList).any (Tryz.pinned.checked.prog.veiledRec ·))) = true := by kernel_rfl
theorem fnExactFromCartesian_c31 : (Rows.fnExactFromCartesianRow.veiledFits Tryz.pinned.checked.prog Tryz.f11.params.toList (Tryz.f11.params.toList ++ Rows.fnExactFromCartesianSpec.plain.varTypes Tryz.pinned.checked.prog ++ Tryz.f11.resultTypes.toList)) = true := by kernel_rfl
theorem fnExactFromCartesian_closed : joinedFacts Tryz.pinned.checked.prog 11 Tryz.f11 Rows.fnExactFromCartesianSpec Rows.fnExactFromCartesianRow = true := by
  unfold joinedFacts
  exact (and_t (and_t (and_t (and_t (and_t (and_t (and_t (and_t (and_t (and_t (and_t (and_t (and_t (and_t (and_t (and_t (and_t (and_t (and_t (and_t (and_t (and_t (and_t (and_t (and_t (and_t (and_t (and_t (and_t (and_t (and_t fnExactFromCartesian_c0 j_1) j_2) fnExactFromCartesian_c3) fnExactFromCartesian_c4) fnExactFromCartesian_c5) j_6) fnExactFromCartesian_c7) j_8) fnExactFromCartesian_c9) fnExactFromCartesian_c10) fnExactFromCartesian_c11) fnExactFromCartesian_c12) fnExactFromCartesian_c13) fnExactFromCartesian_c14) fnExactFromCartesian_c15) fnExactFromCartesian_c16) fnExactFromCartesian_c17) fnExactFromCartesian_c18) fnExactFromCartesian_c19) fnExactFromCartesian_c20) fnExactFromCartesian_c21) j_22) fnExactFromCartesian_c23) j_24) j_25) j_26) j_27) fnExactFromCartesian_c28) fnExactFromCartesian_c29) fnExactFromCartesian_c30) fnExactFromCartesian_c31)
end
set_option maxRecDepth 100000 in
theorem fnExactFromCartesian_lifted (os : Os) (started : os.Started) (H : Type) (enc : TypeId × Value → H) :
    ReturnsInHanded {} Tryz.checked os 11 .any (Rows.fnExactFromCartesianSpec.pre6 enc Tryz.prog Tryz.f11 Rows.fnExactFromCartesianRow.domain false) (Rows.fnExactFromCartesianSpec.post enc Tryz.prog Tryz.f11 false true false false) := by
  refine returnsInHanded_of_change (C := Tryz.checked) fnExactFromCartesian_own started (by kernel_rfl) Tryz.func11
    (ChangeSpec.witness6 (enc := enc) (C := Tryz.checked) false ⟨#[], #[.agg #[.int .i64 0, .int .i64 0, .int .i64 0], .agg #[.int .i64 0, .int .i64 0, .int .i64 0, .int .i64 0, .int .i64 0, .int .i64 0]], []⟩ 8 (by kernel_rfl) (by kernel_rfl) (by kernel_rfl) (by kernel_rfl)) ?_
  intro W base args ds gs before hval0 hW hcnd _
  have hval : ∀ (j : Nat) t v, Tryz.f11.params[j]? = some t → args[j]? = some v → Value.okWide Tryz.prog W .any base t v := hval0
  have hW1 := hW
  obtain ⟨p, q, hA0, hV, rfl, hfz, hnd⟩ := hW
  have hA : DataW.TrodAll enc Tryz.prog W 0 (fun _ => true) true Tryz.f11.params.toList args.toList ds p := hA0
  rw [Tryz.params11] at hA hval
  obtain ⟨v0, v1, d0, d1, p0, p1, rfl, rfl, rfl, h0, h1⟩ := trodAll_two hA
  obtain ⟨rfl, rfl⟩ := trodVars_none hV
  obtain ⟨⟨x0, r0⟩, rfl, s0⟩ := Ev.open_arg (α := Ev.Ell) (by kernel_rfl) (by kernel_rfl) (hval 0 46 v0 rfl rfl) h0
  obtain ⟨⟨x1, r1⟩, rfl, s1⟩ := Ev.open_arg (α := Ev.Vec) (by kernel_rfl) (by kernel_rfl) (hval 1 48 v1 rfl rfl) h1
  clear hA0 hval0
  refine (Ev.Tb.run_sound (ρ := fun _ => none) (t := Ev.Tb11) (b := Ev.B11) (γ := Bool) (y := true) (Ev.law_FnExactFromCartesian x0 x1) (.cons (r0 _) (.cons (r1 _) .nil)) (by simp [Ev.V.pfs, Ev.Enc.pf])).mono fun e W1 he => ?_
  obtain ⟨x, rfl, hx, hb⟩ := he
  have hx1 := hx (fun _ => none)
  cases hx1
  exact ⟨_, rfl, Ev.post_flat hW1 (fun _ _ _ => trodAll_mk1 (shut_bool Tryz.underlying4 true)) (fun sp => trodAll_mk2 (s0 _ _ _ _) (s1 _ _ _ _)) (fun _ => rfl) hb (ok_one (by kernel_rfl) rfl (okWide_bool_mk Tryz.underlying4 true))⟩

theorem fnExactFromCartesian_holds : Rows.FnExactFromCartesianSaid :=
  OpenClaim.holds_of_wide 11 Tryz.f11 rfl rfl rfl rfl rfl rfl rfl ⟨rfl, rfl, rfl, rfl, rfl⟩ rfl rfl rfl rfl rfl (by kernel_rfl) Tryz.func11 fnExactFromCartesian_closed
    (of_decide_eq_true (by kernel_rfl)) (by unfold Func.isWrapper; first | (rw [if_pos (by decide +kernel)]; kernel_rfl) | (rw [if_neg (by decide +kernel)]; exact ⟨rfl, rfl⟩))
    (fun os started H enc _ => fnExactFromCartesian_lifted os started H enc)

end Go.Proofs.YtcfflflcbacapaaGreat
