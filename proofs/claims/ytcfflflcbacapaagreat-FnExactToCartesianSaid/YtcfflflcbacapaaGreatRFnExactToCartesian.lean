/- The law FnExactToCartesian gives true, whatever comes in; each argument reads behind the call as it read before. No conditions. -/
import Derived.Test.YtcfflflcbacapaaGreatEv7
import Derived.Test.YtcfflflcbacapaaGreatP15
import Derived.Test.YtcfflflcbacapaaGreatRows
import Derived.Test.YtcfflflcbacapaaGreatRJ
namespace Go.Proofs.YtcfflflcbacapaaGreat
open Go.ChangeShapes Go.WideShapes Go.ChangeAt Go.RowKit

theorem fnExactToCartesian_own : ownKnob Tryz.prog.godebug = none := by kernel_rfl
section
open Go
set_option maxRecDepth 100000
theorem fnExactToCartesian_c0 : (Rows.fnExactToCartesianRow.wf (OpenSpec.ofChange Rows.fnExactToCartesianSpec)) = true := by kernel_rfl
theorem fnExactToCartesian_c3 : (Tryz.f7.params.all (Tryz.pinned.checked.prog.readableRec ·)) = true := by kernel_rfl
theorem fnExactToCartesian_c4 : (namedTie Tryz.pinned.checked.prog Rows.fnExactToCartesianRow.named Rows.fnExactToCartesianSpec.vars) = true := by kernel_rfl
theorem fnExactToCartesian_c5 : ((Rows.fnExactToCartesianRow.stops == [])) = true := by kernel_rfl
theorem fnExactToCartesian_c7 : ((Rows.fnExactToCartesianRow.knobs == [])) = true := by kernel_rfl
theorem fnExactToCartesian_c9 : ((Rows.fnExactToCartesianRow.inPlace == Tryz.pinned.checked.prog.inPlace 7)) = true := by kernel_rfl
theorem fnExactToCartesian_c10 : ((Rows.fnExactToCartesianRow.unfollowed == Tryz.pinned.checked.prog.unfollowed 7)) = true := by kernel_rfl
theorem fnExactToCartesian_c11 : ((Rows.fnExactToCartesianRow.recurses == Tryz.pinned.checked.prog.recurses 7)) = true := by kernel_rfl
theorem fnExactToCartesian_c12 : ((Rows.fnExactToCartesianRow.named == Tryz.pinned.checked.prog.varsNamed 7)) = true := by kernel_rfl
theorem fnExactToCartesian_c13 : ((Rows.fnExactToCartesianRow.maps == (Tryz.f7.params.toList ++ Rows.fnExactToCartesianSpec.plain.varTypes Tryz.pinned.checked.prog).any (Tryz.pinned.checked.prog.mapsRec ·))) = true := by kernel_rfl
theorem fnExactToCartesian_c14 : ((Rows.fnExactToCartesianRow.ifaces == (Tryz.f7.params.toList ++ Rows.fnExactToCartesianSpec.plain.varTypes Tryz.pinned.checked.prog).any (Tryz.pinned.checked.prog.ifacesRec ·))) = true := by kernel_rfl
theorem fnExactToCartesian_c15 : ((Rows.fnExactToCartesianRow.mapsOut == Tryz.pinned.checked.prog.mapsAmong Tryz.f7.resultTypes.toList)) = true := by kernel_rfl
theorem fnExactToCartesian_c16 : ((Rows.fnExactToCartesianRow.loops == (Tryz.f7.params.toList ++ Rows.fnExactToCartesianSpec.plain.varTypes Tryz.pinned.checked.prog).any (Tryz.pinned.checked.prog.loopsFrom ·))) = true := by kernel_rfl
theorem fnExactToCartesian_c17 : ((Rows.fnExactToCartesianRow.wideKeys == (Tryz.f7.params.toList ++ Rows.fnExactToCartesianSpec.plain.varTypes Tryz.pinned.checked.prog ++ Tryz.f7.resultTypes.toList).any (Tryz.pinned.checked.prog.wideKeysFrom ·))) = true := by kernel_rfl
theorem fnExactToCartesian_c18 : (Rows.fnExactToCartesianSpec.vars.all (Tryz.pinned.checked.prog.varReadable ·)) = true := by kernel_rfl
theorem fnExactToCartesian_c19 : (Tryz.f7.resultTypes.all (fun t => Tryz.pinned.checked.prog.readableRec t && decide (t < Tryz.pinned.checked.prog.types.size))) = true := by kernel_rfl
theorem fnExactToCartesian_c20 : ((Rows.fnExactToCartesianRow.ifacesOut == Tryz.f7.resultTypes.toList.any (Tryz.pinned.checked.prog.ifacesRec ·))) = true := by kernel_rfl
theorem fnExactToCartesian_c21 : ((Rows.fnExactToCartesianRow.loopsOut == Tryz.f7.resultTypes.toList.any (Tryz.pinned.checked.prog.loopsFrom ·))) = true := by kernel_rfl
theorem fnExactToCartesian_c23 : (Rows.fnExactToCartesianRow.shortTexts.isNone) = true := by kernel_rfl
theorem fnExactToCartesian_c28 : ((Rows.fnExactToCartesianRow.kinds == (if Rows.fnExactToCartesianRow.domain.isEmpty then [] else Tryz.f7.params.toList.map fun t => match Tryz.pinned.checked.prog.underlying t with | some (.int k) => some k | _ => none))) = true := by kernel_rfl
theorem fnExactToCartesian_c29 : ((Rows.fnExactToCartesianRow.pinned == Rows.fnExactToCartesianRow.pinnedBy)) = true := by kernel_rfl
theorem fnExactToCartesian_c30 : ((Rows.fnExactToCartesianRow.veiled == (Tryz.f7.params.toList ++ Rows.fnExactToCartesianSpec.plain.varTypes Tryz.pinned.checked.prog ++ Tryz.f7.resultTypes.toList).any (Tryz.pinned.checked.prog.veiledRec ·))) = true := by kernel_rfl
theorem fnExactToCartesian_c31 : (Rows.fnExactToCartesianRow.veiledFits Tryz.pinned.checked.prog Tryz.f7.params.toList (Tryz.f7.params.toList ++ Rows.fnExactToCartesianSpec.plain.varTypes Tryz.pinned.checked.prog ++ Tryz.f7.resultTypes.toList)) = true := by kernel_rfl
theorem fnExactToCartesian_closed : joinedFacts Tryz.pinned.checked.prog 7 Tryz.f7 Rows.fnExactToCartesianSpec Rows.fnExactToCartesianRow = true := by
  unfold joinedFacts
  exact (and_t (and_t (and_t (and_t (and_t (and_t (and_t (and_t (and_t (and_t (and_t (and_t (and_t (and_t (and_t (and_t (and_t (and_t (and_t (and_t (and_t (and_t (and_t (and_t (and_t (and_t (and_t (and_t (and_t (and_t (and_t fnExactToCartesian_c0 j_1) j_2) fnExactToCartesian_c3) fnExactToCartesian_c4) fnExactToCartesian_c5) j_6) fnExactToCartesian_c7) j_8) fnExactToCartesian_c9) fnExactToCartesian_c10) fnExactToCartesian_c11) fnExactToCartesian_c12) fnExactToCartesian_c13) fnExactToCartesian_c14) fnExactToCartesian_c15) fnExactToCartesian_c16) fnExactToCartesian_c17) fnExactToCartesian_c18) fnExactToCartesian_c19) fnExactToCartesian_c20) fnExactToCartesian_c21) j_22) fnExactToCartesian_c23) j_24) j_25) j_26) j_27) fnExactToCartesian_c28) fnExactToCartesian_c29) fnExactToCartesian_c30) fnExactToCartesian_c31)
end
set_option maxRecDepth 100000 in
theorem fnExactToCartesian_lifted (os : Os) (started : os.Started) (H : Type) (enc : TypeId × Value → H) :
    ReturnsInHanded {} Tryz.checked os 7 .any (Rows.fnExactToCartesianSpec.pre6 enc Tryz.prog Tryz.f7 Rows.fnExactToCartesianRow.domain false) (Rows.fnExactToCartesianSpec.post enc Tryz.prog Tryz.f7 false true false false) := by
  refine returnsInHanded_of_change (C := Tryz.checked) fnExactToCartesian_own started (by kernel_rfl) Tryz.func7
    (ChangeSpec.witness6 (enc := enc) (C := Tryz.checked) false ⟨#[], #[.agg #[.int .i64 0, .int .i64 0, .int .i64 0], .agg #[.int .i64 0, .int .i64 0, .int .i64 0]], []⟩ 8 (by kernel_rfl) (by kernel_rfl) (by kernel_rfl) (by kernel_rfl)) ?_
  intro W base args ds gs before hval0 hW hcnd _
  have hval : ∀ (j : Nat) t v, Tryz.f7.params[j]? = some t → args[j]? = some v → Value.okWide Tryz.prog W .any base t v := hval0
  have hW1 := hW
  obtain ⟨p, q, hA0, hV, rfl, hfz, hnd⟩ := hW
  have hA : DataW.TrodAll enc Tryz.prog W 0 (fun _ => true) true Tryz.f7.params.toList args.toList ds p := hA0
  rw [Tryz.params7] at hA hval
  obtain ⟨v0, v1, d0, d1, p0, p1, rfl, rfl, rfl, h0, h1⟩ := trodAll_two hA
  obtain ⟨rfl, rfl⟩ := trodVars_none hV
  obtain ⟨⟨x0, r0⟩, rfl, s0⟩ := Ev.open_arg (α := Ev.Ell) (by kernel_rfl) (by kernel_rfl) (hval 0 46 v0 rfl rfl) h0
  obtain ⟨⟨x1, r1⟩, rfl, s1⟩ := Ev.open_arg (α := Ev.Place) (by kernel_rfl) (by kernel_rfl) (hval 1 55 v1 rfl rfl) h1
  clear hA0 hval0
  refine (Ev.Tb.run_sound (ρ := fun _ => none) (t := Ev.Tb7) (b := Ev.B7) (γ := Bool) (y := true) (Ev.law_FnExactToCartesian x0 x1) (.cons (r0 _) (.cons (r1 _) .nil)) (by simp [Ev.V.pfs, Ev.Enc.pf])).mono fun e W1 he => ?_
  obtain ⟨x, rfl, hx, hb⟩ := he
  have hx1 := hx (fun _ => none)
  cases hx1
  exact ⟨_, rfl, Ev.post_flat hW1 (fun _ _ _ => trodAll_mk1 (shut_bool Tryz.underlying4 true)) (fun sp => trodAll_mk2 (s0 _ _ _ _) (s1 _ _ _ _)) (fun _ => rfl) hb (ok_one (by kernel_rfl) rfl (okWide_bool_mk Tryz.underlying4 true))⟩

theorem fnExactToCartesian_holds : Rows.FnExactToCartesianSaid :=
  OpenClaim.holds_of_wide 7 Tryz.f7 rfl rfl rfl rfl rfl rfl rfl ⟨rfl, rfl, rfl, rfl, rfl⟩ rfl rfl rfl rfl rfl (by kernel_rfl) Tryz.func7 fnExactToCartesian_closed
    (of_decide_eq_true (by kernel_rfl)) (by unfold Func.isWrapper; first | (rw [if_pos (by decide +kernel)]; kernel_rfl) | (rw [if_neg (by decide +kernel)]; exact ⟨rfl, rfl⟩))
    (fun os started H enc _ => fnExactToCartesian_lifted os started H enc)

end Go.Proofs.YtcfflflcbacapaaGreat
