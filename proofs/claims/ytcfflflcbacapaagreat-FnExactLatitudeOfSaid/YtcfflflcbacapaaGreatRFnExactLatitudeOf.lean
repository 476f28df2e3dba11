/- The law FnExactLatitudeOf gives true, whatever comes in; each argument reads behind the call as it read before. No conditions. -/
import Derived.Test.YtcfflflcbacapaaGreatEv7
import Derived.Test.YtcfflflcbacapaaGreatP20
import Derived.Test.YtcfflflcbacapaaGreatRows
import Derived.Test.YtcfflflcbacapaaGreatRJ
namespace Go.Proofs.YtcfflflcbacapaaGreat
open Go.ChangeShapes Go.WideShapes Go.ChangeAt Go.RowKit

theorem fnExactLatitudeOf_own : ownKnob Tryz.prog.godebug = none := by kernel_rfl
section
open Go
set_option maxRecDepth 100000
theorem fnExactLatitudeOf_c0 : (Rows.fnExactLatitudeOfRow.wf (OpenSpec.ofChange Rows.fnExactLatitudeOfSpec)) = true := by kernel_rfl
theorem fnExactLatitudeOf_c3 : (Tryz.f10.params.all (Tryz.pinned.checked.prog.readableRec ·)) = true := by kernel_rfl
theorem fnExactLatitudeOf_c4 : (namedTie Tryz.pinned.checked.prog Rows.fnExactLatitudeOfRow.named Rows.fnExactLatitudeOfSpec.vars) = true := by kernel_rfl
theorem fnExactLatitudeOf_c5 : ((Rows.fnExactLatitudeOfRow.stops == [])) = true := by kernel_rfl
theorem fnExactLatitudeOf_c7 : ((Rows.fnExactLatitudeOfRow.knobs == [])) = true := by kernel_rfl
theorem fnExactLatitudeOf_c9 : ((Rows.fnExactLatitudeOfRow.inPlace == Tryz.pinned.checked.prog.inPlace 10)) = true := by kernel_rfl
theorem fnExactLatitudeOf_c10 : ((Rows.fnExactLatitudeOfRow.unfollowed == Tryz.pinned.checked.prog.unfollowed 10)) = true := by kernel_rfl
theorem fnExactLatitudeOf_c11 : ((Rows.fnExactLatitudeOfRow.recurses == Tryz.pinned.checked.prog.recurses 10)) = true := by kernel_rfl
theorem fnExactLatitudeOf_c12 : ((Rows.fnExactLatitudeOfRow.named == Tryz.pinned.checked.prog.varsNamed 10)) = true := by kernel_rfl
theorem fnExactLatitudeOf_c13 : ((Rows.fnExactLatitudeOfRow.maps == (Tryz.f10.params.toList ++ Rows.fnExactLatitudeOfSpec.plain.varTypes Tryz.pinned.checked.prog).any (Tryz.pinned.checked.prog.mapsRec ·))) = true := by kernel_rfl
theorem fnExactLatitudeOf_c14 : ((Rows.fnExactLatitudeOfRow.ifaces == (Tryz.f10.params.toList ++ Rows.fnExactLatitudeOfSpec.plain.varTypes Tryz.pinned.checked.prog).any (Tryz.pinned.checked.prog.ifacesRec ·))) = true := by kernel_rfl
theorem fnExactLatitudeOf_c15 : ((Rows.fnExactLatitudeOfRow.mapsOut == Tryz.pinned.checked.prog.mapsAmong Tryz.f10.resultTypes.toList)) = true := by kernel_rfl
theorem fnExactLatitudeOf_c16 : ((Rows.fnExactLatitudeOfRow.loops == (Tryz.f10.params.toList ++ Rows.fnExactLatitudeOfSpec.plain.varTypes Tryz.pinned.checked.prog).any (Tryz.pinned.checked.prog.loopsFrom ·))) = true := by kernel_rfl
theorem fnExactLatitudeOf_c17 : ((Rows.fnExactLatitudeOfRow.wideKeys == (Tryz.f10.params.toList ++ Rows.fnExactLatitudeOfSpec.plain.varTypes Tryz.pinned.checked.prog ++ Tryz.f10.resultTypes.toList).any (Tryz.pinned.checked.prog.wideKeysFrom ·))) = true := by kernel_rfl
theorem fnExactLatitudeOf_c18 : (Rows.fnExactLatitudeOfSpec.vars.all (Tryz.pinned.checked.prog.varReadable ·)) = true := by kernel_rfl
theorem fnExactLatitudeOf_c19 : (Tryz.f10.resultTypes.all (fun t => Tryz.pinned.checked.prog.readableRec t && decide (t < Tryz.pinned.checked.prog.types.size))) = true := by kernel_rfl
theorem fnExactLatitudeOf_c20 : ((Rows.fnExactLatitudeOfRow.ifacesOut == Tryz.f10.resultTypes.toList.any (Tryz.pinned.checked.prog.ifacesRec ·))) = true := by kernel_rfl
theorem fnExactLatitudeOf_c21 : ((Rows.fnExactLatitudeOfRow.loopsOut == Tryz.f10.resultTypes.toList.any (Tryz.pinned.checked.prog.loopsFrom ·))) = true := by kernel_rfl
theorem fnExactLatitudeOf_c23 : (Rows.fnExactLatitudeOfRow.shortTexts.isNone) = true := by kernel_rfl
theorem fnExactLatitudeOf_c28 : ((Rows.fnExactLatitudeOfRow.kinds == (if Rows.fnExactLatitudeOfRow.domain.isEmpty then [] else Tryz.f10.params.toList.map fun t => match Tryz.pinned.checked.prog.underlying t with | some (.int k) => some k | _ => none))) = true := by kernel_rfl
theorem fnExactLatitudeOf_c29 : ((Rows.fnExactLatitudeOfRow.pinned == Rows.fnExactLatitudeOfRow.pinnedBy)) = true := by kernel_rfl
theorem fnExactLatitudeOf_c30 : ((Rows.fnExactLatitudeOfRow.veiled == (Tryz.f10.params.toList ++ Rows.fnExactLatitudeOfSpec.plain.varTypes Tryz.pinned.checked.prog ++ Tryz.f10.resultTypes.toList).any (Tryz.pinned.checked.prog.veiledRec ·))) = true := by kernel_rfl
theorem fnExactLatitudeOf_c31 : (Rows.fnExactLatitudeOfRow.veiledFits Tryz.pinned.checked.prog Tryz.f10.params.toList (Tryz.f10.params.toList ++ Rows.fnExactLatitudeOfSpec.plain.varTypes Tryz.pinned.checked.prog ++ Tryz.f10.resultTypes.toList)) = true := by kernel_rfl
theorem fnExactLatitudeOf_closed : joinedFacts Tryz.pinned.checked.prog 10 Tryz.f10 Rows.fnExactLatitudeOfSpec Rows.fnExactLatitudeOfRow = true := by
  unfold joinedFacts
  exact (and_t (and_t (and_t (and_t (and_t (and_t (and_t (and_t (and_t (and_t (and_t (and_t (and_t (and_t (and_t (and_t (and_t (and_t (and_t (and_t (and_t (and_t (and_t (and_t (and_t (and_t (and_t (and_t (and_t (and_t (and_t fnExactLatitudeOf_c0 j_1) j_2) fnExactLatitudeOf_c3) fnExactLatitudeOf_c4) fnExactLatitudeOf_c5) j_6) fnExactLatitudeOf_c7) j_8) fnExactLatitudeOf_c9) fnExactLatitudeOf_c10) fnExactLatitudeOf_c11) fnExactLatitudeOf_c12) fnExactLatitudeOf_c13) fnExactLatitudeOf_c14) fnExactLatitudeOf_c15) fnExactLatitudeOf_c16) fnExactLatitudeOf_c17) fnExactLatitudeOf_c18) fnExactLatitudeOf_c19) fnExactLatitudeOf_c20) fnExactLatitudeOf_c21) j_22) fnExactLatitudeOf_c23) j_24) j_25) j_26) j_27) fnExactLatitudeOf_c28) fnExactLatitudeOf_c29) fnExactLatitudeOf_c30) fnExactLatitudeOf_c31)
end
set_option maxRecDepth 100000 in
theorem fnExactLatitudeOf_lifted (os : Os) (started : os.Started) (H : Type) (enc : TypeId × Value → H) :
    ReturnsInHanded {} Tryz.checked os 10 .any (Rows.fnExactLatitudeOfSpec.pre6 enc Tryz.prog Tryz.f10 Rows.fnExactLatitudeOfRow.domain false) (Rows.fnExactLatitudeOfSpec.post enc Tryz.prog Tryz.f10 false true false false) := by
  refine returnsInHanded_of_change (C := Tryz.checked) fnExactLatitudeOf_own started (by kernel_rfl) Tryz.func10
    (ChangeSpec.witness6 (enc := enc) (C := Tryz.checked) false ⟨#[], #[.agg #[.int .i64 0, .int .i64 0, .int .i64 0], .agg #[.int .i64 0, .int .i64 0, .int .i64 0, .int .i64 0, .int .i64 0, .int .i64 0]], []⟩ 8 (by kernel_rfl) (by kernel_rfl) (by kernel_rfl) (by kernel_rfl)) ?_
  intro W base args ds gs before hval0 hW hcnd _
  have hval : ∀ (j : Nat) t v, Tryz.f10.params[j]? = some t → args[j]? = some v → Value.okWide Tryz.prog W .any base t v := hval0
  have hW1 := hW
  obtain ⟨p, q, hA0, hV, rfl, hfz, hnd⟩ := hW
  have hA : DataW.TrodAll enc Tryz.prog W 0 (fun _ => true) true Tryz.f10.params.toList args.toList ds p := hA0
  rw [Tryz.params10] at hA hval
  obtain ⟨v0, v1, d0, d1, p0, p1, rfl, rfl, rfl, h0, h1⟩ := trodAll_two hA
  obtain ⟨rfl, rfl⟩ := trodVars_none hV
  obtain ⟨⟨x0, r0⟩, rfl, s0⟩ := Ev.open_arg (α := Ev.Ell) (by kernel_rfl) (by kernel_rfl) (hval 0 46 v0 rfl rfl) h0
  obtain ⟨⟨x1, r1⟩, rfl, s1⟩ := Ev.open_arg (α := Ev.Vec) (by kernel_rfl) (by kernel_rfl) (hval 1 48 v1 rfl rfl) h1
  clear hA0 hval0
  refine (Ev.Tb.run_sound (ρ := fun _ => none) (t := Ev.Tb10) (b := Ev.B10) (γ := Bool) (y := true) (Ev.law_FnExactLatitudeOf x0 x1) (.cons (r0 _) (.cons (r1 _) .nil)) (by simp [Ev.V.pfs, Ev.Enc.pf])).mono fun e W1 he => ?_
  obtain ⟨x, rfl, hx, hb⟩ := he
  have hx1 := hx (fun _ => none)
  cases hx1
  exact ⟨_, rfl, Ev.post_flat hW1 (fun _ _ _ => trodAll_mk1 (shut_bool Tryz.underlying4 true)) (fun sp => trodAll_mk2 (s0 _ _ _ _) (s1 _ _ _ _)) (fun _ => rfl) hb (ok_one (by kernel_rfl) rfl (okWide_bool_mk Tryz.underlying4 true))⟩

theorem fnExactLatitudeOf_holds : Rows.FnExactLatitudeOfSaid :=
  OpenClaim.holds_of_wide 10 Tryz.f10 rfl rfl rfl rfl rfl rfl rfl ⟨rfl, rfl, rfl, rfl, rfl⟩ rfl rfl rfl rfl rfl (by kernel_rfl) Tryz.func10 fnExactLatitudeOf_closed
    (of_decide_eq_true (by kernel_rfl)) (by unfold Func.isWrapper; first | (rw [if_pos (by decide +kernel)]; kernel_rfl) | (rw [if_neg (by decide +kernel)]; exact ⟨rfl, rfl⟩))
    (fun os started H enc _ => fnExactLatitudeOf_lifted os started H enc)

end Go.Proofs.YtcfflflcbacapaaGreat
