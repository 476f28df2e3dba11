/- The law FnExactInsideOf gives true, whatever comes in; each argument reads behind the call as it read before. No conditions. -/
import Derived.Test.YtcfflflcbacapaaGreatEv7
import Derived.Test.YtcfflflcbacapaaGreatP15
import Derived.Test.YtcfflflcbacapaaGreatRows
import Derived.Test.YtcfflflcbacapaaGreatRJ
namespace Go.Proofs.YtcfflflcbacapaaGreat
open Go.ChangeShapes Go.WideShapes Go.ChangeAt Go.RowKit

theorem fnExactInsideOf_own : ownKnob Tryz.prog.godebug = none := by kernel_rfl
section
open Go
set_option maxRecDepth 100000
theorem fnExactInsideOf_c0 : (Rows.fnExactInsideOfRow.wf (OpenSpec.ofChange Rows.fnExactInsideOfSpec)) = true := by kernel_rfl
theorem fnExactInsideOf_c3 : (Tryz.f12.params.all (Tryz.pinned.checked.prog.readableRec ·)) = true := by kernel_rfl
theorem fnExactInsideOf_c4 : (namedTie Tryz.pinned.checked.prog Rows.fnExactInsideOfRow.named Rows.fnExactInsideOfSpec.vars) = true := by kernel_rfl
theorem fnExactInsideOf_c5 : ((Rows.fnExactInsideOfRow.stops == [])) = true := by kernel_rfl
theorem fnExactInsideOf_c7 : ((Rows.fnExactInsideOfRow.knobs == [])) = true := by kernel_rfl
theorem fnExactInsideOf_c9 : ((Rows.fnExactInsideOfRow.inPlace == Tryz.pinned.checked.prog.inPlace 12)) = true := by kernel_rfl
theorem fnExactInsideOf_c10 : ((Rows.fnExactInsideOfRow.unfollowed == Tryz.pinned.checked.prog.unfollowed 12)) = true := by kernel_rfl
theorem fnExactInsideOf_c11 : ((Rows.fnExactInsideOfRow.recurses == Tryz.pinned.checked.prog.recurses 12)) = true := by kernel_rfl
theorem fnExactInsideOf_c12 : ((Rows.fnExactInsideOfRow.named == Tryz.pinned.checked.prog.varsNamed 12)) = true := by kernel_rfl
theorem fnExactInsideOf_c13 : ((Rows.fnExactInsideOfRow.maps == (Tryz.f12.params.toList ++ Rows.fnExactInsideOfSpec.plain.varTypes Tryz.pinned.checked.prog).any (Tryz.pinned.checked.prog.mapsRec ·))) = true := by kernel_rfl
theorem fnExactInsideOf_c14 : ((Rows.fnExactInsideOfRow.ifaces == (Tryz.f12.params.toList ++ Rows.fnExactInsideOfSpec.plain.varTypes Tryz.pinned.checked.prog).any (Tryz.pinned.checked.prog.ifacesRec ·))) = true := by kernel_rfl
theorem fnExactInsideOf_c15 : ((Rows.fnExactInsideOfRow.mapsOut == Tryz.pinned.checked.prog.mapsAmong Tryz.f12.resultTypes.toList)) = true := by kernel_rfl
theorem fnExactInsideOf_c16 : ((Rows.fnExactInsideOfRow.loops == (Tryz.f12.params.toList ++ Rows.fnExactInsideOfSpec.plain.varTypes Tryz.pinned.checked.prog).any (Tryz.pinned.checked.prog.loopsFrom ·))) = true := by kernel_rfl
theorem fnExactInsideOf_c17 : ((Rows.fnExactInsideOfRow.wideKeys == (Tryz.f12.params.toList ++ Rows.fnExactInsideOfSpec.plain.varTypes Tryz.pinned.checked.prog ++ Tryz.f12.resultTypes.toList).any (Tryz.pinned.checked.prog.wideKeysFrom ·))) = true := by kernel_rfl
theorem fnExactInsideOf_c18 : (Rows.fnExactInsideOfSpec.vars.all (Tryz.pinned.checked.prog.varReadable ·)) = true := by kernel_rfl
theorem fnExactInsideOf_c19 : (Tryz.f12.resultTypes.all (fun t => Tryz.pinned.checked.prog.readableRec t && decide (t < Tryz.pinned.checked.prog.types.size))) = true := by kernel_rfl
theorem fnExactInsideOf_c20 : ((Rows.fnExactInsideOfRow.ifacesOut == Tryz.f12.resultTypes.toList.any (Tryz.pinned.checked.prog.ifacesRec ·))) = true := by kernel_rfl
theorem fnExactInsideOf_c21 : ((Rows.fnExactInsideOfRow.loopsOut == Tryz.f12.resultTypes.toList.any (Tryz.pinned.checked.prog.loopsFrom ·))) = true := by kernel_rfl
theorem fnExactInsideOf_c23 : (Rows.fnExactInsideOfRow.shortTexts.isNone) = true := by kernel_rfl
theorem fnExactInsideOf_c28 : ((Rows.fnExactInsideOfRow.kinds == (if Rows.fnExactInsideOfRow.domain.isEmpty then [] else Tryz.f12.params.toList.map fun t => match Tryz.pinned.checked.prog.underlying t with | some (.int k) => some k | _ => none))) = true := by kernel_rfl
theorem fnExactInsideOf_c29 : ((Rows.fnExactInsideOfRow.pinned == Rows.fnExactInsideOfRow.pinnedBy)) = true := by kernel_rfl
theorem fnExactInsideOf_c30 : ((Rows.fnExactInsideOfRow.veiled == (Tryz.f12.params.toList ++ Rows.fnExactInsideOfSpec.plain.varTypes Tryz.pinned.checked.prog ++ Tryz.f12.resultTypes.toList).any (Tryz.pinned.checked.prog.veiledRec ·))) = true := by kernel_rfl
theorem fnExactInsideOf_c31 : (Rows.fnExactInsideOfRow.veiledFits Tryz.pinned.checked.prog Tryz.f12.params.toList (Tryz.f12.params.toList ++ Rows.fnExactInsideOfSpec.plain.varTypes Tryz.pinned.checked.prog ++ Tryz.f12.resultTypes.toList)) = true := by kernel_rfl
theorem fnExactInsideOf_closed : joinedFacts Tryz.pinned.checked.prog 12 Tryz.f12 Rows.fnExactInsideOfSpec Rows.fnExactInsideOfRow = true := by
  unfold joinedFacts
  exact (and_t (and_t (and_t (and_t (and_t (and_t (and_t (and_t (and_t (and_t (and_t (and_t (and_t (and_t (and_t (and_t (and_t (and_t (and_t (and_t (and_t (and_t (and_t (and_t (and_t (and_t (and_t (and_t (and_t (and_t (and_t fnExactInsideOf_c0 j_1) j_2) fnExactInsideOf_c3) fnExactInsideOf_c4) fnExactInsideOf_c5) j_6) fnExactInsideOf_c7) j_8) fnExactInsideOf_c9) fnExactInsideOf_c10) fnExactInsideOf_c11) fnExactInsideOf_c12) fnExactInsideOf_c13) fnExactInsideOf_c14) fnExactInsideOf_c15) fnExactInsideOf_c16) fnExactInsideOf_c17) fnExactInsideOf_c18) fnExactInsideOf_c19) fnExactInsideOf_c20) fnExactInsideOf_c21) j_22) fnExactInsideOf_c23) j_24) j_25) j_26) j_27) fnExactInsideOf_c28) fnExactInsideOf_c29) fnExactInsideOf_c30) fnExactInsideOf_c31)
end
set_option maxRecDepth 100000 in
theorem fnExactInsideOf_lifted (os : Os) (started : os.Started) (H : Type) (enc : TypeId × Value → H) :
    ReturnsInHanded {} Tryz.checked os 12 .any (Rows.fnExactInsideOfSpec.pre6 enc Tryz.prog Tryz.f12 Rows.fnExactInsideOfRow.domain false) (Rows.fnExactInsideOfSpec.post enc Tryz.prog Tryz.f12 false true false false) := by
  refine returnsInHanded_of_change (C := Tryz.checked) fnExactInsideOf_own started (by kernel_rfl) Tryz.func12
    (ChangeSpec.witness6 (enc := enc) (C := Tryz.checked) false ⟨#[], #[.agg #[.int .i64 0, .int .i64 0, .int .i64 0], .agg #[.int .i64 0, .int .i64 0, .int .i64 0, .int .i64 0, .int .i64 0, .int .i64 0]], []⟩ 8 (by kernel_rfl) (by kernel_rfl) (by kernel_rfl) (by kernel_rfl)) ?_
  intro W base args ds gs before hval0 hW hcnd _
  have hval : ∀ (j : Nat) t v, Tryz.f12.params[j]? = some t → args[j]? = some v → Value.okWide Tryz.prog W .any base t v := hval0
  have hW1 := hW
  obtain ⟨p, q, hA0, hV, rfl, hfz, hnd⟩ := hW
  have hA : DataW.TrodAll enc Tryz.prog W 0 (fun _ => true) true Tryz.f12.params.toList args.toList ds p := hA0
  rw [Tryz.params12] at hA hval
  obtain ⟨v0, v1, d0, d1, p0, p1, rfl, rfl, rfl, h0, h1⟩ := trodAll_two hA
  obtain ⟨rfl, rfl⟩ := trodVars_none hV
  obtain ⟨⟨x0, r0⟩, rfl, s0⟩ := Ev.open_arg (α := Ev.Ell) (by kernel_rfl) (by kernel_rfl) (hval 0 46 v0 rfl rfl) h0
  obtain ⟨⟨x1, r1⟩, rfl, s1⟩ := Ev.open_arg (α := Ev.Vec) (by kernel_rfl) (by kernel_rfl) (hval 1 48 v1 rfl rfl) h1
  clear hA0 hval0
  refine (Ev.Tb.run_sound (ρ := fun _ => none) (t := Ev.Tb12) (b := Ev.B12) (γ := Bool) (y := true) (Ev.law_FnExactInsideOf x0 x1) (.cons (r0 _) (.cons (r1 _) .nil)) (by simp [Ev.V.pfs, Ev.Enc.pf])).mono fun e W1 he => ?_
  obtain ⟨x, rfl, hx, hb⟩ := he
  have hx1 := hx (fun _ => none)
  cases hx1
  exact ⟨_, rfl, Ev.post_flat hW1 (fun _ _ _ => trodAll_mk1 (shut_bool Tryz.underlying4 true)) (fun sp => trodAll_mk2 (s0 _ _ _ _) (s1 _ _ _ _)) (fun _ => rfl) hb (ok_one (by kernel_rfl) rfl (okWide_bool_mk Tryz.underlying4 true))⟩

theorem fnExactInsideOf_holds : Rows.FnExactInsideOfSaid :=
  OpenClaim.holds_of_wide 12 Tryz.f12 rfl rfl rfl rfl rfl rfl rfl ⟨rfl, rfl, rfl, rfl, rfl⟩ rfl rfl rfl rfl rfl (by kernel_rfl) Tryz.func12 fnExactInsideOf_closed
    (of_decide_eq_true (by kernel_rfl)) (by unfold Func.isWrapper; first | (rw [if_pos (by decide +kernel)]; kernel_rfl) | (rw [if_neg (by decide +kernel)]; exact ⟨rfl, rfl⟩))
    (fun os started H enc _ => fnExactInsideOf_lifted os started H enc)

end Go.Proofs.YtcfflflcbacapaaGreat
