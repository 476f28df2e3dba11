/- The law FnExactLocalTo gives true, whatever comes in; each argument reads behind the call as it read before. No conditions. -/
import Derived.Test.YtcfflflcbacapaaGreatEv7
import Derived.Test.YtcfflflcbacapaaGreatP15
import Derived.Test.YtcfflflcbacapaaGreatRows
import Derived.Test.YtcfflflcbacapaaGreatRJ
namespace Go.Proofs.YtcfflflcbacapaaGreat
open Go.ChangeShapes Go.WideShapes Go.ChangeAt Go.RowKit

theorem fnExactLocalTo_own : ownKnob Tryz.prog.godebug = none := by kernel_rfl
section
open Go
set_option maxRecDepth 100000
theorem fnExactLocalTo_c0 : (Rows.fnExactLocalToRow.wf (OpenSpec.ofChange Rows.fnExactLocalToSpec)) = true := by kernel_rfl
theorem fnExactLocalTo_c3 : (Tryz.f8.params.all (Tryz.pinned.checked.prog.readableRec ·)) = true := by kernel_rfl
theorem fnExactLocalTo_c4 : (namedTie Tryz.pinned.checked.prog Rows.fnExactLocalToRow.named Rows.fnExactLocalToSpec.vars) = true := by kernel_rfl
theorem fnExactLocalTo_c5 : ((Rows.fnExactLocalToRow.stops == [])) = true := by kernel_rfl
theorem fnExactLocalTo_c7 : ((Rows.fnExactLocalToRow.knobs == [])) = true := by kernel_rfl
theorem fnExactLocalTo_c9 : ((Rows.fnExactLocalToRow.inPlace == Tryz.pinned.checked.prog.inPlace 8)) = true := by kernel_rfl
theorem fnExactLocalTo_c10 : ((Rows.fnExactLocalToRow.unfollowed == Tryz.pinned.checked.prog.unfollowed 8)) = true := by kernel_rfl
theorem fnExactLocalTo_c11 : ((Rows.fnExactLocalToRow.recurses == Tryz.pinned.checked.prog.recurses 8)) = true := by kernel_rfl
theorem fnExactLocalTo_c12 : ((Rows.fnExactLocalToRow.named == Tryz.pinned.checked.prog.varsNamed 8)) = true := by kernel_rfl
theorem fnExactLocalTo_c13 : ((Rows.fnExactLocalToRow.maps == (Tryz.f8.params.toList ++ Rows.fnExactLocalToSpec.plain.varTypes Tryz.pinned.checked.prog).any (Tryz.pinned.checked.prog.mapsRec ·))) = true := by kernel_rfl
theorem fnExactLocalTo_c14 : ((Rows.fnExactLocalToRow.ifaces == (Tryz.f8.params.toList ++ Rows.fnExactLocalToSpec.plain.varTypes Tryz.pinned.checked.prog).any (Tryz.pinned.checked.prog.ifacesRec ·))) = true := by kernel_rfl
theorem fnExactLocalTo_c15 : ((Rows.fnExactLocalToRow.mapsOut == Tryz.pinned.checked.prog.mapsAmong Tryz.f8.resultTypes.toList)) = true := by kernel_rfl
theorem fnExactLocalTo_c16 : ((Rows.fnExactLocalToRow.loops == (Tryz.f8.params.toList ++ Rows.fnExactLocalToSpec.plain.varTypes Tryz.pinned.checked.prog).any (Tryz.pinned.checked.prog.loopsFrom ·))) = true := by kernel_rfl
theorem fnExactLocalTo_c17 : ((Rows.fnExactLocalToRow.wideKeys == (Tryz.f8.params.toList ++ Rows.fnExactLocalToSpec.plain.varTypes Tryz.pinned.checked.prog ++ Tryz.f8.resultTypes.toList).any (Tryz.pinned.checked.prog.wideKeysFrom ·))) = true := by kernel_rfl
theorem fnExactLocalTo_c18 : (Rows.fnExactLocalToSpec.vars.all (Tryz.pinned.checked.prog.varReadable ·)) = true := by kernel_rfl
theorem fnExactLocalTo_c19 : (Tryz.f8.resultTypes.all (fun t => Tryz.pinned.checked.prog.readableRec t && decide (t < Tryz.pinned.checked.prog.types.size))) = true := by kernel_rfl
theorem fnExactLocalTo_c20 : ((Rows.fnExactLocalToRow.ifacesOut == Tryz.f8.resultTypes.toList.any (Tryz.pinned.checked.prog.ifacesRec ·))) = true := by kernel_rfl
theorem fnExactLocalTo_c21 : ((Rows.fnExactLocalToRow.loopsOut == Tryz.f8.resultTypes.toList.any (Tryz.pinned.checked.prog.loopsFrom ·))) = true := by kernel_rfl
theorem fnExactLocalTo_c23 : (Rows.fnExactLocalToRow.shortTexts.isNone) = true := by kernel_rfl
theorem fnExactLocalTo_c28 : ((Rows.fnExactLocalToRow.kinds == (if Rows.fnExactLocalToRow.domain.isEmpty then [] else Tryz.f8.params.toList.map fun t => match Tryz.pinned.checked.prog.underlying t with | some (.int k) => some k | _ => none))) = true := by kernel_rfl
theorem fnExactLocalTo_c29 : ((Rows.fnExactLocalToRow.pinned == Rows.fnExactLocalToRow.pinnedBy)) = true := by kernel_rfl
theorem fnExactLocalTo_c30 : ((Rows.fnExactLocalToRow.veiled == (Tryz.f8.params.toList ++ Rows.fnExactLocalToSpec.plain.varTypes Tryz.pinned.checked.prog ++ Tryz.f8.resultTypes.toList).any (Tryz.pinned.checked.prog.veiledRec ·))) = true := by kernel_rfl
theorem fnExactLocalTo_c31 : (Rows.fnExactLocalToRow.veiledFits Tryz.pinned.checked.prog Tryz.f8.params.toList (Tryz.f8.params.toList ++ Rows.fnExactLocalToSpec.plain.varTypes Tryz.pinned.checked.prog ++ Tryz.f8.resultTypes.toList)) = true := by kernel_rfl
theorem fnExactLocalTo_closed : joinedFacts Tryz.pinned.checked.prog 8 Tryz.f8 Rows.fnExactLocalToSpec Rows.fnExactLocalToRow = true := by
  unfold joinedFacts
  exact (and_t (and_t (and_t (and_t (and_t (and_t (and_t (and_t (and_t (and_t (and_t (and_t (and_t (and_t (and_t (and_t (and_t (and_t (and_t (and_t (and_t (and_t (and_t (and_t (and_t (and_t (and_t (and_t (and_t (and_t (and_t fnExactLocalTo_c0 j_1) j_2) fnExactLocalTo_c3) fnExactLocalTo_c4) fnExactLocalTo_c5) j_6) fnExactLocalTo_c7) j_8) fnExactLocalTo_c9) fnExactLocalTo_c10) fnExactLocalTo_c11) fnExactLocalTo_c12) fnExactLocalTo_c13) fnExactLocalTo_c14) fnExactLocalTo_c15) fnExactLocalTo_c16) fnExactLocalTo_c17) fnExactLocalTo_c18) fnExactLocalTo_c19) fnExactLocalTo_c20) fnExactLocalTo_c21) j_22) fnExactLocalTo_c23) j_24) j_25) j_26) j_27) fnExactLocalTo_c28) fnExactLocalTo_c29) fnExactLocalTo_c30) fnExactLocalTo_c31)
end
set_option maxRecDepth 100000 in
theorem fnExactLocalTo_lifted (os : Os) (started : os.Started) (H : Type) (enc : TypeId × Value → H) :
    ReturnsInHanded {} Tryz.checked os 8 .any (Rows.fnExactLocalToSpec.pre6 enc Tryz.prog Tryz.f8 Rows.fnExactLocalToRow.domain false) (Rows.fnExactLocalToSpec.post enc Tryz.prog Tryz.f8 false true false false) := by
  refine returnsInHanded_of_change (C := Tryz.checked) fnExactLocalTo_own started (by kernel_rfl) Tryz.func8
    (ChangeSpec.witness6 (enc := enc) (C := Tryz.checked) false ⟨#[], #[.agg #[.int .i64 0, .int .i64 0, .int .i64 0], .agg #[.int .i64 0, .int .i64 0, .int .i64 0], .agg #[.int .i64 0, .int .i64 0, .int .i64 0]], []⟩ 8 (by kernel_rfl) (by kernel_rfl) (by kernel_rfl) (by kernel_rfl)) ?_
  intro W base args ds gs before hval0 hW hcnd _
  have hval : ∀ (j : Nat) t v, Tryz.f8.params[j]? = some t → args[j]? = some v → Value.okWide Tryz.prog W .any base t v := hval0
  have hW1 := hW
  obtain ⟨p, q, hA0, hV, rfl, hfz, hnd⟩ := hW
  have hA : DataW.TrodAll enc Tryz.prog W 0 (fun _ => true) true Tryz.f8.params.toList args.toList ds p := hA0
  rw [Tryz.params8] at hA hval
  obtain ⟨v0, v1, v2, d0, d1, d2, p0, p1, p2, rfl, rfl, rfl, h0, h1, h2⟩ := trodAll_three hA
  obtain ⟨rfl, rfl⟩ := trodVars_none hV
  obtain ⟨⟨x0, r0⟩, rfl, s0⟩ := Ev.open_arg (α := Ev.Ell) (by kernel_rfl) (by kernel_rfl) (hval 0 46 v0 rfl rfl) h0
  obtain ⟨⟨x1, r1⟩, rfl, s1⟩ := Ev.open_arg (α := Ev.Place) (by kernel_rfl) (by kernel_rfl) (hval 1 55 v1 rfl rfl) h1
  obtain ⟨⟨x2, r2⟩, rfl, s2⟩ := Ev.open_arg (α := Ev.Place) (by kernel_rfl) (by kernel_rfl) (hval 2 55 v2 rfl rfl) h2
  clear hA0 hval0
  refine (Ev.Tb.run_sound (ρ := fun _ => none) (t := Ev.Tb8) (b := Ev.B8) (γ := Bool) (y := true) (Ev.law_FnExactLocalTo x0 x1 x2) (.cons (r0 _) (.cons (r1 _) (.cons (r2 _) .nil))) (by simp [Ev.V.pfs, Ev.Enc.pf])).mono fun e W1 he => ?_
  obtain ⟨x, rfl, hx, hb⟩ := he
  have hx1 := hx (fun _ => none)
  cases hx1
  exact ⟨_, rfl, Ev.post_flat hW1 (fun _ _ _ => trodAll_mk1 (shut_bool Tryz.underlying4 true)) (fun sp => trodAll_mk3 (s0 _ _ _ _) (s1 _ _ _ _) (s2 _ _ _ _)) (fun _ => rfl) hb (ok_one (by kernel_rfl) rfl (okWide_bool_mk Tryz.underlying4 true))⟩

theorem fnExactLocalTo_holds : Rows.FnExactLocalToSaid :=
  OpenClaim.holds_of_wide 8 Tryz.f8 rfl rfl rfl rfl rfl rfl rfl ⟨rfl, rfl, rfl, rfl, rfl⟩ rfl rfl rfl rfl rfl (by kernel_rfl) Tryz.func8 fnExactLocalTo_closed
    (of_decide_eq_true (by kernel_rfl)) (by unfold Func.isWrapper; first | (rw [if_pos (by decide +kernel)]; kernel_rfl) | (rw [if_neg (by decide +kernel)]; exact ⟨rfl, rfl⟩))
    (fun os started H enc _ => fnExactLocalTo_lifted os started H enc)

end Go.Proofs.YtcfflflcbacapaaGreat
