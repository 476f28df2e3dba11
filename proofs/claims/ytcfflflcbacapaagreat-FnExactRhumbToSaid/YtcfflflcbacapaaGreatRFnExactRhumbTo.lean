/- The law FnExactRhumbTo gives true, whatever comes in; each argument reads behind the call as it read before. No conditions. -/
import Derived.Test.YtcfflflcbacapaaGreatEv7
import Derived.Test.YtcfflflcbacapaaGreatP19
import Derived.Test.YtcfflflcbacapaaGreatRows
import Derived.Test.YtcfflflcbacapaaGreatRJ
namespace Go.Proofs.YtcfflflcbacapaaGreat
open Go.ChangeShapes Go.WideShapes Go.ChangeAt Go.RowKit

theorem fnExactRhumbTo_own : ownKnob Tryz.prog.godebug = none := by kernel_rfl
section
open Go
set_option maxRecDepth 100000
theorem fnExactRhumbTo_c0 : (Rows.fnExactRhumbToRow.wf (OpenSpec.ofChange Rows.fnExactRhumbToSpec)) = true := by kernel_rfl
theorem fnExactRhumbTo_c3 : (Tryz.f14.params.all (Tryz.pinned.checked.prog.readableRec ·)) = true := by kernel_rfl
theorem fnExactRhumbTo_c4 : (namedTie Tryz.pinned.checked.prog Rows.fnExactRhumbToRow.named Rows.fnExactRhumbToSpec.vars) = true := by kernel_rfl
theorem fnExactRhumbTo_c5 : ((Rows.fnExactRhumbToRow.stops == [])) = true := by kernel_rfl
theorem fnExactRhumbTo_c7 : ((Rows.fnExactRhumbToRow.knobs == [])) = true := by kernel_rfl
theorem fnExactRhumbTo_c9 : ((Rows.fnExactRhumbToRow.inPlace == Tryz.pinned.checked.prog.inPlace 14)) = true := by kernel_rfl
theorem fnExactRhumbTo_c10 : ((Rows.fnExactRhumbToRow.unfollowed == Tryz.pinned.checked.prog.unfollowed 14)) = true := by kernel_rfl
theorem fnExactRhumbTo_c11 : ((Rows.fnExactRhumbToRow.recurses == Tryz.pinned.checked.prog.recurses 14)) = true := by kernel_rfl
theorem fnExactRhumbTo_c12 : ((Rows.fnExactRhumbToRow.named == Tryz.pinned.checked.prog.varsNamed 14)) = true := by kernel_rfl
theorem fnExactRhumbTo_c13 : ((Rows.fnExactRhumbToRow.maps == (Tryz.f14.params.toList ++ Rows.fnExactRhumbToSpec.plain.varTypes Tryz.pinned.checked.prog).any (Tryz.pinned.checked.prog.mapsRec ·))) = true := by kernel_rfl
theorem fnExactRhumbTo_c14 : ((Rows.fnExactRhumbToRow.ifaces == (Tryz.f14.params.toList ++ Rows.fnExactRhumbToSpec.plain.varTypes Tryz.pinned.checked.prog).any (Tryz.pinned.checked.prog.ifacesRec ·))) = true := by kernel_rfl
theorem fnExactRhumbTo_c15 : ((Rows.fnExactRhumbToRow.mapsOut == Tryz.pinned.checked.prog.mapsAmong Tryz.f14.resultTypes.toList)) = true := by kernel_rfl
theorem fnExactRhumbTo_c16 : ((Rows.fnExactRhumbToRow.loops == (Tryz.f14.params.toList ++ Rows.fnExactRhumbToSpec.plain.varTypes Tryz.pinned.checked.prog).any (Tryz.pinned.checked.prog.loopsFrom ·))) = true := by kernel_rfl
theorem fnExactRhumbTo_c17 : ((Rows.fnExactRhumbToRow.wideKeys == (Tryz.f14.params.toList ++ Rows.fnExactRhumbToSpec.plain.varTypes Tryz.pinned.checked.prog ++ Tryz.f14.resultTypes.toList).any (Tryz.pinned.checked.prog.wideKeysFrom ·))) = true := by kernel_rfl
theorem fnExactRhumbTo_c18 : (Rows.fnExactRhumbToSpec.vars.all (Tryz.pinned.checked.prog.varReadable ·)) = true := by kernel_rfl
theorem fnExactRhumbTo_c19 : (Tryz.f14.resultTypes.all (fun t => Tryz.pinned.checked.prog.readableRec t && decide (t < Tryz.pinned.checked.prog.types.size))) = true := by kernel_rfl
theorem fnExactRhumbTo_c20 : ((Rows.fnExactRhumbToRow.ifacesOut == Tryz.f14.resultTypes.toList.any (Tryz.pinned.checked.prog.ifacesRec ·))) = true := by kernel_rfl
theorem fnExactRhumbTo_c21 : ((Rows.fnExactRhumbToRow.loopsOut == Tryz.f14.resultTypes.toList.any (Tryz.pinned.checked.prog.loopsFrom ·))) = true := by kernel_rfl
theorem fnExactRhumbTo_c23 : (Rows.fnExactRhumbToRow.shortTexts.isNone) = true := by kernel_rfl
theorem fnExactRhumbTo_c28 : ((Rows.fnExactRhumbToRow.kinds == (if Rows.fnExactRhumbToRow.domain.isEmpty then [] else Tryz.f14.params.toList.map fun t => match Tryz.pinned.checked.prog.underlying t with | some (.int k) => some k | _ => none))) = true := by kernel_rfl
theorem fnExactRhumbTo_c29 : ((Rows.fnExactRhumbToRow.pinned == Rows.fnExactRhumbToRow.pinnedBy)) = true := by kernel_rfl
theorem fnExactRhumbTo_c30 : ((Rows.fnExactRhumbToRow.veiled == (Tryz.f14.params.toList ++ Rows.fnExactRhumbToSpec.plain.varTypes Tryz.pinned.checked.prog ++ Tryz.f14.resultTypes.toList).any (Tryz.pinned.checked.prog.veiledRec ·))) = true := by kernel_rfl
theorem fnExactRhumbTo_c31 : (Rows.fnExactRhumbToRow.veiledFits Tryz.pinned.checked.prog Tryz.f14.params.toList (Tryz.f14.params.toList ++ Rows.fnExactRhumbToSpec.plain.varTypes Tryz.pinned.checked.prog ++ Tryz.f14.resultTypes.toList)) = true := by kernel_rfl
theorem fnExactRhumbTo_closed : joinedFacts Tryz.pinned.checked.prog 14 Tryz.f14 Rows.fnExactRhumbToSpec Rows.fnExactRhumbToRow = true := by
  unfold joinedFacts
  exact (and_t (and_t (and_t (and_t (and_t (and_t (and_t (and_t (and_t (and_t (and_t (and_t (and_t (and_t (and_t (and_t (and_t (and_t (and_t (and_t (and_t (and_t (and_t (and_t (and_t (and_t (and_t (and_t (and_t (and_t (and_t fnExactRhumbTo_c0 j_1) j_2) fnExactRhumbTo_c3) fnExactRhumbTo_c4) fnExactRhumbTo_c5) j_6) fnExactRhumbTo_c7) j_8) fnExactRhumbTo_c9) fnExactRhumbTo_c10) fnExactRhumbTo_c11) fnExactRhumbTo_c12) fnExactRhumbTo_c13) fnExactRhumbTo_c14) fnExactRhumbTo_c15) fnExactRhumbTo_c16) fnExactRhumbTo_c17) fnExactRhumbTo_c18) fnExactRhumbTo_c19) fnExactRhumbTo_c20) fnExactRhumbTo_c21) j_22) fnExactRhumbTo_c23) j_24) j_25) j_26) j_27) fnExactRhumbTo_c28) fnExactRhumbTo_c29) fnExactRhumbTo_c30) fnExactRhumbTo_c31)
end
set_option maxRecDepth 100000 in
theorem fnExactRhumbTo_lifted (os : Os) (started : os.Started) (H : Type) (enc : TypeId × Value → H) :
    ReturnsInHanded {} Tryz.checked os 14 .any (Rows.fnExactRhumbToSpec.pre6 enc Tryz.prog Tryz.f14 Rows.fnExactRhumbToRow.domain false) (Rows.fnExactRhumbToSpec.post enc Tryz.prog Tryz.f14 false true false false) := by
  refine returnsInHanded_of_change (C := Tryz.checked) fnExactRhumbTo_own started (by kernel_rfl) Tryz.func14
    (ChangeSpec.witness6 (enc := enc) (C := Tryz.checked) false ⟨#[], #[.agg #[.int .i64 0, .int .i64 0], .agg #[.int .i64 0, .int .i64 0]], []⟩ 8 (by kernel_rfl) (by kernel_rfl) (by kernel_rfl) (by kernel_rfl)) ?_
  intro W base args ds gs before hval0 hW hcnd _
  have hval : ∀ (j : Nat) t v, Tryz.f14.params[j]? = some t → args[j]? = some v → Value.okWide Tryz.prog W .any base t v := hval0
  have hW1 := hW
  obtain ⟨p, q, hA0, hV, rfl, hfz, hnd⟩ := hW
  have hA : DataW.TrodAll enc Tryz.prog W 0 (fun _ => true) true Tryz.f14.params.toList args.toList ds p := hA0
  rw [Tryz.params14] at hA hval
  obtain ⟨v0, v1, d0, d1, p0, p1, rfl, rfl, rfl, h0, h1⟩ := trodAll_two hA
  obtain ⟨rfl, rfl⟩ := trodVars_none hV
  obtain ⟨⟨x0, r0⟩, rfl, s0⟩ := Ev.open_arg (α := Ev.Point) (by kernel_rfl) (by kernel_rfl) (hval 0 25 v0 rfl rfl) h0
  obtain ⟨⟨x1, r1⟩, rfl, s1⟩ := Ev.open_arg (α := Ev.Point) (by kernel_rfl) (by kernel_rfl) (hval 1 25 v1 rfl rfl) h1
  clear hA0 hval0
  refine (Ev.Tb.run_sound (ρ := fun _ => none) (t := Ev.Tb14) (b := Ev.B14) (γ := Bool) (y := true) (Ev.law_FnExactRhumbTo x0 x1) (.cons (r0 _) (.cons (r1 _) .nil)) (by simp [Ev.V.pfs, Ev.Enc.pf])).mono fun e W1 he => ?_
  obtain ⟨x, rfl, hx, hb⟩ := he
  have hx1 := hx (fun _ => none)
  cases hx1
  exact ⟨_, rfl, Ev.post_flat hW1 (fun _ _ _ => trodAll_mk1 (shut_bool Tryz.underlying4 true)) (fun sp => trodAll_mk2 (s0 _ _ _ _) (s1 _ _ _ _)) (fun _ => rfl) hb (ok_one (by kernel_rfl) rfl (okWide_bool_mk Tryz.underlying4 true))⟩

theorem fnExactRhumbTo_holds : Rows.FnExactRhumbToSaid :=
  OpenClaim.holds_of_wide 14 Tryz.f14 rfl rfl rfl rfl rfl rfl rfl ⟨rfl, rfl, rfl, rfl, rfl⟩ rfl rfl rfl rfl rfl (by kernel_rfl) Tryz.func14 fnExactRhumbTo_closed
    (of_decide_eq_true (by kernel_rfl)) (by unfold Func.isWrapper; first | (rw [if_pos (by decide +kernel)]; kernel_rfl) | (rw [if_neg (by decide +kernel)]; exact ⟨rfl, rfl⟩))
    (fun os started H enc _ => fnExactRhumbTo_lifted os started H enc)

end Go.Proofs.YtcfflflcbacapaaGreat
