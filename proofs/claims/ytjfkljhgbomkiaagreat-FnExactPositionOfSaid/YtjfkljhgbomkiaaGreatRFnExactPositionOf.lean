/- The law FnExactPositionOf gives true, whatever comes in; each argument reads behind the call as it read before. No conditions. -/
import Derived.Test.YtjfkljhgbomkiaaGreatEv7
import Derived.Test.YtjfkljhgbomkiaaGreatP14
import Derived.Test.YtjfkljhgbomkiaaGreatRows
import Derived.Test.YtjfkljhgbomkiaaGreatRJ
namespace Go.Proofs.YtjfkljhgbomkiaaGreat
open Go.ChangeShapes Go.WideShapes Go.ChangeAt Go.RowKit

theorem fnExactPositionOf_own : ownKnob Tryz.prog.godebug = none := by kernel_rfl
section
open Go
set_option maxRecDepth 100000
theorem fnExactPositionOf_c0 : (Rows.fnExactPositionOfRow.wf (OpenSpec.ofChange Rows.fnExactPositionOfSpec)) = true := by kernel_rfl
theorem fnExactPositionOf_c3 : (Tryz.f5.params.all (Tryz.pinned.checked.prog.readableRec ·)) = true := by kernel_rfl
theorem fnExactPositionOf_c4 : (namedTie Tryz.pinned.checked.prog Rows.fnExactPositionOfRow.named Rows.fnExactPositionOfSpec.vars) = true := by kernel_rfl
theorem fnExactPositionOf_c5 : ((Rows.fnExactPositionOfRow.stops == [])) = true := by kernel_rfl
theorem fnExactPositionOf_c7 : ((Rows.fnExactPositionOfRow.knobs == [])) = true := by kernel_rfl
theorem fnExactPositionOf_c9 : ((Rows.fnExactPositionOfRow.inPlace == Tryz.pinned.checked.prog.inPlace 5)) = true := by kernel_rfl
theorem fnExactPositionOf_c10 : ((Rows.fnExactPositionOfRow.unfollowed == Tryz.pinned.checked.prog.unfollowed 5)) = true := by kernel_rfl
theorem fnExactPositionOf_c11 : ((Rows.fnExactPositionOfRow.recurses == Tryz.pinned.checked.prog.recurses 5)) = true := by kernel_rfl
theorem fnExactPositionOf_c12 : ((Rows.fnExactPositionOfRow.named == Tryz.pinned.checked.prog.varsNamed 5)) = true := by kernel_rfl
theorem fnExactPositionOf_c13 : ((Rows.fnExactPositionOfRow.maps == (Tryz.f5.params.toList ++ Rows.fnExactPositionOfSpec.plain.varTypes Tryz.pinned.checked.prog).any (Tryz.pinned.checked.prog.mapsRec ·))) = true := by kernel_rfl
theorem fnExactPositionOf_c14 : ((Rows.fnExactPositionOfRow.ifaces == (Tryz.f5.params.toList ++ Rows.fnExactPositionOfSpec.plain.varTypes Tryz.pinned.checked.prog).any (Tryz.pinned.checked.prog.ifacesRec ·))) = true := by kernel_rfl
theorem fnExactPositionOf_c15 : ((Rows.fnExactPositionOfRow.mapsOut == Tryz.pinned.checked.prog.mapsAmong Tryz.f5.resultTypes.toList)) = true := by kernel_rfl
theorem fnExactPositionOf_c16 : ((Rows.fnExactPositionOfRow.loops == (Tryz.f5.params.toList ++ Rows.fnExactPositionOfSpec.plain.varTypes Tryz.pinned.checked.prog).any (Tryz.pinned.checked.prog.loopsFrom ·))) = true := by kernel_rfl
theorem fnExactPositionOf_c17 : ((Rows.fnExactPositionOfRow.wideKeys == (Tryz.f5.params.toList ++ Rows.fnExactPositionOfSpec.plain.varTypes Tryz.pinned.checked.prog ++ Tryz.f5.resultTypes.toList).any (Tryz.pinned.checked.prog.wideKeysFrom ·))) = true := by kernel_rfl
theorem fnExactPositionOf_c18 : (Rows.fnExactPositionOfSpec.vars.all (Tryz.pinned.checked.prog.varReadable ·)) = true := by kernel_rfl
theorem fnExactPositionOf_c19 : (Tryz.f5.resultTypes.all (fun t => Tryz.pinned.checked.prog.readableRec t && decide (t < Tryz.pinned.checked.prog.types.size))) = true := by kernel_rfl
theorem fnExactPositionOf_c20 : ((Rows.fnExactPositionOfRow.ifacesOut == Tryz.f5.resultTypes.toList.any (Tryz.pinned.checked.prog.ifacesRec ·))) = true := by kernel_rfl
theorem fnExactPositionOf_c21 : ((Rows.fnExactPositionOfRow.loopsOut == Tryz.f5.resultTypes.toList.any (Tryz.pinned.checked.prog.loopsFrom ·))) = true := by kernel_rfl
theorem fnExactPositionOf_c23 : (Rows.fnExactPositionOfRow.shortTexts.isNone) = true := by kernel_rfl
theorem fnExactPositionOf_c28 : ((Rows.fnExactPositionOfRow.kinds == (if Rows.fnExactPositionOfRow.domain.isEmpty then [] else Tryz.f5.params.toList.map fun t => match Tryz.pinned.checked.prog.underlying t with | some (.int k) => some k | _ => none))) = true := by kernel_rfl
theorem fnExactPositionOf_c29 : ((Rows.fnExactPositionOfRow.pinned == Rows.fnExactPositionOfRow.pinnedBy)) = true := by kernel_rfl
theorem fnExactPositionOf_c30 : ((Rows.fnExactPositionOfRow.veiled == (Tryz.f5.params.toList ++ Rows.fnExactPositionOfSpec.plain.varTypes Tryz.pinned.checked.prog ++ Tryz.f5.resultTypes.toList).any (Tryz.pinned.checked.prog.veiledRec ·))) = true := by kernel_rfl
theorem fnExactPositionOf_c31 : (Rows.fnExactPositionOfRow.veiledFits Tryz.pinned.checked.prog Tryz.f5.params.toList (Tryz.f5.params.toList ++ Rows.fnExactPositionOfSpec.plain.varTypes Tryz.pinned.checked.prog ++ Tryz.f5.resultTypes.toList)) = true := by kernel_rfl
theorem fnExactPositionOf_closed : joinedFacts Tryz.pinned.checked.prog 5 Tryz.f5 Rows.fnExactPositionOfSpec Rows.fnExactPositionOfRow = true := by
  unfold joinedFacts
  exact (and_t (and_t (and_t (and_t (and_t (and_t (and_t (and_t (and_t (and_t (and_t (and_t (and_t (and_t (and_t (and_t (and_t (and_t (and_t (and_t (and_t (and_t (and_t (and_t (and_t (and_t (and_t (and_t (and_t (and_t (and_t fnExactPositionOf_c0 j_1) j_2) fnExactPositionOf_c3) fnExactPositionOf_c4) fnExactPositionOf_c5) j_6) fnExactPositionOf_c7) j_8) fnExactPositionOf_c9) fnExactPositionOf_c10) fnExactPositionOf_c11) fnExactPositionOf_c12) fnExactPositionOf_c13) fnExactPositionOf_c14) fnExactPositionOf_c15) fnExactPositionOf_c16) fnExactPositionOf_c17) fnExactPositionOf_c18) fnExactPositionOf_c19) fnExactPositionOf_c20) fnExactPositionOf_c21) j_22) fnExactPositionOf_c23) j_24) j_25) j_26) j_27) fnExactPositionOf_c28) fnExactPositionOf_c29) fnExactPositionOf_c30) fnExactPositionOf_c31)
end
set_option maxRecDepth 100000 in
theorem fnExactPositionOf_lifted (os : Os) (started : os.Started) (H : Type) (enc : TypeId × Value → H) :
    ReturnsInHanded {} Tryz.checked os 5 .any (Rows.fnExactPositionOfSpec.pre6 enc Tryz.prog Tryz.f5 Rows.fnExactPositionOfRow.domain false) (Rows.fnExactPositionOfSpec.post enc Tryz.prog Tryz.f5 false true false false) := by
  refine returnsInHanded_of_change (C := Tryz.checked) fnExactPositionOf_own started (by kernel_rfl) Tryz.func5
    (ChangeSpec.witness6 (enc := enc) (C := Tryz.checked) false ⟨#[], #[.agg #[.int .i64 0, .int .i64 0, .int .i64 0, .int .i64 0, .int .i64 0, .int .i64 0]], []⟩ 8 (by kernel_rfl) (by kernel_rfl) (by kernel_rfl) (by kernel_rfl)) ?_
  intro W base args ds gs before hval0 hW hcnd _
  have hval : ∀ (j : Nat) t v, Tryz.f5.params[j]? = some t → args[j]? = some v → Value.okWide Tryz.prog W .any base t v := hval0
  have hW1 := hW
  obtain ⟨p, q, hA0, hV, rfl, hfz, hnd⟩ := hW
  have hA : DataW.TrodAll enc Tryz.prog W 0 (fun _ => true) true Tryz.f5.params.toList args.toList ds p := hA0
  rw [Tryz.params5] at hA hval
  obtain ⟨v0, d0, rfl, rfl, h0⟩ := trodAll_one hA
  obtain ⟨rfl, rfl⟩ := trodVars_none hV
  obtain ⟨⟨x0, r0⟩, rfl, s0⟩ := Ev.open_arg (α := Ev.Vec) (by kernel_rfl) (by kernel_rfl) (hval 0 39 v0 rfl rfl) h0
  clear hA0 hval0
  refine (Ev.Tb.run_sound (ρ := fun _ => none) (t := Ev.Tb5) (b := Ev.B5) (γ := Bool) (y := true) (Ev.law_FnExactPositionOf x0) (.cons (r0 _) .nil) (by simp [Ev.V.pfs, Ev.Enc.pf])).mono fun e W1 he => ?_
  obtain ⟨x, rfl, hx, hb⟩ := he
  have hx1 := hx (fun _ => none)
  cases hx1
  exact ⟨_, rfl, Ev.post_flat hW1 (fun _ _ _ => trodAll_mk1 (shut_bool Tryz.underlying4 true)) (fun sp => trodAll_mk1 (s0 _ _ _ _)) (fun _ => rfl) hb (ok_one (by kernel_rfl) rfl (okWide_bool_mk Tryz.underlying4 true))⟩

theorem fnExactPositionOf_holds : Rows.FnExactPositionOfSaid :=
  OpenClaim.holds_of_wide 5 Tryz.f5 rfl rfl rfl rfl rfl rfl rfl ⟨rfl, rfl, rfl, rfl, rfl⟩ rfl rfl rfl rfl rfl (by kernel_rfl) Tryz.func5 fnExactPositionOf_closed
    (of_decide_eq_true (by kernel_rfl)) (by unfold Func.isWrapper; first | (rw [if_pos (by decide +kernel)]; kernel_rfl) | (rw [if_neg (by decide +kernel)]; exact ⟨rfl, rfl⟩))
    (fun os started H enc _ => fnExactPositionOf_lifted os started H enc)

end Go.Proofs.YtjfkljhgbomkiaaGreat
