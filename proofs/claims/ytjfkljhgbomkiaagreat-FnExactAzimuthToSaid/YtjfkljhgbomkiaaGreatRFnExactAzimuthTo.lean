/- The law FnExactAzimuthTo gives true, whatever comes in; each argument reads behind the call as it read before. No conditions. -/
import Derived.Test.YtjfkljhgbomkiaaGreatEv7
import Derived.Test.YtjfkljhgbomkiaaGreatP14
import Derived.Test.YtjfkljhgbomkiaaGreatRows
import Derived.Test.YtjfkljhgbomkiaaGreatRJ
namespace Go.Proofs.YtjfkljhgbomkiaaGreat
open Go.ChangeShapes Go.WideShapes Go.ChangeAt Go.RowKit

theorem fnExactAzimuthTo_own : ownKnob Tryz.prog.godebug = none := by kernel_rfl
section
open Go
set_option maxRecDepth 100000
theorem fnExactAzimuthTo_c0 : (Rows.fnExactAzimuthToRow.wf (OpenSpec.ofChange Rows.fnExactAzimuthToSpec)) = true := by kernel_rfl
theorem fnExactAzimuthTo_c3 : (Tryz.f6.params.all (Tryz.pinned.checked.prog.readableRec ·)) = true := by kernel_rfl
theorem fnExactAzimuthTo_c4 : (namedTie Tryz.pinned.checked.prog Rows.fnExactAzimuthToRow.named Rows.fnExactAzimuthToSpec.vars) = true := by kernel_rfl
theorem fnExactAzimuthTo_c5 : ((Rows.fnExactAzimuthToRow.stops == [])) = true := by kernel_rfl
theorem fnExactAzimuthTo_c7 : ((Rows.fnExactAzimuthToRow.knobs == [])) = true := by kernel_rfl
theorem fnExactAzimuthTo_c9 : ((Rows.fnExactAzimuthToRow.inPlace == Tryz.pinned.checked.prog.inPlace 6)) = true := by kernel_rfl
theorem fnExactAzimuthTo_c10 : ((Rows.fnExactAzimuthToRow.unfollowed == Tryz.pinned.checked.prog.unfollowed 6)) = true := by kernel_rfl
theorem fnExactAzimuthTo_c11 : ((Rows.fnExactAzimuthToRow.recurses == Tryz.pinned.checked.prog.recurses 6)) = true := by kernel_rfl
theorem fnExactAzimuthTo_c12 : ((Rows.fnExactAzimuthToRow.named == Tryz.pinned.checked.prog.varsNamed 6)) = true := by kernel_rfl
theorem fnExactAzimuthTo_c13 : ((Rows.fnExactAzimuthToRow.maps == (Tryz.f6.params.toList ++ Rows.fnExactAzimuthToSpec.plain.varTypes Tryz.pinned.checked.prog).any (Tryz.pinned.checked.prog.mapsRec ·))) = true := by kernel_rfl
theorem fnExactAzimuthTo_c14 : ((Rows.fnExactAzimuthToRow.ifaces == (Tryz.f6.params.toList ++ Rows.fnExactAzimuthToSpec.plain.varTypes Tryz.pinned.checked.prog).any (Tryz.pinned.checked.prog.ifacesRec ·))) = true := by kernel_rfl
theorem fnExactAzimuthTo_c15 : ((Rows.fnExactAzimuthToRow.mapsOut == Tryz.pinned.checked.prog.mapsAmong Tryz.f6.resultTypes.toList)) = true := by kernel_rfl
theorem fnExactAzimuthTo_c16 : ((Rows.fnExactAzimuthToRow.loops == (Tryz.f6.params.toList ++ Rows.fnExactAzimuthToSpec.plain.varTypes Tryz.pinned.checked.prog).any (Tryz.pinned.checked.prog.loopsFrom ·))) = true := by kernel_rfl
theorem fnExactAzimuthTo_c17 : ((Rows.fnExactAzimuthToRow.wideKeys == (Tryz.f6.params.toList ++ Rows.fnExactAzimuthToSpec.plain.varTypes Tryz.pinned.checked.prog ++ Tryz.f6.resultTypes.toList).any (Tryz.pinned.checked.prog.wideKeysFrom ·))) = true := by kernel_rfl
theorem fnExactAzimuthTo_c18 : (Rows.fnExactAzimuthToSpec.vars.all (Tryz.pinned.checked.prog.varReadable ·)) = true := by kernel_rfl
theorem fnExactAzimuthTo_c19 : (Tryz.f6.resultTypes.all (fun t => Tryz.pinned.checked.prog.readableRec t && decide (t < Tryz.pinned.checked.prog.types.size))) = true := by kernel_rfl
theorem fnExactAzimuthTo_c20 : ((Rows.fnExactAzimuthToRow.ifacesOut == Tryz.f6.resultTypes.toList.any (Tryz.pinned.checked.prog.ifacesRec ·))) = true := by kernel_rfl
theorem fnExactAzimuthTo_c21 : ((Rows.fnExactAzimuthToRow.loopsOut == Tryz.f6.resultTypes.toList.any (Tryz.pinned.checked.prog.loopsFrom ·))) = true := by kernel_rfl
theorem fnExactAzimuthTo_c23 : (Rows.fnExactAzimuthToRow.shortTexts.isNone) = true := by kernel_rfl
theorem fnExactAzimuthTo_c28 : ((Rows.fnExactAzimuthToRow.kinds == (if Rows.fnExactAzimuthToRow.domain.isEmpty then [] else Tryz.f6.params.toList.map fun t => match Tryz.pinned.checked.prog.underlying t with | some (.int k) => some k | _ => none))) = true := by kernel_rfl
theorem fnExactAzimuthTo_c29 : ((Rows.fnExactAzimuthToRow.pinned == Rows.fnExactAzimuthToRow.pinnedBy)) = true := by kernel_rfl
theorem fnExactAzimuthTo_c30 : ((Rows.fnExactAzimuthToRow.veiled == (Tryz.f6.params.toList ++ Rows.fnExactAzimuthToSpec.plain.varTypes Tryz.pinned.checked.prog ++ Tryz.f6.resultTypes.toList).any (Tryz.pinned.checked.prog.veiledRec ·))) = true := by kernel_rfl
theorem fnExactAzimuthTo_c31 : (Rows.fnExactAzimuthToRow.veiledFits Tryz.pinned.checked.prog Tryz.f6.params.toList (Tryz.f6.params.toList ++ Rows.fnExactAzimuthToSpec.plain.varTypes Tryz.pinned.checked.prog ++ Tryz.f6.resultTypes.toList)) = true := by kernel_rfl
theorem fnExactAzimuthTo_closed : joinedFacts Tryz.pinned.checked.prog 6 Tryz.f6 Rows.fnExactAzimuthToSpec Rows.fnExactAzimuthToRow = true := by
  unfold joinedFacts
  exact (and_t (and_t (and_t (and_t (and_t (and_t (and_t (and_t (and_t (and_t (and_t (and_t (and_t (and_t (and_t (and_t (and_t (and_t (and_t (and_t (and_t (and_t (and_t (and_t (and_t (and_t (and_t (and_t (and_t (and_t (and_t fnExactAzimuthTo_c0 j_1) j_2) fnExactAzimuthTo_c3) fnExactAzimuthTo_c4) fnExactAzimuthTo_c5) j_6) fnExactAzimuthTo_c7) j_8) fnExactAzimuthTo_c9) fnExactAzimuthTo_c10) fnExactAzimuthTo_c11) fnExactAzimuthTo_c12) fnExactAzimuthTo_c13) fnExactAzimuthTo_c14) fnExactAzimuthTo_c15) fnExactAzimuthTo_c16) fnExactAzimuthTo_c17) fnExactAzimuthTo_c18) fnExactAzimuthTo_c19) fnExactAzimuthTo_c20) fnExactAzimuthTo_c21) j_22) fnExactAzimuthTo_c23) j_24) j_25) j_26) j_27) fnExactAzimuthTo_c28) fnExactAzimuthTo_c29) fnExactAzimuthTo_c30) fnExactAzimuthTo_c31)
end
set_option maxRecDepth 100000 in
theorem fnExactAzimuthTo_lifted (os : Os) (started : os.Started) (H : Type) (enc : TypeId × Value → H) :
    ReturnsInHanded {} Tryz.checked os 6 .any (Rows.fnExactAzimuthToSpec.pre6 enc Tryz.prog Tryz.f6 Rows.fnExactAzimuthToRow.domain false) (Rows.fnExactAzimuthToSpec.post enc Tryz.prog Tryz.f6 false true false false) := by
  refine returnsInHanded_of_change (C := Tryz.checked) fnExactAzimuthTo_own started (by kernel_rfl) Tryz.func6
    (ChangeSpec.witness6 (enc := enc) (C := Tryz.checked) false ⟨#[], #[.agg #[.int .i64 0, .int .i64 0], .agg #[.int .i64 0, .int .i64 0]], []⟩ 8 (by kernel_rfl) (by kernel_rfl) (by kernel_rfl) (by kernel_rfl)) ?_
  intro W base args ds gs before hval0 hW hcnd _
  have hval : ∀ (j : Nat) t v, Tryz.f6.params[j]? = some t → args[j]? = some v → Value.okWide Tryz.prog W .any base t v := hval0
  have hW1 := hW
  obtain ⟨p, q, hA0, hV, rfl, hfz, hnd⟩ := hW
  have hA : DataW.TrodAll enc Tryz.prog W 0 (fun _ => true) true Tryz.f6.params.toList args.toList ds p := hA0
  rw [Tryz.params6] at hA hval
  obtain ⟨v0, v1, d0, d1, p0, p1, rfl, rfl, rfl, h0, h1⟩ := trodAll_two hA
  obtain ⟨rfl, rfl⟩ := trodVars_none hV
  obtain ⟨⟨x0, r0⟩, rfl, s0⟩ := Ev.open_arg (α := Ev.Point) (by kernel_rfl) (by kernel_rfl) (hval 0 23 v0 rfl rfl) h0
  obtain ⟨⟨x1, r1⟩, rfl, s1⟩ := Ev.open_arg (α := Ev.Point) (by kernel_rfl) (by kernel_rfl) (hval 1 23 v1 rfl rfl) h1
  clear hA0 hval0
  refine (Ev.Tb.run_sound (ρ := fun _ => none) (t := Ev.Tb6) (b := Ev.B6) (γ := Bool) (y := true) (Ev.law_FnExactAzimuthTo x0 x1) (.cons (r0 _) (.cons (r1 _) .nil)) (by simp [Ev.V.pfs, Ev.Enc.pf])).mono fun e W1 he => ?_
  obtain ⟨x, rfl, hx, hb⟩ := he
  have hx1 := hx (fun _ => none)
  cases hx1
  exact ⟨_, rfl, Ev.post_flat hW1 (fun _ _ _ => trodAll_mk1 (shut_bool Tryz.underlying4 true)) (fun sp => trodAll_mk2 (s0 _ _ _ _) (s1 _ _ _ _)) (fun _ => rfl) hb (ok_one (by kernel_rfl) rfl (okWide_bool_mk Tryz.underlying4 true))⟩

theorem fnExactAzimuthTo_holds : Rows.FnExactAzimuthToSaid :=
  OpenClaim.holds_of_wide 6 Tryz.f6 rfl rfl rfl rfl rfl rfl rfl ⟨rfl, rfl, rfl, rfl, rfl⟩ rfl rfl rfl rfl rfl (by kernel_rfl) Tryz.func6 fnExactAzimuthTo_closed
    (of_decide_eq_true (by kernel_rfl)) (by unfold Func.isWrapper; first | (rw [if_pos (by decide +kernel)]; kernel_rfl) | (rw [if_neg (by decide +kernel)]; exact ⟨rfl, rfl⟩))
    (fun os started H enc _ => fnExactAzimuthTo_lifted os started H enc)

end Go.Proofs.YtjfkljhgbomkiaaGreat
