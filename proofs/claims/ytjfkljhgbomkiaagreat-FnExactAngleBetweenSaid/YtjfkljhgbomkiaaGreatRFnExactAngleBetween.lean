/- The law FnExactAngleBetween gives true, whatever comes in; each argument reads behind the call as it read before. No conditions. -/
import Derived.Test.YtjfkljhgbomkiaaGreatEv7
import Derived.Test.YtjfkljhgbomkiaaGreatP14
import Derived.Test.YtjfkljhgbomkiaaGreatRows
import Derived.Test.YtjfkljhgbomkiaaGreatRJ
namespace Go.Proofs.YtjfkljhgbomkiaaGreat
open Go.ChangeShapes Go.WideShapes Go.ChangeAt Go.RowKit

theorem fnExactAngleBetween_own : ownKnob Tryz.prog.godebug = none := by kernel_rfl
section
open Go
set_option maxRecDepth 100000
theorem fnExactAngleBetween_c0 : (Rows.fnExactAngleBetweenRow.wf (OpenSpec.ofChange Rows.fnExactAngleBetweenSpec)) = true := by kernel_rfl
theorem fnExactAngleBetween_c3 : (Tryz.f9.params.all (Tryz.pinned.checked.prog.readableRec ·)) = true := by kernel_rfl
theorem fnExactAngleBetween_c4 : (namedTie Tryz.pinned.checked.prog Rows.fnExactAngleBetweenRow.named Rows.fnExactAngleBetweenSpec.vars) = true := by kernel_rfl
theorem fnExactAngleBetween_c5 : ((Rows.fnExactAngleBetweenRow.stops == [])) = true := by kernel_rfl
theorem fnExactAngleBetween_c7 : ((Rows.fnExactAngleBetweenRow.knobs == [])) = true := by kernel_rfl
theorem fnExactAngleBetween_c9 : ((Rows.fnExactAngleBetweenRow.inPlace == Tryz.pinned.checked.prog.inPlace 9)) = true := by kernel_rfl
theorem fnExactAngleBetween_c10 : ((Rows.fnExactAngleBetweenRow.unfollowed == Tryz.pinned.checked.prog.unfollowed 9)) = true := by kernel_rfl
theorem fnExactAngleBetween_c11 : ((Rows.fnExactAngleBetweenRow.recurses == Tryz.pinned.checked.prog.recurses 9)) = true := by kernel_rfl
theorem fnExactAngleBetween_c12 : ((Rows.fnExactAngleBetweenRow.named == Tryz.pinned.checked.prog.varsNamed 9)) = true := by kernel_rfl
theorem fnExactAngleBetween_c13 : ((Rows.fnExactAngleBetweenRow.maps == (Tryz.f9.params.toList ++ Rows.fnExactAngleBetweenSpec.plain.varTypes Tryz.pinned.checked.prog).any (Tryz.pinned.checked.prog.mapsRec ·))) = true := by kernel_rfl
theorem fnExactAngleBetween_c14 : ((Rows.fnExactAngleBetweenRow.ifaces == (Tryz.f9.params.toList ++ Rows.fnExactAngleBetweenSpec.plain.varTypes Tryz.pinned.checked.prog).any (Tryz.pinned.checked.prog.ifacesRec ·))) = true := by kernel_rfl
theorem fnExactAngleBetween_c15 : ((Rows.fnExactAngleBetweenRow.mapsOut == Tryz.pinned.checked.prog.mapsAmong Tryz.f9.resultTypes.toList)) = true := by kernel_rfl
theorem fnExactAngleBetween_c16 : ((Rows.fnExactAngleBetweenRow.loops == (Tryz.f9.params.toList ++ Rows.fnExactAngleBetweenSpec.plain.varTypes Tryz.pinned.checked.prog).any (Tryz.pinned.checked.prog.loopsFrom ·))) = true := by kernel_rfl
theorem fnExactAngleBetween_c17 : ((Rows.fnExactAngleBetweenRow.wideKeys == (Tryz.f9.params.toList ++ Rows.fnExactAngleBetweenSpec.plain.varTypes Tryz.pinned.checked.prog ++ Tryz.f9.resultTypes.toList).any (Tryz.pinned.checked.prog.wideKeysFrom ·))) = true := by kernel_rfl
theorem fnExactAngleBetween_c18 : (Rows.fnExactAngleBetweenSpec.vars.all (Tryz.pinned.checked.prog.varReadable ·)) = true := by kernel_rfl
theorem fnExactAngleBetween_c19 : (Tryz.f9.resultTypes.all (fun t => Tryz.pinned.checked.prog.readableRec t && decide (t < Tryz.pinned.checked.prog.types.size))) = true := by kernel_rfl
theorem fnExactAngleBetween_c20 : ((Rows.fnExactAngleBetweenRow.ifacesOut == Tryz.f9.resultTypes.toList.any (Tryz.pinned.checked.prog.ifacesRec ·))) = true := by kernel_rfl
theorem fnExactAngleBetween_c21 : ((Rows.fnExactAngleBetweenRow.loopsOut == Tryz.f9.resultTypes.toList.any (Tryz.pinned.checked.prog.loopsFrom ·))) = true := by kernel_rfl
theorem fnExactAngleBetween_c23 : (Rows.fnExactAngleBetweenRow.shortTexts.isNone) = true := by kernel_rfl
theorem fnExactAngleBetween_c28 : ((Rows.fnExactAngleBetweenRow.kinds == (if Rows.fnExactAngleBetweenRow.domain.isEmpty then [] else Tryz.f9.params.toList.map fun t => match Tryz.pinned.checked.prog.underlying t with | some (.int k) => some k | _ => none))) = true := by kernel_rfl
theorem fnExactAngleBetween_c29 : ((Rows.fnExactAngleBetweenRow.pinned == Rows.fnExactAngleBetweenRow.pinnedBy)) = true := by kernel_rfl
theorem fnExactAngleBetween_c30 : ((Rows.fnExactAngleBetweenRow.veiled == (Tryz.f9.params.toList ++ Rows.fnExactAngleBetweenSpec.plain.varTypes Tryz.pinned.checked.prog ++ Tryz.f9.resultTypes.toList).any (Tryz.pinned.checked.prog.veiledRec ·))) = true := by kernel_rfl
theorem fnExactAngleBetween_c31 : (Rows.fnExactAngleBetweenRow.veiledFits Tryz.pinned.checked.prog Tryz.f9.params.toList (Tryz.f9.params.toList ++ Rows.fnExactAngleBetweenSpec.plain.varTypes Tryz.pinned.checked.prog ++ Tryz.f9.resultTypes.toList)) = true := by kernel_rfl
theorem fnExactAngleBetween_closed : joinedFacts Tryz.pinned.checked.prog 9 Tryz.f9 Rows.fnExactAngleBetweenSpec Rows.fnExactAngleBetweenRow = true := by
  unfold joinedFacts
  exact (and_t (and_t (and_t (and_t (and_t (and_t (and_t (and_t (and_t (and_t (and_t (and_t (and_t (and_t (and_t (and_t (and_t (and_t (and_t (and_t (and_t (and_t (and_t (and_t (and_t (and_t (and_t (and_t (and_t (and_t (and_t fnExactAngleBetween_c0 j_1) j_2) fnExactAngleBetween_c3) fnExactAngleBetween_c4) fnExactAngleBetween_c5) j_6) fnExactAngleBetween_c7) j_8) fnExactAngleBetween_c9) fnExactAngleBetween_c10) fnExactAngleBetween_c11) fnExactAngleBetween_c12) fnExactAngleBetween_c13) fnExactAngleBetween_c14) fnExactAngleBetween_c15) fnExactAngleBetween_c16) fnExactAngleBetween_c17) fnExactAngleBetween_c18) fnExactAngleBetween_c19) fnExactAngleBetween_c20) fnExactAngleBetween_c21) j_22) fnExactAngleBetween_c23) j_24) j_25) j_26) j_27) fnExactAngleBetween_c28) fnExactAngleBetween_c29) fnExactAngleBetween_c30) fnExactAngleBetween_c31)
end
set_option maxRecDepth 100000 in
theorem fnExactAngleBetween_lifted (os : Os) (started : os.Started) (H : Type) (enc : TypeId × Value → H) :
    ReturnsInHanded {} Tryz.checked os 9 .any (Rows.fnExactAngleBetweenSpec.pre6 enc Tryz.prog Tryz.f9 Rows.fnExactAngleBetweenRow.domain false) (Rows.fnExactAngleBetweenSpec.post enc Tryz.prog Tryz.f9 false true false false) := by
  refine returnsInHanded_of_change (C := Tryz.checked) fnExactAngleBetween_own started (by kernel_rfl) Tryz.func9
    (ChangeSpec.witness6 (enc := enc) (C := Tryz.checked) false ⟨#[], #[.agg #[.int .i64 0, .int .i64 0], .agg #[.int .i64 0, .int .i64 0]], []⟩ 8 (by kernel_rfl) (by kernel_rfl) (by kernel_rfl) (by kernel_rfl)) ?_
  intro W base args ds gs before hval0 hW hcnd _
  have hval : ∀ (j : Nat) t v, Tryz.f9.params[j]? = some t → args[j]? = some v → Value.okWide Tryz.prog W .any base t v := hval0
  have hW1 := hW
  obtain ⟨p, q, hA0, hV, rfl, hfz, hnd⟩ := hW
  have hA : DataW.TrodAll enc Tryz.prog W 0 (fun _ => true) true Tryz.f9.params.toList args.toList ds p := hA0
  rw [Tryz.params9] at hA hval
  obtain ⟨v0, v1, d0, d1, p0, p1, rfl, rfl, rfl, h0, h1⟩ := trodAll_two hA
  obtain ⟨rfl, rfl⟩ := trodVars_none hV
  obtain ⟨⟨x0, r0⟩, rfl, s0⟩ := Ev.open_arg (α := Ev.Point) (by kernel_rfl) (by kernel_rfl) (hval 0 23 v0 rfl rfl) h0
  obtain ⟨⟨x1, r1⟩, rfl, s1⟩ := Ev.open_arg (α := Ev.Point) (by kernel_rfl) (by kernel_rfl) (hval 1 23 v1 rfl rfl) h1
  clear hA0 hval0
  refine (Ev.Tb.run_sound (ρ := fun _ => none) (t := Ev.Tb9) (b := Ev.B9) (γ := Bool) (y := true) (Ev.law_FnExactAngleBetween x0 x1) (.cons (r0 _) (.cons (r1 _) .nil)) (by simp [Ev.V.pfs, Ev.Enc.pf])).mono fun e W1 he => ?_
  obtain ⟨x, rfl, hx, hb⟩ := he
  have hx1 := hx (fun _ => none)
  cases hx1
  exact ⟨_, rfl, Ev.post_flat hW1 (fun _ _ _ => trodAll_mk1 (shut_bool Tryz.underlying4 true)) (fun sp => trodAll_mk2 (s0 _ _ _ _) (s1 _ _ _ _)) (fun _ => rfl) hb (ok_one (by kernel_rfl) rfl (okWide_bool_mk Tryz.underlying4 true))⟩

theorem fnExactAngleBetween_holds : Rows.FnExactAngleBetweenSaid :=
  OpenClaim.holds_of_wide 9 Tryz.f9 rfl rfl rfl rfl rfl rfl rfl ⟨rfl, rfl, rfl, rfl, rfl⟩ rfl rfl rfl rfl rfl (by kernel_rfl) Tryz.func9 fnExactAngleBetween_closed
    (of_decide_eq_true (by kernel_rfl)) (by unfold Func.isWrapper; first | (rw [if_pos (by decide +kernel)]; kernel_rfl) | (rw [if_neg (by decide +kernel)]; exact ⟨rfl, rfl⟩))
    (fun os started H enc _ => fnExactAngleBetween_lifted os started H enc)

end Go.Proofs.YtjfkljhgbomkiaaGreat
