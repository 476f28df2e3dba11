/- The law FnExactDestination gives true, whatever comes in; each argument reads behind the call as it read before. No conditions. -/
import Derived.Test.YtjfkljhgbomkiaaGreatEv7
import Derived.Test.YtjfkljhgbomkiaaGreatP14
import Derived.Test.YtjfkljhgbomkiaaGreatRows
import Derived.Test.YtjfkljhgbomkiaaGreatRJ
namespace Go.Proofs.YtjfkljhgbomkiaaGreat
open Go.ChangeShapes Go.WideShapes Go.ChangeAt Go.RowKit

theorem fnExactDestination_own : ownKnob Tryz.prog.godebug = none := by kernel_rfl
section
open Go
set_option maxRecDepth 100000
theorem fnExactDestination_c0 : (Rows.fnExactDestinationRow.wf (OpenSpec.ofChange Rows.fnExactDestinationSpec)) = true := by kernel_rfl
theorem fnExactDestination_c3 : (Tryz.f11.params.all (Tryz.pinned.checked.prog.readableRec ·)) = true := by kernel_rfl
theorem fnExactDestination_c4 : (namedTie Tryz.pinned.checked.prog Rows.fnExactDestinationRow.named Rows.fnExactDestinationSpec.vars) = true := by kernel_rfl
theorem fnExactDestination_c5 : ((Rows.fnExactDestinationRow.stops == [])) = true := by kernel_rfl
theorem fnExactDestination_c7 : ((Rows.fnExactDestinationRow.knobs == [])) = true := by kernel_rfl
theorem fnExactDestination_c9 : ((Rows.fnExactDestinationRow.inPlace == Tryz.pinned.checked.prog.inPlace 11)) = true := by kernel_rfl
theorem fnExactDestination_c10 : ((Rows.fnExactDestinationRow.unfollowed == Tryz.pinned.checked.prog.unfollowed 11)) = true := by kernel_rfl
theorem fnExactDestination_c11 : ((Rows.fnExactDestinationRow.recurses == Tryz.pinned.checked.prog.recurses 11)) = true := by kernel_rfl
theorem fnExactDestination_c12 : ((Rows.fnExactDestinationRow.named == Tryz.pinned.checked.prog.varsNamed 11)) = true := by kernel_rfl
theorem fnExactDestination_c13 : ((Rows.fnExactDestinationRow.maps == (Tryz.f11.params.toList ++ Rows.fnExactDestinationSpec.plain.varTypes Tryz.pinned.checked.prog).any (Tryz.pinned.checked.prog.mapsRec ·))) = true := by kernel_rfl
theorem fnExactDestination_c14 : ((Rows.fnExactDestinationRow.ifaces == (Tryz.f11.params.toList ++ Rows.fnExactDestinationSpec.plain.varTypes Tryz.pinned.checked.prog).any (Tryz.pinned.checked.prog.ifacesRec ·))) = true := by kernel_rfl
theorem fnExactDestination_c15 : ((Rows.fnExactDestinationRow.mapsOut == Tryz.pinned.checked.prog.mapsAmong Tryz.f11.resultTypes.toList)) = true := by kernel_rfl
theorem fnExactDestination_c16 : ((Rows.fnExactDestinationRow.loops == (Tryz.f11.params.toList ++ Rows.fnExactDestinationSpec.plain.varTypes Tryz.pinned.checked.prog).any (Tryz.pinned.checked.prog.loopsFrom ·))) = true := by kernel_rfl
theorem fnExactDestination_c17 : ((Rows.fnExactDestinationRow.wideKeys == (Tryz.f11.params.toList ++ Rows.fnExactDestinationSpec.plain.varTypes Tryz.pinned.checked.prog ++ Tryz.f11.resultTypes.toList).any (Tryz.pinned.checked.prog.wideKeysFrom ·))) = true := by kernel_rfl
theorem fnExactDestination_c18 : (Rows.fnExactDestinationSpec.vars.all (Tryz.pinned.checked.prog.varReadable ·)) = true := by kernel_rfl
theorem fnExactDestination_c19 : (Tryz.f11.resultTypes.all (fun t => Tryz.pinned.checked.prog.readableRec t && decide (t < Tryz.pinned.checked.prog.types.size))) = true := by kernel_rfl
theorem fnExactDestination_c20 : ((Rows.fnExactDestinationRow.ifacesOut == Tryz.f11.resultTypes.toList.any (Tryz.pinned.checked.prog.ifacesRec ·))) = true := by kernel_rfl
theorem fnExactDestination_c21 : ((Rows.fnExactDestinationRow.loopsOut == Tryz.f11.resultTypes.toList.any (Tryz.pinned.checked.prog.loopsFrom ·))) = true := by kernel_rfl
theorem fnExactDestination_c23 : (Rows.fnExactDestinationRow.shortTexts.isNone) = true := by kernel_rfl
theorem fnExactDestination_c28 : ((Rows.fnExactDestinationRow.kinds == (if Rows.fnExactDestinationRow.domain.isEmpty then [] else Tryz.f11.params.toList.map fun t => match Tryz.pinned.checked.prog.underlying t with | some (.int k) => some k | _ => none))) = true := by kernel_rfl
theorem fnExactDestination_c29 : ((Rows.fnExactDestinationRow.pinned == Rows.fnExactDestinationRow.pinnedBy)) = true := by kernel_rfl
theorem fnExactDestination_c30 : ((Rows.fnExactDestinationRow.veiled == (Tryz.f11.params.toList ++ Rows.fnExactDestinationSpec.plain.varTypes Tryz.pinned.checked.prog ++ Tryz.f11.resultTypes.toList).any (Tryz.pinned.checked.prog.veiledRec ·))) = true := by kernel_rfl
theorem fnExactDestination_c31 : (Rows.fnExactDestinationRow.veiledFits Tryz.pinned.checked.prog Tryz.f11.params.toList (Tryz.f11.params.toList ++ Rows.fnExactDestinationSpec.plain.varTypes Tryz.pinned.checked.prog ++ Tryz.f11.resultTypes.toList)) = true := by kernel_rfl
theorem fnExactDestination_closed : joinedFacts Tryz.pinned.checked.prog 11 Tryz.f11 Rows.fnExactDestinationSpec Rows.fnExactDestinationRow = true := by
  unfold joinedFacts
  exact (and_t (and_t (and_t (and_t (and_t (and_t (and_t (and_t (and_t (and_t (and_t (and_t (and_t (and_t (and_t (and_t (and_t (and_t (and_t (and_t (and_t (and_t (and_t (and_t (and_t (and_t (and_t (and_t (and_t (and_t (and_t fnExactDestination_c0 j_1) j_2) fnExactDestination_c3) fnExactDestination_c4) fnExactDestination_c5) j_6) fnExactDestination_c7) j_8) fnExactDestination_c9) fnExactDestination_c10) fnExactDestination_c11) fnExactDestination_c12) fnExactDestination_c13) fnExactDestination_c14) fnExactDestination_c15) fnExactDestination_c16) fnExactDestination_c17) fnExactDestination_c18) fnExactDestination_c19) fnExactDestination_c20) fnExactDestination_c21) j_22) fnExactDestination_c23) j_24) j_25) j_26) j_27) fnExactDestination_c28) fnExactDestination_c29) fnExactDestination_c30) fnExactDestination_c31)
end
set_option maxRecDepth 100000 in
theorem fnExactDestination_lifted (os : Os) (started : os.Started) (H : Type) (enc : TypeId × Value → H) :
    ReturnsInHanded {} Tryz.checked os 11 .any (Rows.fnExactDestinationSpec.pre6 enc Tryz.prog Tryz.f11 Rows.fnExactDestinationRow.domain false) (Rows.fnExactDestinationSpec.post enc Tryz.prog Tryz.f11 false true false false) := by
  refine returnsInHanded_of_change (C := Tryz.checked) fnExactDestination_own started (by kernel_rfl) Tryz.func11
    (ChangeSpec.witness6 (enc := enc) (C := Tryz.checked) false ⟨#[], #[.agg #[.int .i64 0, .int .i64 0], .agg #[.int .i64 0, .int .i64 0], .agg #[.int .i64 0, .int .i64 0]], []⟩ 8 (by kernel_rfl) (by kernel_rfl) (by kernel_rfl) (by kernel_rfl)) ?_
  intro W base args ds gs before hval0 hW hcnd _
  have hval : ∀ (j : Nat) t v, Tryz.f11.params[j]? = some t → args[j]? = some v → Value.okWide Tryz.prog W .any base t v := hval0
  have hW1 := hW
  obtain ⟨p, q, hA0, hV, rfl, hfz, hnd⟩ := hW
  have hA : DataW.TrodAll enc Tryz.prog W 0 (fun _ => true) true Tryz.f11.params.toList args.toList ds p := hA0
  rw [Tryz.params11] at hA hval
  obtain ⟨v0, v1, v2, d0, d1, d2, p0, p1, p2, rfl, rfl, rfl, h0, h1, h2⟩ := trodAll_three hA
  obtain ⟨rfl, rfl⟩ := trodVars_none hV
  obtain ⟨⟨x0, r0⟩, rfl, s0⟩ := Ev.open_arg (α := Ev.Point) (by kernel_rfl) (by kernel_rfl) (hval 0 23 v0 rfl rfl) h0
  obtain ⟨⟨x1, r1⟩, rfl, s1⟩ := Ev.open_arg (α := Ev.Iv) (by kernel_rfl) (by kernel_rfl) (hval 1 37 v1 rfl rfl) h1
  obtain ⟨⟨x2, r2⟩, rfl, s2⟩ := Ev.open_arg (α := Ev.Iv) (by kernel_rfl) (by kernel_rfl) (hval 2 37 v2 rfl rfl) h2
  clear hA0 hval0
  refine (Ev.Tb.run_sound (ρ := fun _ => none) (t := Ev.Tb11) (b := Ev.B11) (γ := Bool) (y := true) (Ev.law_FnExactDestination x0 x1 x2) (.cons (r0 _) (.cons (r1 _) (.cons (r2 _) .nil))) (by simp [Ev.V.pfs, Ev.Enc.pf])).mono fun e W1 he => ?_
  obtain ⟨x, rfl, hx, hb⟩ := he
  have hx1 := hx (fun _ => none)
  cases hx1
  exact ⟨_, rfl, Ev.post_flat hW1 (fun _ _ _ => trodAll_mk1 (shut_bool Tryz.underlying4 true)) (fun sp => trodAll_mk3 (s0 _ _ _ _) (s1 _ _ _ _) (s2 _ _ _ _)) (fun _ => rfl) hb (ok_one (by kernel_rfl) rfl (okWide_bool_mk Tryz.underlying4 true))⟩

theorem fnExactDestination_holds : Rows.FnExactDestinationSaid :=
  OpenClaim.holds_of_wide 11 Tryz.f11 rfl rfl rfl rfl rfl rfl rfl ⟨rfl, rfl, rfl, rfl, rfl⟩ rfl rfl rfl rfl rfl (by kernel_rfl) Tryz.func11 fnExactDestination_closed
    (of_decide_eq_true (by kernel_rfl)) (by unfold Func.isWrapper; first | (rw [if_pos (by decide +kernel)]; kernel_rfl) | (rw [if_neg (by decide +kernel)]; exact ⟨rfl, rfl⟩))
    (fun os started H enc _ => fnExactDestination_lifted os started H enc)

end Go.Proofs.YtjfkljhgbomkiaaGreat
