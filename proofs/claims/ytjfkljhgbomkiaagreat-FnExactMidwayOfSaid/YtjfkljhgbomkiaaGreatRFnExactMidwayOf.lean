/- The law FnExactMidwayOf gives true, whatever comes in; each argument reads behind the call as it read before. No conditions. -/
import Derived.Test.YtjfkljhgbomkiaaGreatEv7
import Derived.Test.YtjfkljhgbomkiaaGreatP14
import Derived.Test.YtjfkljhgbomkiaaGreatRows
import Derived.Test.YtjfkljhgbomkiaaGreatRJ
namespace Go.Proofs.YtjfkljhgbomkiaaGreat
open Go.ChangeShapes Go.WideShapes Go.ChangeAt Go.RowKit

theorem fnExactMidwayOf_own : ownKnob Tryz.prog.godebug = none := by kernel_rfl
section
open Go
set_option maxRecDepth 100000
theorem fnExactMidwayOf_c0 : (Rows.fnExactMidwayOfRow.wf (OpenSpec.ofChange Rows.fnExactMidwayOfSpec)) = true := by kernel_rfl
theorem fnExactMidwayOf_c3 : (Tryz.f8.params.all (Tryz.pinned.checked.prog.readableRec ·)) = true := by kernel_rfl
theorem fnExactMidwayOf_c4 : (namedTie Tryz.pinned.checked.prog Rows.fnExactMidwayOfRow.named Rows.fnExactMidwayOfSpec.vars) = true := by kernel_rfl
theorem fnExactMidwayOf_c5 : ((Rows.fnExactMidwayOfRow.stops == [])) = true := by kernel_rfl
theorem fnExactMidwayOf_c7 : ((Rows.fnExactMidwayOfRow.knobs == [])) = true := by kernel_rfl
theorem fnExactMidwayOf_c9 : ((Rows.fnExactMidwayOfRow.inPlace == Tryz.pinned.checked.prog.inPlace 8)) = true := by kernel_rfl
theorem fnExactMidwayOf_c10 : ((Rows.fnExactMidwayOfRow.unfollowed == Tryz.pinned.checked.prog.unfollowed 8)) = true := by kernel_rfl
theorem fnExactMidwayOf_c11 : ((Rows.fnExactMidwayOfRow.recurses == Tryz.pinned.checked.prog.recurses 8)) = true := by kernel_rfl
theorem fnExactMidwayOf_c12 : ((Rows.fnExactMidwayOfRow.named == Tryz.pinned.checked.prog.varsNamed 8)) = true := by kernel_rfl
theorem fnExactMidwayOf_c13 : ((Rows.fnExactMidwayOfRow.maps == (Tryz.f8.params.toList ++ Rows.fnExactMidwayOfSpec.plain.varTypes Tryz.pinned.checked.prog).any (Tryz.pinned.checked.prog.mapsRec ·))) = true := by kernel_rfl
theorem fnExactMidwayOf_c14 : ((Rows.fnExactMidwayOfRow.ifaces == (Tryz.f8.params.toList ++ Rows.fnExactMidwayOfSpec.plain.varTypes Tryz.pinned.checked.prog).any (Tryz.pinned.checked.prog.ifacesRec ·))) = true := by kernel_rfl
theorem fnExactMidwayOf_c15 : ((Rows.fnExactMidwayOfRow.mapsOut == Tryz.pinned.checked.prog.mapsAmong Tryz.f8.resultTypes.toList)) = true := by kernel_rfl
theorem fnExactMidwayOf_c16 : ((Rows.fnExactMidwayOfRow.loops == (Tryz.f8.params.toList ++ Rows.fnExactMidwayOfSpec.plain.varTypes Tryz.pinned.checked.prog).any (Tryz.pinned.checked.prog.loopsFrom ·))) = true := by kernel_rfl
theorem fnExactMidwayOf_c17 : ((Rows.fnExactMidwayOfRow.wideKeys == (Tryz.f8.params.toList ++ Rows.fnExactMidwayOfSpec.plain.varTypes Tryz.pinned.checked.prog ++ Tryz.f8.resultTypes.toList).any (Tryz.pinned.checked.prog.wideKeysFrom ·))) = true := by kernel_rfl
theorem fnExactMidwayOf_c18 : (Rows.fnExactMidwayOfSpec.vars.all (Tryz.pinned.checked.prog.varReadable ·)) = true := by kernel_rfl
theorem fnExactMidwayOf_c19 : (Tryz.f8.resultTypes.all (fun t => Tryz.pinned.checked.prog.readableRec t && decide (t < Tryz.pinned.checked.prog.types.size))) = true := by kernel_rfl
theorem fnExactMidwayOf_c20 : ((Rows.fnExactMidwayOfRow.ifacesOut == Tryz.f8.resultTypes.toList.any (Tryz.pinned.checked.prog.ifacesRec ·))) = true := by kernel_rfl
theorem fnExactMidwayOf_c21 : ((Rows.fnExactMidwayOfRow.loopsOut == Tryz.f8.resultTypes.toList.any (Tryz.pinned.checked.prog.loopsFrom ·))) = true := by kernel_rfl
theorem fnExactMidwayOf_c23 : (Rows.fnExactMidwayOfRow.shortTexts.isNone) = true := by kernel_rfl
theorem fnExactMidwayOf_c28 : ((Rows.fnExactMidwayOfRow.kinds == (if Rows.fnExactMidwayOfRow.domain.isEmpty then [] else Tryz.f8.params.toList.map fun t => match Tryz.pinned.checked.prog.underlying t with | some (.int k) => some k | _ => none))) = true := by kernel_rfl
theorem fnExactMidwayOf_c29 : ((Rows.fnExactMidwayOfRow.pinned == Rows.fnExactMidwayOfRow.pinnedBy)) = true := by kernel_rfl
theorem fnExactMidwayOf_c30 : ((Rows.fnExactMidwayOfRow.veiled == (Tryz.f8.params.toList ++ Rows.fnExactMidwayOfSpec.plain.varTypes Tryz.pinned.checked.prog ++ Tryz.f8.resultTypes.toList).any (Tryz.pinned.checked.prog.veiledRec ·))) = true := by kernel_rfl
theorem fnExactMidwayOf_c31 : (Rows.fnExactMidwayOfRow.veiledFits Tryz.pinned.checked.prog Tryz.f8.params.toList (Tryz.f8.params.toList ++ Rows.fnExactMidwayOfSpec.plain.varTypes Tryz.pinned.checked.prog ++ Tryz.f8.resultTypes.toList)) = true := by kernel_rfl
theorem fnExactMidwayOf_closed : joinedFacts Tryz.pinned.checked.prog 8 Tryz.f8 Rows.fnExactMidwayOfSpec Rows.fnExactMidwayOfRow = true := by
  unfold joinedFacts
  exact (and_t (and_t (and_t (and_t (and_t (and_t (and_t (and_t (and_t (and_t (and_t (and_t (and_t (and_t (and_t (and_t (and_t (and_t (and_t (and_t (and_t (and_t (and_t (and_t (and_t (and_t (and_t (and_t (and_t (and_t (and_t fnExactMidwayOf_c0 j_1) j_2) fnExactMidwayOf_c3) fnExactMidwayOf_c4) fnExactMidwayOf_c5) j_6) fnExactMidwayOf_c7) j_8) fnExactMidwayOf_c9) fnExactMidwayOf_c10) fnExactMidwayOf_c11) fnExactMidwayOf_c12) fnExactMidwayOf_c13) fnExactMidwayOf_c14) fnExactMidwayOf_c15) fnExactMidwayOf_c16) fnExactMidwayOf_c17) fnExactMidwayOf_c18) fnExactMidwayOf_c19) fnExactMidwayOf_c20) fnExactMidwayOf_c21) j_22) fnExactMidwayOf_c23) j_24) j_25) j_26) j_27) fnExactMidwayOf_c28) fnExactMidwayOf_c29) fnExactMidwayOf_c30) fnExactMidwayOf_c31)
end
set_option maxRecDepth 100000 in
theorem fnExactMidwayOf_lifted (os : Os) (started : os.Started) (H : Type) (enc : TypeId × Value → H) :
    ReturnsInHanded {} Tryz.checked os 8 .any (Rows.fnExactMidwayOfSpec.pre6 enc Tryz.prog Tryz.f8 Rows.fnExactMidwayOfRow.domain false) (Rows.fnExactMidwayOfSpec.post enc Tryz.prog Tryz.f8 false true false false) := by
  refine returnsInHanded_of_change (C := Tryz.checked) fnExactMidwayOf_own started (by kernel_rfl) Tryz.func8
    (ChangeSpec.witness6 (enc := enc) (C := Tryz.checked) false ⟨#[], #[.agg #[.int .i64 0, .int .i64 0], .agg #[.int .i64 0, .int .i64 0]], []⟩ 8 (by kernel_rfl) (by kernel_rfl) (by kernel_rfl) (by kernel_rfl)) ?_
  intro W base args ds gs before hval0 hW hcnd _
  have hval : ∀ (j : Nat) t v, Tryz.f8.params[j]? = some t → args[j]? = some v → Value.okWide Tryz.prog W .any base t v := hval0
  have hW1 := hW
  obtain ⟨p, q, hA0, hV, rfl, hfz, hnd⟩ := hW
  have hA : DataW.TrodAll enc Tryz.prog W 0 (fun _ => true) true Tryz.f8.params.toList args.toList ds p := hA0
  rw [Tryz.params8] at hA hval
  obtain ⟨v0, v1, d0, d1, p0, p1, rfl, rfl, rfl, h0, h1⟩ := trodAll_two hA
  obtain ⟨rfl, rfl⟩ := trodVars_none hV
  obtain ⟨⟨x0, r0⟩, rfl, s0⟩ := Ev.open_arg (α := Ev.Point) (by kernel_rfl) (by kernel_rfl) (hval 0 23 v0 rfl rfl) h0
  obtain ⟨⟨x1, r1⟩, rfl, s1⟩ := Ev.open_arg (α := Ev.Point) (by kernel_rfl) (by kernel_rfl) (hval 1 23 v1 rfl rfl) h1
  clear hA0 hval0
  refine (Ev.Tb.run_sound (ρ := fun _ => none) (t := Ev.Tb8) (b := Ev.B8) (γ := Bool) (y := true) (Ev.law_FnExactMidwayOf x0 x1) (.cons (r0 _) (.cons (r1 _) .nil)) (by simp [Ev.V.pfs, Ev.Enc.pf])).mono fun e W1 he => ?_
  obtain ⟨x, rfl, hx, hb⟩ := he
  have hx1 := hx (fun _ => none)
  cases hx1
  exact ⟨_, rfl, Ev.post_flat hW1 (fun _ _ _ => trodAll_mk1 (shut_bool Tryz.underlying4 true)) (fun sp => trodAll_mk2 (s0 _ _ _ _) (s1 _ _ _ _)) (fun _ => rfl) hb (ok_one (by kernel_rfl) rfl (okWide_bool_mk Tryz.underlying4 true))⟩

theorem fnExactMidwayOf_holds : Rows.FnExactMidwayOfSaid :=
  OpenClaim.holds_of_wide 8 Tryz.f8 rfl rfl rfl rfl rfl rfl rfl ⟨rfl, rfl, rfl, rfl, rfl⟩ rfl rfl rfl rfl rfl (by kernel_rfl) Tryz.func8 fnExactMidwayOf_closed
    (of_decide_eq_true (by kernel_rfl)) (by unfold Func.isWrapper; first | (rw [if_pos (by decide +kernel)]; kernel_rfl) | (rw [if_neg (by decide +kernel)]; exact ⟨rfl, rfl⟩))
    (fun os started H enc _ => fnExactMidwayOf_lifted os started H enc)

end Go.Proofs.YtjfkljhgbomkiaaGreat
