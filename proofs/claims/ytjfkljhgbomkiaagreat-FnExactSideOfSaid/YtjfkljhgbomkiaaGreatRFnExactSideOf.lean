/- The law FnExactSideOf gives true, whatever comes in; each argument reads behind the call as it read before. No conditions. -/
import Derived.Test.YtjfkljhgbomkiaaGreatEv7
import Derived.Test.YtjfkljhgbomkiaaGreatP14
import Derived.Test.YtjfkljhgbomkiaaGreatRows
import Derived.Test.YtjfkljhgbomkiaaGreatRJ
namespace Go.Proofs.YtjfkljhgbomkiaaGreat
open Go.ChangeShapes Go.WideShapes Go.ChangeAt Go.RowKit

theorem fnExactSideOf_own : ownKnob Tryz.prog.godebug = none := by kernel_rfl
section
open Go
set_option maxRecDepth 100000
theorem fnExactSideOf_c0 : (Rows.fnExactSideOfRow.wf (OpenSpec.ofChange Rows.fnExactSideOfSpec)) = true := by kernel_rfl
theorem fnExactSideOf_c3 : (Tryz.f4.params.all (Tryz.pinned.checked.prog.readableRec ·)) = true := by kernel_rfl
theorem fnExactSideOf_c4 : (namedTie Tryz.pinned.checked.prog Rows.fnExactSideOfRow.named Rows.fnExactSideOfSpec.vars) = true := by kernel_rfl
theorem fnExactSideOf_c5 : ((Rows.fnExactSideOfRow.stops == [])) = true := by kernel_rfl
theorem fnExactSideOf_c7 : ((Rows.fnExactSideOfRow.knobs == [])) = true := by kernel_rfl
theorem fnExactSideOf_c9 : ((Rows.fnExactSideOfRow.inPlace == Tryz.pinned.checked.prog.inPlace 4)) = true := by kernel_rfl
theorem fnExactSideOf_c10 : ((Rows.fnExactSideOfRow.unfollowed == Tryz.pinned.checked.prog.unfollowed 4)) = true := by kernel_rfl
theorem fnExactSideOf_c11 : ((Rows.fnExactSideOfRow.recurses == Tryz.pinned.checked.prog.recurses 4)) = true := by kernel_rfl
theorem fnExactSideOf_c12 : ((Rows.fnExactSideOfRow.named == Tryz.pinned.checked.prog.varsNamed 4)) = true := by kernel_rfl
theorem fnExactSideOf_c13 : ((Rows.fnExactSideOfRow.maps == (Tryz.f4.params.toList ++ Rows.fnExactSideOfSpec.plain.varTypes Tryz.pinned.checked.prog).any (Tryz.pinned.checked.prog.mapsRec ·))) = true := by kernel_rfl
theorem fnExactSideOf_c14 : ((Rows.fnExactSideOfRow.ifaces == (Tryz.f4.params.toList ++ Rows.fnExactSideOfSpec.plain.varTypes Tryz.pinned.checked.prog).any (Tryz.pinned.checked.prog.ifacesRec ·))) = true := by kernel_rfl
theorem fnExactSideOf_c15 : ((Rows.fnExactSideOfRow.mapsOut == Tryz.pinned.checked.prog.mapsAmong Tryz.f4.resultTypes.toList)) = true := by kernel_rfl
theorem fnExactSideOf_c16 : ((Rows.fnExactSideOfRow.loops == (Tryz.f4.params.toList ++ Rows.fnExactSideOfSpec.plain.varTypes Tryz.pinned.checked.prog).any (Tryz.pinned.checked.prog.loopsFrom ·))) = true := by kernel_rfl
theorem fnExactSideOf_c17 : ((Rows.fnExactSideOfRow.wideKeys == (Tryz.f4.params.toList ++ Rows.fnExactSideOfSpec.plain.varTypes Tryz.pinned.checked.prog ++ Tryz.f4.resultTypes.toList).any (Tryz.pinned.checked.prog.wideKeysFrom ·))) = true := by kernel_rfl
theorem fnExactSideOf_c18 : (Rows.fnExactSideOfSpec.vars.all (Tryz.pinned.checked.prog.varReadable ·)) = true := by kernel_rfl
theorem fnExactSideOf_c19 : (Tryz.f4.resultTypes.all (fun t => Tryz.pinned.checked.prog.readableRec t && decide (t < Tryz.pinned.checked.prog.types.size))) = true := by kernel_rfl
theorem fnExactSideOf_c20 : ((Rows.fnExactSideOfRow.ifacesOut == Tryz.f4.resultTypes.toList.any (Tryz.pinned.checked.prog.ifacesRec ·))) = true := by kernel_rfl
theorem fnExactSideOf_c21 : ((Rows.fnExactSideOfRow.loopsOut == Tryz.f4.resultTypes.toList.any (Tryz.pinned.checked.prog.loopsFrom ·))) = true := by kernel_rfl
theorem fnExactSideOf_c23 : (Rows.fnExactSideOfRow.shortTexts.isNone) = true := by kernel_rfl
theorem fnExactSideOf_c28 : ((Rows.fnExactSideOfRow.kinds == (if Rows.fnExactSideOfRow.domain.isEmpty then [] else Tryz.f4.params.toList.map fun t => match Tryz.pinned.checked.prog.underlying t with | some (.int k) => some k | _ => none))) = true := by kernel_rfl
theorem fnExactSideOf_c29 : ((Rows.fnExactSideOfRow.pinned == Rows.fnExactSideOfRow.pinnedBy)) = true := by kernel_rfl
theorem fnExactSideOf_c30 : ((Rows.fnExactSideOfRow.veiled == (Tryz.f4.params.toList ++ Rows.fnExactSideOfSpec.plain.varTypes Tryz.pinned.checked.prog ++ Tryz.f4.resultTypes.toList).any (Tryz.pinned.checked.prog.veiledRec ·))) = true := by kernel_rfl
theorem fnExactSideOf_c31 : (Rows.fnExactSideOfRow.veiledFits Tryz.pinned.checked.prog Tryz.f4.params.toList (Tryz.f4.params.toList ++ Rows.fnExactSideOfSpec.plain.varTypes Tryz.pinned.checked.prog ++ Tryz.f4.resultTypes.toList)) = true := by kernel_rfl
theorem fnExactSideOf_closed : joinedFacts Tryz.pinned.checked.prog 4 Tryz.f4 Rows.fnExactSideOfSpec Rows.fnExactSideOfRow = true := by
  unfold joinedFacts
  exact (and_t (and_t (and_t (and_t (and_t (and_t (and_t (and_t (and_t (and_t (and_t (and_t (and_t (and_t (and_t (and_t (and_t (and_t (and_t (and_t (and_t (and_t (and_t (and_t (and_t (and_t (and_t (and_t (and_t (and_t (and_t fnExactSideOf_c0 j_1) j_2) fnExactSideOf_c3) fnExactSideOf_c4) fnExactSideOf_c5) j_6) fnExactSideOf_c7) j_8) fnExactSideOf_c9) fnExactSideOf_c10) fnExactSideOf_c11) fnExactSideOf_c12) fnExactSideOf_c13) fnExactSideOf_c14) fnExactSideOf_c15) fnExactSideOf_c16) fnExactSideOf_c17) fnExactSideOf_c18) fnExactSideOf_c19) fnExactSideOf_c20) fnExactSideOf_c21) j_22) fnExactSideOf_c23) j_24) j_25) j_26) j_27) fnExactSideOf_c28) fnExactSideOf_c29) fnExactSideOf_c30) fnExactSideOf_c31)
end
set_option maxRecDepth 100000 in
theorem fnExactSideOf_lifted (os : Os) (started : os.Started) (H : Type) (enc : TypeId × Value → H) :
    ReturnsInHanded {} Tryz.checked os 4 .any (Rows.fnExactSideOfSpec.pre6 enc Tryz.prog Tryz.f4 Rows.fnExactSideOfRow.domain false) (Rows.fnExactSideOfSpec.post enc Tryz.prog Tryz.f4 false true false false) := by
  refine returnsInHanded_of_change (C := Tryz.checked) fnExactSideOf_own started (by kernel_rfl) Tryz.func4
    (ChangeSpec.witness6 (enc := enc) (C := Tryz.checked) false ⟨#[], #[.agg #[.int .i64 0, .int .i64 0], .agg #[.int .i64 0, .int .i64 0], .agg #[.int .i64 0, .int .i64 0]], []⟩ 8 (by kernel_rfl) (by kernel_rfl) (by kernel_rfl) (by kernel_rfl)) ?_
  intro W base args ds gs before hval0 hW hcnd _
  have hval : ∀ (j : Nat) t v, Tryz.f4.params[j]? = some t → args[j]? = some v → Value.okWide Tryz.prog W .any base t v := hval0
  have hW1 := hW
  obtain ⟨p, q, hA0, hV, rfl, hfz, hnd⟩ := hW
  have hA : DataW.TrodAll enc Tryz.prog W 0 (fun _ => true) true Tryz.f4.params.toList args.toList ds p := hA0
  rw [Tryz.params4] at hA hval
  obtain ⟨v0, v1, v2, d0, d1, d2, p0, p1, p2, rfl, rfl, rfl, h0, h1, h2⟩ := trodAll_three hA
  obtain ⟨rfl, rfl⟩ := trodVars_none hV
  obtain ⟨⟨x0, r0⟩, rfl, s0⟩ := Ev.open_arg (α := Ev.Point) (by kernel_rfl) (by kernel_rfl) (hval 0 23 v0 rfl rfl) h0
  obtain ⟨⟨x1, r1⟩, rfl, s1⟩ := Ev.open_arg (α := Ev.Point) (by kernel_rfl) (by kernel_rfl) (hval 1 23 v1 rfl rfl) h1
  obtain ⟨⟨x2, r2⟩, rfl, s2⟩ := Ev.open_arg (α := Ev.Point) (by kernel_rfl) (by kernel_rfl) (hval 2 23 v2 rfl rfl) h2
  clear hA0 hval0
  refine (Ev.Tb.run_sound (ρ := fun _ => none) (t := Ev.Tb4) (b := Ev.B4) (γ := Bool) (y := true) (Ev.law_FnExactSideOf x0 x1 x2) (.cons (r0 _) (.cons (r1 _) (.cons (r2 _) .nil))) (by simp [Ev.V.pfs, Ev.Enc.pf])).mono fun e W1 he => ?_
  obtain ⟨x, rfl, hx, hb⟩ := he
  have hx1 := hx (fun _ => none)
  cases hx1
  exact ⟨_, rfl, Ev.post_flat hW1 (fun _ _ _ => trodAll_mk1 (shut_bool Tryz.underlying4 true)) (fun sp => trodAll_mk3 (s0 _ _ _ _) (s1 _ _ _ _) (s2 _ _ _ _)) (fun _ => rfl) hb (ok_one (by kernel_rfl) rfl (okWide_bool_mk Tryz.underlying4 true))⟩

theorem fnExactSideOf_holds : Rows.FnExactSideOfSaid :=
  OpenClaim.holds_of_wide 4 Tryz.f4 rfl rfl rfl rfl rfl rfl rfl ⟨rfl, rfl, rfl, rfl, rfl⟩ rfl rfl rfl rfl rfl (by kernel_rfl) Tryz.func4 fnExactSideOf_closed
    (of_decide_eq_true (by kernel_rfl)) (by unfold Func.isWrapper; first | (rw [if_pos (by decide +kernel)]; kernel_rfl) | (rw [if_neg (by decide +kernel)]; exact ⟨rfl, rfl⟩))
    (fun os started H enc _ => fnExactSideOf_lifted os started H enc)

end Go.Proofs.YtjfkljhgbomkiaaGreat
