/- The law FnExactCrossingOf gives true, whatever comes in; each argument reads behind the call as it read before. No conditions. -/
import Derived.Test.YtjfkljhgbomkiaaGreatEv7
import Derived.Test.YtjfkljhgbomkiaaGreatP14
import Derived.Test.YtjfkljhgbomkiaaGreatRows
import Derived.Test.YtjfkljhgbomkiaaGreatRJ
namespace Go.Proofs.YtjfkljhgbomkiaaGreat
open Go.ChangeShapes Go.WideShapes Go.ChangeAt Go.RowKit

theorem fnExactCrossingOf_own : ownKnob Tryz.prog.godebug = none := by kernel_rfl
section
open Go
set_option maxRecDepth 100000
theorem fnExactCrossingOf_c0 : (Rows.fnExactCrossingOfRow.wf (OpenSpec.ofChange Rows.fnExactCrossingOfSpec)) = true := by kernel_rfl
theorem fnExactCrossingOf_c3 : (Tryz.f12.params.all (Tryz.pinned.checked.prog.readableRec ·)) = true := by kernel_rfl
theorem fnExactCrossingOf_c4 : (namedTie Tryz.pinned.checked.prog Rows.fnExactCrossingOfRow.named Rows.fnExactCrossingOfSpec.vars) = true := by kernel_rfl
theorem fnExactCrossingOf_c5 : ((Rows.fnExactCrossingOfRow.stops == [])) = true := by kernel_rfl
theorem fnExactCrossingOf_c7 : ((Rows.fnExactCrossingOfRow.knobs == [])) = true := by kernel_rfl
theorem fnExactCrossingOf_c9 : ((Rows.fnExactCrossingOfRow.inPlace == Tryz.pinned.checked.prog.inPlace 12)) = true := by kernel_rfl
theorem fnExactCrossingOf_c10 : ((Rows.fnExactCrossingOfRow.unfollowed == Tryz.pinned.checked.prog.unfollowed 12)) = true := by kernel_rfl
theorem fnExactCrossingOf_c11 : ((Rows.fnExactCrossingOfRow.recurses == Tryz.pinned.checked.prog.recurses 12)) = true := by kernel_rfl
theorem fnExactCrossingOf_c12 : ((Rows.fnExactCrossingOfRow.named == Tryz.pinned.checked.prog.varsNamed 12)) = true := by kernel_rfl
theorem fnExactCrossingOf_c13 : ((Rows.fnExactCrossingOfRow.maps == (Tryz.f12.params.toList ++ Rows.fnExactCrossingOfSpec.plain.varTypes Tryz.pinned.checked.prog).any (Tryz.pinned.checked.prog.mapsRec ·))) = true := by kernel_rfl
theorem fnExactCrossingOf_c14 : ((Rows.fnExactCrossingOfRow.ifaces == (Tryz.f12.params.toList ++ Rows.fnExactCrossingOfSpec.plain.varTypes Tryz.pinned.checked.prog).any (Tryz.pinned.checked.prog.ifacesRec ·))) = true := by kernel_rfl
theorem fnExactCrossingOf_c15 : ((Rows.fnExactCrossingOfRow.mapsOut == Tryz.pinned.checked.prog.mapsAmong Tryz.f12.resultTypes.toList)) = true := by kernel_rfl
theorem fnExactCrossingOf_c16 : ((Rows.fnExactCrossingOfRow.loops == (Tryz.f12.params.toList ++ Rows.fnExactCrossingOfSpec.plain.varTypes Tryz.pinned.checked.prog).any (Tryz.pinned.checked.prog.loopsFrom ·))) = true := by kernel_rfl
theorem fnExactCrossingOf_c17 : ((Rows.fnExactCrossingOfRow.wideKeys == (Tryz.f12.params.toList ++ Rows.fnExactCrossingOfSpec.plain.varTypes Tryz.pinned.checked.prog ++ Tryz.f12.resultTypes.toList).any (Tryz.pinned.checked.prog.wideKeysFrom ·))) = true := by kernel_rfl
theorem fnExactCrossingOf_c18 : (Rows.fnExactCrossingOfSpec.vars.all (Tryz.pinned.checked.prog.varReadable ·)) = true := by kernel_rfl
theorem fnExactCrossingOf_c19 : (Tryz.f12.resultTypes.all (fun t => Tryz.pinned.checked.prog.readableRec t && decide (t < Tryz.pinned.checked.prog.types.size))) = true := by kernel_rfl
theorem fnExactCrossingOf_c20 : ((Rows.fnExactCrossingOfRow.ifacesOut == Tryz.f12.resultTypes.toList.any (Tryz.pinned.checked.prog.ifacesRec ·))) = true := by kernel_rfl
theorem fnExactCrossingOf_c21 : ((Rows.fnExactCrossingOfRow.loopsOut == Tryz.f12.resultTypes.toList.any (Tryz.pinned.checked.prog.loopsFrom ·))) = true := by kernel_rfl
theorem fnExactCrossingOf_c23 : (Rows.fnExactCrossingOfRow.shortTexts.isNone) = true := by kernel_rfl
theorem fnExactCrossingOf_c28 : ((Rows.fnExactCrossingOfRow.kinds == (if Rows.fnExactCrossingOfRow.domain.isEmpty then [] else Tryz.f12.params.toList.map fun t => match Tryz.pinned.checked.prog.underlying t with | some (.int k) => some k | _ => none))) = true := by kernel_rfl
theorem fnExactCrossingOf_c29 : ((Rows.fnExactCrossingOfRow.pinned == Rows.fnExactCrossingOfRow.pinnedBy)) = true := by kernel_rfl
theorem fnExactCrossingOf_c30 : ((Rows.fnExactCrossingOfRow.veiled == (Tryz.f12.params.toList ++ Rows.fnExactCrossingOfSpec.plain.varTypes Tryz.pinned.checked.prog ++ Tryz.f12.resultTypes.toList).any (Tryz.pinned.checked.prog.veiledRec ·))) = true := by kernel_rfl
theorem fnExactCrossingOf_c31 : (Rows.fnExactCrossingOfRow.veiledFits Tryz.pinned.checked.prog Tryz.f12.params.toList (Tryz.f12.params.toList ++ Rows.fnExactCrossingOfSpec.plain.varTypes Tryz.pinned.checked.prog ++ Tryz.f12.resultTypes.toList)) = true := by kernel_rfl
theorem fnExactCrossingOf_closed : joinedFacts Tryz.pinned.checked.prog 12 Tryz.f12 Rows.fnExactCrossingOfSpec Rows.fnExactCrossingOfRow = true := by
  unfold joinedFacts
  exact (and_t (and_t (and_t (and_t (and_t (and_t (and_t (and_t (and_t (and_t (and_t (and_t (and_t (and_t (and_t (and_t (and_t (and_t (and_t (and_t (and_t (and_t (and_t (and_t (and_t (and_t (and_t (and_t (and_t (and_t (and_t fnExactCrossingOf_c0 j_1) j_2) fnExactCrossingOf_c3) fnExactCrossingOf_c4) fnExactCrossingOf_c5) j_6) fnExactCrossingOf_c7) j_8) fnExactCrossingOf_c9) fnExactCrossingOf_c10) fnExactCrossingOf_c11) fnExactCrossingOf_c12) fnExactCrossingOf_c13) fnExactCrossingOf_c14) fnExactCrossingOf_c15) fnExactCrossingOf_c16) fnExactCrossingOf_c17) fnExactCrossingOf_c18) fnExactCrossingOf_c19) fnExactCrossingOf_c20) fnExactCrossingOf_c21) j_22) fnExactCrossingOf_c23) j_24) j_25) j_26) j_27) fnExactCrossingOf_c28) fnExactCrossingOf_c29) fnExactCrossingOf_c30) fnExactCrossingOf_c31)
end
set_option maxRecDepth 100000 in
theorem fnExactCrossingOf_lifted (os : Os) (started : os.Started) (H : Type) (enc : TypeId × Value → H) :
    ReturnsInHanded {} Tryz.checked os 12 .any (Rows.fnExactCrossingOfSpec.pre6 enc Tryz.prog Tryz.f12 Rows.fnExactCrossingOfRow.domain false) (Rows.fnExactCrossingOfSpec.post enc Tryz.prog Tryz.f12 false true false false) := by
  refine returnsInHanded_of_change (C := Tryz.checked) fnExactCrossingOf_own started (by kernel_rfl) Tryz.func12
    (ChangeSpec.witness6 (enc := enc) (C := Tryz.checked) false ⟨#[], #[.agg #[.int .i64 0, .int .i64 0], .agg #[.int .i64 0, .int .i64 0], .agg #[.int .i64 0, .int .i64 0], .agg #[.int .i64 0, .int .i64 0]], []⟩ 8 (by kernel_rfl) (by kernel_rfl) (by kernel_rfl) (by kernel_rfl)) ?_
  intro W base args ds gs before hval0 hW hcnd _
  have hval : ∀ (j : Nat) t v, Tryz.f12.params[j]? = some t → args[j]? = some v → Value.okWide Tryz.prog W .any base t v := hval0
  have hW1 := hW
  obtain ⟨p, q, hA0, hV, rfl, hfz, hnd⟩ := hW
  have hA : DataW.TrodAll enc Tryz.prog W 0 (fun _ => true) true Tryz.f12.params.toList args.toList ds p := hA0
  rw [Tryz.params12] at hA hval
  obtain ⟨v0, v1, v2, v3, d0, d1, d2, d3, p0, p1, p2, p3, rfl, rfl, rfl, h0, h1, h2, h3⟩ := trodAll_four hA
  obtain ⟨rfl, rfl⟩ := trodVars_none hV
  obtain ⟨⟨x0, r0⟩, rfl, s0⟩ := Ev.open_arg (α := Ev.Point) (by kernel_rfl) (by kernel_rfl) (hval 0 23 v0 rfl rfl) h0
  obtain ⟨⟨x1, r1⟩, rfl, s1⟩ := Ev.open_arg (α := Ev.Point) (by kernel_rfl) (by kernel_rfl) (hval 1 23 v1 rfl rfl) h1
  obtain ⟨⟨x2, r2⟩, rfl, s2⟩ := Ev.open_arg (α := Ev.Point) (by kernel_rfl) (by kernel_rfl) (hval 2 23 v2 rfl rfl) h2
  obtain ⟨⟨x3, r3⟩, rfl, s3⟩ := Ev.open_arg (α := Ev.Point) (by kernel_rfl) (by kernel_rfl) (hval 3 23 v3 rfl rfl) h3
  clear hA0 hval0
  refine (Ev.Tb.run_sound (ρ := fun _ => none) (t := Ev.Tb12) (b := Ev.B12) (γ := Bool) (y := true) (Ev.law_FnExactCrossingOf x0 x1 x2 x3) (.cons (r0 _) (.cons (r1 _) (.cons (r2 _) (.cons (r3 _) .nil)))) (by simp [Ev.V.pfs, Ev.Enc.pf])).mono fun e W1 he => ?_
  obtain ⟨x, rfl, hx, hb⟩ := he
  have hx1 := hx (fun _ => none)
  cases hx1
  exact ⟨_, rfl, Ev.post_flat hW1 (fun _ _ _ => trodAll_mk1 (shut_bool Tryz.underlying4 true)) (fun sp => trodAll_mk4 (s0 _ _ _ _) (s1 _ _ _ _) (s2 _ _ _ _) (s3 _ _ _ _)) (fun _ => rfl) hb (ok_one (by kernel_rfl) rfl (okWide_bool_mk Tryz.underlying4 true))⟩

theorem fnExactCrossingOf_holds : Rows.FnExactCrossingOfSaid :=
  OpenClaim.holds_of_wide 12 Tryz.f12 rfl rfl rfl rfl rfl rfl rfl ⟨rfl, rfl, rfl, rfl, rfl⟩ rfl rfl rfl rfl rfl (by kernel_rfl) Tryz.func12 fnExactCrossingOf_closed
    (of_decide_eq_true (by kernel_rfl)) (by unfold Func.isWrapper; first | (rw [if_pos (by decide +kernel)]; kernel_rfl) | (rw [if_neg (by decide +kernel)]; exact ⟨rfl, rfl⟩))
    (fun os started H enc _ => fnExactCrossingOf_lifted os started H enc)

end Go.Proofs.YtjfkljhgbomkiaaGreat
