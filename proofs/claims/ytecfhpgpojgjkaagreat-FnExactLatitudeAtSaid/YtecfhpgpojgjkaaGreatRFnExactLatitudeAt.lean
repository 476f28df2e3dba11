/- The law FnExactLatitudeAt gives true, whatever comes in; each argument reads behind the call as it read before. No conditions. -/
import Derived.Test.YtecfhpgpojgjkaaGreatEvC
import Derived.Test.YtecfhpgpojgjkaaGreatP25
import Derived.Test.YtecfhpgpojgjkaaGreatRows
import Derived.Test.YtecfhpgpojgjkaaGreatRJ
namespace Go.Proofs.YtecfhpgpojgjkaaGreat
open Go.ChangeShapes Go.WideShapes Go.ChangeAt Go.RowKit

theorem fnExactLatitudeAt_own : ownKnob Tryz.prog.godebug = none := by kernel_rfl
section
open Go
set_option maxRecDepth 100000
theorem fnExactLatitudeAt_c0 : (Rows.fnExactLatitudeAtRow.wf (OpenSpec.ofChange Rows.fnExactLatitudeAtSpec)) = true := by kernel_rfl
theorem fnExactLatitudeAt_c3 : (Tryz.f5.params.all (Tryz.pinned.checked.prog.readableRec ·)) = true := by kernel_rfl
theorem fnExactLatitudeAt_c4 : (namedTie Tryz.pinned.checked.prog Rows.fnExactLatitudeAtRow.named Rows.fnExactLatitudeAtSpec.vars) = true := by kernel_rfl
theorem fnExactLatitudeAt_c5 : ((Rows.fnExactLatitudeAtRow.stops == [])) = true := by kernel_rfl
theorem fnExactLatitudeAt_c7 : ((Rows.fnExactLatitudeAtRow.knobs == [])) = true := by kernel_rfl
theorem fnExactLatitudeAt_c9 : ((Rows.fnExactLatitudeAtRow.inPlace == Tryz.pinned.checked.prog.inPlace 5)) = true := by kernel_rfl
theorem fnExactLatitudeAt_c10 : ((Rows.fnExactLatitudeAtRow.unfollowed == Tryz.pinned.checked.prog.unfollowed 5)) = true := by kernel_rfl
theorem fnExactLatitudeAt_c11 : ((Rows.fnExactLatitudeAtRow.recurses == Tryz.pinned.checked.prog.recurses 5)) = true := by kernel_rfl
theorem fnExactLatitudeAt_c12 : ((Rows.fnExactLatitudeAtRow.named == Tryz.pinned.checked.prog.varsNamed 5)) = true := by kernel_rfl
theorem fnExactLatitudeAt_c13 : ((Rows.fnExactLatitudeAtRow.maps == (Tryz.f5.params.toList ++ Rows.fnExactLatitudeAtSpec.plain.varTypes Tryz.pinned.checked.prog).any (Tryz.pinned.checked.prog.mapsRec ·))) = true := by kernel_rfl
theorem fnExactLatitudeAt_c14 : ((Rows.fnExactLatitudeAtRow.ifaces == (Tryz.f5.params.toList ++ Rows.fnExactLatitudeAtSpec.plain.varTypes Tryz.pinned.checked.prog).any (Tryz.pinned.checked.prog.ifacesRec ·))) = true := by kernel_rfl
theorem fnExactLatitudeAt_c15 : ((Rows.fnExactLatitudeAtRow.mapsOut == Tryz.pinned.checked.prog.mapsAmong Tryz.f5.resultTypes.toList)) = true := by kernel_rfl
theorem fnExactLatitudeAt_c16 : ((Rows.fnExactLatitudeAtRow.loops == (Tryz.f5.params.toList ++ Rows.fnExactLatitudeAtSpec.plain.varTypes Tryz.pinned.checked.prog).any (Tryz.pinned.checked.prog.loopsFrom ·))) = true := by kernel_rfl
theorem fnExactLatitudeAt_c17 : ((Rows.fnExactLatitudeAtRow.wideKeys == (Tryz.f5.params.toList ++ Rows.fnExactLatitudeAtSpec.plain.varTypes Tryz.pinned.checked.prog ++ Tryz.f5.resultTypes.toList).any (Tryz.pinned.checked.prog.wideKeysFrom ·))) = true := by kernel_rfl
theorem fnExactLatitudeAt_c18 : (Rows.fnExactLatitudeAtSpec.vars.all (Tryz.pinned.checked.prog.varReadable ·)) = true := by kernel_rfl
theorem fnExactLatitudeAt_c19 : (Tryz.f5.resultTypes.all (fun t => Tryz.pinned.checked.prog.readableRec t && decide (t < Tryz.pinned.checked.prog.types.size))) = true := by kernel_rfl
theorem fnExactLatitudeAt_c20 : ((Rows.fnExactLatitudeAtRow.ifacesOut == Tryz.f5.resultTypes.toList.any (Tryz.pinned.checked.prog.ifacesRec ·))) = true := by kernel_rfl
theorem fnExactLatitudeAt_c21 : ((Rows.fnExactLatitudeAtRow.loopsOut == Tryz.f5.resultTypes.toList.any (Tryz.pinned.checked.prog.loopsFrom ·))) = true := by kernel_rfl
theorem fnExactLatitudeAt_c23 : (Rows.fnExactLatitudeAtRow.shortTexts.isNone) = true := by kernel_rfl
theorem fnExactLatitudeAt_c28 : ((Rows.fnExactLatitudeAtRow.kinds == (if Rows.fnExactLatitudeAtRow.domain.isEmpty then [] else Tryz.f5.params.toList.map fun t => match Tryz.pinned.checked.prog.underlying t with | some (.int k) => some k | _ => none))) = true := by kernel_rfl
theorem fnExactLatitudeAt_c29 : ((Rows.fnExactLatitudeAtRow.pinned == Rows.fnExactLatitudeAtRow.pinnedBy)) = true := by kernel_rfl
theorem fnExactLatitudeAt_c30 : ((Rows.fnExactLatitudeAtRow.veiled == (Tryz.f5.params.toList ++ Rows.fnExactLatitudeAtSpec.plain.varTypes Tryz.pinned.checked.prog ++ Tryz.f5.resultTypes.toList).any (Tryz.pinned.checked.prog.veiledRec ·))) = true := by kernel_rfl
theorem fnExactLatitudeAt_c31 : (Rows.fnExactLatitudeAtRow.veiledFits Tryz.pinned.checked.prog Tryz.f5.params.toList (Tryz.f5.params.toList ++ Rows.fnExactLatitudeAtSpec.plain.varTypes Tryz.pinned.checked.prog ++ Tryz.f5.resultTypes.toList)) = true := by kernel_rfl
theorem fnExactLatitudeAt_closed : joinedFacts Tryz.pinned.checked.prog 5 Tryz.f5 Rows.fnExactLatitudeAtSpec Rows.fnExactLatitudeAtRow = true := by
  unfold joinedFacts
  exact (and_t (and_t (and_t (and_t (and_t (and_t (and_t (and_t (and_t (and_t (and_t (and_t (and_t (and_t (and_t (and_t (and_t (and_t (and_t (and_t (and_t (and_t (and_t (and_t (and_t (and_t (and_t (and_t (and_t (and_t (and_t fnExactLatitudeAt_c0 j_1) j_2) fnExactLatitudeAt_c3) fnExactLatitudeAt_c4) fnExactLatitudeAt_c5) j_6) fnExactLatitudeAt_c7) j_8) fnExactLatitudeAt_c9) fnExactLatitudeAt_c10) fnExactLatitudeAt_c11) fnExactLatitudeAt_c12) fnExactLatitudeAt_c13) fnExactLatitudeAt_c14) fnExactLatitudeAt_c15) fnExactLatitudeAt_c16) fnExactLatitudeAt_c17) fnExactLatitudeAt_c18) fnExactLatitudeAt_c19) fnExactLatitudeAt_c20) fnExactLatitudeAt_c21) j_22) fnExactLatitudeAt_c23) j_24) j_25) j_26) j_27) fnExactLatitudeAt_c28) fnExactLatitudeAt_c29) fnExactLatitudeAt_c30) fnExactLatitudeAt_c31)
end
set_option maxRecDepth 100000 in
theorem fnExactLatitudeAt_lifted (os : Os) (started : os.Started) (H : Type) (enc : TypeId × Value → H) :
    ReturnsInHanded {} Tryz.checked os 5 .any (Rows.fnExactLatitudeAtSpec.pre6 enc Tryz.prog Tryz.f5 Rows.fnExactLatitudeAtRow.domain false) (Rows.fnExactLatitudeAtSpec.post enc Tryz.prog Tryz.f5 false true false false) := by
  refine returnsInHanded_of_change (C := Tryz.checked) fnExactLatitudeAt_own started (by kernel_rfl) Tryz.func5
    (ChangeSpec.witness6 (enc := enc) (C := Tryz.checked) false ⟨#[], #[.int .i64 0, .agg #[.int .i64 0, .int .i64 0, .int .i64 0], .int .i64 0], []⟩ 8 (by kernel_rfl) (by kernel_rfl) (by kernel_rfl) (by kernel_rfl)) ?_
  intro W base args ds gs before hval0 hW hcnd _
  have hval : ∀ (j : Nat) t v, Tryz.f5.params[j]? = some t → args[j]? = some v → Value.okWide Tryz.prog W .any base t v := hval0
  have hW1 := hW
  obtain ⟨p, q, hA0, hV, rfl, hfz, hnd⟩ := hW
  have hA : DataW.TrodAll enc Tryz.prog W 0 (fun _ => true) true Tryz.f5.params.toList args.toList ds p := hA0
  rw [Tryz.params5] at hA hval
  obtain ⟨v0, v1, v2, d0, d1, d2, p0, p1, p2, rfl, rfl, rfl, h0, h1, h2⟩ := trodAll_three hA
  obtain ⟨rfl, rfl⟩ := trodVars_none hV
  obtain ⟨⟨x0, r0⟩, rfl, s0⟩ := Ev.open_arg (α := Ev.I64) (by kernel_rfl) (by kernel_rfl) (hval 0 2 v0 rfl rfl) h0
  obtain ⟨⟨x1, r1⟩, rfl, s1⟩ := Ev.open_arg (α := Ev.Ell) (by kernel_rfl) (by kernel_rfl) (hval 1 47 v1 rfl rfl) h1
  obtain ⟨⟨x2, r2⟩, rfl, s2⟩ := Ev.open_arg (α := Ev.I64) (by kernel_rfl) (by kernel_rfl) (hval 2 2 v2 rfl rfl) h2
  clear hA0 hval0
  refine (Ev.Tb.run_sound (ρ := fun _ => none) (t := Ev.Tb5) (b := Ev.B5) (γ := Bool) (y := true) (Ev.law_FnExactLatitudeAt x0 x1 x2) (.cons (r0 _) (.cons (r1 _) (.cons (r2 _) .nil))) (by simp [Ev.V.pfs, Ev.Enc.pf])).mono fun e W1 he => ?_
  obtain ⟨x, rfl, hx, hb⟩ := he
  have hx1 := hx (fun _ => none)
  cases hx1
  exact ⟨_, rfl, Ev.post_flat hW1 (fun _ _ _ => trodAll_mk1 (shut_bool Tryz.underlying4 true)) (fun sp => trodAll_mk3 (s0 _ _ _ _) (s1 _ _ _ _) (s2 _ _ _ _)) (fun _ => rfl) hb (ok_one (by kernel_rfl) rfl (okWide_bool_mk Tryz.underlying4 true))⟩

theorem fnExactLatitudeAt_holds : Rows.FnExactLatitudeAtSaid :=
  OpenClaim.holds_of_wide 5 Tryz.f5 rfl rfl rfl rfl rfl rfl rfl ⟨rfl, rfl, rfl, rfl, rfl⟩ rfl rfl rfl rfl rfl (by kernel_rfl) Tryz.func5 fnExactLatitudeAt_closed
    (of_decide_eq_true (by kernel_rfl)) (by unfold Func.isWrapper; first | (rw [if_pos (by decide +kernel)]; kernel_rfl) | (rw [if_neg (by decide +kernel)]; exact ⟨rfl, rfl⟩))
    (fun os started H enc _ => fnExactLatitudeAt_lifted os started H enc)

end Go.Proofs.YtecfhpgpojgjkaaGreat
