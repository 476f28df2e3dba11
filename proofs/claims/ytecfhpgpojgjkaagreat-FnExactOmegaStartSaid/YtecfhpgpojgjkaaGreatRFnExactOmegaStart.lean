/- The law FnExactOmegaStart gives true, whatever comes in; each argument reads behind the call as it read before. No conditions. -/
import Derived.Test.YtecfhpgpojgjkaaGreatEvC
import Derived.Test.YtecfhpgpojgjkaaGreatP31
import Derived.Test.YtecfhpgpojgjkaaGreatRows
import Derived.Test.YtecfhpgpojgjkaaGreatRJ
namespace Go.Proofs.YtecfhpgpojgjkaaGreat
open Go.ChangeShapes Go.WideShapes Go.ChangeAt Go.RowKit

theorem fnExactOmegaStart_own : ownKnob Tryz.prog.godebug = none := by kernel_rfl
section
open Go
set_option maxRecDepth 100000
theorem fnExactOmegaStart_c0 : (Rows.fnExactOmegaStartRow.wf (OpenSpec.ofChange Rows.fnExactOmegaStartSpec)) = true := by kernel_rfl
theorem fnExactOmegaStart_c3 : (Tryz.f9.params.all (Tryz.pinned.checked.prog.readableRec ·)) = true := by kernel_rfl
theorem fnExactOmegaStart_c4 : (namedTie Tryz.pinned.checked.prog Rows.fnExactOmegaStartRow.named Rows.fnExactOmegaStartSpec.vars) = true := by kernel_rfl
theorem fnExactOmegaStart_c5 : ((Rows.fnExactOmegaStartRow.stops == [])) = true := by kernel_rfl
theorem fnExactOmegaStart_c7 : ((Rows.fnExactOmegaStartRow.knobs == [])) = true := by kernel_rfl
theorem fnExactOmegaStart_c9 : ((Rows.fnExactOmegaStartRow.inPlace == Tryz.pinned.checked.prog.inPlace 9)) = true := by kernel_rfl
theorem fnExactOmegaStart_c10 : ((Rows.fnExactOmegaStartRow.unfollowed == Tryz.pinned.checked.prog.unfollowed 9)) = true := by kernel_rfl
theorem fnExactOmegaStart_c11 : ((Rows.fnExactOmegaStartRow.recurses == Tryz.pinned.checked.prog.recurses 9)) = true := by kernel_rfl
theorem fnExactOmegaStart_c12 : ((Rows.fnExactOmegaStartRow.named == Tryz.pinned.checked.prog.varsNamed 9)) = true := by kernel_rfl
theorem fnExactOmegaStart_c13 : ((Rows.fnExactOmegaStartRow.maps == (Tryz.f9.params.toList ++ Rows.fnExactOmegaStartSpec.plain.varTypes Tryz.pinned.checked.prog).any (Tryz.pinned.checked.prog.mapsRec ·))) = true := by kernel_rfl
theorem fnExactOmegaStart_c14 : ((Rows.fnExactOmegaStartRow.ifaces == (Tryz.f9.params.toList ++ Rows.fnExactOmegaStartSpec.plain.varTypes Tryz.pinned.checked.prog).any (Tryz.pinned.checked.prog.ifacesRec ·))) = true := by kernel_rfl
theorem fnExactOmegaStart_c15 : ((Rows.fnExactOmegaStartRow.mapsOut == Tryz.pinned.checked.prog.mapsAmong Tryz.f9.resultTypes.toList)) = true := by kernel_rfl
theorem fnExactOmegaStart_c16 : ((Rows.fnExactOmegaStartRow.loops == (Tryz.f9.params.toList ++ Rows.fnExactOmegaStartSpec.plain.varTypes Tryz.pinned.checked.prog).any (Tryz.pinned.checked.prog.loopsFrom ·))) = true := by kernel_rfl
theorem fnExactOmegaStart_c17 : ((Rows.fnExactOmegaStartRow.wideKeys == (Tryz.f9.params.toList ++ Rows.fnExactOmegaStartSpec.plain.varTypes Tryz.pinned.checked.prog ++ Tryz.f9.resultTypes.toList).any (Tryz.pinned.checked.prog.wideKeysFrom ·))) = true := by kernel_rfl
theorem fnExactOmegaStart_c18 : (Rows.fnExactOmegaStartSpec.vars.all (Tryz.pinned.checked.prog.varReadable ·)) = true := by kernel_rfl
theorem fnExactOmegaStart_c19 : (Tryz.f9.resultTypes.all (fun t => Tryz.pinned.checked.prog.readableRec t && decide (t < Tryz.pinned.checked.prog.types.size))) = true := by kernel_rfl
theorem fnExactOmegaStart_c20 : ((Rows.fnExactOmegaStartRow.ifacesOut == Tryz.f9.resultTypes.toList.any (Tryz.pinned.checked.prog.ifacesRec ·))) = true := by kernel_rfl
theorem fnExactOmegaStart_c21 : ((Rows.fnExactOmegaStartRow.loopsOut == Tryz.f9.resultTypes.toList.any (Tryz.pinned.checked.prog.loopsFrom ·))) = true := by kernel_rfl
theorem fnExactOmegaStart_c23 : (Rows.fnExactOmegaStartRow.shortTexts.isNone) = true := by kernel_rfl
theorem fnExactOmegaStart_c28 : ((Rows.fnExactOmegaStartRow.kinds == (if Rows.fnExactOmegaStartRow.domain.isEmpty then [] else Tryz.f9.params.toList.map fun t => match Tryz.pinned.checked.prog.underlying t with | some (.int k) => some k | _ => none))) = true := by kernel_rfl
theorem fnExactOmegaStart_c29 : ((Rows.fnExactOmegaStartRow.pinned == Rows.fnExactOmegaStartRow.pinnedBy)) = true := by kernel_rfl
theorem fnExactOmegaStart_c30 : ((Rows.fnExactOmegaStartRow.veiled == (Tryz.f9.params.toList ++ Rows.fnExactOmegaStartSpec.plain.varTypes Tryz.pinned.checked.prog ++ Tryz.f9.resultTypes.toList).any (Tryz.pinned.checked.prog.veiledRec ·))) = true := by kernel_rfl
theorem fnExactOmegaStart_c31 : (Rows.fnExactOmegaStartRow.veiledFits Tryz.pinned.checked.prog Tryz.f9.params.toList (Tryz.f9.params.toList ++ Rows.fnExactOmegaStartSpec.plain.varTypes Tryz.pinned.checked.prog ++ Tryz.f9.resultTypes.toList)) = true := by kernel_rfl
theorem fnExactOmegaStart_closed : joinedFacts Tryz.pinned.checked.prog 9 Tryz.f9 Rows.fnExactOmegaStartSpec Rows.fnExactOmegaStartRow = true := by
  unfold joinedFacts
  exact (and_t (and_t (and_t (and_t (and_t (and_t (and_t (and_t (and_t (and_t (and_t (and_t (and_t (and_t (and_t (and_t (and_t (and_t (and_t (and_t (and_t (and_t (and_t (and_t (and_t (and_t (and_t (and_t (and_t (and_t (and_t fnExactOmegaStart_c0 j_1) j_2) fnExactOmegaStart_c3) fnExactOmegaStart_c4) fnExactOmegaStart_c5) j_6) fnExactOmegaStart_c7) j_8) fnExactOmegaStart_c9) fnExactOmegaStart_c10) fnExactOmegaStart_c11) fnExactOmegaStart_c12) fnExactOmegaStart_c13) fnExactOmegaStart_c14) fnExactOmegaStart_c15) fnExactOmegaStart_c16) fnExactOmegaStart_c17) fnExactOmegaStart_c18) fnExactOmegaStart_c19) fnExactOmegaStart_c20) fnExactOmegaStart_c21) j_22) fnExactOmegaStart_c23) j_24) j_25) j_26) j_27) fnExactOmegaStart_c28) fnExactOmegaStart_c29) fnExactOmegaStart_c30) fnExactOmegaStart_c31)
end
set_option maxRecDepth 100000 in
theorem fnExactOmegaStart_lifted (os : Os) (started : os.Started) (H : Type) (enc : TypeId × Value → H) :
    ReturnsInHanded {} Tryz.checked os 9 .any (Rows.fnExactOmegaStartSpec.pre6 enc Tryz.prog Tryz.f9 Rows.fnExactOmegaStartRow.domain false) (Rows.fnExactOmegaStartSpec.post enc Tryz.prog Tryz.f9 false true false false) := by
  refine returnsInHanded_of_change (C := Tryz.checked) fnExactOmegaStart_own started (by kernel_rfl) Tryz.func9
    (ChangeSpec.witness6 (enc := enc) (C := Tryz.checked) false ⟨#[], #[.agg #[.int .i64 0, .int .i64 0, .int .i64 0], .agg #[.int .i64 0, .int .i64 0], .agg #[.int .i64 0, .int .i64 0]], []⟩ 8 (by kernel_rfl) (by kernel_rfl) (by kernel_rfl) (by kernel_rfl)) ?_
  intro W base args ds gs before hval0 hW hcnd _
  have hval : ∀ (j : Nat) t v, Tryz.f9.params[j]? = some t → args[j]? = some v → Value.okWide Tryz.prog W .any base t v := hval0
  have hW1 := hW
  obtain ⟨p, q, hA0, hV, rfl, hfz, hnd⟩ := hW
  have hA : DataW.TrodAll enc Tryz.prog W 0 (fun _ => true) true Tryz.f9.params.toList args.toList ds p := hA0
  rw [Tryz.params9] at hA hval
  obtain ⟨v0, v1, v2, d0, d1, d2, p0, p1, p2, rfl, rfl, rfl, h0, h1, h2⟩ := trodAll_three hA
  obtain ⟨rfl, rfl⟩ := trodVars_none hV
  obtain ⟨⟨x0, r0⟩, rfl, s0⟩ := Ev.open_arg (α := Ev.Ell) (by kernel_rfl) (by kernel_rfl) (hval 0 47 v0 rfl rfl) h0
  obtain ⟨⟨x1, r1⟩, rfl, s1⟩ := Ev.open_arg (α := Ev.Point) (by kernel_rfl) (by kernel_rfl) (hval 1 25 v1 rfl rfl) h1
  obtain ⟨⟨x2, r2⟩, rfl, s2⟩ := Ev.open_arg (α := Ev.Point) (by kernel_rfl) (by kernel_rfl) (hval 2 25 v2 rfl rfl) h2
  clear hA0 hval0
  refine (Ev.Tb.run_sound (ρ := fun _ => none) (t := Ev.Tb9) (b := Ev.B9) (γ := Bool) (y := true) (Ev.law_FnExactOmegaStart x0 x1 x2) (.cons (r0 _) (.cons (r1 _) (.cons (r2 _) .nil))) (by simp [Ev.V.pfs, Ev.Enc.pf])).mono fun e W1 he => ?_
  obtain ⟨x, rfl, hx, hb⟩ := he
  have hx1 := hx (fun _ => none)
  cases hx1
  exact ⟨_, rfl, Ev.post_flat hW1 (fun _ _ _ => trodAll_mk1 (shut_bool Tryz.underlying4 true)) (fun sp => trodAll_mk3 (s0 _ _ _ _) (s1 _ _ _ _) (s2 _ _ _ _)) (fun _ => rfl) hb (ok_one (by kernel_rfl) rfl (okWide_bool_mk Tryz.underlying4 true))⟩

theorem fnExactOmegaStart_holds : Rows.FnExactOmegaStartSaid :=
  OpenClaim.holds_of_wide 9 Tryz.f9 rfl rfl rfl rfl rfl rfl rfl ⟨rfl, rfl, rfl, rfl, rfl⟩ rfl rfl rfl rfl rfl (by kernel_rfl) Tryz.func9 fnExactOmegaStart_closed
    (of_decide_eq_true (by kernel_rfl)) (by unfold Func.isWrapper; first | (rw [if_pos (by decide +kernel)]; kernel_rfl) | (rw [if_neg (by decide +kernel)]; exact ⟨rfl, rfl⟩))
    (fun os started H enc _ => fnExactOmegaStart_lifted os started H enc)

end Go.Proofs.YtecfhpgpojgjkaaGreat
