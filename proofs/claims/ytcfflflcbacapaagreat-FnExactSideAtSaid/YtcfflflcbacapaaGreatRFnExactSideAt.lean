/- The law FnExactSideAt gives true, whatever comes in; each argument reads behind the call as it read before. No conditions. -/
import Derived.Test.YtcfflflcbacapaaGreatEv7
import Derived.Test.YtcfflflcbacapaaGreatP15
import Derived.Test.YtcfflflcbacapaaGreatRows
import Derived.Test.YtcfflflcbacapaaGreatRJ
namespace Go.Proofs.YtcfflflcbacapaaGreat
open Go.ChangeShapes Go.WideShapes Go.ChangeAt Go.RowKit

theorem fnExactSideAt_own : ownKnob Tryz.prog.godebug = none := by kernel_rfl
section
open Go
set_option maxRecDepth 100000
theorem fnExactSideAt_c0 : (Rows.fnExactSideAtRow.wf (OpenSpec.ofChange Rows.fnExactSideAtSpec)) = true := by kernel_rfl
theorem fnExactSideAt_c3 : (Tryz.f6.params.all (Tryz.pinned.checked.prog.readableRec ·)) = true := by kernel_rfl
theorem fnExactSideAt_c4 : (namedTie Tryz.pinned.checked.prog Rows.fnExactSideAtRow.named Rows.fnExactSideAtSpec.vars) = true := by kernel_rfl
theorem fnExactSideAt_c5 : ((Rows.fnExactSideAtRow.stops == [])) = true := by kernel_rfl
theorem fnExactSideAt_c7 : ((Rows.fnExactSideAtRow.knobs == [])) = true := by kernel_rfl
theorem fnExactSideAt_c9 : ((Rows.fnExactSideAtRow.inPlace == Tryz.pinned.checked.prog.inPlace 6)) = true := by kernel_rfl
theorem fnExactSideAt_c10 : ((Rows.fnExactSideAtRow.unfollowed == Tryz.pinned.checked.prog.unfollowed 6)) = true := by kernel_rfl
theorem fnExactSideAt_c11 : ((Rows.fnExactSideAtRow.recurses == Tryz.pinned.checked.prog.recurses 6)) = true := by kernel_rfl
theorem fnExactSideAt_c12 : ((Rows.fnExactSideAtRow.named == Tryz.pinned.checked.prog.varsNamed 6)) = true := by kernel_rfl
theorem fnExactSideAt_c13 : ((Rows.fnExactSideAtRow.maps == (Tryz.f6.params.toList ++ Rows.fnExactSideAtSpec.plain.varTypes Tryz.pinned.checked.prog).any (Tryz.pinned.checked.prog.mapsRec ·))) = true := by kernel_rfl
theorem fnExactSideAt_c14 : ((Rows.fnExactSideAtRow.ifaces == (Tryz.f6.params.toList ++ Rows.fnExactSideAtSpec.plain.varTypes Tryz.pinned.checked.prog).any (Tryz.pinned.checked.prog.ifacesRec ·))) = true := by kernel_rfl
theorem fnExactSideAt_c15 : ((Rows.fnExactSideAtRow.mapsOut == Tryz.pinned.checked.prog.mapsAmong Tryz.f6.resultTypes.toList)) = true := by kernel_rfl
theorem fnExactSideAt_c16 : ((Rows.fnExactSideAtRow.loops == (Tryz.f6.params.toList ++ Rows.fnExactSideAtSpec.plain.varTypes Tryz.pinned.checked.prog).any (Tryz.pinned.checked.prog.loopsFrom ·))) = true := by kernel_rfl
theorem fnExactSideAt_c17 : ((Rows.fnExactSideAtRow.wideKeys == (Tryz.f6.params.toList ++ Rows.fnExactSideAtSpec.plain.varTypes Tryz.pinned.checked.prog ++ Tryz.f6.resultTypes.toList).any (Tryz.pinned.checked.prog.wideKeysFrom ·))) = true := by kernel_rfl
theorem fnExactSideAt_c18 : (Rows.fnExactSideAtSpec.vars.all (Tryz.pinned.checked.prog.varReadable ·)) = true := by kernel_rfl
theorem fnExactSideAt_c19 : (Tryz.f6.resultTypes.all (fun t => Tryz.pinned.checked.prog.readableRec t && decide (t < Tryz.pinned.checked.prog.types.size))) = true := by kernel_rfl
theorem fnExactSideAt_c20 : ((Rows.fnExactSideAtRow.ifacesOut == Tryz.f6.resultTypes.toList.any (Tryz.pinned.checked.prog.ifacesRec ·))) = true := by kernel_rfl
theorem fnExactSideAt_c21 : ((Rows.fnExactSideAtRow.loopsOut == Tryz.f6.resultTypes.toList.any (Tryz.pinned.checked.prog.loopsFrom ·))) = true := by kernel_rfl
theorem fnExactSideAt_c23 : (Rows.fnExactSideAtRow.shortTexts.isNone) = true := by kernel_rfl
theorem fnExactSideAt_c28 : ((Rows.fnExactSideAtRow.kinds == (if Rows.fnExactSideAtRow.domain.isEmpty then [] else Tryz.f6.params.toList.map fun t => match Tryz.pinned.checked.prog.underlying t with | some (.int k) => some k | _ => none))) = true := by kernel_rfl
theorem fnExactSideAt_c29 : ((Rows.fnExactSideAtRow.pinned == Rows.fnExactSideAtRow.pinnedBy)) = true := by kernel_rfl
theorem fnExactSideAt_c30 : ((Rows.fnExactSideAtRow.veiled == (Tryz.f6.params.toList ++ Rows.fnExactSideAtSpec.plain.varTypes Tryz.pinned.checked.prog ++ Tryz.f6.resultTypes.toList).any (Tryz.pinned.checked.prog.veiledRec ·))) = true := by kernel_rfl
theorem fnExactSideAt_c31 : (Rows.fnExactSideAtRow.veiledFits Tryz.pinned.checked.prog Tryz.f6.params.toList (Tryz.f6.params.toList ++ Rows.fnExactSideAtSpec.plain.varTypes Tryz.pinned.checked.prog ++ Tryz.f6.resultTypes.toList)) = true := by kernel_rfl
theorem fnExactSideAt_closed : joinedFacts Tryz.pinned.checked.prog 6 Tryz.f6 Rows.fnExactSideAtSpec Rows.fnExactSideAtRow = true := by
  unfold joinedFacts
  exact (and_t (and_t (and_t (and_t (and_t (and_t (and_t (and_t (and_t (and_t (and_t (and_t (and_t (and_t (and_t (and_t (and_t (and_t (and_t (and_t (and_t (and_t (and_t (and_t (and_t (and_t (and_t (and_t (and_t (and_t (and_t fnExactSideAt_c0 j_1) j_2) fnExactSideAt_c3) fnExactSideAt_c4) fnExactSideAt_c5) j_6) fnExactSideAt_c7) j_8) fnExactSideAt_c9) fnExactSideAt_c10) fnExactSideAt_c11) fnExactSideAt_c12) fnExactSideAt_c13) fnExactSideAt_c14) fnExactSideAt_c15) fnExactSideAt_c16) fnExactSideAt_c17) fnExactSideAt_c18) fnExactSideAt_c19) fnExactSideAt_c20) fnExactSideAt_c21) j_22) fnExactSideAt_c23) j_24) j_25) j_26) j_27) fnExactSideAt_c28) fnExactSideAt_c29) fnExactSideAt_c30) fnExactSideAt_c31)
end
set_option maxRecDepth 100000 in
theorem fnExactSideAt_lifted (os : Os) (started : os.Started) (H : Type) (enc : TypeId × Value → H) :
    ReturnsInHanded {} Tryz.checked os 6 .any (Rows.fnExactSideAtSpec.pre6 enc Tryz.prog Tryz.f6 Rows.fnExactSideAtRow.domain false) (Rows.fnExactSideAtSpec.post enc Tryz.prog Tryz.f6 false true false false) := by
  refine returnsInHanded_of_change (C := Tryz.checked) fnExactSideAt_own started (by kernel_rfl) Tryz.func6
    (ChangeSpec.witness6 (enc := enc) (C := Tryz.checked) false ⟨#[], #[.agg #[.int .i64 0, .int .i64 0, .int .i64 0], .agg #[.int .i64 0, .int .i64 0, .int .i64 0, .int .i64 0, .int .i64 0, .int .i64 0], .int .i64 0], []⟩ 8 (by kernel_rfl) (by kernel_rfl) (by kernel_rfl) (by kernel_rfl)) ?_
  intro W base args ds gs before hval0 hW hcnd _
  have hval : ∀ (j : Nat) t v, Tryz.f6.params[j]? = some t → args[j]? = some v → Value.okWide Tryz.prog W .any base t v := hval0
  have hW1 := hW
  obtain ⟨p, q, hA0, hV, rfl, hfz, hnd⟩ := hW
  have hA : DataW.TrodAll enc Tryz.prog W 0 (fun _ => true) true Tryz.f6.params.toList args.toList ds p := hA0
  rw [Tryz.params6] at hA hval
  obtain ⟨v0, v1, v2, d0, d1, d2, p0, p1, p2, rfl, rfl, rfl, h0, h1, h2⟩ := trodAll_three hA
  obtain ⟨rfl, rfl⟩ := trodVars_none hV
  obtain ⟨⟨x0, r0⟩, rfl, s0⟩ := Ev.open_arg (α := Ev.Ell) (by kernel_rfl) (by kernel_rfl) (hval 0 46 v0 rfl rfl) h0
  obtain ⟨⟨x1, r1⟩, rfl, s1⟩ := Ev.open_arg (α := Ev.Vec) (by kernel_rfl) (by kernel_rfl) (hval 1 48 v1 rfl rfl) h1
  obtain ⟨⟨x2, r2⟩, rfl, s2⟩ := Ev.open_arg (α := Ev.I64) (by kernel_rfl) (by kernel_rfl) (hval 2 2 v2 rfl rfl) h2
  clear hA0 hval0
  refine (Ev.Tb.run_sound (ρ := fun _ => none) (t := Ev.Tb6) (b := Ev.B6) (γ := Bool) (y := true) (Ev.law_FnExactSideAt x0 x1 x2) (.cons (r0 _) (.cons (r1 _) (.cons (r2 _) .nil))) (by simp [Ev.V.pfs, Ev.Enc.pf])).mono fun e W1 he => ?_
  obtain ⟨x, rfl, hx, hb⟩ := he
  have hx1 := hx (fun _ => none)
  cases hx1
  exact ⟨_, rfl, Ev.post_flat hW1 (fun _ _ _ => trodAll_mk1 (shut_bool Tryz.underlying4 true)) (fun sp => trodAll_mk3 (s0 _ _ _ _) (s1 _ _ _ _) (s2 _ _ _ _)) (fun _ => rfl) hb (ok_one (by kernel_rfl) rfl (okWide_bool_mk Tryz.underlying4 true))⟩

theorem fnExactSideAt_holds : Rows.FnExactSideAtSaid :=
  OpenClaim.holds_of_wide 6 Tryz.f6 rfl rfl rfl rfl rfl rfl rfl ⟨rfl, rfl, rfl, rfl, rfl⟩ rfl rfl rfl rfl rfl (by kernel_rfl) Tryz.func6 fnExactSideAt_closed
    (of_decide_eq_true (by kernel_rfl)) (by unfold Func.isWrapper; first | (rw [if_pos (by decide +kernel)]; kernel_rfl) | (rw [if_neg (by decide +kernel)]; exact ⟨rfl, rfl⟩))
    (fun os started H enc _ => fnExactSideAt_lifted os started H enc)

end Go.Proofs.YtcfflflcbacapaaGreat
