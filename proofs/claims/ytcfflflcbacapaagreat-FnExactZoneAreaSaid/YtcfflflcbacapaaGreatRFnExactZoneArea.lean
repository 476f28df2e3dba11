/- The law FnExactZoneArea gives true, whatever comes in; each argument reads behind the call as it read before. No conditions. -/
import Derived.Test.YtcfflflcbacapaaGreatEv7
import Derived.Test.YtcfflflcbacapaaGreatP19
import Derived.Test.YtcfflflcbacapaaGreatRows
import Derived.Test.YtcfflflcbacapaaGreatRJ
namespace Go.Proofs.YtcfflflcbacapaaGreat
open Go.ChangeShapes Go.WideShapes Go.ChangeAt Go.RowKit

theorem fnExactZoneArea_own : ownKnob Tryz.prog.godebug = none := by kernel_rfl
section
open Go
set_option maxRecDepth 100000
theorem fnExactZoneArea_c0 : (Rows.fnExactZoneAreaRow.wf (OpenSpec.ofChange Rows.fnExactZoneAreaSpec)) = true := by kernel_rfl
theorem fnExactZoneArea_c3 : (Tryz.f13.params.all (Tryz.pinned.checked.prog.readableRec ·)) = true := by kernel_rfl
theorem fnExactZoneArea_c4 : (namedTie Tryz.pinned.checked.prog Rows.fnExactZoneAreaRow.named Rows.fnExactZoneAreaSpec.vars) = true := by kernel_rfl
theorem fnExactZoneArea_c5 : ((Rows.fnExactZoneAreaRow.stops == [])) = true := by kernel_rfl
theorem fnExactZoneArea_c7 : ((Rows.fnExactZoneAreaRow.knobs == [])) = true := by kernel_rfl
theorem fnExactZoneArea_c9 : ((Rows.fnExactZoneAreaRow.inPlace == Tryz.pinned.checked.prog.inPlace 13)) = true := by kernel_rfl
theorem fnExactZoneArea_c10 : ((Rows.fnExactZoneAreaRow.unfollowed == Tryz.pinned.checked.prog.unfollowed 13)) = true := by kernel_rfl
theorem fnExactZoneArea_c11 : ((Rows.fnExactZoneAreaRow.recurses == Tryz.pinned.checked.prog.recurses 13)) = true := by kernel_rfl
theorem fnExactZoneArea_c12 : ((Rows.fnExactZoneAreaRow.named == Tryz.pinned.checked.prog.varsNamed 13)) = true := by kernel_rfl
theorem fnExactZoneArea_c13 : ((Rows.fnExactZoneAreaRow.maps == (Tryz.f13.params.toList ++ Rows.fnExactZoneAreaSpec.plain.varTypes Tryz.pinned.checked.prog).any (Tryz.pinned.checked.prog.mapsRec ·))) = true := by kernel_rfl
theorem fnExactZoneArea_c14 : ((Rows.fnExactZoneAreaRow.ifaces == (Tryz.f13.params.toList ++ Rows.fnExactZoneAreaSpec.plain.varTypes Tryz.pinned.checked.prog).any (Tryz.pinned.checked.prog.ifacesRec ·))) = true := by kernel_rfl
theorem fnExactZoneArea_c15 : ((Rows.fnExactZoneAreaRow.mapsOut == Tryz.pinned.checked.prog.mapsAmong Tryz.f13.resultTypes.toList)) = true := by kernel_rfl
theorem fnExactZoneArea_c16 : ((Rows.fnExactZoneAreaRow.loops == (Tryz.f13.params.toList ++ Rows.fnExactZoneAreaSpec.plain.varTypes Tryz.pinned.checked.prog).any (Tryz.pinned.checked.prog.loopsFrom ·))) = true := by kernel_rfl
theorem fnExactZoneArea_c17 : ((Rows.fnExactZoneAreaRow.wideKeys == (Tryz.f13.params.toList ++ Rows.fnExactZoneAreaSpec.plain.varTypes Tryz.pinned.checked.prog ++ Tryz.f13.resultTypes.toList).any (Tryz.pinned.checked.prog.wideKeysFrom ·))) = true := by kernel_rfl
theorem fnExactZoneArea_c18 : (Rows.fnExactZoneAreaSpec.vars.all (Tryz.pinned.checked.prog.varReadable ·)) = true := by kernel_rfl
theorem fnExactZoneArea_c19 : (Tryz.f13.resultTypes.all (fun t => Tryz.pinned.checked.prog.readableRec t && decide (t < Tryz.pinned.checked.prog.types.size))) = true := by kernel_rfl
theorem fnExactZoneArea_c20 : ((Rows.fnExactZoneAreaRow.ifacesOut == Tryz.f13.resultTypes.toList.any (Tryz.pinned.checked.prog.ifacesRec ·))) = true := by kernel_rfl
theorem fnExactZoneArea_c21 : ((Rows.fnExactZoneAreaRow.loopsOut == Tryz.f13.resultTypes.toList.any (Tryz.pinned.checked.prog.loopsFrom ·))) = true := by kernel_rfl
theorem fnExactZoneArea_c23 : (Rows.fnExactZoneAreaRow.shortTexts.isNone) = true := by kernel_rfl
theorem fnExactZoneArea_c28 : ((Rows.fnExactZoneAreaRow.kinds == (if Rows.fnExactZoneAreaRow.domain.isEmpty then [] else Tryz.f13.params.toList.map fun t => match Tryz.pinned.checked.prog.underlying t with | some (.int k) => some k | _ => none))) = true := by kernel_rfl
theorem fnExactZoneArea_c29 : ((Rows.fnExactZoneAreaRow.pinned == Rows.fnExactZoneAreaRow.pinnedBy)) = true := by kernel_rfl
theorem fnExactZoneArea_c30 : ((Rows.fnExactZoneAreaRow.veiled == (Tryz.f13.params.toList ++ Rows.fnExactZoneAreaSpec.plain.varTypes Tryz.pinned.checked.prog ++ Tryz.f13.resultTypes.toList).any (Tryz.pinned.checked.prog.veiledRec ·))) = true := by kernel_rfl
theorem fnExactZoneArea_c31 : (Rows.fnExactZoneAreaRow.veiledFits Tryz.pinned.checked.prog Tryz.f13.params.toList (Tryz.f13.params.toList ++ Rows.fnExactZoneAreaSpec.plain.varTypes Tryz.pinned.checked.prog ++ Tryz.f13.resultTypes.toList)) = true := by kernel_rfl
theorem fnExactZoneArea_closed : joinedFacts Tryz.pinned.checked.prog 13 Tryz.f13 Rows.fnExactZoneAreaSpec Rows.fnExactZoneAreaRow = true := by
  unfold joinedFacts
  exact (and_t (and_t (and_t (and_t (and_t (and_t (and_t (and_t (and_t (and_t (and_t (and_t (and_t (and_t (and_t (and_t (and_t (and_t (and_t (and_t (and_t (and_t (and_t (and_t (and_t (and_t (and_t (and_t (and_t (and_t (and_t fnExactZoneArea_c0 j_1) j_2) fnExactZoneArea_c3) fnExactZoneArea_c4) fnExactZoneArea_c5) j_6) fnExactZoneArea_c7) j_8) fnExactZoneArea_c9) fnExactZoneArea_c10) fnExactZoneArea_c11) fnExactZoneArea_c12) fnExactZoneArea_c13) fnExactZoneArea_c14) fnExactZoneArea_c15) fnExactZoneArea_c16) fnExactZoneArea_c17) fnExactZoneArea_c18) fnExactZoneArea_c19) fnExactZoneArea_c20) fnExactZoneArea_c21) j_22) fnExactZoneArea_c23) j_24) j_25) j_26) j_27) fnExactZoneArea_c28) fnExactZoneArea_c29) fnExactZoneArea_c30) fnExactZoneArea_c31)
end
set_option maxRecDepth 100000 in
theorem fnExactZoneArea_lifted (os : Os) (started : os.Started) (H : Type) (enc : TypeId × Value → H) :
    ReturnsInHanded {} Tryz.checked os 13 .any (Rows.fnExactZoneAreaSpec.pre6 enc Tryz.prog Tryz.f13 Rows.fnExactZoneAreaRow.domain false) (Rows.fnExactZoneAreaSpec.post enc Tryz.prog Tryz.f13 false true false false) := by
  refine returnsInHanded_of_change (C := Tryz.checked) fnExactZoneArea_own started (by kernel_rfl) Tryz.func13
    (ChangeSpec.witness6 (enc := enc) (C := Tryz.checked) false ⟨#[], #[.agg #[.int .i64 0, .int .i64 0, .int .i64 0], .agg #[.int .i64 0, .int .i64 0], .agg #[.int .i64 0, .int .i64 0]], []⟩ 8 (by kernel_rfl) (by kernel_rfl) (by kernel_rfl) (by kernel_rfl)) ?_
  intro W base args ds gs before hval0 hW hcnd _
  have hval : ∀ (j : Nat) t v, Tryz.f13.params[j]? = some t → args[j]? = some v → Value.okWide Tryz.prog W .any base t v := hval0
  have hW1 := hW
  obtain ⟨p, q, hA0, hV, rfl, hfz, hnd⟩ := hW
  have hA : DataW.TrodAll enc Tryz.prog W 0 (fun _ => true) true Tryz.f13.params.toList args.toList ds p := hA0
  rw [Tryz.params13] at hA hval
  obtain ⟨v0, v1, v2, d0, d1, d2, p0, p1, p2, rfl, rfl, rfl, h0, h1, h2⟩ := trodAll_three hA
  obtain ⟨rfl, rfl⟩ := trodVars_none hV
  obtain ⟨⟨x0, r0⟩, rfl, s0⟩ := Ev.open_arg (α := Ev.Ell) (by kernel_rfl) (by kernel_rfl) (hval 0 46 v0 rfl rfl) h0
  obtain ⟨⟨x1, r1⟩, rfl, s1⟩ := Ev.open_arg (α := Ev.Iv) (by kernel_rfl) (by kernel_rfl) (hval 1 38 v1 rfl rfl) h1
  obtain ⟨⟨x2, r2⟩, rfl, s2⟩ := Ev.open_arg (α := Ev.Iv) (by kernel_rfl) (by kernel_rfl) (hval 2 38 v2 rfl rfl) h2
  clear hA0 hval0
  refine (Ev.Tb.run_sound (ρ := fun _ => none) (t := Ev.Tb13) (b := Ev.B13) (γ := Bool) (y := true) (Ev.law_FnExactZoneArea x0 x1 x2) (.cons (r0 _) (.cons (r1 _) (.cons (r2 _) .nil))) (by simp [Ev.V.pfs, Ev.Enc.pf])).mono fun e W1 he => ?_
  obtain ⟨x, rfl, hx, hb⟩ := he
  have hx1 := hx (fun _ => none)
  cases hx1
  exact ⟨_, rfl, Ev.post_flat hW1 (fun _ _ _ => trodAll_mk1 (shut_bool Tryz.underlying4 true)) (fun sp => trodAll_mk3 (s0 _ _ _ _) (s1 _ _ _ _) (s2 _ _ _ _)) (fun _ => rfl) hb (ok_one (by kernel_rfl) rfl (okWide_bool_mk Tryz.underlying4 true))⟩

theorem fnExactZoneArea_holds : Rows.FnExactZoneAreaSaid :=
  OpenClaim.holds_of_wide 13 Tryz.f13 rfl rfl rfl rfl rfl rfl rfl ⟨rfl, rfl, rfl, rfl, rfl⟩ rfl rfl rfl rfl rfl (by kernel_rfl) Tryz.func13 fnExactZoneArea_closed
    (of_decide_eq_true (by kernel_rfl)) (by unfold Func.isWrapper; first | (rw [if_pos (by decide +kernel)]; kernel_rfl) | (rw [if_neg (by decide +kernel)]; exact ⟨rfl, rfl⟩))
    (fun os started H enc _ => fnExactZoneArea_lifted os started H enc)

end Go.Proofs.YtcfflflcbacapaaGreat
