/- The law FnExactCrossTrack gives true, whatever comes in; each argument reads behind the call as it read before. No conditions. -/
import Derived.Test.YtjfkljhgbomkiaaGreatEv7
import Derived.Test.YtjfkljhgbomkiaaGreatP14
import Derived.Test.YtjfkljhgbomkiaaGreatRows
import Derived.Test.YtjfkljhgbomkiaaGreatRJ
namespace Go.Proofs.YtjfkljhgbomkiaaGreat
open Go.ChangeShapes Go.WideShapes Go.ChangeAt Go.RowKit

theorem fnExactCrossTrack_own : ownKnob Tryz.prog.godebug = none := by kernel_rfl
section
open Go
set_option maxRecDepth 100000
theorem fnExactCrossTrack_c0 : (Rows.fnExactCrossTrackRow.wf (OpenSpec.ofChange Rows.fnExactCrossTrackSpec)) = true := by kernel_rfl
theorem fnExactCrossTrack_c3 : (Tryz.f10.params.all (Tryz.pinned.checked.prog.readableRec ·)) = true := by kernel_rfl
theorem fnExactCrossTrack_c4 : (namedTie Tryz.pinned.checked.prog Rows.fnExactCrossTrackRow.named Rows.fnExactCrossTrackSpec.vars) = true := by kernel_rfl
theorem fnExactCrossTrack_c5 : ((Rows.fnExactCrossTrackRow.stops == [])) = true := by kernel_rfl
theorem fnExactCrossTrack_c7 : ((Rows.fnExactCrossTrackRow.knobs == [])) = true := by kernel_rfl
theorem fnExactCrossTrack_c9 : ((Rows.fnExactCrossTrackRow.inPlace == Tryz.pinned.checked.prog.inPlace 10)) = true := by kernel_rfl
theorem fnExactCrossTrack_c10 : ((Rows.fnExactCrossTrackRow.unfollowed == Tryz.pinned.checked.prog.unfollowed 10)) = true := by kernel_rfl
theorem fnExactCrossTrack_c11 : ((Rows.fnExactCrossTrackRow.recurses == Tryz.pinned.checked.prog.recurses 10)) = true := by kernel_rfl
theorem fnExactCrossTrack_c12 : ((Rows.fnExactCrossTrackRow.named == Tryz.pinned.checked.prog.varsNamed 10)) = true := by kernel_rfl
theorem fnExactCrossTrack_c13 : ((Rows.fnExactCrossTrackRow.maps == (Tryz.f10.params.toList ++ Rows.fnExactCrossTrackSpec.plain.varTypes Tryz.pinned.checked.prog).any (Tryz.pinned.checked.prog.mapsRec ·))) = true := by kernel_rfl
theorem fnExactCrossTrack_c14 : ((Rows.fnExactCrossTrackRow.ifaces == (Tryz.f10.params.toList ++ Rows.fnExactCrossTrackSpec.plain.varTypes Tryz.pinned.checked.prog).any (Tryz.pinned.checked.prog.ifacesRec ·))) = true := by kernel_rfl
theorem fnExactCrossTrack_c15 : ((Rows.fnExactCrossTrackRow.mapsOut == Tryz.pinned.checked.prog.mapsAmong Tryz.f10.resultTypes.toList)) = true := by kernel_rfl
theorem fnExactCrossTrack_c16 : ((Rows.fnExactCrossTrackRow.loops == (Tryz.f10.params.toList ++ Rows.fnExactCrossTrackSpec.plain.varTypes Tryz.pinned.checked.prog).any (Tryz.pinned.checked.prog.loopsFrom ·))) = true := by kernel_rfl
theorem fnExactCrossTrack_c17 : ((Rows.fnExactCrossTrackRow.wideKeys == (Tryz.f10.params.toList ++ Rows.fnExactCrossTrackSpec.plain.varTypes Tryz.pinned.checked.prog ++ Tryz.f10.resultTypes.toList).any (Tryz.pinned.checked.prog.wideKeysFrom ·))) = true := by kernel_rfl
theorem fnExactCrossTrack_c18 : (Rows.fnExactCrossTrackSpec.vars.all (Tryz.pinned.checked.prog.varReadable ·)) = true := by kernel_rfl
theorem fnExactCrossTrack_c19 : (Tryz.f10.resultTypes.all (fun t => Tryz.pinned.checked.prog.readableRec t && decide (t < Tryz.pinned.checked.prog.types.size))) = true := by kernel_rfl
theorem fnExactCrossTrack_c20 : ((Rows.fnExactCrossTrackRow.ifacesOut == Tryz.f10.resultTypes.toList.any (Tryz.pinned.checked.prog.ifacesRec ·))) = true := by kernel_rfl
theorem fnExactCrossTrack_c21 : ((Rows.fnExactCrossTrackRow.loopsOut == Tryz.f10.resultTypes.toList.any (Tryz.pinned.checked.prog.loopsFrom ·))) = true := by kernel_rfl
theorem fnExactCrossTrack_c23 : (Rows.fnExactCrossTrackRow.shortTexts.isNone) = true := by kernel_rfl
theorem fnExactCrossTrack_c28 : ((Rows.fnExactCrossTrackRow.kinds == (if Rows.fnExactCrossTrackRow.domain.isEmpty then [] else Tryz.f10.params.toList.map fun t => match Tryz.pinned.checked.prog.underlying t with | some (.int k) => some k | _ => none))) = true := by kernel_rfl
theorem fnExactCrossTrack_c29 : ((Rows.fnExactCrossTrackRow.pinned == Rows.fnExactCrossTrackRow.pinnedBy)) = true := by kernel_rfl
theorem fnExactCrossTrack_c30 : ((Rows.fnExactCrossTrackRow.veiled == (Tryz.f10.params.toList ++ Rows.fnExactCrossTrackSpec.plain.varTypes Tryz.pinned.checked.prog ++ Tryz.f10.resultTypes.toList).any (Tryz.pinned.checked.prog.veiledRec ·))) = true := by kernel_rfl
theorem fnExactCrossTrack_c31 : (Rows.fnExactCrossTrackRow.veiledFits Tryz.pinned.checked.prog Tryz.f10.params.toList (Tryz.f10.params.toList ++ Rows.fnExactCrossTrackSpec.plain.varTypes Tryz.pinned.checked.prog ++ Tryz.f10.resultTypes.toList)) = true := by kernel_rfl
theorem fnExactCrossTrack_closed : joinedFacts Tryz.pinned.checked.prog 10 Tryz.f10 Rows.fnExactCrossTrackSpec Rows.fnExactCrossTrackRow = true := by
  unfold joinedFacts
  exact (and_t (and_t (and_t (and_t (and_t (and_t (and_t (and_t (and_t (and_t (and_t (and_t (and_t (and_t (and_t (and_t (and_t (and_t (and_t (and_t (and_t (and_t (and_t (and_t (and_t (and_t (and_t (and_t (and_t (and_t (and_t fnExactCrossTrack_c0 j_1) j_2) fnExactCrossTrack_c3) fnExactCrossTrack_c4) fnExactCrossTrack_c5) j_6) fnExactCrossTrack_c7) j_8) fnExactCrossTrack_c9) fnExactCrossTrack_c10) fnExactCrossTrack_c11) fnExactCrossTrack_c12) fnExactCrossTrack_c13) fnExactCrossTrack_c14) fnExactCrossTrack_c15) fnExactCrossTrack_c16) fnExactCrossTrack_c17) fnExactCrossTrack_c18) fnExactCrossTrack_c19) fnExactCrossTrack_c20) fnExactCrossTrack_c21) j_22) fnExactCrossTrack_c23) j_24) j_25) j_26) j_27) fnExactCrossTrack_c28) fnExactCrossTrack_c29) fnExactCrossTrack_c30) fnExactCrossTrack_c31)
end
set_option maxRecDepth 100000 in
theorem fnExactCrossTrack_lifted (os : Os) (started : os.Started) (H : Type) (enc : TypeId × Value → H) :
    ReturnsInHanded {} Tryz.checked os 10 .any (Rows.fnExactCrossTrackSpec.pre6 enc Tryz.prog Tryz.f10 Rows.fnExactCrossTrackRow.domain false) (Rows.fnExactCrossTrackSpec.post enc Tryz.prog Tryz.f10 false true false false) := by
  refine returnsInHanded_of_change (C := Tryz.checked) fnExactCrossTrack_own started (by kernel_rfl) Tryz.func10
    (ChangeSpec.witness6 (enc := enc) (C := Tryz.checked) false ⟨#[], #[.agg #[.int .i64 0, .int .i64 0], .agg #[.int .i64 0, .int .i64 0], .agg #[.int .i64 0, .int .i64 0]], []⟩ 8 (by kernel_rfl) (by kernel_rfl) (by kernel_rfl) (by kernel_rfl)) ?_
  intro W base args ds gs before hval0 hW hcnd _
  have hval : ∀ (j : Nat) t v, Tryz.f10.params[j]? = some t → args[j]? = some v → Value.okWide Tryz.prog W .any base t v := hval0
  have hW1 := hW
  obtain ⟨p, q, hA0, hV, rfl, hfz, hnd⟩ := hW
  have hA : DataW.TrodAll enc Tryz.prog W 0 (fun _ => true) true Tryz.f10.params.toList args.toList ds p := hA0
  rw [Tryz.params10] at hA hval
  obtain ⟨v0, v1, v2, d0, d1, d2, p0, p1, p2, rfl, rfl, rfl, h0, h1, h2⟩ := trodAll_three hA
  obtain ⟨rfl, rfl⟩ := trodVars_none hV
  obtain ⟨⟨x0, r0⟩, rfl, s0⟩ := Ev.open_arg (α := Ev.Point) (by kernel_rfl) (by kernel_rfl) (hval 0 23 v0 rfl rfl) h0
  obtain ⟨⟨x1, r1⟩, rfl, s1⟩ := Ev.open_arg (α := Ev.Point) (by kernel_rfl) (by kernel_rfl) (hval 1 23 v1 rfl rfl) h1
  obtain ⟨⟨x2, r2⟩, rfl, s2⟩ := Ev.open_arg (α := Ev.Point) (by kernel_rfl) (by kernel_rfl) (hval 2 23 v2 rfl rfl) h2
  clear hA0 hval0
  refine (Ev.Tb.run_sound (ρ := fun _ => none) (t := Ev.Tb10) (b := Ev.B10) (γ := Bool) (y := true) (Ev.law_FnExactCrossTrack x0 x1 x2) (.cons (r0 _) (.cons (r1 _) (.cons (r2 _) .nil))) (by simp [Ev.V.pfs, Ev.Enc.pf])).mono fun e W1 he => ?_
  obtain ⟨x, rfl, hx, hb⟩ := he
  have hx1 := hx (fun _ => none)
  cases hx1
  exact ⟨_, rfl, Ev.post_flat hW1 (fun _ _ _ => trodAll_mk1 (shut_bool Tryz.underlying4 true)) (fun sp => trodAll_mk3 (s0 _ _ _ _) (s1 _ _ _ _) (s2 _ _ _ _)) (fun _ => rfl) hb (ok_one (by kernel_rfl) rfl (okWide_bool_mk Tryz.underlying4 true))⟩

theorem fnExactCrossTrack_holds : Rows.FnExactCrossTrackSaid :=
  OpenClaim.holds_of_wide 10 Tryz.f10 rfl rfl rfl rfl rfl rfl rfl ⟨rfl, rfl, rfl, rfl, rfl⟩ rfl rfl rfl rfl rfl (by kernel_rfl) Tryz.func10 fnExactCrossTrack_closed
    (of_decide_eq_true (by kernel_rfl)) (by unfold Func.isWrapper; first | (rw [if_pos (by decide +kernel)]; kernel_rfl) | (rw [if_neg (by decide +kernel)]; exact ⟨rfl, rfl⟩))
    (fun os started H enc _ => fnExactCrossTrack_lifted os started H enc)

end Go.Proofs.YtjfkljhgbomkiaaGreat
