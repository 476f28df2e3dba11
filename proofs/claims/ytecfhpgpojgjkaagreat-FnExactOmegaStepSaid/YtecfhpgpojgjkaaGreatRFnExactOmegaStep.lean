/- The law FnExactOmegaStep gives true, whatever comes in; each argument reads behind the call as it read before. No conditions. -/
import Derived.Test.YtecfhpgpojgjkaaGreatEvC
import Derived.Test.YtecfhpgpojgjkaaGreatP33
import Derived.Test.YtecfhpgpojgjkaaGreatRows
import Derived.Test.YtecfhpgpojgjkaaGreatRJ
namespace Go.Proofs.YtecfhpgpojgjkaaGreat
open Go.ChangeShapes Go.WideShapes Go.ChangeAt Go.RowKit

theorem fnExactOmegaStep_own : ownKnob Tryz.prog.godebug = none := by kernel_rfl
section
open Go Go.ChangeShapes
variable {H : Type} {enc : TypeId × Value → H} {P : Program} {w : World} {base : Nat} {spare : Nat → Bool} {held : Bool}
theorem trodAll_five {t t1 t2 t3 t4 : TypeId} {args : Array Value} {ds : List (DataW H)} {ps : List MemPlace} (h : DataW.TrodAll enc P w base spare held [t, t1, t2, t3, t4] args.toList ds ps) :
    ∃ v v1 v2 v3 v4 d d1 d2 d3 d4 p p1 p2 p3 p4, args = #[v, v1, v2, v3, v4] ∧ ds = [d, d1, d2, d3, d4] ∧ ps = p ++ p1 ++ p2 ++ p3 ++ p4 ∧ DataW.Trod enc P w base spare held t v d p ∧ DataW.Trod enc P w base spare held t1 v1 d1 p1 ∧ DataW.Trod enc P w base spare held t2 v2 d2 p2 ∧ DataW.Trod enc P w base spare held t3 v3 d3 p3 ∧ DataW.Trod enc P w base spare held t4 v4 d4 p4 := by
  obtain ⟨v, vs, d, ds', p, q, hargs, rfl, rfl, hd, hrest⟩ := trodAll_cons h
  obtain ⟨v1, vs1, d1, ds1, p1, q1, rfl, rfl, rfl, hd1, hrest1⟩ := trodAll_cons hrest
  obtain ⟨v2, vs2, d2, ds2, p2, q2, rfl, rfl, rfl, hd2, hrest2⟩ := trodAll_cons hrest1
  obtain ⟨v3, vs3, d3, ds3, p3, q3, rfl, rfl, rfl, hd3, hrest3⟩ := trodAll_cons hrest2
  obtain ⟨v4, vs4, d4, ds4, p4, q4, rfl, rfl, rfl, hd4, hrest4⟩ := trodAll_cons hrest3
  obtain ⟨rfl, rfl, rfl⟩ := trodAll_nil hrest4
  exact ⟨v, v1, v2, v3, v4, d, d1, d2, d3, d4, p, p1, p2, p3, p4, by cases args; simp_all, rfl, by simp, hd, hd1, hd2, hd3, hd4⟩
theorem trodAll_mk5 {t t1 t2 t3 t4 : TypeId} {v v1 v2 v3 v4 : Value} {d d1 d2 d3 d4 : DataW H} {p p1 p2 p3 p4 : List MemPlace} (h : DataW.Trod enc P w base spare held t v d p) (h1 : DataW.Trod enc P w base spare held t1 v1 d1 p1)
    (h2 : DataW.Trod enc P w base spare held t2 v2 d2 p2) (h3 : DataW.Trod enc P w base spare held t3 v3 d3 p3) (h4 : DataW.Trod enc P w base spare held t4 v4 d4 p4) : DataW.TrodAll enc P w base spare held [t, t1, t2, t3, t4] [v, v1, v2, v3, v4] [d, d1, d2, d3, d4] (p ++ (p1 ++ (p2 ++ (p3 ++ p4)))) := ⟨p, p1 ++ (p2 ++ (p3 ++ p4)), h, trodAll_mk4 h1 h2 h3 h4, rfl⟩
end
section
open Go
set_option maxRecDepth 100000
theorem fnExactOmegaStep_c0 : (Rows.fnExactOmegaStepRow.wf (OpenSpec.ofChange Rows.fnExactOmegaStepSpec)) = true := by kernel_rfl
theorem fnExactOmegaStep_c3 : (Tryz.f13.params.all (Tryz.pinned.checked.prog.readableRec ·)) = true := by kernel_rfl
theorem fnExactOmegaStep_c4 : (namedTie Tryz.pinned.checked.prog Rows.fnExactOmegaStepRow.named Rows.fnExactOmegaStepSpec.vars) = true := by kernel_rfl
theorem fnExactOmegaStep_c5 : ((Rows.fnExactOmegaStepRow.stops == [])) = true := by kernel_rfl
theorem fnExactOmegaStep_c7 : ((Rows.fnExactOmegaStepRow.knobs == [])) = true := by kernel_rfl
theorem fnExactOmegaStep_c9 : ((Rows.fnExactOmegaStepRow.inPlace == Tryz.pinned.checked.prog.inPlace 13)) = true := by kernel_rfl
theorem fnExactOmegaStep_c10 : ((Rows.fnExactOmegaStepRow.unfollowed == Tryz.pinned.checked.prog.unfollowed 13)) = true := by kernel_rfl
theorem fnExactOmegaStep_c11 : ((Rows.fnExactOmegaStepRow.recurses == Tryz.pinned.checked.prog.recurses 13)) = true := by kernel_rfl
theorem fnExactOmegaStep_c12 : ((Rows.fnExactOmegaStepRow.named == Tryz.pinned.checked.prog.varsNamed 13)) = true := by kernel_rfl
theorem fnExactOmegaStep_c13 : ((Rows.fnExactOmegaStepRow.maps == (Tryz.f13.params.toList ++ Rows.fnExactOmegaStepSpec.plain.varTypes Tryz.pinned.checked.prog).any (Tryz.pinned.checked.prog.mapsRec ·))) = true := by kernel_rfl
theorem fnExactOmegaStep_c14 : ((Rows.fnExactOmegaStepRow.ifaces == (Tryz.f13.params.toList ++ Rows.fnExactOmegaStepSpec.plain.varTypes Tryz.pinned.checked.prog).any (Tryz.pinned.checked.prog.ifacesRec ·))) = true := by kernel_rfl
theorem fnExactOmegaStep_c15 : ((Rows.fnExactOmegaStepRow.mapsOut == Tryz.pinned.checked.prog.mapsAmong Tryz.f13.resultTypes.toList)) = true := by kernel_rfl
theorem fnExactOmegaStep_c16 : ((Rows.fnExactOmegaStepRow.loops == (Tryz.f13.params.toList ++ Rows.fnExactOmegaStepSpec.plain.varTypes Tryz.pinned.checked.prog).any (Tryz.pinned.checked.prog.loopsFrom ·))) = true := by kernel_rfl
theorem fnExactOmegaStep_c17 : ((Rows.fnExactOmegaStepRow.wideKeys == (Tryz.f13.params.toList ++ Rows.fnExactOmegaStepSpec.plain.varTypes Tryz.pinned.checked.prog ++ Tryz.f13.resultTypes.toList).any (Tryz.pinned.checked.prog.wideKeysFrom ·))) = true := by kernel_rfl
theorem fnExactOmegaStep_c18 : (Rows.fnExactOmegaStepSpec.vars.all (Tryz.pinned.checked.prog.varReadable ·)) = true := by kernel_rfl
theorem fnExactOmegaStep_c19 : (Tryz.f13.resultTypes.all (fun t => Tryz.pinned.checked.prog.readableRec t && decide (t < Tryz.pinned.checked.prog.types.size))) = true := by kernel_rfl
theorem fnExactOmegaStep_c20 : ((Rows.fnExactOmegaStepRow.ifacesOut == Tryz.f13.resultTypes.toList.any (Tryz.pinned.checked.prog.ifacesRec ·))) = true := by kernel_rfl
theorem fnExactOmegaStep_c21 : ((Rows.fnExactOmegaStepRow.loopsOut == Tryz.f13.resultTypes.toList.any (Tryz.pinned.checked.prog.loopsFrom ·))) = true := by kernel_rfl
theorem fnExactOmegaStep_c23 : (Rows.fnExactOmegaStepRow.shortTexts.isNone) = true := by kernel_rfl
theorem fnExactOmegaStep_c28 : ((Rows.fnExactOmegaStepRow.kinds == (if Rows.fnExactOmegaStepRow.domain.isEmpty then [] else Tryz.f13.params.toList.map fun t => match Tryz.pinned.checked.prog.underlying t with | some (.int k) => some k | _ => none))) = true := by kernel_rfl
theorem fnExactOmegaStep_c29 : ((Rows.fnExactOmegaStepRow.pinned == Rows.fnExactOmegaStepRow.pinnedBy)) = true := by kernel_rfl
theorem fnExactOmegaStep_c30 : ((Rows.fnExactOmegaStepRow.veiled == (Tryz.f13.params.toList ++ Rows.fnExactOmegaStepSpec.plain.varTypes Tryz.pinned.checked.prog ++ Tryz.f13.resultTypes.toList).any (Tryz.pinned.checked.prog.veiledRec ·))) = true := by kernel_rfl
theorem fnExactOmegaStep_c31 : (Rows.fnExactOmegaStepRow.veiledFits Tryz.pinned.checked.prog Tryz.f13.params.toList (Tryz.f13.params.toList ++ Rows.fnExactOmegaStepSpec.plain.varTypes Tryz.pinned.checked.prog ++ Tryz.f13.resultTypes.toList)) = true := by kernel_rfl
theorem fnExactOmegaStep_closed : joinedFacts Tryz.pinned.checked.prog 13 Tryz.f13 Rows.fnExactOmegaStepSpec Rows.fnExactOmegaStepRow = true := by
  unfold joinedFacts
  exact (and_t (and_t (and_t (and_t (and_t (and_t (and_t (and_t (and_t (and_t (and_t (and_t (and_t (and_t (and_t (and_t (and_t (and_t (and_t (and_t (and_t (and_t (and_t (and_t (and_t (and_t (and_t (and_t (and_t (and_t (and_t fnExactOmegaStep_c0 j_1) j_2) fnExactOmegaStep_c3) fnExactOmegaStep_c4) fnExactOmegaStep_c5) j_6) fnExactOmegaStep_c7) j_8) fnExactOmegaStep_c9) fnExactOmegaStep_c10) fnExactOmegaStep_c11) fnExactOmegaStep_c12) fnExactOmegaStep_c13) fnExactOmegaStep_c14) fnExactOmegaStep_c15) fnExactOmegaStep_c16) fnExactOmegaStep_c17) fnExactOmegaStep_c18) fnExactOmegaStep_c19) fnExactOmegaStep_c20) fnExactOmegaStep_c21) j_22) fnExactOmegaStep_c23) j_24) j_25) j_26) j_27) fnExactOmegaStep_c28) fnExactOmegaStep_c29) fnExactOmegaStep_c30) fnExactOmegaStep_c31)
end
set_option maxRecDepth 100000 in
theorem fnExactOmegaStep_lifted (os : Os) (started : os.Started) (H : Type) (enc : TypeId × Value → H) :
    ReturnsInHanded {} Tryz.checked os 13 .any (Rows.fnExactOmegaStepSpec.pre6 enc Tryz.prog Tryz.f13 Rows.fnExactOmegaStepRow.domain false) (Rows.fnExactOmegaStepSpec.post enc Tryz.prog Tryz.f13 false true false false) := by
  refine returnsInHanded_of_change (C := Tryz.checked) fnExactOmegaStep_own started (by kernel_rfl) Tryz.func13
    (ChangeSpec.witness6 (enc := enc) (C := Tryz.checked) false ⟨#[], #[.agg #[.int .i64 0, .int .i64 0, .int .i64 0], .agg #[.int .i64 0, .int .i64 0], .agg #[.int .i64 0, .int .i64 0], .agg #[.int .i64 0, .int .i64 0], .int .i64 0], []⟩ 8 (by kernel_rfl) (by kernel_rfl) (by kernel_rfl) (by kernel_rfl)) ?_
  intro W base args ds gs before hval0 hW hcnd _
  have hval : ∀ (j : Nat) t v, Tryz.f13.params[j]? = some t → args[j]? = some v → Value.okWide Tryz.prog W .any base t v := hval0
  have hW1 := hW
  obtain ⟨p, q, hA0, hV, rfl, hfz, hnd⟩ := hW
  have hA : DataW.TrodAll enc Tryz.prog W 0 (fun _ => true) true Tryz.f13.params.toList args.toList ds p := hA0
  rw [Tryz.params13] at hA hval
  obtain ⟨v0, v1, v2, v3, v4, d0, d1, d2, d3, d4, p0, p1, p2, p3, p4, rfl, rfl, rfl, h0, h1, h2, h3, h4⟩ := trodAll_five hA
  obtain ⟨rfl, rfl⟩ := trodVars_none hV
  obtain ⟨⟨x0, r0⟩, rfl, s0⟩ := Ev.open_arg (α := Ev.Ell) (by kernel_rfl) (by kernel_rfl) (hval 0 47 v0 rfl rfl) h0
  obtain ⟨⟨x1, r1⟩, rfl, s1⟩ := Ev.open_arg (α := Ev.Point) (by kernel_rfl) (by kernel_rfl) (hval 1 25 v1 rfl rfl) h1
  obtain ⟨⟨x2, r2⟩, rfl, s2⟩ := Ev.open_arg (α := Ev.Point) (by kernel_rfl) (by kernel_rfl) (hval 2 25 v2 rfl rfl) h2
  obtain ⟨⟨x3, r3⟩, rfl, s3⟩ := Ev.open_arg (α := Ev.Iv) (by kernel_rfl) (by kernel_rfl) (hval 3 38 v3 rfl rfl) h3
  obtain ⟨⟨x4, r4⟩, rfl, s4⟩ := Ev.open_arg (α := Ev.I64) (by kernel_rfl) (by kernel_rfl) (hval 4 2 v4 rfl rfl) h4
  clear hA0 hval0
  refine (Ev.Tb.run_sound (ρ := fun _ => none) (t := Ev.Tb13) (b := Ev.B13) (γ := Bool) (y := true) (Ev.law_FnExactOmegaStep x0 x1 x2 x3 x4) (.cons (r0 _) (.cons (r1 _) (.cons (r2 _) (.cons (r3 _) (.cons (r4 _) .nil))))) (by simp [Ev.V.pfs, Ev.Enc.pf])).mono fun e W1 he => ?_
  obtain ⟨x, rfl, hx, hb⟩ := he
  have hx1 := hx (fun _ => none)
  cases hx1
  exact ⟨_, rfl, Ev.post_flat hW1 (fun _ _ _ => trodAll_mk1 (shut_bool Tryz.underlying4 true)) (fun sp => trodAll_mk5 (s0 _ _ _ _) (s1 _ _ _ _) (s2 _ _ _ _) (s3 _ _ _ _) (s4 _ _ _ _)) (fun _ => rfl) hb (ok_one (by kernel_rfl) rfl (okWide_bool_mk Tryz.underlying4 true))⟩

theorem fnExactOmegaStep_holds : Rows.FnExactOmegaStepSaid :=
  OpenClaim.holds_of_wide 13 Tryz.f13 rfl rfl rfl rfl rfl rfl rfl ⟨rfl, rfl, rfl, rfl, rfl⟩ rfl rfl rfl rfl rfl (by kernel_rfl) Tryz.func13 fnExactOmegaStep_closed
    (of_decide_eq_true (by kernel_rfl)) (by unfold Func.isWrapper; first | (rw [if_pos (by decide +kernel)]; kernel_rfl) | (rw [if_neg (by decide +kernel)]; exact ⟨rfl, rfl⟩))
    (fun os started H enc _ => fnExactOmegaStep_lifted os started H enc)

end Go.Proofs.YtecfhpgpojgjkaaGreat
