/- The law FnExactExcessOf gives true, whatever comes in; each argument reads behind the call as it read before. No conditions. -/
import Derived.Test.YtjfkljhgbomkiaaGreatEv7
import Derived.Test.YtjfkljhgbomkiaaGreatP14
import Derived.Test.YtjfkljhgbomkiaaGreatRows
import Derived.Test.YtjfkljhgbomkiaaGreatRJ
namespace Go.Proofs.YtjfkljhgbomkiaaGreat
open Go.ChangeShapes Go.WideShapes Go.ChangeAt Go.RowKit

theorem fnExactExcessOf_own : ownKnob Tryz.prog.godebug = none := by kernel_rfl
section
open Go
set_option maxRecDepth 100000
theorem fnExactExcessOf_c0 : (Rows.fnExactExcessOfRow.wf (OpenSpec.ofChange Rows.fnExactExcessOfSpec)) = true := by kernel_rfl
theorem fnExactExcessOf_c3 : (Tryz.f7.params.all (Tryz.pinned.checked.prog.readableRec ·)) = true := by kernel_rfl
theorem fnExactExcessOf_c4 : (namedTie Tryz.pinned.checked.prog Rows.fnExactExcessOfRow.named Rows.fnExactExcessOfSpec.vars) = true := by kernel_rfl
theorem fnExactExcessOf_c5 : ((Rows.fnExactExcessOfRow.stops == [])) = true := by kernel_rfl
theorem fnExactExcessOf_c7 : ((Rows.fnExactExcessOfRow.knobs == [])) = true := by kernel_rfl
theorem fnExactExcessOf_c9 : ((Rows.fnExactExcessOfRow.inPlace == Tryz.pinned.checked.prog.inPlace 7)) = true := by kernel_rfl
theorem fnExactExcessOf_c10 : ((Rows.fnExactExcessOfRow.unfollowed == Tryz.pinned.checked.prog.unfollowed 7)) = true := by kernel_rfl
theorem fnExactExcessOf_c11 : ((Rows.fnExactExcessOfRow.recurses == Tryz.pinned.checked.prog.recurses 7)) = true := by kernel_rfl
theorem fnExactExcessOf_c12 : ((Rows.fnExactExcessOfRow.named == Tryz.pinned.checked.prog.varsNamed 7)) = true := by kernel_rfl
theorem fnExactExcessOf_c13 : ((Rows.fnExactExcessOfRow.maps == (Tryz.f7.params.toList ++ Rows.fnExactExcessOfSpec.plain.varTypes Tryz.pinned.checked.prog).any (Tryz.pinned.checked.prog.mapsRec ·))) = true := by kernel_rfl
theorem fnExactExcessOf_c14 : ((Rows.fnExactExcessOfRow.ifaces == (Tryz.f7.params.toList ++ Rows.fnExactExcessOfSpec.plain.varTypes Tryz.pinned.checked.prog).any (Tryz.pinned.checked.prog.ifacesRec ·))) = true := by kernel_rfl
theorem fnExactExcessOf_c15 : ((Rows.fnExactExcessOfRow.mapsOut == Tryz.pinned.checked.prog.mapsAmong Tryz.f7.resultTypes.toList)) = true := by kernel_rfl
theorem fnExactExcessOf_c16 : ((Rows.fnExactExcessOfRow.loops == (Tryz.f7.params.toList ++ Rows.fnExactExcessOfSpec.plain.varTypes Tryz.pinned.checked.prog).any (Tryz.pinned.checked.prog.loopsFrom ·))) = true := by kernel_rfl
theorem fnExactExcessOf_c17 : ((Rows.fnExactExcessOfRow.wideKeys == (Tryz.f7.params.toList ++ Rows.fnExactExcessOfSpec.plain.varTypes Tryz.pinned.checked.prog ++ Tryz.f7.resultTypes.toList).any (Tryz.pinned.checked.prog.wideKeysFrom ·))) = true := by kernel_rfl
theorem fnExactExcessOf_c18 : (Rows.fnExactExcessOfSpec.vars.all (Tryz.pinned.checked.prog.varReadable ·)) = true := by kernel_rfl
theorem fnExactExcessOf_c19 : (Tryz.f7.resultTypes.all (fun t => Tryz.pinned.checked.prog.readableRec t && decide (t < Tryz.pinned.checked.prog.types.size))) = true := by kernel_rfl
theorem fnExactExcessOf_c20 : ((Rows.fnExactExcessOfRow.ifacesOut == Tryz.f7.resultTypes.toList.any (Tryz.pinned.checked.prog.ifacesRec ·))) = true := by kernel_rfl
theorem fnExactExcessOf_c21 : ((Rows.fnExactExcessOfRow.loopsOut == Tryz.f7.resultTypes.toList.any (Tryz.pinned.checked.prog.loopsFrom ·))) = true := by kernel_rfl
theorem fnExactExcessOf_c23 : (Rows.fnExactExcessOfRow.shortTexts.isNone) = true := by kernel_rfl
theorem fnExactExcessOf_c28 : ((Rows.fnExactExcessOfRow.kinds == (if Rows.fnExactExcessOfRow.domain.isEmpty then [] else Tryz.f7.params.toList.map fun t => match Tryz.pinned.checked.prog.underlying t with | some (.int k) => some k | _ => none))) = true := by kernel_rfl
theorem fnExactExcessOf_c29 : ((Rows.fnExactExcessOfRow.pinned == Rows.fnExactExcessOfRow.pinnedBy)) = true := by kernel_rfl
theorem fnExactExcessOf_c30 : ((Rows.fnExactExcessOfRow.veiled == (Tryz.f7.params.toList ++ Rows.fnExactExcessOfSpec.plain.varTypes Tryz.pinned.checked.prog ++ Tryz.f7.resultTypes.toList).any (Tryz.pinned.checked.prog.veiledRec ·))) = true := by kernel_rfl
theorem fnExactExcessOf_c31 : (Rows.fnExactExcessOfRow.veiledFits Tryz.pinned.checked.prog Tryz.f7.params.toList (Tryz.f7.params.toList ++ Rows.fnExactExcessOfSpec.plain.varTypes Tryz.pinned.checked.prog ++ Tryz.f7.resultTypes.toList)) = true := by kernel_rfl
theorem fnExactExcessOf_closed : joinedFacts Tryz.pinned.checked.prog 7 Tryz.f7 Rows.fnExactExcessOfSpec Rows.fnExactExcessOfRow = true := by
  unfold joinedFacts
  exact (and_t (and_t (and_t (and_t (and_t (and_t (and_t (and_t (and_t (and_t (and_t (and_t (and_t (and_t (and_t (and_t (and_t (and_t (and_t (and_t (and_t (and_t (and_t (and_t (and_t (and_t (and_t (and_t (and_t (and_t (and_t fnExactExcessOf_c0 j_1) j_2) fnExactExcessOf_c3) fnExactExcessOf_c4) fnExactExcessOf_c5) j_6) fnExactExcessOf_c7) j_8) fnExactExcessOf_c9) fnExactExcessOf_c10) fnExactExcessOf_c11) fnExactExcessOf_c12) fnExactExcessOf_c13) fnExactExcessOf_c14) fnExactExcessOf_c15) fnExactExcessOf_c16) fnExactExcessOf_c17) fnExactExcessOf_c18) fnExactExcessOf_c19) fnExactExcessOf_c20) fnExactExcessOf_c21) j_22) fnExactExcessOf_c23) j_24) j_25) j_26) j_27) fnExactExcessOf_c28) fnExactExcessOf_c29) fnExactExcessOf_c30) fnExactExcessOf_c31)
end
set_option maxRecDepth 100000 in
theorem fnExactExcessOf_lifted (os : Os) (started : os.Started) (H : Type) (enc : TypeId × Value → H) :
    ReturnsInHanded {} Tryz.checked os 7 .any (Rows.fnExactExcessOfSpec.pre6 enc Tryz.prog Tryz.f7 Rows.fnExactExcessOfRow.domain false) (Rows.fnExactExcessOfSpec.post enc Tryz.prog Tryz.f7 false true false false) := by
  refine returnsInHanded_of_change (C := Tryz.checked) fnExactExcessOf_own started (by kernel_rfl) Tryz.func7
    (ChangeSpec.witness6 (enc := enc) (C := Tryz.checked) false ⟨#[], #[.agg #[.int .i64 0, .int .i64 0], .agg #[.int .i64 0, .int .i64 0], .agg #[.int .i64 0, .int .i64 0]], []⟩ 8 (by kernel_rfl) (by kernel_rfl) (by kernel_rfl) (by kernel_rfl)) ?_
  intro W base args ds gs before hval0 hW hcnd _
  have hval : ∀ (j : Nat) t v, Tryz.f7.params[j]? = some t → args[j]? = some v → Value.okWide Tryz.prog W .any base t v := hval0
  have hW1 := hW
  obtain ⟨p, q, hA0, hV, rfl, hfz, hnd⟩ := hW
  have hA : DataW.TrodAll enc Tryz.prog W 0 (fun _ => true) true Tryz.f7.params.toList args.toList ds p := hA0
  rw [Tryz.params7] at hA hval
  obtain ⟨v0, v1, v2, d0, d1, d2, p0, p1, p2, rfl, rfl, rfl, h0, h1, h2⟩ := trodAll_three hA
  obtain ⟨rfl, rfl⟩ := trodVars_none hV
  obtain ⟨⟨x0, r0⟩, rfl, s0⟩ := Ev.open_arg (α := Ev.Point) (by kernel_rfl) (by kernel_rfl) (hval 0 23 v0 rfl rfl) h0
  obtain ⟨⟨x1, r1⟩, rfl, s1⟩ := Ev.open_arg (α := Ev.Point) (by kernel_rfl) (by kernel_rfl) (hval 1 23 v1 rfl rfl) h1
  obtain ⟨⟨x2, r2⟩, rfl, s2⟩ := Ev.open_arg (α := Ev.Point) (by kernel_rfl) (by kernel_rfl) (hval 2 23 v2 rfl rfl) h2
  clear hA0 hval0
  refine (Ev.Tb.run_sound (ρ := fun _ => none) (t := Ev.Tb7) (b := Ev.B7) (γ := Bool) (y := true) (Ev.law_FnExactExcessOf x0 x1 x2) (.cons (r0 _) (.cons (r1 _) (.cons (r2 _) .nil))) (by simp [Ev.V.pfs, Ev.Enc.pf])).mono fun e W1 he => ?_
  obtain ⟨x, rfl, hx, hb⟩ := he
  have hx1 := hx (fun _ => none)
  cases hx1
  exact ⟨_, rfl, Ev.post_flat hW1 (fun _ _ _ => trodAll_mk1 (shut_bool Tryz.underlying4 true)) (fun sp => trodAll_mk3 (s0 _ _ _ _) (s1 _ _ _ _) (s2 _ _ _ _)) (fun _ => rfl) hb (ok_one (by kernel_rfl) rfl (okWide_bool_mk Tryz.underlying4 true))⟩

theorem fnExactExcessOf_holds : Rows.FnExactExcessOfSaid :=
  OpenClaim.holds_of_wide 7 Tryz.f7 rfl rfl rfl rfl rfl rfl rfl ⟨rfl, rfl, rfl, rfl, rfl⟩ rfl rfl rfl rfl rfl (by kernel_rfl) Tryz.func7 fnExactExcessOf_closed
    (of_decide_eq_true (by kernel_rfl)) (by unfold Func.isWrapper; first | (rw [if_pos (by decide +kernel)]; kernel_rfl) | (rw [if_neg (by decide +kernel)]; exact ⟨rfl, rfl⟩))
    (fun os started H enc _ => fnExactExcessOf_lifted os started H enc)

end Go.Proofs.YtjfkljhgbomkiaaGreat
