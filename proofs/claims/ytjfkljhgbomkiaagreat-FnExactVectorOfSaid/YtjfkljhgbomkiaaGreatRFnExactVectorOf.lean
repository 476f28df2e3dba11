/- The law FnExactVectorOf gives true, whatever comes in; each argument reads behind the call as it read before. No conditions. -/
import Derived.Test.YtjfkljhgbomkiaaGreatEv7
import Derived.Test.YtjfkljhgbomkiaaGreatP14
import Derived.Test.YtjfkljhgbomkiaaGreatRows
import Derived.Test.YtjfkljhgbomkiaaGreatRJ
namespace Go.Proofs.YtjfkljhgbomkiaaGreat
open Go.ChangeShapes Go.WideShapes Go.ChangeAt Go.RowKit

theorem fnExactVectorOf_own : ownKnob Tryz.prog.godebug = none := by kernel_rfl
section
open Go
set_option maxRecDepth 100000
theorem fnExactVectorOf_c0 : (Rows.fnExactVectorOfRow.wf (OpenSpec.ofChange Rows.fnExactVectorOfSpec)) = true := by kernel_rfl
theorem fnExactVectorOf_c3 : (Tryz.f3.params.all (Tryz.pinned.checked.prog.readableRec ·)) = true := by kernel_rfl
theorem fnExactVectorOf_c4 : (namedTie Tryz.pinned.checked.prog Rows.fnExactVectorOfRow.named Rows.fnExactVectorOfSpec.vars) = true := by kernel_rfl
theorem fnExactVectorOf_c5 : ((Rows.fnExactVectorOfRow.stops == [])) = true := by kernel_rfl
theorem fnExactVectorOf_c7 : ((Rows.fnExactVectorOfRow.knobs == [])) = true := by kernel_rfl
theorem fnExactVectorOf_c9 : ((Rows.fnExactVectorOfRow.inPlace == Tryz.pinned.checked.prog.inPlace 3)) = true := by kernel_rfl
theorem fnExactVectorOf_c10 : ((Rows.fnExactVectorOfRow.unfollowed == Tryz.pinned.checked.prog.unfollowed 3)) = true := by kernel_rfl
theorem fnExactVectorOf_c11 : ((Rows.fnExactVectorOfRow.recurses == Tryz.pinned.checked.prog.recurses 3)) = true := by kernel_rfl
theorem fnExactVectorOf_c12 : ((Rows.fnExactVectorOfRow.named == Tryz.pinned.checked.prog.varsNamed 3)) = true := by kernel_rfl
theorem fnExactVectorOf_c13 : ((Rows.fnExactVectorOfRow.maps == (Tryz.f3.params.toList ++ Rows.fnExactVectorOfSpec.plain.varTypes Tryz.pinned.checked.prog).any (Tryz.pinned.checked.prog.mapsRec ·))) = true := by kernel_rfl
theorem fnExactVectorOf_c14 : ((Rows.fnExactVectorOfRow.ifaces == (Tryz.f3.params.toList ++ Rows.fnExactVectorOfSpec.plain.varTypes Tryz.pinned.checked.prog).any (Tryz.pinned.checked.prog.ifacesRec ·))) = true := by kernel_rfl
theorem fnExactVectorOf_c15 : ((Rows.fnExactVectorOfRow.mapsOut == Tryz.pinned.checked.prog.mapsAmong Tryz.f3.resultTypes.toList)) = true := by kernel_rfl
theorem fnExactVectorOf_c16 : ((Rows.fnExactVectorOfRow.loops == (Tryz.f3.params.toList ++ Rows.fnExactVectorOfSpec.plain.varTypes Tryz.pinned.checked.prog).any (Tryz.pinned.checked.prog.loopsFrom ·))) = true := by kernel_rfl
theorem fnExactVectorOf_c17 : ((Rows.fnExactVectorOfRow.wideKeys == (Tryz.f3.params.toList ++ Rows.fnExactVectorOfSpec.plain.varTypes Tryz.pinned.checked.prog ++ Tryz.f3.resultTypes.toList).any (Tryz.pinned.checked.prog.wideKeysFrom ·))) = true := by kernel_rfl
theorem fnExactVectorOf_c18 : (Rows.fnExactVectorOfSpec.vars.all (Tryz.pinned.checked.prog.varReadable ·)) = true := by kernel_rfl
theorem fnExactVectorOf_c19 : (Tryz.f3.resultTypes.all (fun t => Tryz.pinned.checked.prog.readableRec t && decide (t < Tryz.pinned.checked.prog.types.size))) = true := by kernel_rfl
theorem fnExactVectorOf_c20 : ((Rows.fnExactVectorOfRow.ifacesOut == Tryz.f3.resultTypes.toList.any (Tryz.pinned.checked.prog.ifacesRec ·))) = true := by kernel_rfl
theorem fnExactVectorOf_c21 : ((Rows.fnExactVectorOfRow.loopsOut == Tryz.f3.resultTypes.toList.any (Tryz.pinned.checked.prog.loopsFrom ·))) = true := by kernel_rfl
theorem fnExactVectorOf_c23 : (Rows.fnExactVectorOfRow.shortTexts.isNone) = true := by kernel_rfl
theorem fnExactVectorOf_c28 : ((Rows.fnExactVectorOfRow.kinds == (if Rows.fnExactVectorOfRow.domain.isEmpty then [] else Tryz.f3.params.toList.map fun t => match Tryz.pinned.checked.prog.underlying t with | some (.int k) => some k | _ => none))) = true := by kernel_rfl
theorem fnExactVectorOf_c29 : ((Rows.fnExactVectorOfRow.pinned == Rows.fnExactVectorOfRow.pinnedBy)) = true := by kernel_rfl
theorem fnExactVectorOf_c30 : ((Rows.fnExactVectorOfRow.veiled == (Tryz.f3.params.toList ++ Rows.fnExactVectorOfSpec.plain.varTypes Tryz.pinned.checked.prog ++ Tryz.f3.resultTypes.toList).any (Tryz.pinned.checked.prog.veiledRec ·))) = true := by kernel_rfl
theorem fnExactVectorOf_c31 : (Rows.fnExactVectorOfRow.veiledFits Tryz.pinned.checked.prog Tryz.f3.params.toList (Tryz.f3.params.toList ++ Rows.fnExactVectorOfSpec.plain.varTypes Tryz.pinned.checked.prog ++ Tryz.f3.resultTypes.toList)) = true := by kernel_rfl
theorem fnExactVectorOf_closed : joinedFacts Tryz.pinned.checked.prog 3 Tryz.f3 Rows.fnExactVectorOfSpec Rows.fnExactVectorOfRow = true := by
  unfold joinedFacts
  exact (and_t (and_t (and_t (and_t (and_t (and_t (and_t (and_t (and_t (and_t (and_t (and_t (and_t (and_t (and_t (and_t (and_t (and_t (and_t (and_t (and_t (and_t (and_t (and_t (and_t (and_t (and_t (and_t (and_t (and_t (and_t fnExactVectorOf_c0 j_1) j_2) fnExactVectorOf_c3) fnExactVectorOf_c4) fnExactVectorOf_c5) j_6) fnExactVectorOf_c7) j_8) fnExactVectorOf_c9) fnExactVectorOf_c10) fnExactVectorOf_c11) fnExactVectorOf_c12) fnExactVectorOf_c13) fnExactVectorOf_c14) fnExactVectorOf_c15) fnExactVectorOf_c16) fnExactVectorOf_c17) fnExactVectorOf_c18) fnExactVectorOf_c19) fnExactVectorOf_c20) fnExactVectorOf_c21) j_22) fnExactVectorOf_c23) j_24) j_25) j_26) j_27) fnExactVectorOf_c28) fnExactVectorOf_c29) fnExactVectorOf_c30) fnExactVectorOf_c31)
end
set_option maxRecDepth 100000 in
theorem fnExactVectorOf_lifted (os : Os) (started : os.Started) (H : Type) (enc : TypeId × Value → H) :
    ReturnsInHanded {} Tryz.checked os 3 .any (Rows.fnExactVectorOfSpec.pre6 enc Tryz.prog Tryz.f3 Rows.fnExactVectorOfRow.domain false) (Rows.fnExactVectorOfSpec.post enc Tryz.prog Tryz.f3 false true false false) := by
  refine returnsInHanded_of_change (C := Tryz.checked) fnExactVectorOf_own started (by kernel_rfl) Tryz.func3
    (ChangeSpec.witness6 (enc := enc) (C := Tryz.checked) false ⟨#[], #[.agg #[.int .i64 0, .int .i64 0]], []⟩ 8 (by kernel_rfl) (by kernel_rfl) (by kernel_rfl) (by kernel_rfl)) ?_
  intro W base args ds gs before hval0 hW hcnd _
  have hval : ∀ (j : Nat) t v, Tryz.f3.params[j]? = some t → args[j]? = some v → Value.okWide Tryz.prog W .any base t v := hval0
  have hW1 := hW
  obtain ⟨p, q, hA0, hV, rfl, hfz, hnd⟩ := hW
  have hA : DataW.TrodAll enc Tryz.prog W 0 (fun _ => true) true Tryz.f3.params.toList args.toList ds p := hA0
  rw [Tryz.params3] at hA hval
  obtain ⟨v0, d0, rfl, rfl, h0⟩ := trodAll_one hA
  obtain ⟨rfl, rfl⟩ := trodVars_none hV
  obtain ⟨⟨x0, r0⟩, rfl, s0⟩ := Ev.open_arg (α := Ev.Point) (by kernel_rfl) (by kernel_rfl) (hval 0 23 v0 rfl rfl) h0
  clear hA0 hval0
  refine (Ev.Tb.run_sound (ρ := fun _ => none) (t := Ev.Tb3) (b := Ev.B3) (γ := Bool) (y := true) (Ev.law_FnExactVectorOf x0) (.cons (r0 _) .nil) (by simp [Ev.V.pfs, Ev.Enc.pf])).mono fun e W1 he => ?_
  obtain ⟨x, rfl, hx, hb⟩ := he
  have hx1 := hx (fun _ => none)
  cases hx1
  exact ⟨_, rfl, Ev.post_flat hW1 (fun _ _ _ => trodAll_mk1 (shut_bool Tryz.underlying4 true)) (fun sp => trodAll_mk1 (s0 _ _ _ _)) (fun _ => rfl) hb (ok_one (by kernel_rfl) rfl (okWide_bool_mk Tryz.underlying4 true))⟩

theorem fnExactVectorOf_holds : Rows.FnExactVectorOfSaid :=
  OpenClaim.holds_of_wide 3 Tryz.f3 rfl rfl rfl rfl rfl rfl rfl ⟨rfl, rfl, rfl, rfl, rfl⟩ rfl rfl rfl rfl rfl (by kernel_rfl) Tryz.func3 fnExactVectorOf_closed
    (of_decide_eq_true (by kernel_rfl)) (by unfold Func.isWrapper; first | (rw [if_pos (by decide +kernel)]; kernel_rfl) | (rw [if_neg (by decide +kernel)]; exact ⟨rfl, rfl⟩))
    (fun os started H enc _ => fnExactVectorOf_lifted os started H enc)

end Go.Proofs.YtjfkljhgbomkiaaGreat
