/- The law FnExactProjectionText gives true, whatever comes in, where the listed tables hold what the program's text lays; each argument and the table of names read behind the call as they read before. The card: the tables tied to the text. No other conditions. -/
import Derived.Test.YtegdoadciojpaaaDoorKP8
import Derived.Test.YtegdoadciojpaaaDoorKP9
import Derived.Test.YtegdoadciojpaaaDoorRows
import Derived.Test.YtegdoadciojpaaaDoorCards
import Derived.Test.YtegdoadciojpaaaDoorTie
import Derived.JoinedOf
import Derived.SevenTiedAt
import Derived.ChangeMaps5
namespace Go.Proofs.YtegdoadciojpaaaDoor
open Go.ChangeShapes Go.WideShapes Go.ChangeAt Go.RowKit

set_option maxRecDepth 100000 in
theorem fnExactProjectionText_lifted (os : Os) (started : os.Started) (H : Type) (enc : TypeId × Value → H) :
    ReturnsInHanded {} Tryd.checked os 5 .any (fun w args => (Rows.fnExactProjectionTextSpec.pre enc Tryd.prog Tryd.f5 [] false w args ∧ laidMetH Tryd.prog tabs4 w) ∧ sizedMet enc Tryd.prog Tryd.f5 (OpenSpec.ofChange Rows.fnExactProjectionTextSpec) false w args)
      (Rows.fnExactProjectionTextSpec.post enc Tryd.prog Tryd.f5 false true false false) := by
  refine returnsInHanded_of_change_and (C := Tryd.checked) (X := fun w _ => laidMetH Tryd.prog tabs4 w) (fun _ _ _ hh h => h.of_heap hh) card_own started (by kernel_rfl) Tryd.func5
    (ChangeSpec.witness_shaped (enc := enc) (C := Tryd.checked) (os := os) (X := fun w _ => laidMetH Tryd.prog tabs4 w) false (World.doorLaid Tryd.prog 77 os) #[.agg #[.int .i64 0, .int .i64 0, .int .i64 0, .int .i64 0, .int .i64 0]] 8 rfl (World.shaped_of_RefB (by kernel_rfl) (by kernel_rfl)) (by kernel_rfl) (by kernel_rfl) (by kernel_rfl) (four_met os _)) ?_
  intro W base args ds gs before hval0 hW _ _ hL _
  have hval : ∀ (j : Nat) t v, Tryd.f5.params[j]? = some t → args[j]? = some v → Value.okWide Tryd.prog W .any base t v := hval0
  have hW' := hW
  obtain ⟨p, q, hA0, hV, rfl, hfz, hnd⟩ := hW
  have hA : DataW.TrodAll enc Tryd.prog W 0 (fun _ => true) true Tryd.f5.params.toList args.toList ds p := hA0
  have hV1 : DataW.TrodVars enc Tryd.prog W (fun _ => true) ["loop.example/g00880/impl.projectionNames"] gs q := hV
  rw [Tryd.params5] at hA hval
  obtain ⟨v0, d0, rfl, rfl, h0⟩ := trodAll_one hA
  obtain ⟨⟨x0, r0⟩, rfl, s0⟩ := Ev.open_arg (α := Ev.Proj) (by kernel_rfl) (by kernel_rfl) (hval 0 27 v0 rfl rfl) h0
  clear hA0 hval0
  obtain ⟨g1, t1, cs1, fuel1, d1, p1, rfl, hg1, ht1, hv1, hd1, rfl⟩ := trodVars_one hV1
  refine (Ev.Tb.run_sound (ρ := fun _ => none) (t := Ev.Tb5) (b := Ev.B5) (γ := Bool) (y := true) (Ev.law_FnExactProjectionText x0) (.cons (r0 _) .nil) (by simp [Ev.V.pfs, Ev.Enc.pf]) (inv_of_four hL)).mono fun e W1 he => ?_
  obtain ⟨x, rfl, hx, hb⟩ := he
  have hx1 := hx (fun _ => none)
  cases hx1
  refine ⟨_, rfl, _, _, _, [], [], _, hW', ?_, ?_, Below.trodVars card_out hb namesRowed hV1, hb.frame _, fun h => by cases h⟩
  · exact trodAll_mk1 (shut_bool Tryd.underlying4 true)
  · exact trodAll_mk1 (s0 _ _ _ _)
theorem fnExactProjectionText_holds : Rows.FnExactProjectionTextSaid :=
  OpenClaim.holds_of_wide 5 Tryd.f5 rfl rfl rfl rfl rfl rfl rfl ⟨rfl, rfl, rfl, rfl, rfl⟩ rfl rfl rfl rfl rfl (by kernel_rfl) Tryd.func5 (by kernel_rfl)
    (of_decide_eq_true (by kernel_rfl)) (by unfold Func.isWrapper; first | (rw [if_pos (by decide +kernel)]; kernel_rfl) | (rw [if_neg (by decide +kernel)]; exact ⟨rfl, rfl⟩))
    (fun os started H enc _ => fnExactProjectionText_lifted os started H enc)
theorem fnExactProjectionTextCard_holds : Rows.FnExactProjectionTextCardSaid :=
  Claim7.holds_tied_plain_at .later [] [.data, .data, .data, .widerDeep] true (true, "56733a2bd8a47e1d74e14b2d3d85a12210363140d470813950da3ca977fe65bd") true
    fnExactProjectionText_holds (fun _ h => by cases h) (by kernel_rfl) (fun _ h => by cases h) fnExactProjectionText_row_tie rfl ⟨rfl, rfl⟩ (by kernel_rfl) rfl
    (fun f fn hf hfn => by
      obtain rfl : f = 5 := Option.some.inj ((show Tryd.prog.funcNamed "loop.example/g00880/laws.FnExactProjectionText" = some 5 by kernel_rfl).symm.trans hf) |>.symm
      obtain rfl : fn = Tryd.f5 := (Option.some.inj (Tryd.func5.symm.trans hfn)).symm
      exact ⟨by kernel_rfl, fun j t ht => by
        rw [Tryd.params5] at ht
        have hm : t ∈ [27] := by simpa using Array.mem_of_getElem? ht
        have hall : ([27].all fun u => !Tryd.prog.wantsStandIn u) = true := by kernel_rfl
        exact (show Tryd.prog.wantsStandIn t = false by simpa using List.all_eq_true.1 hall t hm)⟩)
    (by kernel_rfl)
end Go.Proofs.YtegdoadciojpaaaDoor
