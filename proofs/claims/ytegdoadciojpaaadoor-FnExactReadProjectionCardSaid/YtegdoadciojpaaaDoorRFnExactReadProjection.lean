/- The law FnExactReadProjection gives true, whatever comes in, where the listed tables hold what the program's text lays; each argument and the table of names read behind the call as they read before. The card: the tables tied to the text. No other conditions. -/
import Derived.Test.YtegdoadciojpaaaDoorKR5
import Derived.Test.YtegdoadciojpaaaDoorKR6
import Derived.Test.YtegdoadciojpaaaDoorRows
import Derived.Test.YtegdoadciojpaaaDoorCards
import Derived.Test.YtegdoadciojpaaaDoorTie
import Derived.JoinedOf
import Derived.SevenTiedAt
import Derived.ChangeMaps5
namespace Go.Proofs.YtegdoadciojpaaaDoor
open Go.ChangeShapes Go.WideShapes Go.ChangeAt Go.RowKit

set_option maxRecDepth 100000 in
theorem fnExactReadProjection_lifted (os : Os) (started : os.Started) (H : Type) (enc : TypeId × Value → H) :
    ReturnsInHanded {} Tryd.checked os 7 .any (fun w args => (Rows.fnExactReadProjectionSpec.pre enc Tryd.prog Tryd.f7 [] false w args ∧ laidMetH Tryd.prog tabs8 w) ∧ sizedMet enc Tryd.prog Tryd.f7 (OpenSpec.ofChange Rows.fnExactReadProjectionSpec) false w args)
      (Rows.fnExactReadProjectionSpec.post enc Tryd.prog Tryd.f7 false true false false) := by
  refine returns_shaped (C := Tryd.checked) (X := fun w _ => laidMetH Tryd.prog tabs8 w) (fun _ _ _ hh h => h.of_heap hh) card_own started (by kernel_rfl) Tryd.func7
    (ChangeSpec.witness_shaped (enc := enc) (C := Tryd.checked) (os := os) (X := fun w _ => laidMetH Tryd.prog tabs8 w) false (World.laidAll Tryd.prog os tabs8) #[.string ByteArray.empty] 8 rfl (World.shaped_of_ZipB (by kernel_rfl) (by kernel_rfl)) (by kernel_rfl) (by kernel_rfl) (by kernel_rfl) (eight_met os _)) ?_
  intro W base args ds gs before hval0 hW hL hsh
  have hval : ∀ (j : Nat) t v, Tryd.f7.params[j]? = some t → args[j]? = some v → Value.okWide Tryd.prog W .any base t v := hval0
  have hW' := hW
  obtain ⟨p, q, hA0, hV, rfl, hfz, hnd⟩ := hW
  have hA : DataW.TrodAll enc Tryd.prog W 0 (fun _ => true) true Tryd.f7.params.toList args.toList ds p := hA0
  have hV1 : DataW.TrodVars enc Tryd.prog W (fun _ => true) ["loop.example/g00880/impl.projectionNames"] gs q := hV
  rw [Tryd.params7] at hA hval
  obtain ⟨v0, d0, rfl, rfl, h0⟩ := trodAll_one hA
  obtain ⟨x0, rfl, rfl, rfl, ws⟩ := Go.ChangeMaps.open_string Tryd.underlying9 (hval 0 9 v0 rfl rfl) h0
  clear hA0 hval0
  obtain ⟨g1, t1, cs1, fuel1, d1, p1, rfl, hg1, ht1, hv1, hd1, rfl⟩ := trodVars_one hV1
  refine (Ev.Tb.run_sound (ρ := fun _ => none) (t := Ev.Tb7) (b := Ev.B7) (γ := Bool) (y := true) (Ev.law_FnExactReadProjection x0 ws) (.cons (.str x0) .nil) (by simp [Ev.V.pfs, Ev.Enc.pf]) (inv_of_eight hL hsh)).mono fun e W1 he => ?_
  obtain ⟨x, rfl, hx, hb⟩ := he
  have hx1 := hx (fun _ => none)
  cases hx1
  refine ⟨_, rfl, _, _, _, [], [], _, hW', ?_, ?_, Below.trodVars card_out hb namesRowed hV1, hb.frame _, fun h => by cases h⟩
  · exact trodAll_mk1 (shut_bool Tryd.underlying4 true)
  · exact trodAll_mk1 (Go.ChangeMaps.shut_string Tryd.underlying9 ws)
theorem fnExactReadProjection_holds : Rows.FnExactReadProjectionSaid :=
  OpenClaim.holds_of_wide 7 Tryd.f7 rfl rfl rfl rfl rfl rfl rfl ⟨rfl, rfl, rfl, rfl, rfl⟩ rfl rfl rfl rfl rfl (by kernel_rfl) Tryd.func7 (by kernel_rfl)
    (of_decide_eq_true (by kernel_rfl)) (by unfold Func.isWrapper; first | (rw [if_pos (by decide +kernel)]; kernel_rfl) | (rw [if_neg (by decide +kernel)]; exact ⟨rfl, rfl⟩))
    (fun os started H enc _ => fnExactReadProjection_lifted os started H enc)
theorem fnExactReadProjectionCard_holds : Rows.FnExactReadProjectionCardSaid :=
  Claim7.holds_tied_plain_at .later [] [.data, .data, .data, .data, .sentinel, .sentinel, .widerDeep, .pinned] true (true, "56733a2bd8a47e1d74e14b2d3d85a12210363140d470813950da3ca977fe65bd") true
    fnExactReadProjection_holds (fun _ h => by cases h) (by kernel_rfl) (fun _ h => by cases h) fnExactReadProjection_row_tie rfl ⟨rfl, rfl⟩ (by kernel_rfl) rfl
    (fun f fn hf hfn => by
      obtain rfl : f = 7 := Option.some.inj ((show Tryd.prog.funcNamed "loop.example/g00880/laws.FnExactReadProjection" = some 7 by kernel_rfl).symm.trans hf) |>.symm
      obtain rfl : fn = Tryd.f7 := (Option.some.inj (Tryd.func7.symm.trans hfn)).symm
      exact ⟨by kernel_rfl, fun j t ht => by
        rw [Tryd.params7] at ht
        have hm : t ∈ [9] := by simpa using Array.mem_of_getElem? ht
        have hall : ([9].all fun u => !Tryd.prog.wantsStandIn u) = true := by kernel_rfl
        exact (show Tryd.prog.wantsStandIn t = false by simpa using List.all_eq_true.1 hall t hm)⟩)
    (by kernel_rfl)
end Go.Proofs.YtegdoadciojpaaaDoor
