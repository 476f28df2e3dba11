/- The law FnSides gives true, whatever bytes come in. No conditions. (One of the texts of its proof, put together by a program of this session.) -/
import Derived.Test.YtfcjhkkpbnobhaaGreatZX0
set_option linter.unusedSimpArgs false
set_option linter.unusedVariables false
namespace Go.Proofs.YtfcjhkkpbnobhaaGreat.PFnSides
open Go.RowKit Go.Proofs.YtfcjhkkpbnobhaaGreatW.PrintWords Go.Proofs.YtfcjhkkpbnobhaaGreatW.PrintLast Go.Proofs.YtfcjhkkpbnobhaaGreatW.PrintMore
noncomputable def zdi.f (a0_0 : Int) (a0_1 : Int) (a1_0 : Int) (a1_1 : Int) (a2_0 : Int) (a2_1 : Int) : Option (Int × Int) := (Ev.rI a0_0).bind fun ba0_0 => (Ev.rI a0_1).bind fun ba0_1 => (Ev.rI a1_0).bind fun ba1_0 => (Ev.rI a1_1).bind fun ba1_1 => (Ev.rI a2_0).bind fun ba2_0 => (Ev.rI a2_1).bind fun ba2_1 => some (match Ev.zbg ⟨ba0_0, ba0_1⟩ ⟨ba1_0, ba1_1⟩ ⟨ba2_0, ba2_1⟩ with | ⟨u0, u1⟩ => (u0.val, u1.val))
theorem zdi.calls (a0_0 : Int) (a0_1 : Int) (a1_0 : Int) (a1_1 : Int) (a2_0 : Int) (a2_1 : Int) (r1 : Int) (r2 : Int) (w : World) (h : zdi.f a0_0 a0_1 a1_0 a1_1 a2_0 a2_1 = some (r1, r2)) :
    Calls Tryz.prog 13 #[.agg #[.int .i64 a0_0, .int .i64 a0_1], .agg #[.int .i64 a1_0, .int .i64 a1_1], .agg #[.int .i64 a2_0, .int .i64 a2_1]] w fun e w' => e = .returned (.tuple #[.int .i64 r1, .int .i64 r2]) /\ Below w.heap.size w w' := by
  unfold zdi.f at h
  replace h := Option.bind_eq_some_iff.mp h
  obtain ⟨ba0_0, ha0_0, h⟩ := h
  obtain rfl := Ev.zdI ha0_0
  replace h := Option.bind_eq_some_iff.mp h
  obtain ⟨ba0_1, ha0_1, h⟩ := h
  obtain rfl := Ev.zdI ha0_1
  replace h := Option.bind_eq_some_iff.mp h
  obtain ⟨ba1_0, ha1_0, h⟩ := h
  obtain rfl := Ev.zdI ha1_0
  replace h := Option.bind_eq_some_iff.mp h
  obtain ⟨ba1_1, ha1_1, h⟩ := h
  obtain rfl := Ev.zdI ha1_1
  replace h := Option.bind_eq_some_iff.mp h
  obtain ⟨ba2_0, ha2_0, h⟩ := h
  obtain rfl := Ev.zdI ha2_0
  replace h := Option.bind_eq_some_iff.mp h
  obtain ⟨ba2_1, ha2_1, h⟩ := h
  obtain rfl := Ev.zdI ha2_1
  have hs := Ev.given_calls ((Ev.r_impl_SideOf ⟨ba0_0, ba0_1⟩ ⟨ba1_0, ba1_1⟩ ⟨ba2_0, ba2_1⟩).trans (Ev.u_impl_SideOf ⟨ba0_0, ba0_1⟩ ⟨ba1_0, ba1_1⟩ ⟨ba2_0, ba2_1⟩)) rfl w
  generalize Ev.zbg ⟨ba0_0, ba0_1⟩ ⟨ba1_0, ba1_1⟩ ⟨ba2_0, ba2_1⟩ = y_ at *
  obtain ⟨u0, u1⟩ := y_
  simp only [Option.some.injEq, Prod.mk.injEq] at h
  obtain ⟨rfl, rfl⟩ := h
  exact hs
noncomputable def zba.f (a0_0 : Int) (a0_1 : Int) (a1_0 : Int) (a1_1 : Int) (a2_0 : Int) (a2_1 : Int) : Option (Int × Int × Int) := (Ev.rI a0_0).bind fun ba0_0 => (Ev.rI a0_1).bind fun ba0_1 => (Ev.rI a1_0).bind fun ba1_0 => (Ev.rI a1_1).bind fun ba1_1 => (Ev.rI a2_0).bind fun ba2_0 => (Ev.rI a2_1).bind fun ba2_1 => some (match Ev.zaM ⟨ba0_0, ba0_1⟩ ⟨ba1_0, ba1_1⟩ ⟨ba2_0, ba2_1⟩ with | ⟨⟨u0, u1⟩, u2⟩ => (u0.val, u1.val, u2.val))
theorem zba.calls (a0_0 : Int) (a0_1 : Int) (a1_0 : Int) (a1_1 : Int) (a2_0 : Int) (a2_1 : Int) (r1 : Int) (r2 : Int) (r3 : Int) (w : World) (h : zba.f a0_0 a0_1 a1_0 a1_1 a2_0 a2_1 = some (r1, r2, r3)) :
    Calls Tryz.prog 14 #[.agg #[.int .i64 a0_0, .int .i64 a0_1], .agg #[.int .i64 a1_0, .int .i64 a1_1], .agg #[.int .i64 a2_0, .int .i64 a2_1]] w fun e w' => e = .returned (.tuple #[.agg #[.int .i64 r1, .int .i64 r2], .int .i64 r3]) /\ Below w.heap.size w w' := by
  unfold zba.f at h
  replace h := Option.bind_eq_some_iff.mp h
  obtain ⟨ba0_0, ha0_0, h⟩ := h
  obtain rfl := Ev.zdI ha0_0
  replace h := Option.bind_eq_some_iff.mp h
  obtain ⟨ba0_1, ha0_1, h⟩ := h
  obtain rfl := Ev.zdI ha0_1
  replace h := Option.bind_eq_some_iff.mp h
  obtain ⟨ba1_0, ha1_0, h⟩ := h
  obtain rfl := Ev.zdI ha1_0
  replace h := Option.bind_eq_some_iff.mp h
  obtain ⟨ba1_1, ha1_1, h⟩ := h
  obtain rfl := Ev.zdI ha1_1
  replace h := Option.bind_eq_some_iff.mp h
  obtain ⟨ba2_0, ha2_0, h⟩ := h
  obtain rfl := Ev.zdI ha2_0
  replace h := Option.bind_eq_some_iff.mp h
  obtain ⟨ba2_1, ha2_1, h⟩ := h
  obtain rfl := Ev.zdI ha2_1
  have hs := Ev.given_calls ((Ev.r_impl_CrossTrack ⟨ba0_0, ba0_1⟩ ⟨ba1_0, ba1_1⟩ ⟨ba2_0, ba2_1⟩).trans (Ev.u_impl_CrossTrack ⟨ba0_0, ba0_1⟩ ⟨ba1_0, ba1_1⟩ ⟨ba2_0, ba2_1⟩)) rfl w
  generalize Ev.zaM ⟨ba0_0, ba0_1⟩ ⟨ba1_0, ba1_1⟩ ⟨ba2_0, ba2_1⟩ = y_ at *
  obtain ⟨⟨u0, u1⟩, u2⟩ := y_
  simp only [Option.some.injEq, Prod.mk.injEq] at h
  obtain ⟨rfl, rfl, rfl⟩ := h
  exact hs
noncomputable def zbM.f (a0_0 : Int) (a0_1 : Int) (a1_0 : Int) (a1_1 : Int) (a2_0 : Int) (a2_1 : Int) : Option (Int × Int × Int) := (Ev.rI a0_0).bind fun ba0_0 => (Ev.rI a0_1).bind fun ba0_1 => (Ev.rI a1_0).bind fun ba1_0 => (Ev.rI a1_1).bind fun ba1_1 => (Ev.rI a2_0).bind fun ba2_0 => (Ev.rI a2_1).bind fun ba2_1 => some (match Ev.za0 ⟨ba0_0, ba0_1⟩ ⟨ba1_0, ba1_1⟩ ⟨ba2_0, ba2_1⟩ with | ⟨⟨u0, u1⟩, u2⟩ => (u0.val, u1.val, u2.val))
theorem zbM.calls (a0_0 : Int) (a0_1 : Int) (a1_0 : Int) (a1_1 : Int) (a2_0 : Int) (a2_1 : Int) (r1 : Int) (r2 : Int) (r3 : Int) (w : World) (h : zbM.f a0_0 a0_1 a1_0 a1_1 a2_0 a2_1 = some (r1, r2, r3)) :
    Calls Tryz.prog 15 #[.agg #[.int .i64 a0_0, .int .i64 a0_1], .agg #[.int .i64 a1_0, .int .i64 a1_1], .agg #[.int .i64 a2_0, .int .i64 a2_1]] w fun e w' => e = .returned (.tuple #[.agg #[.int .i64 r1, .int .i64 r2], .int .i64 r3]) /\ Below w.heap.size w w' := by
  unfold zbM.f at h
  replace h := Option.bind_eq_some_iff.mp h
  obtain ⟨ba0_0, ha0_0, h⟩ := h
  obtain rfl := Ev.zdI ha0_0
  replace h := Option.bind_eq_some_iff.mp h
  obtain ⟨ba0_1, ha0_1, h⟩ := h
  obtain rfl := Ev.zdI ha0_1
  replace h := Option.bind_eq_some_iff.mp h
  obtain ⟨ba1_0, ha1_0, h⟩ := h
  obtain rfl := Ev.zdI ha1_0
  replace h := Option.bind_eq_some_iff.mp h
  obtain ⟨ba1_1, ha1_1, h⟩ := h
  obtain rfl := Ev.zdI ha1_1
  replace h := Option.bind_eq_some_iff.mp h
  obtain ⟨ba2_0, ha2_0, h⟩ := h
  obtain rfl := Ev.zdI ha2_0
  replace h := Option.bind_eq_some_iff.mp h
  obtain ⟨ba2_1, ha2_1, h⟩ := h
  obtain rfl := Ev.zdI ha2_1
  have hs := Ev.given_calls ((Ev.r_impl_ExcessOf ⟨ba0_0, ba0_1⟩ ⟨ba1_0, ba1_1⟩ ⟨ba2_0, ba2_1⟩).trans (Ev.u_impl_ExcessOf ⟨ba0_0, ba0_1⟩ ⟨ba1_0, ba1_1⟩ ⟨ba2_0, ba2_1⟩)) rfl w
  generalize Ev.za0 ⟨ba0_0, ba0_1⟩ ⟨ba1_0, ba1_1⟩ ⟨ba2_0, ba2_1⟩ = y_ at *
  obtain ⟨⟨u0, u1⟩, u2⟩ := y_
  simp only [Option.some.injEq, Prod.mk.injEq] at h
  obtain ⟨rfl, rfl, rfl⟩ := h
  exact hs
noncomputable def zbV.f (a0 : Int) : Option (Int × Int) := (Ev.rI a0).bind fun ba0 => some (match Ev.zC ba0 with | ⟨u0, u1⟩ => (u0.val, u1.val))
theorem zbV.calls (a0 : Int) (r1 : Int) (r2 : Int) (w : World) (h : zbV.f a0 = some (r1, r2)) :
    Calls Tryz.prog 16 #[.int .i64 a0] w fun e w' => e = .returned (.agg #[.int .i64 r1, .int .i64 r2]) /\ Below w.heap.size w w' := by
  unfold zbV.f at h
  replace h := Option.bind_eq_some_iff.mp h
  obtain ⟨ba0, ha0, h⟩ := h
  obtain rfl := Ev.zdI ha0
  have hs := Ev.given_calls ((Ev.r_spec_Integer ba0).trans (Ev.u_spec_Integer ba0)) rfl w
  generalize Ev.zC ba0 = y_ at *
  obtain ⟨u0, u1⟩ := y_
  simp only [Option.some.injEq, Prod.mk.injEq] at h
  obtain ⟨rfl, rfl⟩ := h
  exact hs
noncomputable def zaq.f (a0_0 : Int) (a0_1 : Int) (a1_0 : Int) (a1_1 : Int) : Option (Int) := (Ev.rI a0_0).bind fun ba0_0 => (Ev.rI a0_1).bind fun ba0_1 => (Ev.rI a1_0).bind fun ba1_0 => (Ev.rI a1_1).bind fun ba1_1 => some (match Ev.zbl ⟨ba0_0, ba0_1⟩ ⟨ba1_0, ba1_1⟩ with | u0 => u0.val)
theorem zaq.calls (a0_0 : Int) (a0_1 : Int) (a1_0 : Int) (a1_1 : Int) (r : Int) (w : World) (h : zaq.f a0_0 a0_1 a1_0 a1_1 = some r) :
    Calls Tryz.prog 17 #[.agg #[.int .i64 a0_0, .int .i64 a0_1], .agg #[.int .i64 a1_0, .int .i64 a1_1]] w fun e w' => e = .returned (.int .i64 r) /\ Below w.heap.size w w' := by
  unfold zaq.f at h
  replace h := Option.bind_eq_some_iff.mp h
  obtain ⟨ba0_0, ha0_0, h⟩ := h
  obtain rfl := Ev.zdI ha0_0
  replace h := Option.bind_eq_some_iff.mp h
  obtain ⟨ba0_1, ha0_1, h⟩ := h
  obtain rfl := Ev.zdI ha0_1
  replace h := Option.bind_eq_some_iff.mp h
  obtain ⟨ba1_0, ha1_0, h⟩ := h
  obtain rfl := Ev.zdI ha1_0
  replace h := Option.bind_eq_some_iff.mp h
  obtain ⟨ba1_1, ha1_1, h⟩ := h
  obtain rfl := Ev.zdI ha1_1
  have hs := Ev.given_calls ((Ev.r_spec_LessI ⟨ba0_0, ba0_1⟩ ⟨ba1_0, ba1_1⟩).trans (Ev.u_spec_LessI ⟨ba0_0, ba0_1⟩ ⟨ba1_0, ba1_1⟩)) rfl w
  generalize Ev.zbl ⟨ba0_0, ba0_1⟩ ⟨ba1_0, ba1_1⟩ = y_ at *
  skip
  simp only [Option.some.injEq] at h
  obtain rfl := h
  exact hs
noncomputable def zfV.f (a0_0 : Int) (a0_1 : Int) (a1 : Int) : Option (Bool) := (Ev.rI a0_0).bind fun ba0_0 => (Ev.rI a0_1).bind fun ba0_1 => (Ev.rI a1).bind fun ba1 => some (match Ev.zbT ⟨ba0_0, ba0_1⟩ ba1 with | u0 => u0)
theorem zfV.calls (a0_0 : Int) (a0_1 : Int) (a1 : Int) (r : Bool) (w : World) (h : zfV.f a0_0 a0_1 a1 = some r) :
    Calls Tryz.prog 18 #[.agg #[.int .i64 a0_0, .int .i64 a0_1], .int .i64 a1] w fun e w' => e = .returned (.bool r) /\ Below w.heap.size w w' := by
  unfold zfV.f at h
  replace h := Option.bind_eq_some_iff.mp h
  obtain ⟨ba0_0, ha0_0, h⟩ := h
  obtain rfl := Ev.zdI ha0_0
  replace h := Option.bind_eq_some_iff.mp h
  obtain ⟨ba0_1, ha0_1, h⟩ := h
  obtain rfl := Ev.zdI ha0_1
  replace h := Option.bind_eq_some_iff.mp h
  obtain ⟨ba1, ha1, h⟩ := h
  obtain rfl := Ev.zdI ha1
  have hs := Ev.given_calls ((Ev.r_spec_HasI ⟨ba0_0, ba0_1⟩ ba1).trans (Ev.u_spec_HasI ⟨ba0_0, ba0_1⟩ ba1)) rfl w
  generalize Ev.zbT ⟨ba0_0, ba0_1⟩ ba1 = y_ at *
  skip
  simp only [Option.some.injEq] at h
  obtain rfl := h
  exact hs
end Go.Proofs.YtfcjhkkpbnobhaaGreat.PFnSides
