/-
  Plain laws: zones and rhumb lines.
-/
import Derived.Test.YtcfflflcbacapaaGreatP17
import Derived.Test.YtcfflflcbacapaaGreatW9
namespace Go.Proofs.YtcfflflcbacapaaGreat.Ev
open Go
set_option linter.unusedSimpArgs false
set_option linter.unusedVariables false

theorem zoneQ_eq (e : Ell) (s : Iv) : F_impl_zone e s = F_spec_l13Q e s := by
  simp only [F_impl_zone, t_impl_zone, F_spec_l13Q, t_spec_l13Q, Tr.get, times_eq, ecc_eq, sqrtI_eq, oneLess_eq, weight_eq, divI_F, mulI_F, add_eq, atanhI_eq]
theorem zoneArea_eq (e : Ell) (x y : Iv) : F_impl_ZoneArea e x y = F_spec_ZoneArea e x y := by
  simp only [F_impl_ZoneArea, t_impl_ZoneArea, F_spec_ZoneArea, t_spec_ZoneArea, Tr.get, ell_eq, whole_eq, F_impl_over, t_impl_over, mulI_F, divI_F, zoneQ_eq, sinI_eq, integer_eq]
theorem int0_eq : F_spec_Integer ⟨0, rfl⟩ = ⟨⟨0, rfl⟩, ⟨0, rfl⟩⟩ := by rw [int_val (by decide)]; rfl
theorem valid2_eq (a b : Point) : F_impl_areValid a b = (F_spec_l11Ok a && F_spec_l11Ok b) := by
  simp only [F_impl_areValid, t_impl_areValid, Tr.get, point_eq]
  cases F_spec_l11Ok a <;> simp only [ctr, cfl, Bool.true_and, Bool.false_and]
theorem rhumb_eq (p q : Point) : F_impl_RhumbTo p q = F_spec_RhumbTo p q := by
  simp only [F_impl_RhumbTo, t_impl_RhumbTo, F_spec_RhumbTo, t_spec_RhumbTo, F_spec_l15Stretched, t_spec_l15Stretched, Tr.get]
  rw [valid2_eq]
  cases h1 : F_spec_l11Ok p
  · simp only [ctr, cfl, Bool.not_false, Bool.false_and]
  cases h2 : F_spec_l11Ok q
  · simp only [ctr, cfl, Bool.not_false, Bool.not_true, Bool.and_false]
  simp only [ctr, cfl, Bool.not_true, Bool.and_self, lat_eq h1, lat_eq h2, diff_eq, areb_eq, siw_eq, integer_eq, int0_eq, cosI_eq, sinI_eq, mulI_F, sub_eq, divI_F, abs_eq, atanhI_eq, dirI_eq]
  cases h3 : (p.lat.val == q.lat.val)
  · have h4 : (p.lat.val != q.lat.val) = true := by simp only [bne, h3, Bool.not_false]
    simp only [h4, ctr, cfl]
    generalize F_spec_DirectionI _ _ = d
    generalize F_spec_AbsI (F_spec_DivI _ _) = s
    cases F_spec_l04Ok d <;> cases F_spec_l04Ok s <;> simp only [ctr, cfl, Bool.not_true, Bool.not_false, Bool.and_self, Bool.and_false, Bool.false_and, Bool.and_true]
  · have h4 : (p.lat.val != q.lat.val) = false := by simp only [bne, h3, Bool.not_true]
    simp only [h4, ctr, cfl]
    generalize F_spec_DirectionI _ ⟨⟨0, rfl⟩, ⟨0, rfl⟩⟩ = d
    generalize F_spec_MulI (F_spec_AbsI _) _ = s
    cases F_spec_l04Ok d <;> cases F_spec_l04Ok s <;> simp only [ctr, cfl, Bool.not_true, Bool.not_false, Bool.and_self, Bool.and_false, Bool.false_and, Bool.and_true]
theorem law_FnExactZoneArea (a0 : Ell) (a1 a2 : Iv) : Tb13.run B13 [enc a0, enc a1, enc a2] Bool = some true := by
  rw [r_laws_FnExactZoneArea]
  simp [t_laws_FnExactZoneArea, Tr.opt, zoneArea_eq, eqI_refl]
theorem law_FnExactRhumbTo (a0 a1 : Point) : Tb14.run B14 [enc a0, enc a1] Bool = some true := by
  rw [r_laws_FnExactRhumbTo]
  simp [t_laws_FnExactRhumbTo, Tr.opt, rhumb_eq, eqI_refl]
end Go.Proofs.YtcfflflcbacapaaGreat.Ev
