/-
  Plain laws: from Cartesian coordinates.
-/
import Derived.Test.YtcfflflcbacapaaGreatP18
import Derived.Test.YtcfflflcbacapaaGreatWM
namespace Go.Proofs.YtcfflflcbacapaaGreat.Ev
open Go
set_option linter.unusedSimpArgs false
set_option linter.unusedVariables false

theorem less_vals (a b : Iv) : (F_spec_LessI a b).val = 0 ∨ (F_spec_LessI a b).val = 1 ∨ (F_spec_LessI a b).val = 2 := by
  simp only [F_spec_LessI, t_spec_LessI, Tr.get]
  cases F_spec_l04Ok a <;> cases F_spec_l04Ok b <;> cases decide (a.hi.val < b.lo.val) <;> cases decide (a.lo.val ≥ b.hi.val) <;> simp
theorem far_eq (e : Ell) (v : Vec) : F_impl_centreCode e v = F_spec_l14Far e v := by
  simp only [F_impl_centreCode, t_impl_centreCode, F_spec_l14Far, t_spec_l14Far, Tr.get]
  rw [ell_eq, sell_eq, less_eq, norm_eq, halfI_eq, major_eq]
  rcases less_vals (F_spec_NormV v) (F_spec_HalfI (F_spec_MajorI e)) with h | h | h <;> simp [h]
theorem far_ok {e : Ell} {v : Vec} (h : (F_spec_l14Far e v).val = 0) : F_spec_l12Ok e = true := by
  simp only [F_spec_l14Far, t_spec_l14Far, Tr.get, sell_eq] at h
  cases ho : F_spec_l12Ok e
  · rw [ho] at h; simp at h
  · rfl
theorem latitudeOf_eq (e : Ell) (v : Vec) : F_impl_LatitudeOf e v = F_spec_LatitudeOf e v := by
  simp only [F_impl_LatitudeOf, t_impl_LatitudeOf, F_spec_LatitudeOf, t_spec_LatitudeOf, Tr.get, far_eq]
  by_cases h : (F_spec_l14Far e v).val = 0
  · simp only [lat_same (far_ok h)]
  · have hb : ((F_spec_l14Far e v).val != 0) = true := by simpa using h
    simp only [hb, ctr]
theorem fromCartesian_eq (e : Ell) (v : Vec) : F_impl_FromCartesian e v = F_spec_FromCartesian e v := by
  simp only [F_impl_FromCartesian, t_impl_FromCartesian, F_spec_FromCartesian, t_spec_FromCartesian, Tr.get]
  rw [far_eq]
  by_cases h : (F_spec_l14Far e v).val = 0
  · simp only [lat_same (far_ok h), isw_eq, siw_eq, flat_eq, weight_eq, major_eq, sqrtI_eq, mulI_F, sub_eq, add_eq, cosI_eq, sinI_eq, dirI_eq]
  · have hb : ((F_spec_l14Far e v).val != 0) = true := by simpa using h
    simp only [hb, ctr]
theorem law_FnExactLatitudeOf (a0 : Ell) (a1 : Vec) : Tb10.run B10 [enc a0, enc a1] Bool = some true := by
  rw [r_laws_FnExactLatitudeOf]
  simp [t_laws_FnExactLatitudeOf, Tr.opt, latitudeOf_eq, eqI_refl]
theorem law_FnExactFromCartesian (a0 : Ell) (a1 : Vec) : Tb11.run B11 [enc a0, enc a1] Bool = some true := by
  rw [r_laws_FnExactFromCartesian]
  simp [t_laws_FnExactFromCartesian, Tr.opt, fromCartesian_eq, eqI_refl]
end Go.Proofs.YtcfflflcbacapaaGreat.Ev
