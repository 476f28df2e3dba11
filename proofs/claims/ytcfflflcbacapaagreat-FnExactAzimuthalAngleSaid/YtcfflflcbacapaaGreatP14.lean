/-
  Plain laws: the sphere: what the program answers is what the reference answers.
-/
import Derived.Test.YtcfflflcbacapaaGreatW7
namespace Go.Proofs.YtcfflflcbacapaaGreat.Ev
open Go
set_option linter.unusedSimpArgs false
set_option linter.unusedVariables false

theorem lat_eq {p : Point} (h : F_spec_l11Ok p = true) : F_impl_LatOf p = F_spec_RadiansOf p.lat := by
  simp only [F_impl_LatOf, t_impl_LatOf, Tr.get, point_eq, h, Bool.not_true, cfl, radians_eq]
theorem lon_eq {p : Point} (h : F_spec_l11Ok p = true) : F_impl_LonOf p = F_spec_RadiansOf p.lon := by
  simp only [F_impl_LonOf, t_impl_LonOf, Tr.get, point_eq, h, Bool.not_true, cfl, radians_eq]
theorem flat_eq (v : Vec) : F_impl_fromAxis v = F_spec_l15Flat v := by
  simp only [F_impl_fromAxis, t_impl_fromAxis, F_spec_l15Flat, t_spec_l15Flat, Tr.get, norm_eq]
theorem areValid_eq (a b : Point) : F_impl_areValid a b = (F_spec_l11Ok a && F_spec_l11Ok b) := by
  simp only [F_impl_areValid, t_impl_areValid, Tr.get, point_eq]
  cases F_spec_l11Ok a <;> simp only [ctr, cfl, Bool.true_and, Bool.false_and]
theorem diff_eq (p q : Point) : F_impl_differenceOf p q = F_spec_RadiansOf (F_spec_l11Wrap (Rng.w .i64 (q.lon.val - p.lon.val))) := by
  simp only [F_impl_differenceOf, t_impl_differenceOf, Tr.get, wrap_eq, radians_eq]
theorem times_eq (n : I64) (x : Iv) : F_impl_times n x = F_spec_MulI (F_spec_Integer n) x := by
  simp only [F_impl_times, t_impl_times, Tr.get, mulI_F, integer_eq]
theorem centre_ok {a : Proj} (h : F_spec_ValidProjection a = true) : F_spec_l11Ok ⟨a.lat0, a.lon0⟩ = true := by
  rw [← proj_eq] at h
  rw [← point_eq]
  simp only [F_impl_ValidProjection, t_impl_ValidProjection, Tr.get] at h
  cases hp : F_impl_ValidPoint ⟨a.lat0, a.lon0⟩
  · simp [hp] at h
  · rfl
/-! ### the laws -/
theorem eqV_refl (a : Vec) : F_laws_eqVec a a = true := by simp [F_laws_eqVec, t_laws_eqVec, Tr.get, eqI_refl]
end Go.Proofs.YtcfflflcbacapaaGreat.Ev
