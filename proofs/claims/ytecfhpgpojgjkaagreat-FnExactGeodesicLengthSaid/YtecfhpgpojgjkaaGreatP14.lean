/-
  Plain laws: the sphere: what the program answers is what the reference answers.
-/
import Derived.Test.YtecfhpgpojgjkaaGreatW7
namespace Go.Proofs.YtecfhpgpojgjkaaGreat.Ev
open Go
set_option linter.unusedSimpArgs false
set_option linter.unusedVariables false

theorem lat_eq {p : Point} (h : F_spec_l11Ok p = true) : F_impl_LatOf p = F_spec_RadiansOf p.lat := by
  simp only [F_impl_LatOf, t_impl_LatOf, Tr.get, point_eq, h, Bool.not_true, cfl, radians_eq]
theorem areValid_eq (a b : Point) : F_impl_areValid a b = (F_spec_l11Ok a && F_spec_l11Ok b) := by
  simp only [F_impl_areValid, t_impl_areValid, Tr.get, point_eq]
  cases F_spec_l11Ok a <;> simp only [ctr, cfl, Bool.true_and, Bool.false_and]
theorem times_eq (n : I64) (x : Iv) : F_impl_times n x = F_spec_MulI (F_spec_Integer n) x := by
  simp only [F_impl_times, t_impl_times, Tr.get, mulI_F, integer_eq]
/-! ### the laws -/
end Go.Proofs.YtecfhpgpojgjkaaGreat.Ev
