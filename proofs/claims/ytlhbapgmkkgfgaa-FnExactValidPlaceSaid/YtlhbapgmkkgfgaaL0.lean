/- Pure part of the laws. -/
import Derived.Test.YtlhbapgmkkgfgaaW0
namespace Go.Proofs.Ytlhbapgmkkgfgaa.Ev
open Go

theorem law_FnExactValidPlace (a0 : Place) : Tb3.run B3 [enc a0] Bool = some true := by
  rw [r_laws_FnExactValidPlace]
  have h : F_impl_ValidPlace (F_laws_toPlace a0) = F_spec_ValidPlace (F_laws_toPlace a0) := by
    simp only [F_impl_ValidPlace, F_spec_ValidPlace, t_impl_ValidPlace, t_spec_ValidPlace, Tr.get, F_impl_ValidPoint, F_spec_l11Ok, t_impl_ValidPoint, t_spec_l11Ok, F_impl_isHeight, t_impl_isHeight,
      F_impl_within, F_spec_l00In, t_impl_within, t_spec_l00In]
    rw [Bool.eq_iff_iff]
    simp [Bool.cond_eq_ite]
    grind
  simp [t_laws_FnExactValidPlace, h, Tr.opt]
end Go.Proofs.Ytlhbapgmkkgfgaa.Ev
