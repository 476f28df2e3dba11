/-
  Plain laws: what never fails.
-/
import Derived.Test.YtcfflflcbacapaaGreatP5
namespace Go.Proofs.YtcfflflcbacapaaGreat.Ev
open Go
set_option linter.unusedSimpArgs false
set_option linter.unusedVariables false

theorem opt_self {γ : Type} [Inhabited γ] {t : Tr γ} {x : γ} (h : t.opt = some x) : t.opt = some t.get := h.trans (congrArg some (Tr.opt_get h).symm)
theorem opt_self2 {γ : Type} [Inhabited γ] {t : Tr γ} (h : t.opt.isSome = true) : t.opt = some t.get := Tr.get_some h
theorem tt_neg (w : Wide) : (t_impl_Wide_negative w).opt = some (F_impl_Wide_negative w) := opt_self (neg_ok w)
theorem tt_WideDiv (w : Wide) (d : I64) : (t_impl_WideDiv w d).opt = some (F_impl_WideDiv w d) := by
  by_cases hd : 0 < d.val
  · exact opt_self (div_impl_ok w d hd)
  · exact opt_self (div_impl_no w d hd)
theorem tt_md_spec (a b d : I64) : (t_spec_MulDivFloor a b d).opt = some (F_spec_MulDivFloor a b d) := opt_self (md_spec a b d)
theorem tt_md_impl (a b d : I64) : (t_impl_MulDivFloor a b d).opt = some (F_impl_MulDivFloor a b d) := opt_self (md_impl a b d)
theorem tt_ff_spec (a b : I64) : (t_spec_l03Floor a b).opt = some (F_spec_l03Floor a b) := opt_self (ff_spec a b)
theorem tt_ff_impl (a b : I64) : (t_impl_FixFloor a b).opt = some (F_impl_FixFloor a b) := opt_self (ff_impl a b)
theorem tt_fc_spec (a b : I64) : (t_spec_l03Ceil a b).opt = some (F_spec_l03Ceil a b) := opt_self (fc_spec a b)
theorem tt_fc_impl (a b : I64) : (t_impl_FixCeil a b).opt = some (F_impl_FixCeil a b) := opt_self (fc_impl a b)
theorem tt_q_spec (a b : I64) : (t_spec_Quotient a b).opt = some (F_spec_Quotient a b) := opt_self (q_spec a b)
theorem tt_q_impl (a b : I64) : (t_impl_Quotient a b).opt = some (F_impl_Quotient a b) := opt_self (q_impl a b)
theorem tt_rad_spec (n : I64) : (t_spec_RadiansOf n).opt = some (F_spec_RadiansOf n) := opt_self2 (rad_eq n).2
theorem tt_rad_impl (n : I64) : (t_impl_RadiansOf n).opt = some (F_impl_RadiansOf n) := by
  obtain ⟨h1, h2⟩ := rad_eq n
  exact opt_self2 (by rw [h1]; exact h2)
theorem tt_hgt (h : I64) : (t_impl_HeightI h).opt = some (F_impl_HeightI h) := opt_self2 (by
  simp only [t_impl_HeightI, Tr.opt, q_G_impl, cond_true]
  cases F_impl_isHeight h <;> rfl)
end Go.Proofs.YtcfflflcbacapaaGreat.Ev
