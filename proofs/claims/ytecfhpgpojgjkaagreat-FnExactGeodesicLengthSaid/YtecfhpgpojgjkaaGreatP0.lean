/-
  Plain laws: numbers in range; two readings of validity are one.
-/
import Derived.Test.YtecfhpgpojgjkaaGreatW0
namespace Go.Proofs.YtecfhpgpojgjkaaGreat.Ev
open Go
set_option linter.unusedSimpArgs false
set_option linter.unusedVariables false

theorem wi {n : Int} (h : -9223372036854775808 ≤ n) (h' : n ≤ 9223372036854775807) : (Rng.w .i64 n).val = n := wrap_inB (k := .i64) (by simp [inB, h, h'])
theorem wu {n : Int} (h : 0 ≤ n) (h' : n ≤ 18446744073709551615) : (Rng.w .u64 n).val = n := wrap_inB (k := .u64) (by simp [inB, h, h'])
theorem wu_mod (n : Int) : (Rng.w .u64 n).val = n % 18446744073709551616 := by
  show IntKind.u64.wrap n = _
  simp [IntKind.wrap, IntKind.bits, IntKind.signed]

theorem within_eq (a b c : I64) : F_impl_within a b c = decide (b.val ≤ a.val ∧ a.val ≤ c.val) := by
  simp only [F_impl_within, t_impl_within, Tr.get, ge_iff_le]
  by_cases h : b.val ≤ a.val <;> simp [h]
theorem in_eq (a b c : I64) : F_spec_l00In a b c = decide (b.val ≤ a.val ∧ a.val ≤ c.val) := by
  simp only [F_spec_l00In, t_spec_l00In, Tr.get, ge_iff_le]
  by_cases h : b.val ≤ a.val <;> simp [h]
theorem point_eq (p : Point) : F_impl_ValidPoint p = F_spec_l11Ok p := by
  simp only [F_impl_ValidPoint, F_spec_l11Ok, t_impl_ValidPoint, t_spec_l11Ok, Tr.get, within_eq, in_eq]
  rw [Bool.eq_iff_iff]
  simp [Bool.cond_eq_ite]
  grind
theorem abs_val (n : I64) (h : -9223372036854775807 ≤ n.val) : (F_impl_abs n).val = if n.val < 0 then -n.val else n.val := by
  have b := n.bd
  simp only [F_impl_abs, t_impl_abs, Tr.get, mx]
  rw [wi (by omega) (by omega)]
  by_cases h0 : n.val < 0
  · have e : decide (0 - n.val > n.val) = true := by simp; omega
    rw [e, cond_true, wi (by omega) (by omega)]; simp [h0]
  · have e : decide (0 - n.val > n.val) = false := by simp; omega
    rw [e, cond_false]; simp [h0]

end Go.Proofs.YtecfhpgpojgjkaaGreat.Ev
