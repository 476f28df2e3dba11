/-
  Plain laws: numbers in range; two readings of validity are one.
-/
import Derived.Test.YtcfflflcbacapaaGreatW0
namespace Go.Proofs.YtcfflflcbacapaaGreat.Ev
open Go
set_option linter.unusedSimpArgs false
set_option linter.unusedVariables false

theorem wi {n : Int} (h : -9223372036854775808 ≤ n) (h' : n ≤ 9223372036854775807) : (Rng.w .i64 n).val = n := wrap_inB (k := .i64) (by simp [inB, h, h'])
theorem wu {n : Int} (h : 0 ≤ n) (h' : n ≤ 18446744073709551615) : (Rng.w .u64 n).val = n := wrap_inB (k := .u64) (by simp [inB, h, h'])
theorem wu_mod (n : Int) : (Rng.w .u64 n).val = n % 18446744073709551616 := by
  show IntKind.u64.wrap n = _
  simp [IntKind.wrap, IntKind.bits, IntKind.signed]

theorem within_eq (a b c : I64) : F_impl_within a b c = decide (b.val ≤ a.val ∧ a.val ≤ c.val) := by
  simp only [F_impl_within, t_impl_within, Tr.get, ge_iff_le]
  by_cases h : b.val ≤ a.val <;> simp [h]
theorem in_eq (a b c : I64) : F_spec_l00In a b c = decide (b.val ≤ a.val ∧ a.val ≤ c.val) := by
  simp only [F_spec_l00In, t_spec_l00In, Tr.get, ge_iff_le]
  by_cases h : b.val ≤ a.val <;> simp [h]
theorem point_eq (p : Point) : F_impl_ValidPoint p = F_spec_l11Ok p := by
  simp only [F_impl_ValidPoint, F_spec_l11Ok, t_impl_ValidPoint, t_spec_l11Ok, Tr.get, within_eq, in_eq]
  rw [Bool.eq_iff_iff]
  simp [Bool.cond_eq_ite]
  grind
theorem abs_val (n : I64) (h : -9223372036854775807 ≤ n.val) : (F_impl_abs n).val = if n.val < 0 then -n.val else n.val := by
  have b := n.bd
  simp only [F_impl_abs, t_impl_abs, Tr.get, mx]
  rw [wi (by omega) (by omega)]
  by_cases h0 : n.val < 0
  · have e : decide (0 - n.val > n.val) = true := by simp; omega
    rw [e, cond_true, wi (by omega) (by omega)]; simp [h0]
  · have e : decide (0 - n.val > n.val) = false := by simp; omega
    rw [e, cond_false]; simp [h0]

theorem proj_eq (p : Proj) : F_impl_ValidProjection p = F_spec_ValidProjection p := by
  simp only [F_impl_ValidProjection, F_spec_ValidProjection, t_impl_ValidProjection, t_spec_ValidProjection, F_spec_l17Ok, t_spec_l17Ok, Tr.get, point_eq, F_spec_l17Standard, t_spec_l17Standard,
    F_impl_isStandard, t_impl_isStandard, F_impl_isConic, t_impl_isConic, F_impl_isAzimuthal, t_impl_isAzimuthal, within_eq, in_eq]
  generalize F_spec_l11Ok ⟨p.lat0, p.lon0⟩ = ok
  cases ok
  · simp
  by_cases h1 : -890000000 ≤ p.lat1.val ∧ p.lat1.val ≤ 890000000
  case neg => simp [h1]
  by_cases h2 : -890000000 ≤ p.lat2.val ∧ p.lat2.val ≤ 890000000
  case neg => simp [h1, h2]
  have hm : (Rng.w .i64 (p.lat1.val + p.lat2.val)).val = p.lat1.val + p.lat2.val := wi (by omega) (by omega)
  have ha := abs_val (Rng.w .i64 (p.lat1.val + p.lat2.val)) (by rw [hm]; omega)
  rw [hm] at ha
  rw [ha, hm]
  by_cases hk : 1 ≤ p.kind.val ∧ p.kind.val ≤ 16
  case neg =>
    have e : ∀ n : Int, 1 ≤ n → n ≤ 16 → (p.kind.val == n) = false := fun n a b => by simp; omega
    simp [h1, h2, hk, e]
  have : p.kind.val = 1 ∨ p.kind.val = 2 ∨ p.kind.val = 3 ∨ p.kind.val = 4 ∨ p.kind.val = 5 ∨ p.kind.val = 6 ∨ p.kind.val = 7 ∨ p.kind.val = 8 ∨ p.kind.val = 9 ∨ p.kind.val = 10 ∨ p.kind.val = 11 ∨
    p.kind.val = 12 ∨ p.kind.val = 13 ∨ p.kind.val = 14 ∨ p.kind.val = 15 ∨ p.kind.val = 16 := by omega
  rcases this with h | h | h | h | h | h | h | h | h | h | h | h | h | h | h | h <;> simp only [h] <;> simp [h1, h2] <;> (try rw [Bool.eq_iff_iff]) <;> simp [Bool.cond_eq_ite] <;> (try split) <;> (try omega) <;> grind

end Go.Proofs.YtcfflflcbacapaaGreat.Ev
