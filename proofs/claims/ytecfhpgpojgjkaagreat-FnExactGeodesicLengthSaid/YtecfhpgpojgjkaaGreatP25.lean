/-
  Plain laws: latitudes of other kinds.
-/
import Derived.Test.YtecfhpgpojgjkaaGreatP24
import Derived.Test.YtecfhpgpojgjkaaGreatWG
namespace Go.Proofs.YtecfhpgpojgjkaaGreat.Ev
open Go
set_option linter.unusedSimpArgs false
set_option linter.unusedVariables false

theorem q_val : (F_spec_l05Turn ⟨1, rfl⟩).hi.val = 6746518853 := by kernel_rfl
theorem quarter_F : F_impl_quarter = (F_spec_l05Turn ⟨1, rfl⟩).hi := by
  obtain ⟨g, e1⟩ := turn_in (k := ⟨1, rfl⟩) (by decide) (by decide)
  simp only [F_impl_quarter, t_impl_quarter, Tr.get, turnI_eq, e1]
theorem end_F : F_spec_l13End = (F_spec_l05Turn ⟨1, rfl⟩).hi := by
  obtain ⟨g, e1⟩ := turn_in (k := ⟨1, rfl⟩) (by decide) (by decide)
  simp only [F_spec_l13End, t_spec_l13End, Tr.get, g, ctr]
theorem zone25_eq (e : Ell) (s : Iv) : F_impl_zone e s = F_spec_l13Q e s := by
  simp only [F_impl_zone, t_impl_zone, F_spec_l13Q, t_spec_l13Q, Tr.get, times_eq, ecc_eq, sqrtI_eq, oneLess_eq, weight_eq, divI_F, mulI_F, add_eq, atanhI_eq]
theorem lkind_eq (k : I64) : F_impl_isLatitude k = F_spec_l13Kind k := by
  simp only [F_impl_isLatitude, t_impl_isLatitude, F_spec_l13Kind, t_spec_l13Kind, Tr.get, within_eq, in_eq]
theorem iso_eq {e : Ell} {n : I64} (h : -1152921504606846976 < n.val ∧ n.val < 1152921504606846976) : F_impl_isometric e n = F_spec_l13Iso e n := by
  simp only [F_impl_isometric, t_impl_isometric, F_spec_l13Iso, t_spec_l13Iso, Tr.get, l08At_eq h, at_eq, asinhI_eq, tanI_eq, mulI_F, sub_eq, atanhI_eq, sqrtI_eq, ecc_eq, sinAt_eq]
theorem latAt_eq (k : I64) (e : Ell) (n : I64) : F_impl_LatitudeAt k e n = F_spec_LatitudeAt k e n := by
  have hq := q_val
  have en : (Rng.w .i64 (0 - (F_spec_l05Turn ⟨1, rfl⟩).hi.val)).val = -6746518853 := by rw [hq]; exact wi (by omega) (by omega)
  simp only [F_impl_LatitudeAt, t_impl_LatitudeAt, F_spec_LatitudeAt, t_spec_LatitudeAt, Tr.get, lkind_eq, ell_eq, quarter_F, end_F, within_eq, in_eq, whole_eq]
  cases F_spec_l13Kind k
  · simp only [Bool.not_false, ctr]
  cases F_spec_l12Ok e
  · simp only [Bool.not_false, Bool.not_true, ctr, cfl]
  by_cases hn : (Rng.w .i64 (0 - (F_spec_l05Turn ⟨1, rfl⟩).hi.val)).val ≤ n.val ∧ n.val ≤ (F_spec_l05Turn ⟨1, rfl⟩).hi.val
  · have hb : -1152921504606846976 < n.val ∧ n.val < 1152921504606846976 := by omega
    simp only [hn, and_self, decide_true, Bool.not_true, cfl, F_spec_l13At, t_spec_l13At, Tr.get, iso_eq hb, l08At_eq hb, at_eq, sinAt_eq, cosAt_eq, dirI_eq, oneLess_eq, flatI_eq, ecc_eq, mulI_F, divI_F, atanI_eq, sinhI_eq, asinI_eq, zone25_eq, integer_eq, turnI_eq, arcI_eq]
  · simp only [hn, decide_false, Bool.not_false, Bool.not_true, ctr, cfl]
theorem latI_eq (k : I64) (e : Ell) (x : Iv) : F_impl_LatitudeI k e x = F_spec_LatitudeI k e x := by
  simp only [F_impl_LatitudeI, t_impl_LatitudeI, F_spec_LatitudeI, t_spec_LatitudeI, F_impl_LatitudeI_1_q, t_impl_LatitudeI_1_q, Tr.get, latAt_eq, isw_eq, areb_eq, whole_eq, bounded_eq, ctr, ends8]
theorem law_FnExactLatitudeAt (a0 : I64) (a1 : Ell) (a2 : I64) : Tb5.run B5 [enc a0, enc a1, enc a2] Bool = some true := by
  rw [r_laws_FnExactLatitudeAt]
  simp [t_laws_FnExactLatitudeAt, Tr.opt, latAt_eq, eqI_refl]
theorem law_FnExactLatitudeI (a0 : I64) (a1 : Ell) (a2 : Iv) : Tb6.run B6 [enc a0, enc a1, enc a2] Bool = some true := by
  rw [r_laws_FnExactLatitudeI]
  simp [t_laws_FnExactLatitudeI, Tr.opt, latI_eq, eqI_refl]
end Go.Proofs.YtecfhpgpojgjkaaGreat.Ev
