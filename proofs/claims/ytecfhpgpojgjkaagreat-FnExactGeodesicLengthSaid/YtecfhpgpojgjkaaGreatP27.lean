/-
  Plain laws: geodesics: what is asked without a solution.
-/
import Derived.Test.YtecfhpgpojgjkaaGreatP25
import Derived.Test.YtecfhpgpojgjkaaGreatWI
namespace Go.Proofs.YtecfhpgpojgjkaaGreat.Ev
open Go
set_option linter.unusedSimpArgs false
set_option linter.unusedVariables false

theorem maxI_eq (a b : Iv) : F_impl_MaxI a b = F_spec_MaxI a b := by
  simp only [F_impl_MaxI, t_impl_MaxI, F_spec_MaxI, t_spec_MaxI, Tr.get, areb_eq, whole_eq]
  cases ha : F_spec_l04Ok a
  · rfl
  cases hb : F_spec_l04Ok b
  · rfl
  have h1 := (okiff a).1 ha
  have h2 := (okiff b).1 hb
  simp only [Bool.and_self, Bool.not_true, cond_false, ← min_eq, ← max_eq]
  refine (make_ok ?_).symm
  rw [mx_val, mx_val]
  split <;> split <;> omega
theorem minI_eq (a b : Iv) : F_impl_MinI a b = F_spec_MinI a b := by
  simp only [F_impl_MinI, t_impl_MinI, F_spec_MinI, t_spec_MinI, Tr.get, areb_eq, whole_eq]
  cases ha : F_spec_l04Ok a
  · rfl
  cases hb : F_spec_l04Ok b
  · rfl
  have h1 := (okiff a).1 ha
  have h2 := (okiff b).1 hb
  simp only [Bool.and_self, Bool.not_true, cond_false, ← min_eq, ← max_eq]
  refine (make_ok ?_).symm
  rw [mn_val, mn_val]
  split <;> split <;> omega
theorem known_F (x : Iv) : F_impl_knownI x = F_spec_l19Known x := by
  simp only [F_impl_knownI, t_impl_knownI, F_spec_l19Known, t_spec_l19Known, Tr.get, isw_eq]
/-- The angle on the auxiliary sphere. -/
noncomputable def ang (u v x : Iv) : Iv := F_spec_MulI (F_spec_Integer ⟨2, rfl⟩) (F_spec_AsinI (F_spec_SqrtI (F_spec_MaxI (F_spec_Integer ⟨0, rfl⟩) (F_spec_AddI (F_spec_SqrI (F_spec_SinI (F_spec_HalfI (F_spec_SubI v u)))) (F_spec_MulI (F_spec_MulI (F_spec_CosI u) (F_spec_CosI v)) (F_spec_SqrI (F_spec_SinI (F_spec_HalfI x))))))))
theorem ang_spec (g : GeoS) (x : Iv) : F_spec_l16S_angle g x = ang g.u g.v x := by simp only [F_spec_l16S_angle, t_spec_l16S_angle, Tr.get, ang]
theorem ang_impl (g : Geo) (x : Iv) : F_impl_geodesic_reduced g x = ang g.u g.v x := by
  simp only [F_impl_geodesic_reduced, t_impl_geodesic_reduced, Tr.get, ang, times_F, asinI_eq, sqrtI_eq, maxI_eq, integer_eq, add_eq, sqrI_F, sinI_eq, cosI_eq, halfI_eq, sub_eq, mulI_F]
theorem bounds_eq (g : Geo) (h : GeoS) (h1 : g.e = h.e) (h2 : g.u = h.u) (h3 : g.v = h.v) (h4 : g.lon = h.l) (h5 : h.major = F_spec_MajorI h.e) : F_impl_geodesic_bounds g = F_spec_l16S_bounds h := by
  simp only [F_impl_geodesic_bounds, t_impl_geodesic_bounds, F_spec_l16S_bounds, t_spec_l16S_bounds, Tr.get, ang_spec, ang_impl, h1, h2, h3, h4, h5, minor_eq, major_eq, mulI_F, bounded_eq, areb_eq, F_spec_l08Ends, t_spec_l08Ends]
  generalize F_spec_MulI (F_spec_MinorI h.e) _ = a
  generalize F_spec_MulI (F_spec_MajorI h.e) _ = b
  cases F_spec_l04Ok a <;> cases F_spec_l04Ok b <;> simp [ctr, cfl]
theorem start_eq (g : Geo) (h : GeoS) (h1 : g.e = h.e) (h4 : g.lon = h.l) : F_impl_geodesic_start g = F_spec_l16S_start h := by
  simp only [F_impl_geodesic_start, t_impl_geodesic_start, F_spec_l16S_start, t_spec_l16S_start, Tr.get, h1, h4, hull_eq, divI_F, oneLess_eq, flatI_eq]
end Go.Proofs.YtecfhpgpojgjkaaGreat.Ev
