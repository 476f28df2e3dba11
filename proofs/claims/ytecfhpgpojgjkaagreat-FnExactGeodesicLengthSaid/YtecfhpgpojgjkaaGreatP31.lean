/-
  Plain laws: geodesics: what is asked without a solution: three laws.
-/
import Derived.Test.YtecfhpgpojgjkaaGreatP27
namespace Go.Proofs.YtecfhpgpojgjkaaGreat.Ev
open Go
set_option linter.unusedSimpArgs false
set_option linter.unusedVariables false

noncomputable def gLon (p q : Point) : I64 := F_spec_l11Wrap (.w .i64 (q.lon.val - p.lon.val))
noncomputable def mkG (e : Ell) (p q : Point) : Geo := ⟨e, F_spec_LatitudeI ⟨1, rfl⟩ e (F_spec_RadiansOf p.lat), F_spec_LatitudeI ⟨1, rfl⟩ e (F_spec_RadiansOf q.lat), F_spec_AbsI (F_spec_RadiansOf (gLon p q)), decide ((gLon p q).val < 0)⟩
noncomputable def mkS (e : Ell) (p q : Point) : GeoS := ⟨e, F_spec_LatitudeI ⟨1, rfl⟩ e (F_spec_RadiansOf p.lat), F_spec_LatitudeI ⟨1, rfl⟩ e (F_spec_RadiansOf q.lat), F_spec_AbsI (F_spec_RadiansOf (gLon p q)), gLon p q, F_spec_EccI e, F_spec_MajorI e⟩
theorem make16 {e : Ell} {p q : Point} (hp : F_spec_l11Ok p = true) (hq : F_spec_l11Ok q = true) : F_spec_l16Make e p q = mkS e p q := by
  simp only [F_spec_l16Make, t_spec_l16Make, Tr.get, mkS, gLon, slat_eq hp, slat_eq hq]
theorem geo_make {e : Ell} {p q : Point} (hp : F_spec_l11Ok p = true) (hq : F_spec_l11Ok q = true) : (⟨e, F_impl_LatitudeI ⟨1, rfl⟩ e (F_impl_LatOf p), F_impl_LatitudeI ⟨1, rfl⟩ e (F_impl_LatOf q), F_impl_AbsI (F_impl_RadiansOf (F_impl_WrapLon (.w .i64 (q.lon.val - p.lon.val)))), decide ((F_impl_WrapLon (.w .i64 (q.lon.val - p.lon.val))).val < 0)⟩ : Geo) = mkG e p q := by
  simp only [mkG, gLon, latI_eq, lat_eq hp, lat_eq hq, abs_eq, radians_eq, wrap_eq]
  rfl
theorem areV_eq (a b : Point) : F_impl_areValid a b = (F_spec_l11Ok a && F_spec_l11Ok b) := by
  simp only [F_impl_areValid, t_impl_areValid, Tr.get, point_eq]
  cases F_spec_l11Ok a <;> simp only [ctr, cfl, Bool.true_and, Bool.false_and]
theorem ask_1 (e : Ell) (p q : Point) : F_spec_l16Ask e p q ⟨1, rfl⟩ = bif F_spec_l12Ok e && (F_spec_l11Ok p && F_spec_l11Ok q) then ⟨0, rfl⟩ else ⟨1, rfl⟩ := by
  have h : F_spec_l00In ⟨1, rfl⟩ ⟨1, rfl⟩ ⟨64, rfl⟩ = true := by rw [in_eq]; decide
  simp only [F_spec_l16Ask, t_spec_l16Ask, Tr.get, h, Bool.not_true, cfl]
  cases F_spec_l12Ok e <;> cases F_spec_l11Ok p <;> cases F_spec_l11Ok q <;> rfl
theorem omegaStart_eq (e : Ell) (p q : Point) : F_impl_OmegaStart e p q = F_spec_OmegaStart e p q := by
  simp only [F_impl_OmegaStart, t_impl_OmegaStart, F_spec_OmegaStart, t_spec_OmegaStart, Tr.get, ell_eq, areV_eq, ask_1]
  cases he : F_spec_l12Ok e
  · rfl
  cases hp : F_spec_l11Ok p
  · rfl
  cases hq : F_spec_l11Ok q
  · rfl
  rw [geo_make hp hq, make16 hp hq, known_F, start_eq (mkG e p q) (mkS e p q) rfl rfl]
  rfl
theorem reduced_eq (e : Ell) (p q : Point) (x : Iv) : F_impl_ReducedAngle e p q x = F_spec_ReducedAngle e p q x := by
  simp only [F_impl_ReducedAngle, t_impl_ReducedAngle, F_spec_ReducedAngle, t_spec_ReducedAngle, Tr.get, ell_eq, areV_eq, ask_1]
  cases he : F_spec_l12Ok e
  · rfl
  cases hp : F_spec_l11Ok p
  · rfl
  cases hq : F_spec_l11Ok q
  · rfl
  rw [geo_make hp hq, make16 hp hq, known_F, ang_impl, ang_spec]
  rfl
theorem gbounds_eq (e : Ell) (p q : Point) : F_impl_GeodesicBounds e p q = F_spec_GeodesicBounds e p q := by
  simp only [F_impl_GeodesicBounds, t_impl_GeodesicBounds, F_spec_GeodesicBounds, t_spec_GeodesicBounds, Tr.get, ell_eq, areV_eq, ask_1]
  cases he : F_spec_l12Ok e
  · rfl
  cases hp : F_spec_l11Ok p
  · rfl
  cases hq : F_spec_l11Ok q
  · rfl
  rw [geo_make hp hq, make16 hp hq, known_F, bounds_eq (mkG e p q) (mkS e p q) rfl rfl rfl rfl rfl]
  rfl
theorem law_FnExactOmegaStart (a0 : Ell) (a1 a2 : Point) : Tb9.run B9 [enc a0, enc a1, enc a2] Bool = some true := by
  rw [r_laws_FnExactOmegaStart]
  simp [t_laws_FnExactOmegaStart, Tr.opt, omegaStart_eq, eqI_refl]
theorem law_FnExactReducedAngle (a0 : Ell) (a1 a2 : Point) (a3 : Iv) : Tb10.run B10 [enc a0, enc a1, enc a2, enc a3] Bool = some true := by
  rw [r_laws_FnExactReducedAngle]
  simp [t_laws_FnExactReducedAngle, Tr.opt, reduced_eq, eqI_refl]
theorem law_FnExactGeodesicBounds (a0 : Ell) (a1 a2 : Point) : Tb11.run B11 [enc a0, enc a1, enc a2] Bool = some true := by
  rw [r_laws_FnExactGeodesicBounds]
  simp [t_laws_FnExactGeodesicBounds, Tr.opt, gbounds_eq, eqI_refl]
end Go.Proofs.YtecfhpgpojgjkaaGreat.Ev
