/-
  Plain laws: the sphere: what the program answers is what the reference answers.
-/
import Derived.Test.YtjfkljhgbomkiaaGreatW7
namespace Go.Proofs.YtjfkljhgbomkiaaGreat.Ev
open Go
set_option linter.unusedSimpArgs false
set_option linter.unusedVariables false

theorem dot_eq (a b : Vec) : F_impl_DotV a b = F_spec_DotV a b := by
  simp only [F_impl_DotV, t_impl_DotV, F_spec_DotV, t_spec_DotV, Tr.get, add_eq, mulI_F]
theorem cross_eq (a b : Vec) : F_impl_CrossV a b = F_spec_CrossV a b := by
  simp only [F_impl_CrossV, t_impl_CrossV, F_spec_CrossV, t_spec_CrossV, Tr.get, sub_eq, mulI_F]
theorem lat_eq {p : Point} (h : F_spec_l11Ok p = true) : F_impl_LatOf p = F_spec_RadiansOf p.lat := by
  simp only [F_impl_LatOf, t_impl_LatOf, Tr.get, point_eq, h, Bool.not_true, cfl, radians_eq]
theorem lon_eq {p : Point} (h : F_spec_l11Ok p = true) : F_impl_LonOf p = F_spec_RadiansOf p.lon := by
  simp only [F_impl_LonOf, t_impl_LonOf, Tr.get, point_eq, h, Bool.not_true, cfl, radians_eq]
theorem vec_eq {p : Point} (h : F_spec_l11Ok p = true) : F_impl_vectorOf p = F_spec_l15Vec p := by
  simp only [F_impl_vectorOf, t_impl_vectorOf, F_spec_l15Vec, t_spec_l15Vec, Tr.get, lat_eq h, lon_eq h, cosI_eq, sinI_eq, mulI_F]
theorem known_eq (x : Iv) : F_impl_knownI x = F_spec_l15Known x := by
  simp only [F_impl_knownI, t_impl_knownI, F_spec_l15Known, t_spec_l15Known, Tr.get, isw_eq, siw_eq]
theorem flat_eq (v : Vec) : F_impl_fromAxis v = F_spec_l15Flat v := by
  simp only [F_impl_fromAxis, t_impl_fromAxis, F_spec_l15Flat, t_spec_l15Flat, Tr.get, norm_eq]
theorem areValid_eq (a b : Point) : F_impl_areValid a b = (F_spec_l11Ok a && F_spec_l11Ok b) := by
  simp only [F_impl_areValid, t_impl_areValid, Tr.get, point_eq]
  cases F_spec_l11Ok a <;> simp only [ctr, cfl, Bool.true_and, Bool.false_and]
theorem vectorOf_eq (p : Point) : F_impl_VectorOf p = F_spec_VectorOf p := by
  simp only [F_impl_VectorOf, t_impl_VectorOf, F_spec_VectorOf, t_spec_VectorOf, Tr.get, point_eq]
  cases h : F_spec_l11Ok p
  · simp only [ctr, cfl, Bool.not_false]
  · simp only [ctr, cfl, Bool.not_true, vec_eq h]
theorem sideOf_eq (p q r : Point) : F_impl_SideOf p q r = F_spec_SideOf p q r := by
  simp only [F_impl_SideOf, t_impl_SideOf, F_spec_SideOf, t_spec_SideOf, Tr.get, point_eq]
  cases h1 : F_spec_l11Ok p
  · simp only [ctr, cfl, Bool.not_false]
  cases h2 : F_spec_l11Ok q
  · simp only [ctr, cfl, Bool.not_false, Bool.not_true]
  cases h3 : F_spec_l11Ok r
  · simp only [ctr, cfl, Bool.not_false, Bool.not_true]
  simp only [ctr, cfl, Bool.not_true, vec_eq h1, vec_eq h2, vec_eq h3, dot_eq, cross_eq, less_eq, integer_eq]
theorem positionOf_eq (v : Vec) : F_impl_PositionOf v = F_spec_PositionOf v := by
  simp only [F_impl_PositionOf, t_impl_PositionOf, F_spec_PositionOf, t_spec_PositionOf, Tr.get]
  rw [flat_eq, dirI_eq, known_eq]
  simp only [F_spec_l15Known, t_spec_l15Known, Tr.get]
  cases F_spec_IsWhole (F_spec_DirectionI v.z (F_spec_l15Flat v))
  · rw [dirI_eq]; simp only [ctr, cfl]; simp
  · simp only [ctr, cfl]; simp
theorem diff_eq (p q : Point) : F_impl_differenceOf p q = F_spec_RadiansOf (F_spec_l11Wrap (Rng.w .i64 (q.lon.val - p.lon.val))) := by
  simp only [F_impl_differenceOf, t_impl_differenceOf, Tr.get, wrap_eq, radians_eq]
theorem azimuthTo_eq (p q : Point) : F_impl_AzimuthTo p q = F_spec_AzimuthTo p q := by
  simp only [F_impl_AzimuthTo, t_impl_AzimuthTo, F_spec_AzimuthTo, t_spec_AzimuthTo, Tr.get, areValid_eq]
  cases h1 : F_spec_l11Ok p
  · simp only [ctr, cfl, Bool.not_false, Bool.false_and]
  cases h2 : F_spec_l11Ok q
  · simp only [ctr, cfl, Bool.not_false, Bool.not_true, Bool.and_false]
  simp only [ctr, cfl, Bool.not_true, Bool.and_self, F_impl_localOf, t_impl_localOf, Tr.get, lat_eq h1, lat_eq h2, diff_eq, cosI_eq, sinI_eq, mulI_F, sub_eq, dirI_eq, known_eq]
theorem times_eq (n : I64) (x : Iv) : F_impl_times n x = F_spec_MulI (F_spec_Integer n) x := by
  simp only [F_impl_times, t_impl_times, Tr.get, mulI_F, integer_eq]
theorem excessOf_eq (p q r : Point) : F_impl_ExcessOf p q r = F_spec_ExcessOf p q r := by
  simp only [F_impl_ExcessOf, t_impl_ExcessOf, F_spec_ExcessOf, t_spec_ExcessOf, Tr.get, point_eq]
  cases h1 : F_spec_l11Ok p
  · simp only [ctr, cfl, Bool.not_false]
  cases h2 : F_spec_l11Ok q
  · simp only [ctr, cfl, Bool.not_false, Bool.not_true]
  cases h3 : F_spec_l11Ok r
  · simp only [ctr, cfl, Bool.not_false, Bool.not_true]
  simp only [ctr, cfl, Bool.not_true, vec_eq h1, vec_eq h2, vec_eq h3, dot_eq, cross_eq, add_eq, integer_eq, dirI_eq, times_eq, known_eq]
theorem midwayOf_eq (p q : Point) : F_impl_MidwayOf p q = F_spec_MidwayOf p q := by
  simp only [F_impl_MidwayOf, t_impl_MidwayOf, F_spec_MidwayOf, t_spec_MidwayOf, Tr.get, areValid_eq]
  cases h1 : F_spec_l11Ok p
  · simp only [ctr, cfl, Bool.not_false, Bool.false_and]
  cases h2 : F_spec_l11Ok q
  · simp only [ctr, cfl, Bool.not_false, Bool.not_true, Bool.and_false]
  simp only [ctr, cfl, Bool.not_true, Bool.and_self, vec_eq h1, vec_eq h2, addV_eq, positionOf_eq]
theorem angleBetween_eq (p q : Point) : F_impl_AngleBetween p q = F_spec_AngleBetween p q := by
  simp only [F_impl_AngleBetween, t_impl_AngleBetween, F_spec_AngleBetween, t_spec_AngleBetween, Tr.get, areValid_eq]
  cases h1 : F_spec_l11Ok p
  · simp only [ctr, cfl, Bool.not_false, Bool.false_and]
  cases h2 : F_spec_l11Ok q
  · simp only [ctr, cfl, Bool.not_false, Bool.not_true, Bool.and_false]
  simp only [ctr, cfl, Bool.not_true, Bool.and_self, vec_eq h1, vec_eq h2, F_spec_l15Angle, t_spec_l15Angle, Tr.get, dot_eq, cross_eq, norm_eq, dirI_eq, known_eq]
theorem crossTrack_eq (p q r : Point) : F_impl_CrossTrack p q r = F_spec_CrossTrack p q r := by
  simp only [F_impl_CrossTrack, t_impl_CrossTrack, F_spec_CrossTrack, t_spec_CrossTrack, Tr.get, point_eq]
  cases h1 : F_spec_l11Ok p
  · simp only [ctr, cfl, Bool.not_false]
  cases h2 : F_spec_l11Ok q
  · simp only [ctr, cfl, Bool.not_false, Bool.not_true]
  cases h3 : F_spec_l11Ok r
  · simp only [ctr, cfl, Bool.not_false, Bool.not_true]
  simp only [ctr, cfl, Bool.not_true, vec_eq h1, vec_eq h2, vec_eq h3, dot_eq, cross_eq, norm_eq, dirI_eq, known_eq]
theorem destination_eq (p : Point) (a d : Iv) : F_impl_Destination p a d = F_spec_Destination p a d := by
  simp only [F_impl_Destination, t_impl_Destination, F_spec_Destination, t_spec_Destination, Tr.get, point_eq]
  cases h1 : F_spec_l11Ok p
  · simp only [ctr, cfl, Bool.not_false]
  simp only [ctr, cfl, Bool.not_true, lat_eq h1, lon_eq h1, cosI_eq, sinI_eq, mulI_F, sub_eq, add_eq, positionOf_eq]
theorem crossingOf_eq (p q r s : Point) : F_impl_CrossingOf p q r s = F_spec_CrossingOf p q r s := by
  simp only [F_impl_CrossingOf, t_impl_CrossingOf, F_spec_CrossingOf, t_spec_CrossingOf, Tr.get, point_eq]
  cases h1 : F_spec_l11Ok p
  · simp only [ctr, cfl, Bool.not_false]
  cases h2 : F_spec_l11Ok q
  · simp only [ctr, cfl, Bool.not_false, Bool.not_true]
  cases h3 : F_spec_l11Ok r
  · simp only [ctr, cfl, Bool.not_false, Bool.not_true]
  cases h4 : F_spec_l11Ok s
  · simp only [ctr, cfl, Bool.not_false, Bool.not_true]
  simp only [ctr, cfl, Bool.not_true, vec_eq h1, vec_eq h2, vec_eq h3, vec_eq h4, cross_eq, positionOf_eq]
theorem centre_ok {a : Proj} (h : F_spec_ValidProjection a = true) : F_spec_l11Ok ⟨a.lat0, a.lon0⟩ = true := by
  rw [← proj_eq] at h
  rw [← point_eq]
  simp only [F_impl_ValidProjection, t_impl_ValidProjection, Tr.get] at h
  cases hp : F_impl_ValidPoint ⟨a.lat0, a.lon0⟩
  · simp [hp] at h
  · rfl
theorem nearSide_eq (a : Proj) (p : Point) : F_impl_NearSide a p = F_spec_NearSide a p := by
  have hk : F_impl_isAzimuthal a.kind = F_spec_l18Kind a.kind := by
    simp only [F_impl_isAzimuthal, t_impl_isAzimuthal, F_spec_l18Kind, t_spec_l18Kind, Tr.get, within_eq, in_eq]
  simp only [F_impl_NearSide, t_impl_NearSide, F_spec_NearSide, t_spec_NearSide, Tr.get, F_impl_LocalOf, t_impl_LocalOf, F_impl_isAzimuthalOne, t_impl_isAzimuthalOne, point_eq, proj_eq, hk]
  cases h0 : F_spec_l18Kind a.kind
  · cases h1 : F_spec_ValidProjection a <;> simp [ctr, cfl]
  cases h1 : F_spec_ValidProjection a
  · simp [ctr, cfl]
  cases h2 : F_spec_l11Ok p
  · simp [ctr, cfl]
  have hc := centre_ok h1
  have e0 : F_impl_Projection_centre a = ⟨a.lat0, a.lon0⟩ := rfl
  simp only [ctr, cfl, Bool.not_true, e0, F_impl_localOf, t_impl_localOf, Tr.get, lat_eq hc, lat_eq h2, diff_eq, cosI_eq, sinI_eq, mulI_F, sub_eq, add_eq, less_eq, integer_eq]
  simp
/-! ### the laws -/
theorem eqV_refl (a : Vec) : F_laws_eqVec a a = true := by simp [F_laws_eqVec, t_laws_eqVec, Tr.get, eqI_refl]
theorem law_FnExactVectorOf (a0 : Point) : Tb3.run B3 [enc a0] Bool = some true := by
  rw [r_laws_FnExactVectorOf]
  simp [t_laws_FnExactVectorOf, Tr.opt, vectorOf_eq, eqV_refl]
theorem law_FnExactSideOf (a0 a1 a2 : Point) : Tb4.run B4 [enc a0, enc a1, enc a2] Bool = some true := by
  rw [r_laws_FnExactSideOf]
  simp [t_laws_FnExactSideOf, Tr.opt, sideOf_eq]
theorem law_FnExactPositionOf (a0 : Vec) : Tb5.run B5 [enc a0] Bool = some true := by
  rw [r_laws_FnExactPositionOf]
  simp [t_laws_FnExactPositionOf, Tr.opt, positionOf_eq, eqI_refl]
theorem law_FnExactAzimuthTo (a0 a1 : Point) : Tb6.run B6 [enc a0, enc a1] Bool = some true := by
  rw [r_laws_FnExactAzimuthTo]
  simp [t_laws_FnExactAzimuthTo, Tr.opt, azimuthTo_eq, eqI_refl]
theorem law_FnExactExcessOf (a0 a1 a2 : Point) : Tb7.run B7 [enc a0, enc a1, enc a2] Bool = some true := by
  rw [r_laws_FnExactExcessOf]
  simp [t_laws_FnExactExcessOf, Tr.opt, excessOf_eq, eqI_refl]
theorem law_FnExactMidwayOf (a0 a1 : Point) : Tb8.run B8 [enc a0, enc a1] Bool = some true := by
  rw [r_laws_FnExactMidwayOf]
  simp [t_laws_FnExactMidwayOf, Tr.opt, midwayOf_eq, eqI_refl]
theorem law_FnExactAngleBetween (a0 a1 : Point) : Tb9.run B9 [enc a0, enc a1] Bool = some true := by
  rw [r_laws_FnExactAngleBetween]
  simp [t_laws_FnExactAngleBetween, Tr.opt, angleBetween_eq, eqI_refl]
theorem law_FnExactCrossTrack (a0 a1 a2 : Point) : Tb10.run B10 [enc a0, enc a1, enc a2] Bool = some true := by
  rw [r_laws_FnExactCrossTrack]
  simp [t_laws_FnExactCrossTrack, Tr.opt, crossTrack_eq, eqI_refl]
theorem law_FnExactDestination (a0 : Point) (a1 a2 : Iv) : Tb11.run B11 [enc a0, enc a1, enc a2] Bool = some true := by
  rw [r_laws_FnExactDestination]
  simp [t_laws_FnExactDestination, Tr.opt, destination_eq, eqI_refl]
theorem law_FnExactCrossingOf (a0 a1 a2 a3 : Point) : Tb12.run B12 [enc a0, enc a1, enc a2, enc a3] Bool = some true := by
  rw [r_laws_FnExactCrossingOf]
  simp [t_laws_FnExactCrossingOf, Tr.opt, crossingOf_eq, eqI_refl]
theorem law_FnExactNearSide (a0 : Proj) (a1 : Point) : Tb14.run B14 [enc a0, enc a1] Bool = some true := by
  rw [r_laws_FnExactNearSide]
  simp [t_laws_FnExactNearSide, Tr.opt, nearSide_eq]
end Go.Proofs.YtjfkljhgbomkiaaGreat.Ev
