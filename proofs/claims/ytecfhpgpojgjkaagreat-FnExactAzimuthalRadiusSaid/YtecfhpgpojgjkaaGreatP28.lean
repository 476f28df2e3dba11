/-
  Plain laws: cylindrical projections, azimuthal distances.
-/
import Derived.Test.YtecfhpgpojgjkaaGreatP25
namespace Go.Proofs.YtecfhpgpojgjkaaGreat.Ev
open Go
set_option linter.unusedSimpArgs false
set_option linter.unusedVariables false

theorem proj17_eq (p : Proj) : F_impl_ValidProjection p = F_spec_l17Ok p := by
  simp only [F_impl_ValidProjection, t_impl_ValidProjection, F_spec_l17Ok, t_spec_l17Ok, Tr.get, point_eq, F_spec_l17Standard, t_spec_l17Standard,
    F_impl_isStandard, t_impl_isStandard, F_impl_isConic, t_impl_isConic, F_impl_isAzimuthal, t_impl_isAzimuthal, within_eq, in_eq]
  generalize F_spec_l11Ok ⟨p.lat0, p.lon0⟩ = ok
  cases ok
  · simp
  by_cases h1 : -890000000 ≤ p.lat1.val ∧ p.lat1.val ≤ 890000000
  case neg => simp [h1]
  by_cases h2 : -890000000 ≤ p.lat2.val ∧ p.lat2.val ≤ 890000000
  case neg => simp [h1, h2]
  have hm : (Rng.w .i64 (p.lat1.val + p.lat2.val)).val = p.lat1.val + p.lat2.val := wi (by omega) (by omega)
  have ha := abs_val (Rng.w .i64 (p.lat1.val + p.lat2.val)) (by rw [hm]; omega)
  rw [hm] at ha
  rw [ha, hm]
  by_cases hk : 1 ≤ p.kind.val ∧ p.kind.val ≤ 16
  case neg =>
    have e : ∀ n : Int, 1 ≤ n → n ≤ 16 → (p.kind.val == n) = false := fun n a b => by simp; omega
    simp [h1, h2, hk, e]
  have : p.kind.val = 1 ∨ p.kind.val = 2 ∨ p.kind.val = 3 ∨ p.kind.val = 4 ∨ p.kind.val = 5 ∨ p.kind.val = 6 ∨ p.kind.val = 7 ∨ p.kind.val = 8 ∨ p.kind.val = 9 ∨ p.kind.val = 10 ∨ p.kind.val = 11 ∨
    p.kind.val = 12 ∨ p.kind.val = 13 ∨ p.kind.val = 14 ∨ p.kind.val = 15 ∨ p.kind.val = 16 := by omega
  rcases this with h | h | h | h | h | h | h | h | h | h | h | h | h | h | h | h <;> simp only [h] <;> simp [h1, h2] <;> (try rw [Bool.eq_iff_iff]) <;> simp [Bool.cond_eq_ite] <;> (try split) <;> (try omega) <;> grind

theorem lonFrom_eq {a : Proj} {p : Point} (h0 : F_spec_l17Ok a = true) (h1 : F_spec_l11Ok p = true) : F_impl_LonFrom a p = F_spec_l17Lon a p := by
  have hp : F_impl_ValidProjection a = F_spec_l17Ok a := proj17_eq a
  simp only [F_impl_LonFrom, t_impl_LonFrom, F_spec_l17Lon, t_spec_l17Lon, Tr.get, hp, point_eq, h0, h1, Bool.not_true, cfl, wrap_eq, radians_eq]
theorem planar_eq (x y : Iv) : F_impl_planar x y = F_spec_l17End x y := by
  simp only [F_impl_planar, t_impl_planar, F_spec_l17End, t_spec_l17End, Tr.get, areb_eq]
  cases F_spec_l04Ok x <;> cases F_spec_l04Ok y <;> simp [ctr, cfl]
theorem overlap_no {a b : Iv} (h : F_spec_l04Ok a = false) : F_spec_OverlapI a b = true := by
  simp only [F_spec_OverlapI, t_spec_OverlapI, F_spec_MeetI, t_spec_MeetI, Tr.get, h, Bool.not_false, ctr]
  cases F_spec_l04Ok b <;> simp only [Bool.not_false, Bool.not_true, ctr, cfl]
theorem kind_in {k : I64} (h : F_spec_l00In k ⟨1, rfl⟩ ⟨4, rfl⟩ = true) : k.val = 1 ∨ k.val = 2 ∨ k.val = 3 ∨ k.val = 4 := by
  rw [in_eq] at h; simp at h; omega
theorem cylF_eq (a : Proj) (p : Point) : F_impl_CylinderForward a p = F_spec_CylinderForward a p := by
  have hp : F_impl_ValidProjection a = F_spec_l17Ok a := proj17_eq a
  have hk : F_impl_isCylindrical a.kind = F_spec_l00In a.kind ⟨1, rfl⟩ ⟨4, rfl⟩ := by simp only [F_impl_isCylindrical, t_impl_isCylindrical, Tr.get, within_eq, in_eq]
  simp only [F_impl_CylinderForward, t_impl_CylinderForward, F_spec_CylinderForward, t_spec_CylinderForward, F_spec_l17Cylinder, t_spec_l17Cylinder, Tr.get, hp, hk, point_eq]
  cases h0 : F_spec_l17Ok a
  · simp [ctr, cfl]
  cases h1 : F_spec_l11Ok p
  · cases F_spec_l00In a.kind ⟨1, rfl⟩ ⟨4, rfl⟩ <;> simp [ctr, cfl]
  cases h2 : F_spec_l00In a.kind ⟨1, rfl⟩ ⟨4, rfl⟩
  · simp [ctr, cfl]
  simp only [Bool.not_true, ctr, cfl, pole_eq h1, lat_eq h1, slat_eq h1, lonFrom_eq h0 h1, radians_eq, cosI_eq, sinI_eq, divI_F, mulI_F, quot_eq, planar_eq, asinhI_eq, tanI_eq]
  rcases kind_in h2 with h | h | h | h <;> simp [h, ctr, cfl]
theorem onEarth_eq (a : Proj) (x y : Iv) : F_impl_onEarth x y a.lon0 = F_spec_l17Back a x y := by
  obtain ⟨g1, e1⟩ := turn_in (k := ⟨1, rfl⟩) (by decide) (by decide)
  obtain ⟨g2, e2⟩ := turn_in (k := ⟨2, rfl⟩) (by decide) (by decide)
  simp only [F_impl_onEarth, t_impl_onEarth, F_impl_overlapsAny, t_impl_overlapsAny, F_impl_pair, t_impl_pair, F_spec_l17Back, t_spec_l17Back, Tr.get, quarter_F, turnI_eq, e1, e2, g1, g2, overlap_eq, areb_eq, add_eq, radians_eq, ctr]
  cases hx : F_spec_l04Ok x
  · rw [overlap_no hx]
    cases hy : F_spec_l04Ok y
    · rw [overlap_no hy]; simp [ctr, cfl]
    · simp only [Bool.not_true, Bool.not_false, ctr, cfl, Bool.false_and]
  · generalize F_spec_OverlapI x _ = c
    cases hy : F_spec_l04Ok y
    · rw [overlap_no hy]
      cases c <;> simp [ctr, cfl]
    · generalize F_spec_OverlapI y _ = d
      generalize F_spec_l04Ok (F_spec_AddI y _) = f
      cases c <;> cases d <;> cases f <;> simp [ctr, cfl]
theorem back_G (a : Proj) (x y : Iv) : G_spec_l17Back a x y = true := by
  obtain ⟨g1, _⟩ := turn_in (k := ⟨1, rfl⟩) (by decide) (by decide)
  obtain ⟨g2, _⟩ := turn_in (k := ⟨2, rfl⟩) (by decide) (by decide)
  unfold G_spec_l17Back
  simp only [t_spec_l17Back, Tr.opt, g1, g2, ctr]
  repeat' (first | rfl | refine cond_some _ _ _ ?_ ?_)
theorem cylI_eq (a : Proj) (p : Planar) : F_impl_CylinderInverse a p = F_spec_CylinderInverse a p := by
  have hp : F_impl_ValidProjection a = F_spec_l17Ok a := proj17_eq a
  have hk : F_impl_isCylindrical a.kind = F_spec_l00In a.kind ⟨1, rfl⟩ ⟨4, rfl⟩ := by simp only [F_impl_isCylindrical, t_impl_isCylindrical, Tr.get, within_eq, in_eq]
  simp only [F_impl_CylinderInverse, t_impl_CylinderInverse, F_spec_CylinderInverse, t_spec_CylinderInverse, F_spec_l17Cylinder, t_spec_l17Cylinder, Tr.get, hp, hk]
  cases h0 : F_spec_l17Ok a
  · simp [ctr, cfl]
  cases h2 : F_spec_l00In a.kind ⟨1, rfl⟩ ⟨4, rfl⟩
  · simp [ctr, cfl]
  simp only [Bool.not_true, ctr, cfl, radians_eq, cosI_eq, divI_F, mulI_F, quot_eq, atanI_eq, sinhI_eq, asinI_eq, onEarth_eq, overlap_eq, ring_eq]
  rcases kind_in h2 with h | h | h | h <;> simp [h, ctr, cfl, back_G]
  generalize F_spec_MulI p.y _ = s
  cases hs : F_spec_l04Ok s
  · rw [overlap_no hs]; simp [ctr, cfl]
  · simp [ctr, cfl]
theorem cylInv_G (a : Proj) (p : Planar) : G_spec_CylinderInverse a p = true := by
  unfold G_spec_CylinderInverse
  simp only [t_spec_CylinderInverse, Tr.opt, back_G, ctr]
  repeat' (first | rfl | refine cond_some _ _ _ ?_ ?_)
theorem azRad_eq (k : I64) (x : Iv) : F_impl_AzimuthalRadius k x = F_spec_AzimuthalRadius k x := by
  simp only [F_impl_AzimuthalRadius, t_impl_AzimuthalRadius, F_spec_AzimuthalRadius, t_spec_AzimuthalRadius, Tr.get, times_eq, halfI_eq, tanI_eq, sinI_eq, whole_eq, sWhole_eq]
theorem eqPlanar_refl (a : Planar) : F_laws_eqPlanar a a = true := by simp [F_laws_eqPlanar, t_laws_eqPlanar, Tr.get, eqI_refl]
theorem law_FnExactCylinderForward (a0 : Proj) (a1 : Point) : Tb3.run B3 [enc a0, enc a1] Bool = some true := by
  rw [r_laws_FnExactCylinderForward]
  simp [t_laws_FnExactCylinderForward, Tr.opt, cylF_eq, eqPlanar_refl]
theorem law_FnExactCylinderInverse (a0 : Proj) (a1 : Planar) : Tb4.run B4 [enc a0, enc a1] Bool = some true := by
  rw [r_laws_FnExactCylinderInverse]
  simp [t_laws_FnExactCylinderInverse, Tr.opt, cylI_eq, cylInv_G, eqI_refl]
theorem law_FnExactAzimuthalRadius (a0 : I64) (a1 : Iv) : Tb12.run B12 [enc a0, enc a1] Bool = some true := by
  rw [r_laws_FnExactAzimuthalRadius]
  simp [t_laws_FnExactAzimuthalRadius, Tr.opt, azRad_eq, eqI_refl]
end Go.Proofs.YtecfhpgpojgjkaaGreat.Ev
