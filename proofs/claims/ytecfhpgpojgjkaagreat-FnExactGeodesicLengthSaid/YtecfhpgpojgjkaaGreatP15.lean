/-
  Plain laws: ellipsoids, places, the sphere's other functions.
-/
import Derived.Test.YtecfhpgpojgjkaaGreatP14
namespace Go.Proofs.YtecfhpgpojgjkaaGreat.Ev
open Go
set_option linter.unusedSimpArgs false
set_option linter.unusedVariables false

theorem ell_eq (e : Ell) : F_impl_ValidEllipsoid e = F_spec_l12Ok e := by
  simp only [F_impl_ValidEllipsoid, t_impl_ValidEllipsoid, F_spec_l12Ok, t_spec_l12Ok, Tr.get, within_eq, in_eq]
  cases decide (1000 ≤ e.a.val ∧ e.a.val ≤ 100000000000)
  · simp [ctr, cfl]
  cases decide (1 ≤ e.den.val ∧ e.den.val ≤ 1000000000000)
  · simp [ctr, cfl]
  simp only [ctr]
  by_cases h : e.num.val ≥ 0
  · by_cases h2 : e.num.val ≤ (Rng.w .i64 (e.den.val.tdiv 100)).val <;> simp [h, h2]
  · simp [h]
theorem flatI_eq (e : Ell) : F_impl_FlatteningI e = F_spec_FlatteningI e := by
  simp only [F_impl_FlatteningI, t_impl_FlatteningI, F_spec_FlatteningI, t_spec_FlatteningI, Tr.get, ell_eq, quot_eq, whole_eq]
theorem major_eq (e : Ell) : F_impl_MajorI e = F_spec_MajorI e := by
  simp only [F_impl_MajorI, t_impl_MajorI, F_spec_MajorI, t_spec_MajorI, Tr.get, ell_eq, quot_eq, whole_eq]
theorem minor_eq (e : Ell) : F_impl_MinorI e = F_spec_MinorI e := by
  simp only [F_impl_MinorI, t_impl_MinorI, F_spec_MinorI, t_spec_MinorI, Tr.get, ell_eq, quot_eq, whole_eq, mulI_F, major_eq]
theorem ecc_eq (e : Ell) : F_impl_EccI e = F_spec_EccI e := by
  simp only [F_impl_EccI, t_impl_EccI, F_spec_EccI, t_spec_EccI, Tr.get, flatI_eq, mulI_F, sub_eq, integer_eq]
theorem oneLess_eq (x : Iv) : F_impl_oneLess x = F_spec_SubI (F_spec_Integer ⟨1, rfl⟩) x := by
  simp only [F_impl_oneLess, t_impl_oneLess, Tr.get, sub_eq, integer_eq]
theorem weight_eq (e : Ell) (s : Iv) : F_impl_weightOf e s = F_spec_SubI (F_spec_Integer ⟨1, rfl⟩) (F_spec_MulI (F_spec_EccI e) (F_spec_SqrI s)) := by
  simp only [F_impl_weightOf, t_impl_weightOf, Tr.get, oneLess_eq, ecc_eq, mulI_F, sqrI_F]
theorem sinAt_eq (n : I64) : F_impl_SinAt n = F_spec_SinAt n := by
  simp only [F_impl_SinAt, t_impl_SinAt, F_spec_SinAt, t_spec_SinAt, Tr.get, circle_eq]
theorem cosAt_eq (n : I64) : F_impl_CosAt n = F_spec_CosAt n := by
  simp only [F_impl_CosAt, t_impl_CosAt, F_spec_CosAt, t_spec_CosAt, Tr.get, circle_eq]
theorem halfI_eq (a : Iv) : F_impl_HalfI a = F_spec_HalfI a := by
  simp only [F_impl_HalfI, t_impl_HalfI, F_spec_HalfI, t_spec_HalfI, Tr.get, isw_eq, whole_eq]
  cases h : F_spec_l04Ok a
  · rfl
  have hb := (okiff a).1 h
  simp only [Bool.not_true, cfl]
  have e1 : (Rng.w .i64 (a.hi.val + 1)).val = a.hi.val + 1 := wi (by omega) (by omega)
  have d1 : a.lo.val.fdiv 2 = a.lo.val / 2 := Int.fdiv_eq_ediv_of_nonneg _ (by decide)
  have d2 : (a.hi.val + 1).fdiv 2 = (a.hi.val + 1) / 2 := Int.fdiv_eq_ediv_of_nonneg _ (by decide)
  refine (make_ok ?_).symm
  rw [e1, d1, d2, wi (by omega) (by omega), wi (by omega) (by omega)]
  omega
theorem swm_eq (a b : I64) : F_spec_WideMul a b = mkW (a.val * b.val) := by simp only [F_spec_WideMul, t_spec_WideMul, Tr.get, mul_spec]
theorem circleAt_eq (n : I64) : F_impl_CircleAt n = F_spec_CircleAt n := by
  simp only [F_impl_CircleAt, t_impl_CircleAt, F_spec_CircleAt, t_spec_CircleAt, Tr.get, within_eq, in_eq, whole_eq, sWhole_eq, mul_impl, swm_eq, sf_G_impl, sf_G_spec, ctr]
  by_cases h : -4294967296 ≤ n.val ∧ n.val ≤ 4294967296
  · have e1 : (Rng.w .i64 (4294967296 - n.val)).val = 4294967296 - n.val := wi (by omega) (by omega)
    have e2 : (Rng.w .i64 (4294967296 + n.val)).val = 4294967296 + n.val := wi (by omega) (by omega)
    obtain ⟨q, h1, h2, h3⟩ := sf_val (.w .i64 (4294967296 - n.val)) (.w .i64 (4294967296 + n.val)) (by omega) (by omega)
    have hd : decide (-4294967296 ≤ n.val ∧ n.val ≤ 4294967296) = true := by simpa using h
    simp only [h1, h2, at_eq, hd, Bool.not_true, cfl]
    generalize ((mkW (q.val * q.val)).hi.val == (mkW ((Rng.w .i64 (4294967296 - n.val)).val * (Rng.w .i64 (4294967296 + n.val)).val)).hi.val && ((mkW (q.val * q.val)).lo.val == (mkW ((Rng.w .i64 (4294967296 - n.val)).val * (Rng.w .i64 (4294967296 + n.val)).val)).lo.val && true)) = c
    cases c <;> simp [F_spec_l05At, t_spec_l05At, Tr.get]
  · have hd : decide (-4294967296 ≤ n.val ∧ n.val ≤ 4294967296) = false := by simpa using h
    simp only [hd, Bool.not_false, ctr]
theorem asinAt_eq (n : I64) : F_impl_AsinAt n = F_spec_AsinAt n := by
  simp only [F_impl_AsinAt, t_impl_AsinAt, F_spec_AsinAt, t_spec_AsinAt, Tr.get, within_eq, in_eq, whole_eq, sWhole_eq]
  rw [atanI_eq, double_eq, meet_eq, half_eq, divI_F, add_eq, integer_eq, circleAt_eq, at_eq]
theorem asinI_eq (x : Iv) : F_impl_AsinI x = F_spec_AsinI x := by
  simp only [F_impl_AsinI, t_impl_AsinI, F_spec_AsinI, t_spec_AsinI, Tr.get, meet_eq, ring_eq, whole_eq, sWhole_eq, asinAt_eq, hull_eq]
/-! ### lengths turn with no sign -/
theorem sub_turn (a b : Iv) : F_spec_SubI b a = F_spec_NegI (F_spec_SubI a b) := by
  cases ha : F_spec_l04Ok a
  · simp only [F_spec_SubI, t_spec_SubI, Tr.get, ha, Bool.not_false, ctr]
    rw [neg_no whole_no]
    cases F_spec_l04Ok b <;> simp [ctr, cfl]
  cases hb : F_spec_l04Ok b
  · simp only [F_spec_SubI, t_spec_SubI, Tr.get, ha, hb, Bool.not_false, Bool.not_true, ctr, cfl]
    rw [neg_no whole_no]
  have h1 := (okiff a).1 ha
  have h2 := (okiff b).1 hb
  simp only [F_spec_SubI, t_spec_SubI, Tr.get, ha, hb, Bool.not_true, cfl]
  have e1 : (Rng.w .i64 (a.lo.val - b.hi.val)).val = a.lo.val - b.hi.val := wi (by omega) (by omega)
  have e2 : (Rng.w .i64 (a.hi.val - b.lo.val)).val = a.hi.val - b.lo.val := wi (by omega) (by omega)
  have e3 : (Rng.w .i64 (b.lo.val - a.hi.val)).val = b.lo.val - a.hi.val := wi (by omega) (by omega)
  have e4 : (Rng.w .i64 (b.hi.val - a.lo.val)).val = b.hi.val - a.lo.val := wi (by omega) (by omega)
  by_cases hc : -1152921504606846976 < a.lo.val - b.hi.val ∧ a.lo.val - b.hi.val ≤ a.hi.val - b.lo.val ∧ a.hi.val - b.lo.val < 1152921504606846976
  · have m1 := make_ok (lo := .w .i64 (a.lo.val - b.hi.val)) (hi := .w .i64 (a.hi.val - b.lo.val)) (by rw [e1, e2]; exact hc)
    have m2 := make_ok (lo := .w .i64 (b.lo.val - a.hi.val)) (hi := .w .i64 (b.hi.val - a.lo.val)) (by rw [e3, e4]; omega)
    rw [m1, m2, neg_ok_val ((okiff _).2 (by simp only [e1, e2]; exact hc))]
    simp only [e1, e2]
    rw [show 0 - (a.hi.val - b.lo.val) = b.lo.val - a.hi.val by omega, show 0 - (a.lo.val - b.hi.val) = b.hi.val - a.lo.val by omega]
  · rw [make_no (lo := .w .i64 (b.lo.val - a.hi.val)) (hi := .w .i64 (b.hi.val - a.lo.val)) (by rw [e3, e4]; omega), make_no (lo := .w .i64 (a.lo.val - b.hi.val)) (hi := .w .i64 (a.hi.val - b.lo.val)) (by rw [e1, e2]; exact hc), neg_no whole_no]
theorem ends_turn {a : Iv} (h : F_spec_l04Ok a = true) : F_spec_l04Ends (F_spec_NegI a) = F_spec_l04Ends a := by
  have hb := (okiff a).1 h
  have e1 : (Rng.w .i64 (0 - a.lo.val)).val = 0 - a.lo.val := wi (by omega) (by omega)
  have e2 : (Rng.w .i64 (0 - a.hi.val)).val = 0 - a.hi.val := wi (by omega) (by omega)
  have n1 : Rng.w .i64 (0 - (0 - a.lo.val)) = a.lo := rext (by rw [wi (by omega) (by omega)]; omega)
  have n2 : Rng.w .i64 (0 - (0 - a.hi.val)) = a.hi := rext (by rw [wi (by omega) (by omega)]; omega)
  have cmx : ∀ x y : I64, F_spec_l00Max x y = F_spec_l00Max y x := fun x y => by
    have a1 := max_l x y; have a2 := max_l y x; exact rext (by omega)
  have cmn : ∀ x y : I64, F_spec_l00Min x y = F_spec_l00Min y x := fun x y => by
    have a1 := min_l x y; have a2 := min_l y x; exact rext (by omega)
  rw [neg_ok_val h]
  simp only [F_spec_l04Ends, t_spec_l04Ends, Tr.get, F_spec_l04Has, t_spec_l04Has, in_eq, e1, e2, n1, n2]
  rw [cmx (.w .i64 (0 - a.hi.val)) a.hi, cmx (.w .i64 (0 - a.lo.val)) a.lo, cmx (F_spec_l00Max a.hi (.w .i64 (0 - a.hi.val))), cmn (F_spec_l00Max a.hi (.w .i64 (0 - a.hi.val)))]
  by_cases h0 : a.lo.val ≤ 0 ∧ 0 ≤ a.hi.val
  · have h1 : 0 - a.hi.val ≤ 0 ∧ 0 ≤ 0 - a.lo.val := by omega
    simp only [h0, h1, and_self, decide_true]
  · have h1 : ¬ (0 - a.hi.val ≤ 0 ∧ 0 ≤ 0 - a.lo.val) := by omega
    simp only [h0, h1, decide_false]
theorem abs_turn (a : Iv) : F_spec_AbsI (F_spec_NegI a) = F_spec_AbsI a := by
  cases h : F_spec_l04Ok a
  · rw [neg_no h]
    simp only [F_spec_AbsI, t_spec_AbsI, Tr.get, h, whole_no, Bool.not_false, ctr]
  · rw [abs_make h, abs_make (by rw [neg_isok]; exact h), ends_turn h]
/-! ### places -/
theorem pole_eq {p : Point} (h : F_spec_l11Ok p = true) : F_impl_isPole p = F_spec_l11Pole p := by
  have hb : -9223372036854775807 ≤ p.lat.val := by
    have := p.lat.bd
    by_cases hm : p.lat.val = -9223372036854775808
    · rw [← point_eq] at h
      simp only [F_impl_ValidPoint, t_impl_ValidPoint, Tr.get, within_eq, hm] at h
      simp at h
    · omega
  simp only [F_impl_isPole, t_impl_isPole, F_spec_l11Pole, t_spec_l11Pole, Tr.get, abs_val _ hb]
  by_cases h1 : p.lat.val = 900000000
  · simp [h1, ctr]
  · by_cases h2 : p.lat.val = -900000000
    · simp [h2, cfl]
    · simp only [show (p.lat.val == 900000000) = false by simpa using h1, show (p.lat.val == (-900000000)) = false by simpa using h2, cfl]
      split <;> simp <;> omega
theorem slat_eq {p : Point} (h : F_spec_l11Ok p = true) : F_spec_LatOf p = F_spec_RadiansOf p.lat := by
  simp only [F_spec_LatOf, t_spec_LatOf, Tr.get, h, Bool.not_true, cfl]
/-! ### the laws -/
end Go.Proofs.YtecfhpgpojgjkaaGreat.Ev
