/-
  Plain laws: ellipsoids, places, the sphere's other functions.
-/
import Derived.Test.YtcfflflcbacapaaGreatP14
namespace Go.Proofs.YtcfflflcbacapaaGreat.Ev
open Go
set_option linter.unusedSimpArgs false
set_option linter.unusedVariables false

theorem ell_eq (e : Ell) : F_impl_ValidEllipsoid e = F_spec_l12Ok e := by
  simp only [F_impl_ValidEllipsoid, t_impl_ValidEllipsoid, F_spec_l12Ok, t_spec_l12Ok, Tr.get, within_eq, in_eq]
  cases decide (1000 ≤ e.a.val ∧ e.a.val ≤ 100000000000)
  · simp [ctr, cfl]
  cases decide (1 ≤ e.den.val ∧ e.den.val ≤ 1000000000000)
  · simp [ctr, cfl]
  simp only [ctr]
  by_cases h : e.num.val ≥ 0
  · by_cases h2 : e.num.val ≤ (Rng.w .i64 (e.den.val.tdiv 100)).val <;> simp [h, h2]
  · simp [h]
theorem sell_eq (e : Ell) : F_spec_ValidEllipsoid e = F_spec_l12Ok e := by simp only [F_spec_ValidEllipsoid, t_spec_ValidEllipsoid, Tr.get]
theorem flatI_eq (e : Ell) : F_impl_FlatteningI e = F_spec_FlatteningI e := by
  simp only [F_impl_FlatteningI, t_impl_FlatteningI, F_spec_FlatteningI, t_spec_FlatteningI, Tr.get, ell_eq, quot_eq, whole_eq]
theorem major_eq (e : Ell) : F_impl_MajorI e = F_spec_MajorI e := by
  simp only [F_impl_MajorI, t_impl_MajorI, F_spec_MajorI, t_spec_MajorI, Tr.get, ell_eq, quot_eq, whole_eq]
theorem minor_eq (e : Ell) : F_impl_MinorI e = F_spec_MinorI e := by
  simp only [F_impl_MinorI, t_impl_MinorI, F_spec_MinorI, t_spec_MinorI, Tr.get, ell_eq, quot_eq, whole_eq, mulI_F, major_eq]
theorem ecc_eq (e : Ell) : F_impl_EccI e = F_spec_EccI e := by
  simp only [F_impl_EccI, t_impl_EccI, F_spec_EccI, t_spec_EccI, Tr.get, flatI_eq, mulI_F, sub_eq, integer_eq]
theorem oneLess_eq (x : Iv) : F_impl_oneLess x = F_spec_SubI (F_spec_Integer ⟨1, rfl⟩) x := by
  simp only [F_impl_oneLess, t_impl_oneLess, Tr.get, sub_eq, integer_eq]
theorem weight_eq (e : Ell) (s : Iv) : F_impl_weightOf e s = F_spec_SubI (F_spec_Integer ⟨1, rfl⟩) (F_spec_MulI (F_spec_EccI e) (F_spec_SqrI s)) := by
  simp only [F_impl_weightOf, t_impl_weightOf, Tr.get, oneLess_eq, ecc_eq, mulI_F, sqrI_F]
theorem radN_eq (e : Ell) (x : Iv) : F_impl_RadiusN e x = F_spec_RadiusN e x := by
  simp only [F_impl_RadiusN, t_impl_RadiusN, F_spec_RadiusN, t_spec_RadiusN, F_spec_l12W, t_spec_l12W, Tr.get, weight_eq, major_eq, divI_F, sqrtI_eq, sinI_eq]
theorem sinAt_eq (n : I64) : F_impl_SinAt n = F_spec_SinAt n := by
  simp only [F_impl_SinAt, t_impl_SinAt, F_spec_SinAt, t_spec_SinAt, Tr.get, circle_eq]
theorem cosAt_eq (n : I64) : F_impl_CosAt n = F_spec_CosAt n := by
  simp only [F_impl_CosAt, t_impl_CosAt, F_spec_CosAt, t_spec_CosAt, Tr.get, circle_eq]
theorem halfI_eq (a : Iv) : F_impl_HalfI a = F_spec_HalfI a := by
  simp only [F_impl_HalfI, t_impl_HalfI, F_spec_HalfI, t_spec_HalfI, Tr.get, isw_eq, whole_eq]
  cases h : F_spec_l04Ok a
  · rfl
  have hb := (okiff a).1 h
  simp only [Bool.not_true, cfl]
  have e1 : (Rng.w .i64 (a.hi.val + 1)).val = a.hi.val + 1 := wi (by omega) (by omega)
  have d1 : a.lo.val.fdiv 2 = a.lo.val / 2 := Int.fdiv_eq_ediv_of_nonneg _ (by decide)
  have d2 : (a.hi.val + 1).fdiv 2 = (a.hi.val + 1) / 2 := Int.fdiv_eq_ediv_of_nonneg _ (by decide)
  refine (make_ok ?_).symm
  rw [e1, d1, d2, wi (by omega) (by omega), wi (by omega) (by omega)]
  omega
theorem hgt_eq {h : I64} (hh : F_impl_isHeight h = true) : F_impl_HeightI h = F_spec_Quotient h ⟨1000, rfl⟩ := by
  simp only [F_impl_HeightI, t_impl_HeightI, Tr.get, hh, q_G_impl, ctr, Bool.not_true, cfl, quot_eq]
theorem sideAt_eq (e : Ell) (v : Vec) (n : I64) : F_impl_SideAt e v n = F_spec_SideAt e v n := by
  simp only [F_impl_SideAt, t_impl_SideAt, F_spec_SideAt, t_spec_SideAt, F_spec_l14Side, t_spec_l14Side, Tr.get, ell_eq, sell_eq, sinAt_eq, cosAt_eq, mulI_F, sub_eq, ecc_eq, radN_eq, at_eq, flat_eq, whole_eq, sWhole_eq]
theorem insideOf_eq (e : Ell) (v : Vec) : F_impl_InsideOf e v = F_spec_InsideOf e v := by
  simp only [F_impl_InsideOf, t_impl_InsideOf, F_spec_InsideOf, t_spec_InsideOf, Tr.get, ell_eq, sell_eq, flat_eq, major_eq, minor_eq, divI_F, sqrI_F, add_eq, less_eq, integer_eq]
theorem localOf_eq (a : Proj) (p : Point) : F_impl_LocalOf a p = F_spec_LocalOf a p := by
  have hk : F_impl_isAzimuthal a.kind = F_spec_l18Kind a.kind := by
    simp only [F_impl_isAzimuthal, t_impl_isAzimuthal, F_spec_l18Kind, t_spec_l18Kind, Tr.get, within_eq, in_eq]
  simp only [F_impl_LocalOf, t_impl_LocalOf, F_spec_LocalOf, t_spec_LocalOf, Tr.get, F_impl_isAzimuthalOne, t_impl_isAzimuthalOne, point_eq, proj_eq, hk]
  cases h0 : F_spec_l18Kind a.kind
  · cases h1 : F_spec_ValidProjection a <;> simp [ctr, cfl]
  cases h1 : F_spec_ValidProjection a
  · simp [ctr, cfl]
  cases h2 : F_spec_l11Ok p
  · simp [ctr, cfl]
  have hc := centre_ok h1
  have e0 : F_impl_Projection_centre a = ⟨a.lat0, a.lon0⟩ := rfl
  simp only [ctr, cfl, Bool.not_true, e0, F_impl_localOf, t_impl_localOf, Tr.get, lat_eq hc, lat_eq h2, diff_eq, cosI_eq, sinI_eq, mulI_F, sub_eq, add_eq]
theorem swm_eq (a b : I64) : F_spec_WideMul a b = mkW (a.val * b.val) := by simp only [F_spec_WideMul, t_spec_WideMul, Tr.get, mul_spec]
theorem circleAt_eq (n : I64) : F_impl_CircleAt n = F_spec_CircleAt n := by
  simp only [F_impl_CircleAt, t_impl_CircleAt, F_spec_CircleAt, t_spec_CircleAt, Tr.get, within_eq, in_eq, whole_eq, sWhole_eq, mul_impl, swm_eq, sf_G_impl, sf_G_spec, ctr]
  by_cases h : -4294967296 ≤ n.val ∧ n.val ≤ 4294967296
  · have e1 : (Rng.w .i64 (4294967296 - n.val)).val = 4294967296 - n.val := wi (by omega) (by omega)
    have e2 : (Rng.w .i64 (4294967296 + n.val)).val = 4294967296 + n.val := wi (by omega) (by omega)
    obtain ⟨q, h1, h2, h3⟩ := sf_val (.w .i64 (4294967296 - n.val)) (.w .i64 (4294967296 + n.val)) (by omega) (by omega)
    have hd : decide (-4294967296 ≤ n.val ∧ n.val ≤ 4294967296) = true := by simpa using h
    simp only [h1, h2, at_eq, hd, Bool.not_true, cfl]
    generalize ((mkW (q.val * q.val)).hi.val == (mkW ((Rng.w .i64 (4294967296 - n.val)).val * (Rng.w .i64 (4294967296 + n.val)).val)).hi.val && ((mkW (q.val * q.val)).lo.val == (mkW ((Rng.w .i64 (4294967296 - n.val)).val * (Rng.w .i64 (4294967296 + n.val)).val)).lo.val && true)) = c
    cases c <;> simp [F_spec_l05At, t_spec_l05At, Tr.get]
  · have hd : decide (-4294967296 ≤ n.val ∧ n.val ≤ 4294967296) = false := by simpa using h
    simp only [hd, Bool.not_false, ctr]
theorem asinAt_eq (n : I64) : F_impl_AsinAt n = F_spec_AsinAt n := by
  simp only [F_impl_AsinAt, t_impl_AsinAt, F_spec_AsinAt, t_spec_AsinAt, Tr.get, within_eq, in_eq, whole_eq, sWhole_eq]
  rw [atanI_eq, double_eq, meet_eq, half_eq, divI_F, add_eq, integer_eq, circleAt_eq, at_eq]
theorem asinI_eq (x : Iv) : F_impl_AsinI x = F_spec_AsinI x := by
  simp only [F_impl_AsinI, t_impl_AsinI, F_spec_AsinI, t_spec_AsinI, Tr.get, meet_eq, ring_eq, whole_eq, sWhole_eq, asinAt_eq, hull_eq]
theorem azAngle_eq (k : I64) (x : Iv) : F_impl_AzimuthalAngle k x = F_spec_AzimuthalAngle k x := by
  simp only [F_impl_AzimuthalAngle, t_impl_AzimuthalAngle, F_spec_AzimuthalAngle, t_spec_AzimuthalAngle, Tr.get, times_eq, halfI_eq, atanI_eq, asinI_eq, whole_eq, sWhole_eq]
theorem subV_eq (a b : Vec) : F_impl_SubV a b = F_spec_SubV a b := by simp only [F_impl_SubV, t_impl_SubV, F_spec_SubV, t_spec_SubV, Tr.get, sub_eq]
/-! ### lengths turn with no sign -/
theorem sub_turn (a b : Iv) : F_spec_SubI b a = F_spec_NegI (F_spec_SubI a b) := by
  cases ha : F_spec_l04Ok a
  · simp only [F_spec_SubI, t_spec_SubI, Tr.get, ha, Bool.not_false, ctr]
    rw [neg_no whole_no]
    cases F_spec_l04Ok b <;> simp [ctr, cfl]
  cases hb : F_spec_l04Ok b
  · simp only [F_spec_SubI, t_spec_SubI, Tr.get, ha, hb, Bool.not_false, Bool.not_true, ctr, cfl]
    rw [neg_no whole_no]
  have h1 := (okiff a).1 ha
  have h2 := (okiff b).1 hb
  simp only [F_spec_SubI, t_spec_SubI, Tr.get, ha, hb, Bool.not_true, cfl]
  have e1 : (Rng.w .i64 (a.lo.val - b.hi.val)).val = a.lo.val - b.hi.val := wi (by omega) (by omega)
  have e2 : (Rng.w .i64 (a.hi.val - b.lo.val)).val = a.hi.val - b.lo.val := wi (by omega) (by omega)
  have e3 : (Rng.w .i64 (b.lo.val - a.hi.val)).val = b.lo.val - a.hi.val := wi (by omega) (by omega)
  have e4 : (Rng.w .i64 (b.hi.val - a.lo.val)).val = b.hi.val - a.lo.val := wi (by omega) (by omega)
  by_cases hc : -1152921504606846976 < a.lo.val - b.hi.val ∧ a.lo.val - b.hi.val ≤ a.hi.val - b.lo.val ∧ a.hi.val - b.lo.val < 1152921504606846976
  · have m1 := make_ok (lo := .w .i64 (a.lo.val - b.hi.val)) (hi := .w .i64 (a.hi.val - b.lo.val)) (by rw [e1, e2]; exact hc)
    have m2 := make_ok (lo := .w .i64 (b.lo.val - a.hi.val)) (hi := .w .i64 (b.hi.val - a.lo.val)) (by rw [e3, e4]; omega)
    rw [m1, m2, neg_ok_val ((okiff _).2 (by simp only [e1, e2]; exact hc))]
    simp only [e1, e2]
    rw [show 0 - (a.hi.val - b.lo.val) = b.lo.val - a.hi.val by omega, show 0 - (a.lo.val - b.hi.val) = b.hi.val - a.lo.val by omega]
  · rw [make_no (lo := .w .i64 (b.lo.val - a.hi.val)) (hi := .w .i64 (b.hi.val - a.lo.val)) (by rw [e3, e4]; omega), make_no (lo := .w .i64 (a.lo.val - b.hi.val)) (hi := .w .i64 (a.hi.val - b.lo.val)) (by rw [e1, e2]; exact hc), neg_no whole_no]
theorem ends_turn {a : Iv} (h : F_spec_l04Ok a = true) : F_spec_l04Ends (F_spec_NegI a) = F_spec_l04Ends a := by
  have hb := (okiff a).1 h
  have e1 : (Rng.w .i64 (0 - a.lo.val)).val = 0 - a.lo.val := wi (by omega) (by omega)
  have e2 : (Rng.w .i64 (0 - a.hi.val)).val = 0 - a.hi.val := wi (by omega) (by omega)
  have n1 : Rng.w .i64 (0 - (0 - a.lo.val)) = a.lo := rext (by rw [wi (by omega) (by omega)]; omega)
  have n2 : Rng.w .i64 (0 - (0 - a.hi.val)) = a.hi := rext (by rw [wi (by omega) (by omega)]; omega)
  have cmx : ∀ x y : I64, F_spec_l00Max x y = F_spec_l00Max y x := fun x y => by
    have a1 := max_l x y; have a2 := max_l y x; exact rext (by omega)
  have cmn : ∀ x y : I64, F_spec_l00Min x y = F_spec_l00Min y x := fun x y => by
    have a1 := min_l x y; have a2 := min_l y x; exact rext (by omega)
  rw [neg_ok_val h]
  simp only [F_spec_l04Ends, t_spec_l04Ends, Tr.get, F_spec_l04Has, t_spec_l04Has, in_eq, e1, e2, n1, n2]
  rw [cmx (.w .i64 (0 - a.hi.val)) a.hi, cmx (.w .i64 (0 - a.lo.val)) a.lo, cmx (F_spec_l00Max a.hi (.w .i64 (0 - a.hi.val))), cmn (F_spec_l00Max a.hi (.w .i64 (0 - a.hi.val)))]
  by_cases h0 : a.lo.val ≤ 0 ∧ 0 ≤ a.hi.val
  · have h1 : 0 - a.hi.val ≤ 0 ∧ 0 ≤ 0 - a.lo.val := by omega
    simp only [h0, h1, and_self, decide_true]
  · have h1 : ¬ (0 - a.hi.val ≤ 0 ∧ 0 ≤ 0 - a.lo.val) := by omega
    simp only [h0, h1, decide_false]
theorem abs_turn (a : Iv) : F_spec_AbsI (F_spec_NegI a) = F_spec_AbsI a := by
  cases h : F_spec_l04Ok a
  · rw [neg_no h]
    simp only [F_spec_AbsI, t_spec_AbsI, Tr.get, h, whole_no, Bool.not_false, ctr]
  · rw [abs_make h, abs_make (by rw [neg_isok]; exact h), ends_turn h]
theorem norm_turn (x y z : Iv) : F_spec_NormV ⟨F_spec_NegI x, F_spec_NegI y, F_spec_NegI z⟩ = F_spec_NormV ⟨x, y, z⟩ := by
  have h1 : ∀ a, F_spec_l10Ends (F_spec_NegI a) = F_spec_l10Ends a := fun a => by rw [ends_eq, ends_eq, abs_turn]
  have h2 : ∀ a, F_spec_IsWhole (F_spec_NegI a) = F_spec_IsWhole a := fun a => by rw [siw_eq, siw_eq, neg_isok]
  simp only [F_spec_NormV, t_spec_NormV, Tr.get, h1, h2]

/-! ### places -/
noncomputable def toC (e : Ell) (p : Place) : Vec :=
  let c4 := F_spec_RadiansOf p.pt.lat; let c5 := F_spec_RadiansOf p.pt.lon; let c6 := F_spec_RadiusN e c4; let c7 := F_spec_Quotient p.h ⟨1000, rfl⟩; let c10 := F_spec_MulI (F_spec_AddI c6 c7) (F_spec_CosI c4)
  ⟨F_spec_MulI c10 (F_spec_CosI c5), F_spec_MulI c10 (F_spec_SinI c5), F_spec_MulI (F_spec_AddI (F_spec_MulI c6 (F_spec_SubI (F_spec_Integer ⟨1, rfl⟩) (F_spec_EccI e))) c7) (F_spec_SinI c4)⟩
theorem hgt_ok (h : I64) : F_impl_isHeight h = F_spec_l00In h ⟨-20000000, rfl⟩ ⟨20000000000, rfl⟩ := by
  simp only [F_impl_isHeight, t_impl_isHeight, Tr.get, within_eq, in_eq]
theorem plc_eq (p : Place) : F_impl_ValidPlace p = (F_spec_l11Ok p.pt && F_spec_l00In p.h ⟨-20000000, rfl⟩ ⟨20000000000, rfl⟩) := by
  simp only [F_impl_ValidPlace, t_impl_ValidPlace, Tr.get, point_eq, hgt_ok]
  cases F_spec_l11Ok p.pt <;> simp only [ctr, cfl, Bool.true_and, Bool.false_and]
theorem toC_eq {e : Ell} {p : Place} (h1 : F_spec_l11Ok p.pt = true) (h2 : F_spec_l00In p.h ⟨-20000000, rfl⟩ ⟨20000000000, rfl⟩ = true) : F_impl_toCartesian e p = toC e p := by
  have h3 := hgt_eq (h := p.h) (by rw [hgt_ok]; exact h2)
  simp only [F_impl_toCartesian, t_impl_toCartesian, Tr.get, toC, lat_eq h1, lon_eq h1, h3, radN_eq, cosI_eq, sinI_eq, mulI_F, add_eq, ecc_eq, oneLess_eq]
theorem l14_eq (e : Ell) (p : Place) : F_spec_l14To_p e p = toC e p := by
  simp only [F_spec_l14To_p, t_spec_l14To_p, Tr.get, toC]
theorem toCartesian_eq (e : Ell) (p : Place) : F_impl_ToCartesian e p = F_spec_ToCartesian e p := by
  simp only [F_impl_ToCartesian, t_impl_ToCartesian, F_spec_ToCartesian, t_spec_ToCartesian, Tr.get, ell_eq, sell_eq, plc_eq, l14_eq]
  cases F_spec_l12Ok e
  · simp [ctr, cfl]
  cases h1 : F_spec_l11Ok p.pt
  · simp [ctr, cfl]
  cases h2 : F_spec_l00In p.h ⟨-20000000, rfl⟩ ⟨20000000000, rfl⟩
  · simp [ctr, cfl]
  simp only [Bool.and_self, Bool.not_true, ctr, cfl, toC_eq h1 h2]
theorem diffP_eq (e : Ell) (p q : Place) : F_impl_difference e p q = bif !(F_spec_l12Ok e) then ⟨⟨⟨⟨0, rfl⟩, ⟨0, rfl⟩⟩, ⟨⟨0, rfl⟩, ⟨0, rfl⟩⟩, ⟨⟨0, rfl⟩, ⟨0, rfl⟩⟩⟩, ⟨1, rfl⟩⟩ else
    bif !(F_spec_l11Ok p.pt && F_spec_l00In p.h ⟨-20000000, rfl⟩ ⟨20000000000, rfl⟩) then ⟨⟨⟨⟨0, rfl⟩, ⟨0, rfl⟩⟩, ⟨⟨0, rfl⟩, ⟨0, rfl⟩⟩, ⟨⟨0, rfl⟩, ⟨0, rfl⟩⟩⟩, ⟨1, rfl⟩⟩ else
    bif !(F_spec_l11Ok q.pt && F_spec_l00In q.h ⟨-20000000, rfl⟩ ⟨20000000000, rfl⟩) then ⟨⟨⟨⟨0, rfl⟩, ⟨0, rfl⟩⟩, ⟨⟨0, rfl⟩, ⟨0, rfl⟩⟩, ⟨⟨0, rfl⟩, ⟨0, rfl⟩⟩⟩, ⟨1, rfl⟩⟩ else ⟨F_spec_SubV (toC e q) (toC e p), ⟨0, rfl⟩⟩ := by
  simp only [F_impl_difference, t_impl_difference, Tr.get, ell_eq, plc_eq]
  cases F_spec_l12Ok e
  · simp [ctr, cfl]
  cases h1 : F_spec_l11Ok p.pt
  · simp [ctr, cfl]
  cases h2 : F_spec_l00In p.h ⟨-20000000, rfl⟩ ⟨20000000000, rfl⟩
  · simp [ctr, cfl]
  cases h3 : F_spec_l11Ok q.pt
  · simp [ctr, cfl]
  cases h4 : F_spec_l00In q.h ⟨-20000000, rfl⟩ ⟨20000000000, rfl⟩
  · simp [ctr, cfl]
  simp only [Bool.and_self, Bool.not_true, cfl, toC_eq h1 h2, toC_eq h3 h4, subV_eq]
theorem norm_sub (a b : Vec) : F_spec_NormV (F_spec_SubV b a) = F_spec_NormV (F_spec_SubV a b) := by
  simp only [F_spec_SubV, t_spec_SubV, Tr.get]
  rw [sub_turn a.x b.x, sub_turn a.y b.y, sub_turn a.z b.z, norm_turn]
theorem chord_eq (e : Ell) (p q : Place) : F_impl_ChordBetween e p q = F_spec_ChordBetween e p q := by
  simp only [F_impl_ChordBetween, t_impl_ChordBetween, F_spec_ChordBetween, t_spec_ChordBetween, Tr.get, diffP_eq, sell_eq, l14_eq]
  cases F_spec_l12Ok e
  · simp [ctr, cfl]
  cases h1 : F_spec_l11Ok p.pt
  · simp [ctr, cfl]
  cases h2 : F_spec_l00In p.h ⟨-20000000, rfl⟩ ⟨20000000000, rfl⟩
  · simp [ctr, cfl]
  cases h3 : F_spec_l11Ok q.pt
  · simp [ctr, cfl]
  cases h4 : F_spec_l00In q.h ⟨-20000000, rfl⟩ ⟨20000000000, rfl⟩
  · simp [ctr, cfl]
  simp only [Bool.and_self, Bool.not_true, ctr, cfl, norm_eq]
  rw [norm_sub]
  simp [cfl]
theorem localTo_eq (e : Ell) (p q : Place) : F_impl_LocalTo e p q = F_spec_LocalTo e p q := by
  simp only [F_impl_LocalTo, t_impl_LocalTo, F_spec_LocalTo, t_spec_LocalTo, Tr.get, diffP_eq, sell_eq, l14_eq]
  cases F_spec_l12Ok e
  · simp [ctr, cfl]
  cases h1 : F_spec_l11Ok p.pt
  · simp [ctr, cfl]
  cases h2 : F_spec_l00In p.h ⟨-20000000, rfl⟩ ⟨20000000000, rfl⟩
  · simp [ctr, cfl]
  cases h3 : F_spec_l11Ok q.pt
  · simp [ctr, cfl]
  cases h4 : F_spec_l00In q.h ⟨-20000000, rfl⟩ ⟨20000000000, rfl⟩
  · simp [ctr, cfl]
  simp only [Bool.and_self, Bool.not_true, ctr, cfl, lat_eq h1, lon_eq h1, mulI_F, sub_eq, add_eq, cosI_eq, sinI_eq]
  simp [cfl]
theorem pole_eq {p : Point} (h : F_spec_l11Ok p = true) : F_impl_isPole p = F_spec_l11Pole p := by
  have hb : -9223372036854775807 ≤ p.lat.val := by
    have := p.lat.bd
    by_cases hm : p.lat.val = -9223372036854775808
    · rw [← point_eq] at h
      simp only [F_impl_ValidPoint, t_impl_ValidPoint, Tr.get, within_eq, hm] at h
      simp at h
    · omega
  simp only [F_impl_isPole, t_impl_isPole, F_spec_l11Pole, t_spec_l11Pole, Tr.get, abs_val _ hb]
  by_cases h1 : p.lat.val = 900000000
  · simp [h1, ctr]
  · by_cases h2 : p.lat.val = -900000000
    · simp [h2, cfl]
    · simp only [show (p.lat.val == 900000000) = false by simpa using h1, show (p.lat.val == (-900000000)) = false by simpa using h2, cfl]
      split <;> simp <;> omega
theorem pair_eq (x y : Iv) : F_impl_pair x y = F_spec_l17Scales x y := by
  simp only [F_impl_pair, t_impl_pair, F_spec_l17Scales, t_spec_l17Scales, Tr.get, areb_eq]
  cases F_spec_l04Ok x <;> cases F_spec_l04Ok y <;> simp [ctr, cfl]
theorem slat_eq {p : Point} (h : F_spec_l11Ok p = true) : F_spec_LatOf p = F_spec_RadiansOf p.lat := by
  simp only [F_spec_LatOf, t_spec_LatOf, Tr.get, h, Bool.not_true, cfl]
theorem scales_eq (a : Proj) (p : Point) : F_impl_CylinderScales a p = F_spec_CylinderScales a p := by
  have hp : F_impl_ValidProjection a = F_spec_l17Ok a := by rw [proj_eq]; simp only [F_spec_ValidProjection, t_spec_ValidProjection, Tr.get]
  have hk : F_impl_isCylindrical a.kind = F_spec_l00In a.kind ⟨1, rfl⟩ ⟨4, rfl⟩ := by simp only [F_impl_isCylindrical, t_impl_isCylindrical, Tr.get, within_eq, in_eq]
  simp only [F_impl_CylinderScales, t_impl_CylinderScales, F_spec_CylinderScales, t_spec_CylinderScales, F_spec_l17Cylinder, t_spec_l17Cylinder, Tr.get, hp, hk, point_eq]
  cases F_spec_l17Ok a
  · simp [ctr, cfl]
  cases h1 : F_spec_l11Ok p
  · cases F_spec_l00In a.kind ⟨1, rfl⟩ ⟨4, rfl⟩ <;> simp [ctr, cfl]
  cases F_spec_l00In a.kind ⟨1, rfl⟩ ⟨4, rfl⟩
  · simp [ctr, cfl]
  simp only [Bool.not_true, ctr, cfl, pole_eq h1, lat_eq h1, slat_eq h1, radians_eq, cosI_eq, divI_F, integer_eq, pair_eq, mulI_F, quot_eq]
/-! ### the laws -/
theorem eqVec_refl (a : Vec) : F_laws_eqVec a a = true := by simp [F_laws_eqVec, t_laws_eqVec, Tr.get, eqI_refl]
theorem law_FnExactLocalOf (a0 : Proj) (a1 : Point) : Tb3.run B3 [enc a0, enc a1] Bool = some true := by
  rw [r_laws_FnExactLocalOf]
  simp [t_laws_FnExactLocalOf, Tr.opt, localOf_eq, eqVec_refl]
theorem law_FnExactAzimuthalAngle (a0 : I64) (a1 : Iv) : Tb4.run B4 [enc a0, enc a1] Bool = some true := by
  rw [r_laws_FnExactAzimuthalAngle]
  simp [t_laws_FnExactAzimuthalAngle, Tr.opt, azAngle_eq, eqI_refl]
theorem law_FnExactCylinderScales (a0 : Proj) (a1 : Point) : Tb5.run B5 [enc a0, enc a1] Bool = some true := by
  rw [r_laws_FnExactCylinderScales]
  simp [t_laws_FnExactCylinderScales, Tr.opt, scales_eq, eqI_refl]
theorem law_FnExactSideAt (a0 : Ell) (a1 : Vec) (a2 : I64) : Tb6.run B6 [enc a0, enc a1, enc a2] Bool = some true := by
  rw [r_laws_FnExactSideAt]
  simp [t_laws_FnExactSideAt, Tr.opt, sideAt_eq, eqI_refl]
theorem law_FnExactToCartesian (a0 : Ell) (a1 : Place) : Tb7.run B7 [enc a0, enc a1] Bool = some true := by
  rw [r_laws_FnExactToCartesian]
  simp [t_laws_FnExactToCartesian, Tr.opt, toCartesian_eq, eqVec_refl]
theorem law_FnExactLocalTo (a0 : Ell) (a1 a2 : Place) : Tb8.run B8 [enc a0, enc a1, enc a2] Bool = some true := by
  rw [r_laws_FnExactLocalTo]
  simp [t_laws_FnExactLocalTo, Tr.opt, localTo_eq, eqVec_refl]
theorem law_FnExactChordBetween (a0 : Ell) (a1 a2 : Place) : Tb9.run B9 [enc a0, enc a1, enc a2] Bool = some true := by
  rw [r_laws_FnExactChordBetween]
  simp [t_laws_FnExactChordBetween, Tr.opt, chord_eq, eqI_refl]
theorem law_FnExactInsideOf (a0 : Ell) (a1 : Vec) : Tb12.run B12 [enc a0, enc a1] Bool = some true := by
  rw [r_laws_FnExactInsideOf]
  simp [t_laws_FnExactInsideOf, Tr.opt, insideOf_eq]
end Go.Proofs.YtcfflflcbacapaaGreat.Ev
