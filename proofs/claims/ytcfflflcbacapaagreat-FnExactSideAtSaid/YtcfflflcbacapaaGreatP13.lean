/-
  Plain laws: directions and lengths.
-/
import Derived.Test.YtcfflflcbacapaaGreatW6
namespace Go.Proofs.YtcfflflcbacapaaGreat.Ev
open Go
set_option linter.unusedSimpArgs false
set_option linter.unusedVariables false

theorem ctr {α : Type} (a b : α) : (bif true then a else b) = a := by simp
theorem cfl {α : Type} (a b : α) : (bif false then a else b) = b := by simp
theorem siw_eq (a : Iv) : F_spec_IsWhole a = !(F_spec_l04Ok a) := by simp only [F_spec_IsWhole, t_spec_IsWhole, Tr.get]
theorem hasI_eq (a : Iv) (n : I64) : F_impl_HasI a n = F_spec_HasI a n := by
  simp only [F_impl_HasI, t_impl_HasI, F_spec_HasI, t_spec_HasI, F_spec_l04Has, t_spec_l04Has, Tr.get, isw_eq, within_eq, in_eq]
theorem atanI_impl (a : Iv) : F_impl_AtanI a = bif F_impl_IsWhole a then F_impl_halfCircle else F_impl_HullI (F_impl_AtanAt a.lo) (F_impl_AtanAt a.hi) := by
  simp only [F_impl_AtanI, t_impl_AtanI, Tr.get]
theorem atanI_spec (a : Iv) : F_spec_AtanI a = bif F_spec_IsWhole a then F_spec_l07Quarter else F_spec_HullI (F_spec_AtanAt a.lo) (F_spec_AtanAt a.hi) := by
  simp only [F_spec_AtanI, t_spec_AtanI, Tr.get]
theorem atanI_eq (a : Iv) : F_impl_AtanI a = F_spec_AtanI a := by
  rw [atanI_impl, atanI_spec, isw_eq, siw_eq, half_eq, atan_eq, atan_eq, hull_eq]
theorem dirAt_eq (y x : I64) : F_impl_DirectionAt y x = F_spec_DirectionAt y x := by
  simp only [F_impl_DirectionAt, t_impl_DirectionAt, F_spec_DirectionAt, t_spec_DirectionAt, Tr.get]
  simp only [fix_eq, atanI_eq, divI_F, at_eq, sub_eq, add_eq, turnI_eq, whole_eq, sWhole_eq]
  cases hy : F_spec_l07Fix y
  · rfl
  cases hx : F_spec_l07Fix x
  · rfl
  have by' := (fix_iff y).1 hy
  have bx := (fix_iff x).1 hx
  have ey : (Rng.w .i64 (0 - y.val)).val = -y.val := by rw [wi (by omega) (by omega)]; omega
  have ex : (Rng.w .i64 (0 - x.val)).val = -x.val := by rw [wi (by omega) (by omega)]; omega
  have ay := abs_val y (by omega)
  have ax := abs_val x (by omega)
  simp only [Bool.not_true, cond_false, ey, ex]
  by_cases hn : y.val < 0
  · have hA : decide ((F_impl_abs y).val > (F_impl_abs x).val) = (decide (-y.val > x.val) && decide (-y.val > -x.val)) := by
      rw [ay, ax, if_pos hn, ← Bool.decide_and, decide_eq_decide]
      split <;> omega
    simp only [hn, decide_true, cond_true, hA]
    generalize decide (-y.val > x.val) = b1
    generalize decide (-y.val > -x.val) = b2
    generalize decide (x.val > 0) = b3
    generalize (x.val == 0) = b4
    generalize (y.val == 0) = b5
    cases b1 <;> cases b2 <;> cases b3 <;> cases b4 <;> cases b5 <;> simp only [ctr, cfl, Bool.and_self, Bool.and_false, Bool.and_true, Bool.false_and, Bool.true_and]
  · have hA : decide ((F_impl_abs y).val > (F_impl_abs x).val) = (decide (y.val > x.val) && decide (y.val > -x.val)) := by
      rw [ay, ax, if_neg hn, ← Bool.decide_and, decide_eq_decide]
      split <;> omega
    simp only [hn, decide_false, cond_false, hA]
    generalize decide (y.val > x.val) = b1
    generalize decide (y.val > -x.val) = b2
    generalize decide (x.val > 0) = b3
    generalize (x.val == 0) = b4
    generalize (y.val == 0) = b5
    cases b1 <;> cases b2 <;> cases b3 <;> cases b4 <;> cases b5 <;> simp only [ctr, cfl, Bool.and_self, Bool.and_false, Bool.and_true, Bool.false_and, Bool.true_and]
theorem dirI_eq (y x : Iv) : F_impl_DirectionI y x = F_spec_DirectionI y x := by
  simp only [F_impl_DirectionI, t_impl_DirectionI, F_spec_DirectionI, t_spec_DirectionI, Tr.get]
  simp only [areb_eq, siw_eq, hasI_eq, dirAt_eq, hull_eq, whole_eq, sWhole_eq]
  cases F_spec_l04Ok y <;> cases F_spec_l04Ok x <;> simp only [ctr, cfl, Bool.and_self, Bool.and_false, Bool.and_true, Bool.false_and, Bool.true_and, Bool.not_true, Bool.not_false]
theorem less_eq (a b : Iv) : F_impl_LessI a b = F_spec_LessI a b := by
  simp only [F_impl_LessI, t_impl_LessI, F_spec_LessI, t_spec_LessI, Tr.get, areb_eq]
  cases F_spec_l04Ok a <;> cases F_spec_l04Ok b <;> rfl

/-! ### lengths -/
theorem abs_ends {a : Iv} (h : F_spec_l04Ok a = true) : F_impl_AbsI a = ⟨(F_spec_l04Ends a).a, (F_spec_l04Ends a).b⟩ := by
  simp only [F_impl_AbsI, t_impl_AbsI, F_spec_l04Ends, t_spec_l04Ends, Tr.get, isw_eq, h, Bool.not_true, cond_false, has_eq a _ h, max_eq, min_eq, F_impl_abs, t_impl_abs]
  cases F_spec_l04Has a ⟨0, rfl⟩ <;> rfl
theorem abs_make {a : Iv} (h : F_spec_l04Ok a = true) : F_spec_AbsI a = ⟨(F_spec_l04Ends a).a, (F_spec_l04Ends a).b⟩ := by
  simp only [F_spec_AbsI, t_spec_AbsI, Tr.get, h, Bool.not_true, cond_false]
  obtain ⟨p, q, e, h1, h2, h3⟩ := ends_val h
  have := (okiff a).1 h
  rw [e]
  exact make_ok (by simp only; omega)
theorem abs_eq (a : Iv) : F_impl_AbsI a = F_spec_AbsI a := by
  cases h : F_spec_l04Ok a
  · simp only [F_impl_AbsI, t_impl_AbsI, F_spec_AbsI, t_spec_AbsI, Tr.get, isw_eq, h, Bool.not_false, cond_true, whole_eq]
  · rw [abs_ends h, abs_make h]
theorem ends_eq (a : Iv) : F_spec_l10Ends a = ⟨(F_spec_AbsI a).lo, (F_spec_AbsI a).hi⟩ := rfl
theorem plus_spec (a b : Wide) (h : -170141183460469231731687303715884105728 ≤ wv a + wv b ∧ wv a + wv b < 170141183460469231731687303715884105728) : F_spec_l02Plus a b = mkW (wv a + wv b) := by
  have ba := a.lo.ubd; have bb := b.lo.ubd
  have ha := a.hi.bd; have hb := b.hi.bd
  apply mkW_eq
  simp only [wv] at h
  simp only [F_spec_l02Plus, t_spec_l02Plus, Tr.get]
  have e2 : (Rng.w .u64 (a.lo.val + b.lo.val)).val = (a.lo.val + b.lo.val) % 18446744073709551616 := wu_mod _
  simp only [e2]
  by_cases hc : (a.lo.val + b.lo.val) % 18446744073709551616 < a.lo.val
  · simp only [hc, decide_true, cond_true, wv, e2]
    rw [ws_val, ws_val]
    omega
  · simp only [hc, decide_false, cond_false, wv, e2]
    rw [ws_val]
    omega
theorem xor_pos {a b : Int} (ha : 0 ≤ a ∧ a ≤ 9223372036854775807) (hb : 0 ≤ b ∧ b ≤ 9223372036854775807) : 0 ≤ (Rng.w .i64 (bitop .xor .i64 a b)).val ∧ (Rng.w .i64 (bitop .xor .i64 a b)).val ≤ 9223372036854775807 := by
  have e : bitop .xor .i64 a b = ((BitVec.ofInt 64 a ^^^ BitVec.ofInt 64 b).toNat : Int) := rfl
  have h1 : (BitVec.ofInt 64 a).toNat < 2 ^ 63 := by rw [bv_toNat ha.1 (by omega)]; omega
  have h2 : (BitVec.ofInt 64 b).toNat < 2 ^ 63 := by rw [bv_toNat hb.1 (by omega)]; omega
  have h3 : (BitVec.ofInt 64 a ^^^ BitVec.ofInt 64 b).toNat < 2 ^ 63 := by rw [BitVec.toNat_xor]; exact Nat.xor_lt_two_pow h1 h2
  rw [e, wi (by omega) (by omega)]; omega
theorem and_pos {a b : Int} (ha : 0 ≤ a ∧ a ≤ 9223372036854775807) (hb : 0 ≤ b ∧ b ≤ 9223372036854775807) : 0 ≤ (Rng.w .i64 (bitop .and .i64 a b)).val := by
  have e : bitop .and .i64 a b = ((BitVec.ofInt 64 a &&& BitVec.ofInt 64 b).toNat : Int) := rfl
  have h2 : (BitVec.ofInt 64 b).toNat < 2 ^ 63 := by rw [bv_toNat hb.1 (by omega)]; omega
  have h3 : (BitVec.ofInt 64 a &&& BitVec.ofInt 64 b).toNat < 2 ^ 63 := by rw [BitVec.toNat_and]; exact Nat.lt_of_le_of_lt Nat.and_le_right h2
  rw [e, wi (by omega) (by omega)]; omega
theorem add_impl (a b : Wide) (ha : 0 ≤ wv a) (hb : 0 ≤ wv b) (h : wv a + wv b < 170141183460469231731687303715884105728) : (t_impl_WideAdd a b).opt = some ⟨mkW (wv a + wv b), true⟩ := by
  have ba := a.lo.ubd; have bb := b.lo.ubd
  have ha' := a.hi.bd; have hb' := b.hi.bd
  have hwv : wv a + wv b = (a.hi.val + b.hi.val) * 18446744073709551616 + (a.lo.val + b.lo.val) := by simp only [wv]; omega
  have pa : 0 ≤ a.hi.val := by simp only [wv] at ha; omega
  have pb : 0 ≤ b.hi.val := by simp only [wv] at hb; omega
  have ec : (F_math_bits_Add64 a.lo b.lo ⟨0, rfl⟩).b.val = (a.lo.val + b.lo.val) / 18446744073709551616 := by
    simp only [F_math_bits_Add64]; rw [wu (by omega) (by omega)]; omega
  have hg : G_carry (Rng.w .u64 a.hi.val) (Rng.w .u64 b.hi.val) (F_math_bits_Add64 a.lo b.lo ⟨0, rfl⟩).b = true := by simp only [G_carry, ec]; simp; omega
  have ea : (Rng.w .u64 a.hi.val).val = a.hi.val := wu pa (by omega)
  have eb : (Rng.w .u64 b.hi.val).val = b.hi.val := wu pb (by omega)
  have e2 : (F_math_bits_Add64 (Rng.w .u64 a.hi.val) (Rng.w .u64 b.hi.val) (F_math_bits_Add64 a.lo b.lo ⟨0, rfl⟩).b).a.val = a.hi.val + b.hi.val + (a.lo.val + b.lo.val) / 18446744073709551616 := by
    show (Rng.w .u64 _).val = _
    rw [ea, eb, ec, wu (by omega) (by omega)]
  have hlt : a.hi.val + b.hi.val + (a.lo.val + b.lo.val) / 18446744073709551616 ≤ 9223372036854775807 := by omega
  have e3 : (Rng.w .i64 (F_math_bits_Add64 (Rng.w .u64 a.hi.val) (Rng.w .u64 b.hi.val) (F_math_bits_Add64 a.lo b.lo ⟨0, rfl⟩).b).a.val).val = a.hi.val + b.hi.val + (a.lo.val + b.lo.val) / 18446744073709551616 := by
    rw [e2, wi (by omega) hlt]
  have e1 : (F_math_bits_Add64 a.lo b.lo ⟨0, rfl⟩).a.val = (a.lo.val + b.lo.val) % 18446744073709551616 := by
    simp only [F_math_bits_Add64]; rw [wu_mod]; omega
  simp only [t_impl_WideAdd, Tr.opt, hg, cond_true, e3]
  have x1 := xor_pos (a := a.hi.val) (b := a.hi.val + b.hi.val + (a.lo.val + b.lo.val) / 18446744073709551616) ⟨pa, by omega⟩ ⟨by omega, hlt⟩
  have x2 := xor_pos (a := b.hi.val) (b := a.hi.val + b.hi.val + (a.lo.val + b.lo.val) / 18446744073709551616) ⟨pb, by omega⟩ ⟨by omega, hlt⟩
  have x3 := and_pos x1 x2
  rw [show decide ((Rng.w .i64 (bitop .and .i64 (Rng.w .i64 (bitop .xor .i64 a.hi.val (a.hi.val + b.hi.val + (a.lo.val + b.lo.val) / 18446744073709551616))).val (Rng.w .i64 (bitop .xor .i64 b.hi.val (a.hi.val + b.hi.val + (a.lo.val + b.lo.val) / 18446744073709551616))).val)).val < 0) = false by simpa using x3]
  simp only [cond_false]
  congr 2
  apply mkW_eq
  simp only [wv, e3, e1]
  omega
theorem wsqrt_mk {v : Int} (h : 0 ≤ v) (h' : v < 170141183460469231731687303715884105728) : F_impl_WideSqrt (mkW v) = ⟨F_spec_l02Root (mkW v), true⟩ := by
  refine wsqrt_eq _ ?_
  simp only [mkW]; rw [wi (by omega) (by omega)]; omega
theorem root_mk {v : Int} (h : 0 ≤ v) (h' : v < 170141183460469231731687303715884105728) : 0 ≤ (F_spec_l02Root (mkW v)).val ∧ (F_spec_l02Root (mkW v)).val * (F_spec_l02Root (mkW v)).val ≤ v ∧ v < ((F_spec_l02Root (mkW v)).val + 1) * ((F_spec_l02Root (mkW v)).val + 1) := by
  have := root_val (mkW v) (by simp only [mkW]; rw [wi (by omega) (by omega)]; omega)
  rwa [wv_mkW (by omega) h'] at this
/-- The sum of three squares. -/
def sq3 (x y z : I64) : Int := x.val * x.val + y.val * y.val + z.val * z.val
theorem sum_spec {x y z : I64} (hx : 0 ≤ x.val ∧ x.val ≤ 1152921504606846976) (hy : 0 ≤ y.val ∧ y.val ≤ 1152921504606846976) (hz : 0 ≤ z.val ∧ z.val ≤ 1152921504606846976) :
    F_spec_l10Sum x y z = mkW (sq3 x y z) ∧ 0 ≤ sq3 x y z ∧ sq3 x y z ≤ 3987683987354747618711421180841033728 ∧
    (t_impl_rootOfSquares x y z).opt = some ⟨.w .i64 (F_spec_l02Root (mkW (sq3 x y z))).val, bif !(((mkW ((Rng.w .i64 (F_spec_l02Root (mkW (sq3 x y z))).val).val * (Rng.w .i64 (F_spec_l02Root (mkW (sq3 x y z))).val).val)).hi.val == (mkW (sq3 x y z)).hi.val) && (((mkW ((Rng.w .i64 (F_spec_l02Root (mkW (sq3 x y z))).val).val * (Rng.w .i64 (F_spec_l02Root (mkW (sq3 x y z))).val).val)).lo.val == (mkW (sq3 x y z)).lo.val) && true)) then .w .i64 ((Rng.w .i64 (F_spec_l02Root (mkW (sq3 x y z))).val).val + 1) else .w .i64 (F_spec_l02Root (mkW (sq3 x y z))).val⟩ := by
  have px := Int.mul_nonneg hx.1 hx.1
  have py := Int.mul_nonneg hy.1 hy.1
  have pz := Int.mul_nonneg hz.1 hz.1
  have qx : x.val * x.val ≤ 1152921504606846976 * 1152921504606846976 := Int.mul_le_mul hx.2 hx.2 hx.1 (by decide)
  have qy : y.val * y.val ≤ 1152921504606846976 * 1152921504606846976 := Int.mul_le_mul hy.2 hy.2 hy.1 (by decide)
  have qz : z.val * z.val ≤ 1152921504606846976 * 1152921504606846976 := Int.mul_le_mul hz.2 hz.2 hz.1 (by decide)
  have wx := wv_mkW (v := x.val * x.val) (by omega) (by omega)
  have wy := wv_mkW (v := y.val * y.val) (by omega) (by omega)
  have wz := wv_mkW (v := z.val * z.val) (by omega) (by omega)
  have wxy := wv_mkW (v := x.val * x.val + y.val * y.val) (by omega) (by omega)
  have s1 : F_spec_l02Plus (mkW (x.val * x.val)) (mkW (y.val * y.val)) = mkW (x.val * x.val + y.val * y.val) := by rw [plus_spec _ _ (by rw [wx, wy]; omega), wx, wy]
  have s2 : F_spec_l02Plus (mkW (x.val * x.val + y.val * y.val)) (mkW (z.val * z.val)) = mkW (sq3 x y z) := by rw [plus_spec _ _ (by rw [wxy, wz]; omega), wxy, wz]; rfl
  have i1 : (t_impl_WideAdd (mkW (x.val * x.val)) (mkW (y.val * y.val))).opt = some ⟨mkW (x.val * x.val + y.val * y.val), true⟩ := by rw [add_impl _ _ (by omega) (by omega) (by rw [wx, wy]; omega), wx, wy]
  have i2 : (t_impl_WideAdd (mkW (x.val * x.val + y.val * y.val)) (mkW (z.val * z.val))).opt = some ⟨mkW (sq3 x y z), true⟩ := by rw [add_impl _ _ (by omega) (by omega) (by rw [wxy, wz]; omega), wxy, wz]; rfl
  have g1 : G_impl_WideAdd (mkW (x.val * x.val)) (mkW (y.val * y.val)) = true := by unfold G_impl_WideAdd; rw [i1]; rfl
  have g2 : G_impl_WideAdd (mkW (x.val * x.val + y.val * y.val)) (mkW (z.val * z.val)) = true := by unfold G_impl_WideAdd; rw [i2]; rfl
  have f1 : F_impl_WideAdd (mkW (x.val * x.val)) (mkW (y.val * y.val)) = _ := Tr.opt_get i1
  have f2 : F_impl_WideAdd (mkW (x.val * x.val + y.val * y.val)) (mkW (z.val * z.val)) = _ := Tr.opt_get i2
  have hs : sq3 x y z = x.val * x.val + y.val * y.val + z.val * z.val := rfl
  have h0 : 0 ≤ sq3 x y z := by omega
  have h1 : sq3 x y z ≤ 3987683987354747618711421180841033728 := by omega
  refine ⟨?_, h0, h1, ?_⟩
  · simp only [F_spec_l10Sum, t_spec_l10Sum, Tr.get, mul_spec, s1, s2]
  · simp only [t_impl_rootOfSquares, Tr.opt, mul_impl, g1, f1, g2, f2, cond_true, wsqrt_mk h0 (by omega)]
    cases (!(((mkW ((Rng.w .i64 (F_spec_l02Root (mkW (sq3 x y z))).val).val * (Rng.w .i64 (F_spec_l02Root (mkW (sq3 x y z))).val).val)).hi.val == (mkW (sq3 x y z)).hi.val) && (((mkW ((Rng.w .i64 (F_spec_l02Root (mkW (sq3 x y z))).val).val * (Rng.w .i64 (F_spec_l02Root (mkW (sq3 x y z))).val).val)).lo.val == (mkW (sq3 x y z)).lo.val) && true))) <;> rfl
theorem sq_mono {a b : Int} (h : 0 ≤ a) (h' : a ≤ b) : a * a ≤ b * b := Int.mul_le_mul h' h' h (by omega)
theorem norm_ok (v : Vec) : (t_impl_NormV v).opt = some (F_spec_NormV v) := by
  simp only [t_impl_NormV, Tr.opt, F_spec_NormV, t_spec_NormV, Tr.get, areb_eq, isw_eq, siw_eq, whole_eq, sWhole_eq, ends_eq]
  cases hx : F_spec_l04Ok v.x
  · rfl
  cases hy : F_spec_l04Ok v.y
  · rfl
  cases hz : F_spec_l04Ok v.z
  · rfl
  simp only [Bool.and_self, Bool.not_true, cond_false, abs_ends hx, abs_ends hy, abs_ends hz, abs_make hx, abs_make hy, abs_make hz]
  have bx := (okiff v.x).1 hx
  have by' := (okiff v.y).1 hy
  have bz := (okiff v.z).1 hz
  obtain ⟨x1, x2, ex, x3, x4, x5⟩ := ends_val hx
  obtain ⟨y1, y2, ey, y3, y4, y5⟩ := ends_val hy
  obtain ⟨z1, z2, ez, z3, z4, z5⟩ := ends_val hz
  simp only [ex, ey, ez]
  obtain ⟨a1, a2, a3, a4⟩ := sum_spec (x := x1) (y := y1) (z := z1) (by omega) (by omega) (by omega)
  obtain ⟨b1, b2, b3, b4⟩ := sum_spec (x := x2) (y := y2) (z := z2) (by omega) (by omega) (by omega)
  have ga : G_impl_rootOfSquares x1 y1 z1 = true := by unfold G_impl_rootOfSquares; rw [a4]; rfl
  have gb : G_impl_rootOfSquares x2 y2 z2 = true := by unfold G_impl_rootOfSquares; rw [b4]; rfl
  have fa : F_impl_rootOfSquares x1 y1 z1 = _ := Tr.opt_get a4
  have fb : F_impl_rootOfSquares x2 y2 z2 = _ := Tr.opt_get b4
  obtain ⟨r0, r1, r2⟩ := root_mk a2 (by omega)
  obtain ⟨q0, q1, q2⟩ := root_mk b2 (by omega)
  have hle : sq3 x1 y1 z1 ≤ sq3 x2 y2 z2 := by
    have k1 := sq_mono x3 x4
    have k2 := sq_mono y3 y4
    have k3 := sq_mono z3 z4
    unfold sq3; omega
  have hR : (F_spec_l02Root (mkW (sq3 x1 y1 z1))).val ≤ (F_spec_l02Root (mkW (sq3 x2 y2 z2))).val := by
    by_cases hh : (F_spec_l02Root (mkW (sq3 x1 y1 z1))).val ≤ (F_spec_l02Root (mkW (sq3 x2 y2 z2))).val
    · exact hh
    · have := sq_mono (a := (F_spec_l02Root (mkW (sq3 x2 y2 z2))).val + 1) (b := (F_spec_l02Root (mkW (sq3 x1 y1 z1))).val) (by omega) (by omega)
      omega
  have hQ : (F_spec_l02Root (mkW (sq3 x2 y2 z2))).val ≤ 2305843009213693952 := sq_lt q0 (by decide) (by omega)
  have w1 : (Rng.w .i64 (F_spec_l02Root (mkW (sq3 x1 y1 z1))).val).val = (F_spec_l02Root (mkW (sq3 x1 y1 z1))).val := wi (by omega) (by omega)
  have w2 : (Rng.w .i64 (F_spec_l02Root (mkW (sq3 x2 y2 z2))).val).val = (F_spec_l02Root (mkW (sq3 x2 y2 z2))).val := wi (by omega) (by omega)
  have w3 : (Rng.w .i64 ((F_spec_l02Root (mkW (sq3 x2 y2 z2))).val + 1)).val = (F_spec_l02Root (mkW (sq3 x2 y2 z2))).val + 1 := wi (by omega) (by omega)
  simp only [ga, gb, fa, fb, cond_true, a1, b1, mul_spec, bounded_eq]
  generalize hc : ((mkW ((Rng.w .i64 (F_spec_l02Root (mkW (sq3 x2 y2 z2))).val).val * (Rng.w .i64 (F_spec_l02Root (mkW (sq3 x2 y2 z2))).val).val)).hi.val == (mkW (sq3 x2 y2 z2)).hi.val && ((mkW ((Rng.w .i64 (F_spec_l02Root (mkW (sq3 x2 y2 z2))).val).val * (Rng.w .i64 (F_spec_l02Root (mkW (sq3 x2 y2 z2))).val).val)).lo.val == (mkW (sq3 x2 y2 z2)).lo.val && true)) = c
  cases c
  · simp only [Bool.not_false, cond_true, w2, w3]
    by_cases hm : (F_spec_l02Root (mkW (sq3 x2 y2 z2))).val + 1 ≥ 1152921504606846976
    · simp only [hm, decide_true, cond_true]
      rw [make_no (by rw [w3]; omega)]
    · simp only [hm, decide_false, cond_false]
      rw [make_ok (by rw [w1, w3]; omega)]
  · simp only [Bool.not_true, cond_false, w2]
    by_cases hm : (F_spec_l02Root (mkW (sq3 x2 y2 z2))).val ≥ 1152921504606846976
    · simp only [hm, decide_true, cond_true]
      rw [make_no (by rw [w2]; omega)]
    · simp only [hm, decide_false, cond_false]
      rw [make_ok (by rw [w1, w2]; omega)]
theorem norm_eq (v : Vec) : F_impl_NormV v = F_spec_NormV v := Tr.opt_get (norm_ok v)
theorem tt_norm_impl (v : Vec) : (t_impl_NormV v).opt = some (F_impl_NormV v) := opt_self (norm_ok v)
end Go.Proofs.YtcfflflcbacapaaGreat.Ev
