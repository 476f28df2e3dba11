/-
  Plain laws: directions and lengths.
-/
import Derived.Test.YtecfhpgpojgjkaaGreatW6
namespace Go.Proofs.YtecfhpgpojgjkaaGreat.Ev
open Go
set_option linter.unusedSimpArgs false
set_option linter.unusedVariables false

theorem ctr {α : Type} (a b : α) : (bif true then a else b) = a := by simp
theorem cfl {α : Type} (a b : α) : (bif false then a else b) = b := by simp
theorem siw_eq (a : Iv) : F_spec_IsWhole a = !(F_spec_l04Ok a) := by simp only [F_spec_IsWhole, t_spec_IsWhole, Tr.get]
theorem hasI_eq (a : Iv) (n : I64) : F_impl_HasI a n = F_spec_HasI a n := by
  simp only [F_impl_HasI, t_impl_HasI, F_spec_HasI, t_spec_HasI, F_spec_l04Has, t_spec_l04Has, Tr.get, isw_eq, within_eq, in_eq]
theorem atanI_impl (a : Iv) : F_impl_AtanI a = bif F_impl_IsWhole a then F_impl_halfCircle else F_impl_HullI (F_impl_AtanAt a.lo) (F_impl_AtanAt a.hi) := by
  simp only [F_impl_AtanI, t_impl_AtanI, Tr.get]
theorem atanI_spec (a : Iv) : F_spec_AtanI a = bif F_spec_IsWhole a then F_spec_l07Quarter else F_spec_HullI (F_spec_AtanAt a.lo) (F_spec_AtanAt a.hi) := by
  simp only [F_spec_AtanI, t_spec_AtanI, Tr.get]
theorem atanI_eq (a : Iv) : F_impl_AtanI a = F_spec_AtanI a := by
  rw [atanI_impl, atanI_spec, isw_eq, siw_eq, half_eq, atan_eq, atan_eq, hull_eq]
theorem dirAt_eq (y x : I64) : F_impl_DirectionAt y x = F_spec_DirectionAt y x := by
  simp only [F_impl_DirectionAt, t_impl_DirectionAt, F_spec_DirectionAt, t_spec_DirectionAt, Tr.get]
  simp only [fix_eq, atanI_eq, divI_F, at_eq, sub_eq, add_eq, turnI_eq, whole_eq, sWhole_eq]
  cases hy : F_spec_l07Fix y
  · rfl
  cases hx : F_spec_l07Fix x
  · rfl
  have by' := (fix_iff y).1 hy
  have bx := (fix_iff x).1 hx
  have ey : (Rng.w .i64 (0 - y.val)).val = -y.val := by rw [wi (by omega) (by omega)]; omega
  have ex : (Rng.w .i64 (0 - x.val)).val = -x.val := by rw [wi (by omega) (by omega)]; omega
  have ay := abs_val y (by omega)
  have ax := abs_val x (by omega)
  simp only [Bool.not_true, cond_false, ey, ex]
  by_cases hn : y.val < 0
  · have hA : decide ((F_impl_abs y).val > (F_impl_abs x).val) = (decide (-y.val > x.val) && decide (-y.val > -x.val)) := by
      rw [ay, ax, if_pos hn, ← Bool.decide_and, decide_eq_decide]
      split <;> omega
    simp only [hn, decide_true, cond_true, hA]
    generalize decide (-y.val > x.val) = b1
    generalize decide (-y.val > -x.val) = b2
    generalize decide (x.val > 0) = b3
    generalize (x.val == 0) = b4
    generalize (y.val == 0) = b5
    cases b1 <;> cases b2 <;> cases b3 <;> cases b4 <;> cases b5 <;> simp only [ctr, cfl, Bool.and_self, Bool.and_false, Bool.and_true, Bool.false_and, Bool.true_and]
  · have hA : decide ((F_impl_abs y).val > (F_impl_abs x).val) = (decide (y.val > x.val) && decide (y.val > -x.val)) := by
      rw [ay, ax, if_neg hn, ← Bool.decide_and, decide_eq_decide]
      split <;> omega
    simp only [hn, decide_false, cond_false, hA]
    generalize decide (y.val > x.val) = b1
    generalize decide (y.val > -x.val) = b2
    generalize decide (x.val > 0) = b3
    generalize (x.val == 0) = b4
    generalize (y.val == 0) = b5
    cases b1 <;> cases b2 <;> cases b3 <;> cases b4 <;> cases b5 <;> simp only [ctr, cfl, Bool.and_self, Bool.and_false, Bool.and_true, Bool.false_and, Bool.true_and]
theorem dirI_eq (y x : Iv) : F_impl_DirectionI y x = F_spec_DirectionI y x := by
  simp only [F_impl_DirectionI, t_impl_DirectionI, F_spec_DirectionI, t_spec_DirectionI, Tr.get]
  simp only [areb_eq, siw_eq, hasI_eq, dirAt_eq, hull_eq, whole_eq, sWhole_eq]
  cases F_spec_l04Ok y <;> cases F_spec_l04Ok x <;> simp only [ctr, cfl, Bool.and_self, Bool.and_false, Bool.and_true, Bool.false_and, Bool.true_and, Bool.not_true, Bool.not_false]
/-! ### lengths -/
theorem abs_ends {a : Iv} (h : F_spec_l04Ok a = true) : F_impl_AbsI a = ⟨(F_spec_l04Ends a).a, (F_spec_l04Ends a).b⟩ := by
  simp only [F_impl_AbsI, t_impl_AbsI, F_spec_l04Ends, t_spec_l04Ends, Tr.get, isw_eq, h, Bool.not_true, cond_false, has_eq a _ h, max_eq, min_eq, F_impl_abs, t_impl_abs]
  cases F_spec_l04Has a ⟨0, rfl⟩ <;> rfl
theorem abs_make {a : Iv} (h : F_spec_l04Ok a = true) : F_spec_AbsI a = ⟨(F_spec_l04Ends a).a, (F_spec_l04Ends a).b⟩ := by
  simp only [F_spec_AbsI, t_spec_AbsI, Tr.get, h, Bool.not_true, cond_false]
  obtain ⟨p, q, e, h1, h2, h3⟩ := ends_val h
  have := (okiff a).1 h
  rw [e]
  exact make_ok (by simp only; omega)
theorem abs_eq (a : Iv) : F_impl_AbsI a = F_spec_AbsI a := by
  cases h : F_spec_l04Ok a
  · simp only [F_impl_AbsI, t_impl_AbsI, F_spec_AbsI, t_spec_AbsI, Tr.get, isw_eq, h, Bool.not_false, cond_true, whole_eq]
  · rw [abs_ends h, abs_make h]
theorem plus_spec (a b : Wide) (h : -170141183460469231731687303715884105728 ≤ wv a + wv b ∧ wv a + wv b < 170141183460469231731687303715884105728) : F_spec_l02Plus a b = mkW (wv a + wv b) := by
  have ba := a.lo.ubd; have bb := b.lo.ubd
  have ha := a.hi.bd; have hb := b.hi.bd
  apply mkW_eq
  simp only [wv] at h
  simp only [F_spec_l02Plus, t_spec_l02Plus, Tr.get]
  have e2 : (Rng.w .u64 (a.lo.val + b.lo.val)).val = (a.lo.val + b.lo.val) % 18446744073709551616 := wu_mod _
  simp only [e2]
  by_cases hc : (a.lo.val + b.lo.val) % 18446744073709551616 < a.lo.val
  · simp only [hc, decide_true, cond_true, wv, e2]
    rw [ws_val, ws_val]
    omega
  · simp only [hc, decide_false, cond_false, wv, e2]
    rw [ws_val]
    omega
theorem xor_pos {a b : Int} (ha : 0 ≤ a ∧ a ≤ 9223372036854775807) (hb : 0 ≤ b ∧ b ≤ 9223372036854775807) : 0 ≤ (Rng.w .i64 (bitop .xor .i64 a b)).val ∧ (Rng.w .i64 (bitop .xor .i64 a b)).val ≤ 9223372036854775807 := by
  have e : bitop .xor .i64 a b = ((BitVec.ofInt 64 a ^^^ BitVec.ofInt 64 b).toNat : Int) := rfl
  have h1 : (BitVec.ofInt 64 a).toNat < 2 ^ 63 := by rw [bv_toNat ha.1 (by omega)]; omega
  have h2 : (BitVec.ofInt 64 b).toNat < 2 ^ 63 := by rw [bv_toNat hb.1 (by omega)]; omega
  have h3 : (BitVec.ofInt 64 a ^^^ BitVec.ofInt 64 b).toNat < 2 ^ 63 := by rw [BitVec.toNat_xor]; exact Nat.xor_lt_two_pow h1 h2
  rw [e, wi (by omega) (by omega)]; omega
theorem and_pos {a b : Int} (ha : 0 ≤ a ∧ a ≤ 9223372036854775807) (hb : 0 ≤ b ∧ b ≤ 9223372036854775807) : 0 ≤ (Rng.w .i64 (bitop .and .i64 a b)).val := by
  have e : bitop .and .i64 a b = ((BitVec.ofInt 64 a &&& BitVec.ofInt 64 b).toNat : Int) := rfl
  have h2 : (BitVec.ofInt 64 b).toNat < 2 ^ 63 := by rw [bv_toNat hb.1 (by omega)]; omega
  have h3 : (BitVec.ofInt 64 a &&& BitVec.ofInt 64 b).toNat < 2 ^ 63 := by rw [BitVec.toNat_and]; exact Nat.lt_of_le_of_lt Nat.and_le_right h2
  rw [e, wi (by omega) (by omega)]; omega
theorem wsqrt_mk {v : Int} (h : 0 ≤ v) (h' : v < 170141183460469231731687303715884105728) : F_impl_WideSqrt (mkW v) = ⟨F_spec_l02Root (mkW v), true⟩ := by
  refine wsqrt_eq _ ?_
  simp only [mkW]; rw [wi (by omega) (by omega)]; omega
theorem root_mk {v : Int} (h : 0 ≤ v) (h' : v < 170141183460469231731687303715884105728) : 0 ≤ (F_spec_l02Root (mkW v)).val ∧ (F_spec_l02Root (mkW v)).val * (F_spec_l02Root (mkW v)).val ≤ v ∧ v < ((F_spec_l02Root (mkW v)).val + 1) * ((F_spec_l02Root (mkW v)).val + 1) := by
  have := root_val (mkW v) (by simp only [mkW]; rw [wi (by omega) (by omega)]; omega)
  rwa [wv_mkW (by omega) h'] at this
/-- The sum of three squares. -/
def sq3 (x y z : I64) : Int := x.val * x.val + y.val * y.val + z.val * z.val
theorem sq_mono {a b : Int} (h : 0 ≤ a) (h' : a ≤ b) : a * a ≤ b * b := Int.mul_le_mul h' h' h (by omega)
end Go.Proofs.YtecfhpgpojgjkaaGreat.Ev
