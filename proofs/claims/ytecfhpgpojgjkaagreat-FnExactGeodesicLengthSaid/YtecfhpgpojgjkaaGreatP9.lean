/-
  Plain laws: sums, hulls, meets of intervals; floors of products; roots; quarter turns; series.
-/
import Derived.Test.YtecfhpgpojgjkaaGreatP8
import Derived.Test.YtecfhpgpojgjkaaGreatW3
namespace Go.Proofs.YtecfhpgpojgjkaaGreat.Ev
open Go
set_option linter.unusedSimpArgs false
set_option linter.unusedVariables false

/-! ### bounded intervals -/
theorem okiff (a : Iv) : F_spec_l04Ok a = true ↔ (-1152921504606846976 < a.lo.val ∧ a.lo.val ≤ a.hi.val ∧ a.hi.val < 1152921504606846976) := by
  simp only [F_spec_l04Ok, t_spec_l04Ok, Tr.get]
  by_cases h1 : (-1152921504606846976 : Int) < a.lo.val <;> by_cases h2 : a.lo.val ≤ a.hi.val <;> simp [h1, h2]
theorem okno (a : Iv) : F_spec_l04Ok a = false ↔ ¬ (-1152921504606846976 < a.lo.val ∧ a.lo.val ≤ a.hi.val ∧ a.hi.val < 1152921504606846976) := by
  rw [← okiff]; cases F_spec_l04Ok a <;> simp
theorem make_ok {lo hi : I64} (h : -1152921504606846976 < lo.val ∧ lo.val ≤ hi.val ∧ hi.val < 1152921504606846976) : F_spec_l04Make lo hi = ⟨lo, hi⟩ := by
  have : F_spec_l04Ok ⟨lo, hi⟩ = true := (okiff _).2 h
  simp only [F_spec_l04Make, t_spec_l04Make, Tr.get, this, Bool.not_true, cond_false]
theorem make_no {lo hi : I64} (h : ¬ (-1152921504606846976 < lo.val ∧ lo.val ≤ hi.val ∧ hi.val < 1152921504606846976)) : F_spec_l04Make lo hi = F_spec_l04Whole := by
  have : F_spec_l04Ok ⟨lo, hi⟩ = false := (okno _).2 h
  simp only [F_spec_l04Make, t_spec_l04Make, Tr.get, this, Bool.not_false, cond_true]
theorem make_self {a : Iv} (h : F_spec_l04Ok a = true) : F_spec_l04Make a.lo a.hi = a := make_ok ((okiff a).1 h)
theorem make_ext {a b c d : I64} (h1 : a.val = c.val) (h2 : b.val = d.val) : F_spec_l04Make a b = F_spec_l04Make c d := by rw [rext h1, rext h2]
theorem whole_no : F_spec_l04Ok F_spec_l04Whole = false := by decide +kernel
theorem isw_eq (a : Iv) : F_impl_IsWhole a = !(F_spec_l04Ok a) := by
  simp only [F_impl_IsWhole, t_impl_IsWhole, Tr.get, valid_eq]
theorem sWhole_eq : F_spec_Whole = F_spec_l04Whole := rfl
theorem mn_val (a b : I64) : (mn a b).val = if b.val < a.val then b.val else a.val := by unfold mn; by_cases hb : b.val < a.val <;> simp [hb]
theorem mx_val (a b : I64) : (mx a b).val = if b.val > a.val then b.val else a.val := by unfold mx; by_cases hb : b.val > a.val <;> simp [hb]
theorem add_eq (a b : Iv) : F_impl_AddI a b = F_spec_AddI a b := by
  simp only [F_impl_AddI, t_impl_AddI, F_spec_AddI, t_spec_AddI, Tr.get, areb_eq, whole_eq, bounded_eq, cond_true]
  cases F_spec_l04Ok a <;> cases F_spec_l04Ok b <;> rfl
theorem neg_ok_val {a : Iv} (h : F_spec_l04Ok a = true) : F_spec_NegI a = ⟨.w .i64 (0 - a.hi.val), .w .i64 (0 - a.lo.val)⟩ := by
  have := (okiff a).1 h
  simp only [F_spec_NegI, t_spec_NegI, Tr.get, h, Bool.not_true, cond_false]
  refine make_ok ?_
  rw [wi (by omega) (by omega), wi (by omega) (by omega)]
  omega
theorem neg_no {a : Iv} (h : F_spec_l04Ok a = false) : F_spec_NegI a = F_spec_l04Whole := by
  simp only [F_spec_NegI, t_spec_NegI, Tr.get, h, Bool.not_false, cond_true]
theorem neg_isok (a : Iv) : F_spec_l04Ok (F_spec_NegI a) = F_spec_l04Ok a := by
  cases h : F_spec_l04Ok a
  · rw [neg_no h]; exact whole_no
  · have := (okiff a).1 h
    rw [neg_ok_val h]
    refine (okiff _).2 ?_
    simp only
    rw [wi (by omega) (by omega), wi (by omega) (by omega)]
    omega
theorem sub_eq (a b : Iv) : F_impl_SubI a b = F_spec_SubI a b := by
  simp only [F_impl_SubI, t_impl_SubI, Tr.get, add_eq, neg_eq, F_spec_AddI, t_spec_AddI, F_spec_SubI, t_spec_SubI, neg_isok]
  cases ha : F_spec_l04Ok a
  · rfl
  cases hb : F_spec_l04Ok b
  · rfl
  have h1 := (okiff a).1 ha
  have h2 := (okiff b).1 hb
  simp only [Bool.not_true, cond_false, neg_ok_val hb]
  refine make_ext ?_ ?_
  · rw [wi (n := 0 - b.hi.val) (by omega) (by omega)]; congr 1; congr 1; omega
  · rw [wi (n := 0 - b.lo.val) (by omega) (by omega)]; congr 1; congr 1; omega
theorem integer_eq (n : I64) : F_impl_Integer n = F_spec_Integer n := by
  simp only [F_impl_Integer, t_impl_Integer, F_spec_Integer, t_spec_Integer, Tr.get, within_eq, in_eq, bounded_eq, whole_eq, cond_true]
  by_cases h : -268435455 ≤ n.val ∧ n.val ≤ 268435455
  · have h' : -268435456 ≤ n.val ∧ n.val ≤ 268435456 := by omega
    simp only [h, h', and_self, decide_true, Bool.not_true, cond_false]
  · by_cases h' : -268435456 ≤ n.val ∧ n.val ≤ 268435456
    · simp only [h, h', and_self, decide_true, decide_false, Bool.not_true, Bool.not_false, cond_false, cond_true]
      refine make_no ?_
      rw [wi (by omega) (by omega)]
      omega
    · simp only [h, h', decide_false, Bool.not_false, cond_true]
theorem hull_eq (a b : Iv) : F_impl_HullI a b = F_spec_HullI a b := by
  simp only [F_impl_HullI, t_impl_HullI, F_spec_HullI, t_spec_HullI, Tr.get, areb_eq, whole_eq]
  cases ha : F_spec_l04Ok a
  · rfl
  cases hb : F_spec_l04Ok b
  · rfl
  have h1 := (okiff a).1 ha
  have h2 := (okiff b).1 hb
  simp only [Bool.and_self, Bool.not_true, cond_false, ← min_eq, ← max_eq]
  refine (make_ok ?_).symm
  rw [mn_val, mx_val]
  split <;> split <;> omega
theorem meet_eq (a b : Iv) : F_impl_MeetI a b = F_spec_MeetI a b := by
  simp only [F_impl_MeetI, t_impl_MeetI, F_spec_MeetI, t_spec_MeetI, Tr.get, isw_eq, whole_eq, min_eq, max_eq]
theorem overlap_eq (a b : Iv) : F_impl_OverlapI a b = F_spec_OverlapI a b := by
  simp only [F_impl_OverlapI, t_impl_OverlapI, F_spec_OverlapI, t_spec_OverlapI, Tr.get, meet_eq]
theorem inside_eq (a b : Iv) : F_impl_InsideI a b = F_spec_InsideI a b := by
  simp only [F_impl_InsideI, t_impl_InsideI, F_spec_InsideI, t_spec_InsideI, Tr.get, isw_eq]
  cases F_spec_l04Ok a <;> cases F_spec_l04Ok b <;> rfl
theorem ring_eq : F_impl_ring = F_spec_l06Ring := rfl
theorem tiny_eq : F_impl_tiny = F_spec_l06Tiny := rfl
theorem angle_eq (n : I64) : F_impl_isAngle n = F_spec_l06Angle n := by
  simp only [F_impl_isAngle, t_impl_isAngle, F_spec_l06Angle, t_spec_l06Angle, Tr.get, within_eq, in_eq]
theorem angle_iff (n : I64) : F_spec_l06Angle n = true ↔ (-1099511627776 ≤ n.val ∧ n.val ≤ 1099511627776) := by
  simp only [F_spec_l06Angle, t_spec_l06Angle, Tr.get, in_eq, decide_eq_true_eq]
theorem fits_eq (a : Iv) : F_impl_areAngles a = F_spec_l06Fits a := by
  simp only [F_impl_areAngles, t_impl_areAngles, F_spec_l06Fits, t_spec_l06Fits, Tr.get, angle_eq, valid_eq]
  rfl

/-! ### floors of products -/
theorem ediv_bd1 {x d : Int} (hd : 0 < d) (h : -9223372036854775808 ≤ x ∧ x ≤ 9223372036854775807) : -9223372036854775808 ≤ x / d ∧ x / d ≤ 9223372036854775807 := by
  have := ediv_bd (M := 9223372036854775808) hd h.1 (by omega)
  refine ⟨this.1, ?_⟩
  by_cases h0 : 0 ≤ x
  · have := Int.ediv_le_self d h0; omega
  · have := Int.ediv_neg_of_neg_of_pos (a := x) (by omega) hd; omega
theorem or_comm' (a b : Int) : bitop .or .u64 a b = bitop .or .u64 b a := by
  show ((BitVec.ofInt 64 a ||| BitVec.ofInt 64 b).toNat : Int) = ((BitVec.ofInt 64 b ||| BitVec.ofInt 64 a).toNat : Int)
  rw [BitVec.or_comm]
theorem shift_val (w : Wide) (n : I64) (k : Nat) (hn : n.val = k) (h1 : 1 ≤ k) (h2 : k ≤ 63) : wv (F_spec_l02Shift w n) = wv w / 2 ^ k := by
  have e0 : (n.val == 0) = false := by simp; omega
  have e1 : decide (n.val < 64) = true := by simp; omega
  have e2 : (Rng.w .u64 n.val).val = k := by rw [wu (by omega) (by omega), hn]
  have e3 : (Rng.w .u64 ((Rng.w .i64 (64 - n.val)).val)).val = ((64 - k : Nat) : Int) := by rw [wi (by omega) (by omega), wu (by omega) (by omega)]; omega
  simp only [F_spec_l02Shift, t_spec_l02Shift, Tr.get, e0, e1, cond_true, cond_false, e2, e3, Int.toNat_natCast, Nat.min_eq_left (show k ≤ 64 by omega), Nat.min_eq_left (show 64 - k ≤ 64 by omega), fdpow]
  have bh := w.hi.bd
  have bl := w.lo.ubd
  have hp : (2 : Int) ^ k * 2 ^ (64 - k) = 18446744073709551616 := by
    rw [← Int.pow_add, show k + (64 - k) = 64 by omega]; rfl
  have hp0 : (0 : Int) < 2 ^ k := Int.pow_pos (by decide)
  have hq0 : (0 : Int) < 2 ^ (64 - k) := Int.pow_pos (by decide)
  generalize hP : (2 : Int) ^ k = P at hp hp0
  generalize hQ : (2 : Int) ^ (64 - k) = Q at hp hq0
  have l1 : 0 ≤ w.lo.val / P := Int.ediv_nonneg bl.1 (by omega)
  have l2 : w.lo.val / P < Q := by
    refine Int.ediv_lt_of_lt_mul hp0 ?_
    rw [Int.mul_comm, hp]; omega
  have hhb : -9223372036854775808 ≤ w.hi.val / P ∧ w.hi.val / P ≤ 9223372036854775807 := ediv_bd1 hp0 bh
  have hQle : Q ≤ 18446744073709551616 := by
    have : Q * 1 ≤ Q * P := Int.mul_le_mul_of_nonneg_left (by omega) (by omega)
    rw [Int.mul_comm Q P, hp] at this; omega
  have wlo : (Rng.w .u64 (w.lo.val / P)).val = w.lo.val / P := wu l1 (by omega)
  have whi : (Rng.w .u64 ((Rng.w .u64 w.hi.val).val * Q)).val = (w.hi.val % P) * Q := by
    rw [wu_mod, wu_mod]
    have : (18446744073709551616 : Int) = P * Q := hp.symm
    rw [this]
    have e : w.hi.val % (P * Q) * Q % (P * Q) = w.hi.val * Q % (P * Q) := by
      rw [Int.mul_emod, Int.emod_emod_of_dvd _ (Int.dvd_refl _), ← Int.mul_emod]
    rw [e, Int.mul_comm w.hi.val Q, Int.mul_comm P Q, Int.mul_emod_mul_of_pos _ _ hq0, Int.mul_comm]
  have hm0 : 0 ≤ w.hi.val % P := Int.emod_nonneg _ (by omega)
  have hm1 : w.hi.val % P < P := Int.emod_lt_of_pos _ hp0
  have hmq : (w.hi.val % P) * Q ≤ (P - 1) * Q := Int.mul_le_mul_of_nonneg_right (by omega) (by omega)
  have hsum : (w.hi.val % P) * Q + w.lo.val / P ≤ 18446744073709551615 := by
    have : (P - 1) * Q = 18446744073709551616 - Q := by rw [Int.sub_mul, hp, Int.one_mul]
    omega
  have hor : bitop .or .u64 (w.lo.val / P) (w.hi.val % P * Q) = w.hi.val % P * Q + w.lo.val / P := by
    rw [or_comm', or_add (64 - k) (w.hi.val % P).toNat (by rw [hQ, Int.toNat_of_nonneg hm0, Int.mul_comm]) l1 (by rw [hQ]; exact l2) hsum]
  simp only [wv]
  rw [wi hhb.1 hhb.2, wlo, whi, hor, wu (by have := Int.mul_nonneg hm0 (show (0:Int) ≤ Q by omega); omega) hsum]
  have hdm : w.hi.val = P * (w.hi.val / P) + w.hi.val % P := (Int.mul_ediv_add_emod _ _).symm
  have key : w.hi.val * 18446744073709551616 + w.lo.val = (w.hi.val / P * 18446744073709551616 + w.hi.val % P * Q) * P + w.lo.val := by
    rw [Int.add_mul]
    have e1 : w.hi.val % P * Q * P = w.hi.val % P * 18446744073709551616 := by rw [Int.mul_assoc, Int.mul_comm Q P, hp]
    have e2 : w.hi.val / P * 18446744073709551616 * P = P * (w.hi.val / P) * 18446744073709551616 := by rw [Int.mul_comm _ P, Int.mul_assoc]
    rw [e1, e2, ← Int.add_mul, ← hdm]
  rw [key, Int.add_comm _ w.lo.val, Int.add_mul_ediv_right _ _ (by omega)]
  omega
theorem mf_val (a b n : I64) (k : Nat) (hn : n.val = k) (h1 : 1 ≤ k) (h2 : k ≤ 63) : F_spec_MulFloor a b n = narrow (a.val * b.val / 2 ^ k) := by
  have hin : F_spec_l00In n ⟨0, rfl⟩ ⟨126, rfl⟩ = true := by rw [in_eq]; simp; omega
  have hb := mul_bd a.bd b.bd
  simp only [F_spec_MulFloor, t_spec_MulFloor, Tr.get, hin, Bool.not_true, cond_false, mul_spec, int_spec, shift_val _ n k hn h1 h2]
  rw [wv_mkW (by omega) (by omega)]
theorem mf32 (a b : I64) : F_spec_MulFloor a b ⟨32, rfl⟩ = narrow (a.val * b.val / 4294967296) := mf_val a b _ 32 rfl (by decide) (by decide)
theorem mf30 (a b : I64) : F_spec_MulFloor a b ⟨30, rfl⟩ = narrow (a.val * b.val / 1073741824) := mf_val a b _ 30 rfl (by decide) (by decide)
theorem mf29 (a b : I64) : F_spec_MulFloor a b ⟨29, rfl⟩ = narrow (a.val * b.val / 536870912) := mf_val a b _ 29 rfl (by decide) (by decide)
theorem narrow_ok {v : Int} (h : -9223372036854775808 ≤ v) (h' : v ≤ 9223372036854775807) : narrow v = ⟨.w .i64 v, true⟩ := by unfold narrow; rw [if_pos ⟨h, h'⟩]

/-! ### quarter turns -/
theorem turn_lo {k : I64} (h : 0 < k.val) (h' : k.val ≤ 4096) : F_spec_MulFloor k ⟨7244019458077122842, rfl⟩ ⟨30, rfl⟩ = ⟨.w .i64 (k.val * 7244019458077122842 / 1073741824), true⟩ ∧
    0 ≤ k.val * 7244019458077122842 / 1073741824 ∧ k.val * 7244019458077122842 / 1073741824 ≤ 27633759721874 := by
  have : 0 ≤ k.val * 7244019458077122842 / 1073741824 ∧ k.val * 7244019458077122842 / 1073741824 ≤ 27633759721874 := by omega
  exact ⟨by rw [mf30]; exact narrow_ok (v := k.val * 7244019458077122842 / 1073741824) (by omega) (by omega), this⟩
theorem turn_p (k : I64) (h : 0 ≤ k.val) (h' : k.val ≤ 4096) : ∃ x : Iv, (t_spec_l05Turn_p k).opt = some x ∧ (t_impl_TurnI_p k).opt = some x ∧ F_spec_l04Ok x = true := by
  have hw : F_impl_within k ⟨(-4096), rfl⟩ ⟨4096, rfl⟩ = true := by rw [within_eq]; simp; omega
  have hn : decide (k.val < 0) = false := by simp; omega
  simp only [t_spec_l05Turn_p, t_impl_TurnI_p, Tr.opt, hw, hn, Bool.not_true, cond_false, mulfloor_F]
  by_cases h0 : k.val = 0
  · have e0 : (k.val == 0) = true := by simp [h0]
    simp only [e0, cond_true]
    exact ⟨_, rfl, rfl, by decide +kernel⟩
  · have e0 : (k.val == 0) = false := by simp [h0]
    obtain ⟨e, b1, b2⟩ := turn_lo (k := k) (by omega) h'
    simp only [e0, cond_false, e]
    refine ⟨_, rfl, rfl, (okiff _).2 ?_⟩
    simp only
    rw [wi (n := k.val * 7244019458077122842 / 1073741824) (by omega) (by omega), wi (by omega) (by omega)]
    omega
theorem turn_ok (k : I64) (h : -4096 ≤ k.val) (h' : k.val ≤ 4096) : ∃ x : Iv, (t_spec_l05Turn k).opt = some x ∧ (t_impl_TurnI k).opt = some x ∧ F_spec_l04Ok x = true := by
  have hw : F_impl_within k ⟨(-4096), rfl⟩ ⟨4096, rfl⟩ = true := by rw [within_eq]; simp; omega
  by_cases hn : k.val < 0
  · have e1 : (Rng.w .i64 (0 - k.val)).val = 0 - k.val := wi (by omega) (by omega)
    obtain ⟨x, h1, h2, h3⟩ := turn_p (.w .i64 (0 - k.val)) (by omega) (by omega)
    have g1 : G_spec_l05Turn_p (.w .i64 (0 - k.val)) = true := by unfold G_spec_l05Turn_p; rw [h1]; rfl
    have g2 : G_impl_TurnI_p (.w .i64 (0 - k.val)) = true := by unfold G_impl_TurnI_p; rw [h2]; rfl
    have f1 : F_spec_l05Turn_p (.w .i64 (0 - k.val)) = x := Tr.opt_get h1
    have f2 : F_impl_TurnI_p (.w .i64 (0 - k.val)) = x := Tr.opt_get h2
    have e0 : (k.val == 0) = false := by simp; omega
    have hd : decide (k.val < 0) = true := by simpa using hn
    refine ⟨F_spec_NegI x, ?_, ?_, by rw [neg_isok, h3]⟩
    · simp only [t_spec_l05Turn, Tr.opt, e0, hd, g1, f1, cond_true, cond_false, neg_ok_val h3]
    · simp only [t_impl_TurnI, Tr.opt, hw, hd, g2, f2, cond_true, cond_false, Bool.not_true, neg_eq]
  · obtain ⟨x, h1, h2, h3⟩ := turn_p k (by omega) h'
    have hd : decide (k.val < 0) = false := by simpa using hn
    refine ⟨x, ?_, ?_, h3⟩
    · simp only [t_spec_l05Turn_p, Tr.opt, hd] at h1
      simp only [t_spec_l05Turn, Tr.opt, hd]
      exact h1
    · simp only [t_impl_TurnI_p, Tr.opt, hd, hw] at h2
      simp only [t_impl_TurnI, Tr.opt, hd, hw]
      exact h2
theorem turnI_ok (k : I64) : ∃ x : Iv, (t_spec_TurnI k).opt = some x ∧ (t_impl_TurnI k).opt = some x := by
  by_cases h : -4096 ≤ k.val ∧ k.val ≤ 4096
  · obtain ⟨x, h1, h2, h3⟩ := turn_ok k h.1 h.2
    have hi : F_spec_l00In k ⟨(-4096), rfl⟩ ⟨4096, rfl⟩ = true := by rw [in_eq]; simpa using h
    have g : G_spec_l05Turn k = true := by unfold G_spec_l05Turn; rw [h1]; rfl
    have f : F_spec_l05Turn k = x := Tr.opt_get h1
    exact ⟨x, by simp only [t_spec_TurnI, Tr.opt, hi, g, f, Bool.not_true, cond_false, cond_true], h2⟩
  · have hi : F_spec_l00In k ⟨(-4096), rfl⟩ ⟨4096, rfl⟩ = false := by rw [in_eq]; simpa using h
    have hw : F_impl_within k ⟨(-4096), rfl⟩ ⟨4096, rfl⟩ = false := by rw [within_eq]; simpa using h
    exact ⟨F_spec_l04Whole, by simp only [t_spec_TurnI, Tr.opt, hi, Bool.not_false, cond_true, sWhole_eq], by simp only [t_impl_TurnI, Tr.opt, hw, Bool.not_false, cond_true, whole_eq]⟩
theorem tt_turnI_spec (k : I64) : (t_spec_TurnI k).opt = some (F_spec_TurnI k) := by
  obtain ⟨x, h1, _⟩ := turnI_ok k; exact opt_self h1
theorem tt_turnI_impl (k : I64) : (t_impl_TurnI k).opt = some (F_impl_TurnI k) := by
  obtain ⟨x, _, h1⟩ := turnI_ok k; exact opt_self h1
theorem turnI_eq (k : I64) : F_impl_TurnI k = F_spec_TurnI k := by
  obtain ⟨x, h1, h2⟩ := turnI_ok k
  exact (Tr.opt_get h2).trans (Tr.opt_get h1).symm
theorem quarter_ok (n : I64) : (t_spec_QuarterOf n).opt = some (F_impl_QuarterOf n) := by
  simp only [t_spec_QuarterOf, Tr.opt, F_impl_QuarterOf, t_impl_QuarterOf, Tr.get, angle_eq]
  cases ha : F_spec_l06Angle n
  · rfl
  have hb := (angle_iff n).1 ha
  have e1 : (Rng.w .i64 (n.val + 3373259426)).val = n.val + 3373259426 := wi (by omega) (by omega)
  have hs : Int.sign 6746518852 = 1 := rfl
  have q1 : (Rng.w .i64 ((n.val + 3373259426).tdiv 6746518852)).val = (n.val + 3373259426).tdiv 6746518852 := by
    refine wi ?_ ?_
    · have := Int.tdiv_eq_ediv (a := n.val + 3373259426) (b := 6746518852); split at this <;> omega
    · have := Int.tdiv_eq_ediv (a := n.val + 3373259426) (b := 6746518852); split at this <;> omega
  have hm := Int.mul_tdiv_add_tmod (n.val + 3373259426) 6746518852
  have m1 : (Rng.w .i64 ((n.val + 3373259426).tmod 6746518852)).val = (n.val + 3373259426).tmod 6746518852 := by
    refine wi ?_ ?_
    · have := Int.tdiv_eq_ediv (a := n.val + 3373259426) (b := 6746518852); split at this <;> omega
    · have := Int.tdiv_eq_ediv (a := n.val + 3373259426) (b := 6746518852); split at this <;> omega
  have q2 : (Rng.w .i64 ((n.val + 3373259426).tdiv 6746518852 * 6746518852)).val = (n.val + 3373259426).tdiv 6746518852 * 6746518852 := by
    refine wi ?_ ?_
    · have := Int.tdiv_eq_ediv (a := n.val + 3373259426) (b := 6746518852); split at this <;> omega
    · have := Int.tdiv_eq_ediv (a := n.val + 3373259426) (b := 6746518852); split at this <;> omega
  have z : ((6746518852 : Int) == 0) = false := rfl
  simp only [Bool.not_true, cond_false, G_spec_l06Floor, F_spec_l06Floor, t_spec_l06Floor, Tr.opt, Tr.get, e1, q1, m1, q2, z, cond_false]
  by_cases hc : (n.val + 3373259426).tmod 6746518852 < 0
  · have hc' : (n.val + 3373259426).tdiv 6746518852 * 6746518852 > n.val + 3373259426 := by omega
    simp only [hc, hc', decide_true, cond_true, Option.isSome_some]
  · have hc' : ¬ (n.val + 3373259426).tdiv 6746518852 * 6746518852 > n.val + 3373259426 := by omega
    simp only [hc, hc', decide_false, cond_false, cond_true, Option.isSome_some]
theorem quarter_eq (n : I64) : F_impl_QuarterOf n = F_spec_QuarterOf n := (Tr.opt_get (quarter_ok n)).symm
theorem tt_quarter_spec (n : I64) : (t_spec_QuarterOf n).opt = some (F_spec_QuarterOf n) := opt_self (quarter_ok n)
theorem quarter_bd (n : I64) : -200 ≤ (F_spec_QuarterOf n).val ∧ (F_spec_QuarterOf n).val ≤ 200 := by
  rw [← quarter_eq]
  simp only [F_impl_QuarterOf, t_impl_QuarterOf, Tr.get, angle_eq]
  cases ha : F_spec_l06Angle n
  · simp only [Bool.not_false, cond_true]; omega
  have hb := (angle_iff n).1 ha
  have e1 : (Rng.w .i64 (n.val + 3373259426)).val = n.val + 3373259426 := wi (by omega) (by omega)
  have hs : Int.sign 6746518852 = 1 := rfl
  have hq : -170 ≤ (n.val + 3373259426).tdiv 6746518852 ∧ (n.val + 3373259426).tdiv 6746518852 ≤ 170 := by
    have := Int.tdiv_eq_ediv (a := n.val + 3373259426) (b := 6746518852); split at this <;> omega
  have q1 : (Rng.w .i64 ((n.val + 3373259426).tdiv 6746518852)).val = (n.val + 3373259426).tdiv 6746518852 := wi (by omega) (by omega)
  simp only [Bool.not_true, cond_false, e1, q1]
  cases decide ((Rng.w .i64 ((n.val + 3373259426).tdiv 6746518852 * 6746518852)).val > n.val + 3373259426)
  · simp only [cond_false, q1]; omega
  · simp only [cond_true]; rw [wi (by omega) (by omega)]; omega
end Go.Proofs.YtecfhpgpojgjkaaGreat.Ev
