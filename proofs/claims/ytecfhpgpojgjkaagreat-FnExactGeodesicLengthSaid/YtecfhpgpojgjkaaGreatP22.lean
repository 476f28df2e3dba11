/-
  Plain laws: the exponential of a fix: powers of 2, and the whole.
-/
import Derived.Test.YtecfhpgpojgjkaaGreatP21
import Derived.Test.YtecfhpgpojgjkaaGreatP17
import Derived.Test.YtecfhpgpojgjkaaGreatW8
namespace Go.Proofs.YtecfhpgpojgjkaaGreat.Ev
open Go
set_option linter.unusedSimpArgs false
set_option linter.unusedVariables false

/-- Doubled some times. -/
noncomputable def dbl (x : Iv) : Nat → Iv
  | 0 => x
  | n + 1 => dbl (F_impl_DoubleI x) n
theorem scaled_loop (p q : I64) : ∀ (n m : Nat) (k : I64) (x : Iv), k.val = n → n ≤ 60 → (Lf b_impl_scaled_1 (n + 1 + m) ⟨k, x.lo, x.hi, p, q⟩).opt = some ⟨.w .i64 (0 : Int), (dbl x n).lo, (dbl x n).hi, p, q⟩ := by
  intro n
  induction n with
  | zero =>
    intro m k x hk _
    have hd : decide (k.val > 0) = false := by simp; omega
    have hz : k = .w .i64 (0 : Int) := by apply Rng.ext; rw [wi (by omega) (by omega)]; simpa using hk
    rw [show 0 + 1 + m = m + 1 by omega]
    simp only [Lf, b_impl_scaled_1, hd, Tr.bind, Tr.opt, cond_false, dbl]
    rw [hz]
  | succ n ih =>
    intro m k x hk hn
    have hd : decide (k.val > 0) = true := by simp; omega
    have e1 : (Rng.w .i64 (k.val - 1)).val = k.val - 1 := wi (by omega) (by omega)
    rw [show n + 1 + 1 + m = (n + 1 + m) + 1 by omega]
    have := ih m (.w .i64 (k.val - 1)) (F_impl_DoubleI x) (by rw [e1]; omega) (by omega)
    simp only [Lf, b_impl_scaled_1, hd, Tr.bind, Tr.opt, cond_true, dbl]
    exact this
theorem scaled_neg (p q : I64) (m : Nat) (k : I64) (x : Iv) (hk : k.val ≤ 0) : (Lf b_impl_scaled_1 (m + 1) ⟨k, x.lo, x.hi, p, q⟩).opt = some ⟨k, x.lo, x.hi, p, q⟩ := by
  have hd : decide (k.val > 0) = false := by simp; omega
  simp only [Lf, b_impl_scaled_1, hd, Tr.bind, Tr.opt, cond_false]
theorem dbl_step (x : Iv) : ∀ n, dbl x (n + 1) = F_impl_DoubleI (dbl x n)
  | 0 => rfl
  | n + 1 => by rw [dbl, dbl_step (F_impl_DoubleI x) n, dbl]
theorem dbl_val {x : Iv} (hx : -1 ≤ x.lo.val ∧ x.lo.val ≤ x.hi.val ∧ x.hi.val ≤ 8589934593) : ∀ j : Nat, j ≤ 29 → dbl x j = F_spec_l04Make (.w .i64 (x.lo.val * 2 ^ j)) (.w .i64 (x.hi.val * 2 ^ j)) := by
  intro j
  induction j with
  | zero =>
    intro _
    have h1 : (Rng.w .i64 (x.lo.val * 2 ^ 0)).val = x.lo.val := by rw [wi (by omega) (by omega)]; omega
    have h2 : (Rng.w .i64 (x.hi.val * 2 ^ 0)).val = x.hi.val := by rw [wi (by omega) (by omega)]; omega
    rw [make_ok (by rw [h1, h2]; omega)]
    have e1 : Rng.w .i64 (x.lo.val * 2 ^ 0) = x.lo := Rng.ext h1
    have e2 : Rng.w .i64 (x.hi.val * 2 ^ 0) = x.hi := Rng.ext h2
    rw [e1, e2]; rfl
  | succ j ih =>
    intro hj
    rw [dbl_step, ih (by omega), double_eq]
    have hp : (2 : Int) ^ (j + 1) = 2 ^ j * 2 := Int.pow_succ ..
    have hp1 : (1 : Int) ≤ 2 ^ j := Int.add_one_le_of_lt (Int.pow_pos (show (0 : Int) < 2 by decide))
    have hp2 : (2 : Int) ^ j ≤ 268435456 := by
      have : j = 0 ∨ j = 1 ∨ j = 2 ∨ j = 3 ∨ j = 4 ∨ j = 5 ∨ j = 6 ∨ j = 7 ∨ j = 8 ∨ j = 9 ∨ j = 10 ∨ j = 11 ∨ j = 12 ∨ j = 13 ∨ j = 14 ∨ j = 15 ∨ j = 16 ∨ j = 17 ∨ j = 18 ∨ j = 19 ∨ j = 20 ∨ j = 21 ∨ j = 22 ∨ j = 23 ∨ j = 24 ∨ j = 25 ∨ j = 26 ∨ j = 27 ∨ j = 28 := by omega
      rcases this with rfl | rfl | rfl | rfl | rfl | rfl | rfl | rfl | rfl | rfl | rfl | rfl | rfl | rfl | rfl | rfl | rfl | rfl | rfl | rfl | rfl | rfl | rfl | rfl | rfl | rfl | rfl | rfl | rfl <;> decide
    generalize (2 : Int) ^ j = t at hp hp1 hp2
    rw [hp]
    have l1 : -t ≤ x.lo.val * t := by
      have := Int.mul_le_mul_of_nonneg_right (show (-1 : Int) ≤ x.lo.val by omega) (show 0 ≤ t by omega)
      omega
    have l2 : x.lo.val * t ≤ x.hi.val * t := Int.mul_le_mul_of_nonneg_right hx.2.1 (by omega)
    have l3 : x.hi.val * t ≤ 8589934593 * t := Int.mul_le_mul_of_nonneg_right hx.2.2 (by omega)
    have e1 : x.lo.val * (t * 2) = x.lo.val * t * 2 := by rw [Int.mul_assoc]
    have e2 : x.hi.val * (t * 2) = x.hi.val * t * 2 := by rw [Int.mul_assoc]
    rw [e1, e2]
    generalize x.lo.val * t = a at *
    generalize x.hi.val * t = b at *
    have v1 : (Rng.w .i64 a).val = a := wi (by omega) (by omega)
    have v2 : (Rng.w .i64 b).val = b := wi (by omega) (by omega)
    have v3 : (Rng.w .i64 (a * 2)).val = a * 2 := wi (by omega) (by omega)
    have v4 : (Rng.w .i64 (b * 2)).val = b * 2 := wi (by omega) (by omega)
    by_cases hb : b < 1152921504606846976
    · have hm : -1152921504606846976 < (Rng.w .i64 a).val ∧ (Rng.w .i64 a).val ≤ (Rng.w .i64 b).val ∧ (Rng.w .i64 b).val < 1152921504606846976 := by rw [v1, v2]; omega
      rw [make_ok hm]
      have ho : F_spec_l04Ok ⟨.w .i64 a, .w .i64 b⟩ = true := (okiff _).2 hm
      simp only [F_spec_DoubleI, t_spec_DoubleI, F_spec_AddI, t_spec_AddI, Tr.get, ho, Bool.not_true, cond_false, v1, v2]
      rw [show 2 * a = a * 2 by omega, show 2 * b = b * 2 by omega]
    · rw [make_no (by rw [v1, v2]; omega), make_no (by rw [v3, v4]; omega)]
      simp only [F_spec_DoubleI, t_spec_DoubleI, F_spec_AddI, t_spec_AddI, Tr.get, whole_no, Bool.not_false, ctr]
theorem pow_min {k : Int} (h : 0 ≤ k) (h' : k ≤ 60) : (min k.toNat 64) = k.toNat := by omega
theorem fdiv_one (n : Int) : n.fdiv 1 = n := by rw [Int.fdiv_eq_ediv_of_nonneg _ (by decide)]; omega
theorem scaled_eq {x : Iv} {k : I64} (hx : -1 ≤ x.lo.val ∧ x.lo.val ≤ x.hi.val ∧ x.hi.val ≤ 8589934593) (hk : -40 ≤ k.val ∧ k.val ≤ 29) : (t_impl_scaled x k).opt = some (F_spec_l08Scale x k) := by
  by_cases h0 : 0 ≤ k.val
  · obtain ⟨n, hn⟩ := Int.eq_ofNat_of_zero_le h0
    have a1 := scaled_loop ⟨0, rfl⟩ ⟨0, rfl⟩ n (69 - n) k x hn (by omega)
    rw [show n + 1 + (69 - n) = 70 by omega, dbl_val hx n (by omega)] at a1
    have g1 : G_impl_scaled_1 ⟨k, x.lo, x.hi, ⟨0, rfl⟩, ⟨0, rfl⟩⟩ = true := by unfold G_impl_scaled_1; rw [a1]; rfl
    have l1 : L_impl_scaled_1 ⟨k, x.lo, x.hi, ⟨0, rfl⟩, ⟨0, rfl⟩⟩ = _ := Tr.opt_get a1
    have hd : decide (k.val ≥ 0) = true := by simpa using h0
    have hu : (Rng.w .u64 k.val).val = k.val := wu (by omega) (by omega)
    have hs : F_spec_l08Scale x k = F_spec_l04Make (.w .i64 (x.lo.val * 2 ^ n)) (.w .i64 (x.hi.val * 2 ^ n)) := by
      simp only [F_spec_l08Scale, t_spec_l08Scale, Tr.get, hd, ctr, hu, pow_min h0 (by omega : k.val ≤ 60)]
      rw [hn]; rfl
    rw [hs]
    have z0 : (Rng.w .i64 (0 - (Rng.w .i64 (0 : Int)).val)).val = 0 := by rw [wi (n := 0) (by decide) (by decide), wi (by omega) (by omega)]; rfl
    have zd : decide ((0 : Int) < 0) = false := by decide
    simp only [t_impl_scaled, Tr.opt, g1, l1, ctr, z0, zd, cfl, isw_eq]
    generalize hmk : F_spec_l04Make (.w .i64 (x.lo.val * 2 ^ n)) (.w .i64 (x.hi.val * 2 ^ n)) = y
    have hy : F_spec_l04Ok y = true ∨ y = F_spec_l04Whole := by
      by_cases hm : -1152921504606846976 < (Rng.w .i64 (x.lo.val * 2 ^ n)).val ∧ (Rng.w .i64 (x.lo.val * 2 ^ n)).val ≤ (Rng.w .i64 (x.hi.val * 2 ^ n)).val ∧ (Rng.w .i64 (x.hi.val * 2 ^ n)).val < 1152921504606846976
      · left; rw [← hmk, make_ok hm]; exact (okiff _).2 hm
      · right; rw [← hmk]; exact make_no hm
    rcases hy with hy | hy
    · have hb := (okiff y).1 hy
      have e1 : (Rng.w .i64 (y.lo.val.fdiv (2 ^ min (Int.toNat 0) 64))) = y.lo := by
        apply Rng.ext
        rw [show (2 : Int) ^ min (Int.toNat 0) 64 = 1 from rfl, fdiv_one, wi (by omega) (by omega)]
      have e2 : (Rng.w .i64 (0 - (Rng.w .i64 ((Rng.w .i64 (0 - y.hi.val)).val.fdiv (2 ^ min (Int.toNat 0) 64))).val)) = y.hi := by
        apply Rng.ext
        rw [show (2 : Int) ^ min (Int.toNat 0) 64 = 1 from rfl, fdiv_one, wi (n := 0 - y.hi.val) (by omega) (by omega), wi (n := 0 - y.hi.val) (by omega) (by omega), wi (by omega) (by omega)]
        omega
      simp only [hy, Bool.not_true, cfl, e1, e2]
    · rw [hy]
      have hw : (⟨F_spec_l04Whole.lo, F_spec_l04Whole.hi⟩ : Iv) = F_spec_l04Whole := rfl
      simp only [hw, whole_no, Bool.not_false, ctr, whole_eq]
  · have a1 := scaled_neg ⟨0, rfl⟩ ⟨0, rfl⟩ 69 k x (by omega)
    have g1 : G_impl_scaled_1 ⟨k, x.lo, x.hi, ⟨0, rfl⟩, ⟨0, rfl⟩⟩ = true := by unfold G_impl_scaled_1; rw [a1]; rfl
    have l1 : L_impl_scaled_1 ⟨k, x.lo, x.hi, ⟨0, rfl⟩, ⟨0, rfl⟩⟩ = _ := Tr.opt_get a1
    have hd : decide (k.val ≥ 0) = false := by simp; omega
    have ho : F_spec_l04Ok ⟨x.lo, x.hi⟩ = true := (okiff _).2 (by simp only; omega)
    have e1 : (Rng.w .i64 (0 - k.val)).val = -k.val := by rw [wi (by omega) (by omega)]; omega
    have hu : (Rng.w .u64 (-k.val)).val = -k.val := wu (by omega) (by omega)
    have hd2 : decide (-k.val < 0) = false := by simp; omega
    simp only [t_impl_scaled, Tr.opt, g1, l1, ctr, e1, hd2, cfl, isw_eq, ho, Bool.not_true, F_spec_l08Scale, t_spec_l08Scale, Tr.get, hd, hu]
    generalize hp : (2 : Int) ^ min (-k.val).toNat 64 = t
    have ht : 1 ≤ t := by rw [← hp]; exact Int.add_one_le_of_lt (Int.pow_pos (show (0 : Int) < 2 by decide))
    have f1 : x.lo.val.fdiv t = x.lo.val / t := Int.fdiv_eq_ediv_of_nonneg _ (by omega)
    have n1 : (Rng.w .i64 (0 - x.hi.val)).val = -x.hi.val := by rw [wi (by omega) (by omega)]; omega
    have f2 : (-x.hi.val).fdiv t = -x.hi.val / t := Int.fdiv_eq_ediv_of_nonneg _ (by omega)
    have b1 := ediv_bd (M := 8589934593) (N := x.lo.val) (d := t) (by omega) (by omega) (by omega)
    have b2 := ediv_bd (M := 8589934593) (N := -x.hi.val) (d := t) (by omega) (by omega) (by omega)
    have b3 : -x.hi.val / t ≤ -(x.lo.val / t) := by
      have c1 := Int.mul_ediv_add_emod x.lo.val t
      have c2 := Int.emod_nonneg x.lo.val (show t ≠ 0 by omega)
      have hh : -x.hi.val ≤ t * -(x.lo.val / t) := by rw [Int.mul_neg]; omega
      have h5 : -x.hi.val / t ≤ (t * -(x.lo.val / t)) / t := Int.ediv_le_ediv (by omega) hh
      rw [Int.mul_ediv_cancel_left _ (by omega)] at h5
      exact h5
    rw [f1, n1, f2]
    have v1 : (Rng.w .i64 (x.lo.val / t)).val = x.lo.val / t := wi (by omega) (by omega)
    have v2 : (Rng.w .i64 (-x.hi.val / t)).val = -x.hi.val / t := wi (by omega) (by omega)
    have v3 : (Rng.w .i64 (0 - (Rng.w .i64 (-x.hi.val / t)).val)).val = -(-x.hi.val / t) := by rw [v2, wi (by omega) (by omega)]; omega
    rw [make_ok (by rw [v1, v3]; omega)]

theorem k_floor {N k : Int} (h : k = N / 5954088944) : k * 5954088944 ≤ N ∧ N < k * 5954088944 + 5954088944 := by omega
theorem exp_form {n k : I64} (hn : -98784247808 ≤ n.val ∧ n.val ≤ 85899345920) (hk : k.val = (2 * n.val + 2977044472) / 5954088944) :
    (t_impl_scaled (F_spec_l08Widen (expP (F_spec_SubI (F_spec_l08At n) (F_spec_LogTwoI k))) ⟨1, rfl⟩) k).opt = some (F_spec_l08Scale (F_spec_l08Widen (expP (F_spec_SubI (F_spec_l08At n) (F_spec_LogTwoI k))) ⟨1, rfl⟩) k) := by
  have h1 := expP_in (rest_in hn hk)
  obtain ⟨h2, h3, h4⟩ := widen_in h1
  unfold In02 at h1
  rw [h2]
  refine scaled_eq ?_ (by omega)
  simp only [h3, h4]
  omega
theorem exp_ok (n : I64) : (t_impl_ExpAt n).opt = some (F_spec_ExpAt n) := by
  simp only [t_impl_ExpAt, Tr.opt, F_spec_ExpAt, t_spec_ExpAt, Tr.get, okfix_eq, whole_eq]
  cases h0 : F_spec_l03Ok n
  · simp only [Bool.not_false, ctr]
  by_cases h1 : n.val > 85899345920
  · simp only [Bool.not_true, cfl, h1, decide_true, ctr]
  by_cases h2 : n.val < -98784247808
  · simp only [Bool.not_true, cfl, h1, h2, decide_true, decide_false, ctr]
  have e1 : (Rng.w .i64 (2 * n.val)).val = 2 * n.val := wi (by omega) (by omega)
  have e2 : (Rng.w .i64 (2 * n.val + 2977044472)).val = 2 * n.val + 2977044472 := wi (by omega) (by omega)
  simp only [Bool.not_true, cfl, h1, h2, decide_false, e1, e2]
  generalize hN : 2 * n.val + 2977044472 = N
  have t1 := Int.tdiv_eq_ediv (a := N) (b := 5954088944)
  have t2 := Int.tmod_eq_emod (a := N) (b := 5954088944)
  generalize hq : N.tdiv 5954088944 = q at *
  generalize hm : N.tmod 5954088944 = r at *
  have hqr : N = 5954088944 * q + r := by rw [← hq, ← hm]; exact (Int.mul_tdiv_add_tmod N 5954088944).symm
  have hr : -5954088944 < r ∧ r < 5954088944 ∧ (0 ≤ N → 0 ≤ r) ∧ (N < 0 → r ≤ 0) := by
    rw [← hm]
    refine ⟨?_, ?_, ?_, ?_⟩
    · have := Int.lt_tmod_of_pos N (show (0 : Int) < 5954088944 by decide); omega
    · have := Int.tmod_lt_of_pos N (show (0 : Int) < 5954088944 by decide); omega
    · exact fun h => Int.tmod_nonneg _ h
    · intro h
      have := Int.neg_tmod (-N) 5954088944
      have h3 := Int.tmod_nonneg (a := -N) 5954088944 (by omega)
      rw [Int.neg_neg] at this
      omega
  have hqb : -40 ≤ q ∧ q ≤ 40 := by omega
  have v1 : (Rng.w .i64 q).val = q := wi (by omega) (by omega)
  have v2 : (Rng.w .i64 (q * 2)).val = q * 2 := wi (by omega) (by omega)
  have v3 : (Rng.w .i64 (q * 2 * 2977044472)).val = q * 5954088944 := by rw [wi (by omega) (by omega)]; omega
  have v4 : (Rng.w .i64 r).val = r := wi (by omega) (by omega)
  have v5 : (Rng.w .i64 (q - 1)).val = q - 1 := wi (by omega) (by omega)
  have hat : F_impl_at n = F_spec_l08At n := by rw [at_eq]; exact (l08At_eq (n := n) (by omega)).symm
  simp only [v1, v2, v3, v4, hat, sub_eq, add_eq, mulI_F, divI_F, integer_eq, log2_eq, widen_eq, one_eq]
  by_cases hlt : r < 0
  · have d1 : decide (q * 5954088944 > N) = true := by simp; omega
    have d2 : decide (r < 0) = true := by simpa using hlt
    have ex := exp_form (n := n) (k := .w .i64 (q - 1)) (by omega) (by rw [v5]; omega)
    simp only [d1, d2, ctr]
    simp only [expP, expS, one_eq] at ex
    have hG : G_impl_scaled _ _ = true := show (t_impl_scaled _ _).opt.isSome = true by rw [ex]; rfl
    have hF : F_impl_scaled _ _ = _ := Tr.opt_get ex
    rw [hG, hF]
    rfl
  · have d1 : decide (q * 5954088944 > N) = false := by simp; omega
    have d2 : decide (r < 0) = false := by simpa using hlt
    have ex := exp_form (n := n) (k := .w .i64 q) (by omega) (by rw [v1]; omega)
    simp only [d1, d2, cfl]
    simp only [expP, expS, one_eq] at ex
    have hG : G_impl_scaled _ _ = true := show (t_impl_scaled _ _).opt.isSome = true by rw [ex]; rfl
    have hF : F_impl_scaled _ _ = _ := Tr.opt_get ex
    rw [hG, hF]
    rfl
theorem tt_exp_impl (n : I64) : (t_impl_ExpAt n).opt = some (F_impl_ExpAt n) := opt_self (exp_ok n)
theorem expAt_eq (n : I64) : F_impl_ExpAt n = F_spec_ExpAt n := Tr.opt_get (exp_ok n)
end Go.Proofs.YtecfhpgpojgjkaaGreat.Ev
