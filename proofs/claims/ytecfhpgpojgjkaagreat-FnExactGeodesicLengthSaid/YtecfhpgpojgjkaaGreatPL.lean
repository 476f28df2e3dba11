/-
  Plain laws: the logarithm of a fix.
-/
import Derived.Test.YtecfhpgpojgjkaaGreatP13
namespace Go.Proofs.YtecfhpgpojgjkaaGreat.Ev
open Go
set_option linter.unusedSimpArgs false
set_option linter.unusedVariables false

def shr (n e : I64) : I64 := .w .i64 (n.val.fdiv (2 ^ min e.val.toNat 64))
def shl (n e : I64) : I64 := .w .i64 (n.val * (2 ^ min e.val.toNat 64))
theorem lshr_val {n e : I64} (h : 0 ≤ e.val) (h' : e.val ≤ 40) : (shr n e).val = n.val / 2 ^ e.val.toNat := by
  unfold shr
  rw [Nat.min_eq_left (by omega), fdpow]
  have hp : (0 : Int) < 2 ^ e.val.toNat := Int.pow_pos (by decide)
  have := ediv_bd1 hp n.bd
  exact wi this.1 this.2
theorem log_up (n : I64) (hn : 1 ≤ n.val ∧ n.val ≤ 1152921504606846976) (x2 x3 : I64) : ∀ (j : Nat) (m : Nat) (e : I64), e.val = 32 - (j : Int) → j ≤ 32 →
    ∃ E : I64, e.val ≤ E.val ∧ E.val ≤ 32 ∧ (Lf b_spec_LogAt_5 (j + 1 + m) ⟨n, e, x2, x3, shr n e, .w .i64 (0 - (shr (.w .i64 (0 - n.val)) e).val)⟩).opt = some ⟨n, E, x2, x3, shr n E, .w .i64 (0 - (shr (.w .i64 (0 - n.val)) E).val)⟩ ∧
      (Lf b_impl_twosOf_2 (j + 1 + m) ⟨n, e⟩).opt = some ⟨n, E⟩ ∧ (shr n E).val < 6442450944 ∧ (E = e ∨ 3221225472 ≤ (shr n E).val) := by
  intro j
  induction j with
  | zero =>
    intro m e he _
    have hv := lshr_val (n := n) (e := e) (by omega) (by omega)
    have hp : (2 : Int) ^ e.val.toNat = 4294967296 := by rw [show e.val.toNat = 32 by omega]; rfl
    have hlt : ¬ (shr n e).val ≥ 6442450944 := by rw [hv, hp]; omega
    have hlt' : ¬ (Rng.w .i64 (n.val.fdiv (2 ^ min e.val.toNat 64))).val ≥ 6442450944 := hlt
    have hneg : decide (e.val < 0) = false := by simp; omega
    refine ⟨e, by omega, by omega, ?_, ?_, by omega, .inl rfl⟩
    · simp only [Lf, b_spec_LogAt_5, hlt, decide_false, Tr.bind, Tr.opt, cond_false, Nat.zero_add, Nat.add_comm 1 m]
    · simp only [Lf, b_impl_twosOf_2, hneg, hlt', decide_false, Tr.bind, Tr.opt, cond_false, Nat.zero_add, Nat.add_comm 1 m]
  | succ j ih =>
    intro m e he hj
    have hv := lshr_val (n := n) (e := e) (by omega) (by omega)
    have hneg : decide (e.val < 0) = false := by simp; omega
    have ev : (Rng.w .i64 (e.val + 1)).val = e.val + 1 := wi (by omega) (by omega)
    have hfuel : j + 1 + 1 + m = (j + 1 + m) + 1 := by omega
    by_cases hc : (shr n e).val ≥ 6442450944
    · have hc' : (Rng.w .i64 (n.val.fdiv (2 ^ min e.val.toNat 64))).val ≥ 6442450944 := hc
      obtain ⟨E, h1, h2, h3, h4, h5, h6⟩ := ih m (.w .i64 (e.val + 1)) (by rw [ev]; omega) (by omega)
      have en : (Rng.w .u64 (Rng.w .i64 (e.val + 1)).val).val = (Rng.w .i64 (e.val + 1)).val := by rw [ev]; exact wu (by omega) (by omega)
      refine ⟨E, by omega, h2, ?_, ?_, h5, .inr ?_⟩
      · rw [hfuel]
        simp only [Lf, b_spec_LogAt_5, hc, decide_true, Tr.bind, Tr.opt, cond_true, en]
        exact h3
      · rw [hfuel]
        simp only [Lf, b_impl_twosOf_2, hneg, hc', decide_true, Tr.bind, Tr.opt, cond_true, cond_false]
        exact h4
      · rcases h6 with h6 | h6
        · have hv2 := lshr_val (n := n) (e := .w .i64 (e.val + 1)) (by rw [ev]; omega) (by rw [ev]; omega)
          rw [h6, hv2, ev, show (e.val + 1).toNat = e.val.toNat + 1 by omega, Int.pow_succ, ← Int.ediv_ediv_of_nonneg (Int.pow_nonneg (by decide)), ← hv]
          omega
        · exact h6
    · have hc' : ¬ (Rng.w .i64 (n.val.fdiv (2 ^ min e.val.toNat 64))).val ≥ 6442450944 := hc
      refine ⟨e, by omega, by omega, ?_, ?_, by omega, .inl rfl⟩
      · rw [hfuel]
        simp only [Lf, b_spec_LogAt_5, hc, decide_false, Tr.bind, Tr.opt, cond_false]
      · rw [hfuel]
        simp only [Lf, b_impl_twosOf_2, hneg, hc', decide_false, Tr.bind, Tr.opt, cond_false]
/-- n turned left by -e places. -/
def sl (n e : I64) : I64 := shl n (.w .i64 (0 - e.val))
theorem log_dn (n : I64) (hn : 1 ≤ n.val) (x2 x3 : I64) : ∀ (j : Nat) (m : Nat) (e : I64), e.val = (j : Int) - 32 → j ≤ 32 → n.val * 2 ^ (32 - j) < 6442450944 →
    ∃ E : I64, E.val ≤ e.val ∧ -32 ≤ E.val ∧ (Lf b_spec_LogAt_8 (j + 1 + m) ⟨n, e, x2, x3, sl n e, sl n e⟩).opt = some ⟨n, E, x2, x3, sl n E, sl n E⟩ ∧
      (Lf b_impl_twosOf_4 (j + 1 + m) ⟨n, e⟩).opt = some ⟨n, E⟩ := by
  have slv : ∀ (k : Nat) (e : I64), e.val = -(k : Int) → k ≤ 32 → n.val * 2 ^ k < 6442450944 → (sl n e).val = n.val * 2 ^ k := fun k e he hk hlt => by
    have e1 : (Rng.w .i64 (0 - e.val)).val = (k : Int) := by rw [wi (by omega) (by omega)]; omega
    have hnn : 0 ≤ n.val * 2 ^ k := Int.mul_nonneg (by omega) (Int.pow_nonneg (by decide))
    unfold sl shl
    rw [e1, Int.toNat_natCast, Nat.min_eq_left (by omega)]
    exact wi (by omega) (by omega)
  intro j
  induction j with
  | zero =>
    intro m e he _ hb
    have hv := slv 32 e (by omega) (by omega) hb
    have hp : (2 : Int) ^ 32 = 4294967296 := rfl
    have hge : ¬ (sl n e).val < 3221225472 := by rw [hv, hp]; omega
    have hge' : ¬ (Rng.w .i64 (n.val * (2 ^ min (Rng.w .i64 (0 - e.val)).val.toNat 64))).val < 3221225472 := hge
    have e1 : (Rng.w .i64 (0 - e.val)).val = 0 - e.val := wi (by omega) (by omega)
    have hneg : decide ((Rng.w .i64 (0 - e.val)).val < 0) = false := by rw [e1]; simp; omega
    have hle : decide (e.val ≤ 0) = true := by simp; omega
    refine ⟨e, by omega, by omega, ?_, ?_⟩
    · simp only [Lf, b_spec_LogAt_8, hge, decide_false, Tr.bind, Tr.opt, cond_false, Nat.zero_add, Nat.add_comm 1 m]
    · simp only [Lf, b_impl_twosOf_4, hle, hneg, hge', decide_false, Tr.bind, Tr.opt, cond_true, cond_false, Nat.zero_add, Nat.add_comm 1 m]
  | succ j ih =>
    intro m e he hj hb
    have hk : 32 - (j + 1) + 1 = 32 - j := by omega
    have hv := slv (32 - (j + 1)) e (by omega) (by omega) hb
    have e1 : (Rng.w .i64 (0 - e.val)).val = 0 - e.val := wi (by omega) (by omega)
    have hneg : decide ((Rng.w .i64 (0 - e.val)).val < 0) = false := by rw [e1]; simp; omega
    have hle : decide (e.val ≤ 0) = true := by simp; omega
    have ev : (Rng.w .i64 (e.val - 1)).val = e.val - 1 := wi (by omega) (by omega)
    have hfuel : j + 1 + 1 + m = (j + 1 + m) + 1 := by omega
    by_cases hc : (sl n e).val < 3221225472
    · have hc' : (Rng.w .i64 (n.val * (2 ^ min (Rng.w .i64 (0 - e.val)).val.toNat 64))).val < 3221225472 := hc
      have e2 : (Rng.w .i64 (0 - (Rng.w .i64 (e.val - 1)).val)).val = 0 - (e.val - 1) := by rw [ev]; exact wi (by omega) (by omega)
      have en : (Rng.w .u64 (Rng.w .i64 (0 - (Rng.w .i64 (e.val - 1)).val)).val).val = (Rng.w .i64 (0 - (Rng.w .i64 (e.val - 1)).val)).val := by rw [e2]; exact wu (by omega) (by omega)
      obtain ⟨E, h1, h2, h3, h4⟩ := ih m (.w .i64 (e.val - 1)) (by rw [ev]; omega) (by omega) (by rw [← hk, Int.pow_succ, ← Int.mul_assoc, ← hv]; omega)
      refine ⟨E, by omega, h2, ?_, ?_⟩
      · rw [hfuel]
        simp only [Lf, b_spec_LogAt_8, hc, decide_true, Tr.bind, Tr.opt, cond_true, en]
        exact h3
      · rw [hfuel]
        simp only [Lf, b_impl_twosOf_4, hle, hneg, hc', decide_true, Tr.bind, Tr.opt, cond_true, cond_false]
        exact h4
    · have hc' : ¬ (Rng.w .i64 (n.val * (2 ^ min (Rng.w .i64 (0 - e.val)).val.toNat 64))).val < 3221225472 := hc
      refine ⟨e, by omega, by omega, ?_, ?_⟩
      · rw [hfuel]
        simp only [Lf, b_spec_LogAt_8, hc, decide_false, Tr.bind, Tr.opt, cond_false]
      · rw [hfuel]
        simp only [Lf, b_impl_twosOf_4, hle, hneg, hc', decide_false, Tr.bind, Tr.opt, cond_true, cond_false]
noncomputable def logTail (m : Iv) (e : I64) : Iv :=
  let z := F_spec_DivI (F_spec_SubI m F_spec_l08One) (F_spec_AddI m F_spec_l08One)
  let q := F_spec_SqrI z
  F_spec_AddI (F_spec_LogTwoI e) (F_spec_l08Widen (F_spec_MulI (F_spec_MulI (F_spec_Integer ⟨2, rfl⟩) z) (F_spec_AddI (F_spec_Quotient ⟨1, rfl⟩ ⟨1, rfl⟩) (F_spec_MulI q (F_spec_AddI (F_spec_Quotient ⟨1, rfl⟩ ⟨3, rfl⟩) (F_spec_MulI q (F_spec_AddI (F_spec_Quotient ⟨1, rfl⟩ ⟨5, rfl⟩) (F_spec_MulI q (F_spec_AddI (F_spec_Quotient ⟨1, rfl⟩ ⟨7, rfl⟩) (F_spec_MulI q (F_spec_AddI (F_spec_Quotient ⟨1, rfl⟩ ⟨9, rfl⟩) (F_spec_MulI q (F_spec_Quotient ⟨1, rfl⟩ ⟨11, rfl⟩)))))))))))) ⟨1, rfl⟩)
theorem one_eq : F_spec_Integer ⟨1, rfl⟩ = F_spec_l08One := by
  rw [int_val (by decide)]
  simp only [F_spec_l08One, t_spec_l08One, F_spec_l08At, t_spec_l08At, Tr.get]
  exact (make_ok (by decide)).symm
theorem widen_eq (a : Iv) (n : I64) : F_impl_widened a n = F_spec_l08Widen a n := by
  simp only [F_impl_widened, t_impl_widened, F_spec_l08Widen, t_spec_l08Widen, Tr.get, bounded_eq, valid_eq]
  cases F_spec_l04Ok a <;> simp [ctr, cfl]
theorem logAt_ok (n : I64) : ∃ y, (t_spec_LogAt n).opt = some y ∧ (t_impl_LogAt n).opt = some y := by
  by_cases hn : 1 ≤ n.val ∧ n.val ≤ 1152921504606846976
  · have hi : F_spec_l00In n ⟨1, rfl⟩ ⟨1152921504606846976, rfl⟩ = true := by rw [in_eq]; simpa using hn
    have hv : F_impl_ValidFix n = true := by rw [okfix_eq]; exact ok3 (by omega)
    have hp : decide (n.val ≤ 0) = false := by simp; omega
    obtain ⟨E, a1, a2, a3, a4, a5, a6⟩ := log_up n hn ⟨0, rfl⟩ ⟨0, rfl⟩ 32 37 ⟨0, rfl⟩ rfl (by decide)
    have z1 : shr n ⟨0, rfl⟩ = n := by
      unfold shr
      show Rng.w .i64 (n.val.fdiv (2 ^ 0)) = n
      rw [show (2 : Int) ^ 0 = 1 by rfl, Int.fdiv_one]; exact Rng.w_val _
    have z2 : Rng.w .i64 (0 - (shr (.w .i64 (0 - n.val)) ⟨0, rfl⟩).val) = n := by
      have : shr (.w .i64 (0 - n.val)) ⟨0, rfl⟩ = .w .i64 (0 - n.val) := by
        unfold shr
        show Rng.w .i64 ((Rng.w .i64 (0 - n.val)).val.fdiv (2 ^ 0)) = _
        rw [show (2 : Int) ^ 0 = 1 by rfl, Int.fdiv_one]; exact Rng.w_val _
      rw [this]
      exact rext (by rw [wi (n := 0 - n.val) (by omega) (by omega), wi (by omega) (by omega)]; omega)
    have hf : (32 + 1 + 37 : Nat) = 70 := rfl
    rw [hf, z1, z2] at a3
    rw [hf] at a4
    have g5 : G_spec_LogAt_5 ⟨n, ⟨0, rfl⟩, ⟨0, rfl⟩, ⟨0, rfl⟩, n, n⟩ = true := by unfold G_spec_LogAt_5; rw [a3]; rfl
    have l5 : L_spec_LogAt_5 ⟨n, ⟨0, rfl⟩, ⟨0, rfl⟩, ⟨0, rfl⟩, n, n⟩ = _ := Tr.opt_get a3
    have g2 : G_impl_twosOf_2 ⟨n, ⟨0, rfl⟩⟩ = true := by unfold G_impl_twosOf_2; rw [a4]; rfl
    have l2 : L_impl_twosOf_2 ⟨n, ⟨0, rfl⟩⟩ = _ := Tr.opt_get a4
    by_cases hE : E.val > 0
    · have hge : 3221225472 ≤ (shr n E).val := by
        rcases a6 with h | h
        · rw [h] at hE; exact absurd hE (by decide)
        · exact h
      have hd : decide ((shr n E).val < 3221225472) = false := by simp; omega
      have hd2 : decide (E.val ≤ 0) = false := by simp; omega
      have b3' : ∀ k, (Lf b_spec_LogAt_8 (k + 1) ⟨n, E, ⟨0, rfl⟩, ⟨0, rfl⟩, shr n E, .w .i64 (0 - (shr (.w .i64 (0 - n.val)) E).val)⟩).opt = some ⟨n, E, ⟨0, rfl⟩, ⟨0, rfl⟩, shr n E, .w .i64 (0 - (shr (.w .i64 (0 - n.val)) E).val)⟩ := by
        intro k; simp only [Lf, b_spec_LogAt_8, hd, Tr.bind, Tr.opt, cond_false]
      have b4' : ∀ k, (Lf b_impl_twosOf_4 (k + 1) ⟨n, E⟩).opt = some ⟨n, E⟩ := by intro k; simp only [Lf, b_impl_twosOf_4, hd2, Tr.bind, Tr.opt, cond_false]
      have b3 := b3' 69
      have b4 := b4' 69
      have g8 : G_spec_LogAt_8 ⟨n, E, ⟨0, rfl⟩, ⟨0, rfl⟩, shr n E, .w .i64 (0 - (shr (.w .i64 (0 - n.val)) E).val)⟩ = true := by unfold G_spec_LogAt_8; rw [b3]; rfl
      have l8 : L_spec_LogAt_8 ⟨n, E, ⟨0, rfl⟩, ⟨0, rfl⟩, shr n E, .w .i64 (0 - (shr (.w .i64 (0 - n.val)) E).val)⟩ = _ := Tr.opt_get b3
      have g4 : G_impl_twosOf_4 ⟨n, E⟩ = true := by unfold G_impl_twosOf_4; rw [b4]; rfl
      have l4 : L_impl_twosOf_4 ⟨n, E⟩ = _ := Tr.opt_get b4
      have tw : (t_impl_twosOf n).opt = some E := by simp only [t_impl_twosOf, Tr.opt, g2, l2, g4, l4, cond_true]
      have gt : G_impl_twosOf n = true := by unfold G_impl_twosOf; rw [tw]; rfl
      have ft : F_impl_twosOf n = E := Tr.opt_get tw
      have hpos : decide (E.val > 0) = true := by simpa using hE
      have hng : decide (E.val < 0) = false := by simp; omega
      refine ⟨logTail ⟨shr n E, .w .i64 (0 - (shr (.w .i64 (0 - n.val)) E).val)⟩ E, ?_, ?_⟩
      · simp only [t_spec_LogAt, Tr.opt, hi, g5, l5, g8, l8, Bool.not_true, cond_false, cond_true, logTail]
      · simp only [t_impl_LogAt, Tr.opt, hv, hp, gt, ft, hpos, hng, Bool.not_true, cond_false, cond_true, divI_F, sub_eq, add_eq, integer_eq, one_eq, sqrI_F, mulI_F, quot_eq, widen_eq, log2_eq, logTail]
        rfl
    · have hE0 : E = ⟨0, rfl⟩ := rext (by show E.val = 0; have : (0 : Int) ≤ E.val := a1; omega)
      subst hE0
      rw [z1] at a5
      obtain ⟨E, b1, b2, b3, b4⟩ := log_dn n hn.1 ⟨0, rfl⟩ ⟨0, rfl⟩ 32 37 ⟨0, rfl⟩ rfl (by decide) (by show n.val * 2 ^ 0 < _; rw [show (2 : Int) ^ 0 = 1 by rfl, Int.mul_one]; exact a5)
      have z3 : sl n ⟨0, rfl⟩ = n := by
        unfold sl shl
        show Rng.w .i64 (n.val * 2 ^ 0) = n
        rw [show (2 : Int) ^ 0 = 1 by rfl, Int.mul_one]; exact Rng.w_val _
      rw [hf, z3] at b3
      rw [hf] at b4
      rw [z1, z2] at l5
      have g8 : G_spec_LogAt_8 ⟨n, ⟨0, rfl⟩, ⟨0, rfl⟩, ⟨0, rfl⟩, n, n⟩ = true := by unfold G_spec_LogAt_8; rw [b3]; rfl
      have l8 : L_spec_LogAt_8 ⟨n, ⟨0, rfl⟩, ⟨0, rfl⟩, ⟨0, rfl⟩, n, n⟩ = _ := Tr.opt_get b3
      have g4 : G_impl_twosOf_4 ⟨n, ⟨0, rfl⟩⟩ = true := by unfold G_impl_twosOf_4; rw [b4]; rfl
      have l4 : L_impl_twosOf_4 ⟨n, ⟨0, rfl⟩⟩ = _ := Tr.opt_get b4
      have tw : (t_impl_twosOf n).opt = some E := by simp only [t_impl_twosOf, Tr.opt, g2, l2, g4, l4, cond_true]
      have gt : G_impl_twosOf n = true := by unfold G_impl_twosOf; rw [tw]; rfl
      have ft : F_impl_twosOf n = E := Tr.opt_get tw
      have hb1 : E.val ≤ 0 := b1
      have hpos : decide (E.val > 0) = false := by simp; omega
      have e1 : (Rng.w .i64 (0 - E.val)).val = 0 - E.val := wi (by omega) (by omega)
      have hng : decide ((Rng.w .i64 (0 - E.val)).val < 0) = false := by rw [e1]; simp; omega
      refine ⟨logTail ⟨sl n E, sl n E⟩ E, ?_, ?_⟩
      · simp only [t_spec_LogAt, Tr.opt, hi, g5, l5, g8, l8, Bool.not_true, cond_false, cond_true, logTail]
      · simp only [t_impl_LogAt, Tr.opt, hv, hp, gt, ft, hpos, hng, Bool.not_true, cond_false, cond_true, divI_F, sub_eq, add_eq, integer_eq, one_eq, sqrI_F, mulI_F, quot_eq, widen_eq, log2_eq, logTail]
        rfl
  · have hi : F_spec_l00In n ⟨1, rfl⟩ ⟨1152921504606846976, rfl⟩ = false := by rw [in_eq]; simpa using hn
    refine ⟨F_spec_l04Whole, by simp only [t_spec_LogAt, Tr.opt, hi, Bool.not_false, cond_true], ?_⟩
    simp only [t_impl_LogAt, Tr.opt, okfix_eq, whole_eq]
    cases hv : F_spec_l03Ok n
    · simp only [Bool.not_false, cond_true]
    · have := ok_bd hv
      have hp : decide (n.val ≤ 0) = true := by simp; omega
      simp only [Bool.not_true, cond_false, hp, cond_true]
theorem tt_logAt_spec (n : I64) : (t_spec_LogAt n).opt = some (F_spec_LogAt n) := by obtain ⟨x, h1, _⟩ := logAt_ok n; exact opt_self h1
theorem tt_logAt_impl (n : I64) : (t_impl_LogAt n).opt = some (F_impl_LogAt n) := by obtain ⟨x, _, h1⟩ := logAt_ok n; exact opt_self h1
theorem logAt_eq (n : I64) : F_impl_LogAt n = F_spec_LogAt n := by
  obtain ⟨x, h1, h2⟩ := logAt_ok n
  exact (Tr.opt_get h2).trans (Tr.opt_get h1).symm
end Go.Proofs.YtecfhpgpojgjkaaGreat.Ev
