/-
  Plain laws: geodesics: steps of omega.
-/
import Derived.Test.YtecfhpgpojgjkaaGreatP27
import Derived.Test.YtecfhpgpojgjkaaGreatWJ
namespace Go.Proofs.YtecfhpgpojgjkaaGreat.Ev
open Go
set_option linter.unusedSimpArgs false
set_option linter.unusedVariables false

/-! ### what comes of what is not bounded -/
def No (a : Iv) : Prop := F_spec_l04Ok a = false
theorem no_whole : No F_spec_l04Whole := whole_no
theorem no_cond {c : Bool} {a b : Iv} (ha : No a) (hb : No b) : No (bif c then a else b) := by cases c <;> assumption
theorem mul_no {a b : Iv} (h : No a ∨ No b) : No (F_spec_MulI a b) := by
  unfold No at h
  simp only [F_spec_MulI, t_spec_MulI, Tr.get]
  rcases h with h | h
  · simp only [h, Bool.not_false, ctr]; exact no_whole
  · cases F_spec_l04Ok a
    · simp only [Bool.not_false, ctr]; exact no_whole
    · simp only [h, Bool.not_false, Bool.not_true, ctr, cfl]; exact no_whole
theorem add_no {a b : Iv} (h : No a ∨ No b) : No (F_spec_AddI a b) := by
  unfold No at h
  simp only [F_spec_AddI, t_spec_AddI, Tr.get]
  rcases h with h | h
  · simp only [h, Bool.not_false, ctr]; exact no_whole
  · cases F_spec_l04Ok a
    · simp only [Bool.not_false, ctr]; exact no_whole
    · simp only [h, Bool.not_false, Bool.not_true, ctr, cfl]; exact no_whole
theorem sub_no {a b : Iv} (h : No a ∨ No b) : No (F_spec_SubI a b) := by
  unfold No at h
  simp only [F_spec_SubI, t_spec_SubI, Tr.get]
  rcases h with h | h
  · simp only [h, Bool.not_false, ctr]; exact no_whole
  · cases F_spec_l04Ok a
    · simp only [Bool.not_false, ctr]; exact no_whole
    · simp only [h, Bool.not_false, Bool.not_true, ctr, cfl]; exact no_whole
theorem min_no {a b : Iv} (h : No a) : No (F_spec_MinI a b) := by
  unfold No at h
  simp only [F_spec_MinI, t_spec_MinI, Tr.get, h, Bool.not_false, ctr]; exact no_whole
theorem sqr_no {a : Iv} (h : No a) : No (F_spec_SqrI a) := by
  unfold No at h
  simp only [F_spec_SqrI, t_spec_SqrI, Tr.get, h, Bool.not_false, ctr]; exact no_whole
theorem sqrt_no {a : Iv} (h : No a) : No (F_spec_SqrtI a) := by
  unfold No at h
  simp only [F_spec_SqrtI, t_spec_SqrtI, Tr.get, h, Bool.not_false, ctr]; exact no_whole
theorem div_no {a b : Iv} (h : No b) : No (F_spec_DivI a b) := by
  unfold No at h
  simp only [F_spec_DivI, t_spec_DivI, Tr.get]
  cases F_spec_l04Ok a
  · simp only [Bool.not_false, ctr]; exact no_whole
  · simp only [h, Bool.not_false, Bool.not_true, ctr, cfl]; exact no_whole
theorem Norm.whole {a : Iv} (h : Norm a) (hn : No a) : a = F_spec_l04Whole := by
  unfold No at hn
  rcases h with h | h
  · rw [hn] at h; cases h
  · exact h

/-! ### sums over the pieces -/
def iterS {A : Type} (step : I64 → A → A) : Nat → I64 → A → A
  | 0, _, a => a
  | n + 1, k, a => iterS step n (.w .i64 (k.val + 1)) (step k a)
theorem sum_loop {S A : Type} (b : S → Tr (Lp S)) (emb : I64 → A → S) (N : I64) (step : I64 → A → A) (hN : N.val ≤ 64)
    (hb : ∀ (k : I64) (a : A), 0 ≤ k.val → (b (emb k a)).opt = some (bif decide (k.val < N.val) then .again (emb (.w .i64 (k.val + 1)) (step k a)) else .out (emb k a))) :
    ∀ (n m : Nat) (k : I64) (a : A), 0 ≤ k.val → k.val + n = N.val → ∃ k', (Lf b (n + 1 + m) (emb k a)).opt = some (emb k' (iterS step n k a)) := by
  intro n
  induction n with
  | zero =>
    intro m k a h0 hk
    have hd : decide (k.val < N.val) = false := by simp; omega
    rw [show 0 + 1 + m = m + 1 by omega]
    refine ⟨k, ?_⟩
    simp only [Lf, Tr.opt_bind, hb k a h0, hd, cond_false, Tr.opt, iterS]
  | succ n ih =>
    intro m k a h0 hk
    have hd : decide (k.val < N.val) = true := by simp; omega
    have e1 : (Rng.w .i64 (k.val + 1)).val = k.val + 1 := wi (by omega) (by omega)
    rw [show n + 1 + 1 + m = (n + 1 + m) + 1 by omega]
    obtain ⟨k', h⟩ := ih m (.w .i64 (k.val + 1)) (step k a) (by omega) (by omega)
    refine ⟨k', ?_⟩
    simp only [Lf, Tr.opt_bind, hb k a h0, hd, cond_true, iterS]
    exact h
end Go.Proofs.YtecfhpgpojgjkaaGreat.Ev
