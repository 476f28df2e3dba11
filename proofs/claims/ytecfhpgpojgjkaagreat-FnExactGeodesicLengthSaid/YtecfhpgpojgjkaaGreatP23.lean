/-
  Plain laws: the tangents of an interval.
-/
import Derived.Test.YtecfhpgpojgjkaaGreatPI
import Derived.Test.YtecfhpgpojgjkaaGreatP15
import Derived.Test.YtecfhpgpojgjkaaGreatP17
namespace Go.Proofs.YtecfhpgpojgjkaaGreat.Ev
open Go
set_option linter.unusedSimpArgs false
set_option linter.unusedVariables false

theorem tan_loop (x : Iv) (p q : I64) (hk1 : (k1 x).val ≤ 4000) : ∀ (n : Nat) (k : I64), 1 ≤ n → (k1 x).val - k.val + 1 < n → -5000 ≤ k.val →
    ∃ k', (Lf2 b_spec_TanI_4 n ⟨k, x.lo, x.hi, p, q⟩).opt = some ⟨(keepF x n k).any odd1, ⟨k', x.lo, x.hi, bif (keepF x n k).any odd1 then F_spec_Whole.lo else p, bif (keepF x n k).any odd1 then F_spec_Whole.hi else q⟩⟩ := by
  intro n
  induction n with
  | zero => intro k h; omega
  | succ n ih =>
    intro k _ hn hlow
    have ek1 : (Rng.w .i64 ((F_spec_QuarterOf x.hi).val + 1)) = k1 x := by unfold k1; rw [quarter_eq]
    by_cases hk : k.val ≤ (k1 x).val
    · have ev : (Rng.w .i64 (k.val + 1)).val = k.val + 1 := wi (by omega) (by omega)
      have ihk := ih (.w .i64 (k.val + 1)) (by omega) (by rw [ev]; omega) (by rw [ev]; omega)
      have hd : decide (k.val ≤ (k1 x).val) = true := by simpa using hk
      have hx : (⟨x.lo, x.hi⟩ : Iv) = x := rfl
      simp only [Lf2, b_spec_TanI_4, ek1, hd, cond_true, Tr.bind, Tr.opt, keepF, overlap_eq, turnI_eq, hx]
      cases hodd : (Rng.w .i64 (bitop .and .i64 k.val 1)).val == 1
      · have ho : odd1 k = false := hodd
        simp only [cond_false]
        cases hov : F_spec_OverlapI (F_spec_TurnI k) x
        · simp only [cond_false]; exact ihk
        · simp only [cond_true, List.any_cons, ho, Bool.false_or]; exact ihk
      · have ho : odd1 k = true := hodd
        simp only [cond_true]
        cases hov : F_spec_OverlapI (F_spec_TurnI k) x
        · simp only [cond_false]; exact ihk
        · exact ⟨k, by simp only [cond_true, List.any_cons, ho, Bool.true_or]⟩
    · have hd : decide (k.val ≤ (k1 x).val) = false := by simpa using hk
      exact ⟨k, by simp only [Lf2, b_spec_TanI_4, ek1, hd, cond_false, Tr.bind, Tr.opt, keepF, List.any_nil]⟩
theorem tan_ok (x : Iv) : (t_spec_TanI x).opt = some (F_impl_TanI x) := by
  have hb := k_bd x
  simp only [t_spec_TanI, Tr.opt, F_impl_TanI, fits_eq]
  cases F_spec_l06Fits x
  · simp only [Bool.not_false, cond_true]
    rw [whole_eq, sWhole_eq]
  simp only [Bool.not_true, cond_false]
  have ek0 : (Rng.w .i64 ((F_spec_QuarterOf x.lo).val - 1)) = k0 x := by unfold k0; rw [quarter_eq]
  rw [ek0]
  obtain ⟨k', h⟩ := tan_loop x ⟨0, rfl⟩ ⟨0, rfl⟩ (by omega) 1000 (k0 x) (by decide) (by omega) (by omega)
  have g : G_spec_TanI_4 ⟨k0 x, x.lo, x.hi, ⟨0, rfl⟩, ⟨0, rfl⟩⟩ = true := by unfold G_spec_TanI_4; rw [h]; rfl
  have l : L_spec_TanI_4 ⟨k0 x, x.lo, x.hi, ⟨0, rfl⟩, ⟨0, rfl⟩⟩ = _ := Tr.opt_get h
  rw [g, l]
  simp only [cond_true]
  cases (keepF x 1000 (k0 x)).any odd1
  · simp only [cond_false, endN, hull_eq, divI_F, sinAt_eq, cosAt_eq]
  · simp only [cond_true]
    rw [whole_eq, ← sWhole_eq]
theorem tanI_eq (x : Iv) : F_impl_TanI x = F_spec_TanI x := (Tr.opt_get (tan_ok x)).symm
theorem tt_tan_spec (x : Iv) : (t_spec_TanI x).opt = some (F_spec_TanI x) := opt_self (tan_ok x)
end Go.Proofs.YtecfhpgpojgjkaaGreat.Ev
