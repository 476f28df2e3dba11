/-
  Plain laws: the sines of an interval.
-/
import Derived.Test.YtecfhpgpojgjkaaGreatPT
namespace Go.Proofs.YtecfhpgpojgjkaaGreat.Ev
open Go
set_option linter.unusedSimpArgs false
set_option linter.unusedVariables false

theorem at_eq (n : I64) : F_impl_at n = F_spec_l05At n := rfl
theorem meet_sin (x : Iv) : F_impl_inRing (F_spec_SinSeries x) = F_spec_l06Meet (F_spec_SinSeries x) := (near_sin x).meet
theorem meet_cos (x : Iv) : F_impl_inRing (F_spec_CosSeries x) = F_spec_l06Meet (F_spec_CosSeries x) := (near_cos x).meet
theorem meet_nsin (x : Iv) : F_impl_inRing (F_spec_NegI (F_spec_SinSeries x)) = F_spec_l06Meet (F_spec_NegI (F_spec_SinSeries x)) := (near_sin x).neg.meet
theorem meet_ncos (x : Iv) : F_impl_inRing (F_spec_NegI (F_spec_CosSeries x)) = F_spec_l06Meet (F_spec_NegI (F_spec_CosSeries x)) := (near_cos x).neg.meet
theorem circle_eq (n t : I64) : F_impl_circleValue n t = F_spec_l06At n t := by
  simp only [F_impl_circleValue, t_impl_circleValue, F_spec_l06At, t_spec_l06At, Tr.get, angle_eq, ring_eq, quarter_eq, sub_eq, turnI_eq, at_eq, sin_eq, cos_eq, neg_eq, meet_sin, meet_cos, meet_nsin, meet_ncos]
theorem over_loop (x : Iv) (t y4 y5 : I64) (hk1 : (k1 x).val ≤ 4000) : ∀ (n : Nat) (k : I64) (o : Iv), 1 ≤ n → (k1 x).val - k.val + 1 < n → -5000 ≤ k.val →
    ∃ k', (Lf b_spec_l06Over_5 n ⟨t, k, x.lo, x.hi, y4, y5, o.lo, o.hi⟩).opt = some ⟨t, k', x.lo, x.hi, y4, y5, (hullF t (keepF x n k) o).lo, (hullF t (keepF x n k) o).hi⟩ := by
  intro n
  induction n with
  | zero => intro k o h; omega
  | succ n ih =>
    intro k o _ hn hlow
    have ek1 : (Rng.w .i64 ((F_spec_QuarterOf x.hi).val + 1)) = k1 x := by unfold k1; rw [quarter_eq]
    by_cases hk : k.val ≤ (k1 x).val
    · have ev : (Rng.w .i64 (k.val + 1)).val = k.val + 1 := wi (by omega) (by omega)
      have ihk := fun o => ih (.w .i64 (k.val + 1)) o (by omega) (by rw [ev]; omega) (by rw [ev]; omega)
      have hd : decide (k.val ≤ (k1 x).val) = true := by simpa using hk
      simp only [Lf, b_spec_l06Over_5, ek1, hd, cond_true, Tr.bind, Tr.opt, keepF, overlap_eq, turnI_eq]
      cases hov : F_spec_OverlapI (F_spec_TurnI k) x
      · have hov' : F_spec_OverlapI (F_spec_TurnI k) ⟨x.lo, x.hi⟩ = false := hov
        simp only [hov', Bool.not_false, cond_true, cond_false]
        exact ihk o
      · have hov' : F_spec_OverlapI (F_spec_TurnI k) ⟨x.lo, x.hi⟩ = true := hov
        simp only [hov', Bool.not_true, cond_false, cond_true, hullF, turn4, hull_eq, integer_eq]
        cases ((Rng.w .i64 (bitop .and .i64 (Rng.w .i64 (k.val + t.val)).val 3)).val == 1)
        · simp only [cond_false]
          cases ((Rng.w .i64 (bitop .and .i64 (Rng.w .i64 (k.val + t.val)).val 3)).val == 3)
          · exact ihk o
          · exact ihk _
        · exact ihk _
    · have hd : decide (k.val ≤ (k1 x).val) = false := by simpa using hk
      refine ⟨k, ?_⟩
      simp only [Lf, b_spec_l06Over_5, ek1, hd, cond_false, Tr.bind, Tr.opt, keepF, hullF]
theorem over_ok (x : Iv) (t : I64) : (t_spec_l06Over x t).opt = some (F_impl_circleHull x t) := by
  have hb := k_bd x
  simp only [t_spec_l06Over, Tr.opt, F_impl_circleHull, fits_eq]
  cases F_spec_l06Fits x
  · rfl
  simp only [Bool.not_true, cond_false]
  have ek0 : (Rng.w .i64 ((F_spec_QuarterOf x.lo).val - 1)) = k0 x := by unfold k0; rw [quarter_eq]
  have eo : F_spec_HullI (F_spec_l06At x.lo t) (F_spec_l06At x.hi t) = o0 x t := by unfold o0; rw [hull_eq, circle_eq, circle_eq]
  rw [ek0, eo]
  obtain ⟨k', h⟩ := over_loop x t ⟨0, rfl⟩ ⟨0, rfl⟩ (by omega) 1000 (k0 x) (o0 x t) (by decide) (by omega) (by omega)
  have g : G_spec_l06Over_5 ⟨t, k0 x, x.lo, x.hi, ⟨0, rfl⟩, ⟨0, rfl⟩, (o0 x t).lo, (o0 x t).hi⟩ = true := by unfold G_spec_l06Over_5; rw [h]; rfl
  have l : L_spec_l06Over_5 ⟨t, k0 x, x.lo, x.hi, ⟨0, rfl⟩, ⟨0, rfl⟩, (o0 x t).lo, (o0 x t).hi⟩ = _ := Tr.opt_get h
  rw [g, l]; rfl
theorem over_eq (x : Iv) (t : I64) : F_impl_circleHull x t = F_spec_l06Over x t := (Tr.opt_get (over_ok x t)).symm
theorem tt_over_spec (x : Iv) (t : I64) : (t_spec_l06Over x t).opt = some (F_spec_l06Over x t) := opt_self (over_ok x t)
end Go.Proofs.YtecfhpgpojgjkaaGreat.Ev
