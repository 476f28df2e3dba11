/-
  Plain laws: the arc tangent of a fix.
-/
import Derived.Test.YtecfhpgpojgjkaaGreatW5
namespace Go.Proofs.YtecfhpgpojgjkaaGreat.Ev
open Go
set_option linter.unusedSimpArgs false
set_option linter.unusedVariables false

theorem quot_eq (a b : I64) : F_impl_Quotient a b = F_spec_Quotient a b := (q_F_impl a b).trans (q_F_spec a b).symm
theorem radians_eq (n : I64) : F_impl_RadiansOf n = F_spec_RadiansOf n := by
  have h := rad_eq n
  have h2 := tt_rad_spec n
  have h1 := tt_rad_impl n
  rw [h.1, h2] at h1
  exact (Option.some.inj h1).symm
theorem cosI_eq (x : Iv) : F_impl_CosI x = F_spec_CosI x := by simp only [F_impl_CosI, t_impl_CosI, F_spec_CosI, t_spec_CosI, Tr.get, over_eq]
theorem sinI_eq (x : Iv) : F_impl_SinI x = F_spec_SinI x := by simp only [F_impl_SinI, t_impl_SinI, F_spec_SinI, t_spec_SinI, Tr.get, over_eq]
theorem double_eq (a : Iv) : F_impl_DoubleI a = F_spec_DoubleI a := by
  simp only [F_impl_DoubleI, t_impl_DoubleI, F_spec_DoubleI, t_spec_DoubleI, Tr.get, add_eq, F_spec_AddI, t_spec_AddI]
  cases F_spec_l04Ok a
  · rfl
  simp only [Bool.not_true, cond_false]
  have e1 : a.lo.val + a.lo.val = 2 * a.lo.val := by omega
  have e2 : a.hi.val + a.hi.val = 2 * a.hi.val := by omega
  rw [e1, e2]
theorem halve_eq (a : Iv) : F_impl_halved a = F_spec_l07Halve a := by
  simp only [F_impl_halved, t_impl_halved, F_spec_l07Halve, t_spec_l07Halve, Tr.get, add_eq, divI_F, integer_eq, sqrtI_eq, sqrI_F]
theorem arcs_eq (a : Iv) : F_impl_ArcSeries a = F_spec_ArcSeries a := by
  simp only [F_impl_ArcSeries, t_impl_ArcSeries, F_spec_ArcSeries, t_spec_ArcSeries, Tr.get, add_eq, sub_eq, mulI_F, sqrI_F, quot_eq, tiny_eq, inside_eq, whole_eq, sWhole_eq]
theorem core_eq (a : Iv) : F_impl_fourfold a = F_spec_l07Core a := by
  simp only [F_impl_fourfold, t_impl_fourfold, F_spec_l07Core, t_spec_l07Core, Tr.get, double_eq, arcs_eq, halve_eq]
theorem fix_eq (n : I64) : F_impl_isOpen n = F_spec_l07Fix n := rfl
theorem fix_iff (n : I64) : F_spec_l07Fix n = true ↔ (-1152921504606846976 < n.val ∧ n.val < 1152921504606846976) := by
  simp only [F_spec_l07Fix, t_spec_l07Fix, Tr.get]
  by_cases h1 : (-1152921504606846976 : Int) < n.val <;> simp [h1]
theorem turn_in {k : I64} (h : -4096 ≤ k.val) (h' : k.val ≤ 4096) : G_spec_l05Turn k = true ∧ F_spec_TurnI k = F_spec_l05Turn k := by
  obtain ⟨x, h1, h2, h3⟩ := turn_ok k h h'
  have g : G_spec_l05Turn k = true := by unfold G_spec_l05Turn; rw [h1]; rfl
  have hi : F_spec_l00In k ⟨(-4096), rfl⟩ ⟨4096, rfl⟩ = true := by rw [in_eq]; simpa using ⟨h, h'⟩
  exact ⟨g, by simp only [F_spec_TurnI, t_spec_TurnI, Tr.get, hi, g, Bool.not_true, cond_false, cond_true]⟩
theorem half_eq : F_impl_halfCircle = F_spec_l07Quarter := by
  obtain ⟨g, e⟩ := turn_in (k := ⟨1, rfl⟩) (by decide) (by decide)
  simp only [F_impl_halfCircle, t_impl_halfCircle, F_spec_l07Quarter, t_spec_l07Quarter, Tr.get, turnI_eq, e, g, cond_true]
theorem atanp_ok (n : I64) (h : ¬ n.val < 0) : (t_spec_AtanAt_p n).opt = some (F_spec_AtanAt_p n) ∧ (t_impl_AtanAt_p n).opt = some (F_spec_AtanAt_p n) := by
  have hn : decide (n.val < 0) = false := by simpa using h
  simp only [t_spec_AtanAt_p, t_impl_AtanAt_p, F_spec_AtanAt_p, Tr.opt, Tr.get, hn, cond_false, fix_eq, half_eq, sub_eq, turnI_eq, core_eq, divI_F, integer_eq, at_eq]
  cases F_spec_l07Fix n <;> cases decide (n.val > 4294967296) <;> exact ⟨rfl, rfl⟩
theorem atan_ok (n : I64) : ∃ x, (t_spec_AtanAt n).opt = some x ∧ (t_impl_AtanAt n).opt = some x := by
  simp only [t_spec_AtanAt, t_impl_AtanAt, Tr.opt, fix_eq, half_eq, sub_eq, turnI_eq, core_eq, divI_F, integer_eq, at_eq]
  cases hf : F_spec_l07Fix n
  · exact ⟨_, rfl, rfl⟩
  have hb := (fix_iff n).1 hf
  by_cases hn : n.val < 0
  · have e1 : (Rng.w .i64 (0 - n.val)).val = 0 - n.val := wi (by omega) (by omega)
    obtain ⟨a1, a2⟩ := atanp_ok (.w .i64 (0 - n.val)) (by omega)
    have g1 : G_spec_AtanAt_p (.w .i64 (0 - n.val)) = true := by unfold G_spec_AtanAt_p; rw [a1]; rfl
    have g2 : G_impl_AtanAt_p (.w .i64 (0 - n.val)) = true := by unfold G_impl_AtanAt_p; rw [a2]; rfl
    have f2 : F_impl_AtanAt_p (.w .i64 (0 - n.val)) = F_spec_AtanAt_p (.w .i64 (0 - n.val)) := Tr.opt_get a2
    simp only [hn, decide_true, cond_true, g1, g2, f2, neg_eq, Bool.not_true, cond_false]
    exact ⟨_, rfl, rfl⟩
  · simp only [hn, decide_false, cond_false, Bool.not_true]
    cases decide (n.val > 4294967296) <;> exact ⟨_, rfl, rfl⟩
theorem atan_eq (n : I64) : F_impl_AtanAt n = F_spec_AtanAt n := by
  obtain ⟨x, h1, h2⟩ := atan_ok n
  exact (Tr.opt_get h2).trans (Tr.opt_get h1).symm
theorem tt_atan_spec (n : I64) : (t_spec_AtanAt n).opt = some (F_spec_AtanAt n) := by obtain ⟨x, h1, _⟩ := atan_ok n; exact opt_self h1
theorem tt_atan_impl (n : I64) : (t_impl_AtanAt n).opt = some (F_impl_AtanAt n) := by obtain ⟨x, _, h1⟩ := atan_ok n; exact opt_self h1
/-! ### multiples of the logarithm of 2 -/
theorem log_lo {k : I64} (h : 0 ≤ k.val) (h' : k.val ≤ 64) : F_spec_MulFloor k ⟨1598288580650331957, rfl⟩ ⟨29, rfl⟩ = ⟨.w .i64 (k.val * 1598288580650331957 / 536870912), true⟩ ∧
    F_spec_MulFloor (.w .i64 (0 - k.val)) ⟨1598288580650331958, rfl⟩ ⟨29, rfl⟩ = ⟨.w .i64 ((0 - k.val) * 1598288580650331958 / 536870912), true⟩ ∧
    0 ≤ k.val * 1598288580650331957 / 536870912 ∧ k.val * 1598288580650331957 / 536870912 ≤ -((0 - k.val) * 1598288580650331958 / 536870912) ∧ -((0 - k.val) * 1598288580650331958 / 536870912) ≤ 200000000000 := by
  have hb : 0 ≤ k.val * 1598288580650331957 / 536870912 ∧ k.val * 1598288580650331957 / 536870912 ≤ -((0 - k.val) * 1598288580650331958 / 536870912) ∧ -((0 - k.val) * 1598288580650331958 / 536870912) ≤ 200000000000 := by omega
  have en : (Rng.w .i64 (0 - k.val)).val = 0 - k.val := wi (by omega) (by omega)
  refine ⟨?_, ?_, hb⟩
  · rw [mf29]; exact narrow_ok (v := k.val * 1598288580650331957 / 536870912) (by omega) (by omega)
  · rw [mf29, en]; exact narrow_ok (v := (0 - k.val) * 1598288580650331958 / 536870912) (by omega) (by omega)
theorem logp (k : I64) (h : 0 ≤ k.val) (h' : k.val ≤ 64) : ∃ x : Iv, (t_spec_LogTwoI_p k).opt = some x ∧ (t_impl_LogTwoI_p k).opt = some x ∧ F_spec_l04Ok x = true := by
  have hw : F_impl_within k ⟨(-64), rfl⟩ ⟨64, rfl⟩ = true := by rw [within_eq]; simp; omega
  have hi : F_spec_l00In k ⟨(-64), rfl⟩ ⟨64, rfl⟩ = true := by rw [in_eq]; simp; omega
  have hn : decide (k.val < 0) = false := by simp; omega
  obtain ⟨e1, e2, b1, b2, b3⟩ := log_lo h h'
  have v1 : (Rng.w .i64 (k.val * 1598288580650331957 / 536870912)).val = k.val * 1598288580650331957 / 536870912 := wi (by omega) (by omega)
  have v2 : (Rng.w .i64 ((0 - k.val) * 1598288580650331958 / 536870912)).val = (0 - k.val) * 1598288580650331958 / 536870912 := wi (by omega) (by omega)
  have v3 : (Rng.w .i64 (0 - (0 - k.val) * 1598288580650331958 / 536870912)).val = 0 - (0 - k.val) * 1598288580650331958 / 536870912 := wi (by omega) (by omega)
  have hok : -1152921504606846976 < (Rng.w .i64 (k.val * 1598288580650331957 / 536870912)).val ∧ (Rng.w .i64 (k.val * 1598288580650331957 / 536870912)).val ≤ (Rng.w .i64 (0 - (Rng.w .i64 ((0 - k.val) * 1598288580650331958 / 536870912)).val)).val ∧ (Rng.w .i64 (0 - (Rng.w .i64 ((0 - k.val) * 1598288580650331958 / 536870912)).val)).val < 1152921504606846976 := by
    rw [v1, v2, v3]; omega
  refine ⟨⟨.w .i64 (k.val * 1598288580650331957 / 536870912), .w .i64 (0 - (Rng.w .i64 ((0 - k.val) * 1598288580650331958 / 536870912)).val)⟩, ?_, ?_, (okiff _).2 hok⟩
  · simp only [t_spec_LogTwoI_p, Tr.opt, hi, hn, Bool.not_true, cond_false, e1, e2]
    rw [make_ok hok]
  · simp only [t_impl_LogTwoI_p, Tr.opt, hw, hn, Bool.not_true, cond_false, mulfloor_F, e1, e2]
theorem logTwo_ok (k : I64) : ∃ x : Iv, (t_spec_LogTwoI k).opt = some x ∧ (t_impl_LogTwoI k).opt = some x := by
  by_cases h : -64 ≤ k.val ∧ k.val ≤ 64
  · have hw : F_impl_within k ⟨(-64), rfl⟩ ⟨64, rfl⟩ = true := by rw [within_eq]; simpa using h
    have hi : F_spec_l00In k ⟨(-64), rfl⟩ ⟨64, rfl⟩ = true := by rw [in_eq]; simpa using h
    by_cases hn : k.val < 0
    · have e1 : (Rng.w .i64 (0 - k.val)).val = 0 - k.val := wi (by omega) (by omega)
      obtain ⟨x, h1, h2, h3⟩ := logp (.w .i64 (0 - k.val)) (by omega) (by omega)
      have g1 : G_spec_LogTwoI_p (.w .i64 (0 - k.val)) = true := by unfold G_spec_LogTwoI_p; rw [h1]; rfl
      have g2 : G_impl_LogTwoI_p (.w .i64 (0 - k.val)) = true := by unfold G_impl_LogTwoI_p; rw [h2]; rfl
      have f1 : F_spec_LogTwoI_p (.w .i64 (0 - k.val)) = x := Tr.opt_get h1
      have f2 : F_impl_LogTwoI_p (.w .i64 (0 - k.val)) = x := Tr.opt_get h2
      have hd : decide (k.val < 0) = true := by simpa using hn
      exact ⟨F_spec_NegI x, by simp only [t_spec_LogTwoI, Tr.opt, hi, hd, g1, f1, cond_true, cond_false, Bool.not_true], by simp only [t_impl_LogTwoI, Tr.opt, hw, hd, g2, f2, cond_true, cond_false, Bool.not_true, neg_eq]⟩
    · obtain ⟨x, h1, h2, h3⟩ := logp k (by omega) (by omega)
      have hd : decide (k.val < 0) = false := by simpa using hn
      refine ⟨x, ?_, ?_⟩
      · simp only [t_spec_LogTwoI_p, Tr.opt, hd] at h1
        simp only [t_spec_LogTwoI, Tr.opt, hd]
        exact h1
      · simp only [t_impl_LogTwoI_p, Tr.opt, hd, hw] at h2
        simp only [t_impl_LogTwoI, Tr.opt, hd, hw]
        exact h2
  · have hi : F_spec_l00In k ⟨(-64), rfl⟩ ⟨64, rfl⟩ = false := by rw [in_eq]; simpa using h
    have hw : F_impl_within k ⟨(-64), rfl⟩ ⟨64, rfl⟩ = false := by rw [within_eq]; simpa using h
    exact ⟨F_spec_l04Whole, by simp only [t_spec_LogTwoI, Tr.opt, hi, Bool.not_false, cond_true], by simp only [t_impl_LogTwoI, Tr.opt, hw, Bool.not_false, cond_true, whole_eq]⟩
theorem tt_log2_spec (k : I64) : (t_spec_LogTwoI k).opt = some (F_spec_LogTwoI k) := by obtain ⟨x, h1, _⟩ := logTwo_ok k; exact opt_self h1
theorem tt_log2_impl (k : I64) : (t_impl_LogTwoI k).opt = some (F_impl_LogTwoI k) := by obtain ⟨x, _, h1⟩ := logTwo_ok k; exact opt_self h1
theorem log2_eq (k : I64) : F_impl_LogTwoI k = F_spec_LogTwoI k := by
  obtain ⟨x, h1, h2⟩ := logTwo_ok k
  exact (Tr.opt_get h2).trans (Tr.opt_get h1).symm
end Go.Proofs.YtecfhpgpojgjkaaGreat.Ev
