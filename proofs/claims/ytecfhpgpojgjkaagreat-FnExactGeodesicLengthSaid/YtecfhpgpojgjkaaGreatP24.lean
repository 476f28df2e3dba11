/-
  Plain laws: inverse hyperbolic sines, hyperbolic sines, arcs of the meridian.
-/
import Derived.Test.YtecfhpgpojgjkaaGreatP23
import Derived.Test.YtecfhpgpojgjkaaGreatWF
namespace Go.Proofs.YtecfhpgpojgjkaaGreat.Ev
open Go
set_option linter.unusedSimpArgs false
set_option linter.unusedVariables false

theorem asinhp (n : I64) (h : 0 ≤ n.val ∧ n.val < 1152921504606846976) : (t_spec_l08Asinh_p n).opt = some (F_impl_AsinhI_1 n) := by
  have hn : decide (n.val < 0) = false := by simp; omega
  simp only [t_spec_l08Asinh_p, Tr.opt, F_impl_AsinhI_1, t_impl_AsinhI_1, Tr.get, hn, cond_false, logI_eq, logAt_eq, log2_eq, add_eq, sqrtI_eq, sqrI_F, integer_eq, one_eq, at_eq]
  rw [l08At_eq (n := n) (by omega)]
  cases decide (n.val ≤ 35184372088832) <;> rfl
theorem asinh_n (n : I64) (h : -1152921504606846976 < n.val ∧ n.val < 1152921504606846976) : (t_spec_l08Asinh n).opt = some (F_impl_odd_1_AsinhI n ⟨⟩) := by
  by_cases hn : n.val < 0
  · have e1 : (Rng.w .i64 (0 - n.val)).val = 0 - n.val := wi (by omega) (by omega)
    have a1 := asinhp (.w .i64 (0 - n.val)) (by omega)
    have g1 : G_spec_l08Asinh_p (.w .i64 (0 - n.val)) = true := by unfold G_spec_l08Asinh_p; rw [a1]; rfl
    have f1 : F_spec_l08Asinh_p (.w .i64 (0 - n.val)) = _ := Tr.opt_get a1
    have hd : decide (n.val < 0) = true := by simpa using hn
    simp only [t_spec_l08Asinh, Tr.opt, F_impl_odd_1_AsinhI, t_impl_odd_1_AsinhI, Tr.get, hd, cond_true, g1, f1, neg_eq]
  · have a1 := asinhp n (by omega)
    have hd : decide (n.val < 0) = false := by simpa using hn
    simp only [t_spec_l08Asinh_p, Tr.opt, hd, cond_false] at a1
    simp only [t_spec_l08Asinh, Tr.opt, F_impl_odd_1_AsinhI, t_impl_odd_1_AsinhI, Tr.get, hd, cond_false]
    exact a1
theorem asinh_ok (x : Iv) : ∃ y, (t_spec_AsinhI x).opt = some y ∧ (t_impl_AsinhI x).opt = some y := by
  simp only [t_spec_AsinhI, t_impl_AsinhI, Tr.opt, isw_eq, areb_eq, whole_eq, bounded_eq]
  cases h : F_spec_l04Ok x
  · exact ⟨_, rfl, rfl⟩
  have hb := (okiff x).1 h
  have a1 := asinh_n x.lo (by omega)
  have a2 := asinh_n x.hi (by omega)
  have g1 : G_spec_l08Asinh x.lo = true := by unfold G_spec_l08Asinh; rw [a1]; rfl
  have g2 : G_spec_l08Asinh x.hi = true := by unfold G_spec_l08Asinh; rw [a2]; rfl
  have f1 : F_spec_l08Asinh x.lo = _ := Tr.opt_get a1
  have f2 : F_spec_l08Asinh x.hi = _ := Tr.opt_get a2
  simp only [Bool.not_true, cond_false, cond_true, g1, g2, f1, f2, F_spec_l08Ends, t_spec_l08Ends, Tr.get]
  cases F_spec_l04Ok (F_impl_odd_1_AsinhI x.lo ⟨⟩) <;> cases F_spec_l04Ok (F_impl_odd_1_AsinhI x.hi ⟨⟩) <;> exact ⟨_, rfl, rfl⟩
theorem asinhI_eq (x : Iv) : F_impl_AsinhI x = F_spec_AsinhI x := by
  obtain ⟨y, h1, h2⟩ := asinh_ok x
  exact (Tr.opt_get h2).trans (Tr.opt_get h1).symm
theorem tt_asinh_spec (x : Iv) : (t_spec_AsinhI x).opt = some (F_spec_AsinhI x) := by obtain ⟨y, h1, _⟩ := asinh_ok x; exact opt_self h1
theorem tt_asinh_impl (x : Iv) : (t_impl_AsinhI x).opt = some (F_impl_AsinhI x) := by obtain ⟨y, _, h1⟩ := asinh_ok x; exact opt_self h1
theorem sinhI_eq (x : Iv) : F_impl_SinhI x = F_spec_SinhI x := by
  simp only [F_impl_SinhI, t_impl_SinhI, F_spec_SinhI, t_spec_SinhI, Tr.get, isw_eq, areb_eq, whole_eq, bounded_eq, ctr, ends8, F_impl_SinhI_1, t_impl_SinhI_1, F_spec_l08Sinh, t_spec_l08Sinh, expAt_eq, halfI_eq, sub_eq]

/-! ### what is not bounded is whole -/
def Norm (a : Iv) : Prop := F_spec_l04Ok a = true ∨ a = F_spec_l04Whole
theorem norm_whole : Norm F_spec_l04Whole := .inr rfl
theorem norm_make (lo hi : I64) : Norm (F_spec_l04Make lo hi) := by
  by_cases h : -1152921504606846976 < lo.val ∧ lo.val ≤ hi.val ∧ hi.val < 1152921504606846976
  · exact .inl (by rw [make_ok h]; exact (okiff _).2 h)
  · exact .inr (make_no h)
theorem norm_cond {c : Bool} {a b : Iv} (ha : Norm a) (hb : Norm b) : Norm (bif c then a else b) := by cases c <;> assumption
theorem norm_mul (a b : Iv) : Norm (F_spec_MulI a b) := by
  simp only [F_spec_MulI, t_spec_MulI, Tr.get]
  repeat' (first | with_reducible exact norm_make _ _ | with_reducible exact norm_whole | with_reducible refine norm_cond ?_ ?_)
theorem norm_div (a b : Iv) : Norm (F_spec_DivI a b) := by
  simp only [F_spec_DivI, t_spec_DivI, Tr.get]
  repeat' (first | with_reducible exact norm_make _ _ | with_reducible exact norm_whole | with_reducible refine norm_cond ?_ ?_)
theorem norm_add (a b : Iv) : Norm (F_spec_AddI a b) := by
  simp only [F_spec_AddI, t_spec_AddI, Tr.get]
  repeat' (first | with_reducible exact norm_make _ _ | with_reducible exact norm_whole | with_reducible refine norm_cond ?_ ?_)
theorem norm_hull (a b : Iv) : Norm (F_spec_HullI a b) := by
  simp only [F_spec_HullI, t_spec_HullI, Tr.get]
  repeat' (first | with_reducible exact norm_make _ _ | with_reducible exact norm_whole | with_reducible refine norm_cond ?_ ?_)
theorem Norm.sym {a : Iv} (h : Norm a) : F_spec_l04Make (.w .i64 (0 - a.hi.val)) a.hi = F_impl_symmetric a := by
  simp only [F_impl_symmetric, t_impl_symmetric, Tr.get, isw_eq, whole_eq, bounded_eq, ctr]
  rcases h with h | h
  · rw [h]; rfl
  · rw [h, whole_no]
    simp only [Bool.not_false, ctr]
    exact make_no (by decide +kernel)
theorem third_eq (e : Ell) : F_impl_ThirdI e = F_spec_ThirdI e := by
  simp only [F_impl_ThirdI, t_impl_ThirdI, F_spec_ThirdI, t_spec_ThirdI, Tr.get, ell_eq, quot_eq, whole_eq]
theorem over_F (x : Iv) (k : I64) : F_impl_over x k = F_spec_DivI x (F_spec_Integer k) := by
  simp only [F_impl_over, t_impl_over, Tr.get, divI_F, integer_eq]
theorem times_F (k : I64) (x : Iv) : F_impl_times k x = F_spec_MulI (F_spec_Integer k) x := by
  simp only [F_impl_times, t_impl_times, Tr.get, mulI_F, integer_eq]
theorem arcAt_eq {e : Ell} {n : I64} (h : -1152921504606846976 < n.val ∧ n.val < 1152921504606846976) : F_impl_arcAt e n = F_spec_l12Arc e n := by
  simp only [F_impl_arcAt, t_impl_arcAt, F_spec_l12Arc, t_spec_l12Arc, Tr.get, l08At_eq h, at_eq, third_eq, over_F, times_F, oneLess_eq, mulI_F, divI_F, add_eq, sub_eq, sqrI_F, quot_eq, sinI_eq, integer_eq, major_eq, (norm_mul _ _).sym]
theorem arcI_eq (e : Ell) (x : Iv) : F_impl_ArcI e x = F_spec_ArcI e x := by
  have h2 : F_spec_l04Ok ⟨⟨-8589934592, rfl⟩, ⟨8589934592, rfl⟩⟩ = true := (okiff _).2 (by decide)
  have hi : F_spec_InsideI x ⟨⟨-8589934592, rfl⟩, ⟨8589934592, rfl⟩⟩ = (F_spec_l04Ok x && decide (-8589934592 ≤ x.lo.val) && decide (x.hi.val ≤ 8589934592)) := by
    simp only [F_spec_InsideI, t_spec_InsideI, Tr.get, h2, Bool.not_true, cond_false]
    cases F_spec_l04Ok x <;> cases decide (-8589934592 ≤ x.lo.val) <;> simp [ctr, cfl]
  simp only [F_impl_ArcI, t_impl_ArcI, F_spec_ArcI, t_spec_ArcI, F_impl_ArcI_1_q, t_impl_ArcI_1_q, Tr.get, ell_eq, within_eq, isw_eq, areb_eq, whole_eq, bounded_eq, ctr, ends8, hi]
  cases F_spec_l12Ok e
  · simp [ctr, cfl]
  cases ho : F_spec_l04Ok x
  · simp [ctr, cfl]
  have hb := (okiff x).1 ho
  by_cases hl : -8589934592 ≤ x.lo.val ∧ x.hi.val ≤ 8589934592
  · have w1 : decide (-8589934592 ≤ x.lo.val ∧ x.lo.val ≤ 8589934592) = true := by simp; omega
    have w2 : decide (-8589934592 ≤ x.hi.val ∧ x.hi.val ≤ 8589934592) = true := by simp; omega
    have d1 : decide (-8589934592 ≤ x.lo.val) = true := by simpa using hl.1
    have d2 : decide (x.hi.val ≤ 8589934592) = true := by simpa using hl.2
    simp only [w1, w2, d1, d2, Bool.and_self, Bool.not_true, ctr, cfl, arcAt_eq (e := e) (n := x.lo) (by omega), arcAt_eq (e := e) (n := x.hi) (by omega)]
  · have w3 : (decide (-8589934592 ≤ x.lo.val) && decide (x.hi.val ≤ 8589934592)) = false := by
      rw [← Bool.decide_and]; simpa using hl
    have w4 : (decide (-8589934592 ≤ x.lo.val ∧ x.lo.val ≤ 8589934592) && decide (-8589934592 ≤ x.hi.val ∧ x.hi.val ≤ 8589934592)) = false := by
      rw [← Bool.decide_and]; simp; omega
    simp only [Bool.true_and, w3, Bool.not_false, ctr]
    cases w5 : decide (-8589934592 ≤ x.lo.val ∧ x.lo.val ≤ 8589934592)
    · simp only [Bool.not_false, ctr]
    · rw [w5, Bool.true_and] at w4
      simp only [w4, Bool.not_false, Bool.not_true, ctr, cfl]
end Go.Proofs.YtecfhpgpojgjkaaGreat.Ev
