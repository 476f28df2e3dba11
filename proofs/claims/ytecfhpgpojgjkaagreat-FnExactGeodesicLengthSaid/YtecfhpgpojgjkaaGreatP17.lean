/-
  Plain laws: the inverse hyperbolic tangent.
-/
import Derived.Test.YtecfhpgpojgjkaaGreatP15
import Derived.Test.YtecfhpgpojgjkaaGreatW8
namespace Go.Proofs.YtecfhpgpojgjkaaGreat.Ev
open Go
set_option linter.unusedSimpArgs false
set_option linter.unusedVariables false

theorem ends8 (a b : Iv) : (bif !(F_spec_l04Ok a && F_spec_l04Ok b) then F_spec_l04Whole else F_spec_l04Make a.lo b.hi) = F_spec_l08Ends a b := by
  simp only [F_spec_l08Ends, t_spec_l08Ends, Tr.get]
  cases F_spec_l04Ok a <;> cases F_spec_l04Ok b <;> simp [ctr, cfl]
theorem logI_eq (x : Iv) : F_impl_LogI x = F_spec_LogI x := by
  simp only [F_impl_LogI, t_impl_LogI, F_spec_LogI, t_spec_LogI, Tr.get, isw_eq, areb_eq, whole_eq, bounded_eq, logAt_eq, ctr, ends8]
theorem l08At_eq {n : I64} (h : -1152921504606846976 < n.val ∧ n.val < 1152921504606846976) : F_spec_l08At n = F_spec_l05At n := by
  simp only [F_spec_l08At, t_spec_l08At, F_spec_l05At, t_spec_l05At, Tr.get]
  exact make_ok (by omega)
theorem atanhp (n : I64) (h : 0 ≤ n.val) : (t_spec_l08Atanh_p n).opt = some (F_impl_AtanhI_1 n) := by
  have hn : decide (n.val < 0) = false := by simp; omega
  simp only [t_spec_l08Atanh_p, Tr.opt, F_impl_AtanhI_1, t_impl_AtanhI_1, Tr.get, hn, cond_false, halfI_eq, logI_eq, divI_F, whole_eq]
  by_cases hU : n.val ≥ 4294967296
  · simp only [hU, decide_true, cond_true]
  · have e1 : (Rng.w .i64 (4294967296 + n.val)).val = 4294967296 + n.val := wi (by omega) (by omega)
    have e2 : (Rng.w .i64 (4294967296 - n.val)).val = 4294967296 - n.val := wi (by omega) (by omega)
    simp only [hU, decide_false, cond_false]
    rw [l08At_eq (n := .w .i64 (4294967296 + n.val)) (by omega), l08At_eq (n := .w .i64 (4294967296 - n.val)) (by omega), at_eq, at_eq]
theorem atanh_n (n : I64) (h : -1152921504606846976 < n.val ∧ n.val < 1152921504606846976) : (t_spec_l08Atanh n).opt = some (F_impl_odd_1_AtanhI n ⟨⟩) := by
  by_cases hn : n.val < 0
  · have e1 : (Rng.w .i64 (0 - n.val)).val = 0 - n.val := wi (by omega) (by omega)
    have a1 := atanhp (.w .i64 (0 - n.val)) (by omega)
    have g1 : G_spec_l08Atanh_p (.w .i64 (0 - n.val)) = true := by unfold G_spec_l08Atanh_p; rw [a1]; rfl
    have f1 : F_spec_l08Atanh_p (.w .i64 (0 - n.val)) = _ := Tr.opt_get a1
    have hd : decide (n.val < 0) = true := by simpa using hn
    simp only [t_spec_l08Atanh, Tr.opt, F_impl_odd_1_AtanhI, t_impl_odd_1_AtanhI, Tr.get, hd, cond_true, g1, f1, neg_eq]
  · have a1 := atanhp n (by omega)
    have hd : decide (n.val < 0) = false := by simpa using hn
    simp only [t_spec_l08Atanh_p, Tr.opt, hd, cond_false] at a1
    simp only [t_spec_l08Atanh, Tr.opt, F_impl_odd_1_AtanhI, t_impl_odd_1_AtanhI, Tr.get, hd, cond_false]
    exact a1
theorem atanh_ok (x : Iv) : ∃ y, (t_spec_AtanhI x).opt = some y ∧ (t_impl_AtanhI x).opt = some y := by
  simp only [t_spec_AtanhI, t_impl_AtanhI, Tr.opt, isw_eq, areb_eq, whole_eq, bounded_eq]
  cases h : F_spec_l04Ok x
  · exact ⟨_, rfl, rfl⟩
  have hb := (okiff x).1 h
  have a1 := atanh_n x.lo (by omega)
  have a2 := atanh_n x.hi (by omega)
  have g1 : G_spec_l08Atanh x.lo = true := by unfold G_spec_l08Atanh; rw [a1]; rfl
  have g2 : G_spec_l08Atanh x.hi = true := by unfold G_spec_l08Atanh; rw [a2]; rfl
  have f1 : F_spec_l08Atanh x.lo = _ := Tr.opt_get a1
  have f2 : F_spec_l08Atanh x.hi = _ := Tr.opt_get a2
  simp only [Bool.not_true, cond_false, cond_true, g1, g2, f1, f2, F_spec_l08Ends, t_spec_l08Ends, Tr.get]
  cases F_spec_l04Ok (F_impl_odd_1_AtanhI x.lo ⟨⟩) <;> cases F_spec_l04Ok (F_impl_odd_1_AtanhI x.hi ⟨⟩) <;> exact ⟨_, rfl, rfl⟩
theorem atanhI_eq (x : Iv) : F_impl_AtanhI x = F_spec_AtanhI x := by
  obtain ⟨y, h1, h2⟩ := atanh_ok x
  exact (Tr.opt_get h2).trans (Tr.opt_get h1).symm
theorem tt_atanh_spec (x : Iv) : (t_spec_AtanhI x).opt = some (F_spec_AtanhI x) := by obtain ⟨y, h1, _⟩ := atanh_ok x; exact opt_self h1
theorem tt_atanh_impl (x : Iv) : (t_impl_AtanhI x).opt = some (F_impl_AtanhI x) := by obtain ⟨y, _, h1⟩ := atanh_ok x; exact opt_self h1
end Go.Proofs.YtecfhpgpojgjkaaGreat.Ev
