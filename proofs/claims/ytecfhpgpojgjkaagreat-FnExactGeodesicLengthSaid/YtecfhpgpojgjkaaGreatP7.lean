/-
  Plain laws: products and quotients of fixed numbers and of intervals: the two readings are one.
-/
import Derived.Test.YtecfhpgpojgjkaaGreatPA
import Derived.Test.YtecfhpgpojgjkaaGreatW2
namespace Go.Proofs.YtecfhpgpojgjkaaGreat.Ev
open Go
set_option linter.unusedSimpArgs false
set_option linter.unusedVariables false

theorem or_zero (x : U64) : (Rng.w .u64 (bitop .or .u64 x.val 0)).val = x.val := by
  have b := x.ubd
  rw [or_add 0 x.val.toNat (by simp; omega) (by omega) (by decide) (by omega)]
  rw [wu (by omega) (by omega)]; omega
theorem shift_ok (w : Wide) (n : I64) (h : 0 ≤ n.val ∧ n.val ≤ 127) : (t_impl_WideShift w n).opt = some (F_spec_l02Shift w n) := by
  have hw : F_impl_within n ⟨0, rfl⟩ ⟨127, rfl⟩ = true := by rw [within_eq]; simpa using h
  have en : (Rng.w .u64 n.val).val = n.val := wu (by omega) (by omega)
  simp only [t_impl_WideShift, Tr.opt, hw, Bool.not_true, cond_false, F_spec_l02Shift, t_spec_l02Shift, Tr.get, en]
  by_cases h64 : n.val ≥ 64
  · have e0 : (n.val == 0) = false := by simp; omega
    have e1 : decide (n.val < 64) = false := by simp; omega
    have e2 : (Rng.w .i64 (n.val - 64)).val = n.val - 64 := wi (by omega) (by omega)
    have e3 : decide ((Rng.w .i64 (n.val - 64)).val < 0) = false := by rw [e2]; simp; omega
    have e4 : (Rng.w .u64 (Rng.w .i64 (n.val - 64)).val).val = (Rng.w .i64 (n.val - 64)).val := by rw [e2]; exact wu (by omega) (by omega)
    simp only [h64, decide_true, cond_true, e0, e1, e3, cond_false, e4]
  · have e1 : decide (n.val < 64) = true := by simp; omega
    have e2 : decide (n.val < 0) = false := by simp; omega
    have e3 : (Rng.w .i64 (64 - n.val)).val = 64 - n.val := wi (by omega) (by omega)
    have e4 : decide ((Rng.w .i64 (64 - n.val)).val < 0) = false := by rw [e3]; simp; omega
    have e5 : (Rng.w .u64 (Rng.w .i64 (64 - n.val)).val).val = (Rng.w .i64 (64 - n.val)).val := by rw [e3]; exact wu (by omega) (by omega)
    simp only [h64, decide_false, cond_false, e1, e2, e4, e5, cond_true]
    by_cases h0 : n.val = 0
    · have e0 : (n.val == 0) = true := by simp [h0]
      simp only [e0, cond_true]
      rw [h0]
      congr 1
      apply wide_ext
      have bl := w.lo.ubd
      have k1 : min (Int.toNat 0) 64 = 0 := by rfl
      have k2 : min (Rng.w .i64 (64 - 0)).val.toNat 64 = 64 := by rfl
      have k3 : (2 : Int) ^ 64 = 18446744073709551616 := by decide
      have k4 : (Rng.w .u64 (w.lo.val.fdiv (2 ^ 0))) = w.lo := by rw [show (2 : Int) ^ 0 = 1 by rfl, Int.fdiv_one]; exact Rng.w_val _
      have k5 : (Rng.w .u64 ((Rng.w .u64 w.hi.val).val * 18446744073709551616)).val = 0 := by rw [wu_mod]; omega
      have k6 : Rng.w .i64 (w.hi.val.fdiv (2 ^ 0)) = w.hi := by rw [show (2 : Int) ^ 0 = 1 by rfl, Int.fdiv_one]; exact Rng.w_val _
      simp only [k1, k2, k3, k4, k5, k6, wv, or_zero]
    · have e0 : (n.val == 0) = false := by simp [h0]
      simp only [e0, cond_false]
theorem shift_F (w : Wide) (n : I64) (h : 0 ≤ n.val ∧ n.val ≤ 127) : F_impl_WideShift w n = F_spec_l02Shift w n := Tr.opt_get (shift_ok w n h)
theorem shift_G (w : Wide) (n : I64) (h : 0 ≤ n.val ∧ n.val ≤ 127) : G_impl_WideShift w n = true := by unfold G_impl_WideShift; rw [shift_ok w n h]; rfl
theorem mulfloor_ok (a b n : I64) : (t_impl_MulFloor a b n).opt = some (F_spec_MulFloor a b n) := by
  simp only [t_impl_MulFloor, Tr.opt, F_spec_MulFloor, t_spec_MulFloor, Tr.get, within_eq, in_eq, mul_impl, mul_spec, int_impl, int_spec]
  by_cases h : 0 ≤ n.val ∧ n.val ≤ 126
  · have h' : 0 ≤ n.val ∧ n.val ≤ 127 := by omega
    simp only [h, and_self, decide_true, Bool.not_true, cond_false, shift_F _ _ h', shift_G _ _ h', cond_true]
  · simp only [h, decide_false, Bool.not_false, cond_true]
theorem mulfloor_F (a b n : I64) : F_impl_MulFloor a b n = F_spec_MulFloor a b n := Tr.opt_get (mulfloor_ok a b n)
theorem mulfloor_G (a b n : I64) : G_impl_MulFloor a b n = true := by unfold G_impl_MulFloor; rw [mulfloor_ok]; rfl
theorem okfix_eq (a : I64) : F_impl_ValidFix a = F_spec_l03Ok a := by
  simp only [F_impl_ValidFix, t_impl_ValidFix, F_spec_l03Ok, t_spec_l03Ok, Tr.get, within_eq, in_eq]
theorem muldown_ok (a b : I64) : (t_impl_MulDown a b).opt = some (F_spec_l03MulDown a b) := by
  simp only [t_impl_MulDown, Tr.opt, F_spec_l03MulDown, t_spec_l03MulDown, Tr.get, okfix_eq, mulfloor_F, mulfloor_G, end_eq, cond_true]
  cases F_spec_l03Ok a <;> cases F_spec_l03Ok b <;> rfl
theorem muldown_F (a b : I64) : F_impl_MulDown a b = F_spec_l03MulDown a b := Tr.opt_get (muldown_ok a b)
theorem muldown_G (a b : I64) : G_impl_MulDown a b = true := by unfold G_impl_MulDown; rw [muldown_ok]; rfl
theorem end_cases (a : I64) (b : Bool) : F_spec_l03End a b = ⟨⟨0, rfl⟩, false⟩ ∨ (F_spec_l03End a b = ⟨a, true⟩ ∧ F_spec_l03Ok a = true) := by
  simp only [F_spec_l03End, t_spec_l03End, Tr.get]
  cases b
  · left; rfl
  · cases h : F_spec_l03Ok a
    · left; rfl
    · right; exact ⟨rfl, rfl⟩
theorem muldown_cases (a b : I64) : F_spec_l03MulDown a b = ⟨⟨0, rfl⟩, false⟩ ∨ ∃ c, F_spec_l03MulDown a b = ⟨c, true⟩ ∧ F_spec_l03Ok c = true := by
  simp only [F_spec_l03MulDown, t_spec_l03MulDown, Tr.get]
  cases F_spec_l03Ok a
  · left; rfl
  · cases F_spec_l03Ok b
    · left; rfl
    · simp only [Bool.not_true, cond_false]
      rcases end_cases (F_spec_MulFloor a b ⟨32, rfl⟩).a (F_spec_MulFloor a b ⟨32, rfl⟩).b with h | ⟨h, k⟩
      · left; rw [h]
      · right; exact ⟨_, h, k⟩
theorem muldown_bad (a b : I64) (h : F_spec_l03Ok b = false) : F_spec_l03MulDown a b = ⟨⟨0, rfl⟩, false⟩ := by
  simp only [F_spec_l03MulDown, t_spec_l03MulDown, Tr.get, h]
  cases F_spec_l03Ok a <;> rfl
theorem mulup_ok (a b : I64) : (t_impl_MulUp a b).opt = some (F_spec_l03MulUp a b) := by
  simp only [t_impl_MulUp, Tr.opt, F_spec_l03MulUp, t_spec_l03MulUp, Tr.get, okfix_eq, muldown_F, muldown_G, cond_true]
  cases F_spec_l03Ok a
  · rfl
  · simp only [Bool.not_true, cond_false]
    cases hb : F_spec_l03Ok b
    · rw [muldown_bad _ _ hb]; rfl
    · simp only [Bool.not_true, cond_false]
      rcases muldown_cases (.w .i64 (0 - a.val)) b with h | ⟨c, h, _⟩ <;> rw [h] <;> rfl
theorem mulup_F (a b : I64) : F_impl_MulUp a b = F_spec_l03MulUp a b := Tr.opt_get (mulup_ok a b)
theorem mulup_G (a b : I64) : G_impl_MulUp a b = true := by unfold G_impl_MulUp; rw [mulup_ok]; rfl
theorem divdown_F (a b : I64) : F_impl_DivDown a b = F_spec_l03DivDown a b := by
  simp only [F_impl_DivDown, t_impl_DivDown, F_spec_l03DivDown, t_spec_l03DivDown, Tr.get, okfix_eq, md_F_impl, md_F_spec, end_eq]
  cases F_spec_l03Ok a
  · rfl
  · cases F_spec_l03Ok b
    · rfl
    · simp only [Bool.not_true, cond_false]
      by_cases h0 : b.val = 0
      · have e0 : (b.val == 0) = true := by simp [h0]
        have e1 : decide (b.val < 0) = false := by simp [h0]
        simp only [e0, e1, cond_true, cond_false, MD]
        rw [if_neg (by omega)]
        simp only [end_no]
      · have e0 : (b.val == 0) = false := by simp [h0]
        simp only [e0, cond_false]
theorem divdown_cases (a b : I64) : F_spec_l03DivDown a b = ⟨⟨0, rfl⟩, false⟩ ∨ ∃ c, F_spec_l03DivDown a b = ⟨c, true⟩ ∧ F_spec_l03Ok c = true := by
  simp only [F_spec_l03DivDown, t_spec_l03DivDown, Tr.get, md_F_spec]
  cases F_spec_l03Ok a
  · left; rfl
  · cases F_spec_l03Ok b
    · left; rfl
    · simp only [Bool.not_true, cond_false]
      cases (b.val == 0)
      · simp only [cond_false]
        cases decide (b.val < 0)
        · simp only [cond_false]
          rcases end_cases (MD a ⟨4294967296, rfl⟩ b).a (MD a ⟨4294967296, rfl⟩ b).b with h | ⟨h, k⟩
          · left; rw [h]
          · right; exact ⟨_, h, k⟩
        · simp only [cond_true]
          rcases end_cases (MD (.w .i64 (0 - a.val)) ⟨4294967296, rfl⟩ (.w .i64 (0 - b.val))).a (MD (.w .i64 (0 - a.val)) ⟨4294967296, rfl⟩ (.w .i64 (0 - b.val))).b with h | ⟨h, k⟩
          · left; rw [h]
          · right; exact ⟨_, h, k⟩
      · left; rfl
theorem divdown_bad (a b : I64) (h : F_spec_l03Ok b = false) : F_spec_l03DivDown a b = ⟨⟨0, rfl⟩, false⟩ := by
  simp only [F_spec_l03DivDown, t_spec_l03DivDown, Tr.get, h]
  cases F_spec_l03Ok a <;> rfl
theorem divup_F (a b : I64) : F_impl_DivUp a b = F_spec_l03DivUp a b := by
  simp only [F_impl_DivUp, t_impl_DivUp, F_spec_l03DivUp, t_spec_l03DivUp, Tr.get, okfix_eq, divdown_F]
  cases F_spec_l03Ok a
  · rfl
  · simp only [Bool.not_true, cond_false]
    cases hb : F_spec_l03Ok b
    · rw [divdown_bad _ _ hb]; rfl
    · rfl

/-! ### least and greatest -/
theorem min_eq (a b : I64) : mn a b = F_spec_l00Min a b := by
  simp only [mn, F_spec_l00Min, t_spec_l00Min, Tr.get]
  by_cases h : b.val < a.val
  · have : decide (a.val < b.val) = false := by simp; omega
    simp only [h, decide_true, cond_true, this, cond_false]
  · by_cases h' : a.val < b.val
    · simp only [h, h', decide_true, decide_false, cond_true, cond_false]
    · simp only [h, h', decide_false, cond_false]; exact rext (by omega)
theorem max_eq (a b : I64) : mx a b = F_spec_l00Max a b := by
  simp only [mx, F_spec_l00Max, t_spec_l00Max, Tr.get]
  by_cases h : b.val > a.val
  · have : decide (a.val > b.val) = false := by simp; omega
    simp only [h, decide_true, cond_true, this, cond_false]
  · by_cases h' : a.val > b.val
    · simp only [h, h', decide_true, decide_false, cond_true, cond_false]
    · simp only [h, h', decide_false, cond_false]; exact rext (by omega)
theorem ok_bd {a : I64} (h : F_spec_l03Ok a = true) : -1152921504606846976 ≤ a.val ∧ a.val ≤ 1152921504606846976 := by
  simpa [F_spec_l03Ok, t_spec_l03Ok, Tr.get, in_eq] using h
theorem min_top {a : I64} (h : F_spec_l03Ok a = true) : F_spec_l00Min ⟨1152921504606846976, rfl⟩ a = a := by
  have := ok_bd h
  simp only [F_spec_l00Min, t_spec_l00Min, Tr.get]
  by_cases h : (1152921504606846976 : Int) < a.val
  · omega
  · simp only [h, decide_false, cond_false]
theorem max_top {a : I64} (h : F_spec_l03Ok a = true) : F_spec_l00Max ⟨-1152921504606846976, rfl⟩ a = a := by
  have := ok_bd h
  simp only [F_spec_l00Max, t_spec_l00Max, Tr.get]
  by_cases h : (-1152921504606846976 : Int) > a.val
  · omega
  · simp only [h, decide_false, cond_false]
theorem min_self (a : I64) : F_spec_l00Min a a = a := by
  simp only [F_spec_l00Min, t_spec_l00Min, Tr.get]; cases decide (a.val < a.val) <;> rfl
theorem max_self (a : I64) : F_spec_l00Max a a = a := by
  simp only [F_spec_l00Max, t_spec_l00Max, Tr.get]; cases decide (a.val > a.val) <;> rfl
theorem areb_eq (a b : Iv) : F_impl_areBounded a b = (F_spec_l04Ok a && F_spec_l04Ok b) := by
  simp only [F_impl_areBounded, t_impl_areBounded, Tr.get, valid_eq]
  cases F_spec_l04Ok a <;> rfl
theorem ok_neg {c : I64} (h : F_spec_l03Ok c = true) : F_spec_l03Ok (.w .i64 (0 - c.val)) = true := by
  have := ok_bd h
  simp only [F_spec_l03Ok, t_spec_l03Ok, Tr.get, in_eq]
  rw [wi (by omega) (by omega)]
  simp; omega
theorem mulup_cases (a b : I64) : (F_spec_l03MulUp a b).b = false ∨ ∃ c, F_spec_l03MulUp a b = ⟨c, true⟩ ∧ F_spec_l03Ok c = true := by
  simp only [F_spec_l03MulUp, t_spec_l03MulUp, Tr.get]
  cases F_spec_l03Ok a
  · left; rfl
  · rcases muldown_cases (.w .i64 (0 - a.val)) b with h | ⟨c, h, k⟩
    · left; rw [h]; rfl
    · right; rw [h]; exact ⟨_, rfl, ok_neg k⟩
theorem divup_cases (a b : I64) : (F_spec_l03DivUp a b).b = false ∨ ∃ c, F_spec_l03DivUp a b = ⟨c, true⟩ ∧ F_spec_l03Ok c = true := by
  simp only [F_spec_l03DivUp, t_spec_l03DivUp, Tr.get]
  cases F_spec_l03Ok a
  · left; rfl
  · rcases divdown_cases (.w .i64 (0 - a.val)) b with h | ⟨c, h, k⟩
    · left; rw [h]; rfl
    · right; rw [h]; exact ⟨_, rfl, ok_neg k⟩
theorem mulI_ok (a b : Iv) : (t_impl_MulI a b).opt = some (F_spec_MulI a b) := by
  simp only [t_impl_MulI, Tr.opt, F_spec_MulI, t_spec_MulI, Tr.get, areb_eq, muldown_F, muldown_G, mulup_F, mulup_G, cond_true, whole_eq, bounded_eq, min_eq, max_eq]
  cases F_spec_l04Ok a
  · rfl
  cases F_spec_l04Ok b
  · rfl
  simp only [Bool.and_self, Bool.not_true, cond_false]
  rcases muldown_cases a.lo b.lo with h | ⟨c1, h, k1⟩
  · rw [h]; rfl
  rw [h]
  rcases mulup_cases a.lo b.lo with h | ⟨d1, h, l1⟩
  · simp only [h, Bool.not_true, Bool.not_false, cond_true, cond_false]
  rw [h]
  rcases muldown_cases a.lo b.hi with h | ⟨c2, h, k2⟩
  · rw [h]; rfl
  rw [h]
  rcases mulup_cases a.lo b.hi with h | ⟨d2, h, l2⟩
  · simp only [h, Bool.not_true, Bool.not_false, cond_true, cond_false]
  rw [h]
  rcases muldown_cases a.hi b.lo with h | ⟨c3, h, k3⟩
  · rw [h]; rfl
  rw [h]
  rcases mulup_cases a.hi b.lo with h | ⟨d3, h, l3⟩
  · simp only [h, Bool.not_true, Bool.not_false, cond_true, cond_false]
  rw [h]
  rcases muldown_cases a.hi b.hi with h | ⟨c4, h, k4⟩
  · rw [h]; rfl
  rw [h]
  rcases mulup_cases a.hi b.hi with h | ⟨d4, h, l4⟩
  · simp only [h, Bool.not_true, Bool.not_false, cond_true, cond_false]
  rw [h]
  simp only [Bool.not_true, cond_false, min_self, max_self, min_top k1, max_top l1]
theorem mulI_F (a b : Iv) : F_impl_MulI a b = F_spec_MulI a b := Tr.opt_get (mulI_ok a b)
theorem mulI_G (a b : Iv) : G_impl_MulI a b = true := by unfold G_impl_MulI; rw [mulI_ok]; rfl
theorem has_eq (a : Iv) (n : I64) (h : F_spec_l04Ok a = true) : F_impl_HasI a n = F_spec_l04Has a n := by
  simp only [F_impl_HasI, t_impl_HasI, F_spec_l04Has, t_spec_l04Has, Tr.get, F_impl_IsWhole, t_impl_IsWhole, valid_eq, h, Bool.not_true, cond_false, within_eq, in_eq]
theorem divI_F (a b : Iv) : F_impl_DivI a b = F_spec_DivI a b := by
  simp only [F_impl_DivI, t_impl_DivI, F_spec_DivI, t_spec_DivI, Tr.get, areb_eq, divdown_F, divup_F, whole_eq, bounded_eq, min_eq, max_eq]
  cases ha : F_spec_l04Ok a
  · rfl
  cases hb : F_spec_l04Ok b
  · rfl
  simp only [Bool.and_self, Bool.not_true, cond_false, has_eq b _ hb]
  cases F_spec_l04Has b ⟨0, rfl⟩
  case true => rfl
  simp only [cond_false]
  rcases divdown_cases a.lo b.lo with h | ⟨c1, h, k1⟩
  · rw [h]; rfl
  rw [h]
  rcases divup_cases a.lo b.lo with h | ⟨d1, h, l1⟩
  · simp only [h, Bool.not_true, Bool.not_false, cond_true, cond_false]
  rw [h]
  rcases divdown_cases a.lo b.hi with h | ⟨c2, h, k2⟩
  · rw [h]; rfl
  rw [h]
  rcases divup_cases a.lo b.hi with h | ⟨d2, h, l2⟩
  · simp only [h, Bool.not_true, Bool.not_false, cond_true, cond_false]
  rw [h]
  rcases divdown_cases a.hi b.lo with h | ⟨c3, h, k3⟩
  · rw [h]; rfl
  rw [h]
  rcases divup_cases a.hi b.lo with h | ⟨d3, h, l3⟩
  · simp only [h, Bool.not_true, Bool.not_false, cond_true, cond_false]
  rw [h]
  rcases divdown_cases a.hi b.hi with h | ⟨c4, h, k4⟩
  · rw [h]; rfl
  rw [h]
  rcases divup_cases a.hi b.hi with h | ⟨d4, h, l4⟩
  · simp only [h, Bool.not_true, Bool.not_false, cond_true, cond_false]
  rw [h]
  simp only [Bool.not_true, cond_false, cond_true, min_self, max_self, min_top k1, max_top l1]
theorem sqrI_ok (a : Iv) : (t_impl_SqrI a).opt = some (F_spec_SqrI a) := by
  simp only [t_impl_SqrI, Tr.opt, F_spec_SqrI, t_spec_SqrI, Tr.get, muldown_F, muldown_G, mulup_F, mulup_G, cond_true, whole_eq, bounded_eq, F_impl_IsWhole, t_impl_IsWhole, valid_eq]
  cases h : F_spec_l04Ok a
  · rfl
  simp only [Bool.not_true, cond_false]
  have e : F_impl_AbsI a = ⟨(F_spec_l04Ends a).a, (F_spec_l04Ends a).b⟩ := by
    simp only [F_impl_AbsI, t_impl_AbsI, F_spec_l04Ends, t_spec_l04Ends, Tr.get, F_impl_IsWhole, t_impl_IsWhole, valid_eq, h, Bool.not_true, cond_false, has_eq a _ h, max_eq, min_eq, F_impl_abs, t_impl_abs]
    cases F_spec_l04Has a ⟨0, rfl⟩ <;> rfl
  rw [e]
  cases (F_spec_l03MulDown (F_spec_l04Ends a).a (F_spec_l04Ends a).a).b <;> cases (F_spec_l03MulUp (F_spec_l04Ends a).b (F_spec_l04Ends a).b).b <;> rfl
theorem sqrI_F (a : Iv) : F_impl_SqrI a = F_spec_SqrI a := Tr.opt_get (sqrI_ok a)
theorem tt_mulfloor (a b n : I64) : (t_impl_MulFloor a b n).opt = some (F_impl_MulFloor a b n) := opt_self (mulfloor_ok a b n)
theorem tt_muldown (a b : I64) : (t_impl_MulDown a b).opt = some (F_impl_MulDown a b) := opt_self (muldown_ok a b)
theorem tt_mulup (a b : I64) : (t_impl_MulUp a b).opt = some (F_impl_MulUp a b) := opt_self (mulup_ok a b)
theorem tt_mulI (a b : Iv) : (t_impl_MulI a b).opt = some (F_impl_MulI a b) := opt_self (mulI_ok a b)
theorem tt_sqrI (a : Iv) : (t_impl_SqrI a).opt = some (F_impl_SqrI a) := opt_self (sqrI_ok a)
end Go.Proofs.YtecfhpgpojgjkaaGreat.Ev
