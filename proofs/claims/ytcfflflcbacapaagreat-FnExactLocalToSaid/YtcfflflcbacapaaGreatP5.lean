/-
  Plain laws: the quotients of fixed numbers; heights and longitudes in radians.
-/
import Derived.Test.YtcfflflcbacapaaGreatP4
namespace Go.Proofs.YtcfflflcbacapaaGreat.Ev
open Go
set_option linter.unusedSimpArgs false
set_option linter.unusedVariables false

theorem ediv_bd {N M d : Int} (hd : 0 < d) (h : -M ≤ N) (h' : N ≤ M) : -M ≤ N / d ∧ N / d ≤ M := by
  by_cases h0 : 0 ≤ N
  · have h1 := Int.ediv_nonneg h0 (Int.le_of_lt hd)
    have h2 := Int.ediv_le_self d h0
    omega
  · have h1 : N / d < 0 := Int.ediv_neg_of_neg_of_pos (by omega) hd
    have h2 : N ≤ N / d := by
      refine (Int.le_ediv_iff_mul_le hd).2 ?_
      have := Int.mul_le_mul_of_nonpos_left (a := N) (b := d) (c := 1) (by omega) (by omega)
      omega
    omega

def MD (a b d : I64) : T2 I64 Bool := if 0 < d.val then narrow (a.val * b.val / d.val) else ⟨⟨0, rfl⟩, false⟩
theorem wv_quo {a b d : I64} (hd : 0 < d.val) : wv (mkW (a.val * b.val)) = a.val * b.val ∧ wv (mkW (a.val * b.val / d.val)) = a.val * b.val / d.val := by
  have hm := mul_bd a.bd b.bd
  have := ediv_bd (M := 85070591730234615865843651857942052864) hd hm.1 hm.2
  exact ⟨wv_mkW (by omega) (by omega), wv_mkW (by omega) (by omega)⟩
theorem md_spec (a b d : I64) : (t_spec_MulDivFloor a b d).opt = some (MD a b d) := by
  unfold MD
  by_cases hd : 0 < d.val
  · have h0 : decide (d.val ≤ 0) = false := by simp; omega
    obtain ⟨w1, w2⟩ := wv_quo (a := a) (b := b) hd
    simp only [t_spec_MulDivFloor, Tr.opt, h0, cond_false, mul_spec, div_spec_G _ _ hd, div_spec _ _ hd, cond_true, int_spec, w1, w2, hd, if_true]
  · have h0 : decide (d.val ≤ 0) = true := by simp; omega
    simp only [t_spec_MulDivFloor, Tr.opt, h0, cond_true, hd, if_false]
theorem md_impl (a b d : I64) : (t_impl_MulDivFloor a b d).opt = some (MD a b d) := by
  unfold MD
  by_cases hd : 0 < d.val
  · obtain ⟨w1, w2⟩ := wv_quo (a := a) (b := b) hd
    simp only [t_impl_MulDivFloor, Tr.opt, mul_impl, div_impl_G _ _ hd, div_impl _ _ hd, cond_true, cond_false, int_impl, w1, w2, hd, if_true, Bool.not_true]
  · have hk := div_impl_no (mkW (a.val * b.val)) d hd
    have hG : G_impl_WideDiv (mkW (a.val * b.val)) d = true := by unfold G_impl_WideDiv; rw [hk]; rfl
    have hF : F_impl_WideDiv (mkW (a.val * b.val)) d = _ := Tr.opt_get hk
    simp only [t_impl_MulDivFloor, Tr.opt, mul_impl, hG, hF, cond_true, Bool.not_false, hd, if_false]
theorem md_F_spec (a b d : I64) : F_spec_MulDivFloor a b d = MD a b d := Tr.opt_get (md_spec a b d)
theorem md_F_impl (a b d : I64) : F_impl_MulDivFloor a b d = MD a b d := Tr.opt_get (md_impl a b d)
theorem md_G_spec (a b d : I64) : G_spec_MulDivFloor a b d = true := by unfold G_spec_MulDivFloor; rw [md_spec]; rfl
theorem md_G_impl (a b d : I64) : G_impl_MulDivFloor a b d = true := by unfold G_impl_MulDivFloor; rw [md_impl]; rfl

theorem end_eq (a : I64) (b : Bool) : F_impl_fixed a b = F_spec_l03End a b := by
  simp only [F_impl_fixed, t_impl_fixed, F_spec_l03End, t_spec_l03End, Tr.get, F_impl_ValidFix, t_impl_ValidFix, F_spec_l03Ok, t_spec_l03Ok, within_eq, in_eq]
theorem end_no (a : I64) : F_spec_l03End a false = ⟨⟨0, rfl⟩, false⟩ := by simp [F_spec_l03End, t_spec_l03End, Tr.get]
theorem end_far (a : I64) (h : a.val = -9223372036854775808) : F_spec_l03End a true = ⟨⟨0, rfl⟩, false⟩ := by
  simp [F_spec_l03End, t_spec_l03End, Tr.get, F_spec_l03Ok, t_spec_l03Ok, in_eq, h]

noncomputable def FF (a b : I64) : T2 I64 Bool := F_spec_l03End (MD a ⟨4294967296, rfl⟩ b).a (MD a ⟨4294967296, rfl⟩ b).b
theorem ff_impl (a b : I64) : (t_impl_FixFloor a b).opt = some (FF a b) := by
  simp only [t_impl_FixFloor, Tr.opt, md_G_impl, md_F_impl, end_eq, cond_true, FF]
theorem ff_spec (a b : I64) : (t_spec_l03Floor a b).opt = some (FF a b) := by
  by_cases hd : 0 < b.val
  · have h0 : decide (b.val ≤ 0) = false := by simp; omega
    simp only [t_spec_l03Floor, Tr.opt, h0, cond_false, md_G_spec, md_F_spec, cond_true, FF]
  · have h0 : decide (b.val ≤ 0) = true := by simp; omega
    simp only [t_spec_l03Floor, Tr.opt, h0, cond_true, FF, MD, hd, if_false, end_no]

noncomputable def FC (a b : I64) : T2 I64 Bool := if 0 < b.val then
    (if (narrow (a.val * 4294967296 / b.val)).b then
      (if a.val * 4294967296 % b.val = 0 then F_spec_l03End (narrow (a.val * 4294967296 / b.val)).a true else F_spec_l03End (.w .i64 ((narrow (a.val * 4294967296 / b.val)).a.val + 1)) true)
      else ⟨⟨0, rfl⟩, false⟩)
  else ⟨⟨0, rfl⟩, false⟩
theorem narrow_yes {v : Int} (h : (narrow v).b = true) : (narrow v).a.val = v ∧ -9223372036854775808 ≤ v ∧ v ≤ 9223372036854775807 := by
  unfold narrow at *
  split at h
  · rename_i hv
    rw [if_pos hv]
    exact ⟨wi hv.1 hv.2, hv⟩
  · cases h
theorem fc_impl (a b : I64) : (t_impl_FixCeil a b).opt = some (FC a b) := by
  have hlit : ((⟨4294967296, rfl⟩ : I64)).val = 4294967296 := rfl
  unfold FC
  by_cases hd : 0 < b.val
  · obtain ⟨w1, w2⟩ := wv_quo (a := a) (b := ⟨4294967296, rfl⟩) hd
    have m1 := Int.emod_nonneg (a.val * 4294967296) (b := b.val) (by omega)
    have m2 := Int.emod_lt_of_pos (a.val * 4294967296) hd
    have bb := b.bd
    rw [hlit] at w1 w2
    have er : (Rng.w .i64 (a.val * 4294967296 % b.val)).val = a.val * 4294967296 % b.val := wi (by omega) (by omega)
    have hk : (t_impl_mulDivCeil a ⟨4294967296, rfl⟩ b).opt = some (if (narrow (a.val * 4294967296 / b.val)).b then
        (if a.val * 4294967296 % b.val = 0 then ⟨(narrow (a.val * 4294967296 / b.val)).a, true⟩ else if (narrow (a.val * 4294967296 / b.val)).a.val = 9223372036854775807 then ⟨⟨0, rfl⟩, false⟩ else
          ⟨.w .i64 ((narrow (a.val * 4294967296 / b.val)).a.val + 1), true⟩) else ⟨⟨0, rfl⟩, false⟩) := by
      simp only [t_impl_mulDivCeil, Tr.opt, mul_impl, hlit, div_impl_G _ _ hd, div_impl _ _ hd, cond_true, cond_false, int_impl, w1, w2, Bool.not_true, er]
      cases hn : (narrow (a.val * 4294967296 / b.val)).b
      · simp
      · simp only [Bool.not_true, cond_false, if_true]
        by_cases hz : a.val * 4294967296 % b.val = 0
        · have : decide (a.val * 4294967296 % b.val > 0) = false := by simp; omega
          simp only [this, cond_false]
          rw [if_pos hz]
        · have : decide (a.val * 4294967296 % b.val > 0) = true := by simp; omega
          simp only [this, cond_true, hz, if_false]
          by_cases hx : (narrow (a.val * 4294967296 / b.val)).a.val = 9223372036854775807
          · simp [hx]
          · have : ((narrow (a.val * 4294967296 / b.val)).a.val == 9223372036854775807) = false := by simp [hx]
            simp only [this, cond_false, hx, if_false]
    have hG : G_impl_mulDivCeil a ⟨4294967296, rfl⟩ b = true := by unfold G_impl_mulDivCeil; rw [hk]; rfl
    have hF : F_impl_mulDivCeil a ⟨4294967296, rfl⟩ b = _ := Tr.opt_get hk
    simp only [t_impl_FixCeil, Tr.opt, hG, hF, cond_true, end_eq, hd, if_true]
    congr 1
    cases hn : (narrow (a.val * 4294967296 / b.val)).b
    · simp [end_no]
    · simp only [if_true]
      by_cases hz : a.val * 4294967296 % b.val = 0
      · simp only [hz, if_true]
      · simp only [hz, if_false]
        by_cases hx : (narrow (a.val * 4294967296 / b.val)).a.val = 9223372036854775807
        · simp only [hx, if_true, end_no]
          exact (end_far _ (by rfl)).symm
        · simp only [hx, if_false]
  · have hk1 := div_impl_no (mkW (a.val * 4294967296)) b hd
    have hG1 : G_impl_WideDiv (mkW (a.val * 4294967296)) b = true := by unfold G_impl_WideDiv; rw [hk1]; rfl
    have hF1 : F_impl_WideDiv (mkW (a.val * 4294967296)) b = _ := Tr.opt_get hk1
    have hk : (t_impl_mulDivCeil a ⟨4294967296, rfl⟩ b).opt = some ⟨⟨0, rfl⟩, false⟩ := by
      simp only [t_impl_mulDivCeil, Tr.opt, mul_impl, hlit, hG1, hF1, cond_true, Bool.not_false]
    have hG : G_impl_mulDivCeil a ⟨4294967296, rfl⟩ b = true := by unfold G_impl_mulDivCeil; rw [hk]; rfl
    have hF : F_impl_mulDivCeil a ⟨4294967296, rfl⟩ b = _ := Tr.opt_get hk
    simp only [t_impl_FixCeil, Tr.opt, hG, hF, cond_true, end_eq, hd, if_false, end_no]
theorem fc_spec (a b : I64) : (t_spec_l03Ceil a b).opt = some (FC a b) := by
  have hlit : ((⟨4294967296, rfl⟩ : I64)).val = 4294967296 := rfl
  unfold FC
  by_cases hd : 0 < b.val
  · have h0 : decide (b.val ≤ 0) = false := by simp; omega
    have m1 := Int.emod_nonneg (a.val * 4294967296) (b := b.val) (by omega)
    have m2 := Int.emod_lt_of_pos (a.val * 4294967296) hd
    have m3 := Int.mul_ediv_add_emod (a.val * 4294967296) b.val
    have bb := b.bd
    simp only [t_spec_l03Ceil, Tr.opt, h0, cond_false, md_G_spec, md_F_spec, cond_true, MD, hlit, hd, if_true]
    cases hn : (narrow (a.val * 4294967296 / b.val)).b
    · simp
    · obtain ⟨e, r1, r2⟩ := narrow_yes hn
      simp only [Bool.not_true, cond_false, if_true, e]
      have hp : a.val * 4294967296 / b.val * b.val = b.val * (a.val * 4294967296 / b.val) := Int.mul_comm _ _
      by_cases hz : a.val * 4294967296 % b.val = 0
      · have : ((Rng.w .i64 (a.val * 4294967296 / b.val * b.val)).val != (Rng.w .i64 (a.val * 4294967296)).val) = false := by
          simp only [bne_eq_false_iff_eq]; congr 2; omega
        simp only [this, cond_false, hz, if_true]
      · have : ((Rng.w .i64 (a.val * 4294967296 / b.val * b.val)).val != (Rng.w .i64 (a.val * 4294967296)).val) = true := by
          simp only [bne_iff_ne, ne_eq, ws_val]; omega
        simp only [this, cond_true, hz, if_false]
  · have h0 : decide (b.val ≤ 0) = true := by simp; omega
    simp only [t_spec_l03Ceil, Tr.opt, h0, cond_true, hd, if_false]
theorem ff_F_impl (a b : I64) : F_impl_FixFloor a b = FF a b := Tr.opt_get (ff_impl a b)
theorem ff_F_spec (a b : I64) : F_spec_l03Floor a b = FF a b := Tr.opt_get (ff_spec a b)
theorem ff_G_impl (a b : I64) : G_impl_FixFloor a b = true := by unfold G_impl_FixFloor; rw [ff_impl]; rfl
theorem ff_G_spec (a b : I64) : G_spec_l03Floor a b = true := by unfold G_spec_l03Floor; rw [ff_spec]; rfl
theorem fc_F_impl (a b : I64) : F_impl_FixCeil a b = FC a b := Tr.opt_get (fc_impl a b)
theorem fc_F_spec (a b : I64) : F_spec_l03Ceil a b = FC a b := Tr.opt_get (fc_spec a b)
theorem fc_G_impl (a b : I64) : G_impl_FixCeil a b = true := by unfold G_impl_FixCeil; rw [fc_impl]; rfl
theorem fc_G_spec (a b : I64) : G_spec_l03Ceil a b = true := by unfold G_spec_l03Ceil; rw [fc_spec]; rfl

theorem whole_eq : F_impl_Whole = F_spec_l04Whole := rfl
theorem valid_eq (a : Iv) : F_impl_ValidInterval a = F_spec_l04Ok a := rfl
theorem bounded_eq (lo hi : I64) (b : Bool) : F_impl_bounded lo hi b = bif b then F_spec_l04Make lo hi else F_spec_l04Whole := by
  simp only [F_impl_bounded, t_impl_bounded, F_spec_l04Make, t_spec_l04Make, Tr.get, whole_eq, valid_eq]
  cases b <;> cases F_spec_l04Ok ⟨lo, hi⟩ <;> rfl

noncomputable def QU (a b : I64) : Iv := bif (FF a b).b then (bif (FC a b).b then F_spec_l04Make (FF a b).a (FC a b).a else F_spec_l04Whole) else F_spec_l04Whole
noncomputable def QQ (a b : I64) : Iv := if b.val < 0 then (if a.val = -9223372036854775808 ∨ b.val = -9223372036854775808 then F_spec_l04Whole else QU (.w .i64 (0 - a.val)) (.w .i64 (0 - b.val))) else QU a b
theorem q_impl (a b : I64) : (t_impl_Quotient a b).opt = some (QQ a b) := by
  have ba := a.bd; have bb := b.bd
  unfold QQ
  simp only [t_impl_Quotient, Tr.opt, ff_G_impl, fc_G_impl, ff_F_impl, fc_F_impl, cond_true, bounded_eq, cond_false, whole_eq]
  by_cases hb : b.val < 0
  · simp only [hb, decide_true, cond_true, if_true]
    by_cases h1 : b.val = -9223372036854775808
    · have : decide ((Rng.w .i64 (0 - b.val)).val < 0) = true := by rw [h1]; rfl
      simp only [this, cond_true]
      rw [if_pos (Or.inr h1)]
    · have : decide ((Rng.w .i64 (0 - b.val)).val < 0) = false := by rw [wi (by omega) (by omega)]; simp; omega
      simp only [this, cond_false]
      by_cases h2 : a.val = -9223372036854775808
      · have : ((Rng.w .i64 (0 - a.val)).val == (-9223372036854775808)) = true := by rw [h2]; rfl
        simp only [this, cond_true]
        rw [if_pos (Or.inl h2)]
      · have : ((Rng.w .i64 (0 - a.val)).val == (-9223372036854775808)) = false := by rw [wi (by omega) (by omega)]; simp; omega
        simp only [this, cond_false, h1, h2, or_self, if_false, QU]
        cases (FF (.w .i64 (0 - a.val)) (.w .i64 (0 - b.val))).b <;> rfl
  · simp only [hb, decide_false, cond_false, if_false, QU]
    cases (FF a b).b <;> rfl
theorem q_spec (a b : I64) : (t_spec_Quotient a b).opt = some (QQ a b) := by
  have ba := a.bd; have bb := b.bd
  unfold QQ
  simp only [t_spec_Quotient, Tr.opt, ff_G_spec, fc_G_spec, ff_F_spec, fc_F_spec, cond_true, cond_false]
  by_cases hb : b.val < 0
  · simp only [hb, decide_true, cond_true, if_true]
    by_cases h2 : a.val = -9223372036854775808
    · simp [h2]
    · have : (a.val == (-9223372036854775808)) = false := by simp [h2]
      simp only [this, cond_false]
      by_cases h1 : b.val = -9223372036854775808
      · simp [h1]
      · have : (b.val == (-9223372036854775808)) = false := by simp [h1]
        simp only [this, cond_false, h1, h2, or_self, if_false, QU]
        cases (FF (.w .i64 (0 - a.val)) (.w .i64 (0 - b.val))).b <;> cases (FC (.w .i64 (0 - a.val)) (.w .i64 (0 - b.val))).b <;> rfl
  · simp only [hb, decide_false, cond_false, if_false, QU]
    cases (FF a b).b <;> cases (FC a b).b <;> rfl
theorem q_F_impl (a b : I64) : F_impl_Quotient a b = QQ a b := Tr.opt_get (q_impl a b)
theorem q_F_spec (a b : I64) : F_spec_Quotient a b = QQ a b := Tr.opt_get (q_spec a b)
theorem q_G_impl (a b : I64) : G_impl_Quotient a b = true := by unfold G_impl_Quotient; rw [q_impl]; rfl
theorem q_G_spec (a b : I64) : G_spec_Quotient a b = true := by unfold G_spec_Quotient; rw [q_spec]; rfl

/-! ### heights -/
theorem eqI_refl (a : Iv) : F_laws_eqInterval a a = true := by simp [F_laws_eqInterval, t_laws_eqInterval, Tr.get]
/-! ### longitudes -/
theorem neg_eq (a : Iv) : F_impl_NegI a = F_spec_NegI a := by
  have b1 := a.lo.bd; have b2 := a.hi.bd
  simp only [F_impl_NegI, t_impl_NegI, F_spec_NegI, t_spec_NegI, Tr.get, F_impl_IsWhole, t_impl_IsWhole, valid_eq, whole_eq]
  cases h : F_spec_l04Ok a
  · rfl
  · simp only [Bool.not_true, cond_false]
    have : (-1152921504606846976 < a.lo.val) ∧ a.lo.val ≤ a.hi.val ∧ a.hi.val < 1152921504606846976 := by
      simp only [F_spec_l04Ok, t_spec_l04Ok, Tr.get, Bool.cond_eq_ite] at h
      split at h
      · split at h
        · simp at h; rename_i k1 k2; simp at k1 k2; exact ⟨k1, k2, h⟩
        · cases h
      · cases h
    have e1 : (Rng.w .i64 (0 - a.hi.val)).val = -a.hi.val := by rw [wi (by omega) (by omega)]; omega
    have e2 : (Rng.w .i64 (0 - a.lo.val)).val = -a.lo.val := by rw [wi (by omega) (by omega)]; omega
    have : F_spec_l04Ok ⟨.w .i64 (0 - a.hi.val), .w .i64 (0 - a.lo.val)⟩ = true := by
      simp only [F_spec_l04Ok, t_spec_l04Ok, Tr.get, e1, e2]
      have k1 : decide (-1152921504606846976 < -a.hi.val) = true := by simp; omega
      have k2 : decide (-a.hi.val ≤ -a.lo.val) = true := by simp; omega
      have k3 : decide (-a.lo.val < 1152921504606846976) = true := by simp; omega
      rw [k1, k2, k3]; rfl
    simp only [F_spec_l04Make, t_spec_l04Make, Tr.get, this, Bool.not_true, cond_false]
theorem rad_p (n : I64) (h : 0 ≤ n.val) : (t_impl_RadiansOf_p n).opt = (t_spec_RadiansOf_p n).opt ∧ (t_spec_RadiansOf_p n).opt.isSome = true := by
  have hn : decide (n.val < 0) = false := by simp; omega
  simp only [t_impl_RadiansOf_p, t_spec_RadiansOf_p, Tr.opt, within_eq, in_eq, md_G_impl, md_G_spec, md_F_impl, md_F_spec, cond_true, hn, cond_false, whole_eq]
  have : F_spec_Whole = F_spec_l04Whole := rfl
  rw [this]
  refine ⟨rfl, ?_⟩
  simp only [Bool.cond_eq_ite]
  split
  · rfl
  · split <;> rfl
theorem rad_eq (n : I64) : (t_impl_RadiansOf n).opt = (t_spec_RadiansOf n).opt ∧ (t_spec_RadiansOf n).opt.isSome = true := by
  have b := n.bd
  simp only [t_impl_RadiansOf, t_spec_RadiansOf, Tr.opt, within_eq, in_eq, md_G_impl, md_G_spec, md_F_impl, md_F_spec, cond_true, whole_eq]
  have : F_spec_Whole = F_spec_l04Whole := rfl
  rw [this]
  by_cases hr : -36000000000 ≤ n.val ∧ n.val ≤ 36000000000
  · by_cases hn : n.val < 0
    · have hz : (n.val == 0) = false := by simp; omega
      have e : (Rng.w .i64 (0 - n.val)).val = -n.val := by rw [wi (by omega) (by omega)]; omega
      obtain ⟨h1, h2⟩ := rad_p (.w .i64 (0 - n.val)) (by omega)
      have g1 : G_spec_RadiansOf_p (.w .i64 (0 - n.val)) = true := h2
      have g2 : G_impl_RadiansOf_p (.w .i64 (0 - n.val)) = true := by unfold G_impl_RadiansOf_p; rw [h1]; exact h2
      have f : F_impl_RadiansOf_p (.w .i64 (0 - n.val)) = F_spec_RadiansOf_p (.w .i64 (0 - n.val)) := Tr.opt_get (h1.trans (Tr.get_some h2))
      simp only [hr, hn, hz, g1, g2, f, neg_eq, decide_true, cond_true, cond_false, Bool.not_true, and_self, Option.isSome_some]
    · simp only [hr, hn, decide_true, decide_false, cond_false, and_self, Bool.not_true, true_and]
      generalize (n.val == 0) = d
      cases d <;> rfl
  · simp [hr]
theorem wrap_eq (n : I64) : F_impl_WrapLon n = F_spec_l11Wrap n := by
  have b := n.bd
  have m1 := Int.tmod_lt_of_pos n.val (b := 3600000000) (by decide)
  have m2 : -3600000000 < n.val.tmod 3600000000 := by
    have := Int.lt_tmod_of_pos n.val (b := 3600000000) (by decide); omega
  simp only [F_impl_WrapLon, t_impl_WrapLon, F_spec_l11Wrap, t_spec_l11Wrap, Tr.get]
  have e : (Rng.w .i64 (n.val.tmod 3600000000)).val = n.val.tmod 3600000000 := wi (by omega) (by omega)
  rw [e]
  by_cases h1 : n.val.tmod 3600000000 > 1800000000
  · have e2 : (Rng.w .i64 (n.val.tmod 3600000000 - 3600000000)).val = n.val.tmod 3600000000 - 3600000000 := wi (by omega) (by omega)
    have h2 : decide ((Rng.w .i64 (n.val.tmod 3600000000 - 3600000000)).val ≤ -1800000000) = false := by rw [e2]; simp; omega
    simp only [h1, decide_true, cond_true, h2, cond_false]
  · simp only [h1, decide_false, cond_false]
end Go.Proofs.YtcfflflcbacapaaGreat.Ev
