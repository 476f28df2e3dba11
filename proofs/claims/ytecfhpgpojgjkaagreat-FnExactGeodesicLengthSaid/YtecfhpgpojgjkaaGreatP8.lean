/-
  Plain laws: roots.
-/
import Derived.Test.YtecfhpgpojgjkaaGreatP7
namespace Go.Proofs.YtecfhpgpojgjkaaGreat.Ev
open Go
set_option linter.unusedSimpArgs false
set_option linter.unusedVariables false

theorem root_loop (hi : I64) (lo : U64) : ∀ (k m : Nat) (r : U64) (i : I64), k ≤ 64 → i.val = (k : Int) - 1 →
    ∃ q : U64, (Lf b_spec_l02Root_3 (k + 1 + m) ⟨r, i, hi, lo⟩).opt = some ⟨q, .w .i64 (-1), hi, lo⟩ ∧ (Lf b_impl_WideSqrt_5 (k + 1 + m) ⟨r, i, hi, lo⟩).opt = some ⟨q, .w .i64 (-1), hi, lo⟩ := by
  intro k
  induction k with
  | zero =>
    intro m r i _ hi'
    have h0 : decide (i.val ≥ 0) = false := by simp; omega
    have e : i = .w .i64 (-1) := rext (by rw [wi (by omega) (by omega)]; omega)
    refine ⟨r, ?_, ?_⟩
    · simp only [Lf, b_spec_l02Root_3, h0, Tr.bind, Tr.opt, cond_false, Nat.zero_add, Nat.add_comm 1 m, ← e]
    · simp only [Lf, b_impl_WideSqrt_5, h0, Tr.bind, Tr.opt, cond_false, Nat.zero_add, Nat.add_comm 1 m, ← e]
  | succ k ih =>
    intro m r i hk hi'
    have h0 : decide (i.val ≥ 0) = true := by simp; omega
    have h1 : decide (i.val < 0) = false := by simp; omega
    have en : (Rng.w .u64 i.val).val = i.val := wu (by omega) (by omega)
    have e1 : (Rng.w .i64 (i.val - 1)).val = (k : Int) - 1 := by rw [wi (by omega) (by omega)]; omega
    have hfuel : k + 1 + 1 + m = (k + 1 + m) + 1 := by omega
    obtain ⟨q1, a1, b1⟩ := ih m (Rng.w .u64 (bitop .or .u64 r.val (Rng.w .u64 (1 * (2 ^ min (i.val).toNat 64))).val)) (.w .i64 (i.val - 1)) (by omega) e1
    obtain ⟨q2, a2, b2⟩ := ih m r (.w .i64 (i.val - 1)) (by omega) e1
    rw [hfuel]
    simp only [Lf, b_spec_l02Root_3, b_impl_WideSqrt_5, h0, h1, en, times_spec, times_impl, Tr.bind, Tr.opt, cond_true, cond_false, a1, b1, a2, b2]
    generalize decide ((Rng.w .u64 _).val < _) = c1
    generalize ((Rng.w .u64 _).val == _) = c2
    generalize decide ((Rng.w .u64 _).val ≤ _) = c3
    cases c1
    · cases c2
      · exact ⟨q2, rfl, rfl⟩
      · cases c3
        · exact ⟨q2, rfl, rfl⟩
        · exact ⟨q1, rfl, rfl⟩
    · exact ⟨q1, rfl, rfl⟩
theorem root_ok (w : Wide) : (t_spec_l02Root w).opt = some (F_spec_l02Root w) ∧ (t_impl_WideSqrt w).opt = some (bif decide (w.hi.val < 0) then ⟨⟨0, rfl⟩, false⟩ else ⟨F_spec_l02Root w, true⟩) := by
  obtain ⟨q, h1, h2⟩ := root_loop w.hi w.lo 64 1 ⟨0, rfl⟩ ⟨63, rfl⟩ (by omega) (by rfl)
  have hf : (64 + 1 + 1 : Nat) = 66 := rfl
  rw [hf] at h1 h2
  have g1 : G_spec_l02Root_3 ⟨⟨0, rfl⟩, ⟨63, rfl⟩, w.hi, w.lo⟩ = true := by unfold G_spec_l02Root_3; rw [h1]; rfl
  have g2 : G_impl_WideSqrt_5 ⟨⟨0, rfl⟩, ⟨63, rfl⟩, w.hi, w.lo⟩ = true := by unfold G_impl_WideSqrt_5; rw [h2]; rfl
  have l1 : L_spec_l02Root_3 ⟨⟨0, rfl⟩, ⟨63, rfl⟩, w.hi, w.lo⟩ = _ := Tr.opt_get h1
  have l2 : L_impl_WideSqrt_5 ⟨⟨0, rfl⟩, ⟨63, rfl⟩, w.hi, w.lo⟩ = _ := Tr.opt_get h2
  have k1 : (t_spec_l02Root w).opt = some q := by simp only [t_spec_l02Root, Tr.opt, g1, l1, cond_true]
  have k2 : F_spec_l02Root w = q := Tr.opt_get k1
  refine ⟨by rw [k1, k2], ?_⟩
  simp only [t_impl_WideSqrt, Tr.opt, g2, l2, cond_true, k2]
  cases decide (w.hi.val < 0) <;> rfl
theorem root_G (w : Wide) : G_spec_l02Root w = true := by unfold G_spec_l02Root; rw [(root_ok w).1]; rfl
theorem wsqrt_G (w : Wide) : G_impl_WideSqrt w = true := by unfold G_impl_WideSqrt; rw [(root_ok w).2]; rfl
theorem tt_root_spec (w : Wide) : (t_spec_l02Root w).opt = some (F_spec_l02Root w) := (root_ok w).1
theorem tt_wsqrt_impl (w : Wide) : (t_impl_WideSqrt w).opt = some (F_impl_WideSqrt w) := opt_self (root_ok w).2
theorem tt_sf_spec (a b : I64) : (t_spec_SqrtFloor a b).opt = some (F_spec_SqrtFloor a b) := opt_self2 (by
  simp only [t_spec_SqrtFloor, Tr.opt, root_G, cond_true]
  cases decide (a.val < 0) <;> cases decide (b.val < 0) <;> rfl)
theorem tt_sf_impl (a b : I64) : (t_impl_SqrtFloor a b).opt = some (F_impl_SqrtFloor a b) := opt_self2 (by
  simp only [t_impl_SqrtFloor, Tr.opt, wsqrt_G, cond_true]
  cases decide (a.val < 0) <;> cases decide (b.val < 0) <;> rfl)
theorem sf_G_spec (a b : I64) : G_spec_SqrtFloor a b = true := by unfold G_spec_SqrtFloor; rw [tt_sf_spec]; rfl
theorem sf_G_impl (a b : I64) : G_impl_SqrtFloor a b = true := by unfold G_impl_SqrtFloor; rw [tt_sf_impl]; rfl
theorem tt_sd_spec (a : I64) : (t_spec_l03SqrtDown a).opt = some (F_spec_l03SqrtDown a) := opt_self2 (by
  simp only [t_spec_l03SqrtDown, Tr.opt, sf_G_spec, cond_true]
  cases F_spec_l00In a ⟨0, rfl⟩ ⟨1152921504606846976, rfl⟩ <;> rfl)
theorem tt_sd_impl (a : I64) : (t_impl_SqrtDown a).opt = some (F_impl_SqrtDown a) := opt_self2 (by
  simp only [t_impl_SqrtDown, Tr.opt, sf_G_impl, cond_true]
  cases F_impl_ValidFix a <;> rfl)
theorem sd_G_spec (a : I64) : G_spec_l03SqrtDown a = true := by unfold G_spec_l03SqrtDown; rw [tt_sd_spec]; rfl
theorem sd_G_impl (a : I64) : G_impl_SqrtDown a = true := by unfold G_impl_SqrtDown; rw [tt_sd_impl]; rfl
theorem cond_some {γ : Type} (c : Bool) (x y : Option γ) (hx : x.isSome = true) (hy : y.isSome = true) : (bif c then x else y).isSome = true := by cases c <;> assumption
theorem tt_su_spec (a : I64) : (t_spec_l03SqrtUp a).opt = some (F_spec_l03SqrtUp a) := opt_self2 (by
  simp only [t_spec_l03SqrtUp, Tr.opt, sd_G_spec, cond_true]
  repeat' (first | apply cond_some | rfl))
theorem tt_su_impl (a : I64) : (t_impl_SqrtUp a).opt = some (F_impl_SqrtUp a) := opt_self2 (by
  simp only [t_impl_SqrtUp, Tr.opt, sd_G_impl, cond_true]
  repeat' (first | apply cond_some | rfl))
theorem su_G_spec (a : I64) : G_spec_l03SqrtUp a = true := by unfold G_spec_l03SqrtUp; rw [tt_su_spec]; rfl
theorem su_G_impl (a : I64) : G_impl_SqrtUp a = true := by unfold G_impl_SqrtUp; rw [tt_su_impl]; rfl
theorem tt_sqrtI_spec (a : Iv) : (t_spec_SqrtI a).opt = some (F_spec_SqrtI a) := opt_self2 (by
  simp only [t_spec_SqrtI, Tr.opt, sd_G_spec, su_G_spec, cond_true]
  repeat' (first | apply cond_some | rfl))
theorem tt_sqrtI_impl (a : Iv) : (t_impl_SqrtI a).opt = some (F_impl_SqrtI a) := opt_self2 (by
  simp only [t_impl_SqrtI, Tr.opt, sd_G_impl, su_G_impl, cond_true]
  repeat' (first | apply cond_some | rfl))
end Go.Proofs.YtecfhpgpojgjkaaGreat.Ev
