/-
  Valid projections; the law of the texts of projections.
-/
import Derived.Test.YtegdoadciojpaaaDoorKP7
namespace Go.Proofs.YtegdoadciojpaaaDoor.Ev
open Go Go.RowKit
set_option maxRecDepth 100000
set_option linter.unusedSimpArgs false
set_option linter.unusedVariables false
theorem wi {n : Int} (h : -9223372036854775808 ≤ n) (h' : n ≤ 9223372036854775807) : (Rng.w .i64 n).val = n := wrap_inB (k := .i64) (by simp [inB, h, h'])
theorem within_eq (a b c : I64) : F_impl_within a b c = decide (b.val ≤ a.val ∧ a.val ≤ c.val) := by
  simp only [F_impl_within, t_impl_within, Tr.get, ge_iff_le]
  by_cases h : b.val ≤ a.val <;> simp [h]
theorem in_eq (a b c : I64) : F_spec_l00In a b c = decide (b.val ≤ a.val ∧ a.val ≤ c.val) := by
  simp only [F_spec_l00In, t_spec_l00In, Tr.get, ge_iff_le]
  by_cases h : b.val ≤ a.val <;> simp [h]
theorem point_eq (p : Point) : F_impl_ValidPoint p = F_spec_l11Ok p := by
  simp only [F_impl_ValidPoint, F_spec_l11Ok, t_impl_ValidPoint, t_spec_l11Ok, Tr.get, within_eq, in_eq]
  rw [Bool.eq_iff_iff]
  simp [Bool.cond_eq_ite]
  grind
theorem abs_val (n : I64) (h : -9223372036854775807 ≤ n.val) : (F_impl_abs n).val = if n.val < 0 then -n.val else n.val := by
  have b := n.bd
  simp only [F_impl_abs, t_impl_abs, Tr.get, mx]
  rw [wi (by omega) (by omega)]
  by_cases h0 : n.val < 0
  · have e : decide (0 - n.val > n.val) = true := by simp; omega
    rw [e, cond_true, wi (by omega) (by omega)]; simp [h0]
  · have e : decide (0 - n.val > n.val) = false := by simp; omega
    rw [e, cond_false]; simp [h0]

theorem proj_eq (p : Proj) : F_impl_ValidProjection p = F_spec_l17Ok p := by
  simp only [F_impl_ValidProjection, t_impl_ValidProjection, F_spec_l17Ok, t_spec_l17Ok, Tr.get, point_eq, F_spec_l17Standard, t_spec_l17Standard,
    F_impl_isStandard, t_impl_isStandard, F_impl_isConic, t_impl_isConic, F_impl_isAzimuthal, t_impl_isAzimuthal, within_eq, in_eq]
  generalize F_spec_l11Ok ⟨p.lat0, p.lon0⟩ = ok
  cases ok
  · simp
  by_cases h1 : -890000000 ≤ p.lat1.val ∧ p.lat1.val ≤ 890000000
  case neg => simp [h1]
  by_cases h2 : -890000000 ≤ p.lat2.val ∧ p.lat2.val ≤ 890000000
  case neg => simp [h1, h2]
  have hm : (Rng.w .i64 (p.lat1.val + p.lat2.val)).val = p.lat1.val + p.lat2.val := wi (by omega) (by omega)
  have ha := abs_val (Rng.w .i64 (p.lat1.val + p.lat2.val)) (by rw [hm]; omega)
  rw [hm] at ha
  rw [ha, hm]
  by_cases hk : 1 ≤ p.kind.val ∧ p.kind.val ≤ 16
  case neg =>
    have e : ∀ n : Int, 1 ≤ n → n ≤ 16 → (p.kind.val == n) = false := fun n a b => by simp; omega
    simp [h1, h2, hk, e]
  have : p.kind.val = 1 ∨ p.kind.val = 2 ∨ p.kind.val = 3 ∨ p.kind.val = 4 ∨ p.kind.val = 5 ∨ p.kind.val = 6 ∨ p.kind.val = 7 ∨ p.kind.val = 8 ∨ p.kind.val = 9 ∨ p.kind.val = 10 ∨ p.kind.val = 11 ∨
    p.kind.val = 12 ∨ p.kind.val = 13 ∨ p.kind.val = 14 ∨ p.kind.val = 15 ∨ p.kind.val = 16 := by omega
  rcases this with h | h | h | h | h | h | h | h | h | h | h | h | h | h | h | h <;> simp only [h] <;> simp [h1, h2] <;> (try rw [Bool.eq_iff_iff]) <;> simp [Bool.cond_eq_ite] <;> (try split) <;> (try omega) <;> grind

theorem kind_ok {p : Proj} (h : F_impl_ValidProjection p = true) : kG p.kind = true := by
  simp only [F_impl_ValidProjection, t_impl_ValidProjection, Tr.get] at h
  cases hw : F_impl_within p.kind ⟨1, rfl⟩ ⟨16, rfl⟩
  · rw [hw] at h; simp at h
  · rw [within_eq] at hw; simpa [kG] using hw
noncomputable def pjB (p : Proj) : ByteArray := bif F_spec_l17Ok p then txP p else ⟨#[]⟩
theorem f14 (p : Proj) : Tb14.run B14 [enc p] ByteArray = some (pjB p) := by
  rw [r14]; unfold pjB; rw [proj_eq]
  cases h : F_spec_l17Ok p
  · rfl
  · rw [kind_ok (by rw [proj_eq]; exact h)]; rfl
theorem f12 (p : Proj) : Tb12.run B12 [enc p] ByteArray = some (pjB p) := by
  rw [r12]; unfold pjB
  cases h : F_spec_l17Ok p
  · rfl
  · rw [kind_ok (by rw [proj_eq]; exact h)]; rfl
noncomputable def E_impl_ProjectionText : Ent Tryd.prog := .of1 Tb14 B14 (fun _ => true) pjB fun p _ => f14 p
noncomputable def E_spec_ProjectionText : Ent Tryd.prog := .of1 Tb12 B12 (fun _ => true) pjB fun p _ => f12 p
noncomputable def Tb5 : Tb Tryd.prog := { T := [Y2, Y9, Y27, Y29], mix := mix, Es := [E_laws_toProjection, E_spec_ProjectionText, E_impl_ProjectionText], Bs := [], d := 1 }
theorem law_FnExactProjectionText (p : Proj) : Tb5.run B5 [enc p] Bool = some true := by
  have h : Tb5.run B5 [enc p] Bool = bif !(eqStr (pjB (F_laws_toProjection p)) (pjB (F_laws_toProjection p))) then some false else some true := by kernel_rfl
  rw [h, eqStr_refl]; rfl
end Go.Proofs.YtegdoadciojpaaaDoor.Ev
