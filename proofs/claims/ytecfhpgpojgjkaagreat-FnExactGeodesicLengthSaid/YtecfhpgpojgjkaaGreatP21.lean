/-
  Plain laws: the exponential of a fix: its series in a box.
-/
import Derived.Test.YtecfhpgpojgjkaaGreatPL
namespace Go.Proofs.YtecfhpgpojgjkaaGreat.Ev
open Go
set_option linter.unusedSimpArgs false
set_option linter.unusedVariables false

theorem quoS {x m : Int} (hx : -4294967296 ≤ x ∧ x ≤ 4294967296) (hm : 1 ≤ m) : -4294967296 ≤ x * 4294967296 / (m * 4294967296) ∧ x * 4294967296 / (m * 4294967296) ≤ 4294967296 ∧ -4294967296 ≤ -x * 4294967296 / (m * 4294967296) ∧ -x * 4294967296 / (m * 4294967296) ≤ 4294967296 ∧
    x * 4294967296 / (m * 4294967296) ≤ -(-x * 4294967296 / (m * 4294967296)) := by
  rw [Int.mul_ediv_mul_of_pos_left _ _ (by decide), Int.mul_ediv_mul_of_pos_left _ _ (by decide)]
  have h1 := ediv_bd (M := 4294967296) (N := x) (d := m) (by omega) (by omega) (by omega)
  have h3 := ediv_bd (M := 4294967296) (N := -x) (d := m) (by omega) (by omega) (by omega)
  have h4 : -x / m ≤ -(x / m) := by
    have e1 := Int.mul_ediv_add_emod x m
    have e2 := Int.emod_nonneg x (show m ≠ 0 by omega)
    have hh : -x ≤ m * -(x / m) := by rw [Int.mul_neg]; omega
    have h5 : -x / m ≤ (m * -(x / m)) / m := Int.ediv_le_ediv (by omega) hh
    rw [Int.mul_ediv_cancel_left _ (by omega)] at h5
    exact h5
  omega
/-- From -1 to 1. -/
def InR (a : Iv) : Prop := -4294967296 ≤ a.lo.val ∧ a.lo.val ≤ a.hi.val ∧ a.hi.val ≤ 4294967296
theorem InR.ok {a : Iv} (h : InR a) : F_spec_l04Ok a = true := (okiff a).2 (by unfold InR at h; omega)
theorem divS {y : Iv} {n : I64} (hy : InR y) (hn : 1 ≤ n.val ∧ n.val ≤ 1000000) : InR (F_spec_DivI y (F_spec_Integer n)) := by
  have h1 := hy
  unfold InR at h1
  rw [int_val (by omega)]
  have ev : (Rng.w .i64 (n.val * 4294967296)).val = n.val * 4294967296 := wi (by omega) (by omega)
  obtain ⟨lo, hi, e, h⟩ := divI_in (a := y) (b := ⟨.w .i64 (n.val * 4294967296), .w .i64 (n.val * 4294967296)⟩) (L := -4294967296) (H := 4294967296) hy.ok ((okiff _).2 (by simp only [ev]; omega))
    (by simp only [F_spec_l04Has, t_spec_l04Has, Tr.get, in_eq, ev]; simp; omega) (by decide) (by decide) (fun x z hx hz => by
      have hz' : z = .w .i64 (n.val * 4294967296) := by rcases hz with h | h <;> exact h
      subst hz'
      have hx1 : -4294967296 ≤ x.val ∧ x.val ≤ 4294967296 := by rcases hx with rfl | rfl <;> omega
      obtain ⟨q1, q2, q3, q4, q5⟩ := quoS hx1 hn.1
      have en : (Rng.w .i64 (0 - x.val)).val = -x.val := by rw [wi (by omega) (by omega)]; omega
      have m1 : MD x ⟨4294967296, rfl⟩ (.w .i64 (n.val * 4294967296)) = ⟨.w .i64 (x.val * 4294967296 / (n.val * 4294967296)), true⟩ := by
        unfold MD; rw [if_pos (by rw [ev]; omega), ev]; exact narrow_ok (v := x.val * 4294967296 / (n.val * 4294967296)) (by omega) (by omega)
      have m2 : MD (.w .i64 (0 - x.val)) ⟨4294967296, rfl⟩ (.w .i64 (n.val * 4294967296)) = ⟨.w .i64 (-x.val * 4294967296 / (n.val * 4294967296)), true⟩ := by
        unfold MD; rw [if_pos (by rw [ev]; omega), ev, en]; exact narrow_ok (v := -x.val * 4294967296 / (n.val * 4294967296)) (by omega) (by omega)
      have o1 : F_spec_l03Ok x = true := ok3 (by omega)
      have o2 : F_spec_l03Ok (.w .i64 (0 - x.val)) = true := ok3 (by rw [en]; omega)
      have o3 : F_spec_l03Ok (.w .i64 (n.val * 4294967296)) = true := ok3 (by rw [ev]; omega)
      have z0 : ((Rng.w .i64 (n.val * 4294967296)).val == 0) = false := by rw [ev]; simp; omega
      have z1 : decide ((Rng.w .i64 (n.val * 4294967296)).val < 0) = false := by rw [ev]; simp; omega
      have d1 : F_spec_l03DivDown x (.w .i64 (n.val * 4294967296)) = ⟨.w .i64 (x.val * 4294967296 / (n.val * 4294967296)), true⟩ := by
        simp only [F_spec_l03DivDown, t_spec_l03DivDown, Tr.get, o1, o3, z0, z1, Bool.not_true, cond_false, md_F_spec, m1]
        rw [end_ok (by rw [wi (by omega) (by omega)]; omega)]
      have d2 : F_spec_l03DivDown (.w .i64 (0 - x.val)) (.w .i64 (n.val * 4294967296)) = ⟨.w .i64 (-x.val * 4294967296 / (n.val * 4294967296)), true⟩ := by
        simp only [F_spec_l03DivDown, t_spec_l03DivDown, Tr.get, o2, o3, z0, z1, Bool.not_true, cond_false, md_F_spec, m2]
        rw [end_ok (by rw [wi (by omega) (by omega)]; omega)]
      have d3 : F_spec_l03DivUp x (.w .i64 (n.val * 4294967296)) = ⟨.w .i64 (0 - -x.val * 4294967296 / (n.val * 4294967296)), true⟩ := by
        simp only [F_spec_l03DivUp, t_spec_l03DivUp, Tr.get, o1, d2, Bool.not_true, cond_false]
        rw [wi (n := -x.val * 4294967296 / (n.val * 4294967296)) (by omega) (by omega)]
      refine ⟨_, _, d1, d3, ?_, ?_, ?_⟩
      · rw [wi (by omega) (by omega)]; omega
      · rw [wi (by omega) (by omega), wi (by omega) (by omega)]; omega
      · rw [wi (by omega) (by omega)]; omega)
  rw [e]; exact h
theorem md_boxS {x y : I64} (hx : -2147483648 ≤ x.val ∧ x.val ≤ 2147483648) (hy : 0 ≤ y.val ∧ y.val ≤ 8589934592) :
    ∃ d u, F_spec_l03MulDown x y = ⟨d, true⟩ ∧ F_spec_l03MulUp x y = ⟨u, true⟩ ∧ -4294967296 ≤ d.val ∧ d.val ≤ u.val ∧ u.val ≤ 4294967296 := by
  have h1 : x.val * y.val ≤ 2147483648 * 8589934592 := by
    by_cases h : 0 ≤ x.val
    · exact Int.mul_le_mul hx.2 hy.2 hy.1 (by decide)
    · have := Int.mul_nonneg (show 0 ≤ -x.val by omega) hy.1
      rw [Int.neg_mul] at this; omega
  have h2 : -(2147483648 * 8589934592) ≤ x.val * y.val := by
    by_cases h : 0 ≤ x.val
    · have := Int.mul_nonneg h hy.1; omega
    · have := Int.mul_le_mul (a := -x.val) (b := y.val) (c := 2147483648) (d := 8589934592) (by omega) hy.2 hy.1 (by decide)
      rw [Int.neg_mul] at this; omega
  have e1 := muldown_val (a := x) (b := y) (ok3 (by omega)) (ok3 (by omega)) (by omega)
  have e2 := mulup_val (a := x) (b := y) (ok3 (by omega)) (ok3 (by omega)) (by omega)
  refine ⟨_, _, e1, e2, ?_, ?_, ?_⟩
  · rw [wi (by omega) (by omega)]; omega
  · rw [wi (by omega) (by omega), wi (by omega) (by omega)]; omega
  · rw [wi (by omega) (by omega)]; omega
/-- From 0 to 2. -/
def In02 (a : Iv) : Prop := 0 ≤ a.lo.val ∧ a.lo.val ≤ a.hi.val ∧ a.hi.val ≤ 8589934592
/-- From -1/2 to 1/2. -/
def InH (a : Iv) : Prop := -2147483648 ≤ a.lo.val ∧ a.lo.val ≤ a.hi.val ∧ a.hi.val ≤ 2147483648
theorem In02.ok {a : Iv} (h : In02 a) : F_spec_l04Ok a = true := (okiff a).2 (by unfold In02 at h; omega)
theorem InH.ok {a : Iv} (h : InH a) : F_spec_l04Ok a = true := (okiff a).2 (by unfold InH at h; omega)
theorem mulS {a b : Iv} (ha : InH a) (hb : In02 b) : InR (F_spec_MulI a b) := by
  have h1 := ha; have h2 := hb
  unfold InH at h1; unfold In02 at h2
  obtain ⟨lo, hi, e, h⟩ := mulI_in (L := -4294967296) (H := 4294967296) ha.ok hb.ok (by decide) (by decide) (fun x y hx hy => by
    obtain ⟨d, u, k1, k2, k3, k4, k5⟩ := md_boxS (x := x) (y := y) (by rcases hx with rfl | rfl <;> omega) (by rcases hy with rfl | rfl <;> omega)
    exact ⟨d, u, k1, k2, k3, k4, k5⟩)
  rw [e]; exact h
theorem oneVal : F_spec_l08One = ⟨⟨4294967296, rfl⟩, ⟨4294967296, rfl⟩⟩ := by rw [← one_eq, int_val (by decide)]; rfl
theorem addS {a : Iv} (ha : InR a) : In02 (F_spec_AddI F_spec_l08One a) := by
  have h1 := ha
  unfold InR at h1
  have o1 : F_spec_l04Ok ⟨⟨4294967296, rfl⟩, ⟨4294967296, rfl⟩⟩ = true := (okiff _).2 (by decide)
  rw [oneVal]
  simp only [F_spec_AddI, t_spec_AddI, Tr.get, o1, ha.ok, Bool.not_true, cond_false]
  have k1 : (Rng.w .i64 (4294967296 + a.lo.val)).val = 4294967296 + a.lo.val := wi (by omega) (by omega)
  have k2 : (Rng.w .i64 (4294967296 + a.hi.val)).val = 4294967296 + a.hi.val := wi (by omega) (by omega)
  rw [make_ok (by rw [k1, k2]; omega)]
  unfold In02
  simp only [k1, k2]
  omega
noncomputable def expS (r : Iv) (n : I64) (p : Iv) : Iv := F_spec_AddI F_spec_l08One (F_spec_DivI (F_spec_MulI r p) (F_spec_Integer n))
theorem stepS {r p : Iv} {n : I64} (hr : InH r) (hp : In02 p) (hn : 1 ≤ n.val ∧ n.val ≤ 1000000) : In02 (expS r n p) := addS (divS (mulS hr hp) hn)
theorem one02 : In02 F_spec_l08One := by rw [oneVal]; unfold In02; decide
noncomputable def expP (r : Iv) : Iv := expS r ⟨1, rfl⟩ (expS r ⟨2, rfl⟩ (expS r ⟨3, rfl⟩ (expS r ⟨4, rfl⟩ (expS r ⟨5, rfl⟩ (expS r ⟨6, rfl⟩ (expS r ⟨7, rfl⟩ (expS r ⟨8, rfl⟩ (expS r ⟨9, rfl⟩ F_spec_l08One))))))))
theorem expP_in {r : Iv} (hr : InH r) : In02 (expP r) := by
  unfold expP
  repeat' (first | exact one02 | refine stepS hr ?_ (by decide))
theorem widen_in {p : Iv} (h : In02 p) : F_spec_l08Widen p ⟨1, rfl⟩ = ⟨.w .i64 (p.lo.val - 1), .w .i64 (p.hi.val + 1)⟩ ∧ (Rng.w .i64 (p.lo.val - 1)).val = p.lo.val - 1 ∧ (Rng.w .i64 (p.hi.val + 1)).val = p.hi.val + 1 := by
  have h1 := h
  unfold In02 at h1
  have k1 : (Rng.w .i64 (p.lo.val - 1)).val = p.lo.val - 1 := wi (by omega) (by omega)
  have k2 : (Rng.w .i64 (p.hi.val + 1)).val = p.hi.val + 1 := wi (by omega) (by omega)
  refine ⟨?_, k1, k2⟩
  simp only [F_spec_l08Widen, t_spec_l08Widen, Tr.get, h.ok, Bool.not_true, cond_false]
  exact make_ok (by rw [k1, k2]; omega)

/-! ### the multiples of the logarithm of 2 -/
theorem logp_val (k : I64) (h : 0 ≤ k.val) (h' : k.val ≤ 64) : ∃ x : Iv, (t_spec_LogTwoI_p k).opt = some x ∧ F_spec_l04Ok x = true ∧ k.val * 2977044472 - 64 ≤ x.lo.val ∧ x.lo.val ≤ x.hi.val ∧ x.hi.val ≤ k.val * 2977044472 + 64 := by
  have hi : F_spec_l00In k ⟨(-64), rfl⟩ ⟨64, rfl⟩ = true := by rw [in_eq]; simp; omega
  have hn : decide (k.val < 0) = false := by simp; omega
  obtain ⟨e1, e2, b1, b2, b3⟩ := log_lo h h'
  have v1 : (Rng.w .i64 (k.val * 1598288580650331957 / 536870912)).val = k.val * 1598288580650331957 / 536870912 := wi (by omega) (by omega)
  have v2 : (Rng.w .i64 ((0 - k.val) * 1598288580650331958 / 536870912)).val = (0 - k.val) * 1598288580650331958 / 536870912 := wi (by omega) (by omega)
  have v3 : (Rng.w .i64 (0 - (0 - k.val) * 1598288580650331958 / 536870912)).val = 0 - (0 - k.val) * 1598288580650331958 / 536870912 := wi (by omega) (by omega)
  have hok : -1152921504606846976 < (Rng.w .i64 (k.val * 1598288580650331957 / 536870912)).val ∧ (Rng.w .i64 (k.val * 1598288580650331957 / 536870912)).val ≤ (Rng.w .i64 (0 - (Rng.w .i64 ((0 - k.val) * 1598288580650331958 / 536870912)).val)).val ∧ (Rng.w .i64 (0 - (Rng.w .i64 ((0 - k.val) * 1598288580650331958 / 536870912)).val)).val < 1152921504606846976 := by
    rw [v1, v2, v3]; omega
  refine ⟨⟨.w .i64 (k.val * 1598288580650331957 / 536870912), .w .i64 (0 - (Rng.w .i64 ((0 - k.val) * 1598288580650331958 / 536870912)).val)⟩, ?_, (okiff _).2 hok, ?_, hok.2.1, ?_⟩
  · simp only [t_spec_LogTwoI_p, Tr.opt, hi, hn, Bool.not_true, cond_false, e1, e2]
    rw [make_ok hok]
  · simp only [v1]; omega
  · simp only [v2, v3]; omega
theorem log2_val (k : I64) (h : -64 ≤ k.val ∧ k.val ≤ 64) : k.val * 2977044472 - 64 ≤ (F_spec_LogTwoI k).lo.val ∧ (F_spec_LogTwoI k).lo.val ≤ (F_spec_LogTwoI k).hi.val ∧ (F_spec_LogTwoI k).hi.val ≤ k.val * 2977044472 + 64 := by
  have hi : F_spec_l00In k ⟨(-64), rfl⟩ ⟨64, rfl⟩ = true := by rw [in_eq]; simpa using h
  by_cases hn : k.val < 0
  · have e1 : (Rng.w .i64 (0 - k.val)).val = 0 - k.val := wi (by omega) (by omega)
    obtain ⟨x, h1, h2, h3, h4, h5⟩ := logp_val (.w .i64 (0 - k.val)) (by omega) (by omega)
    have g1 : G_spec_LogTwoI_p (.w .i64 (0 - k.val)) = true := by unfold G_spec_LogTwoI_p; rw [h1]; rfl
    have f1 : F_spec_LogTwoI_p (.w .i64 (0 - k.val)) = x := Tr.opt_get h1
    have hd : decide (k.val < 0) = true := by simpa using hn
    have e : F_spec_LogTwoI k = F_spec_NegI x := Tr.opt_get (by simp only [t_spec_LogTwoI, Tr.opt, hi, hd, g1, f1, cond_true, cond_false, Bool.not_true])
    have hb := (okiff x).1 h2
    rw [e, neg_ok_val h2]
    simp only
    rw [wi (n := 0 - x.hi.val) (by omega) (by omega), wi (n := 0 - x.lo.val) (by omega) (by omega)]
    rw [e1] at h3 h5
    omega
  · obtain ⟨x, h1, h2, h3, h4, h5⟩ := logp_val k (by omega) (by omega)
    have hd : decide (k.val < 0) = false := by simpa using hn
    have e : F_spec_LogTwoI k = x := Tr.opt_get (by
      simp only [t_spec_LogTwoI_p, Tr.opt, hd] at h1
      simp only [t_spec_LogTwoI, Tr.opt, hd]
      exact h1)
    rw [e]
    exact ⟨h3, h4, h5⟩
theorem atV {n : I64} (h : -1152921504606846976 < n.val ∧ n.val < 1152921504606846976) : F_spec_l08At n = ⟨n, n⟩ := by
  simp only [F_spec_l08At, t_spec_l08At, Tr.get]
  exact make_ok ⟨h.1, by omega, h.2⟩
theorem rest_in {n k : I64} (hn : -98784247808 ≤ n.val ∧ n.val ≤ 85899345920) (hk : k.val = (2 * n.val + 2977044472) / 5954088944) : InH (F_spec_SubI (F_spec_l08At n) (F_spec_LogTwoI k)) := by
  have hl := log2_val k (by omega)
  have o1 : F_spec_l04Ok ⟨n, n⟩ = true := (okiff _).2 (by simp only; omega)
  have o2 : F_spec_l04Ok (F_spec_LogTwoI k) = true := (okiff _).2 (by omega)
  rw [atV (by omega)]
  simp only [F_spec_SubI, t_spec_SubI, Tr.get, o1, o2, Bool.not_true, cond_false]
  have k1 : (Rng.w .i64 (n.val - (F_spec_LogTwoI k).hi.val)).val = n.val - (F_spec_LogTwoI k).hi.val := wi (by omega) (by omega)
  have k2 : (Rng.w .i64 (n.val - (F_spec_LogTwoI k).lo.val)).val = n.val - (F_spec_LogTwoI k).lo.val := wi (by omega) (by omega)
  rw [make_ok (by rw [k1, k2]; omega)]
  unfold InH
  simp only [k1, k2]
  omega
end Go.Proofs.YtecfhpgpojgjkaaGreat.Ev
