/-
  Plain laws: intervals: what is inside stays inside: squares, roots, quotients by what is positive, arcs.
-/
import Derived.Test.YtecfhpgpojgjkaaGreatP34
namespace Go.Proofs.YtecfhpgpojgjkaaGreat.Ev
open Go
set_option linter.unusedSimpArgs false
set_option linter.unusedVariables false

/-! ### squares -/
theorem sqrI_val {a : Iv} (h : F_spec_l04Ok (F_spec_SqrI a) = true) : F_spec_l04Ok a = true ∧ (F_spec_SqrI a).lo.val = (F_spec_l04Ends a).a.val * (F_spec_l04Ends a).a.val / 4294967296 ∧ (F_spec_SqrI a).hi.val = -(-((F_spec_l04Ends a).b.val * (F_spec_l04Ends a).b.val) / 4294967296) := by
  have nw : ∀ {P : Prop}, F_spec_l04Ok F_spec_l04Whole = true → P := fun h => by rw [whole_no] at h; cases h
  simp only [F_spec_SqrI, t_spec_SqrI, Tr.get] at h ⊢
  cases ha : F_spec_l04Ok a
  · rw [ha] at h; exact nw h
  simp only [ha, Bool.not_true, cfl] at h ⊢
  cases h1 : (F_spec_l03MulDown (F_spec_l04Ends a).a (F_spec_l04Ends a).a).b
  · rw [h1] at h; exact nw h
  cases h2 : (F_spec_l03MulUp (F_spec_l04Ends a).b (F_spec_l04Ends a).b).b
  · rw [h1, h2] at h; exact nw h
  simp only [h1, h2, Bool.not_true, cfl] at h ⊢
  have v1 := muldown_true h1
  have v2 := mulup_true h2
  generalize (F_spec_l03MulDown (F_spec_l04Ends a).a (F_spec_l04Ends a).a).a = lo at *
  generalize (F_spec_l03MulUp (F_spec_l04Ends a).b (F_spec_l04Ends a).b).a = hi at *
  by_cases hm : -1152921504606846976 < lo.val ∧ lo.val ≤ hi.val ∧ hi.val < 1152921504606846976
  · rw [make_ok hm]; exact ⟨trivial, v1, v2⟩
  · rw [make_no hm] at h; exact nw h
theorem sqrI_mk {a : Iv} {H : Int} (ha : F_spec_l04Ok a = true) (hH : H < 1152921504606846976) (h : -(-((F_spec_l04Ends a).b.val * (F_spec_l04Ends a).b.val) / 4294967296) ≤ H) : F_spec_l04Ok (F_spec_SqrI a) = true := by
  have hl := ends_lim ha ha (Int.le_refl _) (Int.le_refl _)
  have hba := (okiff _).1 ha
  obtain ⟨p, q, e, h1, h2, h3⟩ := ends_val ha
  rw [e] at h hl
  simp only at h hl
  have hpq : p.val * p.val ≤ q.val * q.val := Int.mul_le_mul h2 h2 h1 (by omega)
  have hpp := Int.mul_nonneg h1 h1
  have c1 := muldown_val (a := p) (b := p) (ok3 (by omega)) (ok3 (by omega)) (by omega)
  have c2 := mulup_val (a := q) (b := q) (ok3 (by omega)) (ok3 (by omega)) (by omega)
  have w1 : (Rng.w .i64 (p.val * p.val / 4294967296)).val = p.val * p.val / 4294967296 := wi (by omega) (by omega)
  have w2 : (Rng.w .i64 (0 - -(q.val * q.val) / 4294967296)).val = 0 - -(q.val * q.val) / 4294967296 := wi (by omega) (by omega)
  simp only [F_spec_SqrI, t_spec_SqrI, Tr.get, ha, e, c1, c2, Bool.not_true, cfl]
  rw [make_ok (by rw [w1, w2]; omega)]
  exact (okiff _).2 (by simp only [w1, w2]; omega)
theorem Sub.sqr {a a' : Iv} (ha : Sub a a') : Sub (F_spec_SqrI a) (F_spec_SqrI a') := fun h => by
  obtain ⟨oa', e1, e2⟩ := sqrI_val h
  obtain ⟨oa, a1, a2⟩ := ha oa'
  have hM := (okiff _).1 h
  have hl := ends_lim oa oa' a1 a2
  have s1 : (F_spec_l04Ends a').a.val * (F_spec_l04Ends a').a.val ≤ (F_spec_l04Ends a).a.val * (F_spec_l04Ends a).a.val := Int.mul_le_mul hl.2.1 hl.2.1 hl.1 (by omega)
  have s2 : (F_spec_l04Ends a).b.val * (F_spec_l04Ends a).b.val ≤ (F_spec_l04Ends a').b.val * (F_spec_l04Ends a').b.val := Int.mul_le_mul hl.2.2.2 hl.2.2.2 (by omega) (by omega)
  have k := sqrI_mk (H := (F_spec_SqrI a').hi.val) oa (by omega) (by omega)
  obtain ⟨_, v1, v2⟩ := sqrI_val k
  exact ⟨k, by omega, by omega⟩

/-! ### roots -/
theorem su_val2 (a : I64) (ha : 0 ≤ a.val ∧ a.val ≤ 1152921504606846976) : ∃ q p : I64, F_spec_l03SqrtDown a = ⟨q, true⟩ ∧ F_spec_l03SqrtUp a = ⟨p, true⟩ ∧ 0 ≤ q.val ∧ q.val ≤ 70368744177664 ∧ q.val * q.val ≤ a.val * 4294967296 ∧ a.val * 4294967296 < (q.val + 1) * (q.val + 1) ∧ q.val ≤ p.val ∧ p.val ≤ q.val + 1 ∧ a.val * 4294967296 ≤ p.val * p.val ∧ (q.val < p.val → q.val * q.val < a.val * 4294967296) := by
  obtain ⟨q, h1, h2, h3, h4, h5, h6⟩ := sd_val a ha
  have e1 : (Rng.w .i64 (q.val + 1)).val = q.val + 1 := wi (by omega) (by omega)
  have hqq := Int.mul_nonneg h3 h3
  have hmf : F_spec_MulFloor q q ⟨32, rfl⟩ = ⟨.w .i64 (q.val * q.val / 4294967296), true⟩ := by rw [mf32]; exact narrow_ok (by omega) (by omega)
  have hmv : (Rng.w .i64 (q.val * q.val / 4294967296)).val = q.val * q.val / 4294967296 := wi (by omega) (by omega)
  have hmask : (Rng.w .i64 (bitop .and .i64 (Rng.w .i64 (q.val * q.val)).val 4294967295)).val = q.val * q.val % 4294967296 := by rw [and_mask_i, ws_val]; omega
  by_cases hx : q.val * q.val = a.val * 4294967296
  · refine ⟨q, q, h1, ?_, h3, h4, h5, h6, Int.le_refl _, by omega, by omega, fun h => by omega⟩
    have k1 : (q.val * q.val / 4294967296 != a.val) = false := by simp; omega
    have k2 : (q.val * q.val % 4294967296 != 0) = false := by simp; omega
    simp only [F_spec_l03SqrtUp, t_spec_l03SqrtUp, Tr.get, sd_G_spec, h1, hmf, hmv, hmask, k1, k2, Bool.not_true, cond_false, cond_true]
  · refine ⟨q, .w .i64 (q.val + 1), h1, ?_, h3, h4, h5, h6, by omega, by omega, by rw [e1]; omega, fun h => by omega⟩
    simp only [F_spec_l03SqrtUp, t_spec_l03SqrtUp, Tr.get, sd_G_spec, h1, hmf, hmv, hmask, Bool.not_true, cond_false, cond_true]
    by_cases k1 : q.val * q.val / 4294967296 = a.val
    · have k2 : (q.val * q.val % 4294967296 != 0) = true := by simp; omega
      have k3 : (q.val * q.val / 4294967296 != a.val) = false := by simp [k1]
      simp only [k2, k3, cond_true, cond_false]
    · have k3 : (q.val * q.val / 4294967296 != a.val) = true := by simp [k1]
      simp only [k3, cond_true]
theorem sqrtI_mk {a : Iv} (ha : F_spec_l04Ok a = true) (h0 : 0 ≤ a.lo.val) : F_spec_l04Ok (F_spec_SqrtI a) = true ∧ (F_spec_SqrtI a).lo = (F_spec_l03SqrtDown a.lo).a ∧ (F_spec_SqrtI a).hi = (F_spec_l03SqrtUp a.hi).a := by
  have hb := (okiff _).1 ha
  obtain ⟨q, p, e1, e2, h1, h2, h3, h4, h5, h6, h7, h8⟩ := su_val2 a.lo (by omega)
  obtain ⟨q', p', e1', e2', h1', h2', h3', h4', h5', h6', h7', h8'⟩ := su_val2 a.hi (by omega)
  have hle : q.val ≤ p'.val := by
    refine sq_lt h1 (by omega) ?_
    omega
  have hd : decide (a.lo.val < 0) = false := by simp; omega
  have e : F_spec_SqrtI a = ⟨q, p'⟩ := by
    simp only [F_spec_SqrtI, t_spec_SqrtI, Tr.get, ha, hd, sd_G_spec, su_G_spec, e1, e2', Bool.not_true, cfl, ctr]
    exact make_ok (by omega)
  rw [e, e1, e2']
  exact ⟨(okiff _).2 (by simp only; omega), rfl, rfl⟩
theorem sqrtI_nn {a : Iv} (h : F_spec_l04Ok (F_spec_SqrtI a) = true) : F_spec_l04Ok a = true ∧ 0 ≤ a.lo.val := by
  have nw : ∀ {P : Prop}, F_spec_l04Ok F_spec_l04Whole = true → P := fun h => by rw [whole_no] at h; cases h
  simp only [F_spec_SqrtI, t_spec_SqrtI, Tr.get] at h
  cases ha : F_spec_l04Ok a
  · rw [ha] at h; exact nw h
  by_cases h0 : a.lo.val < 0
  · rw [ha, show decide (a.lo.val < 0) = true by simpa using h0] at h; exact nw h
  · exact ⟨rfl, by omega⟩
theorem Sub.sqrt {a a' : Iv} (ha : Sub a a') : Sub (F_spec_SqrtI a) (F_spec_SqrtI a') := fun h => by
  obtain ⟨oa', n'⟩ := sqrtI_nn h
  obtain ⟨oa, a1, a2⟩ := ha oa'
  have hb := (okiff _).1 oa
  have hb' := (okiff _).1 oa'
  obtain ⟨_, v1', v2'⟩ := sqrtI_mk oa' n'
  obtain ⟨k, v1, v2⟩ := sqrtI_mk oa (by omega)
  rw [v1', v2', v1, v2]
  obtain ⟨q, p, e1, e2, h1, h2, h3, h4, h5, h6, h7, h8⟩ := su_val2 a.lo (by omega)
  obtain ⟨q', p', e1', e2', h1', h2', h3', h4', h5', h6', h7', h8'⟩ := su_val2 a'.lo (by omega)
  obtain ⟨r, s, f1, f2, g1, g2, g3, g4, g5, g6, g7, g8⟩ := su_val2 a.hi (by omega)
  obtain ⟨r', s', f1', f2', g1', g2', g3', g4', g5', g6', g7', g8'⟩ := su_val2 a'.hi (by omega)
  rw [e1, e1', f2, f2']
  refine ⟨k, ?_, ?_⟩
  · -- q' ≤ q
    simp only
    by_cases hlt : q'.val ≤ q.val
    · exact hlt
    · have : (q.val + 1) * (q.val + 1) ≤ q'.val * q'.val := Int.mul_le_mul (by omega) (by omega) (by omega) (by omega)
      omega
  · simp only
    by_cases hlt : s.val ≤ s'.val
    · exact hlt
    · have hs : s'.val * s'.val ≤ r.val * r.val := by
        by_cases hr : s'.val ≤ r.val
        · exact Int.mul_le_mul hr hr (by omega) (by omega)
        · omega
      by_cases hrs : r.val < s.val
      · have := g8 hrs; omega
      · have : s = r := Rng.ext (by omega)
        subst this
        have h9 : (s'.val + 1) * (s'.val + 1) ≤ s.val * s.val := Int.mul_le_mul (by omega) (by omega) (by omega) (by omega)
        have h10 : (s'.val + 1) * (s'.val + 1) = s'.val * s'.val + 2 * s'.val + 1 := by rw [Int.add_mul, Int.mul_add, Int.one_mul, Int.mul_one]; omega
        omega

/-! ### quotients by what is positive -/
theorem div_anti {n y s : Int} (hn : 0 ≤ n) (hy : 0 < y) (h : y ≤ s) : n / s ≤ n / y := by
  rw [Int.le_ediv_iff_mul_le hy]
  have h1 := Int.ediv_nonneg hn (show 0 ≤ s by omega)
  have h2 := Int.mul_le_mul_of_nonneg_left h h1
  have h3 := Int.ediv_mul_le n (show s ≠ 0 by omega)
  omega
theorem div_mono_neg {n r y : Int} (hn : n < 0) (hr : 0 < r) (h : r ≤ y) : n / r ≤ n / y := by
  rw [Int.le_ediv_iff_mul_le (show 0 < y by omega)]
  have h1 : n / r ≤ 0 := by have := Int.ediv_neg_of_neg_of_pos hn hr; omega
  have h2 := Int.mul_le_mul_of_nonpos_left h1 h
  have h3 := Int.ediv_mul_le n (show r ≠ 0 by omega)
  omega
theorem quo_lo {p q r s x y : Int} (hx : p ≤ x ∧ x ≤ q) (hy : r ≤ y ∧ y ≤ s) (hr : 0 < r) : p * 4294967296 / r ≤ x * 4294967296 / y ∨ p * 4294967296 / s ≤ x * 4294967296 / y := by
  have h1 : p * 4294967296 / y ≤ x * 4294967296 / y := Int.ediv_le_ediv (by omega) (by omega)
  by_cases hp : 0 ≤ p
  · have := div_anti (n := p * 4294967296) (y := y) (s := s) (by omega) (by omega) hy.2; right; omega
  · have := div_mono_neg (n := p * 4294967296) (r := r) (y := y) (by omega) hr hy.1; left; omega
theorem divdown_true {x y : I64} (hy : 0 < y.val) (h : (F_spec_l03DivDown x y).b = true) : (F_spec_l03DivDown x y).a.val = x.val * 4294967296 / y.val := by
  have z0 : (y.val == 0) = false := by simp; omega
  have z1 : decide (y.val < 0) = false := by simp; omega
  simp only [F_spec_l03DivDown, t_spec_l03DivDown, Tr.get, md_F_spec, z0, z1, cfl] at h ⊢
  cases h1 : F_spec_l03Ok x
  · rw [h1] at h; simp [ctr] at h
  cases h2 : F_spec_l03Ok y
  · rw [h1, h2] at h; simp [ctr, cfl] at h
  rw [h1, h2] at h
  simp only [Bool.not_true, cfl, MD, hy, if_true] at h ⊢
  unfold narrow at h ⊢
  split at h
  · rename_i hr
    rw [if_pos hr]
    rcases end_cases (.w .i64 (x.val * 4294967296 / y.val)) true with e | ⟨e, _⟩
    · rw [e] at h; cases h
    · rw [e]; exact wi hr.1 hr.2
  · have : (F_spec_l03End (.w .i64 0) false).b = false := by simp only [F_spec_l03End, t_spec_l03End, Tr.get, Bool.not_false, ctr]
    rw [this] at h; cases h
theorem divup_true {x y : I64} (hy : 0 < y.val) (h : (F_spec_l03DivUp x y).b = true) : (F_spec_l03DivUp x y).a.val = -(-x.val * 4294967296 / y.val) := by
  simp only [F_spec_l03DivUp, t_spec_l03DivUp, Tr.get] at h ⊢
  cases h1 : F_spec_l03Ok x
  · rw [h1] at h; simp [ctr] at h
  rw [h1] at h
  simp only [Bool.not_true, cfl] at h ⊢
  have hb := ok_bd h1
  have e := divdown_true hy h
  have en : (Rng.w .i64 (0 - x.val)).val = -x.val := by rw [wi (by omega) (by omega)]; omega
  rw [en] at e
  rcases divdown_cases (.w .i64 (0 - x.val)) y with k | ⟨c, k, kc⟩
  · rw [k] at h; cases h
  · have kb := ok_bd kc
    rw [k] at e ⊢
    simp only at e ⊢
    rw [wi (by omega) (by omega)]
    omega
theorem divdown_val {x y : I64} (hx : F_spec_l03Ok x = true) (hy : F_spec_l03Ok y = true) (h0 : 0 < y.val) (h : -1152921504606846976 ≤ x.val * 4294967296 / y.val ∧ x.val * 4294967296 / y.val ≤ 1152921504606846976) :
    F_spec_l03DivDown x y = ⟨.w .i64 (x.val * 4294967296 / y.val), true⟩ := by
  have z0 : (y.val == 0) = false := by simp; omega
  have z1 : decide (y.val < 0) = false := by simp; omega
  have m : narrow (x.val * 4294967296 / y.val) = ⟨.w .i64 (x.val * 4294967296 / y.val), true⟩ := narrow_ok (by omega) (by omega)
  simp only [F_spec_l03DivDown, t_spec_l03DivDown, Tr.get, md_F_spec, hx, hy, z0, z1, Bool.not_true, cfl, MD, h0, if_true, m]
  rw [end_ok (by rw [wi (by omega) (by omega)]; exact h)]
theorem divup_val {x y : I64} (hx : F_spec_l03Ok x = true) (hy : F_spec_l03Ok y = true) (h0 : 0 < y.val) (h : -1152921504606846976 ≤ -x.val * 4294967296 / y.val ∧ -x.val * 4294967296 / y.val ≤ 1152921504606846976) :
    F_spec_l03DivUp x y = ⟨.w .i64 (0 - -x.val * 4294967296 / y.val), true⟩ := by
  have hb := ok_bd hx
  have en : (Rng.w .i64 (0 - x.val)).val = -x.val := by rw [wi (by omega) (by omega)]; omega
  have e := divdown_val (x := .w .i64 (0 - x.val)) (ok3 (by rw [en]; omega)) hy h0 (by rw [en]; exact h)
  rw [en] at e
  simp only [F_spec_l03DivUp, t_spec_l03DivUp, Tr.get, hx, e, Bool.not_true, cfl]
  rw [wi (n := -x.val * 4294967296 / y.val) (by omega) (by omega)]
theorem divI_corner {a b : Iv} (h0 : 0 < b.lo.val) (h : F_spec_l04Ok (F_spec_DivI a b) = true) : F_spec_l04Ok a = true ∧ F_spec_l04Ok b = true ∧
    ∀ x y : I64, (x = a.lo ∨ x = a.hi) → (y = b.lo ∨ y = b.hi) → (F_spec_DivI a b).lo.val ≤ x.val * 4294967296 / y.val ∧ -(-x.val * 4294967296 / y.val) ≤ (F_spec_DivI a b).hi.val := by
  have nw : ∀ {P : Prop}, F_spec_l04Ok F_spec_l04Whole = true → P := fun h => by rw [whole_no] at h; cases h
  simp only [F_spec_DivI, t_spec_DivI, Tr.get] at h ⊢
  cases ha : F_spec_l04Ok a
  · rw [ha] at h; exact nw h
  cases hb : F_spec_l04Ok b
  · rw [ha, hb] at h; exact nw h
  have bb := (okiff _).1 hb
  have h0' : 0 < b.hi.val := by omega
  cases hz : F_spec_l04Has b ⟨0, rfl⟩
  case true => rw [ha, hb, hz] at h; exact nw h
  simp only [ha, hb, hz, Bool.not_true, cfl] at h ⊢
  cases h1 : (F_spec_l03DivDown a.lo b.lo).b
  · rw [h1] at h; exact nw h
  cases h2 : (F_spec_l03DivUp a.lo b.lo).b
  · rw [h1, h2] at h; exact nw h
  cases h3 : (F_spec_l03DivDown a.lo b.hi).b
  · rw [h1, h2, h3] at h; exact nw h
  cases h4 : (F_spec_l03DivUp a.lo b.hi).b
  · rw [h1, h2, h3, h4] at h; exact nw h
  cases h5 : (F_spec_l03DivDown a.hi b.lo).b
  · rw [h1, h2, h3, h4, h5] at h; exact nw h
  cases h6 : (F_spec_l03DivUp a.hi b.lo).b
  · rw [h1, h2, h3, h4, h5, h6] at h; exact nw h
  cases h7 : (F_spec_l03DivDown a.hi b.hi).b
  · rw [h1, h2, h3, h4, h5, h6, h7] at h; exact nw h
  cases h8 : (F_spec_l03DivUp a.hi b.hi).b
  · rw [h1, h2, h3, h4, h5, h6, h7, h8] at h; exact nw h
  simp only [h1, h2, h3, h4, h5, h6, h7, h8, Bool.not_true, cfl] at h ⊢
  refine ⟨trivial, trivial, ?_⟩
  have v1 := divdown_true h0 h1
  have v2 := divup_true h0 h2
  have v3 := divdown_true h0' h3
  have v4 := divup_true h0' h4
  have v5 := divdown_true h0 h5
  have v6 := divup_true h0 h6
  have v7 := divdown_true h0' h7
  have v8 := divup_true h0' h8
  generalize (F_spec_l03DivDown a.lo b.lo).a = d1 at *
  generalize (F_spec_l03DivDown a.lo b.hi).a = d2 at *
  generalize (F_spec_l03DivDown a.hi b.lo).a = d3 at *
  generalize (F_spec_l03DivDown a.hi b.hi).a = d4 at *
  generalize (F_spec_l03DivUp a.lo b.lo).a = u1 at *
  generalize (F_spec_l03DivUp a.lo b.hi).a = u2 at *
  generalize (F_spec_l03DivUp a.hi b.lo).a = u3 at *
  generalize (F_spec_l03DivUp a.hi b.hi).a = u4 at *
  have m1 := min_l ⟨1152921504606846976, rfl⟩ d1
  have m2 := min_l (F_spec_l00Min ⟨1152921504606846976, rfl⟩ d1) d2
  have m3 := min_l (F_spec_l00Min (F_spec_l00Min ⟨1152921504606846976, rfl⟩ d1) d2) d3
  have m4 := min_l (F_spec_l00Min (F_spec_l00Min (F_spec_l00Min ⟨1152921504606846976, rfl⟩ d1) d2) d3) d4
  have n1 := max_l ⟨-1152921504606846976, rfl⟩ u1
  have n2 := max_l (F_spec_l00Max ⟨-1152921504606846976, rfl⟩ u1) u2
  have n3 := max_l (F_spec_l00Max (F_spec_l00Max ⟨-1152921504606846976, rfl⟩ u1) u2) u3
  have n4 := max_l (F_spec_l00Max (F_spec_l00Max (F_spec_l00Max ⟨-1152921504606846976, rfl⟩ u1) u2) u3) u4
  generalize F_spec_l00Min (F_spec_l00Min (F_spec_l00Min (F_spec_l00Min ⟨1152921504606846976, rfl⟩ d1) d2) d3) d4 = lo at *
  generalize F_spec_l00Max (F_spec_l00Max (F_spec_l00Max (F_spec_l00Max ⟨-1152921504606846976, rfl⟩ u1) u2) u3) u4 = hi at *
  by_cases hm : -1152921504606846976 < lo.val ∧ lo.val ≤ hi.val ∧ hi.val < 1152921504606846976
  · rw [make_ok hm]
    simp only
    rintro x y (rfl | rfl) (rfl | rfl)
    · omega
    · omega
    · omega
    · omega
  · rw [make_no hm] at h; exact nw h
theorem Sub.div {a a' b b' : Iv} (ha : Sub a a') (hb : Sub b b') (h0 : 0 < b'.lo.val) : Sub (F_spec_DivI a b) (F_spec_DivI a' b') := fun h => by
  obtain ⟨oa', ob', hc⟩ := divI_corner h0 h
  obtain ⟨oa, a1, a2⟩ := ha oa'
  obtain ⟨ob, b1, b2⟩ := hb ob'
  have hM := (okiff _).1 h
  have ba := (okiff _).1 oa
  have bb := (okiff _).1 ob
  have c1 := hc a'.lo b'.lo (.inl rfl) (.inl rfl)
  have c2 := hc a'.lo b'.hi (.inl rfl) (.inr rfl)
  have c3 := hc a'.hi b'.lo (.inr rfl) (.inl rfl)
  have c4 := hc a'.hi b'.hi (.inr rfl) (.inr rfl)
  generalize F_spec_DivI a' b' = M at *
  have hz : F_spec_l04Has b ⟨0, rfl⟩ = false := by
    simp only [F_spec_l04Has, t_spec_l04Has, Tr.get, in_eq]; simp; omega
  obtain ⟨lo, hi, e, k1, k2, k3⟩ := divI_in (L := M.lo.val) (H := M.hi.val) oa ob hz (by omega) (by omega) (fun x y hx hy => by
    have hx' : a'.lo.val ≤ x.val ∧ x.val ≤ a'.hi.val := by rcases hx with rfl | rfl <;> omega
    have hy' : b'.lo.val ≤ y.val ∧ y.val ≤ b'.hi.val := by rcases hy with rfl | rfl <;> omega
    have ox : F_spec_l03Ok x = true := ok3 (by rcases hx with rfl | rfl <;> omega)
    have oy : F_spec_l03Ok y = true := ok3 (by rcases hy with rfl | rfl <;> omega)
    have fl : M.lo.val ≤ x.val * 4294967296 / y.val := by
      rcases quo_lo hx' hy' h0 with h | h <;> omega
    have fh : -(-x.val * 4294967296 / y.val) ≤ M.hi.val := by
      rcases quo_lo (p := -a'.hi.val) (q := -a'.lo.val) (x := -x.val) (by omega) hy' h0 with h | h <;> omega
    have fm : x.val * 4294967296 / y.val ≤ -(-x.val * 4294967296 / y.val) := by
      have e1 := Int.ediv_mul_le (x.val * 4294967296) (show y.val ≠ 0 by omega)
      have e2 := Int.ediv_mul_le (-x.val * 4294967296) (show y.val ≠ 0 by omega)
      have e3 : (x.val * 4294967296 / y.val + -x.val * 4294967296 / y.val) * y.val ≤ 0 := by rw [Int.add_mul]; omega
      by_cases hh : x.val * 4294967296 / y.val + -x.val * 4294967296 / y.val ≤ 0
      · omega
      · have := Int.mul_pos (show 0 < x.val * 4294967296 / y.val + -x.val * 4294967296 / y.val by omega) (show 0 < y.val by omega)
        omega
    have e1 := divdown_val (x := x) (y := y) ox oy (by omega) (by omega)
    have e2 := divup_val (x := x) (y := y) ox oy (by omega) (by omega)
    refine ⟨_, _, e1, e2, ?_, ?_, ?_⟩
    · rw [wi (by omega) (by omega)]; omega
    · rw [wi (by omega) (by omega), wi (by omega) (by omega)]; omega
    · rw [wi (by omega) (by omega)]; omega)
  rw [e]
  exact ⟨(okiff _).2 (by simp only; omega), k1, k3⟩
end Go.Proofs.YtecfhpgpojgjkaaGreat.Ev
