/-
  Plain laws: intervals: what is inside stays inside (products, sums, quotients, squares, roots).
-/
import Derived.Test.YtecfhpgpojgjkaaGreatP15
namespace Go.Proofs.YtecfhpgpojgjkaaGreat.Ev
open Go
set_option linter.unusedSimpArgs false
set_option linter.unusedVariables false

/-- One bounded interval in another one. -/
def Sub (a b : Iv) : Prop := F_spec_l04Ok b = true → F_spec_l04Ok a = true ∧ b.lo.val ≤ a.lo.val ∧ a.hi.val ≤ b.hi.val
theorem Sub.refl (a : Iv) : Sub a a := fun h => ⟨h, Int.le_refl _, Int.le_refl _⟩
theorem Sub.trans {a b c : Iv} (h : Sub a b) (k : Sub b c) : Sub a c := fun hc => by
  obtain ⟨k1, k2, k3⟩ := k hc
  obtain ⟨h1, h2, h3⟩ := h k1
  exact ⟨h1, by omega, by omega⟩
theorem sub_whole (a : Iv) : Sub a F_spec_l04Whole := fun h => by rw [whole_no] at h; cases h
theorem sub_ofno {a b : Iv} (h : F_spec_l04Ok b = false) : Sub a b := fun k => by rw [h] at k; cases k

/-! ### products of ends -/
theorem prod_lo {p q r s x y : Int} (hx : p ≤ x ∧ x ≤ q) (hy : r ≤ y ∧ y ≤ s) : p * r ≤ x * y ∨ p * s ≤ x * y ∨ q * r ≤ x * y ∨ q * s ≤ x * y := by
  by_cases h : 0 ≤ y
  · have h1 := Int.mul_le_mul_of_nonneg_right hx.1 h
    by_cases hp : 0 ≤ p
    · have := Int.mul_le_mul_of_nonneg_left hy.1 hp; left; omega
    · have := Int.mul_le_mul_of_nonpos_left (show p ≤ 0 by omega) hy.2; right; left; omega
  · have h1 := Int.mul_le_mul_of_nonpos_right hx.2 (show y ≤ 0 by omega)
    by_cases hq : 0 ≤ q
    · have := Int.mul_le_mul_of_nonneg_left hy.1 hq; right; right; left; omega
    · have := Int.mul_le_mul_of_nonpos_left (show q ≤ 0 by omega) hy.2; right; right; right; omega
theorem prod_hi {p q r s x y : Int} (hx : p ≤ x ∧ x ≤ q) (hy : r ≤ y ∧ y ≤ s) : x * y ≤ p * r ∨ x * y ≤ p * s ∨ x * y ≤ q * r ∨ x * y ≤ q * s := by
  have := prod_lo (p := -q) (q := -p) (x := -x) (r := r) (s := s) (y := y) (by omega) hy
  simp only [Int.neg_mul] at this
  omega
theorem muldown_true {x y : I64} (h : (F_spec_l03MulDown x y).b = true) : (F_spec_l03MulDown x y).a.val = x.val * y.val / 4294967296 := by
  simp only [F_spec_l03MulDown, t_spec_l03MulDown, Tr.get, mf32] at h ⊢
  cases h1 : F_spec_l03Ok x
  · rw [h1] at h; simp [ctr] at h
  cases h2 : F_spec_l03Ok y
  · rw [h1, h2] at h; simp [ctr, cfl] at h
  rw [h1, h2] at h
  simp only [Bool.not_true, cfl] at h ⊢
  unfold narrow at h ⊢
  split at h
  · rename_i hr
    rw [if_pos hr]
    rcases end_cases (.w .i64 (x.val * y.val / 4294967296)) true with e | ⟨e, _⟩
    · rw [e] at h; cases h
    · rw [e]; exact wi hr.1 hr.2
  · rename_i hr
    rcases end_cases (.w .i64 0) false with e | ⟨e, _⟩
    · rw [e] at h; cases h
    · have : (F_spec_l03End (.w .i64 0) false).b = false := by simp only [F_spec_l03End, t_spec_l03End, Tr.get, Bool.not_false, ctr]
      rw [this] at h; cases h
theorem mulup_true {x y : I64} (h : (F_spec_l03MulUp x y).b = true) : (F_spec_l03MulUp x y).a.val = -(-(x.val * y.val) / 4294967296) := by
  simp only [F_spec_l03MulUp, t_spec_l03MulUp, Tr.get] at h ⊢
  cases h1 : F_spec_l03Ok x
  · rw [h1] at h; simp [ctr] at h
  rw [h1] at h
  simp only [Bool.not_true, cfl] at h ⊢
  have hb := ok_bd h1
  cases hd : (F_spec_l03MulDown (.w .i64 (0 - x.val)) y).b
  · rw [hd] at h; simp [ctr] at h
  simp only [hd, Bool.not_true, cfl]
  have e := muldown_true hd
  have en : (Rng.w .i64 (0 - x.val)).val = -x.val := by rw [wi (by omega) (by omega)]; omega
  rw [en, Int.neg_mul] at e
  rcases muldown_cases (.w .i64 (0 - x.val)) y with k | ⟨c, k, kc⟩
  · rw [k] at hd; cases hd
  · have kb := ok_bd kc
    rw [k] at e ⊢
    simp only at e ⊢
    rw [wi (by omega) (by omega)]
    omega
/-- The ends of a product. -/
theorem mulI_corner {a b : Iv} (h : F_spec_l04Ok (F_spec_MulI a b) = true) : F_spec_l04Ok a = true ∧ F_spec_l04Ok b = true ∧
    ∀ x y : I64, (x = a.lo ∨ x = a.hi) → (y = b.lo ∨ y = b.hi) → (F_spec_MulI a b).lo.val ≤ x.val * y.val / 4294967296 ∧ -(-(x.val * y.val) / 4294967296) ≤ (F_spec_MulI a b).hi.val := by
  have nw : ∀ {P : Prop}, F_spec_l04Ok F_spec_l04Whole = true → P := fun h => by rw [whole_no] at h; cases h
  simp only [F_spec_MulI, t_spec_MulI, Tr.get] at h ⊢
  cases ha : F_spec_l04Ok a
  · rw [ha] at h; exact nw h
  cases hb : F_spec_l04Ok b
  · rw [ha, hb] at h; exact nw h
  simp only [ha, hb, Bool.not_true, cfl] at h ⊢
  cases h1 : (F_spec_l03MulDown a.lo b.lo).b
  · rw [h1] at h; exact nw h
  cases h2 : (F_spec_l03MulUp a.lo b.lo).b
  · rw [h1, h2] at h; exact nw h
  cases h3 : (F_spec_l03MulDown a.lo b.hi).b
  · rw [h1, h2, h3] at h; exact nw h
  cases h4 : (F_spec_l03MulUp a.lo b.hi).b
  · rw [h1, h2, h3, h4] at h; exact nw h
  cases h5 : (F_spec_l03MulDown a.hi b.lo).b
  · rw [h1, h2, h3, h4, h5] at h; exact nw h
  cases h6 : (F_spec_l03MulUp a.hi b.lo).b
  · rw [h1, h2, h3, h4, h5, h6] at h; exact nw h
  cases h7 : (F_spec_l03MulDown a.hi b.hi).b
  · rw [h1, h2, h3, h4, h5, h6, h7] at h; exact nw h
  cases h8 : (F_spec_l03MulUp a.hi b.hi).b
  · rw [h1, h2, h3, h4, h5, h6, h7, h8] at h; exact nw h
  simp only [h1, h2, h3, h4, h5, h6, h7, h8, Bool.not_true, cfl] at h ⊢
  refine ⟨trivial, trivial, ?_⟩
  have v1 := muldown_true h1
  have v2 := mulup_true h2
  have v3 := muldown_true h3
  have v4 := mulup_true h4
  have v5 := muldown_true h5
  have v6 := mulup_true h6
  have v7 := muldown_true h7
  have v8 := mulup_true h8
  generalize (F_spec_l03MulDown a.lo b.lo).a = d1 at *
  generalize (F_spec_l03MulDown a.lo b.hi).a = d2 at *
  generalize (F_spec_l03MulDown a.hi b.lo).a = d3 at *
  generalize (F_spec_l03MulDown a.hi b.hi).a = d4 at *
  generalize (F_spec_l03MulUp a.lo b.lo).a = u1 at *
  generalize (F_spec_l03MulUp a.lo b.hi).a = u2 at *
  generalize (F_spec_l03MulUp a.hi b.lo).a = u3 at *
  generalize (F_spec_l03MulUp a.hi b.hi).a = u4 at *
  have m1 := min_l ⟨1152921504606846976, rfl⟩ d1
  have m2 := min_l (F_spec_l00Min ⟨1152921504606846976, rfl⟩ d1) d2
  have m3 := min_l (F_spec_l00Min (F_spec_l00Min ⟨1152921504606846976, rfl⟩ d1) d2) d3
  have m4 := min_l (F_spec_l00Min (F_spec_l00Min (F_spec_l00Min ⟨1152921504606846976, rfl⟩ d1) d2) d3) d4
  have n1 := max_l ⟨-1152921504606846976, rfl⟩ u1
  have n2 := max_l (F_spec_l00Max ⟨-1152921504606846976, rfl⟩ u1) u2
  have n3 := max_l (F_spec_l00Max (F_spec_l00Max ⟨-1152921504606846976, rfl⟩ u1) u2) u3
  have n4 := max_l (F_spec_l00Max (F_spec_l00Max (F_spec_l00Max ⟨-1152921504606846976, rfl⟩ u1) u2) u3) u4
  generalize F_spec_l00Min (F_spec_l00Min (F_spec_l00Min (F_spec_l00Min ⟨1152921504606846976, rfl⟩ d1) d2) d3) d4 = lo at *
  generalize F_spec_l00Max (F_spec_l00Max (F_spec_l00Max (F_spec_l00Max ⟨-1152921504606846976, rfl⟩ u1) u2) u3) u4 = hi at *
  by_cases hm : -1152921504606846976 < lo.val ∧ lo.val ≤ hi.val ∧ hi.val < 1152921504606846976
  · rw [make_ok hm]
    simp only
    rintro x y (rfl | rfl) (rfl | rfl)
    · omega
    · omega
    · omega
    · omega
  · rw [make_no hm] at h; exact nw h
theorem Sub.mul {a a' b b' : Iv} (ha : Sub a a') (hb : Sub b b') : Sub (F_spec_MulI a b) (F_spec_MulI a' b') := fun h => by
  obtain ⟨oa', ob', hc⟩ := mulI_corner h
  obtain ⟨oa, a1, a2⟩ := ha oa'
  obtain ⟨ob, b1, b2⟩ := hb ob'
  have hM := (okiff _).1 h
  have ba := (okiff _).1 oa
  have bb := (okiff _).1 ob
  have c1 := hc a'.lo b'.lo (.inl rfl) (.inl rfl)
  have c2 := hc a'.lo b'.hi (.inl rfl) (.inr rfl)
  have c3 := hc a'.hi b'.lo (.inr rfl) (.inl rfl)
  have c4 := hc a'.hi b'.hi (.inr rfl) (.inr rfl)
  generalize F_spec_MulI a' b' = M at *
  obtain ⟨lo, hi, e, k1, k2, k3⟩ := mulI_in (L := M.lo.val) (H := M.hi.val) oa ob (by omega) (by omega) (fun x y hx hy => by
    have hx' : a'.lo.val ≤ x.val ∧ x.val ≤ a'.hi.val := by rcases hx with rfl | rfl <;> omega
    have hy' : b'.lo.val ≤ y.val ∧ y.val ≤ b'.hi.val := by rcases hy with rfl | rfl <;> omega
    have ox : F_spec_l03Ok x = true := ok3 (by rcases hx with rfl | rfl <;> omega)
    have oy : F_spec_l03Ok y = true := ok3 (by rcases hy with rfl | rfl <;> omega)
    have fl : M.lo.val ≤ x.val * y.val / 4294967296 := by
      rcases prod_lo hx' hy' with h | h | h | h <;> (have := Int.ediv_le_ediv (c := 4294967296) (by decide) h; omega)
    have fh : -(-(x.val * y.val) / 4294967296) ≤ M.hi.val := by
      rcases prod_hi hx' hy' with h | h | h | h <;> (have := Int.ediv_le_ediv (c := 4294967296) (by decide) (Int.neg_le_neg h); omega)
    have e1 := muldown_val (a := x) (b := y) ox oy (by omega)
    have e2 := mulup_val (a := x) (b := y) ox oy (by omega)
    refine ⟨_, _, e1, e2, ?_, ?_, ?_⟩
    · rw [wi (by omega) (by omega)]; omega
    · rw [wi (by omega) (by omega), wi (by omega) (by omega)]; omega
    · rw [wi (by omega) (by omega)]; omega)
  rw [e]
  exact ⟨(okiff _).2 (by simp only; omega), k1, k3⟩

/-! ### sums -/
theorem addI_val {a b : Iv} (h : F_spec_l04Ok (F_spec_AddI a b) = true) : F_spec_l04Ok a = true ∧ F_spec_l04Ok b = true ∧ (F_spec_AddI a b).lo.val = a.lo.val + b.lo.val ∧ (F_spec_AddI a b).hi.val = a.hi.val + b.hi.val := by
  simp only [F_spec_AddI, t_spec_AddI, Tr.get] at h ⊢
  cases ha : F_spec_l04Ok a
  · rw [ha] at h; simp only [Bool.not_false, ctr, whole_no] at h; cases h
  cases hb : F_spec_l04Ok b
  · rw [ha, hb] at h; simp only [Bool.not_false, Bool.not_true, ctr, cfl, whole_no] at h; cases h
  simp only [ha, hb, Bool.not_true, cfl] at h ⊢
  have ba := (okiff _).1 ha
  have bb := (okiff _).1 hb
  have k1 : (Rng.w .i64 (a.lo.val + b.lo.val)).val = a.lo.val + b.lo.val := wi (by omega) (by omega)
  have k2 : (Rng.w .i64 (a.hi.val + b.hi.val)).val = a.hi.val + b.hi.val := wi (by omega) (by omega)
  by_cases hm : -1152921504606846976 < (Rng.w .i64 (a.lo.val + b.lo.val)).val ∧ (Rng.w .i64 (a.lo.val + b.lo.val)).val ≤ (Rng.w .i64 (a.hi.val + b.hi.val)).val ∧ (Rng.w .i64 (a.hi.val + b.hi.val)).val < 1152921504606846976
  · rw [make_ok hm]; exact ⟨trivial, trivial, k1, k2⟩
  · rw [make_no hm, whole_no] at h; cases h
theorem addI_mk {a b : Iv} (ha : F_spec_l04Ok a = true) (hb : F_spec_l04Ok b = true) (h : -1152921504606846976 < a.lo.val + b.lo.val ∧ a.hi.val + b.hi.val < 1152921504606846976) : F_spec_AddI a b = ⟨.w .i64 (a.lo.val + b.lo.val), .w .i64 (a.hi.val + b.hi.val)⟩ ∧ F_spec_l04Ok (F_spec_AddI a b) = true := by
  have ba := (okiff _).1 ha
  have bb := (okiff _).1 hb
  have k1 : (Rng.w .i64 (a.lo.val + b.lo.val)).val = a.lo.val + b.lo.val := wi (by omega) (by omega)
  have k2 : (Rng.w .i64 (a.hi.val + b.hi.val)).val = a.hi.val + b.hi.val := wi (by omega) (by omega)
  have e : F_spec_AddI a b = ⟨.w .i64 (a.lo.val + b.lo.val), .w .i64 (a.hi.val + b.hi.val)⟩ := by
    simp only [F_spec_AddI, t_spec_AddI, Tr.get, ha, hb, Bool.not_true, cfl]
    exact make_ok (by rw [k1, k2]; omega)
  exact ⟨e, by rw [e]; exact (okiff _).2 (by simp only [k1, k2]; omega)⟩
theorem Sub.add {a a' b b' : Iv} (ha : Sub a a') (hb : Sub b b') : Sub (F_spec_AddI a b) (F_spec_AddI a' b') := fun h => by
  obtain ⟨oa', ob', e1, e2⟩ := addI_val h
  obtain ⟨oa, a1, a2⟩ := ha oa'
  obtain ⟨ob, b1, b2⟩ := hb ob'
  have hM := (okiff _).1 h
  obtain ⟨_, k⟩ := addI_mk oa ob (by omega)
  obtain ⟨_, _, v1, v2⟩ := addI_val k
  exact ⟨k, by omega, by omega⟩
theorem subI_val {a b : Iv} (h : F_spec_l04Ok (F_spec_SubI a b) = true) : F_spec_l04Ok a = true ∧ F_spec_l04Ok b = true ∧ (F_spec_SubI a b).lo.val = a.lo.val - b.hi.val ∧ (F_spec_SubI a b).hi.val = a.hi.val - b.lo.val := by
  simp only [F_spec_SubI, t_spec_SubI, Tr.get] at h ⊢
  cases ha : F_spec_l04Ok a
  · rw [ha] at h; simp only [Bool.not_false, ctr, whole_no] at h; cases h
  cases hb : F_spec_l04Ok b
  · rw [ha, hb] at h; simp only [Bool.not_false, Bool.not_true, ctr, cfl, whole_no] at h; cases h
  simp only [ha, hb, Bool.not_true, cfl] at h ⊢
  have ba := (okiff _).1 ha
  have bb := (okiff _).1 hb
  have k1 : (Rng.w .i64 (a.lo.val - b.hi.val)).val = a.lo.val - b.hi.val := wi (by omega) (by omega)
  have k2 : (Rng.w .i64 (a.hi.val - b.lo.val)).val = a.hi.val - b.lo.val := wi (by omega) (by omega)
  by_cases hm : -1152921504606846976 < (Rng.w .i64 (a.lo.val - b.hi.val)).val ∧ (Rng.w .i64 (a.lo.val - b.hi.val)).val ≤ (Rng.w .i64 (a.hi.val - b.lo.val)).val ∧ (Rng.w .i64 (a.hi.val - b.lo.val)).val < 1152921504606846976
  · rw [make_ok hm]; exact ⟨trivial, trivial, k1, k2⟩
  · rw [make_no hm, whole_no] at h; cases h
theorem subI_mk {a b : Iv} (ha : F_spec_l04Ok a = true) (hb : F_spec_l04Ok b = true) (h : -1152921504606846976 < a.lo.val - b.hi.val ∧ a.hi.val - b.lo.val < 1152921504606846976) : F_spec_l04Ok (F_spec_SubI a b) = true := by
  have ba := (okiff _).1 ha
  have bb := (okiff _).1 hb
  have k1 : (Rng.w .i64 (a.lo.val - b.hi.val)).val = a.lo.val - b.hi.val := wi (by omega) (by omega)
  have k2 : (Rng.w .i64 (a.hi.val - b.lo.val)).val = a.hi.val - b.lo.val := wi (by omega) (by omega)
  simp only [F_spec_SubI, t_spec_SubI, Tr.get, ha, hb, Bool.not_true, cfl]
  rw [make_ok (by rw [k1, k2]; omega)]
  exact (okiff _).2 (by simp only [k1, k2]; omega)
theorem Sub.sub {a a' b b' : Iv} (ha : Sub a a') (hb : Sub b b') : Sub (F_spec_SubI a b) (F_spec_SubI a' b') := fun h => by
  obtain ⟨oa', ob', e1, e2⟩ := subI_val h
  obtain ⟨oa, a1, a2⟩ := ha oa'
  obtain ⟨ob, b1, b2⟩ := hb ob'
  have hM := (okiff _).1 h
  have k := subI_mk oa ob (by omega)
  obtain ⟨_, _, v1, v2⟩ := subI_val k
  exact ⟨k, by omega, by omega⟩
theorem dblI_val {a : Iv} (h : F_spec_l04Ok (F_spec_DoubleI a) = true) : F_spec_l04Ok a = true ∧ (F_spec_DoubleI a).lo.val = 2 * a.lo.val ∧ (F_spec_DoubleI a).hi.val = 2 * a.hi.val := by
  simp only [F_spec_DoubleI, t_spec_DoubleI, Tr.get] at h ⊢
  cases ha : F_spec_l04Ok a
  · rw [ha] at h; simp only [Bool.not_false, ctr, whole_no] at h; cases h
  simp only [ha, Bool.not_true, cfl] at h ⊢
  have ba := (okiff _).1 ha
  have k1 : (Rng.w .i64 (2 * a.lo.val)).val = 2 * a.lo.val := wi (by omega) (by omega)
  have k2 : (Rng.w .i64 (2 * a.hi.val)).val = 2 * a.hi.val := wi (by omega) (by omega)
  by_cases hm : -1152921504606846976 < (Rng.w .i64 (2 * a.lo.val)).val ∧ (Rng.w .i64 (2 * a.lo.val)).val ≤ (Rng.w .i64 (2 * a.hi.val)).val ∧ (Rng.w .i64 (2 * a.hi.val)).val < 1152921504606846976
  · rw [make_ok hm]; exact ⟨trivial, k1, k2⟩
  · rw [make_no hm, whole_no] at h; cases h
theorem Sub.dbl {a a' : Iv} (ha : Sub a a') : Sub (F_spec_DoubleI a) (F_spec_DoubleI a') := fun h => by
  obtain ⟨oa', e1, e2⟩ := dblI_val h
  obtain ⟨oa, a1, a2⟩ := ha oa'
  have hM := (okiff _).1 h
  have ba := (okiff _).1 oa
  have k1 : (Rng.w .i64 (2 * a.lo.val)).val = 2 * a.lo.val := wi (by omega) (by omega)
  have k2 : (Rng.w .i64 (2 * a.hi.val)).val = 2 * a.hi.val := wi (by omega) (by omega)
  have k : F_spec_l04Ok (F_spec_DoubleI a) = true := by
    simp only [F_spec_DoubleI, t_spec_DoubleI, Tr.get, oa, Bool.not_true, cfl]
    rw [make_ok (by rw [k1, k2]; omega)]
    exact (okiff _).2 (by simp only [k1, k2]; omega)
  obtain ⟨_, v1, v2⟩ := dblI_val k
  exact ⟨k, by omega, by omega⟩

/-! ### squares -/
theorem ends_lim {x x' : Iv} (h : F_spec_l04Ok x = true) (h' : F_spec_l04Ok x' = true) (h1 : x'.lo.val ≤ x.lo.val) (h2 : x.hi.val ≤ x'.hi.val) :
    0 ≤ (F_spec_l04Ends x').a.val ∧ (F_spec_l04Ends x').a.val ≤ (F_spec_l04Ends x).a.val ∧ (F_spec_l04Ends x).a.val ≤ (F_spec_l04Ends x).b.val ∧ (F_spec_l04Ends x).b.val ≤ (F_spec_l04Ends x').b.val := by
  have hb := (okiff x).1 h
  have hb' := (okiff x').1 h'
  have e1 : (Rng.w .i64 (0 - x.lo.val)).val = 0 - x.lo.val := wi (by omega) (by omega)
  have e2 : (Rng.w .i64 (0 - x.hi.val)).val = 0 - x.hi.val := wi (by omega) (by omega)
  have e1' : (Rng.w .i64 (0 - x'.lo.val)).val = 0 - x'.lo.val := wi (by omega) (by omega)
  have e2' : (Rng.w .i64 (0 - x'.hi.val)).val = 0 - x'.hi.val := wi (by omega) (by omega)
  have m1 := max_l x.lo (.w .i64 (0 - x.lo.val))
  have m2 := max_l x.hi (.w .i64 (0 - x.hi.val))
  have m3 := max_l (F_spec_l00Max x.lo (.w .i64 (0 - x.lo.val))) (F_spec_l00Max x.hi (.w .i64 (0 - x.hi.val)))
  have m4 := min_l (F_spec_l00Max x.lo (.w .i64 (0 - x.lo.val))) (F_spec_l00Max x.hi (.w .i64 (0 - x.hi.val)))
  have m1' := max_l x'.lo (.w .i64 (0 - x'.lo.val))
  have m2' := max_l x'.hi (.w .i64 (0 - x'.hi.val))
  have m3' := max_l (F_spec_l00Max x'.lo (.w .i64 (0 - x'.lo.val))) (F_spec_l00Max x'.hi (.w .i64 (0 - x'.hi.val)))
  have m4' := min_l (F_spec_l00Max x'.lo (.w .i64 (0 - x'.lo.val))) (F_spec_l00Max x'.hi (.w .i64 (0 - x'.hi.val)))
  rw [e1] at m1
  rw [e2] at m2
  rw [e1'] at m1'
  rw [e2'] at m2'
  simp only [F_spec_l04Ends, t_spec_l04Ends, Tr.get, F_spec_l04Has, t_spec_l04Has, in_eq]
  by_cases h0 : x.lo.val ≤ 0 ∧ 0 ≤ x.hi.val
  · have h0' : x'.lo.val ≤ 0 ∧ 0 ≤ x'.hi.val := by omega
    simp only [h0, h0', and_self, decide_true, cond_true]
    exact ⟨by simp, by simp, by omega, by omega⟩
  · by_cases h0' : x'.lo.val ≤ 0 ∧ 0 ≤ x'.hi.val
    · simp only [h0, h0', and_self, decide_true, decide_false, cond_true, cond_false]
      exact ⟨by simp, by omega, by omega, by omega⟩
    · simp only [h0, h0', decide_false, cond_false]
      exact ⟨by omega, by omega, by omega, by omega⟩
end Go.Proofs.YtecfhpgpojgjkaaGreat.Ev
