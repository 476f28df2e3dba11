/-
  Plain laws: sines of intervals.
-/
import Derived.Test.YtecfhpgpojgjkaaGreatP36
namespace Go.Proofs.YtecfhpgpojgjkaaGreat.Ev
open Go
set_option linter.unusedSimpArgs false
set_option linter.unusedVariables false

theorem divI_parts {a b : Iv} (h : F_spec_l04Ok (F_spec_DivI a b) = true) : F_spec_l04Ok a = true ∧ F_spec_l04Ok b = true ∧ ¬ (b.lo.val ≤ 0 ∧ 0 ≤ b.hi.val) := by
  have nw : ∀ {P : Prop}, F_spec_l04Ok F_spec_l04Whole = true → P := fun h => by rw [whole_no] at h; cases h
  simp only [F_spec_DivI, t_spec_DivI, Tr.get] at h
  cases ha : F_spec_l04Ok a
  · rw [ha] at h; exact nw h
  cases hb : F_spec_l04Ok b
  · rw [ha, hb] at h; exact nw h
  have hz : F_spec_l04Has b ⟨0, rfl⟩ = decide (b.lo.val ≤ 0 ∧ 0 ≤ b.hi.val) := by simp only [F_spec_l04Has, t_spec_l04Has, Tr.get, in_eq]
  cases hd : decide (b.lo.val ≤ 0 ∧ 0 ≤ b.hi.val)
  · exact ⟨rfl, rfl, by simpa using hd⟩
  · rw [ha, hb, hz, hd] at h; exact nw h

/-! ### sines stay in the ring -/
theorem meet_ring (a : Iv) : Box (-4294967296) 4294967296 (F_spec_l06Meet a) := by
  have o := ring_box.1
  have e1 : F_spec_l06Ring.lo.val = -4294967296 := rfl
  have e2 : F_spec_l06Ring.hi.val = 4294967296 := rfl
  simp only [F_spec_l06Meet, t_spec_l06Meet, F_spec_MeetI, t_spec_MeetI, Tr.get, o, Bool.not_true, cfl]
  cases ha : F_spec_l04Ok a
  · simp only [Bool.not_false, Bool.not_true, ctr, cfl]; exact ring_box
  have ba := (okiff _).1 ha
  have m1 := max_l a.lo F_spec_l06Ring.lo
  have m2 := min_l a.hi F_spec_l06Ring.hi
  rw [e1] at m1
  rw [e2] at m2
  simp only [Bool.not_true, cfl]
  by_cases hlt : (F_spec_l00Max a.lo F_spec_l06Ring.lo).val > (F_spec_l00Min a.hi F_spec_l06Ring.hi).val
  · simp only [hlt, decide_true, ctr, Bool.not_false]; exact ring_box
  · simp only [hlt, decide_false, cfl, Bool.not_true]
    exact ⟨(okiff _).2 (by simp only; omega), by simp only; omega, by simp only; omega⟩
theorem at_ring (n t : I64) : Box (-4294967296) 4294967296 (F_spec_l06At n t) := by
  simp only [F_spec_l06At, t_spec_l06At, Tr.get]
  cases F_spec_l06Angle n
  · exact ring_box
  simp only [Bool.not_true, cfl]
  generalize ((Rng.w .i64 (bitop .and .i64 (Rng.w .i64 ((F_spec_QuarterOf n).val + t.val)).val 3)).val == 0) = c0
  generalize ((Rng.w .i64 (bitop .and .i64 (Rng.w .i64 ((F_spec_QuarterOf n).val + t.val)).val 3)).val == 1) = c1
  generalize ((Rng.w .i64 (bitop .and .i64 (Rng.w .i64 ((F_spec_QuarterOf n).val + t.val)).val 3)).val == 2) = c2
  cases c0 <;> cases c1 <;> cases c2 <;> exact meet_ring _
theorem hull_vals {a b : Iv} (ha : F_spec_l04Ok a = true) (hb : F_spec_l04Ok b = true) : F_spec_l04Ok (F_spec_HullI a b) = true ∧ (F_spec_HullI a b).lo.val ≤ a.lo.val ∧ (F_spec_HullI a b).lo.val ≤ b.lo.val ∧ ((F_spec_HullI a b).lo.val = a.lo.val ∨ (F_spec_HullI a b).lo.val = b.lo.val) ∧ a.hi.val ≤ (F_spec_HullI a b).hi.val ∧ b.hi.val ≤ (F_spec_HullI a b).hi.val ∧ ((F_spec_HullI a b).hi.val = a.hi.val ∨ (F_spec_HullI a b).hi.val = b.hi.val) := by
  have oa := (okiff _).1 ha
  have ob := (okiff _).1 hb
  have m1 := min_l a.lo b.lo
  have m2 := max_l a.hi b.hi
  simp only [F_spec_HullI, t_spec_HullI, Tr.get, ha, hb, Bool.not_true, cfl]
  rw [make_ok (by omega)]
  exact ⟨(okiff _).2 (by simp only; omega), by simp only; omega, by simp only; omega, by simp only; omega, by simp only; omega, by simp only; omega, by simp only; omega⟩
theorem int_1 : F_spec_Integer ⟨1, rfl⟩ = ⟨⟨4294967296, rfl⟩, ⟨4294967296, rfl⟩⟩ := by rw [int_val (by decide)]; rfl
theorem int_m1 : F_spec_Integer ⟨-1, rfl⟩ = ⟨⟨-4294967296, rfl⟩, ⟨-4294967296, rfl⟩⟩ := by rw [int_val (by decide)]; rfl
/-- A hull with quarter turns is wider; downwards only by -1. -/
theorem hullF_lim (t : I64) : ∀ (L : List I64) (o : Iv), Box (-4294967296) 4294967296 o → Box (-4294967296) 4294967296 (hullF t L o) ∧ (hullF t L o).lo.val ≤ o.lo.val ∧ o.hi.val ≤ (hullF t L o).hi.val ∧ ((hullF t L o).lo.val = o.lo.val ∨ (hullF t L o).lo.val = -4294967296)
  | [], o, h => ⟨h, Int.le_refl _, Int.le_refl _, .inl rfl⟩
  | k :: L, o, h => by
    simp only [hullF, hull_eq, integer_eq]
    have o1 : F_spec_l04Ok (F_spec_Integer ⟨1, rfl⟩) = true := by rw [int_1]; exact (okiff _).2 (by decide)
    have o2 : F_spec_l04Ok (F_spec_Integer ⟨-1, rfl⟩) = true := by rw [int_m1]; exact (okiff _).2 (by decide)
    have l1 : (F_spec_Integer ⟨1, rfl⟩).lo.val = 4294967296 ∧ (F_spec_Integer ⟨1, rfl⟩).hi.val = 4294967296 := by rw [int_1]; exact ⟨rfl, rfl⟩
    have l2 : (F_spec_Integer ⟨-1, rfl⟩).lo.val = -4294967296 ∧ (F_spec_Integer ⟨-1, rfl⟩).hi.val = -4294967296 := by rw [int_m1]; exact ⟨rfl, rfl⟩
    have ho := (okiff _).1 h.1
    have hb := h.2
    cases ((turn4 t k).val == 1)
    · cases ((turn4 t k).val == 3)
      · exact hullF_lim t L o h
      · simp only [cond_true, cond_false]
        have hv := hull_vals h.1 o2
        obtain ⟨i1, i2, i3, i4⟩ := hullF_lim t L (F_spec_HullI o (F_spec_Integer ⟨-1, rfl⟩)) ⟨hv.1, by omega, by omega⟩
        exact ⟨i1, by omega, by omega, by omega⟩
    · simp only [cond_true]
      have hv := hull_vals h.1 o1
      obtain ⟨i1, i2, i3, i4⟩ := hullF_lim t L (F_spec_HullI o (F_spec_Integer ⟨1, rfl⟩)) ⟨hv.1, by omega, by omega⟩
      exact ⟨i1, by omega, by omega, by omega⟩
theorem over_ring (x : Iv) (t : I64) : Box (-4294967296) 4294967296 (F_spec_l06Over x t) := by
  rw [← over_eq]
  unfold F_impl_circleHull
  cases F_impl_areAngles x
  · rw [ring_eq]; exact ring_box
  · simp only [Bool.not_true, cfl]
    refine (hullF_lim t _ _ ?_).1
    unfold o0
    rw [hull_eq, circle_eq, circle_eq]
    exact hull_box (at_ring _ _) (at_ring _ _)
/-- The sines of an interval of angles, from those of its ends. -/
theorem sin_ends {s : Iv} (hf : F_spec_l06Fits s = true) : (F_spec_SinI s).lo.val ≤ (F_spec_l06At s.lo ⟨0, rfl⟩).lo.val ∧ (F_spec_SinI s).lo.val ≤ (F_spec_l06At s.hi ⟨0, rfl⟩).lo.val ∧ (F_spec_l06At s.lo ⟨0, rfl⟩).hi.val ≤ (F_spec_SinI s).hi.val ∧ (F_spec_l06At s.hi ⟨0, rfl⟩).hi.val ≤ (F_spec_SinI s).hi.val ∧
    ((F_spec_SinI s).lo.val = (F_spec_l06At s.lo ⟨0, rfl⟩).lo.val ∨ (F_spec_SinI s).lo.val = (F_spec_l06At s.hi ⟨0, rfl⟩).lo.val ∨ (F_spec_SinI s).lo.val = -4294967296) := by
  have e : F_spec_SinI s = hullF ⟨0, rfl⟩ (keepF s 1000 (k0 s)) (o0 s ⟨0, rfl⟩) := by
    simp only [F_spec_SinI, t_spec_SinI, Tr.get]
    rw [← over_eq]
    unfold F_impl_circleHull
    rw [fits_eq, hf]
    simp only [Bool.not_true, cfl]
  have h1 := at_ring s.lo ⟨0, rfl⟩
  have h2 := at_ring s.hi ⟨0, rfl⟩
  have hv := hull_vals h1.1 h2.1
  have ho : o0 s ⟨0, rfl⟩ = F_spec_HullI (F_spec_l06At s.lo ⟨0, rfl⟩) (F_spec_l06At s.hi ⟨0, rfl⟩) := by unfold o0; rw [hull_eq, circle_eq, circle_eq]
  obtain ⟨_, i2, i3, i4⟩ := hullF_lim ⟨0, rfl⟩ (keepF s 1000 (k0 s)) (o0 s ⟨0, rfl⟩) (by rw [ho]; exact hull_box h1 h2)
  rw [e]
  rw [ho] at i2 i3 i4 ⊢
  exact ⟨by omega, by omega, by omega, by omega, by omega⟩

/-! ### the angle -/
theorem dbl2 {a : Iv} (h : F_spec_l04Ok a = true) (hb : -20000000000 ≤ a.lo.val ∧ a.hi.val ≤ 20000000000) : F_spec_MulI (F_spec_Integer ⟨2, rfl⟩) a = ⟨.w .i64 (2 * a.lo.val), .w .i64 (2 * a.hi.val)⟩ := by
  have ha := (okiff _).1 h
  have e2 : F_spec_Integer ⟨2, rfl⟩ = ⟨⟨8589934592, rfl⟩, ⟨8589934592, rfl⟩⟩ := by rw [int_val (by decide)]; rfl
  have o2 : F_spec_l04Ok ⟨⟨8589934592, rfl⟩, ⟨8589934592, rfl⟩⟩ = true := (okiff _).2 (by decide)
  obtain ⟨lo, hi, e, k1, k2, k3⟩ := mulI_in (a := ⟨⟨8589934592, rfl⟩, ⟨8589934592, rfl⟩⟩) (b := a) (L := 2 * a.lo.val) (H := 2 * a.hi.val) o2 h (by omega) (by omega) (fun x y hx hy => by
    have hx' : x.val = 8589934592 := by rcases hx with rfl | rfl <;> rfl
    have hp : x.val * y.val / 4294967296 = 2 * y.val := by rw [hx']; omega
    have hn : -(x.val * y.val) / 4294967296 = -(2 * y.val) := by rw [hx']; omega
    have hy' : a.lo.val ≤ y.val ∧ y.val ≤ a.hi.val := by rcases hy with rfl | rfl <;> omega
    have e1 := muldown_val (a := x) (b := y) (ok3 (by omega)) (ok3 (by omega)) (by omega)
    have e3 := mulup_val (a := x) (b := y) (ok3 (by omega)) (ok3 (by omega)) (by omega)
    rw [hp] at e1
    rw [hn] at e3
    refine ⟨_, _, e1, e3, ?_, ?_, ?_⟩
    · rw [wi (by omega) (by omega)]; omega
    · rw [wi (by omega) (by omega), wi (by omega) (by omega)]; omega
    · rw [wi (by omega) (by omega)]; omega)
  rw [e2]
  -- both ends are met
  have c := mulI_corner (a := ⟨⟨8589934592, rfl⟩, ⟨8589934592, rfl⟩⟩) (b := a) (by rw [e]; exact (okiff _).2 (by simp only; omega))
  have c1 := (c.2.2 ⟨8589934592, rfl⟩ a.lo (.inl rfl) (.inl rfl)).1
  have c2 := (c.2.2 ⟨8589934592, rfl⟩ a.hi (.inl rfl) (.inr rfl)).2
  rw [e] at c1 c2 ⊢
  simp only at c1 c2
  have w1 : (Rng.w .i64 (2 * a.lo.val)).val = 2 * a.lo.val := wi (by omega) (by omega)
  have w2 : (Rng.w .i64 (2 * a.hi.val)).val = 2 * a.hi.val := wi (by omega) (by omega)
  have f1 : lo = .w .i64 (2 * a.lo.val) := Rng.ext (by rw [w1]; omega)
  have f2 : hi = .w .i64 (2 * a.hi.val) := Rng.ext (by rw [w2]; omega)
  rw [f1, f2]
/-- What a root's end may be, cut to 1. -/
def Kd3 (k : I64) : Prop := k.val = 0 ∨ (65536 ≤ k.val ∧ k.val ≤ 4294967295) ∨ k.val = 4294967296
theorem sq_ends {a : Iv} (h : F_spec_l04Ok (F_spec_SqrtI a) = true) : ((F_spec_SqrtI a).lo.val = 0 ∨ 65536 ≤ (F_spec_SqrtI a).lo.val) ∧ ((F_spec_SqrtI a).hi.val = 0 ∨ 65536 ≤ (F_spec_SqrtI a).hi.val) := by
  have hn := sqrtI_nn h
  have hb := (okiff _).1 hn.1
  obtain ⟨_, v1, v2⟩ := sqrtI_mk hn.1 hn.2
  obtain ⟨q, p, e1, e2, h1, h2, h3, h4, h5, h6, h7, h8⟩ := su_val2 a.lo (by omega)
  obtain ⟨r, s, f1, f2, g1, g2, g3, g4, g5, g6, g7, g8⟩ := su_val2 a.hi (by omega)
  rw [v1, v2, e1, f2]
  have key : ∀ z n : Int, 0 ≤ z → 1 ≤ n → n * 4294967296 < (z + 1) * (z + 1) → 65536 ≤ z := fun z n hz hn h => by
    by_cases hh : 65536 ≤ z
    · exact hh
    · have : (z + 1) * (z + 1) ≤ 65536 * 65536 := Int.mul_le_mul (by omega) (by omega) (by omega) (by decide)
      omega
  constructor
  · by_cases h0 : a.lo.val = 0
    · left
      simp only
      have : q.val * q.val ≤ 0 * 0 := by omega
      have := sq_lt h1 (by decide) this
      omega
    · right; exact key _ _ h1 (by omega) h4
  · by_cases h0 : a.hi.val = 0
    · left
      simp only
      have : r.val * r.val ≤ 0 * 0 := by omega
      have hr := sq_lt g1 (by decide) this
      have hr0 : r.val = 0 := by omega
      by_cases hs : r.val < s.val
      · have := g8 hs; rw [hr0] at this; omega
      · omega
    · right
      have := key _ _ g1 (by omega) g4
      simp only; omega
theorem kd3_of {k : I64} (h : k.val = 0 ∨ 65536 ≤ k.val) (h' : k.val ≤ 4294967296) : Kd3 k := by unfold Kd3; omega
theorem asin_kd {k : I64} (h : Kd3 k) : F_spec_l04Ok (F_spec_AsinAt k) = true ∧ ((k.val = 0 ∧ (F_spec_AsinAt k).lo.val = -8 ∧ (F_spec_AsinAt k).hi.val = 8) ∨ ((65536 ≤ k.val ∧ k.val ≤ 4294967295) ∧ 50176 ≤ (F_spec_AsinAt k).lo.val ∧ (F_spec_AsinAt k).hi.val ≤ 6746518352) ∨ (k.val = 4294967296 ∧ (F_spec_AsinAt k).lo.val = 6746518832 ∧ (F_spec_AsinAt k).hi.val = 6746518853)) := by
  rcases h with h | h | h
  · have e : k = ⟨0, rfl⟩ := Rng.ext h
    rw [e, asin_0]
    exact ⟨(okiff _).2 (by decide), .inl ⟨rfl, rfl, rfl⟩⟩
  · have hb := asin_mid h
    exact ⟨hb.1, .inr (.inl ⟨h, hb.2⟩)⟩
  · have e : k = ⟨4294967296, rfl⟩ := Rng.ext h
    rw [e, asin_1]
    exact ⟨(okiff _).2 (by decide), .inr (.inr ⟨rfl, rfl, rfl⟩)⟩
theorem w_m16 : inBx (-17) (-1) (F_spec_l06At ⟨-16, rfl⟩ ⟨0, rfl⟩) = true := by kernel_rfl
theorem w_p16 : inBx 1 17 (F_spec_l06At ⟨16, rfl⟩ ⟨0, rfl⟩) = true := by kernel_rfl
theorem w_top : decide ((F_spec_l06At ⟨13493037706, rfl⟩ ⟨0, rfl⟩).lo.val ≤ 0) = true := by kernel_rfl
theorem w_low : inBx 0 100 (F_spec_l06At ⟨13493037664, rfl⟩ ⟨0, rfl⟩) = true := by kernel_rfl
theorem w_all : decide ((F_spec_SinI ⟨⟨-16, rfl⟩, ⟨13493037706, rfl⟩⟩).lo.val ≤ 0) && decide (0 ≤ (F_spec_SinI ⟨⟨-16, rfl⟩, ⟨13493037706, rfl⟩⟩).hi.val) = true := by kernel_rfl
theorem w_asin_whole : decide ((F_spec_SinI (F_spec_MulI (F_spec_Integer ⟨2, rfl⟩) (F_spec_HullI (F_spec_AsinAt F_spec_l06Ring.lo) (F_spec_AsinAt F_spec_l06Ring.hi)))).lo.val ≤ 0) && decide (0 ≤ (F_spec_SinI (F_spec_MulI (F_spec_Integer ⟨2, rfl⟩) (F_spec_HullI (F_spec_AsinAt F_spec_l06Ring.lo) (F_spec_AsinAt F_spec_l06Ring.hi)))).hi.val) = true := by kernel_rfl
theorem fits_box {s : Iv} (h : F_spec_l04Ok s = true) (hb : -100000000000 ≤ s.lo.val ∧ s.hi.val ≤ 100000000000) : F_spec_l06Fits s = true := by
  have hs := (okiff _).1 h
  have h1 : F_spec_ValidInterval s = true := by simp only [F_spec_ValidInterval, t_spec_ValidInterval, Tr.get, h]
  simp only [F_spec_l06Fits, t_spec_l06Fits, Tr.get, h1, ctr, (angle_iff s.lo).2 (by omega)]
  exact (angle_iff s.hi).2 (by omega)
theorem sin_whole_has {s : Iv} (h : F_spec_l04Ok s = false) : (F_spec_SinI s).lo.val ≤ 0 ∧ 0 ≤ (F_spec_SinI s).hi.val := by
  have hf : F_spec_l06Fits s = false := by
    simp only [F_spec_l06Fits, t_spec_l06Fits, F_spec_ValidInterval, t_spec_ValidInterval, Tr.get, h, cfl]
  simp only [F_spec_SinI, t_spec_SinI, Tr.get]
  rw [← over_eq]
  unfold F_impl_circleHull
  rw [fits_eq, hf, ring_eq]
  simp only [Bool.not_false, ctr]
  exact ⟨by decide +kernel, by decide +kernel⟩
end Go.Proofs.YtecfhpgpojgjkaaGreat.Ev
