/-
  Plain laws: the quotient of a wide number; the quotients of fixed numbers; heights and longitudes in radians.
-/
import Derived.Test.YtcfflflcbacapaaGreatP3
namespace Go.Proofs.YtcfflflcbacapaaGreat.Ev
open Go
set_option linter.unusedSimpArgs false
set_option linter.unusedVariables false

theorem divided_ok (hi lo d : U64) (hd : 0 < d.val) : (t_impl_divided hi lo d).opt = some ⟨.w .u64 (hi.val / d.val), .w .u64 (two (hi.val % d.val) lo.val / d.val), .w .u64 (two (hi.val % d.val) lo.val % d.val)⟩ := by
  have b1 := hi.ubd; have b3 := d.ubd
  have h0 : (d.val == 0) = false := by simp; omega
  have e1 : hi.val.tdiv d.val = hi.val / d.val := Int.tdiv_eq_ediv_of_nonneg b1.1
  have e2 : hi.val.tmod d.val = hi.val % d.val := Int.tmod_eq_emod_of_nonneg b1.1
  have m1 := Int.emod_nonneg hi.val (b := d.val) (by omega)
  have m2 := Int.emod_lt_of_pos hi.val hd
  have er : (Rng.w .u64 (hi.val % d.val)).val = hi.val % d.val := wu m1 (by omega)
  have hk := div64_ok (Rng.w .u64 (hi.val % d.val)) lo d (by rw [er]; exact m2)
  rw [er] at hk
  have hG : G_math_bits_Div64 (Rng.w .u64 (hi.val % d.val)) lo d = true := by unfold G_math_bits_Div64; rw [hk]; rfl
  have hF : F_math_bits_Div64 (Rng.w .u64 (hi.val % d.val)) lo d = _ := Tr.opt_get hk
  simp only [t_impl_divided, Tr.opt, h0, cond_false, e1, e2, hG, hF, cond_true]
theorem divided_eq (hi lo d : U64) (hd : 0 < d.val) : F_impl_divided hi lo d = F_spec_l02Divide hi lo d := by rw [divide_eq hi lo d hd]; exact Tr.opt_get (divided_ok hi lo d hd)
theorem divided_G (hi lo d : U64) (hd : 0 < d.val) : G_impl_divided hi lo d = true := by unfold G_impl_divided; rw [divided_ok hi lo d hd]; rfl

/-- The quotient of a number that is not below zero. -/
theorem divide_pos (N : Int) (hN : 0 ≤ N) (hN' : N ≤ 170141183460469231731687303715884105728) (d : U64) (hd : 0 < d.val) (hd' : d.val ≤ 9223372036854775807) :
    F_spec_l02Divide (.w .u64 (N / 18446744073709551616)) (.w .u64 N) d = ⟨.w .u64 (N / d.val / 18446744073709551616), .w .u64 (N / d.val), .w .u64 (N % d.val)⟩ := by
  have e1 : (Rng.w .u64 (N / 18446744073709551616)).val = N / 18446744073709551616 := wu (by omega) (by omega)
  have e2 : (Rng.w .u64 N).val = N % 18446744073709551616 := wu_mod N
  obtain ⟨t1, t2⟩ := two_div (hi := N / 18446744073709551616) (lo := N % 18446744073709551616) hd
  have eN : two (N / 18446744073709551616) (N % 18446744073709551616) = N := by unfold two; omega
  rw [eN] at t1 t2
  have m1 := Int.emod_nonneg (N / 18446744073709551616) (b := d.val) (by omega)
  have m2 := Int.emod_lt_of_pos (N / 18446744073709551616) hd
  obtain ⟨k1, k2, k3⟩ := two_lt (lo := N % 18446744073709551616) hd m1 m2 (by omega) (by omega)
  unfold two at k1 k2 k3
  rw [divide_eq _ _ _ hd, e1, e2]
  unfold two
  rw [t1]
  have h1 : N / d.val / 18446744073709551616 = N / 18446744073709551616 / d.val := by omega
  have h2 : (Rng.w .u64 ((N / 18446744073709551616 % d.val * 18446744073709551616 + N % 18446744073709551616) / d.val)) = Rng.w .u64 (N / d.val) := rext (by simp only [wu_mod]; omega)
  rw [h1, h2]

theorem wide_parts (w : Wide) (h : 0 ≤ wv w) : Rng.w .u64 w.hi.val = .w .u64 (wv w / 18446744073709551616) ∧ w.lo = .w .u64 (wv w) := by
  have b1 := w.lo.ubd; have b2 := w.hi.bd
  unfold wv at *
  exact ⟨by congr 1; omega, rext (by rw [wu_mod]; omega)⟩
theorem quo_bd {N d : Int} (h : 0 ≤ N) (h' : N ≤ 170141183460469231731687303715884105728) (hd : 0 < d) : 0 ≤ N / d ∧ N / d ≤ N ∧ 0 ≤ N % d ∧ N % d < d :=
  ⟨Int.ediv_nonneg h (Int.le_of_lt hd), Int.ediv_le_self _ h, Int.emod_nonneg _ (by omega), Int.emod_lt_of_pos _ hd⟩
theorem mk_of {N : Int} (h : 0 ≤ N) (h' : N < 170141183460469231731687303715884105728) : (⟨.w .i64 (Rng.w .u64 (N / 18446744073709551616)).val, .w .u64 N⟩ : Wide) = mkW N := by
  unfold mkW; rw [wu (n := N / 18446744073709551616) (by omega) (by omega)]

theorem neg_quo {N d : Int} (hd : 0 < d) (hN : N < 0) : (-N % d = 0 → N / d = -(-N / d) ∧ N % d = 0) ∧ (-N % d ≠ 0 → N / d = -(-N / d) - 1 ∧ N % d = d - -N % d) := by
  have m1 := Int.emod_nonneg (-N) (b := d) (by omega)
  have m2 := Int.emod_lt_of_pos (-N) hd
  have m3 := Int.mul_ediv_add_emod (-N) d
  constructor
  · intro h
    have e : N = d * (-(-N / d)) := by grind
    have h1 : d * (-(-N / d)) / d = -(-N / d) := Int.mul_ediv_cancel_left _ (by omega)
    have h2 : d * (-(-N / d)) % d = 0 := Int.mul_emod_right _ _
    rw [← e] at h1 h2
    exact ⟨h1, h2⟩
  · intro h
    have e : N = (d - -N % d) + d * (-(-N / d) - 1) := by grind
    have h1 : ((d - -N % d) + d * (-(-N / d) - 1)) / d = -(-N / d) - 1 := by
      rw [Int.add_mul_ediv_left _ _ (by omega), Int.ediv_eq_zero_of_lt (by omega) (by omega)]; omega
    have h2 : ((d - -N % d) + d * (-(-N / d) - 1)) % d = d - -N % d := by
      rw [Int.add_mul_emod_self_left, Int.emod_eq_of_lt (by omega) (by omega)]
    rw [← e] at h1 h2
    exact ⟨h1, h2⟩

theorem div_spec_ok (w : Wide) (d : I64) (hd : 0 < d.val) : (t_spec_l02Div w d).opt = some ⟨mkW (wv w / d.val), .w .i64 (wv w % d.val)⟩ := by
  have b := w.hi.bd; have bd := d.bd; have bl := w.lo.ubd; have bw := wv_bd w
  have ed : (Rng.w .u64 d.val).val = d.val := wu (by omega) (by omega)
  simp only [t_spec_l02Div, Tr.opt]
  by_cases h : w.hi.val ≥ 0
  · have hw : 0 ≤ wv w := by unfold wv; omega
    obtain ⟨p1, p2⟩ := wide_parts w hw
    obtain ⟨q1, q2, q3, q4⟩ := quo_bd hw (by omega) hd
    simp only [h, decide_true, cond_true]
    rw [divide_G _ _ _ (by rw [ed]; exact hd), cond_true, p1]
    rw [show F_spec_l02Divide (Rng.w .u64 (wv w / 18446744073709551616)) w.lo (Rng.w .u64 d.val) = F_spec_l02Divide (Rng.w .u64 (wv w / 18446744073709551616)) (.w .u64 (wv w)) (Rng.w .u64 d.val) by rw [← p2]]
    rw [divide_pos (wv w) hw (by omega) _ (by rw [ed]; exact hd) (by rw [ed]; omega), ed]
    simp only
    rw [mk_of q1 (by omega), wu (n := wv w % d.val) (by omega) (by omega)]
  · have hw : wv w < 0 := by unfold wv; omega
    simp only [h, decide_false, cond_false]
    -- the opposite number's halves
    have hm : Rng.w .u64 (F_spec_l02Minus w).hi.val = .w .u64 (- wv w / 18446744073709551616) ∧ (F_spec_l02Minus w).lo = .w .u64 (- wv w) := by
      by_cases hx : wv w = -170141183460469231731687303715884105728
      · have e1 : w.hi.val = -9223372036854775808 := by unfold wv at hx; omega
        have e2 : w.lo.val = 0 := by unfold wv at hx; omega
        simp only [F_spec_l02Minus, t_spec_l02Minus, Tr.get, e1, e2, BEq.rfl, cond_true, hx]
        exact ⟨by rfl, by rfl⟩
      · rw [minus_spec w hx]
        unfold mkW
        refine ⟨?_, rfl⟩
        rw [wi (by omega) (by omega)]
    obtain ⟨p1, p2⟩ := hm
    obtain ⟨q1, q2, q3, q4⟩ := quo_bd (N := - wv w) (by omega) (by omega) hd
    rw [divide_G _ _ _ (by rw [ed]; exact hd), cond_true, p1, p2]
    rw [divide_pos (- wv w) (by omega) (by omega) _ (by rw [ed]; exact hd) (by rw [ed]; omega), ed]
    simp only
    have er : (Rng.w .u64 (-wv w % d.val)).val = -wv w % d.val := wu (by omega) (by omega)
    obtain ⟨n1, n2⟩ := neg_quo hd hw
    -- minus the quotient
    have hq : F_spec_l02Minus ⟨.w .i64 (Rng.w .u64 (-wv w / d.val / 18446744073709551616)).val, .w .u64 (-wv w / d.val)⟩ = mkW (-(-wv w / d.val)) := by
      by_cases hx : -wv w / d.val = 170141183460469231731687303715884105728
      · rw [hx]; rfl
      · rw [mk_of q1 (by omega), minus_spec _ (by rw [wv_mkW (by omega) (by omega)]; omega), wv_mkW (by omega) (by omega)]
    rw [hq, er]
    by_cases hz : -wv w % d.val = 0
    · obtain ⟨e1, e2⟩ := n1 hz
      simp only [hz, BEq.rfl, cond_true, e1, e2]
      rfl
    · obtain ⟨e1, e2⟩ := n2 hz
      have hz' : (-wv w % d.val == 0) = false := by simp [hz]
      simp only [hz', cond_false, e1, e2]
      have hp : F_spec_l02Plus (mkW (-(-wv w / d.val))) (F_spec_l02Of ⟨-1, rfl⟩) = mkW (-(-wv w / d.val) - 1) := by
        rw [of_spec]
        have o1 : (mkW (-1)).hi.val = -1 := by rfl
        have o2 : (mkW (-1)).lo.val = 18446744073709551615 := by rfl
        apply mkW_eq
        have hx2 : -wv w / d.val ≠ 170141183460469231731687303715884105728 := by
          intro hx
          have := Int.mul_ediv_add_emod (-wv w) d.val
          rw [hx] at this
          have : d.val = 1 := by omega
          omega
        have a1 : (mkW (-(-wv w / d.val))).hi.val = -(-wv w / d.val) / 18446744073709551616 := wi (by omega) (by omega)
        have a2 : (mkW (-(-wv w / d.val))).lo.val = -(-wv w / d.val) % 18446744073709551616 := wu_mod _
        simp only [F_spec_l02Plus, t_spec_l02Plus, Tr.get, o1, o2, a1, a2]
        generalize hQ : -(-wv w / d.val) = Q at *
        by_cases hc : (Rng.w .u64 (Q % 18446744073709551616 + 18446744073709551615)).val < Q % 18446744073709551616
        · simp only [hc, decide_true, cond_true, wv]
          rw [wu_mod] at hc
          simp only [ws_val, wu_mod]
          omega
        · simp only [hc, decide_false, cond_false, wv]
          rw [wu_mod] at hc
          simp only [ws_val, wu_mod]
          omega
      rw [hp, wi (n := -wv w % d.val) (by omega) (by omega)]
theorem div_spec (w : Wide) (d : I64) (hd : 0 < d.val) : F_spec_l02Div w d = ⟨mkW (wv w / d.val), .w .i64 (wv w % d.val)⟩ := Tr.opt_get (div_spec_ok w d hd)
theorem div_spec_G (w : Wide) (d : I64) (hd : 0 < d.val) : G_spec_l02Div w d = true := by unfold G_spec_l02Div; rw [div_spec_ok w d hd]; rfl

theorem div_impl_ok (w : Wide) (d : I64) (hd : 0 < d.val) : (t_impl_WideDiv w d).opt = some ⟨mkW (wv w / d.val), .w .i64 (wv w % d.val), true⟩ := by
  have b := w.hi.bd; have bd := d.bd; have bl := w.lo.ubd; have bw := wv_bd w
  have ed : (Rng.w .u64 d.val).val = d.val := wu (by omega) (by omega)
  have hd0 : decide (d.val ≤ 0) = false := by simp; omega
  have hk := div_spec_ok w d hd
  simp only [t_spec_l02Div, Tr.opt] at hk
  simp only [t_impl_WideDiv, Tr.opt, hd0, cond_false]
  by_cases h : w.hi.val ≥ 0
  · simp only [h, decide_true, cond_true, divided_G _ _ _ (show 0 < (Rng.w .u64 d.val).val by rw [ed]; exact hd), divided_eq _ _ _ (show 0 < (Rng.w .u64 d.val).val by rw [ed]; exact hd), divide_G _ _ _ (show 0 < (Rng.w .u64 d.val).val by rw [ed]; exact hd)] at hk ⊢
    simp only [Option.some.injEq, T2.mk.injEq] at hk
    rw [hk.1, hk.2]
  · simp only [h, decide_false, cond_false, cond_true, neg_G, neg_impl, divided_G _ _ _ (show 0 < (Rng.w .u64 d.val).val by rw [ed]; exact hd), divided_eq _ _ _ (show 0 < (Rng.w .u64 d.val).val by rw [ed]; exact hd), divide_G _ _ _ (show 0 < (Rng.w .u64 d.val).val by rw [ed]; exact hd)] at hk ⊢
    generalize hc : F_spec_l02Divide (Rng.w .u64 (F_spec_l02Minus w).hi.val) (F_spec_l02Minus w).lo (Rng.w .u64 d.val) = c at *
    by_cases hz : c.c.val = 0
    · have hz' : (c.c.val == 0) = true := by simp [hz]
      simp only [hz', cond_true, Option.some.injEq, T2.mk.injEq] at hk ⊢
      rw [hk.1, ← hk.2]
    · have hz' : (c.c.val == 0) = false := by simp [hz]
      simp only [hz', cond_false, Option.some.injEq, T2.mk.injEq] at hk ⊢
      have : F_spec_l02Minus ⟨Rng.w .i64 (Rng.w .u64 (c.a.val + (F_math_bits_Add64 c.b ⟨1, rfl⟩ ⟨0, rfl⟩).b.val)).val, (F_math_bits_Add64 c.b ⟨1, rfl⟩ ⟨0, rfl⟩).a⟩ = mkW (wv w / d.val) := by
        rw [← hk.1]
        have u1 := c.a.ubd; have u2 := c.b.ubd
        have o1 : (F_spec_l02Of ⟨-1, rfl⟩).hi.val = -1 := by rfl
        have o2 : (F_spec_l02Of ⟨-1, rfl⟩).lo.val = 18446744073709551615 := by rfl
        simp only [F_spec_l02Plus, t_spec_l02Plus, Tr.get, o1, o2, F_math_bits_Add64]
        simp only [F_spec_l02Minus, t_spec_l02Minus, Tr.get]
        have ea : (Rng.w .u64 (c.b.val + 1 + 0)).val = (c.b.val + 1) % 18446744073709551616 := by rw [wu_mod]; omega
        have eb : (Rng.w .u64 ((c.b.val + 1 + 0) / 18446744073709551616)).val = (c.b.val + 1) / 18446744073709551616 := by rw [wu_mod]; omega
        rw [ea, eb]
        by_cases k1 : c.b.val = 0
        · have s1 : ((c.b.val + 1) % 18446744073709551616 == 0) = false := by simp; omega
          have s2 : (c.b.val == 0) = true := by simp [k1]
          have s3 : decide ((Rng.w .u64 ((Rng.w .u64 (0 - c.b.val)).val + 18446744073709551615)).val < (Rng.w .u64 (0 - c.b.val)).val) = false := by simp only [wu_mod, decide_eq_false_iff_not]; omega
          simp only [s1, s2, cond_true, cond_false, s3]
          rw [Wide.mk.injEq]
          exact ⟨rext (by rw [xor_not]; simp only [ws_val, wu_mod]; omega), rext (by simp only [wu_mod]; omega)⟩
        · have s2 : (c.b.val == 0) = false := by simp [k1]
          have s3 : decide ((Rng.w .u64 ((Rng.w .u64 (0 - c.b.val)).val + 18446744073709551615)).val < (Rng.w .u64 (0 - c.b.val)).val) = true := by simp only [wu_mod, decide_eq_true_eq]; omega
          by_cases k2 : c.b.val = 18446744073709551615
          · have s1 : ((c.b.val + 1) % 18446744073709551616 == 0) = true := by simp; omega
            simp only [s1, s2, cond_true, cond_false, s3]
            rw [Wide.mk.injEq]
            exact ⟨rext (by rw [ws_val (_ + 1), ws_val (_ + -1), xor_not]; simp only [ws_val, wu_mod]; omega), rext (by simp only [wu_mod]; omega)⟩
          · have s1 : ((c.b.val + 1) % 18446744073709551616 == 0) = false := by simp; omega
            simp only [s1, s2, cond_true, cond_false, s3]
            rw [Wide.mk.injEq]
            exact ⟨rext (by rw [xor_not, ws_val (_ + 1), ws_val (_ + -1), xor_not]; simp only [ws_val, wu_mod]; omega), rext (by simp only [wu_mod]; omega)⟩
      rw [this, ← hk.2]
theorem div_impl (w : Wide) (d : I64) (hd : 0 < d.val) : F_impl_WideDiv w d = ⟨mkW (wv w / d.val), .w .i64 (wv w % d.val), true⟩ := Tr.opt_get (div_impl_ok w d hd)
theorem div_impl_G (w : Wide) (d : I64) (hd : 0 < d.val) : G_impl_WideDiv w d = true := by unfold G_impl_WideDiv; rw [div_impl_ok w d hd]; rfl
theorem div_impl_no (w : Wide) (d : I64) (hd : ¬ 0 < d.val) : (t_impl_WideDiv w d).opt = some ⟨⟨⟨0, rfl⟩, ⟨0, rfl⟩⟩, ⟨0, rfl⟩, false⟩ := by
  have hd0 : decide (d.val ≤ 0) = true := by simp; omega
  simp only [t_impl_WideDiv, Tr.opt, hd0, cond_true]
end Go.Proofs.YtcfflflcbacapaaGreat.Ev
