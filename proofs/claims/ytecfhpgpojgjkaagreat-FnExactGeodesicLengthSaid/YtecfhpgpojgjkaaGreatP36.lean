/-
  Plain laws: arcs and sines in boxes.
-/
import Derived.Test.YtecfhpgpojgjkaaGreatP35
import Derived.Test.YtecfhpgpojgjkaaGreatP29
namespace Go.Proofs.YtecfhpgpojgjkaaGreat.Ev
open Go
set_option linter.unusedSimpArgs false
set_option linter.unusedVariables false

/-- An interval in a box. -/
def Box (L H : Int) (a : Iv) : Prop := F_spec_l04Ok a = true ∧ L ≤ a.lo.val ∧ a.hi.val ≤ H
noncomputable def inBx (L H : Int) (a : Iv) : Bool := F_spec_l04Ok a && (decide (L ≤ a.lo.val) && decide (a.hi.val ≤ H))
theorem box_of {L H : Int} {a : Iv} (h : inBx L H a = true) : Box L H a := by
  simp only [inBx, Bool.and_eq_true, decide_eq_true_eq] at h
  exact ⟨h.1, h.2.1, h.2.2⟩
theorem Sub.box {a b : Iv} {L H : Int} (h : Sub a b) (k : Box L H b) : Box L H a := by
  obtain ⟨h1, h2, h3⟩ := h k.1
  exact ⟨h1, by have := k.2.1; omega, by have := k.2.2; omega⟩
theorem Box.sub {a b : Iv} (h : Box b.lo.val b.hi.val a) : Sub a b := fun _ => ⟨h.1, h.2.1, h.2.2⟩
theorem Box.weak {a : Iv} {L H L' H' : Int} (h : Box L H a) (h1 : L' ≤ L) (h2 : H ≤ H') : Box L' H' a := ⟨h.1, by have := h.2.1; omega, by have := h.2.2; omega⟩
theorem at_sub {x p q : I64} (h1 : p.val ≤ x.val) (h2 : x.val ≤ q.val) (h3 : -1152921504606846976 < p.val) (h4 : q.val < 1152921504606846976) : Sub ⟨x, x⟩ ⟨p, q⟩ := fun _ => ⟨(okiff _).2 (by simp only; omega), h1, h2⟩

theorem Sub.halve {a a' : Iv} (h : Sub a a') : Sub (F_spec_l07Halve a) (F_spec_l07Halve a') := by
  simp only [F_spec_l07Halve, t_spec_l07Halve, Tr.get]
  cases hb : F_spec_l04Ok (F_spec_AddI (F_spec_Integer ⟨1, rfl⟩) (F_spec_SqrtI (F_spec_AddI (F_spec_Integer ⟨1, rfl⟩) (F_spec_SqrI a'))))
  · exact sub_ofno (div_no hb)
  · have hv := addI_val hb
    have hs := sqrtI_nn hv.2.1
    have hk := sqrtI_mk hs.1 hs.2
    have hin := (okiff _).1 hs.1
    obtain ⟨q, p, e1, e2, h1, h2, h3, h4, h5, h6, h7, h8⟩ := su_val2 _ (show 0 ≤ (F_spec_AddI (F_spec_Integer ⟨1, rfl⟩) (F_spec_SqrI a')).lo.val ∧ (F_spec_AddI (F_spec_Integer ⟨1, rfl⟩) (F_spec_SqrI a')).lo.val ≤ 1152921504606846976 by omega)
    have ho : (F_spec_Integer ⟨1, rfl⟩).lo.val = 4294967296 := by rw [int_val (by decide)]; rfl
    refine Sub.div h (Sub.add (Sub.refl _) (Sub.sqrt (Sub.add (Sub.refl _) h.sqr))) ?_
    rw [hv.2.2.1, hk.2.1, e1, ho]
    simp only
    omega
theorem inside4 {x : Iv} : F_spec_InsideI x ⟨⟨(-1073741824), rfl⟩, ⟨1073741824, rfl⟩⟩ = (F_spec_l04Ok x && (decide (-1073741824 ≤ x.lo.val) && decide (x.hi.val ≤ 1073741824))) := by
  have h2 : F_spec_l04Ok ⟨⟨-1073741824, rfl⟩, ⟨1073741824, rfl⟩⟩ = true := (okiff _).2 (by decide)
  simp only [F_spec_InsideI, t_spec_InsideI, Tr.get, h2, Bool.not_true, cond_false]
  cases F_spec_l04Ok x <;> cases decide (-1073741824 ≤ x.lo.val) <;> simp [ctr, cfl]
theorem Sub.arc {a a' : Iv} (h : Sub a a') : Sub (F_spec_ArcSeries a) (F_spec_ArcSeries a') := by
  simp only [F_spec_ArcSeries, t_spec_ArcSeries, Tr.get, sWhole_eq]
  cases hi : F_spec_InsideI a' ⟨⟨(-1073741824), rfl⟩, ⟨1073741824, rfl⟩⟩
  · exact sub_whole _
  · have hi' := hi
    rw [inside4] at hi'
    simp only [Bool.and_eq_true, decide_eq_true_eq] at hi'
    obtain ⟨k1, k2, k3⟩ := h hi'.1
    have hj : F_spec_InsideI a ⟨⟨(-1073741824), rfl⟩, ⟨1073741824, rfl⟩⟩ = true := by
      rw [inside4]
      simp only [Bool.and_eq_true, decide_eq_true_eq]
      exact ⟨k1, by omega, by omega⟩
    simp only [hj, Bool.not_true, cfl]
    refine Sub.add (Sub.mul h ?_) (Sub.refl _)
    have hy := h.sqr
    generalize F_spec_SqrI a = y, F_spec_SqrI a' = y' at hy
    repeat' (first | with_reducible exact Sub.refl _ | with_reducible refine Sub.sub (Sub.refl _) (Sub.mul hy ?_))
theorem Sub.core {a a' : Iv} (h : Sub a a') : Sub (F_spec_l07Core a) (F_spec_l07Core a') := by
  simp only [F_spec_l07Core, t_spec_l07Core, Tr.get]
  exact h.halve.halve.arc.dbl.dbl

/-! ### the arc of a tangent in boxes -/
theorem core_box {x p q : I64} {L H : Int} (h1 : p.val ≤ x.val) (h2 : x.val ≤ q.val) (h3 : -1152921504606846976 < p.val) (h4 : q.val < 1152921504606846976) (hk : inBx L H (F_spec_l07Core ⟨p, q⟩) = true) : Box L H (F_spec_l07Core ⟨x, x⟩) :=
  (at_sub h1 h2 h3 h4).core.box (box_of hk)
theorem atan_core {x : I64} (h : 0 ≤ x.val ∧ x.val ≤ 4294967296) : F_spec_AtanAt x = F_spec_l07Core ⟨x, x⟩ := by
  have hf : F_spec_l07Fix x = true := (fix_iff x).2 (by omega)
  have hn : decide (x.val < 0) = false := by simp; omega
  have hg : decide (x.val > 4294967296) = false := by simp; omega
  have e : F_spec_AtanAt x = F_spec_l07Core (F_spec_l05At x) := Tr.opt_get (by simp only [t_spec_AtanAt, Tr.opt, hf, hn, hg, Bool.not_true, cfl])
  rw [e]
  simp only [F_spec_l05At, t_spec_l05At, Tr.get]
theorem k_lo : inBx 25088 4294967300 (F_spec_l07Core ⟨⟨32767, rfl⟩, ⟨4294967296, rfl⟩⟩) = true := by kernel_rfl
theorem k_1 : inBx (-8) 3373259176 (F_spec_l07Core ⟨⟨0, rfl⟩, ⟨2623393355, rfl⟩⟩) = true := by kernel_rfl
theorem k_2 : inBx (-8) 3373259176 (F_spec_l07Core ⟨⟨2623393355, rfl⟩, ⟨3744528541, rfl⟩⟩) = true := by kernel_rfl
theorem k_3 : inBx (-8) 3373259176 (F_spec_l07Core ⟨⟨3744528541, rfl⟩, ⟨4092898073, rfl⟩⟩) = true := by kernel_rfl
theorem k_4 : inBx (-8) 3373259176 (F_spec_l07Core ⟨⟨4092898073, rfl⟩, ⟨4218663241, rfl⟩⟩) = true := by kernel_rfl
theorem k_5 : inBx (-8) 3373259176 (F_spec_l07Core ⟨⟨4218663241, rfl⟩, ⟨4265874415, rfl⟩⟩) = true := by kernel_rfl
theorem k_6 : inBx (-8) 3373259176 (F_spec_l07Core ⟨⟨4265874415, rfl⟩, ⟨4283835239, rfl⟩⟩) = true := by kernel_rfl
theorem k_7 : inBx (-8) 3373259176 (F_spec_l07Core ⟨⟨4283835239, rfl⟩, ⟨4290701832, rfl⟩⟩) = true := by kernel_rfl
theorem k_8 : inBx (-8) 3373259176 (F_spec_l07Core ⟨⟨4290701832, rfl⟩, ⟨4293331870, rfl⟩⟩) = true := by kernel_rfl
theorem k_9 : inBx (-8) 3373259176 (F_spec_l07Core ⟨⟨4293331870, rfl⟩, ⟨4294339936, rfl⟩⟩) = true := by kernel_rfl
theorem k_10 : inBx (-8) 3373259176 (F_spec_l07Core ⟨⟨4294339936, rfl⟩, ⟨4294726423, rfl⟩⟩) = true := by kernel_rfl
theorem k_11 : inBx (-8) 3373259176 (F_spec_l07Core ⟨⟨4294726423, rfl⟩, ⟨4294874616, rfl⟩⟩) = true := by kernel_rfl
theorem atan_box {x : I64} (h : 32767 ≤ x.val ∧ x.val ≤ 4294874616) : Box 25088 3373259176 (F_spec_AtanAt x) := by
  rw [atan_core (by omega)]
  have lo := core_box (x := x) (p := ⟨32767, rfl⟩) (q := ⟨4294967296, rfl⟩) h.1 (by simp only; omega) (by decide) (by decide) k_lo
  have hi : Box (-8) 3373259176 (F_spec_l07Core ⟨x, x⟩) := by
    by_cases c1 : x.val ≤ 2623393355
    · exact core_box (by simp only; omega) c1 (by decide) (by decide) k_1
    by_cases c2 : x.val ≤ 3744528541
    · exact core_box (by simp only; omega) c2 (by decide) (by decide) k_2
    by_cases c3 : x.val ≤ 4092898073
    · exact core_box (by simp only; omega) c3 (by decide) (by decide) k_3
    by_cases c4 : x.val ≤ 4218663241
    · exact core_box (by simp only; omega) c4 (by decide) (by decide) k_4
    by_cases c5 : x.val ≤ 4265874415
    · exact core_box (by simp only; omega) c5 (by decide) (by decide) k_5
    by_cases c6 : x.val ≤ 4283835239
    · exact core_box (by simp only; omega) c6 (by decide) (by decide) k_6
    by_cases c7 : x.val ≤ 4290701832
    · exact core_box (by simp only; omega) c7 (by decide) (by decide) k_7
    by_cases c8 : x.val ≤ 4293331870
    · exact core_box (by simp only; omega) c8 (by decide) (by decide) k_8
    by_cases c9 : x.val ≤ 4294339936
    · exact core_box (by simp only; omega) c9 (by decide) (by decide) k_9
    by_cases c10 : x.val ≤ 4294726423
    · exact core_box (by simp only; omega) c10 (by decide) (by decide) k_10
    · exact core_box (by simp only; omega) (by simp only; omega) (by decide) (by decide) k_11
  exact ⟨lo.1, lo.2.1, hi.2.2⟩
theorem hull_box {a b : Iv} {L H : Int} (ha : Box L H a) (hb : Box L H b) : Box L H (F_spec_HullI a b) := by
  have oa := (okiff _).1 ha.1
  have ob := (okiff _).1 hb.1
  have m1 := min_l a.lo b.lo
  have m2 := max_l a.hi b.hi
  have a1 := ha.2
  have b1 := hb.2
  simp only [F_spec_HullI, t_spec_HullI, Tr.get, ha.1, hb.1, Bool.not_true, cfl]
  rw [make_ok (by omega)]
  exact ⟨(okiff _).2 (by simp only; omega), by simp only; omega, by simp only; omega⟩
theorem atanI_box {a : Iv} (h : Box 32767 4294874616 a) : Box 25088 3373259176 (F_spec_AtanI a) := by
  have h1 := (okiff _).1 h.1
  have h2 := h.2
  rw [atanI_spec, siw_eq, h.1]
  simp only [Bool.not_true, cfl]
  exact hull_box (atan_box (by omega)) (atan_box (by omega))
/-- The root of 1 less a square. -/
theorem circle_box {k : I64} (h : 65536 ≤ k.val ∧ k.val ≤ 4294967295) : Box 92681 4294967296 (F_spec_CircleAt k) := by
  have e1 : (Rng.w .i64 (4294967296 - k.val)).val = 4294967296 - k.val := wi (by omega) (by omega)
  have e2 : (Rng.w .i64 (4294967296 + k.val)).val = 4294967296 + k.val := wi (by omega) (by omega)
  have hi : F_spec_l00In k ⟨(-4294967296), rfl⟩ ⟨4294967296, rfl⟩ = true := by rw [in_eq]; simp; omega
  obtain ⟨q, f1, f2, f3, f4, f5⟩ := sf_val (.w .i64 (4294967296 - k.val)) (.w .i64 (4294967296 + k.val)) (by omega) (by omega)
  rw [e1, e2] at f4 f5
  have hq : q.val + 1 ≤ 4294967296 := by
    by_cases hh : q.val + 1 ≤ 4294967296
    · exact hh
    · have h1 : (4294967296 : Int) * 4294967296 ≤ q.val * q.val := Int.mul_le_mul (by omega) (by omega) (by decide) (by omega)
      have h2 : (4294967296 - k.val) * (4294967296 + k.val) = 4294967296 * 4294967296 - k.val * k.val := by
        rw [Int.sub_mul, Int.mul_add, Int.mul_add, Int.mul_comm k.val 4294967296]; omega
      have h3 := Int.mul_pos (show 0 < k.val by omega) (show 0 < k.val by omega)
      omega
  have hl : 92681 ≤ q.val := by
    by_cases hh : 92681 ≤ q.val
    · exact hh
    · have h1 : (q.val + 1) * (q.val + 1) ≤ 92681 * 92681 := Int.mul_le_mul (by omega) (by omega) (by omega) (by decide)
      have h2 : 1 * (4294967296 + 4294967295) ≤ (4294967296 - k.val) * (4294967296 + k.val) := by
        have e : (4294967296 - k.val) * (4294967296 + k.val) = 4294967296 * 4294967296 - k.val * k.val := by
          rw [Int.sub_mul, Int.mul_add, Int.mul_add, Int.mul_comm k.val 4294967296]; omega
        have h3 : k.val * k.val ≤ 4294967295 * 4294967295 := Int.mul_le_mul h.2 h.2 (by omega) (by decide)
        omega
      omega
  have e3 : (Rng.w .i64 (q.val + 1)).val = q.val + 1 := wi (by omega) (by omega)
  simp only [F_spec_CircleAt, t_spec_CircleAt, Tr.get, hi, f1, Bool.not_true, cfl]
  generalize (!((F_spec_WideMul q q).hi.val == (F_spec_WideMul (Rng.w .i64 (4294967296 - k.val)) (Rng.w .i64 (4294967296 + k.val))).hi.val && ((F_spec_WideMul q q).lo.val == (F_spec_WideMul (Rng.w .i64 (4294967296 - k.val)) (Rng.w .i64 (4294967296 + k.val))).lo.val && true))) = c
  cases c
  · exact ⟨(okiff _).2 (by simp only [cfl]; omega), by simp only [cfl]; omega, by simp only [cfl]; omega⟩
  · exact ⟨(okiff _).2 (by simp only [ctr, e3]; omega), by simp only [ctr]; omega, by simp only [ctr, e3]; omega⟩
theorem k_quo : inBx 32767 4294874616 (F_spec_DivI ⟨⟨65536, rfl⟩, ⟨4294967295, rfl⟩⟩ (F_spec_AddI (F_spec_Integer ⟨1, rfl⟩) ⟨⟨92681, rfl⟩, ⟨4294967296, rfl⟩⟩)) = true := by kernel_rfl
theorem k_pos : (F_spec_AddI (F_spec_Integer ⟨1, rfl⟩) ⟨⟨92681, rfl⟩, ⟨4294967296, rfl⟩⟩).lo.val = 4295059977 := by kernel_rfl
theorem quarter_iv : F_spec_l07Quarter = ⟨⟨-6746518853, rfl⟩, ⟨6746518853, rfl⟩⟩ := by kernel_rfl
theorem asin_mid {k : I64} (h : 65536 ≤ k.val ∧ k.val ≤ 4294967295) : Box 50176 6746518352 (F_spec_AsinAt k) := by
  have hi : F_spec_l00In k ⟨(-4294967296), rfl⟩ ⟨4294967296, rfl⟩ = true := by rw [in_eq]; simp; omega
  have hc := circle_box h
  have hq : Box 32767 4294874616 (F_spec_DivI (F_spec_l05At k) (F_spec_AddI (F_spec_Integer ⟨1, rfl⟩) (F_spec_CircleAt k))) := by
    refine Sub.box (Sub.div (at_sub (p := ⟨65536, rfl⟩) (q := ⟨4294967295, rfl⟩) h.1 h.2 (by decide) (by decide)) (Sub.add (Sub.refl _) (Box.sub (b := ⟨⟨92681, rfl⟩, ⟨4294967296, rfl⟩⟩) hc)) ?_) (box_of k_quo)
    rw [k_pos]; decide
  have ha := atanI_box hq
  simp only [F_spec_AsinAt, t_spec_AsinAt, Tr.get, hi, Bool.not_true, cfl]
  generalize F_spec_AtanI (F_spec_DivI (F_spec_l05At k) (F_spec_AddI (F_spec_Integer ⟨1, rfl⟩) (F_spec_CircleAt k))) = a at ha
  have ba := (okiff _).1 ha.1
  have b1 := ha.2
  have k1 : (Rng.w .i64 (2 * a.lo.val)).val = 2 * a.lo.val := wi (by omega) (by omega)
  have k2 : (Rng.w .i64 (2 * a.hi.val)).val = 2 * a.hi.val := wi (by omega) (by omega)
  have hd : F_spec_DoubleI a = ⟨.w .i64 (2 * a.lo.val), .w .i64 (2 * a.hi.val)⟩ := by
    simp only [F_spec_DoubleI, t_spec_DoubleI, Tr.get, ha.1, Bool.not_true, cfl]
    exact make_ok (by rw [k1, k2]; omega)
  have o1 : F_spec_l04Ok ⟨.w .i64 (2 * a.lo.val), .w .i64 (2 * a.hi.val)⟩ = true := (okiff _).2 (by simp only [k1, k2]; omega)
  have o2 : F_spec_l04Ok ⟨⟨-6746518853, rfl⟩, ⟨6746518853, rfl⟩⟩ = true := (okiff _).2 (by decide)
  have m1 := max_l (.w .i64 (2 * a.lo.val)) ⟨-6746518853, rfl⟩
  have m2 := min_l (.w .i64 (2 * a.hi.val)) ⟨6746518853, rfl⟩
  rw [k1] at m1
  rw [k2] at m2
  simp only at m1 m2
  have hlt : decide ((F_spec_l00Max (.w .i64 (2 * a.lo.val)) ⟨-6746518853, rfl⟩).val > (F_spec_l00Min (.w .i64 (2 * a.hi.val)) ⟨6746518853, rfl⟩).val) = false := by simp; omega
  rw [hd, quarter_iv]
  simp only [F_spec_MeetI, t_spec_MeetI, Tr.get, o1, o2, hlt, Bool.not_true, cfl]
  exact ⟨(okiff _).2 (by simp only; omega), by simp only; omega, by simp only; omega⟩
theorem asin_0 : F_spec_AsinAt ⟨0, rfl⟩ = ⟨⟨-8, rfl⟩, ⟨8, rfl⟩⟩ := by kernel_rfl
theorem asin_1 : F_spec_AsinAt ⟨4294967296, rfl⟩ = ⟨⟨6746518832, rfl⟩, ⟨6746518853, rfl⟩⟩ := by kernel_rfl

/-! ### the sine of a fix between 0 and half a turn -/
theorem Sub.series0 {y y' : Iv} (h : Sub y y') : Sub (F_spec_l06Series y ⟨0, rfl⟩) (F_spec_l06Series y' ⟨0, rfl⟩) := by
  simp only [F_spec_l06Series, t_spec_l06Series, Tr.get]
  have hp : ∀ n : I64, 1 ≤ n.val → n.val ≤ 268435455 → 0 < (F_spec_Integer n).lo.val := fun n h1 h2 => by
    rw [int_val (by omega)]
    simp only
    rw [wi (by omega) (by omega)]
    omega
  repeat' (first | with_reducible exact Sub.refl _ | with_reducible refine Sub.sub (Sub.refl _) (Sub.mul (Sub.div h (Sub.refl _) (hp _ (by decide) (by decide))) ?_))
theorem Sub.series1 {y y' : Iv} (h : Sub y y') : Sub (F_spec_l06Series y ⟨-1, rfl⟩) (F_spec_l06Series y' ⟨-1, rfl⟩) := by
  simp only [F_spec_l06Series, t_spec_l06Series, Tr.get]
  have hp : ∀ n : I64, 1 ≤ n.val → n.val ≤ 268435455 → 0 < (F_spec_Integer n).lo.val := fun n h1 h2 => by
    rw [int_val (by omega)]
    simp only
    rw [wi (by omega) (by omega)]
    omega
  repeat' (first | with_reducible exact Sub.refl _ | with_reducible refine Sub.sub (Sub.refl _) (Sub.mul (Sub.div h (Sub.refl _) (hp _ (by decide) (by decide))) ?_))
theorem ring_mono {a a' : Iv} (h : Sub a a') (hr : F_spec_InsideI a' F_spec_l06Ring = true) : F_spec_InsideI a F_spec_l06Ring = true := by
  have h1 := (ring_iff _).1 hr
  obtain ⟨k1, k2, k3⟩ := h ((okiff _).2 (by omega))
  have := (okiff _).1 k1
  exact (ring_iff _).2 (by omega)
theorem Sub.sinS {a a' : Iv} (h : Sub a a') : Sub (F_spec_SinSeries a) (F_spec_SinSeries a') := by
  simp only [F_spec_SinSeries, t_spec_SinSeries, Tr.get, sWhole_eq]
  cases hr : F_spec_InsideI a' F_spec_l06Ring
  · exact sub_whole _
  · simp only [ring_mono h hr, Bool.not_true, cfl]
    exact Sub.add (Sub.mul h h.sqr.series0) (Sub.refl _)
theorem Sub.cosS {a a' : Iv} (h : Sub a a') : Sub (F_spec_CosSeries a) (F_spec_CosSeries a') := by
  simp only [F_spec_CosSeries, t_spec_CosSeries, Tr.get, sWhole_eq]
  cases hr : F_spec_InsideI a' F_spec_l06Ring
  · exact sub_whole _
  · simp only [ring_mono h hr, Bool.not_true, cfl]
    exact Sub.add h.sqr.series1 (Sub.refl _)
theorem Sub.neg {a a' : Iv} (h : Sub a a') : Sub (F_spec_NegI a) (F_spec_NegI a') := fun hk => by
  rw [neg_isok] at hk
  obtain ⟨k1, k2, k3⟩ := h hk
  have b1 := (okiff _).1 k1
  have b2 := (okiff _).1 hk
  rw [neg_ok_val k1, neg_ok_val hk]
  have e1 : (Rng.w .i64 (0 - a.hi.val)).val = 0 - a.hi.val := wi (by omega) (by omega)
  have e2 : (Rng.w .i64 (0 - a.lo.val)).val = 0 - a.lo.val := wi (by omega) (by omega)
  have e3 : (Rng.w .i64 (0 - a'.hi.val)).val = 0 - a'.hi.val := wi (by omega) (by omega)
  have e4 : (Rng.w .i64 (0 - a'.lo.val)).val = 0 - a'.lo.val := wi (by omega) (by omega)
  refine ⟨(okiff _).2 (by simp only [e1, e2]; omega), ?_, ?_⟩
  · simp only [e1, e3]; omega
  · simp only [e2, e4]; omega
theorem ring_box : Box (-4294967296) 4294967296 F_spec_l06Ring := box_of (by kernel_rfl)
/-- What is left in the ring of an interval. -/
theorem tiny_lt : decide (F_spec_l06Tiny.lo.val < F_spec_l06Tiny.hi.val) = true := by kernel_rfl
theorem wide_tiny {x : Iv} (h : F_spec_l04Ok (F_spec_AddI x F_spec_l06Tiny) = true) : (F_spec_AddI x F_spec_l06Tiny).lo.val < (F_spec_AddI x F_spec_l06Tiny).hi.val := by
  have hv := addI_val h
  have hx := (okiff _).1 hv.1
  have ht := of_decide_eq_true tiny_lt
  omega
theorem sinS_wide {y : Iv} (h : F_spec_l04Ok (F_spec_SinSeries y) = true) : (F_spec_SinSeries y).lo.val < (F_spec_SinSeries y).hi.val := by
  simp only [F_spec_SinSeries, t_spec_SinSeries, Tr.get, sWhole_eq] at h ⊢
  cases hr : F_spec_InsideI y F_spec_l06Ring
  · rw [hr] at h; simp only [Bool.not_false, ctr, whole_no] at h; cases h
  · simp only [hr, Bool.not_true, cfl] at h ⊢
    exact wide_tiny h
theorem cosS_wide {y : Iv} (h : F_spec_l04Ok (F_spec_CosSeries y) = true) : (F_spec_CosSeries y).lo.val < (F_spec_CosSeries y).hi.val := by
  simp only [F_spec_CosSeries, t_spec_CosSeries, Tr.get, sWhole_eq] at h ⊢
  cases hr : F_spec_InsideI y F_spec_l06Ring
  · rw [hr] at h; simp only [Bool.not_false, ctr, whole_no] at h; cases h
  · simp only [hr, Bool.not_true, cfl] at h ⊢
    exact wide_tiny h
theorem neg_wide {y : Iv} (hk : F_spec_l04Ok y = true) (h : y.lo.val < y.hi.val) : (F_spec_NegI y).lo.val < (F_spec_NegI y).hi.val := by
  have b1 := (okiff _).1 hk
  rw [neg_ok_val hk]
  have e1 : (Rng.w .i64 (0 - y.hi.val)).val = 0 - y.hi.val := wi (by omega) (by omega)
  have e2 : (Rng.w .i64 (0 - y.lo.val)).val = 0 - y.lo.val := wi (by omega) (by omega)
  simp only [e1, e2]
  omega
theorem meet_box {a : Iv} {L : Int} (h : Box L 4294967297 a) (hw : a.lo.val < a.hi.val) (hL : -4294967296 ≤ L) (hL' : L ≤ 4294967296) : Box L 4294967296 (F_spec_l06Meet a) := by
  have o := ring_box.1
  have e1 : F_spec_l06Ring.lo.val = -4294967296 := rfl
  have e2 : F_spec_l06Ring.hi.val = 4294967296 := rfl
  have ba := (okiff _).1 h.1
  have hb := h.2
  have m1 := max_l a.lo F_spec_l06Ring.lo
  have m2 := min_l a.hi F_spec_l06Ring.hi
  rw [e1] at m1
  rw [e2] at m2
  simp only [F_spec_l06Meet, t_spec_l06Meet, F_spec_MeetI, t_spec_MeetI, Tr.get, h.1, o, Bool.not_true, cfl]
  by_cases hlt : (F_spec_l00Max a.lo F_spec_l06Ring.lo).val > (F_spec_l00Min a.hi F_spec_l06Ring.hi).val
  · simp only [hlt, decide_true, ctr, Bool.not_false]
    exfalso; omega
  · simp only [hlt, decide_false, cfl, Bool.not_true]
    exact ⟨(okiff _).2 (by simp only; omega), by simp only; omega, by simp only; omega⟩
theorem k_s0 : inBx 17 4294967297 (F_spec_SinSeries (F_spec_SubI ⟨⟨100352, rfl⟩, ⟨3373259426, rfl⟩⟩ (F_spec_TurnI ⟨0, rfl⟩))) = true := by kernel_rfl
theorem k_s1 : inBx 17 4294967297 (F_spec_CosSeries (F_spec_SubI ⟨⟨3373259426, rfl⟩, ⟨10119778278, rfl⟩⟩ (F_spec_TurnI ⟨1, rfl⟩))) = true := by kernel_rfl
theorem k_s2 : inBx 17 4294967297 (F_spec_NegI (F_spec_SinSeries (F_spec_SubI ⟨⟨10119778278, rfl⟩, ⟨13493036704, rfl⟩⟩ (F_spec_TurnI ⟨2, rfl⟩)))) = true := by kernel_rfl
theorem quarter_val {n : I64} (h : 0 ≤ n.val ∧ n.val ≤ 13493036704) : (F_spec_QuarterOf n).val = (n.val + 3373259426) / 6746518852 := by
  have ha : F_spec_l06Angle n = true := (angle_iff n).2 (by omega)
  have e1 : (Rng.w .i64 (n.val + 3373259426)).val = n.val + 3373259426 := wi (by omega) (by omega)
  have t1 := Int.tdiv_eq_ediv (a := n.val + 3373259426) (b := 6746518852)
  rw [if_pos (.inl (by omega))] at t1
  have q1 : (Rng.w .i64 ((n.val + 3373259426).tdiv 6746518852)).val = (n.val + 3373259426).tdiv 6746518852 := wi (by omega) (by omega)
  have q2 : (Rng.w .i64 ((n.val + 3373259426).tdiv 6746518852 * 6746518852)).val = (n.val + 3373259426).tdiv 6746518852 * 6746518852 := wi (by omega) (by omega)
  have hd : decide ((n.val + 3373259426).tdiv 6746518852 * 6746518852 > n.val + 3373259426) = false := by simp; omega
  rw [← quarter_eq]
  simp only [F_impl_QuarterOf, t_impl_QuarterOf, Tr.get, angle_eq, ha, e1, q1, q2, hd, Bool.not_true, cfl]
  omega
theorem sin_box {t : I64} (h : 100352 ≤ t.val ∧ t.val ≤ 13493036704) : Box 17 4294967296 (F_spec_l06At t ⟨0, rfl⟩) := by
  have ha : F_spec_l06Angle t = true := (angle_iff t).2 (by omega)
  have hq := quarter_val (n := t) (by omega)
  have hat : F_spec_l05At t = ⟨t, t⟩ := rfl
  have hc : (F_spec_QuarterOf t).val = 0 ∨ (F_spec_QuarterOf t).val = 1 ∨ (F_spec_QuarterOf t).val = 2 := by omega
  simp only [F_spec_l06At, t_spec_l06At, Tr.get, ha, hat, Bool.not_true, cfl]
  rcases hc with hc | hc | hc
  · have e : F_spec_QuarterOf t = ⟨0, rfl⟩ := Rng.ext hc
    rw [e]
    show Box 17 4294967296 (F_spec_l06Meet (F_spec_SinSeries (F_spec_SubI ⟨t, t⟩ (F_spec_TurnI ⟨0, rfl⟩))))
    have hx := ((Sub.sub (at_sub (x := t) (p := ⟨100352, rfl⟩) (q := ⟨3373259426, rfl⟩) h.1 (by simp only; omega) (by decide) (by decide)) (Sub.refl (F_spec_TurnI ⟨0, rfl⟩))).sinS.box (box_of k_s0))
    exact meet_box hx (sinS_wide hx.1) (by decide) (by decide)
  · have e : F_spec_QuarterOf t = ⟨1, rfl⟩ := Rng.ext hc
    rw [e]
    show Box 17 4294967296 (F_spec_l06Meet (F_spec_CosSeries (F_spec_SubI ⟨t, t⟩ (F_spec_TurnI ⟨1, rfl⟩))))
    have hx := ((Sub.sub (at_sub (x := t) (p := ⟨3373259426, rfl⟩) (q := ⟨10119778278, rfl⟩) (by simp only; omega) (by simp only; omega) (by decide) (by decide)) (Sub.refl (F_spec_TurnI ⟨1, rfl⟩))).cosS.box (box_of k_s1))
    exact meet_box hx (cosS_wide hx.1) (by decide) (by decide)
  · have e : F_spec_QuarterOf t = ⟨2, rfl⟩ := Rng.ext hc
    rw [e]
    show Box 17 4294967296 (F_spec_l06Meet (F_spec_NegI (F_spec_SinSeries (F_spec_SubI ⟨t, t⟩ (F_spec_TurnI ⟨2, rfl⟩)))))
    have hx := ((Sub.sub (at_sub (x := t) (p := ⟨10119778278, rfl⟩) (q := ⟨13493036704, rfl⟩) (by simp only; omega) h.2 (by decide) (by decide)) (Sub.refl (F_spec_TurnI ⟨2, rfl⟩))).sinS.neg.box (box_of k_s2))
    exact meet_box hx (neg_wide (by rw [← neg_isok]; exact hx.1) (sinS_wide (by rw [← neg_isok]; exact hx.1))) (by decide) (by decide)
end Go.Proofs.YtecfhpgpojgjkaaGreat.Ev
