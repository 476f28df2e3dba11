/-
  Plain laws: wide numbers: products, negatives, narrowing: the two readings are one.
-/
import Derived.Test.YtcfflflcbacapaaGreatP0
import Derived.Test.YtcfflflcbacapaaGreatW1
namespace Go.Proofs.YtcfflflcbacapaaGreat.Ev
open Go
set_option linter.unusedSimpArgs false
set_option linter.unusedVariables false

theorem ws_val (n : Int) : (Rng.w .i64 n).val = (n + 9223372036854775808) % 18446744073709551616 - 9223372036854775808 := by
  show IntKind.i64.wrap n = _
  simp only [IntKind.wrap, IntKind.bits, IntKind.signed]
  simp
  split <;> omega
theorem fd32 (x : Int) : x.fdiv 4294967296 = x / 4294967296 := Int.fdiv_eq_ediv_of_nonneg x (by decide)
theorem fd63 (x : Int) : x.fdiv 9223372036854775808 = x / 9223372036854775808 := Int.fdiv_eq_ediv_of_nonneg x (by decide)
theorem rext {k : IntKind} {a b : Rng k} (h : a.val = b.val) : a = b := Rng.ext h

theorem bv_toNat {x : Int} (h0 : 0 ≤ x) (h1 : x ≤ 18446744073709551615) : (BitVec.ofInt 64 x).toNat = x.toNat := by
  rw [BitVec.toNat_ofInt]
  have : ((2 ^ 64 : Nat) : Int) = 18446744073709551616 := by decide
  rw [this]
  omega
theorem and_mask32 (x : U64) : (Rng.w .u64 (bitop .and .u64 x.val 4294967295)).val = x.val % 4294967296 := by
  have b := x.ubd
  have e : bitop .and .u64 x.val 4294967295 = x.val % 4294967296 := by
    show ((BitVec.ofInt 64 x.val &&& BitVec.ofInt 64 4294967295).toNat : Int) = _
    rw [BitVec.toNat_and, bv_toNat b.1 b.2, bv_toNat (by decide) (by decide)]
    have := Nat.and_two_pow_sub_one_eq_mod x.val.toNat 32
    simp only [show (4294967295 : Int).toNat = 2 ^ 32 - 1 by decide]
    rw [this]
    omega
  rw [e, wu (by omega) (by omega)]
theorem and_one (x : U64) : (Rng.w .u64 (bitop .and .u64 x.val 1)).val = x.val % 2 := by
  have b := x.ubd
  have e : bitop .and .u64 x.val 1 = x.val % 2 := by
    show ((BitVec.ofInt 64 x.val &&& BitVec.ofInt 64 1).toNat : Int) = _
    rw [BitVec.toNat_and, bv_toNat b.1 b.2, bv_toNat (by decide) (by decide)]
    have := Nat.and_two_pow_sub_one_eq_mod x.val.toNat 1
    simp only [show (1 : Int).toNat = 2 ^ 1 - 1 by decide]
    rw [this]
    omega
  rw [e, wu (by omega) (by omega)]
theorem or_add {a b : Int} (k a1 : Nat) (ha : a = 2 ^ k * (a1 : Int)) (hb : 0 ≤ b) (hb' : b < 2 ^ k) (hs : a + b ≤ 18446744073709551615) : bitop .or .u64 a b = a + b := by
  have ha0 : 0 ≤ a := by rw [ha]; exact Int.mul_nonneg (Int.pow_nonneg (by decide)) (Int.natCast_nonneg _)
  obtain ⟨bn, rfl⟩ := Int.eq_ofNat_of_zero_le hb
  have ha' : a = ((2 ^ k * a1 : Nat) : Int) := by rw [ha]; simp
  have hbn : bn < 2 ^ k := by
    have : ((bn : Nat) : Int) < ((2 ^ k : Nat) : Int) := by simpa using hb'
    exact Int.ofNat_lt.1 this
  show ((BitVec.ofInt 64 a ||| BitVec.ofInt 64 (bn : Int)).toNat : Int) = _
  rw [BitVec.toNat_or, bv_toNat ha0 (by omega), bv_toNat (by omega) (by omega)]
  have := Nat.two_pow_add_eq_or_of_lt hbn a1
  rw [ha']
  simp only [Int.toNat_natCast]
  rw [← this]
  simp
theorem xor_not (x : I64) : (Rng.w .i64 (bitop .xor .i64 (-1) x.val)).val = -1 - x.val := by
  have b := x.bd
  have e : bitop .xor .i64 (-1) x.val = 18446744073709551615 - x.val % 18446744073709551616 := by
    show ((BitVec.ofInt 64 (-1) ^^^ BitVec.ofInt 64 x.val).toNat : Int) = _
    have h1 : BitVec.ofInt 64 (-1) = BitVec.allOnes 64 := by decide
    rw [h1, BitVec.allOnes_xor, BitVec.toNat_not, BitVec.toNat_ofInt]
    have : ((2 ^ 64 : Nat) : Int) = 18446744073709551616 := by decide
    rw [this]
    omega
  rw [e, ws_val]
  omega

/-! ### wide numbers -/
def wv (w : Wide) : Int := w.hi.val * 18446744073709551616 + w.lo.val
def mkW (v : Int) : Wide := ⟨.w .i64 (v / 18446744073709551616), .w .u64 v⟩
theorem wide_ext {a b : Wide} (h : wv a = wv b) : a = b := by
  have h1 := a.lo.ubd; have h2 := b.lo.ubd
  unfold wv at h
  cases a with
  | mk ah al => cases b with
    | mk bh bl =>
      simp only at h h1 h2
      rw [rext (a := ah) (b := bh) (by omega), rext (a := al) (b := bl) (by omega)]
theorem wv_bd (w : Wide) : -170141183460469231731687303715884105728 ≤ wv w ∧ wv w < 170141183460469231731687303715884105728 := by
  have h1 := w.lo.ubd; have h2 := w.hi.bd
  unfold wv; omega
theorem wv_mkW {v : Int} (h : -170141183460469231731687303715884105728 ≤ v) (h' : v < 170141183460469231731687303715884105728) : wv (mkW v) = v := by
  unfold wv mkW
  simp only
  rw [wi (by omega) (by omega), wu_mod]
  omega
theorem mkW_eq {w : Wide} {v : Int} (h : wv w = v) : w = mkW v := by
  have := wv_bd w
  exact wide_ext (by rw [wv_mkW (by omega) (by omega), h])

theorem of_spec (n : I64) : F_spec_l02Of n = mkW n.val := by
  have b := n.bd
  apply mkW_eq
  simp only [F_spec_l02Of, t_spec_l02Of, Tr.get]
  by_cases h : n.val < 0
  · simp only [h, decide_true, cond_true, wv, wu_mod]; omega
  · simp only [h, decide_false, cond_false, wv, wu_mod]; omega
theorem of_impl (n : I64) : F_impl_WideOf n = mkW n.val := by
  have b := n.bd
  apply mkW_eq
  simp only [F_impl_WideOf, t_impl_WideOf, Tr.get, wv, wu_mod, fd63]
  rw [wi (by omega) (by omega)]
  omega

/-- The narrow number, and whether it is. -/
def narrow (v : Int) : T2 I64 Bool := if -9223372036854775808 ≤ v ∧ v ≤ 9223372036854775807 then ⟨.w .i64 v, true⟩ else ⟨.w .i64 0, false⟩
theorem lit_i64 (n : Int) (h : inB .i64 n = true) : (⟨n, h⟩ : I64) = .w .i64 n := rext (wrap_inB h).symm
theorem lit_u64 (n : Int) (h : inB .u64 n = true) : (⟨n, h⟩ : U64) = .w .u64 n := rext (wrap_inB h).symm
theorem narrow_of {w : Wide} (f : I64 → Wide) (hf : ∀ n, f n = mkW n.val) :
    (Tr.get (let c1 := f (Rng.w .i64 (w.lo.val)); Tr.br (!((c1.hi.val == w.hi.val) && ((c1.lo.val == w.lo.val) && true))) (.leaf (⟨⟨0, rfl⟩, false⟩ : T2 I64 Bool)) (.leaf ⟨(Rng.w .i64 (w.lo.val)), true⟩))) = narrow (wv w) := by
  have b1 := w.lo.ubd; have b2 := w.hi.bd
  simp only [hf, Tr.get, narrow, mkW]
  by_cases h : -9223372036854775808 ≤ wv w ∧ wv w ≤ 9223372036854775807
  · rw [if_pos h]
    unfold wv at h
    have e1 : (Rng.w .i64 w.lo.val).val = wv w := by rw [ws_val]; unfold wv; omega
    have e2 : (Rng.w .i64 (wv w / 18446744073709551616)).val = w.hi.val := by rw [ws_val]; unfold wv; omega
    have e3 : (Rng.w .u64 (wv w)).val = w.lo.val := by rw [wu_mod]; unfold wv; omega
    rw [e1, e2, e3]
    simp only [BEq.rfl, Bool.true_and, Bool.not_true, cond_false]
    congr 1
    exact rext (by rw [e1, ← e1]; rw [e1]; unfold wv; rw [ws_val]; omega)
  · rw [if_neg h]
    unfold wv at h
    have ne : ¬ ((Rng.w .i64 ((Rng.w .i64 w.lo.val).val / 18446744073709551616)).val = w.hi.val ∧ (Rng.w .u64 (Rng.w .i64 w.lo.val).val).val = w.lo.val) := by
      rintro ⟨k1, k2⟩
      rw [ws_val, ws_val] at k1
      omega
    have : (!(((Rng.w .i64 ((Rng.w .i64 w.lo.val).val / 18446744073709551616)).val == w.hi.val) && (((Rng.w .u64 (Rng.w .i64 w.lo.val).val).val == w.lo.val) && true))) = true := by
      simp only [Bool.and_true, Bool.not_eq_true', Bool.and_eq_false_iff, beq_eq_false_iff_ne]
      by_cases k : (Rng.w .i64 ((Rng.w .i64 w.lo.val).val / 18446744073709551616)).val = w.hi.val
      · right; exact fun k2 => ne ⟨k, k2⟩
      · left; exact k
    rw [this, cond_true]
    rfl
theorem int_spec (w : Wide) : F_spec_l02Int w = narrow (wv w) := narrow_of F_spec_l02Of of_spec
theorem int_impl (w : Wide) : F_impl_WideInt w = narrow (wv w) := narrow_of F_impl_WideOf of_impl

/-- The negative, modulo 2^128. -/
theorem minus_spec (w : Wide) (h : wv w ≠ -170141183460469231731687303715884105728) : F_spec_l02Minus w = mkW (- wv w) := by
  have b1 := w.lo.ubd; have b2 := w.hi.bd
  apply mkW_eq
  unfold wv at h
  simp only [F_spec_l02Minus, t_spec_l02Minus, Tr.get]
  by_cases hl : w.lo.val = 0
  · simp only [hl, BEq.rfl, cond_true, wv, wu_mod]
    rw [wi (by omega) (by omega)]; omega
  · have : (w.lo.val == 0) = false := by simp [hl]
    simp only [this, cond_false, wv, wu_mod, xor_not]; omega
theorem neg_ok (w : Wide) : (t_impl_Wide_negative w).opt = some (F_spec_l02Minus w) := by
  have b1 := w.lo.ubd; have b2 := w.hi.bd
  simp only [t_impl_Wide_negative, Tr.opt, F_spec_l02Minus, t_spec_l02Minus, Tr.get, F_math_bits_Sub64, G_carry]
  by_cases hl : w.lo.val = 0
  · have c : (Rng.w .u64 (if (0 : Int) < w.lo.val + 0 then 1 else 0)).val = 0 := by rw [if_neg (by omega), wu (by omega) (by omega)]
    have e : (w.lo.val == 0) = true := by simp [hl]
    simp only [c, e, cond_true, show decide ((0 : Int) ≤ 1) = true from rfl, Option.some.injEq]
    rw [Wide.mk.injEq]
    exact ⟨rext (by simp only [ws_val, wu_mod]; omega), rext (by simp only [wu_mod]; omega)⟩
  · have c : (Rng.w .u64 (if (0 : Int) < w.lo.val + 0 then 1 else 0)).val = 1 := by rw [if_pos (by omega), wu (by omega) (by omega)]
    have e : (w.lo.val == 0) = false := by simp [hl]
    simp only [c, e, cond_false, cond_true, show decide ((1 : Int) ≤ 1) = true from rfl, Option.some.injEq]
    rw [Wide.mk.injEq]
    exact ⟨rext (by rw [xor_not]; simp only [ws_val, wu_mod]; omega), rext (by simp only [wu_mod]; omega)⟩
theorem neg_impl (w : Wide) : F_impl_Wide_negative w = F_spec_l02Minus w := Tr.opt_get (neg_ok w)
theorem neg_G (w : Wide) : G_impl_Wide_negative w = true := by simp [G_impl_Wide_negative, neg_ok]

/-! ### products -/
theorem prod_parts (a b : Int) (ha : 0 ≤ a) (ha' : a ≤ 18446744073709551615) (hb : 0 ≤ b) (hb' : b ≤ 18446744073709551615) :
    ∃ p00 p01 p10 p11 : Int, (a % 4294967296) * (b % 4294967296) = p00 ∧ (a % 4294967296) * (b / 4294967296) = p01 ∧ (a / 4294967296) * (b % 4294967296) = p10 ∧ (a / 4294967296) * (b / 4294967296) = p11 ∧
      0 ≤ p00 ∧ p00 ≤ 18446744065119617025 ∧ 0 ≤ p01 ∧ p01 ≤ 18446744065119617025 ∧ 0 ≤ p10 ∧ p10 ≤ 18446744065119617025 ∧ 0 ≤ p11 ∧ p11 ≤ 18446744065119617025 ∧
      a * b = p11 * 18446744073709551616 + (p10 + p01) * 4294967296 + p00 := by
  have bound : ∀ x y : Int, 0 ≤ x → x ≤ 4294967295 → 0 ≤ y → y ≤ 4294967295 → 0 ≤ x * y ∧ x * y ≤ 18446744065119617025 := by
    intro x y hx hx' hy hy'
    refine ⟨Int.mul_nonneg hx hy, ?_⟩
    have := Int.mul_le_mul hx' hy' hy (by omega)
    omega
  obtain ⟨k1, k2⟩ := bound (a % 4294967296) (b % 4294967296) (by omega) (by omega) (by omega) (by omega)
  obtain ⟨k3, k4⟩ := bound (a % 4294967296) (b / 4294967296) (by omega) (by omega) (by omega) (by omega)
  obtain ⟨k5, k6⟩ := bound (a / 4294967296) (b % 4294967296) (by omega) (by omega) (by omega) (by omega)
  obtain ⟨k7, k8⟩ := bound (a / 4294967296) (b / 4294967296) (by omega) (by omega) (by omega) (by omega)
  refine ⟨_, _, _, _, rfl, rfl, rfl, rfl, k1, k2, k3, k4, k5, k6, k7, k8, ?_⟩
  have e1 : a = a / 4294967296 * 4294967296 + a % 4294967296 := by omega
  have e2 : b = b / 4294967296 * 4294967296 + b % 4294967296 := by omega
  generalize a / 4294967296 = a1 at *
  generalize a % 4294967296 = a0 at *
  generalize b / 4294967296 = b1 at *
  generalize b % 4294967296 = b0 at *
  subst e1; subst e2
  grind
theorem times_spec (a b : U64) : F_spec_l02Times a b = ⟨.w .u64 (a.val * b.val / 18446744073709551616), .w .u64 (a.val * b.val)⟩ := by
  have ha := a.ubd; have hb := b.ubd
  obtain ⟨p00, p01, p10, p11, h1, h2, h3, h4, k1, k2, k3, k4, k5, k6, k7, k8, e⟩ := prod_parts a.val b.val ha.1 ha.2 hb.1 hb.2
  have a1 : (Rng.w .u64 (a.val / 4294967296)).val = a.val / 4294967296 := wu (by omega) (by omega)
  have b1 : (Rng.w .u64 (b.val / 4294967296)).val = b.val / 4294967296 := wu (by omega) (by omega)
  simp only [F_spec_l02Times, t_spec_l02Times, Tr.get, and_mask32, fd32, a1, b1, h1, h2, h3, h4]
  rw [T2.mk.injEq]
  refine ⟨rext ?_, rfl⟩
  rw [e]
  simp only [wu_mod]
  omega
theorem times_impl (a b : U64) : F_math_bits_Mul64 a b = ⟨.w .u64 (a.val * b.val / 18446744073709551616), .w .u64 (a.val * b.val)⟩ := by
  have ha := a.ubd; have hb := b.ubd
  obtain ⟨p00, p01, p10, p11, h1, h2, h3, h4, k1, k2, k3, k4, k5, k6, k7, k8, e⟩ := prod_parts a.val b.val ha.1 ha.2 hb.1 hb.2
  have a1 : (Rng.w .u64 (a.val / 4294967296)).val = a.val / 4294967296 := wu (by omega) (by omega)
  have b1 : (Rng.w .u64 (b.val / 4294967296)).val = b.val / 4294967296 := wu (by omega) (by omega)
  simp only [F_math_bits_Mul64, t_math_bits_Mul64, Tr.get, and_mask32, fd32, a1, b1, h1, h2, h3, h4]
  rw [T2.mk.injEq]
  refine ⟨rext ?_, rfl⟩
  rw [e]
  simp only [wu_mod]
  omega
theorem size_spec (a : I64) : (F_spec_l02Size a).val = if a.val < 0 then -a.val else a.val := by
  have b := a.bd
  simp only [F_spec_l02Size, t_spec_l02Size, Tr.get]
  by_cases h : a.val < 0
  · simp only [h, decide_true, cond_true, if_true, wu_mod]; omega
  · simp only [h, decide_false, cond_false, if_false, wu_mod]; omega
theorem mul_bd {a b : Int} (ha : -9223372036854775808 ≤ a ∧ a ≤ 9223372036854775807) (hb : -9223372036854775808 ≤ b ∧ b ≤ 9223372036854775807) :
    -85070591730234615865843651857942052864 ≤ a * b ∧ a * b ≤ 85070591730234615865843651857942052864 := by
  have h : (a * b).natAbs ≤ 9223372036854775808 * 9223372036854775808 := by
    rw [Int.natAbs_mul]
    exact Nat.mul_le_mul (by omega) (by omega)
  omega
theorem mul_spec (a b : I64) : F_spec_l02Mul a b = mkW (a.val * b.val) := by
  have ha := a.bd; have hb := b.bd
  have hm := mul_bd ha hb
  have pos : ∀ u v : U64, 0 ≤ u.val * v.val → u.val * v.val ≤ 85070591730234615865843651857942052864 → (⟨Rng.w .i64 (Rng.w .u64 (u.val * v.val / 18446744073709551616)).val, Rng.w .u64 (u.val * v.val)⟩ : Wide) = mkW (u.val * v.val) := by
    intro u v h h'
    unfold mkW
    rw [wu (n := u.val * v.val / 18446744073709551616) (by omega) (by omega)]
  simp only [F_spec_l02Mul, t_spec_l02Mul, Tr.get, times_spec]
  have sa := size_spec a; have sb := size_spec b
  by_cases h1 : a.val < 0 <;> by_cases h2 : b.val < 0
  · have e : (F_spec_l02Size a).val * (F_spec_l02Size b).val = a.val * b.val := by rw [sa, sb, if_pos h1, if_pos h2, Int.neg_mul_neg]
    have hp : 0 ≤ a.val * b.val := by have := Int.mul_nonneg (a := -a.val) (b := -b.val) (by omega) (by omega); rwa [Int.neg_mul_neg] at this
    rw [pos _ _ (by rw [e]; exact hp) (by rw [e]; omega), e]
    simp [h1, h2]
  · have e : (F_spec_l02Size a).val * (F_spec_l02Size b).val = -(a.val * b.val) := by rw [sa, sb, if_pos h1, if_neg h2, Int.neg_mul]
    have hp : 0 ≤ -(a.val * b.val) := by have := Int.mul_nonneg (a := -a.val) (b := b.val) (by omega) (by omega); rwa [Int.neg_mul] at this
    rw [pos _ _ (by rw [e]; exact hp) (by rw [e]; omega), e]
    simp only [h1, h2, decide_true, decide_false]
    rw [show (!(true == false)) = true by rfl, cond_true, minus_spec _ (by rw [wv_mkW (by omega) (by omega)]; omega), wv_mkW (by omega) (by omega)]
    rw [Int.neg_neg]
  · have e : (F_spec_l02Size a).val * (F_spec_l02Size b).val = -(a.val * b.val) := by rw [sa, sb, if_neg h1, if_pos h2, Int.mul_neg]
    have hp : 0 ≤ -(a.val * b.val) := by have := Int.mul_nonneg (a := a.val) (b := -b.val) (by omega) (by omega); rwa [Int.mul_neg] at this
    rw [pos _ _ (by rw [e]; exact hp) (by rw [e]; omega), e]
    simp only [h1, h2, decide_true, decide_false]
    rw [show (!(false == true)) = true by rfl, cond_true, minus_spec _ (by rw [wv_mkW (by omega) (by omega)]; omega), wv_mkW (by omega) (by omega)]
    rw [Int.neg_neg]
  · have e : (F_spec_l02Size a).val * (F_spec_l02Size b).val = a.val * b.val := by rw [sa, sb, if_neg h1, if_neg h2]
    have hp : 0 ≤ a.val * b.val := Int.mul_nonneg (by omega) (by omega)
    rw [pos _ _ (by rw [e]; exact hp) (by rw [e]; omega), e]
    simp [h1, h2]
theorem mul_impl (a b : I64) : F_impl_WideMul a b = mkW (a.val * b.val) := by
  have ha := a.bd; have hb := b.bd
  have hm := mul_bd ha hb
  simp only [F_impl_WideMul, t_impl_WideMul, Tr.get, times_impl]
  by_cases h1 : a.val < 0 <;> by_cases h2 : b.val < 0
  · have ea : (Rng.w .u64 a.val).val = a.val + 18446744073709551616 := by rw [wu_mod]; omega
    have eb : (Rng.w .u64 b.val).val = b.val + 18446744073709551616 := by rw [wu_mod]; omega
    have e : (a.val + 18446744073709551616) * (b.val + 18446744073709551616) = a.val * b.val + (a.val + b.val + 18446744073709551616) * 18446744073709551616 := by grind
    simp only [h1, h2, decide_true, cond_true, ea, eb, e, mkW]
    rw [Wide.mk.injEq]
    exact ⟨rext (by simp only [ws_val, wu_mod]; omega), rext (by simp only [wu_mod]; omega)⟩
  · have ea : (Rng.w .u64 a.val).val = a.val + 18446744073709551616 := by rw [wu_mod]; omega
    have eb : (Rng.w .u64 b.val).val = b.val := by rw [wu_mod]; omega
    have e : (a.val + 18446744073709551616) * b.val = a.val * b.val + b.val * 18446744073709551616 := by grind
    simp only [h1, h2, decide_true, decide_false, cond_true, cond_false, ea, eb, e, mkW]
    rw [Wide.mk.injEq]
    exact ⟨rext (by simp only [ws_val, wu_mod]; omega), rext (by simp only [wu_mod]; omega)⟩
  · have ea : (Rng.w .u64 a.val).val = a.val := by rw [wu_mod]; omega
    have eb : (Rng.w .u64 b.val).val = b.val + 18446744073709551616 := by rw [wu_mod]; omega
    have e : a.val * (b.val + 18446744073709551616) = a.val * b.val + a.val * 18446744073709551616 := by grind
    simp only [h1, h2, decide_true, decide_false, cond_true, cond_false, ea, eb, e, mkW]
    rw [Wide.mk.injEq]
    exact ⟨rext (by simp only [ws_val, wu_mod]; omega), rext (by simp only [wu_mod]; omega)⟩
  · have ea : (Rng.w .u64 a.val).val = a.val := by rw [wu_mod]; omega
    have eb : (Rng.w .u64 b.val).val = b.val := by rw [wu_mod]; omega
    simp only [h1, h2, decide_false, cond_false, ea, eb, mkW]
    rw [Wide.mk.injEq]
    exact ⟨rext (by simp only [ws_val, wu_mod]; omega), rfl⟩
end Go.Proofs.YtcfflflcbacapaaGreat.Ev
