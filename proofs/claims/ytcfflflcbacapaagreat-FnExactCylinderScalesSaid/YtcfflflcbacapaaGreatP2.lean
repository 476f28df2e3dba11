/-
  Plain laws: the quotient of a number of two halves by one: bit by bit, and by Knuth's digits.
-/
import Derived.Test.YtcfflflcbacapaaGreatP1
namespace Go.Proofs.YtcfflflcbacapaaGreat.Ev
open Go
set_option linter.unusedSimpArgs false
set_option linter.unusedVariables false

theorem fdpow (x : Int) (k : Nat) : x.fdiv (2 ^ k) = x / 2 ^ k := Int.fdiv_eq_ediv_of_nonneg x (Int.pow_nonneg (by decide))

theorem pow_le63 {k : Nat} (h : k ≤ 63) : (2 : Int) ^ k ≤ 9223372036854775808 := by
  have := Nat.pow_le_pow_of_le (a := 2) (by decide) h
  have h2 : ((2 ^ k : Nat) : Int) ≤ ((2 ^ 63 : Nat) : Int) := Int.ofNat_le.2 this
  have e : ((2 ^ 63 : Nat) : Int) = 9223372036854775808 := by decide
  rw [e] at h2
  simpa using h2

/-! ### bit by bit -/
theorem bit_at {lo : Int} (K : Int) (hK : 0 < K) : lo % (K * 2) = lo / K % 2 * K + lo % K := by
  have h1 := Int.emod_emod_of_dvd lo (Int.dvd_mul_right K 2)
  have h2 := Int.mul_ediv_add_emod (lo % (K * 2)) K
  rw [h1] at h2
  have h3 : lo % (K * 2) / K = lo / K % 2 := by
    rw [Int.emod_def lo (K * 2), Int.emod_def (lo / K) 2, ← Int.ediv_ediv_of_nonneg (Int.le_of_lt hK)]
    have : lo - K * 2 * (lo / K / 2) = lo + K * (-(2 * (lo / K / 2))) := by grind
    rw [this, Int.add_mul_ediv_left _ _ (by omega)]
    omega
  rw [h3] at h2
  rw [Int.mul_comm] at h2
  omega

theorem div_step {d r t K L : Int} (hd : 0 < d) : ((r - d * t) * K + L) % d = (r * K + L) % d ∧ ((r - d * t) * K + L) / d + t * K = (r * K + L) / d := by
  have e : r * K + L = (r - d * t) * K + L + t * K * d := by grind
  rw [e]
  exact ⟨(Int.add_mul_emod_self_right _ _ _).symm, (Int.add_mul_ediv_right _ _ (by omega)).symm⟩

theorem divide_loop (d lo qh : U64) (hd : 0 < d.val) : ∀ (k : Nat) (m : Nat) (rest q : U64) (i : I64), k ≤ 64 → i.val = (k : Int) - 1 → rest.val < d.val → q.val < 2 ^ (64 - k) →
    (Lf b_spec_l02Divide_5 (k + 1 + m) ⟨lo, d, qh, rest, q, i⟩).opt =
      some ⟨lo, d, qh, .w .u64 ((rest.val * 2 ^ k + lo.val % 2 ^ k) % d.val), .w .u64 (q.val * 2 ^ k + (rest.val * 2 ^ k + lo.val % 2 ^ k) / d.val), .w .i64 (-1)⟩ := by
  intro k
  induction k with
  | zero =>
    intro m rest q i _ hi hr hq
    have br := rest.ubd
    have hi' : ¬ (i.val ≥ 0) := by omega
    simp only [Lf, b_spec_l02Divide_5, hi', decide_false, Tr.bind, Tr.opt, cond_false, Nat.zero_add, Nat.add_comm 1 m]
    have e1 : (rest.val * 2 ^ 0 + lo.val % 2 ^ 0) = rest.val := by simp
    rw [e1, Int.emod_eq_of_lt (by omega) hr, Int.ediv_eq_zero_of_lt (by omega) hr]
    simp
    exact rext (by rw [wi (by omega) (by omega)]; omega)
  | succ k ih =>
    intro m rest q i hk hi hr hq
    have br := rest.ubd; have bq := q.ubd; have bl := lo.ubd; have bd := d.ubd
    have hi' : i.val ≥ 0 := by omega
    have hK : (0 : Int) < 2 ^ k := Int.pow_pos (by decide)
    have hshift : (2 : Int) ^ min ((Rng.w .u64 i.val).val).toNat 64 = 2 ^ k := by
      rw [wu (by omega) (by omega)]; congr 1; omega
    have hbit : (Rng.w .u64 (lo.val.fdiv (2 ^ k))).val = lo.val / 2 ^ k := by
      rw [fdpow]
      have h1 : 0 ≤ lo.val / 2 ^ k := Int.ediv_nonneg bl.1 (Int.le_of_lt hK)
      have h2 : lo.val / 2 ^ k ≤ lo.val := Int.ediv_le_self _ bl.1
      exact wu h1 (by omega)
    have hc7 : (Rng.w .u64 (bitop .or .u64 (Rng.w .u64 (rest.val * 2)).val (Rng.w .u64 (bitop .and .u64 (Rng.w .u64 (lo.val.fdiv (2 ^ k))).val 1)).val)).val =
        (rest.val * 2) % 18446744073709551616 + lo.val / 2 ^ k % 2 := by
      rw [and_one, hbit, wu_mod (rest.val * 2)]
      rw [or_add 1 ((rest.val * 2 % 18446744073709551616 / 2).toNat) (by omega) (by omega) (by omega) (by omega)]
      exact wu (by omega) (by omega)
    have hc8 : (Rng.w .u64 (q.val * 2)).val = q.val * 2 := by
      have := pow_le63 (show 64 - (k + 1) ≤ 63 by omega)
      exact wu (by omega) (by omega)
    have hq8 : (Rng.w .u64 (bitop .or .u64 (Rng.w .u64 (q.val * 2)).val 1)).val = q.val * 2 + 1 := by
      have := pow_le63 (show 64 - (k + 1) ≤ 63 by omega)
      rw [hc8, or_add 1 q.val.toNat (by omega) (by omega) (by omega) (by omega)]
      exact wu (by omega) (by omega)
    have hi1 : (Rng.w .i64 (i.val - 1)).val = (k : Int) - 1 := by rw [wi (by omega) (by omega)]; omega
    have hp : (2 : Int) ^ (64 - k) = 2 ^ (64 - (k + 1)) * 2 := by
      rw [← Int.pow_succ]; congr 1; omega
    have hp1 : (2 : Int) ^ (k + 1) = 2 ^ k * 2 := Int.pow_succ 2 k
    have hV : lo.val % 2 ^ (k + 1) = lo.val / 2 ^ k % 2 * 2 ^ k + lo.val % 2 ^ k := by rw [hp1]; exact bit_at _ hK
    generalize hbb : lo.val / 2 ^ k % 2 = bb at *
    have hbb01 : bb = 0 ∨ bb = 1 := by omega
    have goal_of : ∀ (t : Int) (rest' q' : U64), rest'.val = rest.val * 2 + bb - d.val * t → q'.val = q.val * 2 + t → (rest'.val < d.val) → (t = 0 ∨ t = 1) →
        (Lf b_spec_l02Divide_5 (k + 1 + m) ⟨lo, d, qh, rest', q', .w .i64 (i.val - 1)⟩).opt =
        some ⟨lo, d, qh, .w .u64 ((rest.val * 2 ^ (k + 1) + lo.val % 2 ^ (k + 1)) % d.val), .w .u64 (q.val * 2 ^ (k + 1) + (rest.val * 2 ^ (k + 1) + lo.val % 2 ^ (k + 1)) / d.val), .w .i64 (-1)⟩ := by
      intro t rest' q' h1 h2 h3 h4
      rw [ih m rest' q' _ (by omega) hi1 h3 (by rw [hp]; omega)]
      have e : rest.val * 2 ^ (k + 1) + lo.val % 2 ^ (k + 1) = (rest.val * 2 + bb) * 2 ^ k + lo.val % 2 ^ k := by rw [hV, hp1]; grind
      rw [e, h1, h2]
      obtain ⟨s1, s2⟩ := div_step (r := rest.val * 2 + bb) (t := t) (K := 2 ^ k) (L := lo.val % 2 ^ k) hd
      rw [s1, ← s2]
      have e2 : (q.val * 2 + t) * 2 ^ k + ((rest.val * 2 + bb - d.val * t) * 2 ^ k + lo.val % 2 ^ k) / d.val = q.val * 2 ^ (k + 1) + (((rest.val * 2 + bb - d.val * t) * 2 ^ k + lo.val % 2 ^ k) / d.val + t * 2 ^ k) := by
        rw [hp1]; grind
      rw [e2]
    have hfuel : k + 1 + 1 + m = (k + 1 + m) + 1 := by omega
    rw [hfuel]
    simp only [Lf, b_spec_l02Divide_5, hi', decide_true, Tr.bind, cond_true, Tr.opt, hshift]
    by_cases ht : rest.val ≥ 9223372036854775808
    · have htop : ((Rng.w .u64 (rest.val.fdiv 9223372036854775808)).val == 1) = true := by
        rw [fd63, wu (by omega) (by omega)]; simp; omega
      simp only [htop, cond_true]
      refine goal_of 1 _ _ ?_ hq8 ?_ (.inr rfl)
      · rw [wu_mod, hc7]; omega
      · rw [wu_mod, hc7]; omega
    · have htop : ((Rng.w .u64 (rest.val.fdiv 9223372036854775808)).val == 1) = false := by
        rw [fd63, wu (by omega) (by omega)]; simp; omega
      simp only [htop, cond_false]
      by_cases hge : (rest.val * 2) % 18446744073709551616 + bb ≥ d.val
      · have hge' : decide ((Rng.w .u64 (bitop .or .u64 (Rng.w .u64 (rest.val * 2)).val (Rng.w .u64 (bitop .and .u64 (Rng.w .u64 (lo.val.fdiv (2 ^ k))).val 1)).val)).val ≥ d.val) = true := by
          rw [hc7]; simpa using hge
        simp only [hge', cond_true]
        refine goal_of 1 _ _ ?_ hq8 ?_ (.inr rfl)
        · rw [wu_mod, hc7]; omega
        · rw [wu_mod, hc7]; omega
      · have hge' : decide ((Rng.w .u64 (bitop .or .u64 (Rng.w .u64 (rest.val * 2)).val (Rng.w .u64 (bitop .and .u64 (Rng.w .u64 (lo.val.fdiv (2 ^ k))).val 1)).val)).val ≥ d.val) = false := by
          rw [hc7]; simpa using hge
        simp only [hge', cond_false]
        refine goal_of 0 _ _ ?_ (by rw [hc8]; omega) ?_ (.inl rfl)
        · rw [hc7]; omega
        · rw [hc7]; omega

/-- The number of two halves. -/
def two (hi lo : Int) : Int := hi * 18446744073709551616 + lo
theorem two_div {hi lo d : Int} (hd : 0 < d) : (hi % d * 18446744073709551616 + lo) % d = two hi lo % d ∧ (hi % d * 18446744073709551616 + lo) / d + hi / d * 18446744073709551616 = two hi lo / d := by
  have := div_step (d := d) (r := hi) (t := hi / d) (K := 18446744073709551616) (L := lo) hd
  rw [← Int.emod_def] at this
  exact this
theorem two_lt {r lo d : Int} (hd : 0 < d) (hr : 0 ≤ r) (hr' : r < d) (hl : 0 ≤ lo) (hl' : lo ≤ 18446744073709551615) : 0 ≤ two r lo ∧ two r lo / d ≤ 18446744073709551615 ∧ 0 ≤ two r lo / d := by
  have h0 : 0 ≤ two r lo := by unfold two; omega
  refine ⟨h0, ?_, Int.ediv_nonneg h0 (Int.le_of_lt hd)⟩
  have : two r lo < 18446744073709551616 * d := by unfold two; omega
  have := Int.ediv_lt_of_lt_mul hd this
  omega

theorem divide_ok (hi lo d : U64) (hd : 0 < d.val) : (t_spec_l02Divide hi lo d).opt = some ⟨.w .u64 (hi.val / d.val), .w .u64 (two (hi.val % d.val) lo.val / d.val), .w .u64 (two (hi.val % d.val) lo.val % d.val)⟩ := by
  have b1 := hi.ubd; have b2 := lo.ubd; have b3 := d.ubd
  have h0 : (d.val == 0) = false := by simp; omega
  have e1 : hi.val.tdiv d.val = hi.val / d.val := Int.tdiv_eq_ediv_of_nonneg b1.1
  have e2 : hi.val.tmod d.val = hi.val % d.val := Int.tmod_eq_emod_of_nonneg b1.1
  have m1 := Int.emod_nonneg hi.val (b := d.val) (by omega)
  have m2 := Int.emod_lt_of_pos hi.val hd
  have er : (Rng.w .u64 (hi.val % d.val)).val = hi.val % d.val := wu m1 (by omega)
  have hl := divide_loop d lo (Rng.w .u64 (hi.val / d.val)) hd 64 1 (Rng.w .u64 (hi.val % d.val)) ⟨0, rfl⟩ ⟨63, rfl⟩ (by omega) (by rfl) (by rw [er]; exact m2) (by decide)
  have hfuel : (64 + 1 + 1 : Nat) = 66 := rfl
  rw [hfuel] at hl
  have hG : G_spec_l02Divide_5 ⟨lo, d, Rng.w .u64 (hi.val / d.val), Rng.w .u64 (hi.val % d.val), ⟨0, rfl⟩, ⟨63, rfl⟩⟩ = true := by unfold G_spec_l02Divide_5; rw [hl]; rfl
  have hL : L_spec_l02Divide_5 ⟨lo, d, Rng.w .u64 (hi.val / d.val), Rng.w .u64 (hi.val % d.val), ⟨0, rfl⟩, ⟨63, rfl⟩⟩ = _ := Tr.opt_get hl
  simp only [t_spec_l02Divide, h0, Tr.opt, cond_false, e1, e2, hG, cond_true, hL]
  rw [er]
  have hlo : lo.val % 2 ^ 64 = lo.val := Int.emod_eq_of_lt b2.1 (by omega)
  rw [hlo]
  have : (2 : Int) ^ 64 = 18446744073709551616 := by decide
  rw [this]
  simp only [two, Int.zero_mul, Int.zero_add]
theorem divide_eq (hi lo d : U64) (hd : 0 < d.val) : F_spec_l02Divide hi lo d = ⟨.w .u64 (hi.val / d.val), .w .u64 (two (hi.val % d.val) lo.val / d.val), .w .u64 (two (hi.val % d.val) lo.val % d.val)⟩ := Tr.opt_get (divide_ok hi lo d hd)
theorem divide_G (hi lo d : U64) (hd : 0 < d.val) : G_spec_l02Divide hi lo d = true := by unfold G_spec_l02Divide; rw [divide_ok hi lo d hd]; rfl

/-! ### the number of bits -/
theorem len8 : (List.range 256).all (fun n => decide (n < (S_312 0).size) && decide (n < 2 ^ (strAt (S_312 0) n).val.toNat) && (decide (n = 0) || decide (2 ^ ((strAt (S_312 0) n).val.toNat - 1) ≤ n)) &&
    decide ((strAt (S_312 0) n).val.toNat ≤ 8) && (decide (n = 0) || decide (1 ≤ (strAt (S_312 0) n).val.toNat))) = true := by kernel_rfl
theorem len8_at {n : Nat} (h : n < 256) : n < (S_312 0).size ∧ n < 2 ^ (strAt (S_312 0) n).val.toNat ∧ (n = 0 ∨ 2 ^ ((strAt (S_312 0) n).val.toNat - 1) ≤ n) ∧
    (strAt (S_312 0) n).val.toNat ≤ 8 ∧ (n = 0 ∨ 1 ≤ (strAt (S_312 0) n).val.toNat) := by
  have := List.all_eq_true.1 len8 n (List.mem_range.2 h)
  simp only [Bool.and_eq_true, Bool.or_eq_true, decide_eq_true_eq] at this
  obtain ⟨⟨⟨⟨h1, h2⟩, h3⟩, h4⟩, h5⟩ := this
  exact ⟨h1, h2, h3, h4, h5⟩

/-- What the count of bits of x > 0 is. -/
def IsLen (x : Int) (l : Int) : Prop := ∃ n : Nat, l = n ∧ 1 ≤ n ∧ n ≤ 64 ∧ x < 2 ^ n ∧ 2 ^ (n - 1) ≤ x
theorem len_leaf (c : U64) (hc : 0 < c.val) (hc' : c.val < 256) (k : Nat) (hk : k ≤ 56) (x : Int) (hx : c.val = x / 2 ^ k) :
    Nat.blt ((Rng.w .u8 (c.val)).val.toNat) (S_312 0).size = true ∧ IsLen x (Rng.w .i64 (k + (Rng.w .i64 ((strAt (S_312 0) ((Rng.w .u8 (c.val)).val.toNat)).val)).val)).val := by
  have e8 : (Rng.w .u8 c.val).val = c.val := wrap_inB (k := .u8) (by simp [inB]; omega)
  rw [e8]
  obtain ⟨h1, h2, h3, h4, h5⟩ := len8_at (n := c.val.toNat) (by omega)
  refine ⟨by simpa using h1, ?_⟩
  have hb := (strAt (S_312 0) c.val.toNat).bbd
  generalize (strAt (S_312 0) c.val.toNat).val = l at *
  obtain ⟨n, rfl⟩ := Int.eq_ofNat_of_zero_le hb.1
  simp only [Int.toNat_natCast] at h1 h2 h3 h4 h5
  rw [wi (n := (n : Int)) (by omega) (by omega), wi (by omega) (by omega)]
  have hK : (0 : Int) < 2 ^ k := Int.pow_pos (by decide)
  have h2' : c.val < 2 ^ n := by
    have : ((c.val.toNat : Nat) : Int) < ((2 ^ n : Nat) : Int) := Int.ofNat_lt.2 h2
    simp at this; omega
  have h3' : 2 ^ (n - 1) ≤ c.val := by
    rcases h3 with h3 | h3
    · omega
    · have : ((2 ^ (n - 1) : Nat) : Int) ≤ ((c.val.toNat : Nat) : Int) := Int.ofNat_le.2 h3
      simp at this; omega
  refine ⟨k + n, by simp, by omega, by omega, ?_, ?_⟩
  · rw [Int.pow_add]
    have : x < 2 ^ k * (x / 2 ^ k + 1) := by
      have := Int.mul_ediv_add_emod x (2 ^ k); have := Int.emod_lt_of_pos x hK; grind
    have := Int.mul_le_mul_of_nonneg_left (show x / 2 ^ k + 1 ≤ 2 ^ n by omega) (Int.le_of_lt hK)
    omega
  · rw [show k + n - 1 = k + (n - 1) by omega, Int.pow_add]
    have := Int.mul_le_mul_of_nonneg_left (show (2 : Int) ^ (n - 1) ≤ x / 2 ^ k by omega) (Int.le_of_lt hK)
    have := Int.mul_ediv_add_emod x (2 ^ k); have := Int.emod_nonneg x (b := 2 ^ k) (by omega)
    omega

theorem shr_val (x : U64) (m : Int) (hm : 0 < m) : (Rng.w .u64 (x.val.fdiv m)).val = x.val / m := by
  have b := x.ubd
  rw [Int.fdiv_eq_ediv_of_nonneg x.val (Int.le_of_lt hm)]
  have h1 : 0 ≤ x.val / m := Int.ediv_nonneg b.1 (Int.le_of_lt hm)
  have h2 : x.val / m ≤ x.val := Int.ediv_le_self _ b.1
  exact wu h1 (by omega)

theorem len_ok (x : U64) (hx : 0 < x.val) : ∃ l, (t_math_bits_Len64 x).opt = some l ∧ IsLen x.val l.val := by
  have b := x.ubd
  have p8 : (2 : Int) ^ 8 = 256 := by decide
  have p16 : (2 : Int) ^ 16 = 65536 := by decide
  have p24 : (2 : Int) ^ 24 = 16777216 := by decide
  have p32 : (2 : Int) ^ 32 = 4294967296 := by decide
  have p40 : (2 : Int) ^ 40 = 1099511627776 := by decide
  have p48 : (2 : Int) ^ 48 = 281474976710656 := by decide
  have p56 : (2 : Int) ^ 56 = 72057594037927936 := by decide
  have p0 : (2 : Int) ^ 0 = 1 := by decide
  simp only [t_math_bits_Len64, Tr.opt]
  by_cases h1 : x.val ≥ 4294967296
  · simp only [h1, decide_true, cond_true]
    have e1 := shr_val x 4294967296 (by decide)
    generalize Rng.w .u64 (x.val.fdiv 4294967296) = c at *
    by_cases h2 : c.val ≥ 65536
    · simp only [h2, decide_true, cond_true]
      have e2 := shr_val c 65536 (by decide)
      generalize Rng.w .u64 (c.val.fdiv 65536) = c2 at *
      by_cases h3 : c2.val ≥ 256
      · simp only [h3, decide_true, cond_true]
        have e3 := shr_val c2 256 (by decide)
        generalize Rng.w .u64 (c2.val.fdiv 256) = c3 at *
        obtain ⟨g1, g2⟩ := len_leaf c3 (by omega) (by omega) 56 (by omega) x.val (by rw [p56]; omega)
        simp only [g1, cond_true]; exact ⟨_, rfl, g2⟩
      · simp only [h3, decide_false, cond_false]
        obtain ⟨g1, g2⟩ := len_leaf c2 (by omega) (by omega) 48 (by omega) x.val (by rw [p48]; omega)
        simp only [g1, cond_true]; exact ⟨_, rfl, g2⟩
    · simp only [h2, decide_false, cond_false]
      by_cases h3 : c.val ≥ 256
      · simp only [h3, decide_true, cond_true]
        have e3 := shr_val c 256 (by decide)
        generalize Rng.w .u64 (c.val.fdiv 256) = c3 at *
        obtain ⟨g1, g2⟩ := len_leaf c3 (by omega) (by omega) 40 (by omega) x.val (by rw [p40]; omega)
        simp only [g1, cond_true]; exact ⟨_, rfl, g2⟩
      · simp only [h3, decide_false, cond_false]
        obtain ⟨g1, g2⟩ := len_leaf c (by omega) (by omega) 32 (by omega) x.val (by rw [p32]; omega)
        simp only [g1, cond_true]; exact ⟨_, rfl, g2⟩
  · simp only [h1, decide_false, cond_false]
    by_cases h2 : x.val ≥ 65536
    · simp only [h2, decide_true, cond_true]
      have e2 := shr_val x 65536 (by decide)
      generalize Rng.w .u64 (x.val.fdiv 65536) = c2 at *
      by_cases h3 : c2.val ≥ 256
      · simp only [h3, decide_true, cond_true]
        have e3 := shr_val c2 256 (by decide)
        generalize Rng.w .u64 (c2.val.fdiv 256) = c3 at *
        obtain ⟨g1, g2⟩ := len_leaf c3 (by omega) (by omega) 24 (by omega) x.val (by rw [p24]; omega)
        simp only [g1, cond_true]; exact ⟨_, rfl, g2⟩
      · simp only [h3, decide_false, cond_false]
        obtain ⟨g1, g2⟩ := len_leaf c2 (by omega) (by omega) 16 (by omega) x.val (by rw [p16]; omega)
        simp only [g1, cond_true]; exact ⟨_, rfl, g2⟩
    · simp only [h2, decide_false, cond_false]
      by_cases h3 : x.val ≥ 256
      · simp only [h3, decide_true, cond_true]
        have e3 := shr_val x 256 (by decide)
        generalize Rng.w .u64 (x.val.fdiv 256) = c3 at *
        obtain ⟨g1, g2⟩ := len_leaf c3 (by omega) (by omega) 8 (by omega) x.val (by rw [p8]; omega)
        simp only [g1, cond_true]; exact ⟨_, rfl, g2⟩
      · simp only [h3, decide_false, cond_false]
        obtain ⟨g1, g2⟩ := len_leaf x (by omega) (by omega) 0 (by omega) x.val (by rw [p0]; omega)
        simp only [g1, cond_true]; exact ⟨_, rfl, g2⟩

/-- The shift that brings the top bit to the top. -/
theorem lz_ok (x : U64) (hx : 0 < x.val) : ∃ s : Nat, s ≤ 63 ∧ (t_math_bits_LeadingZeros64 x).opt = some (.w .i64 s) ∧ x.val * 2 ^ s < 18446744073709551616 ∧ 9223372036854775808 ≤ x.val * 2 ^ s := by
  obtain ⟨l, h1, n, hl, hn1, hn2, hlt, hge⟩ := len_ok x hx
  have hG : G_math_bits_Len64 x = true := by unfold G_math_bits_Len64; rw [h1]; rfl
  have hF : F_math_bits_Len64 x = l := Tr.opt_get h1
  have hp : (0 : Int) < 2 ^ (64 - n) := Int.pow_pos (by decide)
  have e1 : (2 : Int) ^ n * 2 ^ (64 - n) = 18446744073709551616 := by rw [← Int.pow_add, show n + (64 - n) = 64 by omega]; decide
  have e2 : (2 : Int) ^ (n - 1) * 2 ^ (64 - n) = 9223372036854775808 := by rw [← Int.pow_add, show n - 1 + (64 - n) = 63 by omega]; decide
  refine ⟨64 - n, by omega, ?_, ?_, ?_⟩
  · simp only [t_math_bits_LeadingZeros64, Tr.opt, hG, hF, cond_true]
    congr 2
    omega
  · have := Int.mul_lt_mul_of_pos_right hlt hp
    omega
  · have := Int.mul_le_mul_of_nonneg_right hge (Int.le_of_lt hp)
    omega

/-! ### Knuth's digits -/
/-- One digit: as long as the guess is above the digit. -/
theorem k_cond {v1 v0 u2 u1 q r : Int} (hY : 0 < v1 * 4294967296 + v0) (inv : q * v1 + r = u2) :
    (u2 * 4294967296 + u1) / (v1 * 4294967296 + v0) < q ↔ 4294967296 * r + u1 < q * v0 := by
  rw [Int.ediv_lt_iff_lt_mul hY]
  have e : q * (v1 * 4294967296 + v0) = q * v1 * 4294967296 + q * v0 := by grind
  rw [e]
  omega
theorem k_digit {v1 v0 u2 u1 : Int} (h1 : 2147483648 ≤ v1) (h3 : 0 ≤ v0) (h5 : 0 ≤ u1) (h6 : u1 < 4294967296) (h7 : 0 ≤ u2) (h8 : u2 < v1 * 4294967296 + v0) :
    0 ≤ (u2 * 4294967296 + u1) / (v1 * 4294967296 + v0) ∧ (u2 * 4294967296 + u1) / (v1 * 4294967296 + v0) < 4294967296 := by
  refine ⟨Int.ediv_nonneg (by omega) (by omega), ?_⟩
  exact Int.ediv_lt_of_lt_mul (by omega) (by omega)
theorem k_first {v1 v0 u2 u1 : Int} (h1 : 2147483648 ≤ v1) (h2 : v1 < 4294967296) (h3 : 0 ≤ v0) (h4 : v0 < 4294967296) (h5 : 0 ≤ u1) (h6 : u1 < 4294967296) (h7 : 0 ≤ u2) (h8 : u2 < v1 * 4294967296 + v0) :
    (u2 * 4294967296 + u1) / (v1 * 4294967296 + v0) ≤ u2 / v1 ∧ u2 / v1 ≤ 4294967297 := by
  have hm := Int.mul_ediv_add_emod u2 v1
  have m1 := Int.emod_nonneg u2 (b := v1) (by omega)
  have m2 := Int.emod_lt_of_pos u2 (b := v1) (by omega)
  have hq0 : 0 ≤ u2 / v1 := Int.ediv_nonneg h7 (by omega)
  constructor
  · refine Int.not_lt.1 fun hlt => ?_
    -- then one more than the guess is at most the digit
    have h := (Int.le_ediv_iff_mul_le (c := v1 * 4294967296 + v0) (by omega)).1 (show u2 / v1 + 1 ≤ (u2 * 4294967296 + u1) / (v1 * 4294967296 + v0) by omega)
    have e : (u2 / v1 + 1) * (v1 * 4294967296 + v0) = (v1 * (u2 / v1)) * 4294967296 + v1 * 4294967296 + (u2 / v1 + 1) * v0 := by grind
    have : 0 ≤ (u2 / v1 + 1) * v0 := Int.mul_nonneg (by omega) h3
    omega
  · have : u2 / v1 < 4294967298 := Int.ediv_lt_of_lt_mul (by omega) (by omega)
    omega
theorem k_over {v1 v0 u2 u1 q r : Int} (h1 : 2147483648 ≤ v1) (h3 : 0 ≤ v0) (h4 : v0 < 4294967296) (h5 : 0 ≤ u1) (inv : q * v1 + r = u2) (hq0 : 0 ≤ q) (hq : q ≤ 4294967296) (hr : 4294967296 ≤ r) :
    q ≤ (u2 * 4294967296 + u1) / (v1 * 4294967296 + v0) := by
  refine Int.not_lt.1 fun hlt => ?_
  have := (k_cond (u1 := u1) (by omega) inv).1 hlt
  have h := Int.mul_le_mul hq (show v0 ≤ 4294967295 by omega) h3 (by omega)
  omega
end Go.Proofs.YtcfflflcbacapaaGreat.Ev
