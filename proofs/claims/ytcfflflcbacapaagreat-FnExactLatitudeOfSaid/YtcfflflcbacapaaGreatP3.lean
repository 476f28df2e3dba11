/-
  Plain laws: Knuth's digits give the quotient; the quotient of a wide number; the quotients of fixed numbers.
-/
import Derived.Test.YtcfflflcbacapaaGreatP2
namespace Go.Proofs.YtcfflflcbacapaaGreat.Ev
open Go
set_option linter.unusedSimpArgs false
set_option linter.unusedVariables false

/-- What holds as long as a digit is looked for. -/
structure KInv (v1 v0 u2 u1 q r : Int) : Prop where
  h1 : 2147483648 ≤ v1
  h2 : v1 < 4294967296
  h3 : 0 ≤ v0
  h4 : v0 < 4294967296
  h5 : 0 ≤ u1
  h6 : u1 < 4294967296
  h7 : 0 ≤ u2
  h8 : u2 < v1 * 4294967296 + v0
  inv : q * v1 + r = u2
  hr : 0 ≤ r
  hr' : r < 4294967296
  hq : (u2 * 4294967296 + u1) / (v1 * 4294967296 + v0) ≤ q
  hq' : q ≤ 4294967297

theorem KInv.pos {v1 v0 u2 u1 q r : Int} (h : KInv v1 v0 u2 u1 q r) : 0 ≤ q := by
  have := k_digit h.h1 h.h3 h.h5 h.h6 h.h7 h.h8
  have := h.hq
  omega
theorem KInv.next {v1 v0 u2 u1 q r : Int} (h : KInv v1 v0 u2 u1 q r) (hlt : (u2 * 4294967296 + u1) / (v1 * 4294967296 + v0) < q) (hr : r + v1 < 4294967296) : KInv v1 v0 u2 u1 (q - 1) (r + v1) := by
  refine ⟨h.h1, h.h2, h.h3, h.h4, h.h5, h.h6, h.h7, h.h8, ?_, ?_, hr, by omega, ?_⟩
  · have := h.inv; have e : (q - 1) * v1 = q * v1 - v1 := by grind
    omega
  · have := h.hr; have := h.h1; omega
  · have := h.hq'; omega
theorem KInv.last {v1 v0 u2 u1 q r : Int} (h : KInv v1 v0 u2 u1 q r) (hlt : (u2 * 4294967296 + u1) / (v1 * 4294967296 + v0) < q) (hr : 4294967296 ≤ r + v1) :
    q - 1 = (u2 * 4294967296 + u1) / (v1 * 4294967296 + v0) := by
  have hp := k_digit h.h1 h.h3 h.h5 h.h6 h.h7 h.h8
  have hq' := h.hq'
  have e : (q - 1) * v1 + (r + v1) = u2 := by have := h.inv; have e : (q - 1) * v1 = q * v1 - v1 := by grind
                                              omega
  have := k_over (u1 := u1) h.h1 h.h3 h.h4 h.h5 e (by omega) (by omega) hr
  omega
/-- The program's two looks. -/
theorem KInv.look {v1 v0 u2 u1 q r : Int} (h : KInv v1 v0 u2 u1 q r) (hq : q < 4294967296) : 0 ≤ q * v0 ∧ q * v0 ≤ 18446744065119617025 := by
  have h0 := h.pos
  refine ⟨Int.mul_nonneg h0 h.h3, ?_⟩
  have := Int.mul_le_mul (show q ≤ 4294967295 by omega) (show v0 ≤ 4294967295 by have := h.h4; omega) h.h3 (by omega)
  omega

theorem k17_step (x : S_math_bits_Div64_17) {u2 : Int} (h : KInv x.x2.val x.x3.val u2 x.x5.val x.x7.val x.x8.val) :
    (∃ y, (b_math_bits_Div64_17 x).opt = some (.out ⟨x.x0, x.x1, x.x2, x.x3, x.x4, x.x5, x.x6, .w .u64 ((u2 * 4294967296 + x.x5.val) / (x.x2.val * 4294967296 + x.x3.val)), y⟩)) ∨
    (∃ q r, (b_math_bits_Div64_17 x).opt = some (.again ⟨x.x0, x.x1, x.x2, x.x3, x.x4, x.x5, x.x6, q, r⟩) ∧ KInv x.x2.val x.x3.val u2 x.x5.val q.val r.val ∧ r.val = x.x8.val + x.x2.val) := by
  have b7 := x.x7.ubd; have b8 := x.x8.ubd
  have hr := h.hr; have hr' := h.hr'; have h1 := h.h1; have h2 := h.h2; have h5 := h.h5; have h6 := h.h6; have hq := h.hq
  have hc := k_cond (v1 := x.x2.val) (v0 := x.x3.val) (u1 := x.x5.val) (by have := h.h3; omega) h.inv
  have hdig := k_digit h.h1 h.h3 h.h5 h.h6 h.h7 h.h8
  have eq7 : ∀ hq0 : 0 < x.x7.val, (Rng.w .u64 (x.x7.val - 1)).val = x.x7.val - 1 := fun hq0 => wu (by omega) (by omega)
  have eq8 : (Rng.w .u64 (x.x8.val + x.x2.val)).val = x.x8.val + x.x2.val := wu (by omega) (by omega)
  have esum : (Rng.w .u64 ((Rng.w .u64 (4294967296 * x.x8.val)).val + x.x5.val)).val = 4294967296 * x.x8.val + x.x5.val := by
    rw [wu (n := 4294967296 * x.x8.val) (by omega) (by omega)]; exact wu (by omega) (by omega)
  -- what is done where the guess is above
  have down : (u2 * 4294967296 + x.x5.val) / (x.x2.val * 4294967296 + x.x3.val) < x.x7.val →
      (bif decide ((Rng.w .u64 (x.x8.val + x.x2.val)).val ≥ 4294967296) then some (Lp.out (⟨x.x0, x.x1, x.x2, x.x3, x.x4, x.x5, x.x6, Rng.w .u64 (x.x7.val - 1), Rng.w .u64 (x.x8.val + x.x2.val)⟩ : S_math_bits_Div64_17))
        else some (.again ⟨x.x0, x.x1, x.x2, x.x3, x.x4, x.x5, x.x6, Rng.w .u64 (x.x7.val - 1), Rng.w .u64 (x.x8.val + x.x2.val)⟩)) = (b_math_bits_Div64_17 x).opt →
      (∃ y, (b_math_bits_Div64_17 x).opt = some (.out ⟨x.x0, x.x1, x.x2, x.x3, x.x4, x.x5, x.x6, .w .u64 ((u2 * 4294967296 + x.x5.val) / (x.x2.val * 4294967296 + x.x3.val)), y⟩)) ∨
      (∃ q r, (b_math_bits_Div64_17 x).opt = some (.again ⟨x.x0, x.x1, x.x2, x.x3, x.x4, x.x5, x.x6, q, r⟩) ∧ KInv x.x2.val x.x3.val u2 x.x5.val q.val r.val ∧ r.val = x.x8.val + x.x2.val) := by
    intro hlt he
    by_cases hbig : x.x8.val + x.x2.val ≥ 4294967296
    · left
      have hl := h.last hlt hbig
      refine ⟨Rng.w .u64 (x.x8.val + x.x2.val), ?_⟩
      rw [← he, eq8]
      simp only [hbig, decide_true, cond_true]
      rw [hl]
    · right
      refine ⟨Rng.w .u64 (x.x7.val - 1), Rng.w .u64 (x.x8.val + x.x2.val), ?_, ?_, eq8⟩
      · rw [← he, eq8]
        simp only [hbig, decide_false, cond_false]
      · rw [eq7 (by omega), eq8]
        exact h.next hlt (by omega)
  by_cases hbig : x.x7.val ≥ 4294967296
  · refine down (by omega) ?_
    simp only [b_math_bits_Div64_17, hbig, decide_true, Tr.opt, cond_true]
  · have hlook := h.look (by omega)
    have ep : (Rng.w .u64 (x.x7.val * x.x3.val)).val = x.x7.val * x.x3.val := wu hlook.1 (by omega)
    by_cases hgt : x.x7.val * x.x3.val > 4294967296 * x.x8.val + x.x5.val
    · refine down (hc.2 hgt) ?_
      simp only [b_math_bits_Div64_17, hbig, decide_false, Tr.opt, cond_false, ep, esum, hgt, decide_true, cond_true]
    · left
      have : ¬ (u2 * 4294967296 + x.x5.val) / (x.x2.val * 4294967296 + x.x3.val) < x.x7.val := fun hh => hgt (hc.1 hh)
      have e : (u2 * 4294967296 + x.x5.val) / (x.x2.val * 4294967296 + x.x3.val) = x.x7.val := by omega
      refine ⟨x.x8, ?_⟩
      simp only [b_math_bits_Div64_17, hbig, decide_false, Tr.opt, cond_false, ep, esum, hgt, e, Rng.w_val]
theorem k17 (x : S_math_bits_Div64_17) {u2 : Int} (h : KInv x.x2.val x.x3.val u2 x.x5.val x.x7.val x.x8.val) :
    ∃ y, (Lf b_math_bits_Div64_17 4 x).opt = some ⟨x.x0, x.x1, x.x2, x.x3, x.x4, x.x5, x.x6, .w .u64 ((u2 * 4294967296 + x.x5.val) / (x.x2.val * 4294967296 + x.x3.val)), y⟩ := by
  have h1 := h.h1; have hr := h.hr
  simp only [Lf, Tr.opt_bind]
  rcases k17_step x h with ⟨y, hy⟩ | ⟨q, r, hy, hi, he⟩
  · rw [hy]; exact ⟨y, rfl⟩
  · rw [hy]
    simp only [Tr.opt_bind]
    rcases k17_step (⟨x.x0, x.x1, x.x2, x.x3, x.x4, x.x5, x.x6, q, r⟩ : S_math_bits_Div64_17) (u2 := u2) hi with ⟨y, hy⟩ | ⟨q', r', hy, hi', he'⟩
    · rw [hy]; exact ⟨y, rfl⟩
    · exfalso
      have := hi'.hr'
      simp only at he'
      omega
theorem k24_step (x : S_math_bits_Div64_24) {u2 : Int} (h : KInv x.x2.val x.x3.val u2 x.x4.val x.x8.val x.x6.val) :
    (∃ y, (b_math_bits_Div64_24 x).opt = some (.out ⟨x.x0, x.x1, x.x2, x.x3, x.x4, x.x5, y, x.x7, .w .u64 ((u2 * 4294967296 + x.x4.val) / (x.x2.val * 4294967296 + x.x3.val))⟩)) ∨
    (∃ q r, (b_math_bits_Div64_24 x).opt = some (.again ⟨x.x0, x.x1, x.x2, x.x3, x.x4, x.x5, r, x.x7, q⟩) ∧ KInv x.x2.val x.x3.val u2 x.x4.val q.val r.val ∧ r.val = x.x6.val + x.x2.val) := by
  have b7 := x.x8.ubd; have b8 := x.x6.ubd
  have hr := h.hr; have hr' := h.hr'; have h1 := h.h1; have h2 := h.h2; have h5 := h.h5; have h6 := h.h6; have hq := h.hq
  have hc := k_cond (v1 := x.x2.val) (v0 := x.x3.val) (u1 := x.x4.val) (by have := h.h3; omega) h.inv
  have hdig := k_digit h.h1 h.h3 h.h5 h.h6 h.h7 h.h8
  have eq7 : ∀ hq0 : 0 < x.x8.val, (Rng.w .u64 (x.x8.val - 1)).val = x.x8.val - 1 := fun hq0 => wu (by omega) (by omega)
  have eq8 : (Rng.w .u64 (x.x6.val + x.x2.val)).val = x.x6.val + x.x2.val := wu (by omega) (by omega)
  have esum : (Rng.w .u64 ((Rng.w .u64 (4294967296 * x.x6.val)).val + x.x4.val)).val = 4294967296 * x.x6.val + x.x4.val := by
    rw [wu (n := 4294967296 * x.x6.val) (by omega) (by omega)]; exact wu (by omega) (by omega)
  have down : (u2 * 4294967296 + x.x4.val) / (x.x2.val * 4294967296 + x.x3.val) < x.x8.val →
      (bif decide ((Rng.w .u64 (x.x6.val + x.x2.val)).val ≥ 4294967296) then some (Lp.out (⟨x.x0, x.x1, x.x2, x.x3, x.x4, x.x5, Rng.w .u64 (x.x6.val + x.x2.val), x.x7, Rng.w .u64 (x.x8.val - 1)⟩ : S_math_bits_Div64_24))
        else some (.again ⟨x.x0, x.x1, x.x2, x.x3, x.x4, x.x5, Rng.w .u64 (x.x6.val + x.x2.val), x.x7, Rng.w .u64 (x.x8.val - 1)⟩)) = (b_math_bits_Div64_24 x).opt →
      (∃ y, (b_math_bits_Div64_24 x).opt = some (.out ⟨x.x0, x.x1, x.x2, x.x3, x.x4, x.x5, y, x.x7, .w .u64 ((u2 * 4294967296 + x.x4.val) / (x.x2.val * 4294967296 + x.x3.val))⟩)) ∨
      (∃ q r, (b_math_bits_Div64_24 x).opt = some (.again ⟨x.x0, x.x1, x.x2, x.x3, x.x4, x.x5, r, x.x7, q⟩) ∧ KInv x.x2.val x.x3.val u2 x.x4.val q.val r.val ∧ r.val = x.x6.val + x.x2.val) := by
    intro hlt he
    by_cases hbig : x.x6.val + x.x2.val ≥ 4294967296
    · left
      have hl := h.last hlt hbig
      refine ⟨Rng.w .u64 (x.x6.val + x.x2.val), ?_⟩
      rw [← he, eq8]
      simp only [hbig, decide_true, cond_true]
      rw [hl]
    · right
      refine ⟨Rng.w .u64 (x.x8.val - 1), Rng.w .u64 (x.x6.val + x.x2.val), ?_, ?_, eq8⟩
      · rw [← he, eq8]
        simp only [hbig, decide_false, cond_false]
      · rw [eq7 (by omega), eq8]
        exact h.next hlt (by omega)
  by_cases hbig : x.x8.val ≥ 4294967296
  · refine down (by omega) ?_
    simp only [b_math_bits_Div64_24, hbig, decide_true, Tr.opt, cond_true]
  · have hlook := h.look (by omega)
    have ep : (Rng.w .u64 (x.x8.val * x.x3.val)).val = x.x8.val * x.x3.val := wu hlook.1 (by omega)
    by_cases hgt : x.x8.val * x.x3.val > 4294967296 * x.x6.val + x.x4.val
    · refine down (hc.2 hgt) ?_
      simp only [b_math_bits_Div64_24, hbig, decide_false, Tr.opt, cond_false, ep, esum, hgt, decide_true, cond_true]
    · left
      have : ¬ (u2 * 4294967296 + x.x4.val) / (x.x2.val * 4294967296 + x.x3.val) < x.x8.val := fun hh => hgt (hc.1 hh)
      have e : (u2 * 4294967296 + x.x4.val) / (x.x2.val * 4294967296 + x.x3.val) = x.x8.val := by omega
      refine ⟨x.x6, ?_⟩
      simp only [b_math_bits_Div64_24, hbig, decide_false, Tr.opt, cond_false, ep, esum, hgt, e, Rng.w_val]
theorem k24 (x : S_math_bits_Div64_24) {u2 : Int} (h : KInv x.x2.val x.x3.val u2 x.x4.val x.x8.val x.x6.val) :
    ∃ y, (Lf b_math_bits_Div64_24 4 x).opt = some ⟨x.x0, x.x1, x.x2, x.x3, x.x4, x.x5, y, x.x7, .w .u64 ((u2 * 4294967296 + x.x4.val) / (x.x2.val * 4294967296 + x.x3.val))⟩ := by
  have h1 := h.h1; have hr := h.hr
  simp only [Lf, Tr.opt_bind]
  rcases k24_step x h with ⟨y, hy⟩ | ⟨q, r, hy, hi, he⟩
  · rw [hy]; exact ⟨y, rfl⟩
  · rw [hy]
    simp only [Tr.opt_bind]
    rcases k24_step (⟨x.x0, x.x1, x.x2, x.x3, x.x4, x.x5, r, x.x7, q⟩ : S_math_bits_Div64_24) (u2 := u2) hi with ⟨y, hy⟩ | ⟨q', r', hy, hi', he'⟩
    · rw [hy]; exact ⟨y, rfl⟩
    · exfalso
      have := hi'.hr'
      simp only at he'
      omega

theorem k_start {Y u2 u1 : Int} (hY : 9223372036854775808 ≤ Y) (hY' : Y < 18446744073709551616) (h7 : 0 ≤ u2) (h8 : u2 < Y) (h5 : 0 ≤ u1) (h6 : u1 < 4294967296) :
    KInv (Y / 4294967296) (Y % 4294967296) u2 u1 (u2 / (Y / 4294967296)) (u2 % (Y / 4294967296)) := by
  have e : Y / 4294967296 * 4294967296 + Y % 4294967296 = Y := by omega
  have hf := k_first (v1 := Y / 4294967296) (v0 := Y % 4294967296) (u2 := u2) (u1 := u1) (by omega) (by omega) (by omega) (by omega) h5 h6 h7 (by omega)
  have m1 := Int.emod_nonneg u2 (b := Y / 4294967296) (by omega)
  have m2 := Int.emod_lt_of_pos u2 (b := Y / 4294967296) (by omega)
  have m3 := Int.mul_ediv_add_emod u2 (Y / 4294967296)
  exact ⟨by omega, by omega, by omega, by omega, h5, h6, h7, by omega, by rw [Int.mul_comm]; exact m3, m1, by omega, hf.1, hf.2⟩
theorem step_rest {N Y q : Int} (hY : 0 < Y) (hY' : Y < 18446744073709551616) (hq : q = N / Y) (n : Int) (hn : n % 18446744073709551616 = N % 18446744073709551616) : (Rng.w .u64 (n - (Rng.w .u64 (q * Y)).val)).val = N % Y := by
  have m1 := Int.emod_nonneg N (b := Y) (by omega)
  have m2 := Int.emod_lt_of_pos N hY
  have m3 := Int.mul_ediv_add_emod N Y
  subst hq
  rw [Int.mul_comm] at m3
  simp only [wu_mod]
  omega

theorem div64_ok (hi lo y : U64) (hy : hi.val < y.val) : (t_math_bits_Div64 hi lo y).opt = some ⟨.w .u64 (two hi.val lo.val / y.val), .w .u64 (two hi.val lo.val % y.val)⟩ := by
  have b1 := hi.ubd; have b2 := lo.ubd; have b3 := y.ubd
  have h0 : (y.val == 0) = false := by simp; omega
  have hle : decide (y.val ≤ hi.val) = false := by simp; omega
  by_cases hz : hi.val = 0
  · have e1 : lo.val.tdiv y.val = lo.val / y.val := Int.tdiv_eq_ediv_of_nonneg b2.1
    have e2 : lo.val.tmod y.val = lo.val % y.val := Int.tmod_eq_emod_of_nonneg b2.1
    have hz' : (hi.val == 0) = true := by simp [hz]
    simp only [t_math_bits_Div64, Tr.opt, h0, hle, hz', cond_true, cond_false, e1, e2]
    unfold two
    rw [hz]
    simp only [Int.zero_mul, Int.zero_add]
  · have hz' : (hi.val == 0) = false := by simp [hz]
    obtain ⟨s, hs, hlz, hlt, hge⟩ := lz_ok y (by omega)
    have hG : G_math_bits_LeadingZeros64 y = true := by unfold G_math_bits_LeadingZeros64; rw [hlz]; rfl
    have hF : F_math_bits_LeadingZeros64 y = .w .i64 s := Tr.opt_get hlz
    have hP : (0 : Int) < 2 ^ s := Int.pow_pos (by decide)
    have hQ : (0 : Int) < 2 ^ (64 - s) := Int.pow_pos (by decide)
    have hPQ : (2 : Int) ^ (64 - s) * 2 ^ s = 18446744073709551616 := by rw [← Int.pow_add, show 64 - s + s = 64 by omega]; decide
    have es : (Rng.w .u64 ((Rng.w .i64 (s : Int)).val)).val = s := by rw [wi (by omega) (by omega)]; exact wu (by omega) (by omega)
    have esn : min ((s : Int).toNat) 64 = s := by simp; omega
    have e64 : (Rng.w .u64 (64 - (s : Int))).val = 64 - s := wu (by omega) (by omega)
    have e64n : min (((64 : Int) - s).toNat) 64 = 64 - s := by omega
    -- the pieces
    have hU2a : 0 ≤ lo.val / 2 ^ (64 - s) := Int.ediv_nonneg b2.1 (Int.le_of_lt hQ)
    have hU2b : lo.val / 2 ^ (64 - s) < 2 ^ s := Int.ediv_lt_of_lt_mul hQ (by rw [Int.mul_comm, hPQ]; omega)
    have hhi : (hi.val + 1) * 2 ^ s ≤ y.val * 2 ^ s := Int.mul_le_mul_of_nonneg_right (by omega) (Int.le_of_lt hP)
    have hhi' : (hi.val + 1) * 2 ^ s = hi.val * 2 ^ s + 2 ^ s := by grind
    have hhi0 : 0 ≤ hi.val * 2 ^ s := Int.mul_nonneg b1.1 (Int.le_of_lt hP)
    have c5 : (Rng.w .u64 (y.val * 2 ^ s)).val = y.val * 2 ^ s := wu (by omega) (by omega)
    have c11 : (Rng.w .u64 (bitop .or .u64 (Rng.w .u64 (hi.val * 2 ^ s)).val (Rng.w .u64 (lo.val.fdiv (2 ^ (64 - s)))).val)).val = hi.val * 2 ^ s + lo.val / 2 ^ (64 - s) := by
      rw [wu (n := hi.val * 2 ^ s) (by omega) (by omega), shr_val lo _ hQ]
      rw [or_add s hi.val.toNat (by rw [Int.mul_comm]; congr 1; omega) hU2a hU2b (by omega)]
      exact wu (by omega) (by omega)
    have hlo : lo.val * 2 ^ s = lo.val / 2 ^ (64 - s) * 18446744073709551616 + lo.val * 2 ^ s % 18446744073709551616 := by
      have h1 := Int.mul_ediv_add_emod (lo.val * 2 ^ s) 18446744073709551616
      have h2 : lo.val * 2 ^ s / 18446744073709551616 = lo.val / 2 ^ (64 - s) := by
        rw [← hPQ]; exact Int.mul_ediv_mul_of_pos_left _ _ hP
      rw [h2] at h1
      omega
    have c12 : (Rng.w .u64 (lo.val * 2 ^ s)).val = lo.val * 2 ^ s % 18446744073709551616 := wu_mod _
    have hN : two hi.val lo.val * 2 ^ s = (hi.val * 2 ^ s + lo.val / 2 ^ (64 - s)) * 18446744073709551616 + lo.val * 2 ^ s % 18446744073709551616 := by
      unfold two
      have : (hi.val * 18446744073709551616 + lo.val) * 2 ^ s = hi.val * 2 ^ s * 18446744073709551616 + lo.val * 2 ^ s := by grind
      rw [this, hlo]
      omega
    have c15 : ∀ u v : U64, u.val.tdiv v.val = u.val / v.val := fun u v => Int.tdiv_eq_ediv_of_nonneg u.ubd.1
    have hdiv : two hi.val lo.val * 2 ^ s / (y.val * 2 ^ s) = two hi.val lo.val / y.val := Int.mul_ediv_mul_of_pos_left _ _ hP
    have hmod : two hi.val lo.val * 2 ^ s % (y.val * 2 ^ s) = two hi.val lo.val % y.val * 2 ^ s := by
      rw [Int.mul_comm _ (2 ^ s), Int.mul_comm y.val (2 ^ s), Int.mul_emod_mul_of_pos _ _ hP, Int.mul_comm]
    simp only [t_math_bits_Div64, Tr.opt, h0, hle, hz', cond_false, hG, hF, cond_true, es, esn, e64, e64n, c15]
    generalize hY : y.val * 2 ^ s = Y at *
    have hcY := c5
    generalize hwY : Rng.w .u64 Y = wY at *
    generalize hwU2 : Rng.w .u64 (bitop .or .u64 (Rng.w .u64 (hi.val * 2 ^ s)).val (Rng.w .u64 (lo.val.fdiv (2 ^ (64 - s)))).val) = wU2 at *
    generalize hwU : Rng.w .u64 (lo.val * 2 ^ s) = wU at *
    generalize hU2 : hi.val * 2 ^ s + lo.val / 2 ^ (64 - s) = U2 at *
    generalize hU : lo.val * 2 ^ s % 18446744073709551616 = U at *
    have bU : 0 ≤ U ∧ U < 18446744073709551616 := by have := wU.ubd; omega
    have v1 : (Rng.w .u64 (wY.val.fdiv 4294967296)).val = Y / 4294967296 := by rw [shr_val _ _ (by decide), c5]
    have v0 : (Rng.w .u64 (bitop .and .u64 wY.val 4294967295)).val = Y % 4294967296 := by rw [and_mask32, c5]
    have u1 : (Rng.w .u64 (wU.val.fdiv 4294967296)).val = U / 4294967296 := by rw [shr_val _ _ (by decide), c12]
    have u0 : (Rng.w .u64 (bitop .and .u64 wU.val 4294967295)).val = U % 4294967296 := by rw [and_mask32, c12]
    generalize Rng.w .u64 (wY.val.fdiv 4294967296) = wv1 at *
    generalize Rng.w .u64 (bitop .and .u64 wY.val 4294967295) = wv0 at *
    generalize Rng.w .u64 (wU.val.fdiv 4294967296) = wu1 at *
    generalize Rng.w .u64 (bitop .and .u64 wU.val 4294967295) = wu0 at *
    have hv10 : (wv1.val == 0) = false := by rw [v1]; simp; omega
    simp only [hv10, cond_false]
    -- the first digit
    have m1 := Int.emod_nonneg U2 (b := Y / 4294967296) (by omega)
    have m2 := Int.emod_lt_of_pos U2 (b := Y / 4294967296) (by omega)
    have q1 : (Rng.w .u64 (wU2.val / wv1.val)).val = U2 / (Y / 4294967296) := by
      rw [c11, v1]
      have h1 : 0 ≤ U2 / (Y / 4294967296) := Int.ediv_nonneg (by omega) (by omega)
      have h2 : U2 / (Y / 4294967296) ≤ U2 := Int.ediv_le_self _ (by omega)
      exact wu h1 (by omega)
    have r1 : (Rng.w .u64 (wU2.val - (Rng.w .u64 ((Rng.w .u64 (wU2.val / wv1.val)).val * wv1.val)).val)).val = U2 % (Y / 4294967296) := by
      rw [q1, v1, c11]
      exact step_rest (by omega) (by omega) rfl _ rfl
    generalize Rng.w .u64 (wU2.val - (Rng.w .u64 ((Rng.w .u64 (wU2.val / wv1.val)).val * wv1.val)).val) = wr1 at *
    generalize Rng.w .u64 (wU2.val / wv1.val) = wq1 at *
    have K1 := k_start (Y := Y) (u2 := U2) (u1 := U / 4294967296) hge hlt (by omega) (by omega) (by omega) (by omega)
    have eY : Y / 4294967296 * 4294967296 + Y % 4294967296 = Y := by omega
    obtain ⟨y1, hL1⟩ := k17 ⟨wY, Rng.w .u64 ((Rng.w .i64 (s : Int)).val), wv1, wv0, wU2, wu1, wu0, wq1, wr1⟩ (u2 := U2) (by
      simp only; rw [r1, q1, v1, v0, u1]; exact K1)
    simp only at hL1
    rw [v1, v0, u1, eY] at hL1
    have G1 := show G_math_bits_Div64_17 _ = true from (by unfold G_math_bits_Div64_17; rw [hL1]; rfl)
    have L1 := show L_math_bits_Div64_17 _ = _ from Tr.opt_get hL1
    simp only [G1, L1, cond_true, hv10, cond_false]
    -- the second digit
    have d1 := k_digit K1.h1 K1.h3 K1.h5 K1.h6 K1.h7 K1.h8
    rw [eY] at d1
    have hq1 : (Rng.w .u64 ((U2 * 4294967296 + U / 4294967296) / Y)).val = (U2 * 4294967296 + U / 4294967296) / Y := wu d1.1 (by omega)
    have hR1 : (Rng.w .u64 ((Rng.w .u64 ((Rng.w .u64 (wU2.val * 4294967296)).val + wu1.val)).val - (Rng.w .u64 ((Rng.w .u64 ((U2 * 4294967296 + U / 4294967296) / Y)).val * wY.val)).val)).val = (U2 * 4294967296 + U / 4294967296) % Y := by
      rw [hq1, c5, c11, u1]
      exact step_rest (by omega) hlt rfl _ (by simp only [wu_mod]; omega)
    generalize hN1 : (U2 * 4294967296 + U / 4294967296) = N1 at *
    generalize hwR1 : Rng.w .u64 ((Rng.w .u64 ((Rng.w .u64 (wU2.val * 4294967296)).val + wu1.val)).val - (Rng.w .u64 ((Rng.w .u64 (N1 / Y)).val * wY.val)).val) = wR1 at *
    have n1 := Int.emod_nonneg N1 (b := Y) (by omega)
    have n2 := Int.emod_lt_of_pos N1 (b := Y) (by omega)
    have q0 : (Rng.w .u64 (wR1.val / wv1.val)).val = N1 % Y / (Y / 4294967296) := by
      rw [hR1, v1]
      have h1 : 0 ≤ N1 % Y / (Y / 4294967296) := Int.ediv_nonneg n1 (by omega)
      have h2 : N1 % Y / (Y / 4294967296) ≤ N1 % Y := Int.ediv_le_self _ n1
      exact wu h1 (by omega)
    have r0 : (Rng.w .u64 (wR1.val - (Rng.w .u64 ((Rng.w .u64 (wR1.val / wv1.val)).val * wv1.val)).val)).val = N1 % Y % (Y / 4294967296) := by
      rw [q0, v1, hR1]
      exact step_rest (by omega) (by omega) rfl _ rfl
    generalize Rng.w .u64 (wR1.val - (Rng.w .u64 ((Rng.w .u64 (wR1.val / wv1.val)).val * wv1.val)).val) = wr0 at *
    generalize Rng.w .u64 (wR1.val / wv1.val) = wq0 at *
    have K0 := k_start (Y := Y) (u2 := N1 % Y) (u1 := U % 4294967296) hge hlt n1 n2 (by omega) (by omega)
    obtain ⟨y0, hL0⟩ := k24 ⟨wY, Rng.w .u64 ((Rng.w .i64 (s : Int)).val), wv1, wv0, wu0, Rng.w .u64 (N1 / Y), wr0, wR1, wq0⟩ (u2 := N1 % Y) (by
      simp only; rw [r0, q0, v1, v0, u0]; exact K0)
    simp only at hL0
    rw [v1, v0, u0, eY] at hL0
    have G0 := show G_math_bits_Div64_24 _ = true from (by unfold G_math_bits_Div64_24; rw [hL0]; rfl)
    have L0 := show L_math_bits_Div64_24 _ = _ from Tr.opt_get hL0
    simp only [G0, L0, cond_true]
    have d0 := k_digit K0.h1 K0.h3 K0.h5 K0.h6 K0.h7 K0.h8
    rw [eY] at d0
    have hq0 : (Rng.w .u64 ((N1 % Y * 4294967296 + U % 4294967296) / Y)).val = (N1 % Y * 4294967296 + U % 4294967296) / Y := wu d0.1 (by omega)
    -- the end
    obtain ⟨t1, t2⟩ := div_step (d := Y) (r := N1) (t := N1 / Y) (K := 4294967296) (L := U % 4294967296) (by omega)
    rw [← Int.emod_def] at t1 t2
    have eN : N1 * 4294967296 + U % 4294967296 = two hi.val lo.val * 2 ^ s := by rw [hN, ← hN1]; omega
    rw [eN] at t1 t2
    rw [hdiv] at t2
    rw [hmod] at t1
    congr 1
    rw [T2.mk.injEq]
    constructor
    · apply rext
      rw [hq1, hq0, wu (n := N1 / Y * 4294967296) (by omega) (by omega)]
      rw [← t2]
      congr 2
      omega
    · apply rext
      have hR0 : (Rng.w .u64 ((Rng.w .u64 ((Rng.w .u64 (wR1.val * 4294967296)).val + wu0.val)).val - (Rng.w .u64 ((Rng.w .u64 ((N1 % Y * 4294967296 + U % 4294967296) / Y)).val * wY.val)).val)).val = (N1 % Y * 4294967296 + U % 4294967296) % Y := by
        rw [hq0, c5, hR1, u0]
        exact step_rest (by omega) hlt rfl _ (by simp only [wu_mod]; omega)
      rw [es, esn, shr_val _ _ hP, hR0, t1, Int.mul_ediv_cancel _ (by omega)]
      have h1 := Int.emod_nonneg (two hi.val lo.val) (b := y.val) (by omega)
      have h2 := Int.emod_lt_of_pos (two hi.val lo.val) (b := y.val) (by omega)
      exact (wu h1 (by omega)).symm
end Go.Proofs.YtcfflflcbacapaaGreat.Ev
