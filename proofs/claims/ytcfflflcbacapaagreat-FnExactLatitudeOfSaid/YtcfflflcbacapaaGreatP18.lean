/-
  Plain laws: the latitude of a vector by bisection.
-/
import Derived.Test.YtcfflflcbacapaaGreatP15
import Derived.Test.YtcfflflcbacapaaGreatWL
namespace Go.Proofs.YtcfflflcbacapaaGreat.Ev
open Go
set_option linter.unusedSimpArgs false
set_option linter.unusedVariables false

def mid (lo hi : I64) : I64 := .w .i64 ((Rng.w .i64 (lo.val + hi.val)).val.fdiv 2)
def bisU (f : I64 → Bool) : Nat → I64 → I64 → I64 × I64
  | 0, lo, hi => (lo, hi)
  | n + 1, lo, hi => bif decide ((Rng.w .i64 (hi.val - lo.val)).val > 1) then (bif f (mid lo hi) then bisU f n (mid lo hi) hi else bisU f n lo (mid lo hi)) else (lo, hi)
theorem bisU_bd (f : I64 → Bool) : ∀ (n : Nat) (lo hi : I64), -1099511627776 ≤ lo.val → lo.val ≤ 1099511627776 → -1099511627776 ≤ hi.val → hi.val ≤ 1099511627776 → -1099511627776 ≤ (bisU f n lo hi).1.val ∧ (bisU f n lo hi).1.val ≤ 1099511627776
  | 0, lo, hi, h1, h2, h3, h4 => ⟨h1, h2⟩
  | n + 1, lo, hi, h1, h2, h3, h4 => by
    have es : (Rng.w .i64 (lo.val + hi.val)).val = lo.val + hi.val := wi (by omega) (by omega)
    have dv : (lo.val + hi.val).fdiv 2 = (lo.val + hi.val) / 2 := Int.fdiv_eq_ediv_of_nonneg _ (by decide)
    have em : (mid lo hi).val = (lo.val + hi.val) / 2 := by unfold mid; rw [es, dv]; exact wi (by omega) (by omega)
    simp only [bisU]
    cases decide ((Rng.w .i64 (hi.val - lo.val)).val > 1)
    · exact ⟨h1, h2⟩
    · cases f (mid lo hi)
      · exact bisU_bd f n lo (mid lo hi) h1 h2 (by omega) (by omega)
      · exact bisU_bd f n (mid lo hi) hi (by omega) (by omega) h3 h4
theorem s4 (e : Ell) (v : Vec) (f : Iv) (p q r : I64) : ∀ (k m : Nat) (lo hi : I64), -1099511627776 ≤ lo.val → lo.val ≤ 1099511627776 → -1099511627776 ≤ hi.val → hi.val ≤ 1099511627776 → hi.val - lo.val ≤ 2 ^ k →
    (Lf b_spec_l14Lat_4 (k + 1 + m) ⟨lo, hi, e.a, e.num, e.den, v.x.lo, v.x.hi, v.y.lo, v.y.hi, v.z.lo, v.z.hi, p, q, f.lo, f.hi⟩).opt = some ⟨(bisU (fun c => decide ((F_spec_l14Side ⟨e.a, e.num, e.den⟩ ⟨f.lo, f.hi⟩ ⟨v.z.lo, v.z.hi⟩ c).hi.val < 0)) (k + 1 + m) lo hi).1, (bisU (fun c => decide ((F_spec_l14Side ⟨e.a, e.num, e.den⟩ ⟨f.lo, f.hi⟩ ⟨v.z.lo, v.z.hi⟩ c).hi.val < 0)) (k + 1 + m) lo hi).2, e.a, e.num, e.den, v.x.lo, v.x.hi, v.y.lo, v.y.hi, v.z.lo, v.z.hi, p, q, f.lo, f.hi⟩ := by
  intro k
  induction k with
  | zero =>
    intro m lo hi h1 h2 h3 h4 h5
    have ed : (Rng.w .i64 (hi.val - lo.val)).val = hi.val - lo.val := wi (by omega) (by omega)
    have hd : decide ((Rng.w .i64 (hi.val - lo.val)).val > 1) = false := by rw [ed]; simp; omega
    simp only [Lf, b_spec_l14Lat_4, hd, Tr.bind, Tr.opt, cond_false, Nat.zero_add, Nat.add_comm 1 m, bisU]
  | succ k ih =>
    intro m lo hi h1 h2 h3 h4 h5
    have ed : (Rng.w .i64 (hi.val - lo.val)).val = hi.val - lo.val := wi (by omega) (by omega)
    have hp : (2 : Int) ^ (k + 1) = 2 ^ k * 2 := Int.pow_succ ..
    have hfuel : k + 1 + 1 + m = (k + 1 + m) + 1 := by omega
    rw [hfuel]
    by_cases hc : hi.val - lo.val > 1
    · have hd : decide ((Rng.w .i64 (hi.val - lo.val)).val > 1) = true := by rw [ed]; simpa using hc
      have es : (Rng.w .i64 (lo.val + hi.val)).val = lo.val + hi.val := wi (by omega) (by omega)
      have dv : (lo.val + hi.val).fdiv 2 = (lo.val + hi.val) / 2 := Int.fdiv_eq_ediv_of_nonneg _ (by decide)
      have em : (mid lo hi).val = (lo.val + hi.val) / 2 := by unfold mid; rw [es, dv]; exact wi (by omega) (by omega)
      have i1 := ih m (mid lo hi) hi (by omega) (by omega) h3 h4 (by omega)
      have i2 := ih m lo (mid lo hi) h1 h2 (by omega) (by omega) (by omega)
      simp only [Lf, b_spec_l14Lat_4, hd, Tr.bind, Tr.opt, cond_true, bisU]
      simp only [show Rng.w .i64 ((Rng.w .i64 (lo.val + hi.val)).val.fdiv 2) = mid lo hi from rfl]
      cases decide ((F_spec_l14Side ⟨e.a, e.num, e.den⟩ ⟨f.lo, f.hi⟩ ⟨v.z.lo, v.z.hi⟩ (mid lo hi)).hi.val < 0)
      · simp only [cond_false, cond_true, Bool.not_false, Bool.not_true]
        exact i2
      · simp only [cond_false, cond_true, Bool.not_false, Bool.not_true]
        exact i1
    · have hd : decide ((Rng.w .i64 (hi.val - lo.val)).val > 1) = false := by rw [ed]; simp; omega
      simp only [Lf, b_spec_l14Lat_4, hd, Tr.bind, Tr.opt, cond_false, bisU]
theorem s11 (e : Ell) (v : Vec) (f : Iv) (p q r : I64) : ∀ (k m : Nat) (lo hi : I64), -1099511627776 ≤ lo.val → lo.val ≤ 1099511627776 → -1099511627776 ≤ hi.val → hi.val ≤ 1099511627776 → hi.val - lo.val ≤ 2 ^ k →
    (Lf b_spec_l14Lat_11 (k + 1 + m) ⟨lo, hi, r, e.a, e.num, e.den, v.x.lo, v.x.hi, v.y.lo, v.y.hi, v.z.lo, v.z.hi, p, q, f.lo, f.hi⟩).opt = some ⟨(bisU (fun c => !(decide ((F_spec_l14Side ⟨e.a, e.num, e.den⟩ ⟨f.lo, f.hi⟩ ⟨v.z.lo, v.z.hi⟩ c).lo.val > 0))) (k + 1 + m) lo hi).1, (bisU (fun c => !(decide ((F_spec_l14Side ⟨e.a, e.num, e.den⟩ ⟨f.lo, f.hi⟩ ⟨v.z.lo, v.z.hi⟩ c).lo.val > 0))) (k + 1 + m) lo hi).2, r, e.a, e.num, e.den, v.x.lo, v.x.hi, v.y.lo, v.y.hi, v.z.lo, v.z.hi, p, q, f.lo, f.hi⟩ := by
  intro k
  induction k with
  | zero =>
    intro m lo hi h1 h2 h3 h4 h5
    have ed : (Rng.w .i64 (hi.val - lo.val)).val = hi.val - lo.val := wi (by omega) (by omega)
    have hd : decide ((Rng.w .i64 (hi.val - lo.val)).val > 1) = false := by rw [ed]; simp; omega
    simp only [Lf, b_spec_l14Lat_11, hd, Tr.bind, Tr.opt, cond_false, Nat.zero_add, Nat.add_comm 1 m, bisU]
  | succ k ih =>
    intro m lo hi h1 h2 h3 h4 h5
    have ed : (Rng.w .i64 (hi.val - lo.val)).val = hi.val - lo.val := wi (by omega) (by omega)
    have hp : (2 : Int) ^ (k + 1) = 2 ^ k * 2 := Int.pow_succ ..
    have hfuel : k + 1 + 1 + m = (k + 1 + m) + 1 := by omega
    rw [hfuel]
    by_cases hc : hi.val - lo.val > 1
    · have hd : decide ((Rng.w .i64 (hi.val - lo.val)).val > 1) = true := by rw [ed]; simpa using hc
      have es : (Rng.w .i64 (lo.val + hi.val)).val = lo.val + hi.val := wi (by omega) (by omega)
      have dv : (lo.val + hi.val).fdiv 2 = (lo.val + hi.val) / 2 := Int.fdiv_eq_ediv_of_nonneg _ (by decide)
      have em : (mid lo hi).val = (lo.val + hi.val) / 2 := by unfold mid; rw [es, dv]; exact wi (by omega) (by omega)
      have i1 := ih m (mid lo hi) hi (by omega) (by omega) h3 h4 (by omega)
      have i2 := ih m lo (mid lo hi) h1 h2 (by omega) (by omega) (by omega)
      simp only [Lf, b_spec_l14Lat_11, hd, Tr.bind, Tr.opt, cond_true, bisU]
      simp only [show Rng.w .i64 ((Rng.w .i64 (lo.val + hi.val)).val.fdiv 2) = mid lo hi from rfl]
      cases decide ((F_spec_l14Side ⟨e.a, e.num, e.den⟩ ⟨f.lo, f.hi⟩ ⟨v.z.lo, v.z.hi⟩ (mid lo hi)).lo.val > 0)
      · simp only [cond_false, cond_true, Bool.not_false, Bool.not_true]
        exact i1
      · simp only [cond_false, cond_true, Bool.not_false, Bool.not_true]
        exact i2
    · have hd : decide ((Rng.w .i64 (hi.val - lo.val)).val > 1) = false := by rw [ed]; simp; omega
      simp only [Lf, b_spec_l14Lat_11, hd, Tr.bind, Tr.opt, cond_false, bisU]
theorem i2 (e : Ell) (v : Vec) (f : Iv) (p q r : I64) : ∀ (k m : Nat) (lo hi : I64), -1099511627776 ≤ lo.val → lo.val ≤ 1099511627776 → -1099511627776 ≤ hi.val → hi.val ≤ 1099511627776 → hi.val - lo.val ≤ 2 ^ k →
    (Lf b_impl_latitudeOf_2 (k + 1 + m) ⟨lo, hi, e.a, e.num, e.den, v.x.lo, v.x.hi, v.y.lo, v.y.hi, v.z.lo, v.z.hi, p, q⟩).opt = some ⟨(bisU (fun c => decide ((F_impl_SideAt ⟨e.a, e.num, e.den⟩ ⟨⟨v.x.lo, v.x.hi⟩, ⟨v.y.lo, v.y.hi⟩, ⟨v.z.lo, v.z.hi⟩⟩ c).hi.val < 0)) (k + 1 + m) lo hi).1, (bisU (fun c => decide ((F_impl_SideAt ⟨e.a, e.num, e.den⟩ ⟨⟨v.x.lo, v.x.hi⟩, ⟨v.y.lo, v.y.hi⟩, ⟨v.z.lo, v.z.hi⟩⟩ c).hi.val < 0)) (k + 1 + m) lo hi).2, e.a, e.num, e.den, v.x.lo, v.x.hi, v.y.lo, v.y.hi, v.z.lo, v.z.hi, p, q⟩ := by
  intro k
  induction k with
  | zero =>
    intro m lo hi h1 h2 h3 h4 h5
    have ed : (Rng.w .i64 (hi.val - lo.val)).val = hi.val - lo.val := wi (by omega) (by omega)
    have hd : decide ((Rng.w .i64 (hi.val - lo.val)).val > 1) = false := by rw [ed]; simp; omega
    simp only [Lf, b_impl_latitudeOf_2, hd, Tr.bind, Tr.opt, cond_false, Nat.zero_add, Nat.add_comm 1 m, bisU]
  | succ k ih =>
    intro m lo hi h1 h2 h3 h4 h5
    have ed : (Rng.w .i64 (hi.val - lo.val)).val = hi.val - lo.val := wi (by omega) (by omega)
    have hp : (2 : Int) ^ (k + 1) = 2 ^ k * 2 := Int.pow_succ ..
    have hfuel : k + 1 + 1 + m = (k + 1 + m) + 1 := by omega
    rw [hfuel]
    by_cases hc : hi.val - lo.val > 1
    · have hd : decide ((Rng.w .i64 (hi.val - lo.val)).val > 1) = true := by rw [ed]; simpa using hc
      have es : (Rng.w .i64 (lo.val + hi.val)).val = lo.val + hi.val := wi (by omega) (by omega)
      have dv : (lo.val + hi.val).fdiv 2 = (lo.val + hi.val) / 2 := Int.fdiv_eq_ediv_of_nonneg _ (by decide)
      have em : (mid lo hi).val = (lo.val + hi.val) / 2 := by unfold mid; rw [es, dv]; exact wi (by omega) (by omega)
      have i1 := ih m (mid lo hi) hi (by omega) (by omega) h3 h4 (by omega)
      have i2 := ih m lo (mid lo hi) h1 h2 (by omega) (by omega) (by omega)
      simp only [Lf, b_impl_latitudeOf_2, hd, Tr.bind, Tr.opt, cond_true, bisU]
      simp only [show Rng.w .i64 ((Rng.w .i64 (lo.val + hi.val)).val.fdiv 2) = mid lo hi from rfl]
      cases decide ((F_impl_SideAt ⟨e.a, e.num, e.den⟩ ⟨⟨v.x.lo, v.x.hi⟩, ⟨v.y.lo, v.y.hi⟩, ⟨v.z.lo, v.z.hi⟩⟩ (mid lo hi)).hi.val < 0)
      · simp only [cond_false, cond_true, Bool.not_false, Bool.not_true]
        exact i2
      · simp only [cond_false, cond_true, Bool.not_false, Bool.not_true]
        exact i1
    · have hd : decide ((Rng.w .i64 (hi.val - lo.val)).val > 1) = false := by rw [ed]; simp; omega
      simp only [Lf, b_impl_latitudeOf_2, hd, Tr.bind, Tr.opt, cond_false, bisU]
theorem i9 (e : Ell) (v : Vec) (f : Iv) (p q r : I64) (r2 : I64) : ∀ (k m : Nat) (lo hi : I64), -1099511627776 ≤ lo.val → lo.val ≤ 1099511627776 → -1099511627776 ≤ hi.val → hi.val ≤ 1099511627776 → hi.val - lo.val ≤ 2 ^ k →
    (Lf b_impl_latitudeOf_9 (k + 1 + m) ⟨lo, hi, e.a, e.num, e.den, v.x.lo, v.x.hi, v.y.lo, v.y.hi, v.z.lo, v.z.hi, p, q, r, r2⟩).opt = some ⟨(bisU (fun c => !(decide ((F_impl_SideAt ⟨e.a, e.num, e.den⟩ ⟨⟨v.x.lo, v.x.hi⟩, ⟨v.y.lo, v.y.hi⟩, ⟨v.z.lo, v.z.hi⟩⟩ c).lo.val > 0))) (k + 1 + m) lo hi).1, (bisU (fun c => !(decide ((F_impl_SideAt ⟨e.a, e.num, e.den⟩ ⟨⟨v.x.lo, v.x.hi⟩, ⟨v.y.lo, v.y.hi⟩, ⟨v.z.lo, v.z.hi⟩⟩ c).lo.val > 0))) (k + 1 + m) lo hi).2, e.a, e.num, e.den, v.x.lo, v.x.hi, v.y.lo, v.y.hi, v.z.lo, v.z.hi, p, q, r, r2⟩ := by
  intro k
  induction k with
  | zero =>
    intro m lo hi h1 h2 h3 h4 h5
    have ed : (Rng.w .i64 (hi.val - lo.val)).val = hi.val - lo.val := wi (by omega) (by omega)
    have hd : decide ((Rng.w .i64 (hi.val - lo.val)).val > 1) = false := by rw [ed]; simp; omega
    simp only [Lf, b_impl_latitudeOf_9, hd, Tr.bind, Tr.opt, cond_false, Nat.zero_add, Nat.add_comm 1 m, bisU]
  | succ k ih =>
    intro m lo hi h1 h2 h3 h4 h5
    have ed : (Rng.w .i64 (hi.val - lo.val)).val = hi.val - lo.val := wi (by omega) (by omega)
    have hp : (2 : Int) ^ (k + 1) = 2 ^ k * 2 := Int.pow_succ ..
    have hfuel : k + 1 + 1 + m = (k + 1 + m) + 1 := by omega
    rw [hfuel]
    by_cases hc : hi.val - lo.val > 1
    · have hd : decide ((Rng.w .i64 (hi.val - lo.val)).val > 1) = true := by rw [ed]; simpa using hc
      have es : (Rng.w .i64 (lo.val + hi.val)).val = lo.val + hi.val := wi (by omega) (by omega)
      have dv : (lo.val + hi.val).fdiv 2 = (lo.val + hi.val) / 2 := Int.fdiv_eq_ediv_of_nonneg _ (by decide)
      have em : (mid lo hi).val = (lo.val + hi.val) / 2 := by unfold mid; rw [es, dv]; exact wi (by omega) (by omega)
      have i1 := ih m (mid lo hi) hi (by omega) (by omega) h3 h4 (by omega)
      have i2 := ih m lo (mid lo hi) h1 h2 (by omega) (by omega) (by omega)
      simp only [Lf, b_impl_latitudeOf_9, hd, Tr.bind, Tr.opt, cond_true, bisU]
      simp only [show Rng.w .i64 ((Rng.w .i64 (lo.val + hi.val)).val.fdiv 2) = mid lo hi from rfl]
      cases decide ((F_impl_SideAt ⟨e.a, e.num, e.den⟩ ⟨⟨v.x.lo, v.x.hi⟩, ⟨v.y.lo, v.y.hi⟩, ⟨v.z.lo, v.z.hi⟩⟩ (mid lo hi)).lo.val > 0)
      · simp only [cond_false, cond_true, Bool.not_false, Bool.not_true]
        exact i1
      · simp only [cond_false, cond_true, Bool.not_false, Bool.not_true]
        exact i2
    · have hd : decide ((Rng.w .i64 (hi.val - lo.val)).val > 1) = false := by rw [ed]; simp; omega
      simp only [Lf, b_impl_latitudeOf_9, hd, Tr.bind, Tr.opt, cond_false, bisU]

noncomputable def latF (g h : I64 → Bool) (q : I64) : Iv := let a := (bisU g 70 (.w .i64 (0 - q.val)) q).1; ⟨a, (bisU h 70 a q).2⟩
theorem q_val : (F_spec_l05Turn ⟨1, rfl⟩).hi.val = 6746518853 := by kernel_rfl
theorem lat_spec (e : Ell) (v : Vec) : (t_spec_l14Lat e v).opt = some (latF (fun c => decide ((F_spec_l14Side e (F_spec_l15Flat v) v.z c).hi.val < 0)) (fun c => !(decide ((F_spec_l14Side e (F_spec_l15Flat v) v.z c).lo.val > 0))) (F_spec_l05Turn ⟨1, rfl⟩).hi) := by
  obtain ⟨g, _⟩ := turn_in (k := ⟨1, rfl⟩) (by decide) (by decide)
  have hq := q_val
  have p40 : (2 : Int) ^ 40 = 1099511627776 := rfl
  have p41 : (2 : Int) ^ 41 = 2199023255552 := rfl
  have en : (Rng.w .i64 (0 - (F_spec_l05Turn ⟨1, rfl⟩).hi.val)).val = -6746518853 := by rw [hq]; exact wi (by omega) (by omega)
  have a1 := s4 e v (F_spec_l15Flat v) ⟨0, rfl⟩ ⟨0, rfl⟩ ⟨0, rfl⟩ 40 29 (.w .i64 (0 - (F_spec_l05Turn ⟨1, rfl⟩).hi.val)) (F_spec_l05Turn ⟨1, rfl⟩).hi (by omega) (by omega) (by omega) (by omega) (by omega)
  have bd := bisU_bd (fun c => decide ((F_spec_l14Side ⟨e.a, e.num, e.den⟩ ⟨(F_spec_l15Flat v).lo, (F_spec_l15Flat v).hi⟩ ⟨v.z.lo, v.z.hi⟩ c).hi.val < 0)) (40 + 1 + 29) (.w .i64 (0 - (F_spec_l05Turn ⟨1, rfl⟩).hi.val)) (F_spec_l05Turn ⟨1, rfl⟩).hi (by omega) (by omega) (by omega) (by omega)
  have a2 := s11 e v (F_spec_l15Flat v) ⟨0, rfl⟩ ⟨0, rfl⟩ (bisU (fun c => decide ((F_spec_l14Side ⟨e.a, e.num, e.den⟩ ⟨(F_spec_l15Flat v).lo, (F_spec_l15Flat v).hi⟩ ⟨v.z.lo, v.z.hi⟩ c).hi.val < 0)) (40 + 1 + 29) (.w .i64 (0 - (F_spec_l05Turn ⟨1, rfl⟩).hi.val)) (F_spec_l05Turn ⟨1, rfl⟩).hi).1 41 28
    (bisU (fun c => decide ((F_spec_l14Side ⟨e.a, e.num, e.den⟩ ⟨(F_spec_l15Flat v).lo, (F_spec_l15Flat v).hi⟩ ⟨v.z.lo, v.z.hi⟩ c).hi.val < 0)) (40 + 1 + 29) (.w .i64 (0 - (F_spec_l05Turn ⟨1, rfl⟩).hi.val)) (F_spec_l05Turn ⟨1, rfl⟩).hi).1 (F_spec_l05Turn ⟨1, rfl⟩).hi bd.1 bd.2 (by omega) (by omega) (by omega)
  have hf1 : (40 + 1 + 29 : Nat) = 70 := rfl
  rw [hf1] at a1 a2
  have g4 : G_spec_l14Lat_4 ⟨.w .i64 (0 - (F_spec_l05Turn ⟨1, rfl⟩).hi.val), (F_spec_l05Turn ⟨1, rfl⟩).hi, e.a, e.num, e.den, v.x.lo, v.x.hi, v.y.lo, v.y.hi, v.z.lo, v.z.hi, ⟨0, rfl⟩, ⟨0, rfl⟩, (F_spec_l15Flat v).lo, (F_spec_l15Flat v).hi⟩ = true := by unfold G_spec_l14Lat_4; rw [a1]; rfl
  have l4 : L_spec_l14Lat_4 ⟨.w .i64 (0 - (F_spec_l05Turn ⟨1, rfl⟩).hi.val), (F_spec_l05Turn ⟨1, rfl⟩).hi, e.a, e.num, e.den, v.x.lo, v.x.hi, v.y.lo, v.y.hi, v.z.lo, v.z.hi, ⟨0, rfl⟩, ⟨0, rfl⟩, (F_spec_l15Flat v).lo, (F_spec_l15Flat v).hi⟩ = _ := Tr.opt_get a1
  simp only [t_spec_l14Lat, Tr.opt, g, g4, l4, cond_true]
  have g11 : ∀ x, x = _ → G_spec_l14Lat_11 x = true := fun x hx => by rw [hx]; unfold G_spec_l14Lat_11; rw [a2]; rfl
  have l11 := Tr.opt_get a2
  rw [g11 _ rfl]
  simp only [cond_true]
  unfold L_spec_l14Lat_11
  rw [l11]
  rfl
theorem lat_impl (e : Ell) (v : Vec) : (t_impl_latitudeOf e v).opt = some (latF (fun c => decide ((F_impl_SideAt e v c).hi.val < 0)) (fun c => !(decide ((F_impl_SideAt e v c).lo.val > 0))) (F_spec_l05Turn ⟨1, rfl⟩).hi) := by
  obtain ⟨g, e1⟩ := turn_in (k := ⟨1, rfl⟩) (by decide) (by decide)
  have hqq : F_impl_quarter = (F_spec_l05Turn ⟨1, rfl⟩).hi := by simp only [F_impl_quarter, t_impl_quarter, Tr.get, turnI_eq, e1]
  have hq := q_val
  have p40 : (2 : Int) ^ 40 = 1099511627776 := rfl
  have p41 : (2 : Int) ^ 41 = 2199023255552 := rfl
  have en : (Rng.w .i64 (0 - (F_spec_l05Turn ⟨1, rfl⟩).hi.val)).val = -6746518853 := by rw [hq]; exact wi (by omega) (by omega)
  have a1 := i2 e v ⟨⟨0, rfl⟩, ⟨0, rfl⟩⟩ ⟨0, rfl⟩ ⟨0, rfl⟩ ⟨0, rfl⟩ 40 29 (.w .i64 (0 - (F_spec_l05Turn ⟨1, rfl⟩).hi.val)) (F_spec_l05Turn ⟨1, rfl⟩).hi (by omega) (by omega) (by omega) (by omega) (by omega)
  have bd := bisU_bd (fun c => decide ((F_impl_SideAt ⟨e.a, e.num, e.den⟩ ⟨⟨v.x.lo, v.x.hi⟩, ⟨v.y.lo, v.y.hi⟩, ⟨v.z.lo, v.z.hi⟩⟩ c).hi.val < 0)) (40 + 1 + 29) (.w .i64 (0 - (F_spec_l05Turn ⟨1, rfl⟩).hi.val)) (F_spec_l05Turn ⟨1, rfl⟩).hi (by omega) (by omega) (by omega) (by omega)
  have a2 := i9 e v ⟨⟨0, rfl⟩, ⟨0, rfl⟩⟩ ⟨0, rfl⟩ ⟨0, rfl⟩ (bisU (fun c => decide ((F_impl_SideAt ⟨e.a, e.num, e.den⟩ ⟨⟨v.x.lo, v.x.hi⟩, ⟨v.y.lo, v.y.hi⟩, ⟨v.z.lo, v.z.hi⟩⟩ c).hi.val < 0)) (40 + 1 + 29) (.w .i64 (0 - (F_spec_l05Turn ⟨1, rfl⟩).hi.val)) (F_spec_l05Turn ⟨1, rfl⟩).hi).1 ⟨0, rfl⟩ 41 28
    (bisU (fun c => decide ((F_impl_SideAt ⟨e.a, e.num, e.den⟩ ⟨⟨v.x.lo, v.x.hi⟩, ⟨v.y.lo, v.y.hi⟩, ⟨v.z.lo, v.z.hi⟩⟩ c).hi.val < 0)) (40 + 1 + 29) (.w .i64 (0 - (F_spec_l05Turn ⟨1, rfl⟩).hi.val)) (F_spec_l05Turn ⟨1, rfl⟩).hi).1 (F_spec_l05Turn ⟨1, rfl⟩).hi bd.1 bd.2 (by omega) (by omega) (by omega)
  have hf1 : (40 + 1 + 29 : Nat) = 70 := rfl
  rw [hf1] at a1 a2
  have g2 : G_impl_latitudeOf_2 ⟨.w .i64 (0 - (F_spec_l05Turn ⟨1, rfl⟩).hi.val), (F_spec_l05Turn ⟨1, rfl⟩).hi, e.a, e.num, e.den, v.x.lo, v.x.hi, v.y.lo, v.y.hi, v.z.lo, v.z.hi, ⟨0, rfl⟩, ⟨0, rfl⟩⟩ = true := by unfold G_impl_latitudeOf_2; rw [a1]; rfl
  have l2 : L_impl_latitudeOf_2 ⟨.w .i64 (0 - (F_spec_l05Turn ⟨1, rfl⟩).hi.val), (F_spec_l05Turn ⟨1, rfl⟩).hi, e.a, e.num, e.den, v.x.lo, v.x.hi, v.y.lo, v.y.hi, v.z.lo, v.z.hi, ⟨0, rfl⟩, ⟨0, rfl⟩⟩ = _ := Tr.opt_get a1
  simp only [t_impl_latitudeOf, Tr.opt, hqq, g2, l2, cond_true]
  have g9 : ∀ x, x = _ → G_impl_latitudeOf_9 x = true := fun x hx => by rw [hx]; unfold G_impl_latitudeOf_9; rw [a2]; rfl
  have l9 := Tr.opt_get a2
  rw [g9 _ rfl]
  simp only [cond_true]
  unfold L_impl_latitudeOf_9
  rw [l9]
  rfl
theorem tt_lat_spec (e : Ell) (v : Vec) : (t_spec_l14Lat e v).opt = some (F_spec_l14Lat e v) := opt_self (lat_spec e v)
theorem tt_lat_impl (e : Ell) (v : Vec) : (t_impl_latitudeOf e v).opt = some (F_impl_latitudeOf e v) := opt_self (lat_impl e v)
theorem lat_same {e : Ell} (h : F_spec_l12Ok e = true) (v : Vec) : F_impl_latitudeOf e v = F_spec_l14Lat e v := by
  have h1 : F_impl_latitudeOf e v = _ := Tr.opt_get (lat_impl e v)
  have h2 : F_spec_l14Lat e v = _ := Tr.opt_get (lat_spec e v)
  have h3 : ∀ c, F_impl_SideAt e v c = F_spec_l14Side e (F_spec_l15Flat v) v.z c := fun c => by
    rw [sideAt_eq]
    simp only [F_spec_SideAt, t_spec_SideAt, Tr.get, sell_eq, h, Bool.not_true, cfl]
  rw [h1, h2]
  simp only [h3]
end Go.Proofs.YtcfflflcbacapaaGreat.Ev
