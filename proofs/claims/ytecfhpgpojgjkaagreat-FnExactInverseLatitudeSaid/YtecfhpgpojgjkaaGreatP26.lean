/-
  Plain laws: latitudes of a kind undone, by bisection.
-/
import Derived.Test.YtecfhpgpojgjkaaGreatP25
import Derived.Test.YtecfhpgpojgjkaaGreatWH
namespace Go.Proofs.YtecfhpgpojgjkaaGreat.Ev
open Go
set_option linter.unusedSimpArgs false
set_option linter.unusedVariables false

def mid (lo hi : I64) : I64 := .w .i64 ((Rng.w .i64 (lo.val + hi.val)).val.fdiv 2)
def bisU (f : I64 → Bool) : Nat → I64 → I64 → I64 × I64
  | 0, lo, hi => (lo, hi)
  | n + 1, lo, hi => bif decide ((Rng.w .i64 (hi.val - lo.val)).val > 1) then (bif f (mid lo hi) then bisU f n (mid lo hi) hi else bisU f n lo (mid lo hi)) else (lo, hi)
theorem mid_val {lo hi : I64} (h1 : -1099511627776 ≤ lo.val) (h2 : lo.val ≤ 1099511627776) (h3 : -1099511627776 ≤ hi.val) (h4 : hi.val ≤ 1099511627776) : (mid lo hi).val = (lo.val + hi.val) / 2 := by
  have es : (Rng.w .i64 (lo.val + hi.val)).val = lo.val + hi.val := wi (by omega) (by omega)
  have dv : (lo.val + hi.val).fdiv 2 = (lo.val + hi.val) / 2 := Int.fdiv_eq_ediv_of_nonneg _ (by decide)
  unfold mid; rw [es, dv]; exact wi (by omega) (by omega)
theorem bisU_congr {f g : I64 → Bool} {B : Int} (hB : B ≤ 1099511627776) (h : ∀ m : I64, -B ≤ m.val → m.val ≤ B → f m = g m) : ∀ (n : Nat) (lo hi : I64), -B ≤ lo.val → lo.val ≤ B → -B ≤ hi.val → hi.val ≤ B → bisU f n lo hi = bisU g n lo hi
  | 0, lo, hi, _, _, _, _ => rfl
  | n + 1, lo, hi, h1, h2, h3, h4 => by
    have em := mid_val (lo := lo) (hi := hi) (by omega) (by omega) (by omega) (by omega)
    simp only [bisU]
    rw [h (mid lo hi) (by omega) (by omega), bisU_congr hB h n (mid lo hi) hi (by omega) (by omega) h3 h4, bisU_congr hB h n lo (mid lo hi) h1 h2 (by omega) (by omega)]
theorem bis_loop {S : Type} (b : S → Tr (Lp S)) (emb : I64 → I64 → S) (f : I64 → Bool)
    (hb : ∀ lo hi, (b (emb lo hi)).opt = some (bif decide ((Rng.w .i64 (hi.val - lo.val)).val > 1) then (bif f (mid lo hi) then .again (emb (mid lo hi) hi) else .again (emb lo (mid lo hi))) else .out (emb lo hi))) :
    ∀ (k m : Nat) (lo hi : I64), -1099511627776 ≤ lo.val → lo.val ≤ 1099511627776 → -1099511627776 ≤ hi.val → hi.val ≤ 1099511627776 → hi.val - lo.val ≤ 2 ^ k →
    (Lf b (k + 1 + m) (emb lo hi)).opt = some (emb (bisU f (k + 1 + m) lo hi).1 (bisU f (k + 1 + m) lo hi).2) := by
  intro k
  induction k with
  | zero =>
    intro m lo hi h1 h2 h3 h4 h5
    have ed : (Rng.w .i64 (hi.val - lo.val)).val = hi.val - lo.val := wi (by omega) (by omega)
    have hd : decide ((Rng.w .i64 (hi.val - lo.val)).val > 1) = false := by rw [ed]; simp; omega
    rw [show 0 + 1 + m = m + 1 by omega]
    simp only [Lf, Tr.opt_bind, hb, hd, cond_false, Tr.opt, bisU]
  | succ k ih =>
    intro m lo hi h1 h2 h3 h4 h5
    have ed : (Rng.w .i64 (hi.val - lo.val)).val = hi.val - lo.val := wi (by omega) (by omega)
    have hp : (2 : Int) ^ (k + 1) = 2 ^ k * 2 := Int.pow_succ ..
    rw [show k + 1 + 1 + m = (k + 1 + m) + 1 by omega]
    by_cases hc : hi.val - lo.val > 1
    · have hd : decide ((Rng.w .i64 (hi.val - lo.val)).val > 1) = true := by rw [ed]; simpa using hc
      have em := mid_val h1 h2 h3 h4
      have i1 := ih m (mid lo hi) hi (by omega) (by omega) h3 h4 (by omega)
      have i2 := ih m lo (mid lo hi) h1 h2 (by omega) (by omega) (by omega)
      simp only [Lf, Tr.opt_bind, hb, hd, cond_true, bisU]
      cases f (mid lo hi)
      · simp only [cond_false]; exact i2
      · simp only [cond_true]; exact i1
    · have hd : decide ((Rng.w .i64 (hi.val - lo.val)).val > 1) = false := by rw [ed]; simp; omega
      simp only [Lf, Tr.opt_bind, hb, hd, cond_false, Tr.opt, bisU]

/-! ### both searches -/
noncomputable def lq : I64 := (F_spec_l05Turn ⟨1, rfl⟩).hi
noncomputable def lnq : I64 := .w .i64 (0 - lq.val)
theorem lq_val : lq.val = 6746518853 := q_val
theorem lnq_val : lnq.val = -6746518853 := by unfold lnq; rw [lq_val]; exact wi (by omega) (by omega)
noncomputable def bel (y : Iv) (n : I64) : Bool := bif F_spec_l04Ok y then decide (y.hi.val < n.val) else false
noncomputable def abv (y : Iv) (n : I64) : Bool := bif F_spec_l04Ok y then decide (y.lo.val > n.val) else false
theorem isBelow_eq (y : Iv) (n : I64) : F_impl_isBelow y n = bel y n := by
  simp only [F_impl_isBelow, t_impl_isBelow, Tr.get, bel, valid_eq]
theorem isAbove_eq (y : Iv) (n : I64) : F_impl_isAbove y n = abv y n := by
  simp only [F_impl_isAbove, t_impl_isAbove, Tr.get, abv, valid_eq]
noncomputable def fBel (k : I64) (e : Ell) (x : Iv) (c : I64) : Bool := bel (F_spec_l13At k e c) x.lo
noncomputable def fAbv (k : I64) (e : Ell) (x : Iv) (c : I64) : Bool := !(abv (F_spec_l13At k e c) x.hi)
noncomputable def invL (k : I64) (e : Ell) (x : Iv) : Iv := ⟨(bisU (fBel k e x) 70 lnq lq).1, (bisU (fAbv k e x) 70 lnq lq).2⟩
theorem latAt_in {k : I64} {e : Ell} (hk : F_spec_l13Kind k = true) (he : F_spec_l12Ok e = true) (c : I64) (h1 : -6746518853 ≤ c.val) (h2 : c.val ≤ 6746518853) : F_spec_LatitudeAt k e c = F_spec_l13At k e c := by
  have hq := lq_val
  have hnq := lnq_val
  unfold lnq at hnq
  have hw : decide ((Rng.w .i64 (0 - lq.val)).val ≤ c.val ∧ c.val ≤ lq.val) = true := by rw [hnq, hq]; simp; omega
  simp only [F_spec_LatitudeAt, t_spec_LatitudeAt, Tr.get, hk, he, end_F, in_eq, Bool.not_true, cfl]
  rw [show (F_spec_l05Turn ⟨1, rfl⟩).hi = lq from rfl, hw]
  rfl
theorem in_pow : (6746518853 : Int) - -6746518853 ≤ 2 ^ 40 := by decide
theorem run_10 (k : I64) (e : Ell) (x : Iv) (y1 p q y11 : I64) : (Lf b_spec_l13Inverse_10 70 ⟨k, y1, lq, e.a, e.num, e.den, x.lo, x.hi, p, q, lnq, y11⟩).opt =
    some ⟨k, y1, (bisU (fBel k e x) 70 lnq lq).2, e.a, e.num, e.den, x.lo, x.hi, p, q, (bisU (fBel k e x) 70 lnq lq).1, y11⟩ := by
  have h1 := lq_val
  have h2 := lnq_val
  have hp := in_pow
  exact bis_loop b_spec_l13Inverse_10 (fun lo hi => ⟨k, y1, hi, e.a, e.num, e.den, x.lo, x.hi, p, q, lo, y11⟩) (fBel k e x) (fun lo hi => by
    have hm : (Rng.w .i64 ((Rng.w .i64 (lo.val + hi.val)).val.fdiv 2)) = mid lo hi := rfl
    have he : (⟨e.a, e.num, e.den⟩ : Ell) = e := rfl
    simp only [b_spec_l13Inverse_10, Tr.opt, hm, he, fBel, bel]
    cases decide ((Rng.w .i64 (hi.val - lo.val)).val > 1) <;> cases F_spec_l04Ok (F_spec_l13At k e (mid lo hi)) <;> cases decide ((F_spec_l13At k e (mid lo hi)).hi.val < x.lo.val) <;> rfl) 40 29 lnq lq (by omega) (by omega) (by omega) (by omega) (by omega)
theorem run_17 (k : I64) (e : Ell) (x : Iv) (p q y9 : I64) : (Lf b_spec_l13Inverse_17 70 ⟨k, lnq, e.a, e.num, e.den, x.lo, x.hi, p, q, y9, lq⟩).opt =
    some ⟨k, (bisU (fAbv k e x) 70 lnq lq).1, e.a, e.num, e.den, x.lo, x.hi, p, q, y9, (bisU (fAbv k e x) 70 lnq lq).2⟩ := by
  have h1 := lq_val
  have h2 := lnq_val
  have hp := in_pow
  exact bis_loop b_spec_l13Inverse_17 (fun lo hi => ⟨k, lo, e.a, e.num, e.den, x.lo, x.hi, p, q, y9, hi⟩) (fAbv k e x) (fun lo hi => by
    have hm : (Rng.w .i64 ((Rng.w .i64 (lo.val + hi.val)).val.fdiv 2)) = mid lo hi := rfl
    have he : (⟨e.a, e.num, e.den⟩ : Ell) = e := rfl
    simp only [b_spec_l13Inverse_17, Tr.opt, hm, he, fAbv, abv]
    cases decide ((Rng.w .i64 (hi.val - lo.val)).val > 1) <;> cases F_spec_l04Ok (F_spec_l13At k e (mid lo hi)) <;> cases decide ((F_spec_l13At k e (mid lo hi)).lo.val > x.hi.val) <;> rfl) 40 29 lnq lq (by omega) (by omega) (by omega) (by omega) (by omega)
theorem run_2 {k : I64} {e : Ell} (hk : F_spec_l13Kind k = true) (he' : F_spec_l12Ok e = true) (x : Iv) (p q : I64) : (Lf b_impl_inverseLatitude_2 70 ⟨k, lnq, lq, e.a, e.num, e.den, x.lo, x.hi, p, q⟩).opt =
    some ⟨k, (bisU (fBel k e x) 70 lnq lq).1, (bisU (fBel k e x) 70 lnq lq).2, e.a, e.num, e.den, x.lo, x.hi, p, q⟩ := by
  have h1 := lq_val
  have h2 := lnq_val
  have hp := in_pow
  rw [← bisU_congr (f := fun c => bel (F_spec_LatitudeAt k e c) x.lo) (g := fBel k e x) (B := 6746518853) (by decide) (fun m a b => by simp only [fBel, latAt_in hk he' m a b]) 70 lnq lq (by omega) (by omega) (by omega) (by omega)]
  exact bis_loop b_impl_inverseLatitude_2 (fun lo hi => ⟨k, lo, hi, e.a, e.num, e.den, x.lo, x.hi, p, q⟩) (fun c => bel (F_spec_LatitudeAt k e c) x.lo) (fun lo hi => by
    have hm : (Rng.w .i64 ((Rng.w .i64 (lo.val + hi.val)).val.fdiv 2)) = mid lo hi := rfl
    have he : (⟨e.a, e.num, e.den⟩ : Ell) = e := rfl
    simp only [b_impl_inverseLatitude_2, Tr.opt, hm, he, isBelow_eq, latAt_eq]
    cases decide ((Rng.w .i64 (hi.val - lo.val)).val > 1) <;> cases bel (F_spec_LatitudeAt k e (mid lo hi)) x.lo <;> rfl) 40 29 lnq lq (by omega) (by omega) (by omega) (by omega) (by omega)
theorem run_9 {k : I64} {e : Ell} (hk : F_spec_l13Kind k = true) (he' : F_spec_l12Ok e = true) (x : Iv) (p q y10 y11 : I64) : (Lf b_impl_inverseLatitude_9 70 ⟨k, lnq, lq, e.a, e.num, e.den, x.lo, x.hi, p, q, y10, y11⟩).opt =
    some ⟨k, (bisU (fAbv k e x) 70 lnq lq).1, (bisU (fAbv k e x) 70 lnq lq).2, e.a, e.num, e.den, x.lo, x.hi, p, q, y10, y11⟩ := by
  have h1 := lq_val
  have h2 := lnq_val
  have hp := in_pow
  rw [← bisU_congr (f := fun c => !(abv (F_spec_LatitudeAt k e c) x.hi)) (g := fAbv k e x) (B := 6746518853) (by decide) (fun m a b => by simp only [fAbv, latAt_in hk he' m a b]) 70 lnq lq (by omega) (by omega) (by omega) (by omega)]
  exact bis_loop b_impl_inverseLatitude_9 (fun lo hi => ⟨k, lo, hi, e.a, e.num, e.den, x.lo, x.hi, p, q, y10, y11⟩) (fun c => !(abv (F_spec_LatitudeAt k e c) x.hi)) (fun lo hi => by
    have hm : (Rng.w .i64 ((Rng.w .i64 (lo.val + hi.val)).val.fdiv 2)) = mid lo hi := rfl
    have he : (⟨e.a, e.num, e.den⟩ : Ell) = e := rfl
    simp only [b_impl_inverseLatitude_9, Tr.opt, hm, he, isAbove_eq, latAt_eq]
    cases decide ((Rng.w .i64 (hi.val - lo.val)).val > 1) <;> cases abv (F_spec_LatitudeAt k e (mid lo hi)) x.hi <;> rfl) 40 29 lnq lq (by omega) (by omega) (by omega) (by omega) (by omega)
theorem inv_impl {k : I64} {e : Ell} (hk : F_spec_l13Kind k = true) (he : F_spec_l12Ok e = true) (x : Iv) : (t_impl_inverseLatitude k e x).opt = some (invL k e x) := by
  have a1 := run_2 hk he x ⟨0, rfl⟩ ⟨0, rfl⟩
  have a2 := run_9 hk he x ⟨0, rfl⟩ ⟨0, rfl⟩ (bisU (fBel k e x) 70 lnq lq).1 ⟨0, rfl⟩
  have g1 : G_impl_inverseLatitude_2 ⟨k, lnq, lq, e.a, e.num, e.den, x.lo, x.hi, ⟨0, rfl⟩, ⟨0, rfl⟩⟩ = true := by unfold G_impl_inverseLatitude_2; rw [a1]; rfl
  have l1 : L_impl_inverseLatitude_2 ⟨k, lnq, lq, e.a, e.num, e.den, x.lo, x.hi, ⟨0, rfl⟩, ⟨0, rfl⟩⟩ = _ := Tr.opt_get a1
  have g2 : G_impl_inverseLatitude_9 ⟨k, lnq, lq, e.a, e.num, e.den, x.lo, x.hi, ⟨0, rfl⟩, ⟨0, rfl⟩, (bisU (fBel k e x) 70 lnq lq).1, ⟨0, rfl⟩⟩ = true := by unfold G_impl_inverseLatitude_9; rw [a2]; rfl
  have l2 : L_impl_inverseLatitude_9 ⟨k, lnq, lq, e.a, e.num, e.den, x.lo, x.hi, ⟨0, rfl⟩, ⟨0, rfl⟩, (bisU (fBel k e x) 70 lnq lq).1, ⟨0, rfl⟩⟩ = _ := Tr.opt_get a2
  have hq : F_impl_quarter = lq := quarter_F
  have hn : Rng.w .i64 (0 - lq.val) = lnq := rfl
  simp only [t_impl_inverseLatitude, Tr.opt, hq, hn, g1, l1, g2, l2, ctr, invL]
/-- The reference's answer. -/
noncomputable def invA (k : I64) (e : Ell) (x : Iv) : T2 Iv I64 :=
  bif !(F_spec_l04Ok x) then ⟨⟨⟨0, rfl⟩, ⟨0, rfl⟩⟩, ⟨9, rfl⟩⟩ else bif bel (F_spec_l13At k e lq) x.lo then ⟨⟨⟨0, rfl⟩, ⟨0, rfl⟩⟩, ⟨8, rfl⟩⟩ else bif abv (F_spec_l13At k e lnq) x.hi then ⟨⟨⟨0, rfl⟩, ⟨0, rfl⟩⟩, ⟨8, rfl⟩⟩ else ⟨invL k e x, ⟨0, rfl⟩⟩
theorem inv_spec (k : I64) (e : Ell) (x : Iv) : (t_spec_l13Inverse k e x).opt = some (invA k e x) := by
  have a1 := run_10 k e x lq ⟨0, rfl⟩ ⟨0, rfl⟩ lq
  have a2 := run_17 k e x ⟨0, rfl⟩ ⟨0, rfl⟩ (bisU (fBel k e x) 70 lnq lq).1
  have g1 : G_spec_l13Inverse_10 ⟨k, lq, lq, e.a, e.num, e.den, x.lo, x.hi, ⟨0, rfl⟩, ⟨0, rfl⟩, lnq, lq⟩ = true := by unfold G_spec_l13Inverse_10; rw [a1]; rfl
  have l1 : L_spec_l13Inverse_10 ⟨k, lq, lq, e.a, e.num, e.den, x.lo, x.hi, ⟨0, rfl⟩, ⟨0, rfl⟩, lnq, lq⟩ = _ := Tr.opt_get a1
  have g2 : G_spec_l13Inverse_17 ⟨k, lnq, e.a, e.num, e.den, x.lo, x.hi, ⟨0, rfl⟩, ⟨0, rfl⟩, (bisU (fBel k e x) 70 lnq lq).1, lq⟩ = true := by unfold G_spec_l13Inverse_17; rw [a2]; rfl
  have l2 : L_spec_l13Inverse_17 ⟨k, lnq, e.a, e.num, e.den, x.lo, x.hi, ⟨0, rfl⟩, ⟨0, rfl⟩, (bisU (fBel k e x) 70 lnq lq).1, lq⟩ = _ := Tr.opt_get a2
  have hq : F_spec_l13End = lq := end_F
  have hn : Rng.w .i64 (0 - lq.val) = lnq := rfl
  simp only [t_spec_l13Inverse, Tr.opt, hq, hn, g1, l1, g2, l2, ctr, invA, invL, bel, abv]
  cases F_spec_l04Ok x
  · rfl
  cases F_spec_l04Ok (F_spec_l13At k e lq)
  · cases F_spec_l04Ok (F_spec_l13At k e lnq)
    · rfl
    · cases decide ((F_spec_l13At k e lnq).lo.val > x.hi.val) <;> rfl
  · cases decide ((F_spec_l13At k e lq).hi.val < x.lo.val)
    · cases F_spec_l04Ok (F_spec_l13At k e lnq)
      · rfl
      · cases decide ((F_spec_l13At k e lnq).lo.val > x.hi.val) <;> rfl
    · rfl
theorem tt_inv_spec (k : I64) (e : Ell) (x : Iv) : (t_spec_l13Inverse k e x).opt = some (F_spec_l13Inverse k e x) := opt_self (inv_spec k e x)
theorem inv_F_spec (k : I64) (e : Ell) (x : Iv) : F_spec_l13Inverse k e x = invA k e x := Tr.opt_get (inv_spec k e x)
theorem inv_F_impl {k : I64} {e : Ell} (hk : F_spec_l13Kind k = true) (he : F_spec_l12Ok e = true) (x : Iv) : F_impl_inverseLatitude k e x = invL k e x := Tr.opt_get (inv_impl hk he x)
theorem inv_G_impl {k : I64} {e : Ell} (hk : F_spec_l13Kind k = true) (he : F_spec_l12Ok e = true) (x : Iv) : G_impl_inverseLatitude k e x = true := by unfold G_impl_inverseLatitude; rw [inv_impl hk he x]; rfl
end Go.Proofs.YtecfhpgpojgjkaaGreat.Ev
