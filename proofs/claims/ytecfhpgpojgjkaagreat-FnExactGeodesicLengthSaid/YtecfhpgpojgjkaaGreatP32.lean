/-
  Plain laws: geodesics: the next omega and the length, both sides.
-/
import Derived.Test.YtecfhpgpojgjkaaGreatP29
import Derived.Test.YtecfhpgpojgjkaaGreatP31
namespace Go.Proofs.YtecfhpgpojgjkaaGreat.Ev
open Go
set_option linter.unusedSimpArgs false
set_option linter.unusedVariables false

noncomputable def one1 : Iv := F_spec_Integer ⟨1, rfl⟩
noncomputable def int0 : Iv := F_spec_Integer ⟨0, rfl⟩
/-- The root of a piece. -/
noncomputable def rS (s u m ecc : Iv) (p k : I64) : Iv :=
  F_spec_SqrtI (F_spec_SubI one1 (F_spec_MulI ecc (F_spec_SubI one1 (F_spec_MinI (F_spec_SqrI (F_spec_AddI (F_spec_MulI (F_spec_SinI u) (F_spec_CosI (F_spec_MulI s (F_spec_Quotient (.w .i64 ((Rng.w .i64 (2 * k.val)).val + 1)) (.w .i64 (2 * p.val)))))) (F_spec_MulI m (F_spec_SinI (F_spec_MulI s (F_spec_Quotient (.w .i64 ((Rng.w .i64 (2 * k.val)).val + 1)) (.w .i64 (2 * p.val)))))))) one1))))
structure Two where
  w : Iv
  v : Iv
noncomputable def stS (s u m ecc : Iv) (p k : I64) (a : Two) : Two := ⟨F_spec_AddI a.w (rS s u m ecc p k), F_spec_AddI a.v (F_spec_DivI ecc (F_spec_AddI one1 (rS s u m ecc p k)))⟩
noncomputable def sumsS (s u m ecc : Iv) (p : I64) : Two := iterS (stS s u m ecc p) p.val.toNat ⟨0, rfl⟩ ⟨int0, int0⟩
noncomputable def cS (s : Iv) (p : I64) : Iv := F_spec_DivI (F_spec_MulI (F_spec_MulI s s) s) (F_spec_Integer (.w .i64 ((Rng.w .i64 (24 * p.val)).val * p.val)))
noncomputable def nextC (l ecc s n : Iv) (p : I64) (S : Two) : Iv :=
  F_spec_AddI l (F_spec_MulI n (F_spec_AddI (F_spec_MulI (F_spec_DivI s (F_spec_Integer p)) S.v) (F_spec_l16Both (F_spec_MulI (F_spec_MulI (F_spec_MulI (F_spec_Quotient ⟨3, rfl⟩ ⟨10, rfl⟩) ecc) ecc) (cS s p)))))
noncomputable def lenC (major ecc s : Iv) (p : I64) (S : Two) : Iv :=
  F_spec_MulI major (F_spec_AddI (F_spec_MulI (F_spec_DivI s (F_spec_Integer p)) S.w) (F_spec_l16Both (F_spec_MulI (F_spec_MulI (F_spec_Quotient ⟨21, rfl⟩ ⟨20, rfl⟩) ecc) (cS s p))))
noncomputable def nN (u v x s : Iv) : Iv := F_spec_DivI (F_spec_MulI (F_spec_MulI (F_spec_CosI u) (F_spec_CosI v)) (F_spec_SinI x)) (F_spec_SinI s)
noncomputable def mM (u v s : Iv) : Iv := F_spec_DivI (F_spec_SubI (F_spec_SinI v) (F_spec_MulI (F_spec_SinI u) (F_spec_CosI s))) (F_spec_SinI s)
theorem both_eq (a : Iv) : F_impl_symmetric a = F_spec_l16Both a := by
  simp only [F_impl_symmetric, t_impl_symmetric, F_spec_l16Both, t_spec_l16Both, Tr.get, isw_eq, whole_eq, bounded_eq, ctr]

theorem loopS (h : GeoS) (s n m : Iv) (z1 z2 z3 z4 : I64) {p : I64} (hp : 1 ≤ p.val ∧ p.val ≤ 64) :
    ∃ k', (Lf b_spec_l16S_next_11 70 ⟨p, ⟨0, rfl⟩, h.e.a, h.e.num, h.e.den, h.u.lo, h.u.hi, h.v.lo, h.v.hi, h.l.lo, h.l.hi, h.d, h.ecc.lo, h.ecc.hi, h.major.lo, h.major.hi, z1, z2, z3, z4, s.lo, s.hi, n.lo, n.hi, m.lo, m.hi, one1.lo, one1.hi, int0.lo, int0.hi, int0.lo, int0.hi⟩).opt =
      some ⟨p, k', h.e.a, h.e.num, h.e.den, h.u.lo, h.u.hi, h.v.lo, h.v.hi, h.l.lo, h.l.hi, h.d, h.ecc.lo, h.ecc.hi, h.major.lo, h.major.hi, z1, z2, z3, z4, s.lo, s.hi, n.lo, n.hi, m.lo, m.hi, one1.lo, one1.hi, (sumsS s h.u m h.ecc p).w.lo, (sumsS s h.u m h.ecc p).w.hi, (sumsS s h.u m h.ecc p).v.lo, (sumsS s h.u m h.ecc p).v.hi⟩ := by
  have := sum_loop b_spec_l16S_next_11 (fun k a => ⟨p, k, h.e.a, h.e.num, h.e.den, h.u.lo, h.u.hi, h.v.lo, h.v.hi, h.l.lo, h.l.hi, h.d, h.ecc.lo, h.ecc.hi, h.major.lo, h.major.hi, z1, z2, z3, z4, s.lo, s.hi, n.lo, n.hi, m.lo, m.hi, one1.lo, one1.hi, a.w.lo, a.w.hi, a.v.lo, a.v.hi⟩) p (stS s h.u m h.ecc p) hp.2 (fun k a _ => by
    simp only [b_spec_l16S_next_11, Tr.opt]
    cases decide (k.val < p.val) <;> rfl) p.val.toNat (69 - p.val.toNat) ⟨0, rfl⟩ ⟨int0, int0⟩ (by decide) (by show (0 : Int) + _ = _; omega)
  rw [show p.val.toNat + 1 + (69 - p.val.toNat) = 70 by omega] at this
  exact this
theorem loopI (g : Geo) (s n m ecc : Iv) (z1 z2 z3 z4 : I64) {p : I64} (hp : 1 ≤ p.val ∧ p.val ≤ 64) :
    ∃ k', (Lf b_impl_geodesic_solve_7 70 ⟨p, p, ⟨0, rfl⟩, g.e.a, g.e.num, g.e.den, g.u.lo, g.u.hi, g.v.lo, g.v.hi, g.lon.lo, g.lon.hi, g.back, z1, z2, z3, z4, s.lo, s.hi, ecc.lo, ecc.hi, n.lo, n.hi, m.lo, m.hi, int0.lo, int0.hi, int0.lo, int0.hi⟩).opt =
      some ⟨p, p, k', g.e.a, g.e.num, g.e.den, g.u.lo, g.u.hi, g.v.lo, g.v.hi, g.lon.lo, g.lon.hi, g.back, z1, z2, z3, z4, s.lo, s.hi, ecc.lo, ecc.hi, n.lo, n.hi, m.lo, m.hi, (sumsS s g.u m ecc p).w.lo, (sumsS s g.u m ecc p).w.hi, (sumsS s g.u m ecc p).v.lo, (sumsS s g.u m ecc p).v.hi⟩ := by
  have := sum_loop b_impl_geodesic_solve_7 (fun k a => ⟨p, p, k, g.e.a, g.e.num, g.e.den, g.u.lo, g.u.hi, g.v.lo, g.v.hi, g.lon.lo, g.lon.hi, g.back, z1, z2, z3, z4, s.lo, s.hi, ecc.lo, ecc.hi, n.lo, n.hi, m.lo, m.hi, a.w.lo, a.w.hi, a.v.lo, a.v.hi⟩) p (stS s g.u m ecc p) hp.2 (fun k a _ => by
    simp only [b_impl_geodesic_solve_7, Tr.opt, mulI_F, quot_eq, sqrtI_eq, oneLess_eq, minI_eq, sqrI_F, add_eq, sinI_eq, cosI_eq, integer_eq, divI_F]
    cases decide (k.val < p.val) <;> rfl) p.val.toNat (69 - p.val.toNat) ⟨0, rfl⟩ ⟨int0, int0⟩ (by decide) (by show (0 : Int) + _ = _; omega)
  rw [show p.val.toNat + 1 + (69 - p.val.toNat) = 70 by omega] at this
  exact this

noncomputable def spA (h : GeoS) (x : Iv) (p : I64) : T2 Iv Iv :=
  bif !(F_spec_l04Ok (nN h.u h.v x (ang h.u h.v x))) then ⟨F_spec_l04Whole, F_spec_l04Whole⟩ else bif !(F_spec_l04Ok (mM h.u h.v (ang h.u h.v x))) then ⟨F_spec_l04Whole, F_spec_l04Whole⟩ else
    ⟨nextC h.l h.ecc (ang h.u h.v x) (nN h.u h.v x (ang h.u h.v x)) p (sumsS (ang h.u h.v x) h.u (mM h.u h.v (ang h.u h.v x)) h.ecc p), lenC h.major h.ecc (ang h.u h.v x) p (sumsS (ang h.u h.v x) h.u (mM h.u h.v (ang h.u h.v x)) h.ecc p)⟩
noncomputable def imA (g : Geo) (x : Iv) (p : I64) : T2 Iv Iv :=
  ⟨nextC g.lon (F_spec_EccI g.e) (ang g.u g.v x) (nN g.u g.v x (ang g.u g.v x)) p (sumsS (ang g.u g.v x) g.u (mM g.u g.v (ang g.u g.v x)) (F_spec_EccI g.e) p), lenC (F_spec_MajorI g.e) (F_spec_EccI g.e) (ang g.u g.v x) p (sumsS (ang g.u g.v x) g.u (mM g.u g.v (ang g.u g.v x)) (F_spec_EccI g.e) p)⟩
theorem sp_ok (h : GeoS) (x : Iv) {p : I64} (hp : 1 ≤ p.val ∧ p.val ≤ 64) : (t_spec_l16S_next h x p).opt = some (spA h x p) := by
  obtain ⟨k', hl⟩ := loopS h (ang h.u h.v x) (nN h.u h.v x (ang h.u h.v x)) (mM h.u h.v (ang h.u h.v x)) ⟨0, rfl⟩ ⟨0, rfl⟩ ⟨0, rfl⟩ ⟨0, rfl⟩ hp
  have hg : G_spec_l16S_next_11 _ = true := show (Lf b_spec_l16S_next_11 70 _).opt.isSome = true by rw [hl]; rfl
  have hv : L_spec_l16S_next_11 _ = _ := Tr.opt_get hl
  simp only [t_spec_l16S_next, Tr.opt, ang_spec, spA]
  show (bif !(F_spec_l04Ok (nN h.u h.v x (ang h.u h.v x))) then _ else _) = _
  cases h1 : F_spec_l04Ok (nN h.u h.v x (ang h.u h.v x))
  · simp only [Bool.not_false, ctr]
  simp only [Bool.not_true, cfl]
  show (bif !(F_spec_l04Ok (mM h.u h.v (ang h.u h.v x))) then _ else _) = _
  cases h2 : F_spec_l04Ok (mM h.u h.v (ang h.u h.v x))
  · simp only [Bool.not_false, ctr]
  simp only [Bool.not_true, cfl]
  simp only [one1, int0, nN, mM] at hg hv
  rw [hg]
  simp only [ctr]
  rw [hv]
  rfl
theorem im_ok (g : Geo) (x : Iv) {p : I64} (hp : 1 ≤ p.val ∧ p.val ≤ 64) : (t_impl_geodesic_solve g x p).opt = some (imA g x p) := by
  obtain ⟨k', hl⟩ := loopI g (ang g.u g.v x) (nN g.u g.v x (ang g.u g.v x)) (mM g.u g.v (ang g.u g.v x)) (F_spec_EccI g.e) ⟨0, rfl⟩ ⟨0, rfl⟩ ⟨0, rfl⟩ ⟨0, rfl⟩ hp
  have hg : G_impl_geodesic_solve_7 _ = true := show (Lf b_impl_geodesic_solve_7 70 _).opt.isSome = true by rw [hl]; rfl
  have hv : L_impl_geodesic_solve_7 _ = _ := Tr.opt_get hl
  simp only [t_impl_geodesic_solve, Tr.opt, ang_impl, sinI_eq, cosI_eq, divI_F, mulI_F, sub_eq, ecc_eq, integer_eq, imA]
  simp only [one1, int0, nN, mM] at hg hv
  rw [hg]
  simp only [ctr]
  rw [hv]
  simp only [over_F, mulI_F, add_eq, quot_eq, both_eq, major_eq]
  rfl

/-! ### what is whole -/
theorem iterS_no {step : I64 → Two → Two} (hs : ∀ k a, No (step k a).w ∧ No (step k a).v) : ∀ (n : Nat) (k : I64) (a : Two), 1 ≤ n → No (iterS step n k a).w ∧ No (iterS step n k a).v
  | 0, k, a, h => by omega
  | 1, k, a, _ => hs k a
  | n + 2, k, a, _ => iterS_no hs (n + 1) _ _ (by omega)
theorem rS_no {s u m ecc : Iv} {p k : I64} (h : No m) : No (rS s u m ecc p k) := by
  unfold rS
  exact sqrt_no (sub_no (.inr (mul_no (.inr (sub_no (.inr (min_no (sqr_no (add_no (.inr (mul_no (.inl h)))))))))))) 
theorem sums_no {s u m ecc : Iv} {p : I64} (hp : 1 ≤ p.val) (h : No m) : No (sumsS s u m ecc p).w ∧ No (sumsS s u m ecc p).v := by
  unfold sumsS
  exact iterS_no (fun k a => ⟨add_no (.inr (rS_no h)), add_no (.inr (div_no (add_no (.inr (rS_no h)))))⟩) _ _ _ (by omega)
theorem nextC_no {l ecc s n : Iv} {p : I64} {S : Two} (h : No n ∨ No S.v) : nextC l ecc s n p S = F_spec_l04Whole := by
  unfold nextC
  refine (norm_add _ _).whole (add_no (.inr (mul_no ?_)))
  rcases h with h | h
  · exact .inl h
  · exact .inr (add_no (.inl (mul_no (.inr h))))
theorem lenC_no {major ecc s : Iv} {p : I64} {S : Two} (h : No S.w) : lenC major ecc s p S = F_spec_l04Whole := by
  unfold lenC
  exact (norm_mul _ _).whole (mul_no (.inr (add_no (.inl (mul_no (.inr h))))))
/-- The next omega is the same. -/
theorem next_same (e : Ell) (p q : Point) (x : Iv) {n : I64} (hn : 1 ≤ n.val ∧ n.val ≤ 64) : (imA (mkG e p q) x n).a = (spA (mkS e p q) x n).a := by
  unfold spA imA
  cases h1 : F_spec_l04Ok (nN (mkS e p q).u (mkS e p q).v x (ang (mkS e p q).u (mkS e p q).v x))
  · simp only [Bool.not_false, ctr]
    exact nextC_no (.inl h1)
  cases h2 : F_spec_l04Ok (mM (mkS e p q).u (mkS e p q).v (ang (mkS e p q).u (mkS e p q).v x))
  · simp only [Bool.not_false, Bool.not_true, ctr, cfl]
    exact nextC_no (.inr (sums_no hn.1 h2).2)
  simp only [Bool.not_true, cfl]
  rfl
/-- The length is the same but where n alone is whole. -/
theorem len_same (e : Ell) (p q : Point) (x : Iv) {n : I64} (hn : 1 ≤ n.val ∧ n.val ≤ 64) (h : F_spec_l04Ok (nN (mkS e p q).u (mkS e p q).v x (ang (mkS e p q).u (mkS e p q).v x)) = true ∨ No (mM (mkS e p q).u (mkS e p q).v (ang (mkS e p q).u (mkS e p q).v x))) :
    (imA (mkG e p q) x n).b = (spA (mkS e p q) x n).b := by
  unfold spA imA
  cases h2 : F_spec_l04Ok (mM (mkS e p q).u (mkS e p q).v (ang (mkS e p q).u (mkS e p q).v x))
  · have := lenC_no (major := F_spec_MajorI e) (ecc := F_spec_EccI e) (s := ang (mkS e p q).u (mkS e p q).v x) (p := n) (S := sumsS (ang (mkS e p q).u (mkS e p q).v x) (mkS e p q).u (mM (mkS e p q).u (mkS e p q).v (ang (mkS e p q).u (mkS e p q).v x)) (F_spec_EccI e) n) (sums_no hn.1 h2).1
    cases h1 : F_spec_l04Ok (nN (mkS e p q).u (mkS e p q).v x (ang (mkS e p q).u (mkS e p q).v x))
    · simp only [Bool.not_false, ctr]; exact this
    · simp only [Bool.not_false, Bool.not_true, ctr, cfl]; exact this
  · rcases h with h | h
    · rw [h]
      simp only [Bool.not_true, cfl]
      rfl
    · unfold No at h; rw [h] at h2; cases h2
theorem sp_F (h : GeoS) (x : Iv) {p : I64} (hp : 1 ≤ p.val ∧ p.val ≤ 64) : F_spec_l16S_next h x p = spA h x p := Tr.opt_get (sp_ok h x hp)
theorem sp_G (h : GeoS) (x : Iv) {p : I64} (hp : 1 ≤ p.val ∧ p.val ≤ 64) : G_spec_l16S_next h x p = true := by unfold G_spec_l16S_next; rw [sp_ok h x hp]; rfl
theorem im_F (g : Geo) (x : Iv) {p : I64} (hp : 1 ≤ p.val ∧ p.val ≤ 64) : F_impl_geodesic_solve g x p = imA g x p := Tr.opt_get (im_ok g x hp)
theorem im_G (g : Geo) (x : Iv) {p : I64} (hp : 1 ≤ p.val ∧ p.val ≤ 64) : G_impl_geodesic_solve g x p = true := by unfold G_impl_geodesic_solve; rw [im_ok g x hp]; rfl
end Go.Proofs.YtecfhpgpojgjkaaGreat.Ev
