/-
  Plain laws: geodesics: where the one quotient is bounded, the other one is, too; lengths.
-/
import Derived.Test.YtecfhpgpojgjkaaGreatP37
import Derived.Test.YtecfhpgpojgjkaaGreatP33
namespace Go.Proofs.YtecfhpgpojgjkaaGreat.Ev
open Go
set_option linter.unusedSimpArgs false
set_option linter.unusedVariables false

set_option maxHeartbeats 2000000 in
/-- The sine of the angle on the sphere: it holds 0, or is well away from it. -/
theorem ang_sin (a : Iv) (hz : ¬ ((F_spec_SinI (F_spec_MulI (F_spec_Integer ⟨2, rfl⟩) (F_spec_AsinI (F_spec_SqrtI a)))).lo.val ≤ 0 ∧ 0 ≤ (F_spec_SinI (F_spec_MulI (F_spec_Integer ⟨2, rfl⟩) (F_spec_AsinI (F_spec_SqrtI a)))).hi.val)) :
    17 ≤ (F_spec_SinI (F_spec_MulI (F_spec_Integer ⟨2, rfl⟩) (F_spec_AsinI (F_spec_SqrtI a)))).lo.val := by
  have o := ring_box.1
  have e1 : F_spec_l06Ring.lo.val = -4294967296 := rfl
  have e2 : F_spec_l06Ring.hi.val = 4294967296 := rfl
  have hasin : ∀ q : Iv, F_spec_AsinI q = bif !(F_spec_MeetI q F_spec_l06Ring).b then F_spec_l04Whole else F_spec_HullI (F_spec_AsinAt (F_spec_MeetI q F_spec_l06Ring).a.lo) (F_spec_AsinAt (F_spec_MeetI q F_spec_l06Ring).a.hi) := fun q => by
    simp only [F_spec_AsinI, t_spec_AsinI, Tr.get, sWhole_eq]
  cases hq : F_spec_l04Ok (F_spec_SqrtI a)
  · exfalso
    have hm : F_spec_MeetI (F_spec_SqrtI a) F_spec_l06Ring = ⟨F_spec_l06Ring, true⟩ := by
      simp only [F_spec_MeetI, t_spec_MeetI, Tr.get, hq, o, Bool.not_false, Bool.not_true, ctr, cfl]
    rw [hasin, hm] at hz
    simp only [Bool.not_true, cfl] at hz
    have hw := w_asin_whole
    simp only [Bool.and_eq_true, decide_eq_true_eq] at hw
    exact hz hw
  have hse := sq_ends hq
  have hqb := (okiff _).1 hq
  generalize F_spec_SqrtI a = r at *
  have m1 := max_l r.lo F_spec_l06Ring.lo
  have m2 := min_l r.hi F_spec_l06Ring.hi
  rw [e1] at m1
  rw [e2] at m2
  by_cases hlt : (F_spec_l00Max r.lo F_spec_l06Ring.lo).val > (F_spec_l00Min r.hi F_spec_l06Ring.hi).val
  · exfalso
    have hm : (F_spec_MeetI r F_spec_l06Ring).b = false := by
      simp only [F_spec_MeetI, t_spec_MeetI, Tr.get, hq, o, hlt, decide_true, Bool.not_true, ctr, cfl]
    rw [hasin, hm] at hz
    simp only [Bool.not_false, ctr] at hz
    exact hz (sin_whole_has (mul_no (.inr whole_no)))
  have hm : F_spec_MeetI r F_spec_l06Ring = ⟨⟨F_spec_l00Max r.lo F_spec_l06Ring.lo, F_spec_l00Min r.hi F_spec_l06Ring.hi⟩, true⟩ := by
    simp only [F_spec_MeetI, t_spec_MeetI, Tr.get, hq, o, hlt, decide_false, Bool.not_true, cfl]
  rw [hasin, hm] at hz ⊢
  simp only [Bool.not_true, cfl] at hz ⊢
  have kA : Kd3 (F_spec_l00Max r.lo F_spec_l06Ring.lo) := kd3_of (by omega) (by omega)
  have kB : Kd3 (F_spec_l00Min r.hi F_spec_l06Ring.hi) := kd3_of (by omega) (by omega)
  have hle : (F_spec_l00Max r.lo F_spec_l06Ring.lo).val ≤ (F_spec_l00Min r.hi F_spec_l06Ring.hi).val := by omega
  generalize F_spec_l00Max r.lo F_spec_l06Ring.lo = ka at *
  generalize F_spec_l00Min r.hi F_spec_l06Ring.hi = kb at *
  obtain ⟨oa, ca⟩ := asin_kd kA
  obtain ⟨ob, cb⟩ := asin_kd kB
  generalize F_spec_AsinAt ka = A at *
  generalize F_spec_AsinAt kb = B at *
  have bA := (okiff _).1 oa
  have bB := (okiff _).1 ob
  have hv := hull_vals oa ob
  generalize F_spec_HullI A B = H at *
  rw [dbl2 hv.1 (by omega)] at hz ⊢
  have w1 : (Rng.w .i64 (2 * H.lo.val)).val = 2 * H.lo.val := wi (by omega) (by omega)
  have w2 : (Rng.w .i64 (2 * H.hi.val)).val = 2 * H.hi.val := wi (by omega) (by omega)
  have hf := fits_box (s := ⟨.w .i64 (2 * H.lo.val), .w .i64 (2 * H.hi.val)⟩) ((okiff _).2 (by simp only [w1, w2]; omega)) (by simp only [w1, w2]; omega)
  obtain ⟨s1, s2, s3, s4, s5⟩ := sin_ends hf
  simp only at s1 s2 s3 s4 s5
  have t16 := (box_of w_m16).2
  have p16 := (box_of w_p16).2
  have ttop := of_decide_eq_true w_top
  have tlow := (box_of w_low).2
  have oks : ∀ n t, (F_spec_l06At n t).lo.val ≤ (F_spec_l06At n t).hi.val := fun n t => ((okiff _).1 (at_ring n t).1).2.1
  have ok1 := oks ⟨-16, rfl⟩ ⟨0, rfl⟩
  have ok2 := oks ⟨16, rfl⟩ ⟨0, rfl⟩
  have ok3' := oks ⟨13493037706, rfl⟩ ⟨0, rfl⟩
  have ok4 := oks ⟨13493037664, rfl⟩ ⟨0, rfl⟩
  rcases ca with ⟨ca, ca1, ca2⟩ | ⟨ca, ca1, ca2⟩ | ⟨ca, ca1, ca2⟩ <;> rcases cb with ⟨cb, cb1, cb2⟩ | ⟨cb, cb1, cb2⟩ | ⟨cb, cb1, cb2⟩
  · -- 0, 0
    exfalso
    have f1 : Rng.w .i64 (2 * H.lo.val) = ⟨-16, rfl⟩ := Rng.ext (by rw [w1]; simp only; omega)
    have f2 : Rng.w .i64 (2 * H.hi.val) = ⟨16, rfl⟩ := Rng.ext (by rw [w2]; simp only; omega)
    rw [show F_spec_l06At (.w .i64 (2 * H.lo.val)) ⟨0, rfl⟩ = F_spec_l06At ⟨-16, rfl⟩ ⟨0, rfl⟩ by rw [f1]] at s1
    rw [show F_spec_l06At (.w .i64 (2 * H.hi.val)) ⟨0, rfl⟩ = F_spec_l06At ⟨16, rfl⟩ ⟨0, rfl⟩ by rw [f2]] at s4
    omega
  · exfalso
    have f1 : Rng.w .i64 (2 * H.lo.val) = ⟨-16, rfl⟩ := Rng.ext (by rw [w1]; simp only; omega)
    have hb := sin_box (t := .w .i64 (2 * H.hi.val)) (by rw [w2]; omega)
    have hb2 := hb.2
    have ok5 := oks (.w .i64 (2 * H.hi.val)) ⟨0, rfl⟩
    rw [show F_spec_l06At (.w .i64 (2 * H.lo.val)) ⟨0, rfl⟩ = F_spec_l06At ⟨-16, rfl⟩ ⟨0, rfl⟩ by rw [f1]] at s1
    omega
  · exfalso
    have f1 : Rng.w .i64 (2 * H.lo.val) = ⟨-16, rfl⟩ := Rng.ext (by rw [w1]; simp only; omega)
    have f2 : Rng.w .i64 (2 * H.hi.val) = ⟨13493037706, rfl⟩ := Rng.ext (by rw [w2]; simp only; omega)
    rw [f1, f2] at hz
    have hw := w_all
    simp only [Bool.and_eq_true, decide_eq_true_eq] at hw
    exact hz hw
  · exfalso; omega
  · -- both between
    have hb1 := sin_box (t := .w .i64 (2 * H.lo.val)) (by rw [w1]; omega)
    have hb2 := sin_box (t := .w .i64 (2 * H.hi.val)) (by rw [w2]; omega)
    have c1 := hb1.2
    have c2 := hb2.2
    have ok5 := oks (.w .i64 (2 * H.hi.val)) ⟨0, rfl⟩
    omega
  · exfalso
    have f2 : Rng.w .i64 (2 * H.hi.val) = ⟨13493037706, rfl⟩ := Rng.ext (by rw [w2]; simp only; omega)
    have hb1 := sin_box (t := .w .i64 (2 * H.lo.val)) (by rw [w1]; omega)
    have c1 := hb1.2
    have ok5 := oks (.w .i64 (2 * H.lo.val)) ⟨0, rfl⟩
    rw [show F_spec_l06At (.w .i64 (2 * H.hi.val)) ⟨0, rfl⟩ = F_spec_l06At ⟨13493037706, rfl⟩ ⟨0, rfl⟩ by rw [f2]] at s2
    omega
  · exfalso; omega
  · exfalso; omega
  · exfalso
    have f1 : Rng.w .i64 (2 * H.lo.val) = ⟨13493037664, rfl⟩ := Rng.ext (by rw [w1]; simp only; omega)
    have f2 : Rng.w .i64 (2 * H.hi.val) = ⟨13493037706, rfl⟩ := Rng.ext (by rw [w2]; simp only; omega)
    rw [show F_spec_l06At (.w .i64 (2 * H.lo.val)) ⟨0, rfl⟩ = F_spec_l06At ⟨13493037664, rfl⟩ ⟨0, rfl⟩ by rw [f1]] at s3
    rw [show F_spec_l06At (.w .i64 (2 * H.hi.val)) ⟨0, rfl⟩ = F_spec_l06At ⟨13493037706, rfl⟩ ⟨0, rfl⟩ by rw [f2]] at s2
    omega
theorem k_ring2 : inBx (-4294967296) 4294967296 (F_spec_MulI F_spec_l06Ring F_spec_l06Ring) = true := by kernel_rfl
theorem k_ring17 : F_spec_l04Ok (F_spec_DivI F_spec_l06Ring ⟨⟨17, rfl⟩, ⟨4294967296, rfl⟩⟩) = true := by kernel_rfl
theorem mul_ring {a b : Iv} (ha : Box (-4294967296) 4294967296 a) (hb : Box (-4294967296) 4294967296 b) : Box (-4294967296) 4294967296 (F_spec_MulI a b) :=
  (Sub.mul (Box.sub (b := F_spec_l06Ring) ha) (Box.sub (b := F_spec_l06Ring) hb)).box (box_of k_ring2)
theorem n_ok (u v x : Iv) (h : F_spec_l04Ok (mM u v (ang u v x)) = true) : F_spec_l04Ok (nN u v x (ang u v x)) = true := by
  unfold mM at h
  have hp := divI_parts h
  have hs := ang_sin _ hp.2.2
  have hy := over_ring (ang u v x) ⟨0, rfl⟩
  have hye : F_spec_SinI (ang u v x) = F_spec_l06Over (ang u v x) ⟨0, rfl⟩ := by simp only [F_spec_SinI, t_spec_SinI, Tr.get]
  have hbox : Box 17 4294967296 (F_spec_SinI (ang u v x)) := ⟨hp.2.1, hs, by rw [hye]; exact hy.2.2⟩
  have r1 : Box (-4294967296) 4294967296 (F_spec_CosI u) := by simp only [F_spec_CosI, t_spec_CosI, Tr.get]; exact over_ring _ _
  have r2 : Box (-4294967296) 4294967296 (F_spec_CosI v) := by simp only [F_spec_CosI, t_spec_CosI, Tr.get]; exact over_ring _ _
  have r3 : Box (-4294967296) 4294967296 (F_spec_SinI x) := by simp only [F_spec_SinI, t_spec_SinI, Tr.get]; exact over_ring _ _
  unfold nN
  exact (Sub.div (Box.sub (b := F_spec_l06Ring) (mul_ring (mul_ring r1 r2) r3)) (Box.sub (b := ⟨⟨17, rfl⟩, ⟨4294967296, rfl⟩⟩) hbox) (by decide) k_ring17).1

/-! ### the length -/
theorem len_all (e : Ell) (p q : Point) (x : Iv) {n : I64} (hn : 1 ≤ n.val ∧ n.val ≤ 64) : (imA (mkG e p q) x n).b = (spA (mkS e p q) x n).b := by
  refine len_same e p q x hn ?_
  cases h : F_spec_l04Ok (mM (mkS e p q).u (mkS e p q).v (ang (mkS e p q).u (mkS e p q).v x))
  · exact .inr h
  · exact .inl (n_ok _ _ _ h)
noncomputable def lenA (e : Ell) (p q : Point) (n : I64) : Iv :=
  bif !(F_spec_l16Short (omA e p q n)) then F_spec_l16S_bounds (mkS e p q) else bif !(F_spec_l04Ok (spA (mkS e p q) (omA e p q n) n).b) then F_spec_l16S_bounds (mkS e p q) else bif !((F_spec_MeetI (F_spec_l16S_bounds (mkS e p q)) (spA (mkS e p q) (omA e p q n) n).b).b) then F_spec_l16S_bounds (mkS e p q) else (F_spec_MeetI (F_spec_l16S_bounds (mkS e p q)) (spA (mkS e p q) (omA e p q n) n).b).a
theorem len_spec (e : Ell) (p q : Point) {n : I64} (hn : 1 ≤ n.val ∧ n.val ≤ 64) : (t_spec_l16S_length (mkS e p q) n).opt = some (lenA e p q n) := by
  simp only [t_spec_l16S_length, Tr.opt, om_G_spec _ _ _ hn, om_F_spec _ _ _ hn, short_G, sp_G _ _ hn, sp_F _ _ hn, ctr, some_bif, lenA]
theorem len_impl (e : Ell) (p q : Point) {n : I64} (hn : 1 ≤ n.val ∧ n.val ≤ 64) : (t_impl_geodesic_size (mkG e p q) n).opt = some (lenA e p q n) := by
  simp only [t_impl_geodesic_size, Tr.opt, om_G_impl _ _ _ hn, om_F_impl _ _ _ hn, im_G _ _ hn, im_F _ _ hn, ctr, isw_eq, meet_eq, bounds_eq (mkG e p q) (mkS e p q) rfl rfl rfl rfl rfl, len_all e p q _ hn, short_eq (norm_omA e p q n), some_bif, lenA]
theorem len_F_spec (e : Ell) (p q : Point) {n : I64} (hn : 1 ≤ n.val ∧ n.val ≤ 64) : F_spec_l16S_length (mkS e p q) n = lenA e p q n := Tr.opt_get (len_spec e p q hn)
theorem len_G_spec (e : Ell) (p q : Point) {n : I64} (hn : 1 ≤ n.val ∧ n.val ≤ 64) : G_spec_l16S_length (mkS e p q) n = true := by unfold G_spec_l16S_length; rw [len_spec e p q hn]; rfl
theorem len_F_impl (e : Ell) (p q : Point) {n : I64} (hn : 1 ≤ n.val ∧ n.val ≤ 64) : F_impl_geodesic_size (mkG e p q) n = lenA e p q n := Tr.opt_get (len_impl e p q hn)
theorem len_G_impl (e : Ell) (p q : Point) {n : I64} (hn : 1 ≤ n.val ∧ n.val ≤ 64) : G_impl_geodesic_size (mkG e p q) n = true := by unfold G_impl_geodesic_size; rw [len_impl e p q hn]; rfl
theorem length_ok (e : Ell) (p q : Point) (n : I64) : ∃ r, (t_impl_GeodesicLength e p q n).opt = some r ∧ (t_spec_GeodesicLength e p q n).opt = some r := by
  simp only [t_impl_GeodesicLength, t_spec_GeodesicLength, Tr.opt, ell_eq, areV_eq, ask_n, within_eq]
  cases he : F_spec_l12Ok e
  · exact ⟨_, rfl, rfl⟩
  cases hp : F_spec_l11Ok p
  · exact ⟨_, rfl, rfl⟩
  cases hq : F_spec_l11Ok q
  · exact ⟨_, rfl, rfl⟩
  cases hn : decide (1 ≤ n.val ∧ n.val ≤ 64)
  · exact ⟨_, rfl, rfl⟩
  have hn' : 1 ≤ n.val ∧ n.val ≤ 64 := by simpa using hn
  rw [geo_make hp hq, make16 hp hq, len_G_impl _ _ _ hn', len_G_spec _ _ _ hn', len_F_impl _ _ _ hn', len_F_spec _ _ _ hn', known_F]
  exact ⟨_, rfl, rfl⟩
theorem law_FnExactGeodesicLength (a0 : Ell) (a1 a2 : Point) (a3 : I64) : Tb16.run B16 [enc a0, enc a1, enc a2, enc a3] Bool = some true := by
  rw [r_laws_FnExactGeodesicLength]
  obtain ⟨r, h1, h2⟩ := length_ok (F_laws_toEllipsoid a0) (F_laws_toPoint a1) (F_laws_toPoint a2) a3
  have g1 : G_impl_GeodesicLength (F_laws_toEllipsoid a0) (F_laws_toPoint a1) (F_laws_toPoint a2) a3 = true := by unfold G_impl_GeodesicLength; rw [h1]; rfl
  have g2 : G_spec_GeodesicLength (F_laws_toEllipsoid a0) (F_laws_toPoint a1) (F_laws_toPoint a2) a3 = true := by unfold G_spec_GeodesicLength; rw [h2]; rfl
  have f1 : F_impl_GeodesicLength (F_laws_toEllipsoid a0) (F_laws_toPoint a1) (F_laws_toPoint a2) a3 = r := Tr.opt_get h1
  have f2 : F_spec_GeodesicLength (F_laws_toEllipsoid a0) (F_laws_toPoint a1) (F_laws_toPoint a2) a3 = r := Tr.opt_get h2
  simp [t_laws_FnExactGeodesicLength, Tr.opt, g1, g2, f1, f2, eqI_refl]
end Go.Proofs.YtecfhpgpojgjkaaGreat.Ev
