/-
  Plain laws: latitudes of a kind undone: both laws.
-/
import Derived.Test.YtecfhpgpojgjkaaGreatP26
import Derived.Test.YtecfhpgpojgjkaaGreatWK
namespace Go.Proofs.YtecfhpgpojgjkaaGreat.Ev
open Go
set_option linter.unusedSimpArgs false
set_option linter.unusedVariables false

theorem invLat_ok (k : I64) (e : Ell) (x : Iv) : (t_impl_InverseLatitude k e x).opt = some (F_spec_InverseLatitude k e x) := by
  have h1 := lq_val
  have h2 := lnq_val
  have hq : F_impl_quarter = lq := quarter_F
  have hn : Rng.w .i64 (0 - lq.val) = lnq := rfl
  simp only [t_impl_InverseLatitude, Tr.opt, F_spec_InverseLatitude, t_spec_InverseLatitude, Tr.get, ell_eq, lkind_eq, isw_eq, isBelow_eq, isAbove_eq, latAt_eq, hq, hn, inv_F_spec, invA]
  cases he : F_spec_l12Ok e
  · rfl
  cases hk : F_spec_l13Kind k
  · rfl
  simp only [Bool.not_true, cfl, latAt_in hk he lq (by omega) (by omega), latAt_in hk he lnq (by omega) (by omega), inv_G_impl hk he, inv_F_impl hk he, ctr]
  cases F_spec_l04Ok x
  · rfl
  cases bel (F_spec_l13At k e lq) x.lo
  · cases abv (F_spec_l13At k e lnq) x.hi <;> rfl
  · rfl
theorem invLat_F (k : I64) (e : Ell) (x : Iv) : F_impl_InverseLatitude k e x = F_spec_InverseLatitude k e x := Tr.opt_get (invLat_ok k e x)
theorem invLat_G (k : I64) (e : Ell) (x : Iv) : G_impl_InverseLatitude k e x = true := by unfold G_impl_InverseLatitude; rw [invLat_ok]; rfl
theorem conv_ok (a b : I64) (e : Ell) (x : Iv) : (t_impl_ConvertLatitude a b e x).opt = some (F_spec_ConvertLatitude a b e x) := by
  simp only [t_impl_ConvertLatitude, Tr.opt, F_spec_ConvertLatitude, t_spec_ConvertLatitude, Tr.get, ell_eq, lkind_eq, isw_eq, invLat_G, invLat_F, latI_eq, ctr]
  cases he : F_spec_l12Ok e
  · rfl
  cases hk : F_spec_l13Kind a
  · rfl
  cases hk : F_spec_l13Kind b
  · rfl
  have hs : F_spec_InverseLatitude a e x = F_spec_l13Inverse a e x := by
    simp only [F_spec_InverseLatitude, t_spec_InverseLatitude, Tr.get, he, *, Bool.not_true, cfl]
  simp only [Bool.not_true, cfl, hs]
  cases ((F_spec_l13Inverse a e x).b.val != 0)
  · simp only [cfl]
    cases F_spec_l04Ok (F_spec_LatitudeI b e (F_spec_l13Inverse a e x).a) <;> rfl
  · rfl
theorem conv_F (a b : I64) (e : Ell) (x : Iv) : F_impl_ConvertLatitude a b e x = F_spec_ConvertLatitude a b e x := Tr.opt_get (conv_ok a b e x)
theorem conv_G (a b : I64) (e : Ell) (x : Iv) : G_impl_ConvertLatitude a b e x = true := by unfold G_impl_ConvertLatitude; rw [conv_ok]; rfl
theorem law_FnExactInverseLatitude (a0 : I64) (a1 : Ell) (a2 : Iv) : Tb7.run B7 [enc a0, enc a1, enc a2] Bool = some true := by
  rw [r_laws_FnExactInverseLatitude]
  simp [t_laws_FnExactInverseLatitude, Tr.opt, invLat_F, invLat_G, eqI_refl]
theorem law_FnExactConvertLatitude (a0 a1 : I64) (a2 : Ell) (a3 : Iv) : Tb8.run B8 [enc a0, enc a1, enc a2, enc a3] Bool = some true := by
  rw [r_laws_FnExactConvertLatitude]
  simp [t_laws_FnExactConvertLatitude, Tr.opt, conv_F, conv_G, eqI_refl]
end Go.Proofs.YtecfhpgpojgjkaaGreat.Ev
