import Derived.Test.YtecfhpgpojgjkaaGreatWH
import Derived.Test.YtecfhpgpojgjkaaGreatP26
namespace Go.Proofs.YtecfhpgpojgjkaaGreat.Ev
open Go Go.RowKit
set_option maxRecDepth 100000
set_option linter.unusedVariables false
section
noncomputable def ET_spec_l13Inverse : Ent Tryz.prog := .of3 Tb126 B126 (fun _ _ _ => true) F_spec_l13Inverse fun a0 a1 a2 _ => (r_spec_l13Inverse a0 a1 a2).trans (tt_inv_spec a0 a1 a2)
noncomputable def B33 : Bod Tryz.prog := ⟨33, Tryz.f33, Tryz.f33.body.getD .skip, Tryz.func33, by kernel_rfl, by kernel_rfl, Loops.no _ _⟩
noncomputable def Tb33 : Tb Tryz.prog := { T := [Y2, Y27, Y49], mix := mix, Es := [E_spec_l13Kind, E_spec_l12Ok, ET_spec_l13Inverse], Bs := [], d := 1 }
noncomputable def t_spec_InverseLatitude (a0 : I64) (a1 : Ell) (a2 : Iv) : Tr (T2 Iv I64) :=
  .br (!(F_spec_l12Ok a1)) (.leaf ⟨⟨⟨0, rfl⟩, ⟨0, rfl⟩⟩, ⟨1, rfl⟩⟩) (.br (!(F_spec_l13Kind a0)) (.leaf ⟨⟨⟨0, rfl⟩, ⟨0, rfl⟩⟩, ⟨1, rfl⟩⟩) (let c3 := F_spec_l13Inverse a0 a1 a2; .leaf ⟨c3.a, c3.b⟩))
theorem r_spec_InverseLatitude (a0 : I64) (a1 : Ell) (a2 : Iv) : Tb33.run B33 [enc a0, enc a1, enc a2] (T2 Iv I64) = (t_spec_InverseLatitude a0 a1 a2).opt := by kernel_rfl
noncomputable def F_spec_InverseLatitude : I64 → Ell → Iv → T2 Iv I64 := fun a0 a1 a2 => (t_spec_InverseLatitude a0 a1 a2).get
theorem u_spec_InverseLatitude (a0 : I64) (a1 : Ell) (a2 : Iv) : (t_spec_InverseLatitude a0 a1 a2).opt = some (F_spec_InverseLatitude a0 a1 a2) := Tr.tot_get (by kernel_rfl)
noncomputable def E_spec_InverseLatitude : Ent Tryz.prog := .of3 Tb33 B33 (fun _ _ _ => true) F_spec_InverseLatitude fun a0 a1 a2 _ => (r_spec_InverseLatitude a0 a1 a2).trans (u_spec_InverseLatitude a0 a1 a2)
noncomputable def B34 : Bod Tryz.prog := ⟨34, Tryz.f34, Tryz.f34.body.getD .skip, Tryz.func34, by kernel_rfl, by kernel_rfl, Loops.no _ _⟩
noncomputable def Tb34 : Tb Tryz.prog := { T := [Y2, Y27, Y49], mix := mix, Es := [E_impl_LatitudeAt, E_impl_isLatitude, E_impl_ValidEllipsoid, E_impl_quarter, E_impl_IsWhole, E_impl_isBelow, E_impl_isAbove, E_impl_inverseLatitude], Bs := [], d := 1 }
noncomputable def t_impl_InverseLatitude (a0 : I64) (a1 : Ell) (a2 : Iv) : Tr (T2 Iv I64) :=
  .br (!(F_impl_ValidEllipsoid a1)) (.leaf ⟨⟨⟨0, rfl⟩, ⟨0, rfl⟩⟩, ⟨1, rfl⟩⟩) (.br (!(F_impl_isLatitude a0)) (.leaf ⟨⟨⟨0, rfl⟩, ⟨0, rfl⟩⟩, ⟨1, rfl⟩⟩) (.br (F_impl_IsWhole a2) (.leaf ⟨⟨⟨0, rfl⟩, ⟨0, rfl⟩⟩, ⟨9, rfl⟩⟩) (.br (F_impl_isBelow (F_impl_LatitudeAt a0 a1 F_impl_quarter) a2.lo) (.leaf ⟨⟨⟨0, rfl⟩, ⟨0, rfl⟩⟩, ⟨8, rfl⟩⟩) (.br (F_impl_isAbove (F_impl_LatitudeAt a0 a1 (Rng.w .i64 (0 - F_impl_quarter.val))) a2.hi) (.leaf ⟨⟨⟨0, rfl⟩, ⟨0, rfl⟩⟩, ⟨8, rfl⟩⟩) (.br (G_impl_inverseLatitude a0 a1 a2) (.leaf ⟨(F_impl_inverseLatitude a0 a1 a2), ⟨0, rfl⟩⟩) (.bad))))))
theorem r_impl_InverseLatitude (a0 : I64) (a1 : Ell) (a2 : Iv) : Tb34.run B34 [enc a0, enc a1, enc a2] (T2 Iv I64) = (t_impl_InverseLatitude a0 a1 a2).opt := by kernel_rfl
noncomputable def F_impl_InverseLatitude : I64 → Ell → Iv → T2 Iv I64 := fun a0 a1 a2 => (t_impl_InverseLatitude a0 a1 a2).get
noncomputable def G_impl_InverseLatitude : I64 → Ell → Iv → Bool := fun a0 a1 a2 => (t_impl_InverseLatitude a0 a1 a2).opt.isSome
noncomputable def E_impl_InverseLatitude : Ent Tryz.prog := .of3 Tb34 B34 G_impl_InverseLatitude F_impl_InverseLatitude fun a0 a1 a2 h => (r_impl_InverseLatitude a0 a1 a2).trans (Tr.get_some h)
noncomputable def B7 : Bod Tryz.prog := ⟨7, Tryz.f7, Tryz.f7.body.getD .skip, Tryz.func7, by kernel_rfl, by kernel_rfl, Loops.no _ _⟩
noncomputable def Tb7 : Tb Tryz.prog := { T := [Y2, Y27, Y38, Y47], mix := mix, Es := [E_laws_eqInterval, E_laws_toEllipsoid, E_laws_toInterval, E_spec_InverseLatitude, E_impl_InverseLatitude], Bs := [], d := 1 }
noncomputable def t_laws_FnExactInverseLatitude (a0 : I64) (a1 : Ell) (a2 : Iv) : Tr (Bool) :=
  let c3 := F_spec_InverseLatitude a0 (F_laws_toEllipsoid a1) (F_laws_toInterval a2); let c4 := F_laws_toEllipsoid a1; let c5 := F_laws_toInterval a2; .br (G_impl_InverseLatitude a0 c4 c5) (let c6 := F_impl_InverseLatitude a0 c4 c5; .br (!(F_laws_eqInterval c6.a c3.a)) (.leaf false) (.br (c6.b.val != c3.b.val) (.leaf false) (.leaf true))) (.bad)
theorem r_laws_FnExactInverseLatitude (a0 : I64) (a1 : Ell) (a2 : Iv) : Tb7.run B7 [enc a0, enc a1, enc a2] (Bool) = (t_laws_FnExactInverseLatitude a0 a1 a2).opt := by kernel_rfl
noncomputable def F_laws_FnExactInverseLatitude : I64 → Ell → Iv → Bool := fun a0 a1 a2 => (t_laws_FnExactInverseLatitude a0 a1 a2).get
noncomputable def G_laws_FnExactInverseLatitude : I64 → Ell → Iv → Bool := fun a0 a1 a2 => (t_laws_FnExactInverseLatitude a0 a1 a2).opt.isSome
noncomputable def E_laws_FnExactInverseLatitude : Ent Tryz.prog := .of3 Tb7 B7 G_laws_FnExactInverseLatitude F_laws_FnExactInverseLatitude fun a0 a1 a2 h => (r_laws_FnExactInverseLatitude a0 a1 a2).trans (Tr.get_some h)
noncomputable def B35 : Bod Tryz.prog := ⟨35, Tryz.f35, Tryz.f35.body.getD .skip, Tryz.func35, by kernel_rfl, by kernel_rfl, Loops.no _ _⟩
noncomputable def Tb35 : Tb Tryz.prog := { T := [Y2, Y27, Y49], mix := mix, Es := [E_spec_LatitudeI, E_spec_l04Ok, E_spec_l13Kind, E_spec_l12Ok, ET_spec_l13Inverse], Bs := [], d := 1 }
noncomputable def t_spec_ConvertLatitude (a0 : I64) (a1 : I64) (a2 : Ell) (a3 : Iv) : Tr (T2 Iv I64) :=
  .br (!(F_spec_l12Ok a2)) (.leaf ⟨⟨⟨0, rfl⟩, ⟨0, rfl⟩⟩, ⟨1, rfl⟩⟩) (.br (!(F_spec_l13Kind a0)) (.leaf ⟨⟨⟨0, rfl⟩, ⟨0, rfl⟩⟩, ⟨1, rfl⟩⟩) (.br (!(F_spec_l13Kind a1)) (.leaf ⟨⟨⟨0, rfl⟩, ⟨0, rfl⟩⟩, ⟨1, rfl⟩⟩) (let c4 := F_spec_l13Inverse a0 a2 a3; .br (c4.b.val != 0) (.leaf ⟨⟨⟨0, rfl⟩, ⟨0, rfl⟩⟩, c4.b⟩) (let c5 := F_spec_LatitudeI a1 a2 c4.a; .br (!(F_spec_l04Ok c5)) (.leaf ⟨⟨⟨0, rfl⟩, ⟨0, rfl⟩⟩, ⟨9, rfl⟩⟩) (.leaf ⟨c5, ⟨0, rfl⟩⟩)))))
theorem r_spec_ConvertLatitude (a0 : I64) (a1 : I64) (a2 : Ell) (a3 : Iv) : Tb35.run B35 [enc a0, enc a1, enc a2, enc a3] (T2 Iv I64) = (t_spec_ConvertLatitude a0 a1 a2 a3).opt := by kernel_rfl
noncomputable def F_spec_ConvertLatitude : I64 → I64 → Ell → Iv → T2 Iv I64 := fun a0 a1 a2 a3 => (t_spec_ConvertLatitude a0 a1 a2 a3).get
theorem u_spec_ConvertLatitude (a0 : I64) (a1 : I64) (a2 : Ell) (a3 : Iv) : (t_spec_ConvertLatitude a0 a1 a2 a3).opt = some (F_spec_ConvertLatitude a0 a1 a2 a3) := Tr.tot_get (by kernel_rfl)
noncomputable def E_spec_ConvertLatitude : Ent Tryz.prog := .of4 Tb35 B35 (fun _ _ _ _ => true) F_spec_ConvertLatitude fun a0 a1 a2 a3 _ => (r_spec_ConvertLatitude a0 a1 a2 a3).trans (u_spec_ConvertLatitude a0 a1 a2 a3)
noncomputable def B36 : Bod Tryz.prog := ⟨36, Tryz.f36, Tryz.f36.body.getD .skip, Tryz.func36, by kernel_rfl, by kernel_rfl, Loops.no _ _⟩
noncomputable def Tb36 : Tb Tryz.prog := { T := [Y2, Y27, Y49], mix := mix, Es := [E_impl_LatitudeI, E_impl_InverseLatitude, E_impl_isLatitude, E_impl_ValidEllipsoid, E_impl_IsWhole], Bs := [], d := 1 }
noncomputable def t_impl_ConvertLatitude (a0 : I64) (a1 : I64) (a2 : Ell) (a3 : Iv) : Tr (T2 Iv I64) :=
  .br (!(F_impl_ValidEllipsoid a2)) (.leaf ⟨⟨⟨0, rfl⟩, ⟨0, rfl⟩⟩, ⟨1, rfl⟩⟩) (.br (!(F_impl_isLatitude a0)) (.leaf ⟨⟨⟨0, rfl⟩, ⟨0, rfl⟩⟩, ⟨1, rfl⟩⟩) (.br (!(F_impl_isLatitude a1)) (.leaf ⟨⟨⟨0, rfl⟩, ⟨0, rfl⟩⟩, ⟨1, rfl⟩⟩) (.br (G_impl_InverseLatitude a0 a2 a3) (let c4 := F_impl_InverseLatitude a0 a2 a3; .br (c4.b.val != 0) (.leaf ⟨⟨⟨0, rfl⟩, ⟨0, rfl⟩⟩, c4.b⟩) (let c5 := F_impl_LatitudeI a1 a2 c4.a; .br (F_impl_IsWhole c5) (.leaf ⟨⟨⟨0, rfl⟩, ⟨0, rfl⟩⟩, ⟨9, rfl⟩⟩) (.leaf ⟨c5, ⟨0, rfl⟩⟩))) (.bad))))
theorem r_impl_ConvertLatitude (a0 : I64) (a1 : I64) (a2 : Ell) (a3 : Iv) : Tb36.run B36 [enc a0, enc a1, enc a2, enc a3] (T2 Iv I64) = (t_impl_ConvertLatitude a0 a1 a2 a3).opt := by kernel_rfl
noncomputable def F_impl_ConvertLatitude : I64 → I64 → Ell → Iv → T2 Iv I64 := fun a0 a1 a2 a3 => (t_impl_ConvertLatitude a0 a1 a2 a3).get
noncomputable def G_impl_ConvertLatitude : I64 → I64 → Ell → Iv → Bool := fun a0 a1 a2 a3 => (t_impl_ConvertLatitude a0 a1 a2 a3).opt.isSome
noncomputable def E_impl_ConvertLatitude : Ent Tryz.prog := .of4 Tb36 B36 G_impl_ConvertLatitude F_impl_ConvertLatitude fun a0 a1 a2 a3 h => (r_impl_ConvertLatitude a0 a1 a2 a3).trans (Tr.get_some h)
noncomputable def B8 : Bod Tryz.prog := ⟨8, Tryz.f8, Tryz.f8.body.getD .skip, Tryz.func8, by kernel_rfl, by kernel_rfl, Loops.no _ _⟩
noncomputable def Tb8 : Tb Tryz.prog := { T := [Y2, Y27, Y38, Y47], mix := mix, Es := [E_laws_eqInterval, E_laws_toEllipsoid, E_laws_toInterval, E_spec_ConvertLatitude, E_impl_ConvertLatitude], Bs := [], d := 1 }
noncomputable def t_laws_FnExactConvertLatitude (a0 : I64) (a1 : I64) (a2 : Ell) (a3 : Iv) : Tr (Bool) :=
  let c3 := F_spec_ConvertLatitude a0 a1 (F_laws_toEllipsoid a2) (F_laws_toInterval a3); let c4 := F_laws_toEllipsoid a2; let c5 := F_laws_toInterval a3; .br (G_impl_ConvertLatitude a0 a1 c4 c5) (let c6 := F_impl_ConvertLatitude a0 a1 c4 c5; .br (!(F_laws_eqInterval c6.a c3.a)) (.leaf false) (.br (c6.b.val != c3.b.val) (.leaf false) (.leaf true))) (.bad)
theorem r_laws_FnExactConvertLatitude (a0 : I64) (a1 : I64) (a2 : Ell) (a3 : Iv) : Tb8.run B8 [enc a0, enc a1, enc a2, enc a3] (Bool) = (t_laws_FnExactConvertLatitude a0 a1 a2 a3).opt := by kernel_rfl
noncomputable def F_laws_FnExactConvertLatitude : I64 → I64 → Ell → Iv → Bool := fun a0 a1 a2 a3 => (t_laws_FnExactConvertLatitude a0 a1 a2 a3).get
noncomputable def G_laws_FnExactConvertLatitude : I64 → I64 → Ell → Iv → Bool := fun a0 a1 a2 a3 => (t_laws_FnExactConvertLatitude a0 a1 a2 a3).opt.isSome
noncomputable def E_laws_FnExactConvertLatitude : Ent Tryz.prog := .of4 Tb8 B8 G_laws_FnExactConvertLatitude F_laws_FnExactConvertLatitude fun a0 a1 a2 a3 h => (r_laws_FnExactConvertLatitude a0 a1 a2 a3).trans (Tr.get_some h)
end
end Go.Proofs.YtecfhpgpojgjkaaGreat.Ev
