import Derived.Test.YtcfflflcbacapaaGreatW8
import Derived.Test.YtcfflflcbacapaaGreatP17
namespace Go.Proofs.YtcfflflcbacapaaGreat.Ev
open Go Go.RowKit
set_option maxRecDepth 100000
set_option linter.unusedVariables false
section
noncomputable def ET_spec_AtanhI : Ent Tryz.prog := .of1 Tb220 B220 (fun _ => true) F_spec_AtanhI fun a0 _ => (r_spec_AtanhI a0).trans (tt_atanh_spec a0)
noncomputable def ET_impl_AtanhI : Ent Tryz.prog := .two1 Tb140 B140 (fun _ => true) F_impl_AtanhI 0 [1, 2, 3] 1 [0, 2, 3] (by unfold twoShape; kernel_rfl) (by kernel_rfl) (by kernel_rfl) (by kernel_rfl) (fun a0 => by kernel_rfl) (fun a0 _ => (r0_impl_AtanhI a0).trans (tt_atanh_impl a0)) (fun a0 _ => (r1_impl_AtanhI a0).trans (tt_atanh_impl a0))
noncomputable def B132 : Bod Tryz.prog := ⟨132, Tryz.f132, Tryz.f132.body.getD .skip, Tryz.func132, by kernel_rfl, by kernel_rfl, Loops.no _ _⟩
noncomputable def Tb132 : Tb Tryz.prog := { T := [Y2, Y27, Y50], mix := mix, Es := [E_spec_MulI, E_spec_Integer, E_spec_DivI, E_spec_AddI, E_spec_SubI, ET_spec_SqrtI, E_spec_EccI, E_spec_SqrI, ET_spec_AtanhI], Bs := [], d := 1 }
noncomputable def t_spec_l13Q (a0 : Ell) (a1 : Iv) : Tr (Iv) :=
  .br (a0.num.val == 0) (.leaf (F_spec_MulI (F_spec_Integer ⟨2, rfl⟩) a1)) (let c3 := F_spec_EccI a0; let c4 := F_spec_SqrtI c3; .leaf (F_spec_MulI (F_spec_SubI (F_spec_Integer ⟨1, rfl⟩) c3) (F_spec_AddI (F_spec_DivI a1 (F_spec_SubI (F_spec_Integer ⟨1, rfl⟩) (F_spec_MulI c3 (F_spec_SqrI a1)))) (F_spec_DivI (F_spec_AtanhI (F_spec_MulI c4 a1)) c4))))
theorem r_spec_l13Q (a0 : Ell) (a1 : Iv) : Tb132.run B132 [enc a0, enc a1] (Iv) = (t_spec_l13Q a0 a1).opt := by kernel_rfl
noncomputable def F_spec_l13Q : Ell → Iv → Iv := fun a0 a1 => (t_spec_l13Q a0 a1).get
theorem u_spec_l13Q (a0 : Ell) (a1 : Iv) : (t_spec_l13Q a0 a1).opt = some (F_spec_l13Q a0 a1) := Tr.tot_get (by kernel_rfl)
noncomputable def E_spec_l13Q : Ent Tryz.prog := .of2 Tb132 B132 (fun _ _ => true) F_spec_l13Q fun a0 a1 _ => (r_spec_l13Q a0 a1).trans (u_spec_l13Q a0 a1)
noncomputable def B43 : Bod Tryz.prog := ⟨43, Tryz.f43, Tryz.f43.body.getD .skip, Tryz.func43, by kernel_rfl, by kernel_rfl, Loops.no _ _⟩
noncomputable def Tb43 : Tb Tryz.prog := { T := [Y2, Y27, Y50], mix := mix, Es := [E_spec_MulI, E_spec_Integer, E_spec_DivI, E_spec_SinI, E_spec_l12Ok, E_spec_l04Whole, E_spec_l13Q], Bs := [], d := 1 }
noncomputable def t_spec_ZoneArea (a0 : Ell) (a1 : Iv) (a2 : Iv) : Tr (Iv) :=
  .br (!(F_spec_l12Ok a0)) (.leaf F_spec_l04Whole) (.leaf (F_spec_DivI (F_spec_MulI a2 (F_spec_l13Q a0 (F_spec_SinI a1))) (F_spec_Integer ⟨2, rfl⟩)))
theorem r_spec_ZoneArea (a0 : Ell) (a1 : Iv) (a2 : Iv) : Tb43.run B43 [enc a0, enc a1, enc a2] (Iv) = (t_spec_ZoneArea a0 a1 a2).opt := by kernel_rfl
noncomputable def F_spec_ZoneArea : Ell → Iv → Iv → Iv := fun a0 a1 a2 => (t_spec_ZoneArea a0 a1 a2).get
theorem u_spec_ZoneArea (a0 : Ell) (a1 : Iv) (a2 : Iv) : (t_spec_ZoneArea a0 a1 a2).opt = some (F_spec_ZoneArea a0 a1 a2) := Tr.tot_get (by kernel_rfl)
noncomputable def E_spec_ZoneArea : Ent Tryz.prog := .of3 Tb43 B43 (fun _ _ _ => true) F_spec_ZoneArea fun a0 a1 a2 _ => (r_spec_ZoneArea a0 a1 a2).trans (u_spec_ZoneArea a0 a1 a2)
noncomputable def B134 : Bod Tryz.prog := ⟨134, Tryz.f134, Tryz.f134.body.getD .skip, Tryz.func134, by kernel_rfl, by kernel_rfl, Loops.no _ _⟩
noncomputable def Tb134 : Tb Tryz.prog := { T := [Y2, Y27, Y50], mix := mix, Es := [E_impl_times, E_impl_DivI, ET_impl_MulI, E_impl_EccI, E_impl_AddI, ET_impl_SqrtI, E_impl_weightOf, ET_impl_AtanhI, E_impl_oneLess], Bs := [], d := 1 }
noncomputable def t_impl_zone (a0 : Ell) (a1 : Iv) : Tr (Iv) :=
  .br (a0.num.val == 0) (.leaf (F_impl_times ⟨2, rfl⟩ a1)) (let c3 := F_impl_SqrtI (F_impl_EccI a0); .leaf (F_impl_MulI (F_impl_oneLess (F_impl_EccI a0)) (F_impl_AddI (F_impl_DivI a1 (F_impl_weightOf a0 a1)) (F_impl_DivI (F_impl_AtanhI (F_impl_MulI c3 a1)) c3))))
theorem r_impl_zone (a0 : Ell) (a1 : Iv) : Tb134.run B134 [enc a0, enc a1] (Iv) = (t_impl_zone a0 a1).opt := by kernel_rfl
noncomputable def F_impl_zone : Ell → Iv → Iv := fun a0 a1 => (t_impl_zone a0 a1).get
theorem u_impl_zone (a0 : Ell) (a1 : Iv) : (t_impl_zone a0 a1).opt = some (F_impl_zone a0 a1) := Tr.tot_get (by kernel_rfl)
noncomputable def E_impl_zone : Ent Tryz.prog := .of2 Tb134 B134 (fun _ _ => true) F_impl_zone fun a0 a1 _ => (r_impl_zone a0 a1).trans (u_impl_zone a0 a1)
noncomputable def B133 : Bod Tryz.prog := ⟨133, Tryz.f133, Tryz.f133.body.getD .skip, Tryz.func133, by kernel_rfl, by kernel_rfl, Loops.no _ _⟩
noncomputable def Tb133 : Tb Tryz.prog := { T := [Y2, Y27], mix := mix, Es := [E_impl_DivI, E_impl_Integer], Bs := [], d := 1 }
noncomputable def t_impl_over (a0 : Iv) (a1 : I64) : Tr (Iv) :=
  .leaf (F_impl_DivI a0 (F_impl_Integer a1))
theorem r_impl_over (a0 : Iv) (a1 : I64) : Tb133.run B133 [enc a0, enc a1] (Iv) = (t_impl_over a0 a1).opt := by kernel_rfl
noncomputable def F_impl_over : Iv → I64 → Iv := fun a0 a1 => (t_impl_over a0 a1).get
theorem u_impl_over (a0 : Iv) (a1 : I64) : (t_impl_over a0 a1).opt = some (F_impl_over a0 a1) := Tr.tot_get (by kernel_rfl)
noncomputable def E_impl_over : Ent Tryz.prog := .of2 Tb133 B133 (fun _ _ => true) F_impl_over fun a0 a1 _ => (r_impl_over a0 a1).trans (u_impl_over a0 a1)
noncomputable def B44 : Bod Tryz.prog := ⟨44, Tryz.f44, Tryz.f44.body.getD .skip, Tryz.func44, by kernel_rfl, by kernel_rfl, Loops.no _ _⟩
noncomputable def Tb44 : Tb Tryz.prog := { T := [Y2, Y27, Y50], mix := mix, Es := [E_impl_Whole, ET_impl_MulI, E_impl_ValidEllipsoid, E_impl_SinI, E_impl_over, E_impl_zone], Bs := [], d := 1 }
noncomputable def t_impl_ZoneArea (a0 : Ell) (a1 : Iv) (a2 : Iv) : Tr (Iv) :=
  .br (!(F_impl_ValidEllipsoid a0)) (.leaf F_impl_Whole) (.leaf (F_impl_over (F_impl_MulI a2 (F_impl_zone a0 (F_impl_SinI a1))) ⟨2, rfl⟩))
theorem r_impl_ZoneArea (a0 : Ell) (a1 : Iv) (a2 : Iv) : Tb44.run B44 [enc a0, enc a1, enc a2] (Iv) = (t_impl_ZoneArea a0 a1 a2).opt := by kernel_rfl
noncomputable def F_impl_ZoneArea : Ell → Iv → Iv → Iv := fun a0 a1 a2 => (t_impl_ZoneArea a0 a1 a2).get
theorem u_impl_ZoneArea (a0 : Ell) (a1 : Iv) (a2 : Iv) : (t_impl_ZoneArea a0 a1 a2).opt = some (F_impl_ZoneArea a0 a1 a2) := Tr.tot_get (by kernel_rfl)
noncomputable def E_impl_ZoneArea : Ent Tryz.prog := .of3 Tb44 B44 (fun _ _ _ => true) F_impl_ZoneArea fun a0 a1 a2 _ => (r_impl_ZoneArea a0 a1 a2).trans (u_impl_ZoneArea a0 a1 a2)
noncomputable def B13 : Bod Tryz.prog := ⟨13, Tryz.f13, Tryz.f13.body.getD .skip, Tryz.func13, by kernel_rfl, by kernel_rfl, Loops.no _ _⟩
noncomputable def Tb13 : Tb Tryz.prog := { T := [Y2, Y27, Y38, Y46], mix := mix, Es := [E_laws_toInterval, E_laws_eqInterval, E_laws_toEllipsoid, E_spec_ZoneArea, E_impl_ZoneArea], Bs := [], d := 1 }
noncomputable def t_laws_FnExactZoneArea (a0 : Ell) (a1 : Iv) (a2 : Iv) : Tr (Bool) :=
  .br (!(F_laws_eqInterval (F_impl_ZoneArea (F_laws_toEllipsoid a0) (F_laws_toInterval a1) (F_laws_toInterval a2)) (F_spec_ZoneArea (F_laws_toEllipsoid a0) (F_laws_toInterval a1) (F_laws_toInterval a2)))) (.leaf false) (.leaf true)
theorem r_laws_FnExactZoneArea (a0 : Ell) (a1 : Iv) (a2 : Iv) : Tb13.run B13 [enc a0, enc a1, enc a2] (Bool) = (t_laws_FnExactZoneArea a0 a1 a2).opt := by kernel_rfl
noncomputable def F_laws_FnExactZoneArea : Ell → Iv → Iv → Bool := fun a0 a1 a2 => (t_laws_FnExactZoneArea a0 a1 a2).get
theorem u_laws_FnExactZoneArea (a0 : Ell) (a1 : Iv) (a2 : Iv) : (t_laws_FnExactZoneArea a0 a1 a2).opt = some (F_laws_FnExactZoneArea a0 a1 a2) := Tr.tot_get (by kernel_rfl)
noncomputable def E_laws_FnExactZoneArea : Ent Tryz.prog := .of3 Tb13 B13 (fun _ _ _ => true) F_laws_FnExactZoneArea fun a0 a1 a2 _ => (r_laws_FnExactZoneArea a0 a1 a2).trans (u_laws_FnExactZoneArea a0 a1 a2)
noncomputable def B136 : Bod Tryz.prog := ⟨136, Tryz.f136, Tryz.f136.body.getD .skip, Tryz.func136, by kernel_rfl, by kernel_rfl, Loops.no _ _⟩
noncomputable def Tb136 : Tb Tryz.prog := { T := [Y2, Y27], mix := mix, Es := [E_spec_SinI, ET_spec_AtanhI], Bs := [], d := 1 }
noncomputable def t_spec_l15Stretched (a0 : Iv) : Tr (Iv) :=
  .leaf (F_spec_AtanhI (F_spec_SinI a0))
theorem r_spec_l15Stretched (a0 : Iv) : Tb136.run B136 [enc a0] (Iv) = (t_spec_l15Stretched a0).opt := by kernel_rfl
noncomputable def F_spec_l15Stretched : Iv → Iv := fun a0 => (t_spec_l15Stretched a0).get
theorem u_spec_l15Stretched (a0 : Iv) : (t_spec_l15Stretched a0).opt = some (F_spec_l15Stretched a0) := Tr.tot_get (by kernel_rfl)
noncomputable def E_spec_l15Stretched : Ent Tryz.prog := .of1 Tb136 B136 (fun _ => true) F_spec_l15Stretched fun a0 _ => (r_spec_l15Stretched a0).trans (u_spec_l15Stretched a0)
noncomputable def B45 : Bod Tryz.prog := ⟨45, Tryz.f45, Tryz.f45.body.getD .skip, Tryz.func45, by kernel_rfl, by kernel_rfl, Loops.no _ _⟩
noncomputable def Tb45 : Tb Tryz.prog := { T := [Y2, Y27, Y34], mix := mix, Es := [E_spec_l11Ok, E_spec_MulI, E_spec_CosI, ET_spec_RadiansOf, E_spec_DivI, E_spec_SubI, E_spec_IsWhole, E_spec_DirectionI, E_spec_l11Wrap, E_spec_l15Stretched, E_spec_AbsI], Bs := [], d := 1 }
noncomputable def t_spec_RhumbTo (a0 : Point) (a1 : Point) : Tr (T3 Iv Iv I64) :=
  .br (!(F_spec_l11Ok a0)) (.leaf ⟨⟨⟨0, rfl⟩, ⟨0, rfl⟩⟩, ⟨⟨0, rfl⟩, ⟨0, rfl⟩⟩, ⟨1, rfl⟩⟩) (.br (!(F_spec_l11Ok a1)) (.leaf ⟨⟨⟨0, rfl⟩, ⟨0, rfl⟩⟩, ⟨⟨0, rfl⟩, ⟨0, rfl⟩⟩, ⟨1, rfl⟩⟩) (let c3 := F_spec_RadiansOf a0.lat; let c4 := F_spec_RadiansOf a1.lat; let c7 := F_spec_RadiansOf (F_spec_l11Wrap (Rng.w .i64 (a1.lon.val - a0.lon.val))); let c11 := F_spec_DirectionI c7 (F_spec_SubI (F_spec_l15Stretched c4) (F_spec_l15Stretched c3)); .br (a0.lat.val == a1.lat.val) (let c13 := F_spec_DirectionI c7 ⟨⟨0, rfl⟩, ⟨0, rfl⟩⟩; .br (F_spec_IsWhole c13) (.leaf ⟨⟨⟨0, rfl⟩, ⟨0, rfl⟩⟩, ⟨⟨0, rfl⟩, ⟨0, rfl⟩⟩, ⟨9, rfl⟩⟩) (let c17 := F_spec_MulI (F_spec_AbsI c7) (F_spec_CosI c3); .br (a0.lat.val != a1.lat.val) (let c22 := F_spec_AbsI (F_spec_DivI (F_spec_SubI c4 c3) (F_spec_CosI c13)); .br (F_spec_IsWhole c22) (.leaf ⟨⟨⟨0, rfl⟩, ⟨0, rfl⟩⟩, ⟨⟨0, rfl⟩, ⟨0, rfl⟩⟩, ⟨9, rfl⟩⟩) (.leaf ⟨c13, c22, ⟨0, rfl⟩⟩)) (.br (F_spec_IsWhole c17) (.leaf ⟨⟨⟨0, rfl⟩, ⟨0, rfl⟩⟩, ⟨⟨0, rfl⟩, ⟨0, rfl⟩⟩, ⟨9, rfl⟩⟩) (.leaf ⟨c13, c17, ⟨0, rfl⟩⟩)))) (.br (F_spec_IsWhole c11) (.leaf ⟨⟨⟨0, rfl⟩, ⟨0, rfl⟩⟩, ⟨⟨0, rfl⟩, ⟨0, rfl⟩⟩, ⟨9, rfl⟩⟩) (let c28 := F_spec_MulI (F_spec_AbsI c7) (F_spec_CosI c3); .br (a0.lat.val != a1.lat.val) (let c33 := F_spec_AbsI (F_spec_DivI (F_spec_SubI c4 c3) (F_spec_CosI c11)); .br (F_spec_IsWhole c33) (.leaf ⟨⟨⟨0, rfl⟩, ⟨0, rfl⟩⟩, ⟨⟨0, rfl⟩, ⟨0, rfl⟩⟩, ⟨9, rfl⟩⟩) (.leaf ⟨c11, c33, ⟨0, rfl⟩⟩)) (.br (F_spec_IsWhole c28) (.leaf ⟨⟨⟨0, rfl⟩, ⟨0, rfl⟩⟩, ⟨⟨0, rfl⟩, ⟨0, rfl⟩⟩, ⟨9, rfl⟩⟩) (.leaf ⟨c11, c28, ⟨0, rfl⟩⟩))))))
theorem r_spec_RhumbTo (a0 : Point) (a1 : Point) : Tb45.run B45 [enc a0, enc a1] (T3 Iv Iv I64) = (t_spec_RhumbTo a0 a1).opt := by kernel_rfl
noncomputable def F_spec_RhumbTo : Point → Point → T3 Iv Iv I64 := fun a0 a1 => (t_spec_RhumbTo a0 a1).get
theorem u_spec_RhumbTo (a0 : Point) (a1 : Point) : (t_spec_RhumbTo a0 a1).opt = some (F_spec_RhumbTo a0 a1) := Tr.tot_get (by kernel_rfl)
noncomputable def E_spec_RhumbTo : Ent Tryz.prog := .of2 Tb45 B45 (fun _ _ => true) F_spec_RhumbTo fun a0 a1 _ => (r_spec_RhumbTo a0 a1).trans (u_spec_RhumbTo a0 a1)
noncomputable def B46 : Bod Tryz.prog := ⟨46, Tryz.f46, Tryz.f46.body.getD .skip, Tryz.func46, by kernel_rfl, by kernel_rfl, Loops.no _ _⟩
noncomputable def Tb46 : Tb Tryz.prog := { T := [Y2, Y27, Y34], mix := mix, Es := [E_impl_LatOf, E_impl_differenceOf, E_impl_CosI, E_impl_DivI, E_impl_Integer, ET_impl_MulI, E_impl_SubI, E_impl_SinI, E_impl_DirectionI, E_impl_areValid, E_impl_AbsI, ET_impl_AtanhI, E_impl_areBounded], Bs := [], d := 1 }
noncomputable def t_impl_RhumbTo (a0 : Point) (a1 : Point) : Tr (T3 Iv Iv I64) :=
  .br (!(F_impl_areValid a0 a1)) (.leaf ⟨⟨⟨0, rfl⟩, ⟨0, rfl⟩⟩, ⟨⟨0, rfl⟩, ⟨0, rfl⟩⟩, ⟨1, rfl⟩⟩) (let c2 := F_impl_LatOf a0; let c3 := F_impl_LatOf a1; let c4 := F_impl_differenceOf a0 a1; .br (a0.lat.val == a1.lat.val) (let c7 := F_impl_DirectionI c4 (F_impl_Integer ⟨0, rfl⟩); let c10 := F_impl_MulI (F_impl_AbsI c4) (F_impl_CosI c2); .br (!(F_impl_areBounded c7 c10)) (.leaf ⟨⟨⟨0, rfl⟩, ⟨0, rfl⟩⟩, ⟨⟨0, rfl⟩, ⟨0, rfl⟩⟩, ⟨9, rfl⟩⟩) (.leaf ⟨c7, c10, ⟨0, rfl⟩⟩)) (let c17 := F_impl_DirectionI c4 (F_impl_SubI (F_impl_AtanhI (F_impl_SinI c3)) (F_impl_AtanhI (F_impl_SinI c2))); let c21 := F_impl_AbsI (F_impl_DivI (F_impl_SubI c3 c2) (F_impl_CosI c17)); .br (!(F_impl_areBounded c17 c21)) (.leaf ⟨⟨⟨0, rfl⟩, ⟨0, rfl⟩⟩, ⟨⟨0, rfl⟩, ⟨0, rfl⟩⟩, ⟨9, rfl⟩⟩) (.leaf ⟨c17, c21, ⟨0, rfl⟩⟩)))
theorem r_impl_RhumbTo (a0 : Point) (a1 : Point) : Tb46.run B46 [enc a0, enc a1] (T3 Iv Iv I64) = (t_impl_RhumbTo a0 a1).opt := by kernel_rfl
noncomputable def F_impl_RhumbTo : Point → Point → T3 Iv Iv I64 := fun a0 a1 => (t_impl_RhumbTo a0 a1).get
theorem u_impl_RhumbTo (a0 : Point) (a1 : Point) : (t_impl_RhumbTo a0 a1).opt = some (F_impl_RhumbTo a0 a1) := Tr.tot_get (by kernel_rfl)
noncomputable def E_impl_RhumbTo : Ent Tryz.prog := .of2 Tb46 B46 (fun _ _ => true) F_impl_RhumbTo fun a0 a1 _ => (r_impl_RhumbTo a0 a1).trans (u_impl_RhumbTo a0 a1)
noncomputable def B14 : Bod Tryz.prog := ⟨14, Tryz.f14, Tryz.f14.body.getD .skip, Tryz.func14, by kernel_rfl, by kernel_rfl, Loops.no _ _⟩
noncomputable def Tb14 : Tb Tryz.prog := { T := [Y2, Y25, Y27], mix := mix, Es := [E_laws_toPoint, E_laws_eqInterval, E_spec_RhumbTo, E_impl_RhumbTo], Bs := [], d := 1 }
noncomputable def t_laws_FnExactRhumbTo (a0 : Point) (a1 : Point) : Tr (Bool) :=
  let c3 := F_spec_RhumbTo (F_laws_toPoint a0) (F_laws_toPoint a1); let c6 := F_impl_RhumbTo (F_laws_toPoint a0) (F_laws_toPoint a1); .br (!(F_laws_eqInterval c6.a c3.a)) (.leaf false) (.br (!(F_laws_eqInterval c6.b c3.b)) (.leaf false) (.br (c6.c.val != c3.c.val) (.leaf false) (.leaf true)))
theorem r_laws_FnExactRhumbTo (a0 : Point) (a1 : Point) : Tb14.run B14 [enc a0, enc a1] (Bool) = (t_laws_FnExactRhumbTo a0 a1).opt := by kernel_rfl
noncomputable def F_laws_FnExactRhumbTo : Point → Point → Bool := fun a0 a1 => (t_laws_FnExactRhumbTo a0 a1).get
theorem u_laws_FnExactRhumbTo (a0 : Point) (a1 : Point) : (t_laws_FnExactRhumbTo a0 a1).opt = some (F_laws_FnExactRhumbTo a0 a1) := Tr.tot_get (by kernel_rfl)
noncomputable def E_laws_FnExactRhumbTo : Ent Tryz.prog := .of2 Tb14 B14 (fun _ _ => true) F_laws_FnExactRhumbTo fun a0 a1 _ => (r_laws_FnExactRhumbTo a0 a1).trans (u_laws_FnExactRhumbTo a0 a1)
end
end Go.Proofs.YtcfflflcbacapaaGreat.Ev
