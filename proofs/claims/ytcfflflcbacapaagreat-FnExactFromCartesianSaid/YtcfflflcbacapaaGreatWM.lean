import Derived.Test.YtcfflflcbacapaaGreatWL
import Derived.Test.YtcfflflcbacapaaGreatP18
namespace Go.Proofs.YtcfflflcbacapaaGreat.Ev
open Go Go.RowKit
set_option maxRecDepth 100000
set_option linter.unusedVariables false
section
noncomputable def ET_spec_l14Lat : Ent Tryz.prog := .of2 Tb111 B111 (fun _ _ => true) F_spec_l14Lat fun a0 a1 _ => (r_spec_l14Lat a0 a1).trans (tt_lat_spec a0 a1)
noncomputable def ET_impl_latitudeOf : Ent Tryz.prog := .of2 Tb113 B113 (fun _ _ => true) F_impl_latitudeOf fun a0 a1 _ => (r_impl_latitudeOf a0 a1).trans (tt_lat_impl a0 a1)
noncomputable def B110 : Bod Tryz.prog := ⟨110, Tryz.f110, Tryz.f110.body.getD .skip, Tryz.func110, by kernel_rfl, by kernel_rfl, Loops.no _ _⟩
noncomputable def Tb110 : Tb Tryz.prog := { T := [Y29, Y50], mix := mix, Es := [E_spec_HalfI, E_spec_ValidEllipsoid, E_spec_NormV, E_spec_MajorI, E_spec_LessI], Bs := [], d := 1 }
noncomputable def t_spec_l14Far (a0 : Ell) (a1 : Vec) : Tr (I64) :=
  .br (!(F_spec_ValidEllipsoid a0)) (.leaf ⟨1, rfl⟩) (let c5 := F_spec_LessI (F_spec_NormV a1) (F_spec_HalfI (F_spec_MajorI a0)); .br (c5.val == 1) (.leaf ⟨8, rfl⟩) (.br (c5.val == 0) (.leaf ⟨0, rfl⟩) (.leaf ⟨9, rfl⟩)))
theorem r_spec_l14Far (a0 : Ell) (a1 : Vec) : Tb110.run B110 [enc a0, enc a1] (I64) = (t_spec_l14Far a0 a1).opt := by kernel_rfl
noncomputable def F_spec_l14Far : Ell → Vec → I64 := fun a0 a1 => (t_spec_l14Far a0 a1).get
theorem u_spec_l14Far (a0 : Ell) (a1 : Vec) : (t_spec_l14Far a0 a1).opt = some (F_spec_l14Far a0 a1) := Tr.tot_get (by kernel_rfl)
noncomputable def E_spec_l14Far : Ent Tryz.prog := .of2 Tb110 B110 (fun _ _ => true) F_spec_l14Far fun a0 a1 _ => (r_spec_l14Far a0 a1).trans (u_spec_l14Far a0 a1)
noncomputable def B37 : Bod Tryz.prog := ⟨37, Tryz.f37, Tryz.f37.body.getD .skip, Tryz.func37, by kernel_rfl, by kernel_rfl, Loops.no _ _⟩
noncomputable def Tb37 : Tb Tryz.prog := { T := [Y2, Y27, Y29, Y50], mix := mix, Es := [E_spec_l14Far, ET_spec_l14Lat], Bs := [], d := 1 }
noncomputable def t_spec_LatitudeOf (a0 : Ell) (a1 : Vec) : Tr (T2 Iv I64) :=
  let c1 := F_spec_l14Far a0 a1; .br (c1.val != 0) (.leaf ⟨⟨⟨0, rfl⟩, ⟨0, rfl⟩⟩, c1⟩) (.leaf ⟨(F_spec_l14Lat a0 a1), ⟨0, rfl⟩⟩)
theorem r_spec_LatitudeOf (a0 : Ell) (a1 : Vec) : Tb37.run B37 [enc a0, enc a1] (T2 Iv I64) = (t_spec_LatitudeOf a0 a1).opt := by kernel_rfl
noncomputable def F_spec_LatitudeOf : Ell → Vec → T2 Iv I64 := fun a0 a1 => (t_spec_LatitudeOf a0 a1).get
theorem u_spec_LatitudeOf (a0 : Ell) (a1 : Vec) : (t_spec_LatitudeOf a0 a1).opt = some (F_spec_LatitudeOf a0 a1) := Tr.tot_get (by kernel_rfl)
noncomputable def E_spec_LatitudeOf : Ent Tryz.prog := .of2 Tb37 B37 (fun _ _ => true) F_spec_LatitudeOf fun a0 a1 _ => (r_spec_LatitudeOf a0 a1).trans (u_spec_LatitudeOf a0 a1)
noncomputable def B112 : Bod Tryz.prog := ⟨112, Tryz.f112, Tryz.f112.body.getD .skip, Tryz.func112, by kernel_rfl, by kernel_rfl, Loops.no _ _⟩
noncomputable def Tb112 : Tb Tryz.prog := { T := [Y29, Y50], mix := mix, Es := [E_impl_HalfI, E_impl_ValidEllipsoid, ET_impl_NormV, E_impl_MajorI, E_impl_LessI], Bs := [], d := 1 }
noncomputable def t_impl_centreCode (a0 : Ell) (a1 : Vec) : Tr (I64) :=
  .br (!(F_impl_ValidEllipsoid a0)) (.leaf ⟨1, rfl⟩) (let c5 := F_impl_LessI (F_impl_NormV a1) (F_impl_HalfI (F_impl_MajorI a0)); .br (c5.val == 1) (.leaf ⟨8, rfl⟩) (.br (c5.val == 2) (.leaf ⟨9, rfl⟩) (.leaf ⟨0, rfl⟩)))
theorem r_impl_centreCode (a0 : Ell) (a1 : Vec) : Tb112.run B112 [enc a0, enc a1] (I64) = (t_impl_centreCode a0 a1).opt := by kernel_rfl
noncomputable def F_impl_centreCode : Ell → Vec → I64 := fun a0 a1 => (t_impl_centreCode a0 a1).get
theorem u_impl_centreCode (a0 : Ell) (a1 : Vec) : (t_impl_centreCode a0 a1).opt = some (F_impl_centreCode a0 a1) := Tr.tot_get (by kernel_rfl)
noncomputable def E_impl_centreCode : Ent Tryz.prog := .of2 Tb112 B112 (fun _ _ => true) F_impl_centreCode fun a0 a1 _ => (r_impl_centreCode a0 a1).trans (u_impl_centreCode a0 a1)
noncomputable def B38 : Bod Tryz.prog := ⟨38, Tryz.f38, Tryz.f38.body.getD .skip, Tryz.func38, by kernel_rfl, by kernel_rfl, Loops.no _ _⟩
noncomputable def Tb38 : Tb Tryz.prog := { T := [Y2, Y27, Y29, Y50], mix := mix, Es := [E_impl_centreCode, ET_impl_latitudeOf], Bs := [], d := 1 }
noncomputable def t_impl_LatitudeOf (a0 : Ell) (a1 : Vec) : Tr (T2 Iv I64) :=
  let c1 := F_impl_centreCode a0 a1; .br (c1.val != 0) (.leaf ⟨⟨⟨0, rfl⟩, ⟨0, rfl⟩⟩, c1⟩) (.leaf ⟨(F_impl_latitudeOf a0 a1), ⟨0, rfl⟩⟩)
theorem r_impl_LatitudeOf (a0 : Ell) (a1 : Vec) : Tb38.run B38 [enc a0, enc a1] (T2 Iv I64) = (t_impl_LatitudeOf a0 a1).opt := by kernel_rfl
noncomputable def F_impl_LatitudeOf : Ell → Vec → T2 Iv I64 := fun a0 a1 => (t_impl_LatitudeOf a0 a1).get
theorem u_impl_LatitudeOf (a0 : Ell) (a1 : Vec) : (t_impl_LatitudeOf a0 a1).opt = some (F_impl_LatitudeOf a0 a1) := Tr.tot_get (by kernel_rfl)
noncomputable def E_impl_LatitudeOf : Ent Tryz.prog := .of2 Tb38 B38 (fun _ _ => true) F_impl_LatitudeOf fun a0 a1 _ => (r_impl_LatitudeOf a0 a1).trans (u_impl_LatitudeOf a0 a1)
noncomputable def B10 : Bod Tryz.prog := ⟨10, Tryz.f10, Tryz.f10.body.getD .skip, Tryz.func10, by kernel_rfl, by kernel_rfl, Loops.no _ _⟩
noncomputable def Tb10 : Tb Tryz.prog := { T := [Y2, Y27, Y46, Y48], mix := mix, Es := [E_laws_eqInterval, E_laws_toEllipsoid, E_laws_toVec, E_spec_LatitudeOf, E_impl_LatitudeOf], Bs := [], d := 1 }
noncomputable def t_laws_FnExactLatitudeOf (a0 : Ell) (a1 : Vec) : Tr (Bool) :=
  let c3 := F_spec_LatitudeOf (F_laws_toEllipsoid a0) (F_laws_toVec a1); let c6 := F_impl_LatitudeOf (F_laws_toEllipsoid a0) (F_laws_toVec a1); .br (!(F_laws_eqInterval c6.a c3.a)) (.leaf false) (.br (c6.b.val != c3.b.val) (.leaf false) (.leaf true))
theorem r_laws_FnExactLatitudeOf (a0 : Ell) (a1 : Vec) : Tb10.run B10 [enc a0, enc a1] (Bool) = (t_laws_FnExactLatitudeOf a0 a1).opt := by kernel_rfl
noncomputable def F_laws_FnExactLatitudeOf : Ell → Vec → Bool := fun a0 a1 => (t_laws_FnExactLatitudeOf a0 a1).get
theorem u_laws_FnExactLatitudeOf (a0 : Ell) (a1 : Vec) : (t_laws_FnExactLatitudeOf a0 a1).opt = some (F_laws_FnExactLatitudeOf a0 a1) := Tr.tot_get (by kernel_rfl)
noncomputable def E_laws_FnExactLatitudeOf : Ent Tryz.prog := .of2 Tb10 B10 (fun _ _ => true) F_laws_FnExactLatitudeOf fun a0 a1 _ => (r_laws_FnExactLatitudeOf a0 a1).trans (u_laws_FnExactLatitudeOf a0 a1)
noncomputable def B39 : Bod Tryz.prog := ⟨39, Tryz.f39, Tryz.f39.body.getD .skip, Tryz.func39, by kernel_rfl, by kernel_rfl, Loops.no _ _⟩
noncomputable def Tb39 : Tb Tryz.prog := { T := [Y2, Y27, Y29, Y50], mix := mix, Es := [E_spec_MulI, E_spec_Integer, E_spec_CosI, E_spec_l15Flat, E_spec_AddI, E_spec_SinI, E_spec_SubI, E_spec_l14Far, ET_spec_l14Lat, ET_spec_SqrtI, E_spec_EccI, E_spec_SqrI, E_spec_MajorI, E_spec_IsWhole, E_spec_DirectionI], Bs := [], d := 1 }
noncomputable def t_spec_FromCartesian (a0 : Ell) (a1 : Vec) : Tr (T4 Iv Iv Iv I64) :=
  let c1 := F_spec_l14Far a0 a1; .br (c1.val != 0) (.leaf ⟨⟨⟨0, rfl⟩, ⟨0, rfl⟩⟩, ⟨⟨0, rfl⟩, ⟨0, rfl⟩⟩, ⟨⟨0, rfl⟩, ⟨0, rfl⟩⟩, c1⟩) (let c2 := F_spec_l14Lat a0 a1; let c3 := F_spec_SinI c2; let c17 := F_spec_SubI (F_spec_AddI (F_spec_MulI (F_spec_l15Flat a1) (F_spec_CosI c2)) (F_spec_MulI a1.z c3)) (F_spec_MulI (F_spec_MajorI a0) (F_spec_SqrtI (F_spec_SubI (F_spec_Integer ⟨1, rfl⟩) (F_spec_MulI (F_spec_EccI a0) (F_spec_SqrI c3))))); .br (F_spec_IsWhole c17) (.leaf ⟨⟨⟨0, rfl⟩, ⟨0, rfl⟩⟩, ⟨⟨0, rfl⟩, ⟨0, rfl⟩⟩, ⟨⟨0, rfl⟩, ⟨0, rfl⟩⟩, ⟨9, rfl⟩⟩) (.leaf ⟨c2, (F_spec_DirectionI a1.y a1.x), c17, ⟨0, rfl⟩⟩))
theorem r_spec_FromCartesian (a0 : Ell) (a1 : Vec) : Tb39.run B39 [enc a0, enc a1] (T4 Iv Iv Iv I64) = (t_spec_FromCartesian a0 a1).opt := by kernel_rfl
noncomputable def F_spec_FromCartesian : Ell → Vec → T4 Iv Iv Iv I64 := fun a0 a1 => (t_spec_FromCartesian a0 a1).get
theorem u_spec_FromCartesian (a0 : Ell) (a1 : Vec) : (t_spec_FromCartesian a0 a1).opt = some (F_spec_FromCartesian a0 a1) := Tr.tot_get (by kernel_rfl)
noncomputable def E_spec_FromCartesian : Ent Tryz.prog := .of2 Tb39 B39 (fun _ _ => true) F_spec_FromCartesian fun a0 a1 _ => (r_spec_FromCartesian a0 a1).trans (u_spec_FromCartesian a0 a1)
noncomputable def B40 : Bod Tryz.prog := ⟨40, Tryz.f40, Tryz.f40.body.getD .skip, Tryz.func40, by kernel_rfl, by kernel_rfl, Loops.no _ _⟩
noncomputable def Tb40 : Tb Tryz.prog := { T := [Y2, Y27, Y29, Y50], mix := mix, Es := [E_impl_CosI, ET_impl_MulI, E_impl_SubI, E_impl_fromAxis, E_impl_AddI, E_impl_SinI, E_impl_centreCode, ET_impl_latitudeOf, E_impl_MajorI, ET_impl_SqrtI, E_impl_weightOf, E_impl_IsWhole, E_impl_DirectionI], Bs := [], d := 1 }
noncomputable def t_impl_FromCartesian (a0 : Ell) (a1 : Vec) : Tr (T4 Iv Iv Iv I64) :=
  let c1 := F_impl_centreCode a0 a1; .br (c1.val != 0) (.leaf ⟨⟨⟨0, rfl⟩, ⟨0, rfl⟩⟩, ⟨⟨0, rfl⟩, ⟨0, rfl⟩⟩, ⟨⟨0, rfl⟩, ⟨0, rfl⟩⟩, c1⟩) (let c2 := F_impl_latitudeOf a0 a1; let c3 := F_impl_SinI c2; let c13 := F_impl_SubI (F_impl_AddI (F_impl_MulI (F_impl_fromAxis a1) (F_impl_CosI c2)) (F_impl_MulI a1.z c3)) (F_impl_MulI (F_impl_MajorI a0) (F_impl_SqrtI (F_impl_weightOf a0 c3))); .br (F_impl_IsWhole c13) (.leaf ⟨⟨⟨0, rfl⟩, ⟨0, rfl⟩⟩, ⟨⟨0, rfl⟩, ⟨0, rfl⟩⟩, ⟨⟨0, rfl⟩, ⟨0, rfl⟩⟩, ⟨9, rfl⟩⟩) (.leaf ⟨c2, (F_impl_DirectionI a1.y a1.x), c13, ⟨0, rfl⟩⟩))
theorem r_impl_FromCartesian (a0 : Ell) (a1 : Vec) : Tb40.run B40 [enc a0, enc a1] (T4 Iv Iv Iv I64) = (t_impl_FromCartesian a0 a1).opt := by kernel_rfl
noncomputable def F_impl_FromCartesian : Ell → Vec → T4 Iv Iv Iv I64 := fun a0 a1 => (t_impl_FromCartesian a0 a1).get
theorem u_impl_FromCartesian (a0 : Ell) (a1 : Vec) : (t_impl_FromCartesian a0 a1).opt = some (F_impl_FromCartesian a0 a1) := Tr.tot_get (by kernel_rfl)
noncomputable def E_impl_FromCartesian : Ent Tryz.prog := .of2 Tb40 B40 (fun _ _ => true) F_impl_FromCartesian fun a0 a1 _ => (r_impl_FromCartesian a0 a1).trans (u_impl_FromCartesian a0 a1)
noncomputable def B11 : Bod Tryz.prog := ⟨11, Tryz.f11, Tryz.f11.body.getD .skip, Tryz.func11, by kernel_rfl, by kernel_rfl, Loops.no _ _⟩
noncomputable def Tb11 : Tb Tryz.prog := { T := [Y2, Y27, Y46, Y48], mix := mix, Es := [E_laws_eqInterval, E_laws_toEllipsoid, E_laws_toVec, E_spec_FromCartesian, E_impl_FromCartesian], Bs := [], d := 1 }
noncomputable def t_laws_FnExactFromCartesian (a0 : Ell) (a1 : Vec) : Tr (Bool) :=
  let c3 := F_spec_FromCartesian (F_laws_toEllipsoid a0) (F_laws_toVec a1); let c6 := F_impl_FromCartesian (F_laws_toEllipsoid a0) (F_laws_toVec a1); .br (!(F_laws_eqInterval c6.a c3.a)) (.leaf false) (.br (!(F_laws_eqInterval c6.b c3.b)) (.leaf false) (.br (!(F_laws_eqInterval c6.c c3.c)) (.leaf false) (.br (c6.d.val != c3.d.val) (.leaf false) (.leaf true))))
theorem r_laws_FnExactFromCartesian (a0 : Ell) (a1 : Vec) : Tb11.run B11 [enc a0, enc a1] (Bool) = (t_laws_FnExactFromCartesian a0 a1).opt := by kernel_rfl
noncomputable def F_laws_FnExactFromCartesian : Ell → Vec → Bool := fun a0 a1 => (t_laws_FnExactFromCartesian a0 a1).get
theorem u_laws_FnExactFromCartesian (a0 : Ell) (a1 : Vec) : (t_laws_FnExactFromCartesian a0 a1).opt = some (F_laws_FnExactFromCartesian a0 a1) := Tr.tot_get (by kernel_rfl)
noncomputable def E_laws_FnExactFromCartesian : Ent Tryz.prog := .of2 Tb11 B11 (fun _ _ => true) F_laws_FnExactFromCartesian fun a0 a1 _ => (r_laws_FnExactFromCartesian a0 a1).trans (u_laws_FnExactFromCartesian a0 a1)
end
end Go.Proofs.YtcfflflcbacapaaGreat.Ev
