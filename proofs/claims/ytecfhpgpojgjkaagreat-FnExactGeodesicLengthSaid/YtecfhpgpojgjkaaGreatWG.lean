import Derived.Test.YtecfhpgpojgjkaaGreatWF
import Derived.Test.YtecfhpgpojgjkaaGreatP24
namespace Go.Proofs.YtecfhpgpojgjkaaGreat.Ev
open Go Go.RowKit
set_option maxRecDepth 100000
set_option linter.unusedVariables false
section
noncomputable def ET_spec_AsinhI : Ent Tryz.prog := .of1 Tb67 B67 (fun _ => true) F_spec_AsinhI fun a0 _ => (r_spec_AsinhI a0).trans (tt_asinh_spec a0)
noncomputable def ET_impl_AsinhI : Ent Tryz.prog := .two1 Tb84 B84 (fun _ => true) F_impl_AsinhI 0 [1, 2, 3] 1 [0, 2, 3] (by unfold twoShape; kernel_rfl) (by kernel_rfl) (by kernel_rfl) (by kernel_rfl) (fun a0 => by kernel_rfl) (fun a0 _ => (r0_impl_AsinhI a0).trans (tt_asinh_impl a0)) (fun a0 _ => (r1_impl_AsinhI a0).trans (tt_asinh_impl a0))
noncomputable def B106 : Bod Tryz.prog := ⟨106, Tryz.f106, Tryz.f106.body.getD .skip, Tryz.func106, by kernel_rfl, by kernel_rfl, Loops.no _ _⟩
noncomputable def Tb106 : Tb Tryz.prog := { T := [], mix := mix, Es := [E_impl_within], Bs := [], d := 1 }
noncomputable def t_impl_isLatitude (a0 : I64) : Tr (Bool) :=
  .leaf (F_impl_within a0 ⟨1, rfl⟩ ⟨6, rfl⟩)
theorem r_impl_isLatitude (a0 : I64) : Tb106.run B106 [enc a0] (Bool) = (t_impl_isLatitude a0).opt := by kernel_rfl
noncomputable def F_impl_isLatitude : I64 → Bool := fun a0 => (t_impl_isLatitude a0).get
theorem u_impl_isLatitude (a0 : I64) : (t_impl_isLatitude a0).opt = some (F_impl_isLatitude a0) := Tr.tot_get (by kernel_rfl)
noncomputable def E_impl_isLatitude : Ent Tryz.prog := .of1 Tb106 B106 (fun _ => true) F_impl_isLatitude fun a0 _ => (r_impl_isLatitude a0).trans (u_impl_isLatitude a0)
noncomputable def B109 : Bod Tryz.prog := ⟨109, Tryz.f109, Tryz.f109.body.getD .skip, Tryz.func109, by kernel_rfl, by kernel_rfl, Loops.no _ _⟩
noncomputable def Tb109 : Tb Tryz.prog := { T := [Y2, Y27], mix := mix, Es := [ET_impl_TurnI], Bs := [], d := 1 }
noncomputable def t_impl_quarter : Tr (I64) :=
  .leaf (F_impl_TurnI ⟨1, rfl⟩).hi
theorem r_impl_quarter : Tb109.run B109 [] (I64) = (t_impl_quarter).opt := by kernel_rfl
noncomputable def F_impl_quarter : I64 := (t_impl_quarter).get
theorem u_impl_quarter : (t_impl_quarter).opt = some (F_impl_quarter) := Tr.tot_get (by kernel_rfl)
noncomputable def E_impl_quarter : Ent Tryz.prog := .of0 Tb109 B109 F_impl_quarter (r_impl_quarter.trans u_impl_quarter)
noncomputable def B117 : Bod Tryz.prog := ⟨117, Tryz.f117, Tryz.f117.body.getD .skip, Tryz.func117, by kernel_rfl, by kernel_rfl, Loops.no _ _⟩
noncomputable def Tb117 : Tb Tryz.prog := { T := [Y2, Y27, Y49], mix := mix, Es := [ET_impl_MulI, ET_impl_AsinhI, E_impl_TanI, E_impl_SinAt, E_impl_EccI, E_impl_at, E_impl_SubI, ET_impl_SqrtI, ET_impl_AtanhI], Bs := [], d := 1 }
noncomputable def t_impl_isometric (a0 : Ell) (a1 : I64) : Tr (Iv) :=
  let c2 := F_impl_SqrtI (F_impl_EccI a0); .leaf (F_impl_SubI (F_impl_AsinhI (F_impl_TanI (F_impl_at a1))) (F_impl_MulI c2 (F_impl_AtanhI (F_impl_MulI c2 (F_impl_SinAt a1)))))
theorem r_impl_isometric (a0 : Ell) (a1 : I64) : Tb117.run B117 [enc a0, enc a1] (Iv) = (t_impl_isometric a0 a1).opt := by kernel_rfl
noncomputable def F_impl_isometric : Ell → I64 → Iv := fun a0 a1 => (t_impl_isometric a0 a1).get
theorem u_impl_isometric (a0 : Ell) (a1 : I64) : (t_impl_isometric a0 a1).opt = some (F_impl_isometric a0 a1) := Tr.tot_get (by kernel_rfl)
noncomputable def E_impl_isometric : Ent Tryz.prog := .of2 Tb117 B117 (fun _ _ => true) F_impl_isometric fun a0 a1 _ => (r_impl_isometric a0 a1).trans (u_impl_isometric a0 a1)
noncomputable def B118 : Bod Tryz.prog := ⟨118, Tryz.f118, Tryz.f118.body.getD .skip, Tryz.func118, by kernel_rfl, by kernel_rfl, Loops.no _ _⟩
noncomputable def Tb118 : Tb Tryz.prog := { T := [Y2, Y27, Y49], mix := mix, Es := [ET_impl_MulI, E_impl_DivI, E_impl_oneLess, E_impl_EccI, E_impl_times, E_impl_AddI, ET_impl_SqrtI, ET_impl_AtanhI, E_impl_weightOf], Bs := [], d := 1 }
noncomputable def t_impl_zone (a0 : Ell) (a1 : Iv) : Tr (Iv) :=
  .br (a0.num.val == 0) (.leaf (F_impl_times ⟨2, rfl⟩ a1)) (let c3 := F_impl_SqrtI (F_impl_EccI a0); .leaf (F_impl_MulI (F_impl_oneLess (F_impl_EccI a0)) (F_impl_AddI (F_impl_DivI a1 (F_impl_weightOf a0 a1)) (F_impl_DivI (F_impl_AtanhI (F_impl_MulI c3 a1)) c3))))
theorem r_impl_zone (a0 : Ell) (a1 : Iv) : Tb118.run B118 [enc a0, enc a1] (Iv) = (t_impl_zone a0 a1).opt := by kernel_rfl
noncomputable def F_impl_zone : Ell → Iv → Iv := fun a0 a1 => (t_impl_zone a0 a1).get
theorem u_impl_zone (a0 : Ell) (a1 : Iv) : (t_impl_zone a0 a1).opt = some (F_impl_zone a0 a1) := Tr.tot_get (by kernel_rfl)
noncomputable def E_impl_zone : Ent Tryz.prog := .of2 Tb118 B118 (fun _ _ => true) F_impl_zone fun a0 a1 _ => (r_impl_zone a0 a1).trans (u_impl_zone a0 a1)
noncomputable def B29 : Bod Tryz.prog := ⟨29, Tryz.f29, Tryz.f29.body.getD .skip, Tryz.func29, by kernel_rfl, by kernel_rfl, Loops.no _ _⟩
noncomputable def Tb29 : Tb Tryz.prog := { T := [Y2, Y27, Y49], mix := mix, Es := [ET_impl_MulI, E_impl_DivI, E_impl_AtanI, E_impl_SinhI, E_impl_AsinI, E_impl_isLatitude, E_impl_ValidEllipsoid, E_impl_within, E_impl_quarter, E_impl_Whole, E_impl_SinAt, E_impl_CosAt, E_impl_DirectionI, E_impl_oneLess, E_impl_FlatteningI, E_impl_EccI, E_impl_isometric, E_impl_zone, E_impl_Integer, ET_impl_TurnI, E_impl_ArcI, E_impl_at], Bs := [], d := 1 }
noncomputable def t_impl_LatitudeAt (a0 : I64) (a1 : Ell) (a2 : I64) : Tr (Iv) :=
  .br (!(F_impl_isLatitude a0)) (.leaf F_impl_Whole) (.br (!(F_impl_ValidEllipsoid a1)) (.leaf F_impl_Whole) (.br (!(F_impl_within a2 (Rng.w .i64 (0 - F_impl_quarter.val)) F_impl_quarter)) (.leaf F_impl_Whole) (let c10 := F_impl_SinAt a2; let c11 := F_impl_CosAt a2; .br (a0.val == 1) (.leaf (F_impl_DirectionI (F_impl_MulI (F_impl_oneLess (F_impl_FlatteningI a1)) c10) c11)) (.br (a0.val == 2) (.leaf (F_impl_DirectionI (F_impl_MulI (F_impl_oneLess (F_impl_EccI a1)) c10) c11)) (.br (a0.val == 3) (.leaf (F_impl_AtanI (F_impl_SinhI (F_impl_isometric a1 a2)))) (.br (a0.val == 4) (.leaf (F_impl_AsinI (F_impl_DivI (F_impl_zone a1 c10) (F_impl_zone a1 (F_impl_Integer ⟨1, rfl⟩))))) (.br (a0.val == 5) (.leaf (F_impl_DivI (F_impl_MulI (F_impl_TurnI ⟨1, rfl⟩) (F_impl_ArcI a1 (F_impl_at a2))) (F_impl_ArcI a1 (F_impl_TurnI ⟨1, rfl⟩)))) (.leaf (F_impl_isometric a1 a2)))))))))
theorem r_impl_LatitudeAt (a0 : I64) (a1 : Ell) (a2 : I64) : Tb29.run B29 [enc a0, enc a1, enc a2] (Iv) = (t_impl_LatitudeAt a0 a1 a2).opt := by kernel_rfl
noncomputable def F_impl_LatitudeAt : I64 → Ell → I64 → Iv := fun a0 a1 a2 => (t_impl_LatitudeAt a0 a1 a2).get
theorem u_impl_LatitudeAt (a0 : I64) (a1 : Ell) (a2 : I64) : (t_impl_LatitudeAt a0 a1 a2).opt = some (F_impl_LatitudeAt a0 a1 a2) := Tr.tot_get (by kernel_rfl)
noncomputable def E_impl_LatitudeAt : Ent Tryz.prog := .of3 Tb29 B29 (fun _ _ _ => true) F_impl_LatitudeAt fun a0 a1 a2 _ => (r_impl_LatitudeAt a0 a1 a2).trans (u_impl_LatitudeAt a0 a1 a2)
noncomputable def B125 : Bod Tryz.prog := ⟨125, Tryz.f125, Tryz.f125.body.getD .skip, Tryz.func125, by kernel_rfl, by kernel_rfl, Loops.no _ _⟩
noncomputable def Tb125_q : Tb Tryz.prog := { T := [Y2, Y27, Y49], mix := mix, Es := [E_impl_LatitudeAt], Bs := [], d := 1 }
noncomputable def t_impl_LatitudeI_1_q (a0 : I64) (d0 : I64) (d1 : Ell) : Tr (Iv) :=
  .leaf (F_impl_LatitudeAt d0 d1 a0)
theorem r_impl_LatitudeI_1_q (a0 : I64) (d0 : I64) (d1 : Ell) : capRun Tb125_q B125 [enc a0, .ptr 0 0, .ptr 1 0] [(0, Cap.ec d0), (1, Cap.ec d1)] 2 (Iv) = (t_impl_LatitudeI_1_q a0 d0 d1).opt := by kernel_rfl
noncomputable def F_impl_LatitudeI_1_q : I64 → I64 → Ell → Iv := fun a0 d0 d1 => (t_impl_LatitudeI_1_q a0 d0 d1).get
noncomputable def G_impl_LatitudeI_1_q : I64 → I64 → Ell → Bool := fun a0 d0 d1 => (t_impl_LatitudeI_1_q a0 d0 d1).opt.isSome
theorem u_impl_LatitudeI_1_q (a0 : I64) (d0 : I64) (d1 : Ell) : (t_impl_LatitudeI_1_q a0 d0 d1).opt = some (F_impl_LatitudeI_1_q a0 d0 d1) := Tr.tot_get (by kernel_rfl)
noncomputable def E_impl_LatitudeI_1_q : Ent Tryz.prog := .cap2 Tb125_q B125 (fun _ _ _ => true) F_impl_LatitudeI_1_q fun a0 d0 d1 _ => (r_impl_LatitudeI_1_q a0 d0 d1).trans (u_impl_LatitudeI_1_q a0 d0 d1)
noncomputable def Y47 : TyE Tryz.prog := ⟨47, 3, (.struct [(0, 2, 1), (1, 2, 1), (2, 2, 1)]), [.i64 ⟨0, rfl⟩, .i64 ⟨0, rfl⟩, .i64 ⟨0, rfl⟩], true, by kernel_rfl, by kernel_rfl, by kernel_rfl, by kernel_rfl, by kernel_rfl, by kernel_rfl⟩
noncomputable def B28 : Bod Tryz.prog := ⟨28, Tryz.f28, Tryz.f28.body.getD .skip, Tryz.func28, by kernel_rfl, by kernel_rfl, Loops.no _ _⟩
noncomputable def Tb28 : Tb Tryz.prog := { T := [Y2, Y47, Y49], mix := mix, Es := [], Bs := [], d := 1 }
noncomputable def t_laws_toEllipsoid (a0 : Ell) : Tr (Ell) :=
  .leaf a0
theorem r_laws_toEllipsoid (a0 : Ell) : Tb28.run B28 [enc a0] (Ell) = (t_laws_toEllipsoid a0).opt := by kernel_rfl
noncomputable def F_laws_toEllipsoid : Ell → Ell := fun a0 => (t_laws_toEllipsoid a0).get
theorem u_laws_toEllipsoid (a0 : Ell) : (t_laws_toEllipsoid a0).opt = some (F_laws_toEllipsoid a0) := Tr.tot_get (by kernel_rfl)
noncomputable def E_laws_toEllipsoid : Ent Tryz.prog := .of1 Tb28 B28 (fun _ => true) F_laws_toEllipsoid fun a0 _ => (r_laws_toEllipsoid a0).trans (u_laws_toEllipsoid a0)
noncomputable def B100 : Bod Tryz.prog := ⟨100, Tryz.f100, Tryz.f100.body.getD .skip, Tryz.func100, by kernel_rfl, by kernel_rfl, Loops.no _ _⟩
noncomputable def Tb100 : Tb Tryz.prog := { T := [], mix := mix, Es := [E_spec_l00In], Bs := [], d := 1 }
noncomputable def t_spec_l13Kind (a0 : I64) : Tr (Bool) :=
  .leaf (F_spec_l00In a0 ⟨1, rfl⟩ ⟨6, rfl⟩)
theorem r_spec_l13Kind (a0 : I64) : Tb100.run B100 [enc a0] (Bool) = (t_spec_l13Kind a0).opt := by kernel_rfl
noncomputable def F_spec_l13Kind : I64 → Bool := fun a0 => (t_spec_l13Kind a0).get
theorem u_spec_l13Kind (a0 : I64) : (t_spec_l13Kind a0).opt = some (F_spec_l13Kind a0) := Tr.tot_get (by kernel_rfl)
noncomputable def E_spec_l13Kind : Ent Tryz.prog := .of1 Tb100 B100 (fun _ => true) F_spec_l13Kind fun a0 _ => (r_spec_l13Kind a0).trans (u_spec_l13Kind a0)
noncomputable def B103 : Bod Tryz.prog := ⟨103, Tryz.f103, Tryz.f103.body.getD .skip, Tryz.func103, by kernel_rfl, by kernel_rfl, Loops.no _ _⟩
noncomputable def Tb103 : Tb Tryz.prog := { T := [Y2, Y27], mix := mix, Es := [E_spec_l05Turn], Bs := [], d := 1 }
noncomputable def t_spec_l13End : Tr (I64) :=
  .br (G_spec_l05Turn ⟨1, rfl⟩) (.leaf (F_spec_l05Turn ⟨1, rfl⟩).hi) (.bad)
theorem r_spec_l13End : Tb103.run B103 [] (I64) = (t_spec_l13End).opt := by kernel_rfl
noncomputable def F_spec_l13End : I64 := (t_spec_l13End).get
theorem u_spec_l13End : (t_spec_l13End).opt = some (F_spec_l13End) := Tr.get_some (by kernel_rfl)
noncomputable def E_spec_l13End : Ent Tryz.prog := .of0 Tb103 B103 F_spec_l13End (r_spec_l13End.trans u_spec_l13End)
noncomputable def B230 : Bod Tryz.prog := ⟨230, Tryz.f230, Tryz.f230.body.getD .skip, Tryz.func230, by kernel_rfl, by kernel_rfl, Loops.no _ _⟩
noncomputable def Tb230 : Tb Tryz.prog := { T := [Y2, Y27, Y49], mix := mix, Es := [E_spec_MulI, ET_spec_AsinhI, ET_spec_TanI, E_spec_SubI, E_spec_SinAt, E_spec_EccI, E_spec_l08At, ET_spec_SqrtI, ET_spec_AtanhI], Bs := [], d := 1 }
noncomputable def t_spec_l13Iso (a0 : Ell) (a1 : I64) : Tr (Iv) :=
  let c2 := F_spec_SqrtI (F_spec_EccI a0); .leaf (F_spec_SubI (F_spec_AsinhI (F_spec_TanI (F_spec_l08At a1))) (F_spec_MulI c2 (F_spec_AtanhI (F_spec_MulI c2 (F_spec_SinAt a1)))))
theorem r_spec_l13Iso (a0 : Ell) (a1 : I64) : Tb230.run B230 [enc a0, enc a1] (Iv) = (t_spec_l13Iso a0 a1).opt := by kernel_rfl
noncomputable def F_spec_l13Iso : Ell → I64 → Iv := fun a0 a1 => (t_spec_l13Iso a0 a1).get
theorem u_spec_l13Iso (a0 : Ell) (a1 : I64) : (t_spec_l13Iso a0 a1).opt = some (F_spec_l13Iso a0 a1) := Tr.tot_get (by kernel_rfl)
noncomputable def E_spec_l13Iso : Ent Tryz.prog := .of2 Tb230 B230 (fun _ _ => true) F_spec_l13Iso fun a0 a1 _ => (r_spec_l13Iso a0 a1).trans (u_spec_l13Iso a0 a1)
noncomputable def B231 : Bod Tryz.prog := ⟨231, Tryz.f231, Tryz.f231.body.getD .skip, Tryz.func231, by kernel_rfl, by kernel_rfl, Loops.no _ _⟩
noncomputable def Tb231 : Tb Tryz.prog := { T := [Y2, Y27, Y49], mix := mix, Es := [E_spec_MulI, E_spec_DivI, E_spec_Integer, E_spec_SubI, E_spec_AddI, E_spec_EccI, E_spec_SqrI, ET_spec_SqrtI, ET_spec_AtanhI], Bs := [], d := 1 }
noncomputable def t_spec_l13Q (a0 : Ell) (a1 : Iv) : Tr (Iv) :=
  .br (a0.num.val == 0) (.leaf (F_spec_MulI (F_spec_Integer ⟨2, rfl⟩) a1)) (let c3 := F_spec_EccI a0; let c4 := F_spec_SqrtI c3; .leaf (F_spec_MulI (F_spec_SubI (F_spec_Integer ⟨1, rfl⟩) c3) (F_spec_AddI (F_spec_DivI a1 (F_spec_SubI (F_spec_Integer ⟨1, rfl⟩) (F_spec_MulI c3 (F_spec_SqrI a1)))) (F_spec_DivI (F_spec_AtanhI (F_spec_MulI c4 a1)) c4))))
theorem r_spec_l13Q (a0 : Ell) (a1 : Iv) : Tb231.run B231 [enc a0, enc a1] (Iv) = (t_spec_l13Q a0 a1).opt := by kernel_rfl
noncomputable def F_spec_l13Q : Ell → Iv → Iv := fun a0 a1 => (t_spec_l13Q a0 a1).get
theorem u_spec_l13Q (a0 : Ell) (a1 : Iv) : (t_spec_l13Q a0 a1).opt = some (F_spec_l13Q a0 a1) := Tr.tot_get (by kernel_rfl)
noncomputable def E_spec_l13Q : Ent Tryz.prog := .of2 Tb231 B231 (fun _ _ => true) F_spec_l13Q fun a0 a1 _ => (r_spec_l13Q a0 a1).trans (u_spec_l13Q a0 a1)
noncomputable def B105 : Bod Tryz.prog := ⟨105, Tryz.f105, Tryz.f105.body.getD .skip, Tryz.func105, by kernel_rfl, by kernel_rfl, Loops.no _ _⟩
noncomputable def Tb105 : Tb Tryz.prog := { T := [Y2, Y27, Y49], mix := mix, Es := [E_spec_MulI, E_spec_DivI, E_spec_AtanI, E_spec_SinhI, E_spec_AsinI, E_spec_Integer, E_spec_SubI, E_spec_DirectionI, ET_spec_TurnI, E_spec_SinAt, E_spec_CosAt, E_spec_FlatteningI, E_spec_EccI, E_spec_l13Iso, E_spec_l13Q, E_spec_ArcI, E_spec_l08At], Bs := [], d := 1 }
noncomputable def t_spec_l13At (a0 : I64) (a1 : Ell) (a2 : I64) : Tr (Iv) :=
  let c1 := F_spec_SinAt a2; let c2 := F_spec_CosAt a2; .br (a0.val == 1) (.leaf (F_spec_DirectionI (F_spec_MulI (F_spec_SubI (F_spec_Integer ⟨1, rfl⟩) (F_spec_FlatteningI a1)) c1) c2)) (.br (a0.val == 2) (.leaf (F_spec_DirectionI (F_spec_MulI (F_spec_SubI (F_spec_Integer ⟨1, rfl⟩) (F_spec_EccI a1)) c1) c2)) (.br (a0.val == 3) (.leaf (F_spec_AtanI (F_spec_SinhI (F_spec_l13Iso a1 a2)))) (.br (a0.val == 4) (.leaf (F_spec_AsinI (F_spec_DivI (F_spec_l13Q a1 c1) (F_spec_l13Q a1 (F_spec_Integer ⟨1, rfl⟩))))) (.br (a0.val == 5) (.leaf (F_spec_DivI (F_spec_MulI (F_spec_TurnI ⟨1, rfl⟩) (F_spec_ArcI a1 (F_spec_l08At a2))) (F_spec_ArcI a1 (F_spec_TurnI ⟨1, rfl⟩)))) (.leaf (F_spec_l13Iso a1 a2))))))
theorem r_spec_l13At (a0 : I64) (a1 : Ell) (a2 : I64) : Tb105.run B105 [enc a0, enc a1, enc a2] (Iv) = (t_spec_l13At a0 a1 a2).opt := by kernel_rfl
noncomputable def F_spec_l13At : I64 → Ell → I64 → Iv := fun a0 a1 a2 => (t_spec_l13At a0 a1 a2).get
theorem u_spec_l13At (a0 : I64) (a1 : Ell) (a2 : I64) : (t_spec_l13At a0 a1 a2).opt = some (F_spec_l13At a0 a1 a2) := Tr.tot_get (by kernel_rfl)
noncomputable def E_spec_l13At : Ent Tryz.prog := .of3 Tb105 B105 (fun _ _ _ => true) F_spec_l13At fun a0 a1 a2 _ => (r_spec_l13At a0 a1 a2).trans (u_spec_l13At a0 a1 a2)
noncomputable def B27 : Bod Tryz.prog := ⟨27, Tryz.f27, Tryz.f27.body.getD .skip, Tryz.func27, by kernel_rfl, by kernel_rfl, Loops.no _ _⟩
noncomputable def Tb27 : Tb Tryz.prog := { T := [Y2, Y27, Y49], mix := mix, Es := [E_spec_l13Kind, E_spec_l12Ok, E_spec_l00In, E_spec_l13End, E_spec_l04Whole, E_spec_l13At], Bs := [], d := 1 }
noncomputable def t_spec_LatitudeAt (a0 : I64) (a1 : Ell) (a2 : I64) : Tr (Iv) :=
  .br (!(F_spec_l13Kind a0)) (.leaf F_spec_l04Whole) (.br (!(F_spec_l12Ok a1)) (.leaf F_spec_l04Whole) (.br (!(F_spec_l00In a2 (Rng.w .i64 (0 - F_spec_l13End.val)) F_spec_l13End)) (.leaf F_spec_l04Whole) (.leaf (F_spec_l13At a0 a1 a2))))
theorem r_spec_LatitudeAt (a0 : I64) (a1 : Ell) (a2 : I64) : Tb27.run B27 [enc a0, enc a1, enc a2] (Iv) = (t_spec_LatitudeAt a0 a1 a2).opt := by kernel_rfl
noncomputable def F_spec_LatitudeAt : I64 → Ell → I64 → Iv := fun a0 a1 a2 => (t_spec_LatitudeAt a0 a1 a2).get
theorem u_spec_LatitudeAt (a0 : I64) (a1 : Ell) (a2 : I64) : (t_spec_LatitudeAt a0 a1 a2).opt = some (F_spec_LatitudeAt a0 a1 a2) := Tr.tot_get (by kernel_rfl)
noncomputable def E_spec_LatitudeAt : Ent Tryz.prog := .of3 Tb27 B27 (fun _ _ _ => true) F_spec_LatitudeAt fun a0 a1 a2 _ => (r_spec_LatitudeAt a0 a1 a2).trans (u_spec_LatitudeAt a0 a1 a2)
noncomputable def B5 : Bod Tryz.prog := ⟨5, Tryz.f5, Tryz.f5.body.getD .skip, Tryz.func5, by kernel_rfl, by kernel_rfl, Loops.no _ _⟩
noncomputable def Tb5 : Tb Tryz.prog := { T := [Y2, Y27, Y47], mix := mix, Es := [E_laws_eqInterval, E_spec_LatitudeAt, E_laws_toEllipsoid, E_impl_LatitudeAt], Bs := [], d := 1 }
noncomputable def t_laws_FnExactLatitudeAt (a0 : I64) (a1 : Ell) (a2 : I64) : Tr (Bool) :=
  .br (!(F_laws_eqInterval (F_impl_LatitudeAt a0 (F_laws_toEllipsoid a1) a2) (F_spec_LatitudeAt a0 (F_laws_toEllipsoid a1) a2))) (.leaf false) (.leaf true)
theorem r_laws_FnExactLatitudeAt (a0 : I64) (a1 : Ell) (a2 : I64) : Tb5.run B5 [enc a0, enc a1, enc a2] (Bool) = (t_laws_FnExactLatitudeAt a0 a1 a2).opt := by kernel_rfl
noncomputable def F_laws_FnExactLatitudeAt : I64 → Ell → I64 → Bool := fun a0 a1 a2 => (t_laws_FnExactLatitudeAt a0 a1 a2).get
theorem u_laws_FnExactLatitudeAt (a0 : I64) (a1 : Ell) (a2 : I64) : (t_laws_FnExactLatitudeAt a0 a1 a2).opt = some (F_laws_FnExactLatitudeAt a0 a1 a2) := Tr.tot_get (by kernel_rfl)
noncomputable def E_laws_FnExactLatitudeAt : Ent Tryz.prog := .of3 Tb5 B5 (fun _ _ _ => true) F_laws_FnExactLatitudeAt fun a0 a1 a2 _ => (r_laws_FnExactLatitudeAt a0 a1 a2).trans (u_laws_FnExactLatitudeAt a0 a1 a2)
noncomputable def Y38 : TyE Tryz.prog := ⟨38, 2, (.struct [(0, 2, 1), (1, 2, 1)]), [.i64 ⟨0, rfl⟩, .i64 ⟨0, rfl⟩], true, by kernel_rfl, by kernel_rfl, by kernel_rfl, by kernel_rfl, by kernel_rfl, by kernel_rfl⟩
noncomputable def B31 : Bod Tryz.prog := ⟨31, Tryz.f31, Tryz.f31.body.getD .skip, Tryz.func31, by kernel_rfl, by kernel_rfl, Loops.no _ _⟩
noncomputable def Tb31 : Tb Tryz.prog := { T := [Y2, Y27, Y38], mix := mix, Es := [], Bs := [], d := 1 }
noncomputable def t_laws_toInterval (a0 : Iv) : Tr (Iv) :=
  .leaf a0
theorem r_laws_toInterval (a0 : Iv) : Tb31.run B31 [enc a0] (Iv) = (t_laws_toInterval a0).opt := by kernel_rfl
noncomputable def F_laws_toInterval : Iv → Iv := fun a0 => (t_laws_toInterval a0).get
theorem u_laws_toInterval (a0 : Iv) : (t_laws_toInterval a0).opt = some (F_laws_toInterval a0) := Tr.tot_get (by kernel_rfl)
noncomputable def E_laws_toInterval : Ent Tryz.prog := .of1 Tb31 B31 (fun _ => true) F_laws_toInterval fun a0 _ => (r_laws_toInterval a0).trans (u_laws_toInterval a0)
noncomputable def B30 : Bod Tryz.prog := ⟨30, Tryz.f30, Tryz.f30.body.getD .skip, Tryz.func30, by kernel_rfl, by kernel_rfl, Loops.no _ _⟩
noncomputable def Tb30 : Tb Tryz.prog := { T := [Y2, Y27, Y49], mix := mix, Es := [E_spec_LatitudeAt, E_spec_l04Ok, E_spec_l04Whole, E_spec_l08Ends], Bs := [], d := 1 }
noncomputable def t_spec_LatitudeI (a0 : I64) (a1 : Ell) (a2 : Iv) : Tr (Iv) :=
  .br (!(F_spec_l04Ok a2)) (.leaf F_spec_l04Whole) (.leaf (F_spec_l08Ends (F_spec_LatitudeAt a0 a1 a2.lo) (F_spec_LatitudeAt a0 a1 a2.hi)))
theorem r_spec_LatitudeI (a0 : I64) (a1 : Ell) (a2 : Iv) : Tb30.run B30 [enc a0, enc a1, enc a2] (Iv) = (t_spec_LatitudeI a0 a1 a2).opt := by kernel_rfl
noncomputable def F_spec_LatitudeI : I64 → Ell → Iv → Iv := fun a0 a1 a2 => (t_spec_LatitudeI a0 a1 a2).get
theorem u_spec_LatitudeI (a0 : I64) (a1 : Ell) (a2 : Iv) : (t_spec_LatitudeI a0 a1 a2).opt = some (F_spec_LatitudeI a0 a1 a2) := Tr.tot_get (by kernel_rfl)
noncomputable def E_spec_LatitudeI : Ent Tryz.prog := .of3 Tb30 B30 (fun _ _ _ => true) F_spec_LatitudeI fun a0 a1 a2 _ => (r_spec_LatitudeI a0 a1 a2).trans (u_spec_LatitudeI a0 a1 a2)
noncomputable def B32 : Bod Tryz.prog := ⟨32, Tryz.f32, Tryz.f32.body.getD .skip, Tryz.func32, by kernel_rfl, by kernel_rfl, Loops.no _ _⟩
noncomputable def Tb32 : Tb Tryz.prog := { T := [Y2, Y27], mix := mix, Es := [E_impl_Whole, E_impl_LatitudeI_1_q, E_impl_IsWhole, E_impl_areBounded, E_impl_bounded], Bs := [B124], d := 8 }
noncomputable def t_impl_LatitudeI (a0 : I64) (a1 : Ell) (a2 : Iv) : Tr (Iv) :=
  .br (F_impl_IsWhole a2) (.leaf F_impl_Whole) (let c3 := F_impl_LatitudeI_1_q a2.lo a0 a1; let c4 := F_impl_LatitudeI_1_q a2.hi a0 a1; .br (!(F_impl_areBounded c3 c4)) (.leaf F_impl_Whole) (.leaf (F_impl_bounded c3.lo c4.hi true)))
theorem r_impl_LatitudeI (a0 : I64) (a1 : Ell) (a2 : Iv) : Tb32.run B32 [enc a0, enc a1, enc a2] (Iv) = (t_impl_LatitudeI a0 a1 a2).opt := by kernel_rfl
noncomputable def F_impl_LatitudeI : I64 → Ell → Iv → Iv := fun a0 a1 a2 => (t_impl_LatitudeI a0 a1 a2).get
theorem u_impl_LatitudeI (a0 : I64) (a1 : Ell) (a2 : Iv) : (t_impl_LatitudeI a0 a1 a2).opt = some (F_impl_LatitudeI a0 a1 a2) := Tr.tot_get (by kernel_rfl)
noncomputable def E_impl_LatitudeI : Ent Tryz.prog := .of3 Tb32 B32 (fun _ _ _ => true) F_impl_LatitudeI fun a0 a1 a2 _ => (r_impl_LatitudeI a0 a1 a2).trans (u_impl_LatitudeI a0 a1 a2)
noncomputable def B6 : Bod Tryz.prog := ⟨6, Tryz.f6, Tryz.f6.body.getD .skip, Tryz.func6, by kernel_rfl, by kernel_rfl, Loops.no _ _⟩
noncomputable def Tb6 : Tb Tryz.prog := { T := [Y2, Y27, Y38, Y47], mix := mix, Es := [E_laws_eqInterval, E_laws_toEllipsoid, E_spec_LatitudeI, E_laws_toInterval, E_impl_LatitudeI], Bs := [], d := 1 }
noncomputable def t_laws_FnExactLatitudeI (a0 : I64) (a1 : Ell) (a2 : Iv) : Tr (Bool) :=
  .br (!(F_laws_eqInterval (F_impl_LatitudeI a0 (F_laws_toEllipsoid a1) (F_laws_toInterval a2)) (F_spec_LatitudeI a0 (F_laws_toEllipsoid a1) (F_laws_toInterval a2)))) (.leaf false) (.leaf true)
theorem r_laws_FnExactLatitudeI (a0 : I64) (a1 : Ell) (a2 : Iv) : Tb6.run B6 [enc a0, enc a1, enc a2] (Bool) = (t_laws_FnExactLatitudeI a0 a1 a2).opt := by kernel_rfl
noncomputable def F_laws_FnExactLatitudeI : I64 → Ell → Iv → Bool := fun a0 a1 a2 => (t_laws_FnExactLatitudeI a0 a1 a2).get
theorem u_laws_FnExactLatitudeI (a0 : I64) (a1 : Ell) (a2 : Iv) : (t_laws_FnExactLatitudeI a0 a1 a2).opt = some (F_laws_FnExactLatitudeI a0 a1 a2) := Tr.tot_get (by kernel_rfl)
noncomputable def E_laws_FnExactLatitudeI : Ent Tryz.prog := .of3 Tb6 B6 (fun _ _ _ => true) F_laws_FnExactLatitudeI fun a0 a1 a2 _ => (r_laws_FnExactLatitudeI a0 a1 a2).trans (u_laws_FnExactLatitudeI a0 a1 a2)
noncomputable def B58 : Bod Tryz.prog := ⟨58, Tryz.f58, Tryz.f58.body.getD .skip, Tryz.func58, by kernel_rfl, by kernel_rfl, Loops.no _ _⟩
noncomputable def Tb58 : Tb Tryz.prog := { T := [Y2, Y32], mix := mix, Es := [E_spec_l00In, E_spec_l17Ok], Bs := [], d := 1 }
noncomputable def t_spec_l17Cylinder (a0 : Proj) : Tr (Bool) :=
  .br (F_spec_l17Ok a0) (.leaf (F_spec_l00In a0.kind ⟨1, rfl⟩ ⟨4, rfl⟩)) (.leaf false)
theorem r_spec_l17Cylinder (a0 : Proj) : Tb58.run B58 [enc a0] (Bool) = (t_spec_l17Cylinder a0).opt := by kernel_rfl
noncomputable def F_spec_l17Cylinder : Proj → Bool := fun a0 => (t_spec_l17Cylinder a0).get
theorem u_spec_l17Cylinder (a0 : Proj) : (t_spec_l17Cylinder a0).opt = some (F_spec_l17Cylinder a0) := Tr.tot_get (by kernel_rfl)
noncomputable def E_spec_l17Cylinder : Ent Tryz.prog := .of1 Tb58 B58 (fun _ => true) F_spec_l17Cylinder fun a0 _ => (r_spec_l17Cylinder a0).trans (u_spec_l17Cylinder a0)
noncomputable def B62 : Bod Tryz.prog := ⟨62, Tryz.f62, Tryz.f62.body.getD .skip, Tryz.func62, by kernel_rfl, by kernel_rfl, Loops.no _ _⟩
noncomputable def Tb62 : Tb Tryz.prog := { T := [Y2, Y27, Y32, Y34], mix := mix, Es := [ET_spec_RadiansOf, E_spec_l11Wrap], Bs := [], d := 1 }
noncomputable def t_spec_l17Lon (a0 : Proj) (a1 : Point) : Tr (Iv) :=
  .leaf (F_spec_RadiansOf (F_spec_l11Wrap (Rng.w .i64 (a1.lon.val - a0.lon0.val))))
theorem r_spec_l17Lon (a0 : Proj) (a1 : Point) : Tb62.run B62 [enc a0, enc a1] (Iv) = (t_spec_l17Lon a0 a1).opt := by kernel_rfl
noncomputable def F_spec_l17Lon : Proj → Point → Iv := fun a0 a1 => (t_spec_l17Lon a0 a1).get
theorem u_spec_l17Lon (a0 : Proj) (a1 : Point) : (t_spec_l17Lon a0 a1).opt = some (F_spec_l17Lon a0 a1) := Tr.tot_get (by kernel_rfl)
noncomputable def E_spec_l17Lon : Ent Tryz.prog := .of2 Tb62 B62 (fun _ _ => true) F_spec_l17Lon fun a0 a1 _ => (r_spec_l17Lon a0 a1).trans (u_spec_l17Lon a0 a1)
noncomputable def Y29 : TyE Tryz.prog := ⟨29, 4, (.struct [(0, 27, 2), (2, 27, 2)]), [.i64 ⟨0, rfl⟩, .i64 ⟨0, rfl⟩, .i64 ⟨0, rfl⟩, .i64 ⟨0, rfl⟩], false, by kernel_rfl, by kernel_rfl, by kernel_rfl, by kernel_rfl, by kernel_rfl, by kernel_rfl⟩
noncomputable def B65 : Bod Tryz.prog := ⟨65, Tryz.f65, Tryz.f65.body.getD .skip, Tryz.func65, by kernel_rfl, by kernel_rfl, Loops.no _ _⟩
noncomputable def Tb65 : Tb Tryz.prog := { T := [Y2, Y27, Y29], mix := mix, Es := [E_spec_l04Ok], Bs := [], d := 1 }
noncomputable def t_spec_l17End (a0 : Iv) (a1 : Iv) : Tr (T2 Planar I64) :=
  .br (!(F_spec_l04Ok a0)) (.leaf ⟨⟨⟨⟨0, rfl⟩, ⟨0, rfl⟩⟩, ⟨⟨0, rfl⟩, ⟨0, rfl⟩⟩⟩, ⟨9, rfl⟩⟩) (.br (!(F_spec_l04Ok a1)) (.leaf ⟨⟨⟨⟨0, rfl⟩, ⟨0, rfl⟩⟩, ⟨⟨0, rfl⟩, ⟨0, rfl⟩⟩⟩, ⟨9, rfl⟩⟩) (.leaf ⟨⟨a0, a1⟩, ⟨0, rfl⟩⟩))
theorem r_spec_l17End (a0 : Iv) (a1 : Iv) : Tb65.run B65 [enc a0, enc a1] (T2 Planar I64) = (t_spec_l17End a0 a1).opt := by kernel_rfl
noncomputable def F_spec_l17End : Iv → Iv → T2 Planar I64 := fun a0 a1 => (t_spec_l17End a0 a1).get
theorem u_spec_l17End (a0 : Iv) (a1 : Iv) : (t_spec_l17End a0 a1).opt = some (F_spec_l17End a0 a1) := Tr.tot_get (by kernel_rfl)
noncomputable def E_spec_l17End : Ent Tryz.prog := .of2 Tb65 B65 (fun _ _ => true) F_spec_l17End fun a0 a1 _ => (r_spec_l17End a0 a1).trans (u_spec_l17End a0 a1)
noncomputable def B18 : Bod Tryz.prog := ⟨18, Tryz.f18, Tryz.f18.body.getD .skip, Tryz.func18, by kernel_rfl, by kernel_rfl, Loops.no _ _⟩
noncomputable def Tb18 : Tb Tryz.prog := { T := [Y2, Y27, Y29, Y32, Y34], mix := mix, Es := [E_spec_l17Cylinder, E_spec_l11Ok, E_spec_l11Pole, E_spec_LatOf, E_spec_l17Lon, E_spec_CosI, ET_spec_RadiansOf, E_spec_l17End, E_spec_MulI, ET_spec_AsinhI, ET_spec_TanI, E_spec_DivI, E_spec_SinI, ET_spec_Quotient], Bs := [], d := 1 }
noncomputable def t_spec_CylinderForward (a0 : Proj) (a1 : Point) : Tr (T2 Planar I64) :=
  .br (!(F_spec_l17Cylinder a0)) (.leaf ⟨⟨⟨⟨0, rfl⟩, ⟨0, rfl⟩⟩, ⟨⟨0, rfl⟩, ⟨0, rfl⟩⟩⟩, ⟨1, rfl⟩⟩) (.br (!(F_spec_l11Ok a1)) (.leaf ⟨⟨⟨⟨0, rfl⟩, ⟨0, rfl⟩⟩, ⟨⟨0, rfl⟩, ⟨0, rfl⟩⟩⟩, ⟨1, rfl⟩⟩) (.br (a0.kind.val == 2) (.br (F_spec_l11Pole a1) (.leaf ⟨⟨⟨⟨0, rfl⟩, ⟨0, rfl⟩⟩, ⟨⟨0, rfl⟩, ⟨0, rfl⟩⟩⟩, ⟨8, rfl⟩⟩) (let c4 := F_spec_LatOf a1; let c5 := F_spec_l17Lon a0 a1; let c7 := F_spec_CosI (F_spec_RadiansOf a0.lat1); .br (a0.kind.val == 1) (let c9 := F_spec_l17End (F_spec_MulI c5 c7) c4; .leaf ⟨c9.a, c9.b⟩) (.br (a0.kind.val == 2) (let c12 := F_spec_l17End c5 (F_spec_AsinhI (F_spec_TanI c4)); .leaf ⟨c12.a, c12.b⟩) (.br (a0.kind.val == 3) (let c16 := F_spec_l17End (F_spec_MulI c5 c7) (F_spec_DivI (F_spec_SinI c4) c7); .leaf ⟨c16.a, c16.b⟩) (let c23 := F_spec_l17End c5 (F_spec_MulI (F_spec_Quotient ⟨5, rfl⟩ ⟨4, rfl⟩) (F_spec_AsinhI (F_spec_TanI (F_spec_MulI (F_spec_Quotient ⟨4, rfl⟩ ⟨5, rfl⟩) c4)))); .leaf ⟨c23.a, c23.b⟩))))) (let c24 := F_spec_LatOf a1; let c25 := F_spec_l17Lon a0 a1; let c27 := F_spec_CosI (F_spec_RadiansOf a0.lat1); .br (a0.kind.val == 1) (let c29 := F_spec_l17End (F_spec_MulI c25 c27) c24; .leaf ⟨c29.a, c29.b⟩) (.br (a0.kind.val == 2) (let c32 := F_spec_l17End c25 (F_spec_AsinhI (F_spec_TanI c24)); .leaf ⟨c32.a, c32.b⟩) (.br (a0.kind.val == 3) (let c36 := F_spec_l17End (F_spec_MulI c25 c27) (F_spec_DivI (F_spec_SinI c24) c27); .leaf ⟨c36.a, c36.b⟩) (let c43 := F_spec_l17End c25 (F_spec_MulI (F_spec_Quotient ⟨5, rfl⟩ ⟨4, rfl⟩) (F_spec_AsinhI (F_spec_TanI (F_spec_MulI (F_spec_Quotient ⟨4, rfl⟩ ⟨5, rfl⟩) c24)))); .leaf ⟨c43.a, c43.b⟩))))))
theorem r_spec_CylinderForward (a0 : Proj) (a1 : Point) : Tb18.run B18 [enc a0, enc a1] (T2 Planar I64) = (t_spec_CylinderForward a0 a1).opt := by kernel_rfl
noncomputable def F_spec_CylinderForward : Proj → Point → T2 Planar I64 := fun a0 a1 => (t_spec_CylinderForward a0 a1).get
theorem u_spec_CylinderForward (a0 : Proj) (a1 : Point) : (t_spec_CylinderForward a0 a1).opt = some (F_spec_CylinderForward a0 a1) := Tr.tot_get (by kernel_rfl)
noncomputable def E_spec_CylinderForward : Ent Tryz.prog := .of2 Tb18 B18 (fun _ _ => true) F_spec_CylinderForward fun a0 a1 _ => (r_spec_CylinderForward a0 a1).trans (u_spec_CylinderForward a0 a1)
noncomputable def B74 : Bod Tryz.prog := ⟨74, Tryz.f74, Tryz.f74.body.getD .skip, Tryz.func74, by kernel_rfl, by kernel_rfl, Loops.no _ _⟩
noncomputable def Tb74 : Tb Tryz.prog := { T := [], mix := mix, Es := [E_impl_within], Bs := [], d := 1 }
noncomputable def t_impl_isCylindrical (a0 : I64) : Tr (Bool) :=
  .leaf (F_impl_within a0 ⟨1, rfl⟩ ⟨4, rfl⟩)
theorem r_impl_isCylindrical (a0 : I64) : Tb74.run B74 [enc a0] (Bool) = (t_impl_isCylindrical a0).opt := by kernel_rfl
noncomputable def F_impl_isCylindrical : I64 → Bool := fun a0 => (t_impl_isCylindrical a0).get
theorem u_impl_isCylindrical (a0 : I64) : (t_impl_isCylindrical a0).opt = some (F_impl_isCylindrical a0) := Tr.tot_get (by kernel_rfl)
noncomputable def E_impl_isCylindrical : Ent Tryz.prog := .of1 Tb74 B74 (fun _ => true) F_impl_isCylindrical fun a0 _ => (r_impl_isCylindrical a0).trans (u_impl_isCylindrical a0)
noncomputable def B79 : Bod Tryz.prog := ⟨79, Tryz.f79, Tryz.f79.body.getD .skip, Tryz.func79, by kernel_rfl, by kernel_rfl, Loops.no _ _⟩
noncomputable def Tb79 : Tb Tryz.prog := { T := [Y2, Y27, Y29], mix := mix, Es := [E_impl_areBounded], Bs := [], d := 1 }
noncomputable def t_impl_planar (a0 : Iv) (a1 : Iv) : Tr (T2 Planar I64) :=
  .br (!(F_impl_areBounded a0 a1)) (.leaf ⟨⟨⟨⟨0, rfl⟩, ⟨0, rfl⟩⟩, ⟨⟨0, rfl⟩, ⟨0, rfl⟩⟩⟩, ⟨9, rfl⟩⟩) (.leaf ⟨⟨a0, a1⟩, ⟨0, rfl⟩⟩)
theorem r_impl_planar (a0 : Iv) (a1 : Iv) : Tb79.run B79 [enc a0, enc a1] (T2 Planar I64) = (t_impl_planar a0 a1).opt := by kernel_rfl
noncomputable def F_impl_planar : Iv → Iv → T2 Planar I64 := fun a0 a1 => (t_impl_planar a0 a1).get
theorem u_impl_planar (a0 : Iv) (a1 : Iv) : (t_impl_planar a0 a1).opt = some (F_impl_planar a0 a1) := Tr.tot_get (by kernel_rfl)
noncomputable def E_impl_planar : Ent Tryz.prog := .of2 Tb79 B79 (fun _ _ => true) F_impl_planar fun a0 a1 _ => (r_impl_planar a0 a1).trans (u_impl_planar a0 a1)
noncomputable def B21 : Bod Tryz.prog := ⟨21, Tryz.f21, Tryz.f21.body.getD .skip, Tryz.func21, by kernel_rfl, by kernel_rfl, Loops.no _ _⟩
noncomputable def Tb21 : Tb Tryz.prog := { T := [Y2, Y27, Y29, Y32, Y34], mix := mix, Es := [E_impl_ValidProjection, E_impl_ValidPoint, E_impl_isCylindrical, E_impl_LonFrom, E_impl_LatOf, E_impl_CosI, ET_impl_RadiansOf, E_impl_planar, ET_impl_MulI, E_impl_DivI, E_impl_SinI, ET_impl_Quotient, ET_impl_AsinhI, E_impl_TanI, E_impl_isPole], Bs := [], d := 1 }
noncomputable def t_impl_CylinderForward (a0 : Proj) (a1 : Point) : Tr (T2 Planar I64) :=
  .br (!(F_impl_ValidProjection a0)) (.leaf ⟨⟨⟨⟨0, rfl⟩, ⟨0, rfl⟩⟩, ⟨⟨0, rfl⟩, ⟨0, rfl⟩⟩⟩, ⟨1, rfl⟩⟩) (.br (!(F_impl_ValidPoint a1)) (.leaf ⟨⟨⟨⟨0, rfl⟩, ⟨0, rfl⟩⟩, ⟨⟨0, rfl⟩, ⟨0, rfl⟩⟩⟩, ⟨1, rfl⟩⟩) (.br (!(F_impl_isCylindrical a0.kind)) (.leaf ⟨⟨⟨⟨0, rfl⟩, ⟨0, rfl⟩⟩, ⟨⟨0, rfl⟩, ⟨0, rfl⟩⟩⟩, ⟨1, rfl⟩⟩) (let c4 := F_impl_LonFrom a0 a1; let c5 := F_impl_LatOf a1; let c7 := F_impl_CosI (F_impl_RadiansOf a0.lat1); .br (a0.kind.val == 1) (let c9 := F_impl_planar (F_impl_MulI c4 c7) c5; .leaf ⟨c9.a, c9.b⟩) (.br (a0.kind.val == 3) (let c13 := F_impl_planar (F_impl_MulI c4 c7) (F_impl_DivI (F_impl_SinI c5) c7); .leaf ⟨c13.a, c13.b⟩) (.br (a0.kind.val == 4) (let c20 := F_impl_planar c4 (F_impl_MulI (F_impl_Quotient ⟨5, rfl⟩ ⟨4, rfl⟩) (F_impl_AsinhI (F_impl_TanI (F_impl_MulI (F_impl_Quotient ⟨4, rfl⟩ ⟨5, rfl⟩) c5)))); .leaf ⟨c20.a, c20.b⟩) (.br (F_impl_isPole a1) (.leaf ⟨⟨⟨⟨0, rfl⟩, ⟨0, rfl⟩⟩, ⟨⟨0, rfl⟩, ⟨0, rfl⟩⟩⟩, ⟨8, rfl⟩⟩) (let c24 := F_impl_planar c4 (F_impl_AsinhI (F_impl_TanI c5)); .leaf ⟨c24.a, c24.b⟩)))))))
theorem r_impl_CylinderForward (a0 : Proj) (a1 : Point) : Tb21.run B21 [enc a0, enc a1] (T2 Planar I64) = (t_impl_CylinderForward a0 a1).opt := by kernel_rfl
noncomputable def F_impl_CylinderForward : Proj → Point → T2 Planar I64 := fun a0 a1 => (t_impl_CylinderForward a0 a1).get
theorem u_impl_CylinderForward (a0 : Proj) (a1 : Point) : (t_impl_CylinderForward a0 a1).opt = some (F_impl_CylinderForward a0 a1) := Tr.tot_get (by kernel_rfl)
noncomputable def E_impl_CylinderForward : Ent Tryz.prog := .of2 Tb21 B21 (fun _ _ => true) F_impl_CylinderForward fun a0 a1 _ => (r_impl_CylinderForward a0 a1).trans (u_impl_CylinderForward a0 a1)
noncomputable def B22 : Bod Tryz.prog := ⟨22, Tryz.f22, Tryz.f22.body.getD .skip, Tryz.func22, by kernel_rfl, by kernel_rfl, Loops.no _ _⟩
noncomputable def Tb22 : Tb Tryz.prog := { T := [Y27, Y29], mix := mix, Es := [E_laws_eqInterval], Bs := [], d := 1 }
noncomputable def t_laws_eqPlanar (a0 : Planar) (a1 : Planar) : Tr (Bool) :=
  .br (!(F_laws_eqInterval a0.x a1.x)) (.leaf false) (.br (!(F_laws_eqInterval a0.y a1.y)) (.leaf false) (.leaf true))
theorem r_laws_eqPlanar (a0 : Planar) (a1 : Planar) : Tb22.run B22 [enc a0, enc a1] (Bool) = (t_laws_eqPlanar a0 a1).opt := by kernel_rfl
noncomputable def F_laws_eqPlanar : Planar → Planar → Bool := fun a0 a1 => (t_laws_eqPlanar a0 a1).get
theorem u_laws_eqPlanar (a0 : Planar) (a1 : Planar) : (t_laws_eqPlanar a0 a1).opt = some (F_laws_eqPlanar a0 a1) := Tr.tot_get (by kernel_rfl)
noncomputable def E_laws_eqPlanar : Ent Tryz.prog := .of2 Tb22 B22 (fun _ _ => true) F_laws_eqPlanar fun a0 a1 _ => (r_laws_eqPlanar a0 a1).trans (u_laws_eqPlanar a0 a1)
noncomputable def B3 : Bod Tryz.prog := ⟨3, Tryz.f3, Tryz.f3.body.getD .skip, Tryz.func3, by kernel_rfl, by kernel_rfl, Loops.no _ _⟩
noncomputable def Tb3 : Tb Tryz.prog := { T := [Y2, Y23, Y25, Y27, Y29], mix := mix, Es := [E_spec_CylinderForward, E_laws_toProjection, E_laws_toPoint, E_impl_CylinderForward, E_laws_eqPlanar], Bs := [], d := 1 }
noncomputable def t_laws_FnExactCylinderForward (a0 : Proj) (a1 : Point) : Tr (Bool) :=
  let c3 := F_spec_CylinderForward (F_laws_toProjection a0) (F_laws_toPoint a1); let c6 := F_impl_CylinderForward (F_laws_toProjection a0) (F_laws_toPoint a1); .br (!(F_laws_eqPlanar c6.a c3.a)) (.leaf false) (.br (c6.b.val != c3.b.val) (.leaf false) (.leaf true))
theorem r_laws_FnExactCylinderForward (a0 : Proj) (a1 : Point) : Tb3.run B3 [enc a0, enc a1] (Bool) = (t_laws_FnExactCylinderForward a0 a1).opt := by kernel_rfl
noncomputable def F_laws_FnExactCylinderForward : Proj → Point → Bool := fun a0 a1 => (t_laws_FnExactCylinderForward a0 a1).get
theorem u_laws_FnExactCylinderForward (a0 : Proj) (a1 : Point) : (t_laws_FnExactCylinderForward a0 a1).opt = some (F_laws_FnExactCylinderForward a0 a1) := Tr.tot_get (by kernel_rfl)
noncomputable def E_laws_FnExactCylinderForward : Ent Tryz.prog := .of2 Tb3 B3 (fun _ _ => true) F_laws_FnExactCylinderForward fun a0 a1 _ => (r_laws_FnExactCylinderForward a0 a1).trans (u_laws_FnExactCylinderForward a0 a1)
noncomputable def Y40 : TyE Tryz.prog := ⟨40, 4, (.struct [(0, 38, 2), (2, 38, 2)]), [.i64 ⟨0, rfl⟩, .i64 ⟨0, rfl⟩, .i64 ⟨0, rfl⟩, .i64 ⟨0, rfl⟩], false, by kernel_rfl, by kernel_rfl, by kernel_rfl, by kernel_rfl, by kernel_rfl, by kernel_rfl⟩
noncomputable def B24 : Bod Tryz.prog := ⟨24, Tryz.f24, Tryz.f24.body.getD .skip, Tryz.func24, by kernel_rfl, by kernel_rfl, Loops.no _ _⟩
noncomputable def Tb24 : Tb Tryz.prog := { T := [Y2, Y27, Y29, Y38, Y40], mix := mix, Es := [E_laws_toInterval], Bs := [], d := 1 }
noncomputable def t_laws_toPlanar (a0 : Planar) : Tr (Planar) :=
  .leaf ⟨(F_laws_toInterval a0.x), (F_laws_toInterval a0.y)⟩
theorem r_laws_toPlanar (a0 : Planar) : Tb24.run B24 [enc a0] (Planar) = (t_laws_toPlanar a0).opt := by kernel_rfl
noncomputable def F_laws_toPlanar : Planar → Planar := fun a0 => (t_laws_toPlanar a0).get
theorem u_laws_toPlanar (a0 : Planar) : (t_laws_toPlanar a0).opt = some (F_laws_toPlanar a0) := Tr.tot_get (by kernel_rfl)
noncomputable def E_laws_toPlanar : Ent Tryz.prog := .of1 Tb24 B24 (fun _ => true) F_laws_toPlanar fun a0 _ => (r_laws_toPlanar a0).trans (u_laws_toPlanar a0)
noncomputable def B87 : Bod Tryz.prog := ⟨87, Tryz.f87, Tryz.f87.body.getD .skip, Tryz.func87, by kernel_rfl, by kernel_rfl, Loops.no _ _⟩
noncomputable def Tb87 : Tb Tryz.prog := { T := [Y2, Y27, Y32], mix := mix, Es := [ET_spec_RadiansOf, E_spec_l04Ok, E_spec_OverlapI, E_spec_AddI, E_spec_l05Turn], Bs := [], d := 1 }
noncomputable def t_spec_l17Back (a0 : Proj) (a1 : Iv) (a2 : Iv) : Tr (T3 Iv Iv I64) :=
  .br (G_spec_l05Turn ⟨1, rfl⟩) (let c1 := F_spec_l05Turn ⟨1, rfl⟩; .br (G_spec_l05Turn ⟨2, rfl⟩) (let c2 := F_spec_l05Turn ⟨2, rfl⟩; .br (F_spec_l04Ok a1) (.br (!(F_spec_OverlapI a1 ⟨(Rng.w .i64 (0 - c1.hi.val)), c1.hi⟩)) (.leaf ⟨⟨⟨0, rfl⟩, ⟨0, rfl⟩⟩, ⟨⟨0, rfl⟩, ⟨0, rfl⟩⟩, ⟨8, rfl⟩⟩) (.br (F_spec_l04Ok a2) (.br (!(F_spec_OverlapI a2 ⟨(Rng.w .i64 (0 - c2.hi.val)), c2.hi⟩)) (.leaf ⟨⟨⟨0, rfl⟩, ⟨0, rfl⟩⟩, ⟨⟨0, rfl⟩, ⟨0, rfl⟩⟩, ⟨8, rfl⟩⟩) (let c10 := F_spec_AddI a2 (F_spec_RadiansOf a0.lon0); .br (!(F_spec_l04Ok a1)) (.leaf ⟨⟨⟨0, rfl⟩, ⟨0, rfl⟩⟩, ⟨⟨0, rfl⟩, ⟨0, rfl⟩⟩, ⟨9, rfl⟩⟩) (.br (!(F_spec_l04Ok c10)) (.leaf ⟨⟨⟨0, rfl⟩, ⟨0, rfl⟩⟩, ⟨⟨0, rfl⟩, ⟨0, rfl⟩⟩, ⟨9, rfl⟩⟩) (.leaf ⟨a1, c10, ⟨0, rfl⟩⟩)))) (let c14 := F_spec_AddI a2 (F_spec_RadiansOf a0.lon0); .br (!(F_spec_l04Ok a1)) (.leaf ⟨⟨⟨0, rfl⟩, ⟨0, rfl⟩⟩, ⟨⟨0, rfl⟩, ⟨0, rfl⟩⟩, ⟨9, rfl⟩⟩) (.br (!(F_spec_l04Ok c14)) (.leaf ⟨⟨⟨0, rfl⟩, ⟨0, rfl⟩⟩, ⟨⟨0, rfl⟩, ⟨0, rfl⟩⟩, ⟨9, rfl⟩⟩) (.leaf ⟨a1, c14, ⟨0, rfl⟩⟩))))) (.br (F_spec_l04Ok a2) (.br (!(F_spec_OverlapI a2 ⟨(Rng.w .i64 (0 - c2.hi.val)), c2.hi⟩)) (.leaf ⟨⟨⟨0, rfl⟩, ⟨0, rfl⟩⟩, ⟨⟨0, rfl⟩, ⟨0, rfl⟩⟩, ⟨8, rfl⟩⟩) (let c21 := F_spec_AddI a2 (F_spec_RadiansOf a0.lon0); .br (!(F_spec_l04Ok a1)) (.leaf ⟨⟨⟨0, rfl⟩, ⟨0, rfl⟩⟩, ⟨⟨0, rfl⟩, ⟨0, rfl⟩⟩, ⟨9, rfl⟩⟩) (.br (!(F_spec_l04Ok c21)) (.leaf ⟨⟨⟨0, rfl⟩, ⟨0, rfl⟩⟩, ⟨⟨0, rfl⟩, ⟨0, rfl⟩⟩, ⟨9, rfl⟩⟩) (.leaf ⟨a1, c21, ⟨0, rfl⟩⟩)))) (let c25 := F_spec_AddI a2 (F_spec_RadiansOf a0.lon0); .br (!(F_spec_l04Ok a1)) (.leaf ⟨⟨⟨0, rfl⟩, ⟨0, rfl⟩⟩, ⟨⟨0, rfl⟩, ⟨0, rfl⟩⟩, ⟨9, rfl⟩⟩) (.br (!(F_spec_l04Ok c25)) (.leaf ⟨⟨⟨0, rfl⟩, ⟨0, rfl⟩⟩, ⟨⟨0, rfl⟩, ⟨0, rfl⟩⟩, ⟨9, rfl⟩⟩) (.leaf ⟨a1, c25, ⟨0, rfl⟩⟩))))) (.bad)) (.bad)
theorem r_spec_l17Back (a0 : Proj) (a1 : Iv) (a2 : Iv) : Tb87.run B87 [enc a0, enc a1, enc a2] (T3 Iv Iv I64) = (t_spec_l17Back a0 a1 a2).opt := by kernel_rfl
noncomputable def F_spec_l17Back : Proj → Iv → Iv → T3 Iv Iv I64 := fun a0 a1 a2 => (t_spec_l17Back a0 a1 a2).get
noncomputable def G_spec_l17Back : Proj → Iv → Iv → Bool := fun a0 a1 a2 => (t_spec_l17Back a0 a1 a2).opt.isSome
noncomputable def E_spec_l17Back : Ent Tryz.prog := .of3 Tb87 B87 G_spec_l17Back F_spec_l17Back fun a0 a1 a2 h => (r_spec_l17Back a0 a1 a2).trans (Tr.get_some h)
noncomputable def B23 : Bod Tryz.prog := ⟨23, Tryz.f23, Tryz.f23.body.getD .skip, Tryz.func23, by kernel_rfl, by kernel_rfl, Loops.no _ _⟩
noncomputable def Tb23 : Tb Tryz.prog := { T := [Y2, Y27, Y29, Y32], mix := mix, Es := [E_spec_l17Cylinder, E_spec_CosI, ET_spec_RadiansOf, E_spec_MulI, E_spec_DivI, ET_spec_Quotient, E_spec_l17Back, E_spec_AtanI, E_spec_SinhI, E_spec_l04Ok, E_spec_OverlapI, E_spec_l06Ring, E_spec_AsinI], Bs := [], d := 1 }
noncomputable def t_spec_CylinderInverse (a0 : Proj) (a1 : Planar) : Tr (T3 Iv Iv I64) :=
  .br (!(F_spec_l17Cylinder a0)) (.leaf ⟨⟨⟨0, rfl⟩, ⟨0, rfl⟩⟩, ⟨⟨0, rfl⟩, ⟨0, rfl⟩⟩, ⟨1, rfl⟩⟩) (let c3 := F_spec_CosI (F_spec_RadiansOf a0.lat1); .br (a0.kind.val == 1) (let c4 := F_spec_DivI a1.x c3; .br (G_spec_l17Back a0 a1.y c4) (let c5 := F_spec_l17Back a0 a1.y c4; .leaf ⟨c5.a, c5.b, c5.c⟩) (.bad)) (.br (a0.kind.val == 2) (let c7 := F_spec_AtanI (F_spec_SinhI a1.y); .br (G_spec_l17Back a0 c7 a1.x) (let c8 := F_spec_l17Back a0 c7 a1.x; .leaf ⟨c8.a, c8.b, c8.c⟩) (.bad)) (.br (a0.kind.val == 3) (let c9 := F_spec_MulI a1.y c3; .br (F_spec_l04Ok c9) (.br (!(F_spec_OverlapI c9 F_spec_l06Ring)) (.leaf ⟨⟨⟨0, rfl⟩, ⟨0, rfl⟩⟩, ⟨⟨0, rfl⟩, ⟨0, rfl⟩⟩, ⟨8, rfl⟩⟩) (let c13 := F_spec_AsinI c9; let c14 := F_spec_DivI a1.x c3; .br (G_spec_l17Back a0 c13 c14) (let c15 := F_spec_l17Back a0 c13 c14; .leaf ⟨c15.a, c15.b, c15.c⟩) (.bad))) (let c16 := F_spec_AsinI c9; let c17 := F_spec_DivI a1.x c3; .br (G_spec_l17Back a0 c16 c17) (let c18 := F_spec_l17Back a0 c16 c17; .leaf ⟨c18.a, c18.b, c18.c⟩) (.bad))) (let c24 := F_spec_MulI (F_spec_Quotient ⟨5, rfl⟩ ⟨4, rfl⟩) (F_spec_AtanI (F_spec_SinhI (F_spec_MulI (F_spec_Quotient ⟨4, rfl⟩ ⟨5, rfl⟩) a1.y))); .br (G_spec_l17Back a0 c24 a1.x) (let c25 := F_spec_l17Back a0 c24 a1.x; .leaf ⟨c25.a, c25.b, c25.c⟩) (.bad)))))
theorem r_spec_CylinderInverse (a0 : Proj) (a1 : Planar) : Tb23.run B23 [enc a0, enc a1] (T3 Iv Iv I64) = (t_spec_CylinderInverse a0 a1).opt := by kernel_rfl
noncomputable def F_spec_CylinderInverse : Proj → Planar → T3 Iv Iv I64 := fun a0 a1 => (t_spec_CylinderInverse a0 a1).get
noncomputable def G_spec_CylinderInverse : Proj → Planar → Bool := fun a0 a1 => (t_spec_CylinderInverse a0 a1).opt.isSome
noncomputable def E_spec_CylinderInverse : Ent Tryz.prog := .of2 Tb23 B23 G_spec_CylinderInverse F_spec_CylinderInverse fun a0 a1 h => (r_spec_CylinderInverse a0 a1).trans (Tr.get_some h)
noncomputable def B226 : Bod Tryz.prog := ⟨226, Tryz.f226, Tryz.f226.body.getD .skip, Tryz.func226, by kernel_rfl, by kernel_rfl, Loops.no _ _⟩
noncomputable def Tb226 : Tb Tryz.prog := { T := [Y2, Y27], mix := mix, Es := [E_impl_OverlapI], Bs := [], d := 1 }
noncomputable def t_impl_overlapsAny (a0 : Iv) (a1 : I64) : Tr (Bool) :=
  .leaf (F_impl_OverlapI a0 ⟨(Rng.w .i64 (0 - a1.val)), a1⟩)
theorem r_impl_overlapsAny (a0 : Iv) (a1 : I64) : Tb226.run B226 [enc a0, enc a1] (Bool) = (t_impl_overlapsAny a0 a1).opt := by kernel_rfl
noncomputable def F_impl_overlapsAny : Iv → I64 → Bool := fun a0 a1 => (t_impl_overlapsAny a0 a1).get
theorem u_impl_overlapsAny (a0 : Iv) (a1 : I64) : (t_impl_overlapsAny a0 a1).opt = some (F_impl_overlapsAny a0 a1) := Tr.tot_get (by kernel_rfl)
noncomputable def E_impl_overlapsAny : Ent Tryz.prog := .of2 Tb226 B226 (fun _ _ => true) F_impl_overlapsAny fun a0 a1 _ => (r_impl_overlapsAny a0 a1).trans (u_impl_overlapsAny a0 a1)
noncomputable def B227 : Bod Tryz.prog := ⟨227, Tryz.f227, Tryz.f227.body.getD .skip, Tryz.func227, by kernel_rfl, by kernel_rfl, Loops.no _ _⟩
noncomputable def Tb227 : Tb Tryz.prog := { T := [Y2, Y27], mix := mix, Es := [E_impl_areBounded], Bs := [], d := 1 }
noncomputable def t_impl_pair (a0 : Iv) (a1 : Iv) : Tr (T3 Iv Iv I64) :=
  .br (!(F_impl_areBounded a0 a1)) (.leaf ⟨⟨⟨0, rfl⟩, ⟨0, rfl⟩⟩, ⟨⟨0, rfl⟩, ⟨0, rfl⟩⟩, ⟨9, rfl⟩⟩) (.leaf ⟨a0, a1, ⟨0, rfl⟩⟩)
theorem r_impl_pair (a0 : Iv) (a1 : Iv) : Tb227.run B227 [enc a0, enc a1] (T3 Iv Iv I64) = (t_impl_pair a0 a1).opt := by kernel_rfl
noncomputable def F_impl_pair : Iv → Iv → T3 Iv Iv I64 := fun a0 a1 => (t_impl_pair a0 a1).get
theorem u_impl_pair (a0 : Iv) (a1 : Iv) : (t_impl_pair a0 a1).opt = some (F_impl_pair a0 a1) := Tr.tot_get (by kernel_rfl)
noncomputable def E_impl_pair : Ent Tryz.prog := .of2 Tb227 B227 (fun _ _ => true) F_impl_pair fun a0 a1 _ => (r_impl_pair a0 a1).trans (u_impl_pair a0 a1)
noncomputable def B99 : Bod Tryz.prog := ⟨99, Tryz.f99, Tryz.f99.body.getD .skip, Tryz.func99, by kernel_rfl, by kernel_rfl, Loops.no _ _⟩
noncomputable def Tb99 : Tb Tryz.prog := { T := [Y2, Y27], mix := mix, Es := [ET_impl_RadiansOf, E_impl_quarter, ET_impl_TurnI, E_impl_AddI, E_impl_overlapsAny, E_impl_pair], Bs := [], d := 1 }
noncomputable def t_impl_onEarth (a0 : Iv) (a1 : Iv) (a2 : I64) : Tr (T3 Iv Iv I64) :=
  .br (!(F_impl_overlapsAny a0 F_impl_quarter)) (.leaf ⟨⟨⟨0, rfl⟩, ⟨0, rfl⟩⟩, ⟨⟨0, rfl⟩, ⟨0, rfl⟩⟩, ⟨8, rfl⟩⟩) (.br (!(F_impl_overlapsAny a1 (F_impl_TurnI ⟨2, rfl⟩).hi)) (.leaf ⟨⟨⟨0, rfl⟩, ⟨0, rfl⟩⟩, ⟨⟨0, rfl⟩, ⟨0, rfl⟩⟩, ⟨8, rfl⟩⟩) (let c7 := F_impl_pair a0 (F_impl_AddI a1 (F_impl_RadiansOf a2)); .leaf ⟨c7.a, c7.b, c7.c⟩))
theorem r_impl_onEarth (a0 : Iv) (a1 : Iv) (a2 : I64) : Tb99.run B99 [enc a0, enc a1, enc a2] (T3 Iv Iv I64) = (t_impl_onEarth a0 a1 a2).opt := by kernel_rfl
noncomputable def F_impl_onEarth : Iv → Iv → I64 → T3 Iv Iv I64 := fun a0 a1 a2 => (t_impl_onEarth a0 a1 a2).get
theorem u_impl_onEarth (a0 : Iv) (a1 : Iv) (a2 : I64) : (t_impl_onEarth a0 a1 a2).opt = some (F_impl_onEarth a0 a1 a2) := Tr.tot_get (by kernel_rfl)
noncomputable def E_impl_onEarth : Ent Tryz.prog := .of3 Tb99 B99 (fun _ _ _ => true) F_impl_onEarth fun a0 a1 a2 _ => (r_impl_onEarth a0 a1 a2).trans (u_impl_onEarth a0 a1 a2)
noncomputable def B25 : Bod Tryz.prog := ⟨25, Tryz.f25, Tryz.f25.body.getD .skip, Tryz.func25, by kernel_rfl, by kernel_rfl, Loops.no _ _⟩
noncomputable def Tb25 : Tb Tryz.prog := { T := [Y2, Y27, Y29, Y32], mix := mix, Es := [E_impl_ValidProjection, E_impl_isCylindrical, E_impl_CosI, ET_impl_RadiansOf, ET_impl_MulI, E_impl_DivI, ET_impl_Quotient, E_impl_AtanI, E_impl_SinhI, E_impl_OverlapI, E_impl_ring, E_impl_AsinI, E_impl_onEarth], Bs := [], d := 1 }
noncomputable def t_impl_CylinderInverse (a0 : Proj) (a1 : Planar) : Tr (T3 Iv Iv I64) :=
  .br (!(F_impl_ValidProjection a0)) (.leaf ⟨⟨⟨0, rfl⟩, ⟨0, rfl⟩⟩, ⟨⟨0, rfl⟩, ⟨0, rfl⟩⟩, ⟨1, rfl⟩⟩) (.br (!(F_impl_isCylindrical a0.kind)) (.leaf ⟨⟨⟨0, rfl⟩, ⟨0, rfl⟩⟩, ⟨⟨0, rfl⟩, ⟨0, rfl⟩⟩, ⟨1, rfl⟩⟩) (let c4 := F_impl_CosI (F_impl_RadiansOf a0.lat1); .br (a0.kind.val == 1) (let c6 := F_impl_onEarth a1.y (F_impl_DivI a1.x c4) a0.lon0; .leaf ⟨c6.a, c6.b, c6.c⟩) (.br (a0.kind.val == 2) (let c9 := F_impl_onEarth (F_impl_AtanI (F_impl_SinhI a1.y)) a1.x a0.lon0; .leaf ⟨c9.a, c9.b, c9.c⟩) (.br (a0.kind.val == 3) (let c10 := F_impl_MulI a1.y c4; .br (!(F_impl_OverlapI c10 F_impl_ring)) (.leaf ⟨⟨⟨0, rfl⟩, ⟨0, rfl⟩⟩, ⟨⟨0, rfl⟩, ⟨0, rfl⟩⟩, ⟨8, rfl⟩⟩) (let c15 := F_impl_onEarth (F_impl_AsinI c10) (F_impl_DivI a1.x c4) a0.lon0; .leaf ⟨c15.a, c15.b, c15.c⟩)) (let c22 := F_impl_onEarth (F_impl_MulI (F_impl_Quotient ⟨5, rfl⟩ ⟨4, rfl⟩) (F_impl_AtanI (F_impl_SinhI (F_impl_MulI (F_impl_Quotient ⟨4, rfl⟩ ⟨5, rfl⟩) a1.y)))) a1.x a0.lon0; .leaf ⟨c22.a, c22.b, c22.c⟩)))))
theorem r_impl_CylinderInverse (a0 : Proj) (a1 : Planar) : Tb25.run B25 [enc a0, enc a1] (T3 Iv Iv I64) = (t_impl_CylinderInverse a0 a1).opt := by kernel_rfl
noncomputable def F_impl_CylinderInverse : Proj → Planar → T3 Iv Iv I64 := fun a0 a1 => (t_impl_CylinderInverse a0 a1).get
theorem u_impl_CylinderInverse (a0 : Proj) (a1 : Planar) : (t_impl_CylinderInverse a0 a1).opt = some (F_impl_CylinderInverse a0 a1) := Tr.tot_get (by kernel_rfl)
noncomputable def E_impl_CylinderInverse : Ent Tryz.prog := .of2 Tb25 B25 (fun _ _ => true) F_impl_CylinderInverse fun a0 a1 _ => (r_impl_CylinderInverse a0 a1).trans (u_impl_CylinderInverse a0 a1)
noncomputable def B4 : Bod Tryz.prog := ⟨4, Tryz.f4, Tryz.f4.body.getD .skip, Tryz.func4, by kernel_rfl, by kernel_rfl, Loops.no _ _⟩
noncomputable def Tb4 : Tb Tryz.prog := { T := [Y2, Y23, Y27, Y40], mix := mix, Es := [E_laws_toProjection, E_spec_CylinderInverse, E_laws_toPlanar, E_impl_CylinderInverse, E_laws_eqInterval], Bs := [], d := 1 }
noncomputable def t_laws_FnExactCylinderInverse (a0 : Proj) (a1 : Planar) : Tr (Bool) :=
  let c1 := F_laws_toProjection a0; let c2 := F_laws_toPlanar a1; .br (G_spec_CylinderInverse c1 c2) (let c3 := F_spec_CylinderInverse c1 c2; let c6 := F_impl_CylinderInverse (F_laws_toProjection a0) (F_laws_toPlanar a1); .br (!(F_laws_eqInterval c6.a c3.a)) (.leaf false) (.br (!(F_laws_eqInterval c6.b c3.b)) (.leaf false) (.br (c6.c.val != c3.c.val) (.leaf false) (.leaf true)))) (.bad)
theorem r_laws_FnExactCylinderInverse (a0 : Proj) (a1 : Planar) : Tb4.run B4 [enc a0, enc a1] (Bool) = (t_laws_FnExactCylinderInverse a0 a1).opt := by kernel_rfl
noncomputable def F_laws_FnExactCylinderInverse : Proj → Planar → Bool := fun a0 a1 => (t_laws_FnExactCylinderInverse a0 a1).get
noncomputable def G_laws_FnExactCylinderInverse : Proj → Planar → Bool := fun a0 a1 => (t_laws_FnExactCylinderInverse a0 a1).opt.isSome
noncomputable def E_laws_FnExactCylinderInverse : Ent Tryz.prog := .of2 Tb4 B4 G_laws_FnExactCylinderInverse F_laws_FnExactCylinderInverse fun a0 a1 h => (r_laws_FnExactCylinderInverse a0 a1).trans (Tr.get_some h)
noncomputable def B43 : Bod Tryz.prog := ⟨43, Tryz.f43, Tryz.f43.body.getD .skip, Tryz.func43, by kernel_rfl, by kernel_rfl, Loops.no _ _⟩
noncomputable def Tb43 : Tb Tryz.prog := { T := [Y2, Y27], mix := mix, Es := [E_spec_MulI, ET_spec_TanI, E_spec_SinI, E_spec_Integer, E_spec_HalfI, E_spec_Whole], Bs := [], d := 1 }
noncomputable def t_spec_AzimuthalRadius (a0 : I64) (a1 : Iv) : Tr (Iv) :=
  .br (a0.val == 5) (.leaf (F_spec_TanI a1)) (.br (a0.val == 6) (.leaf (F_spec_MulI (F_spec_Integer ⟨2, rfl⟩) (F_spec_TanI (F_spec_HalfI a1)))) (.br (a0.val == 7) (.leaf (F_spec_SinI a1)) (.br (a0.val == 8) (.leaf a1) (.br (a0.val == 9) (.leaf (F_spec_MulI (F_spec_Integer ⟨2, rfl⟩) (F_spec_SinI (F_spec_HalfI a1)))) (.leaf F_spec_Whole)))))
theorem r_spec_AzimuthalRadius (a0 : I64) (a1 : Iv) : Tb43.run B43 [enc a0, enc a1] (Iv) = (t_spec_AzimuthalRadius a0 a1).opt := by kernel_rfl
noncomputable def F_spec_AzimuthalRadius : I64 → Iv → Iv := fun a0 a1 => (t_spec_AzimuthalRadius a0 a1).get
theorem u_spec_AzimuthalRadius (a0 : I64) (a1 : Iv) : (t_spec_AzimuthalRadius a0 a1).opt = some (F_spec_AzimuthalRadius a0 a1) := Tr.tot_get (by kernel_rfl)
noncomputable def E_spec_AzimuthalRadius : Ent Tryz.prog := .of2 Tb43 B43 (fun _ _ => true) F_spec_AzimuthalRadius fun a0 a1 _ => (r_spec_AzimuthalRadius a0 a1).trans (u_spec_AzimuthalRadius a0 a1)
noncomputable def B44 : Bod Tryz.prog := ⟨44, Tryz.f44, Tryz.f44.body.getD .skip, Tryz.func44, by kernel_rfl, by kernel_rfl, Loops.no _ _⟩
noncomputable def Tb44 : Tb Tryz.prog := { T := [Y2, Y27], mix := mix, Es := [E_impl_SinI, E_impl_TanI, E_impl_Whole, E_impl_times, E_impl_HalfI], Bs := [], d := 1 }
noncomputable def t_impl_AzimuthalRadius (a0 : I64) (a1 : Iv) : Tr (Iv) :=
  .br (a0.val == 5) (.leaf (F_impl_TanI a1)) (.br (a0.val == 6) (.leaf (F_impl_times ⟨2, rfl⟩ (F_impl_TanI (F_impl_HalfI a1)))) (.br (a0.val == 7) (.leaf (F_impl_SinI a1)) (.br (a0.val == 8) (.leaf a1) (.br (a0.val == 9) (.leaf (F_impl_times ⟨2, rfl⟩ (F_impl_SinI (F_impl_HalfI a1)))) (.leaf F_impl_Whole)))))
theorem r_impl_AzimuthalRadius (a0 : I64) (a1 : Iv) : Tb44.run B44 [enc a0, enc a1] (Iv) = (t_impl_AzimuthalRadius a0 a1).opt := by kernel_rfl
noncomputable def F_impl_AzimuthalRadius : I64 → Iv → Iv := fun a0 a1 => (t_impl_AzimuthalRadius a0 a1).get
theorem u_impl_AzimuthalRadius (a0 : I64) (a1 : Iv) : (t_impl_AzimuthalRadius a0 a1).opt = some (F_impl_AzimuthalRadius a0 a1) := Tr.tot_get (by kernel_rfl)
noncomputable def E_impl_AzimuthalRadius : Ent Tryz.prog := .of2 Tb44 B44 (fun _ _ => true) F_impl_AzimuthalRadius fun a0 a1 _ => (r_impl_AzimuthalRadius a0 a1).trans (u_impl_AzimuthalRadius a0 a1)
noncomputable def B12 : Bod Tryz.prog := ⟨12, Tryz.f12, Tryz.f12.body.getD .skip, Tryz.func12, by kernel_rfl, by kernel_rfl, Loops.no _ _⟩
noncomputable def Tb12 : Tb Tryz.prog := { T := [Y2, Y27, Y38], mix := mix, Es := [E_laws_eqInterval, E_laws_toInterval, E_spec_AzimuthalRadius, E_impl_AzimuthalRadius], Bs := [], d := 1 }
noncomputable def t_laws_FnExactAzimuthalRadius (a0 : I64) (a1 : Iv) : Tr (Bool) :=
  .br (!(F_laws_eqInterval (F_impl_AzimuthalRadius a0 (F_laws_toInterval a1)) (F_spec_AzimuthalRadius a0 (F_laws_toInterval a1)))) (.leaf false) (.leaf true)
theorem r_laws_FnExactAzimuthalRadius (a0 : I64) (a1 : Iv) : Tb12.run B12 [enc a0, enc a1] (Bool) = (t_laws_FnExactAzimuthalRadius a0 a1).opt := by kernel_rfl
noncomputable def F_laws_FnExactAzimuthalRadius : I64 → Iv → Bool := fun a0 a1 => (t_laws_FnExactAzimuthalRadius a0 a1).get
theorem u_laws_FnExactAzimuthalRadius (a0 : I64) (a1 : Iv) : (t_laws_FnExactAzimuthalRadius a0 a1).opt = some (F_laws_FnExactAzimuthalRadius a0 a1) := Tr.tot_get (by kernel_rfl)
noncomputable def E_laws_FnExactAzimuthalRadius : Ent Tryz.prog := .of2 Tb12 B12 (fun _ _ => true) F_laws_FnExactAzimuthalRadius fun a0 a1 _ => (r_laws_FnExactAzimuthalRadius a0 a1).trans (u_laws_FnExactAzimuthalRadius a0 a1)
end
end Go.Proofs.YtecfhpgpojgjkaaGreat.Ev
