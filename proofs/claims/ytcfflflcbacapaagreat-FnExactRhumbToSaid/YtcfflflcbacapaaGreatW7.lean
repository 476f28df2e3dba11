import Derived.Test.YtcfflflcbacapaaGreatW6
import Derived.Test.YtcfflflcbacapaaGreatPL
namespace Go.Proofs.YtcfflflcbacapaaGreat.Ev
open Go Go.RowKit
set_option maxRecDepth 100000
set_option linter.unusedVariables false
section
noncomputable def ET_impl_NormV : Ent Tryz.prog := .of1 Tb109 B109 (fun _ => true) F_impl_NormV fun a0 _ => (r_impl_NormV a0).trans (tt_norm_impl a0)
noncomputable def ET_spec_LogAt : Ent Tryz.prog := .of1 Tb307 B307 (fun _ => true) F_spec_LogAt fun a0 _ => (r_spec_LogAt a0).trans (tt_logAt_spec a0)
noncomputable def ET_impl_LogAt : Ent Tryz.prog := .of1 Tb272 B272 (fun _ => true) F_impl_LogAt fun a0 _ => (r_impl_LogAt a0).trans (tt_logAt_impl a0)
noncomputable def Y50 : TyE Tryz.prog := ⟨50, 3, (.struct [(0, 2, 1), (1, 2, 1), (2, 2, 1)]), [.i64 ⟨0, rfl⟩, .i64 ⟨0, rfl⟩, .i64 ⟨0, rfl⟩], true, by kernel_rfl, by kernel_rfl, by kernel_rfl, by kernel_rfl, by kernel_rfl, by kernel_rfl⟩
noncomputable def B130 : Bod Tryz.prog := ⟨130, Tryz.f130, Tryz.f130.body.getD .skip, Tryz.func130, by kernel_rfl, by kernel_rfl, Loops.no _ _⟩
noncomputable def Tb130 : Tb Tryz.prog := { T := [Y2, Y50], mix := mix, Es := [E_spec_l00In], Bs := [], d := 1 }
noncomputable def t_spec_l12Ok (a0 : Ell) : Tr (Bool) :=
  .br (F_spec_l00In a0.a ⟨1000, rfl⟩ ⟨100000000000, rfl⟩) (.br (F_spec_l00In a0.den ⟨1, rfl⟩ ⟨1000000000000, rfl⟩) (.br (decide (a0.num.val ≥ 0)) (.leaf (decide (a0.num.val ≤ (Rng.w .i64 (a0.den.val.tdiv 100)).val))) (.leaf false)) (.leaf false)) (.leaf false)
theorem r_spec_l12Ok (a0 : Ell) : Tb130.run B130 [enc a0] (Bool) = (t_spec_l12Ok a0).opt := by kernel_rfl
noncomputable def F_spec_l12Ok : Ell → Bool := fun a0 => (t_spec_l12Ok a0).get
theorem u_spec_l12Ok (a0 : Ell) : (t_spec_l12Ok a0).opt = some (F_spec_l12Ok a0) := Tr.tot_get (by kernel_rfl)
noncomputable def E_spec_l12Ok : Ent Tryz.prog := .of1 Tb130 B130 (fun _ => true) F_spec_l12Ok fun a0 _ => (r_spec_l12Ok a0).trans (u_spec_l12Ok a0)
noncomputable def B117 : Bod Tryz.prog := ⟨117, Tryz.f117, Tryz.f117.body.getD .skip, Tryz.func117, by kernel_rfl, by kernel_rfl, Loops.no _ _⟩
noncomputable def Tb117 : Tb Tryz.prog := { T := [Y2, Y27, Y50], mix := mix, Es := [ET_spec_Quotient, E_spec_l12Ok, E_spec_l04Whole], Bs := [], d := 1 }
noncomputable def t_spec_MajorI (a0 : Ell) : Tr (Iv) :=
  .br (!(F_spec_l12Ok a0)) (.leaf F_spec_l04Whole) (.leaf (F_spec_Quotient a0.a ⟨1000, rfl⟩))
theorem r_spec_MajorI (a0 : Ell) : Tb117.run B117 [enc a0] (Iv) = (t_spec_MajorI a0).opt := by kernel_rfl
noncomputable def F_spec_MajorI : Ell → Iv := fun a0 => (t_spec_MajorI a0).get
theorem u_spec_MajorI (a0 : Ell) : (t_spec_MajorI a0).opt = some (F_spec_MajorI a0) := Tr.tot_get (by kernel_rfl)
noncomputable def E_spec_MajorI : Ent Tryz.prog := .of1 Tb117 B117 (fun _ => true) F_spec_MajorI fun a0 _ => (r_spec_MajorI a0).trans (u_spec_MajorI a0)
noncomputable def B209 : Bod Tryz.prog := ⟨209, Tryz.f209, Tryz.f209.body.getD .skip, Tryz.func209, by kernel_rfl, by kernel_rfl, Loops.no _ _⟩
noncomputable def Tb209 : Tb Tryz.prog := { T := [Y2, Y27, Y50], mix := mix, Es := [ET_spec_Quotient, E_spec_l12Ok, E_spec_l04Whole], Bs := [], d := 1 }
noncomputable def t_spec_FlatteningI (a0 : Ell) : Tr (Iv) :=
  .br (!(F_spec_l12Ok a0)) (.leaf F_spec_l04Whole) (.leaf (F_spec_Quotient a0.num a0.den))
theorem r_spec_FlatteningI (a0 : Ell) : Tb209.run B209 [enc a0] (Iv) = (t_spec_FlatteningI a0).opt := by kernel_rfl
noncomputable def F_spec_FlatteningI : Ell → Iv := fun a0 => (t_spec_FlatteningI a0).get
theorem u_spec_FlatteningI (a0 : Ell) : (t_spec_FlatteningI a0).opt = some (F_spec_FlatteningI a0) := Tr.tot_get (by kernel_rfl)
noncomputable def E_spec_FlatteningI : Ent Tryz.prog := .of1 Tb209 B209 (fun _ => true) F_spec_FlatteningI fun a0 _ => (r_spec_FlatteningI a0).trans (u_spec_FlatteningI a0)
noncomputable def B115 : Bod Tryz.prog := ⟨115, Tryz.f115, Tryz.f115.body.getD .skip, Tryz.func115, by kernel_rfl, by kernel_rfl, Loops.no _ _⟩
noncomputable def Tb115 : Tb Tryz.prog := { T := [Y2, Y27, Y50], mix := mix, Es := [E_spec_MulI, E_spec_Integer, E_spec_SubI, E_spec_FlatteningI], Bs := [], d := 1 }
noncomputable def t_spec_EccI (a0 : Ell) : Tr (Iv) :=
  let c1 := F_spec_FlatteningI a0; .leaf (F_spec_MulI c1 (F_spec_SubI (F_spec_Integer ⟨2, rfl⟩) c1))
theorem r_spec_EccI (a0 : Ell) : Tb115.run B115 [enc a0] (Iv) = (t_spec_EccI a0).opt := by kernel_rfl
noncomputable def F_spec_EccI : Ell → Iv := fun a0 => (t_spec_EccI a0).get
theorem u_spec_EccI (a0 : Ell) : (t_spec_EccI a0).opt = some (F_spec_EccI a0) := Tr.tot_get (by kernel_rfl)
noncomputable def E_spec_EccI : Ent Tryz.prog := .of1 Tb115 B115 (fun _ => true) F_spec_EccI fun a0 _ => (r_spec_EccI a0).trans (u_spec_EccI a0)
noncomputable def B254 : Bod Tryz.prog := ⟨254, Tryz.f254, Tryz.f254.body.getD .skip, Tryz.func254, by kernel_rfl, by kernel_rfl, Loops.no _ _⟩
noncomputable def Tb254 : Tb Tryz.prog := { T := [Y2, Y27, Y50], mix := mix, Es := [E_spec_MulI, E_spec_Integer, E_spec_SinI, E_spec_SubI, E_spec_EccI, E_spec_SqrI], Bs := [], d := 1 }
noncomputable def t_spec_l12W (a0 : Ell) (a1 : Iv) : Tr (Iv) :=
  .leaf (F_spec_SubI (F_spec_Integer ⟨1, rfl⟩) (F_spec_MulI (F_spec_EccI a0) (F_spec_SqrI (F_spec_SinI a1))))
theorem r_spec_l12W (a0 : Ell) (a1 : Iv) : Tb254.run B254 [enc a0, enc a1] (Iv) = (t_spec_l12W a0 a1).opt := by kernel_rfl
noncomputable def F_spec_l12W : Ell → Iv → Iv := fun a0 a1 => (t_spec_l12W a0 a1).get
theorem u_spec_l12W (a0 : Ell) (a1 : Iv) : (t_spec_l12W a0 a1).opt = some (F_spec_l12W a0 a1) := Tr.tot_get (by kernel_rfl)
noncomputable def E_spec_l12W : Ent Tryz.prog := .of2 Tb254 B254 (fun _ _ => true) F_spec_l12W fun a0 a1 _ => (r_spec_l12W a0 a1).trans (u_spec_l12W a0 a1)
noncomputable def B192 : Bod Tryz.prog := ⟨192, Tryz.f192, Tryz.f192.body.getD .skip, Tryz.func192, by kernel_rfl, by kernel_rfl, Loops.no _ _⟩
noncomputable def Tb192 : Tb Tryz.prog := { T := [Y2, Y27, Y50], mix := mix, Es := [E_spec_DivI, ET_spec_SqrtI, E_spec_MajorI, E_spec_l12W], Bs := [], d := 1 }
noncomputable def t_spec_RadiusN (a0 : Ell) (a1 : Iv) : Tr (Iv) :=
  .leaf (F_spec_DivI (F_spec_MajorI a0) (F_spec_SqrtI (F_spec_l12W a0 a1)))
theorem r_spec_RadiusN (a0 : Ell) (a1 : Iv) : Tb192.run B192 [enc a0, enc a1] (Iv) = (t_spec_RadiusN a0 a1).opt := by kernel_rfl
noncomputable def F_spec_RadiusN : Ell → Iv → Iv := fun a0 a1 => (t_spec_RadiusN a0 a1).get
theorem u_spec_RadiusN (a0 : Ell) (a1 : Iv) : (t_spec_RadiusN a0 a1).opt = some (F_spec_RadiusN a0 a1) := Tr.tot_get (by kernel_rfl)
noncomputable def E_spec_RadiusN : Ent Tryz.prog := .of2 Tb192 B192 (fun _ _ => true) F_spec_RadiusN fun a0 a1 _ => (r_spec_RadiusN a0 a1).trans (u_spec_RadiusN a0 a1)
noncomputable def B97 : Bod Tryz.prog := ⟨97, Tryz.f97, Tryz.f97.body.getD .skip, Tryz.func97, by kernel_rfl, by kernel_rfl, Loops.no _ _⟩
noncomputable def Tb97_p : Tb Tryz.prog := { T := [Y2, Y27, Y29, Y34, Y50, Y58], mix := mix, Es := [E_spec_MulI, E_spec_Integer, E_spec_CosI, ET_spec_RadiansOf, ET_spec_Quotient, E_spec_AddI, E_spec_SinI, E_spec_SubI, E_spec_EccI, E_spec_RadiusN], Bs := [], d := 1 }
noncomputable def t_spec_l14To_p (a0 : Ell) (d0 : Place) : Tr (Vec) :=
  let c1 := F_spec_RadiansOf d0.pt.lat; let c2 := F_spec_RadiansOf d0.pt.lon; let c3 := F_spec_RadiusN a0 c1; let c4 := F_spec_Quotient d0.h ⟨1000, rfl⟩; let c7 := F_spec_MulI (F_spec_AddI c3 c4) (F_spec_CosI c1); .leaf ⟨(F_spec_MulI c7 (F_spec_CosI c2)), (F_spec_MulI c7 (F_spec_SinI c2)), (F_spec_MulI (F_spec_AddI (F_spec_MulI c3 (F_spec_SubI (F_spec_Integer ⟨1, rfl⟩) (F_spec_EccI a0))) c4) (F_spec_SinI c1))⟩
theorem r_spec_l14To_p (a0 : Ell) (d0 : Place) : capRun Tb97_p B97 [enc a0, .ptr 0 0] [(0, Cap.ec d0)] 1 (Vec) = (t_spec_l14To_p a0 d0).opt := by kernel_rfl
noncomputable def F_spec_l14To_p : Ell → Place → Vec := fun a0 d0 => (t_spec_l14To_p a0 d0).get
noncomputable def G_spec_l14To_p : Ell → Place → Bool := fun a0 d0 => (t_spec_l14To_p a0 d0).opt.isSome
theorem u_spec_l14To_p (a0 : Ell) (d0 : Place) : (t_spec_l14To_p a0 d0).opt = some (F_spec_l14To_p a0 d0) := Tr.tot_get (by kernel_rfl)
noncomputable def E_spec_l14To_p : Ent Tryz.prog := .cap1 Tb97_p B97 (fun _ _ => true) F_spec_l14To_p fun a0 d0 _ => (r_spec_l14To_p a0 d0).trans (u_spec_l14To_p a0 d0)
noncomputable def B142 : Bod Tryz.prog := ⟨142, Tryz.f142, Tryz.f142.body.getD .skip, Tryz.func142, by kernel_rfl, by kernel_rfl, Loops.no _ _⟩
noncomputable def Tb142 : Tb Tryz.prog := { T := [], mix := mix, Es := [E_spec_l00In], Bs := [], d := 1 }
noncomputable def t_spec_l18Kind (a0 : I64) : Tr (Bool) :=
  .leaf (F_spec_l00In a0 ⟨5, rfl⟩ ⟨9, rfl⟩)
theorem r_spec_l18Kind (a0 : I64) : Tb142.run B142 [enc a0] (Bool) = (t_spec_l18Kind a0).opt := by kernel_rfl
noncomputable def F_spec_l18Kind : I64 → Bool := fun a0 => (t_spec_l18Kind a0).get
theorem u_spec_l18Kind (a0 : I64) : (t_spec_l18Kind a0).opt = some (F_spec_l18Kind a0) := Tr.tot_get (by kernel_rfl)
noncomputable def E_spec_l18Kind : Ent Tryz.prog := .of1 Tb142 B142 (fun _ => true) F_spec_l18Kind fun a0 _ => (r_spec_l18Kind a0).trans (u_spec_l18Kind a0)
noncomputable def B47 : Bod Tryz.prog := ⟨47, Tryz.f47, Tryz.f47.body.getD .skip, Tryz.func47, by kernel_rfl, by kernel_rfl, Loops.no _ _⟩
noncomputable def B49 : Bod Tryz.prog := ⟨49, Tryz.f49, Tryz.f49.body.getD .skip, Tryz.func49, by kernel_rfl, by kernel_rfl, Loops.no _ _⟩
noncomputable def B15 : Bod Tryz.prog := ⟨15, Tryz.f15, Tryz.f15.body.getD .skip, Tryz.func15, by kernel_rfl, by kernel_rfl, Loops.no _ _⟩
noncomputable def Tb15 : Tb Tryz.prog := { T := [Y2, Y27, Y29, Y32, Y34], mix := mix, Es := [E_spec_l11Ok, E_spec_MulI, E_spec_CosI, ET_spec_RadiansOf, E_spec_AddI, E_spec_SinI, E_spec_SubI, E_spec_l11Wrap, E_spec_l18Kind, E_spec_ValidProjection], Bs := [B47, B49], d := 8 }
noncomputable def t_spec_LocalOf (a0 : Proj) (a1 : Point) : Tr (T2 Vec I64) :=
  .br (F_spec_l18Kind a0.kind) (.br (!(F_spec_ValidProjection a0)) (.leaf ⟨⟨⟨⟨0, rfl⟩, ⟨0, rfl⟩⟩, ⟨⟨0, rfl⟩, ⟨0, rfl⟩⟩, ⟨⟨0, rfl⟩, ⟨0, rfl⟩⟩⟩, ⟨1, rfl⟩⟩) (.br (!(F_spec_l11Ok a1)) (.leaf ⟨⟨⟨⟨0, rfl⟩, ⟨0, rfl⟩⟩, ⟨⟨0, rfl⟩, ⟨0, rfl⟩⟩, ⟨⟨0, rfl⟩, ⟨0, rfl⟩⟩⟩, ⟨1, rfl⟩⟩) (let c4 := F_spec_RadiansOf a0.lat0; let c5 := F_spec_RadiansOf a1.lat; let c8 := F_spec_RadiansOf (F_spec_l11Wrap (Rng.w .i64 (a1.lon.val - a0.lon0.val))); .leaf ⟨⟨(F_spec_MulI (F_spec_CosI c5) (F_spec_SinI c8)), (F_spec_SubI (F_spec_MulI (F_spec_CosI c4) (F_spec_SinI c5)) (F_spec_MulI (F_spec_MulI (F_spec_SinI c4) (F_spec_CosI c5)) (F_spec_CosI c8))), (F_spec_AddI (F_spec_MulI (F_spec_SinI c4) (F_spec_SinI c5)) (F_spec_MulI (F_spec_MulI (F_spec_CosI c4) (F_spec_CosI c5)) (F_spec_CosI c8)))⟩, ⟨0, rfl⟩⟩))) (.leaf ⟨⟨⟨⟨0, rfl⟩, ⟨0, rfl⟩⟩, ⟨⟨0, rfl⟩, ⟨0, rfl⟩⟩, ⟨⟨0, rfl⟩, ⟨0, rfl⟩⟩⟩, ⟨1, rfl⟩⟩)
theorem r_spec_LocalOf (a0 : Proj) (a1 : Point) : Tb15.run B15 [enc a0, enc a1] (T2 Vec I64) = (t_spec_LocalOf a0 a1).opt := by kernel_rfl
noncomputable def F_spec_LocalOf : Proj → Point → T2 Vec I64 := fun a0 a1 => (t_spec_LocalOf a0 a1).get
theorem u_spec_LocalOf (a0 : Proj) (a1 : Point) : (t_spec_LocalOf a0 a1).opt = some (F_spec_LocalOf a0 a1) := Tr.tot_get (by kernel_rfl)
noncomputable def E_spec_LocalOf : Ent Tryz.prog := .of2 Tb15 B15 (fun _ _ => true) F_spec_LocalOf fun a0 a1 _ => (r_spec_LocalOf a0 a1).trans (u_spec_LocalOf a0 a1)
noncomputable def B50 : Bod Tryz.prog := ⟨50, Tryz.f50, Tryz.f50.body.getD .skip, Tryz.func50, by kernel_rfl, by kernel_rfl, Loops.no _ _⟩
noncomputable def Tb50 : Tb Tryz.prog := { T := [Y2, Y32], mix := mix, Es := [E_impl_ValidProjection, E_impl_isAzimuthal], Bs := [], d := 1 }
noncomputable def t_impl_isAzimuthalOne (a0 : Proj) : Tr (Bool) :=
  .br (F_impl_ValidProjection a0) (.leaf (F_impl_isAzimuthal a0.kind)) (.leaf false)
theorem r_impl_isAzimuthalOne (a0 : Proj) : Tb50.run B50 [enc a0] (Bool) = (t_impl_isAzimuthalOne a0).opt := by kernel_rfl
noncomputable def F_impl_isAzimuthalOne : Proj → Bool := fun a0 => (t_impl_isAzimuthalOne a0).get
theorem u_impl_isAzimuthalOne (a0 : Proj) : (t_impl_isAzimuthalOne a0).opt = some (F_impl_isAzimuthalOne a0) := Tr.tot_get (by kernel_rfl)
noncomputable def E_impl_isAzimuthalOne : Ent Tryz.prog := .of1 Tb50 B50 (fun _ => true) F_impl_isAzimuthalOne fun a0 _ => (r_impl_isAzimuthalOne a0).trans (u_impl_isAzimuthalOne a0)
noncomputable def B54 : Bod Tryz.prog := ⟨54, Tryz.f54, Tryz.f54.body.getD .skip, Tryz.func54, by kernel_rfl, by kernel_rfl, Loops.no _ _⟩
noncomputable def Tb54 : Tb Tryz.prog := { T := [Y2, Y32, Y34], mix := mix, Es := [], Bs := [], d := 1 }
noncomputable def t_impl_Projection_centre (a0 : Proj) : Tr (Point) :=
  .leaf ⟨a0.lat0, a0.lon0⟩
theorem r_impl_Projection_centre (a0 : Proj) : Tb54.run B54 [enc a0] (Point) = (t_impl_Projection_centre a0).opt := by kernel_rfl
noncomputable def F_impl_Projection_centre : Proj → Point := fun a0 => (t_impl_Projection_centre a0).get
theorem u_impl_Projection_centre (a0 : Proj) : (t_impl_Projection_centre a0).opt = some (F_impl_Projection_centre a0) := Tr.tot_get (by kernel_rfl)
noncomputable def E_impl_Projection_centre : Ent Tryz.prog := .of1 Tb54 B54 (fun _ => true) F_impl_Projection_centre fun a0 _ => (r_impl_Projection_centre a0).trans (u_impl_Projection_centre a0)
noncomputable def B53 : Bod Tryz.prog := ⟨53, Tryz.f53, Tryz.f53.body.getD .skip, Tryz.func53, by kernel_rfl, by kernel_rfl, Loops.no _ _⟩
noncomputable def Tb53 : Tb Tryz.prog := { T := [Y2, Y27, Y34], mix := mix, Es := [E_impl_ValidPoint, E_impl_Whole, ET_impl_RadiansOf], Bs := [], d := 1 }
noncomputable def t_impl_LatOf (a0 : Point) : Tr (Iv) :=
  .br (!(F_impl_ValidPoint a0)) (.leaf F_impl_Whole) (.leaf (F_impl_RadiansOf a0.lat))
theorem r_impl_LatOf (a0 : Point) : Tb53.run B53 [enc a0] (Iv) = (t_impl_LatOf a0).opt := by kernel_rfl
noncomputable def F_impl_LatOf : Point → Iv := fun a0 => (t_impl_LatOf a0).get
theorem u_impl_LatOf (a0 : Point) : (t_impl_LatOf a0).opt = some (F_impl_LatOf a0) := Tr.tot_get (by kernel_rfl)
noncomputable def E_impl_LatOf : Ent Tryz.prog := .of1 Tb53 B53 (fun _ => true) F_impl_LatOf fun a0 _ => (r_impl_LatOf a0).trans (u_impl_LatOf a0)
noncomputable def B55 : Bod Tryz.prog := ⟨55, Tryz.f55, Tryz.f55.body.getD .skip, Tryz.func55, by kernel_rfl, by kernel_rfl, Loops.no _ _⟩
noncomputable def Tb55 : Tb Tryz.prog := { T := [Y2, Y27, Y34], mix := mix, Es := [ET_impl_RadiansOf, E_impl_WrapLon], Bs := [], d := 1 }
noncomputable def t_impl_differenceOf (a0 : Point) (a1 : Point) : Tr (Iv) :=
  .leaf (F_impl_RadiansOf (F_impl_WrapLon (Rng.w .i64 (a1.lon.val - a0.lon.val))))
theorem r_impl_differenceOf (a0 : Point) (a1 : Point) : Tb55.run B55 [enc a0, enc a1] (Iv) = (t_impl_differenceOf a0 a1).opt := by kernel_rfl
noncomputable def F_impl_differenceOf : Point → Point → Iv := fun a0 a1 => (t_impl_differenceOf a0 a1).get
theorem u_impl_differenceOf (a0 : Point) (a1 : Point) : (t_impl_differenceOf a0 a1).opt = some (F_impl_differenceOf a0 a1) := Tr.tot_get (by kernel_rfl)
noncomputable def E_impl_differenceOf : Ent Tryz.prog := .of2 Tb55 B55 (fun _ _ => true) F_impl_differenceOf fun a0 a1 _ => (r_impl_differenceOf a0 a1).trans (u_impl_differenceOf a0 a1)
noncomputable def B52 : Bod Tryz.prog := ⟨52, Tryz.f52, Tryz.f52.body.getD .skip, Tryz.func52, by kernel_rfl, by kernel_rfl, Loops.no _ _⟩
noncomputable def Tb52 : Tb Tryz.prog := { T := [Y2, Y27, Y29], mix := mix, Es := [E_impl_CosI, ET_impl_MulI, E_impl_SubI, E_impl_AddI, E_impl_SinI], Bs := [], d := 1 }
noncomputable def t_impl_localOf (a0 : Iv) (a1 : Iv) (a2 : Iv) : Tr (Vec) :=
  .leaf ⟨(F_impl_MulI (F_impl_CosI a1) (F_impl_SinI a2)), (F_impl_SubI (F_impl_MulI (F_impl_CosI a0) (F_impl_SinI a1)) (F_impl_MulI (F_impl_MulI (F_impl_SinI a0) (F_impl_CosI a1)) (F_impl_CosI a2))), (F_impl_AddI (F_impl_MulI (F_impl_SinI a0) (F_impl_SinI a1)) (F_impl_MulI (F_impl_MulI (F_impl_CosI a0) (F_impl_CosI a1)) (F_impl_CosI a2)))⟩
theorem r_impl_localOf (a0 : Iv) (a1 : Iv) (a2 : Iv) : Tb52.run B52 [enc a0, enc a1, enc a2] (Vec) = (t_impl_localOf a0 a1 a2).opt := by kernel_rfl
noncomputable def F_impl_localOf : Iv → Iv → Iv → Vec := fun a0 a1 a2 => (t_impl_localOf a0 a1 a2).get
theorem u_impl_localOf (a0 : Iv) (a1 : Iv) (a2 : Iv) : (t_impl_localOf a0 a1 a2).opt = some (F_impl_localOf a0 a1 a2) := Tr.tot_get (by kernel_rfl)
noncomputable def E_impl_localOf : Ent Tryz.prog := .of3 Tb52 B52 (fun _ _ _ => true) F_impl_localOf fun a0 a1 a2 _ => (r_impl_localOf a0 a1 a2).trans (u_impl_localOf a0 a1 a2)
noncomputable def B18 : Bod Tryz.prog := ⟨18, Tryz.f18, Tryz.f18.body.getD .skip, Tryz.func18, by kernel_rfl, by kernel_rfl, Loops.no _ _⟩
noncomputable def Tb18 : Tb Tryz.prog := { T := [Y2, Y27, Y29, Y32, Y34], mix := mix, Es := [E_impl_isAzimuthalOne, E_impl_ValidPoint, E_impl_localOf, E_impl_LatOf, E_impl_Projection_centre, E_impl_differenceOf], Bs := [], d := 1 }
noncomputable def t_impl_LocalOf (a0 : Proj) (a1 : Point) : Tr (T2 Vec I64) :=
  .br (!(F_impl_isAzimuthalOne a0)) (.leaf ⟨⟨⟨⟨0, rfl⟩, ⟨0, rfl⟩⟩, ⟨⟨0, rfl⟩, ⟨0, rfl⟩⟩, ⟨⟨0, rfl⟩, ⟨0, rfl⟩⟩⟩, ⟨1, rfl⟩⟩) (.br (!(F_impl_ValidPoint a1)) (.leaf ⟨⟨⟨⟨0, rfl⟩, ⟨0, rfl⟩⟩, ⟨⟨0, rfl⟩, ⟨0, rfl⟩⟩, ⟨⟨0, rfl⟩, ⟨0, rfl⟩⟩⟩, ⟨1, rfl⟩⟩) (.leaf ⟨(F_impl_localOf (F_impl_LatOf (F_impl_Projection_centre a0)) (F_impl_LatOf a1) (F_impl_differenceOf (F_impl_Projection_centre a0) a1)), ⟨0, rfl⟩⟩))
theorem r_impl_LocalOf (a0 : Proj) (a1 : Point) : Tb18.run B18 [enc a0, enc a1] (T2 Vec I64) = (t_impl_LocalOf a0 a1).opt := by kernel_rfl
noncomputable def F_impl_LocalOf : Proj → Point → T2 Vec I64 := fun a0 a1 => (t_impl_LocalOf a0 a1).get
theorem u_impl_LocalOf (a0 : Proj) (a1 : Point) : (t_impl_LocalOf a0 a1).opt = some (F_impl_LocalOf a0 a1) := Tr.tot_get (by kernel_rfl)
noncomputable def E_impl_LocalOf : Ent Tryz.prog := .of2 Tb18 B18 (fun _ _ => true) F_impl_LocalOf fun a0 a1 _ => (r_impl_LocalOf a0 a1).trans (u_impl_LocalOf a0 a1)
noncomputable def B19 : Bod Tryz.prog := ⟨19, Tryz.f19, Tryz.f19.body.getD .skip, Tryz.func19, by kernel_rfl, by kernel_rfl, Loops.no _ _⟩
noncomputable def Tb19 : Tb Tryz.prog := { T := [Y27, Y29], mix := mix, Es := [E_laws_eqInterval], Bs := [], d := 1 }
noncomputable def t_laws_eqVec (a0 : Vec) (a1 : Vec) : Tr (Bool) :=
  .br (!(F_laws_eqInterval a0.x a1.x)) (.leaf false) (.br (!(F_laws_eqInterval a0.y a1.y)) (.leaf false) (.br (!(F_laws_eqInterval a0.z a1.z)) (.leaf false) (.leaf true)))
theorem r_laws_eqVec (a0 : Vec) (a1 : Vec) : Tb19.run B19 [enc a0, enc a1] (Bool) = (t_laws_eqVec a0 a1).opt := by kernel_rfl
noncomputable def F_laws_eqVec : Vec → Vec → Bool := fun a0 a1 => (t_laws_eqVec a0 a1).get
theorem u_laws_eqVec (a0 : Vec) (a1 : Vec) : (t_laws_eqVec a0 a1).opt = some (F_laws_eqVec a0 a1) := Tr.tot_get (by kernel_rfl)
noncomputable def E_laws_eqVec : Ent Tryz.prog := .of2 Tb19 B19 (fun _ _ => true) F_laws_eqVec fun a0 a1 _ => (r_laws_eqVec a0 a1).trans (u_laws_eqVec a0 a1)
noncomputable def B3 : Bod Tryz.prog := ⟨3, Tryz.f3, Tryz.f3.body.getD .skip, Tryz.func3, by kernel_rfl, by kernel_rfl, Loops.no _ _⟩
noncomputable def Tb3 : Tb Tryz.prog := { T := [Y2, Y23, Y25, Y27, Y29], mix := mix, Es := [E_spec_LocalOf, E_laws_toProjection, E_laws_toPoint, E_impl_LocalOf, E_laws_eqVec], Bs := [], d := 1 }
noncomputable def t_laws_FnExactLocalOf (a0 : Proj) (a1 : Point) : Tr (Bool) :=
  let c3 := F_spec_LocalOf (F_laws_toProjection a0) (F_laws_toPoint a1); let c6 := F_impl_LocalOf (F_laws_toProjection a0) (F_laws_toPoint a1); .br (!(F_laws_eqVec c6.a c3.a)) (.leaf false) (.br (c6.b.val != c3.b.val) (.leaf false) (.leaf true))
theorem r_laws_FnExactLocalOf (a0 : Proj) (a1 : Point) : Tb3.run B3 [enc a0, enc a1] (Bool) = (t_laws_FnExactLocalOf a0 a1).opt := by kernel_rfl
noncomputable def F_laws_FnExactLocalOf : Proj → Point → Bool := fun a0 a1 => (t_laws_FnExactLocalOf a0 a1).get
theorem u_laws_FnExactLocalOf (a0 : Proj) (a1 : Point) : (t_laws_FnExactLocalOf a0 a1).opt = some (F_laws_FnExactLocalOf a0 a1) := Tr.tot_get (by kernel_rfl)
noncomputable def E_laws_FnExactLocalOf : Ent Tryz.prog := .of2 Tb3 B3 (fun _ _ => true) F_laws_FnExactLocalOf fun a0 a1 _ => (r_laws_FnExactLocalOf a0 a1).trans (u_laws_FnExactLocalOf a0 a1)
noncomputable def Y38 : TyE Tryz.prog := ⟨38, 2, (.struct [(0, 2, 1), (1, 2, 1)]), [.i64 ⟨0, rfl⟩, .i64 ⟨0, rfl⟩], true, by kernel_rfl, by kernel_rfl, by kernel_rfl, by kernel_rfl, by kernel_rfl, by kernel_rfl⟩
noncomputable def B21 : Bod Tryz.prog := ⟨21, Tryz.f21, Tryz.f21.body.getD .skip, Tryz.func21, by kernel_rfl, by kernel_rfl, Loops.no _ _⟩
noncomputable def Tb21 : Tb Tryz.prog := { T := [Y2, Y27, Y38], mix := mix, Es := [], Bs := [], d := 1 }
noncomputable def t_laws_toInterval (a0 : Iv) : Tr (Iv) :=
  .leaf a0
theorem r_laws_toInterval (a0 : Iv) : Tb21.run B21 [enc a0] (Iv) = (t_laws_toInterval a0).opt := by kernel_rfl
noncomputable def F_laws_toInterval : Iv → Iv := fun a0 => (t_laws_toInterval a0).get
theorem u_laws_toInterval (a0 : Iv) : (t_laws_toInterval a0).opt = some (F_laws_toInterval a0) := Tr.tot_get (by kernel_rfl)
noncomputable def E_laws_toInterval : Ent Tryz.prog := .of1 Tb21 B21 (fun _ => true) F_laws_toInterval fun a0 _ => (r_laws_toInterval a0).trans (u_laws_toInterval a0)
noncomputable def B59 : Bod Tryz.prog := ⟨59, Tryz.f59, Tryz.f59.body.getD .skip, Tryz.func59, by kernel_rfl, by kernel_rfl, Loops.no _ _⟩
noncomputable def Tb59 : Tb Tryz.prog := { T := [Y2, Y27], mix := mix, Es := [E_spec_l04Whole, E_spec_l04Ok, E_spec_l04Make], Bs := [], d := 1 }
noncomputable def t_spec_HalfI (a0 : Iv) : Tr (Iv) :=
  .br (!(F_spec_l04Ok a0)) (.leaf F_spec_l04Whole) (.leaf (F_spec_l04Make (Rng.w .i64 (a0.lo.val.fdiv 2)) (Rng.w .i64 ((Rng.w .i64 (a0.hi.val + 1)).val.fdiv 2))))
theorem r_spec_HalfI (a0 : Iv) : Tb59.run B59 [enc a0] (Iv) = (t_spec_HalfI a0).opt := by kernel_rfl
noncomputable def F_spec_HalfI : Iv → Iv := fun a0 => (t_spec_HalfI a0).get
theorem u_spec_HalfI (a0 : Iv) : (t_spec_HalfI a0).opt = some (F_spec_HalfI a0) := Tr.tot_get (by kernel_rfl)
noncomputable def E_spec_HalfI : Ent Tryz.prog := .of1 Tb59 B59 (fun _ => true) F_spec_HalfI fun a0 _ => (r_spec_HalfI a0).trans (u_spec_HalfI a0)
noncomputable def B159 : Bod Tryz.prog := ⟨159, Tryz.f159, Tryz.f159.body.getD .skip, Tryz.func159, by kernel_rfl, by kernel_rfl, Loops.no _ _⟩
noncomputable def Tb159 : Tb Tryz.prog := { T := [Y2, Y27], mix := mix, Es := [E_spec_AtanI, E_spec_Integer, E_spec_Whole, E_spec_DivI, E_spec_AddI, E_spec_l00In, E_spec_l07Quarter, E_spec_MeetI, E_spec_l05At, E_spec_DoubleI, E_spec_CircleAt], Bs := [], d := 1 }
noncomputable def t_spec_AsinAt (a0 : I64) : Tr (Iv) :=
  .br (!(F_spec_l00In a0 ⟨(-4294967296), rfl⟩ ⟨4294967296, rfl⟩)) (.leaf F_spec_Whole) (.leaf (F_spec_MeetI (F_spec_DoubleI (F_spec_AtanI (F_spec_DivI (F_spec_l05At a0) (F_spec_AddI (F_spec_Integer ⟨1, rfl⟩) (F_spec_CircleAt a0))))) F_spec_l07Quarter).a)
theorem r_spec_AsinAt (a0 : I64) : Tb159.run B159 [enc a0] (Iv) = (t_spec_AsinAt a0).opt := by kernel_rfl
noncomputable def F_spec_AsinAt : I64 → Iv := fun a0 => (t_spec_AsinAt a0).get
theorem u_spec_AsinAt (a0 : I64) : (t_spec_AsinAt a0).opt = some (F_spec_AsinAt a0) := Tr.tot_get (by kernel_rfl)
noncomputable def E_spec_AsinAt : Ent Tryz.prog := .of1 Tb159 B159 (fun _ => true) F_spec_AsinAt fun a0 _ => (r_spec_AsinAt a0).trans (u_spec_AsinAt a0)
noncomputable def B60 : Bod Tryz.prog := ⟨60, Tryz.f60, Tryz.f60.body.getD .skip, Tryz.func60, by kernel_rfl, by kernel_rfl, Loops.no _ _⟩
noncomputable def Tb60 : Tb Tryz.prog := { T := [Y2, Y27], mix := mix, Es := [E_spec_Whole, E_spec_HullI, E_spec_MeetI, E_spec_l06Ring, E_spec_AsinAt], Bs := [], d := 1 }
noncomputable def t_spec_AsinI (a0 : Iv) : Tr (Iv) :=
  let c2 := F_spec_MeetI a0 F_spec_l06Ring; .br (!c2.b) (.leaf F_spec_Whole) (.leaf (F_spec_HullI (F_spec_AsinAt c2.a.lo) (F_spec_AsinAt c2.a.hi)))
theorem r_spec_AsinI (a0 : Iv) : Tb60.run B60 [enc a0] (Iv) = (t_spec_AsinI a0).opt := by kernel_rfl
noncomputable def F_spec_AsinI : Iv → Iv := fun a0 => (t_spec_AsinI a0).get
theorem u_spec_AsinI (a0 : Iv) : (t_spec_AsinI a0).opt = some (F_spec_AsinI a0) := Tr.tot_get (by kernel_rfl)
noncomputable def E_spec_AsinI : Ent Tryz.prog := .of1 Tb60 B60 (fun _ => true) F_spec_AsinI fun a0 _ => (r_spec_AsinI a0).trans (u_spec_AsinI a0)
noncomputable def B20 : Bod Tryz.prog := ⟨20, Tryz.f20, Tryz.f20.body.getD .skip, Tryz.func20, by kernel_rfl, by kernel_rfl, Loops.no _ _⟩
noncomputable def Tb20 : Tb Tryz.prog := { T := [Y2, Y27], mix := mix, Es := [E_spec_AtanI, E_spec_MulI, E_spec_Integer, E_spec_HalfI, E_spec_AsinI, E_spec_Whole], Bs := [], d := 1 }
noncomputable def t_spec_AzimuthalAngle (a0 : I64) (a1 : Iv) : Tr (Iv) :=
  .br (a0.val == 5) (.leaf (F_spec_AtanI a1)) (.br (a0.val == 6) (.leaf (F_spec_MulI (F_spec_Integer ⟨2, rfl⟩) (F_spec_AtanI (F_spec_HalfI a1)))) (.br (a0.val == 7) (.leaf (F_spec_AsinI a1)) (.br (a0.val == 8) (.leaf a1) (.br (a0.val == 9) (.leaf (F_spec_MulI (F_spec_Integer ⟨2, rfl⟩) (F_spec_AsinI (F_spec_HalfI a1)))) (.leaf F_spec_Whole)))))
theorem r_spec_AzimuthalAngle (a0 : I64) (a1 : Iv) : Tb20.run B20 [enc a0, enc a1] (Iv) = (t_spec_AzimuthalAngle a0 a1).opt := by kernel_rfl
noncomputable def F_spec_AzimuthalAngle : I64 → Iv → Iv := fun a0 a1 => (t_spec_AzimuthalAngle a0 a1).get
theorem u_spec_AzimuthalAngle (a0 : I64) (a1 : Iv) : (t_spec_AzimuthalAngle a0 a1).opt = some (F_spec_AzimuthalAngle a0 a1) := Tr.tot_get (by kernel_rfl)
noncomputable def E_spec_AzimuthalAngle : Ent Tryz.prog := .of2 Tb20 B20 (fun _ _ => true) F_spec_AzimuthalAngle fun a0 a1 _ => (r_spec_AzimuthalAngle a0 a1).trans (u_spec_AzimuthalAngle a0 a1)
noncomputable def B64 : Bod Tryz.prog := ⟨64, Tryz.f64, Tryz.f64.body.getD .skip, Tryz.func64, by kernel_rfl, by kernel_rfl, Loops.no _ _⟩
noncomputable def Tb64 : Tb Tryz.prog := { T := [Y2, Y27], mix := mix, Es := [E_impl_Whole, E_impl_IsWhole], Bs := [], d := 1 }
noncomputable def t_impl_HalfI (a0 : Iv) : Tr (Iv) :=
  .br (F_impl_IsWhole a0) (.leaf F_impl_Whole) (.leaf ⟨(Rng.w .i64 (a0.lo.val.fdiv 2)), (Rng.w .i64 ((Rng.w .i64 (a0.hi.val + 1)).val.fdiv 2))⟩)
theorem r_impl_HalfI (a0 : Iv) : Tb64.run B64 [enc a0] (Iv) = (t_impl_HalfI a0).opt := by kernel_rfl
noncomputable def F_impl_HalfI : Iv → Iv := fun a0 => (t_impl_HalfI a0).get
theorem u_impl_HalfI (a0 : Iv) : (t_impl_HalfI a0).opt = some (F_impl_HalfI a0) := Tr.tot_get (by kernel_rfl)
noncomputable def E_impl_HalfI : Ent Tryz.prog := .of1 Tb64 B64 (fun _ => true) F_impl_HalfI fun a0 _ => (r_impl_HalfI a0).trans (u_impl_HalfI a0)
noncomputable def B63 : Bod Tryz.prog := ⟨63, Tryz.f63, Tryz.f63.body.getD .skip, Tryz.func63, by kernel_rfl, by kernel_rfl, Loops.no _ _⟩
noncomputable def Tb63 : Tb Tryz.prog := { T := [Y2, Y27], mix := mix, Es := [E_impl_Integer, ET_impl_MulI], Bs := [], d := 1 }
noncomputable def t_impl_times (a0 : I64) (a1 : Iv) : Tr (Iv) :=
  .leaf (F_impl_MulI (F_impl_Integer a0) a1)
theorem r_impl_times (a0 : I64) (a1 : Iv) : Tb63.run B63 [enc a0, enc a1] (Iv) = (t_impl_times a0 a1).opt := by kernel_rfl
noncomputable def F_impl_times : I64 → Iv → Iv := fun a0 a1 => (t_impl_times a0 a1).get
theorem u_impl_times (a0 : I64) (a1 : Iv) : (t_impl_times a0 a1).opt = some (F_impl_times a0 a1) := Tr.tot_get (by kernel_rfl)
noncomputable def E_impl_times : Ent Tryz.prog := .of2 Tb63 B63 (fun _ _ => true) F_impl_times fun a0 a1 _ => (r_impl_times a0 a1).trans (u_impl_times a0 a1)
noncomputable def B165 : Bod Tryz.prog := ⟨165, Tryz.f165, Tryz.f165.body.getD .skip, Tryz.func165, by kernel_rfl, by kernel_rfl, Loops.no _ _⟩
noncomputable def Tb165 : Tb Tryz.prog := { T := [Y2, Y27], mix := mix, Es := [E_impl_AtanI, E_impl_Whole, E_impl_DivI, E_impl_Integer, E_impl_at, E_impl_AddI, E_impl_within, E_impl_halfCircle, E_impl_MeetI, E_impl_DoubleI, E_impl_CircleAt], Bs := [], d := 1 }
noncomputable def t_impl_AsinAt (a0 : I64) : Tr (Iv) :=
  .br (!(F_impl_within a0 ⟨(-4294967296), rfl⟩ ⟨4294967296, rfl⟩)) (.leaf F_impl_Whole) (.leaf (F_impl_MeetI (F_impl_DoubleI (F_impl_AtanI (F_impl_DivI (F_impl_at a0) (F_impl_AddI (F_impl_Integer ⟨1, rfl⟩) (F_impl_CircleAt a0))))) F_impl_halfCircle).a)
theorem r_impl_AsinAt (a0 : I64) : Tb165.run B165 [enc a0] (Iv) = (t_impl_AsinAt a0).opt := by kernel_rfl
noncomputable def F_impl_AsinAt : I64 → Iv := fun a0 => (t_impl_AsinAt a0).get
theorem u_impl_AsinAt (a0 : I64) : (t_impl_AsinAt a0).opt = some (F_impl_AsinAt a0) := Tr.tot_get (by kernel_rfl)
noncomputable def E_impl_AsinAt : Ent Tryz.prog := .of1 Tb165 B165 (fun _ => true) F_impl_AsinAt fun a0 _ => (r_impl_AsinAt a0).trans (u_impl_AsinAt a0)
noncomputable def B65 : Bod Tryz.prog := ⟨65, Tryz.f65, Tryz.f65.body.getD .skip, Tryz.func65, by kernel_rfl, by kernel_rfl, Loops.no _ _⟩
noncomputable def Tb65 : Tb Tryz.prog := { T := [Y2, Y27], mix := mix, Es := [E_impl_Whole, E_impl_HullI, E_impl_MeetI, E_impl_ring, E_impl_AsinAt], Bs := [], d := 1 }
noncomputable def t_impl_AsinI (a0 : Iv) : Tr (Iv) :=
  let c2 := F_impl_MeetI a0 F_impl_ring; .br (!c2.b) (.leaf F_impl_Whole) (.leaf (F_impl_HullI (F_impl_AsinAt c2.a.lo) (F_impl_AsinAt c2.a.hi)))
theorem r_impl_AsinI (a0 : Iv) : Tb65.run B65 [enc a0] (Iv) = (t_impl_AsinI a0).opt := by kernel_rfl
noncomputable def F_impl_AsinI : Iv → Iv := fun a0 => (t_impl_AsinI a0).get
theorem u_impl_AsinI (a0 : Iv) : (t_impl_AsinI a0).opt = some (F_impl_AsinI a0) := Tr.tot_get (by kernel_rfl)
noncomputable def E_impl_AsinI : Ent Tryz.prog := .of1 Tb65 B65 (fun _ => true) F_impl_AsinI fun a0 _ => (r_impl_AsinI a0).trans (u_impl_AsinI a0)
noncomputable def B22 : Bod Tryz.prog := ⟨22, Tryz.f22, Tryz.f22.body.getD .skip, Tryz.func22, by kernel_rfl, by kernel_rfl, Loops.no _ _⟩
noncomputable def Tb22 : Tb Tryz.prog := { T := [Y2, Y27], mix := mix, Es := [E_impl_AtanI, E_impl_times, E_impl_HalfI, E_impl_AsinI, E_impl_Whole], Bs := [], d := 1 }
noncomputable def t_impl_AzimuthalAngle (a0 : I64) (a1 : Iv) : Tr (Iv) :=
  .br (a0.val == 5) (.leaf (F_impl_AtanI a1)) (.br (a0.val == 6) (.leaf (F_impl_times ⟨2, rfl⟩ (F_impl_AtanI (F_impl_HalfI a1)))) (.br (a0.val == 7) (.leaf (F_impl_AsinI a1)) (.br (a0.val == 8) (.leaf a1) (.br (a0.val == 9) (.leaf (F_impl_times ⟨2, rfl⟩ (F_impl_AsinI (F_impl_HalfI a1)))) (.leaf F_impl_Whole)))))
theorem r_impl_AzimuthalAngle (a0 : I64) (a1 : Iv) : Tb22.run B22 [enc a0, enc a1] (Iv) = (t_impl_AzimuthalAngle a0 a1).opt := by kernel_rfl
noncomputable def F_impl_AzimuthalAngle : I64 → Iv → Iv := fun a0 a1 => (t_impl_AzimuthalAngle a0 a1).get
theorem u_impl_AzimuthalAngle (a0 : I64) (a1 : Iv) : (t_impl_AzimuthalAngle a0 a1).opt = some (F_impl_AzimuthalAngle a0 a1) := Tr.tot_get (by kernel_rfl)
noncomputable def E_impl_AzimuthalAngle : Ent Tryz.prog := .of2 Tb22 B22 (fun _ _ => true) F_impl_AzimuthalAngle fun a0 a1 _ => (r_impl_AzimuthalAngle a0 a1).trans (u_impl_AzimuthalAngle a0 a1)
noncomputable def B4 : Bod Tryz.prog := ⟨4, Tryz.f4, Tryz.f4.body.getD .skip, Tryz.func4, by kernel_rfl, by kernel_rfl, Loops.no _ _⟩
noncomputable def Tb4 : Tb Tryz.prog := { T := [Y2, Y27, Y38], mix := mix, Es := [E_spec_AzimuthalAngle, E_laws_toInterval, E_impl_AzimuthalAngle, E_laws_eqInterval], Bs := [], d := 1 }
noncomputable def t_laws_FnExactAzimuthalAngle (a0 : I64) (a1 : Iv) : Tr (Bool) :=
  .br (!(F_laws_eqInterval (F_impl_AzimuthalAngle a0 (F_laws_toInterval a1)) (F_spec_AzimuthalAngle a0 (F_laws_toInterval a1)))) (.leaf false) (.leaf true)
theorem r_laws_FnExactAzimuthalAngle (a0 : I64) (a1 : Iv) : Tb4.run B4 [enc a0, enc a1] (Bool) = (t_laws_FnExactAzimuthalAngle a0 a1).opt := by kernel_rfl
noncomputable def F_laws_FnExactAzimuthalAngle : I64 → Iv → Bool := fun a0 a1 => (t_laws_FnExactAzimuthalAngle a0 a1).get
theorem u_laws_FnExactAzimuthalAngle (a0 : I64) (a1 : Iv) : (t_laws_FnExactAzimuthalAngle a0 a1).opt = some (F_laws_FnExactAzimuthalAngle a0 a1) := Tr.tot_get (by kernel_rfl)
noncomputable def E_laws_FnExactAzimuthalAngle : Ent Tryz.prog := .of2 Tb4 B4 (fun _ _ => true) F_laws_FnExactAzimuthalAngle fun a0 a1 _ => (r_laws_FnExactAzimuthalAngle a0 a1).trans (u_laws_FnExactAzimuthalAngle a0 a1)
noncomputable def B67 : Bod Tryz.prog := ⟨67, Tryz.f67, Tryz.f67.body.getD .skip, Tryz.func67, by kernel_rfl, by kernel_rfl, Loops.no _ _⟩
noncomputable def Tb67 : Tb Tryz.prog := { T := [Y2, Y32], mix := mix, Es := [E_spec_l00In, E_spec_l17Ok], Bs := [], d := 1 }
noncomputable def t_spec_l17Cylinder (a0 : Proj) : Tr (Bool) :=
  .br (F_spec_l17Ok a0) (.leaf (F_spec_l00In a0.kind ⟨1, rfl⟩ ⟨4, rfl⟩)) (.leaf false)
theorem r_spec_l17Cylinder (a0 : Proj) : Tb67.run B67 [enc a0] (Bool) = (t_spec_l17Cylinder a0).opt := by kernel_rfl
noncomputable def F_spec_l17Cylinder : Proj → Bool := fun a0 => (t_spec_l17Cylinder a0).get
theorem u_spec_l17Cylinder (a0 : Proj) : (t_spec_l17Cylinder a0).opt = some (F_spec_l17Cylinder a0) := Tr.tot_get (by kernel_rfl)
noncomputable def E_spec_l17Cylinder : Ent Tryz.prog := .of1 Tb67 B67 (fun _ => true) F_spec_l17Cylinder fun a0 _ => (r_spec_l17Cylinder a0).trans (u_spec_l17Cylinder a0)
noncomputable def B68 : Bod Tryz.prog := ⟨68, Tryz.f68, Tryz.f68.body.getD .skip, Tryz.func68, by kernel_rfl, by kernel_rfl, Loops.no _ _⟩
noncomputable def Tb68 : Tb Tryz.prog := { T := [Y2, Y34], mix := mix, Es := [], Bs := [], d := 1 }
noncomputable def t_spec_l11Pole (a0 : Point) : Tr (Bool) :=
  .br (a0.lat.val == 900000000) (.leaf true) (.leaf (a0.lat.val == (-900000000)))
theorem r_spec_l11Pole (a0 : Point) : Tb68.run B68 [enc a0] (Bool) = (t_spec_l11Pole a0).opt := by kernel_rfl
noncomputable def F_spec_l11Pole : Point → Bool := fun a0 => (t_spec_l11Pole a0).get
theorem u_spec_l11Pole (a0 : Point) : (t_spec_l11Pole a0).opt = some (F_spec_l11Pole a0) := Tr.tot_get (by kernel_rfl)
noncomputable def E_spec_l11Pole : Ent Tryz.prog := .of1 Tb68 B68 (fun _ => true) F_spec_l11Pole fun a0 _ => (r_spec_l11Pole a0).trans (u_spec_l11Pole a0)
noncomputable def B71 : Bod Tryz.prog := ⟨71, Tryz.f71, Tryz.f71.body.getD .skip, Tryz.func71, by kernel_rfl, by kernel_rfl, Loops.no _ _⟩
noncomputable def Tb71 : Tb Tryz.prog := { T := [Y2, Y27, Y34], mix := mix, Es := [E_spec_l11Ok, E_spec_Whole, ET_spec_RadiansOf], Bs := [], d := 1 }
noncomputable def t_spec_LatOf (a0 : Point) : Tr (Iv) :=
  .br (!(F_spec_l11Ok a0)) (.leaf F_spec_Whole) (.leaf (F_spec_RadiansOf a0.lat))
theorem r_spec_LatOf (a0 : Point) : Tb71.run B71 [enc a0] (Iv) = (t_spec_LatOf a0).opt := by kernel_rfl
noncomputable def F_spec_LatOf : Point → Iv := fun a0 => (t_spec_LatOf a0).get
theorem u_spec_LatOf (a0 : Point) : (t_spec_LatOf a0).opt = some (F_spec_LatOf a0) := Tr.tot_get (by kernel_rfl)
noncomputable def E_spec_LatOf : Ent Tryz.prog := .of1 Tb71 B71 (fun _ => true) F_spec_LatOf fun a0 _ => (r_spec_LatOf a0).trans (u_spec_LatOf a0)
noncomputable def B72 : Bod Tryz.prog := ⟨72, Tryz.f72, Tryz.f72.body.getD .skip, Tryz.func72, by kernel_rfl, by kernel_rfl, Loops.no _ _⟩
noncomputable def Tb72 : Tb Tryz.prog := { T := [Y2, Y27], mix := mix, Es := [E_spec_l04Ok], Bs := [], d := 1 }
noncomputable def t_spec_l17Scales (a0 : Iv) (a1 : Iv) : Tr (T3 Iv Iv I64) :=
  .br (!(F_spec_l04Ok a0)) (.leaf ⟨⟨⟨0, rfl⟩, ⟨0, rfl⟩⟩, ⟨⟨0, rfl⟩, ⟨0, rfl⟩⟩, ⟨9, rfl⟩⟩) (.br (!(F_spec_l04Ok a1)) (.leaf ⟨⟨⟨0, rfl⟩, ⟨0, rfl⟩⟩, ⟨⟨0, rfl⟩, ⟨0, rfl⟩⟩, ⟨9, rfl⟩⟩) (.leaf ⟨a0, a1, ⟨0, rfl⟩⟩))
theorem r_spec_l17Scales (a0 : Iv) (a1 : Iv) : Tb72.run B72 [enc a0, enc a1] (T3 Iv Iv I64) = (t_spec_l17Scales a0 a1).opt := by kernel_rfl
noncomputable def F_spec_l17Scales : Iv → Iv → T3 Iv Iv I64 := fun a0 a1 => (t_spec_l17Scales a0 a1).get
theorem u_spec_l17Scales (a0 : Iv) (a1 : Iv) : (t_spec_l17Scales a0 a1).opt = some (F_spec_l17Scales a0 a1) := Tr.tot_get (by kernel_rfl)
noncomputable def E_spec_l17Scales : Ent Tryz.prog := .of2 Tb72 B72 (fun _ _ => true) F_spec_l17Scales fun a0 a1 _ => (r_spec_l17Scales a0 a1).trans (u_spec_l17Scales a0 a1)
noncomputable def B24 : Bod Tryz.prog := ⟨24, Tryz.f24, Tryz.f24.body.getD .skip, Tryz.func24, by kernel_rfl, by kernel_rfl, Loops.no _ _⟩
noncomputable def Tb24 : Tb Tryz.prog := { T := [Y2, Y27, Y32, Y34], mix := mix, Es := [E_spec_l11Ok, E_spec_MulI, E_spec_Integer, E_spec_l17Cylinder, E_spec_l11Pole, E_spec_CosI, ET_spec_RadiansOf, E_spec_LatOf, E_spec_l17Scales, E_spec_DivI, ET_spec_Quotient], Bs := [], d := 1 }
noncomputable def t_spec_CylinderScales (a0 : Proj) (a1 : Point) : Tr (T3 Iv Iv I64) :=
  .br (!(F_spec_l17Cylinder a0)) (.leaf ⟨⟨⟨0, rfl⟩, ⟨0, rfl⟩⟩, ⟨⟨0, rfl⟩, ⟨0, rfl⟩⟩, ⟨1, rfl⟩⟩) (.br (!(F_spec_l11Ok a1)) (.leaf ⟨⟨⟨0, rfl⟩, ⟨0, rfl⟩⟩, ⟨⟨0, rfl⟩, ⟨0, rfl⟩⟩, ⟨1, rfl⟩⟩) (.br (F_spec_l11Pole a1) (.leaf ⟨⟨⟨0, rfl⟩, ⟨0, rfl⟩⟩, ⟨⟨0, rfl⟩, ⟨0, rfl⟩⟩, ⟨8, rfl⟩⟩) (let c5 := F_spec_CosI (F_spec_RadiansOf a0.lat1); let c7 := F_spec_CosI (F_spec_LatOf a1); .br (a0.kind.val == 1) (let c10 := F_spec_l17Scales (F_spec_Integer ⟨1, rfl⟩) (F_spec_DivI c5 c7); .leaf ⟨c10.a, c10.b, c10.c⟩) (.br (a0.kind.val == 2) (let c15 := F_spec_l17Scales (F_spec_DivI (F_spec_Integer ⟨1, rfl⟩) c7) (F_spec_DivI (F_spec_Integer ⟨1, rfl⟩) c7); .leaf ⟨c15.a, c15.b, c15.c⟩) (.br (a0.kind.val == 3) (let c18 := F_spec_l17Scales (F_spec_DivI c7 c5) (F_spec_DivI c5 c7); .leaf ⟨c18.a, c18.b, c18.c⟩) (let c27 := F_spec_l17Scales (F_spec_DivI (F_spec_Integer ⟨1, rfl⟩) (F_spec_CosI (F_spec_MulI (F_spec_Quotient ⟨4, rfl⟩ ⟨5, rfl⟩) (F_spec_LatOf a1)))) (F_spec_DivI (F_spec_Integer ⟨1, rfl⟩) c7); .leaf ⟨c27.a, c27.b, c27.c⟩))))))
theorem r_spec_CylinderScales (a0 : Proj) (a1 : Point) : Tb24.run B24 [enc a0, enc a1] (T3 Iv Iv I64) = (t_spec_CylinderScales a0 a1).opt := by kernel_rfl
noncomputable def F_spec_CylinderScales : Proj → Point → T3 Iv Iv I64 := fun a0 a1 => (t_spec_CylinderScales a0 a1).get
theorem u_spec_CylinderScales (a0 : Proj) (a1 : Point) : (t_spec_CylinderScales a0 a1).opt = some (F_spec_CylinderScales a0 a1) := Tr.tot_get (by kernel_rfl)
noncomputable def E_spec_CylinderScales : Ent Tryz.prog := .of2 Tb24 B24 (fun _ _ => true) F_spec_CylinderScales fun a0 a1 _ => (r_spec_CylinderScales a0 a1).trans (u_spec_CylinderScales a0 a1)
noncomputable def B76 : Bod Tryz.prog := ⟨76, Tryz.f76, Tryz.f76.body.getD .skip, Tryz.func76, by kernel_rfl, by kernel_rfl, Loops.no _ _⟩
noncomputable def Tb76 : Tb Tryz.prog := { T := [], mix := mix, Es := [E_impl_within], Bs := [], d := 1 }
noncomputable def t_impl_isCylindrical (a0 : I64) : Tr (Bool) :=
  .leaf (F_impl_within a0 ⟨1, rfl⟩ ⟨4, rfl⟩)
theorem r_impl_isCylindrical (a0 : I64) : Tb76.run B76 [enc a0] (Bool) = (t_impl_isCylindrical a0).opt := by kernel_rfl
noncomputable def F_impl_isCylindrical : I64 → Bool := fun a0 => (t_impl_isCylindrical a0).get
theorem u_impl_isCylindrical (a0 : I64) : (t_impl_isCylindrical a0).opt = some (F_impl_isCylindrical a0) := Tr.tot_get (by kernel_rfl)
noncomputable def E_impl_isCylindrical : Ent Tryz.prog := .of1 Tb76 B76 (fun _ => true) F_impl_isCylindrical fun a0 _ => (r_impl_isCylindrical a0).trans (u_impl_isCylindrical a0)
noncomputable def B77 : Bod Tryz.prog := ⟨77, Tryz.f77, Tryz.f77.body.getD .skip, Tryz.func77, by kernel_rfl, by kernel_rfl, Loops.no _ _⟩
noncomputable def Tb77 : Tb Tryz.prog := { T := [Y2, Y34], mix := mix, Es := [E_impl_abs], Bs := [], d := 1 }
noncomputable def t_impl_isPole (a0 : Point) : Tr (Bool) :=
  .leaf ((F_impl_abs a0.lat).val == 900000000)
theorem r_impl_isPole (a0 : Point) : Tb77.run B77 [enc a0] (Bool) = (t_impl_isPole a0).opt := by kernel_rfl
noncomputable def F_impl_isPole : Point → Bool := fun a0 => (t_impl_isPole a0).get
theorem u_impl_isPole (a0 : Point) : (t_impl_isPole a0).opt = some (F_impl_isPole a0) := Tr.tot_get (by kernel_rfl)
noncomputable def E_impl_isPole : Ent Tryz.prog := .of1 Tb77 B77 (fun _ => true) F_impl_isPole fun a0 _ => (r_impl_isPole a0).trans (u_impl_isPole a0)
noncomputable def B82 : Bod Tryz.prog := ⟨82, Tryz.f82, Tryz.f82.body.getD .skip, Tryz.func82, by kernel_rfl, by kernel_rfl, Loops.no _ _⟩
noncomputable def Tb82 : Tb Tryz.prog := { T := [Y2, Y27], mix := mix, Es := [E_impl_areBounded], Bs := [], d := 1 }
noncomputable def t_impl_pair (a0 : Iv) (a1 : Iv) : Tr (T3 Iv Iv I64) :=
  .br (!(F_impl_areBounded a0 a1)) (.leaf ⟨⟨⟨0, rfl⟩, ⟨0, rfl⟩⟩, ⟨⟨0, rfl⟩, ⟨0, rfl⟩⟩, ⟨9, rfl⟩⟩) (.leaf ⟨a0, a1, ⟨0, rfl⟩⟩)
theorem r_impl_pair (a0 : Iv) (a1 : Iv) : Tb82.run B82 [enc a0, enc a1] (T3 Iv Iv I64) = (t_impl_pair a0 a1).opt := by kernel_rfl
noncomputable def F_impl_pair : Iv → Iv → T3 Iv Iv I64 := fun a0 a1 => (t_impl_pair a0 a1).get
theorem u_impl_pair (a0 : Iv) (a1 : Iv) : (t_impl_pair a0 a1).opt = some (F_impl_pair a0 a1) := Tr.tot_get (by kernel_rfl)
noncomputable def E_impl_pair : Ent Tryz.prog := .of2 Tb82 B82 (fun _ _ => true) F_impl_pair fun a0 a1 _ => (r_impl_pair a0 a1).trans (u_impl_pair a0 a1)
noncomputable def B25 : Bod Tryz.prog := ⟨25, Tryz.f25, Tryz.f25.body.getD .skip, Tryz.func25, by kernel_rfl, by kernel_rfl, Loops.no _ _⟩
noncomputable def Tb25 : Tb Tryz.prog := { T := [Y2, Y27, Y32, Y34], mix := mix, Es := [E_impl_ValidPoint, E_impl_LatOf, E_impl_ValidProjection, E_impl_isCylindrical, E_impl_isPole, E_impl_CosI, ET_impl_RadiansOf, E_impl_DivI, E_impl_Integer, E_impl_pair, ET_impl_MulI, ET_impl_Quotient], Bs := [], d := 1 }
noncomputable def t_impl_CylinderScales (a0 : Proj) (a1 : Point) : Tr (T3 Iv Iv I64) :=
  .br (!(F_impl_ValidProjection a0)) (.leaf ⟨⟨⟨0, rfl⟩, ⟨0, rfl⟩⟩, ⟨⟨0, rfl⟩, ⟨0, rfl⟩⟩, ⟨1, rfl⟩⟩) (.br (!(F_impl_ValidPoint a1)) (.leaf ⟨⟨⟨0, rfl⟩, ⟨0, rfl⟩⟩, ⟨⟨0, rfl⟩, ⟨0, rfl⟩⟩, ⟨1, rfl⟩⟩) (.br (!(F_impl_isCylindrical a0.kind)) (.leaf ⟨⟨⟨0, rfl⟩, ⟨0, rfl⟩⟩, ⟨⟨0, rfl⟩, ⟨0, rfl⟩⟩, ⟨1, rfl⟩⟩) (.br (F_impl_isPole a1) (.leaf ⟨⟨⟨0, rfl⟩, ⟨0, rfl⟩⟩, ⟨⟨0, rfl⟩, ⟨0, rfl⟩⟩, ⟨8, rfl⟩⟩) (let c6 := F_impl_CosI (F_impl_RadiansOf a0.lat1); let c8 := F_impl_CosI (F_impl_LatOf a1); let c10 := F_impl_DivI (F_impl_Integer ⟨1, rfl⟩) c8; .br (a0.kind.val == 1) (let c13 := F_impl_pair (F_impl_Integer ⟨1, rfl⟩) (F_impl_DivI c6 c8); .leaf ⟨c13.a, c13.b, c13.c⟩) (.br (a0.kind.val == 2) (let c14 := F_impl_pair c10 c10; .leaf ⟨c14.a, c14.b, c14.c⟩) (.br (a0.kind.val == 3) (let c17 := F_impl_pair (F_impl_DivI c8 c6) (F_impl_DivI c6 c8); .leaf ⟨c17.a, c17.b, c17.c⟩) (let c24 := F_impl_pair (F_impl_DivI (F_impl_Integer ⟨1, rfl⟩) (F_impl_CosI (F_impl_MulI (F_impl_Quotient ⟨4, rfl⟩ ⟨5, rfl⟩) (F_impl_LatOf a1)))) c10; .leaf ⟨c24.a, c24.b, c24.c⟩)))))))
theorem r_impl_CylinderScales (a0 : Proj) (a1 : Point) : Tb25.run B25 [enc a0, enc a1] (T3 Iv Iv I64) = (t_impl_CylinderScales a0 a1).opt := by kernel_rfl
noncomputable def F_impl_CylinderScales : Proj → Point → T3 Iv Iv I64 := fun a0 a1 => (t_impl_CylinderScales a0 a1).get
theorem u_impl_CylinderScales (a0 : Proj) (a1 : Point) : (t_impl_CylinderScales a0 a1).opt = some (F_impl_CylinderScales a0 a1) := Tr.tot_get (by kernel_rfl)
noncomputable def E_impl_CylinderScales : Ent Tryz.prog := .of2 Tb25 B25 (fun _ _ => true) F_impl_CylinderScales fun a0 a1 _ => (r_impl_CylinderScales a0 a1).trans (u_impl_CylinderScales a0 a1)
noncomputable def B5 : Bod Tryz.prog := ⟨5, Tryz.f5, Tryz.f5.body.getD .skip, Tryz.func5, by kernel_rfl, by kernel_rfl, Loops.no _ _⟩
noncomputable def Tb5 : Tb Tryz.prog := { T := [Y2, Y23, Y25, Y27], mix := mix, Es := [E_laws_toProjection, E_laws_toPoint, E_laws_eqInterval, E_spec_CylinderScales, E_impl_CylinderScales], Bs := [], d := 1 }
noncomputable def t_laws_FnExactCylinderScales (a0 : Proj) (a1 : Point) : Tr (Bool) :=
  let c3 := F_spec_CylinderScales (F_laws_toProjection a0) (F_laws_toPoint a1); let c6 := F_impl_CylinderScales (F_laws_toProjection a0) (F_laws_toPoint a1); .br (!(F_laws_eqInterval c6.a c3.a)) (.leaf false) (.br (!(F_laws_eqInterval c6.b c3.b)) (.leaf false) (.br (c6.c.val != c3.c.val) (.leaf false) (.leaf true)))
theorem r_laws_FnExactCylinderScales (a0 : Proj) (a1 : Point) : Tb5.run B5 [enc a0, enc a1] (Bool) = (t_laws_FnExactCylinderScales a0 a1).opt := by kernel_rfl
noncomputable def F_laws_FnExactCylinderScales : Proj → Point → Bool := fun a0 a1 => (t_laws_FnExactCylinderScales a0 a1).get
theorem u_laws_FnExactCylinderScales (a0 : Proj) (a1 : Point) : (t_laws_FnExactCylinderScales a0 a1).opt = some (F_laws_FnExactCylinderScales a0 a1) := Tr.tot_get (by kernel_rfl)
noncomputable def E_laws_FnExactCylinderScales : Ent Tryz.prog := .of2 Tb5 B5 (fun _ _ => true) F_laws_FnExactCylinderScales fun a0 a1 _ => (r_laws_FnExactCylinderScales a0 a1).trans (u_laws_FnExactCylinderScales a0 a1)
noncomputable def Y46 : TyE Tryz.prog := ⟨46, 3, (.struct [(0, 2, 1), (1, 2, 1), (2, 2, 1)]), [.i64 ⟨0, rfl⟩, .i64 ⟨0, rfl⟩, .i64 ⟨0, rfl⟩], true, by kernel_rfl, by kernel_rfl, by kernel_rfl, by kernel_rfl, by kernel_rfl, by kernel_rfl⟩
noncomputable def B27 : Bod Tryz.prog := ⟨27, Tryz.f27, Tryz.f27.body.getD .skip, Tryz.func27, by kernel_rfl, by kernel_rfl, Loops.no _ _⟩
noncomputable def Tb27 : Tb Tryz.prog := { T := [Y2, Y46, Y50], mix := mix, Es := [], Bs := [], d := 1 }
noncomputable def t_laws_toEllipsoid (a0 : Ell) : Tr (Ell) :=
  .leaf a0
theorem r_laws_toEllipsoid (a0 : Ell) : Tb27.run B27 [enc a0] (Ell) = (t_laws_toEllipsoid a0).opt := by kernel_rfl
noncomputable def F_laws_toEllipsoid : Ell → Ell := fun a0 => (t_laws_toEllipsoid a0).get
theorem u_laws_toEllipsoid (a0 : Ell) : (t_laws_toEllipsoid a0).opt = some (F_laws_toEllipsoid a0) := Tr.tot_get (by kernel_rfl)
noncomputable def E_laws_toEllipsoid : Ent Tryz.prog := .of1 Tb27 B27 (fun _ => true) F_laws_toEllipsoid fun a0 _ => (r_laws_toEllipsoid a0).trans (u_laws_toEllipsoid a0)
noncomputable def Y48 : TyE Tryz.prog := ⟨48, 6, (.struct [(0, 38, 2), (2, 38, 2), (4, 38, 2)]), [.i64 ⟨0, rfl⟩, .i64 ⟨0, rfl⟩, .i64 ⟨0, rfl⟩, .i64 ⟨0, rfl⟩, .i64 ⟨0, rfl⟩, .i64 ⟨0, rfl⟩], false, by kernel_rfl, by kernel_rfl, by kernel_rfl, by kernel_rfl, by kernel_rfl, by kernel_rfl⟩
noncomputable def B28 : Bod Tryz.prog := ⟨28, Tryz.f28, Tryz.f28.body.getD .skip, Tryz.func28, by kernel_rfl, by kernel_rfl, Loops.no _ _⟩
noncomputable def Tb28 : Tb Tryz.prog := { T := [Y2, Y27, Y29, Y38, Y48], mix := mix, Es := [E_laws_toInterval], Bs := [], d := 1 }
noncomputable def t_laws_toVec (a0 : Vec) : Tr (Vec) :=
  .leaf ⟨(F_laws_toInterval a0.x), (F_laws_toInterval a0.y), (F_laws_toInterval a0.z)⟩
theorem r_laws_toVec (a0 : Vec) : Tb28.run B28 [enc a0] (Vec) = (t_laws_toVec a0).opt := by kernel_rfl
noncomputable def F_laws_toVec : Vec → Vec := fun a0 => (t_laws_toVec a0).get
theorem u_laws_toVec (a0 : Vec) : (t_laws_toVec a0).opt = some (F_laws_toVec a0) := Tr.tot_get (by kernel_rfl)
noncomputable def E_laws_toVec : Ent Tryz.prog := .of1 Tb28 B28 (fun _ => true) F_laws_toVec fun a0 _ => (r_laws_toVec a0).trans (u_laws_toVec a0)
noncomputable def B85 : Bod Tryz.prog := ⟨85, Tryz.f85, Tryz.f85.body.getD .skip, Tryz.func85, by kernel_rfl, by kernel_rfl, Loops.no _ _⟩
noncomputable def Tb85 : Tb Tryz.prog := { T := [Y50], mix := mix, Es := [E_spec_l12Ok], Bs := [], d := 1 }
noncomputable def t_spec_ValidEllipsoid (a0 : Ell) : Tr (Bool) :=
  .leaf (F_spec_l12Ok a0)
theorem r_spec_ValidEllipsoid (a0 : Ell) : Tb85.run B85 [enc a0] (Bool) = (t_spec_ValidEllipsoid a0).opt := by kernel_rfl
noncomputable def F_spec_ValidEllipsoid : Ell → Bool := fun a0 => (t_spec_ValidEllipsoid a0).get
theorem u_spec_ValidEllipsoid (a0 : Ell) : (t_spec_ValidEllipsoid a0).opt = some (F_spec_ValidEllipsoid a0) := Tr.tot_get (by kernel_rfl)
noncomputable def E_spec_ValidEllipsoid : Ent Tryz.prog := .of1 Tb85 B85 (fun _ => true) F_spec_ValidEllipsoid fun a0 _ => (r_spec_ValidEllipsoid a0).trans (u_spec_ValidEllipsoid a0)
noncomputable def B87 : Bod Tryz.prog := ⟨87, Tryz.f87, Tryz.f87.body.getD .skip, Tryz.func87, by kernel_rfl, by kernel_rfl, Loops.no _ _⟩
noncomputable def Tb87 : Tb Tryz.prog := { T := [Y2, Y27, Y29], mix := mix, Es := [E_spec_NormV], Bs := [], d := 1 }
noncomputable def t_spec_l15Flat (a0 : Vec) : Tr (Iv) :=
  .leaf (F_spec_NormV ⟨a0.x, a0.y, ⟨⟨0, rfl⟩, ⟨0, rfl⟩⟩⟩)
theorem r_spec_l15Flat (a0 : Vec) : Tb87.run B87 [enc a0] (Iv) = (t_spec_l15Flat a0).opt := by kernel_rfl
noncomputable def F_spec_l15Flat : Vec → Iv := fun a0 => (t_spec_l15Flat a0).get
theorem u_spec_l15Flat (a0 : Vec) : (t_spec_l15Flat a0).opt = some (F_spec_l15Flat a0) := Tr.tot_get (by kernel_rfl)
noncomputable def E_spec_l15Flat : Ent Tryz.prog := .of1 Tb87 B87 (fun _ => true) F_spec_l15Flat fun a0 _ => (r_spec_l15Flat a0).trans (u_spec_l15Flat a0)
noncomputable def B190 : Bod Tryz.prog := ⟨190, Tryz.f190, Tryz.f190.body.getD .skip, Tryz.func190, by kernel_rfl, by kernel_rfl, Loops.no _ _⟩
noncomputable def Tb190 : Tb Tryz.prog := { T := [Y2, Y27], mix := mix, Es := [E_spec_l06At], Bs := [], d := 1 }
noncomputable def t_spec_SinAt (a0 : I64) : Tr (Iv) :=
  .leaf (F_spec_l06At a0 ⟨0, rfl⟩)
theorem r_spec_SinAt (a0 : I64) : Tb190.run B190 [enc a0] (Iv) = (t_spec_SinAt a0).opt := by kernel_rfl
noncomputable def F_spec_SinAt : I64 → Iv := fun a0 => (t_spec_SinAt a0).get
theorem u_spec_SinAt (a0 : I64) : (t_spec_SinAt a0).opt = some (F_spec_SinAt a0) := Tr.tot_get (by kernel_rfl)
noncomputable def E_spec_SinAt : Ent Tryz.prog := .of1 Tb190 B190 (fun _ => true) F_spec_SinAt fun a0 _ => (r_spec_SinAt a0).trans (u_spec_SinAt a0)
noncomputable def B191 : Bod Tryz.prog := ⟨191, Tryz.f191, Tryz.f191.body.getD .skip, Tryz.func191, by kernel_rfl, by kernel_rfl, Loops.no _ _⟩
noncomputable def Tb191 : Tb Tryz.prog := { T := [Y2, Y27], mix := mix, Es := [E_spec_l06At], Bs := [], d := 1 }
noncomputable def t_spec_CosAt (a0 : I64) : Tr (Iv) :=
  .leaf (F_spec_l06At a0 ⟨1, rfl⟩)
theorem r_spec_CosAt (a0 : I64) : Tb191.run B191 [enc a0] (Iv) = (t_spec_CosAt a0).opt := by kernel_rfl
noncomputable def F_spec_CosAt : I64 → Iv := fun a0 => (t_spec_CosAt a0).get
theorem u_spec_CosAt (a0 : I64) : (t_spec_CosAt a0).opt = some (F_spec_CosAt a0) := Tr.tot_get (by kernel_rfl)
noncomputable def E_spec_CosAt : Ent Tryz.prog := .of1 Tb191 B191 (fun _ => true) F_spec_CosAt fun a0 _ => (r_spec_CosAt a0).trans (u_spec_CosAt a0)
noncomputable def B86 : Bod Tryz.prog := ⟨86, Tryz.f86, Tryz.f86.body.getD .skip, Tryz.func86, by kernel_rfl, by kernel_rfl, Loops.no _ _⟩
noncomputable def Tb86 : Tb Tryz.prog := { T := [Y2, Y27, Y50], mix := mix, Es := [E_spec_MulI, E_spec_SubI, E_spec_EccI, E_spec_SinAt, E_spec_CosAt, E_spec_RadiusN, E_spec_l05At], Bs := [], d := 1 }
noncomputable def t_spec_l14Side (a0 : Ell) (a1 : Iv) (a2 : Iv) (a3 : I64) : Tr (Iv) :=
  let c1 := F_spec_SinAt a3; let c2 := F_spec_CosAt a3; .leaf (F_spec_SubI (F_spec_SubI (F_spec_MulI a1 c1) (F_spec_MulI a2 c2)) (F_spec_MulI (F_spec_MulI (F_spec_MulI (F_spec_EccI a0) (F_spec_RadiusN a0 (F_spec_l05At a3))) c1) c2))
theorem r_spec_l14Side (a0 : Ell) (a1 : Iv) (a2 : Iv) (a3 : I64) : Tb86.run B86 [enc a0, enc a1, enc a2, enc a3] (Iv) = (t_spec_l14Side a0 a1 a2 a3).opt := by kernel_rfl
noncomputable def F_spec_l14Side : Ell → Iv → Iv → I64 → Iv := fun a0 a1 a2 a3 => (t_spec_l14Side a0 a1 a2 a3).get
theorem u_spec_l14Side (a0 : Ell) (a1 : Iv) (a2 : Iv) (a3 : I64) : (t_spec_l14Side a0 a1 a2 a3).opt = some (F_spec_l14Side a0 a1 a2 a3) := Tr.tot_get (by kernel_rfl)
noncomputable def E_spec_l14Side : Ent Tryz.prog := .of4 Tb86 B86 (fun _ _ _ _ => true) F_spec_l14Side fun a0 a1 a2 a3 _ => (r_spec_l14Side a0 a1 a2 a3).trans (u_spec_l14Side a0 a1 a2 a3)
noncomputable def B26 : Bod Tryz.prog := ⟨26, Tryz.f26, Tryz.f26.body.getD .skip, Tryz.func26, by kernel_rfl, by kernel_rfl, Loops.no _ _⟩
noncomputable def Tb26 : Tb Tryz.prog := { T := [Y2, Y27, Y29, Y50], mix := mix, Es := [E_spec_Whole, E_spec_ValidEllipsoid, E_spec_l14Side, E_spec_l15Flat], Bs := [], d := 1 }
noncomputable def t_spec_SideAt (a0 : Ell) (a1 : Vec) (a2 : I64) : Tr (Iv) :=
  .br (!(F_spec_ValidEllipsoid a0)) (.leaf F_spec_Whole) (.leaf (F_spec_l14Side a0 (F_spec_l15Flat a1) a1.z a2))
theorem r_spec_SideAt (a0 : Ell) (a1 : Vec) (a2 : I64) : Tb26.run B26 [enc a0, enc a1, enc a2] (Iv) = (t_spec_SideAt a0 a1 a2).opt := by kernel_rfl
noncomputable def F_spec_SideAt : Ell → Vec → I64 → Iv := fun a0 a1 a2 => (t_spec_SideAt a0 a1 a2).get
theorem u_spec_SideAt (a0 : Ell) (a1 : Vec) (a2 : I64) : (t_spec_SideAt a0 a1 a2).opt = some (F_spec_SideAt a0 a1 a2) := Tr.tot_get (by kernel_rfl)
noncomputable def E_spec_SideAt : Ent Tryz.prog := .of3 Tb26 B26 (fun _ _ _ => true) F_spec_SideAt fun a0 a1 a2 _ => (r_spec_SideAt a0 a1 a2).trans (u_spec_SideAt a0 a1 a2)
noncomputable def B88 : Bod Tryz.prog := ⟨88, Tryz.f88, Tryz.f88.body.getD .skip, Tryz.func88, by kernel_rfl, by kernel_rfl, Loops.no _ _⟩
noncomputable def Tb88 : Tb Tryz.prog := { T := [Y2, Y50], mix := mix, Es := [E_impl_within], Bs := [], d := 1 }
noncomputable def t_impl_ValidEllipsoid (a0 : Ell) : Tr (Bool) :=
  .br (F_impl_within a0.a ⟨1000, rfl⟩ ⟨100000000000, rfl⟩) (.br (F_impl_within a0.den ⟨1, rfl⟩ ⟨1000000000000, rfl⟩) (.leaf (F_impl_within a0.num ⟨0, rfl⟩ (Rng.w .i64 (a0.den.val.tdiv 100)))) (.leaf false)) (.leaf false)
theorem r_impl_ValidEllipsoid (a0 : Ell) : Tb88.run B88 [enc a0] (Bool) = (t_impl_ValidEllipsoid a0).opt := by kernel_rfl
noncomputable def F_impl_ValidEllipsoid : Ell → Bool := fun a0 => (t_impl_ValidEllipsoid a0).get
theorem u_impl_ValidEllipsoid (a0 : Ell) : (t_impl_ValidEllipsoid a0).opt = some (F_impl_ValidEllipsoid a0) := Tr.tot_get (by kernel_rfl)
noncomputable def E_impl_ValidEllipsoid : Ent Tryz.prog := .of1 Tb88 B88 (fun _ => true) F_impl_ValidEllipsoid fun a0 _ => (r_impl_ValidEllipsoid a0).trans (u_impl_ValidEllipsoid a0)
noncomputable def B89 : Bod Tryz.prog := ⟨89, Tryz.f89, Tryz.f89.body.getD .skip, Tryz.func89, by kernel_rfl, by kernel_rfl, Loops.no _ _⟩
noncomputable def Tb89 : Tb Tryz.prog := { T := [Y2, Y27], mix := mix, Es := [E_impl_circleValue], Bs := [], d := 1 }
noncomputable def t_impl_SinAt (a0 : I64) : Tr (Iv) :=
  .leaf (F_impl_circleValue a0 ⟨0, rfl⟩)
theorem r_impl_SinAt (a0 : I64) : Tb89.run B89 [enc a0] (Iv) = (t_impl_SinAt a0).opt := by kernel_rfl
noncomputable def F_impl_SinAt : I64 → Iv := fun a0 => (t_impl_SinAt a0).get
theorem u_impl_SinAt (a0 : I64) : (t_impl_SinAt a0).opt = some (F_impl_SinAt a0) := Tr.tot_get (by kernel_rfl)
noncomputable def E_impl_SinAt : Ent Tryz.prog := .of1 Tb89 B89 (fun _ => true) F_impl_SinAt fun a0 _ => (r_impl_SinAt a0).trans (u_impl_SinAt a0)
noncomputable def B90 : Bod Tryz.prog := ⟨90, Tryz.f90, Tryz.f90.body.getD .skip, Tryz.func90, by kernel_rfl, by kernel_rfl, Loops.no _ _⟩
noncomputable def Tb90 : Tb Tryz.prog := { T := [Y2, Y27], mix := mix, Es := [E_impl_circleValue], Bs := [], d := 1 }
noncomputable def t_impl_CosAt (a0 : I64) : Tr (Iv) :=
  .leaf (F_impl_circleValue a0 ⟨1, rfl⟩)
theorem r_impl_CosAt (a0 : I64) : Tb90.run B90 [enc a0] (Iv) = (t_impl_CosAt a0).opt := by kernel_rfl
noncomputable def F_impl_CosAt : I64 → Iv := fun a0 => (t_impl_CosAt a0).get
theorem u_impl_CosAt (a0 : I64) : (t_impl_CosAt a0).opt = some (F_impl_CosAt a0) := Tr.tot_get (by kernel_rfl)
noncomputable def E_impl_CosAt : Ent Tryz.prog := .of1 Tb90 B90 (fun _ => true) F_impl_CosAt fun a0 _ => (r_impl_CosAt a0).trans (u_impl_CosAt a0)
noncomputable def B213 : Bod Tryz.prog := ⟨213, Tryz.f213, Tryz.f213.body.getD .skip, Tryz.func213, by kernel_rfl, by kernel_rfl, Loops.no _ _⟩
noncomputable def B260 : Bod Tryz.prog := ⟨260, Tryz.f260, Tryz.f260.body.getD .skip, Tryz.func260, by kernel_rfl, by kernel_rfl, Loops.no _ _⟩
noncomputable def B195 : Bod Tryz.prog := ⟨195, Tryz.f195, Tryz.f195.body.getD .skip, Tryz.func195, by kernel_rfl, by kernel_rfl, Loops.no _ _⟩
noncomputable def Tb195 : Tb Tryz.prog := { T := [Y2, Y27, Y50], mix := mix, Es := [E_impl_Whole, ET_impl_Quotient, E_impl_ValidEllipsoid], Bs := [B213, B260], d := 8 }
noncomputable def t_impl_FlatteningI (a0 : Ell) : Tr (Iv) :=
  .br (!(F_impl_ValidEllipsoid a0)) (.leaf F_impl_Whole) (.leaf (F_impl_Quotient a0.num a0.den))
theorem r_impl_FlatteningI (a0 : Ell) : Tb195.run B195 [enc a0] (Iv) = (t_impl_FlatteningI a0).opt := by kernel_rfl
noncomputable def F_impl_FlatteningI : Ell → Iv := fun a0 => (t_impl_FlatteningI a0).get
theorem u_impl_FlatteningI (a0 : Ell) : (t_impl_FlatteningI a0).opt = some (F_impl_FlatteningI a0) := Tr.tot_get (by kernel_rfl)
noncomputable def E_impl_FlatteningI : Ent Tryz.prog := .of1 Tb195 B195 (fun _ => true) F_impl_FlatteningI fun a0 _ => (r_impl_FlatteningI a0).trans (u_impl_FlatteningI a0)
noncomputable def B91 : Bod Tryz.prog := ⟨91, Tryz.f91, Tryz.f91.body.getD .skip, Tryz.func91, by kernel_rfl, by kernel_rfl, Loops.no _ _⟩
noncomputable def Tb91 : Tb Tryz.prog := { T := [Y2, Y27, Y50], mix := mix, Es := [E_impl_Integer, ET_impl_MulI, E_impl_SubI, E_impl_FlatteningI], Bs := [], d := 1 }
noncomputable def t_impl_EccI (a0 : Ell) : Tr (Iv) :=
  let c1 := F_impl_FlatteningI a0; .leaf (F_impl_MulI c1 (F_impl_SubI (F_impl_Integer ⟨2, rfl⟩) c1))
theorem r_impl_EccI (a0 : Ell) : Tb91.run B91 [enc a0] (Iv) = (t_impl_EccI a0).opt := by kernel_rfl
noncomputable def F_impl_EccI : Ell → Iv := fun a0 => (t_impl_EccI a0).get
theorem u_impl_EccI (a0 : Ell) : (t_impl_EccI a0).opt = some (F_impl_EccI a0) := Tr.tot_get (by kernel_rfl)
noncomputable def E_impl_EccI : Ent Tryz.prog := .of1 Tb91 B91 (fun _ => true) F_impl_EccI fun a0 _ => (r_impl_EccI a0).trans (u_impl_EccI a0)
noncomputable def B214 : Bod Tryz.prog := ⟨214, Tryz.f214, Tryz.f214.body.getD .skip, Tryz.func214, by kernel_rfl, by kernel_rfl, Loops.no _ _⟩
noncomputable def B120 : Bod Tryz.prog := ⟨120, Tryz.f120, Tryz.f120.body.getD .skip, Tryz.func120, by kernel_rfl, by kernel_rfl, Loops.no _ _⟩
noncomputable def Tb120 : Tb Tryz.prog := { T := [Y2, Y27, Y50], mix := mix, Es := [E_impl_Whole, ET_impl_Quotient, E_impl_ValidEllipsoid], Bs := [B213, B214], d := 8 }
noncomputable def t_impl_MajorI (a0 : Ell) : Tr (Iv) :=
  .br (!(F_impl_ValidEllipsoid a0)) (.leaf F_impl_Whole) (.leaf (F_impl_Quotient a0.a ⟨1000, rfl⟩))
theorem r_impl_MajorI (a0 : Ell) : Tb120.run B120 [enc a0] (Iv) = (t_impl_MajorI a0).opt := by kernel_rfl
noncomputable def F_impl_MajorI : Ell → Iv := fun a0 => (t_impl_MajorI a0).get
theorem u_impl_MajorI (a0 : Ell) : (t_impl_MajorI a0).opt = some (F_impl_MajorI a0) := Tr.tot_get (by kernel_rfl)
noncomputable def E_impl_MajorI : Ent Tryz.prog := .of1 Tb120 B120 (fun _ => true) F_impl_MajorI fun a0 _ => (r_impl_MajorI a0).trans (u_impl_MajorI a0)
noncomputable def B198 : Bod Tryz.prog := ⟨198, Tryz.f198, Tryz.f198.body.getD .skip, Tryz.func198, by kernel_rfl, by kernel_rfl, Loops.no _ _⟩
noncomputable def Tb198 : Tb Tryz.prog := { T := [Y2, Y27], mix := mix, Es := [E_impl_Integer, E_impl_SubI], Bs := [], d := 1 }
noncomputable def t_impl_oneLess (a0 : Iv) : Tr (Iv) :=
  .leaf (F_impl_SubI (F_impl_Integer ⟨1, rfl⟩) a0)
theorem r_impl_oneLess (a0 : Iv) : Tb198.run B198 [enc a0] (Iv) = (t_impl_oneLess a0).opt := by kernel_rfl
noncomputable def F_impl_oneLess : Iv → Iv := fun a0 => (t_impl_oneLess a0).get
theorem u_impl_oneLess (a0 : Iv) : (t_impl_oneLess a0).opt = some (F_impl_oneLess a0) := Tr.tot_get (by kernel_rfl)
noncomputable def E_impl_oneLess : Ent Tryz.prog := .of1 Tb198 B198 (fun _ => true) F_impl_oneLess fun a0 _ => (r_impl_oneLess a0).trans (u_impl_oneLess a0)
noncomputable def B122 : Bod Tryz.prog := ⟨122, Tryz.f122, Tryz.f122.body.getD .skip, Tryz.func122, by kernel_rfl, by kernel_rfl, Loops.no _ _⟩
noncomputable def Tb122 : Tb Tryz.prog := { T := [Y2, Y27, Y50], mix := mix, Es := [ET_impl_MulI, E_impl_EccI, ET_impl_SqrI, E_impl_oneLess], Bs := [], d := 1 }
noncomputable def t_impl_weightOf (a0 : Ell) (a1 : Iv) : Tr (Iv) :=
  .leaf (F_impl_oneLess (F_impl_MulI (F_impl_EccI a0) (F_impl_SqrI a1)))
theorem r_impl_weightOf (a0 : Ell) (a1 : Iv) : Tb122.run B122 [enc a0, enc a1] (Iv) = (t_impl_weightOf a0 a1).opt := by kernel_rfl
noncomputable def F_impl_weightOf : Ell → Iv → Iv := fun a0 a1 => (t_impl_weightOf a0 a1).get
theorem u_impl_weightOf (a0 : Ell) (a1 : Iv) : (t_impl_weightOf a0 a1).opt = some (F_impl_weightOf a0 a1) := Tr.tot_get (by kernel_rfl)
noncomputable def E_impl_weightOf : Ent Tryz.prog := .of2 Tb122 B122 (fun _ _ => true) F_impl_weightOf fun a0 a1 _ => (r_impl_weightOf a0 a1).trans (u_impl_weightOf a0 a1)
noncomputable def B92 : Bod Tryz.prog := ⟨92, Tryz.f92, Tryz.f92.body.getD .skip, Tryz.func92, by kernel_rfl, by kernel_rfl, Loops.no _ _⟩
noncomputable def Tb92 : Tb Tryz.prog := { T := [Y2, Y27, Y50], mix := mix, Es := [E_impl_DivI, E_impl_SinI, E_impl_MajorI, ET_impl_SqrtI, E_impl_weightOf], Bs := [], d := 1 }
noncomputable def t_impl_RadiusN (a0 : Ell) (a1 : Iv) : Tr (Iv) :=
  .leaf (F_impl_DivI (F_impl_MajorI a0) (F_impl_SqrtI (F_impl_weightOf a0 (F_impl_SinI a1))))
theorem r_impl_RadiusN (a0 : Ell) (a1 : Iv) : Tb92.run B92 [enc a0, enc a1] (Iv) = (t_impl_RadiusN a0 a1).opt := by kernel_rfl
noncomputable def F_impl_RadiusN : Ell → Iv → Iv := fun a0 a1 => (t_impl_RadiusN a0 a1).get
theorem u_impl_RadiusN (a0 : Ell) (a1 : Iv) : (t_impl_RadiusN a0 a1).opt = some (F_impl_RadiusN a0 a1) := Tr.tot_get (by kernel_rfl)
noncomputable def E_impl_RadiusN : Ent Tryz.prog := .of2 Tb92 B92 (fun _ _ => true) F_impl_RadiusN fun a0 a1 _ => (r_impl_RadiusN a0 a1).trans (u_impl_RadiusN a0 a1)
noncomputable def B95 : Bod Tryz.prog := ⟨95, Tryz.f95, Tryz.f95.body.getD .skip, Tryz.func95, by kernel_rfl, by kernel_rfl, Loops.no _ _⟩
noncomputable def Tb95 : Tb Tryz.prog := { T := [Y2, Y27, Y29], mix := mix, Es := [ET_impl_NormV], Bs := [], d := 1 }
noncomputable def t_impl_fromAxis (a0 : Vec) : Tr (Iv) :=
  .leaf (F_impl_NormV ⟨a0.x, a0.y, ⟨⟨0, rfl⟩, ⟨0, rfl⟩⟩⟩)
theorem r_impl_fromAxis (a0 : Vec) : Tb95.run B95 [enc a0] (Iv) = (t_impl_fromAxis a0).opt := by kernel_rfl
noncomputable def F_impl_fromAxis : Vec → Iv := fun a0 => (t_impl_fromAxis a0).get
theorem u_impl_fromAxis (a0 : Vec) : (t_impl_fromAxis a0).opt = some (F_impl_fromAxis a0) := Tr.tot_get (by kernel_rfl)
noncomputable def E_impl_fromAxis : Ent Tryz.prog := .of1 Tb95 B95 (fun _ => true) F_impl_fromAxis fun a0 _ => (r_impl_fromAxis a0).trans (u_impl_fromAxis a0)
noncomputable def B29 : Bod Tryz.prog := ⟨29, Tryz.f29, Tryz.f29.body.getD .skip, Tryz.func29, by kernel_rfl, by kernel_rfl, Loops.no _ _⟩
noncomputable def Tb29 : Tb Tryz.prog := { T := [Y2, Y27, Y29, Y50], mix := mix, Es := [E_impl_Whole, ET_impl_MulI, E_impl_ValidEllipsoid, E_impl_SinAt, E_impl_CosAt, E_impl_EccI, E_impl_RadiusN, E_impl_at, E_impl_SubI, E_impl_fromAxis], Bs := [], d := 1 }
noncomputable def t_impl_SideAt (a0 : Ell) (a1 : Vec) (a2 : I64) : Tr (Iv) :=
  .br (!(F_impl_ValidEllipsoid a0)) (.leaf F_impl_Whole) (let c3 := F_impl_SinAt a2; let c4 := F_impl_CosAt a2; .leaf (F_impl_SubI (F_impl_SubI (F_impl_MulI (F_impl_fromAxis a1) c3) (F_impl_MulI a1.z c4)) (F_impl_MulI (F_impl_MulI (F_impl_MulI (F_impl_EccI a0) (F_impl_RadiusN a0 (F_impl_at a2))) c3) c4)))
theorem r_impl_SideAt (a0 : Ell) (a1 : Vec) (a2 : I64) : Tb29.run B29 [enc a0, enc a1, enc a2] (Iv) = (t_impl_SideAt a0 a1 a2).opt := by kernel_rfl
noncomputable def F_impl_SideAt : Ell → Vec → I64 → Iv := fun a0 a1 a2 => (t_impl_SideAt a0 a1 a2).get
theorem u_impl_SideAt (a0 : Ell) (a1 : Vec) (a2 : I64) : (t_impl_SideAt a0 a1 a2).opt = some (F_impl_SideAt a0 a1 a2) := Tr.tot_get (by kernel_rfl)
noncomputable def E_impl_SideAt : Ent Tryz.prog := .of3 Tb29 B29 (fun _ _ _ => true) F_impl_SideAt fun a0 a1 a2 _ => (r_impl_SideAt a0 a1 a2).trans (u_impl_SideAt a0 a1 a2)
noncomputable def B6 : Bod Tryz.prog := ⟨6, Tryz.f6, Tryz.f6.body.getD .skip, Tryz.func6, by kernel_rfl, by kernel_rfl, Loops.no _ _⟩
noncomputable def Tb6 : Tb Tryz.prog := { T := [Y2, Y27, Y46, Y48], mix := mix, Es := [E_laws_eqInterval, E_spec_SideAt, E_laws_toEllipsoid, E_laws_toVec, E_impl_SideAt], Bs := [], d := 1 }
noncomputable def t_laws_FnExactSideAt (a0 : Ell) (a1 : Vec) (a2 : I64) : Tr (Bool) :=
  .br (!(F_laws_eqInterval (F_impl_SideAt (F_laws_toEllipsoid a0) (F_laws_toVec a1) a2) (F_spec_SideAt (F_laws_toEllipsoid a0) (F_laws_toVec a1) a2))) (.leaf false) (.leaf true)
theorem r_laws_FnExactSideAt (a0 : Ell) (a1 : Vec) (a2 : I64) : Tb6.run B6 [enc a0, enc a1, enc a2] (Bool) = (t_laws_FnExactSideAt a0 a1 a2).opt := by kernel_rfl
noncomputable def F_laws_FnExactSideAt : Ell → Vec → I64 → Bool := fun a0 a1 a2 => (t_laws_FnExactSideAt a0 a1 a2).get
theorem u_laws_FnExactSideAt (a0 : Ell) (a1 : Vec) (a2 : I64) : (t_laws_FnExactSideAt a0 a1 a2).opt = some (F_laws_FnExactSideAt a0 a1 a2) := Tr.tot_get (by kernel_rfl)
noncomputable def E_laws_FnExactSideAt : Ent Tryz.prog := .of3 Tb6 B6 (fun _ _ _ => true) F_laws_FnExactSideAt fun a0 a1 a2 _ => (r_laws_FnExactSideAt a0 a1 a2).trans (u_laws_FnExactSideAt a0 a1 a2)
noncomputable def B96 : Bod Tryz.prog := ⟨96, Tryz.f96, Tryz.f96.body.getD .skip, Tryz.func96, by kernel_rfl, by kernel_rfl, Loops.no _ _⟩
noncomputable def B30 : Bod Tryz.prog := ⟨30, Tryz.f30, Tryz.f30.body.getD .skip, Tryz.func30, by kernel_rfl, by kernel_rfl, Loops.no _ _⟩
noncomputable def Tb30 : Tb Tryz.prog := { T := [Y2, Y27, Y29, Y34, Y50, Y58], mix := mix, Es := [E_spec_l11Ok, E_spec_ValidEllipsoid, E_spec_l14To_p, E_spec_l00In], Bs := [B96], d := 8 }
noncomputable def t_spec_ToCartesian (a0 : Ell) (a1 : Place) : Tr (T2 Vec I64) :=
  .br (!(F_spec_ValidEllipsoid a0)) (.leaf ⟨⟨⟨⟨0, rfl⟩, ⟨0, rfl⟩⟩, ⟨⟨0, rfl⟩, ⟨0, rfl⟩⟩, ⟨⟨0, rfl⟩, ⟨0, rfl⟩⟩⟩, ⟨1, rfl⟩⟩) (.br (F_spec_l11Ok a1.pt) (.br (!(F_spec_l00In a1.h ⟨(-20000000), rfl⟩ ⟨20000000000, rfl⟩)) (.leaf ⟨⟨⟨⟨0, rfl⟩, ⟨0, rfl⟩⟩, ⟨⟨0, rfl⟩, ⟨0, rfl⟩⟩, ⟨⟨0, rfl⟩, ⟨0, rfl⟩⟩⟩, ⟨1, rfl⟩⟩) (.leaf ⟨(F_spec_l14To_p a0 a1), ⟨0, rfl⟩⟩)) (.leaf ⟨⟨⟨⟨0, rfl⟩, ⟨0, rfl⟩⟩, ⟨⟨0, rfl⟩, ⟨0, rfl⟩⟩, ⟨⟨0, rfl⟩, ⟨0, rfl⟩⟩⟩, ⟨1, rfl⟩⟩))
theorem r_spec_ToCartesian (a0 : Ell) (a1 : Place) : Tb30.run B30 [enc a0, enc a1] (T2 Vec I64) = (t_spec_ToCartesian a0 a1).opt := by kernel_rfl
noncomputable def F_spec_ToCartesian : Ell → Place → T2 Vec I64 := fun a0 a1 => (t_spec_ToCartesian a0 a1).get
theorem u_spec_ToCartesian (a0 : Ell) (a1 : Place) : (t_spec_ToCartesian a0 a1).opt = some (F_spec_ToCartesian a0 a1) := Tr.tot_get (by kernel_rfl)
noncomputable def E_spec_ToCartesian : Ent Tryz.prog := .of2 Tb30 B30 (fun _ _ => true) F_spec_ToCartesian fun a0 a1 _ => (r_spec_ToCartesian a0 a1).trans (u_spec_ToCartesian a0 a1)
noncomputable def B105 : Bod Tryz.prog := ⟨105, Tryz.f105, Tryz.f105.body.getD .skip, Tryz.func105, by kernel_rfl, by kernel_rfl, Loops.no _ _⟩
noncomputable def Tb105 : Tb Tryz.prog := { T := [Y2, Y27, Y34], mix := mix, Es := [E_impl_ValidPoint, E_impl_Whole, ET_impl_RadiansOf], Bs := [], d := 1 }
noncomputable def t_impl_LonOf (a0 : Point) : Tr (Iv) :=
  .br (!(F_impl_ValidPoint a0)) (.leaf F_impl_Whole) (.leaf (F_impl_RadiansOf a0.lon))
theorem r_impl_LonOf (a0 : Point) : Tb105.run B105 [enc a0] (Iv) = (t_impl_LonOf a0).opt := by kernel_rfl
noncomputable def F_impl_LonOf : Point → Iv := fun a0 => (t_impl_LonOf a0).get
theorem u_impl_LonOf (a0 : Point) : (t_impl_LonOf a0).opt = some (F_impl_LonOf a0) := Tr.tot_get (by kernel_rfl)
noncomputable def E_impl_LonOf : Ent Tryz.prog := .of1 Tb105 B105 (fun _ => true) F_impl_LonOf fun a0 _ => (r_impl_LonOf a0).trans (u_impl_LonOf a0)
noncomputable def B99 : Bod Tryz.prog := ⟨99, Tryz.f99, Tryz.f99.body.getD .skip, Tryz.func99, by kernel_rfl, by kernel_rfl, Loops.no _ _⟩
noncomputable def Tb99 : Tb Tryz.prog := { T := [Y2, Y27, Y29, Y34, Y50, Y58], mix := mix, Es := [E_impl_LatOf, E_impl_CosI, ET_impl_MulI, E_impl_EccI, E_impl_RadiusN, E_impl_LonOf, E_impl_AddI, E_impl_SinI, ET_impl_HeightI, E_impl_oneLess], Bs := [], d := 1 }
noncomputable def t_impl_toCartesian (a0 : Ell) (a1 : Place) : Tr (Vec) :=
  let c1 := F_impl_LatOf a1.pt; let c2 := F_impl_LonOf a1.pt; let c3 := F_impl_RadiusN a0 c1; let c4 := F_impl_HeightI a1.h; let c7 := F_impl_MulI (F_impl_AddI c3 c4) (F_impl_CosI c1); .leaf ⟨(F_impl_MulI c7 (F_impl_CosI c2)), (F_impl_MulI c7 (F_impl_SinI c2)), (F_impl_MulI (F_impl_AddI (F_impl_MulI c3 (F_impl_oneLess (F_impl_EccI a0))) c4) (F_impl_SinI c1))⟩
theorem r_impl_toCartesian (a0 : Ell) (a1 : Place) : Tb99.run B99 [enc a0, enc a1] (Vec) = (t_impl_toCartesian a0 a1).opt := by kernel_rfl
noncomputable def F_impl_toCartesian : Ell → Place → Vec := fun a0 a1 => (t_impl_toCartesian a0 a1).get
theorem u_impl_toCartesian (a0 : Ell) (a1 : Place) : (t_impl_toCartesian a0 a1).opt = some (F_impl_toCartesian a0 a1) := Tr.tot_get (by kernel_rfl)
noncomputable def E_impl_toCartesian : Ent Tryz.prog := .of2 Tb99 B99 (fun _ _ => true) F_impl_toCartesian fun a0 a1 _ => (r_impl_toCartesian a0 a1).trans (u_impl_toCartesian a0 a1)
noncomputable def B32 : Bod Tryz.prog := ⟨32, Tryz.f32, Tryz.f32.body.getD .skip, Tryz.func32, by kernel_rfl, by kernel_rfl, Loops.no _ _⟩
noncomputable def Tb32 : Tb Tryz.prog := { T := [Y2, Y27, Y29, Y50, Y58], mix := mix, Es := [E_impl_ValidEllipsoid, E_impl_ValidPlace, E_impl_toCartesian], Bs := [], d := 1 }
noncomputable def t_impl_ToCartesian (a0 : Ell) (a1 : Place) : Tr (T2 Vec I64) :=
  .br (!(F_impl_ValidEllipsoid a0)) (.leaf ⟨⟨⟨⟨0, rfl⟩, ⟨0, rfl⟩⟩, ⟨⟨0, rfl⟩, ⟨0, rfl⟩⟩, ⟨⟨0, rfl⟩, ⟨0, rfl⟩⟩⟩, ⟨1, rfl⟩⟩) (.br (!(F_impl_ValidPlace a1)) (.leaf ⟨⟨⟨⟨0, rfl⟩, ⟨0, rfl⟩⟩, ⟨⟨0, rfl⟩, ⟨0, rfl⟩⟩, ⟨⟨0, rfl⟩, ⟨0, rfl⟩⟩⟩, ⟨1, rfl⟩⟩) (.leaf ⟨(F_impl_toCartesian a0 a1), ⟨0, rfl⟩⟩))
theorem r_impl_ToCartesian (a0 : Ell) (a1 : Place) : Tb32.run B32 [enc a0, enc a1] (T2 Vec I64) = (t_impl_ToCartesian a0 a1).opt := by kernel_rfl
noncomputable def F_impl_ToCartesian : Ell → Place → T2 Vec I64 := fun a0 a1 => (t_impl_ToCartesian a0 a1).get
theorem u_impl_ToCartesian (a0 : Ell) (a1 : Place) : (t_impl_ToCartesian a0 a1).opt = some (F_impl_ToCartesian a0 a1) := Tr.tot_get (by kernel_rfl)
noncomputable def E_impl_ToCartesian : Ent Tryz.prog := .of2 Tb32 B32 (fun _ _ => true) F_impl_ToCartesian fun a0 a1 _ => (r_impl_ToCartesian a0 a1).trans (u_impl_ToCartesian a0 a1)
noncomputable def B7 : Bod Tryz.prog := ⟨7, Tryz.f7, Tryz.f7.body.getD .skip, Tryz.func7, by kernel_rfl, by kernel_rfl, Loops.no _ _⟩
noncomputable def Tb7 : Tb Tryz.prog := { T := [Y2, Y27, Y29, Y46, Y55], mix := mix, Es := [E_laws_eqVec, E_laws_toEllipsoid, E_spec_ToCartesian, E_laws_toPlace, E_impl_ToCartesian], Bs := [], d := 1 }
noncomputable def t_laws_FnExactToCartesian (a0 : Ell) (a1 : Place) : Tr (Bool) :=
  let c3 := F_spec_ToCartesian (F_laws_toEllipsoid a0) (F_laws_toPlace a1); let c6 := F_impl_ToCartesian (F_laws_toEllipsoid a0) (F_laws_toPlace a1); .br (!(F_laws_eqVec c6.a c3.a)) (.leaf false) (.br (c6.b.val != c3.b.val) (.leaf false) (.leaf true))
theorem r_laws_FnExactToCartesian (a0 : Ell) (a1 : Place) : Tb7.run B7 [enc a0, enc a1] (Bool) = (t_laws_FnExactToCartesian a0 a1).opt := by kernel_rfl
noncomputable def F_laws_FnExactToCartesian : Ell → Place → Bool := fun a0 a1 => (t_laws_FnExactToCartesian a0 a1).get
theorem u_laws_FnExactToCartesian (a0 : Ell) (a1 : Place) : (t_laws_FnExactToCartesian a0 a1).opt = some (F_laws_FnExactToCartesian a0 a1) := Tr.tot_get (by kernel_rfl)
noncomputable def E_laws_FnExactToCartesian : Ent Tryz.prog := .of2 Tb7 B7 (fun _ _ => true) F_laws_FnExactToCartesian fun a0 a1 _ => (r_laws_FnExactToCartesian a0 a1).trans (u_laws_FnExactToCartesian a0 a1)
noncomputable def B100 : Bod Tryz.prog := ⟨100, Tryz.f100, Tryz.f100.body.getD .skip, Tryz.func100, by kernel_rfl, by kernel_rfl, Loops.no _ _⟩
noncomputable def Tb100 : Tb Tryz.prog := { T := [Y2, Y27, Y29], mix := mix, Es := [E_spec_SubI], Bs := [], d := 1 }
noncomputable def t_spec_SubV (a0 : Vec) (a1 : Vec) : Tr (Vec) :=
  .leaf ⟨(F_spec_SubI a0.x a1.x), (F_spec_SubI a0.y a1.y), (F_spec_SubI a0.z a1.z)⟩
theorem r_spec_SubV (a0 : Vec) (a1 : Vec) : Tb100.run B100 [enc a0, enc a1] (Vec) = (t_spec_SubV a0 a1).opt := by kernel_rfl
noncomputable def F_spec_SubV : Vec → Vec → Vec := fun a0 a1 => (t_spec_SubV a0 a1).get
theorem u_spec_SubV (a0 : Vec) (a1 : Vec) : (t_spec_SubV a0 a1).opt = some (F_spec_SubV a0 a1) := Tr.tot_get (by kernel_rfl)
noncomputable def E_spec_SubV : Ent Tryz.prog := .of2 Tb100 B100 (fun _ _ => true) F_spec_SubV fun a0 a1 _ => (r_spec_SubV a0 a1).trans (u_spec_SubV a0 a1)
noncomputable def B33 : Bod Tryz.prog := ⟨33, Tryz.f33, Tryz.f33.body.getD .skip, Tryz.func33, by kernel_rfl, by kernel_rfl, Loops.no _ _⟩
noncomputable def Tb33 : Tb Tryz.prog := { T := [Y2, Y27, Y29, Y34, Y50, Y58], mix := mix, Es := [E_spec_l11Ok, E_spec_MulI, E_spec_CosI, ET_spec_RadiansOf, E_spec_ValidEllipsoid, E_spec_l14To_p, E_spec_SubV, E_spec_AddI, E_spec_SinI, E_spec_SubI, E_spec_l00In], Bs := [B96], d := 8 }
noncomputable def t_spec_LocalTo (a0 : Ell) (a1 : Place) (a2 : Place) : Tr (T2 Vec I64) :=
  .br (!(F_spec_ValidEllipsoid a0)) (.leaf ⟨⟨⟨⟨0, rfl⟩, ⟨0, rfl⟩⟩, ⟨⟨0, rfl⟩, ⟨0, rfl⟩⟩, ⟨⟨0, rfl⟩, ⟨0, rfl⟩⟩⟩, ⟨1, rfl⟩⟩) (.br (F_spec_l11Ok a1.pt) (.br (!(F_spec_l00In a1.h ⟨(-20000000), rfl⟩ ⟨20000000000, rfl⟩)) (.leaf ⟨⟨⟨⟨0, rfl⟩, ⟨0, rfl⟩⟩, ⟨⟨0, rfl⟩, ⟨0, rfl⟩⟩, ⟨⟨0, rfl⟩, ⟨0, rfl⟩⟩⟩, ⟨1, rfl⟩⟩) (.br (F_spec_l11Ok a2.pt) (.br (!(F_spec_l00In a2.h ⟨(-20000000), rfl⟩ ⟨20000000000, rfl⟩)) (.leaf ⟨⟨⟨⟨0, rfl⟩, ⟨0, rfl⟩⟩, ⟨⟨0, rfl⟩, ⟨0, rfl⟩⟩, ⟨⟨0, rfl⟩, ⟨0, rfl⟩⟩⟩, ⟨1, rfl⟩⟩) (let c8 := F_spec_SubV (F_spec_l14To_p a0 a2) (F_spec_l14To_p a0 a1); let c9 := F_spec_RadiansOf a1.pt.lat; let c10 := F_spec_RadiansOf a1.pt.lon; let c15 := F_spec_AddI (F_spec_MulI c8.x (F_spec_CosI c10)) (F_spec_MulI c8.y (F_spec_SinI c10)); .leaf ⟨⟨(F_spec_SubI (F_spec_MulI c8.y (F_spec_CosI c10)) (F_spec_MulI c8.x (F_spec_SinI c10))), (F_spec_SubI (F_spec_MulI c8.z (F_spec_CosI c9)) (F_spec_MulI c15 (F_spec_SinI c9))), (F_spec_AddI (F_spec_MulI c8.z (F_spec_SinI c9)) (F_spec_MulI c15 (F_spec_CosI c9)))⟩, ⟨0, rfl⟩⟩)) (.leaf ⟨⟨⟨⟨0, rfl⟩, ⟨0, rfl⟩⟩, ⟨⟨0, rfl⟩, ⟨0, rfl⟩⟩, ⟨⟨0, rfl⟩, ⟨0, rfl⟩⟩⟩, ⟨1, rfl⟩⟩))) (.leaf ⟨⟨⟨⟨0, rfl⟩, ⟨0, rfl⟩⟩, ⟨⟨0, rfl⟩, ⟨0, rfl⟩⟩, ⟨⟨0, rfl⟩, ⟨0, rfl⟩⟩⟩, ⟨1, rfl⟩⟩))
theorem r_spec_LocalTo (a0 : Ell) (a1 : Place) (a2 : Place) : Tb33.run B33 [enc a0, enc a1, enc a2] (T2 Vec I64) = (t_spec_LocalTo a0 a1 a2).opt := by kernel_rfl
noncomputable def F_spec_LocalTo : Ell → Place → Place → T2 Vec I64 := fun a0 a1 a2 => (t_spec_LocalTo a0 a1 a2).get
theorem u_spec_LocalTo (a0 : Ell) (a1 : Place) (a2 : Place) : (t_spec_LocalTo a0 a1 a2).opt = some (F_spec_LocalTo a0 a1 a2) := Tr.tot_get (by kernel_rfl)
noncomputable def E_spec_LocalTo : Ent Tryz.prog := .of3 Tb33 B33 (fun _ _ _ => true) F_spec_LocalTo fun a0 a1 a2 _ => (r_spec_LocalTo a0 a1 a2).trans (u_spec_LocalTo a0 a1 a2)
noncomputable def B199 : Bod Tryz.prog := ⟨199, Tryz.f199, Tryz.f199.body.getD .skip, Tryz.func199, by kernel_rfl, by kernel_rfl, Loops.no _ _⟩
noncomputable def Tb199 : Tb Tryz.prog := { T := [Y2, Y27, Y29], mix := mix, Es := [E_impl_SubI], Bs := [], d := 1 }
noncomputable def t_impl_SubV (a0 : Vec) (a1 : Vec) : Tr (Vec) :=
  .leaf ⟨(F_impl_SubI a0.x a1.x), (F_impl_SubI a0.y a1.y), (F_impl_SubI a0.z a1.z)⟩
theorem r_impl_SubV (a0 : Vec) (a1 : Vec) : Tb199.run B199 [enc a0, enc a1] (Vec) = (t_impl_SubV a0 a1).opt := by kernel_rfl
noncomputable def F_impl_SubV : Vec → Vec → Vec := fun a0 a1 => (t_impl_SubV a0 a1).get
theorem u_impl_SubV (a0 : Vec) (a1 : Vec) : (t_impl_SubV a0 a1).opt = some (F_impl_SubV a0 a1) := Tr.tot_get (by kernel_rfl)
noncomputable def E_impl_SubV : Ent Tryz.prog := .of2 Tb199 B199 (fun _ _ => true) F_impl_SubV fun a0 a1 _ => (r_impl_SubV a0 a1).trans (u_impl_SubV a0 a1)
noncomputable def B104 : Bod Tryz.prog := ⟨104, Tryz.f104, Tryz.f104.body.getD .skip, Tryz.func104, by kernel_rfl, by kernel_rfl, Loops.no _ _⟩
noncomputable def Tb104 : Tb Tryz.prog := { T := [Y2, Y27, Y29, Y50, Y58], mix := mix, Es := [E_impl_ValidEllipsoid, E_impl_ValidPlace, E_impl_toCartesian, E_impl_SubV], Bs := [], d := 1 }
noncomputable def t_impl_difference (a0 : Ell) (a1 : Place) (a2 : Place) : Tr (T2 Vec I64) :=
  .br (!(F_impl_ValidEllipsoid a0)) (.leaf ⟨⟨⟨⟨0, rfl⟩, ⟨0, rfl⟩⟩, ⟨⟨0, rfl⟩, ⟨0, rfl⟩⟩, ⟨⟨0, rfl⟩, ⟨0, rfl⟩⟩⟩, ⟨1, rfl⟩⟩) (.br (!(F_impl_ValidPlace a1)) (.leaf ⟨⟨⟨⟨0, rfl⟩, ⟨0, rfl⟩⟩, ⟨⟨0, rfl⟩, ⟨0, rfl⟩⟩, ⟨⟨0, rfl⟩, ⟨0, rfl⟩⟩⟩, ⟨1, rfl⟩⟩) (.br (!(F_impl_ValidPlace a2)) (.leaf ⟨⟨⟨⟨0, rfl⟩, ⟨0, rfl⟩⟩, ⟨⟨0, rfl⟩, ⟨0, rfl⟩⟩, ⟨⟨0, rfl⟩, ⟨0, rfl⟩⟩⟩, ⟨1, rfl⟩⟩) (.leaf ⟨(F_impl_SubV (F_impl_toCartesian a0 a2) (F_impl_toCartesian a0 a1)), ⟨0, rfl⟩⟩)))
theorem r_impl_difference (a0 : Ell) (a1 : Place) (a2 : Place) : Tb104.run B104 [enc a0, enc a1, enc a2] (T2 Vec I64) = (t_impl_difference a0 a1 a2).opt := by kernel_rfl
noncomputable def F_impl_difference : Ell → Place → Place → T2 Vec I64 := fun a0 a1 a2 => (t_impl_difference a0 a1 a2).get
theorem u_impl_difference (a0 : Ell) (a1 : Place) (a2 : Place) : (t_impl_difference a0 a1 a2).opt = some (F_impl_difference a0 a1 a2) := Tr.tot_get (by kernel_rfl)
noncomputable def E_impl_difference : Ent Tryz.prog := .of3 Tb104 B104 (fun _ _ _ => true) F_impl_difference fun a0 a1 a2 _ => (r_impl_difference a0 a1 a2).trans (u_impl_difference a0 a1 a2)
noncomputable def B34 : Bod Tryz.prog := ⟨34, Tryz.f34, Tryz.f34.body.getD .skip, Tryz.func34, by kernel_rfl, by kernel_rfl, Loops.no _ _⟩
noncomputable def Tb34 : Tb Tryz.prog := { T := [Y2, Y27, Y29, Y34, Y50, Y58], mix := mix, Es := [E_impl_LatOf, E_impl_CosI, ET_impl_MulI, E_impl_SubI, E_impl_difference, E_impl_LonOf, E_impl_AddI, E_impl_SinI], Bs := [], d := 1 }
noncomputable def t_impl_LocalTo (a0 : Ell) (a1 : Place) (a2 : Place) : Tr (T2 Vec I64) :=
  let c1 := F_impl_difference a0 a1 a2; .br (c1.b.val != 0) (.leaf ⟨⟨⟨⟨0, rfl⟩, ⟨0, rfl⟩⟩, ⟨⟨0, rfl⟩, ⟨0, rfl⟩⟩, ⟨⟨0, rfl⟩, ⟨0, rfl⟩⟩⟩, c1.b⟩) (let c2 := F_impl_LatOf a1.pt; let c3 := F_impl_LonOf a1.pt; let c8 := F_impl_AddI (F_impl_MulI c1.a.x (F_impl_CosI c3)) (F_impl_MulI c1.a.y (F_impl_SinI c3)); .leaf ⟨⟨(F_impl_SubI (F_impl_MulI c1.a.y (F_impl_CosI c3)) (F_impl_MulI c1.a.x (F_impl_SinI c3))), (F_impl_SubI (F_impl_MulI c1.a.z (F_impl_CosI c2)) (F_impl_MulI c8 (F_impl_SinI c2))), (F_impl_AddI (F_impl_MulI c1.a.z (F_impl_SinI c2)) (F_impl_MulI c8 (F_impl_CosI c2)))⟩, ⟨0, rfl⟩⟩)
theorem r_impl_LocalTo (a0 : Ell) (a1 : Place) (a2 : Place) : Tb34.run B34 [enc a0, enc a1, enc a2] (T2 Vec I64) = (t_impl_LocalTo a0 a1 a2).opt := by kernel_rfl
noncomputable def F_impl_LocalTo : Ell → Place → Place → T2 Vec I64 := fun a0 a1 a2 => (t_impl_LocalTo a0 a1 a2).get
theorem u_impl_LocalTo (a0 : Ell) (a1 : Place) (a2 : Place) : (t_impl_LocalTo a0 a1 a2).opt = some (F_impl_LocalTo a0 a1 a2) := Tr.tot_get (by kernel_rfl)
noncomputable def E_impl_LocalTo : Ent Tryz.prog := .of3 Tb34 B34 (fun _ _ _ => true) F_impl_LocalTo fun a0 a1 a2 _ => (r_impl_LocalTo a0 a1 a2).trans (u_impl_LocalTo a0 a1 a2)
noncomputable def B8 : Bod Tryz.prog := ⟨8, Tryz.f8, Tryz.f8.body.getD .skip, Tryz.func8, by kernel_rfl, by kernel_rfl, Loops.no _ _⟩
noncomputable def Tb8 : Tb Tryz.prog := { T := [Y2, Y27, Y29, Y46, Y55], mix := mix, Es := [E_laws_eqVec, E_laws_toEllipsoid, E_laws_toPlace, E_spec_LocalTo, E_impl_LocalTo], Bs := [], d := 1 }
noncomputable def t_laws_FnExactLocalTo (a0 : Ell) (a1 : Place) (a2 : Place) : Tr (Bool) :=
  let c4 := F_spec_LocalTo (F_laws_toEllipsoid a0) (F_laws_toPlace a1) (F_laws_toPlace a2); let c8 := F_impl_LocalTo (F_laws_toEllipsoid a0) (F_laws_toPlace a1) (F_laws_toPlace a2); .br (!(F_laws_eqVec c8.a c4.a)) (.leaf false) (.br (c8.b.val != c4.b.val) (.leaf false) (.leaf true))
theorem r_laws_FnExactLocalTo (a0 : Ell) (a1 : Place) (a2 : Place) : Tb8.run B8 [enc a0, enc a1, enc a2] (Bool) = (t_laws_FnExactLocalTo a0 a1 a2).opt := by kernel_rfl
noncomputable def F_laws_FnExactLocalTo : Ell → Place → Place → Bool := fun a0 a1 a2 => (t_laws_FnExactLocalTo a0 a1 a2).get
theorem u_laws_FnExactLocalTo (a0 : Ell) (a1 : Place) (a2 : Place) : (t_laws_FnExactLocalTo a0 a1 a2).opt = some (F_laws_FnExactLocalTo a0 a1 a2) := Tr.tot_get (by kernel_rfl)
noncomputable def E_laws_FnExactLocalTo : Ent Tryz.prog := .of3 Tb8 B8 (fun _ _ _ => true) F_laws_FnExactLocalTo fun a0 a1 a2 _ => (r_laws_FnExactLocalTo a0 a1 a2).trans (u_laws_FnExactLocalTo a0 a1 a2)
noncomputable def B35 : Bod Tryz.prog := ⟨35, Tryz.f35, Tryz.f35.body.getD .skip, Tryz.func35, by kernel_rfl, by kernel_rfl, Loops.no _ _⟩
noncomputable def Tb35 : Tb Tryz.prog := { T := [Y2, Y27, Y34, Y50, Y58], mix := mix, Es := [E_spec_l11Ok, E_spec_ValidEllipsoid, E_spec_l14To_p, E_spec_SubV, E_spec_NormV, E_spec_l00In], Bs := [B96], d := 8 }
noncomputable def t_spec_ChordBetween (a0 : Ell) (a1 : Place) (a2 : Place) : Tr (T2 Iv I64) :=
  .br (!(F_spec_ValidEllipsoid a0)) (.leaf ⟨⟨⟨0, rfl⟩, ⟨0, rfl⟩⟩, ⟨1, rfl⟩⟩) (.br (F_spec_l11Ok a1.pt) (.br (!(F_spec_l00In a1.h ⟨(-20000000), rfl⟩ ⟨20000000000, rfl⟩)) (.leaf ⟨⟨⟨0, rfl⟩, ⟨0, rfl⟩⟩, ⟨1, rfl⟩⟩) (.br (F_spec_l11Ok a2.pt) (.br (!(F_spec_l00In a2.h ⟨(-20000000), rfl⟩ ⟨20000000000, rfl⟩)) (.leaf ⟨⟨⟨0, rfl⟩, ⟨0, rfl⟩⟩, ⟨1, rfl⟩⟩) (.leaf ⟨(F_spec_NormV (F_spec_SubV (F_spec_l14To_p a0 a1) (F_spec_l14To_p a0 a2))), ⟨0, rfl⟩⟩)) (.leaf ⟨⟨⟨0, rfl⟩, ⟨0, rfl⟩⟩, ⟨1, rfl⟩⟩))) (.leaf ⟨⟨⟨0, rfl⟩, ⟨0, rfl⟩⟩, ⟨1, rfl⟩⟩))
theorem r_spec_ChordBetween (a0 : Ell) (a1 : Place) (a2 : Place) : Tb35.run B35 [enc a0, enc a1, enc a2] (T2 Iv I64) = (t_spec_ChordBetween a0 a1 a2).opt := by kernel_rfl
noncomputable def F_spec_ChordBetween : Ell → Place → Place → T2 Iv I64 := fun a0 a1 a2 => (t_spec_ChordBetween a0 a1 a2).get
theorem u_spec_ChordBetween (a0 : Ell) (a1 : Place) (a2 : Place) : (t_spec_ChordBetween a0 a1 a2).opt = some (F_spec_ChordBetween a0 a1 a2) := Tr.tot_get (by kernel_rfl)
noncomputable def E_spec_ChordBetween : Ent Tryz.prog := .of3 Tb35 B35 (fun _ _ _ => true) F_spec_ChordBetween fun a0 a1 a2 _ => (r_spec_ChordBetween a0 a1 a2).trans (u_spec_ChordBetween a0 a1 a2)
noncomputable def B36 : Bod Tryz.prog := ⟨36, Tryz.f36, Tryz.f36.body.getD .skip, Tryz.func36, by kernel_rfl, by kernel_rfl, Loops.no _ _⟩
noncomputable def Tb36 : Tb Tryz.prog := { T := [Y2, Y27, Y29, Y50, Y58], mix := mix, Es := [E_impl_difference, ET_impl_NormV], Bs := [], d := 1 }
noncomputable def t_impl_ChordBetween (a0 : Ell) (a1 : Place) (a2 : Place) : Tr (T2 Iv I64) :=
  let c1 := F_impl_difference a0 a1 a2; .br (c1.b.val != 0) (.leaf ⟨⟨⟨0, rfl⟩, ⟨0, rfl⟩⟩, c1.b⟩) (.leaf ⟨(F_impl_NormV c1.a), ⟨0, rfl⟩⟩)
theorem r_impl_ChordBetween (a0 : Ell) (a1 : Place) (a2 : Place) : Tb36.run B36 [enc a0, enc a1, enc a2] (T2 Iv I64) = (t_impl_ChordBetween a0 a1 a2).opt := by kernel_rfl
noncomputable def F_impl_ChordBetween : Ell → Place → Place → T2 Iv I64 := fun a0 a1 a2 => (t_impl_ChordBetween a0 a1 a2).get
theorem u_impl_ChordBetween (a0 : Ell) (a1 : Place) (a2 : Place) : (t_impl_ChordBetween a0 a1 a2).opt = some (F_impl_ChordBetween a0 a1 a2) := Tr.tot_get (by kernel_rfl)
noncomputable def E_impl_ChordBetween : Ent Tryz.prog := .of3 Tb36 B36 (fun _ _ _ => true) F_impl_ChordBetween fun a0 a1 a2 _ => (r_impl_ChordBetween a0 a1 a2).trans (u_impl_ChordBetween a0 a1 a2)
noncomputable def B9 : Bod Tryz.prog := ⟨9, Tryz.f9, Tryz.f9.body.getD .skip, Tryz.func9, by kernel_rfl, by kernel_rfl, Loops.no _ _⟩
noncomputable def Tb9 : Tb Tryz.prog := { T := [Y2, Y27, Y46, Y55], mix := mix, Es := [E_laws_eqInterval, E_laws_toEllipsoid, E_laws_toPlace, E_spec_ChordBetween, E_impl_ChordBetween], Bs := [], d := 1 }
noncomputable def t_laws_FnExactChordBetween (a0 : Ell) (a1 : Place) (a2 : Place) : Tr (Bool) :=
  let c4 := F_spec_ChordBetween (F_laws_toEllipsoid a0) (F_laws_toPlace a1) (F_laws_toPlace a2); let c8 := F_impl_ChordBetween (F_laws_toEllipsoid a0) (F_laws_toPlace a1) (F_laws_toPlace a2); .br (!(F_laws_eqInterval c8.a c4.a)) (.leaf false) (.br (c8.b.val != c4.b.val) (.leaf false) (.leaf true))
theorem r_laws_FnExactChordBetween (a0 : Ell) (a1 : Place) (a2 : Place) : Tb9.run B9 [enc a0, enc a1, enc a2] (Bool) = (t_laws_FnExactChordBetween a0 a1 a2).opt := by kernel_rfl
noncomputable def F_laws_FnExactChordBetween : Ell → Place → Place → Bool := fun a0 a1 a2 => (t_laws_FnExactChordBetween a0 a1 a2).get
theorem u_laws_FnExactChordBetween (a0 : Ell) (a1 : Place) (a2 : Place) : (t_laws_FnExactChordBetween a0 a1 a2).opt = some (F_laws_FnExactChordBetween a0 a1 a2) := Tr.tot_get (by kernel_rfl)
noncomputable def E_laws_FnExactChordBetween : Ent Tryz.prog := .of3 Tb9 B9 (fun _ _ _ => true) F_laws_FnExactChordBetween fun a0 a1 a2 _ => (r_laws_FnExactChordBetween a0 a1 a2).trans (u_laws_FnExactChordBetween a0 a1 a2)
noncomputable def B125 : Bod Tryz.prog := ⟨125, Tryz.f125, Tryz.f125.body.getD .skip, Tryz.func125, by kernel_rfl, by kernel_rfl, Loops.no _ _⟩
noncomputable def Tb125 : Tb Tryz.prog := { T := [Y2, Y27, Y50], mix := mix, Es := [E_spec_MulI, ET_spec_Quotient, E_spec_MajorI, E_spec_l12Ok, E_spec_l04Whole], Bs := [], d := 1 }
noncomputable def t_spec_MinorI (a0 : Ell) : Tr (Iv) :=
  .br (!(F_spec_l12Ok a0)) (.leaf F_spec_l04Whole) (.leaf (F_spec_MulI (F_spec_MajorI a0) (F_spec_Quotient (Rng.w .i64 (a0.den.val - a0.num.val)) a0.den)))
theorem r_spec_MinorI (a0 : Ell) : Tb125.run B125 [enc a0] (Iv) = (t_spec_MinorI a0).opt := by kernel_rfl
noncomputable def F_spec_MinorI : Ell → Iv := fun a0 => (t_spec_MinorI a0).get
theorem u_spec_MinorI (a0 : Ell) : (t_spec_MinorI a0).opt = some (F_spec_MinorI a0) := Tr.tot_get (by kernel_rfl)
noncomputable def E_spec_MinorI : Ent Tryz.prog := .of1 Tb125 B125 (fun _ => true) F_spec_MinorI fun a0 _ => (r_spec_MinorI a0).trans (u_spec_MinorI a0)
noncomputable def B41 : Bod Tryz.prog := ⟨41, Tryz.f41, Tryz.f41.body.getD .skip, Tryz.func41, by kernel_rfl, by kernel_rfl, Loops.no _ _⟩
noncomputable def Tb41 : Tb Tryz.prog := { T := [Y2, Y27, Y29, Y50], mix := mix, Es := [E_spec_Integer, E_spec_DivI, E_spec_ValidEllipsoid, E_spec_l15Flat, E_spec_AddI, E_spec_SqrI, E_spec_MajorI, E_spec_MinorI, E_spec_LessI], Bs := [], d := 1 }
noncomputable def t_spec_InsideOf (a0 : Ell) (a1 : Vec) : Tr (T2 I64 I64) :=
  .br (!(F_spec_ValidEllipsoid a0)) (.leaf ⟨⟨0, rfl⟩, ⟨1, rfl⟩⟩) (.leaf ⟨(F_spec_LessI (F_spec_AddI (F_spec_SqrI (F_spec_DivI (F_spec_l15Flat a1) (F_spec_MajorI a0))) (F_spec_SqrI (F_spec_DivI a1.z (F_spec_MinorI a0)))) (F_spec_Integer ⟨1, rfl⟩)), ⟨0, rfl⟩⟩)
theorem r_spec_InsideOf (a0 : Ell) (a1 : Vec) : Tb41.run B41 [enc a0, enc a1] (T2 I64 I64) = (t_spec_InsideOf a0 a1).opt := by kernel_rfl
noncomputable def F_spec_InsideOf : Ell → Vec → T2 I64 I64 := fun a0 a1 => (t_spec_InsideOf a0 a1).get
theorem u_spec_InsideOf (a0 : Ell) (a1 : Vec) : (t_spec_InsideOf a0 a1).opt = some (F_spec_InsideOf a0 a1) := Tr.tot_get (by kernel_rfl)
noncomputable def E_spec_InsideOf : Ent Tryz.prog := .of2 Tb41 B41 (fun _ _ => true) F_spec_InsideOf fun a0 a1 _ => (r_spec_InsideOf a0 a1).trans (u_spec_InsideOf a0 a1)
noncomputable def B219 : Bod Tryz.prog := ⟨219, Tryz.f219, Tryz.f219.body.getD .skip, Tryz.func219, by kernel_rfl, by kernel_rfl, Loops.no _ _⟩
noncomputable def B127 : Bod Tryz.prog := ⟨127, Tryz.f127, Tryz.f127.body.getD .skip, Tryz.func127, by kernel_rfl, by kernel_rfl, Loops.no _ _⟩
noncomputable def Tb127 : Tb Tryz.prog := { T := [Y2, Y27, Y50], mix := mix, Es := [E_impl_Whole, ET_impl_MulI, ET_impl_Quotient, E_impl_ValidEllipsoid, E_impl_MajorI], Bs := [B213, B219], d := 8 }
noncomputable def t_impl_MinorI (a0 : Ell) : Tr (Iv) :=
  .br (!(F_impl_ValidEllipsoid a0)) (.leaf F_impl_Whole) (.leaf (F_impl_MulI (F_impl_MajorI a0) (F_impl_Quotient (Rng.w .i64 (a0.den.val - a0.num.val)) a0.den)))
theorem r_impl_MinorI (a0 : Ell) : Tb127.run B127 [enc a0] (Iv) = (t_impl_MinorI a0).opt := by kernel_rfl
noncomputable def F_impl_MinorI : Ell → Iv := fun a0 => (t_impl_MinorI a0).get
theorem u_impl_MinorI (a0 : Ell) : (t_impl_MinorI a0).opt = some (F_impl_MinorI a0) := Tr.tot_get (by kernel_rfl)
noncomputable def E_impl_MinorI : Ent Tryz.prog := .of1 Tb127 B127 (fun _ => true) F_impl_MinorI fun a0 _ => (r_impl_MinorI a0).trans (u_impl_MinorI a0)
noncomputable def B42 : Bod Tryz.prog := ⟨42, Tryz.f42, Tryz.f42.body.getD .skip, Tryz.func42, by kernel_rfl, by kernel_rfl, Loops.no _ _⟩
noncomputable def Tb42 : Tb Tryz.prog := { T := [Y2, Y27, Y29, Y50], mix := mix, Es := [E_impl_DivI, E_impl_Integer, E_impl_ValidEllipsoid, E_impl_fromAxis, E_impl_AddI, E_impl_MajorI, E_impl_MinorI, E_impl_LessI, ET_impl_SqrI], Bs := [], d := 1 }
noncomputable def t_impl_InsideOf (a0 : Ell) (a1 : Vec) : Tr (T2 I64 I64) :=
  .br (!(F_impl_ValidEllipsoid a0)) (.leaf ⟨⟨0, rfl⟩, ⟨1, rfl⟩⟩) (.leaf ⟨(F_impl_LessI (F_impl_AddI (F_impl_SqrI (F_impl_DivI (F_impl_fromAxis a1) (F_impl_MajorI a0))) (F_impl_SqrI (F_impl_DivI a1.z (F_impl_MinorI a0)))) (F_impl_Integer ⟨1, rfl⟩)), ⟨0, rfl⟩⟩)
theorem r_impl_InsideOf (a0 : Ell) (a1 : Vec) : Tb42.run B42 [enc a0, enc a1] (T2 I64 I64) = (t_impl_InsideOf a0 a1).opt := by kernel_rfl
noncomputable def F_impl_InsideOf : Ell → Vec → T2 I64 I64 := fun a0 a1 => (t_impl_InsideOf a0 a1).get
theorem u_impl_InsideOf (a0 : Ell) (a1 : Vec) : (t_impl_InsideOf a0 a1).opt = some (F_impl_InsideOf a0 a1) := Tr.tot_get (by kernel_rfl)
noncomputable def E_impl_InsideOf : Ent Tryz.prog := .of2 Tb42 B42 (fun _ _ => true) F_impl_InsideOf fun a0 a1 _ => (r_impl_InsideOf a0 a1).trans (u_impl_InsideOf a0 a1)
noncomputable def B12 : Bod Tryz.prog := ⟨12, Tryz.f12, Tryz.f12.body.getD .skip, Tryz.func12, by kernel_rfl, by kernel_rfl, Loops.no _ _⟩
noncomputable def Tb12 : Tb Tryz.prog := { T := [Y46, Y48], mix := mix, Es := [E_laws_toEllipsoid, E_laws_toVec, E_spec_InsideOf, E_impl_InsideOf], Bs := [], d := 1 }
noncomputable def t_laws_FnExactInsideOf (a0 : Ell) (a1 : Vec) : Tr (Bool) :=
  let c3 := F_spec_InsideOf (F_laws_toEllipsoid a0) (F_laws_toVec a1); let c6 := F_impl_InsideOf (F_laws_toEllipsoid a0) (F_laws_toVec a1); .br (c6.a.val != c3.a.val) (.leaf false) (.br (c6.b.val != c3.b.val) (.leaf false) (.leaf true))
theorem r_laws_FnExactInsideOf (a0 : Ell) (a1 : Vec) : Tb12.run B12 [enc a0, enc a1] (Bool) = (t_laws_FnExactInsideOf a0 a1).opt := by kernel_rfl
noncomputable def F_laws_FnExactInsideOf : Ell → Vec → Bool := fun a0 a1 => (t_laws_FnExactInsideOf a0 a1).get
theorem u_laws_FnExactInsideOf (a0 : Ell) (a1 : Vec) : (t_laws_FnExactInsideOf a0 a1).opt = some (F_laws_FnExactInsideOf a0 a1) := Tr.tot_get (by kernel_rfl)
noncomputable def E_laws_FnExactInsideOf : Ent Tryz.prog := .of2 Tb12 B12 (fun _ _ => true) F_laws_FnExactInsideOf fun a0 a1 _ => (r_laws_FnExactInsideOf a0 a1).trans (u_laws_FnExactInsideOf a0 a1)
noncomputable def B269 : Bod Tryz.prog := ⟨269, Tryz.f269, Tryz.f269.body.getD .skip, Tryz.func269, by kernel_rfl, by kernel_rfl, Loops.no _ _⟩
noncomputable def Tb269 : Tb Tryz.prog := { T := [Y2, Y27], mix := mix, Es := [E_spec_l04Whole, E_spec_l04Ok, E_spec_l04Make], Bs := [], d := 1 }
noncomputable def t_spec_l08Ends (a0 : Iv) (a1 : Iv) : Tr (Iv) :=
  .br (!(F_spec_l04Ok a0)) (.leaf F_spec_l04Whole) (.br (!(F_spec_l04Ok a1)) (.leaf F_spec_l04Whole) (.leaf (F_spec_l04Make a0.lo a1.hi)))
theorem r_spec_l08Ends (a0 : Iv) (a1 : Iv) : Tb269.run B269 [enc a0, enc a1] (Iv) = (t_spec_l08Ends a0 a1).opt := by kernel_rfl
noncomputable def F_spec_l08Ends : Iv → Iv → Iv := fun a0 a1 => (t_spec_l08Ends a0 a1).get
theorem u_spec_l08Ends (a0 : Iv) (a1 : Iv) : (t_spec_l08Ends a0 a1).opt = some (F_spec_l08Ends a0 a1) := Tr.tot_get (by kernel_rfl)
noncomputable def E_spec_l08Ends : Ent Tryz.prog := .of2 Tb269 B269 (fun _ _ => true) F_spec_l08Ends fun a0 a1 _ => (r_spec_l08Ends a0 a1).trans (u_spec_l08Ends a0 a1)
noncomputable def B297 : Bod Tryz.prog := ⟨297, Tryz.f297, Tryz.f297.body.getD .skip, Tryz.func297, by kernel_rfl, by kernel_rfl, Loops.no _ _⟩
noncomputable def Tb297 : Tb Tryz.prog := { T := [Y2, Y27], mix := mix, Es := [E_spec_l04Whole, E_spec_l04Ok, E_spec_l08Ends, ET_spec_LogAt], Bs := [], d := 1 }
noncomputable def t_spec_LogI (a0 : Iv) : Tr (Iv) :=
  .br (!(F_spec_l04Ok a0)) (.leaf F_spec_l04Whole) (.leaf (F_spec_l08Ends (F_spec_LogAt a0.lo) (F_spec_LogAt a0.hi)))
theorem r_spec_LogI (a0 : Iv) : Tb297.run B297 [enc a0] (Iv) = (t_spec_LogI a0).opt := by kernel_rfl
noncomputable def F_spec_LogI : Iv → Iv := fun a0 => (t_spec_LogI a0).get
theorem u_spec_LogI (a0 : Iv) : (t_spec_LogI a0).opt = some (F_spec_LogI a0) := Tr.tot_get (by kernel_rfl)
noncomputable def E_spec_LogI : Ent Tryz.prog := .of1 Tb297 B297 (fun _ => true) F_spec_LogI fun a0 _ => (r_spec_LogI a0).trans (u_spec_LogI a0)
noncomputable def B270 : Bod Tryz.prog := ⟨270, Tryz.f270, Tryz.f270.body.getD .skip, Tryz.func270, by kernel_rfl, by kernel_rfl, Loops.no _ _⟩
noncomputable def Tb270_p : Tb Tryz.prog := { T := [Y2, Y27], mix := mix, Es := [E_spec_HalfI, E_spec_DivI, E_spec_l04Whole, E_spec_LogI, E_spec_l08At], Bs := [], d := 1 }
noncomputable def t_spec_l08Atanh_p (a0 : I64) : Tr (Iv) :=
  .br (decide (a0.val < 0)) (.bad) (.br (decide (a0.val ≥ 4294967296)) (.leaf F_spec_l04Whole) (.leaf (F_spec_HalfI (F_spec_LogI (F_spec_DivI (F_spec_l08At (Rng.w .i64 (4294967296 + a0.val))) (F_spec_l08At (Rng.w .i64 (4294967296 - a0.val))))))))
theorem r_spec_l08Atanh_p (a0 : I64) : Tb270_p.run B270 [enc a0] (Iv) = (t_spec_l08Atanh_p a0).opt := by kernel_rfl
noncomputable def F_spec_l08Atanh_p : I64 → Iv := fun a0 => (t_spec_l08Atanh_p a0).get
noncomputable def G_spec_l08Atanh_p : I64 → Bool := fun a0 => (t_spec_l08Atanh_p a0).opt.isSome
noncomputable def E_spec_l08Atanh_p : Ent Tryz.prog := .of1 Tb270_p B270 G_spec_l08Atanh_p F_spec_l08Atanh_p fun a0 h => (r_spec_l08Atanh_p a0).trans (Tr.get_some h)
noncomputable def Tb270 : Tb Tryz.prog := { T := [Y2, Y27], mix := mix, Es := [E_spec_HalfI, E_spec_DivI, E_spec_l04Whole, E_spec_NegI, E_spec_l08Atanh_p, E_spec_LogI, E_spec_l08At], Bs := [], d := 1 }
noncomputable def t_spec_l08Atanh (a0 : I64) : Tr (Iv) :=
  .br (decide (a0.val < 0)) (let c1 := (Rng.w .i64 (0 - a0.val)); .br (G_spec_l08Atanh_p c1) (.leaf (F_spec_NegI (F_spec_l08Atanh_p c1))) (.bad)) (.br (decide (a0.val ≥ 4294967296)) (.leaf F_spec_l04Whole) (.leaf (F_spec_HalfI (F_spec_LogI (F_spec_DivI (F_spec_l08At (Rng.w .i64 (4294967296 + a0.val))) (F_spec_l08At (Rng.w .i64 (4294967296 - a0.val))))))))
theorem r_spec_l08Atanh (a0 : I64) : Tb270.run B270 [enc a0] (Iv) = (t_spec_l08Atanh a0).opt := by kernel_rfl
noncomputable def F_spec_l08Atanh : I64 → Iv := fun a0 => (t_spec_l08Atanh a0).get
noncomputable def G_spec_l08Atanh : I64 → Bool := fun a0 => (t_spec_l08Atanh a0).opt.isSome
noncomputable def E_spec_l08Atanh : Ent Tryz.prog := .of1 Tb270 B270 G_spec_l08Atanh F_spec_l08Atanh fun a0 h => (r_spec_l08Atanh a0).trans (Tr.get_some h)
noncomputable def B220 : Bod Tryz.prog := ⟨220, Tryz.f220, Tryz.f220.body.getD .skip, Tryz.func220, by kernel_rfl, by kernel_rfl, Loops.no _ _⟩
noncomputable def Tb220 : Tb Tryz.prog := { T := [Y2, Y27], mix := mix, Es := [E_spec_l04Whole, E_spec_l04Ok, E_spec_l08Ends, E_spec_l08Atanh], Bs := [], d := 1 }
noncomputable def t_spec_AtanhI (a0 : Iv) : Tr (Iv) :=
  .br (!(F_spec_l04Ok a0)) (.leaf F_spec_l04Whole) (.br (G_spec_l08Atanh a0.lo) (.br (G_spec_l08Atanh a0.hi) (.leaf (F_spec_l08Ends (F_spec_l08Atanh a0.lo) (F_spec_l08Atanh a0.hi))) (.bad)) (.bad))
theorem r_spec_AtanhI (a0 : Iv) : Tb220.run B220 [enc a0] (Iv) = (t_spec_AtanhI a0).opt := by kernel_rfl
noncomputable def F_spec_AtanhI : Iv → Iv := fun a0 => (t_spec_AtanhI a0).get
noncomputable def G_spec_AtanhI : Iv → Bool := fun a0 => (t_spec_AtanhI a0).opt.isSome
noncomputable def E_spec_AtanhI : Ent Tryz.prog := .of1 Tb220 B220 G_spec_AtanhI F_spec_AtanhI fun a0 h => (r_spec_AtanhI a0).trans (Tr.get_some h)
noncomputable def B221 : Bod Tryz.prog := ⟨221, Tryz.f221, Tryz.f221.body.getD .skip, Tryz.func221, by kernel_rfl, by kernel_rfl, Loops.no _ _⟩
noncomputable def B224 : Bod Tryz.prog := ⟨224, Tryz.f224, Tryz.f224.body.getD .skip, Tryz.func224, by kernel_rfl, by kernel_rfl, Loops.no _ _⟩
noncomputable def Tb224 : Tb Tryz.prog := { T := [Y2, Y27], mix := mix, Es := [E_impl_Whole, E_impl_IsWhole, E_impl_areBounded, E_impl_bounded, ET_impl_LogAt], Bs := [B221], d := 8 }
noncomputable def t_impl_LogI (a0 : Iv) : Tr (Iv) :=
  .br (F_impl_IsWhole a0) (.leaf F_impl_Whole) (let c3 := F_impl_LogAt a0.lo; let c4 := F_impl_LogAt a0.hi; .br (!(F_impl_areBounded c3 c4)) (.leaf F_impl_Whole) (.leaf (F_impl_bounded c3.lo c4.hi true)))
theorem r_impl_LogI (a0 : Iv) : Tb224.run B224 [enc a0] (Iv) = (t_impl_LogI a0).opt := by kernel_rfl
noncomputable def F_impl_LogI : Iv → Iv := fun a0 => (t_impl_LogI a0).get
theorem u_impl_LogI (a0 : Iv) : (t_impl_LogI a0).opt = some (F_impl_LogI a0) := Tr.tot_get (by kernel_rfl)
noncomputable def E_impl_LogI : Ent Tryz.prog := .of1 Tb224 B224 (fun _ => true) F_impl_LogI fun a0 _ => (r_impl_LogI a0).trans (u_impl_LogI a0)
noncomputable def B223 : Bod Tryz.prog := ⟨223, Tryz.f223, Tryz.f223.body.getD .skip, Tryz.func223, by kernel_rfl, by kernel_rfl, Loops.no _ _⟩
noncomputable def Tb223 : Tb Tryz.prog := { T := [Y2, Y27], mix := mix, Es := [E_impl_HalfI, E_impl_Whole, E_impl_DivI, E_impl_at, E_impl_LogI], Bs := [], d := 1 }
noncomputable def t_impl_AtanhI_1 (a0 : I64) : Tr (Iv) :=
  .br (decide (a0.val ≥ 4294967296)) (.leaf F_impl_Whole) (.leaf (F_impl_HalfI (F_impl_LogI (F_impl_DivI (F_impl_at (Rng.w .i64 (4294967296 + a0.val))) (F_impl_at (Rng.w .i64 (4294967296 - a0.val)))))))
theorem r_impl_AtanhI_1 (a0 : I64) : Tb223.run B223 [enc a0] (Iv) = (t_impl_AtanhI_1 a0).opt := by kernel_rfl
noncomputable def F_impl_AtanhI_1 : I64 → Iv := fun a0 => (t_impl_AtanhI_1 a0).get
theorem u_impl_AtanhI_1 (a0 : I64) : (t_impl_AtanhI_1 a0).opt = some (F_impl_AtanhI_1 a0) := Tr.tot_get (by kernel_rfl)
noncomputable def E_impl_AtanhI_1 : Ent Tryz.prog := .of1 Tb223 B223 (fun _ => true) F_impl_AtanhI_1 fun a0 _ => (r_impl_AtanhI_1 a0).trans (u_impl_AtanhI_1 a0)
noncomputable def B138 : Bod Tryz.prog := ⟨138, Tryz.f138, Tryz.f138.body.getD .skip, Tryz.func138, by kernel_rfl, by kernel_rfl, Loops.no _ _⟩
noncomputable def Tb138 : Tb Tryz.prog := { T := [Y34], mix := mix, Es := [E_impl_ValidPoint], Bs := [], d := 1 }
noncomputable def t_impl_areValid (a0 : Point) (a1 : Point) : Tr (Bool) :=
  .br (F_impl_ValidPoint a0) (.leaf (F_impl_ValidPoint a1)) (.leaf false)
theorem r_impl_areValid (a0 : Point) (a1 : Point) : Tb138.run B138 [enc a0, enc a1] (Bool) = (t_impl_areValid a0 a1).opt := by kernel_rfl
noncomputable def F_impl_areValid : Point → Point → Bool := fun a0 a1 => (t_impl_areValid a0 a1).get
theorem u_impl_areValid (a0 : Point) (a1 : Point) : (t_impl_areValid a0 a1).opt = some (F_impl_areValid a0 a1) := Tr.tot_get (by kernel_rfl)
noncomputable def E_impl_areValid : Ent Tryz.prog := .of2 Tb138 B138 (fun _ _ => true) F_impl_areValid fun a0 a1 _ => (r_impl_areValid a0 a1).trans (u_impl_areValid a0 a1)
end
end Go.Proofs.YtcfflflcbacapaaGreat.Ev
