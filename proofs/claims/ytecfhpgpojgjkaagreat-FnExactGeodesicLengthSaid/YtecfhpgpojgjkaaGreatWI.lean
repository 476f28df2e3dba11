import Derived.Test.YtecfhpgpojgjkaaGreatWG
import Derived.Test.YtecfhpgpojgjkaaGreatP25
namespace Go.Proofs.YtecfhpgpojgjkaaGreat.Ev
open Go Go.RowKit
set_option maxRecDepth 100000
set_option linter.unusedVariables false
section
instance : Inhabited Geo := ⟨⟨default, default, default, default, default⟩⟩
instance : Inhabited GeoS := ⟨⟨default, default, default, default, default, default, default⟩⟩
noncomputable def B255 : Bod Tryz.prog := ⟨255, Tryz.f255, Tryz.f255.body.getD .skip, Tryz.func255, by kernel_rfl, by kernel_rfl, Loops.no _ _⟩
noncomputable def Tb255 : Tb Tryz.prog := { T := [Y2, Y27], mix := mix, Es := [E_spec_l04Ok, E_spec_l04Whole, E_spec_l00Min, E_spec_l04Make], Bs := [], d := 1 }
noncomputable def t_spec_MinI (a0 : Iv) (a1 : Iv) : Tr (Iv) :=
  .br (!(F_spec_l04Ok a0)) (.leaf F_spec_l04Whole) (.br (!(F_spec_l04Ok a1)) (.leaf F_spec_l04Whole) (.leaf (F_spec_l04Make (F_spec_l00Min a0.lo a1.lo) (F_spec_l00Min a0.hi a1.hi))))
theorem r_spec_MinI (a0 : Iv) (a1 : Iv) : Tb255.run B255 [enc a0, enc a1] (Iv) = (t_spec_MinI a0 a1).opt := by kernel_rfl
noncomputable def F_spec_MinI : Iv → Iv → Iv := fun a0 a1 => (t_spec_MinI a0 a1).get
theorem u_spec_MinI (a0 : Iv) (a1 : Iv) : (t_spec_MinI a0 a1).opt = some (F_spec_MinI a0 a1) := Tr.tot_get (by kernel_rfl)
noncomputable def E_spec_MinI : Ent Tryz.prog := .of2 Tb255 B255 (fun _ _ => true) F_spec_MinI fun a0 a1 _ => (r_spec_MinI a0 a1).trans (u_spec_MinI a0 a1)
noncomputable def B257 : Bod Tryz.prog := ⟨257, Tryz.f257, Tryz.f257.body.getD .skip, Tryz.func257, by kernel_rfl, by kernel_rfl, Loops.no _ _⟩
noncomputable def Tb257 : Tb Tryz.prog := { T := [Y2, Y27], mix := mix, Es := [E_impl_Whole, E_impl_areBounded], Bs := [], d := 1 }
noncomputable def t_impl_MinI (a0 : Iv) (a1 : Iv) : Tr (Iv) :=
  .br (!(F_impl_areBounded a0 a1)) (.leaf F_impl_Whole) (.leaf ⟨(mn a0.lo a1.lo), (mn a0.hi a1.hi)⟩)
theorem r_impl_MinI (a0 : Iv) (a1 : Iv) : Tb257.run B257 [enc a0, enc a1] (Iv) = (t_impl_MinI a0 a1).opt := by kernel_rfl
noncomputable def F_impl_MinI : Iv → Iv → Iv := fun a0 a1 => (t_impl_MinI a0 a1).get
theorem u_impl_MinI (a0 : Iv) (a1 : Iv) : (t_impl_MinI a0 a1).opt = some (F_impl_MinI a0 a1) := Tr.tot_get (by kernel_rfl)
noncomputable def E_impl_MinI : Ent Tryz.prog := .of2 Tb257 B257 (fun _ _ => true) F_impl_MinI fun a0 a1 _ => (r_impl_MinI a0 a1).trans (u_impl_MinI a0 a1)
noncomputable def B250 : Bod Tryz.prog := ⟨250, Tryz.f250, Tryz.f250.body.getD .skip, Tryz.func250, by kernel_rfl, by kernel_rfl, Loops.no _ _⟩
noncomputable def Tb250 : Tb Tryz.prog := { T := [Y2, Y27], mix := mix, Es := [E_spec_l04Ok, E_spec_l04Whole, E_spec_l00Max, E_spec_l04Make], Bs := [], d := 1 }
noncomputable def t_spec_MaxI (a0 : Iv) (a1 : Iv) : Tr (Iv) :=
  .br (!(F_spec_l04Ok a0)) (.leaf F_spec_l04Whole) (.br (!(F_spec_l04Ok a1)) (.leaf F_spec_l04Whole) (.leaf (F_spec_l04Make (F_spec_l00Max a0.lo a1.lo) (F_spec_l00Max a0.hi a1.hi))))
theorem r_spec_MaxI (a0 : Iv) (a1 : Iv) : Tb250.run B250 [enc a0, enc a1] (Iv) = (t_spec_MaxI a0 a1).opt := by kernel_rfl
noncomputable def F_spec_MaxI : Iv → Iv → Iv := fun a0 a1 => (t_spec_MaxI a0 a1).get
theorem u_spec_MaxI (a0 : Iv) (a1 : Iv) : (t_spec_MaxI a0 a1).opt = some (F_spec_MaxI a0 a1) := Tr.tot_get (by kernel_rfl)
noncomputable def E_spec_MaxI : Ent Tryz.prog := .of2 Tb250 B250 (fun _ _ => true) F_spec_MaxI fun a0 a1 _ => (r_spec_MaxI a0 a1).trans (u_spec_MaxI a0 a1)
noncomputable def B251 : Bod Tryz.prog := ⟨251, Tryz.f251, Tryz.f251.body.getD .skip, Tryz.func251, by kernel_rfl, by kernel_rfl, Loops.no _ _⟩
noncomputable def Tb251 : Tb Tryz.prog := { T := [Y2, Y27], mix := mix, Es := [E_impl_Whole, E_impl_areBounded], Bs := [], d := 1 }
noncomputable def t_impl_MaxI (a0 : Iv) (a1 : Iv) : Tr (Iv) :=
  .br (!(F_impl_areBounded a0 a1)) (.leaf F_impl_Whole) (.leaf ⟨(mx a0.lo a1.lo), (mx a0.hi a1.hi)⟩)
theorem r_impl_MaxI (a0 : Iv) (a1 : Iv) : Tb251.run B251 [enc a0, enc a1] (Iv) = (t_impl_MaxI a0 a1).opt := by kernel_rfl
noncomputable def F_impl_MaxI : Iv → Iv → Iv := fun a0 a1 => (t_impl_MaxI a0 a1).get
theorem u_impl_MaxI (a0 : Iv) (a1 : Iv) : (t_impl_MaxI a0 a1).opt = some (F_impl_MaxI a0 a1) := Tr.tot_get (by kernel_rfl)
noncomputable def E_impl_MaxI : Ent Tryz.prog := .of2 Tb251 B251 (fun _ _ => true) F_impl_MaxI fun a0 a1 _ => (r_impl_MaxI a0 a1).trans (u_impl_MaxI a0 a1)
noncomputable def Y100 : TyE Tryz.prog := ⟨100, 14, (.struct [(0, 49, 3), (3, 27, 2), (5, 27, 2), (7, 27, 2), (9, 2, 1), (10, 27, 2), (12, 27, 2)]), [.i64 ⟨0, rfl⟩, .i64 ⟨0, rfl⟩, .i64 ⟨0, rfl⟩, .i64 ⟨0, rfl⟩, .i64 ⟨0, rfl⟩, .i64 ⟨0, rfl⟩, .i64 ⟨0, rfl⟩, .i64 ⟨0, rfl⟩, .i64 ⟨0, rfl⟩, .i64 ⟨0, rfl⟩, .i64 ⟨0, rfl⟩, .i64 ⟨0, rfl⟩, .i64 ⟨0, rfl⟩, .i64 ⟨0, rfl⟩], false, by kernel_rfl, by kernel_rfl, by kernel_rfl, by kernel_rfl, by kernel_rfl, by kernel_rfl⟩
noncomputable def B138 : Bod Tryz.prog := ⟨138, Tryz.f138, Tryz.f138.body.getD .skip, Tryz.func138, by kernel_rfl, by kernel_rfl, Loops.no _ _⟩
noncomputable def Tb138 : Tb Tryz.prog := { T := [Y2, Y27, Y49, Y100], mix := mix, Es := [E_spec_CosI, E_spec_MulI, E_spec_SinI, E_spec_AsinI, E_spec_Integer, E_spec_HalfI, E_spec_SubI, E_spec_AddI, E_spec_SqrI, ET_spec_SqrtI, E_spec_MaxI], Bs := [], d := 1 }
noncomputable def t_spec_l16S_angle (d0 : GeoS) (a0 : Iv) : Tr (Iv) :=
  .leaf (F_spec_MulI (F_spec_Integer ⟨2, rfl⟩) (F_spec_AsinI (F_spec_SqrtI (F_spec_MaxI (F_spec_Integer ⟨0, rfl⟩) (F_spec_AddI (F_spec_SqrI (F_spec_SinI (F_spec_HalfI (F_spec_SubI d0.v d0.u)))) (F_spec_MulI (F_spec_MulI (F_spec_CosI d0.u) (F_spec_CosI d0.v)) (F_spec_SqrI (F_spec_SinI (F_spec_HalfI a0)))))))))
theorem r_spec_l16S_angle (d0 : GeoS) (a0 : Iv) : capRun Tb138 B138 [.ptr 0 0, enc a0] [(0, Cap.ec d0)] 1 (Iv) = (t_spec_l16S_angle d0 a0).opt := by kernel_rfl
noncomputable def F_spec_l16S_angle : GeoS → Iv → Iv := fun d0 a0 => (t_spec_l16S_angle d0 a0).get
theorem u_spec_l16S_angle (d0 : GeoS) (a0 : Iv) : (t_spec_l16S_angle d0 a0).opt = some (F_spec_l16S_angle d0 a0) := Tr.tot_get (by kernel_rfl)
noncomputable def E_spec_l16S_angle : Ent Tryz.prog := .p2 Tb138 B138 (fun _ _ => true) F_spec_l16S_angle fun d0 a0 _ => (r_spec_l16S_angle d0 a0).trans (u_spec_l16S_angle d0 a0)
noncomputable def B140 : Bod Tryz.prog := ⟨140, Tryz.f140, Tryz.f140.body.getD .skip, Tryz.func140, by kernel_rfl, by kernel_rfl, Loops.no _ _⟩
noncomputable def Tb140 : Tb Tryz.prog := { T := [Y2, Y27, Y49, Y100], mix := mix, Es := [E_spec_MulI, E_spec_l08Ends, E_spec_l16S_angle, E_spec_MinorI], Bs := [], d := 1 }
noncomputable def t_spec_l16S_bounds (d0 : GeoS) : Tr (Iv) :=
  let c1 := F_spec_l16S_angle d0 d0.l; .leaf (F_spec_l08Ends (F_spec_MulI (F_spec_MinorI d0.e) c1) (F_spec_MulI d0.major c1))
theorem r_spec_l16S_bounds (d0 : GeoS) : capRun Tb140 B140 [.ptr 0 0] [(0, Cap.ec d0)] 1 (Iv) = (t_spec_l16S_bounds d0).opt := by kernel_rfl
noncomputable def F_spec_l16S_bounds : GeoS → Iv := fun d0 => (t_spec_l16S_bounds d0).get
theorem u_spec_l16S_bounds (d0 : GeoS) : (t_spec_l16S_bounds d0).opt = some (F_spec_l16S_bounds d0) := Tr.tot_get (by kernel_rfl)
noncomputable def E_spec_l16S_bounds : Ent Tryz.prog := .p1 Tb140 B140 (fun _ => true) F_spec_l16S_bounds fun d0 _ => (r_spec_l16S_bounds d0).trans (u_spec_l16S_bounds d0)
noncomputable def B134 : Bod Tryz.prog := ⟨134, Tryz.f134, Tryz.f134.body.getD .skip, Tryz.func134, by kernel_rfl, by kernel_rfl, Loops.no _ _⟩
noncomputable def Tb134 : Tb Tryz.prog := { T := [Y2, Y27, Y49, Y100], mix := mix, Es := [E_spec_DivI, E_spec_Integer, E_spec_SubI, E_spec_HullI, E_spec_FlatteningI], Bs := [], d := 1 }
noncomputable def t_spec_l16S_start (d0 : GeoS) : Tr (Iv) :=
  .leaf (F_spec_HullI d0.l (F_spec_DivI d0.l (F_spec_SubI (F_spec_Integer ⟨1, rfl⟩) (F_spec_FlatteningI d0.e))))
theorem r_spec_l16S_start (d0 : GeoS) : capRun Tb134 B134 [.ptr 0 0] [(0, Cap.ec d0)] 1 (Iv) = (t_spec_l16S_start d0).opt := by kernel_rfl
noncomputable def F_spec_l16S_start : GeoS → Iv := fun d0 => (t_spec_l16S_start d0).get
theorem u_spec_l16S_start (d0 : GeoS) : (t_spec_l16S_start d0).opt = some (F_spec_l16S_start d0) := Tr.tot_get (by kernel_rfl)
noncomputable def E_spec_l16S_start : Ent Tryz.prog := .p1 Tb134 B134 (fun _ => true) F_spec_l16S_start fun d0 _ => (r_spec_l16S_start d0).trans (u_spec_l16S_start d0)
noncomputable def Y110 : TyE Tryz.prog := ⟨110, 10, (.struct [(0, 49, 3), (3, 27, 2), (5, 27, 2), (7, 27, 2), (9, 4, 1)]), [.i64 ⟨0, rfl⟩, .i64 ⟨0, rfl⟩, .i64 ⟨0, rfl⟩, .i64 ⟨0, rfl⟩, .i64 ⟨0, rfl⟩, .i64 ⟨0, rfl⟩, .i64 ⟨0, rfl⟩, .i64 ⟨0, rfl⟩, .i64 ⟨0, rfl⟩, .bool false], false, by kernel_rfl, by kernel_rfl, by kernel_rfl, by kernel_rfl, by kernel_rfl, by kernel_rfl⟩
noncomputable def B139 : Bod Tryz.prog := ⟨139, Tryz.f139, Tryz.f139.body.getD .skip, Tryz.func139, by kernel_rfl, by kernel_rfl, Loops.no _ _⟩
noncomputable def Tb139 : Tb Tryz.prog := { T := [Y2, Y4, Y27, Y49, Y110], mix := mix, Es := [E_impl_CosI, ET_impl_MulI, E_impl_SinI, E_impl_AsinI, E_impl_Integer, E_impl_times, E_impl_HalfI, E_impl_SubI, E_impl_AddI, ET_impl_SqrtI, ET_impl_SqrI, E_impl_MaxI], Bs := [], d := 1 }
noncomputable def t_impl_geodesic_reduced (d0 : Geo) (a0 : Iv) : Tr (Iv) :=
  .leaf (F_impl_times ⟨2, rfl⟩ (F_impl_AsinI (F_impl_SqrtI (F_impl_MaxI (F_impl_Integer ⟨0, rfl⟩) (F_impl_AddI (F_impl_SqrI (F_impl_SinI (F_impl_HalfI (F_impl_SubI d0.v d0.u)))) (F_impl_MulI (F_impl_MulI (F_impl_CosI d0.u) (F_impl_CosI d0.v)) (F_impl_SqrI (F_impl_SinI (F_impl_HalfI a0)))))))))
theorem r_impl_geodesic_reduced (d0 : Geo) (a0 : Iv) : capRun Tb139 B139 [.ptr 0 0, enc a0] [(0, Cap.ec d0)] 1 (Iv) = (t_impl_geodesic_reduced d0 a0).opt := by kernel_rfl
noncomputable def F_impl_geodesic_reduced : Geo → Iv → Iv := fun d0 a0 => (t_impl_geodesic_reduced d0 a0).get
theorem u_impl_geodesic_reduced (d0 : Geo) (a0 : Iv) : (t_impl_geodesic_reduced d0 a0).opt = some (F_impl_geodesic_reduced d0 a0) := Tr.tot_get (by kernel_rfl)
noncomputable def E_impl_geodesic_reduced : Ent Tryz.prog := .p2 Tb139 B139 (fun _ _ => true) F_impl_geodesic_reduced fun d0 a0 _ => (r_impl_geodesic_reduced d0 a0).trans (u_impl_geodesic_reduced d0 a0)
noncomputable def B141 : Bod Tryz.prog := ⟨141, Tryz.f141, Tryz.f141.body.getD .skip, Tryz.func141, by kernel_rfl, by kernel_rfl, Loops.no _ _⟩
noncomputable def Tb141 : Tb Tryz.prog := { T := [Y2, Y27, Y49, Y110], mix := mix, Es := [ET_impl_MulI, E_impl_geodesic_reduced, E_impl_areBounded, E_impl_bounded, E_impl_MinorI, E_impl_MajorI], Bs := [], d := 1 }
noncomputable def t_impl_geodesic_bounds (d0 : Geo) : Tr (Iv) :=
  let c1 := F_impl_geodesic_reduced d0 d0.lon; let c3 := F_impl_MulI (F_impl_MinorI d0.e) c1; let c5 := F_impl_MulI (F_impl_MajorI d0.e) c1; .leaf (F_impl_bounded c3.lo c5.hi (F_impl_areBounded c3 c5))
theorem r_impl_geodesic_bounds (d0 : Geo) : capRun Tb141 B141 [.ptr 0 0] [(0, Cap.ec d0)] 1 (Iv) = (t_impl_geodesic_bounds d0).opt := by kernel_rfl
noncomputable def F_impl_geodesic_bounds : Geo → Iv := fun d0 => (t_impl_geodesic_bounds d0).get
theorem u_impl_geodesic_bounds (d0 : Geo) : (t_impl_geodesic_bounds d0).opt = some (F_impl_geodesic_bounds d0) := Tr.tot_get (by kernel_rfl)
noncomputable def E_impl_geodesic_bounds : Ent Tryz.prog := .p1 Tb141 B141 (fun _ => true) F_impl_geodesic_bounds fun d0 _ => (r_impl_geodesic_bounds d0).trans (u_impl_geodesic_bounds d0)
noncomputable def B137 : Bod Tryz.prog := ⟨137, Tryz.f137, Tryz.f137.body.getD .skip, Tryz.func137, by kernel_rfl, by kernel_rfl, Loops.no _ _⟩
noncomputable def Tb137 : Tb Tryz.prog := { T := [Y2, Y27, Y49, Y110], mix := mix, Es := [E_impl_DivI, E_impl_oneLess, E_impl_FlatteningI, E_impl_HullI], Bs := [], d := 1 }
noncomputable def t_impl_geodesic_start (d0 : Geo) : Tr (Iv) :=
  .leaf (F_impl_HullI d0.lon (F_impl_DivI d0.lon (F_impl_oneLess (F_impl_FlatteningI d0.e))))
theorem r_impl_geodesic_start (d0 : Geo) : capRun Tb137 B137 [.ptr 0 0] [(0, Cap.ec d0)] 1 (Iv) = (t_impl_geodesic_start d0).opt := by kernel_rfl
noncomputable def F_impl_geodesic_start : Geo → Iv := fun d0 => (t_impl_geodesic_start d0).get
theorem u_impl_geodesic_start (d0 : Geo) : (t_impl_geodesic_start d0).opt = some (F_impl_geodesic_start d0) := Tr.tot_get (by kernel_rfl)
noncomputable def E_impl_geodesic_start : Ent Tryz.prog := .p1 Tb137 B137 (fun _ => true) F_impl_geodesic_start fun d0 _ => (r_impl_geodesic_start d0).trans (u_impl_geodesic_start d0)
noncomputable def B132 : Bod Tryz.prog := ⟨132, Tryz.f132, Tryz.f132.body.getD .skip, Tryz.func132, by kernel_rfl, by kernel_rfl, Loops.no _ _⟩
noncomputable def Tb132 : Tb Tryz.prog := { T := [Y2, Y27, Y34, Y49, Y100], mix := mix, Es := [E_spec_LatitudeI, E_spec_LatOf, ET_spec_RadiansOf, E_spec_l11Wrap, E_spec_EccI, E_spec_AbsI, E_spec_MajorI], Bs := [], d := 1 }
noncomputable def t_spec_l16Make (a0 : Ell) (a1 : Point) (a2 : Point) : Tr (GeoS) :=
  let c2 := F_spec_l11Wrap (Rng.w .i64 (a2.lon.val - a1.lon.val)); .leaf ⟨a0, (F_spec_LatitudeI ⟨1, rfl⟩ a0 (F_spec_LatOf a1)), (F_spec_LatitudeI ⟨1, rfl⟩ a0 (F_spec_LatOf a2)), (F_spec_AbsI (F_spec_RadiansOf c2)), c2, (F_spec_EccI a0), (F_spec_MajorI a0)⟩
theorem r_spec_l16Make (a0 : Ell) (a1 : Point) (a2 : Point) : Tb132.run B132 [enc a0, enc a1, enc a2] (GeoS) = (t_spec_l16Make a0 a1 a2).opt := by kernel_rfl
noncomputable def F_spec_l16Make : Ell → Point → Point → GeoS := fun a0 a1 a2 => (t_spec_l16Make a0 a1 a2).get
theorem u_spec_l16Make (a0 : Ell) (a1 : Point) (a2 : Point) : (t_spec_l16Make a0 a1 a2).opt = some (F_spec_l16Make a0 a1 a2) := Tr.tot_get (by kernel_rfl)
noncomputable def E_spec_l16Make : Ent Tryz.prog := .of3 Tb132 B132 (fun _ _ _ => true) F_spec_l16Make fun a0 a1 a2 _ => (r_spec_l16Make a0 a1 a2).trans (u_spec_l16Make a0 a1 a2)
noncomputable def B131 : Bod Tryz.prog := ⟨131, Tryz.f131, Tryz.f131.body.getD .skip, Tryz.func131, by kernel_rfl, by kernel_rfl, Loops.no _ _⟩
noncomputable def Tb131 : Tb Tryz.prog := { T := [Y34, Y49], mix := mix, Es := [E_spec_l11Ok, E_spec_l12Ok, E_spec_l00In], Bs := [], d := 1 }
noncomputable def t_spec_l16Ask (a0 : Ell) (a1 : Point) (a2 : Point) (a3 : I64) : Tr (I64) :=
  .br (!(F_spec_l12Ok a0)) (.leaf ⟨1, rfl⟩) (.br (!(F_spec_l11Ok a1)) (.leaf ⟨1, rfl⟩) (.br (!(F_spec_l11Ok a2)) (.leaf ⟨1, rfl⟩) (.br (!(F_spec_l00In a3 ⟨1, rfl⟩ ⟨64, rfl⟩)) (.leaf ⟨2, rfl⟩) (.leaf ⟨0, rfl⟩))))
theorem r_spec_l16Ask (a0 : Ell) (a1 : Point) (a2 : Point) (a3 : I64) : Tb131.run B131 [enc a0, enc a1, enc a2, enc a3] (I64) = (t_spec_l16Ask a0 a1 a2 a3).opt := by kernel_rfl
noncomputable def F_spec_l16Ask : Ell → Point → Point → I64 → I64 := fun a0 a1 a2 a3 => (t_spec_l16Ask a0 a1 a2 a3).get
theorem u_spec_l16Ask (a0 : Ell) (a1 : Point) (a2 : Point) (a3 : I64) : (t_spec_l16Ask a0 a1 a2 a3).opt = some (F_spec_l16Ask a0 a1 a2 a3) := Tr.tot_get (by kernel_rfl)
noncomputable def E_spec_l16Ask : Ent Tryz.prog := .of4 Tb131 B131 (fun _ _ _ _ => true) F_spec_l16Ask fun a0 a1 a2 a3 _ => (r_spec_l16Ask a0 a1 a2 a3).trans (u_spec_l16Ask a0 a1 a2 a3)
noncomputable def B133 : Bod Tryz.prog := ⟨133, Tryz.f133, Tryz.f133.body.getD .skip, Tryz.func133, by kernel_rfl, by kernel_rfl, Loops.no _ _⟩
noncomputable def Tb133 : Tb Tryz.prog := { T := [Y2, Y27], mix := mix, Es := [E_spec_l04Ok], Bs := [], d := 1 }
noncomputable def t_spec_l19Known (a0 : Iv) : Tr (T2 Iv I64) :=
  .br (!(F_spec_l04Ok a0)) (.leaf ⟨⟨⟨0, rfl⟩, ⟨0, rfl⟩⟩, ⟨9, rfl⟩⟩) (.leaf ⟨a0, ⟨0, rfl⟩⟩)
theorem r_spec_l19Known (a0 : Iv) : Tb133.run B133 [enc a0] (T2 Iv I64) = (t_spec_l19Known a0).opt := by kernel_rfl
noncomputable def F_spec_l19Known : Iv → T2 Iv I64 := fun a0 => (t_spec_l19Known a0).get
theorem u_spec_l19Known (a0 : Iv) : (t_spec_l19Known a0).opt = some (F_spec_l19Known a0) := Tr.tot_get (by kernel_rfl)
noncomputable def E_spec_l19Known : Ent Tryz.prog := .of1 Tb133 B133 (fun _ => true) F_spec_l19Known fun a0 _ => (r_spec_l19Known a0).trans (u_spec_l19Known a0)
noncomputable def B37 : Bod Tryz.prog := ⟨37, Tryz.f37, Tryz.f37.body.getD .skip, Tryz.func37, by kernel_rfl, by kernel_rfl, Loops.no _ _⟩
noncomputable def Tb37 : Tb Tryz.prog := { T := [Y2, Y27, Y34, Y49, Y100], mix := mix, Es := [E_spec_l16Ask, E_spec_l16Make, E_spec_l19Known, E_spec_l16S_start], Bs := [], d := 1 }
noncomputable def t_spec_OmegaStart (a0 : Ell) (a1 : Point) (a2 : Point) : Tr (T2 Iv I64) :=
  let c1 := F_spec_l16Ask a0 a1 a2 ⟨1, rfl⟩; .br (c1.val != 0) (.leaf ⟨⟨⟨0, rfl⟩, ⟨0, rfl⟩⟩, c1⟩) (let c4 := F_spec_l19Known (F_spec_l16S_start (F_spec_l16Make a0 a1 a2)); .leaf ⟨c4.a, c4.b⟩)
theorem r_spec_OmegaStart (a0 : Ell) (a1 : Point) (a2 : Point) : Tb37.run B37 [enc a0, enc a1, enc a2] (T2 Iv I64) = (t_spec_OmegaStart a0 a1 a2).opt := by kernel_rfl
noncomputable def F_spec_OmegaStart : Ell → Point → Point → T2 Iv I64 := fun a0 a1 a2 => (t_spec_OmegaStart a0 a1 a2).get
theorem u_spec_OmegaStart (a0 : Ell) (a1 : Point) (a2 : Point) : (t_spec_OmegaStart a0 a1 a2).opt = some (F_spec_OmegaStart a0 a1 a2) := Tr.tot_get (by kernel_rfl)
noncomputable def E_spec_OmegaStart : Ent Tryz.prog := .of3 Tb37 B37 (fun _ _ _ => true) F_spec_OmegaStart fun a0 a1 a2 _ => (r_spec_OmegaStart a0 a1 a2).trans (u_spec_OmegaStart a0 a1 a2)
noncomputable def B136 : Bod Tryz.prog := ⟨136, Tryz.f136, Tryz.f136.body.getD .skip, Tryz.func136, by kernel_rfl, by kernel_rfl, Loops.no _ _⟩
noncomputable def Tb136 : Tb Tryz.prog := { T := [Y2, Y27], mix := mix, Es := [E_impl_IsWhole], Bs := [], d := 1 }
noncomputable def t_impl_knownI (a0 : Iv) : Tr (T2 Iv I64) :=
  .br (F_impl_IsWhole a0) (.leaf ⟨⟨⟨0, rfl⟩, ⟨0, rfl⟩⟩, ⟨9, rfl⟩⟩) (.leaf ⟨a0, ⟨0, rfl⟩⟩)
theorem r_impl_knownI (a0 : Iv) : Tb136.run B136 [enc a0] (T2 Iv I64) = (t_impl_knownI a0).opt := by kernel_rfl
noncomputable def F_impl_knownI : Iv → T2 Iv I64 := fun a0 => (t_impl_knownI a0).get
theorem u_impl_knownI (a0 : Iv) : (t_impl_knownI a0).opt = some (F_impl_knownI a0) := Tr.tot_get (by kernel_rfl)
noncomputable def E_impl_knownI : Ent Tryz.prog := .of1 Tb136 B136 (fun _ => true) F_impl_knownI fun a0 _ => (r_impl_knownI a0).trans (u_impl_knownI a0)
noncomputable def B135 : Bod Tryz.prog := ⟨135, Tryz.f135, Tryz.f135.body.getD .skip, Tryz.func135, by kernel_rfl, by kernel_rfl, Loops.no _ _⟩
noncomputable def B38 : Bod Tryz.prog := ⟨38, Tryz.f38, Tryz.f38.body.getD .skip, Tryz.func38, by kernel_rfl, by kernel_rfl, Loops.no _ _⟩
noncomputable def Tb38 : Tb Tryz.prog := { T := [Y2, Y4, Y27, Y34, Y49, Y110], mix := mix, Es := [E_impl_LatitudeI, E_impl_LatOf, ET_impl_RadiansOf, E_impl_ValidEllipsoid, E_impl_knownI, E_impl_geodesic_start, E_impl_WrapLon, E_impl_areValid, E_impl_AbsI], Bs := [B135], d := 8 }
noncomputable def t_impl_OmegaStart (a0 : Ell) (a1 : Point) (a2 : Point) : Tr (T2 Iv I64) :=
  .br (!(F_impl_ValidEllipsoid a0)) (.leaf ⟨⟨⟨0, rfl⟩, ⟨0, rfl⟩⟩, ⟨1, rfl⟩⟩) (.br (!(F_impl_areValid a1 a2)) (.leaf ⟨⟨⟨0, rfl⟩, ⟨0, rfl⟩⟩, ⟨1, rfl⟩⟩) (let c4 := F_impl_WrapLon (Rng.w .i64 (a2.lon.val - a1.lon.val)); let c12 := F_impl_knownI (F_impl_geodesic_start ⟨a0, (F_impl_LatitudeI ⟨1, rfl⟩ a0 (F_impl_LatOf a1)), (F_impl_LatitudeI ⟨1, rfl⟩ a0 (F_impl_LatOf a2)), (F_impl_AbsI (F_impl_RadiansOf c4)), (decide (c4.val < 0))⟩); .leaf ⟨c12.a, c12.b⟩))
theorem r_impl_OmegaStart (a0 : Ell) (a1 : Point) (a2 : Point) : Tb38.run B38 [enc a0, enc a1, enc a2] (T2 Iv I64) = (t_impl_OmegaStart a0 a1 a2).opt := by kernel_rfl
noncomputable def F_impl_OmegaStart : Ell → Point → Point → T2 Iv I64 := fun a0 a1 a2 => (t_impl_OmegaStart a0 a1 a2).get
theorem u_impl_OmegaStart (a0 : Ell) (a1 : Point) (a2 : Point) : (t_impl_OmegaStart a0 a1 a2).opt = some (F_impl_OmegaStart a0 a1 a2) := Tr.tot_get (by kernel_rfl)
noncomputable def E_impl_OmegaStart : Ent Tryz.prog := .of3 Tb38 B38 (fun _ _ _ => true) F_impl_OmegaStart fun a0 a1 a2 _ => (r_impl_OmegaStart a0 a1 a2).trans (u_impl_OmegaStart a0 a1 a2)
noncomputable def B9 : Bod Tryz.prog := ⟨9, Tryz.f9, Tryz.f9.body.getD .skip, Tryz.func9, by kernel_rfl, by kernel_rfl, Loops.no _ _⟩
noncomputable def Tb9 : Tb Tryz.prog := { T := [Y2, Y25, Y27, Y47], mix := mix, Es := [E_laws_toPoint, E_laws_eqInterval, E_laws_toEllipsoid, E_spec_OmegaStart, E_impl_OmegaStart], Bs := [], d := 1 }
noncomputable def t_laws_FnExactOmegaStart (a0 : Ell) (a1 : Point) (a2 : Point) : Tr (Bool) :=
  let c4 := F_spec_OmegaStart (F_laws_toEllipsoid a0) (F_laws_toPoint a1) (F_laws_toPoint a2); let c8 := F_impl_OmegaStart (F_laws_toEllipsoid a0) (F_laws_toPoint a1) (F_laws_toPoint a2); .br (!(F_laws_eqInterval c8.a c4.a)) (.leaf false) (.br (c8.b.val != c4.b.val) (.leaf false) (.leaf true))
theorem r_laws_FnExactOmegaStart (a0 : Ell) (a1 : Point) (a2 : Point) : Tb9.run B9 [enc a0, enc a1, enc a2] (Bool) = (t_laws_FnExactOmegaStart a0 a1 a2).opt := by kernel_rfl
noncomputable def F_laws_FnExactOmegaStart : Ell → Point → Point → Bool := fun a0 a1 a2 => (t_laws_FnExactOmegaStart a0 a1 a2).get
theorem u_laws_FnExactOmegaStart (a0 : Ell) (a1 : Point) (a2 : Point) : (t_laws_FnExactOmegaStart a0 a1 a2).opt = some (F_laws_FnExactOmegaStart a0 a1 a2) := Tr.tot_get (by kernel_rfl)
noncomputable def E_laws_FnExactOmegaStart : Ent Tryz.prog := .of3 Tb9 B9 (fun _ _ _ => true) F_laws_FnExactOmegaStart fun a0 a1 a2 _ => (r_laws_FnExactOmegaStart a0 a1 a2).trans (u_laws_FnExactOmegaStart a0 a1 a2)
noncomputable def B39 : Bod Tryz.prog := ⟨39, Tryz.f39, Tryz.f39.body.getD .skip, Tryz.func39, by kernel_rfl, by kernel_rfl, Loops.no _ _⟩
noncomputable def Tb39 : Tb Tryz.prog := { T := [Y2, Y27, Y34, Y49, Y100], mix := mix, Es := [E_spec_l16Ask, E_spec_l16Make, E_spec_l19Known, E_spec_l16S_angle], Bs := [], d := 1 }
noncomputable def t_spec_ReducedAngle (a0 : Ell) (a1 : Point) (a2 : Point) (a3 : Iv) : Tr (T2 Iv I64) :=
  let c1 := F_spec_l16Ask a0 a1 a2 ⟨1, rfl⟩; .br (c1.val != 0) (.leaf ⟨⟨⟨0, rfl⟩, ⟨0, rfl⟩⟩, c1⟩) (let c4 := F_spec_l19Known (F_spec_l16S_angle (F_spec_l16Make a0 a1 a2) a3); .leaf ⟨c4.a, c4.b⟩)
theorem r_spec_ReducedAngle (a0 : Ell) (a1 : Point) (a2 : Point) (a3 : Iv) : Tb39.run B39 [enc a0, enc a1, enc a2, enc a3] (T2 Iv I64) = (t_spec_ReducedAngle a0 a1 a2 a3).opt := by kernel_rfl
noncomputable def F_spec_ReducedAngle : Ell → Point → Point → Iv → T2 Iv I64 := fun a0 a1 a2 a3 => (t_spec_ReducedAngle a0 a1 a2 a3).get
theorem u_spec_ReducedAngle (a0 : Ell) (a1 : Point) (a2 : Point) (a3 : Iv) : (t_spec_ReducedAngle a0 a1 a2 a3).opt = some (F_spec_ReducedAngle a0 a1 a2 a3) := Tr.tot_get (by kernel_rfl)
noncomputable def E_spec_ReducedAngle : Ent Tryz.prog := .of4 Tb39 B39 (fun _ _ _ _ => true) F_spec_ReducedAngle fun a0 a1 a2 a3 _ => (r_spec_ReducedAngle a0 a1 a2 a3).trans (u_spec_ReducedAngle a0 a1 a2 a3)
noncomputable def B40 : Bod Tryz.prog := ⟨40, Tryz.f40, Tryz.f40.body.getD .skip, Tryz.func40, by kernel_rfl, by kernel_rfl, Loops.no _ _⟩
noncomputable def Tb40 : Tb Tryz.prog := { T := [Y2, Y4, Y27, Y34, Y49, Y110], mix := mix, Es := [E_impl_LatitudeI, E_impl_LatOf, ET_impl_RadiansOf, E_impl_ValidEllipsoid, E_impl_knownI, E_impl_geodesic_reduced, E_impl_WrapLon, E_impl_areValid, E_impl_AbsI], Bs := [B135], d := 8 }
noncomputable def t_impl_ReducedAngle (a0 : Ell) (a1 : Point) (a2 : Point) (a3 : Iv) : Tr (T2 Iv I64) :=
  .br (!(F_impl_ValidEllipsoid a0)) (.leaf ⟨⟨⟨0, rfl⟩, ⟨0, rfl⟩⟩, ⟨1, rfl⟩⟩) (.br (!(F_impl_areValid a1 a2)) (.leaf ⟨⟨⟨0, rfl⟩, ⟨0, rfl⟩⟩, ⟨1, rfl⟩⟩) (let c4 := F_impl_WrapLon (Rng.w .i64 (a2.lon.val - a1.lon.val)); let c12 := F_impl_knownI (F_impl_geodesic_reduced ⟨a0, (F_impl_LatitudeI ⟨1, rfl⟩ a0 (F_impl_LatOf a1)), (F_impl_LatitudeI ⟨1, rfl⟩ a0 (F_impl_LatOf a2)), (F_impl_AbsI (F_impl_RadiansOf c4)), (decide (c4.val < 0))⟩ a3); .leaf ⟨c12.a, c12.b⟩))
theorem r_impl_ReducedAngle (a0 : Ell) (a1 : Point) (a2 : Point) (a3 : Iv) : Tb40.run B40 [enc a0, enc a1, enc a2, enc a3] (T2 Iv I64) = (t_impl_ReducedAngle a0 a1 a2 a3).opt := by kernel_rfl
noncomputable def F_impl_ReducedAngle : Ell → Point → Point → Iv → T2 Iv I64 := fun a0 a1 a2 a3 => (t_impl_ReducedAngle a0 a1 a2 a3).get
theorem u_impl_ReducedAngle (a0 : Ell) (a1 : Point) (a2 : Point) (a3 : Iv) : (t_impl_ReducedAngle a0 a1 a2 a3).opt = some (F_impl_ReducedAngle a0 a1 a2 a3) := Tr.tot_get (by kernel_rfl)
noncomputable def E_impl_ReducedAngle : Ent Tryz.prog := .of4 Tb40 B40 (fun _ _ _ _ => true) F_impl_ReducedAngle fun a0 a1 a2 a3 _ => (r_impl_ReducedAngle a0 a1 a2 a3).trans (u_impl_ReducedAngle a0 a1 a2 a3)
noncomputable def B10 : Bod Tryz.prog := ⟨10, Tryz.f10, Tryz.f10.body.getD .skip, Tryz.func10, by kernel_rfl, by kernel_rfl, Loops.no _ _⟩
noncomputable def Tb10 : Tb Tryz.prog := { T := [Y2, Y25, Y27, Y38, Y47], mix := mix, Es := [E_laws_toPoint, E_laws_eqInterval, E_laws_toEllipsoid, E_laws_toInterval, E_spec_ReducedAngle, E_impl_ReducedAngle], Bs := [], d := 1 }
noncomputable def t_laws_FnExactReducedAngle (a0 : Ell) (a1 : Point) (a2 : Point) (a3 : Iv) : Tr (Bool) :=
  let c5 := F_spec_ReducedAngle (F_laws_toEllipsoid a0) (F_laws_toPoint a1) (F_laws_toPoint a2) (F_laws_toInterval a3); let c10 := F_impl_ReducedAngle (F_laws_toEllipsoid a0) (F_laws_toPoint a1) (F_laws_toPoint a2) (F_laws_toInterval a3); .br (!(F_laws_eqInterval c10.a c5.a)) (.leaf false) (.br (c10.b.val != c5.b.val) (.leaf false) (.leaf true))
theorem r_laws_FnExactReducedAngle (a0 : Ell) (a1 : Point) (a2 : Point) (a3 : Iv) : Tb10.run B10 [enc a0, enc a1, enc a2, enc a3] (Bool) = (t_laws_FnExactReducedAngle a0 a1 a2 a3).opt := by kernel_rfl
noncomputable def F_laws_FnExactReducedAngle : Ell → Point → Point → Iv → Bool := fun a0 a1 a2 a3 => (t_laws_FnExactReducedAngle a0 a1 a2 a3).get
theorem u_laws_FnExactReducedAngle (a0 : Ell) (a1 : Point) (a2 : Point) (a3 : Iv) : (t_laws_FnExactReducedAngle a0 a1 a2 a3).opt = some (F_laws_FnExactReducedAngle a0 a1 a2 a3) := Tr.tot_get (by kernel_rfl)
noncomputable def E_laws_FnExactReducedAngle : Ent Tryz.prog := .of4 Tb10 B10 (fun _ _ _ _ => true) F_laws_FnExactReducedAngle fun a0 a1 a2 a3 _ => (r_laws_FnExactReducedAngle a0 a1 a2 a3).trans (u_laws_FnExactReducedAngle a0 a1 a2 a3)
noncomputable def B41 : Bod Tryz.prog := ⟨41, Tryz.f41, Tryz.f41.body.getD .skip, Tryz.func41, by kernel_rfl, by kernel_rfl, Loops.no _ _⟩
noncomputable def Tb41 : Tb Tryz.prog := { T := [Y2, Y27, Y34, Y49, Y100], mix := mix, Es := [E_spec_l16Ask, E_spec_l16Make, E_spec_l19Known, E_spec_l16S_bounds], Bs := [], d := 1 }
noncomputable def t_spec_GeodesicBounds (a0 : Ell) (a1 : Point) (a2 : Point) : Tr (T2 Iv I64) :=
  let c1 := F_spec_l16Ask a0 a1 a2 ⟨1, rfl⟩; .br (c1.val != 0) (.leaf ⟨⟨⟨0, rfl⟩, ⟨0, rfl⟩⟩, c1⟩) (let c4 := F_spec_l19Known (F_spec_l16S_bounds (F_spec_l16Make a0 a1 a2)); .leaf ⟨c4.a, c4.b⟩)
theorem r_spec_GeodesicBounds (a0 : Ell) (a1 : Point) (a2 : Point) : Tb41.run B41 [enc a0, enc a1, enc a2] (T2 Iv I64) = (t_spec_GeodesicBounds a0 a1 a2).opt := by kernel_rfl
noncomputable def F_spec_GeodesicBounds : Ell → Point → Point → T2 Iv I64 := fun a0 a1 a2 => (t_spec_GeodesicBounds a0 a1 a2).get
theorem u_spec_GeodesicBounds (a0 : Ell) (a1 : Point) (a2 : Point) : (t_spec_GeodesicBounds a0 a1 a2).opt = some (F_spec_GeodesicBounds a0 a1 a2) := Tr.tot_get (by kernel_rfl)
noncomputable def E_spec_GeodesicBounds : Ent Tryz.prog := .of3 Tb41 B41 (fun _ _ _ => true) F_spec_GeodesicBounds fun a0 a1 a2 _ => (r_spec_GeodesicBounds a0 a1 a2).trans (u_spec_GeodesicBounds a0 a1 a2)
noncomputable def B42 : Bod Tryz.prog := ⟨42, Tryz.f42, Tryz.f42.body.getD .skip, Tryz.func42, by kernel_rfl, by kernel_rfl, Loops.no _ _⟩
noncomputable def Tb42 : Tb Tryz.prog := { T := [Y2, Y4, Y27, Y34, Y49, Y110], mix := mix, Es := [E_impl_LatitudeI, E_impl_LatOf, ET_impl_RadiansOf, E_impl_ValidEllipsoid, E_impl_knownI, E_impl_geodesic_bounds, E_impl_WrapLon, E_impl_areValid, E_impl_AbsI], Bs := [B135], d := 8 }
noncomputable def t_impl_GeodesicBounds (a0 : Ell) (a1 : Point) (a2 : Point) : Tr (T2 Iv I64) :=
  .br (!(F_impl_ValidEllipsoid a0)) (.leaf ⟨⟨⟨0, rfl⟩, ⟨0, rfl⟩⟩, ⟨1, rfl⟩⟩) (.br (!(F_impl_areValid a1 a2)) (.leaf ⟨⟨⟨0, rfl⟩, ⟨0, rfl⟩⟩, ⟨1, rfl⟩⟩) (let c4 := F_impl_WrapLon (Rng.w .i64 (a2.lon.val - a1.lon.val)); let c12 := F_impl_knownI (F_impl_geodesic_bounds ⟨a0, (F_impl_LatitudeI ⟨1, rfl⟩ a0 (F_impl_LatOf a1)), (F_impl_LatitudeI ⟨1, rfl⟩ a0 (F_impl_LatOf a2)), (F_impl_AbsI (F_impl_RadiansOf c4)), (decide (c4.val < 0))⟩); .leaf ⟨c12.a, c12.b⟩))
theorem r_impl_GeodesicBounds (a0 : Ell) (a1 : Point) (a2 : Point) : Tb42.run B42 [enc a0, enc a1, enc a2] (T2 Iv I64) = (t_impl_GeodesicBounds a0 a1 a2).opt := by kernel_rfl
noncomputable def F_impl_GeodesicBounds : Ell → Point → Point → T2 Iv I64 := fun a0 a1 a2 => (t_impl_GeodesicBounds a0 a1 a2).get
theorem u_impl_GeodesicBounds (a0 : Ell) (a1 : Point) (a2 : Point) : (t_impl_GeodesicBounds a0 a1 a2).opt = some (F_impl_GeodesicBounds a0 a1 a2) := Tr.tot_get (by kernel_rfl)
noncomputable def E_impl_GeodesicBounds : Ent Tryz.prog := .of3 Tb42 B42 (fun _ _ _ => true) F_impl_GeodesicBounds fun a0 a1 a2 _ => (r_impl_GeodesicBounds a0 a1 a2).trans (u_impl_GeodesicBounds a0 a1 a2)
noncomputable def B11 : Bod Tryz.prog := ⟨11, Tryz.f11, Tryz.f11.body.getD .skip, Tryz.func11, by kernel_rfl, by kernel_rfl, Loops.no _ _⟩
noncomputable def Tb11 : Tb Tryz.prog := { T := [Y2, Y25, Y27, Y47], mix := mix, Es := [E_laws_toPoint, E_laws_eqInterval, E_laws_toEllipsoid, E_spec_GeodesicBounds, E_impl_GeodesicBounds], Bs := [], d := 1 }
noncomputable def t_laws_FnExactGeodesicBounds (a0 : Ell) (a1 : Point) (a2 : Point) : Tr (Bool) :=
  let c4 := F_spec_GeodesicBounds (F_laws_toEllipsoid a0) (F_laws_toPoint a1) (F_laws_toPoint a2); let c8 := F_impl_GeodesicBounds (F_laws_toEllipsoid a0) (F_laws_toPoint a1) (F_laws_toPoint a2); .br (!(F_laws_eqInterval c8.a c4.a)) (.leaf false) (.br (c8.b.val != c4.b.val) (.leaf false) (.leaf true))
theorem r_laws_FnExactGeodesicBounds (a0 : Ell) (a1 : Point) (a2 : Point) : Tb11.run B11 [enc a0, enc a1, enc a2] (Bool) = (t_laws_FnExactGeodesicBounds a0 a1 a2).opt := by kernel_rfl
noncomputable def F_laws_FnExactGeodesicBounds : Ell → Point → Point → Bool := fun a0 a1 a2 => (t_laws_FnExactGeodesicBounds a0 a1 a2).get
theorem u_laws_FnExactGeodesicBounds (a0 : Ell) (a1 : Point) (a2 : Point) : (t_laws_FnExactGeodesicBounds a0 a1 a2).opt = some (F_laws_FnExactGeodesicBounds a0 a1 a2) := Tr.tot_get (by kernel_rfl)
noncomputable def E_laws_FnExactGeodesicBounds : Ent Tryz.prog := .of3 Tb11 B11 (fun _ _ _ => true) F_laws_FnExactGeodesicBounds fun a0 a1 a2 _ => (r_laws_FnExactGeodesicBounds a0 a1 a2).trans (u_laws_FnExactGeodesicBounds a0 a1 a2)
end
end Go.Proofs.YtecfhpgpojgjkaaGreat.Ev
