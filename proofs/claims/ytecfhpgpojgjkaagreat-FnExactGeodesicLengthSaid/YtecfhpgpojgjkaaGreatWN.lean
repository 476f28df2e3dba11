import Derived.Test.YtecfhpgpojgjkaaGreatWJ
import Derived.Test.YtecfhpgpojgjkaaGreatP32
namespace Go.Proofs.YtecfhpgpojgjkaaGreat.Ev
open Go Go.RowKit
set_option maxRecDepth 100000
set_option linter.unusedVariables false
section
noncomputable def B150 : Bod Tryz.prog := ⟨150, Tryz.f150, Tryz.f150.body.getD .skip, Tryz.func150, by kernel_rfl, by kernel_rfl, Loops.no _ _⟩
noncomputable def Tb150 : Tb Tryz.prog := { T := [Y2, Y27], mix := mix, Es := [E_spec_l04Ok, E_spec_l16S_start, E_spec_l16S_next, E_spec_MeetI], Bs := [], d := 1 }
noncomputable def t_spec_l16S_omega (d0 : GeoS) (a0 : I64) : Tr (Iv) :=
  let c1 := F_spec_l16S_start d0; .br (G_spec_l16S_next d0 c1 a0) (let c2 := F_spec_l16S_next d0 c1 a0; let c3 := F_spec_MeetI c1 c2.a; .br (!(F_spec_l04Ok c2.a)) (.leaf c1) (.br (!c3.b) (.leaf c1) (.br (G_spec_l16S_next d0 c3.a a0) (let c5 := F_spec_l16S_next d0 c3.a a0; let c6 := F_spec_MeetI c3.a c5.a; .br (!(F_spec_l04Ok c5.a)) (.leaf c3.a) (.br (!c6.b) (.leaf c3.a) (.br (G_spec_l16S_next d0 c6.a a0) (let c8 := F_spec_l16S_next d0 c6.a a0; let c9 := F_spec_MeetI c6.a c8.a; .br (!(F_spec_l04Ok c8.a)) (.leaf c6.a) (.br (!c9.b) (.leaf c6.a) (.br (G_spec_l16S_next d0 c9.a a0) (let c11 := F_spec_l16S_next d0 c9.a a0; let c12 := F_spec_MeetI c9.a c11.a; .br (!(F_spec_l04Ok c11.a)) (.leaf c9.a) (.br (!c12.b) (.leaf c9.a) (.leaf c12.a))) (.bad)))) (.bad)))) (.bad)))) (.bad)
theorem r_spec_l16S_omega (d0 : GeoS) (a0 : I64) : capRun Tb150 B150 [.ptr 0 0, enc a0] [(0, Cap.ec d0)] 1 (Iv) = (t_spec_l16S_omega d0 a0).opt := by kernel_rfl
noncomputable def F_spec_l16S_omega : GeoS → I64 → Iv := fun d0 a0 => (t_spec_l16S_omega d0 a0).get
noncomputable def G_spec_l16S_omega : GeoS → I64 → Bool := fun d0 a0 => (t_spec_l16S_omega d0 a0).opt.isSome
noncomputable def E_spec_l16S_omega : Ent Tryz.prog := .p2 Tb150 B150 G_spec_l16S_omega F_spec_l16S_omega fun d0 a0 h => (r_spec_l16S_omega d0 a0).trans (Tr.get_some h)
noncomputable def B151 : Bod Tryz.prog := ⟨151, Tryz.f151, Tryz.f151.body.getD .skip, Tryz.func151, by kernel_rfl, by kernel_rfl, Loops.no _ _⟩
noncomputable def Tb151 : Tb Tryz.prog := { T := [Y2, Y27], mix := mix, Es := [E_impl_IsWhole, E_impl_geodesic_start, E_impl_geodesic_solve, E_impl_MeetI], Bs := [], d := 1 }
noncomputable def t_impl_geodesic_omega (d0 : Geo) (a0 : I64) : Tr (Iv) :=
  let c1 := F_impl_geodesic_start d0; .br (G_impl_geodesic_solve d0 c1 a0) (let c2 := F_impl_geodesic_solve d0 c1 a0; let c3 := F_impl_MeetI c1 c2.a; .br (F_impl_IsWhole c2.a) (.leaf c1) (.br (!c3.b) (.leaf c1) (.br (G_impl_geodesic_solve d0 c3.a a0) (let c5 := F_impl_geodesic_solve d0 c3.a a0; let c6 := F_impl_MeetI c3.a c5.a; .br (F_impl_IsWhole c5.a) (.leaf c3.a) (.br (!c6.b) (.leaf c3.a) (.br (G_impl_geodesic_solve d0 c6.a a0) (let c8 := F_impl_geodesic_solve d0 c6.a a0; let c9 := F_impl_MeetI c6.a c8.a; .br (F_impl_IsWhole c8.a) (.leaf c6.a) (.br (!c9.b) (.leaf c6.a) (.br (G_impl_geodesic_solve d0 c9.a a0) (let c11 := F_impl_geodesic_solve d0 c9.a a0; let c12 := F_impl_MeetI c9.a c11.a; .br (F_impl_IsWhole c11.a) (.leaf c9.a) (.br (!c12.b) (.leaf c9.a) (.leaf c12.a))) (.bad)))) (.bad)))) (.bad)))) (.bad)
theorem r_impl_geodesic_omega (d0 : Geo) (a0 : I64) : capRun Tb151 B151 [.ptr 0 0, enc a0] [(0, Cap.ec d0)] 1 (Iv) = (t_impl_geodesic_omega d0 a0).opt := by kernel_rfl
noncomputable def F_impl_geodesic_omega : Geo → I64 → Iv := fun d0 a0 => (t_impl_geodesic_omega d0 a0).get
noncomputable def G_impl_geodesic_omega : Geo → I64 → Bool := fun d0 a0 => (t_impl_geodesic_omega d0 a0).opt.isSome
noncomputable def E_impl_geodesic_omega : Ent Tryz.prog := .p2 Tb151 B151 G_impl_geodesic_omega F_impl_geodesic_omega fun d0 a0 h => (r_impl_geodesic_omega d0 a0).trans (Tr.get_some h)
noncomputable def B152 : Bod Tryz.prog := ⟨152, Tryz.f152, Tryz.f152.body.getD .skip, Tryz.func152, by kernel_rfl, by kernel_rfl, Loops.no _ _⟩
noncomputable def Tb152 : Tb Tryz.prog := { T := [Y2, Y27], mix := mix, Es := [E_spec_l04Ok, E_spec_l05Turn], Bs := [], d := 1 }
noncomputable def t_spec_l16Short (a0 : Iv) : Tr (Bool) :=
  .br (F_spec_l04Ok a0) (.br (G_spec_l05Turn ⟨2, rfl⟩) (.leaf (decide (a0.hi.val < (F_spec_l05Turn ⟨2, rfl⟩).lo.val))) (.bad)) (.leaf false)
theorem r_spec_l16Short (a0 : Iv) : Tb152.run B152 [enc a0] (Bool) = (t_spec_l16Short a0).opt := by kernel_rfl
noncomputable def F_spec_l16Short : Iv → Bool := fun a0 => (t_spec_l16Short a0).get
noncomputable def G_spec_l16Short : Iv → Bool := fun a0 => (t_spec_l16Short a0).opt.isSome
noncomputable def E_spec_l16Short : Ent Tryz.prog := .of1 Tb152 B152 G_spec_l16Short F_spec_l16Short fun a0 h => (r_spec_l16Short a0).trans (Tr.get_some h)
noncomputable def B158 : Bod Tryz.prog := ⟨158, Tryz.f158, Tryz.f158.body.getD .skip, Tryz.func158, by kernel_rfl, by kernel_rfl, Loops.no _ _⟩
noncomputable def Tb158 : Tb Tryz.prog := { T := [Y2, Y27], mix := mix, Es := [E_spec_l04Ok, E_spec_l16S_bounds, E_spec_l16S_next, E_spec_l16S_omega, E_spec_l16Short, E_spec_MeetI], Bs := [], d := 1 }
noncomputable def t_spec_l16S_length (d0 : GeoS) (a0 : I64) : Tr (Iv) :=
  let c1 := F_spec_l16S_bounds d0; .br (G_spec_l16S_omega d0 a0) (let c2 := F_spec_l16S_omega d0 a0; .br (G_spec_l16Short c2) (.br (!(F_spec_l16Short c2)) (.leaf c1) (.br (G_spec_l16S_next d0 c2 a0) (let c4 := F_spec_l16S_next d0 c2 a0; let c5 := F_spec_MeetI c1 c4.b; .br (!(F_spec_l04Ok c4.b)) (.leaf c1) (.br (!c5.b) (.leaf c1) (.leaf c5.a))) (.bad))) (.bad)) (.bad)
theorem r_spec_l16S_length (d0 : GeoS) (a0 : I64) : capRun Tb158 B158 [.ptr 0 0, enc a0] [(0, Cap.ec d0)] 1 (Iv) = (t_spec_l16S_length d0 a0).opt := by kernel_rfl
noncomputable def F_spec_l16S_length : GeoS → I64 → Iv := fun d0 a0 => (t_spec_l16S_length d0 a0).get
noncomputable def G_spec_l16S_length : GeoS → I64 → Bool := fun d0 a0 => (t_spec_l16S_length d0 a0).opt.isSome
noncomputable def E_spec_l16S_length : Ent Tryz.prog := .p2 Tb158 B158 G_spec_l16S_length F_spec_l16S_length fun d0 a0 h => (r_spec_l16S_length d0 a0).trans (Tr.get_some h)
noncomputable def B159 : Bod Tryz.prog := ⟨159, Tryz.f159, Tryz.f159.body.getD .skip, Tryz.func159, by kernel_rfl, by kernel_rfl, Loops.no _ _⟩
noncomputable def Tb159 : Tb Tryz.prog := { T := [Y2, Y27], mix := mix, Es := [ET_impl_TurnI, E_impl_IsWhole, E_impl_geodesic_bounds, E_impl_geodesic_solve, E_impl_geodesic_omega, E_impl_MeetI], Bs := [], d := 1 }
noncomputable def t_impl_geodesic_size (d0 : Geo) (a0 : I64) : Tr (Iv) :=
  let c1 := F_impl_geodesic_bounds d0; .br (G_impl_geodesic_omega d0 a0) (let c2 := F_impl_geodesic_omega d0 a0; .br (G_impl_geodesic_solve d0 c2 a0) (let c3 := F_impl_geodesic_solve d0 c2 a0; let c4 := F_impl_MeetI c1 c3.b; .br (decide (c2.hi.val ≥ (F_impl_TurnI ⟨2, rfl⟩).lo.val)) (.leaf c1) (.br (F_impl_IsWhole c3.b) (.leaf c1) (.br (!c4.b) (.leaf c1) (.leaf c4.a)))) (.bad)) (.bad)
theorem r_impl_geodesic_size (d0 : Geo) (a0 : I64) : capRun Tb159 B159 [.ptr 0 0, enc a0] [(0, Cap.ec d0)] 1 (Iv) = (t_impl_geodesic_size d0 a0).opt := by kernel_rfl
noncomputable def F_impl_geodesic_size : Geo → I64 → Iv := fun d0 a0 => (t_impl_geodesic_size d0 a0).get
noncomputable def G_impl_geodesic_size : Geo → I64 → Bool := fun d0 a0 => (t_impl_geodesic_size d0 a0).opt.isSome
noncomputable def E_impl_geodesic_size : Ent Tryz.prog := .p2 Tb159 B159 G_impl_geodesic_size F_impl_geodesic_size fun d0 a0 h => (r_impl_geodesic_size d0 a0).trans (Tr.get_some h)
noncomputable def B45 : Bod Tryz.prog := ⟨45, Tryz.f45, Tryz.f45.body.getD .skip, Tryz.func45, by kernel_rfl, by kernel_rfl, Loops.no _ _⟩
noncomputable def Tb45 : Tb Tryz.prog := { T := [Y2, Y27, Y34, Y49, Y100], mix := mix, Es := [E_spec_l16Ask, E_spec_l16Make, E_spec_l19Known, E_spec_l16S_next], Bs := [], d := 1 }
noncomputable def t_spec_OmegaStep (a0 : Ell) (a1 : Point) (a2 : Point) (a3 : Iv) (a4 : I64) : Tr (T2 Iv I64) :=
  let c1 := F_spec_l16Ask a0 a1 a2 a4; .br (c1.val != 0) (.leaf ⟨⟨⟨0, rfl⟩, ⟨0, rfl⟩⟩, c1⟩) (let c2 := F_spec_l16Make a0 a1 a2; .br (G_spec_l16S_next c2 a3 a4) (let c4 := F_spec_l19Known (F_spec_l16S_next c2 a3 a4).a; .leaf ⟨c4.a, c4.b⟩) (.bad))
theorem r_spec_OmegaStep (a0 : Ell) (a1 : Point) (a2 : Point) (a3 : Iv) (a4 : I64) : Tb45.run B45 [enc a0, enc a1, enc a2, enc a3, enc a4] (T2 Iv I64) = (t_spec_OmegaStep a0 a1 a2 a3 a4).opt := by kernel_rfl
noncomputable def F_spec_OmegaStep : Ell → Point → Point → Iv → I64 → T2 Iv I64 := fun a0 a1 a2 a3 a4 => (t_spec_OmegaStep a0 a1 a2 a3 a4).get
noncomputable def G_spec_OmegaStep : Ell → Point → Point → Iv → I64 → Bool := fun a0 a1 a2 a3 a4 => (t_spec_OmegaStep a0 a1 a2 a3 a4).opt.isSome
noncomputable def E_spec_OmegaStep : Ent Tryz.prog := .of5 Tb45 B45 G_spec_OmegaStep F_spec_OmegaStep fun a0 a1 a2 a3 a4 h => (r_spec_OmegaStep a0 a1 a2 a3 a4).trans (Tr.get_some h)
noncomputable def B148 : Bod Tryz.prog := ⟨148, Tryz.f148, Tryz.f148.body.getD .skip, Tryz.func148, by kernel_rfl, by kernel_rfl, Loops.no _ _⟩
noncomputable def B46 : Bod Tryz.prog := ⟨46, Tryz.f46, Tryz.f46.body.getD .skip, Tryz.func46, by kernel_rfl, by kernel_rfl, Loops.no _ _⟩
noncomputable def Tb46 : Tb Tryz.prog := { T := [Y2, Y4, Y27, Y34, Y49, Y110], mix := mix, Es := [E_impl_LatitudeI, E_impl_LatOf, ET_impl_RadiansOf, E_impl_ValidEllipsoid, E_impl_within, E_impl_knownI, E_impl_geodesic_solve, E_impl_WrapLon, E_impl_areValid, E_impl_AbsI], Bs := [B135, B148], d := 8 }
noncomputable def t_impl_OmegaStep (a0 : Ell) (a1 : Point) (a2 : Point) (a3 : Iv) (a4 : I64) : Tr (T2 Iv I64) :=
  .br (!(F_impl_ValidEllipsoid a0)) (.leaf ⟨⟨⟨0, rfl⟩, ⟨0, rfl⟩⟩, ⟨1, rfl⟩⟩) (.br (!(F_impl_areValid a1 a2)) (.leaf ⟨⟨⟨0, rfl⟩, ⟨0, rfl⟩⟩, ⟨1, rfl⟩⟩) (let c4 := F_impl_WrapLon (Rng.w .i64 (a2.lon.val - a1.lon.val)); let c6 := F_impl_LatitudeI ⟨1, rfl⟩ a0 (F_impl_LatOf a1); let c8 := F_impl_LatitudeI ⟨1, rfl⟩ a0 (F_impl_LatOf a2); let c10 := F_impl_AbsI (F_impl_RadiansOf c4); .br (!(F_impl_within a4 ⟨1, rfl⟩ ⟨64, rfl⟩)) (.leaf ⟨⟨⟨0, rfl⟩, ⟨0, rfl⟩⟩, ⟨2, rfl⟩⟩) (.br (G_impl_geodesic_solve ⟨a0, c6, c8, c10, (decide (c4.val < 0))⟩ a3 a4) (let c13 := F_impl_knownI (F_impl_geodesic_solve ⟨a0, c6, c8, c10, (decide (c4.val < 0))⟩ a3 a4).a; .leaf ⟨c13.a, c13.b⟩) (.bad))))
theorem r_impl_OmegaStep (a0 : Ell) (a1 : Point) (a2 : Point) (a3 : Iv) (a4 : I64) : Tb46.run B46 [enc a0, enc a1, enc a2, enc a3, enc a4] (T2 Iv I64) = (t_impl_OmegaStep a0 a1 a2 a3 a4).opt := by kernel_rfl
noncomputable def F_impl_OmegaStep : Ell → Point → Point → Iv → I64 → T2 Iv I64 := fun a0 a1 a2 a3 a4 => (t_impl_OmegaStep a0 a1 a2 a3 a4).get
noncomputable def G_impl_OmegaStep : Ell → Point → Point → Iv → I64 → Bool := fun a0 a1 a2 a3 a4 => (t_impl_OmegaStep a0 a1 a2 a3 a4).opt.isSome
noncomputable def E_impl_OmegaStep : Ent Tryz.prog := .of5 Tb46 B46 G_impl_OmegaStep F_impl_OmegaStep fun a0 a1 a2 a3 a4 h => (r_impl_OmegaStep a0 a1 a2 a3 a4).trans (Tr.get_some h)
noncomputable def B13 : Bod Tryz.prog := ⟨13, Tryz.f13, Tryz.f13.body.getD .skip, Tryz.func13, by kernel_rfl, by kernel_rfl, Loops.no _ _⟩
noncomputable def Tb13 : Tb Tryz.prog := { T := [Y2, Y25, Y27, Y38, Y47], mix := mix, Es := [E_laws_toPoint, E_laws_eqInterval, E_laws_toEllipsoid, E_laws_toInterval, E_spec_OmegaStep, E_impl_OmegaStep], Bs := [], d := 1 }
noncomputable def t_laws_FnExactOmegaStep (a0 : Ell) (a1 : Point) (a2 : Point) (a3 : Iv) (a4 : I64) : Tr (Bool) :=
  let c1 := F_laws_toEllipsoid a0; let c2 := F_laws_toPoint a1; let c3 := F_laws_toPoint a2; let c4 := F_laws_toInterval a3; .br (G_spec_OmegaStep c1 c2 c3 c4 a4) (let c5 := F_spec_OmegaStep c1 c2 c3 c4 a4; let c6 := F_laws_toEllipsoid a0; let c7 := F_laws_toPoint a1; let c8 := F_laws_toPoint a2; let c9 := F_laws_toInterval a3; .br (G_impl_OmegaStep c6 c7 c8 c9 a4) (let c10 := F_impl_OmegaStep c6 c7 c8 c9 a4; .br (!(F_laws_eqInterval c10.a c5.a)) (.leaf false) (.br (c10.b.val != c5.b.val) (.leaf false) (.leaf true))) (.bad)) (.bad)
theorem r_laws_FnExactOmegaStep (a0 : Ell) (a1 : Point) (a2 : Point) (a3 : Iv) (a4 : I64) : Tb13.run B13 [enc a0, enc a1, enc a2, enc a3, enc a4] (Bool) = (t_laws_FnExactOmegaStep a0 a1 a2 a3 a4).opt := by kernel_rfl
noncomputable def F_laws_FnExactOmegaStep : Ell → Point → Point → Iv → I64 → Bool := fun a0 a1 a2 a3 a4 => (t_laws_FnExactOmegaStep a0 a1 a2 a3 a4).get
noncomputable def G_laws_FnExactOmegaStep : Ell → Point → Point → Iv → I64 → Bool := fun a0 a1 a2 a3 a4 => (t_laws_FnExactOmegaStep a0 a1 a2 a3 a4).opt.isSome
noncomputable def E_laws_FnExactOmegaStep : Ent Tryz.prog := .of5 Tb13 B13 G_laws_FnExactOmegaStep F_laws_FnExactOmegaStep fun a0 a1 a2 a3 a4 h => (r_laws_FnExactOmegaStep a0 a1 a2 a3 a4).trans (Tr.get_some h)
noncomputable def B47 : Bod Tryz.prog := ⟨47, Tryz.f47, Tryz.f47.body.getD .skip, Tryz.func47, by kernel_rfl, by kernel_rfl, Loops.no _ _⟩
noncomputable def Tb47 : Tb Tryz.prog := { T := [Y2, Y27, Y34, Y49, Y100], mix := mix, Es := [E_spec_l16Ask, E_spec_l16Make, E_spec_l19Known, E_spec_l16S_omega], Bs := [], d := 1 }
noncomputable def t_spec_GeodesicOmega (a0 : Ell) (a1 : Point) (a2 : Point) (a3 : I64) : Tr (T2 Iv I64) :=
  let c1 := F_spec_l16Ask a0 a1 a2 a3; .br (c1.val != 0) (.leaf ⟨⟨⟨0, rfl⟩, ⟨0, rfl⟩⟩, c1⟩) (let c2 := F_spec_l16Make a0 a1 a2; .br (G_spec_l16S_omega c2 a3) (let c4 := F_spec_l19Known (F_spec_l16S_omega c2 a3); .leaf ⟨c4.a, c4.b⟩) (.bad))
theorem r_spec_GeodesicOmega (a0 : Ell) (a1 : Point) (a2 : Point) (a3 : I64) : Tb47.run B47 [enc a0, enc a1, enc a2, enc a3] (T2 Iv I64) = (t_spec_GeodesicOmega a0 a1 a2 a3).opt := by kernel_rfl
noncomputable def F_spec_GeodesicOmega : Ell → Point → Point → I64 → T2 Iv I64 := fun a0 a1 a2 a3 => (t_spec_GeodesicOmega a0 a1 a2 a3).get
noncomputable def G_spec_GeodesicOmega : Ell → Point → Point → I64 → Bool := fun a0 a1 a2 a3 => (t_spec_GeodesicOmega a0 a1 a2 a3).opt.isSome
noncomputable def E_spec_GeodesicOmega : Ent Tryz.prog := .of4 Tb47 B47 G_spec_GeodesicOmega F_spec_GeodesicOmega fun a0 a1 a2 a3 h => (r_spec_GeodesicOmega a0 a1 a2 a3).trans (Tr.get_some h)
noncomputable def B48 : Bod Tryz.prog := ⟨48, Tryz.f48, Tryz.f48.body.getD .skip, Tryz.func48, by kernel_rfl, by kernel_rfl, Loops.no _ _⟩
noncomputable def Tb48 : Tb Tryz.prog := { T := [Y2, Y4, Y27, Y34, Y49, Y110], mix := mix, Es := [E_impl_LatitudeI, E_impl_LatOf, ET_impl_RadiansOf, E_impl_ValidEllipsoid, E_impl_within, E_impl_knownI, E_impl_geodesic_omega, E_impl_WrapLon, E_impl_areValid, E_impl_AbsI], Bs := [B135, B148], d := 8 }
noncomputable def t_impl_GeodesicOmega (a0 : Ell) (a1 : Point) (a2 : Point) (a3 : I64) : Tr (T2 Iv I64) :=
  .br (!(F_impl_ValidEllipsoid a0)) (.leaf ⟨⟨⟨0, rfl⟩, ⟨0, rfl⟩⟩, ⟨1, rfl⟩⟩) (.br (!(F_impl_areValid a1 a2)) (.leaf ⟨⟨⟨0, rfl⟩, ⟨0, rfl⟩⟩, ⟨1, rfl⟩⟩) (let c4 := F_impl_WrapLon (Rng.w .i64 (a2.lon.val - a1.lon.val)); let c6 := F_impl_LatitudeI ⟨1, rfl⟩ a0 (F_impl_LatOf a1); let c8 := F_impl_LatitudeI ⟨1, rfl⟩ a0 (F_impl_LatOf a2); let c10 := F_impl_AbsI (F_impl_RadiansOf c4); .br (!(F_impl_within a3 ⟨1, rfl⟩ ⟨64, rfl⟩)) (.leaf ⟨⟨⟨0, rfl⟩, ⟨0, rfl⟩⟩, ⟨2, rfl⟩⟩) (.br (G_impl_geodesic_omega ⟨a0, c6, c8, c10, (decide (c4.val < 0))⟩ a3) (let c13 := F_impl_knownI (F_impl_geodesic_omega ⟨a0, c6, c8, c10, (decide (c4.val < 0))⟩ a3); .leaf ⟨c13.a, c13.b⟩) (.bad))))
theorem r_impl_GeodesicOmega (a0 : Ell) (a1 : Point) (a2 : Point) (a3 : I64) : Tb48.run B48 [enc a0, enc a1, enc a2, enc a3] (T2 Iv I64) = (t_impl_GeodesicOmega a0 a1 a2 a3).opt := by kernel_rfl
noncomputable def F_impl_GeodesicOmega : Ell → Point → Point → I64 → T2 Iv I64 := fun a0 a1 a2 a3 => (t_impl_GeodesicOmega a0 a1 a2 a3).get
noncomputable def G_impl_GeodesicOmega : Ell → Point → Point → I64 → Bool := fun a0 a1 a2 a3 => (t_impl_GeodesicOmega a0 a1 a2 a3).opt.isSome
noncomputable def E_impl_GeodesicOmega : Ent Tryz.prog := .of4 Tb48 B48 G_impl_GeodesicOmega F_impl_GeodesicOmega fun a0 a1 a2 a3 h => (r_impl_GeodesicOmega a0 a1 a2 a3).trans (Tr.get_some h)
noncomputable def B14 : Bod Tryz.prog := ⟨14, Tryz.f14, Tryz.f14.body.getD .skip, Tryz.func14, by kernel_rfl, by kernel_rfl, Loops.no _ _⟩
noncomputable def Tb14 : Tb Tryz.prog := { T := [Y2, Y25, Y27, Y47], mix := mix, Es := [E_laws_toPoint, E_laws_eqInterval, E_laws_toEllipsoid, E_spec_GeodesicOmega, E_impl_GeodesicOmega], Bs := [], d := 1 }
noncomputable def t_laws_FnExactGeodesicOmega (a0 : Ell) (a1 : Point) (a2 : Point) (a3 : I64) : Tr (Bool) :=
  let c1 := F_laws_toEllipsoid a0; let c2 := F_laws_toPoint a1; let c3 := F_laws_toPoint a2; .br (G_spec_GeodesicOmega c1 c2 c3 a3) (let c4 := F_spec_GeodesicOmega c1 c2 c3 a3; let c5 := F_laws_toEllipsoid a0; let c6 := F_laws_toPoint a1; let c7 := F_laws_toPoint a2; .br (G_impl_GeodesicOmega c5 c6 c7 a3) (let c8 := F_impl_GeodesicOmega c5 c6 c7 a3; .br (!(F_laws_eqInterval c8.a c4.a)) (.leaf false) (.br (c8.b.val != c4.b.val) (.leaf false) (.leaf true))) (.bad)) (.bad)
theorem r_laws_FnExactGeodesicOmega (a0 : Ell) (a1 : Point) (a2 : Point) (a3 : I64) : Tb14.run B14 [enc a0, enc a1, enc a2, enc a3] (Bool) = (t_laws_FnExactGeodesicOmega a0 a1 a2 a3).opt := by kernel_rfl
noncomputable def F_laws_FnExactGeodesicOmega : Ell → Point → Point → I64 → Bool := fun a0 a1 a2 a3 => (t_laws_FnExactGeodesicOmega a0 a1 a2 a3).get
noncomputable def G_laws_FnExactGeodesicOmega : Ell → Point → Point → I64 → Bool := fun a0 a1 a2 a3 => (t_laws_FnExactGeodesicOmega a0 a1 a2 a3).opt.isSome
noncomputable def E_laws_FnExactGeodesicOmega : Ent Tryz.prog := .of4 Tb14 B14 G_laws_FnExactGeodesicOmega F_laws_FnExactGeodesicOmega fun a0 a1 a2 a3 h => (r_laws_FnExactGeodesicOmega a0 a1 a2 a3).trans (Tr.get_some h)
noncomputable def B49 : Bod Tryz.prog := ⟨49, Tryz.f49, Tryz.f49.body.getD .skip, Tryz.func49, by kernel_rfl, by kernel_rfl, Loops.no _ _⟩
noncomputable def Tb49 : Tb Tryz.prog := { T := [Y2, Y27, Y34, Y49, Y100], mix := mix, Es := [E_spec_CosI, E_spec_MulI, E_spec_SinI, E_spec_l16Ask, E_spec_l16Make, E_spec_l19Known, E_spec_l16S_omega, E_spec_l16Short, E_spec_NegI, E_spec_SubI, E_spec_DirectionI], Bs := [], d := 1 }
noncomputable def t_spec_GeodesicAzimuth (a0 : Ell) (a1 : Point) (a2 : Point) (a3 : I64) : Tr (T2 Iv I64) :=
  let c1 := F_spec_l16Ask a0 a1 a2 a3; .br (c1.val != 0) (.leaf ⟨⟨⟨0, rfl⟩, ⟨0, rfl⟩⟩, c1⟩) (let c2 := F_spec_l16Make a0 a1 a2; .br (G_spec_l16S_omega c2 a3) (let c3 := F_spec_l16S_omega c2 a3; .br (G_spec_l16Short c3) (.br (!(F_spec_l16Short c3)) (.leaf ⟨⟨⟨0, rfl⟩, ⟨0, rfl⟩⟩, ⟨8, rfl⟩⟩) (.br (decide (c2.d.val < 0)) (let c5 := F_spec_NegI c3; let c19 := F_spec_l19Known (F_spec_DirectionI (F_spec_MulI (F_spec_CosI c2.v) (F_spec_SinI c5)) (F_spec_SubI (F_spec_MulI (F_spec_CosI c2.u) (F_spec_SinI c2.v)) (F_spec_MulI (F_spec_MulI (F_spec_SinI c2.u) (F_spec_CosI c2.v)) (F_spec_CosI c5)))); .leaf ⟨c19.a, c19.b⟩) (let c33 := F_spec_l19Known (F_spec_DirectionI (F_spec_MulI (F_spec_CosI c2.v) (F_spec_SinI c3)) (F_spec_SubI (F_spec_MulI (F_spec_CosI c2.u) (F_spec_SinI c2.v)) (F_spec_MulI (F_spec_MulI (F_spec_SinI c2.u) (F_spec_CosI c2.v)) (F_spec_CosI c3)))); .leaf ⟨c33.a, c33.b⟩))) (.bad)) (.bad))
theorem r_spec_GeodesicAzimuth (a0 : Ell) (a1 : Point) (a2 : Point) (a3 : I64) : Tb49.run B49 [enc a0, enc a1, enc a2, enc a3] (T2 Iv I64) = (t_spec_GeodesicAzimuth a0 a1 a2 a3).opt := by kernel_rfl
noncomputable def F_spec_GeodesicAzimuth : Ell → Point → Point → I64 → T2 Iv I64 := fun a0 a1 a2 a3 => (t_spec_GeodesicAzimuth a0 a1 a2 a3).get
noncomputable def G_spec_GeodesicAzimuth : Ell → Point → Point → I64 → Bool := fun a0 a1 a2 a3 => (t_spec_GeodesicAzimuth a0 a1 a2 a3).opt.isSome
noncomputable def E_spec_GeodesicAzimuth : Ent Tryz.prog := .of4 Tb49 B49 G_spec_GeodesicAzimuth F_spec_GeodesicAzimuth fun a0 a1 a2 a3 h => (r_spec_GeodesicAzimuth a0 a1 a2 a3).trans (Tr.get_some h)
noncomputable def B50 : Bod Tryz.prog := ⟨50, Tryz.f50, Tryz.f50.body.getD .skip, Tryz.func50, by kernel_rfl, by kernel_rfl, Loops.no _ _⟩
noncomputable def Tb50 : Tb Tryz.prog := { T := [Y2, Y4, Y27, Y34, Y49, Y110], mix := mix, Es := [E_impl_LatitudeI, E_impl_LatOf, E_impl_CosI, ET_impl_RadiansOf, ET_impl_MulI, E_impl_SinI, E_impl_ValidEllipsoid, E_impl_within, E_impl_DirectionI, ET_impl_TurnI, E_impl_knownI, E_impl_geodesic_omega, E_impl_NegI, E_impl_SubI, E_impl_WrapLon, E_impl_areValid, E_impl_AbsI], Bs := [B135, B148], d := 8 }
noncomputable def t_impl_GeodesicAzimuth (a0 : Ell) (a1 : Point) (a2 : Point) (a3 : I64) : Tr (T2 Iv I64) :=
  .br (!(F_impl_ValidEllipsoid a0)) (.leaf ⟨⟨⟨0, rfl⟩, ⟨0, rfl⟩⟩, ⟨1, rfl⟩⟩) (.br (!(F_impl_areValid a1 a2)) (.leaf ⟨⟨⟨0, rfl⟩, ⟨0, rfl⟩⟩, ⟨1, rfl⟩⟩) (let c4 := F_impl_WrapLon (Rng.w .i64 (a2.lon.val - a1.lon.val)); let c6 := F_impl_LatitudeI ⟨1, rfl⟩ a0 (F_impl_LatOf a1); let c8 := F_impl_LatitudeI ⟨1, rfl⟩ a0 (F_impl_LatOf a2); let c10 := F_impl_AbsI (F_impl_RadiansOf c4); .br (!(F_impl_within a3 ⟨1, rfl⟩ ⟨64, rfl⟩)) (.leaf ⟨⟨⟨0, rfl⟩, ⟨0, rfl⟩⟩, ⟨2, rfl⟩⟩) (.br (G_impl_geodesic_omega ⟨a0, c6, c8, c10, (decide (c4.val < 0))⟩ a3) (let c12 := F_impl_geodesic_omega ⟨a0, c6, c8, c10, (decide (c4.val < 0))⟩ a3; .br (decide (c12.hi.val ≥ (F_impl_TurnI ⟨2, rfl⟩).lo.val)) (.leaf ⟨⟨⟨0, rfl⟩, ⟨0, rfl⟩⟩, ⟨8, rfl⟩⟩) (.br (decide (c4.val < 0)) (let c15 := F_impl_NegI c12; let c29 := F_impl_knownI (F_impl_DirectionI (F_impl_MulI (F_impl_CosI c8) (F_impl_SinI c15)) (F_impl_SubI (F_impl_MulI (F_impl_CosI c6) (F_impl_SinI c8)) (F_impl_MulI (F_impl_MulI (F_impl_SinI c6) (F_impl_CosI c8)) (F_impl_CosI c15)))); .leaf ⟨c29.a, c29.b⟩) (let c43 := F_impl_knownI (F_impl_DirectionI (F_impl_MulI (F_impl_CosI c8) (F_impl_SinI c12)) (F_impl_SubI (F_impl_MulI (F_impl_CosI c6) (F_impl_SinI c8)) (F_impl_MulI (F_impl_MulI (F_impl_SinI c6) (F_impl_CosI c8)) (F_impl_CosI c12)))); .leaf ⟨c43.a, c43.b⟩))) (.bad))))
theorem r_impl_GeodesicAzimuth (a0 : Ell) (a1 : Point) (a2 : Point) (a3 : I64) : Tb50.run B50 [enc a0, enc a1, enc a2, enc a3] (T2 Iv I64) = (t_impl_GeodesicAzimuth a0 a1 a2 a3).opt := by kernel_rfl
noncomputable def F_impl_GeodesicAzimuth : Ell → Point → Point → I64 → T2 Iv I64 := fun a0 a1 a2 a3 => (t_impl_GeodesicAzimuth a0 a1 a2 a3).get
noncomputable def G_impl_GeodesicAzimuth : Ell → Point → Point → I64 → Bool := fun a0 a1 a2 a3 => (t_impl_GeodesicAzimuth a0 a1 a2 a3).opt.isSome
noncomputable def E_impl_GeodesicAzimuth : Ent Tryz.prog := .of4 Tb50 B50 G_impl_GeodesicAzimuth F_impl_GeodesicAzimuth fun a0 a1 a2 a3 h => (r_impl_GeodesicAzimuth a0 a1 a2 a3).trans (Tr.get_some h)
noncomputable def B15 : Bod Tryz.prog := ⟨15, Tryz.f15, Tryz.f15.body.getD .skip, Tryz.func15, by kernel_rfl, by kernel_rfl, Loops.no _ _⟩
noncomputable def Tb15 : Tb Tryz.prog := { T := [Y2, Y25, Y27, Y47], mix := mix, Es := [E_laws_toPoint, E_laws_eqInterval, E_laws_toEllipsoid, E_spec_GeodesicAzimuth, E_impl_GeodesicAzimuth], Bs := [], d := 1 }
noncomputable def t_laws_FnExactGeodesicAzimuth (a0 : Ell) (a1 : Point) (a2 : Point) (a3 : I64) : Tr (Bool) :=
  let c1 := F_laws_toEllipsoid a0; let c2 := F_laws_toPoint a1; let c3 := F_laws_toPoint a2; .br (G_spec_GeodesicAzimuth c1 c2 c3 a3) (let c4 := F_spec_GeodesicAzimuth c1 c2 c3 a3; let c5 := F_laws_toEllipsoid a0; let c6 := F_laws_toPoint a1; let c7 := F_laws_toPoint a2; .br (G_impl_GeodesicAzimuth c5 c6 c7 a3) (let c8 := F_impl_GeodesicAzimuth c5 c6 c7 a3; .br (!(F_laws_eqInterval c8.a c4.a)) (.leaf false) (.br (c8.b.val != c4.b.val) (.leaf false) (.leaf true))) (.bad)) (.bad)
theorem r_laws_FnExactGeodesicAzimuth (a0 : Ell) (a1 : Point) (a2 : Point) (a3 : I64) : Tb15.run B15 [enc a0, enc a1, enc a2, enc a3] (Bool) = (t_laws_FnExactGeodesicAzimuth a0 a1 a2 a3).opt := by kernel_rfl
noncomputable def F_laws_FnExactGeodesicAzimuth : Ell → Point → Point → I64 → Bool := fun a0 a1 a2 a3 => (t_laws_FnExactGeodesicAzimuth a0 a1 a2 a3).get
noncomputable def G_laws_FnExactGeodesicAzimuth : Ell → Point → Point → I64 → Bool := fun a0 a1 a2 a3 => (t_laws_FnExactGeodesicAzimuth a0 a1 a2 a3).opt.isSome
noncomputable def E_laws_FnExactGeodesicAzimuth : Ent Tryz.prog := .of4 Tb15 B15 G_laws_FnExactGeodesicAzimuth F_laws_FnExactGeodesicAzimuth fun a0 a1 a2 a3 h => (r_laws_FnExactGeodesicAzimuth a0 a1 a2 a3).trans (Tr.get_some h)
noncomputable def B51 : Bod Tryz.prog := ⟨51, Tryz.f51, Tryz.f51.body.getD .skip, Tryz.func51, by kernel_rfl, by kernel_rfl, Loops.no _ _⟩
noncomputable def Tb51 : Tb Tryz.prog := { T := [Y2, Y27, Y34, Y49, Y100], mix := mix, Es := [E_spec_l16Ask, E_spec_l16Make, E_spec_l19Known, E_spec_l16S_length], Bs := [], d := 1 }
noncomputable def t_spec_GeodesicLength (a0 : Ell) (a1 : Point) (a2 : Point) (a3 : I64) : Tr (T2 Iv I64) :=
  let c1 := F_spec_l16Ask a0 a1 a2 a3; .br (c1.val != 0) (.leaf ⟨⟨⟨0, rfl⟩, ⟨0, rfl⟩⟩, c1⟩) (let c2 := F_spec_l16Make a0 a1 a2; .br (G_spec_l16S_length c2 a3) (let c4 := F_spec_l19Known (F_spec_l16S_length c2 a3); .leaf ⟨c4.a, c4.b⟩) (.bad))
theorem r_spec_GeodesicLength (a0 : Ell) (a1 : Point) (a2 : Point) (a3 : I64) : Tb51.run B51 [enc a0, enc a1, enc a2, enc a3] (T2 Iv I64) = (t_spec_GeodesicLength a0 a1 a2 a3).opt := by kernel_rfl
noncomputable def F_spec_GeodesicLength : Ell → Point → Point → I64 → T2 Iv I64 := fun a0 a1 a2 a3 => (t_spec_GeodesicLength a0 a1 a2 a3).get
noncomputable def G_spec_GeodesicLength : Ell → Point → Point → I64 → Bool := fun a0 a1 a2 a3 => (t_spec_GeodesicLength a0 a1 a2 a3).opt.isSome
noncomputable def E_spec_GeodesicLength : Ent Tryz.prog := .of4 Tb51 B51 G_spec_GeodesicLength F_spec_GeodesicLength fun a0 a1 a2 a3 h => (r_spec_GeodesicLength a0 a1 a2 a3).trans (Tr.get_some h)
noncomputable def B52 : Bod Tryz.prog := ⟨52, Tryz.f52, Tryz.f52.body.getD .skip, Tryz.func52, by kernel_rfl, by kernel_rfl, Loops.no _ _⟩
noncomputable def Tb52 : Tb Tryz.prog := { T := [Y2, Y4, Y27, Y34, Y49, Y110], mix := mix, Es := [E_impl_LatitudeI, E_impl_LatOf, ET_impl_RadiansOf, E_impl_ValidEllipsoid, E_impl_within, E_impl_knownI, E_impl_geodesic_size, E_impl_WrapLon, E_impl_areValid, E_impl_AbsI], Bs := [B135, B148], d := 8 }
noncomputable def t_impl_GeodesicLength (a0 : Ell) (a1 : Point) (a2 : Point) (a3 : I64) : Tr (T2 Iv I64) :=
  .br (!(F_impl_ValidEllipsoid a0)) (.leaf ⟨⟨⟨0, rfl⟩, ⟨0, rfl⟩⟩, ⟨1, rfl⟩⟩) (.br (!(F_impl_areValid a1 a2)) (.leaf ⟨⟨⟨0, rfl⟩, ⟨0, rfl⟩⟩, ⟨1, rfl⟩⟩) (let c4 := F_impl_WrapLon (Rng.w .i64 (a2.lon.val - a1.lon.val)); let c6 := F_impl_LatitudeI ⟨1, rfl⟩ a0 (F_impl_LatOf a1); let c8 := F_impl_LatitudeI ⟨1, rfl⟩ a0 (F_impl_LatOf a2); let c10 := F_impl_AbsI (F_impl_RadiansOf c4); .br (!(F_impl_within a3 ⟨1, rfl⟩ ⟨64, rfl⟩)) (.leaf ⟨⟨⟨0, rfl⟩, ⟨0, rfl⟩⟩, ⟨2, rfl⟩⟩) (.br (G_impl_geodesic_size ⟨a0, c6, c8, c10, (decide (c4.val < 0))⟩ a3) (let c13 := F_impl_knownI (F_impl_geodesic_size ⟨a0, c6, c8, c10, (decide (c4.val < 0))⟩ a3); .leaf ⟨c13.a, c13.b⟩) (.bad))))
theorem r_impl_GeodesicLength (a0 : Ell) (a1 : Point) (a2 : Point) (a3 : I64) : Tb52.run B52 [enc a0, enc a1, enc a2, enc a3] (T2 Iv I64) = (t_impl_GeodesicLength a0 a1 a2 a3).opt := by kernel_rfl
noncomputable def F_impl_GeodesicLength : Ell → Point → Point → I64 → T2 Iv I64 := fun a0 a1 a2 a3 => (t_impl_GeodesicLength a0 a1 a2 a3).get
noncomputable def G_impl_GeodesicLength : Ell → Point → Point → I64 → Bool := fun a0 a1 a2 a3 => (t_impl_GeodesicLength a0 a1 a2 a3).opt.isSome
noncomputable def E_impl_GeodesicLength : Ent Tryz.prog := .of4 Tb52 B52 G_impl_GeodesicLength F_impl_GeodesicLength fun a0 a1 a2 a3 h => (r_impl_GeodesicLength a0 a1 a2 a3).trans (Tr.get_some h)
noncomputable def B16 : Bod Tryz.prog := ⟨16, Tryz.f16, Tryz.f16.body.getD .skip, Tryz.func16, by kernel_rfl, by kernel_rfl, Loops.no _ _⟩
noncomputable def Tb16 : Tb Tryz.prog := { T := [Y2, Y25, Y27, Y47], mix := mix, Es := [E_laws_toPoint, E_laws_eqInterval, E_laws_toEllipsoid, E_spec_GeodesicLength, E_impl_GeodesicLength], Bs := [], d := 1 }
noncomputable def t_laws_FnExactGeodesicLength (a0 : Ell) (a1 : Point) (a2 : Point) (a3 : I64) : Tr (Bool) :=
  let c1 := F_laws_toEllipsoid a0; let c2 := F_laws_toPoint a1; let c3 := F_laws_toPoint a2; .br (G_spec_GeodesicLength c1 c2 c3 a3) (let c4 := F_spec_GeodesicLength c1 c2 c3 a3; let c5 := F_laws_toEllipsoid a0; let c6 := F_laws_toPoint a1; let c7 := F_laws_toPoint a2; .br (G_impl_GeodesicLength c5 c6 c7 a3) (let c8 := F_impl_GeodesicLength c5 c6 c7 a3; .br (!(F_laws_eqInterval c8.a c4.a)) (.leaf false) (.br (c8.b.val != c4.b.val) (.leaf false) (.leaf true))) (.bad)) (.bad)
theorem r_laws_FnExactGeodesicLength (a0 : Ell) (a1 : Point) (a2 : Point) (a3 : I64) : Tb16.run B16 [enc a0, enc a1, enc a2, enc a3] (Bool) = (t_laws_FnExactGeodesicLength a0 a1 a2 a3).opt := by kernel_rfl
noncomputable def F_laws_FnExactGeodesicLength : Ell → Point → Point → I64 → Bool := fun a0 a1 a2 a3 => (t_laws_FnExactGeodesicLength a0 a1 a2 a3).get
noncomputable def G_laws_FnExactGeodesicLength : Ell → Point → Point → I64 → Bool := fun a0 a1 a2 a3 => (t_laws_FnExactGeodesicLength a0 a1 a2 a3).opt.isSome
noncomputable def E_laws_FnExactGeodesicLength : Ent Tryz.prog := .of4 Tb16 B16 G_laws_FnExactGeodesicLength F_laws_FnExactGeodesicLength fun a0 a1 a2 a3 h => (r_laws_FnExactGeodesicLength a0 a1 a2 a3).trans (Tr.get_some h)
end
end Go.Proofs.YtecfhpgpojgjkaaGreat.Ev
