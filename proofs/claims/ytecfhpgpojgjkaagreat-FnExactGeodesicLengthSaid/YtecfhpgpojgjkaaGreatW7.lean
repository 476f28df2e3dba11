import Derived.Test.YtecfhpgpojgjkaaGreatW6
import Derived.Test.YtecfhpgpojgjkaaGreatPL
namespace Go.Proofs.YtecfhpgpojgjkaaGreat.Ev
open Go Go.RowKit
set_option maxRecDepth 100000
set_option linter.unusedVariables false
section
noncomputable def ET_spec_LogAt : Ent Tryz.prog := .of1 Tb274 B274 (fun _ => true) F_spec_LogAt fun a0 _ => (r_spec_LogAt a0).trans (tt_logAt_spec a0)
noncomputable def ET_impl_LogAt : Ent Tryz.prog := .of1 Tb209 B209 (fun _ => true) F_impl_LogAt fun a0 _ => (r_impl_LogAt a0).trans (tt_logAt_impl a0)
noncomputable def B219 : Bod Tryz.prog := ⟨219, Tryz.f219, Tryz.f219.body.getD .skip, Tryz.func219, by kernel_rfl, by kernel_rfl, Loops.no _ _⟩
noncomputable def Tb219 : Tb Tryz.prog := { T := [Y2, Y27], mix := mix, Es := [E_spec_DivI, E_spec_AtanI, E_spec_l00In, E_spec_Integer, E_spec_Whole, E_spec_AddI, E_spec_l07Quarter, E_spec_MeetI, E_spec_l05At, E_spec_DoubleI, E_spec_CircleAt], Bs := [], d := 1 }
noncomputable def t_spec_AsinAt (a0 : I64) : Tr (Iv) :=
  .br (!(F_spec_l00In a0 ⟨(-4294967296), rfl⟩ ⟨4294967296, rfl⟩)) (.leaf F_spec_Whole) (.leaf (F_spec_MeetI (F_spec_DoubleI (F_spec_AtanI (F_spec_DivI (F_spec_l05At a0) (F_spec_AddI (F_spec_Integer ⟨1, rfl⟩) (F_spec_CircleAt a0))))) F_spec_l07Quarter).a)
theorem r_spec_AsinAt (a0 : I64) : Tb219.run B219 [enc a0] (Iv) = (t_spec_AsinAt a0).opt := by kernel_rfl
noncomputable def F_spec_AsinAt : I64 → Iv := fun a0 => (t_spec_AsinAt a0).get
theorem u_spec_AsinAt (a0 : I64) : (t_spec_AsinAt a0).opt = some (F_spec_AsinAt a0) := Tr.tot_get (by kernel_rfl)
noncomputable def E_spec_AsinAt : Ent Tryz.prog := .of1 Tb219 B219 (fun _ => true) F_spec_AsinAt fun a0 _ => (r_spec_AsinAt a0).trans (u_spec_AsinAt a0)
noncomputable def B225 : Bod Tryz.prog := ⟨225, Tryz.f225, Tryz.f225.body.getD .skip, Tryz.func225, by kernel_rfl, by kernel_rfl, Loops.no _ _⟩
noncomputable def Tb225 : Tb Tryz.prog := { T := [Y2, Y27], mix := mix, Es := [E_impl_DivI, E_impl_AtanI, E_impl_within, E_impl_Whole, E_impl_Integer, E_impl_at, E_impl_AddI, E_impl_halfCircle, E_impl_MeetI, E_impl_DoubleI, E_impl_CircleAt], Bs := [], d := 1 }
noncomputable def t_impl_AsinAt (a0 : I64) : Tr (Iv) :=
  .br (!(F_impl_within a0 ⟨(-4294967296), rfl⟩ ⟨4294967296, rfl⟩)) (.leaf F_impl_Whole) (.leaf (F_impl_MeetI (F_impl_DoubleI (F_impl_AtanI (F_impl_DivI (F_impl_at a0) (F_impl_AddI (F_impl_Integer ⟨1, rfl⟩) (F_impl_CircleAt a0))))) F_impl_halfCircle).a)
theorem r_impl_AsinAt (a0 : I64) : Tb225.run B225 [enc a0] (Iv) = (t_impl_AsinAt a0).opt := by kernel_rfl
noncomputable def F_impl_AsinAt : I64 → Iv := fun a0 => (t_impl_AsinAt a0).get
theorem u_impl_AsinAt (a0 : I64) : (t_impl_AsinAt a0).opt = some (F_impl_AsinAt a0) := Tr.tot_get (by kernel_rfl)
noncomputable def E_impl_AsinAt : Ent Tryz.prog := .of1 Tb225 B225 (fun _ => true) F_impl_AsinAt fun a0 _ => (r_impl_AsinAt a0).trans (u_impl_AsinAt a0)
noncomputable def B93 : Bod Tryz.prog := ⟨93, Tryz.f93, Tryz.f93.body.getD .skip, Tryz.func93, by kernel_rfl, by kernel_rfl, Loops.no _ _⟩
noncomputable def Tb93 : Tb Tryz.prog := { T := [Y2, Y27], mix := mix, Es := [E_spec_l06Ring, E_spec_Whole, E_spec_HullI, E_spec_MeetI, E_spec_AsinAt], Bs := [], d := 1 }
noncomputable def t_spec_AsinI (a0 : Iv) : Tr (Iv) :=
  let c2 := F_spec_MeetI a0 F_spec_l06Ring; .br (!c2.b) (.leaf F_spec_Whole) (.leaf (F_spec_HullI (F_spec_AsinAt c2.a.lo) (F_spec_AsinAt c2.a.hi)))
theorem r_spec_AsinI (a0 : Iv) : Tb93.run B93 [enc a0] (Iv) = (t_spec_AsinI a0).opt := by kernel_rfl
noncomputable def F_spec_AsinI : Iv → Iv := fun a0 => (t_spec_AsinI a0).get
theorem u_spec_AsinI (a0 : Iv) : (t_spec_AsinI a0).opt = some (F_spec_AsinI a0) := Tr.tot_get (by kernel_rfl)
noncomputable def E_spec_AsinI : Ent Tryz.prog := .of1 Tb93 B93 (fun _ => true) F_spec_AsinI fun a0 _ => (r_spec_AsinI a0).trans (u_spec_AsinI a0)
noncomputable def B98 : Bod Tryz.prog := ⟨98, Tryz.f98, Tryz.f98.body.getD .skip, Tryz.func98, by kernel_rfl, by kernel_rfl, Loops.no _ _⟩
noncomputable def Tb98 : Tb Tryz.prog := { T := [Y2, Y27], mix := mix, Es := [E_impl_ring, E_impl_Whole, E_impl_HullI, E_impl_MeetI, E_impl_AsinAt], Bs := [], d := 1 }
noncomputable def t_impl_AsinI (a0 : Iv) : Tr (Iv) :=
  let c2 := F_impl_MeetI a0 F_impl_ring; .br (!c2.b) (.leaf F_impl_Whole) (.leaf (F_impl_HullI (F_impl_AsinAt c2.a.lo) (F_impl_AsinAt c2.a.hi)))
theorem r_impl_AsinI (a0 : Iv) : Tb98.run B98 [enc a0] (Iv) = (t_impl_AsinI a0).opt := by kernel_rfl
noncomputable def F_impl_AsinI : Iv → Iv := fun a0 => (t_impl_AsinI a0).get
theorem u_impl_AsinI (a0 : Iv) : (t_impl_AsinI a0).opt = some (F_impl_AsinI a0) := Tr.tot_get (by kernel_rfl)
noncomputable def E_impl_AsinI : Ent Tryz.prog := .of1 Tb98 B98 (fun _ => true) F_impl_AsinI fun a0 _ => (r_impl_AsinI a0).trans (u_impl_AsinI a0)
noncomputable def B145 : Bod Tryz.prog := ⟨145, Tryz.f145, Tryz.f145.body.getD .skip, Tryz.func145, by kernel_rfl, by kernel_rfl, Loops.no _ _⟩
noncomputable def Tb145 : Tb Tryz.prog := { T := [Y2, Y27], mix := mix, Es := [ET_impl_MulI, E_impl_Integer], Bs := [], d := 1 }
noncomputable def t_impl_times (a0 : I64) (a1 : Iv) : Tr (Iv) :=
  .leaf (F_impl_MulI (F_impl_Integer a0) a1)
theorem r_impl_times (a0 : I64) (a1 : Iv) : Tb145.run B145 [enc a0, enc a1] (Iv) = (t_impl_times a0 a1).opt := by kernel_rfl
noncomputable def F_impl_times : I64 → Iv → Iv := fun a0 a1 => (t_impl_times a0 a1).get
theorem u_impl_times (a0 : I64) (a1 : Iv) : (t_impl_times a0 a1).opt = some (F_impl_times a0 a1) := Tr.tot_get (by kernel_rfl)
noncomputable def E_impl_times : Ent Tryz.prog := .of2 Tb145 B145 (fun _ _ => true) F_impl_times fun a0 a1 _ => (r_impl_times a0 a1).trans (u_impl_times a0 a1)
noncomputable def B258 : Bod Tryz.prog := ⟨258, Tryz.f258, Tryz.f258.body.getD .skip, Tryz.func258, by kernel_rfl, by kernel_rfl, Loops.no _ _⟩
noncomputable def Tb258 : Tb Tryz.prog := { T := [Y2, Y27], mix := mix, Es := [E_impl_DivI, E_impl_Integer], Bs := [], d := 1 }
noncomputable def t_impl_over (a0 : Iv) (a1 : I64) : Tr (Iv) :=
  .leaf (F_impl_DivI a0 (F_impl_Integer a1))
theorem r_impl_over (a0 : Iv) (a1 : I64) : Tb258.run B258 [enc a0, enc a1] (Iv) = (t_impl_over a0 a1).opt := by kernel_rfl
noncomputable def F_impl_over : Iv → I64 → Iv := fun a0 a1 => (t_impl_over a0 a1).get
theorem u_impl_over (a0 : Iv) (a1 : I64) : (t_impl_over a0 a1).opt = some (F_impl_over a0 a1) := Tr.tot_get (by kernel_rfl)
noncomputable def E_impl_over : Ent Tryz.prog := .of2 Tb258 B258 (fun _ _ => true) F_impl_over fun a0 a1 _ => (r_impl_over a0 a1).trans (u_impl_over a0 a1)
noncomputable def B143 : Bod Tryz.prog := ⟨143, Tryz.f143, Tryz.f143.body.getD .skip, Tryz.func143, by kernel_rfl, by kernel_rfl, Loops.no _ _⟩
noncomputable def Tb143 : Tb Tryz.prog := { T := [Y2, Y27], mix := mix, Es := [E_spec_l04Ok, E_spec_l04Whole, E_spec_l04Make], Bs := [], d := 1 }
noncomputable def t_spec_HalfI (a0 : Iv) : Tr (Iv) :=
  .br (!(F_spec_l04Ok a0)) (.leaf F_spec_l04Whole) (.leaf (F_spec_l04Make (Rng.w .i64 (a0.lo.val.fdiv 2)) (Rng.w .i64 ((Rng.w .i64 (a0.hi.val + 1)).val.fdiv 2))))
theorem r_spec_HalfI (a0 : Iv) : Tb143.run B143 [enc a0] (Iv) = (t_spec_HalfI a0).opt := by kernel_rfl
noncomputable def F_spec_HalfI : Iv → Iv := fun a0 => (t_spec_HalfI a0).get
theorem u_spec_HalfI (a0 : Iv) : (t_spec_HalfI a0).opt = some (F_spec_HalfI a0) := Tr.tot_get (by kernel_rfl)
noncomputable def E_spec_HalfI : Ent Tryz.prog := .of1 Tb143 B143 (fun _ => true) F_spec_HalfI fun a0 _ => (r_spec_HalfI a0).trans (u_spec_HalfI a0)
noncomputable def B146 : Bod Tryz.prog := ⟨146, Tryz.f146, Tryz.f146.body.getD .skip, Tryz.func146, by kernel_rfl, by kernel_rfl, Loops.no _ _⟩
noncomputable def Tb146 : Tb Tryz.prog := { T := [Y2, Y27], mix := mix, Es := [E_impl_Whole, E_impl_IsWhole], Bs := [], d := 1 }
noncomputable def t_impl_HalfI (a0 : Iv) : Tr (Iv) :=
  .br (F_impl_IsWhole a0) (.leaf F_impl_Whole) (.leaf ⟨(Rng.w .i64 (a0.lo.val.fdiv 2)), (Rng.w .i64 ((Rng.w .i64 (a0.hi.val + 1)).val.fdiv 2))⟩)
theorem r_impl_HalfI (a0 : Iv) : Tb146.run B146 [enc a0] (Iv) = (t_impl_HalfI a0).opt := by kernel_rfl
noncomputable def F_impl_HalfI : Iv → Iv := fun a0 => (t_impl_HalfI a0).get
theorem u_impl_HalfI (a0 : Iv) : (t_impl_HalfI a0).opt = some (F_impl_HalfI a0) := Tr.tot_get (by kernel_rfl)
noncomputable def E_impl_HalfI : Ent Tryz.prog := .of1 Tb146 B146 (fun _ => true) F_impl_HalfI fun a0 _ => (r_impl_HalfI a0).trans (u_impl_HalfI a0)
noncomputable def B111 : Bod Tryz.prog := ⟨111, Tryz.f111, Tryz.f111.body.getD .skip, Tryz.func111, by kernel_rfl, by kernel_rfl, Loops.no _ _⟩
noncomputable def Tb111 : Tb Tryz.prog := { T := [Y2, Y27], mix := mix, Es := [E_impl_circleValue], Bs := [], d := 1 }
noncomputable def t_impl_SinAt (a0 : I64) : Tr (Iv) :=
  .leaf (F_impl_circleValue a0 ⟨0, rfl⟩)
theorem r_impl_SinAt (a0 : I64) : Tb111.run B111 [enc a0] (Iv) = (t_impl_SinAt a0).opt := by kernel_rfl
noncomputable def F_impl_SinAt : I64 → Iv := fun a0 => (t_impl_SinAt a0).get
theorem u_impl_SinAt (a0 : I64) : (t_impl_SinAt a0).opt = some (F_impl_SinAt a0) := Tr.tot_get (by kernel_rfl)
noncomputable def E_impl_SinAt : Ent Tryz.prog := .of1 Tb111 B111 (fun _ => true) F_impl_SinAt fun a0 _ => (r_impl_SinAt a0).trans (u_impl_SinAt a0)
noncomputable def B112 : Bod Tryz.prog := ⟨112, Tryz.f112, Tryz.f112.body.getD .skip, Tryz.func112, by kernel_rfl, by kernel_rfl, Loops.no _ _⟩
noncomputable def Tb112 : Tb Tryz.prog := { T := [Y2, Y27], mix := mix, Es := [E_impl_circleValue], Bs := [], d := 1 }
noncomputable def t_impl_CosAt (a0 : I64) : Tr (Iv) :=
  .leaf (F_impl_circleValue a0 ⟨1, rfl⟩)
theorem r_impl_CosAt (a0 : I64) : Tb112.run B112 [enc a0] (Iv) = (t_impl_CosAt a0).opt := by kernel_rfl
noncomputable def F_impl_CosAt : I64 → Iv := fun a0 => (t_impl_CosAt a0).get
theorem u_impl_CosAt (a0 : I64) : (t_impl_CosAt a0).opt = some (F_impl_CosAt a0) := Tr.tot_get (by kernel_rfl)
noncomputable def E_impl_CosAt : Ent Tryz.prog := .of1 Tb112 B112 (fun _ => true) F_impl_CosAt fun a0 _ => (r_impl_CosAt a0).trans (u_impl_CosAt a0)
noncomputable def B179 : Bod Tryz.prog := ⟨179, Tryz.f179, Tryz.f179.body.getD .skip, Tryz.func179, by kernel_rfl, by kernel_rfl, Loops.no _ _⟩
noncomputable def Tb179 : Tb Tryz.prog := { T := [Y2, Y27], mix := mix, Es := [E_spec_l06At], Bs := [], d := 1 }
noncomputable def t_spec_SinAt (a0 : I64) : Tr (Iv) :=
  .leaf (F_spec_l06At a0 ⟨0, rfl⟩)
theorem r_spec_SinAt (a0 : I64) : Tb179.run B179 [enc a0] (Iv) = (t_spec_SinAt a0).opt := by kernel_rfl
noncomputable def F_spec_SinAt : I64 → Iv := fun a0 => (t_spec_SinAt a0).get
theorem u_spec_SinAt (a0 : I64) : (t_spec_SinAt a0).opt = some (F_spec_SinAt a0) := Tr.tot_get (by kernel_rfl)
noncomputable def E_spec_SinAt : Ent Tryz.prog := .of1 Tb179 B179 (fun _ => true) F_spec_SinAt fun a0 _ => (r_spec_SinAt a0).trans (u_spec_SinAt a0)
noncomputable def B180 : Bod Tryz.prog := ⟨180, Tryz.f180, Tryz.f180.body.getD .skip, Tryz.func180, by kernel_rfl, by kernel_rfl, Loops.no _ _⟩
noncomputable def Tb180 : Tb Tryz.prog := { T := [Y2, Y27], mix := mix, Es := [E_spec_l06At], Bs := [], d := 1 }
noncomputable def t_spec_CosAt (a0 : I64) : Tr (Iv) :=
  .leaf (F_spec_l06At a0 ⟨1, rfl⟩)
theorem r_spec_CosAt (a0 : I64) : Tb180.run B180 [enc a0] (Iv) = (t_spec_CosAt a0).opt := by kernel_rfl
noncomputable def F_spec_CosAt : I64 → Iv := fun a0 => (t_spec_CosAt a0).get
theorem u_spec_CosAt (a0 : I64) : (t_spec_CosAt a0).opt = some (F_spec_CosAt a0) := Tr.tot_get (by kernel_rfl)
noncomputable def E_spec_CosAt : Ent Tryz.prog := .of1 Tb180 B180 (fun _ => true) F_spec_CosAt fun a0 _ => (r_spec_CosAt a0).trans (u_spec_CosAt a0)
noncomputable def Y49 : TyE Tryz.prog := ⟨49, 3, (.struct [(0, 2, 1), (1, 2, 1), (2, 2, 1)]), [.i64 ⟨0, rfl⟩, .i64 ⟨0, rfl⟩, .i64 ⟨0, rfl⟩], true, by kernel_rfl, by kernel_rfl, by kernel_rfl, by kernel_rfl, by kernel_rfl, by kernel_rfl⟩
noncomputable def B107 : Bod Tryz.prog := ⟨107, Tryz.f107, Tryz.f107.body.getD .skip, Tryz.func107, by kernel_rfl, by kernel_rfl, Loops.no _ _⟩
noncomputable def Tb107 : Tb Tryz.prog := { T := [Y2, Y49], mix := mix, Es := [E_impl_within], Bs := [], d := 1 }
noncomputable def t_impl_ValidEllipsoid (a0 : Ell) : Tr (Bool) :=
  .br (F_impl_within a0.a ⟨1000, rfl⟩ ⟨100000000000, rfl⟩) (.br (F_impl_within a0.den ⟨1, rfl⟩ ⟨1000000000000, rfl⟩) (.leaf (F_impl_within a0.num ⟨0, rfl⟩ (Rng.w .i64 (a0.den.val.tdiv 100)))) (.leaf false)) (.leaf false)
theorem r_impl_ValidEllipsoid (a0 : Ell) : Tb107.run B107 [enc a0] (Bool) = (t_impl_ValidEllipsoid a0).opt := by kernel_rfl
noncomputable def F_impl_ValidEllipsoid : Ell → Bool := fun a0 => (t_impl_ValidEllipsoid a0).get
theorem u_impl_ValidEllipsoid (a0 : Ell) : (t_impl_ValidEllipsoid a0).opt = some (F_impl_ValidEllipsoid a0) := Tr.tot_get (by kernel_rfl)
noncomputable def E_impl_ValidEllipsoid : Ent Tryz.prog := .of1 Tb107 B107 (fun _ => true) F_impl_ValidEllipsoid fun a0 _ => (r_impl_ValidEllipsoid a0).trans (u_impl_ValidEllipsoid a0)
noncomputable def B236 : Bod Tryz.prog := ⟨236, Tryz.f236, Tryz.f236.body.getD .skip, Tryz.func236, by kernel_rfl, by kernel_rfl, Loops.no _ _⟩
noncomputable def B237 : Bod Tryz.prog := ⟨237, Tryz.f237, Tryz.f237.body.getD .skip, Tryz.func237, by kernel_rfl, by kernel_rfl, Loops.no _ _⟩
noncomputable def B115 : Bod Tryz.prog := ⟨115, Tryz.f115, Tryz.f115.body.getD .skip, Tryz.func115, by kernel_rfl, by kernel_rfl, Loops.no _ _⟩
noncomputable def Tb115 : Tb Tryz.prog := { T := [Y2, Y27, Y49], mix := mix, Es := [ET_impl_Quotient, E_impl_ValidEllipsoid, E_impl_Whole], Bs := [B236, B237], d := 8 }
noncomputable def t_impl_FlatteningI (a0 : Ell) : Tr (Iv) :=
  .br (!(F_impl_ValidEllipsoid a0)) (.leaf F_impl_Whole) (.leaf (F_impl_Quotient a0.num a0.den))
theorem r_impl_FlatteningI (a0 : Ell) : Tb115.run B115 [enc a0] (Iv) = (t_impl_FlatteningI a0).opt := by kernel_rfl
noncomputable def F_impl_FlatteningI : Ell → Iv := fun a0 => (t_impl_FlatteningI a0).get
theorem u_impl_FlatteningI (a0 : Ell) : (t_impl_FlatteningI a0).opt = some (F_impl_FlatteningI a0) := Tr.tot_get (by kernel_rfl)
noncomputable def E_impl_FlatteningI : Ent Tryz.prog := .of1 Tb115 B115 (fun _ => true) F_impl_FlatteningI fun a0 _ => (r_impl_FlatteningI a0).trans (u_impl_FlatteningI a0)
noncomputable def B116 : Bod Tryz.prog := ⟨116, Tryz.f116, Tryz.f116.body.getD .skip, Tryz.func116, by kernel_rfl, by kernel_rfl, Loops.no _ _⟩
noncomputable def Tb116 : Tb Tryz.prog := { T := [Y2, Y27, Y49], mix := mix, Es := [ET_impl_MulI, E_impl_FlatteningI, E_impl_Integer, E_impl_SubI], Bs := [], d := 1 }
noncomputable def t_impl_EccI (a0 : Ell) : Tr (Iv) :=
  let c1 := F_impl_FlatteningI a0; .leaf (F_impl_MulI c1 (F_impl_SubI (F_impl_Integer ⟨2, rfl⟩) c1))
theorem r_impl_EccI (a0 : Ell) : Tb116.run B116 [enc a0] (Iv) = (t_impl_EccI a0).opt := by kernel_rfl
noncomputable def F_impl_EccI : Ell → Iv := fun a0 => (t_impl_EccI a0).get
theorem u_impl_EccI (a0 : Ell) : (t_impl_EccI a0).opt = some (F_impl_EccI a0) := Tr.tot_get (by kernel_rfl)
noncomputable def E_impl_EccI : Ent Tryz.prog := .of1 Tb116 B116 (fun _ => true) F_impl_EccI fun a0 _ => (r_impl_EccI a0).trans (u_impl_EccI a0)
noncomputable def B114 : Bod Tryz.prog := ⟨114, Tryz.f114, Tryz.f114.body.getD .skip, Tryz.func114, by kernel_rfl, by kernel_rfl, Loops.no _ _⟩
noncomputable def Tb114 : Tb Tryz.prog := { T := [Y2, Y27], mix := mix, Es := [E_impl_Integer, E_impl_SubI], Bs := [], d := 1 }
noncomputable def t_impl_oneLess (a0 : Iv) : Tr (Iv) :=
  .leaf (F_impl_SubI (F_impl_Integer ⟨1, rfl⟩) a0)
theorem r_impl_oneLess (a0 : Iv) : Tb114.run B114 [enc a0] (Iv) = (t_impl_oneLess a0).opt := by kernel_rfl
noncomputable def F_impl_oneLess : Iv → Iv := fun a0 => (t_impl_oneLess a0).get
theorem u_impl_oneLess (a0 : Iv) : (t_impl_oneLess a0).opt = some (F_impl_oneLess a0) := Tr.tot_get (by kernel_rfl)
noncomputable def E_impl_oneLess : Ent Tryz.prog := .of1 Tb114 B114 (fun _ => true) F_impl_oneLess fun a0 _ => (r_impl_oneLess a0).trans (u_impl_oneLess a0)
noncomputable def B239 : Bod Tryz.prog := ⟨239, Tryz.f239, Tryz.f239.body.getD .skip, Tryz.func239, by kernel_rfl, by kernel_rfl, Loops.no _ _⟩
noncomputable def Tb239 : Tb Tryz.prog := { T := [Y2, Y27, Y49], mix := mix, Es := [ET_impl_MulI, E_impl_oneLess, E_impl_EccI, ET_impl_SqrI], Bs := [], d := 1 }
noncomputable def t_impl_weightOf (a0 : Ell) (a1 : Iv) : Tr (Iv) :=
  .leaf (F_impl_oneLess (F_impl_MulI (F_impl_EccI a0) (F_impl_SqrI a1)))
theorem r_impl_weightOf (a0 : Ell) (a1 : Iv) : Tb239.run B239 [enc a0, enc a1] (Iv) = (t_impl_weightOf a0 a1).opt := by kernel_rfl
noncomputable def F_impl_weightOf : Ell → Iv → Iv := fun a0 a1 => (t_impl_weightOf a0 a1).get
theorem u_impl_weightOf (a0 : Ell) (a1 : Iv) : (t_impl_weightOf a0 a1).opt = some (F_impl_weightOf a0 a1) := Tr.tot_get (by kernel_rfl)
noncomputable def E_impl_weightOf : Ent Tryz.prog := .of2 Tb239 B239 (fun _ _ => true) F_impl_weightOf fun a0 a1 _ => (r_impl_weightOf a0 a1).trans (u_impl_weightOf a0 a1)
noncomputable def B101 : Bod Tryz.prog := ⟨101, Tryz.f101, Tryz.f101.body.getD .skip, Tryz.func101, by kernel_rfl, by kernel_rfl, Loops.no _ _⟩
noncomputable def Tb101 : Tb Tryz.prog := { T := [Y2, Y49], mix := mix, Es := [E_spec_l00In], Bs := [], d := 1 }
noncomputable def t_spec_l12Ok (a0 : Ell) : Tr (Bool) :=
  .br (F_spec_l00In a0.a ⟨1000, rfl⟩ ⟨100000000000, rfl⟩) (.br (F_spec_l00In a0.den ⟨1, rfl⟩ ⟨1000000000000, rfl⟩) (.br (decide (a0.num.val ≥ 0)) (.leaf (decide (a0.num.val ≤ (Rng.w .i64 (a0.den.val.tdiv 100)).val))) (.leaf false)) (.leaf false)) (.leaf false)
theorem r_spec_l12Ok (a0 : Ell) : Tb101.run B101 [enc a0] (Bool) = (t_spec_l12Ok a0).opt := by kernel_rfl
noncomputable def F_spec_l12Ok : Ell → Bool := fun a0 => (t_spec_l12Ok a0).get
theorem u_spec_l12Ok (a0 : Ell) : (t_spec_l12Ok a0).opt = some (F_spec_l12Ok a0) := Tr.tot_get (by kernel_rfl)
noncomputable def E_spec_l12Ok : Ent Tryz.prog := .of1 Tb101 B101 (fun _ => true) F_spec_l12Ok fun a0 _ => (r_spec_l12Ok a0).trans (u_spec_l12Ok a0)
noncomputable def B245 : Bod Tryz.prog := ⟨245, Tryz.f245, Tryz.f245.body.getD .skip, Tryz.func245, by kernel_rfl, by kernel_rfl, Loops.no _ _⟩
noncomputable def Tb245 : Tb Tryz.prog := { T := [Y2, Y27, Y49], mix := mix, Es := [ET_spec_Quotient, E_spec_l12Ok, E_spec_l04Whole], Bs := [], d := 1 }
noncomputable def t_spec_MajorI (a0 : Ell) : Tr (Iv) :=
  .br (!(F_spec_l12Ok a0)) (.leaf F_spec_l04Whole) (.leaf (F_spec_Quotient a0.a ⟨1000, rfl⟩))
theorem r_spec_MajorI (a0 : Ell) : Tb245.run B245 [enc a0] (Iv) = (t_spec_MajorI a0).opt := by kernel_rfl
noncomputable def F_spec_MajorI : Ell → Iv := fun a0 => (t_spec_MajorI a0).get
theorem u_spec_MajorI (a0 : Ell) : (t_spec_MajorI a0).opt = some (F_spec_MajorI a0) := Tr.tot_get (by kernel_rfl)
noncomputable def E_spec_MajorI : Ent Tryz.prog := .of1 Tb245 B245 (fun _ => true) F_spec_MajorI fun a0 _ => (r_spec_MajorI a0).trans (u_spec_MajorI a0)
noncomputable def B315 : Bod Tryz.prog := ⟨315, Tryz.f315, Tryz.f315.body.getD .skip, Tryz.func315, by kernel_rfl, by kernel_rfl, Loops.no _ _⟩
noncomputable def B254 : Bod Tryz.prog := ⟨254, Tryz.f254, Tryz.f254.body.getD .skip, Tryz.func254, by kernel_rfl, by kernel_rfl, Loops.no _ _⟩
noncomputable def Tb254 : Tb Tryz.prog := { T := [Y2, Y27, Y49], mix := mix, Es := [ET_impl_Quotient, E_impl_ValidEllipsoid, E_impl_Whole], Bs := [B236, B315], d := 8 }
noncomputable def t_impl_MajorI (a0 : Ell) : Tr (Iv) :=
  .br (!(F_impl_ValidEllipsoid a0)) (.leaf F_impl_Whole) (.leaf (F_impl_Quotient a0.a ⟨1000, rfl⟩))
theorem r_impl_MajorI (a0 : Ell) : Tb254.run B254 [enc a0] (Iv) = (t_impl_MajorI a0).opt := by kernel_rfl
noncomputable def F_impl_MajorI : Ell → Iv := fun a0 => (t_impl_MajorI a0).get
theorem u_impl_MajorI (a0 : Ell) : (t_impl_MajorI a0).opt = some (F_impl_MajorI a0) := Tr.tot_get (by kernel_rfl)
noncomputable def E_impl_MajorI : Ent Tryz.prog := .of1 Tb254 B254 (fun _ => true) F_impl_MajorI fun a0 _ => (r_impl_MajorI a0).trans (u_impl_MajorI a0)
noncomputable def B252 : Bod Tryz.prog := ⟨252, Tryz.f252, Tryz.f252.body.getD .skip, Tryz.func252, by kernel_rfl, by kernel_rfl, Loops.no _ _⟩
noncomputable def Tb252 : Tb Tryz.prog := { T := [Y2, Y27, Y49], mix := mix, Es := [E_spec_MulI, ET_spec_Quotient, E_spec_l12Ok, E_spec_l04Whole, E_spec_MajorI], Bs := [], d := 1 }
noncomputable def t_spec_MinorI (a0 : Ell) : Tr (Iv) :=
  .br (!(F_spec_l12Ok a0)) (.leaf F_spec_l04Whole) (.leaf (F_spec_MulI (F_spec_MajorI a0) (F_spec_Quotient (Rng.w .i64 (a0.den.val - a0.num.val)) a0.den)))
theorem r_spec_MinorI (a0 : Ell) : Tb252.run B252 [enc a0] (Iv) = (t_spec_MinorI a0).opt := by kernel_rfl
noncomputable def F_spec_MinorI : Ell → Iv := fun a0 => (t_spec_MinorI a0).get
theorem u_spec_MinorI (a0 : Ell) : (t_spec_MinorI a0).opt = some (F_spec_MinorI a0) := Tr.tot_get (by kernel_rfl)
noncomputable def E_spec_MinorI : Ent Tryz.prog := .of1 Tb252 B252 (fun _ => true) F_spec_MinorI fun a0 _ => (r_spec_MinorI a0).trans (u_spec_MinorI a0)
noncomputable def B314 : Bod Tryz.prog := ⟨314, Tryz.f314, Tryz.f314.body.getD .skip, Tryz.func314, by kernel_rfl, by kernel_rfl, Loops.no _ _⟩
noncomputable def B253 : Bod Tryz.prog := ⟨253, Tryz.f253, Tryz.f253.body.getD .skip, Tryz.func253, by kernel_rfl, by kernel_rfl, Loops.no _ _⟩
noncomputable def Tb253 : Tb Tryz.prog := { T := [Y2, Y27, Y49], mix := mix, Es := [ET_impl_MulI, ET_impl_Quotient, E_impl_ValidEllipsoid, E_impl_Whole, E_impl_MajorI], Bs := [B236, B314], d := 8 }
noncomputable def t_impl_MinorI (a0 : Ell) : Tr (Iv) :=
  .br (!(F_impl_ValidEllipsoid a0)) (.leaf F_impl_Whole) (.leaf (F_impl_MulI (F_impl_MajorI a0) (F_impl_Quotient (Rng.w .i64 (a0.den.val - a0.num.val)) a0.den)))
theorem r_impl_MinorI (a0 : Ell) : Tb253.run B253 [enc a0] (Iv) = (t_impl_MinorI a0).opt := by kernel_rfl
noncomputable def F_impl_MinorI : Ell → Iv := fun a0 => (t_impl_MinorI a0).get
theorem u_impl_MinorI (a0 : Ell) : (t_impl_MinorI a0).opt = some (F_impl_MinorI a0) := Tr.tot_get (by kernel_rfl)
noncomputable def E_impl_MinorI : Ent Tryz.prog := .of1 Tb253 B253 (fun _ => true) F_impl_MinorI fun a0 _ => (r_impl_MinorI a0).trans (u_impl_MinorI a0)
noncomputable def B228 : Bod Tryz.prog := ⟨228, Tryz.f228, Tryz.f228.body.getD .skip, Tryz.func228, by kernel_rfl, by kernel_rfl, Loops.no _ _⟩
noncomputable def Tb228 : Tb Tryz.prog := { T := [Y2, Y27, Y49], mix := mix, Es := [ET_spec_Quotient, E_spec_l12Ok, E_spec_l04Whole], Bs := [], d := 1 }
noncomputable def t_spec_FlatteningI (a0 : Ell) : Tr (Iv) :=
  .br (!(F_spec_l12Ok a0)) (.leaf F_spec_l04Whole) (.leaf (F_spec_Quotient a0.num a0.den))
theorem r_spec_FlatteningI (a0 : Ell) : Tb228.run B228 [enc a0] (Iv) = (t_spec_FlatteningI a0).opt := by kernel_rfl
noncomputable def F_spec_FlatteningI : Ell → Iv := fun a0 => (t_spec_FlatteningI a0).get
theorem u_spec_FlatteningI (a0 : Ell) : (t_spec_FlatteningI a0).opt = some (F_spec_FlatteningI a0) := Tr.tot_get (by kernel_rfl)
noncomputable def E_spec_FlatteningI : Ent Tryz.prog := .of1 Tb228 B228 (fun _ => true) F_spec_FlatteningI fun a0 _ => (r_spec_FlatteningI a0).trans (u_spec_FlatteningI a0)
noncomputable def B229 : Bod Tryz.prog := ⟨229, Tryz.f229, Tryz.f229.body.getD .skip, Tryz.func229, by kernel_rfl, by kernel_rfl, Loops.no _ _⟩
noncomputable def Tb229 : Tb Tryz.prog := { T := [Y2, Y27, Y49], mix := mix, Es := [E_spec_MulI, E_spec_Integer, E_spec_SubI, E_spec_FlatteningI], Bs := [], d := 1 }
noncomputable def t_spec_EccI (a0 : Ell) : Tr (Iv) :=
  let c1 := F_spec_FlatteningI a0; .leaf (F_spec_MulI c1 (F_spec_SubI (F_spec_Integer ⟨2, rfl⟩) c1))
theorem r_spec_EccI (a0 : Ell) : Tb229.run B229 [enc a0] (Iv) = (t_spec_EccI a0).opt := by kernel_rfl
noncomputable def F_spec_EccI : Ell → Iv := fun a0 => (t_spec_EccI a0).get
theorem u_spec_EccI (a0 : Ell) : (t_spec_EccI a0).opt = some (F_spec_EccI a0) := Tr.tot_get (by kernel_rfl)
noncomputable def E_spec_EccI : Ent Tryz.prog := .of1 Tb229 B229 (fun _ => true) F_spec_EccI fun a0 _ => (r_spec_EccI a0).trans (u_spec_EccI a0)
noncomputable def B246 : Bod Tryz.prog := ⟨246, Tryz.f246, Tryz.f246.body.getD .skip, Tryz.func246, by kernel_rfl, by kernel_rfl, Loops.no _ _⟩
noncomputable def Tb246 : Tb Tryz.prog := { T := [Y34], mix := mix, Es := [E_impl_ValidPoint], Bs := [], d := 1 }
noncomputable def t_impl_areValid (a0 : Point) (a1 : Point) : Tr (Bool) :=
  .br (F_impl_ValidPoint a0) (.leaf (F_impl_ValidPoint a1)) (.leaf false)
theorem r_impl_areValid (a0 : Point) (a1 : Point) : Tb246.run B246 [enc a0, enc a1] (Bool) = (t_impl_areValid a0 a1).opt := by kernel_rfl
noncomputable def F_impl_areValid : Point → Point → Bool := fun a0 a1 => (t_impl_areValid a0 a1).get
theorem u_impl_areValid (a0 : Point) (a1 : Point) : (t_impl_areValid a0 a1).opt = some (F_impl_areValid a0 a1) := Tr.tot_get (by kernel_rfl)
noncomputable def E_impl_areValid : Ent Tryz.prog := .of2 Tb246 B246 (fun _ _ => true) F_impl_areValid fun a0 a1 _ => (r_impl_areValid a0 a1).trans (u_impl_areValid a0 a1)
noncomputable def B76 : Bod Tryz.prog := ⟨76, Tryz.f76, Tryz.f76.body.getD .skip, Tryz.func76, by kernel_rfl, by kernel_rfl, Loops.no _ _⟩
noncomputable def Tb76 : Tb Tryz.prog := { T := [Y2, Y27, Y34], mix := mix, Es := [E_impl_ValidPoint, ET_impl_RadiansOf, E_impl_Whole], Bs := [], d := 1 }
noncomputable def t_impl_LatOf (a0 : Point) : Tr (Iv) :=
  .br (!(F_impl_ValidPoint a0)) (.leaf F_impl_Whole) (.leaf (F_impl_RadiansOf a0.lat))
theorem r_impl_LatOf (a0 : Point) : Tb76.run B76 [enc a0] (Iv) = (t_impl_LatOf a0).opt := by kernel_rfl
noncomputable def F_impl_LatOf : Point → Iv := fun a0 => (t_impl_LatOf a0).get
theorem u_impl_LatOf (a0 : Point) : (t_impl_LatOf a0).opt = some (F_impl_LatOf a0) := Tr.tot_get (by kernel_rfl)
noncomputable def E_impl_LatOf : Ent Tryz.prog := .of1 Tb76 B76 (fun _ => true) F_impl_LatOf fun a0 _ => (r_impl_LatOf a0).trans (u_impl_LatOf a0)
noncomputable def B61 : Bod Tryz.prog := ⟨61, Tryz.f61, Tryz.f61.body.getD .skip, Tryz.func61, by kernel_rfl, by kernel_rfl, Loops.no _ _⟩
noncomputable def Tb61 : Tb Tryz.prog := { T := [Y2, Y27, Y34], mix := mix, Es := [E_spec_l11Ok, ET_spec_RadiansOf, E_spec_Whole], Bs := [], d := 1 }
noncomputable def t_spec_LatOf (a0 : Point) : Tr (Iv) :=
  .br (!(F_spec_l11Ok a0)) (.leaf F_spec_Whole) (.leaf (F_spec_RadiansOf a0.lat))
theorem r_spec_LatOf (a0 : Point) : Tb61.run B61 [enc a0] (Iv) = (t_spec_LatOf a0).opt := by kernel_rfl
noncomputable def F_spec_LatOf : Point → Iv := fun a0 => (t_spec_LatOf a0).get
theorem u_spec_LatOf (a0 : Point) : (t_spec_LatOf a0).opt = some (F_spec_LatOf a0) := Tr.tot_get (by kernel_rfl)
noncomputable def E_spec_LatOf : Ent Tryz.prog := .of1 Tb61 B61 (fun _ => true) F_spec_LatOf fun a0 _ => (r_spec_LatOf a0).trans (u_spec_LatOf a0)
noncomputable def B86 : Bod Tryz.prog := ⟨86, Tryz.f86, Tryz.f86.body.getD .skip, Tryz.func86, by kernel_rfl, by kernel_rfl, Loops.no _ _⟩
noncomputable def Tb86 : Tb Tryz.prog := { T := [Y2, Y34], mix := mix, Es := [E_impl_abs], Bs := [], d := 1 }
noncomputable def t_impl_isPole (a0 : Point) : Tr (Bool) :=
  .leaf ((F_impl_abs a0.lat).val == 900000000)
theorem r_impl_isPole (a0 : Point) : Tb86.run B86 [enc a0] (Bool) = (t_impl_isPole a0).opt := by kernel_rfl
noncomputable def F_impl_isPole : Point → Bool := fun a0 => (t_impl_isPole a0).get
theorem u_impl_isPole (a0 : Point) : (t_impl_isPole a0).opt = some (F_impl_isPole a0) := Tr.tot_get (by kernel_rfl)
noncomputable def E_impl_isPole : Ent Tryz.prog := .of1 Tb86 B86 (fun _ => true) F_impl_isPole fun a0 _ => (r_impl_isPole a0).trans (u_impl_isPole a0)
noncomputable def B60 : Bod Tryz.prog := ⟨60, Tryz.f60, Tryz.f60.body.getD .skip, Tryz.func60, by kernel_rfl, by kernel_rfl, Loops.no _ _⟩
noncomputable def Tb60 : Tb Tryz.prog := { T := [Y2, Y34], mix := mix, Es := [], Bs := [], d := 1 }
noncomputable def t_spec_l11Pole (a0 : Point) : Tr (Bool) :=
  .br (a0.lat.val == 900000000) (.leaf true) (.leaf (a0.lat.val == (-900000000)))
theorem r_spec_l11Pole (a0 : Point) : Tb60.run B60 [enc a0] (Bool) = (t_spec_l11Pole a0).opt := by kernel_rfl
noncomputable def F_spec_l11Pole : Point → Bool := fun a0 => (t_spec_l11Pole a0).get
theorem u_spec_l11Pole (a0 : Point) : (t_spec_l11Pole a0).opt = some (F_spec_l11Pole a0) := Tr.tot_get (by kernel_rfl)
noncomputable def E_spec_l11Pole : Ent Tryz.prog := .of1 Tb60 B60 (fun _ => true) F_spec_l11Pole fun a0 _ => (r_spec_l11Pole a0).trans (u_spec_l11Pole a0)
noncomputable def B123 : Bod Tryz.prog := ⟨123, Tryz.f123, Tryz.f123.body.getD .skip, Tryz.func123, by kernel_rfl, by kernel_rfl, Loops.no _ _⟩
noncomputable def Tb123 : Tb Tryz.prog := { T := [Y2, Y27], mix := mix, Es := [E_spec_l04Ok, E_spec_l04Whole, E_spec_l04Make], Bs := [], d := 1 }
noncomputable def t_spec_l08Ends (a0 : Iv) (a1 : Iv) : Tr (Iv) :=
  .br (!(F_spec_l04Ok a0)) (.leaf F_spec_l04Whole) (.br (!(F_spec_l04Ok a1)) (.leaf F_spec_l04Whole) (.leaf (F_spec_l04Make a0.lo a1.hi)))
theorem r_spec_l08Ends (a0 : Iv) (a1 : Iv) : Tb123.run B123 [enc a0, enc a1] (Iv) = (t_spec_l08Ends a0 a1).opt := by kernel_rfl
noncomputable def F_spec_l08Ends : Iv → Iv → Iv := fun a0 a1 => (t_spec_l08Ends a0 a1).get
theorem u_spec_l08Ends (a0 : Iv) (a1 : Iv) : (t_spec_l08Ends a0 a1).opt = some (F_spec_l08Ends a0 a1) := Tr.tot_get (by kernel_rfl)
noncomputable def E_spec_l08Ends : Ent Tryz.prog := .of2 Tb123 B123 (fun _ _ => true) F_spec_l08Ends fun a0 a1 _ => (r_spec_l08Ends a0 a1).trans (u_spec_l08Ends a0 a1)
noncomputable def B271 : Bod Tryz.prog := ⟨271, Tryz.f271, Tryz.f271.body.getD .skip, Tryz.func271, by kernel_rfl, by kernel_rfl, Loops.no _ _⟩
noncomputable def Tb271 : Tb Tryz.prog := { T := [Y2, Y27], mix := mix, Es := [E_spec_l04Ok, E_spec_l04Whole, E_spec_l08Ends, ET_spec_LogAt], Bs := [], d := 1 }
noncomputable def t_spec_LogI (a0 : Iv) : Tr (Iv) :=
  .br (!(F_spec_l04Ok a0)) (.leaf F_spec_l04Whole) (.leaf (F_spec_l08Ends (F_spec_LogAt a0.lo) (F_spec_LogAt a0.hi)))
theorem r_spec_LogI (a0 : Iv) : Tb271.run B271 [enc a0] (Iv) = (t_spec_LogI a0).opt := by kernel_rfl
noncomputable def F_spec_LogI : Iv → Iv := fun a0 => (t_spec_LogI a0).get
theorem u_spec_LogI (a0 : Iv) : (t_spec_LogI a0).opt = some (F_spec_LogI a0) := Tr.tot_get (by kernel_rfl)
noncomputable def E_spec_LogI : Ent Tryz.prog := .of1 Tb271 B271 (fun _ => true) F_spec_LogI fun a0 _ => (r_spec_LogI a0).trans (u_spec_LogI a0)
noncomputable def B124 : Bod Tryz.prog := ⟨124, Tryz.f124, Tryz.f124.body.getD .skip, Tryz.func124, by kernel_rfl, by kernel_rfl, Loops.no _ _⟩
noncomputable def B205 : Bod Tryz.prog := ⟨205, Tryz.f205, Tryz.f205.body.getD .skip, Tryz.func205, by kernel_rfl, by kernel_rfl, Loops.no _ _⟩
noncomputable def Tb205 : Tb Tryz.prog := { T := [Y2, Y27], mix := mix, Es := [E_impl_Whole, E_impl_IsWhole, E_impl_areBounded, E_impl_bounded, ET_impl_LogAt], Bs := [B124], d := 8 }
noncomputable def t_impl_LogI (a0 : Iv) : Tr (Iv) :=
  .br (F_impl_IsWhole a0) (.leaf F_impl_Whole) (let c3 := F_impl_LogAt a0.lo; let c4 := F_impl_LogAt a0.hi; .br (!(F_impl_areBounded c3 c4)) (.leaf F_impl_Whole) (.leaf (F_impl_bounded c3.lo c4.hi true)))
theorem r_impl_LogI (a0 : Iv) : Tb205.run B205 [enc a0] (Iv) = (t_impl_LogI a0).opt := by kernel_rfl
noncomputable def F_impl_LogI : Iv → Iv := fun a0 => (t_impl_LogI a0).get
theorem u_impl_LogI (a0 : Iv) : (t_impl_LogI a0).opt = some (F_impl_LogI a0) := Tr.tot_get (by kernel_rfl)
noncomputable def E_impl_LogI : Ent Tryz.prog := .of1 Tb205 B205 (fun _ => true) F_impl_LogI fun a0 _ => (r_impl_LogI a0).trans (u_impl_LogI a0)
noncomputable def B75 : Bod Tryz.prog := ⟨75, Tryz.f75, Tryz.f75.body.getD .skip, Tryz.func75, by kernel_rfl, by kernel_rfl, Loops.no _ _⟩
noncomputable def Tb75 : Tb Tryz.prog := { T := [Y2, Y27, Y32, Y34], mix := mix, Es := [E_impl_ValidProjection, E_impl_ValidPoint, ET_impl_RadiansOf, E_impl_Whole, E_impl_WrapLon], Bs := [], d := 1 }
noncomputable def t_impl_LonFrom (a0 : Proj) (a1 : Point) : Tr (Iv) :=
  .br (!(F_impl_ValidProjection a0)) (.leaf F_impl_Whole) (.br (!(F_impl_ValidPoint a1)) (.leaf F_impl_Whole) (.leaf (F_impl_RadiansOf (F_impl_WrapLon (Rng.w .i64 (a1.lon.val - a0.lon0.val))))))
theorem r_impl_LonFrom (a0 : Proj) (a1 : Point) : Tb75.run B75 [enc a0, enc a1] (Iv) = (t_impl_LonFrom a0 a1).opt := by kernel_rfl
noncomputable def F_impl_LonFrom : Proj → Point → Iv := fun a0 a1 => (t_impl_LonFrom a0 a1).get
theorem u_impl_LonFrom (a0 : Proj) (a1 : Point) : (t_impl_LonFrom a0 a1).opt = some (F_impl_LonFrom a0 a1) := Tr.tot_get (by kernel_rfl)
noncomputable def E_impl_LonFrom : Ent Tryz.prog := .of2 Tb75 B75 (fun _ _ => true) F_impl_LonFrom fun a0 a1 _ => (r_impl_LonFrom a0 a1).trans (u_impl_LonFrom a0 a1)
noncomputable def B263 : Bod Tryz.prog := ⟨263, Tryz.f263, Tryz.f263.body.getD .skip, Tryz.func263, by kernel_rfl, by kernel_rfl, Loops.no _ _⟩
noncomputable def Tb263 : Tb Tryz.prog := { T := [], mix := mix, Es := [E_spec_l00In], Bs := [], d := 1 }
noncomputable def t_spec_l17Standard (a0 : I64) : Tr (Bool) :=
  .leaf (F_spec_l00In a0 ⟨(-890000000), rfl⟩ ⟨890000000, rfl⟩)
theorem r_spec_l17Standard (a0 : I64) : Tb263.run B263 [enc a0] (Bool) = (t_spec_l17Standard a0).opt := by kernel_rfl
noncomputable def F_spec_l17Standard : I64 → Bool := fun a0 => (t_spec_l17Standard a0).get
theorem u_spec_l17Standard (a0 : I64) : (t_spec_l17Standard a0).opt = some (F_spec_l17Standard a0) := Tr.tot_get (by kernel_rfl)
noncomputable def E_spec_l17Standard : Ent Tryz.prog := .of1 Tb263 B263 (fun _ => true) F_spec_l17Standard fun a0 _ => (r_spec_l17Standard a0).trans (u_spec_l17Standard a0)
noncomputable def B165 : Bod Tryz.prog := ⟨165, Tryz.f165, Tryz.f165.body.getD .skip, Tryz.func165, by kernel_rfl, by kernel_rfl, Loops.no _ _⟩
noncomputable def Tb165 : Tb Tryz.prog := { T := [Y2, Y32, Y34], mix := mix, Es := [E_spec_l11Ok, E_spec_l17Standard], Bs := [], d := 1 }
noncomputable def t_spec_l17Ok (a0 : Proj) : Tr (Bool) :=
  .br (!(F_spec_l11Ok ⟨a0.lat0, a0.lon0⟩)) (.leaf false) (.br (!(F_spec_l17Standard a0.lat1)) (.leaf false) (.br (!(F_spec_l17Standard a0.lat2)) (.leaf false) (.br (a0.kind.val == 1) (.br (a0.lat0.val == 0) (.leaf (a0.lat2.val == 0)) (.leaf false)) (.br (a0.kind.val == 3) (.br (a0.lat0.val == 0) (.leaf (a0.lat2.val == 0)) (.leaf false)) (.br (a0.kind.val == 2) (.br (a0.lat0.val == 0) (.br (a0.lat1.val == 0) (.leaf (a0.lat2.val == 0)) (.leaf false)) (.leaf false)) (.br (a0.kind.val == 4) (.br (a0.lat0.val == 0) (.br (a0.lat1.val == 0) (.leaf (a0.lat2.val == 0)) (.leaf false)) (.leaf false)) (.br (a0.kind.val == 13) (.br (a0.lat0.val == 0) (.br (a0.lat1.val == 0) (.leaf (a0.lat2.val == 0)) (.leaf false)) (.leaf false)) (.br (a0.kind.val == 14) (.br (a0.lat0.val == 0) (.br (a0.lat1.val == 0) (.leaf (a0.lat2.val == 0)) (.leaf false)) (.leaf false)) (.br (a0.kind.val == 15) (.br (a0.lat0.val == 0) (.br (a0.lat1.val == 0) (.leaf (a0.lat2.val == 0)) (.leaf false)) (.leaf false)) (.br (a0.kind.val == 5) (.br (a0.lat1.val == 0) (.leaf (a0.lat2.val == 0)) (.leaf false)) (.br (a0.kind.val == 6) (.br (a0.lat1.val == 0) (.leaf (a0.lat2.val == 0)) (.leaf false)) (.br (a0.kind.val == 7) (.br (a0.lat1.val == 0) (.leaf (a0.lat2.val == 0)) (.leaf false)) (.br (a0.kind.val == 8) (.br (a0.lat1.val == 0) (.leaf (a0.lat2.val == 0)) (.leaf false)) (.br (a0.kind.val == 9) (.br (a0.lat1.val == 0) (.leaf (a0.lat2.val == 0)) (.leaf false)) (.br (a0.kind.val == 16) (.br (a0.lat1.val == 0) (.leaf (a0.lat2.val == 0)) (.leaf false)) (.br (a0.kind.val == 10) (let c4 := (Rng.w .i64 (a0.lat1.val + a0.lat2.val)); .br (decide (c4.val ≥ 10000000)) (.leaf true) (.leaf (decide (c4.val ≤ (-10000000))))) (.br (a0.kind.val == 11) (let c7 := (Rng.w .i64 (a0.lat1.val + a0.lat2.val)); .br (decide (c7.val ≥ 10000000)) (.leaf true) (.leaf (decide (c7.val ≤ (-10000000))))) (.br (a0.kind.val == 12) (let c10 := (Rng.w .i64 (a0.lat1.val + a0.lat2.val)); .br (decide (c10.val ≥ 10000000)) (.leaf true) (.leaf (decide (c10.val ≤ (-10000000))))) (.leaf false)))))))))))))))))))
theorem r_spec_l17Ok (a0 : Proj) : Tb165.run B165 [enc a0] (Bool) = (t_spec_l17Ok a0).opt := by kernel_rfl
noncomputable def F_spec_l17Ok : Proj → Bool := fun a0 => (t_spec_l17Ok a0).get
theorem u_spec_l17Ok (a0 : Proj) : (t_spec_l17Ok a0).opt = some (F_spec_l17Ok a0) := Tr.tot_get (by kernel_rfl)
noncomputable def E_spec_l17Ok : Ent Tryz.prog := .of1 Tb165 B165 (fun _ => true) F_spec_l17Ok fun a0 _ => (r_spec_l17Ok a0).trans (u_spec_l17Ok a0)
end
end Go.Proofs.YtecfhpgpojgjkaaGreat.Ev
