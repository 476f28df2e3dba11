import Derived.Test.YtcfflflcbacapaaGreatW2
import Derived.Test.YtcfflflcbacapaaGreatP8
namespace Go.Proofs.YtcfflflcbacapaaGreat.Ev
open Go Go.RowKit
set_option maxRecDepth 100000
set_option linter.unusedVariables false
section
noncomputable def ET_spec_l02Root : Ent Tryz.prog := .of1 Tb201 B201 (fun _ => true) F_spec_l02Root fun a0 _ => (r_spec_l02Root a0).trans (tt_root_spec a0)
noncomputable def ET_impl_WideSqrt : Ent Tryz.prog := .of1 Tb266 B266 (fun _ => true) F_impl_WideSqrt fun a0 _ => (r_impl_WideSqrt a0).trans (tt_wsqrt_impl a0)
noncomputable def ET_spec_SqrtFloor : Ent Tryz.prog := .of2 Tb267 B267 (fun _ _ => true) F_spec_SqrtFloor fun a0 a1 _ => (r_spec_SqrtFloor a0 a1).trans (tt_sf_spec a0 a1)
noncomputable def ET_impl_SqrtFloor : Ent Tryz.prog := .of2 Tb268 B268 (fun _ _ => true) F_impl_SqrtFloor fun a0 a1 _ => (r_impl_SqrtFloor a0 a1).trans (tt_sf_impl a0 a1)
noncomputable def ET_spec_l03SqrtDown : Ent Tryz.prog := .of1 Tb207 B207 (fun _ => true) F_spec_l03SqrtDown fun a0 _ => (r_spec_l03SqrtDown a0).trans (tt_sd_spec a0)
noncomputable def ET_impl_SqrtDown : Ent Tryz.prog := .of1 Tb215 B215 (fun _ => true) F_impl_SqrtDown fun a0 _ => (r_impl_SqrtDown a0).trans (tt_sd_impl a0)
noncomputable def ET_spec_l03SqrtUp : Ent Tryz.prog := .of1 Tb208 B208 (fun _ => true) F_spec_l03SqrtUp fun a0 _ => (r_spec_l03SqrtUp a0).trans (tt_su_spec a0)
noncomputable def ET_impl_SqrtUp : Ent Tryz.prog := .of1 Tb216 B216 (fun _ => true) F_impl_SqrtUp fun a0 _ => (r_impl_SqrtUp a0).trans (tt_su_impl a0)
noncomputable def ET_spec_SqrtI : Ent Tryz.prog := .of1 Tb114 B114 (fun _ => true) F_spec_SqrtI fun a0 _ => (r_spec_SqrtI a0).trans (tt_sqrtI_spec a0)
noncomputable def ET_impl_SqrtI : Ent Tryz.prog := .of1 Tb121 B121 (fun _ => true) F_impl_SqrtI fun a0 _ => (r_impl_SqrtI a0).trans (tt_sqrtI_impl a0)
noncomputable def ET_impl_MulFloor : Ent Tryz.prog := .of3 Tb252 B252 (fun _ _ _ => true) F_impl_MulFloor fun a0 a1 a2 _ => (r_impl_MulFloor a0 a1 a2).trans (tt_mulfloor a0 a1 a2)
noncomputable def ET_impl_MulDown : Ent Tryz.prog := .of2 Tb186 B186 (fun _ _ => true) F_impl_MulDown fun a0 a1 _ => (r_impl_MulDown a0 a1).trans (tt_muldown a0 a1)
noncomputable def ET_impl_MulUp : Ent Tryz.prog := .of2 Tb187 B187 (fun _ _ => true) F_impl_MulUp fun a0 a1 _ => (r_impl_MulUp a0 a1).trans (tt_mulup a0 a1)
noncomputable def ET_impl_MulI : Ent Tryz.prog := .of2 Tb83 B83 (fun _ _ => true) F_impl_MulI fun a0 a1 _ => (r_impl_MulI a0 a1).trans (tt_mulI a0 a1)
noncomputable def ET_impl_SqrI : Ent Tryz.prog := .of1 Tb129 B129 (fun _ => true) F_impl_SqrI fun a0 _ => (r_impl_SqrI a0).trans (tt_sqrI a0)
noncomputable def B205 : Bod Tryz.prog := ⟨205, Tryz.f205, Tryz.f205.body.getD .skip, Tryz.func205, by kernel_rfl, by kernel_rfl, Loops.no _ _⟩
noncomputable def Tb205_p : Tb Tryz.prog := { T := [Y2, Y27], mix := mix, Es := [E_spec_MulFloor], Bs := [], d := 1 }
noncomputable def t_spec_l05Turn_p (a0 : I64) : Tr (Iv) :=
  .br (a0.val == 0) (.leaf ⟨⟨0, rfl⟩, ⟨0, rfl⟩⟩) (.br (decide (a0.val < 0)) (.bad) (let c2 := F_spec_MulFloor a0 ⟨7244019458077122842, rfl⟩ ⟨30, rfl⟩; .leaf ⟨c2.a, (Rng.w .i64 (c2.a.val + 1))⟩))
theorem r_spec_l05Turn_p (a0 : I64) : Tb205_p.run B205 [enc a0] (Iv) = (t_spec_l05Turn_p a0).opt := by kernel_rfl
noncomputable def F_spec_l05Turn_p : I64 → Iv := fun a0 => (t_spec_l05Turn_p a0).get
noncomputable def G_spec_l05Turn_p : I64 → Bool := fun a0 => (t_spec_l05Turn_p a0).opt.isSome
noncomputable def E_spec_l05Turn_p : Ent Tryz.prog := .of1 Tb205_p B205 G_spec_l05Turn_p F_spec_l05Turn_p fun a0 h => (r_spec_l05Turn_p a0).trans (Tr.get_some h)
noncomputable def Tb205 : Tb Tryz.prog := { T := [Y2, Y27], mix := mix, Es := [E_spec_l05Turn_p, E_spec_MulFloor], Bs := [], d := 1 }
noncomputable def t_spec_l05Turn (a0 : I64) : Tr (Iv) :=
  .br (a0.val == 0) (.leaf ⟨⟨0, rfl⟩, ⟨0, rfl⟩⟩) (.br (decide (a0.val < 0)) (let c1 := (Rng.w .i64 (0 - a0.val)); .br (G_spec_l05Turn_p c1) (let c2 := F_spec_l05Turn_p c1; .leaf ⟨(Rng.w .i64 (0 - c2.hi.val)), (Rng.w .i64 (0 - c2.lo.val))⟩) (.bad)) (let c5 := F_spec_MulFloor a0 ⟨7244019458077122842, rfl⟩ ⟨30, rfl⟩; .leaf ⟨c5.a, (Rng.w .i64 (c5.a.val + 1))⟩))
theorem r_spec_l05Turn (a0 : I64) : Tb205.run B205 [enc a0] (Iv) = (t_spec_l05Turn a0).opt := by kernel_rfl
noncomputable def F_spec_l05Turn : I64 → Iv := fun a0 => (t_spec_l05Turn a0).get
noncomputable def G_spec_l05Turn : I64 → Bool := fun a0 => (t_spec_l05Turn a0).opt.isSome
noncomputable def E_spec_l05Turn : Ent Tryz.prog := .of1 Tb205 B205 G_spec_l05Turn F_spec_l05Turn fun a0 h => (r_spec_l05Turn a0).trans (Tr.get_some h)
noncomputable def B226 : Bod Tryz.prog := ⟨226, Tryz.f226, Tryz.f226.body.getD .skip, Tryz.func226, by kernel_rfl, by kernel_rfl, Loops.no _ _⟩
noncomputable def Tb226 : Tb Tryz.prog := { T := [Y2, Y27], mix := mix, Es := [E_spec_Whole, E_spec_l00In, E_spec_l05Turn], Bs := [], d := 1 }
noncomputable def t_spec_TurnI (a0 : I64) : Tr (Iv) :=
  .br (!(F_spec_l00In a0 ⟨(-4096), rfl⟩ ⟨4096, rfl⟩)) (.leaf F_spec_Whole) (.br (G_spec_l05Turn a0) (.leaf (F_spec_l05Turn a0)) (.bad))
theorem r_spec_TurnI (a0 : I64) : Tb226.run B226 [enc a0] (Iv) = (t_spec_TurnI a0).opt := by kernel_rfl
noncomputable def F_spec_TurnI : I64 → Iv := fun a0 => (t_spec_TurnI a0).get
noncomputable def G_spec_TurnI : I64 → Bool := fun a0 => (t_spec_TurnI a0).opt.isSome
noncomputable def E_spec_TurnI : Ent Tryz.prog := .of1 Tb226 B226 G_spec_TurnI F_spec_TurnI fun a0 h => (r_spec_TurnI a0).trans (Tr.get_some h)
noncomputable def B233 : Bod Tryz.prog := ⟨233, Tryz.f233, Tryz.f233.body.getD .skip, Tryz.func233, by kernel_rfl, by kernel_rfl, Loops.no _ _⟩
noncomputable def Tb233_p : Tb Tryz.prog := { T := [Y2, Y27], mix := mix, Es := [E_impl_Whole, E_impl_within, ET_impl_MulFloor], Bs := [], d := 1 }
noncomputable def t_impl_TurnI_p (a0 : I64) : Tr (Iv) :=
  .br (!(F_impl_within a0 ⟨(-4096), rfl⟩ ⟨4096, rfl⟩)) (.leaf F_impl_Whole) (.br (decide (a0.val < 0)) (.bad) (.br (a0.val == 0) (.leaf ⟨⟨0, rfl⟩, ⟨0, rfl⟩⟩) (let c4 := F_impl_MulFloor a0 ⟨7244019458077122842, rfl⟩ ⟨30, rfl⟩; .leaf ⟨c4.a, (Rng.w .i64 (c4.a.val + 1))⟩)))
theorem r_impl_TurnI_p (a0 : I64) : Tb233_p.run B233 [enc a0] (Iv) = (t_impl_TurnI_p a0).opt := by kernel_rfl
noncomputable def F_impl_TurnI_p : I64 → Iv := fun a0 => (t_impl_TurnI_p a0).get
noncomputable def G_impl_TurnI_p : I64 → Bool := fun a0 => (t_impl_TurnI_p a0).opt.isSome
noncomputable def E_impl_TurnI_p : Ent Tryz.prog := .of1 Tb233_p B233 G_impl_TurnI_p F_impl_TurnI_p fun a0 h => (r_impl_TurnI_p a0).trans (Tr.get_some h)
noncomputable def Tb233 : Tb Tryz.prog := { T := [Y2, Y27], mix := mix, Es := [E_impl_Whole, E_impl_within, E_impl_NegI, E_impl_TurnI_p, ET_impl_MulFloor], Bs := [], d := 1 }
noncomputable def t_impl_TurnI (a0 : I64) : Tr (Iv) :=
  .br (!(F_impl_within a0 ⟨(-4096), rfl⟩ ⟨4096, rfl⟩)) (.leaf F_impl_Whole) (.br (decide (a0.val < 0)) (let c3 := (Rng.w .i64 (0 - a0.val)); .br (G_impl_TurnI_p c3) (.leaf (F_impl_NegI (F_impl_TurnI_p c3))) (.bad)) (.br (a0.val == 0) (.leaf ⟨⟨0, rfl⟩, ⟨0, rfl⟩⟩) (let c6 := F_impl_MulFloor a0 ⟨7244019458077122842, rfl⟩ ⟨30, rfl⟩; .leaf ⟨c6.a, (Rng.w .i64 (c6.a.val + 1))⟩)))
theorem r_impl_TurnI (a0 : I64) : Tb233.run B233 [enc a0] (Iv) = (t_impl_TurnI a0).opt := by kernel_rfl
noncomputable def F_impl_TurnI : I64 → Iv := fun a0 => (t_impl_TurnI a0).get
noncomputable def G_impl_TurnI : I64 → Bool := fun a0 => (t_impl_TurnI a0).opt.isSome
noncomputable def E_impl_TurnI : Ent Tryz.prog := .of1 Tb233 B233 G_impl_TurnI F_impl_TurnI fun a0 h => (r_impl_TurnI a0).trans (Tr.get_some h)
noncomputable def B280 : Bod Tryz.prog := ⟨280, Tryz.f280, Tryz.f280.body.getD .skip, Tryz.func280, by kernel_rfl, by kernel_rfl, Loops.no _ _⟩
noncomputable def Tb280 : Tb Tryz.prog := { T := [], mix := mix, Es := [E_spec_l00In], Bs := [], d := 1 }
noncomputable def t_spec_l06Angle (a0 : I64) : Tr (Bool) :=
  .leaf (F_spec_l00In a0 ⟨(-1099511627776), rfl⟩ ⟨1099511627776, rfl⟩)
theorem r_spec_l06Angle (a0 : I64) : Tb280.run B280 [enc a0] (Bool) = (t_spec_l06Angle a0).opt := by kernel_rfl
noncomputable def F_spec_l06Angle : I64 → Bool := fun a0 => (t_spec_l06Angle a0).get
theorem u_spec_l06Angle (a0 : I64) : (t_spec_l06Angle a0).opt = some (F_spec_l06Angle a0) := Tr.tot_get (by kernel_rfl)
noncomputable def E_spec_l06Angle : Ent Tryz.prog := .of1 Tb280 B280 (fun _ => true) F_spec_l06Angle fun a0 _ => (r_spec_l06Angle a0).trans (u_spec_l06Angle a0)
noncomputable def B284 : Bod Tryz.prog := ⟨284, Tryz.f284, Tryz.f284.body.getD .skip, Tryz.func284, by kernel_rfl, by kernel_rfl, Loops.no _ _⟩
noncomputable def Tb284 : Tb Tryz.prog := { T := [], mix := mix, Es := [], Bs := [], d := 1 }
noncomputable def t_spec_l06Floor (a0 : I64) (a1 : I64) : Tr (I64) :=
  .br (a1.val == 0) (.bad) (let c1 := (Rng.w .i64 (a0.val.tdiv a1.val)); .br (a1.val == 0) (.bad) (.br (decide ((Rng.w .i64 (a0.val.tmod a1.val)).val < 0)) (.leaf (Rng.w .i64 (c1.val - 1))) (.leaf c1)))
theorem r_spec_l06Floor (a0 : I64) (a1 : I64) : Tb284.run B284 [enc a0, enc a1] (I64) = (t_spec_l06Floor a0 a1).opt := by kernel_rfl
noncomputable def F_spec_l06Floor : I64 → I64 → I64 := fun a0 a1 => (t_spec_l06Floor a0 a1).get
noncomputable def G_spec_l06Floor : I64 → I64 → Bool := fun a0 a1 => (t_spec_l06Floor a0 a1).opt.isSome
noncomputable def E_spec_l06Floor : Ent Tryz.prog := .of2 Tb284 B284 G_spec_l06Floor F_spec_l06Floor fun a0 a1 h => (r_spec_l06Floor a0 a1).trans (Tr.get_some h)
noncomputable def B241 : Bod Tryz.prog := ⟨241, Tryz.f241, Tryz.f241.body.getD .skip, Tryz.func241, by kernel_rfl, by kernel_rfl, Loops.no _ _⟩
noncomputable def Tb241 : Tb Tryz.prog := { T := [], mix := mix, Es := [E_spec_l06Angle, E_spec_l06Floor], Bs := [], d := 1 }
noncomputable def t_spec_QuarterOf (a0 : I64) : Tr (I64) :=
  .br (!(F_spec_l06Angle a0)) (.leaf ⟨0, rfl⟩) (let c2 := (Rng.w .i64 (a0.val + 3373259426)); .br (G_spec_l06Floor c2 ⟨6746518852, rfl⟩) (.leaf (F_spec_l06Floor c2 ⟨6746518852, rfl⟩)) (.bad))
theorem r_spec_QuarterOf (a0 : I64) : Tb241.run B241 [enc a0] (I64) = (t_spec_QuarterOf a0).opt := by kernel_rfl
noncomputable def F_spec_QuarterOf : I64 → I64 := fun a0 => (t_spec_QuarterOf a0).get
noncomputable def G_spec_QuarterOf : I64 → Bool := fun a0 => (t_spec_QuarterOf a0).opt.isSome
noncomputable def E_spec_QuarterOf : Ent Tryz.prog := .of1 Tb241 B241 G_spec_QuarterOf F_spec_QuarterOf fun a0 h => (r_spec_QuarterOf a0).trans (Tr.get_some h)
noncomputable def B255 : Bod Tryz.prog := ⟨255, Tryz.f255, Tryz.f255.body.getD .skip, Tryz.func255, by kernel_rfl, by kernel_rfl, Loops.no _ _⟩
noncomputable def Tb255 : Tb Tryz.prog := { T := [], mix := mix, Es := [E_impl_within], Bs := [], d := 1 }
noncomputable def t_impl_isAngle (a0 : I64) : Tr (Bool) :=
  .leaf (F_impl_within a0 ⟨(-1099511627776), rfl⟩ ⟨1099511627776, rfl⟩)
theorem r_impl_isAngle (a0 : I64) : Tb255.run B255 [enc a0] (Bool) = (t_impl_isAngle a0).opt := by kernel_rfl
noncomputable def F_impl_isAngle : I64 → Bool := fun a0 => (t_impl_isAngle a0).get
theorem u_impl_isAngle (a0 : I64) : (t_impl_isAngle a0).opt = some (F_impl_isAngle a0) := Tr.tot_get (by kernel_rfl)
noncomputable def E_impl_isAngle : Ent Tryz.prog := .of1 Tb255 B255 (fun _ => true) F_impl_isAngle fun a0 _ => (r_impl_isAngle a0).trans (u_impl_isAngle a0)
noncomputable def B256 : Bod Tryz.prog := ⟨256, Tryz.f256, Tryz.f256.body.getD .skip, Tryz.func256, by kernel_rfl, by kernel_rfl, Loops.no _ _⟩
noncomputable def Tb256 : Tb Tryz.prog := { T := [], mix := mix, Es := [E_impl_isAngle], Bs := [], d := 1 }
noncomputable def t_impl_QuarterOf (a0 : I64) : Tr (I64) :=
  .br (!(F_impl_isAngle a0)) (.leaf ⟨0, rfl⟩) (let c3 := (Rng.w .i64 ((Rng.w .i64 (a0.val + 3373259426)).val.tdiv 6746518852)); .br (decide ((Rng.w .i64 (c3.val * 6746518852)).val > (Rng.w .i64 (a0.val + 3373259426)).val)) (.leaf (Rng.w .i64 (c3.val - 1))) (.leaf c3))
theorem r_impl_QuarterOf (a0 : I64) : Tb256.run B256 [enc a0] (I64) = (t_impl_QuarterOf a0).opt := by kernel_rfl
noncomputable def F_impl_QuarterOf : I64 → I64 := fun a0 => (t_impl_QuarterOf a0).get
theorem u_impl_QuarterOf (a0 : I64) : (t_impl_QuarterOf a0).opt = some (F_impl_QuarterOf a0) := Tr.tot_get (by kernel_rfl)
noncomputable def E_impl_QuarterOf : Ent Tryz.prog := .of1 Tb256 B256 (fun _ => true) F_impl_QuarterOf fun a0 _ => (r_impl_QuarterOf a0).trans (u_impl_QuarterOf a0)
noncomputable def B157 : Bod Tryz.prog := ⟨157, Tryz.f157, Tryz.f157.body.getD .skip, Tryz.func157, by kernel_rfl, by kernel_rfl, Loops.no _ _⟩
noncomputable def Tb157 : Tb Tryz.prog := { T := [Y2, Y27], mix := mix, Es := [E_spec_l04Whole, E_spec_l04Ok, E_spec_l00Min, E_spec_l00Max], Bs := [], d := 1 }
noncomputable def t_spec_MeetI (a0 : Iv) (a1 : Iv) : Tr (T2 Iv Bool) :=
  .br (!(F_spec_l04Ok a0)) (.br (!(F_spec_l04Ok a1)) (.leaf ⟨F_spec_l04Whole, true⟩) (.br (!(F_spec_l04Ok a0)) (.leaf ⟨a1, true⟩) (.br (!(F_spec_l04Ok a1)) (.leaf ⟨a0, true⟩) (let c6 := F_spec_l00Max a0.lo a1.lo; let c7 := F_spec_l00Min a0.hi a1.hi; .br (decide (c6.val > c7.val)) (.leaf ⟨⟨⟨0, rfl⟩, ⟨0, rfl⟩⟩, false⟩) (.leaf ⟨⟨c6, c7⟩, true⟩))))) (.br (!(F_spec_l04Ok a0)) (.leaf ⟨a1, true⟩) (.br (!(F_spec_l04Ok a1)) (.leaf ⟨a0, true⟩) (let c11 := F_spec_l00Max a0.lo a1.lo; let c12 := F_spec_l00Min a0.hi a1.hi; .br (decide (c11.val > c12.val)) (.leaf ⟨⟨⟨0, rfl⟩, ⟨0, rfl⟩⟩, false⟩) (.leaf ⟨⟨c11, c12⟩, true⟩))))
theorem r_spec_MeetI (a0 : Iv) (a1 : Iv) : Tb157.run B157 [enc a0, enc a1] (T2 Iv Bool) = (t_spec_MeetI a0 a1).opt := by kernel_rfl
noncomputable def F_spec_MeetI : Iv → Iv → T2 Iv Bool := fun a0 a1 => (t_spec_MeetI a0 a1).get
theorem u_spec_MeetI (a0 : Iv) (a1 : Iv) : (t_spec_MeetI a0 a1).opt = some (F_spec_MeetI a0 a1) := Tr.tot_get (by kernel_rfl)
noncomputable def E_spec_MeetI : Ent Tryz.prog := .of2 Tb157 B157 (fun _ _ => true) F_spec_MeetI fun a0 a1 _ => (r_spec_MeetI a0 a1).trans (u_spec_MeetI a0 a1)
noncomputable def B242 : Bod Tryz.prog := ⟨242, Tryz.f242, Tryz.f242.body.getD .skip, Tryz.func242, by kernel_rfl, by kernel_rfl, Loops.no _ _⟩
noncomputable def Tb242 : Tb Tryz.prog := { T := [Y2, Y27], mix := mix, Es := [E_spec_MeetI], Bs := [], d := 1 }
noncomputable def t_spec_OverlapI (a0 : Iv) (a1 : Iv) : Tr (Bool) :=
  .leaf (F_spec_MeetI a0 a1).b
theorem r_spec_OverlapI (a0 : Iv) (a1 : Iv) : Tb242.run B242 [enc a0, enc a1] (Bool) = (t_spec_OverlapI a0 a1).opt := by kernel_rfl
noncomputable def F_spec_OverlapI : Iv → Iv → Bool := fun a0 a1 => (t_spec_OverlapI a0 a1).get
theorem u_spec_OverlapI (a0 : Iv) (a1 : Iv) : (t_spec_OverlapI a0 a1).opt = some (F_spec_OverlapI a0 a1) := Tr.tot_get (by kernel_rfl)
noncomputable def E_spec_OverlapI : Ent Tryz.prog := .of2 Tb242 B242 (fun _ _ => true) F_spec_OverlapI fun a0 a1 _ => (r_spec_OverlapI a0 a1).trans (u_spec_OverlapI a0 a1)
noncomputable def B163 : Bod Tryz.prog := ⟨163, Tryz.f163, Tryz.f163.body.getD .skip, Tryz.func163, by kernel_rfl, by kernel_rfl, Loops.no _ _⟩
noncomputable def Tb163 : Tb Tryz.prog := { T := [Y2, Y27], mix := mix, Es := [E_impl_Whole, E_impl_IsWhole], Bs := [], d := 1 }
noncomputable def t_impl_MeetI (a0 : Iv) (a1 : Iv) : Tr (T2 Iv Bool) :=
  .br (F_impl_IsWhole a0) (.br (F_impl_IsWhole a1) (.leaf ⟨F_impl_Whole, true⟩) (.br (F_impl_IsWhole a0) (.leaf ⟨a1, true⟩) (.br (F_impl_IsWhole a1) (.leaf ⟨a0, true⟩) (.br (decide ((mx a0.lo a1.lo).val > (mn a0.hi a1.hi).val)) (.leaf ⟨⟨⟨0, rfl⟩, ⟨0, rfl⟩⟩, false⟩) (.leaf ⟨⟨(mx a0.lo a1.lo), (mn a0.hi a1.hi)⟩, true⟩))))) (.br (F_impl_IsWhole a0) (.leaf ⟨a1, true⟩) (.br (F_impl_IsWhole a1) (.leaf ⟨a0, true⟩) (.br (decide ((mx a0.lo a1.lo).val > (mn a0.hi a1.hi).val)) (.leaf ⟨⟨⟨0, rfl⟩, ⟨0, rfl⟩⟩, false⟩) (.leaf ⟨⟨(mx a0.lo a1.lo), (mn a0.hi a1.hi)⟩, true⟩))))
theorem r_impl_MeetI (a0 : Iv) (a1 : Iv) : Tb163.run B163 [enc a0, enc a1] (T2 Iv Bool) = (t_impl_MeetI a0 a1).opt := by kernel_rfl
noncomputable def F_impl_MeetI : Iv → Iv → T2 Iv Bool := fun a0 a1 => (t_impl_MeetI a0 a1).get
theorem u_impl_MeetI (a0 : Iv) (a1 : Iv) : (t_impl_MeetI a0 a1).opt = some (F_impl_MeetI a0 a1) := Tr.tot_get (by kernel_rfl)
noncomputable def E_impl_MeetI : Ent Tryz.prog := .of2 Tb163 B163 (fun _ _ => true) F_impl_MeetI fun a0 a1 _ => (r_impl_MeetI a0 a1).trans (u_impl_MeetI a0 a1)
noncomputable def B287 : Bod Tryz.prog := ⟨287, Tryz.f287, Tryz.f287.body.getD .skip, Tryz.func287, by kernel_rfl, by kernel_rfl, Loops.no _ _⟩
noncomputable def Tb287 : Tb Tryz.prog := { T := [Y2, Y27], mix := mix, Es := [E_impl_MeetI], Bs := [], d := 1 }
noncomputable def t_impl_OverlapI (a0 : Iv) (a1 : Iv) : Tr (Bool) :=
  .leaf (F_impl_MeetI a0 a1).b
theorem r_impl_OverlapI (a0 : Iv) (a1 : Iv) : Tb287.run B287 [enc a0, enc a1] (Bool) = (t_impl_OverlapI a0 a1).opt := by kernel_rfl
noncomputable def F_impl_OverlapI : Iv → Iv → Bool := fun a0 a1 => (t_impl_OverlapI a0 a1).get
theorem u_impl_OverlapI (a0 : Iv) (a1 : Iv) : (t_impl_OverlapI a0 a1).opt = some (F_impl_OverlapI a0 a1) := Tr.tot_get (by kernel_rfl)
noncomputable def E_impl_OverlapI : Ent Tryz.prog := .of2 Tb287 B287 (fun _ _ => true) F_impl_OverlapI fun a0 a1 _ => (r_impl_OverlapI a0 a1).trans (u_impl_OverlapI a0 a1)
noncomputable def B302 : Bod Tryz.prog := ⟨302, Tryz.f302, Tryz.f302.body.getD .skip, Tryz.func302, by kernel_rfl, by kernel_rfl, Loops.no _ _⟩
noncomputable def Tb302 : Tb Tryz.prog := { T := [Y2, Y27], mix := mix, Es := [E_spec_l04Ok], Bs := [], d := 1 }
noncomputable def t_spec_InsideI (a0 : Iv) (a1 : Iv) : Tr (Bool) :=
  .br (!(F_spec_l04Ok a1)) (.leaf true) (.br (F_spec_l04Ok a0) (.br (decide (a1.lo.val ≤ a0.lo.val)) (.leaf (decide (a0.hi.val ≤ a1.hi.val))) (.leaf false)) (.leaf false))
theorem r_spec_InsideI (a0 : Iv) (a1 : Iv) : Tb302.run B302 [enc a0, enc a1] (Bool) = (t_spec_InsideI a0 a1).opt := by kernel_rfl
noncomputable def F_spec_InsideI : Iv → Iv → Bool := fun a0 a1 => (t_spec_InsideI a0 a1).get
theorem u_spec_InsideI (a0 : Iv) (a1 : Iv) : (t_spec_InsideI a0 a1).opt = some (F_spec_InsideI a0 a1) := Tr.tot_get (by kernel_rfl)
noncomputable def E_spec_InsideI : Ent Tryz.prog := .of2 Tb302 B302 (fun _ _ => true) F_spec_InsideI fun a0 a1 _ => (r_spec_InsideI a0 a1).trans (u_spec_InsideI a0 a1)
noncomputable def B294 : Bod Tryz.prog := ⟨294, Tryz.f294, Tryz.f294.body.getD .skip, Tryz.func294, by kernel_rfl, by kernel_rfl, Loops.no _ _⟩
noncomputable def Tb294 : Tb Tryz.prog := { T := [Y2, Y27], mix := mix, Es := [E_impl_IsWhole], Bs := [], d := 1 }
noncomputable def t_impl_InsideI (a0 : Iv) (a1 : Iv) : Tr (Bool) :=
  .br (F_impl_IsWhole a0) (.leaf (F_impl_IsWhole a1)) (.br (F_impl_IsWhole a1) (.leaf (F_impl_IsWhole a1)) (.br (decide (a1.lo.val ≤ a0.lo.val)) (.leaf (decide (a0.hi.val ≤ a1.hi.val))) (.leaf false)))
theorem r_impl_InsideI (a0 : Iv) (a1 : Iv) : Tb294.run B294 [enc a0, enc a1] (Bool) = (t_impl_InsideI a0 a1).opt := by kernel_rfl
noncomputable def F_impl_InsideI : Iv → Iv → Bool := fun a0 a1 => (t_impl_InsideI a0 a1).get
theorem u_impl_InsideI (a0 : Iv) (a1 : Iv) : (t_impl_InsideI a0 a1).opt = some (F_impl_InsideI a0 a1) := Tr.tot_get (by kernel_rfl)
noncomputable def E_impl_InsideI : Ent Tryz.prog := .of2 Tb294 B294 (fun _ _ => true) F_impl_InsideI fun a0 a1 _ => (r_impl_InsideI a0 a1).trans (u_impl_InsideI a0 a1)
noncomputable def B149 : Bod Tryz.prog := ⟨149, Tryz.f149, Tryz.f149.body.getD .skip, Tryz.func149, by kernel_rfl, by kernel_rfl, Loops.no _ _⟩
noncomputable def Tb149 : Tb Tryz.prog := { T := [Y2, Y27], mix := mix, Es := [E_spec_l04Whole, E_spec_l04Ok, E_spec_l00Min, E_spec_l00Max, E_spec_l04Make], Bs := [], d := 1 }
noncomputable def t_spec_HullI (a0 : Iv) (a1 : Iv) : Tr (Iv) :=
  .br (!(F_spec_l04Ok a0)) (.leaf F_spec_l04Whole) (.br (!(F_spec_l04Ok a1)) (.leaf F_spec_l04Whole) (.leaf (F_spec_l04Make (F_spec_l00Min a0.lo a1.lo) (F_spec_l00Max a0.hi a1.hi))))
theorem r_spec_HullI (a0 : Iv) (a1 : Iv) : Tb149.run B149 [enc a0, enc a1] (Iv) = (t_spec_HullI a0 a1).opt := by kernel_rfl
noncomputable def F_spec_HullI : Iv → Iv → Iv := fun a0 a1 => (t_spec_HullI a0 a1).get
theorem u_spec_HullI (a0 : Iv) (a1 : Iv) : (t_spec_HullI a0 a1).opt = some (F_spec_HullI a0 a1) := Tr.tot_get (by kernel_rfl)
noncomputable def E_spec_HullI : Ent Tryz.prog := .of2 Tb149 B149 (fun _ _ => true) F_spec_HullI fun a0 a1 _ => (r_spec_HullI a0 a1).trans (u_spec_HullI a0 a1)
noncomputable def B161 : Bod Tryz.prog := ⟨161, Tryz.f161, Tryz.f161.body.getD .skip, Tryz.func161, by kernel_rfl, by kernel_rfl, Loops.no _ _⟩
noncomputable def Tb161 : Tb Tryz.prog := { T := [Y2, Y27], mix := mix, Es := [E_impl_Whole, E_impl_areBounded], Bs := [], d := 1 }
noncomputable def t_impl_HullI (a0 : Iv) (a1 : Iv) : Tr (Iv) :=
  .br (!(F_impl_areBounded a0 a1)) (.leaf F_impl_Whole) (.leaf ⟨(mn a0.lo a1.lo), (mx a0.hi a1.hi)⟩)
theorem r_impl_HullI (a0 : Iv) (a1 : Iv) : Tb161.run B161 [enc a0, enc a1] (Iv) = (t_impl_HullI a0 a1).opt := by kernel_rfl
noncomputable def F_impl_HullI : Iv → Iv → Iv := fun a0 a1 => (t_impl_HullI a0 a1).get
theorem u_impl_HullI (a0 : Iv) (a1 : Iv) : (t_impl_HullI a0 a1).opt = some (F_impl_HullI a0 a1) := Tr.tot_get (by kernel_rfl)
noncomputable def E_impl_HullI : Ent Tryz.prog := .of2 Tb161 B161 (fun _ _ => true) F_impl_HullI fun a0 a1 _ => (r_impl_HullI a0 a1).trans (u_impl_HullI a0 a1)
noncomputable def B101 : Bod Tryz.prog := ⟨101, Tryz.f101, Tryz.f101.body.getD .skip, Tryz.func101, by kernel_rfl, by kernel_rfl, Loops.no _ _⟩
noncomputable def Tb101 : Tb Tryz.prog := { T := [Y2, Y27], mix := mix, Es := [E_spec_l04Whole, E_spec_l04Ok, E_spec_l04Make], Bs := [], d := 1 }
noncomputable def t_spec_AddI (a0 : Iv) (a1 : Iv) : Tr (Iv) :=
  .br (!(F_spec_l04Ok a0)) (.leaf F_spec_l04Whole) (.br (!(F_spec_l04Ok a1)) (.leaf F_spec_l04Whole) (.leaf (F_spec_l04Make (Rng.w .i64 (a0.lo.val + a1.lo.val)) (Rng.w .i64 (a0.hi.val + a1.hi.val)))))
theorem r_spec_AddI (a0 : Iv) (a1 : Iv) : Tb101.run B101 [enc a0, enc a1] (Iv) = (t_spec_AddI a0 a1).opt := by kernel_rfl
noncomputable def F_spec_AddI : Iv → Iv → Iv := fun a0 a1 => (t_spec_AddI a0 a1).get
theorem u_spec_AddI (a0 : Iv) (a1 : Iv) : (t_spec_AddI a0 a1).opt = some (F_spec_AddI a0 a1) := Tr.tot_get (by kernel_rfl)
noncomputable def E_spec_AddI : Ent Tryz.prog := .of2 Tb101 B101 (fun _ _ => true) F_spec_AddI fun a0 a1 _ => (r_spec_AddI a0 a1).trans (u_spec_AddI a0 a1)
noncomputable def B106 : Bod Tryz.prog := ⟨106, Tryz.f106, Tryz.f106.body.getD .skip, Tryz.func106, by kernel_rfl, by kernel_rfl, Loops.no _ _⟩
noncomputable def Tb106 : Tb Tryz.prog := { T := [Y2, Y27], mix := mix, Es := [E_impl_Whole, E_impl_areBounded, E_impl_bounded], Bs := [], d := 1 }
noncomputable def t_impl_AddI (a0 : Iv) (a1 : Iv) : Tr (Iv) :=
  .br (!(F_impl_areBounded a0 a1)) (.leaf F_impl_Whole) (.leaf (F_impl_bounded (Rng.w .i64 (a0.lo.val + a1.lo.val)) (Rng.w .i64 (a0.hi.val + a1.hi.val)) true))
theorem r_impl_AddI (a0 : Iv) (a1 : Iv) : Tb106.run B106 [enc a0, enc a1] (Iv) = (t_impl_AddI a0 a1).opt := by kernel_rfl
noncomputable def F_impl_AddI : Iv → Iv → Iv := fun a0 a1 => (t_impl_AddI a0 a1).get
theorem u_impl_AddI (a0 : Iv) (a1 : Iv) : (t_impl_AddI a0 a1).opt = some (F_impl_AddI a0 a1) := Tr.tot_get (by kernel_rfl)
noncomputable def E_impl_AddI : Ent Tryz.prog := .of2 Tb106 B106 (fun _ _ => true) F_impl_AddI fun a0 a1 _ => (r_impl_AddI a0 a1).trans (u_impl_AddI a0 a1)
noncomputable def B103 : Bod Tryz.prog := ⟨103, Tryz.f103, Tryz.f103.body.getD .skip, Tryz.func103, by kernel_rfl, by kernel_rfl, Loops.no _ _⟩
noncomputable def Tb103 : Tb Tryz.prog := { T := [Y2, Y27], mix := mix, Es := [E_spec_l04Whole, E_spec_l04Ok, E_spec_l04Make], Bs := [], d := 1 }
noncomputable def t_spec_SubI (a0 : Iv) (a1 : Iv) : Tr (Iv) :=
  .br (!(F_spec_l04Ok a0)) (.leaf F_spec_l04Whole) (.br (!(F_spec_l04Ok a1)) (.leaf F_spec_l04Whole) (.leaf (F_spec_l04Make (Rng.w .i64 (a0.lo.val - a1.hi.val)) (Rng.w .i64 (a0.hi.val - a1.lo.val)))))
theorem r_spec_SubI (a0 : Iv) (a1 : Iv) : Tb103.run B103 [enc a0, enc a1] (Iv) = (t_spec_SubI a0 a1).opt := by kernel_rfl
noncomputable def F_spec_SubI : Iv → Iv → Iv := fun a0 a1 => (t_spec_SubI a0 a1).get
theorem u_spec_SubI (a0 : Iv) (a1 : Iv) : (t_spec_SubI a0 a1).opt = some (F_spec_SubI a0 a1) := Tr.tot_get (by kernel_rfl)
noncomputable def E_spec_SubI : Ent Tryz.prog := .of2 Tb103 B103 (fun _ _ => true) F_spec_SubI fun a0 a1 _ => (r_spec_SubI a0 a1).trans (u_spec_SubI a0 a1)
noncomputable def B94 : Bod Tryz.prog := ⟨94, Tryz.f94, Tryz.f94.body.getD .skip, Tryz.func94, by kernel_rfl, by kernel_rfl, Loops.no _ _⟩
noncomputable def Tb94 : Tb Tryz.prog := { T := [Y2, Y27], mix := mix, Es := [E_impl_AddI, E_impl_NegI], Bs := [], d := 1 }
noncomputable def t_impl_SubI (a0 : Iv) (a1 : Iv) : Tr (Iv) :=
  .leaf (F_impl_AddI a0 (F_impl_NegI a1))
theorem r_impl_SubI (a0 : Iv) (a1 : Iv) : Tb94.run B94 [enc a0, enc a1] (Iv) = (t_impl_SubI a0 a1).opt := by kernel_rfl
noncomputable def F_impl_SubI : Iv → Iv → Iv := fun a0 a1 => (t_impl_SubI a0 a1).get
theorem u_impl_SubI (a0 : Iv) (a1 : Iv) : (t_impl_SubI a0 a1).opt = some (F_impl_SubI a0 a1) := Tr.tot_get (by kernel_rfl)
noncomputable def E_impl_SubI : Ent Tryz.prog := .of2 Tb94 B94 (fun _ _ => true) F_impl_SubI fun a0 a1 _ => (r_impl_SubI a0 a1).trans (u_impl_SubI a0 a1)
noncomputable def B158 : Bod Tryz.prog := ⟨158, Tryz.f158, Tryz.f158.body.getD .skip, Tryz.func158, by kernel_rfl, by kernel_rfl, Loops.no _ _⟩
noncomputable def Tb158 : Tb Tryz.prog := { T := [Y2, Y27], mix := mix, Es := [], Bs := [], d := 1 }
noncomputable def t_spec_l06Ring : Tr (Iv) :=
  .leaf ⟨⟨(-4294967296), rfl⟩, ⟨4294967296, rfl⟩⟩
theorem r_spec_l06Ring : Tb158.run B158 [] (Iv) = (t_spec_l06Ring).opt := by kernel_rfl
noncomputable def F_spec_l06Ring : Iv := (t_spec_l06Ring).get
theorem u_spec_l06Ring : (t_spec_l06Ring).opt = some (F_spec_l06Ring) := Tr.tot_get (by kernel_rfl)
noncomputable def E_spec_l06Ring : Ent Tryz.prog := .of0 Tb158 B158 F_spec_l06Ring (r_spec_l06Ring.trans u_spec_l06Ring)
noncomputable def B58 : Bod Tryz.prog := ⟨58, Tryz.f58, Tryz.f58.body.getD .skip, Tryz.func58, by kernel_rfl, by kernel_rfl, Loops.no _ _⟩
noncomputable def Tb58 : Tb Tryz.prog := { T := [Y2, Y27], mix := mix, Es := [E_spec_l04Whole, E_spec_l00In, E_spec_l04Make], Bs := [], d := 1 }
noncomputable def t_spec_Integer (a0 : I64) : Tr (Iv) :=
  .br (!(F_spec_l00In a0 ⟨(-268435455), rfl⟩ ⟨268435455, rfl⟩)) (.leaf F_spec_l04Whole) (.leaf (F_spec_l04Make (Rng.w .i64 (a0.val * 4294967296)) (Rng.w .i64 (a0.val * 4294967296))))
theorem r_spec_Integer (a0 : I64) : Tb58.run B58 [enc a0] (Iv) = (t_spec_Integer a0).opt := by kernel_rfl
noncomputable def F_spec_Integer : I64 → Iv := fun a0 => (t_spec_Integer a0).get
theorem u_spec_Integer (a0 : I64) : (t_spec_Integer a0).opt = some (F_spec_Integer a0) := Tr.tot_get (by kernel_rfl)
noncomputable def E_spec_Integer : Ent Tryz.prog := .of1 Tb58 B58 (fun _ => true) F_spec_Integer fun a0 _ => (r_spec_Integer a0).trans (u_spec_Integer a0)
noncomputable def B304 : Bod Tryz.prog := ⟨304, Tryz.f304, Tryz.f304.body.getD .skip, Tryz.func304, by kernel_rfl, by kernel_rfl, Loops.no _ _⟩
noncomputable def Tb304 : Tb Tryz.prog := { T := [Y2, Y27], mix := mix, Es := [E_spec_MulI, E_spec_Integer, E_spec_DivI, E_spec_SubI], Bs := [], d := 1 }
noncomputable def t_spec_l06Series (a0 : Iv) (a1 : I64) : Tr (Iv) :=
  let c2 := (Rng.w .i64 (16 + a1.val)); let c10 := (Rng.w .i64 (14 + a1.val)); let c18 := (Rng.w .i64 (12 + a1.val)); let c26 := (Rng.w .i64 (10 + a1.val)); let c34 := (Rng.w .i64 (8 + a1.val)); let c42 := (Rng.w .i64 (6 + a1.val)); let c50 := (Rng.w .i64 (4 + a1.val)); let c58 := (Rng.w .i64 (2 + a1.val)); .leaf (F_spec_SubI (F_spec_Integer ⟨1, rfl⟩) (F_spec_MulI (F_spec_DivI a0 (F_spec_Integer (Rng.w .i64 (c58.val * (Rng.w .i64 (c58.val + 1)).val)))) (F_spec_SubI (F_spec_Integer ⟨1, rfl⟩) (F_spec_MulI (F_spec_DivI a0 (F_spec_Integer (Rng.w .i64 (c50.val * (Rng.w .i64 (c50.val + 1)).val)))) (F_spec_SubI (F_spec_Integer ⟨1, rfl⟩) (F_spec_MulI (F_spec_DivI a0 (F_spec_Integer (Rng.w .i64 (c42.val * (Rng.w .i64 (c42.val + 1)).val)))) (F_spec_SubI (F_spec_Integer ⟨1, rfl⟩) (F_spec_MulI (F_spec_DivI a0 (F_spec_Integer (Rng.w .i64 (c34.val * (Rng.w .i64 (c34.val + 1)).val)))) (F_spec_SubI (F_spec_Integer ⟨1, rfl⟩) (F_spec_MulI (F_spec_DivI a0 (F_spec_Integer (Rng.w .i64 (c26.val * (Rng.w .i64 (c26.val + 1)).val)))) (F_spec_SubI (F_spec_Integer ⟨1, rfl⟩) (F_spec_MulI (F_spec_DivI a0 (F_spec_Integer (Rng.w .i64 (c18.val * (Rng.w .i64 (c18.val + 1)).val)))) (F_spec_SubI (F_spec_Integer ⟨1, rfl⟩) (F_spec_MulI (F_spec_DivI a0 (F_spec_Integer (Rng.w .i64 (c10.val * (Rng.w .i64 (c10.val + 1)).val)))) (F_spec_SubI (F_spec_Integer ⟨1, rfl⟩) (F_spec_MulI (F_spec_DivI a0 (F_spec_Integer (Rng.w .i64 (c2.val * (Rng.w .i64 (c2.val + 1)).val)))) (F_spec_Integer ⟨1, rfl⟩)))))))))))))))))
theorem r_spec_l06Series (a0 : Iv) (a1 : I64) : Tb304.run B304 [enc a0, enc a1] (Iv) = (t_spec_l06Series a0 a1).opt := by kernel_rfl
noncomputable def F_spec_l06Series : Iv → I64 → Iv := fun a0 a1 => (t_spec_l06Series a0 a1).get
theorem u_spec_l06Series (a0 : Iv) (a1 : I64) : (t_spec_l06Series a0 a1).opt = some (F_spec_l06Series a0 a1) := Tr.tot_get (by kernel_rfl)
noncomputable def E_spec_l06Series : Ent Tryz.prog := .of2 Tb304 B304 (fun _ _ => true) F_spec_l06Series fun a0 a1 _ => (r_spec_l06Series a0 a1).trans (u_spec_l06Series a0 a1)
noncomputable def B303 : Bod Tryz.prog := ⟨303, Tryz.f303, Tryz.f303.body.getD .skip, Tryz.func303, by kernel_rfl, by kernel_rfl, Loops.no _ _⟩
noncomputable def Tb303 : Tb Tryz.prog := { T := [Y2, Y27], mix := mix, Es := [], Bs := [], d := 1 }
noncomputable def t_spec_l06Tiny : Tr (Iv) :=
  .leaf ⟨⟨(-1), rfl⟩, ⟨1, rfl⟩⟩
theorem r_spec_l06Tiny : Tb303.run B303 [] (Iv) = (t_spec_l06Tiny).opt := by kernel_rfl
noncomputable def F_spec_l06Tiny : Iv := (t_spec_l06Tiny).get
theorem u_spec_l06Tiny : (t_spec_l06Tiny).opt = some (F_spec_l06Tiny) := Tr.tot_get (by kernel_rfl)
noncomputable def E_spec_l06Tiny : Ent Tryz.prog := .of0 Tb303 B303 F_spec_l06Tiny (r_spec_l06Tiny.trans u_spec_l06Tiny)
noncomputable def B282 : Bod Tryz.prog := ⟨282, Tryz.f282, Tryz.f282.body.getD .skip, Tryz.func282, by kernel_rfl, by kernel_rfl, Loops.no _ _⟩
noncomputable def Tb282 : Tb Tryz.prog := { T := [Y2, Y27], mix := mix, Es := [E_spec_MulI, E_spec_Whole, E_spec_AddI, E_spec_SqrI, E_spec_l06Ring, E_spec_InsideI, E_spec_l06Tiny, E_spec_l06Series], Bs := [], d := 1 }
noncomputable def t_spec_SinSeries (a0 : Iv) : Tr (Iv) :=
  .br (!(F_spec_InsideI a0 F_spec_l06Ring)) (.leaf F_spec_Whole) (.leaf (F_spec_AddI (F_spec_MulI a0 (F_spec_l06Series (F_spec_SqrI a0) ⟨0, rfl⟩)) F_spec_l06Tiny))
theorem r_spec_SinSeries (a0 : Iv) : Tb282.run B282 [enc a0] (Iv) = (t_spec_SinSeries a0).opt := by kernel_rfl
noncomputable def F_spec_SinSeries : Iv → Iv := fun a0 => (t_spec_SinSeries a0).get
theorem u_spec_SinSeries (a0 : Iv) : (t_spec_SinSeries a0).opt = some (F_spec_SinSeries a0) := Tr.tot_get (by kernel_rfl)
noncomputable def E_spec_SinSeries : Ent Tryz.prog := .of1 Tb282 B282 (fun _ => true) F_spec_SinSeries fun a0 _ => (r_spec_SinSeries a0).trans (u_spec_SinSeries a0)
noncomputable def B283 : Bod Tryz.prog := ⟨283, Tryz.f283, Tryz.f283.body.getD .skip, Tryz.func283, by kernel_rfl, by kernel_rfl, Loops.no _ _⟩
noncomputable def Tb283 : Tb Tryz.prog := { T := [Y2, Y27], mix := mix, Es := [E_spec_Whole, E_spec_AddI, E_spec_SqrI, E_spec_l06Ring, E_spec_InsideI, E_spec_l06Tiny, E_spec_l06Series], Bs := [], d := 1 }
noncomputable def t_spec_CosSeries (a0 : Iv) : Tr (Iv) :=
  .br (!(F_spec_InsideI a0 F_spec_l06Ring)) (.leaf F_spec_Whole) (.leaf (F_spec_AddI (F_spec_l06Series (F_spec_SqrI a0) ⟨(-1), rfl⟩) F_spec_l06Tiny))
theorem r_spec_CosSeries (a0 : Iv) : Tb283.run B283 [enc a0] (Iv) = (t_spec_CosSeries a0).opt := by kernel_rfl
noncomputable def F_spec_CosSeries : Iv → Iv := fun a0 => (t_spec_CosSeries a0).get
theorem u_spec_CosSeries (a0 : Iv) : (t_spec_CosSeries a0).opt = some (F_spec_CosSeries a0) := Tr.tot_get (by kernel_rfl)
noncomputable def E_spec_CosSeries : Ent Tryz.prog := .of1 Tb283 B283 (fun _ => true) F_spec_CosSeries fun a0 _ => (r_spec_CosSeries a0).trans (u_spec_CosSeries a0)
noncomputable def B281 : Bod Tryz.prog := ⟨281, Tryz.f281, Tryz.f281.body.getD .skip, Tryz.func281, by kernel_rfl, by kernel_rfl, Loops.no _ _⟩
noncomputable def Tb281 : Tb Tryz.prog := { T := [Y2, Y27], mix := mix, Es := [E_spec_MeetI, E_spec_l06Ring], Bs := [], d := 1 }
noncomputable def t_spec_l06Meet (a0 : Iv) : Tr (Iv) :=
  let c2 := F_spec_MeetI a0 F_spec_l06Ring; .br (!c2.b) (.leaf F_spec_l06Ring) (.leaf c2.a)
theorem r_spec_l06Meet (a0 : Iv) : Tb281.run B281 [enc a0] (Iv) = (t_spec_l06Meet a0).opt := by kernel_rfl
noncomputable def F_spec_l06Meet : Iv → Iv := fun a0 => (t_spec_l06Meet a0).get
theorem u_spec_l06Meet (a0 : Iv) : (t_spec_l06Meet a0).opt = some (F_spec_l06Meet a0) := Tr.tot_get (by kernel_rfl)
noncomputable def E_spec_l06Meet : Ent Tryz.prog := .of1 Tb281 B281 (fun _ => true) F_spec_l06Meet fun a0 _ => (r_spec_l06Meet a0).trans (u_spec_l06Meet a0)
noncomputable def B279 : Bod Tryz.prog := ⟨279, Tryz.f279, Tryz.f279.body.getD .skip, Tryz.func279, by kernel_rfl, by kernel_rfl, Loops.no _ _⟩
noncomputable def Tb279 : Tb Tryz.prog := { T := [Y27], mix := mix, Es := [E_spec_l04Ok], Bs := [], d := 1 }
noncomputable def t_spec_ValidInterval (a0 : Iv) : Tr (Bool) :=
  .leaf (F_spec_l04Ok a0)
theorem r_spec_ValidInterval (a0 : Iv) : Tb279.run B279 [enc a0] (Bool) = (t_spec_ValidInterval a0).opt := by kernel_rfl
noncomputable def F_spec_ValidInterval : Iv → Bool := fun a0 => (t_spec_ValidInterval a0).get
theorem u_spec_ValidInterval (a0 : Iv) : (t_spec_ValidInterval a0).opt = some (F_spec_ValidInterval a0) := Tr.tot_get (by kernel_rfl)
noncomputable def E_spec_ValidInterval : Ent Tryz.prog := .of1 Tb279 B279 (fun _ => true) F_spec_ValidInterval fun a0 _ => (r_spec_ValidInterval a0).trans (u_spec_ValidInterval a0)
noncomputable def B239 : Bod Tryz.prog := ⟨239, Tryz.f239, Tryz.f239.body.getD .skip, Tryz.func239, by kernel_rfl, by kernel_rfl, Loops.no _ _⟩
noncomputable def Tb239 : Tb Tryz.prog := { T := [Y2, Y27], mix := mix, Es := [E_spec_ValidInterval, E_spec_l06Angle], Bs := [], d := 1 }
noncomputable def t_spec_l06Fits (a0 : Iv) : Tr (Bool) :=
  .br (F_spec_ValidInterval a0) (.br (F_spec_l06Angle a0.lo) (.leaf (F_spec_l06Angle a0.hi)) (.leaf false)) (.leaf false)
theorem r_spec_l06Fits (a0 : Iv) : Tb239.run B239 [enc a0] (Bool) = (t_spec_l06Fits a0).opt := by kernel_rfl
noncomputable def F_spec_l06Fits : Iv → Bool := fun a0 => (t_spec_l06Fits a0).get
theorem u_spec_l06Fits (a0 : Iv) : (t_spec_l06Fits a0).opt = some (F_spec_l06Fits a0) := Tr.tot_get (by kernel_rfl)
noncomputable def E_spec_l06Fits : Ent Tryz.prog := .of1 Tb239 B239 (fun _ => true) F_spec_l06Fits fun a0 _ => (r_spec_l06Fits a0).trans (u_spec_l06Fits a0)
noncomputable def B164 : Bod Tryz.prog := ⟨164, Tryz.f164, Tryz.f164.body.getD .skip, Tryz.func164, by kernel_rfl, by kernel_rfl, Loops.no _ _⟩
noncomputable def Tb164 : Tb Tryz.prog := { T := [Y2, Y27], mix := mix, Es := [], Bs := [], d := 1 }
noncomputable def t_impl_ring : Tr (Iv) :=
  .leaf ⟨⟨(-4294967296), rfl⟩, ⟨4294967296, rfl⟩⟩
theorem r_impl_ring : Tb164.run B164 [] (Iv) = (t_impl_ring).opt := by kernel_rfl
noncomputable def F_impl_ring : Iv := (t_impl_ring).get
theorem u_impl_ring : (t_impl_ring).opt = some (F_impl_ring) := Tr.tot_get (by kernel_rfl)
noncomputable def E_impl_ring : Ent Tryz.prog := .of0 Tb164 B164 F_impl_ring (r_impl_ring.trans u_impl_ring)
noncomputable def B81 : Bod Tryz.prog := ⟨81, Tryz.f81, Tryz.f81.body.getD .skip, Tryz.func81, by kernel_rfl, by kernel_rfl, Loops.no _ _⟩
noncomputable def Tb81 : Tb Tryz.prog := { T := [Y2, Y27], mix := mix, Es := [E_impl_Whole, E_impl_within, E_impl_bounded], Bs := [], d := 1 }
noncomputable def t_impl_Integer (a0 : I64) : Tr (Iv) :=
  .br (!(F_impl_within a0 ⟨(-268435456), rfl⟩ ⟨268435456, rfl⟩)) (.leaf F_impl_Whole) (.leaf (F_impl_bounded (Rng.w .i64 (a0.val * 4294967296)) (Rng.w .i64 (a0.val * 4294967296)) true))
theorem r_impl_Integer (a0 : I64) : Tb81.run B81 [enc a0] (Iv) = (t_impl_Integer a0).opt := by kernel_rfl
noncomputable def F_impl_Integer : I64 → Iv := fun a0 => (t_impl_Integer a0).get
theorem u_impl_Integer (a0 : I64) : (t_impl_Integer a0).opt = some (F_impl_Integer a0) := Tr.tot_get (by kernel_rfl)
noncomputable def E_impl_Integer : Ent Tryz.prog := .of1 Tb81 B81 (fun _ => true) F_impl_Integer fun a0 _ => (r_impl_Integer a0).trans (u_impl_Integer a0)
noncomputable def B295 : Bod Tryz.prog := ⟨295, Tryz.f295, Tryz.f295.body.getD .skip, Tryz.func295, by kernel_rfl, by kernel_rfl, Loops.no _ _⟩
noncomputable def Tb295 : Tb Tryz.prog := { T := [Y2, Y27], mix := mix, Es := [E_impl_DivI, E_impl_Integer, ET_impl_MulI, E_impl_SubI], Bs := [], d := 1 }
noncomputable def t_impl_series (a0 : Iv) (a1 : I64) : Tr (Iv) :=
  let c2 := (Rng.w .i64 (a1.val + 14)); let c10 := (Rng.w .i64 (a1.val + 12)); let c18 := (Rng.w .i64 (a1.val + 10)); let c26 := (Rng.w .i64 (a1.val + 8)); let c34 := (Rng.w .i64 (a1.val + 6)); let c42 := (Rng.w .i64 (a1.val + 4)); let c50 := (Rng.w .i64 (a1.val + 2)); let c58 := (Rng.w .i64 (a1.val + 0)); .leaf (F_impl_SubI (F_impl_Integer ⟨1, rfl⟩) (F_impl_MulI (F_impl_DivI a0 (F_impl_Integer (Rng.w .i64 (c58.val * (Rng.w .i64 (c58.val + 1)).val)))) (F_impl_SubI (F_impl_Integer ⟨1, rfl⟩) (F_impl_MulI (F_impl_DivI a0 (F_impl_Integer (Rng.w .i64 (c50.val * (Rng.w .i64 (c50.val + 1)).val)))) (F_impl_SubI (F_impl_Integer ⟨1, rfl⟩) (F_impl_MulI (F_impl_DivI a0 (F_impl_Integer (Rng.w .i64 (c42.val * (Rng.w .i64 (c42.val + 1)).val)))) (F_impl_SubI (F_impl_Integer ⟨1, rfl⟩) (F_impl_MulI (F_impl_DivI a0 (F_impl_Integer (Rng.w .i64 (c34.val * (Rng.w .i64 (c34.val + 1)).val)))) (F_impl_SubI (F_impl_Integer ⟨1, rfl⟩) (F_impl_MulI (F_impl_DivI a0 (F_impl_Integer (Rng.w .i64 (c26.val * (Rng.w .i64 (c26.val + 1)).val)))) (F_impl_SubI (F_impl_Integer ⟨1, rfl⟩) (F_impl_MulI (F_impl_DivI a0 (F_impl_Integer (Rng.w .i64 (c18.val * (Rng.w .i64 (c18.val + 1)).val)))) (F_impl_SubI (F_impl_Integer ⟨1, rfl⟩) (F_impl_MulI (F_impl_DivI a0 (F_impl_Integer (Rng.w .i64 (c10.val * (Rng.w .i64 (c10.val + 1)).val)))) (F_impl_SubI (F_impl_Integer ⟨1, rfl⟩) (F_impl_MulI (F_impl_DivI a0 (F_impl_Integer (Rng.w .i64 (c2.val * (Rng.w .i64 (c2.val + 1)).val)))) (F_impl_Integer ⟨1, rfl⟩)))))))))))))))))
theorem r_impl_series (a0 : Iv) (a1 : I64) : Tb295.run B295 [enc a0, enc a1] (Iv) = (t_impl_series a0 a1).opt := by kernel_rfl
noncomputable def F_impl_series : Iv → I64 → Iv := fun a0 a1 => (t_impl_series a0 a1).get
theorem u_impl_series (a0 : Iv) (a1 : I64) : (t_impl_series a0 a1).opt = some (F_impl_series a0 a1) := Tr.tot_get (by kernel_rfl)
noncomputable def E_impl_series : Ent Tryz.prog := .of2 Tb295 B295 (fun _ _ => true) F_impl_series fun a0 a1 _ => (r_impl_series a0 a1).trans (u_impl_series a0 a1)
noncomputable def B296 : Bod Tryz.prog := ⟨296, Tryz.f296, Tryz.f296.body.getD .skip, Tryz.func296, by kernel_rfl, by kernel_rfl, Loops.no _ _⟩
noncomputable def Tb296 : Tb Tryz.prog := { T := [Y2, Y27], mix := mix, Es := [], Bs := [], d := 1 }
noncomputable def t_impl_tiny : Tr (Iv) :=
  .leaf ⟨⟨(-1), rfl⟩, ⟨1, rfl⟩⟩
theorem r_impl_tiny : Tb296.run B296 [] (Iv) = (t_impl_tiny).opt := by kernel_rfl
noncomputable def F_impl_tiny : Iv := (t_impl_tiny).get
theorem u_impl_tiny : (t_impl_tiny).opt = some (F_impl_tiny) := Tr.tot_get (by kernel_rfl)
noncomputable def E_impl_tiny : Ent Tryz.prog := .of0 Tb296 B296 F_impl_tiny (r_impl_tiny.trans u_impl_tiny)
noncomputable def B258 : Bod Tryz.prog := ⟨258, Tryz.f258, Tryz.f258.body.getD .skip, Tryz.func258, by kernel_rfl, by kernel_rfl, Loops.no _ _⟩
noncomputable def Tb258 : Tb Tryz.prog := { T := [Y2, Y27], mix := mix, Es := [E_impl_Whole, ET_impl_MulI, E_impl_AddI, ET_impl_SqrI, E_impl_ring, E_impl_InsideI, E_impl_series, E_impl_tiny], Bs := [], d := 1 }
noncomputable def t_impl_SinSeries (a0 : Iv) : Tr (Iv) :=
  .br (!(F_impl_InsideI a0 F_impl_ring)) (.leaf F_impl_Whole) (.leaf (F_impl_AddI (F_impl_MulI a0 (F_impl_series (F_impl_SqrI a0) ⟨2, rfl⟩)) F_impl_tiny))
theorem r_impl_SinSeries (a0 : Iv) : Tb258.run B258 [enc a0] (Iv) = (t_impl_SinSeries a0).opt := by kernel_rfl
noncomputable def F_impl_SinSeries : Iv → Iv := fun a0 => (t_impl_SinSeries a0).get
theorem u_impl_SinSeries (a0 : Iv) : (t_impl_SinSeries a0).opt = some (F_impl_SinSeries a0) := Tr.tot_get (by kernel_rfl)
noncomputable def E_impl_SinSeries : Ent Tryz.prog := .of1 Tb258 B258 (fun _ => true) F_impl_SinSeries fun a0 _ => (r_impl_SinSeries a0).trans (u_impl_SinSeries a0)
noncomputable def B259 : Bod Tryz.prog := ⟨259, Tryz.f259, Tryz.f259.body.getD .skip, Tryz.func259, by kernel_rfl, by kernel_rfl, Loops.no _ _⟩
noncomputable def Tb259 : Tb Tryz.prog := { T := [Y2, Y27], mix := mix, Es := [E_impl_Whole, E_impl_AddI, ET_impl_SqrI, E_impl_ring, E_impl_InsideI, E_impl_series, E_impl_tiny], Bs := [], d := 1 }
noncomputable def t_impl_CosSeries (a0 : Iv) : Tr (Iv) :=
  .br (!(F_impl_InsideI a0 F_impl_ring)) (.leaf F_impl_Whole) (.leaf (F_impl_AddI (F_impl_series (F_impl_SqrI a0) ⟨1, rfl⟩) F_impl_tiny))
theorem r_impl_CosSeries (a0 : Iv) : Tb259.run B259 [enc a0] (Iv) = (t_impl_CosSeries a0).opt := by kernel_rfl
noncomputable def F_impl_CosSeries : Iv → Iv := fun a0 => (t_impl_CosSeries a0).get
theorem u_impl_CosSeries (a0 : Iv) : (t_impl_CosSeries a0).opt = some (F_impl_CosSeries a0) := Tr.tot_get (by kernel_rfl)
noncomputable def E_impl_CosSeries : Ent Tryz.prog := .of1 Tb259 B259 (fun _ => true) F_impl_CosSeries fun a0 _ => (r_impl_CosSeries a0).trans (u_impl_CosSeries a0)
noncomputable def B257 : Bod Tryz.prog := ⟨257, Tryz.f257, Tryz.f257.body.getD .skip, Tryz.func257, by kernel_rfl, by kernel_rfl, Loops.no _ _⟩
noncomputable def Tb257 : Tb Tryz.prog := { T := [Y2, Y27], mix := mix, Es := [E_impl_MeetI, E_impl_ring], Bs := [], d := 1 }
noncomputable def t_impl_inRing (a0 : Iv) : Tr (Iv) :=
  .leaf (F_impl_MeetI a0 F_impl_ring).a
theorem r_impl_inRing (a0 : Iv) : Tb257.run B257 [enc a0] (Iv) = (t_impl_inRing a0).opt := by kernel_rfl
noncomputable def F_impl_inRing : Iv → Iv := fun a0 => (t_impl_inRing a0).get
theorem u_impl_inRing (a0 : Iv) : (t_impl_inRing a0).opt = some (F_impl_inRing a0) := Tr.tot_get (by kernel_rfl)
noncomputable def E_impl_inRing : Ent Tryz.prog := .of1 Tb257 B257 (fun _ => true) F_impl_inRing fun a0 _ => (r_impl_inRing a0).trans (u_impl_inRing a0)
noncomputable def B245 : Bod Tryz.prog := ⟨245, Tryz.f245, Tryz.f245.body.getD .skip, Tryz.func245, by kernel_rfl, by kernel_rfl, Loops.no _ _⟩
noncomputable def Tb245 : Tb Tryz.prog := { T := [Y2, Y27], mix := mix, Es := [E_impl_ValidInterval, E_impl_isAngle], Bs := [], d := 1 }
noncomputable def t_impl_areAngles (a0 : Iv) : Tr (Bool) :=
  .br (F_impl_ValidInterval a0) (.br (F_impl_isAngle a0.lo) (.leaf (F_impl_isAngle a0.hi)) (.leaf false)) (.leaf false)
theorem r_impl_areAngles (a0 : Iv) : Tb245.run B245 [enc a0] (Bool) = (t_impl_areAngles a0).opt := by kernel_rfl
noncomputable def F_impl_areAngles : Iv → Bool := fun a0 => (t_impl_areAngles a0).get
theorem u_impl_areAngles (a0 : Iv) : (t_impl_areAngles a0).opt = some (F_impl_areAngles a0) := Tr.tot_get (by kernel_rfl)
noncomputable def E_impl_areAngles : Ent Tryz.prog := .of1 Tb245 B245 (fun _ => true) F_impl_areAngles fun a0 _ => (r_impl_areAngles a0).trans (u_impl_areAngles a0)
end
end Go.Proofs.YtcfflflcbacapaaGreat.Ev
