import Derived.Test.YtecfhpgpojgjkaaGreatW2
import Derived.Test.YtecfhpgpojgjkaaGreatP8
namespace Go.Proofs.YtecfhpgpojgjkaaGreat.Ev
open Go Go.RowKit
set_option maxRecDepth 100000
set_option linter.unusedVariables false
section
noncomputable def ET_spec_l02Root : Ent Tryz.prog := .of1 Tb351 B351 (fun _ => true) F_spec_l02Root fun a0 _ => (r_spec_l02Root a0).trans (tt_root_spec a0)
noncomputable def ET_impl_WideSqrt : Ent Tryz.prog := .of1 Tb350 B350 (fun _ => true) F_impl_WideSqrt fun a0 _ => (r_impl_WideSqrt a0).trans (tt_wsqrt_impl a0)
noncomputable def ET_spec_SqrtFloor : Ent Tryz.prog := .of2 Tb336 B336 (fun _ _ => true) F_spec_SqrtFloor fun a0 a1 _ => (r_spec_SqrtFloor a0 a1).trans (tt_sf_spec a0 a1)
noncomputable def ET_impl_SqrtFloor : Ent Tryz.prog := .of2 Tb332 B332 (fun _ _ => true) F_impl_SqrtFloor fun a0 a1 _ => (r_impl_SqrtFloor a0 a1).trans (tt_sf_impl a0 a1)
noncomputable def ET_spec_l03SqrtDown : Ent Tryz.prog := .of1 Tb312 B312 (fun _ => true) F_spec_l03SqrtDown fun a0 _ => (r_spec_l03SqrtDown a0).trans (tt_sd_spec a0)
noncomputable def ET_impl_SqrtDown : Ent Tryz.prog := .of1 Tb285 B285 (fun _ => true) F_impl_SqrtDown fun a0 _ => (r_impl_SqrtDown a0).trans (tt_sd_impl a0)
noncomputable def ET_spec_l03SqrtUp : Ent Tryz.prog := .of1 Tb313 B313 (fun _ => true) F_spec_l03SqrtUp fun a0 _ => (r_spec_l03SqrtUp a0).trans (tt_su_spec a0)
noncomputable def ET_impl_SqrtUp : Ent Tryz.prog := .of1 Tb286 B286 (fun _ => true) F_impl_SqrtUp fun a0 _ => (r_impl_SqrtUp a0).trans (tt_su_impl a0)
noncomputable def ET_spec_SqrtI : Ent Tryz.prog := .of1 Tb249 B249 (fun _ => true) F_spec_SqrtI fun a0 _ => (r_spec_SqrtI a0).trans (tt_sqrtI_spec a0)
noncomputable def ET_impl_SqrtI : Ent Tryz.prog := .of1 Tb206 B206 (fun _ => true) F_impl_SqrtI fun a0 _ => (r_impl_SqrtI a0).trans (tt_sqrtI_impl a0)
noncomputable def ET_impl_MulFloor : Ent Tryz.prog := .of3 Tb240 B240 (fun _ _ _ => true) F_impl_MulFloor fun a0 a1 a2 _ => (r_impl_MulFloor a0 a1 a2).trans (tt_mulfloor a0 a1 a2)
noncomputable def ET_impl_MulDown : Ent Tryz.prog := .of2 Tb195 B195 (fun _ _ => true) F_impl_MulDown fun a0 a1 _ => (r_impl_MulDown a0 a1).trans (tt_muldown a0 a1)
noncomputable def ET_impl_MulUp : Ent Tryz.prog := .of2 Tb196 B196 (fun _ _ => true) F_impl_MulUp fun a0 a1 _ => (r_impl_MulUp a0 a1).trans (tt_mulup a0 a1)
noncomputable def ET_impl_MulI : Ent Tryz.prog := .of2 Tb80 B80 (fun _ _ => true) F_impl_MulI fun a0 a1 _ => (r_impl_MulI a0 a1).trans (tt_mulI a0 a1)
noncomputable def ET_impl_SqrI : Ent Tryz.prog := .of1 Tb207 B207 (fun _ => true) F_impl_SqrI fun a0 _ => (r_impl_SqrI a0).trans (tt_sqrI a0)
noncomputable def B213 : Bod Tryz.prog := ⟨213, Tryz.f213, Tryz.f213.body.getD .skip, Tryz.func213, by kernel_rfl, by kernel_rfl, Loops.no _ _⟩
noncomputable def Tb213_p : Tb Tryz.prog := { T := [Y2, Y27], mix := mix, Es := [E_spec_MulFloor], Bs := [], d := 1 }
noncomputable def t_spec_l05Turn_p (a0 : I64) : Tr (Iv) :=
  .br (a0.val == 0) (.leaf ⟨⟨0, rfl⟩, ⟨0, rfl⟩⟩) (.br (decide (a0.val < 0)) (.bad) (let c2 := F_spec_MulFloor a0 ⟨7244019458077122842, rfl⟩ ⟨30, rfl⟩; .leaf ⟨c2.a, (Rng.w .i64 (c2.a.val + 1))⟩))
theorem r_spec_l05Turn_p (a0 : I64) : Tb213_p.run B213 [enc a0] (Iv) = (t_spec_l05Turn_p a0).opt := by kernel_rfl
noncomputable def F_spec_l05Turn_p : I64 → Iv := fun a0 => (t_spec_l05Turn_p a0).get
noncomputable def G_spec_l05Turn_p : I64 → Bool := fun a0 => (t_spec_l05Turn_p a0).opt.isSome
noncomputable def E_spec_l05Turn_p : Ent Tryz.prog := .of1 Tb213_p B213 G_spec_l05Turn_p F_spec_l05Turn_p fun a0 h => (r_spec_l05Turn_p a0).trans (Tr.get_some h)
noncomputable def Tb213 : Tb Tryz.prog := { T := [Y2, Y27], mix := mix, Es := [E_spec_l05Turn_p, E_spec_MulFloor], Bs := [], d := 1 }
noncomputable def t_spec_l05Turn (a0 : I64) : Tr (Iv) :=
  .br (a0.val == 0) (.leaf ⟨⟨0, rfl⟩, ⟨0, rfl⟩⟩) (.br (decide (a0.val < 0)) (let c1 := (Rng.w .i64 (0 - a0.val)); .br (G_spec_l05Turn_p c1) (let c2 := F_spec_l05Turn_p c1; .leaf ⟨(Rng.w .i64 (0 - c2.hi.val)), (Rng.w .i64 (0 - c2.lo.val))⟩) (.bad)) (let c5 := F_spec_MulFloor a0 ⟨7244019458077122842, rfl⟩ ⟨30, rfl⟩; .leaf ⟨c5.a, (Rng.w .i64 (c5.a.val + 1))⟩))
theorem r_spec_l05Turn (a0 : I64) : Tb213.run B213 [enc a0] (Iv) = (t_spec_l05Turn a0).opt := by kernel_rfl
noncomputable def F_spec_l05Turn : I64 → Iv := fun a0 => (t_spec_l05Turn a0).get
noncomputable def G_spec_l05Turn : I64 → Bool := fun a0 => (t_spec_l05Turn a0).opt.isSome
noncomputable def E_spec_l05Turn : Ent Tryz.prog := .of1 Tb213 B213 G_spec_l05Turn F_spec_l05Turn fun a0 h => (r_spec_l05Turn a0).trans (Tr.get_some h)
noncomputable def B177 : Bod Tryz.prog := ⟨177, Tryz.f177, Tryz.f177.body.getD .skip, Tryz.func177, by kernel_rfl, by kernel_rfl, Loops.no _ _⟩
noncomputable def Tb177 : Tb Tryz.prog := { T := [Y2, Y27], mix := mix, Es := [E_spec_l00In, E_spec_Whole, E_spec_l05Turn], Bs := [], d := 1 }
noncomputable def t_spec_TurnI (a0 : I64) : Tr (Iv) :=
  .br (!(F_spec_l00In a0 ⟨(-4096), rfl⟩ ⟨4096, rfl⟩)) (.leaf F_spec_Whole) (.br (G_spec_l05Turn a0) (.leaf (F_spec_l05Turn a0)) (.bad))
theorem r_spec_TurnI (a0 : I64) : Tb177.run B177 [enc a0] (Iv) = (t_spec_TurnI a0).opt := by kernel_rfl
noncomputable def F_spec_TurnI : I64 → Iv := fun a0 => (t_spec_TurnI a0).get
noncomputable def G_spec_TurnI : I64 → Bool := fun a0 => (t_spec_TurnI a0).opt.isSome
noncomputable def E_spec_TurnI : Ent Tryz.prog := .of1 Tb177 B177 G_spec_TurnI F_spec_TurnI fun a0 h => (r_spec_TurnI a0).trans (Tr.get_some h)
noncomputable def B120 : Bod Tryz.prog := ⟨120, Tryz.f120, Tryz.f120.body.getD .skip, Tryz.func120, by kernel_rfl, by kernel_rfl, Loops.no _ _⟩
noncomputable def Tb120_p : Tb Tryz.prog := { T := [Y2, Y27], mix := mix, Es := [E_impl_within, E_impl_Whole, ET_impl_MulFloor], Bs := [], d := 1 }
noncomputable def t_impl_TurnI_p (a0 : I64) : Tr (Iv) :=
  .br (!(F_impl_within a0 ⟨(-4096), rfl⟩ ⟨4096, rfl⟩)) (.leaf F_impl_Whole) (.br (decide (a0.val < 0)) (.bad) (.br (a0.val == 0) (.leaf ⟨⟨0, rfl⟩, ⟨0, rfl⟩⟩) (let c4 := F_impl_MulFloor a0 ⟨7244019458077122842, rfl⟩ ⟨30, rfl⟩; .leaf ⟨c4.a, (Rng.w .i64 (c4.a.val + 1))⟩)))
theorem r_impl_TurnI_p (a0 : I64) : Tb120_p.run B120 [enc a0] (Iv) = (t_impl_TurnI_p a0).opt := by kernel_rfl
noncomputable def F_impl_TurnI_p : I64 → Iv := fun a0 => (t_impl_TurnI_p a0).get
noncomputable def G_impl_TurnI_p : I64 → Bool := fun a0 => (t_impl_TurnI_p a0).opt.isSome
noncomputable def E_impl_TurnI_p : Ent Tryz.prog := .of1 Tb120_p B120 G_impl_TurnI_p F_impl_TurnI_p fun a0 h => (r_impl_TurnI_p a0).trans (Tr.get_some h)
noncomputable def Tb120 : Tb Tryz.prog := { T := [Y2, Y27], mix := mix, Es := [E_impl_within, E_impl_Whole, E_impl_TurnI_p, E_impl_NegI, ET_impl_MulFloor], Bs := [], d := 1 }
noncomputable def t_impl_TurnI (a0 : I64) : Tr (Iv) :=
  .br (!(F_impl_within a0 ⟨(-4096), rfl⟩ ⟨4096, rfl⟩)) (.leaf F_impl_Whole) (.br (decide (a0.val < 0)) (let c3 := (Rng.w .i64 (0 - a0.val)); .br (G_impl_TurnI_p c3) (.leaf (F_impl_NegI (F_impl_TurnI_p c3))) (.bad)) (.br (a0.val == 0) (.leaf ⟨⟨0, rfl⟩, ⟨0, rfl⟩⟩) (let c6 := F_impl_MulFloor a0 ⟨7244019458077122842, rfl⟩ ⟨30, rfl⟩; .leaf ⟨c6.a, (Rng.w .i64 (c6.a.val + 1))⟩)))
theorem r_impl_TurnI (a0 : I64) : Tb120.run B120 [enc a0] (Iv) = (t_impl_TurnI a0).opt := by kernel_rfl
noncomputable def F_impl_TurnI : I64 → Iv := fun a0 => (t_impl_TurnI a0).get
noncomputable def G_impl_TurnI : I64 → Bool := fun a0 => (t_impl_TurnI a0).opt.isSome
noncomputable def E_impl_TurnI : Ent Tryz.prog := .of1 Tb120 B120 G_impl_TurnI F_impl_TurnI fun a0 h => (r_impl_TurnI a0).trans (Tr.get_some h)
noncomputable def B276 : Bod Tryz.prog := ⟨276, Tryz.f276, Tryz.f276.body.getD .skip, Tryz.func276, by kernel_rfl, by kernel_rfl, Loops.no _ _⟩
noncomputable def Tb276 : Tb Tryz.prog := { T := [], mix := mix, Es := [E_spec_l00In], Bs := [], d := 1 }
noncomputable def t_spec_l06Angle (a0 : I64) : Tr (Bool) :=
  .leaf (F_spec_l00In a0 ⟨(-1099511627776), rfl⟩ ⟨1099511627776, rfl⟩)
theorem r_spec_l06Angle (a0 : I64) : Tb276.run B276 [enc a0] (Bool) = (t_spec_l06Angle a0).opt := by kernel_rfl
noncomputable def F_spec_l06Angle : I64 → Bool := fun a0 => (t_spec_l06Angle a0).get
theorem u_spec_l06Angle (a0 : I64) : (t_spec_l06Angle a0).opt = some (F_spec_l06Angle a0) := Tr.tot_get (by kernel_rfl)
noncomputable def E_spec_l06Angle : Ent Tryz.prog := .of1 Tb276 B276 (fun _ => true) F_spec_l06Angle fun a0 _ => (r_spec_l06Angle a0).trans (u_spec_l06Angle a0)
noncomputable def B277 : Bod Tryz.prog := ⟨277, Tryz.f277, Tryz.f277.body.getD .skip, Tryz.func277, by kernel_rfl, by kernel_rfl, Loops.no _ _⟩
noncomputable def Tb277 : Tb Tryz.prog := { T := [], mix := mix, Es := [], Bs := [], d := 1 }
noncomputable def t_spec_l06Floor (a0 : I64) (a1 : I64) : Tr (I64) :=
  .br (a1.val == 0) (.bad) (let c1 := (Rng.w .i64 (a0.val.tdiv a1.val)); .br (a1.val == 0) (.bad) (.br (decide ((Rng.w .i64 (a0.val.tmod a1.val)).val < 0)) (.leaf (Rng.w .i64 (c1.val - 1))) (.leaf c1)))
theorem r_spec_l06Floor (a0 : I64) (a1 : I64) : Tb277.run B277 [enc a0, enc a1] (I64) = (t_spec_l06Floor a0 a1).opt := by kernel_rfl
noncomputable def F_spec_l06Floor : I64 → I64 → I64 := fun a0 a1 => (t_spec_l06Floor a0 a1).get
noncomputable def G_spec_l06Floor : I64 → I64 → Bool := fun a0 a1 => (t_spec_l06Floor a0 a1).opt.isSome
noncomputable def E_spec_l06Floor : Ent Tryz.prog := .of2 Tb277 B277 G_spec_l06Floor F_spec_l06Floor fun a0 a1 h => (r_spec_l06Floor a0 a1).trans (Tr.get_some h)
noncomputable def B176 : Bod Tryz.prog := ⟨176, Tryz.f176, Tryz.f176.body.getD .skip, Tryz.func176, by kernel_rfl, by kernel_rfl, Loops.no _ _⟩
noncomputable def Tb176 : Tb Tryz.prog := { T := [], mix := mix, Es := [E_spec_l06Angle, E_spec_l06Floor], Bs := [], d := 1 }
noncomputable def t_spec_QuarterOf (a0 : I64) : Tr (I64) :=
  .br (!(F_spec_l06Angle a0)) (.leaf ⟨0, rfl⟩) (let c2 := (Rng.w .i64 (a0.val + 3373259426)); .br (G_spec_l06Floor c2 ⟨6746518852, rfl⟩) (.leaf (F_spec_l06Floor c2 ⟨6746518852, rfl⟩)) (.bad))
theorem r_spec_QuarterOf (a0 : I64) : Tb176.run B176 [enc a0] (I64) = (t_spec_QuarterOf a0).opt := by kernel_rfl
noncomputable def F_spec_QuarterOf : I64 → I64 := fun a0 => (t_spec_QuarterOf a0).get
noncomputable def G_spec_QuarterOf : I64 → Bool := fun a0 => (t_spec_QuarterOf a0).opt.isSome
noncomputable def E_spec_QuarterOf : Ent Tryz.prog := .of1 Tb176 B176 G_spec_QuarterOf F_spec_QuarterOf fun a0 h => (r_spec_QuarterOf a0).trans (Tr.get_some h)
noncomputable def B289 : Bod Tryz.prog := ⟨289, Tryz.f289, Tryz.f289.body.getD .skip, Tryz.func289, by kernel_rfl, by kernel_rfl, Loops.no _ _⟩
noncomputable def Tb289 : Tb Tryz.prog := { T := [], mix := mix, Es := [E_impl_within], Bs := [], d := 1 }
noncomputable def t_impl_isAngle (a0 : I64) : Tr (Bool) :=
  .leaf (F_impl_within a0 ⟨(-1099511627776), rfl⟩ ⟨1099511627776, rfl⟩)
theorem r_impl_isAngle (a0 : I64) : Tb289.run B289 [enc a0] (Bool) = (t_impl_isAngle a0).opt := by kernel_rfl
noncomputable def F_impl_isAngle : I64 → Bool := fun a0 => (t_impl_isAngle a0).get
theorem u_impl_isAngle (a0 : I64) : (t_impl_isAngle a0).opt = some (F_impl_isAngle a0) := Tr.tot_get (by kernel_rfl)
noncomputable def E_impl_isAngle : Ent Tryz.prog := .of1 Tb289 B289 (fun _ => true) F_impl_isAngle fun a0 _ => (r_impl_isAngle a0).trans (u_impl_isAngle a0)
noncomputable def B290 : Bod Tryz.prog := ⟨290, Tryz.f290, Tryz.f290.body.getD .skip, Tryz.func290, by kernel_rfl, by kernel_rfl, Loops.no _ _⟩
noncomputable def Tb290 : Tb Tryz.prog := { T := [], mix := mix, Es := [E_impl_isAngle], Bs := [], d := 1 }
noncomputable def t_impl_QuarterOf (a0 : I64) : Tr (I64) :=
  .br (!(F_impl_isAngle a0)) (.leaf ⟨0, rfl⟩) (let c3 := (Rng.w .i64 ((Rng.w .i64 (a0.val + 3373259426)).val.tdiv 6746518852)); .br (decide ((Rng.w .i64 (c3.val * 6746518852)).val > (Rng.w .i64 (a0.val + 3373259426)).val)) (.leaf (Rng.w .i64 (c3.val - 1))) (.leaf c3))
theorem r_impl_QuarterOf (a0 : I64) : Tb290.run B290 [enc a0] (I64) = (t_impl_QuarterOf a0).opt := by kernel_rfl
noncomputable def F_impl_QuarterOf : I64 → I64 := fun a0 => (t_impl_QuarterOf a0).get
theorem u_impl_QuarterOf (a0 : I64) : (t_impl_QuarterOf a0).opt = some (F_impl_QuarterOf a0) := Tr.tot_get (by kernel_rfl)
noncomputable def E_impl_QuarterOf : Ent Tryz.prog := .of1 Tb290 B290 (fun _ => true) F_impl_QuarterOf fun a0 _ => (r_impl_QuarterOf a0).trans (u_impl_QuarterOf a0)
noncomputable def B218 : Bod Tryz.prog := ⟨218, Tryz.f218, Tryz.f218.body.getD .skip, Tryz.func218, by kernel_rfl, by kernel_rfl, Loops.no _ _⟩
noncomputable def Tb218 : Tb Tryz.prog := { T := [Y2, Y27], mix := mix, Es := [E_spec_l04Ok, E_spec_l04Whole, E_spec_l00Min, E_spec_l00Max], Bs := [], d := 1 }
noncomputable def t_spec_MeetI (a0 : Iv) (a1 : Iv) : Tr (T2 Iv Bool) :=
  .br (!(F_spec_l04Ok a0)) (.br (!(F_spec_l04Ok a1)) (.leaf ⟨F_spec_l04Whole, true⟩) (.br (!(F_spec_l04Ok a0)) (.leaf ⟨a1, true⟩) (.br (!(F_spec_l04Ok a1)) (.leaf ⟨a0, true⟩) (let c6 := F_spec_l00Max a0.lo a1.lo; let c7 := F_spec_l00Min a0.hi a1.hi; .br (decide (c6.val > c7.val)) (.leaf ⟨⟨⟨0, rfl⟩, ⟨0, rfl⟩⟩, false⟩) (.leaf ⟨⟨c6, c7⟩, true⟩))))) (.br (!(F_spec_l04Ok a0)) (.leaf ⟨a1, true⟩) (.br (!(F_spec_l04Ok a1)) (.leaf ⟨a0, true⟩) (let c11 := F_spec_l00Max a0.lo a1.lo; let c12 := F_spec_l00Min a0.hi a1.hi; .br (decide (c11.val > c12.val)) (.leaf ⟨⟨⟨0, rfl⟩, ⟨0, rfl⟩⟩, false⟩) (.leaf ⟨⟨c11, c12⟩, true⟩))))
theorem r_spec_MeetI (a0 : Iv) (a1 : Iv) : Tb218.run B218 [enc a0, enc a1] (T2 Iv Bool) = (t_spec_MeetI a0 a1).opt := by kernel_rfl
noncomputable def F_spec_MeetI : Iv → Iv → T2 Iv Bool := fun a0 a1 => (t_spec_MeetI a0 a1).get
theorem u_spec_MeetI (a0 : Iv) (a1 : Iv) : (t_spec_MeetI a0 a1).opt = some (F_spec_MeetI a0 a1) := Tr.tot_get (by kernel_rfl)
noncomputable def E_spec_MeetI : Ent Tryz.prog := .of2 Tb218 B218 (fun _ _ => true) F_spec_MeetI fun a0 a1 _ => (r_spec_MeetI a0 a1).trans (u_spec_MeetI a0 a1)
noncomputable def B91 : Bod Tryz.prog := ⟨91, Tryz.f91, Tryz.f91.body.getD .skip, Tryz.func91, by kernel_rfl, by kernel_rfl, Loops.no _ _⟩
noncomputable def Tb91 : Tb Tryz.prog := { T := [Y2, Y27], mix := mix, Es := [E_spec_MeetI], Bs := [], d := 1 }
noncomputable def t_spec_OverlapI (a0 : Iv) (a1 : Iv) : Tr (Bool) :=
  .leaf (F_spec_MeetI a0 a1).b
theorem r_spec_OverlapI (a0 : Iv) (a1 : Iv) : Tb91.run B91 [enc a0, enc a1] (Bool) = (t_spec_OverlapI a0 a1).opt := by kernel_rfl
noncomputable def F_spec_OverlapI : Iv → Iv → Bool := fun a0 a1 => (t_spec_OverlapI a0 a1).get
theorem u_spec_OverlapI (a0 : Iv) (a1 : Iv) : (t_spec_OverlapI a0 a1).opt = some (F_spec_OverlapI a0 a1) := Tr.tot_get (by kernel_rfl)
noncomputable def E_spec_OverlapI : Ent Tryz.prog := .of2 Tb91 B91 (fun _ _ => true) F_spec_OverlapI fun a0 a1 _ => (r_spec_OverlapI a0 a1).trans (u_spec_OverlapI a0 a1)
noncomputable def B224 : Bod Tryz.prog := ⟨224, Tryz.f224, Tryz.f224.body.getD .skip, Tryz.func224, by kernel_rfl, by kernel_rfl, Loops.no _ _⟩
noncomputable def Tb224 : Tb Tryz.prog := { T := [Y2, Y27], mix := mix, Es := [E_impl_Whole, E_impl_IsWhole], Bs := [], d := 1 }
noncomputable def t_impl_MeetI (a0 : Iv) (a1 : Iv) : Tr (T2 Iv Bool) :=
  .br (F_impl_IsWhole a0) (.br (F_impl_IsWhole a1) (.leaf ⟨F_impl_Whole, true⟩) (.br (F_impl_IsWhole a0) (.leaf ⟨a1, true⟩) (.br (F_impl_IsWhole a1) (.leaf ⟨a0, true⟩) (.br (decide ((mx a0.lo a1.lo).val > (mn a0.hi a1.hi).val)) (.leaf ⟨⟨⟨0, rfl⟩, ⟨0, rfl⟩⟩, false⟩) (.leaf ⟨⟨(mx a0.lo a1.lo), (mn a0.hi a1.hi)⟩, true⟩))))) (.br (F_impl_IsWhole a0) (.leaf ⟨a1, true⟩) (.br (F_impl_IsWhole a1) (.leaf ⟨a0, true⟩) (.br (decide ((mx a0.lo a1.lo).val > (mn a0.hi a1.hi).val)) (.leaf ⟨⟨⟨0, rfl⟩, ⟨0, rfl⟩⟩, false⟩) (.leaf ⟨⟨(mx a0.lo a1.lo), (mn a0.hi a1.hi)⟩, true⟩))))
theorem r_impl_MeetI (a0 : Iv) (a1 : Iv) : Tb224.run B224 [enc a0, enc a1] (T2 Iv Bool) = (t_impl_MeetI a0 a1).opt := by kernel_rfl
noncomputable def F_impl_MeetI : Iv → Iv → T2 Iv Bool := fun a0 a1 => (t_impl_MeetI a0 a1).get
theorem u_impl_MeetI (a0 : Iv) (a1 : Iv) : (t_impl_MeetI a0 a1).opt = some (F_impl_MeetI a0 a1) := Tr.tot_get (by kernel_rfl)
noncomputable def E_impl_MeetI : Ent Tryz.prog := .of2 Tb224 B224 (fun _ _ => true) F_impl_MeetI fun a0 a1 _ => (r_impl_MeetI a0 a1).trans (u_impl_MeetI a0 a1)
noncomputable def B96 : Bod Tryz.prog := ⟨96, Tryz.f96, Tryz.f96.body.getD .skip, Tryz.func96, by kernel_rfl, by kernel_rfl, Loops.no _ _⟩
noncomputable def Tb96 : Tb Tryz.prog := { T := [Y2, Y27], mix := mix, Es := [E_impl_MeetI], Bs := [], d := 1 }
noncomputable def t_impl_OverlapI (a0 : Iv) (a1 : Iv) : Tr (Bool) :=
  .leaf (F_impl_MeetI a0 a1).b
theorem r_impl_OverlapI (a0 : Iv) (a1 : Iv) : Tb96.run B96 [enc a0, enc a1] (Bool) = (t_impl_OverlapI a0 a1).opt := by kernel_rfl
noncomputable def F_impl_OverlapI : Iv → Iv → Bool := fun a0 a1 => (t_impl_OverlapI a0 a1).get
theorem u_impl_OverlapI (a0 : Iv) (a1 : Iv) : (t_impl_OverlapI a0 a1).opt = some (F_impl_OverlapI a0 a1) := Tr.tot_get (by kernel_rfl)
noncomputable def E_impl_OverlapI : Ent Tryz.prog := .of2 Tb96 B96 (fun _ _ => true) F_impl_OverlapI fun a0 a1 _ => (r_impl_OverlapI a0 a1).trans (u_impl_OverlapI a0 a1)
noncomputable def B303 : Bod Tryz.prog := ⟨303, Tryz.f303, Tryz.f303.body.getD .skip, Tryz.func303, by kernel_rfl, by kernel_rfl, Loops.no _ _⟩
noncomputable def Tb303 : Tb Tryz.prog := { T := [Y2, Y27], mix := mix, Es := [E_spec_l04Ok], Bs := [], d := 1 }
noncomputable def t_spec_InsideI (a0 : Iv) (a1 : Iv) : Tr (Bool) :=
  .br (!(F_spec_l04Ok a1)) (.leaf true) (.br (F_spec_l04Ok a0) (.br (decide (a1.lo.val ≤ a0.lo.val)) (.leaf (decide (a0.hi.val ≤ a1.hi.val))) (.leaf false)) (.leaf false))
theorem r_spec_InsideI (a0 : Iv) (a1 : Iv) : Tb303.run B303 [enc a0, enc a1] (Bool) = (t_spec_InsideI a0 a1).opt := by kernel_rfl
noncomputable def F_spec_InsideI : Iv → Iv → Bool := fun a0 a1 => (t_spec_InsideI a0 a1).get
theorem u_spec_InsideI (a0 : Iv) (a1 : Iv) : (t_spec_InsideI a0 a1).opt = some (F_spec_InsideI a0 a1) := Tr.tot_get (by kernel_rfl)
noncomputable def E_spec_InsideI : Ent Tryz.prog := .of2 Tb303 B303 (fun _ _ => true) F_spec_InsideI fun a0 a1 _ => (r_spec_InsideI a0 a1).trans (u_spec_InsideI a0 a1)
noncomputable def B342 : Bod Tryz.prog := ⟨342, Tryz.f342, Tryz.f342.body.getD .skip, Tryz.func342, by kernel_rfl, by kernel_rfl, Loops.no _ _⟩
noncomputable def Tb342 : Tb Tryz.prog := { T := [Y2, Y27], mix := mix, Es := [E_impl_IsWhole], Bs := [], d := 1 }
noncomputable def t_impl_InsideI (a0 : Iv) (a1 : Iv) : Tr (Bool) :=
  .br (F_impl_IsWhole a0) (.leaf (F_impl_IsWhole a1)) (.br (F_impl_IsWhole a1) (.leaf (F_impl_IsWhole a1)) (.br (decide (a1.lo.val ≤ a0.lo.val)) (.leaf (decide (a0.hi.val ≤ a1.hi.val))) (.leaf false)))
theorem r_impl_InsideI (a0 : Iv) (a1 : Iv) : Tb342.run B342 [enc a0, enc a1] (Bool) = (t_impl_InsideI a0 a1).opt := by kernel_rfl
noncomputable def F_impl_InsideI : Iv → Iv → Bool := fun a0 a1 => (t_impl_InsideI a0 a1).get
theorem u_impl_InsideI (a0 : Iv) (a1 : Iv) : (t_impl_InsideI a0 a1).opt = some (F_impl_InsideI a0 a1) := Tr.tot_get (by kernel_rfl)
noncomputable def E_impl_InsideI : Ent Tryz.prog := .of2 Tb342 B342 (fun _ _ => true) F_impl_InsideI fun a0 a1 _ => (r_impl_InsideI a0 a1).trans (u_impl_InsideI a0 a1)
noncomputable def B178 : Bod Tryz.prog := ⟨178, Tryz.f178, Tryz.f178.body.getD .skip, Tryz.func178, by kernel_rfl, by kernel_rfl, Loops.no _ _⟩
noncomputable def Tb178 : Tb Tryz.prog := { T := [Y2, Y27], mix := mix, Es := [E_spec_l04Ok, E_spec_l04Whole, E_spec_l00Min, E_spec_l00Max, E_spec_l04Make], Bs := [], d := 1 }
noncomputable def t_spec_HullI (a0 : Iv) (a1 : Iv) : Tr (Iv) :=
  .br (!(F_spec_l04Ok a0)) (.leaf F_spec_l04Whole) (.br (!(F_spec_l04Ok a1)) (.leaf F_spec_l04Whole) (.leaf (F_spec_l04Make (F_spec_l00Min a0.lo a1.lo) (F_spec_l00Max a0.hi a1.hi))))
theorem r_spec_HullI (a0 : Iv) (a1 : Iv) : Tb178.run B178 [enc a0, enc a1] (Iv) = (t_spec_HullI a0 a1).opt := by kernel_rfl
noncomputable def F_spec_HullI : Iv → Iv → Iv := fun a0 a1 => (t_spec_HullI a0 a1).get
theorem u_spec_HullI (a0 : Iv) (a1 : Iv) : (t_spec_HullI a0 a1).opt = some (F_spec_HullI a0 a1) := Tr.tot_get (by kernel_rfl)
noncomputable def E_spec_HullI : Ent Tryz.prog := .of2 Tb178 B178 (fun _ _ => true) F_spec_HullI fun a0 a1 _ => (r_spec_HullI a0 a1).trans (u_spec_HullI a0 a1)
noncomputable def B212 : Bod Tryz.prog := ⟨212, Tryz.f212, Tryz.f212.body.getD .skip, Tryz.func212, by kernel_rfl, by kernel_rfl, Loops.no _ _⟩
noncomputable def Tb212 : Tb Tryz.prog := { T := [Y2, Y27], mix := mix, Es := [E_impl_Whole, E_impl_areBounded], Bs := [], d := 1 }
noncomputable def t_impl_HullI (a0 : Iv) (a1 : Iv) : Tr (Iv) :=
  .br (!(F_impl_areBounded a0 a1)) (.leaf F_impl_Whole) (.leaf ⟨(mn a0.lo a1.lo), (mx a0.hi a1.hi)⟩)
theorem r_impl_HullI (a0 : Iv) (a1 : Iv) : Tb212.run B212 [enc a0, enc a1] (Iv) = (t_impl_HullI a0 a1).opt := by kernel_rfl
noncomputable def F_impl_HullI : Iv → Iv → Iv := fun a0 a1 => (t_impl_HullI a0 a1).get
theorem u_impl_HullI (a0 : Iv) (a1 : Iv) : (t_impl_HullI a0 a1).opt = some (F_impl_HullI a0 a1) := Tr.tot_get (by kernel_rfl)
noncomputable def E_impl_HullI : Ent Tryz.prog := .of2 Tb212 B212 (fun _ _ => true) F_impl_HullI fun a0 a1 _ => (r_impl_HullI a0 a1).trans (u_impl_HullI a0 a1)
noncomputable def B160 : Bod Tryz.prog := ⟨160, Tryz.f160, Tryz.f160.body.getD .skip, Tryz.func160, by kernel_rfl, by kernel_rfl, Loops.no _ _⟩
noncomputable def Tb160 : Tb Tryz.prog := { T := [Y2, Y27], mix := mix, Es := [E_spec_l04Ok, E_spec_l04Whole, E_spec_l04Make], Bs := [], d := 1 }
noncomputable def t_spec_AddI (a0 : Iv) (a1 : Iv) : Tr (Iv) :=
  .br (!(F_spec_l04Ok a0)) (.leaf F_spec_l04Whole) (.br (!(F_spec_l04Ok a1)) (.leaf F_spec_l04Whole) (.leaf (F_spec_l04Make (Rng.w .i64 (a0.lo.val + a1.lo.val)) (Rng.w .i64 (a0.hi.val + a1.hi.val)))))
theorem r_spec_AddI (a0 : Iv) (a1 : Iv) : Tb160.run B160 [enc a0, enc a1] (Iv) = (t_spec_AddI a0 a1).opt := by kernel_rfl
noncomputable def F_spec_AddI : Iv → Iv → Iv := fun a0 a1 => (t_spec_AddI a0 a1).get
theorem u_spec_AddI (a0 : Iv) (a1 : Iv) : (t_spec_AddI a0 a1).opt = some (F_spec_AddI a0 a1) := Tr.tot_get (by kernel_rfl)
noncomputable def E_spec_AddI : Ent Tryz.prog := .of2 Tb160 B160 (fun _ _ => true) F_spec_AddI fun a0 a1 _ => (r_spec_AddI a0 a1).trans (u_spec_AddI a0 a1)
noncomputable def B163 : Bod Tryz.prog := ⟨163, Tryz.f163, Tryz.f163.body.getD .skip, Tryz.func163, by kernel_rfl, by kernel_rfl, Loops.no _ _⟩
noncomputable def Tb163 : Tb Tryz.prog := { T := [Y2, Y27], mix := mix, Es := [E_impl_Whole, E_impl_areBounded, E_impl_bounded], Bs := [], d := 1 }
noncomputable def t_impl_AddI (a0 : Iv) (a1 : Iv) : Tr (Iv) :=
  .br (!(F_impl_areBounded a0 a1)) (.leaf F_impl_Whole) (.leaf (F_impl_bounded (Rng.w .i64 (a0.lo.val + a1.lo.val)) (Rng.w .i64 (a0.hi.val + a1.hi.val)) true))
theorem r_impl_AddI (a0 : Iv) (a1 : Iv) : Tb163.run B163 [enc a0, enc a1] (Iv) = (t_impl_AddI a0 a1).opt := by kernel_rfl
noncomputable def F_impl_AddI : Iv → Iv → Iv := fun a0 a1 => (t_impl_AddI a0 a1).get
theorem u_impl_AddI (a0 : Iv) (a1 : Iv) : (t_impl_AddI a0 a1).opt = some (F_impl_AddI a0 a1) := Tr.tot_get (by kernel_rfl)
noncomputable def E_impl_AddI : Ent Tryz.prog := .of2 Tb163 B163 (fun _ _ => true) F_impl_AddI fun a0 a1 _ => (r_impl_AddI a0 a1).trans (u_impl_AddI a0 a1)
noncomputable def B154 : Bod Tryz.prog := ⟨154, Tryz.f154, Tryz.f154.body.getD .skip, Tryz.func154, by kernel_rfl, by kernel_rfl, Loops.no _ _⟩
noncomputable def Tb154 : Tb Tryz.prog := { T := [Y2, Y27], mix := mix, Es := [E_spec_l04Ok, E_spec_l04Whole, E_spec_l04Make], Bs := [], d := 1 }
noncomputable def t_spec_SubI (a0 : Iv) (a1 : Iv) : Tr (Iv) :=
  .br (!(F_spec_l04Ok a0)) (.leaf F_spec_l04Whole) (.br (!(F_spec_l04Ok a1)) (.leaf F_spec_l04Whole) (.leaf (F_spec_l04Make (Rng.w .i64 (a0.lo.val - a1.hi.val)) (Rng.w .i64 (a0.hi.val - a1.lo.val)))))
theorem r_spec_SubI (a0 : Iv) (a1 : Iv) : Tb154.run B154 [enc a0, enc a1] (Iv) = (t_spec_SubI a0 a1).opt := by kernel_rfl
noncomputable def F_spec_SubI : Iv → Iv → Iv := fun a0 a1 => (t_spec_SubI a0 a1).get
theorem u_spec_SubI (a0 : Iv) (a1 : Iv) : (t_spec_SubI a0 a1).opt = some (F_spec_SubI a0 a1) := Tr.tot_get (by kernel_rfl)
noncomputable def E_spec_SubI : Ent Tryz.prog := .of2 Tb154 B154 (fun _ _ => true) F_spec_SubI fun a0 a1 _ => (r_spec_SubI a0 a1).trans (u_spec_SubI a0 a1)
noncomputable def B157 : Bod Tryz.prog := ⟨157, Tryz.f157, Tryz.f157.body.getD .skip, Tryz.func157, by kernel_rfl, by kernel_rfl, Loops.no _ _⟩
noncomputable def Tb157 : Tb Tryz.prog := { T := [Y2, Y27], mix := mix, Es := [E_impl_NegI, E_impl_AddI], Bs := [], d := 1 }
noncomputable def t_impl_SubI (a0 : Iv) (a1 : Iv) : Tr (Iv) :=
  .leaf (F_impl_AddI a0 (F_impl_NegI a1))
theorem r_impl_SubI (a0 : Iv) (a1 : Iv) : Tb157.run B157 [enc a0, enc a1] (Iv) = (t_impl_SubI a0 a1).opt := by kernel_rfl
noncomputable def F_impl_SubI : Iv → Iv → Iv := fun a0 a1 => (t_impl_SubI a0 a1).get
theorem u_impl_SubI (a0 : Iv) (a1 : Iv) : (t_impl_SubI a0 a1).opt = some (F_impl_SubI a0 a1) := Tr.tot_get (by kernel_rfl)
noncomputable def E_impl_SubI : Ent Tryz.prog := .of2 Tb157 B157 (fun _ _ => true) F_impl_SubI fun a0 a1 _ => (r_impl_SubI a0 a1).trans (u_impl_SubI a0 a1)
noncomputable def B92 : Bod Tryz.prog := ⟨92, Tryz.f92, Tryz.f92.body.getD .skip, Tryz.func92, by kernel_rfl, by kernel_rfl, Loops.no _ _⟩
noncomputable def Tb92 : Tb Tryz.prog := { T := [Y2, Y27], mix := mix, Es := [], Bs := [], d := 1 }
noncomputable def t_spec_l06Ring : Tr (Iv) :=
  .leaf ⟨⟨(-4294967296), rfl⟩, ⟨4294967296, rfl⟩⟩
theorem r_spec_l06Ring : Tb92.run B92 [] (Iv) = (t_spec_l06Ring).opt := by kernel_rfl
noncomputable def F_spec_l06Ring : Iv := (t_spec_l06Ring).get
theorem u_spec_l06Ring : (t_spec_l06Ring).opt = some (F_spec_l06Ring) := Tr.tot_get (by kernel_rfl)
noncomputable def E_spec_l06Ring : Ent Tryz.prog := .of0 Tb92 B92 F_spec_l06Ring (r_spec_l06Ring.trans u_spec_l06Ring)
noncomputable def B142 : Bod Tryz.prog := ⟨142, Tryz.f142, Tryz.f142.body.getD .skip, Tryz.func142, by kernel_rfl, by kernel_rfl, Loops.no _ _⟩
noncomputable def Tb142 : Tb Tryz.prog := { T := [Y2, Y27], mix := mix, Es := [E_spec_l00In, E_spec_l04Whole, E_spec_l04Make], Bs := [], d := 1 }
noncomputable def t_spec_Integer (a0 : I64) : Tr (Iv) :=
  .br (!(F_spec_l00In a0 ⟨(-268435455), rfl⟩ ⟨268435455, rfl⟩)) (.leaf F_spec_l04Whole) (.leaf (F_spec_l04Make (Rng.w .i64 (a0.val * 4294967296)) (Rng.w .i64 (a0.val * 4294967296))))
theorem r_spec_Integer (a0 : I64) : Tb142.run B142 [enc a0] (Iv) = (t_spec_Integer a0).opt := by kernel_rfl
noncomputable def F_spec_Integer : I64 → Iv := fun a0 => (t_spec_Integer a0).get
theorem u_spec_Integer (a0 : I64) : (t_spec_Integer a0).opt = some (F_spec_Integer a0) := Tr.tot_get (by kernel_rfl)
noncomputable def E_spec_Integer : Ent Tryz.prog := .of1 Tb142 B142 (fun _ => true) F_spec_Integer fun a0 _ => (r_spec_Integer a0).trans (u_spec_Integer a0)
noncomputable def B346 : Bod Tryz.prog := ⟨346, Tryz.f346, Tryz.f346.body.getD .skip, Tryz.func346, by kernel_rfl, by kernel_rfl, Loops.no _ _⟩
noncomputable def Tb346 : Tb Tryz.prog := { T := [Y2, Y27], mix := mix, Es := [E_spec_MulI, E_spec_DivI, E_spec_Integer, E_spec_SubI], Bs := [], d := 1 }
noncomputable def t_spec_l06Series (a0 : Iv) (a1 : I64) : Tr (Iv) :=
  let c2 := (Rng.w .i64 (16 + a1.val)); let c10 := (Rng.w .i64 (14 + a1.val)); let c18 := (Rng.w .i64 (12 + a1.val)); let c26 := (Rng.w .i64 (10 + a1.val)); let c34 := (Rng.w .i64 (8 + a1.val)); let c42 := (Rng.w .i64 (6 + a1.val)); let c50 := (Rng.w .i64 (4 + a1.val)); let c58 := (Rng.w .i64 (2 + a1.val)); .leaf (F_spec_SubI (F_spec_Integer ⟨1, rfl⟩) (F_spec_MulI (F_spec_DivI a0 (F_spec_Integer (Rng.w .i64 (c58.val * (Rng.w .i64 (c58.val + 1)).val)))) (F_spec_SubI (F_spec_Integer ⟨1, rfl⟩) (F_spec_MulI (F_spec_DivI a0 (F_spec_Integer (Rng.w .i64 (c50.val * (Rng.w .i64 (c50.val + 1)).val)))) (F_spec_SubI (F_spec_Integer ⟨1, rfl⟩) (F_spec_MulI (F_spec_DivI a0 (F_spec_Integer (Rng.w .i64 (c42.val * (Rng.w .i64 (c42.val + 1)).val)))) (F_spec_SubI (F_spec_Integer ⟨1, rfl⟩) (F_spec_MulI (F_spec_DivI a0 (F_spec_Integer (Rng.w .i64 (c34.val * (Rng.w .i64 (c34.val + 1)).val)))) (F_spec_SubI (F_spec_Integer ⟨1, rfl⟩) (F_spec_MulI (F_spec_DivI a0 (F_spec_Integer (Rng.w .i64 (c26.val * (Rng.w .i64 (c26.val + 1)).val)))) (F_spec_SubI (F_spec_Integer ⟨1, rfl⟩) (F_spec_MulI (F_spec_DivI a0 (F_spec_Integer (Rng.w .i64 (c18.val * (Rng.w .i64 (c18.val + 1)).val)))) (F_spec_SubI (F_spec_Integer ⟨1, rfl⟩) (F_spec_MulI (F_spec_DivI a0 (F_spec_Integer (Rng.w .i64 (c10.val * (Rng.w .i64 (c10.val + 1)).val)))) (F_spec_SubI (F_spec_Integer ⟨1, rfl⟩) (F_spec_MulI (F_spec_DivI a0 (F_spec_Integer (Rng.w .i64 (c2.val * (Rng.w .i64 (c2.val + 1)).val)))) (F_spec_Integer ⟨1, rfl⟩)))))))))))))))))
theorem r_spec_l06Series (a0 : Iv) (a1 : I64) : Tb346.run B346 [enc a0, enc a1] (Iv) = (t_spec_l06Series a0 a1).opt := by kernel_rfl
noncomputable def F_spec_l06Series : Iv → I64 → Iv := fun a0 a1 => (t_spec_l06Series a0 a1).get
theorem u_spec_l06Series (a0 : Iv) (a1 : I64) : (t_spec_l06Series a0 a1).opt = some (F_spec_l06Series a0 a1) := Tr.tot_get (by kernel_rfl)
noncomputable def E_spec_l06Series : Ent Tryz.prog := .of2 Tb346 B346 (fun _ _ => true) F_spec_l06Series fun a0 a1 _ => (r_spec_l06Series a0 a1).trans (u_spec_l06Series a0 a1)
noncomputable def B347 : Bod Tryz.prog := ⟨347, Tryz.f347, Tryz.f347.body.getD .skip, Tryz.func347, by kernel_rfl, by kernel_rfl, Loops.no _ _⟩
noncomputable def Tb347 : Tb Tryz.prog := { T := [Y2, Y27], mix := mix, Es := [], Bs := [], d := 1 }
noncomputable def t_spec_l06Tiny : Tr (Iv) :=
  .leaf ⟨⟨(-1), rfl⟩, ⟨1, rfl⟩⟩
theorem r_spec_l06Tiny : Tb347.run B347 [] (Iv) = (t_spec_l06Tiny).opt := by kernel_rfl
noncomputable def F_spec_l06Tiny : Iv := (t_spec_l06Tiny).get
theorem u_spec_l06Tiny : (t_spec_l06Tiny).opt = some (F_spec_l06Tiny) := Tr.tot_get (by kernel_rfl)
noncomputable def E_spec_l06Tiny : Ent Tryz.prog := .of0 Tb347 B347 F_spec_l06Tiny (r_spec_l06Tiny.trans u_spec_l06Tiny)
noncomputable def B317 : Bod Tryz.prog := ⟨317, Tryz.f317, Tryz.f317.body.getD .skip, Tryz.func317, by kernel_rfl, by kernel_rfl, Loops.no _ _⟩
noncomputable def Tb317 : Tb Tryz.prog := { T := [Y2, Y27], mix := mix, Es := [E_spec_MulI, E_spec_l06Ring, E_spec_Whole, E_spec_AddI, E_spec_SqrI, E_spec_InsideI, E_spec_l06Series, E_spec_l06Tiny], Bs := [], d := 1 }
noncomputable def t_spec_SinSeries (a0 : Iv) : Tr (Iv) :=
  .br (!(F_spec_InsideI a0 F_spec_l06Ring)) (.leaf F_spec_Whole) (.leaf (F_spec_AddI (F_spec_MulI a0 (F_spec_l06Series (F_spec_SqrI a0) ⟨0, rfl⟩)) F_spec_l06Tiny))
theorem r_spec_SinSeries (a0 : Iv) : Tb317.run B317 [enc a0] (Iv) = (t_spec_SinSeries a0).opt := by kernel_rfl
noncomputable def F_spec_SinSeries : Iv → Iv := fun a0 => (t_spec_SinSeries a0).get
theorem u_spec_SinSeries (a0 : Iv) : (t_spec_SinSeries a0).opt = some (F_spec_SinSeries a0) := Tr.tot_get (by kernel_rfl)
noncomputable def E_spec_SinSeries : Ent Tryz.prog := .of1 Tb317 B317 (fun _ => true) F_spec_SinSeries fun a0 _ => (r_spec_SinSeries a0).trans (u_spec_SinSeries a0)
noncomputable def B318 : Bod Tryz.prog := ⟨318, Tryz.f318, Tryz.f318.body.getD .skip, Tryz.func318, by kernel_rfl, by kernel_rfl, Loops.no _ _⟩
noncomputable def Tb318 : Tb Tryz.prog := { T := [Y2, Y27], mix := mix, Es := [E_spec_l06Ring, E_spec_Whole, E_spec_AddI, E_spec_SqrI, E_spec_InsideI, E_spec_l06Series, E_spec_l06Tiny], Bs := [], d := 1 }
noncomputable def t_spec_CosSeries (a0 : Iv) : Tr (Iv) :=
  .br (!(F_spec_InsideI a0 F_spec_l06Ring)) (.leaf F_spec_Whole) (.leaf (F_spec_AddI (F_spec_l06Series (F_spec_SqrI a0) ⟨(-1), rfl⟩) F_spec_l06Tiny))
theorem r_spec_CosSeries (a0 : Iv) : Tb318.run B318 [enc a0] (Iv) = (t_spec_CosSeries a0).opt := by kernel_rfl
noncomputable def F_spec_CosSeries : Iv → Iv := fun a0 => (t_spec_CosSeries a0).get
theorem u_spec_CosSeries (a0 : Iv) : (t_spec_CosSeries a0).opt = some (F_spec_CosSeries a0) := Tr.tot_get (by kernel_rfl)
noncomputable def E_spec_CosSeries : Ent Tryz.prog := .of1 Tb318 B318 (fun _ => true) F_spec_CosSeries fun a0 _ => (r_spec_CosSeries a0).trans (u_spec_CosSeries a0)
noncomputable def B316 : Bod Tryz.prog := ⟨316, Tryz.f316, Tryz.f316.body.getD .skip, Tryz.func316, by kernel_rfl, by kernel_rfl, Loops.no _ _⟩
noncomputable def Tb316 : Tb Tryz.prog := { T := [Y2, Y27], mix := mix, Es := [E_spec_l06Ring, E_spec_MeetI], Bs := [], d := 1 }
noncomputable def t_spec_l06Meet (a0 : Iv) : Tr (Iv) :=
  let c2 := F_spec_MeetI a0 F_spec_l06Ring; .br (!c2.b) (.leaf F_spec_l06Ring) (.leaf c2.a)
theorem r_spec_l06Meet (a0 : Iv) : Tb316.run B316 [enc a0] (Iv) = (t_spec_l06Meet a0).opt := by kernel_rfl
noncomputable def F_spec_l06Meet : Iv → Iv := fun a0 => (t_spec_l06Meet a0).get
theorem u_spec_l06Meet (a0 : Iv) : (t_spec_l06Meet a0).opt = some (F_spec_l06Meet a0) := Tr.tot_get (by kernel_rfl)
noncomputable def E_spec_l06Meet : Ent Tryz.prog := .of1 Tb316 B316 (fun _ => true) F_spec_l06Meet fun a0 _ => (r_spec_l06Meet a0).trans (u_spec_l06Meet a0)
noncomputable def B275 : Bod Tryz.prog := ⟨275, Tryz.f275, Tryz.f275.body.getD .skip, Tryz.func275, by kernel_rfl, by kernel_rfl, Loops.no _ _⟩
noncomputable def Tb275 : Tb Tryz.prog := { T := [Y27], mix := mix, Es := [E_spec_l04Ok], Bs := [], d := 1 }
noncomputable def t_spec_ValidInterval (a0 : Iv) : Tr (Bool) :=
  .leaf (F_spec_l04Ok a0)
theorem r_spec_ValidInterval (a0 : Iv) : Tb275.run B275 [enc a0] (Bool) = (t_spec_ValidInterval a0).opt := by kernel_rfl
noncomputable def F_spec_ValidInterval : Iv → Bool := fun a0 => (t_spec_ValidInterval a0).get
theorem u_spec_ValidInterval (a0 : Iv) : (t_spec_ValidInterval a0).opt = some (F_spec_ValidInterval a0) := Tr.tot_get (by kernel_rfl)
noncomputable def E_spec_ValidInterval : Ent Tryz.prog := .of1 Tb275 B275 (fun _ => true) F_spec_ValidInterval fun a0 _ => (r_spec_ValidInterval a0).trans (u_spec_ValidInterval a0)
noncomputable def B175 : Bod Tryz.prog := ⟨175, Tryz.f175, Tryz.f175.body.getD .skip, Tryz.func175, by kernel_rfl, by kernel_rfl, Loops.no _ _⟩
noncomputable def Tb175 : Tb Tryz.prog := { T := [Y2, Y27], mix := mix, Es := [E_spec_ValidInterval, E_spec_l06Angle], Bs := [], d := 1 }
noncomputable def t_spec_l06Fits (a0 : Iv) : Tr (Bool) :=
  .br (F_spec_ValidInterval a0) (.br (F_spec_l06Angle a0.lo) (.leaf (F_spec_l06Angle a0.hi)) (.leaf false)) (.leaf false)
theorem r_spec_l06Fits (a0 : Iv) : Tb175.run B175 [enc a0] (Bool) = (t_spec_l06Fits a0).opt := by kernel_rfl
noncomputable def F_spec_l06Fits : Iv → Bool := fun a0 => (t_spec_l06Fits a0).get
theorem u_spec_l06Fits (a0 : Iv) : (t_spec_l06Fits a0).opt = some (F_spec_l06Fits a0) := Tr.tot_get (by kernel_rfl)
noncomputable def E_spec_l06Fits : Ent Tryz.prog := .of1 Tb175 B175 (fun _ => true) F_spec_l06Fits fun a0 _ => (r_spec_l06Fits a0).trans (u_spec_l06Fits a0)
noncomputable def B97 : Bod Tryz.prog := ⟨97, Tryz.f97, Tryz.f97.body.getD .skip, Tryz.func97, by kernel_rfl, by kernel_rfl, Loops.no _ _⟩
noncomputable def Tb97 : Tb Tryz.prog := { T := [Y2, Y27], mix := mix, Es := [], Bs := [], d := 1 }
noncomputable def t_impl_ring : Tr (Iv) :=
  .leaf ⟨⟨(-4294967296), rfl⟩, ⟨4294967296, rfl⟩⟩
theorem r_impl_ring : Tb97.run B97 [] (Iv) = (t_impl_ring).opt := by kernel_rfl
noncomputable def F_impl_ring : Iv := (t_impl_ring).get
theorem u_impl_ring : (t_impl_ring).opt = some (F_impl_ring) := Tr.tot_get (by kernel_rfl)
noncomputable def E_impl_ring : Ent Tryz.prog := .of0 Tb97 B97 F_impl_ring (r_impl_ring.trans u_impl_ring)
noncomputable def B119 : Bod Tryz.prog := ⟨119, Tryz.f119, Tryz.f119.body.getD .skip, Tryz.func119, by kernel_rfl, by kernel_rfl, Loops.no _ _⟩
noncomputable def Tb119 : Tb Tryz.prog := { T := [Y2, Y27], mix := mix, Es := [E_impl_within, E_impl_Whole, E_impl_bounded], Bs := [], d := 1 }
noncomputable def t_impl_Integer (a0 : I64) : Tr (Iv) :=
  .br (!(F_impl_within a0 ⟨(-268435456), rfl⟩ ⟨268435456, rfl⟩)) (.leaf F_impl_Whole) (.leaf (F_impl_bounded (Rng.w .i64 (a0.val * 4294967296)) (Rng.w .i64 (a0.val * 4294967296)) true))
theorem r_impl_Integer (a0 : I64) : Tb119.run B119 [enc a0] (Iv) = (t_impl_Integer a0).opt := by kernel_rfl
noncomputable def F_impl_Integer : I64 → Iv := fun a0 => (t_impl_Integer a0).get
theorem u_impl_Integer (a0 : I64) : (t_impl_Integer a0).opt = some (F_impl_Integer a0) := Tr.tot_get (by kernel_rfl)
noncomputable def E_impl_Integer : Ent Tryz.prog := .of1 Tb119 B119 (fun _ => true) F_impl_Integer fun a0 _ => (r_impl_Integer a0).trans (u_impl_Integer a0)
noncomputable def B343 : Bod Tryz.prog := ⟨343, Tryz.f343, Tryz.f343.body.getD .skip, Tryz.func343, by kernel_rfl, by kernel_rfl, Loops.no _ _⟩
noncomputable def Tb343 : Tb Tryz.prog := { T := [Y2, Y27], mix := mix, Es := [ET_impl_MulI, E_impl_DivI, E_impl_Integer, E_impl_SubI], Bs := [], d := 1 }
noncomputable def t_impl_series (a0 : Iv) (a1 : I64) : Tr (Iv) :=
  let c2 := (Rng.w .i64 (a1.val + 14)); let c10 := (Rng.w .i64 (a1.val + 12)); let c18 := (Rng.w .i64 (a1.val + 10)); let c26 := (Rng.w .i64 (a1.val + 8)); let c34 := (Rng.w .i64 (a1.val + 6)); let c42 := (Rng.w .i64 (a1.val + 4)); let c50 := (Rng.w .i64 (a1.val + 2)); let c58 := (Rng.w .i64 (a1.val + 0)); .leaf (F_impl_SubI (F_impl_Integer ⟨1, rfl⟩) (F_impl_MulI (F_impl_DivI a0 (F_impl_Integer (Rng.w .i64 (c58.val * (Rng.w .i64 (c58.val + 1)).val)))) (F_impl_SubI (F_impl_Integer ⟨1, rfl⟩) (F_impl_MulI (F_impl_DivI a0 (F_impl_Integer (Rng.w .i64 (c50.val * (Rng.w .i64 (c50.val + 1)).val)))) (F_impl_SubI (F_impl_Integer ⟨1, rfl⟩) (F_impl_MulI (F_impl_DivI a0 (F_impl_Integer (Rng.w .i64 (c42.val * (Rng.w .i64 (c42.val + 1)).val)))) (F_impl_SubI (F_impl_Integer ⟨1, rfl⟩) (F_impl_MulI (F_impl_DivI a0 (F_impl_Integer (Rng.w .i64 (c34.val * (Rng.w .i64 (c34.val + 1)).val)))) (F_impl_SubI (F_impl_Integer ⟨1, rfl⟩) (F_impl_MulI (F_impl_DivI a0 (F_impl_Integer (Rng.w .i64 (c26.val * (Rng.w .i64 (c26.val + 1)).val)))) (F_impl_SubI (F_impl_Integer ⟨1, rfl⟩) (F_impl_MulI (F_impl_DivI a0 (F_impl_Integer (Rng.w .i64 (c18.val * (Rng.w .i64 (c18.val + 1)).val)))) (F_impl_SubI (F_impl_Integer ⟨1, rfl⟩) (F_impl_MulI (F_impl_DivI a0 (F_impl_Integer (Rng.w .i64 (c10.val * (Rng.w .i64 (c10.val + 1)).val)))) (F_impl_SubI (F_impl_Integer ⟨1, rfl⟩) (F_impl_MulI (F_impl_DivI a0 (F_impl_Integer (Rng.w .i64 (c2.val * (Rng.w .i64 (c2.val + 1)).val)))) (F_impl_Integer ⟨1, rfl⟩)))))))))))))))))
theorem r_impl_series (a0 : Iv) (a1 : I64) : Tb343.run B343 [enc a0, enc a1] (Iv) = (t_impl_series a0 a1).opt := by kernel_rfl
noncomputable def F_impl_series : Iv → I64 → Iv := fun a0 a1 => (t_impl_series a0 a1).get
theorem u_impl_series (a0 : Iv) (a1 : I64) : (t_impl_series a0 a1).opt = some (F_impl_series a0 a1) := Tr.tot_get (by kernel_rfl)
noncomputable def E_impl_series : Ent Tryz.prog := .of2 Tb343 B343 (fun _ _ => true) F_impl_series fun a0 a1 _ => (r_impl_series a0 a1).trans (u_impl_series a0 a1)
noncomputable def B344 : Bod Tryz.prog := ⟨344, Tryz.f344, Tryz.f344.body.getD .skip, Tryz.func344, by kernel_rfl, by kernel_rfl, Loops.no _ _⟩
noncomputable def Tb344 : Tb Tryz.prog := { T := [Y2, Y27], mix := mix, Es := [], Bs := [], d := 1 }
noncomputable def t_impl_tiny : Tr (Iv) :=
  .leaf ⟨⟨(-1), rfl⟩, ⟨1, rfl⟩⟩
theorem r_impl_tiny : Tb344.run B344 [] (Iv) = (t_impl_tiny).opt := by kernel_rfl
noncomputable def F_impl_tiny : Iv := (t_impl_tiny).get
theorem u_impl_tiny : (t_impl_tiny).opt = some (F_impl_tiny) := Tr.tot_get (by kernel_rfl)
noncomputable def E_impl_tiny : Ent Tryz.prog := .of0 Tb344 B344 F_impl_tiny (r_impl_tiny.trans u_impl_tiny)
noncomputable def B306 : Bod Tryz.prog := ⟨306, Tryz.f306, Tryz.f306.body.getD .skip, Tryz.func306, by kernel_rfl, by kernel_rfl, Loops.no _ _⟩
noncomputable def Tb306 : Tb Tryz.prog := { T := [Y2, Y27], mix := mix, Es := [ET_impl_MulI, E_impl_ring, E_impl_Whole, E_impl_AddI, ET_impl_SqrI, E_impl_InsideI, E_impl_series, E_impl_tiny], Bs := [], d := 1 }
noncomputable def t_impl_SinSeries (a0 : Iv) : Tr (Iv) :=
  .br (!(F_impl_InsideI a0 F_impl_ring)) (.leaf F_impl_Whole) (.leaf (F_impl_AddI (F_impl_MulI a0 (F_impl_series (F_impl_SqrI a0) ⟨2, rfl⟩)) F_impl_tiny))
theorem r_impl_SinSeries (a0 : Iv) : Tb306.run B306 [enc a0] (Iv) = (t_impl_SinSeries a0).opt := by kernel_rfl
noncomputable def F_impl_SinSeries : Iv → Iv := fun a0 => (t_impl_SinSeries a0).get
theorem u_impl_SinSeries (a0 : Iv) : (t_impl_SinSeries a0).opt = some (F_impl_SinSeries a0) := Tr.tot_get (by kernel_rfl)
noncomputable def E_impl_SinSeries : Ent Tryz.prog := .of1 Tb306 B306 (fun _ => true) F_impl_SinSeries fun a0 _ => (r_impl_SinSeries a0).trans (u_impl_SinSeries a0)
noncomputable def B307 : Bod Tryz.prog := ⟨307, Tryz.f307, Tryz.f307.body.getD .skip, Tryz.func307, by kernel_rfl, by kernel_rfl, Loops.no _ _⟩
noncomputable def Tb307 : Tb Tryz.prog := { T := [Y2, Y27], mix := mix, Es := [E_impl_ring, E_impl_Whole, E_impl_AddI, ET_impl_SqrI, E_impl_InsideI, E_impl_series, E_impl_tiny], Bs := [], d := 1 }
noncomputable def t_impl_CosSeries (a0 : Iv) : Tr (Iv) :=
  .br (!(F_impl_InsideI a0 F_impl_ring)) (.leaf F_impl_Whole) (.leaf (F_impl_AddI (F_impl_series (F_impl_SqrI a0) ⟨1, rfl⟩) F_impl_tiny))
theorem r_impl_CosSeries (a0 : Iv) : Tb307.run B307 [enc a0] (Iv) = (t_impl_CosSeries a0).opt := by kernel_rfl
noncomputable def F_impl_CosSeries : Iv → Iv := fun a0 => (t_impl_CosSeries a0).get
theorem u_impl_CosSeries (a0 : Iv) : (t_impl_CosSeries a0).opt = some (F_impl_CosSeries a0) := Tr.tot_get (by kernel_rfl)
noncomputable def E_impl_CosSeries : Ent Tryz.prog := .of1 Tb307 B307 (fun _ => true) F_impl_CosSeries fun a0 _ => (r_impl_CosSeries a0).trans (u_impl_CosSeries a0)
noncomputable def B305 : Bod Tryz.prog := ⟨305, Tryz.f305, Tryz.f305.body.getD .skip, Tryz.func305, by kernel_rfl, by kernel_rfl, Loops.no _ _⟩
noncomputable def Tb305 : Tb Tryz.prog := { T := [Y2, Y27], mix := mix, Es := [E_impl_ring, E_impl_MeetI], Bs := [], d := 1 }
noncomputable def t_impl_inRing (a0 : Iv) : Tr (Iv) :=
  .leaf (F_impl_MeetI a0 F_impl_ring).a
theorem r_impl_inRing (a0 : Iv) : Tb305.run B305 [enc a0] (Iv) = (t_impl_inRing a0).opt := by kernel_rfl
noncomputable def F_impl_inRing : Iv → Iv := fun a0 => (t_impl_inRing a0).get
theorem u_impl_inRing (a0 : Iv) : (t_impl_inRing a0).opt = some (F_impl_inRing a0) := Tr.tot_get (by kernel_rfl)
noncomputable def E_impl_inRing : Ent Tryz.prog := .of1 Tb305 B305 (fun _ => true) F_impl_inRing fun a0 _ => (r_impl_inRing a0).trans (u_impl_inRing a0)
noncomputable def B210 : Bod Tryz.prog := ⟨210, Tryz.f210, Tryz.f210.body.getD .skip, Tryz.func210, by kernel_rfl, by kernel_rfl, Loops.no _ _⟩
noncomputable def Tb210 : Tb Tryz.prog := { T := [Y2, Y27], mix := mix, Es := [E_impl_ValidInterval, E_impl_isAngle], Bs := [], d := 1 }
noncomputable def t_impl_areAngles (a0 : Iv) : Tr (Bool) :=
  .br (F_impl_ValidInterval a0) (.br (F_impl_isAngle a0.lo) (.leaf (F_impl_isAngle a0.hi)) (.leaf false)) (.leaf false)
theorem r_impl_areAngles (a0 : Iv) : Tb210.run B210 [enc a0] (Bool) = (t_impl_areAngles a0).opt := by kernel_rfl
noncomputable def F_impl_areAngles : Iv → Bool := fun a0 => (t_impl_areAngles a0).get
theorem u_impl_areAngles (a0 : Iv) : (t_impl_areAngles a0).opt = some (F_impl_areAngles a0) := Tr.tot_get (by kernel_rfl)
noncomputable def E_impl_areAngles : Ent Tryz.prog := .of1 Tb210 B210 (fun _ => true) F_impl_areAngles fun a0 _ => (r_impl_areAngles a0).trans (u_impl_areAngles a0)
end
end Go.Proofs.YtecfhpgpojgjkaaGreat.Ev
