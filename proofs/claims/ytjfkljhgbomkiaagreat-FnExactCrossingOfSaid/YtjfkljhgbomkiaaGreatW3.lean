import Derived.Test.YtjfkljhgbomkiaaGreatW2
import Derived.Test.YtjfkljhgbomkiaaGreatP8
namespace Go.Proofs.YtjfkljhgbomkiaaGreat.Ev
open Go Go.RowKit
set_option maxRecDepth 100000
set_option linter.unusedVariables false
section
noncomputable def ET_spec_l02Root : Ent Tryz.prog := .of1 Tb124 B124 (fun _ => true) F_spec_l02Root fun a0 _ => (r_spec_l02Root a0).trans (tt_root_spec a0)
noncomputable def ET_impl_WideSqrt : Ent Tryz.prog := .of1 Tb171 B171 (fun _ => true) F_impl_WideSqrt fun a0 _ => (r_impl_WideSqrt a0).trans (tt_wsqrt_impl a0)
noncomputable def ET_spec_SqrtFloor : Ent Tryz.prog := .of2 Tb266 B266 (fun _ _ => true) F_spec_SqrtFloor fun a0 a1 _ => (r_spec_SqrtFloor a0 a1).trans (tt_sf_spec a0 a1)
noncomputable def ET_impl_SqrtFloor : Ent Tryz.prog := .of2 Tb267 B267 (fun _ _ => true) F_impl_SqrtFloor fun a0 a1 _ => (r_impl_SqrtFloor a0 a1).trans (tt_sf_impl a0 a1)
noncomputable def ET_spec_l03SqrtDown : Ent Tryz.prog := .of1 Tb261 B261 (fun _ => true) F_spec_l03SqrtDown fun a0 _ => (r_spec_l03SqrtDown a0).trans (tt_sd_spec a0)
noncomputable def ET_impl_SqrtDown : Ent Tryz.prog := .of1 Tb263 B263 (fun _ => true) F_impl_SqrtDown fun a0 _ => (r_impl_SqrtDown a0).trans (tt_sd_impl a0)
noncomputable def ET_spec_l03SqrtUp : Ent Tryz.prog := .of1 Tb262 B262 (fun _ => true) F_spec_l03SqrtUp fun a0 _ => (r_spec_l03SqrtUp a0).trans (tt_su_spec a0)
noncomputable def ET_impl_SqrtUp : Ent Tryz.prog := .of1 Tb264 B264 (fun _ => true) F_impl_SqrtUp fun a0 _ => (r_impl_SqrtUp a0).trans (tt_su_impl a0)
noncomputable def ET_spec_SqrtI : Ent Tryz.prog := .of1 Tb256 B256 (fun _ => true) F_spec_SqrtI fun a0 _ => (r_spec_SqrtI a0).trans (tt_sqrtI_spec a0)
noncomputable def ET_impl_SqrtI : Ent Tryz.prog := .of1 Tb257 B257 (fun _ => true) F_impl_SqrtI fun a0 _ => (r_impl_SqrtI a0).trans (tt_sqrtI_impl a0)
noncomputable def ET_impl_MulFloor : Ent Tryz.prog := .of3 Tb182 B182 (fun _ _ _ => true) F_impl_MulFloor fun a0 a1 a2 _ => (r_impl_MulFloor a0 a1 a2).trans (tt_mulfloor a0 a1 a2)
noncomputable def ET_impl_MulDown : Ent Tryz.prog := .of2 Tb130 B130 (fun _ _ => true) F_impl_MulDown fun a0 a1 _ => (r_impl_MulDown a0 a1).trans (tt_muldown a0 a1)
noncomputable def ET_impl_MulUp : Ent Tryz.prog := .of2 Tb131 B131 (fun _ _ => true) F_impl_MulUp fun a0 a1 _ => (r_impl_MulUp a0 a1).trans (tt_mulup a0 a1)
noncomputable def ET_impl_MulI : Ent Tryz.prog := .of2 Tb86 B86 (fun _ _ => true) F_impl_MulI fun a0 a1 _ => (r_impl_MulI a0 a1).trans (tt_mulI a0 a1)
noncomputable def ET_impl_SqrI : Ent Tryz.prog := .of1 Tb220 B220 (fun _ => true) F_impl_SqrI fun a0 _ => (r_impl_SqrI a0).trans (tt_sqrI a0)
noncomputable def B190 : Bod Tryz.prog := ⟨190, Tryz.f190, Tryz.f190.body.getD .skip, Tryz.func190, by kernel_rfl, by kernel_rfl, Loops.no _ _⟩
noncomputable def Tb190_p : Tb Tryz.prog := { T := [Y2, Y25], mix := mix, Es := [E_spec_MulFloor], Bs := [], d := 1 }
noncomputable def t_spec_l05Turn_p (a0 : I64) : Tr (Iv) :=
  .br (a0.val == 0) (.leaf ⟨⟨0, rfl⟩, ⟨0, rfl⟩⟩) (.br (decide (a0.val < 0)) (.bad) (let c2 := F_spec_MulFloor a0 ⟨7244019458077122842, rfl⟩ ⟨30, rfl⟩; .leaf ⟨c2.a, (Rng.w .i64 (c2.a.val + 1))⟩))
theorem r_spec_l05Turn_p (a0 : I64) : Tb190_p.run B190 [enc a0] (Iv) = (t_spec_l05Turn_p a0).opt := by kernel_rfl
noncomputable def F_spec_l05Turn_p : I64 → Iv := fun a0 => (t_spec_l05Turn_p a0).get
noncomputable def G_spec_l05Turn_p : I64 → Bool := fun a0 => (t_spec_l05Turn_p a0).opt.isSome
noncomputable def E_spec_l05Turn_p : Ent Tryz.prog := .of1 Tb190_p B190 G_spec_l05Turn_p F_spec_l05Turn_p fun a0 h => (r_spec_l05Turn_p a0).trans (Tr.get_some h)
noncomputable def Tb190 : Tb Tryz.prog := { T := [Y2, Y25], mix := mix, Es := [E_spec_MulFloor, E_spec_l05Turn_p], Bs := [], d := 1 }
noncomputable def t_spec_l05Turn (a0 : I64) : Tr (Iv) :=
  .br (a0.val == 0) (.leaf ⟨⟨0, rfl⟩, ⟨0, rfl⟩⟩) (.br (decide (a0.val < 0)) (let c1 := (Rng.w .i64 (0 - a0.val)); .br (G_spec_l05Turn_p c1) (let c2 := F_spec_l05Turn_p c1; .leaf ⟨(Rng.w .i64 (0 - c2.hi.val)), (Rng.w .i64 (0 - c2.lo.val))⟩) (.bad)) (let c5 := F_spec_MulFloor a0 ⟨7244019458077122842, rfl⟩ ⟨30, rfl⟩; .leaf ⟨c5.a, (Rng.w .i64 (c5.a.val + 1))⟩))
theorem r_spec_l05Turn (a0 : I64) : Tb190.run B190 [enc a0] (Iv) = (t_spec_l05Turn a0).opt := by kernel_rfl
noncomputable def F_spec_l05Turn : I64 → Iv := fun a0 => (t_spec_l05Turn a0).get
noncomputable def G_spec_l05Turn : I64 → Bool := fun a0 => (t_spec_l05Turn a0).opt.isSome
noncomputable def E_spec_l05Turn : Ent Tryz.prog := .of1 Tb190 B190 G_spec_l05Turn F_spec_l05Turn fun a0 h => (r_spec_l05Turn a0).trans (Tr.get_some h)
noncomputable def B152 : Bod Tryz.prog := ⟨152, Tryz.f152, Tryz.f152.body.getD .skip, Tryz.func152, by kernel_rfl, by kernel_rfl, Loops.no _ _⟩
noncomputable def Tb152 : Tb Tryz.prog := { T := [Y2, Y25], mix := mix, Es := [E_spec_l00In, E_spec_Whole, E_spec_l05Turn], Bs := [], d := 1 }
noncomputable def t_spec_TurnI (a0 : I64) : Tr (Iv) :=
  .br (!(F_spec_l00In a0 ⟨(-4096), rfl⟩ ⟨4096, rfl⟩)) (.leaf F_spec_Whole) (.br (G_spec_l05Turn a0) (.leaf (F_spec_l05Turn a0)) (.bad))
theorem r_spec_TurnI (a0 : I64) : Tb152.run B152 [enc a0] (Iv) = (t_spec_TurnI a0).opt := by kernel_rfl
noncomputable def F_spec_TurnI : I64 → Iv := fun a0 => (t_spec_TurnI a0).get
noncomputable def G_spec_TurnI : I64 → Bool := fun a0 => (t_spec_TurnI a0).opt.isSome
noncomputable def E_spec_TurnI : Ent Tryz.prog := .of1 Tb152 B152 G_spec_TurnI F_spec_TurnI fun a0 h => (r_spec_TurnI a0).trans (Tr.get_some h)
noncomputable def B156 : Bod Tryz.prog := ⟨156, Tryz.f156, Tryz.f156.body.getD .skip, Tryz.func156, by kernel_rfl, by kernel_rfl, Loops.no _ _⟩
noncomputable def Tb156_p : Tb Tryz.prog := { T := [Y2, Y25], mix := mix, Es := [E_impl_within, E_impl_Whole, ET_impl_MulFloor], Bs := [], d := 1 }
noncomputable def t_impl_TurnI_p (a0 : I64) : Tr (Iv) :=
  .br (!(F_impl_within a0 ⟨(-4096), rfl⟩ ⟨4096, rfl⟩)) (.leaf F_impl_Whole) (.br (decide (a0.val < 0)) (.bad) (.br (a0.val == 0) (.leaf ⟨⟨0, rfl⟩, ⟨0, rfl⟩⟩) (let c4 := F_impl_MulFloor a0 ⟨7244019458077122842, rfl⟩ ⟨30, rfl⟩; .leaf ⟨c4.a, (Rng.w .i64 (c4.a.val + 1))⟩)))
theorem r_impl_TurnI_p (a0 : I64) : Tb156_p.run B156 [enc a0] (Iv) = (t_impl_TurnI_p a0).opt := by kernel_rfl
noncomputable def F_impl_TurnI_p : I64 → Iv := fun a0 => (t_impl_TurnI_p a0).get
noncomputable def G_impl_TurnI_p : I64 → Bool := fun a0 => (t_impl_TurnI_p a0).opt.isSome
noncomputable def E_impl_TurnI_p : Ent Tryz.prog := .of1 Tb156_p B156 G_impl_TurnI_p F_impl_TurnI_p fun a0 h => (r_impl_TurnI_p a0).trans (Tr.get_some h)
noncomputable def Tb156 : Tb Tryz.prog := { T := [Y2, Y25], mix := mix, Es := [E_impl_within, E_impl_Whole, E_impl_NegI, E_impl_TurnI_p, ET_impl_MulFloor], Bs := [], d := 1 }
noncomputable def t_impl_TurnI (a0 : I64) : Tr (Iv) :=
  .br (!(F_impl_within a0 ⟨(-4096), rfl⟩ ⟨4096, rfl⟩)) (.leaf F_impl_Whole) (.br (decide (a0.val < 0)) (let c3 := (Rng.w .i64 (0 - a0.val)); .br (G_impl_TurnI_p c3) (.leaf (F_impl_NegI (F_impl_TurnI_p c3))) (.bad)) (.br (a0.val == 0) (.leaf ⟨⟨0, rfl⟩, ⟨0, rfl⟩⟩) (let c6 := F_impl_MulFloor a0 ⟨7244019458077122842, rfl⟩ ⟨30, rfl⟩; .leaf ⟨c6.a, (Rng.w .i64 (c6.a.val + 1))⟩)))
theorem r_impl_TurnI (a0 : I64) : Tb156.run B156 [enc a0] (Iv) = (t_impl_TurnI a0).opt := by kernel_rfl
noncomputable def F_impl_TurnI : I64 → Iv := fun a0 => (t_impl_TurnI a0).get
noncomputable def G_impl_TurnI : I64 → Bool := fun a0 => (t_impl_TurnI a0).opt.isSome
noncomputable def E_impl_TurnI : Ent Tryz.prog := .of1 Tb156 B156 G_impl_TurnI F_impl_TurnI fun a0 h => (r_impl_TurnI a0).trans (Tr.get_some h)
noncomputable def B199 : Bod Tryz.prog := ⟨199, Tryz.f199, Tryz.f199.body.getD .skip, Tryz.func199, by kernel_rfl, by kernel_rfl, Loops.no _ _⟩
noncomputable def Tb199 : Tb Tryz.prog := { T := [], mix := mix, Es := [E_spec_l00In], Bs := [], d := 1 }
noncomputable def t_spec_l06Angle (a0 : I64) : Tr (Bool) :=
  .leaf (F_spec_l00In a0 ⟨(-1099511627776), rfl⟩ ⟨1099511627776, rfl⟩)
theorem r_spec_l06Angle (a0 : I64) : Tb199.run B199 [enc a0] (Bool) = (t_spec_l06Angle a0).opt := by kernel_rfl
noncomputable def F_spec_l06Angle : I64 → Bool := fun a0 => (t_spec_l06Angle a0).get
theorem u_spec_l06Angle (a0 : I64) : (t_spec_l06Angle a0).opt = some (F_spec_l06Angle a0) := Tr.tot_get (by kernel_rfl)
noncomputable def E_spec_l06Angle : Ent Tryz.prog := .of1 Tb199 B199 (fun _ => true) F_spec_l06Angle fun a0 _ => (r_spec_l06Angle a0).trans (u_spec_l06Angle a0)
noncomputable def B203 : Bod Tryz.prog := ⟨203, Tryz.f203, Tryz.f203.body.getD .skip, Tryz.func203, by kernel_rfl, by kernel_rfl, Loops.no _ _⟩
noncomputable def Tb203 : Tb Tryz.prog := { T := [], mix := mix, Es := [], Bs := [], d := 1 }
noncomputable def t_spec_l06Floor (a0 : I64) (a1 : I64) : Tr (I64) :=
  .br (a1.val == 0) (.bad) (let c1 := (Rng.w .i64 (a0.val.tdiv a1.val)); .br (a1.val == 0) (.bad) (.br (decide ((Rng.w .i64 (a0.val.tmod a1.val)).val < 0)) (.leaf (Rng.w .i64 (c1.val - 1))) (.leaf c1)))
theorem r_spec_l06Floor (a0 : I64) (a1 : I64) : Tb203.run B203 [enc a0, enc a1] (I64) = (t_spec_l06Floor a0 a1).opt := by kernel_rfl
noncomputable def F_spec_l06Floor : I64 → I64 → I64 := fun a0 a1 => (t_spec_l06Floor a0 a1).get
noncomputable def G_spec_l06Floor : I64 → I64 → Bool := fun a0 a1 => (t_spec_l06Floor a0 a1).opt.isSome
noncomputable def E_spec_l06Floor : Ent Tryz.prog := .of2 Tb203 B203 G_spec_l06Floor F_spec_l06Floor fun a0 a1 h => (r_spec_l06Floor a0 a1).trans (Tr.get_some h)
noncomputable def B166 : Bod Tryz.prog := ⟨166, Tryz.f166, Tryz.f166.body.getD .skip, Tryz.func166, by kernel_rfl, by kernel_rfl, Loops.no _ _⟩
noncomputable def Tb166 : Tb Tryz.prog := { T := [], mix := mix, Es := [E_spec_l06Angle, E_spec_l06Floor], Bs := [], d := 1 }
noncomputable def t_spec_QuarterOf (a0 : I64) : Tr (I64) :=
  .br (!(F_spec_l06Angle a0)) (.leaf ⟨0, rfl⟩) (let c2 := (Rng.w .i64 (a0.val + 3373259426)); .br (G_spec_l06Floor c2 ⟨6746518852, rfl⟩) (.leaf (F_spec_l06Floor c2 ⟨6746518852, rfl⟩)) (.bad))
theorem r_spec_QuarterOf (a0 : I64) : Tb166.run B166 [enc a0] (I64) = (t_spec_QuarterOf a0).opt := by kernel_rfl
noncomputable def F_spec_QuarterOf : I64 → I64 := fun a0 => (t_spec_QuarterOf a0).get
noncomputable def G_spec_QuarterOf : I64 → Bool := fun a0 => (t_spec_QuarterOf a0).opt.isSome
noncomputable def E_spec_QuarterOf : Ent Tryz.prog := .of1 Tb166 B166 G_spec_QuarterOf F_spec_QuarterOf fun a0 h => (r_spec_QuarterOf a0).trans (Tr.get_some h)
noncomputable def B209 : Bod Tryz.prog := ⟨209, Tryz.f209, Tryz.f209.body.getD .skip, Tryz.func209, by kernel_rfl, by kernel_rfl, Loops.no _ _⟩
noncomputable def Tb209 : Tb Tryz.prog := { T := [], mix := mix, Es := [E_impl_within], Bs := [], d := 1 }
noncomputable def t_impl_isAngle (a0 : I64) : Tr (Bool) :=
  .leaf (F_impl_within a0 ⟨(-1099511627776), rfl⟩ ⟨1099511627776, rfl⟩)
theorem r_impl_isAngle (a0 : I64) : Tb209.run B209 [enc a0] (Bool) = (t_impl_isAngle a0).opt := by kernel_rfl
noncomputable def F_impl_isAngle : I64 → Bool := fun a0 => (t_impl_isAngle a0).get
theorem u_impl_isAngle (a0 : I64) : (t_impl_isAngle a0).opt = some (F_impl_isAngle a0) := Tr.tot_get (by kernel_rfl)
noncomputable def E_impl_isAngle : Ent Tryz.prog := .of1 Tb209 B209 (fun _ => true) F_impl_isAngle fun a0 _ => (r_impl_isAngle a0).trans (u_impl_isAngle a0)
noncomputable def B210 : Bod Tryz.prog := ⟨210, Tryz.f210, Tryz.f210.body.getD .skip, Tryz.func210, by kernel_rfl, by kernel_rfl, Loops.no _ _⟩
noncomputable def Tb210 : Tb Tryz.prog := { T := [], mix := mix, Es := [E_impl_isAngle], Bs := [], d := 1 }
noncomputable def t_impl_QuarterOf (a0 : I64) : Tr (I64) :=
  .br (!(F_impl_isAngle a0)) (.leaf ⟨0, rfl⟩) (let c3 := (Rng.w .i64 ((Rng.w .i64 (a0.val + 3373259426)).val.tdiv 6746518852)); .br (decide ((Rng.w .i64 (c3.val * 6746518852)).val > (Rng.w .i64 (a0.val + 3373259426)).val)) (.leaf (Rng.w .i64 (c3.val - 1))) (.leaf c3))
theorem r_impl_QuarterOf (a0 : I64) : Tb210.run B210 [enc a0] (I64) = (t_impl_QuarterOf a0).opt := by kernel_rfl
noncomputable def F_impl_QuarterOf : I64 → I64 := fun a0 => (t_impl_QuarterOf a0).get
theorem u_impl_QuarterOf (a0 : I64) : (t_impl_QuarterOf a0).opt = some (F_impl_QuarterOf a0) := Tr.tot_get (by kernel_rfl)
noncomputable def E_impl_QuarterOf : Ent Tryz.prog := .of1 Tb210 B210 (fun _ => true) F_impl_QuarterOf fun a0 _ => (r_impl_QuarterOf a0).trans (u_impl_QuarterOf a0)
noncomputable def B204 : Bod Tryz.prog := ⟨204, Tryz.f204, Tryz.f204.body.getD .skip, Tryz.func204, by kernel_rfl, by kernel_rfl, Loops.no _ _⟩
noncomputable def Tb204 : Tb Tryz.prog := { T := [Y2, Y25], mix := mix, Es := [E_spec_l04Ok, E_spec_l04Whole, E_spec_l00Min, E_spec_l00Max], Bs := [], d := 1 }
noncomputable def t_spec_MeetI (a0 : Iv) (a1 : Iv) : Tr (T2 Iv Bool) :=
  .br (!(F_spec_l04Ok a0)) (.br (!(F_spec_l04Ok a1)) (.leaf ⟨F_spec_l04Whole, true⟩) (.br (!(F_spec_l04Ok a0)) (.leaf ⟨a1, true⟩) (.br (!(F_spec_l04Ok a1)) (.leaf ⟨a0, true⟩) (let c6 := F_spec_l00Max a0.lo a1.lo; let c7 := F_spec_l00Min a0.hi a1.hi; .br (decide (c6.val > c7.val)) (.leaf ⟨⟨⟨0, rfl⟩, ⟨0, rfl⟩⟩, false⟩) (.leaf ⟨⟨c6, c7⟩, true⟩))))) (.br (!(F_spec_l04Ok a0)) (.leaf ⟨a1, true⟩) (.br (!(F_spec_l04Ok a1)) (.leaf ⟨a0, true⟩) (let c11 := F_spec_l00Max a0.lo a1.lo; let c12 := F_spec_l00Min a0.hi a1.hi; .br (decide (c11.val > c12.val)) (.leaf ⟨⟨⟨0, rfl⟩, ⟨0, rfl⟩⟩, false⟩) (.leaf ⟨⟨c11, c12⟩, true⟩))))
theorem r_spec_MeetI (a0 : Iv) (a1 : Iv) : Tb204.run B204 [enc a0, enc a1] (T2 Iv Bool) = (t_spec_MeetI a0 a1).opt := by kernel_rfl
noncomputable def F_spec_MeetI : Iv → Iv → T2 Iv Bool := fun a0 a1 => (t_spec_MeetI a0 a1).get
theorem u_spec_MeetI (a0 : Iv) (a1 : Iv) : (t_spec_MeetI a0 a1).opt = some (F_spec_MeetI a0 a1) := Tr.tot_get (by kernel_rfl)
noncomputable def E_spec_MeetI : Ent Tryz.prog := .of2 Tb204 B204 (fun _ _ => true) F_spec_MeetI fun a0 a1 _ => (r_spec_MeetI a0 a1).trans (u_spec_MeetI a0 a1)
noncomputable def B167 : Bod Tryz.prog := ⟨167, Tryz.f167, Tryz.f167.body.getD .skip, Tryz.func167, by kernel_rfl, by kernel_rfl, Loops.no _ _⟩
noncomputable def Tb167 : Tb Tryz.prog := { T := [Y2, Y25], mix := mix, Es := [E_spec_MeetI], Bs := [], d := 1 }
noncomputable def t_spec_OverlapI (a0 : Iv) (a1 : Iv) : Tr (Bool) :=
  .leaf (F_spec_MeetI a0 a1).b
theorem r_spec_OverlapI (a0 : Iv) (a1 : Iv) : Tb167.run B167 [enc a0, enc a1] (Bool) = (t_spec_OverlapI a0 a1).opt := by kernel_rfl
noncomputable def F_spec_OverlapI : Iv → Iv → Bool := fun a0 a1 => (t_spec_OverlapI a0 a1).get
theorem u_spec_OverlapI (a0 : Iv) (a1 : Iv) : (t_spec_OverlapI a0 a1).opt = some (F_spec_OverlapI a0 a1) := Tr.tot_get (by kernel_rfl)
noncomputable def E_spec_OverlapI : Ent Tryz.prog := .of2 Tb167 B167 (fun _ _ => true) F_spec_OverlapI fun a0 a1 _ => (r_spec_OverlapI a0 a1).trans (u_spec_OverlapI a0 a1)
noncomputable def B236 : Bod Tryz.prog := ⟨236, Tryz.f236, Tryz.f236.body.getD .skip, Tryz.func236, by kernel_rfl, by kernel_rfl, Loops.no _ _⟩
noncomputable def Tb236 : Tb Tryz.prog := { T := [Y2, Y25], mix := mix, Es := [E_impl_Whole, E_impl_IsWhole], Bs := [], d := 1 }
noncomputable def t_impl_MeetI (a0 : Iv) (a1 : Iv) : Tr (T2 Iv Bool) :=
  .br (F_impl_IsWhole a0) (.br (F_impl_IsWhole a1) (.leaf ⟨F_impl_Whole, true⟩) (.br (F_impl_IsWhole a0) (.leaf ⟨a1, true⟩) (.br (F_impl_IsWhole a1) (.leaf ⟨a0, true⟩) (.br (decide ((mx a0.lo a1.lo).val > (mn a0.hi a1.hi).val)) (.leaf ⟨⟨⟨0, rfl⟩, ⟨0, rfl⟩⟩, false⟩) (.leaf ⟨⟨(mx a0.lo a1.lo), (mn a0.hi a1.hi)⟩, true⟩))))) (.br (F_impl_IsWhole a0) (.leaf ⟨a1, true⟩) (.br (F_impl_IsWhole a1) (.leaf ⟨a0, true⟩) (.br (decide ((mx a0.lo a1.lo).val > (mn a0.hi a1.hi).val)) (.leaf ⟨⟨⟨0, rfl⟩, ⟨0, rfl⟩⟩, false⟩) (.leaf ⟨⟨(mx a0.lo a1.lo), (mn a0.hi a1.hi)⟩, true⟩))))
theorem r_impl_MeetI (a0 : Iv) (a1 : Iv) : Tb236.run B236 [enc a0, enc a1] (T2 Iv Bool) = (t_impl_MeetI a0 a1).opt := by kernel_rfl
noncomputable def F_impl_MeetI : Iv → Iv → T2 Iv Bool := fun a0 a1 => (t_impl_MeetI a0 a1).get
theorem u_impl_MeetI (a0 : Iv) (a1 : Iv) : (t_impl_MeetI a0 a1).opt = some (F_impl_MeetI a0 a1) := Tr.tot_get (by kernel_rfl)
noncomputable def E_impl_MeetI : Ent Tryz.prog := .of2 Tb236 B236 (fun _ _ => true) F_impl_MeetI fun a0 a1 _ => (r_impl_MeetI a0 a1).trans (u_impl_MeetI a0 a1)
noncomputable def B214 : Bod Tryz.prog := ⟨214, Tryz.f214, Tryz.f214.body.getD .skip, Tryz.func214, by kernel_rfl, by kernel_rfl, Loops.no _ _⟩
noncomputable def Tb214 : Tb Tryz.prog := { T := [Y2, Y25], mix := mix, Es := [E_impl_MeetI], Bs := [], d := 1 }
noncomputable def t_impl_OverlapI (a0 : Iv) (a1 : Iv) : Tr (Bool) :=
  .leaf (F_impl_MeetI a0 a1).b
theorem r_impl_OverlapI (a0 : Iv) (a1 : Iv) : Tb214.run B214 [enc a0, enc a1] (Bool) = (t_impl_OverlapI a0 a1).opt := by kernel_rfl
noncomputable def F_impl_OverlapI : Iv → Iv → Bool := fun a0 a1 => (t_impl_OverlapI a0 a1).get
theorem u_impl_OverlapI (a0 : Iv) (a1 : Iv) : (t_impl_OverlapI a0 a1).opt = some (F_impl_OverlapI a0 a1) := Tr.tot_get (by kernel_rfl)
noncomputable def E_impl_OverlapI : Ent Tryz.prog := .of2 Tb214 B214 (fun _ _ => true) F_impl_OverlapI fun a0 a1 _ => (r_impl_OverlapI a0 a1).trans (u_impl_OverlapI a0 a1)
noncomputable def B229 : Bod Tryz.prog := ⟨229, Tryz.f229, Tryz.f229.body.getD .skip, Tryz.func229, by kernel_rfl, by kernel_rfl, Loops.no _ _⟩
noncomputable def Tb229 : Tb Tryz.prog := { T := [Y2, Y25], mix := mix, Es := [E_spec_l04Ok], Bs := [], d := 1 }
noncomputable def t_spec_InsideI (a0 : Iv) (a1 : Iv) : Tr (Bool) :=
  .br (!(F_spec_l04Ok a1)) (.leaf true) (.br (F_spec_l04Ok a0) (.br (decide (a1.lo.val ≤ a0.lo.val)) (.leaf (decide (a0.hi.val ≤ a1.hi.val))) (.leaf false)) (.leaf false))
theorem r_spec_InsideI (a0 : Iv) (a1 : Iv) : Tb229.run B229 [enc a0, enc a1] (Bool) = (t_spec_InsideI a0 a1).opt := by kernel_rfl
noncomputable def F_spec_InsideI : Iv → Iv → Bool := fun a0 a1 => (t_spec_InsideI a0 a1).get
theorem u_spec_InsideI (a0 : Iv) (a1 : Iv) : (t_spec_InsideI a0 a1).opt = some (F_spec_InsideI a0 a1) := Tr.tot_get (by kernel_rfl)
noncomputable def E_spec_InsideI : Ent Tryz.prog := .of2 Tb229 B229 (fun _ _ => true) F_spec_InsideI fun a0 a1 _ => (r_spec_InsideI a0 a1).trans (u_spec_InsideI a0 a1)
noncomputable def B237 : Bod Tryz.prog := ⟨237, Tryz.f237, Tryz.f237.body.getD .skip, Tryz.func237, by kernel_rfl, by kernel_rfl, Loops.no _ _⟩
noncomputable def Tb237 : Tb Tryz.prog := { T := [Y2, Y25], mix := mix, Es := [E_impl_IsWhole], Bs := [], d := 1 }
noncomputable def t_impl_InsideI (a0 : Iv) (a1 : Iv) : Tr (Bool) :=
  .br (F_impl_IsWhole a0) (.leaf (F_impl_IsWhole a1)) (.br (F_impl_IsWhole a1) (.leaf (F_impl_IsWhole a1)) (.br (decide (a1.lo.val ≤ a0.lo.val)) (.leaf (decide (a0.hi.val ≤ a1.hi.val))) (.leaf false)))
theorem r_impl_InsideI (a0 : Iv) (a1 : Iv) : Tb237.run B237 [enc a0, enc a1] (Bool) = (t_impl_InsideI a0 a1).opt := by kernel_rfl
noncomputable def F_impl_InsideI : Iv → Iv → Bool := fun a0 a1 => (t_impl_InsideI a0 a1).get
theorem u_impl_InsideI (a0 : Iv) (a1 : Iv) : (t_impl_InsideI a0 a1).opt = some (F_impl_InsideI a0 a1) := Tr.tot_get (by kernel_rfl)
noncomputable def E_impl_InsideI : Ent Tryz.prog := .of2 Tb237 B237 (fun _ _ => true) F_impl_InsideI fun a0 a1 _ => (r_impl_InsideI a0 a1).trans (u_impl_InsideI a0 a1)
noncomputable def B107 : Bod Tryz.prog := ⟨107, Tryz.f107, Tryz.f107.body.getD .skip, Tryz.func107, by kernel_rfl, by kernel_rfl, Loops.no _ _⟩
noncomputable def Tb107 : Tb Tryz.prog := { T := [Y2, Y25], mix := mix, Es := [E_spec_l04Ok, E_spec_l04Whole, E_spec_l04Make, E_spec_l00Min, E_spec_l00Max], Bs := [], d := 1 }
noncomputable def t_spec_HullI (a0 : Iv) (a1 : Iv) : Tr (Iv) :=
  .br (!(F_spec_l04Ok a0)) (.leaf F_spec_l04Whole) (.br (!(F_spec_l04Ok a1)) (.leaf F_spec_l04Whole) (.leaf (F_spec_l04Make (F_spec_l00Min a0.lo a1.lo) (F_spec_l00Max a0.hi a1.hi))))
theorem r_spec_HullI (a0 : Iv) (a1 : Iv) : Tb107.run B107 [enc a0, enc a1] (Iv) = (t_spec_HullI a0 a1).opt := by kernel_rfl
noncomputable def F_spec_HullI : Iv → Iv → Iv := fun a0 a1 => (t_spec_HullI a0 a1).get
theorem u_spec_HullI (a0 : Iv) (a1 : Iv) : (t_spec_HullI a0 a1).opt = some (F_spec_HullI a0 a1) := Tr.tot_get (by kernel_rfl)
noncomputable def E_spec_HullI : Ent Tryz.prog := .of2 Tb107 B107 (fun _ _ => true) F_spec_HullI fun a0 a1 _ => (r_spec_HullI a0 a1).trans (u_spec_HullI a0 a1)
noncomputable def B111 : Bod Tryz.prog := ⟨111, Tryz.f111, Tryz.f111.body.getD .skip, Tryz.func111, by kernel_rfl, by kernel_rfl, Loops.no _ _⟩
noncomputable def Tb111 : Tb Tryz.prog := { T := [Y2, Y25], mix := mix, Es := [E_impl_areBounded, E_impl_Whole], Bs := [], d := 1 }
noncomputable def t_impl_HullI (a0 : Iv) (a1 : Iv) : Tr (Iv) :=
  .br (!(F_impl_areBounded a0 a1)) (.leaf F_impl_Whole) (.leaf ⟨(mn a0.lo a1.lo), (mx a0.hi a1.hi)⟩)
theorem r_impl_HullI (a0 : Iv) (a1 : Iv) : Tb111.run B111 [enc a0, enc a1] (Iv) = (t_impl_HullI a0 a1).opt := by kernel_rfl
noncomputable def F_impl_HullI : Iv → Iv → Iv := fun a0 a1 => (t_impl_HullI a0 a1).get
theorem u_impl_HullI (a0 : Iv) (a1 : Iv) : (t_impl_HullI a0 a1).opt = some (F_impl_HullI a0 a1) := Tr.tot_get (by kernel_rfl)
noncomputable def E_impl_HullI : Ent Tryz.prog := .of2 Tb111 B111 (fun _ _ => true) F_impl_HullI fun a0 a1 _ => (r_impl_HullI a0 a1).trans (u_impl_HullI a0 a1)
noncomputable def B75 : Bod Tryz.prog := ⟨75, Tryz.f75, Tryz.f75.body.getD .skip, Tryz.func75, by kernel_rfl, by kernel_rfl, Loops.no _ _⟩
noncomputable def Tb75 : Tb Tryz.prog := { T := [Y2, Y25], mix := mix, Es := [E_spec_l04Ok, E_spec_l04Whole, E_spec_l04Make], Bs := [], d := 1 }
noncomputable def t_spec_AddI (a0 : Iv) (a1 : Iv) : Tr (Iv) :=
  .br (!(F_spec_l04Ok a0)) (.leaf F_spec_l04Whole) (.br (!(F_spec_l04Ok a1)) (.leaf F_spec_l04Whole) (.leaf (F_spec_l04Make (Rng.w .i64 (a0.lo.val + a1.lo.val)) (Rng.w .i64 (a0.hi.val + a1.hi.val)))))
theorem r_spec_AddI (a0 : Iv) (a1 : Iv) : Tb75.run B75 [enc a0, enc a1] (Iv) = (t_spec_AddI a0 a1).opt := by kernel_rfl
noncomputable def F_spec_AddI : Iv → Iv → Iv := fun a0 a1 => (t_spec_AddI a0 a1).get
theorem u_spec_AddI (a0 : Iv) (a1 : Iv) : (t_spec_AddI a0 a1).opt = some (F_spec_AddI a0 a1) := Tr.tot_get (by kernel_rfl)
noncomputable def E_spec_AddI : Ent Tryz.prog := .of2 Tb75 B75 (fun _ _ => true) F_spec_AddI fun a0 a1 _ => (r_spec_AddI a0 a1).trans (u_spec_AddI a0 a1)
noncomputable def B76 : Bod Tryz.prog := ⟨76, Tryz.f76, Tryz.f76.body.getD .skip, Tryz.func76, by kernel_rfl, by kernel_rfl, Loops.no _ _⟩
noncomputable def Tb76 : Tb Tryz.prog := { T := [Y2, Y25], mix := mix, Es := [E_impl_areBounded, E_impl_Whole, E_impl_bounded], Bs := [], d := 1 }
noncomputable def t_impl_AddI (a0 : Iv) (a1 : Iv) : Tr (Iv) :=
  .br (!(F_impl_areBounded a0 a1)) (.leaf F_impl_Whole) (.leaf (F_impl_bounded (Rng.w .i64 (a0.lo.val + a1.lo.val)) (Rng.w .i64 (a0.hi.val + a1.hi.val)) true))
theorem r_impl_AddI (a0 : Iv) (a1 : Iv) : Tb76.run B76 [enc a0, enc a1] (Iv) = (t_impl_AddI a0 a1).opt := by kernel_rfl
noncomputable def F_impl_AddI : Iv → Iv → Iv := fun a0 a1 => (t_impl_AddI a0 a1).get
theorem u_impl_AddI (a0 : Iv) (a1 : Iv) : (t_impl_AddI a0 a1).opt = some (F_impl_AddI a0 a1) := Tr.tot_get (by kernel_rfl)
noncomputable def E_impl_AddI : Ent Tryz.prog := .of2 Tb76 B76 (fun _ _ => true) F_impl_AddI fun a0 a1 _ => (r_impl_AddI a0 a1).trans (u_impl_AddI a0 a1)
noncomputable def B69 : Bod Tryz.prog := ⟨69, Tryz.f69, Tryz.f69.body.getD .skip, Tryz.func69, by kernel_rfl, by kernel_rfl, Loops.no _ _⟩
noncomputable def Tb69 : Tb Tryz.prog := { T := [Y2, Y25], mix := mix, Es := [E_spec_l04Ok, E_spec_l04Whole, E_spec_l04Make], Bs := [], d := 1 }
noncomputable def t_spec_SubI (a0 : Iv) (a1 : Iv) : Tr (Iv) :=
  .br (!(F_spec_l04Ok a0)) (.leaf F_spec_l04Whole) (.br (!(F_spec_l04Ok a1)) (.leaf F_spec_l04Whole) (.leaf (F_spec_l04Make (Rng.w .i64 (a0.lo.val - a1.hi.val)) (Rng.w .i64 (a0.hi.val - a1.lo.val)))))
theorem r_spec_SubI (a0 : Iv) (a1 : Iv) : Tb69.run B69 [enc a0, enc a1] (Iv) = (t_spec_SubI a0 a1).opt := by kernel_rfl
noncomputable def F_spec_SubI : Iv → Iv → Iv := fun a0 a1 => (t_spec_SubI a0 a1).get
theorem u_spec_SubI (a0 : Iv) (a1 : Iv) : (t_spec_SubI a0 a1).opt = some (F_spec_SubI a0 a1) := Tr.tot_get (by kernel_rfl)
noncomputable def E_spec_SubI : Ent Tryz.prog := .of2 Tb69 B69 (fun _ _ => true) F_spec_SubI fun a0 a1 _ => (r_spec_SubI a0 a1).trans (u_spec_SubI a0 a1)
noncomputable def B85 : Bod Tryz.prog := ⟨85, Tryz.f85, Tryz.f85.body.getD .skip, Tryz.func85, by kernel_rfl, by kernel_rfl, Loops.no _ _⟩
noncomputable def Tb85 : Tb Tryz.prog := { T := [Y2, Y25], mix := mix, Es := [E_impl_AddI, E_impl_NegI], Bs := [], d := 1 }
noncomputable def t_impl_SubI (a0 : Iv) (a1 : Iv) : Tr (Iv) :=
  .leaf (F_impl_AddI a0 (F_impl_NegI a1))
theorem r_impl_SubI (a0 : Iv) (a1 : Iv) : Tb85.run B85 [enc a0, enc a1] (Iv) = (t_impl_SubI a0 a1).opt := by kernel_rfl
noncomputable def F_impl_SubI : Iv → Iv → Iv := fun a0 a1 => (t_impl_SubI a0 a1).get
theorem u_impl_SubI (a0 : Iv) (a1 : Iv) : (t_impl_SubI a0 a1).opt = some (F_impl_SubI a0 a1) := Tr.tot_get (by kernel_rfl)
noncomputable def E_impl_SubI : Ent Tryz.prog := .of2 Tb85 B85 (fun _ _ => true) F_impl_SubI fun a0 a1 _ => (r_impl_SubI a0 a1).trans (u_impl_SubI a0 a1)
noncomputable def B164 : Bod Tryz.prog := ⟨164, Tryz.f164, Tryz.f164.body.getD .skip, Tryz.func164, by kernel_rfl, by kernel_rfl, Loops.no _ _⟩
noncomputable def Tb164 : Tb Tryz.prog := { T := [Y2, Y25], mix := mix, Es := [], Bs := [], d := 1 }
noncomputable def t_spec_l06Ring : Tr (Iv) :=
  .leaf ⟨⟨(-4294967296), rfl⟩, ⟨4294967296, rfl⟩⟩
theorem r_spec_l06Ring : Tb164.run B164 [] (Iv) = (t_spec_l06Ring).opt := by kernel_rfl
noncomputable def F_spec_l06Ring : Iv := (t_spec_l06Ring).get
theorem u_spec_l06Ring : (t_spec_l06Ring).opt = some (F_spec_l06Ring) := Tr.tot_get (by kernel_rfl)
noncomputable def E_spec_l06Ring : Ent Tryz.prog := .of0 Tb164 B164 F_spec_l06Ring (r_spec_l06Ring.trans u_spec_l06Ring)
noncomputable def B50 : Bod Tryz.prog := ⟨50, Tryz.f50, Tryz.f50.body.getD .skip, Tryz.func50, by kernel_rfl, by kernel_rfl, Loops.no _ _⟩
noncomputable def Tb50 : Tb Tryz.prog := { T := [Y2, Y25], mix := mix, Es := [E_spec_l00In, E_spec_l04Whole, E_spec_l04Make], Bs := [], d := 1 }
noncomputable def t_spec_Integer (a0 : I64) : Tr (Iv) :=
  .br (!(F_spec_l00In a0 ⟨(-268435455), rfl⟩ ⟨268435455, rfl⟩)) (.leaf F_spec_l04Whole) (.leaf (F_spec_l04Make (Rng.w .i64 (a0.val * 4294967296)) (Rng.w .i64 (a0.val * 4294967296))))
theorem r_spec_Integer (a0 : I64) : Tb50.run B50 [enc a0] (Iv) = (t_spec_Integer a0).opt := by kernel_rfl
noncomputable def F_spec_Integer : I64 → Iv := fun a0 => (t_spec_Integer a0).get
theorem u_spec_Integer (a0 : I64) : (t_spec_Integer a0).opt = some (F_spec_Integer a0) := Tr.tot_get (by kernel_rfl)
noncomputable def E_spec_Integer : Ent Tryz.prog := .of1 Tb50 B50 (fun _ => true) F_spec_Integer fun a0 _ => (r_spec_Integer a0).trans (u_spec_Integer a0)
noncomputable def B230 : Bod Tryz.prog := ⟨230, Tryz.f230, Tryz.f230.body.getD .skip, Tryz.func230, by kernel_rfl, by kernel_rfl, Loops.no _ _⟩
noncomputable def Tb230 : Tb Tryz.prog := { T := [Y2, Y25], mix := mix, Es := [E_spec_Integer, E_spec_MulI, E_spec_SubI, E_spec_DivI], Bs := [], d := 1 }
noncomputable def t_spec_l06Series (a0 : Iv) (a1 : I64) : Tr (Iv) :=
  let c2 := (Rng.w .i64 (16 + a1.val)); let c10 := (Rng.w .i64 (14 + a1.val)); let c18 := (Rng.w .i64 (12 + a1.val)); let c26 := (Rng.w .i64 (10 + a1.val)); let c34 := (Rng.w .i64 (8 + a1.val)); let c42 := (Rng.w .i64 (6 + a1.val)); let c50 := (Rng.w .i64 (4 + a1.val)); let c58 := (Rng.w .i64 (2 + a1.val)); .leaf (F_spec_SubI (F_spec_Integer ⟨1, rfl⟩) (F_spec_MulI (F_spec_DivI a0 (F_spec_Integer (Rng.w .i64 (c58.val * (Rng.w .i64 (c58.val + 1)).val)))) (F_spec_SubI (F_spec_Integer ⟨1, rfl⟩) (F_spec_MulI (F_spec_DivI a0 (F_spec_Integer (Rng.w .i64 (c50.val * (Rng.w .i64 (c50.val + 1)).val)))) (F_spec_SubI (F_spec_Integer ⟨1, rfl⟩) (F_spec_MulI (F_spec_DivI a0 (F_spec_Integer (Rng.w .i64 (c42.val * (Rng.w .i64 (c42.val + 1)).val)))) (F_spec_SubI (F_spec_Integer ⟨1, rfl⟩) (F_spec_MulI (F_spec_DivI a0 (F_spec_Integer (Rng.w .i64 (c34.val * (Rng.w .i64 (c34.val + 1)).val)))) (F_spec_SubI (F_spec_Integer ⟨1, rfl⟩) (F_spec_MulI (F_spec_DivI a0 (F_spec_Integer (Rng.w .i64 (c26.val * (Rng.w .i64 (c26.val + 1)).val)))) (F_spec_SubI (F_spec_Integer ⟨1, rfl⟩) (F_spec_MulI (F_spec_DivI a0 (F_spec_Integer (Rng.w .i64 (c18.val * (Rng.w .i64 (c18.val + 1)).val)))) (F_spec_SubI (F_spec_Integer ⟨1, rfl⟩) (F_spec_MulI (F_spec_DivI a0 (F_spec_Integer (Rng.w .i64 (c10.val * (Rng.w .i64 (c10.val + 1)).val)))) (F_spec_SubI (F_spec_Integer ⟨1, rfl⟩) (F_spec_MulI (F_spec_DivI a0 (F_spec_Integer (Rng.w .i64 (c2.val * (Rng.w .i64 (c2.val + 1)).val)))) (F_spec_Integer ⟨1, rfl⟩)))))))))))))))))
theorem r_spec_l06Series (a0 : Iv) (a1 : I64) : Tb230.run B230 [enc a0, enc a1] (Iv) = (t_spec_l06Series a0 a1).opt := by kernel_rfl
noncomputable def F_spec_l06Series : Iv → I64 → Iv := fun a0 a1 => (t_spec_l06Series a0 a1).get
theorem u_spec_l06Series (a0 : Iv) (a1 : I64) : (t_spec_l06Series a0 a1).opt = some (F_spec_l06Series a0 a1) := Tr.tot_get (by kernel_rfl)
noncomputable def E_spec_l06Series : Ent Tryz.prog := .of2 Tb230 B230 (fun _ _ => true) F_spec_l06Series fun a0 a1 _ => (r_spec_l06Series a0 a1).trans (u_spec_l06Series a0 a1)
noncomputable def B232 : Bod Tryz.prog := ⟨232, Tryz.f232, Tryz.f232.body.getD .skip, Tryz.func232, by kernel_rfl, by kernel_rfl, Loops.no _ _⟩
noncomputable def Tb232 : Tb Tryz.prog := { T := [Y2, Y25], mix := mix, Es := [], Bs := [], d := 1 }
noncomputable def t_spec_l06Tiny : Tr (Iv) :=
  .leaf ⟨⟨(-1), rfl⟩, ⟨1, rfl⟩⟩
theorem r_spec_l06Tiny : Tb232.run B232 [] (Iv) = (t_spec_l06Tiny).opt := by kernel_rfl
noncomputable def F_spec_l06Tiny : Iv := (t_spec_l06Tiny).get
theorem u_spec_l06Tiny : (t_spec_l06Tiny).opt = some (F_spec_l06Tiny) := Tr.tot_get (by kernel_rfl)
noncomputable def E_spec_l06Tiny : Ent Tryz.prog := .of0 Tb232 B232 F_spec_l06Tiny (r_spec_l06Tiny.trans u_spec_l06Tiny)
noncomputable def B201 : Bod Tryz.prog := ⟨201, Tryz.f201, Tryz.f201.body.getD .skip, Tryz.func201, by kernel_rfl, by kernel_rfl, Loops.no _ _⟩
noncomputable def Tb201 : Tb Tryz.prog := { T := [Y2, Y25], mix := mix, Es := [E_spec_MulI, E_spec_AddI, E_spec_Whole, E_spec_l06Ring, E_spec_InsideI, E_spec_l06Series, E_spec_SqrI, E_spec_l06Tiny], Bs := [], d := 1 }
noncomputable def t_spec_SinSeries (a0 : Iv) : Tr (Iv) :=
  .br (!(F_spec_InsideI a0 F_spec_l06Ring)) (.leaf F_spec_Whole) (.leaf (F_spec_AddI (F_spec_MulI a0 (F_spec_l06Series (F_spec_SqrI a0) ⟨0, rfl⟩)) F_spec_l06Tiny))
theorem r_spec_SinSeries (a0 : Iv) : Tb201.run B201 [enc a0] (Iv) = (t_spec_SinSeries a0).opt := by kernel_rfl
noncomputable def F_spec_SinSeries : Iv → Iv := fun a0 => (t_spec_SinSeries a0).get
theorem u_spec_SinSeries (a0 : Iv) : (t_spec_SinSeries a0).opt = some (F_spec_SinSeries a0) := Tr.tot_get (by kernel_rfl)
noncomputable def E_spec_SinSeries : Ent Tryz.prog := .of1 Tb201 B201 (fun _ => true) F_spec_SinSeries fun a0 _ => (r_spec_SinSeries a0).trans (u_spec_SinSeries a0)
noncomputable def B202 : Bod Tryz.prog := ⟨202, Tryz.f202, Tryz.f202.body.getD .skip, Tryz.func202, by kernel_rfl, by kernel_rfl, Loops.no _ _⟩
noncomputable def Tb202 : Tb Tryz.prog := { T := [Y2, Y25], mix := mix, Es := [E_spec_AddI, E_spec_Whole, E_spec_l06Ring, E_spec_InsideI, E_spec_l06Series, E_spec_SqrI, E_spec_l06Tiny], Bs := [], d := 1 }
noncomputable def t_spec_CosSeries (a0 : Iv) : Tr (Iv) :=
  .br (!(F_spec_InsideI a0 F_spec_l06Ring)) (.leaf F_spec_Whole) (.leaf (F_spec_AddI (F_spec_l06Series (F_spec_SqrI a0) ⟨(-1), rfl⟩) F_spec_l06Tiny))
theorem r_spec_CosSeries (a0 : Iv) : Tb202.run B202 [enc a0] (Iv) = (t_spec_CosSeries a0).opt := by kernel_rfl
noncomputable def F_spec_CosSeries : Iv → Iv := fun a0 => (t_spec_CosSeries a0).get
theorem u_spec_CosSeries (a0 : Iv) : (t_spec_CosSeries a0).opt = some (F_spec_CosSeries a0) := Tr.tot_get (by kernel_rfl)
noncomputable def E_spec_CosSeries : Ent Tryz.prog := .of1 Tb202 B202 (fun _ => true) F_spec_CosSeries fun a0 _ => (r_spec_CosSeries a0).trans (u_spec_CosSeries a0)
noncomputable def B200 : Bod Tryz.prog := ⟨200, Tryz.f200, Tryz.f200.body.getD .skip, Tryz.func200, by kernel_rfl, by kernel_rfl, Loops.no _ _⟩
noncomputable def Tb200 : Tb Tryz.prog := { T := [Y2, Y25], mix := mix, Es := [E_spec_l06Ring, E_spec_MeetI], Bs := [], d := 1 }
noncomputable def t_spec_l06Meet (a0 : Iv) : Tr (Iv) :=
  let c2 := F_spec_MeetI a0 F_spec_l06Ring; .br (!c2.b) (.leaf F_spec_l06Ring) (.leaf c2.a)
theorem r_spec_l06Meet (a0 : Iv) : Tb200.run B200 [enc a0] (Iv) = (t_spec_l06Meet a0).opt := by kernel_rfl
noncomputable def F_spec_l06Meet : Iv → Iv := fun a0 => (t_spec_l06Meet a0).get
theorem u_spec_l06Meet (a0 : Iv) : (t_spec_l06Meet a0).opt = some (F_spec_l06Meet a0) := Tr.tot_get (by kernel_rfl)
noncomputable def E_spec_l06Meet : Ent Tryz.prog := .of1 Tb200 B200 (fun _ => true) F_spec_l06Meet fun a0 _ => (r_spec_l06Meet a0).trans (u_spec_l06Meet a0)
noncomputable def B198 : Bod Tryz.prog := ⟨198, Tryz.f198, Tryz.f198.body.getD .skip, Tryz.func198, by kernel_rfl, by kernel_rfl, Loops.no _ _⟩
noncomputable def Tb198 : Tb Tryz.prog := { T := [Y25], mix := mix, Es := [E_spec_l04Ok], Bs := [], d := 1 }
noncomputable def t_spec_ValidInterval (a0 : Iv) : Tr (Bool) :=
  .leaf (F_spec_l04Ok a0)
theorem r_spec_ValidInterval (a0 : Iv) : Tb198.run B198 [enc a0] (Bool) = (t_spec_ValidInterval a0).opt := by kernel_rfl
noncomputable def F_spec_ValidInterval : Iv → Bool := fun a0 => (t_spec_ValidInterval a0).get
theorem u_spec_ValidInterval (a0 : Iv) : (t_spec_ValidInterval a0).opt = some (F_spec_ValidInterval a0) := Tr.tot_get (by kernel_rfl)
noncomputable def E_spec_ValidInterval : Ent Tryz.prog := .of1 Tb198 B198 (fun _ => true) F_spec_ValidInterval fun a0 _ => (r_spec_ValidInterval a0).trans (u_spec_ValidInterval a0)
noncomputable def B163 : Bod Tryz.prog := ⟨163, Tryz.f163, Tryz.f163.body.getD .skip, Tryz.func163, by kernel_rfl, by kernel_rfl, Loops.no _ _⟩
noncomputable def Tb163 : Tb Tryz.prog := { T := [Y2, Y25], mix := mix, Es := [E_spec_ValidInterval, E_spec_l06Angle], Bs := [], d := 1 }
noncomputable def t_spec_l06Fits (a0 : Iv) : Tr (Bool) :=
  .br (F_spec_ValidInterval a0) (.br (F_spec_l06Angle a0.lo) (.leaf (F_spec_l06Angle a0.hi)) (.leaf false)) (.leaf false)
theorem r_spec_l06Fits (a0 : Iv) : Tb163.run B163 [enc a0] (Bool) = (t_spec_l06Fits a0).opt := by kernel_rfl
noncomputable def F_spec_l06Fits : Iv → Bool := fun a0 => (t_spec_l06Fits a0).get
theorem u_spec_l06Fits (a0 : Iv) : (t_spec_l06Fits a0).opt = some (F_spec_l06Fits a0) := Tr.tot_get (by kernel_rfl)
noncomputable def E_spec_l06Fits : Ent Tryz.prog := .of1 Tb163 B163 (fun _ => true) F_spec_l06Fits fun a0 _ => (r_spec_l06Fits a0).trans (u_spec_l06Fits a0)
noncomputable def B177 : Bod Tryz.prog := ⟨177, Tryz.f177, Tryz.f177.body.getD .skip, Tryz.func177, by kernel_rfl, by kernel_rfl, Loops.no _ _⟩
noncomputable def Tb177 : Tb Tryz.prog := { T := [Y2, Y25], mix := mix, Es := [], Bs := [], d := 1 }
noncomputable def t_impl_ring : Tr (Iv) :=
  .leaf ⟨⟨(-4294967296), rfl⟩, ⟨4294967296, rfl⟩⟩
theorem r_impl_ring : Tb177.run B177 [] (Iv) = (t_impl_ring).opt := by kernel_rfl
noncomputable def F_impl_ring : Iv := (t_impl_ring).get
theorem u_impl_ring : (t_impl_ring).opt = some (F_impl_ring) := Tr.tot_get (by kernel_rfl)
noncomputable def E_impl_ring : Ent Tryz.prog := .of0 Tb177 B177 F_impl_ring (r_impl_ring.trans u_impl_ring)
noncomputable def B55 : Bod Tryz.prog := ⟨55, Tryz.f55, Tryz.f55.body.getD .skip, Tryz.func55, by kernel_rfl, by kernel_rfl, Loops.no _ _⟩
noncomputable def Tb55 : Tb Tryz.prog := { T := [Y2, Y25], mix := mix, Es := [E_impl_within, E_impl_Whole, E_impl_bounded], Bs := [], d := 1 }
noncomputable def t_impl_Integer (a0 : I64) : Tr (Iv) :=
  .br (!(F_impl_within a0 ⟨(-268435456), rfl⟩ ⟨268435456, rfl⟩)) (.leaf F_impl_Whole) (.leaf (F_impl_bounded (Rng.w .i64 (a0.val * 4294967296)) (Rng.w .i64 (a0.val * 4294967296)) true))
theorem r_impl_Integer (a0 : I64) : Tb55.run B55 [enc a0] (Iv) = (t_impl_Integer a0).opt := by kernel_rfl
noncomputable def F_impl_Integer : I64 → Iv := fun a0 => (t_impl_Integer a0).get
theorem u_impl_Integer (a0 : I64) : (t_impl_Integer a0).opt = some (F_impl_Integer a0) := Tr.tot_get (by kernel_rfl)
noncomputable def E_impl_Integer : Ent Tryz.prog := .of1 Tb55 B55 (fun _ => true) F_impl_Integer fun a0 _ => (r_impl_Integer a0).trans (u_impl_Integer a0)
noncomputable def B238 : Bod Tryz.prog := ⟨238, Tryz.f238, Tryz.f238.body.getD .skip, Tryz.func238, by kernel_rfl, by kernel_rfl, Loops.no _ _⟩
noncomputable def Tb238 : Tb Tryz.prog := { T := [Y2, Y25], mix := mix, Es := [E_impl_Integer, E_impl_SubI, ET_impl_MulI, E_impl_DivI], Bs := [], d := 1 }
noncomputable def t_impl_series (a0 : Iv) (a1 : I64) : Tr (Iv) :=
  let c2 := (Rng.w .i64 (a1.val + 14)); let c10 := (Rng.w .i64 (a1.val + 12)); let c18 := (Rng.w .i64 (a1.val + 10)); let c26 := (Rng.w .i64 (a1.val + 8)); let c34 := (Rng.w .i64 (a1.val + 6)); let c42 := (Rng.w .i64 (a1.val + 4)); let c50 := (Rng.w .i64 (a1.val + 2)); let c58 := (Rng.w .i64 (a1.val + 0)); .leaf (F_impl_SubI (F_impl_Integer ⟨1, rfl⟩) (F_impl_MulI (F_impl_DivI a0 (F_impl_Integer (Rng.w .i64 (c58.val * (Rng.w .i64 (c58.val + 1)).val)))) (F_impl_SubI (F_impl_Integer ⟨1, rfl⟩) (F_impl_MulI (F_impl_DivI a0 (F_impl_Integer (Rng.w .i64 (c50.val * (Rng.w .i64 (c50.val + 1)).val)))) (F_impl_SubI (F_impl_Integer ⟨1, rfl⟩) (F_impl_MulI (F_impl_DivI a0 (F_impl_Integer (Rng.w .i64 (c42.val * (Rng.w .i64 (c42.val + 1)).val)))) (F_impl_SubI (F_impl_Integer ⟨1, rfl⟩) (F_impl_MulI (F_impl_DivI a0 (F_impl_Integer (Rng.w .i64 (c34.val * (Rng.w .i64 (c34.val + 1)).val)))) (F_impl_SubI (F_impl_Integer ⟨1, rfl⟩) (F_impl_MulI (F_impl_DivI a0 (F_impl_Integer (Rng.w .i64 (c26.val * (Rng.w .i64 (c26.val + 1)).val)))) (F_impl_SubI (F_impl_Integer ⟨1, rfl⟩) (F_impl_MulI (F_impl_DivI a0 (F_impl_Integer (Rng.w .i64 (c18.val * (Rng.w .i64 (c18.val + 1)).val)))) (F_impl_SubI (F_impl_Integer ⟨1, rfl⟩) (F_impl_MulI (F_impl_DivI a0 (F_impl_Integer (Rng.w .i64 (c10.val * (Rng.w .i64 (c10.val + 1)).val)))) (F_impl_SubI (F_impl_Integer ⟨1, rfl⟩) (F_impl_MulI (F_impl_DivI a0 (F_impl_Integer (Rng.w .i64 (c2.val * (Rng.w .i64 (c2.val + 1)).val)))) (F_impl_Integer ⟨1, rfl⟩)))))))))))))))))
theorem r_impl_series (a0 : Iv) (a1 : I64) : Tb238.run B238 [enc a0, enc a1] (Iv) = (t_impl_series a0 a1).opt := by kernel_rfl
noncomputable def F_impl_series : Iv → I64 → Iv := fun a0 a1 => (t_impl_series a0 a1).get
theorem u_impl_series (a0 : Iv) (a1 : I64) : (t_impl_series a0 a1).opt = some (F_impl_series a0 a1) := Tr.tot_get (by kernel_rfl)
noncomputable def E_impl_series : Ent Tryz.prog := .of2 Tb238 B238 (fun _ _ => true) F_impl_series fun a0 a1 _ => (r_impl_series a0 a1).trans (u_impl_series a0 a1)
noncomputable def B239 : Bod Tryz.prog := ⟨239, Tryz.f239, Tryz.f239.body.getD .skip, Tryz.func239, by kernel_rfl, by kernel_rfl, Loops.no _ _⟩
noncomputable def Tb239 : Tb Tryz.prog := { T := [Y2, Y25], mix := mix, Es := [], Bs := [], d := 1 }
noncomputable def t_impl_tiny : Tr (Iv) :=
  .leaf ⟨⟨(-1), rfl⟩, ⟨1, rfl⟩⟩
theorem r_impl_tiny : Tb239.run B239 [] (Iv) = (t_impl_tiny).opt := by kernel_rfl
noncomputable def F_impl_tiny : Iv := (t_impl_tiny).get
theorem u_impl_tiny : (t_impl_tiny).opt = some (F_impl_tiny) := Tr.tot_get (by kernel_rfl)
noncomputable def E_impl_tiny : Ent Tryz.prog := .of0 Tb239 B239 F_impl_tiny (r_impl_tiny.trans u_impl_tiny)
noncomputable def B212 : Bod Tryz.prog := ⟨212, Tryz.f212, Tryz.f212.body.getD .skip, Tryz.func212, by kernel_rfl, by kernel_rfl, Loops.no _ _⟩
noncomputable def Tb212 : Tb Tryz.prog := { T := [Y2, Y25], mix := mix, Es := [E_impl_AddI, ET_impl_MulI, E_impl_Whole, E_impl_ring, ET_impl_SqrI, E_impl_InsideI, E_impl_series, E_impl_tiny], Bs := [], d := 1 }
noncomputable def t_impl_SinSeries (a0 : Iv) : Tr (Iv) :=
  .br (!(F_impl_InsideI a0 F_impl_ring)) (.leaf F_impl_Whole) (.leaf (F_impl_AddI (F_impl_MulI a0 (F_impl_series (F_impl_SqrI a0) ⟨2, rfl⟩)) F_impl_tiny))
theorem r_impl_SinSeries (a0 : Iv) : Tb212.run B212 [enc a0] (Iv) = (t_impl_SinSeries a0).opt := by kernel_rfl
noncomputable def F_impl_SinSeries : Iv → Iv := fun a0 => (t_impl_SinSeries a0).get
theorem u_impl_SinSeries (a0 : Iv) : (t_impl_SinSeries a0).opt = some (F_impl_SinSeries a0) := Tr.tot_get (by kernel_rfl)
noncomputable def E_impl_SinSeries : Ent Tryz.prog := .of1 Tb212 B212 (fun _ => true) F_impl_SinSeries fun a0 _ => (r_impl_SinSeries a0).trans (u_impl_SinSeries a0)
noncomputable def B213 : Bod Tryz.prog := ⟨213, Tryz.f213, Tryz.f213.body.getD .skip, Tryz.func213, by kernel_rfl, by kernel_rfl, Loops.no _ _⟩
noncomputable def Tb213 : Tb Tryz.prog := { T := [Y2, Y25], mix := mix, Es := [E_impl_AddI, E_impl_Whole, E_impl_ring, ET_impl_SqrI, E_impl_InsideI, E_impl_series, E_impl_tiny], Bs := [], d := 1 }
noncomputable def t_impl_CosSeries (a0 : Iv) : Tr (Iv) :=
  .br (!(F_impl_InsideI a0 F_impl_ring)) (.leaf F_impl_Whole) (.leaf (F_impl_AddI (F_impl_series (F_impl_SqrI a0) ⟨1, rfl⟩) F_impl_tiny))
theorem r_impl_CosSeries (a0 : Iv) : Tb213.run B213 [enc a0] (Iv) = (t_impl_CosSeries a0).opt := by kernel_rfl
noncomputable def F_impl_CosSeries : Iv → Iv := fun a0 => (t_impl_CosSeries a0).get
theorem u_impl_CosSeries (a0 : Iv) : (t_impl_CosSeries a0).opt = some (F_impl_CosSeries a0) := Tr.tot_get (by kernel_rfl)
noncomputable def E_impl_CosSeries : Ent Tryz.prog := .of1 Tb213 B213 (fun _ => true) F_impl_CosSeries fun a0 _ => (r_impl_CosSeries a0).trans (u_impl_CosSeries a0)
noncomputable def B211 : Bod Tryz.prog := ⟨211, Tryz.f211, Tryz.f211.body.getD .skip, Tryz.func211, by kernel_rfl, by kernel_rfl, Loops.no _ _⟩
noncomputable def Tb211 : Tb Tryz.prog := { T := [Y2, Y25], mix := mix, Es := [E_impl_ring, E_impl_MeetI], Bs := [], d := 1 }
noncomputable def t_impl_inRing (a0 : Iv) : Tr (Iv) :=
  .leaf (F_impl_MeetI a0 F_impl_ring).a
theorem r_impl_inRing (a0 : Iv) : Tb211.run B211 [enc a0] (Iv) = (t_impl_inRing a0).opt := by kernel_rfl
noncomputable def F_impl_inRing : Iv → Iv := fun a0 => (t_impl_inRing a0).get
theorem u_impl_inRing (a0 : Iv) : (t_impl_inRing a0).opt = some (F_impl_inRing a0) := Tr.tot_get (by kernel_rfl)
noncomputable def E_impl_inRing : Ent Tryz.prog := .of1 Tb211 B211 (fun _ => true) F_impl_inRing fun a0 _ => (r_impl_inRing a0).trans (u_impl_inRing a0)
noncomputable def B176 : Bod Tryz.prog := ⟨176, Tryz.f176, Tryz.f176.body.getD .skip, Tryz.func176, by kernel_rfl, by kernel_rfl, Loops.no _ _⟩
noncomputable def Tb176 : Tb Tryz.prog := { T := [Y2, Y25], mix := mix, Es := [E_impl_ValidInterval, E_impl_isAngle], Bs := [], d := 1 }
noncomputable def t_impl_areAngles (a0 : Iv) : Tr (Bool) :=
  .br (F_impl_ValidInterval a0) (.br (F_impl_isAngle a0.lo) (.leaf (F_impl_isAngle a0.hi)) (.leaf false)) (.leaf false)
theorem r_impl_areAngles (a0 : Iv) : Tb176.run B176 [enc a0] (Bool) = (t_impl_areAngles a0).opt := by kernel_rfl
noncomputable def F_impl_areAngles : Iv → Bool := fun a0 => (t_impl_areAngles a0).get
theorem u_impl_areAngles (a0 : Iv) : (t_impl_areAngles a0).opt = some (F_impl_areAngles a0) := Tr.tot_get (by kernel_rfl)
noncomputable def E_impl_areAngles : Ent Tryz.prog := .of1 Tb176 B176 (fun _ => true) F_impl_areAngles fun a0 _ => (r_impl_areAngles a0).trans (u_impl_areAngles a0)
end
end Go.Proofs.YtjfkljhgbomkiaaGreat.Ev
