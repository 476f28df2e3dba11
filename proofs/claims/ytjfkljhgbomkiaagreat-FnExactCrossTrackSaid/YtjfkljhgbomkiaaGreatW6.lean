import Derived.Test.YtjfkljhgbomkiaaGreatW5
import Derived.Test.YtjfkljhgbomkiaaGreatP12
namespace Go.Proofs.YtjfkljhgbomkiaaGreat.Ev
open Go Go.RowKit
set_option maxRecDepth 100000
set_option linter.unusedVariables false
section
noncomputable def ET_spec_AtanAt : Ent Tryz.prog := .of1 Tb192 B192 (fun _ => true) F_spec_AtanAt fun a0 _ => (r_spec_AtanAt a0).trans (tt_atan_spec a0)
noncomputable def ET_impl_AtanAt : Ent Tryz.prog := .of1 Tb194 B194 (fun _ => true) F_impl_AtanAt fun a0 _ => (r_impl_AtanAt a0).trans (tt_atan_impl a0)
noncomputable def B60 : Bod Tryz.prog := ⟨60, Tryz.f60, Tryz.f60.body.getD .skip, Tryz.func60, by kernel_rfl, by kernel_rfl, Loops.no _ _⟩
noncomputable def Tb60 : Tb Tryz.prog := { T := [Y25], mix := mix, Es := [E_spec_l04Ok], Bs := [], d := 1 }
noncomputable def t_spec_IsWhole (a0 : Iv) : Tr (Bool) :=
  .leaf (!(F_spec_l04Ok a0))
theorem r_spec_IsWhole (a0 : Iv) : Tb60.run B60 [enc a0] (Bool) = (t_spec_IsWhole a0).opt := by kernel_rfl
noncomputable def F_spec_IsWhole : Iv → Bool := fun a0 => (t_spec_IsWhole a0).get
theorem u_spec_IsWhole (a0 : Iv) : (t_spec_IsWhole a0).opt = some (F_spec_IsWhole a0) := Tr.tot_get (by kernel_rfl)
noncomputable def E_spec_IsWhole : Ent Tryz.prog := .of1 Tb60 B60 (fun _ => true) F_spec_IsWhole fun a0 _ => (r_spec_IsWhole a0).trans (u_spec_IsWhole a0)
noncomputable def B153 : Bod Tryz.prog := ⟨153, Tryz.f153, Tryz.f153.body.getD .skip, Tryz.func153, by kernel_rfl, by kernel_rfl, Loops.no _ _⟩
noncomputable def Tb153 : Tb Tryz.prog := { T := [Y2, Y25], mix := mix, Es := [E_spec_IsWhole, E_spec_HullI, E_spec_l07Quarter, ET_spec_AtanAt], Bs := [], d := 1 }
noncomputable def t_spec_AtanI (a0 : Iv) : Tr (Iv) :=
  .br (F_spec_IsWhole a0) (.leaf F_spec_l07Quarter) (.leaf (F_spec_HullI (F_spec_AtanAt a0.lo) (F_spec_AtanAt a0.hi)))
theorem r_spec_AtanI (a0 : Iv) : Tb153.run B153 [enc a0] (Iv) = (t_spec_AtanI a0).opt := by kernel_rfl
noncomputable def F_spec_AtanI : Iv → Iv := fun a0 => (t_spec_AtanI a0).get
theorem u_spec_AtanI (a0 : Iv) : (t_spec_AtanI a0).opt = some (F_spec_AtanI a0) := Tr.tot_get (by kernel_rfl)
noncomputable def E_spec_AtanI : Ent Tryz.prog := .of1 Tb153 B153 (fun _ => true) F_spec_AtanI fun a0 _ => (r_spec_AtanI a0).trans (u_spec_AtanI a0)
noncomputable def B157 : Bod Tryz.prog := ⟨157, Tryz.f157, Tryz.f157.body.getD .skip, Tryz.func157, by kernel_rfl, by kernel_rfl, Loops.no _ _⟩
noncomputable def Tb157 : Tb Tryz.prog := { T := [Y2, Y25], mix := mix, Es := [E_impl_IsWhole, E_impl_HullI, E_impl_halfCircle, ET_impl_AtanAt], Bs := [], d := 1 }
noncomputable def t_impl_AtanI (a0 : Iv) : Tr (Iv) :=
  .br (F_impl_IsWhole a0) (.leaf F_impl_halfCircle) (.leaf (F_impl_HullI (F_impl_AtanAt a0.lo) (F_impl_AtanAt a0.hi)))
theorem r_impl_AtanI (a0 : Iv) : Tb157.run B157 [enc a0] (Iv) = (t_impl_AtanI a0).opt := by kernel_rfl
noncomputable def F_impl_AtanI : Iv → Iv := fun a0 => (t_impl_AtanI a0).get
theorem u_impl_AtanI (a0 : Iv) : (t_impl_AtanI a0).opt = some (F_impl_AtanI a0) := Tr.tot_get (by kernel_rfl)
noncomputable def E_impl_AtanI : Ent Tryz.prog := .of1 Tb157 B157 (fun _ => true) F_impl_AtanI fun a0 _ => (r_impl_AtanI a0).trans (u_impl_AtanI a0)
noncomputable def B105 : Bod Tryz.prog := ⟨105, Tryz.f105, Tryz.f105.body.getD .skip, Tryz.func105, by kernel_rfl, by kernel_rfl, Loops.no _ _⟩
noncomputable def Tb105 : Tb Tryz.prog := { T := [Y25], mix := mix, Es := [E_spec_l04Ok, E_spec_l04Has], Bs := [], d := 1 }
noncomputable def t_spec_HasI (a0 : Iv) (a1 : I64) : Tr (Bool) :=
  .br (!(F_spec_l04Ok a0)) (.leaf true) (.leaf (F_spec_l04Has a0 a1))
theorem r_spec_HasI (a0 : Iv) (a1 : I64) : Tb105.run B105 [enc a0, enc a1] (Bool) = (t_spec_HasI a0 a1).opt := by kernel_rfl
noncomputable def F_spec_HasI : Iv → I64 → Bool := fun a0 a1 => (t_spec_HasI a0 a1).get
theorem u_spec_HasI (a0 : Iv) (a1 : I64) : (t_spec_HasI a0 a1).opt = some (F_spec_HasI a0 a1) := Tr.tot_get (by kernel_rfl)
noncomputable def E_spec_HasI : Ent Tryz.prog := .of2 Tb105 B105 (fun _ _ => true) F_spec_HasI fun a0 a1 _ => (r_spec_HasI a0 a1).trans (u_spec_HasI a0 a1)
noncomputable def B108 : Bod Tryz.prog := ⟨108, Tryz.f108, Tryz.f108.body.getD .skip, Tryz.func108, by kernel_rfl, by kernel_rfl, Loops.no _ _⟩
noncomputable def Tb108 : Tb Tryz.prog := { T := [Y2, Y25], mix := mix, Es := [E_spec_SubI, E_spec_AddI, E_spec_DivI, E_spec_Whole, E_spec_l07Fix, ET_spec_TurnI, E_spec_AtanI, E_spec_l05At], Bs := [], d := 1 }
noncomputable def t_spec_DirectionAt (a0 : I64) (a1 : I64) : Tr (Iv) :=
  .br (!(F_spec_l07Fix a0)) (.leaf F_spec_Whole) (.br (!(F_spec_l07Fix a1)) (.leaf F_spec_Whole) (.br (a1.val == 0) (.br (a0.val == 0) (.leaf F_spec_Whole) (.br (decide (a0.val < 0)) (let c6 := (Rng.w .i64 (0 - a0.val)); .br (decide (c6.val > a1.val)) (.br (decide (c6.val > (Rng.w .i64 (0 - a1.val)).val)) (.br (decide (a0.val < 0)) (.leaf (F_spec_SubI (F_spec_TurnI ⟨(-1), rfl⟩) (F_spec_AtanI (F_spec_DivI (F_spec_l05At a1) (F_spec_l05At a0))))) (.leaf (F_spec_SubI (F_spec_TurnI ⟨1, rfl⟩) (F_spec_AtanI (F_spec_DivI (F_spec_l05At a1) (F_spec_l05At a0)))))) (.br (decide (a1.val > 0)) (.leaf (F_spec_AtanI (F_spec_DivI (F_spec_l05At a0) (F_spec_l05At a1)))) (.br (decide (a0.val < 0)) (.leaf (F_spec_AddI (F_spec_AtanI (F_spec_DivI (F_spec_l05At a0) (F_spec_l05At a1))) (F_spec_TurnI ⟨(-2), rfl⟩))) (.leaf (F_spec_AddI (F_spec_AtanI (F_spec_DivI (F_spec_l05At a0) (F_spec_l05At a1))) (F_spec_TurnI ⟨2, rfl⟩)))))) (.br (decide (a1.val > 0)) (.leaf (F_spec_AtanI (F_spec_DivI (F_spec_l05At a0) (F_spec_l05At a1)))) (.br (decide (a0.val < 0)) (.leaf (F_spec_AddI (F_spec_AtanI (F_spec_DivI (F_spec_l05At a0) (F_spec_l05At a1))) (F_spec_TurnI ⟨(-2), rfl⟩))) (.leaf (F_spec_AddI (F_spec_AtanI (F_spec_DivI (F_spec_l05At a0) (F_spec_l05At a1))) (F_spec_TurnI ⟨2, rfl⟩)))))) (.br (decide (a0.val > a1.val)) (.br (decide (a0.val > (Rng.w .i64 (0 - a1.val)).val)) (.br (decide (a0.val < 0)) (.leaf (F_spec_SubI (F_spec_TurnI ⟨(-1), rfl⟩) (F_spec_AtanI (F_spec_DivI (F_spec_l05At a1) (F_spec_l05At a0))))) (.leaf (F_spec_SubI (F_spec_TurnI ⟨1, rfl⟩) (F_spec_AtanI (F_spec_DivI (F_spec_l05At a1) (F_spec_l05At a0)))))) (.br (decide (a1.val > 0)) (.leaf (F_spec_AtanI (F_spec_DivI (F_spec_l05At a0) (F_spec_l05At a1)))) (.br (decide (a0.val < 0)) (.leaf (F_spec_AddI (F_spec_AtanI (F_spec_DivI (F_spec_l05At a0) (F_spec_l05At a1))) (F_spec_TurnI ⟨(-2), rfl⟩))) (.leaf (F_spec_AddI (F_spec_AtanI (F_spec_DivI (F_spec_l05At a0) (F_spec_l05At a1))) (F_spec_TurnI ⟨2, rfl⟩)))))) (.br (decide (a1.val > 0)) (.leaf (F_spec_AtanI (F_spec_DivI (F_spec_l05At a0) (F_spec_l05At a1)))) (.br (decide (a0.val < 0)) (.leaf (F_spec_AddI (F_spec_AtanI (F_spec_DivI (F_spec_l05At a0) (F_spec_l05At a1))) (F_spec_TurnI ⟨(-2), rfl⟩))) (.leaf (F_spec_AddI (F_spec_AtanI (F_spec_DivI (F_spec_l05At a0) (F_spec_l05At a1))) (F_spec_TurnI ⟨2, rfl⟩)))))))) (.br (decide (a0.val < 0)) (let c101 := (Rng.w .i64 (0 - a0.val)); .br (decide (c101.val > a1.val)) (.br (decide (c101.val > (Rng.w .i64 (0 - a1.val)).val)) (.br (decide (a0.val < 0)) (.leaf (F_spec_SubI (F_spec_TurnI ⟨(-1), rfl⟩) (F_spec_AtanI (F_spec_DivI (F_spec_l05At a1) (F_spec_l05At a0))))) (.leaf (F_spec_SubI (F_spec_TurnI ⟨1, rfl⟩) (F_spec_AtanI (F_spec_DivI (F_spec_l05At a1) (F_spec_l05At a0)))))) (.br (decide (a1.val > 0)) (.leaf (F_spec_AtanI (F_spec_DivI (F_spec_l05At a0) (F_spec_l05At a1)))) (.br (decide (a0.val < 0)) (.leaf (F_spec_AddI (F_spec_AtanI (F_spec_DivI (F_spec_l05At a0) (F_spec_l05At a1))) (F_spec_TurnI ⟨(-2), rfl⟩))) (.leaf (F_spec_AddI (F_spec_AtanI (F_spec_DivI (F_spec_l05At a0) (F_spec_l05At a1))) (F_spec_TurnI ⟨2, rfl⟩)))))) (.br (decide (a1.val > 0)) (.leaf (F_spec_AtanI (F_spec_DivI (F_spec_l05At a0) (F_spec_l05At a1)))) (.br (decide (a0.val < 0)) (.leaf (F_spec_AddI (F_spec_AtanI (F_spec_DivI (F_spec_l05At a0) (F_spec_l05At a1))) (F_spec_TurnI ⟨(-2), rfl⟩))) (.leaf (F_spec_AddI (F_spec_AtanI (F_spec_DivI (F_spec_l05At a0) (F_spec_l05At a1))) (F_spec_TurnI ⟨2, rfl⟩)))))) (.br (decide (a0.val > a1.val)) (.br (decide (a0.val > (Rng.w .i64 (0 - a1.val)).val)) (.br (decide (a0.val < 0)) (.leaf (F_spec_SubI (F_spec_TurnI ⟨(-1), rfl⟩) (F_spec_AtanI (F_spec_DivI (F_spec_l05At a1) (F_spec_l05At a0))))) (.leaf (F_spec_SubI (F_spec_TurnI ⟨1, rfl⟩) (F_spec_AtanI (F_spec_DivI (F_spec_l05At a1) (F_spec_l05At a0)))))) (.br (decide (a1.val > 0)) (.leaf (F_spec_AtanI (F_spec_DivI (F_spec_l05At a0) (F_spec_l05At a1)))) (.br (decide (a0.val < 0)) (.leaf (F_spec_AddI (F_spec_AtanI (F_spec_DivI (F_spec_l05At a0) (F_spec_l05At a1))) (F_spec_TurnI ⟨(-2), rfl⟩))) (.leaf (F_spec_AddI (F_spec_AtanI (F_spec_DivI (F_spec_l05At a0) (F_spec_l05At a1))) (F_spec_TurnI ⟨2, rfl⟩)))))) (.br (decide (a1.val > 0)) (.leaf (F_spec_AtanI (F_spec_DivI (F_spec_l05At a0) (F_spec_l05At a1)))) (.br (decide (a0.val < 0)) (.leaf (F_spec_AddI (F_spec_AtanI (F_spec_DivI (F_spec_l05At a0) (F_spec_l05At a1))) (F_spec_TurnI ⟨(-2), rfl⟩))) (.leaf (F_spec_AddI (F_spec_AtanI (F_spec_DivI (F_spec_l05At a0) (F_spec_l05At a1))) (F_spec_TurnI ⟨2, rfl⟩)))))))))
theorem r_spec_DirectionAt (a0 : I64) (a1 : I64) : Tb108.run B108 [enc a0, enc a1] (Iv) = (t_spec_DirectionAt a0 a1).opt := by kernel_rfl
noncomputable def F_spec_DirectionAt : I64 → I64 → Iv := fun a0 a1 => (t_spec_DirectionAt a0 a1).get
theorem u_spec_DirectionAt (a0 : I64) (a1 : I64) : (t_spec_DirectionAt a0 a1).opt = some (F_spec_DirectionAt a0 a1) := Tr.tot_get (by kernel_rfl)
noncomputable def E_spec_DirectionAt : Ent Tryz.prog := .of2 Tb108 B108 (fun _ _ => true) F_spec_DirectionAt fun a0 a1 _ => (r_spec_DirectionAt a0 a1).trans (u_spec_DirectionAt a0 a1)
noncomputable def B58 : Bod Tryz.prog := ⟨58, Tryz.f58, Tryz.f58.body.getD .skip, Tryz.func58, by kernel_rfl, by kernel_rfl, Loops.no _ _⟩
noncomputable def Tb58 : Tb Tryz.prog := { T := [Y2, Y25], mix := mix, Es := [E_spec_IsWhole, E_spec_HasI, E_spec_Whole, E_spec_HullI, E_spec_DirectionAt], Bs := [], d := 1 }
noncomputable def t_spec_DirectionI (a0 : Iv) (a1 : Iv) : Tr (Iv) :=
  .br (F_spec_IsWhole a0) (.leaf F_spec_Whole) (.br (F_spec_IsWhole a1) (.leaf F_spec_Whole) (.br (F_spec_HasI a0 ⟨0, rfl⟩) (.br (F_spec_HasI a1 ⟨0, rfl⟩) (.leaf F_spec_Whole) (.br (decide (a1.lo.val < 0)) (.br (decide (a0.lo.val < 0)) (.br (decide (a0.hi.val ≥ 0)) (.leaf F_spec_Whole) (.leaf (F_spec_HullI (F_spec_HullI (F_spec_DirectionAt a0.lo a1.lo) (F_spec_DirectionAt a0.lo a1.hi)) (F_spec_HullI (F_spec_DirectionAt a0.hi a1.lo) (F_spec_DirectionAt a0.hi a1.hi))))) (.leaf (F_spec_HullI (F_spec_HullI (F_spec_DirectionAt a0.lo a1.lo) (F_spec_DirectionAt a0.lo a1.hi)) (F_spec_HullI (F_spec_DirectionAt a0.hi a1.lo) (F_spec_DirectionAt a0.hi a1.hi))))) (.leaf (F_spec_HullI (F_spec_HullI (F_spec_DirectionAt a0.lo a1.lo) (F_spec_DirectionAt a0.lo a1.hi)) (F_spec_HullI (F_spec_DirectionAt a0.hi a1.lo) (F_spec_DirectionAt a0.hi a1.hi)))))) (.br (decide (a1.lo.val < 0)) (.br (decide (a0.lo.val < 0)) (.br (decide (a0.hi.val ≥ 0)) (.leaf F_spec_Whole) (.leaf (F_spec_HullI (F_spec_HullI (F_spec_DirectionAt a0.lo a1.lo) (F_spec_DirectionAt a0.lo a1.hi)) (F_spec_HullI (F_spec_DirectionAt a0.hi a1.lo) (F_spec_DirectionAt a0.hi a1.hi))))) (.leaf (F_spec_HullI (F_spec_HullI (F_spec_DirectionAt a0.lo a1.lo) (F_spec_DirectionAt a0.lo a1.hi)) (F_spec_HullI (F_spec_DirectionAt a0.hi a1.lo) (F_spec_DirectionAt a0.hi a1.hi))))) (.leaf (F_spec_HullI (F_spec_HullI (F_spec_DirectionAt a0.lo a1.lo) (F_spec_DirectionAt a0.lo a1.hi)) (F_spec_HullI (F_spec_DirectionAt a0.hi a1.lo) (F_spec_DirectionAt a0.hi a1.hi)))))))
theorem r_spec_DirectionI (a0 : Iv) (a1 : Iv) : Tb58.run B58 [enc a0, enc a1] (Iv) = (t_spec_DirectionI a0 a1).opt := by kernel_rfl
noncomputable def F_spec_DirectionI : Iv → Iv → Iv := fun a0 a1 => (t_spec_DirectionI a0 a1).get
theorem u_spec_DirectionI (a0 : Iv) (a1 : Iv) : (t_spec_DirectionI a0 a1).opt = some (F_spec_DirectionI a0 a1) := Tr.tot_get (by kernel_rfl)
noncomputable def E_spec_DirectionI : Ent Tryz.prog := .of2 Tb58 B58 (fun _ _ => true) F_spec_DirectionI fun a0 a1 _ => (r_spec_DirectionI a0 a1).trans (u_spec_DirectionI a0 a1)
noncomputable def B112 : Bod Tryz.prog := ⟨112, Tryz.f112, Tryz.f112.body.getD .skip, Tryz.func112, by kernel_rfl, by kernel_rfl, Loops.no _ _⟩
noncomputable def Tb112 : Tb Tryz.prog := { T := [Y2, Y25], mix := mix, Es := [E_impl_AddI, E_impl_SubI, E_impl_DivI, E_impl_Whole, E_impl_abs, E_impl_at, E_impl_isOpen, ET_impl_TurnI, E_impl_AtanI], Bs := [], d := 1 }
noncomputable def t_impl_DirectionAt (a0 : I64) (a1 : I64) : Tr (Iv) :=
  .br (!(F_impl_isOpen a0)) (.leaf F_impl_Whole) (.br (!(F_impl_isOpen a1)) (.leaf F_impl_Whole) (.br (a0.val == 0) (.br (a1.val == 0) (.leaf F_impl_Whole) (.br (decide ((F_impl_abs a0).val > (F_impl_abs a1).val)) (.br (decide (a0.val < 0)) (.leaf (F_impl_SubI (F_impl_TurnI ⟨(-1), rfl⟩) (F_impl_AtanI (F_impl_DivI (F_impl_at a1) (F_impl_at a0))))) (.leaf (F_impl_SubI (F_impl_TurnI ⟨1, rfl⟩) (F_impl_AtanI (F_impl_DivI (F_impl_at a1) (F_impl_at a0)))))) (let c24 := F_impl_AtanI (F_impl_DivI (F_impl_at a0) (F_impl_at a1)); .br (decide (a1.val > 0)) (.leaf c24) (.br (decide (a0.val < 0)) (.leaf (F_impl_AddI c24 (F_impl_TurnI ⟨(-2), rfl⟩))) (.leaf (F_impl_AddI c24 (F_impl_TurnI ⟨2, rfl⟩))))))) (.br (decide ((F_impl_abs a0).val > (F_impl_abs a1).val)) (.br (decide (a0.val < 0)) (.leaf (F_impl_SubI (F_impl_TurnI ⟨(-1), rfl⟩) (F_impl_AtanI (F_impl_DivI (F_impl_at a1) (F_impl_at a0))))) (.leaf (F_impl_SubI (F_impl_TurnI ⟨1, rfl⟩) (F_impl_AtanI (F_impl_DivI (F_impl_at a1) (F_impl_at a0)))))) (let c47 := F_impl_AtanI (F_impl_DivI (F_impl_at a0) (F_impl_at a1)); .br (decide (a1.val > 0)) (.leaf c47) (.br (decide (a0.val < 0)) (.leaf (F_impl_AddI c47 (F_impl_TurnI ⟨(-2), rfl⟩))) (.leaf (F_impl_AddI c47 (F_impl_TurnI ⟨2, rfl⟩))))))))
theorem r_impl_DirectionAt (a0 : I64) (a1 : I64) : Tb112.run B112 [enc a0, enc a1] (Iv) = (t_impl_DirectionAt a0 a1).opt := by kernel_rfl
noncomputable def F_impl_DirectionAt : I64 → I64 → Iv := fun a0 a1 => (t_impl_DirectionAt a0 a1).get
theorem u_impl_DirectionAt (a0 : I64) (a1 : I64) : (t_impl_DirectionAt a0 a1).opt = some (F_impl_DirectionAt a0 a1) := Tr.tot_get (by kernel_rfl)
noncomputable def E_impl_DirectionAt : Ent Tryz.prog := .of2 Tb112 B112 (fun _ _ => true) F_impl_DirectionAt fun a0 a1 _ => (r_impl_DirectionAt a0 a1).trans (u_impl_DirectionAt a0 a1)
noncomputable def B62 : Bod Tryz.prog := ⟨62, Tryz.f62, Tryz.f62.body.getD .skip, Tryz.func62, by kernel_rfl, by kernel_rfl, Loops.no _ _⟩
noncomputable def Tb62 : Tb Tryz.prog := { T := [Y2, Y25], mix := mix, Es := [E_impl_areBounded, E_impl_Whole, E_impl_HasI, E_impl_HullI, E_impl_DirectionAt], Bs := [], d := 1 }
noncomputable def t_impl_DirectionI (a0 : Iv) (a1 : Iv) : Tr (Iv) :=
  .br (!(F_impl_areBounded a0 a1)) (.leaf F_impl_Whole) (.br (F_impl_HasI a0 ⟨0, rfl⟩) (.br (F_impl_HasI a1 ⟨0, rfl⟩) (.leaf F_impl_Whole) (.br (decide (a1.lo.val < 0)) (.br (decide (a0.lo.val < 0)) (.br (decide (a0.hi.val ≥ 0)) (.leaf F_impl_Whole) (.leaf (F_impl_HullI (F_impl_HullI (F_impl_DirectionAt a0.lo a1.lo) (F_impl_DirectionAt a0.lo a1.hi)) (F_impl_HullI (F_impl_DirectionAt a0.hi a1.lo) (F_impl_DirectionAt a0.hi a1.hi))))) (.leaf (F_impl_HullI (F_impl_HullI (F_impl_DirectionAt a0.lo a1.lo) (F_impl_DirectionAt a0.lo a1.hi)) (F_impl_HullI (F_impl_DirectionAt a0.hi a1.lo) (F_impl_DirectionAt a0.hi a1.hi))))) (.leaf (F_impl_HullI (F_impl_HullI (F_impl_DirectionAt a0.lo a1.lo) (F_impl_DirectionAt a0.lo a1.hi)) (F_impl_HullI (F_impl_DirectionAt a0.hi a1.lo) (F_impl_DirectionAt a0.hi a1.hi)))))) (.br (decide (a1.lo.val < 0)) (.br (decide (a0.lo.val < 0)) (.br (decide (a0.hi.val ≥ 0)) (.leaf F_impl_Whole) (.leaf (F_impl_HullI (F_impl_HullI (F_impl_DirectionAt a0.lo a1.lo) (F_impl_DirectionAt a0.lo a1.hi)) (F_impl_HullI (F_impl_DirectionAt a0.hi a1.lo) (F_impl_DirectionAt a0.hi a1.hi))))) (.leaf (F_impl_HullI (F_impl_HullI (F_impl_DirectionAt a0.lo a1.lo) (F_impl_DirectionAt a0.lo a1.hi)) (F_impl_HullI (F_impl_DirectionAt a0.hi a1.lo) (F_impl_DirectionAt a0.hi a1.hi))))) (.leaf (F_impl_HullI (F_impl_HullI (F_impl_DirectionAt a0.lo a1.lo) (F_impl_DirectionAt a0.lo a1.hi)) (F_impl_HullI (F_impl_DirectionAt a0.hi a1.lo) (F_impl_DirectionAt a0.hi a1.hi))))))
theorem r_impl_DirectionI (a0 : Iv) (a1 : Iv) : Tb62.run B62 [enc a0, enc a1] (Iv) = (t_impl_DirectionI a0 a1).opt := by kernel_rfl
noncomputable def F_impl_DirectionI : Iv → Iv → Iv := fun a0 a1 => (t_impl_DirectionI a0 a1).get
theorem u_impl_DirectionI (a0 : Iv) (a1 : Iv) : (t_impl_DirectionI a0 a1).opt = some (F_impl_DirectionI a0 a1) := Tr.tot_get (by kernel_rfl)
noncomputable def E_impl_DirectionI : Ent Tryz.prog := .of2 Tb62 B62 (fun _ _ => true) F_impl_DirectionI fun a0 a1 _ => (r_impl_DirectionI a0 a1).trans (u_impl_DirectionI a0 a1)
noncomputable def B89 : Bod Tryz.prog := ⟨89, Tryz.f89, Tryz.f89.body.getD .skip, Tryz.func89, by kernel_rfl, by kernel_rfl, Loops.no _ _⟩
noncomputable def Tb89 : Tb Tryz.prog := { T := [Y2, Y25], mix := mix, Es := [E_spec_l04Ok, E_spec_l04Whole, E_spec_l04Make, E_spec_l04Ends], Bs := [], d := 1 }
noncomputable def t_spec_AbsI (a0 : Iv) : Tr (Iv) :=
  .br (!(F_spec_l04Ok a0)) (.leaf F_spec_l04Whole) (let c3 := F_spec_l04Ends a0; .leaf (F_spec_l04Make c3.a c3.b))
theorem r_spec_AbsI (a0 : Iv) : Tb89.run B89 [enc a0] (Iv) = (t_spec_AbsI a0).opt := by kernel_rfl
noncomputable def F_spec_AbsI : Iv → Iv := fun a0 => (t_spec_AbsI a0).get
theorem u_spec_AbsI (a0 : Iv) : (t_spec_AbsI a0).opt = some (F_spec_AbsI a0) := Tr.tot_get (by kernel_rfl)
noncomputable def E_spec_AbsI : Ent Tryz.prog := .of1 Tb89 B89 (fun _ => true) F_spec_AbsI fun a0 _ => (r_spec_AbsI a0).trans (u_spec_AbsI a0)
noncomputable def B123 : Bod Tryz.prog := ⟨123, Tryz.f123, Tryz.f123.body.getD .skip, Tryz.func123, by kernel_rfl, by kernel_rfl, Loops.no _ _⟩
noncomputable def Tb123 : Tb Tryz.prog := { T := [Y2, Y25], mix := mix, Es := [E_spec_AbsI], Bs := [], d := 1 }
noncomputable def t_spec_l10Ends (a0 : Iv) : Tr (T2 I64 I64) :=
  let c1 := F_spec_AbsI a0; .leaf ⟨c1.lo, c1.hi⟩
theorem r_spec_l10Ends (a0 : Iv) : Tb123.run B123 [enc a0] (T2 I64 I64) = (t_spec_l10Ends a0).opt := by kernel_rfl
noncomputable def F_spec_l10Ends : Iv → T2 I64 I64 := fun a0 => (t_spec_l10Ends a0).get
theorem u_spec_l10Ends (a0 : Iv) : (t_spec_l10Ends a0).opt = some (F_spec_l10Ends a0) := Tr.tot_get (by kernel_rfl)
noncomputable def E_spec_l10Ends : Ent Tryz.prog := .of1 Tb123 B123 (fun _ => true) F_spec_l10Ends fun a0 _ => (r_spec_l10Ends a0).trans (u_spec_l10Ends a0)
noncomputable def B125 : Bod Tryz.prog := ⟨125, Tryz.f125, Tryz.f125.body.getD .skip, Tryz.func125, by kernel_rfl, by kernel_rfl, Loops.no _ _⟩
noncomputable def Tb125 : Tb Tryz.prog := { T := [Y2, Y97, Y100], mix := mix, Es := [E_spec_l02Mul, E_spec_l02Plus], Bs := [], d := 1 }
noncomputable def t_spec_l10Sum (a0 : I64) (a1 : I64) (a2 : I64) : Tr (Wide) :=
  .leaf (F_spec_l02Plus (F_spec_l02Plus (F_spec_l02Mul a0 a0) (F_spec_l02Mul a1 a1)) (F_spec_l02Mul a2 a2))
theorem r_spec_l10Sum (a0 : I64) (a1 : I64) (a2 : I64) : Tb125.run B125 [enc a0, enc a1, enc a2] (Wide) = (t_spec_l10Sum a0 a1 a2).opt := by kernel_rfl
noncomputable def F_spec_l10Sum : I64 → I64 → I64 → Wide := fun a0 a1 a2 => (t_spec_l10Sum a0 a1 a2).get
theorem u_spec_l10Sum (a0 : I64) (a1 : I64) (a2 : I64) : (t_spec_l10Sum a0 a1 a2).opt = some (F_spec_l10Sum a0 a1 a2) := Tr.tot_get (by kernel_rfl)
noncomputable def E_spec_l10Sum : Ent Tryz.prog := .of3 Tb125 B125 (fun _ _ _ => true) F_spec_l10Sum fun a0 a1 a2 _ => (r_spec_l10Sum a0 a1 a2).trans (u_spec_l10Sum a0 a1 a2)
noncomputable def B82 : Bod Tryz.prog := ⟨82, Tryz.f82, Tryz.f82.body.getD .skip, Tryz.func82, by kernel_rfl, by kernel_rfl, Loops.no _ _⟩
noncomputable def Tb82 : Tb Tryz.prog := { T := [Y2, Y25, Y27, Y97, Y100], mix := mix, Es := [E_spec_IsWhole, E_spec_Whole, E_spec_l10Ends, ET_spec_l02Root, E_spec_l10Sum, E_spec_l02Mul], Bs := [], d := 1 }
noncomputable def t_spec_NormV (a0 : Vec) : Tr (Iv) :=
  .br (F_spec_IsWhole a0.x) (.leaf F_spec_Whole) (.br (F_spec_IsWhole a0.y) (.leaf F_spec_Whole) (.br (F_spec_IsWhole a0.z) (.leaf F_spec_Whole) (let c7 := F_spec_l10Ends a0.x; let c8 := F_spec_l10Ends a0.y; let c9 := F_spec_l10Ends a0.z; let c11 := F_spec_l02Root (F_spec_l10Sum c7.a c8.a c9.a); let c12 := F_spec_l10Sum c7.b c8.b c9.b; let c13 := F_spec_l02Root c12; let c14 := F_spec_l02Mul (Rng.w .i64 (c13.val)) (Rng.w .i64 (c13.val)); .br (!((c14.hi.val == c12.hi.val) && ((c14.lo.val == c12.lo.val) && true))) (let c16 := (Rng.w .i64 ((Rng.w .i64 (c13.val)).val + 1)); .br (decide (c16.val ≥ 1152921504606846976)) (.leaf F_spec_Whole) (.leaf ⟨(Rng.w .i64 (c11.val)), c16⟩)) (.br (decide ((Rng.w .i64 (c13.val)).val ≥ 1152921504606846976)) (.leaf F_spec_Whole) (.leaf ⟨(Rng.w .i64 (c11.val)), (Rng.w .i64 (c13.val))⟩)))))
theorem r_spec_NormV (a0 : Vec) : Tb82.run B82 [enc a0] (Iv) = (t_spec_NormV a0).opt := by kernel_rfl
noncomputable def F_spec_NormV : Vec → Iv := fun a0 => (t_spec_NormV a0).get
theorem u_spec_NormV (a0 : Vec) : (t_spec_NormV a0).opt = some (F_spec_NormV a0) := Tr.tot_get (by kernel_rfl)
noncomputable def E_spec_NormV : Ent Tryz.prog := .of1 Tb82 B82 (fun _ => true) F_spec_NormV fun a0 _ => (r_spec_NormV a0).trans (u_spec_NormV a0)
noncomputable def B169 : Bod Tryz.prog := ⟨169, Tryz.f169, Tryz.f169.body.getD .skip, Tryz.func169, by kernel_rfl, by kernel_rfl, Loops.no _ _⟩
noncomputable def Tb169 : Tb Tryz.prog := { T := [Y2, Y97, Y100], mix := mix, Es := [E_math_bits_Add64], Bs := [], d := 1 }
noncomputable def t_impl_WideAdd (a0 : Wide) (a1 : Wide) : Tr (T2 Wide Bool) :=
  let c1 := F_math_bits_Add64 a0.lo a1.lo ⟨0, rfl⟩; .br (G_carry (Rng.w .u64 (a0.hi.val)) (Rng.w .u64 (a1.hi.val)) c1.b) (let c2 := F_math_bits_Add64 (Rng.w .u64 (a0.hi.val)) (Rng.w .u64 (a1.hi.val)) c1.b; .br (decide ((Rng.w .i64 (bitop .and .i64 (Rng.w .i64 (bitop .xor .i64 a0.hi.val (Rng.w .i64 (c2.a.val)).val)).val (Rng.w .i64 (bitop .xor .i64 a1.hi.val (Rng.w .i64 (c2.a.val)).val)).val)).val < 0)) (.leaf ⟨⟨⟨0, rfl⟩, ⟨0, rfl⟩⟩, false⟩) (.leaf ⟨⟨(Rng.w .i64 (c2.a.val)), c1.a⟩, true⟩)) (.bad)
theorem r_impl_WideAdd (a0 : Wide) (a1 : Wide) : Tb169.run B169 [enc a0, enc a1] (T2 Wide Bool) = (t_impl_WideAdd a0 a1).opt := by kernel_rfl
noncomputable def F_impl_WideAdd : Wide → Wide → T2 Wide Bool := fun a0 a1 => (t_impl_WideAdd a0 a1).get
noncomputable def G_impl_WideAdd : Wide → Wide → Bool := fun a0 a1 => (t_impl_WideAdd a0 a1).opt.isSome
noncomputable def E_impl_WideAdd : Ent Tryz.prog := .of2 Tb169 B169 G_impl_WideAdd F_impl_WideAdd fun a0 a1 h => (r_impl_WideAdd a0 a1).trans (Tr.get_some h)
noncomputable def B122 : Bod Tryz.prog := ⟨122, Tryz.f122, Tryz.f122.body.getD .skip, Tryz.func122, by kernel_rfl, by kernel_rfl, Loops.no _ _⟩
noncomputable def Tb122 : Tb Tryz.prog := { T := [Y2, Y97, Y100], mix := mix, Es := [E_impl_WideAdd, E_impl_WideMul, ET_impl_WideSqrt], Bs := [], d := 1 }
noncomputable def t_impl_rootOfSquares (a0 : I64) (a1 : I64) (a2 : I64) : Tr (T2 I64 I64) :=
  let c1 := F_impl_WideMul a0 a0; let c2 := F_impl_WideMul a1 a1; .br (G_impl_WideAdd c1 c2) (let c3 := F_impl_WideAdd c1 c2; let c4 := F_impl_WideMul a2 a2; .br (G_impl_WideAdd c3.a c4) (let c5 := F_impl_WideAdd c3.a c4; let c6 := F_impl_WideSqrt c5.a; let c7 := F_impl_WideMul (Rng.w .i64 (c6.a.val)) (Rng.w .i64 (c6.a.val)); .br (!((c7.hi.val == c5.a.hi.val) && ((c7.lo.val == c5.a.lo.val) && true))) (.leaf ⟨(Rng.w .i64 (c6.a.val)), (Rng.w .i64 ((Rng.w .i64 (c6.a.val)).val + 1))⟩) (.leaf ⟨(Rng.w .i64 (c6.a.val)), (Rng.w .i64 (c6.a.val))⟩)) (.bad)) (.bad)
theorem r_impl_rootOfSquares (a0 : I64) (a1 : I64) (a2 : I64) : Tb122.run B122 [enc a0, enc a1, enc a2] (T2 I64 I64) = (t_impl_rootOfSquares a0 a1 a2).opt := by kernel_rfl
noncomputable def F_impl_rootOfSquares : I64 → I64 → I64 → T2 I64 I64 := fun a0 a1 a2 => (t_impl_rootOfSquares a0 a1 a2).get
noncomputable def G_impl_rootOfSquares : I64 → I64 → I64 → Bool := fun a0 a1 a2 => (t_impl_rootOfSquares a0 a1 a2).opt.isSome
noncomputable def E_impl_rootOfSquares : Ent Tryz.prog := .of3 Tb122 B122 G_impl_rootOfSquares F_impl_rootOfSquares fun a0 a1 a2 h => (r_impl_rootOfSquares a0 a1 a2).trans (Tr.get_some h)
noncomputable def B81 : Bod Tryz.prog := ⟨81, Tryz.f81, Tryz.f81.body.getD .skip, Tryz.func81, by kernel_rfl, by kernel_rfl, Loops.no _ _⟩
noncomputable def Tb81 : Tb Tryz.prog := { T := [Y2, Y25, Y27], mix := mix, Es := [E_impl_AbsI, E_impl_areBounded, E_impl_Whole, E_impl_bounded, E_impl_IsWhole, E_impl_rootOfSquares], Bs := [], d := 1 }
noncomputable def t_impl_NormV (a0 : Vec) : Tr (Iv) :=
  .br (!(F_impl_areBounded a0.x a0.y)) (.leaf F_impl_Whole) (.br (F_impl_IsWhole a0.z) (.leaf F_impl_Whole) (let c5 := F_impl_AbsI a0.x; let c6 := F_impl_AbsI a0.y; let c7 := F_impl_AbsI a0.z; .br (G_impl_rootOfSquares c5.lo c6.lo c7.lo) (.br (G_impl_rootOfSquares c5.hi c6.hi c7.hi) (.leaf (F_impl_bounded (F_impl_rootOfSquares c5.lo c6.lo c7.lo).a (F_impl_rootOfSquares c5.hi c6.hi c7.hi).b true)) (.bad)) (.bad)))
theorem r_impl_NormV (a0 : Vec) : Tb81.run B81 [enc a0] (Iv) = (t_impl_NormV a0).opt := by kernel_rfl
noncomputable def F_impl_NormV : Vec → Iv := fun a0 => (t_impl_NormV a0).get
noncomputable def G_impl_NormV : Vec → Bool := fun a0 => (t_impl_NormV a0).opt.isSome
noncomputable def E_impl_NormV : Ent Tryz.prog := .of1 Tb81 B81 G_impl_NormV F_impl_NormV fun a0 h => (r_impl_NormV a0).trans (Tr.get_some h)
noncomputable def B49 : Bod Tryz.prog := ⟨49, Tryz.f49, Tryz.f49.body.getD .skip, Tryz.func49, by kernel_rfl, by kernel_rfl, Loops.no _ _⟩
noncomputable def Tb49 : Tb Tryz.prog := { T := [Y2, Y25], mix := mix, Es := [E_spec_l04Ok], Bs := [], d := 1 }
noncomputable def t_spec_LessI (a0 : Iv) (a1 : Iv) : Tr (I64) :=
  .br (!(F_spec_l04Ok a0)) (.leaf ⟨2, rfl⟩) (.br (!(F_spec_l04Ok a1)) (.leaf ⟨2, rfl⟩) (.br (decide (a0.hi.val < a1.lo.val)) (.leaf ⟨1, rfl⟩) (.br (decide (a0.lo.val ≥ a1.hi.val)) (.leaf ⟨0, rfl⟩) (.leaf ⟨2, rfl⟩))))
theorem r_spec_LessI (a0 : Iv) (a1 : Iv) : Tb49.run B49 [enc a0, enc a1] (I64) = (t_spec_LessI a0 a1).opt := by kernel_rfl
noncomputable def F_spec_LessI : Iv → Iv → I64 := fun a0 a1 => (t_spec_LessI a0 a1).get
theorem u_spec_LessI (a0 : Iv) (a1 : Iv) : (t_spec_LessI a0 a1).opt = some (F_spec_LessI a0 a1) := Tr.tot_get (by kernel_rfl)
noncomputable def E_spec_LessI : Ent Tryz.prog := .of2 Tb49 B49 (fun _ _ => true) F_spec_LessI fun a0 a1 _ => (r_spec_LessI a0 a1).trans (u_spec_LessI a0 a1)
noncomputable def B54 : Bod Tryz.prog := ⟨54, Tryz.f54, Tryz.f54.body.getD .skip, Tryz.func54, by kernel_rfl, by kernel_rfl, Loops.no _ _⟩
noncomputable def Tb54 : Tb Tryz.prog := { T := [Y2, Y25], mix := mix, Es := [E_impl_areBounded], Bs := [], d := 1 }
noncomputable def t_impl_LessI (a0 : Iv) (a1 : Iv) : Tr (I64) :=
  .br (!(F_impl_areBounded a0 a1)) (.leaf ⟨2, rfl⟩) (.br (decide (a0.hi.val < a1.lo.val)) (.leaf ⟨1, rfl⟩) (.br (decide (a0.lo.val ≥ a1.hi.val)) (.leaf ⟨0, rfl⟩) (.leaf ⟨2, rfl⟩)))
theorem r_impl_LessI (a0 : Iv) (a1 : Iv) : Tb54.run B54 [enc a0, enc a1] (I64) = (t_impl_LessI a0 a1).opt := by kernel_rfl
noncomputable def F_impl_LessI : Iv → Iv → I64 := fun a0 a1 => (t_impl_LessI a0 a1).get
theorem u_impl_LessI (a0 : Iv) (a1 : Iv) : (t_impl_LessI a0 a1).opt = some (F_impl_LessI a0 a1) := Tr.tot_get (by kernel_rfl)
noncomputable def E_impl_LessI : Ent Tryz.prog := .of2 Tb54 B54 (fun _ _ => true) F_impl_LessI fun a0 a1 _ => (r_impl_LessI a0 a1).trans (u_impl_LessI a0 a1)
end
end Go.Proofs.YtjfkljhgbomkiaaGreat.Ev
