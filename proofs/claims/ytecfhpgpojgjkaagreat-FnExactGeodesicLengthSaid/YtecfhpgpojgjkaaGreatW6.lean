import Derived.Test.YtecfhpgpojgjkaaGreatW5
import Derived.Test.YtecfhpgpojgjkaaGreatP12
namespace Go.Proofs.YtecfhpgpojgjkaaGreat.Ev
open Go Go.RowKit
set_option maxRecDepth 100000
set_option linter.unusedVariables false
section
noncomputable def ET_spec_AtanAt : Ent Tryz.prog := .of1 Tb216 B216 (fun _ => true) F_spec_AtanAt fun a0 _ => (r_spec_AtanAt a0).trans (tt_atan_spec a0)
noncomputable def ET_impl_AtanAt : Ent Tryz.prog := .of1 Tb221 B221 (fun _ => true) F_impl_AtanAt fun a0 _ => (r_impl_AtanAt a0).trans (tt_atan_impl a0)
noncomputable def ET_spec_LogTwoI : Ent Tryz.prog := .of1 Tb273 B273 (fun _ => true) F_spec_LogTwoI fun a0 _ => (r_spec_LogTwoI a0).trans (tt_log2_spec a0)
noncomputable def ET_impl_LogTwoI : Ent Tryz.prog := .of1 Tb208 B208 (fun _ => true) F_impl_LogTwoI fun a0 _ => (r_impl_LogTwoI a0).trans (tt_log2_impl a0)
noncomputable def B244 : Bod Tryz.prog := ⟨244, Tryz.f244, Tryz.f244.body.getD .skip, Tryz.func244, by kernel_rfl, by kernel_rfl, Loops.no _ _⟩
noncomputable def Tb244 : Tb Tryz.prog := { T := [Y2, Y27], mix := mix, Es := [E_spec_l04Ok, E_spec_l04Whole, E_spec_l04Make, E_spec_l04Ends], Bs := [], d := 1 }
noncomputable def t_spec_AbsI (a0 : Iv) : Tr (Iv) :=
  .br (!(F_spec_l04Ok a0)) (.leaf F_spec_l04Whole) (let c3 := F_spec_l04Ends a0; .leaf (F_spec_l04Make c3.a c3.b))
theorem r_spec_AbsI (a0 : Iv) : Tb244.run B244 [enc a0] (Iv) = (t_spec_AbsI a0).opt := by kernel_rfl
noncomputable def F_spec_AbsI : Iv → Iv := fun a0 => (t_spec_AbsI a0).get
theorem u_spec_AbsI (a0 : Iv) : (t_spec_AbsI a0).opt = some (F_spec_AbsI a0) := Tr.tot_get (by kernel_rfl)
noncomputable def E_spec_AbsI : Ent Tryz.prog := .of1 Tb244 B244 (fun _ => true) F_spec_AbsI fun a0 _ => (r_spec_AbsI a0).trans (u_spec_AbsI a0)
noncomputable def B214 : Bod Tryz.prog := ⟨214, Tryz.f214, Tryz.f214.body.getD .skip, Tryz.func214, by kernel_rfl, by kernel_rfl, Loops.no _ _⟩
noncomputable def Tb214 : Tb Tryz.prog := { T := [Y27], mix := mix, Es := [E_spec_l04Ok], Bs := [], d := 1 }
noncomputable def t_spec_IsWhole (a0 : Iv) : Tr (Bool) :=
  .leaf (!(F_spec_l04Ok a0))
theorem r_spec_IsWhole (a0 : Iv) : Tb214.run B214 [enc a0] (Bool) = (t_spec_IsWhole a0).opt := by kernel_rfl
noncomputable def F_spec_IsWhole : Iv → Bool := fun a0 => (t_spec_IsWhole a0).get
theorem u_spec_IsWhole (a0 : Iv) : (t_spec_IsWhole a0).opt = some (F_spec_IsWhole a0) := Tr.tot_get (by kernel_rfl)
noncomputable def E_spec_IsWhole : Ent Tryz.prog := .of1 Tb214 B214 (fun _ => true) F_spec_IsWhole fun a0 _ => (r_spec_IsWhole a0).trans (u_spec_IsWhole a0)
noncomputable def B88 : Bod Tryz.prog := ⟨88, Tryz.f88, Tryz.f88.body.getD .skip, Tryz.func88, by kernel_rfl, by kernel_rfl, Loops.no _ _⟩
noncomputable def Tb88 : Tb Tryz.prog := { T := [Y2, Y27], mix := mix, Es := [E_spec_HullI, E_spec_IsWhole, E_spec_l07Quarter, ET_spec_AtanAt], Bs := [], d := 1 }
noncomputable def t_spec_AtanI (a0 : Iv) : Tr (Iv) :=
  .br (F_spec_IsWhole a0) (.leaf F_spec_l07Quarter) (.leaf (F_spec_HullI (F_spec_AtanAt a0.lo) (F_spec_AtanAt a0.hi)))
theorem r_spec_AtanI (a0 : Iv) : Tb88.run B88 [enc a0] (Iv) = (t_spec_AtanI a0).opt := by kernel_rfl
noncomputable def F_spec_AtanI : Iv → Iv := fun a0 => (t_spec_AtanI a0).get
theorem u_spec_AtanI (a0 : Iv) : (t_spec_AtanI a0).opt = some (F_spec_AtanI a0) := Tr.tot_get (by kernel_rfl)
noncomputable def E_spec_AtanI : Ent Tryz.prog := .of1 Tb88 B88 (fun _ => true) F_spec_AtanI fun a0 _ => (r_spec_AtanI a0).trans (u_spec_AtanI a0)
noncomputable def B94 : Bod Tryz.prog := ⟨94, Tryz.f94, Tryz.f94.body.getD .skip, Tryz.func94, by kernel_rfl, by kernel_rfl, Loops.no _ _⟩
noncomputable def Tb94 : Tb Tryz.prog := { T := [Y2, Y27], mix := mix, Es := [E_impl_IsWhole, E_impl_HullI, E_impl_halfCircle, ET_impl_AtanAt], Bs := [], d := 1 }
noncomputable def t_impl_AtanI (a0 : Iv) : Tr (Iv) :=
  .br (F_impl_IsWhole a0) (.leaf F_impl_halfCircle) (.leaf (F_impl_HullI (F_impl_AtanAt a0.lo) (F_impl_AtanAt a0.hi)))
theorem r_impl_AtanI (a0 : Iv) : Tb94.run B94 [enc a0] (Iv) = (t_impl_AtanI a0).opt := by kernel_rfl
noncomputable def F_impl_AtanI : Iv → Iv := fun a0 => (t_impl_AtanI a0).get
theorem u_impl_AtanI (a0 : Iv) : (t_impl_AtanI a0).opt = some (F_impl_AtanI a0) := Tr.tot_get (by kernel_rfl)
noncomputable def E_impl_AtanI : Ent Tryz.prog := .of1 Tb94 B94 (fun _ => true) F_impl_AtanI fun a0 _ => (r_impl_AtanI a0).trans (u_impl_AtanI a0)
noncomputable def B260 : Bod Tryz.prog := ⟨260, Tryz.f260, Tryz.f260.body.getD .skip, Tryz.func260, by kernel_rfl, by kernel_rfl, Loops.no _ _⟩
noncomputable def Tb260 : Tb Tryz.prog := { T := [Y27], mix := mix, Es := [E_spec_l04Ok, E_spec_l04Has], Bs := [], d := 1 }
noncomputable def t_spec_HasI (a0 : Iv) (a1 : I64) : Tr (Bool) :=
  .br (!(F_spec_l04Ok a0)) (.leaf true) (.leaf (F_spec_l04Has a0 a1))
theorem r_spec_HasI (a0 : Iv) (a1 : I64) : Tb260.run B260 [enc a0, enc a1] (Bool) = (t_spec_HasI a0 a1).opt := by kernel_rfl
noncomputable def F_spec_HasI : Iv → I64 → Bool := fun a0 a1 => (t_spec_HasI a0 a1).get
theorem u_spec_HasI (a0 : Iv) (a1 : I64) : (t_spec_HasI a0 a1).opt = some (F_spec_HasI a0 a1) := Tr.tot_get (by kernel_rfl)
noncomputable def E_spec_HasI : Ent Tryz.prog := .of2 Tb260 B260 (fun _ _ => true) F_spec_HasI fun a0 a1 _ => (r_spec_HasI a0 a1).trans (u_spec_HasI a0 a1)
noncomputable def B261 : Bod Tryz.prog := ⟨261, Tryz.f261, Tryz.f261.body.getD .skip, Tryz.func261, by kernel_rfl, by kernel_rfl, Loops.no _ _⟩
noncomputable def Tb261 : Tb Tryz.prog := { T := [Y2, Y27], mix := mix, Es := [E_spec_DivI, E_spec_AtanI, E_spec_Whole, E_spec_SubI, E_spec_AddI, ET_spec_TurnI, E_spec_l07Fix, E_spec_l05At], Bs := [], d := 1 }
noncomputable def t_spec_DirectionAt (a0 : I64) (a1 : I64) : Tr (Iv) :=
  .br (!(F_spec_l07Fix a0)) (.leaf F_spec_Whole) (.br (!(F_spec_l07Fix a1)) (.leaf F_spec_Whole) (.br (a1.val == 0) (.br (a0.val == 0) (.leaf F_spec_Whole) (.br (decide (a0.val < 0)) (let c6 := (Rng.w .i64 (0 - a0.val)); .br (decide (c6.val > a1.val)) (.br (decide (c6.val > (Rng.w .i64 (0 - a1.val)).val)) (.br (decide (a0.val < 0)) (.leaf (F_spec_SubI (F_spec_TurnI ⟨(-1), rfl⟩) (F_spec_AtanI (F_spec_DivI (F_spec_l05At a1) (F_spec_l05At a0))))) (.leaf (F_spec_SubI (F_spec_TurnI ⟨1, rfl⟩) (F_spec_AtanI (F_spec_DivI (F_spec_l05At a1) (F_spec_l05At a0)))))) (.br (decide (a1.val > 0)) (.leaf (F_spec_AtanI (F_spec_DivI (F_spec_l05At a0) (F_spec_l05At a1)))) (.br (decide (a0.val < 0)) (.leaf (F_spec_AddI (F_spec_AtanI (F_spec_DivI (F_spec_l05At a0) (F_spec_l05At a1))) (F_spec_TurnI ⟨(-2), rfl⟩))) (.leaf (F_spec_AddI (F_spec_AtanI (F_spec_DivI (F_spec_l05At a0) (F_spec_l05At a1))) (F_spec_TurnI ⟨2, rfl⟩)))))) (.br (decide (a1.val > 0)) (.leaf (F_spec_AtanI (F_spec_DivI (F_spec_l05At a0) (F_spec_l05At a1)))) (.br (decide (a0.val < 0)) (.leaf (F_spec_AddI (F_spec_AtanI (F_spec_DivI (F_spec_l05At a0) (F_spec_l05At a1))) (F_spec_TurnI ⟨(-2), rfl⟩))) (.leaf (F_spec_AddI (F_spec_AtanI (F_spec_DivI (F_spec_l05At a0) (F_spec_l05At a1))) (F_spec_TurnI ⟨2, rfl⟩)))))) (.br (decide (a0.val > a1.val)) (.br (decide (a0.val > (Rng.w .i64 (0 - a1.val)).val)) (.br (decide (a0.val < 0)) (.leaf (F_spec_SubI (F_spec_TurnI ⟨(-1), rfl⟩) (F_spec_AtanI (F_spec_DivI (F_spec_l05At a1) (F_spec_l05At a0))))) (.leaf (F_spec_SubI (F_spec_TurnI ⟨1, rfl⟩) (F_spec_AtanI (F_spec_DivI (F_spec_l05At a1) (F_spec_l05At a0)))))) (.br (decide (a1.val > 0)) (.leaf (F_spec_AtanI (F_spec_DivI (F_spec_l05At a0) (F_spec_l05At a1)))) (.br (decide (a0.val < 0)) (.leaf (F_spec_AddI (F_spec_AtanI (F_spec_DivI (F_spec_l05At a0) (F_spec_l05At a1))) (F_spec_TurnI ⟨(-2), rfl⟩))) (.leaf (F_spec_AddI (F_spec_AtanI (F_spec_DivI (F_spec_l05At a0) (F_spec_l05At a1))) (F_spec_TurnI ⟨2, rfl⟩)))))) (.br (decide (a1.val > 0)) (.leaf (F_spec_AtanI (F_spec_DivI (F_spec_l05At a0) (F_spec_l05At a1)))) (.br (decide (a0.val < 0)) (.leaf (F_spec_AddI (F_spec_AtanI (F_spec_DivI (F_spec_l05At a0) (F_spec_l05At a1))) (F_spec_TurnI ⟨(-2), rfl⟩))) (.leaf (F_spec_AddI (F_spec_AtanI (F_spec_DivI (F_spec_l05At a0) (F_spec_l05At a1))) (F_spec_TurnI ⟨2, rfl⟩)))))))) (.br (decide (a0.val < 0)) (let c101 := (Rng.w .i64 (0 - a0.val)); .br (decide (c101.val > a1.val)) (.br (decide (c101.val > (Rng.w .i64 (0 - a1.val)).val)) (.br (decide (a0.val < 0)) (.leaf (F_spec_SubI (F_spec_TurnI ⟨(-1), rfl⟩) (F_spec_AtanI (F_spec_DivI (F_spec_l05At a1) (F_spec_l05At a0))))) (.leaf (F_spec_SubI (F_spec_TurnI ⟨1, rfl⟩) (F_spec_AtanI (F_spec_DivI (F_spec_l05At a1) (F_spec_l05At a0)))))) (.br (decide (a1.val > 0)) (.leaf (F_spec_AtanI (F_spec_DivI (F_spec_l05At a0) (F_spec_l05At a1)))) (.br (decide (a0.val < 0)) (.leaf (F_spec_AddI (F_spec_AtanI (F_spec_DivI (F_spec_l05At a0) (F_spec_l05At a1))) (F_spec_TurnI ⟨(-2), rfl⟩))) (.leaf (F_spec_AddI (F_spec_AtanI (F_spec_DivI (F_spec_l05At a0) (F_spec_l05At a1))) (F_spec_TurnI ⟨2, rfl⟩)))))) (.br (decide (a1.val > 0)) (.leaf (F_spec_AtanI (F_spec_DivI (F_spec_l05At a0) (F_spec_l05At a1)))) (.br (decide (a0.val < 0)) (.leaf (F_spec_AddI (F_spec_AtanI (F_spec_DivI (F_spec_l05At a0) (F_spec_l05At a1))) (F_spec_TurnI ⟨(-2), rfl⟩))) (.leaf (F_spec_AddI (F_spec_AtanI (F_spec_DivI (F_spec_l05At a0) (F_spec_l05At a1))) (F_spec_TurnI ⟨2, rfl⟩)))))) (.br (decide (a0.val > a1.val)) (.br (decide (a0.val > (Rng.w .i64 (0 - a1.val)).val)) (.br (decide (a0.val < 0)) (.leaf (F_spec_SubI (F_spec_TurnI ⟨(-1), rfl⟩) (F_spec_AtanI (F_spec_DivI (F_spec_l05At a1) (F_spec_l05At a0))))) (.leaf (F_spec_SubI (F_spec_TurnI ⟨1, rfl⟩) (F_spec_AtanI (F_spec_DivI (F_spec_l05At a1) (F_spec_l05At a0)))))) (.br (decide (a1.val > 0)) (.leaf (F_spec_AtanI (F_spec_DivI (F_spec_l05At a0) (F_spec_l05At a1)))) (.br (decide (a0.val < 0)) (.leaf (F_spec_AddI (F_spec_AtanI (F_spec_DivI (F_spec_l05At a0) (F_spec_l05At a1))) (F_spec_TurnI ⟨(-2), rfl⟩))) (.leaf (F_spec_AddI (F_spec_AtanI (F_spec_DivI (F_spec_l05At a0) (F_spec_l05At a1))) (F_spec_TurnI ⟨2, rfl⟩)))))) (.br (decide (a1.val > 0)) (.leaf (F_spec_AtanI (F_spec_DivI (F_spec_l05At a0) (F_spec_l05At a1)))) (.br (decide (a0.val < 0)) (.leaf (F_spec_AddI (F_spec_AtanI (F_spec_DivI (F_spec_l05At a0) (F_spec_l05At a1))) (F_spec_TurnI ⟨(-2), rfl⟩))) (.leaf (F_spec_AddI (F_spec_AtanI (F_spec_DivI (F_spec_l05At a0) (F_spec_l05At a1))) (F_spec_TurnI ⟨2, rfl⟩)))))))))
theorem r_spec_DirectionAt (a0 : I64) (a1 : I64) : Tb261.run B261 [enc a0, enc a1] (Iv) = (t_spec_DirectionAt a0 a1).opt := by kernel_rfl
noncomputable def F_spec_DirectionAt : I64 → I64 → Iv := fun a0 a1 => (t_spec_DirectionAt a0 a1).get
theorem u_spec_DirectionAt (a0 : I64) (a1 : I64) : (t_spec_DirectionAt a0 a1).opt = some (F_spec_DirectionAt a0 a1) := Tr.tot_get (by kernel_rfl)
noncomputable def E_spec_DirectionAt : Ent Tryz.prog := .of2 Tb261 B261 (fun _ _ => true) F_spec_DirectionAt fun a0 a1 _ => (r_spec_DirectionAt a0 a1).trans (u_spec_DirectionAt a0 a1)
noncomputable def B155 : Bod Tryz.prog := ⟨155, Tryz.f155, Tryz.f155.body.getD .skip, Tryz.func155, by kernel_rfl, by kernel_rfl, Loops.no _ _⟩
noncomputable def Tb155 : Tb Tryz.prog := { T := [Y2, Y27], mix := mix, Es := [E_spec_Whole, E_spec_HullI, E_spec_IsWhole, E_spec_HasI, E_spec_DirectionAt], Bs := [], d := 1 }
noncomputable def t_spec_DirectionI (a0 : Iv) (a1 : Iv) : Tr (Iv) :=
  .br (F_spec_IsWhole a0) (.leaf F_spec_Whole) (.br (F_spec_IsWhole a1) (.leaf F_spec_Whole) (.br (F_spec_HasI a0 ⟨0, rfl⟩) (.br (F_spec_HasI a1 ⟨0, rfl⟩) (.leaf F_spec_Whole) (.br (decide (a1.lo.val < 0)) (.br (decide (a0.lo.val < 0)) (.br (decide (a0.hi.val ≥ 0)) (.leaf F_spec_Whole) (.leaf (F_spec_HullI (F_spec_HullI (F_spec_DirectionAt a0.lo a1.lo) (F_spec_DirectionAt a0.lo a1.hi)) (F_spec_HullI (F_spec_DirectionAt a0.hi a1.lo) (F_spec_DirectionAt a0.hi a1.hi))))) (.leaf (F_spec_HullI (F_spec_HullI (F_spec_DirectionAt a0.lo a1.lo) (F_spec_DirectionAt a0.lo a1.hi)) (F_spec_HullI (F_spec_DirectionAt a0.hi a1.lo) (F_spec_DirectionAt a0.hi a1.hi))))) (.leaf (F_spec_HullI (F_spec_HullI (F_spec_DirectionAt a0.lo a1.lo) (F_spec_DirectionAt a0.lo a1.hi)) (F_spec_HullI (F_spec_DirectionAt a0.hi a1.lo) (F_spec_DirectionAt a0.hi a1.hi)))))) (.br (decide (a1.lo.val < 0)) (.br (decide (a0.lo.val < 0)) (.br (decide (a0.hi.val ≥ 0)) (.leaf F_spec_Whole) (.leaf (F_spec_HullI (F_spec_HullI (F_spec_DirectionAt a0.lo a1.lo) (F_spec_DirectionAt a0.lo a1.hi)) (F_spec_HullI (F_spec_DirectionAt a0.hi a1.lo) (F_spec_DirectionAt a0.hi a1.hi))))) (.leaf (F_spec_HullI (F_spec_HullI (F_spec_DirectionAt a0.lo a1.lo) (F_spec_DirectionAt a0.lo a1.hi)) (F_spec_HullI (F_spec_DirectionAt a0.hi a1.lo) (F_spec_DirectionAt a0.hi a1.hi))))) (.leaf (F_spec_HullI (F_spec_HullI (F_spec_DirectionAt a0.lo a1.lo) (F_spec_DirectionAt a0.lo a1.hi)) (F_spec_HullI (F_spec_DirectionAt a0.hi a1.lo) (F_spec_DirectionAt a0.hi a1.hi)))))))
theorem r_spec_DirectionI (a0 : Iv) (a1 : Iv) : Tb155.run B155 [enc a0, enc a1] (Iv) = (t_spec_DirectionI a0 a1).opt := by kernel_rfl
noncomputable def F_spec_DirectionI : Iv → Iv → Iv := fun a0 a1 => (t_spec_DirectionI a0 a1).get
theorem u_spec_DirectionI (a0 : Iv) (a1 : Iv) : (t_spec_DirectionI a0 a1).opt = some (F_spec_DirectionI a0 a1) := Tr.tot_get (by kernel_rfl)
noncomputable def E_spec_DirectionI : Ent Tryz.prog := .of2 Tb155 B155 (fun _ _ => true) F_spec_DirectionI fun a0 a1 _ => (r_spec_DirectionI a0 a1).trans (u_spec_DirectionI a0 a1)
noncomputable def B235 : Bod Tryz.prog := ⟨235, Tryz.f235, Tryz.f235.body.getD .skip, Tryz.func235, by kernel_rfl, by kernel_rfl, Loops.no _ _⟩
noncomputable def Tb235 : Tb Tryz.prog := { T := [Y2, Y27], mix := mix, Es := [E_impl_DivI, E_impl_AtanI, E_impl_Whole, ET_impl_TurnI, E_impl_at, E_impl_SubI, E_impl_AddI, E_impl_abs, E_impl_isOpen], Bs := [], d := 1 }
noncomputable def t_impl_DirectionAt (a0 : I64) (a1 : I64) : Tr (Iv) :=
  .br (!(F_impl_isOpen a0)) (.leaf F_impl_Whole) (.br (!(F_impl_isOpen a1)) (.leaf F_impl_Whole) (.br (a0.val == 0) (.br (a1.val == 0) (.leaf F_impl_Whole) (.br (decide ((F_impl_abs a0).val > (F_impl_abs a1).val)) (.br (decide (a0.val < 0)) (.leaf (F_impl_SubI (F_impl_TurnI ⟨(-1), rfl⟩) (F_impl_AtanI (F_impl_DivI (F_impl_at a1) (F_impl_at a0))))) (.leaf (F_impl_SubI (F_impl_TurnI ⟨1, rfl⟩) (F_impl_AtanI (F_impl_DivI (F_impl_at a1) (F_impl_at a0)))))) (let c24 := F_impl_AtanI (F_impl_DivI (F_impl_at a0) (F_impl_at a1)); .br (decide (a1.val > 0)) (.leaf c24) (.br (decide (a0.val < 0)) (.leaf (F_impl_AddI c24 (F_impl_TurnI ⟨(-2), rfl⟩))) (.leaf (F_impl_AddI c24 (F_impl_TurnI ⟨2, rfl⟩))))))) (.br (decide ((F_impl_abs a0).val > (F_impl_abs a1).val)) (.br (decide (a0.val < 0)) (.leaf (F_impl_SubI (F_impl_TurnI ⟨(-1), rfl⟩) (F_impl_AtanI (F_impl_DivI (F_impl_at a1) (F_impl_at a0))))) (.leaf (F_impl_SubI (F_impl_TurnI ⟨1, rfl⟩) (F_impl_AtanI (F_impl_DivI (F_impl_at a1) (F_impl_at a0)))))) (let c47 := F_impl_AtanI (F_impl_DivI (F_impl_at a0) (F_impl_at a1)); .br (decide (a1.val > 0)) (.leaf c47) (.br (decide (a0.val < 0)) (.leaf (F_impl_AddI c47 (F_impl_TurnI ⟨(-2), rfl⟩))) (.leaf (F_impl_AddI c47 (F_impl_TurnI ⟨2, rfl⟩))))))))
theorem r_impl_DirectionAt (a0 : I64) (a1 : I64) : Tb235.run B235 [enc a0, enc a1] (Iv) = (t_impl_DirectionAt a0 a1).opt := by kernel_rfl
noncomputable def F_impl_DirectionAt : I64 → I64 → Iv := fun a0 a1 => (t_impl_DirectionAt a0 a1).get
theorem u_impl_DirectionAt (a0 : I64) (a1 : I64) : (t_impl_DirectionAt a0 a1).opt = some (F_impl_DirectionAt a0 a1) := Tr.tot_get (by kernel_rfl)
noncomputable def E_impl_DirectionAt : Ent Tryz.prog := .of2 Tb235 B235 (fun _ _ => true) F_impl_DirectionAt fun a0 a1 _ => (r_impl_DirectionAt a0 a1).trans (u_impl_DirectionAt a0 a1)
noncomputable def B113 : Bod Tryz.prog := ⟨113, Tryz.f113, Tryz.f113.body.getD .skip, Tryz.func113, by kernel_rfl, by kernel_rfl, Loops.no _ _⟩
noncomputable def Tb113 : Tb Tryz.prog := { T := [Y2, Y27], mix := mix, Es := [E_impl_Whole, E_impl_areBounded, E_impl_HasI, E_impl_HullI, E_impl_DirectionAt], Bs := [], d := 1 }
noncomputable def t_impl_DirectionI (a0 : Iv) (a1 : Iv) : Tr (Iv) :=
  .br (!(F_impl_areBounded a0 a1)) (.leaf F_impl_Whole) (.br (F_impl_HasI a0 ⟨0, rfl⟩) (.br (F_impl_HasI a1 ⟨0, rfl⟩) (.leaf F_impl_Whole) (.br (decide (a1.lo.val < 0)) (.br (decide (a0.lo.val < 0)) (.br (decide (a0.hi.val ≥ 0)) (.leaf F_impl_Whole) (.leaf (F_impl_HullI (F_impl_HullI (F_impl_DirectionAt a0.lo a1.lo) (F_impl_DirectionAt a0.lo a1.hi)) (F_impl_HullI (F_impl_DirectionAt a0.hi a1.lo) (F_impl_DirectionAt a0.hi a1.hi))))) (.leaf (F_impl_HullI (F_impl_HullI (F_impl_DirectionAt a0.lo a1.lo) (F_impl_DirectionAt a0.lo a1.hi)) (F_impl_HullI (F_impl_DirectionAt a0.hi a1.lo) (F_impl_DirectionAt a0.hi a1.hi))))) (.leaf (F_impl_HullI (F_impl_HullI (F_impl_DirectionAt a0.lo a1.lo) (F_impl_DirectionAt a0.lo a1.hi)) (F_impl_HullI (F_impl_DirectionAt a0.hi a1.lo) (F_impl_DirectionAt a0.hi a1.hi)))))) (.br (decide (a1.lo.val < 0)) (.br (decide (a0.lo.val < 0)) (.br (decide (a0.hi.val ≥ 0)) (.leaf F_impl_Whole) (.leaf (F_impl_HullI (F_impl_HullI (F_impl_DirectionAt a0.lo a1.lo) (F_impl_DirectionAt a0.lo a1.hi)) (F_impl_HullI (F_impl_DirectionAt a0.hi a1.lo) (F_impl_DirectionAt a0.hi a1.hi))))) (.leaf (F_impl_HullI (F_impl_HullI (F_impl_DirectionAt a0.lo a1.lo) (F_impl_DirectionAt a0.lo a1.hi)) (F_impl_HullI (F_impl_DirectionAt a0.hi a1.lo) (F_impl_DirectionAt a0.hi a1.hi))))) (.leaf (F_impl_HullI (F_impl_HullI (F_impl_DirectionAt a0.lo a1.lo) (F_impl_DirectionAt a0.lo a1.hi)) (F_impl_HullI (F_impl_DirectionAt a0.hi a1.lo) (F_impl_DirectionAt a0.hi a1.hi))))))
theorem r_impl_DirectionI (a0 : Iv) (a1 : Iv) : Tb113.run B113 [enc a0, enc a1] (Iv) = (t_impl_DirectionI a0 a1).opt := by kernel_rfl
noncomputable def F_impl_DirectionI : Iv → Iv → Iv := fun a0 a1 => (t_impl_DirectionI a0 a1).get
theorem u_impl_DirectionI (a0 : Iv) (a1 : Iv) : (t_impl_DirectionI a0 a1).opt = some (F_impl_DirectionI a0 a1) := Tr.tot_get (by kernel_rfl)
noncomputable def E_impl_DirectionI : Ent Tryz.prog := .of2 Tb113 B113 (fun _ _ => true) F_impl_DirectionI fun a0 a1 _ => (r_impl_DirectionI a0 a1).trans (u_impl_DirectionI a0 a1)
noncomputable def B233 : Bod Tryz.prog := ⟨233, Tryz.f233, Tryz.f233.body.getD .skip, Tryz.func233, by kernel_rfl, by kernel_rfl, Loops.no _ _⟩
noncomputable def Tb233 : Tb Tryz.prog := { T := [Y2, Y27], mix := mix, Es := [E_spec_l04Make], Bs := [], d := 1 }
noncomputable def t_spec_l08At (a0 : I64) : Tr (Iv) :=
  .leaf (F_spec_l04Make a0 a0)
theorem r_spec_l08At (a0 : I64) : Tb233.run B233 [enc a0] (Iv) = (t_spec_l08At a0).opt := by kernel_rfl
noncomputable def F_spec_l08At : I64 → Iv := fun a0 => (t_spec_l08At a0).get
theorem u_spec_l08At (a0 : I64) : (t_spec_l08At a0).opt = some (F_spec_l08At a0) := Tr.tot_get (by kernel_rfl)
noncomputable def E_spec_l08At : Ent Tryz.prog := .of1 Tb233 B233 (fun _ => true) F_spec_l08At fun a0 _ => (r_spec_l08At a0).trans (u_spec_l08At a0)
noncomputable def B272 : Bod Tryz.prog := ⟨272, Tryz.f272, Tryz.f272.body.getD .skip, Tryz.func272, by kernel_rfl, by kernel_rfl, Loops.no _ _⟩
noncomputable def Tb272 : Tb Tryz.prog := { T := [Y2, Y27], mix := mix, Es := [E_spec_l08At], Bs := [], d := 1 }
noncomputable def t_spec_l08One : Tr (Iv) :=
  .leaf (F_spec_l08At ⟨4294967296, rfl⟩)
theorem r_spec_l08One : Tb272.run B272 [] (Iv) = (t_spec_l08One).opt := by kernel_rfl
noncomputable def F_spec_l08One : Iv := (t_spec_l08One).get
theorem u_spec_l08One : (t_spec_l08One).opt = some (F_spec_l08One) := Tr.tot_get (by kernel_rfl)
noncomputable def E_spec_l08One : Ent Tryz.prog := .of0 Tb272 B272 F_spec_l08One (r_spec_l08One.trans u_spec_l08One)
noncomputable def B326 : Bod Tryz.prog := ⟨326, Tryz.f326, Tryz.f326.body.getD .skip, Tryz.func326, by kernel_rfl, by kernel_rfl, Loops.no _ _⟩
noncomputable def Tb326 : Tb Tryz.prog := { T := [Y2, Y27], mix := mix, Es := [E_spec_l04Ok, E_spec_l04Whole, E_spec_l04Make], Bs := [], d := 1 }
noncomputable def t_spec_l08Widen (a0 : Iv) (a1 : I64) : Tr (Iv) :=
  .br (!(F_spec_l04Ok a0)) (.leaf F_spec_l04Whole) (.leaf (F_spec_l04Make (Rng.w .i64 (a0.lo.val - a1.val)) (Rng.w .i64 (a0.hi.val + a1.val))))
theorem r_spec_l08Widen (a0 : Iv) (a1 : I64) : Tb326.run B326 [enc a0, enc a1] (Iv) = (t_spec_l08Widen a0 a1).opt := by kernel_rfl
noncomputable def F_spec_l08Widen : Iv → I64 → Iv := fun a0 a1 => (t_spec_l08Widen a0 a1).get
theorem u_spec_l08Widen (a0 : Iv) (a1 : I64) : (t_spec_l08Widen a0 a1).opt = some (F_spec_l08Widen a0 a1) := Tr.tot_get (by kernel_rfl)
noncomputable def E_spec_l08Widen : Ent Tryz.prog := .of2 Tb326 B326 (fun _ _ => true) F_spec_l08Widen fun a0 a1 _ => (r_spec_l08Widen a0 a1).trans (u_spec_l08Widen a0 a1)
structure S_spec_LogAt_5 where
  x0 : I64
  x1 : I64
  x2 : I64
  x3 : I64
  x4 : I64
  x5 : I64
instance : Inhabited S_spec_LogAt_5 := ⟨⟨default, default, default, default, default, default⟩⟩
noncomputable def st_spec_LogAt_5 (x : S_spec_LogAt_5) : St := ⟨[(0, .i64 x.x0), (2, .ptr 0 0), (3, .i64 x.x1), (4, .ptr 1 0)], 79, ⟨[(0, [.i64 x.x2, .i64 x.x3]), (1, [.i64 x.x4, .i64 x.x5])], 2, 0⟩⟩
noncomputable def rd_spec_LogAt_5 : St → Option S_spec_LogAt_5 := fun s => match s with
  | ⟨[(0, .i64 x0), (2, .ptr 0 0), (3, .i64 x1), (4, .ptr 1 0)], 79, ⟨[(0, [.i64 x2, .i64 x3]), (1, [.i64 x4, .i64 x5])], 2, 0⟩⟩ => some ⟨x0, x1, x2, x3, x4, x5⟩
  | _ => none
noncomputable def b_spec_LogAt_5 (x : S_spec_LogAt_5) : Tr (Lp S_spec_LogAt_5) :=
  .br (decide (x.x4.val ≥ 6442450944)) (let c4 := (Rng.w .i64 (x.x1.val + 1)); .leaf (.again ⟨x.x0, c4, x.x2, x.x3, (Rng.w .i64 (x.x0.val.fdiv (2 ^ min ((Rng.w .u64 (c4.val)).val).toNat 64))), (Rng.w .i64 (0 - (Rng.w .i64 ((Rng.w .i64 (0 - x.x0.val)).val.fdiv (2 ^ min ((Rng.w .u64 (c4.val)).val).toNat 64))).val))⟩)) (.leaf (.out ⟨x.x0, x.x1, x.x2, x.x3, x.x4, x.x5⟩))
noncomputable def G_spec_LogAt_5 (x : S_spec_LogAt_5) : Bool := (Lf b_spec_LogAt_5 70 x).opt.isSome
noncomputable def L_spec_LogAt_5 (x : S_spec_LogAt_5) : S_spec_LogAt_5 := (Lf b_spec_LogAt_5 70 x).get
noncomputable def TbL_spec_LogAt_5 : Tb Tryz.prog := { T := [Y2, Y27, Y128], mix := mix, Es := [], Bs := [], d := 1 }
noncomputable def P_spec_LogAt_5 : LpF := loopF [0, 2, 3, 4] [0, 1] 2 rd_spec_LogAt_5 st_spec_LogAt_5 (.exit 0) G_spec_LogAt_5 L_spec_LogAt_5
theorem lok_spec_LogAt_5 : LoopOk Tryz.prog (loopAt (Tryz.f274.body.getD .skip) 0) P_spec_LogAt_5 := loopF_ok (t := TbL_spec_LogAt_5) (lt := fun _ => none) (body := b_spec_LogAt_5) (n := 70) (by intro h; cases h) (fun _ _ _ h => by cases h)
  (by intro s x h; unfold rd_spec_LogAt_5 at h; split at h <;> cases h; rfl) (fun x b cs h => lk_lt (l := (st_spec_LogAt_5 x).mm.blks) (by kernel_rfl) h) (by intro x; kernel_rfl) (fun x h => Tr.get_some h)
structure S_spec_LogAt_8 where
  x0 : I64
  x1 : I64
  x2 : I64
  x3 : I64
  x4 : I64
  x5 : I64
instance : Inhabited S_spec_LogAt_8 := ⟨⟨default, default, default, default, default, default⟩⟩
noncomputable def st_spec_LogAt_8 (x : S_spec_LogAt_8) : St := ⟨[(0, .i64 x.x0), (2, .ptr 0 0), (3, .i64 x.x1), (4, .ptr 1 0)], 79, ⟨[(0, [.i64 x.x2, .i64 x.x3]), (1, [.i64 x.x4, .i64 x.x5])], 2, 0⟩⟩
noncomputable def rd_spec_LogAt_8 : St → Option S_spec_LogAt_8 := fun s => match s with
  | ⟨[(0, .i64 x0), (2, .ptr 0 0), (3, .i64 x1), (4, .ptr 1 0)], 79, ⟨[(0, [.i64 x2, .i64 x3]), (1, [.i64 x4, .i64 x5])], 2, 0⟩⟩ => some ⟨x0, x1, x2, x3, x4, x5⟩
  | _ => none
noncomputable def b_spec_LogAt_8 (x : S_spec_LogAt_8) : Tr (Lp S_spec_LogAt_8) :=
  .br (decide (x.x4.val < 3221225472)) (let c11 := (Rng.w .i64 (x.x1.val - 1)); .leaf (.again ⟨x.x0, c11, x.x2, x.x3, (Rng.w .i64 (x.x0.val * (2 ^ min ((Rng.w .u64 ((Rng.w .i64 (0 - c11.val)).val)).val).toNat 64))), (Rng.w .i64 (x.x0.val * (2 ^ min ((Rng.w .u64 ((Rng.w .i64 (0 - c11.val)).val)).val).toNat 64)))⟩)) (.leaf (.out ⟨x.x0, x.x1, x.x2, x.x3, x.x4, x.x5⟩))
noncomputable def G_spec_LogAt_8 (x : S_spec_LogAt_8) : Bool := (Lf b_spec_LogAt_8 70 x).opt.isSome
noncomputable def L_spec_LogAt_8 (x : S_spec_LogAt_8) : S_spec_LogAt_8 := (Lf b_spec_LogAt_8 70 x).get
noncomputable def TbL_spec_LogAt_8 : Tb Tryz.prog := { T := [Y2, Y27, Y128], mix := mix, Es := [], Bs := [], d := 1 }
noncomputable def P_spec_LogAt_8 : LpF := loopF [0, 2, 3, 4] [0, 1] 2 rd_spec_LogAt_8 st_spec_LogAt_8 (.exit 2) G_spec_LogAt_8 L_spec_LogAt_8
theorem lok_spec_LogAt_8 : LoopOk Tryz.prog (loopAt (Tryz.f274.body.getD .skip) 1) P_spec_LogAt_8 := loopF_ok (t := TbL_spec_LogAt_8) (lt := fun _ => none) (body := b_spec_LogAt_8) (n := 70) (by intro h; cases h) (fun _ _ _ h => by cases h)
  (by intro s x h; unfold rd_spec_LogAt_8 at h; split at h <;> cases h; rfl) (fun x b cs h => lk_lt (l := (st_spec_LogAt_8 x).mm.blks) (by kernel_rfl) h) (by intro x; kernel_rfl) (fun x h => Tr.get_some h)
noncomputable def B274 : Bod Tryz.prog := ⟨274, Tryz.f274, Tryz.f274.body.getD .skip, Tryz.func274, by kernel_rfl, by kernel_rfl, ⟨ltOf [(5, P_spec_LogAt_5), (8, P_spec_LogAt_8)], Loops.of (ks := [5, 8, 15]) (by kernel_rfl) (by
  intro i k h f hf
  match i, h with
  | 0, h => cases h; obtain rfl : P_spec_LogAt_5 = f := Option.some.inj hf; exact lok_spec_LogAt_5
  | 1, h => cases h; obtain rfl : P_spec_LogAt_8 = f := Option.some.inj hf; exact lok_spec_LogAt_8
  | 2, h => cases h; cases (show none = some f from hf)
  | n + 3, h => simp at h)⟩⟩
noncomputable def Tb274 : Tb Tryz.prog := { T := [Y2, Y27, Y128], mix := mix, Es := [E_spec_MulI, E_spec_DivI, ET_spec_Quotient, E_spec_l00In, E_spec_l04Whole, E_spec_Integer, E_spec_SubI, E_spec_AddI, E_spec_SqrI, E_spec_l08One, ET_spec_LogTwoI, E_spec_l08Widen], Bs := [], d := 1 }
noncomputable def t_spec_LogAt (a0 : I64) : Tr (Iv) :=
  .br (!(F_spec_l00In a0 ⟨1, rfl⟩ ⟨1152921504606846976, rfl⟩)) (.leaf F_spec_l04Whole) (.br (G_spec_LogAt_5 ⟨a0, ⟨0, rfl⟩, ⟨0, rfl⟩, ⟨0, rfl⟩, a0, a0⟩) (let c9 := L_spec_LogAt_5 ⟨a0, ⟨0, rfl⟩, ⟨0, rfl⟩, ⟨0, rfl⟩, a0, a0⟩; .br (G_spec_LogAt_8 ⟨c9.x0, c9.x1, c9.x2, c9.x3, c9.x4, c9.x5⟩) (let c16 := L_spec_LogAt_8 ⟨c9.x0, c9.x1, c9.x2, c9.x3, c9.x4, c9.x5⟩; let c21 := F_spec_DivI (F_spec_SubI ⟨c16.x4, c16.x5⟩ F_spec_l08One) (F_spec_AddI ⟨c16.x4, c16.x5⟩ F_spec_l08One); let c22 := F_spec_SqrI c21; .leaf (F_spec_AddI (F_spec_LogTwoI c16.x1) (F_spec_l08Widen (F_spec_MulI (F_spec_MulI (F_spec_Integer ⟨2, rfl⟩) c21) (F_spec_AddI (F_spec_Quotient ⟨1, rfl⟩ ⟨1, rfl⟩) (F_spec_MulI c22 (F_spec_AddI (F_spec_Quotient ⟨1, rfl⟩ ⟨3, rfl⟩) (F_spec_MulI c22 (F_spec_AddI (F_spec_Quotient ⟨1, rfl⟩ ⟨5, rfl⟩) (F_spec_MulI c22 (F_spec_AddI (F_spec_Quotient ⟨1, rfl⟩ ⟨7, rfl⟩) (F_spec_MulI c22 (F_spec_AddI (F_spec_Quotient ⟨1, rfl⟩ ⟨9, rfl⟩) (F_spec_MulI c22 (F_spec_Quotient ⟨1, rfl⟩ ⟨11, rfl⟩)))))))))))) ⟨1, rfl⟩))) (.bad)) (.bad))
theorem r_spec_LogAt (a0 : I64) : Tb274.run B274 [enc a0] (Iv) = (t_spec_LogAt a0).opt := by kernel_rfl
noncomputable def F_spec_LogAt : I64 → Iv := fun a0 => (t_spec_LogAt a0).get
noncomputable def G_spec_LogAt : I64 → Bool := fun a0 => (t_spec_LogAt a0).opt.isSome
noncomputable def E_spec_LogAt : Ent Tryz.prog := .of1 Tb274 B274 G_spec_LogAt F_spec_LogAt fun a0 h => (r_spec_LogAt a0).trans (Tr.get_some h)
structure S_impl_twosOf_2 where
  x0 : I64
  x1 : I64
instance : Inhabited S_impl_twosOf_2 := ⟨⟨default, default⟩⟩
noncomputable def st_impl_twosOf_2 (x : S_impl_twosOf_2) : St := ⟨[(0, .i64 x.x0), (3, .i64 x.x1)], 22, ⟨[], 0, 0⟩⟩
noncomputable def rd_impl_twosOf_2 : St → Option S_impl_twosOf_2 := fun s => match s with
  | ⟨[(0, .i64 x0), (3, .i64 x1)], 22, ⟨[], 0, 0⟩⟩ => some ⟨x0, x1⟩
  | _ => none
noncomputable def b_impl_twosOf_2 (x : S_impl_twosOf_2) : Tr (Lp S_impl_twosOf_2) :=
  .br (decide (x.x1.val < 0)) (.bad) (.br (decide ((Rng.w .i64 (x.x0.val.fdiv (2 ^ min (x.x1.val).toNat 64))).val ≥ 6442450944)) (.leaf (.again ⟨x.x0, (Rng.w .i64 (x.x1.val + 1))⟩)) (.leaf (.out ⟨x.x0, x.x1⟩)))
noncomputable def G_impl_twosOf_2 (x : S_impl_twosOf_2) : Bool := (Lf b_impl_twosOf_2 70 x).opt.isSome
noncomputable def L_impl_twosOf_2 (x : S_impl_twosOf_2) : S_impl_twosOf_2 := (Lf b_impl_twosOf_2 70 x).get
noncomputable def TbL_impl_twosOf_2 : Tb Tryz.prog := { T := [], mix := mix, Es := [], Bs := [], d := 1 }
noncomputable def P_impl_twosOf_2 : LpF := loopF [0, 3] [] 0 rd_impl_twosOf_2 st_impl_twosOf_2 (.exit 0) G_impl_twosOf_2 L_impl_twosOf_2
theorem lok_impl_twosOf_2 : LoopOk Tryz.prog (loopAt (Tryz.f287.body.getD .skip) 0) P_impl_twosOf_2 := loopF_ok (t := TbL_impl_twosOf_2) (lt := fun _ => none) (body := b_impl_twosOf_2) (n := 70) (by intro h; cases h) (fun _ _ _ h => by cases h)
  (by intro s x h; unfold rd_impl_twosOf_2 at h; split at h <;> cases h; rfl) (fun x b cs h => lk_lt (l := (st_impl_twosOf_2 x).mm.blks) (by kernel_rfl) h) (by intro x; kernel_rfl) (fun x h => Tr.get_some h)
structure S_impl_twosOf_4 where
  x0 : I64
  x1 : I64
instance : Inhabited S_impl_twosOf_4 := ⟨⟨default, default⟩⟩
noncomputable def st_impl_twosOf_4 (x : S_impl_twosOf_4) : St := ⟨[(0, .i64 x.x0), (3, .i64 x.x1)], 22, ⟨[], 0, 0⟩⟩
noncomputable def rd_impl_twosOf_4 : St → Option S_impl_twosOf_4 := fun s => match s with
  | ⟨[(0, .i64 x0), (3, .i64 x1)], 22, ⟨[], 0, 0⟩⟩ => some ⟨x0, x1⟩
  | _ => none
noncomputable def b_impl_twosOf_4 (x : S_impl_twosOf_4) : Tr (Lp S_impl_twosOf_4) :=
  .br (decide (x.x1.val ≤ 0)) (let c5 := (Rng.w .i64 (0 - x.x1.val)); .br (decide (c5.val < 0)) (.bad) (.br (decide ((Rng.w .i64 (x.x0.val * (2 ^ min (c5.val).toNat 64))).val < 3221225472)) (.leaf (.again ⟨x.x0, (Rng.w .i64 (x.x1.val - 1))⟩)) (.leaf (.out ⟨x.x0, x.x1⟩)))) (.leaf (.out ⟨x.x0, x.x1⟩))
noncomputable def G_impl_twosOf_4 (x : S_impl_twosOf_4) : Bool := (Lf b_impl_twosOf_4 70 x).opt.isSome
noncomputable def L_impl_twosOf_4 (x : S_impl_twosOf_4) : S_impl_twosOf_4 := (Lf b_impl_twosOf_4 70 x).get
noncomputable def TbL_impl_twosOf_4 : Tb Tryz.prog := { T := [], mix := mix, Es := [], Bs := [], d := 1 }
noncomputable def P_impl_twosOf_4 : LpF := loopF [0, 3] [] 0 rd_impl_twosOf_4 st_impl_twosOf_4 (.exit 2) G_impl_twosOf_4 L_impl_twosOf_4
theorem lok_impl_twosOf_4 : LoopOk Tryz.prog (loopAt (Tryz.f287.body.getD .skip) 1) P_impl_twosOf_4 := loopF_ok (t := TbL_impl_twosOf_4) (lt := fun _ => none) (body := b_impl_twosOf_4) (n := 70) (by intro h; cases h) (fun _ _ _ h => by cases h)
  (by intro s x h; unfold rd_impl_twosOf_4 at h; split at h <;> cases h; rfl) (fun x b cs h => lk_lt (l := (st_impl_twosOf_4 x).mm.blks) (by kernel_rfl) h) (by intro x; kernel_rfl) (fun x h => Tr.get_some h)
noncomputable def B287 : Bod Tryz.prog := ⟨287, Tryz.f287, Tryz.f287.body.getD .skip, Tryz.func287, by kernel_rfl, by kernel_rfl, ⟨ltOf [(2, P_impl_twosOf_2), (4, P_impl_twosOf_4)], Loops.of (ks := [2, 4]) (by kernel_rfl) (by
  intro i k h f hf
  match i, h with
  | 0, h => cases h; obtain rfl : P_impl_twosOf_2 = f := Option.some.inj hf; exact lok_impl_twosOf_2
  | 1, h => cases h; obtain rfl : P_impl_twosOf_4 = f := Option.some.inj hf; exact lok_impl_twosOf_4
  | n + 2, h => simp at h)⟩⟩
noncomputable def Tb287 : Tb Tryz.prog := { T := [], mix := mix, Es := [], Bs := [], d := 1 }
noncomputable def t_impl_twosOf (a0 : I64) : Tr (I64) :=
  .br (G_impl_twosOf_2 ⟨a0, ⟨0, rfl⟩⟩) (let c4 := L_impl_twosOf_2 ⟨a0, ⟨0, rfl⟩⟩; .br (G_impl_twosOf_4 ⟨c4.x0, c4.x1⟩) (.leaf (L_impl_twosOf_4 ⟨c4.x0, c4.x1⟩).x1) (.bad)) (.bad)
theorem r_impl_twosOf (a0 : I64) : Tb287.run B287 [enc a0] (I64) = (t_impl_twosOf a0).opt := by kernel_rfl
noncomputable def F_impl_twosOf : I64 → I64 := fun a0 => (t_impl_twosOf a0).get
noncomputable def G_impl_twosOf : I64 → Bool := fun a0 => (t_impl_twosOf a0).opt.isSome
noncomputable def E_impl_twosOf : Ent Tryz.prog := .of1 Tb287 B287 G_impl_twosOf F_impl_twosOf fun a0 h => (r_impl_twosOf a0).trans (Tr.get_some h)
noncomputable def B288 : Bod Tryz.prog := ⟨288, Tryz.f288, Tryz.f288.body.getD .skip, Tryz.func288, by kernel_rfl, by kernel_rfl, Loops.no _ _⟩
noncomputable def Tb288 : Tb Tryz.prog := { T := [Y2, Y27], mix := mix, Es := [E_impl_bounded, E_impl_ValidInterval], Bs := [], d := 1 }
noncomputable def t_impl_widened (a0 : Iv) (a1 : I64) : Tr (Iv) :=
  .leaf (F_impl_bounded (Rng.w .i64 (a0.lo.val - a1.val)) (Rng.w .i64 (a0.hi.val + a1.val)) (F_impl_ValidInterval a0))
theorem r_impl_widened (a0 : Iv) (a1 : I64) : Tb288.run B288 [enc a0, enc a1] (Iv) = (t_impl_widened a0 a1).opt := by kernel_rfl
noncomputable def F_impl_widened : Iv → I64 → Iv := fun a0 a1 => (t_impl_widened a0 a1).get
theorem u_impl_widened (a0 : Iv) (a1 : I64) : (t_impl_widened a0 a1).opt = some (F_impl_widened a0 a1) := Tr.tot_get (by kernel_rfl)
noncomputable def E_impl_widened : Ent Tryz.prog := .of2 Tb288 B288 (fun _ _ => true) F_impl_widened fun a0 a1 _ => (r_impl_widened a0 a1).trans (u_impl_widened a0 a1)
noncomputable def B209 : Bod Tryz.prog := ⟨209, Tryz.f209, Tryz.f209.body.getD .skip, Tryz.func209, by kernel_rfl, by kernel_rfl, Loops.no _ _⟩
noncomputable def Tb209 : Tb Tryz.prog := { T := [Y2, Y27], mix := mix, Es := [ET_impl_MulI, E_impl_DivI, ET_impl_Quotient, E_impl_Whole, E_impl_Integer, E_impl_at, E_impl_SubI, E_impl_AddI, ET_impl_SqrI, ET_impl_LogTwoI, E_impl_ValidFix, E_impl_twosOf, E_impl_widened], Bs := [], d := 1 }
noncomputable def t_impl_LogAt (a0 : I64) : Tr (Iv) :=
  .br (!(F_impl_ValidFix a0)) (.leaf F_impl_Whole) (.br (decide (a0.val ≤ 0)) (.leaf F_impl_Whole) (.br (G_impl_twosOf a0) (let c4 := F_impl_twosOf a0; .br (decide (c4.val > 0)) (.br (decide (c4.val < 0)) (.bad) (let c6 := (Rng.w .i64 (a0.val.fdiv (2 ^ min (c4.val).toNat 64))); .br (decide (c4.val < 0)) (.bad) (let c9 := (Rng.w .i64 (0 - (Rng.w .i64 ((Rng.w .i64 (0 - a0.val)).val.fdiv (2 ^ min (c4.val).toNat 64))).val)); let c14 := F_impl_DivI (F_impl_SubI ⟨c6, c9⟩ (F_impl_Integer ⟨1, rfl⟩)) (F_impl_AddI ⟨c6, c9⟩ (F_impl_Integer ⟨1, rfl⟩)); let c15 := F_impl_SqrI c14; .leaf (F_impl_AddI (F_impl_LogTwoI c4) (F_impl_widened (F_impl_MulI (F_impl_MulI (F_impl_Integer ⟨2, rfl⟩) c14) (F_impl_AddI (F_impl_Quotient ⟨1, rfl⟩ ⟨1, rfl⟩) (F_impl_MulI c15 (F_impl_AddI (F_impl_Quotient ⟨1, rfl⟩ ⟨3, rfl⟩) (F_impl_MulI c15 (F_impl_AddI (F_impl_Quotient ⟨1, rfl⟩ ⟨5, rfl⟩) (F_impl_MulI c15 (F_impl_AddI (F_impl_Quotient ⟨1, rfl⟩ ⟨7, rfl⟩) (F_impl_MulI c15 (F_impl_AddI (F_impl_Quotient ⟨1, rfl⟩ ⟨9, rfl⟩) (F_impl_MulI c15 (F_impl_Quotient ⟨1, rfl⟩ ⟨11, rfl⟩)))))))))))) ⟨1, rfl⟩))))) (let c38 := (Rng.w .i64 (0 - c4.val)); .br (decide (c38.val < 0)) (.bad) (let c40 := F_impl_at (Rng.w .i64 (a0.val * (2 ^ min (c38.val).toNat 64))); let c45 := F_impl_DivI (F_impl_SubI c40 (F_impl_Integer ⟨1, rfl⟩)) (F_impl_AddI c40 (F_impl_Integer ⟨1, rfl⟩)); let c46 := F_impl_SqrI c45; .leaf (F_impl_AddI (F_impl_LogTwoI c4) (F_impl_widened (F_impl_MulI (F_impl_MulI (F_impl_Integer ⟨2, rfl⟩) c45) (F_impl_AddI (F_impl_Quotient ⟨1, rfl⟩ ⟨1, rfl⟩) (F_impl_MulI c46 (F_impl_AddI (F_impl_Quotient ⟨1, rfl⟩ ⟨3, rfl⟩) (F_impl_MulI c46 (F_impl_AddI (F_impl_Quotient ⟨1, rfl⟩ ⟨5, rfl⟩) (F_impl_MulI c46 (F_impl_AddI (F_impl_Quotient ⟨1, rfl⟩ ⟨7, rfl⟩) (F_impl_MulI c46 (F_impl_AddI (F_impl_Quotient ⟨1, rfl⟩ ⟨9, rfl⟩) (F_impl_MulI c46 (F_impl_Quotient ⟨1, rfl⟩ ⟨11, rfl⟩)))))))))))) ⟨1, rfl⟩))))) (.bad)))
theorem r_impl_LogAt (a0 : I64) : Tb209.run B209 [enc a0] (Iv) = (t_impl_LogAt a0).opt := by kernel_rfl
noncomputable def F_impl_LogAt : I64 → Iv := fun a0 => (t_impl_LogAt a0).get
noncomputable def G_impl_LogAt : I64 → Bool := fun a0 => (t_impl_LogAt a0).opt.isSome
noncomputable def E_impl_LogAt : Ent Tryz.prog := .of1 Tb209 B209 G_impl_LogAt F_impl_LogAt fun a0 h => (r_impl_LogAt a0).trans (Tr.get_some h)
end
end Go.Proofs.YtecfhpgpojgjkaaGreat.Ev
