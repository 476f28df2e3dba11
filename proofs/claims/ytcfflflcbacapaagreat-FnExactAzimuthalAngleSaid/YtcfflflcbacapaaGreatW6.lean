import Derived.Test.YtcfflflcbacapaaGreatW5
import Derived.Test.YtcfflflcbacapaaGreatP12
namespace Go.Proofs.YtcfflflcbacapaaGreat.Ev
open Go Go.RowKit
set_option maxRecDepth 100000
set_option linter.unusedVariables false
section
noncomputable def ET_spec_AtanAt : Ent Tryz.prog := .of1 Tb150 B150 (fun _ => true) F_spec_AtanAt fun a0 _ => (r_spec_AtanAt a0).trans (tt_atan_spec a0)
noncomputable def ET_impl_AtanAt : Ent Tryz.prog := .of1 Tb162 B162 (fun _ => true) F_impl_AtanAt fun a0 _ => (r_impl_AtanAt a0).trans (tt_atan_impl a0)
noncomputable def ET_spec_LogTwoI : Ent Tryz.prog := .of1 Tb311 B311 (fun _ => true) F_spec_LogTwoI fun a0 _ => (r_spec_LogTwoI a0).trans (tt_log2_spec a0)
noncomputable def ET_impl_LogTwoI : Ent Tryz.prog := .of1 Tb300 B300 (fun _ => true) F_impl_LogTwoI fun a0 _ => (r_impl_LogTwoI a0).trans (tt_log2_impl a0)
noncomputable def B118 : Bod Tryz.prog := ⟨118, Tryz.f118, Tryz.f118.body.getD .skip, Tryz.func118, by kernel_rfl, by kernel_rfl, Loops.no _ _⟩
noncomputable def Tb118 : Tb Tryz.prog := { T := [Y27], mix := mix, Es := [E_spec_l04Ok], Bs := [], d := 1 }
noncomputable def t_spec_IsWhole (a0 : Iv) : Tr (Bool) :=
  .leaf (!(F_spec_l04Ok a0))
theorem r_spec_IsWhole (a0 : Iv) : Tb118.run B118 [enc a0] (Bool) = (t_spec_IsWhole a0).opt := by kernel_rfl
noncomputable def F_spec_IsWhole : Iv → Bool := fun a0 => (t_spec_IsWhole a0).get
theorem u_spec_IsWhole (a0 : Iv) : (t_spec_IsWhole a0).opt = some (F_spec_IsWhole a0) := Tr.tot_get (by kernel_rfl)
noncomputable def E_spec_IsWhole : Ent Tryz.prog := .of1 Tb118 B118 (fun _ => true) F_spec_IsWhole fun a0 _ => (r_spec_IsWhole a0).trans (u_spec_IsWhole a0)
noncomputable def B56 : Bod Tryz.prog := ⟨56, Tryz.f56, Tryz.f56.body.getD .skip, Tryz.func56, by kernel_rfl, by kernel_rfl, Loops.no _ _⟩
noncomputable def Tb56 : Tb Tryz.prog := { T := [Y2, Y27], mix := mix, Es := [E_spec_IsWhole, E_spec_l07Quarter, E_spec_HullI, ET_spec_AtanAt], Bs := [], d := 1 }
noncomputable def t_spec_AtanI (a0 : Iv) : Tr (Iv) :=
  .br (F_spec_IsWhole a0) (.leaf F_spec_l07Quarter) (.leaf (F_spec_HullI (F_spec_AtanAt a0.lo) (F_spec_AtanAt a0.hi)))
theorem r_spec_AtanI (a0 : Iv) : Tb56.run B56 [enc a0] (Iv) = (t_spec_AtanI a0).opt := by kernel_rfl
noncomputable def F_spec_AtanI : Iv → Iv := fun a0 => (t_spec_AtanI a0).get
theorem u_spec_AtanI (a0 : Iv) : (t_spec_AtanI a0).opt = some (F_spec_AtanI a0) := Tr.tot_get (by kernel_rfl)
noncomputable def E_spec_AtanI : Ent Tryz.prog := .of1 Tb56 B56 (fun _ => true) F_spec_AtanI fun a0 _ => (r_spec_AtanI a0).trans (u_spec_AtanI a0)
noncomputable def B62 : Bod Tryz.prog := ⟨62, Tryz.f62, Tryz.f62.body.getD .skip, Tryz.func62, by kernel_rfl, by kernel_rfl, Loops.no _ _⟩
noncomputable def Tb62 : Tb Tryz.prog := { T := [Y2, Y27], mix := mix, Es := [E_impl_IsWhole, E_impl_halfCircle, E_impl_HullI, ET_impl_AtanAt], Bs := [], d := 1 }
noncomputable def t_impl_AtanI (a0 : Iv) : Tr (Iv) :=
  .br (F_impl_IsWhole a0) (.leaf F_impl_halfCircle) (.leaf (F_impl_HullI (F_impl_AtanAt a0.lo) (F_impl_AtanAt a0.hi)))
theorem r_impl_AtanI (a0 : Iv) : Tb62.run B62 [enc a0] (Iv) = (t_impl_AtanI a0).opt := by kernel_rfl
noncomputable def F_impl_AtanI : Iv → Iv := fun a0 => (t_impl_AtanI a0).get
theorem u_impl_AtanI (a0 : Iv) : (t_impl_AtanI a0).opt = some (F_impl_AtanI a0) := Tr.tot_get (by kernel_rfl)
noncomputable def E_impl_AtanI : Ent Tryz.prog := .of1 Tb62 B62 (fun _ => true) F_impl_AtanI fun a0 _ => (r_impl_AtanI a0).trans (u_impl_AtanI a0)
noncomputable def B211 : Bod Tryz.prog := ⟨211, Tryz.f211, Tryz.f211.body.getD .skip, Tryz.func211, by kernel_rfl, by kernel_rfl, Loops.no _ _⟩
noncomputable def Tb211 : Tb Tryz.prog := { T := [Y27], mix := mix, Es := [E_spec_l04Ok, E_spec_l04Has], Bs := [], d := 1 }
noncomputable def t_spec_HasI (a0 : Iv) (a1 : I64) : Tr (Bool) :=
  .br (!(F_spec_l04Ok a0)) (.leaf true) (.leaf (F_spec_l04Has a0 a1))
theorem r_spec_HasI (a0 : Iv) (a1 : I64) : Tb211.run B211 [enc a0, enc a1] (Bool) = (t_spec_HasI a0 a1).opt := by kernel_rfl
noncomputable def F_spec_HasI : Iv → I64 → Bool := fun a0 a1 => (t_spec_HasI a0 a1).get
theorem u_spec_HasI (a0 : Iv) (a1 : I64) : (t_spec_HasI a0 a1).opt = some (F_spec_HasI a0 a1) := Tr.tot_get (by kernel_rfl)
noncomputable def E_spec_HasI : Ent Tryz.prog := .of2 Tb211 B211 (fun _ _ => true) F_spec_HasI fun a0 a1 _ => (r_spec_HasI a0 a1).trans (u_spec_HasI a0 a1)
noncomputable def B212 : Bod Tryz.prog := ⟨212, Tryz.f212, Tryz.f212.body.getD .skip, Tryz.func212, by kernel_rfl, by kernel_rfl, Loops.no _ _⟩
noncomputable def Tb212 : Tb Tryz.prog := { T := [Y2, Y27], mix := mix, Es := [E_spec_AtanI, E_spec_Whole, E_spec_DivI, E_spec_AddI, E_spec_SubI, E_spec_l05At, E_spec_l07Fix, ET_spec_TurnI], Bs := [], d := 1 }
noncomputable def t_spec_DirectionAt (a0 : I64) (a1 : I64) : Tr (Iv) :=
  .br (!(F_spec_l07Fix a0)) (.leaf F_spec_Whole) (.br (!(F_spec_l07Fix a1)) (.leaf F_spec_Whole) (.br (a1.val == 0) (.br (a0.val == 0) (.leaf F_spec_Whole) (.br (decide (a0.val < 0)) (let c6 := (Rng.w .i64 (0 - a0.val)); .br (decide (c6.val > a1.val)) (.br (decide (c6.val > (Rng.w .i64 (0 - a1.val)).val)) (.br (decide (a0.val < 0)) (.leaf (F_spec_SubI (F_spec_TurnI ⟨(-1), rfl⟩) (F_spec_AtanI (F_spec_DivI (F_spec_l05At a1) (F_spec_l05At a0))))) (.leaf (F_spec_SubI (F_spec_TurnI ⟨1, rfl⟩) (F_spec_AtanI (F_spec_DivI (F_spec_l05At a1) (F_spec_l05At a0)))))) (.br (decide (a1.val > 0)) (.leaf (F_spec_AtanI (F_spec_DivI (F_spec_l05At a0) (F_spec_l05At a1)))) (.br (decide (a0.val < 0)) (.leaf (F_spec_AddI (F_spec_AtanI (F_spec_DivI (F_spec_l05At a0) (F_spec_l05At a1))) (F_spec_TurnI ⟨(-2), rfl⟩))) (.leaf (F_spec_AddI (F_spec_AtanI (F_spec_DivI (F_spec_l05At a0) (F_spec_l05At a1))) (F_spec_TurnI ⟨2, rfl⟩)))))) (.br (decide (a1.val > 0)) (.leaf (F_spec_AtanI (F_spec_DivI (F_spec_l05At a0) (F_spec_l05At a1)))) (.br (decide (a0.val < 0)) (.leaf (F_spec_AddI (F_spec_AtanI (F_spec_DivI (F_spec_l05At a0) (F_spec_l05At a1))) (F_spec_TurnI ⟨(-2), rfl⟩))) (.leaf (F_spec_AddI (F_spec_AtanI (F_spec_DivI (F_spec_l05At a0) (F_spec_l05At a1))) (F_spec_TurnI ⟨2, rfl⟩)))))) (.br (decide (a0.val > a1.val)) (.br (decide (a0.val > (Rng.w .i64 (0 - a1.val)).val)) (.br (decide (a0.val < 0)) (.leaf (F_spec_SubI (F_spec_TurnI ⟨(-1), rfl⟩) (F_spec_AtanI (F_spec_DivI (F_spec_l05At a1) (F_spec_l05At a0))))) (.leaf (F_spec_SubI (F_spec_TurnI ⟨1, rfl⟩) (F_spec_AtanI (F_spec_DivI (F_spec_l05At a1) (F_spec_l05At a0)))))) (.br (decide (a1.val > 0)) (.leaf (F_spec_AtanI (F_spec_DivI (F_spec_l05At a0) (F_spec_l05At a1)))) (.br (decide (a0.val < 0)) (.leaf (F_spec_AddI (F_spec_AtanI (F_spec_DivI (F_spec_l05At a0) (F_spec_l05At a1))) (F_spec_TurnI ⟨(-2), rfl⟩))) (.leaf (F_spec_AddI (F_spec_AtanI (F_spec_DivI (F_spec_l05At a0) (F_spec_l05At a1))) (F_spec_TurnI ⟨2, rfl⟩)))))) (.br (decide (a1.val > 0)) (.leaf (F_spec_AtanI (F_spec_DivI (F_spec_l05At a0) (F_spec_l05At a1)))) (.br (decide (a0.val < 0)) (.leaf (F_spec_AddI (F_spec_AtanI (F_spec_DivI (F_spec_l05At a0) (F_spec_l05At a1))) (F_spec_TurnI ⟨(-2), rfl⟩))) (.leaf (F_spec_AddI (F_spec_AtanI (F_spec_DivI (F_spec_l05At a0) (F_spec_l05At a1))) (F_spec_TurnI ⟨2, rfl⟩)))))))) (.br (decide (a0.val < 0)) (let c101 := (Rng.w .i64 (0 - a0.val)); .br (decide (c101.val > a1.val)) (.br (decide (c101.val > (Rng.w .i64 (0 - a1.val)).val)) (.br (decide (a0.val < 0)) (.leaf (F_spec_SubI (F_spec_TurnI ⟨(-1), rfl⟩) (F_spec_AtanI (F_spec_DivI (F_spec_l05At a1) (F_spec_l05At a0))))) (.leaf (F_spec_SubI (F_spec_TurnI ⟨1, rfl⟩) (F_spec_AtanI (F_spec_DivI (F_spec_l05At a1) (F_spec_l05At a0)))))) (.br (decide (a1.val > 0)) (.leaf (F_spec_AtanI (F_spec_DivI (F_spec_l05At a0) (F_spec_l05At a1)))) (.br (decide (a0.val < 0)) (.leaf (F_spec_AddI (F_spec_AtanI (F_spec_DivI (F_spec_l05At a0) (F_spec_l05At a1))) (F_spec_TurnI ⟨(-2), rfl⟩))) (.leaf (F_spec_AddI (F_spec_AtanI (F_spec_DivI (F_spec_l05At a0) (F_spec_l05At a1))) (F_spec_TurnI ⟨2, rfl⟩)))))) (.br (decide (a1.val > 0)) (.leaf (F_spec_AtanI (F_spec_DivI (F_spec_l05At a0) (F_spec_l05At a1)))) (.br (decide (a0.val < 0)) (.leaf (F_spec_AddI (F_spec_AtanI (F_spec_DivI (F_spec_l05At a0) (F_spec_l05At a1))) (F_spec_TurnI ⟨(-2), rfl⟩))) (.leaf (F_spec_AddI (F_spec_AtanI (F_spec_DivI (F_spec_l05At a0) (F_spec_l05At a1))) (F_spec_TurnI ⟨2, rfl⟩)))))) (.br (decide (a0.val > a1.val)) (.br (decide (a0.val > (Rng.w .i64 (0 - a1.val)).val)) (.br (decide (a0.val < 0)) (.leaf (F_spec_SubI (F_spec_TurnI ⟨(-1), rfl⟩) (F_spec_AtanI (F_spec_DivI (F_spec_l05At a1) (F_spec_l05At a0))))) (.leaf (F_spec_SubI (F_spec_TurnI ⟨1, rfl⟩) (F_spec_AtanI (F_spec_DivI (F_spec_l05At a1) (F_spec_l05At a0)))))) (.br (decide (a1.val > 0)) (.leaf (F_spec_AtanI (F_spec_DivI (F_spec_l05At a0) (F_spec_l05At a1)))) (.br (decide (a0.val < 0)) (.leaf (F_spec_AddI (F_spec_AtanI (F_spec_DivI (F_spec_l05At a0) (F_spec_l05At a1))) (F_spec_TurnI ⟨(-2), rfl⟩))) (.leaf (F_spec_AddI (F_spec_AtanI (F_spec_DivI (F_spec_l05At a0) (F_spec_l05At a1))) (F_spec_TurnI ⟨2, rfl⟩)))))) (.br (decide (a1.val > 0)) (.leaf (F_spec_AtanI (F_spec_DivI (F_spec_l05At a0) (F_spec_l05At a1)))) (.br (decide (a0.val < 0)) (.leaf (F_spec_AddI (F_spec_AtanI (F_spec_DivI (F_spec_l05At a0) (F_spec_l05At a1))) (F_spec_TurnI ⟨(-2), rfl⟩))) (.leaf (F_spec_AddI (F_spec_AtanI (F_spec_DivI (F_spec_l05At a0) (F_spec_l05At a1))) (F_spec_TurnI ⟨2, rfl⟩)))))))))
theorem r_spec_DirectionAt (a0 : I64) (a1 : I64) : Tb212.run B212 [enc a0, enc a1] (Iv) = (t_spec_DirectionAt a0 a1).opt := by kernel_rfl
noncomputable def F_spec_DirectionAt : I64 → I64 → Iv := fun a0 a1 => (t_spec_DirectionAt a0 a1).get
theorem u_spec_DirectionAt (a0 : I64) (a1 : I64) : (t_spec_DirectionAt a0 a1).opt = some (F_spec_DirectionAt a0 a1) := Tr.tot_get (by kernel_rfl)
noncomputable def E_spec_DirectionAt : Ent Tryz.prog := .of2 Tb212 B212 (fun _ _ => true) F_spec_DirectionAt fun a0 a1 _ => (r_spec_DirectionAt a0 a1).trans (u_spec_DirectionAt a0 a1)
noncomputable def B119 : Bod Tryz.prog := ⟨119, Tryz.f119, Tryz.f119.body.getD .skip, Tryz.func119, by kernel_rfl, by kernel_rfl, Loops.no _ _⟩
noncomputable def Tb119 : Tb Tryz.prog := { T := [Y2, Y27], mix := mix, Es := [E_spec_Whole, E_spec_IsWhole, E_spec_HullI, E_spec_HasI, E_spec_DirectionAt], Bs := [], d := 1 }
noncomputable def t_spec_DirectionI (a0 : Iv) (a1 : Iv) : Tr (Iv) :=
  .br (F_spec_IsWhole a0) (.leaf F_spec_Whole) (.br (F_spec_IsWhole a1) (.leaf F_spec_Whole) (.br (F_spec_HasI a0 ⟨0, rfl⟩) (.br (F_spec_HasI a1 ⟨0, rfl⟩) (.leaf F_spec_Whole) (.br (decide (a1.lo.val < 0)) (.br (decide (a0.lo.val < 0)) (.br (decide (a0.hi.val ≥ 0)) (.leaf F_spec_Whole) (.leaf (F_spec_HullI (F_spec_HullI (F_spec_DirectionAt a0.lo a1.lo) (F_spec_DirectionAt a0.lo a1.hi)) (F_spec_HullI (F_spec_DirectionAt a0.hi a1.lo) (F_spec_DirectionAt a0.hi a1.hi))))) (.leaf (F_spec_HullI (F_spec_HullI (F_spec_DirectionAt a0.lo a1.lo) (F_spec_DirectionAt a0.lo a1.hi)) (F_spec_HullI (F_spec_DirectionAt a0.hi a1.lo) (F_spec_DirectionAt a0.hi a1.hi))))) (.leaf (F_spec_HullI (F_spec_HullI (F_spec_DirectionAt a0.lo a1.lo) (F_spec_DirectionAt a0.lo a1.hi)) (F_spec_HullI (F_spec_DirectionAt a0.hi a1.lo) (F_spec_DirectionAt a0.hi a1.hi)))))) (.br (decide (a1.lo.val < 0)) (.br (decide (a0.lo.val < 0)) (.br (decide (a0.hi.val ≥ 0)) (.leaf F_spec_Whole) (.leaf (F_spec_HullI (F_spec_HullI (F_spec_DirectionAt a0.lo a1.lo) (F_spec_DirectionAt a0.lo a1.hi)) (F_spec_HullI (F_spec_DirectionAt a0.hi a1.lo) (F_spec_DirectionAt a0.hi a1.hi))))) (.leaf (F_spec_HullI (F_spec_HullI (F_spec_DirectionAt a0.lo a1.lo) (F_spec_DirectionAt a0.lo a1.hi)) (F_spec_HullI (F_spec_DirectionAt a0.hi a1.lo) (F_spec_DirectionAt a0.hi a1.hi))))) (.leaf (F_spec_HullI (F_spec_HullI (F_spec_DirectionAt a0.lo a1.lo) (F_spec_DirectionAt a0.lo a1.hi)) (F_spec_HullI (F_spec_DirectionAt a0.hi a1.lo) (F_spec_DirectionAt a0.hi a1.hi)))))))
theorem r_spec_DirectionI (a0 : Iv) (a1 : Iv) : Tb119.run B119 [enc a0, enc a1] (Iv) = (t_spec_DirectionI a0 a1).opt := by kernel_rfl
noncomputable def F_spec_DirectionI : Iv → Iv → Iv := fun a0 a1 => (t_spec_DirectionI a0 a1).get
theorem u_spec_DirectionI (a0 : Iv) (a1 : Iv) : (t_spec_DirectionI a0 a1).opt = some (F_spec_DirectionI a0 a1) := Tr.tot_get (by kernel_rfl)
noncomputable def E_spec_DirectionI : Ent Tryz.prog := .of2 Tb119 B119 (fun _ _ => true) F_spec_DirectionI fun a0 a1 _ => (r_spec_DirectionI a0 a1).trans (u_spec_DirectionI a0 a1)
noncomputable def B218 : Bod Tryz.prog := ⟨218, Tryz.f218, Tryz.f218.body.getD .skip, Tryz.func218, by kernel_rfl, by kernel_rfl, Loops.no _ _⟩
noncomputable def Tb218 : Tb Tryz.prog := { T := [Y2, Y27], mix := mix, Es := [E_impl_AtanI, E_impl_Whole, E_impl_DivI, E_impl_at, E_impl_SubI, E_impl_AddI, E_impl_abs, ET_impl_TurnI, E_impl_isOpen], Bs := [], d := 1 }
noncomputable def t_impl_DirectionAt (a0 : I64) (a1 : I64) : Tr (Iv) :=
  .br (!(F_impl_isOpen a0)) (.leaf F_impl_Whole) (.br (!(F_impl_isOpen a1)) (.leaf F_impl_Whole) (.br (a0.val == 0) (.br (a1.val == 0) (.leaf F_impl_Whole) (.br (decide ((F_impl_abs a0).val > (F_impl_abs a1).val)) (.br (decide (a0.val < 0)) (.leaf (F_impl_SubI (F_impl_TurnI ⟨(-1), rfl⟩) (F_impl_AtanI (F_impl_DivI (F_impl_at a1) (F_impl_at a0))))) (.leaf (F_impl_SubI (F_impl_TurnI ⟨1, rfl⟩) (F_impl_AtanI (F_impl_DivI (F_impl_at a1) (F_impl_at a0)))))) (let c24 := F_impl_AtanI (F_impl_DivI (F_impl_at a0) (F_impl_at a1)); .br (decide (a1.val > 0)) (.leaf c24) (.br (decide (a0.val < 0)) (.leaf (F_impl_AddI c24 (F_impl_TurnI ⟨(-2), rfl⟩))) (.leaf (F_impl_AddI c24 (F_impl_TurnI ⟨2, rfl⟩))))))) (.br (decide ((F_impl_abs a0).val > (F_impl_abs a1).val)) (.br (decide (a0.val < 0)) (.leaf (F_impl_SubI (F_impl_TurnI ⟨(-1), rfl⟩) (F_impl_AtanI (F_impl_DivI (F_impl_at a1) (F_impl_at a0))))) (.leaf (F_impl_SubI (F_impl_TurnI ⟨1, rfl⟩) (F_impl_AtanI (F_impl_DivI (F_impl_at a1) (F_impl_at a0)))))) (let c47 := F_impl_AtanI (F_impl_DivI (F_impl_at a0) (F_impl_at a1)); .br (decide (a1.val > 0)) (.leaf c47) (.br (decide (a0.val < 0)) (.leaf (F_impl_AddI c47 (F_impl_TurnI ⟨(-2), rfl⟩))) (.leaf (F_impl_AddI c47 (F_impl_TurnI ⟨2, rfl⟩))))))))
theorem r_impl_DirectionAt (a0 : I64) (a1 : I64) : Tb218.run B218 [enc a0, enc a1] (Iv) = (t_impl_DirectionAt a0 a1).opt := by kernel_rfl
noncomputable def F_impl_DirectionAt : I64 → I64 → Iv := fun a0 a1 => (t_impl_DirectionAt a0 a1).get
theorem u_impl_DirectionAt (a0 : I64) (a1 : I64) : (t_impl_DirectionAt a0 a1).opt = some (F_impl_DirectionAt a0 a1) := Tr.tot_get (by kernel_rfl)
noncomputable def E_impl_DirectionAt : Ent Tryz.prog := .of2 Tb218 B218 (fun _ _ => true) F_impl_DirectionAt fun a0 a1 _ => (r_impl_DirectionAt a0 a1).trans (u_impl_DirectionAt a0 a1)
noncomputable def B124 : Bod Tryz.prog := ⟨124, Tryz.f124, Tryz.f124.body.getD .skip, Tryz.func124, by kernel_rfl, by kernel_rfl, Loops.no _ _⟩
noncomputable def Tb124 : Tb Tryz.prog := { T := [Y2, Y27], mix := mix, Es := [E_impl_Whole, E_impl_areBounded, E_impl_HullI, E_impl_HasI, E_impl_DirectionAt], Bs := [], d := 1 }
noncomputable def t_impl_DirectionI (a0 : Iv) (a1 : Iv) : Tr (Iv) :=
  .br (!(F_impl_areBounded a0 a1)) (.leaf F_impl_Whole) (.br (F_impl_HasI a0 ⟨0, rfl⟩) (.br (F_impl_HasI a1 ⟨0, rfl⟩) (.leaf F_impl_Whole) (.br (decide (a1.lo.val < 0)) (.br (decide (a0.lo.val < 0)) (.br (decide (a0.hi.val ≥ 0)) (.leaf F_impl_Whole) (.leaf (F_impl_HullI (F_impl_HullI (F_impl_DirectionAt a0.lo a1.lo) (F_impl_DirectionAt a0.lo a1.hi)) (F_impl_HullI (F_impl_DirectionAt a0.hi a1.lo) (F_impl_DirectionAt a0.hi a1.hi))))) (.leaf (F_impl_HullI (F_impl_HullI (F_impl_DirectionAt a0.lo a1.lo) (F_impl_DirectionAt a0.lo a1.hi)) (F_impl_HullI (F_impl_DirectionAt a0.hi a1.lo) (F_impl_DirectionAt a0.hi a1.hi))))) (.leaf (F_impl_HullI (F_impl_HullI (F_impl_DirectionAt a0.lo a1.lo) (F_impl_DirectionAt a0.lo a1.hi)) (F_impl_HullI (F_impl_DirectionAt a0.hi a1.lo) (F_impl_DirectionAt a0.hi a1.hi)))))) (.br (decide (a1.lo.val < 0)) (.br (decide (a0.lo.val < 0)) (.br (decide (a0.hi.val ≥ 0)) (.leaf F_impl_Whole) (.leaf (F_impl_HullI (F_impl_HullI (F_impl_DirectionAt a0.lo a1.lo) (F_impl_DirectionAt a0.lo a1.hi)) (F_impl_HullI (F_impl_DirectionAt a0.hi a1.lo) (F_impl_DirectionAt a0.hi a1.hi))))) (.leaf (F_impl_HullI (F_impl_HullI (F_impl_DirectionAt a0.lo a1.lo) (F_impl_DirectionAt a0.lo a1.hi)) (F_impl_HullI (F_impl_DirectionAt a0.hi a1.lo) (F_impl_DirectionAt a0.hi a1.hi))))) (.leaf (F_impl_HullI (F_impl_HullI (F_impl_DirectionAt a0.lo a1.lo) (F_impl_DirectionAt a0.lo a1.hi)) (F_impl_HullI (F_impl_DirectionAt a0.hi a1.lo) (F_impl_DirectionAt a0.hi a1.hi))))))
theorem r_impl_DirectionI (a0 : Iv) (a1 : Iv) : Tb124.run B124 [enc a0, enc a1] (Iv) = (t_impl_DirectionI a0 a1).opt := by kernel_rfl
noncomputable def F_impl_DirectionI : Iv → Iv → Iv := fun a0 a1 => (t_impl_DirectionI a0 a1).get
theorem u_impl_DirectionI (a0 : Iv) (a1 : Iv) : (t_impl_DirectionI a0 a1).opt = some (F_impl_DirectionI a0 a1) := Tr.tot_get (by kernel_rfl)
noncomputable def E_impl_DirectionI : Ent Tryz.prog := .of2 Tb124 B124 (fun _ _ => true) F_impl_DirectionI fun a0 a1 _ => (r_impl_DirectionI a0 a1).trans (u_impl_DirectionI a0 a1)
noncomputable def B137 : Bod Tryz.prog := ⟨137, Tryz.f137, Tryz.f137.body.getD .skip, Tryz.func137, by kernel_rfl, by kernel_rfl, Loops.no _ _⟩
noncomputable def Tb137 : Tb Tryz.prog := { T := [Y2, Y27], mix := mix, Es := [E_spec_l04Whole, E_spec_l04Ok, E_spec_l04Make, E_spec_l04Ends], Bs := [], d := 1 }
noncomputable def t_spec_AbsI (a0 : Iv) : Tr (Iv) :=
  .br (!(F_spec_l04Ok a0)) (.leaf F_spec_l04Whole) (let c3 := F_spec_l04Ends a0; .leaf (F_spec_l04Make c3.a c3.b))
theorem r_spec_AbsI (a0 : Iv) : Tb137.run B137 [enc a0] (Iv) = (t_spec_AbsI a0).opt := by kernel_rfl
noncomputable def F_spec_AbsI : Iv → Iv := fun a0 => (t_spec_AbsI a0).get
theorem u_spec_AbsI (a0 : Iv) : (t_spec_AbsI a0).opt = some (F_spec_AbsI a0) := Tr.tot_get (by kernel_rfl)
noncomputable def E_spec_AbsI : Ent Tryz.prog := .of1 Tb137 B137 (fun _ => true) F_spec_AbsI fun a0 _ => (r_spec_AbsI a0).trans (u_spec_AbsI a0)
noncomputable def B200 : Bod Tryz.prog := ⟨200, Tryz.f200, Tryz.f200.body.getD .skip, Tryz.func200, by kernel_rfl, by kernel_rfl, Loops.no _ _⟩
noncomputable def Tb200 : Tb Tryz.prog := { T := [Y2, Y27], mix := mix, Es := [E_spec_AbsI], Bs := [], d := 1 }
noncomputable def t_spec_l10Ends (a0 : Iv) : Tr (T2 I64 I64) :=
  let c1 := F_spec_AbsI a0; .leaf ⟨c1.lo, c1.hi⟩
theorem r_spec_l10Ends (a0 : Iv) : Tb200.run B200 [enc a0] (T2 I64 I64) = (t_spec_l10Ends a0).opt := by kernel_rfl
noncomputable def F_spec_l10Ends : Iv → T2 I64 I64 := fun a0 => (t_spec_l10Ends a0).get
theorem u_spec_l10Ends (a0 : Iv) : (t_spec_l10Ends a0).opt = some (F_spec_l10Ends a0) := Tr.tot_get (by kernel_rfl)
noncomputable def E_spec_l10Ends : Ent Tryz.prog := .of1 Tb200 B200 (fun _ => true) F_spec_l10Ends fun a0 _ => (r_spec_l10Ends a0).trans (u_spec_l10Ends a0)
noncomputable def B202 : Bod Tryz.prog := ⟨202, Tryz.f202, Tryz.f202.body.getD .skip, Tryz.func202, by kernel_rfl, by kernel_rfl, Loops.no _ _⟩
noncomputable def Tb202 : Tb Tryz.prog := { T := [Y2, Y122, Y125], mix := mix, Es := [E_spec_l02Mul, E_spec_l02Plus], Bs := [], d := 1 }
noncomputable def t_spec_l10Sum (a0 : I64) (a1 : I64) (a2 : I64) : Tr (Wide) :=
  .leaf (F_spec_l02Plus (F_spec_l02Plus (F_spec_l02Mul a0 a0) (F_spec_l02Mul a1 a1)) (F_spec_l02Mul a2 a2))
theorem r_spec_l10Sum (a0 : I64) (a1 : I64) (a2 : I64) : Tb202.run B202 [enc a0, enc a1, enc a2] (Wide) = (t_spec_l10Sum a0 a1 a2).opt := by kernel_rfl
noncomputable def F_spec_l10Sum : I64 → I64 → I64 → Wide := fun a0 a1 a2 => (t_spec_l10Sum a0 a1 a2).get
theorem u_spec_l10Sum (a0 : I64) (a1 : I64) (a2 : I64) : (t_spec_l10Sum a0 a1 a2).opt = some (F_spec_l10Sum a0 a1 a2) := Tr.tot_get (by kernel_rfl)
noncomputable def E_spec_l10Sum : Ent Tryz.prog := .of3 Tb202 B202 (fun _ _ _ => true) F_spec_l10Sum fun a0 a1 a2 _ => (r_spec_l10Sum a0 a1 a2).trans (u_spec_l10Sum a0 a1 a2)
noncomputable def Y29 : TyE Tryz.prog := ⟨29, 6, (.struct [(0, 27, 2), (2, 27, 2), (4, 27, 2)]), [.i64 ⟨0, rfl⟩, .i64 ⟨0, rfl⟩, .i64 ⟨0, rfl⟩, .i64 ⟨0, rfl⟩, .i64 ⟨0, rfl⟩, .i64 ⟨0, rfl⟩], false, by kernel_rfl, by kernel_rfl, by kernel_rfl, by kernel_rfl, by kernel_rfl, by kernel_rfl⟩
noncomputable def B108 : Bod Tryz.prog := ⟨108, Tryz.f108, Tryz.f108.body.getD .skip, Tryz.func108, by kernel_rfl, by kernel_rfl, Loops.no _ _⟩
noncomputable def Tb108 : Tb Tryz.prog := { T := [Y2, Y27, Y29, Y122, Y125], mix := mix, Es := [E_spec_Whole, E_spec_IsWhole, E_spec_l10Ends, ET_spec_l02Root, E_spec_l10Sum, E_spec_l02Mul], Bs := [], d := 1 }
noncomputable def t_spec_NormV (a0 : Vec) : Tr (Iv) :=
  .br (F_spec_IsWhole a0.x) (.leaf F_spec_Whole) (.br (F_spec_IsWhole a0.y) (.leaf F_spec_Whole) (.br (F_spec_IsWhole a0.z) (.leaf F_spec_Whole) (let c7 := F_spec_l10Ends a0.x; let c8 := F_spec_l10Ends a0.y; let c9 := F_spec_l10Ends a0.z; let c11 := F_spec_l02Root (F_spec_l10Sum c7.a c8.a c9.a); let c12 := F_spec_l10Sum c7.b c8.b c9.b; let c13 := F_spec_l02Root c12; let c14 := F_spec_l02Mul (Rng.w .i64 (c13.val)) (Rng.w .i64 (c13.val)); .br (!((c14.hi.val == c12.hi.val) && ((c14.lo.val == c12.lo.val) && true))) (let c16 := (Rng.w .i64 ((Rng.w .i64 (c13.val)).val + 1)); .br (decide (c16.val ≥ 1152921504606846976)) (.leaf F_spec_Whole) (.leaf ⟨(Rng.w .i64 (c11.val)), c16⟩)) (.br (decide ((Rng.w .i64 (c13.val)).val ≥ 1152921504606846976)) (.leaf F_spec_Whole) (.leaf ⟨(Rng.w .i64 (c11.val)), (Rng.w .i64 (c13.val))⟩)))))
theorem r_spec_NormV (a0 : Vec) : Tb108.run B108 [enc a0] (Iv) = (t_spec_NormV a0).opt := by kernel_rfl
noncomputable def F_spec_NormV : Vec → Iv := fun a0 => (t_spec_NormV a0).get
theorem u_spec_NormV (a0 : Vec) : (t_spec_NormV a0).opt = some (F_spec_NormV a0) := Tr.tot_get (by kernel_rfl)
noncomputable def E_spec_NormV : Ent Tryz.prog := .of1 Tb108 B108 (fun _ => true) F_spec_NormV fun a0 _ => (r_spec_NormV a0).trans (u_spec_NormV a0)
noncomputable def B265 : Bod Tryz.prog := ⟨265, Tryz.f265, Tryz.f265.body.getD .skip, Tryz.func265, by kernel_rfl, by kernel_rfl, Loops.no _ _⟩
noncomputable def Tb265 : Tb Tryz.prog := { T := [Y2, Y122, Y125], mix := mix, Es := [E_math_bits_Add64], Bs := [], d := 1 }
noncomputable def t_impl_WideAdd (a0 : Wide) (a1 : Wide) : Tr (T2 Wide Bool) :=
  let c1 := F_math_bits_Add64 a0.lo a1.lo ⟨0, rfl⟩; .br (G_carry (Rng.w .u64 (a0.hi.val)) (Rng.w .u64 (a1.hi.val)) c1.b) (let c2 := F_math_bits_Add64 (Rng.w .u64 (a0.hi.val)) (Rng.w .u64 (a1.hi.val)) c1.b; .br (decide ((Rng.w .i64 (bitop .and .i64 (Rng.w .i64 (bitop .xor .i64 a0.hi.val (Rng.w .i64 (c2.a.val)).val)).val (Rng.w .i64 (bitop .xor .i64 a1.hi.val (Rng.w .i64 (c2.a.val)).val)).val)).val < 0)) (.leaf ⟨⟨⟨0, rfl⟩, ⟨0, rfl⟩⟩, false⟩) (.leaf ⟨⟨(Rng.w .i64 (c2.a.val)), c1.a⟩, true⟩)) (.bad)
theorem r_impl_WideAdd (a0 : Wide) (a1 : Wide) : Tb265.run B265 [enc a0, enc a1] (T2 Wide Bool) = (t_impl_WideAdd a0 a1).opt := by kernel_rfl
noncomputable def F_impl_WideAdd : Wide → Wide → T2 Wide Bool := fun a0 a1 => (t_impl_WideAdd a0 a1).get
noncomputable def G_impl_WideAdd : Wide → Wide → Bool := fun a0 a1 => (t_impl_WideAdd a0 a1).opt.isSome
noncomputable def E_impl_WideAdd : Ent Tryz.prog := .of2 Tb265 B265 G_impl_WideAdd F_impl_WideAdd fun a0 a1 h => (r_impl_WideAdd a0 a1).trans (Tr.get_some h)
noncomputable def B204 : Bod Tryz.prog := ⟨204, Tryz.f204, Tryz.f204.body.getD .skip, Tryz.func204, by kernel_rfl, by kernel_rfl, Loops.no _ _⟩
noncomputable def Tb204 : Tb Tryz.prog := { T := [Y2, Y122, Y125], mix := mix, Es := [E_impl_WideMul, E_impl_WideAdd, ET_impl_WideSqrt], Bs := [], d := 1 }
noncomputable def t_impl_rootOfSquares (a0 : I64) (a1 : I64) (a2 : I64) : Tr (T2 I64 I64) :=
  let c1 := F_impl_WideMul a0 a0; let c2 := F_impl_WideMul a1 a1; .br (G_impl_WideAdd c1 c2) (let c3 := F_impl_WideAdd c1 c2; let c4 := F_impl_WideMul a2 a2; .br (G_impl_WideAdd c3.a c4) (let c5 := F_impl_WideAdd c3.a c4; let c6 := F_impl_WideSqrt c5.a; let c7 := F_impl_WideMul (Rng.w .i64 (c6.a.val)) (Rng.w .i64 (c6.a.val)); .br (!((c7.hi.val == c5.a.hi.val) && ((c7.lo.val == c5.a.lo.val) && true))) (.leaf ⟨(Rng.w .i64 (c6.a.val)), (Rng.w .i64 ((Rng.w .i64 (c6.a.val)).val + 1))⟩) (.leaf ⟨(Rng.w .i64 (c6.a.val)), (Rng.w .i64 (c6.a.val))⟩)) (.bad)) (.bad)
theorem r_impl_rootOfSquares (a0 : I64) (a1 : I64) (a2 : I64) : Tb204.run B204 [enc a0, enc a1, enc a2] (T2 I64 I64) = (t_impl_rootOfSquares a0 a1 a2).opt := by kernel_rfl
noncomputable def F_impl_rootOfSquares : I64 → I64 → I64 → T2 I64 I64 := fun a0 a1 a2 => (t_impl_rootOfSquares a0 a1 a2).get
noncomputable def G_impl_rootOfSquares : I64 → I64 → I64 → Bool := fun a0 a1 a2 => (t_impl_rootOfSquares a0 a1 a2).opt.isSome
noncomputable def E_impl_rootOfSquares : Ent Tryz.prog := .of3 Tb204 B204 G_impl_rootOfSquares F_impl_rootOfSquares fun a0 a1 a2 h => (r_impl_rootOfSquares a0 a1 a2).trans (Tr.get_some h)
noncomputable def B109 : Bod Tryz.prog := ⟨109, Tryz.f109, Tryz.f109.body.getD .skip, Tryz.func109, by kernel_rfl, by kernel_rfl, Loops.no _ _⟩
noncomputable def Tb109 : Tb Tryz.prog := { T := [Y2, Y27, Y29], mix := mix, Es := [E_impl_Whole, E_impl_IsWhole, E_impl_AbsI, E_impl_areBounded, E_impl_bounded, E_impl_rootOfSquares], Bs := [], d := 1 }
noncomputable def t_impl_NormV (a0 : Vec) : Tr (Iv) :=
  .br (!(F_impl_areBounded a0.x a0.y)) (.leaf F_impl_Whole) (.br (F_impl_IsWhole a0.z) (.leaf F_impl_Whole) (let c5 := F_impl_AbsI a0.x; let c6 := F_impl_AbsI a0.y; let c7 := F_impl_AbsI a0.z; .br (G_impl_rootOfSquares c5.lo c6.lo c7.lo) (.br (G_impl_rootOfSquares c5.hi c6.hi c7.hi) (.leaf (F_impl_bounded (F_impl_rootOfSquares c5.lo c6.lo c7.lo).a (F_impl_rootOfSquares c5.hi c6.hi c7.hi).b true)) (.bad)) (.bad)))
theorem r_impl_NormV (a0 : Vec) : Tb109.run B109 [enc a0] (Iv) = (t_impl_NormV a0).opt := by kernel_rfl
noncomputable def F_impl_NormV : Vec → Iv := fun a0 => (t_impl_NormV a0).get
noncomputable def G_impl_NormV : Vec → Bool := fun a0 => (t_impl_NormV a0).opt.isSome
noncomputable def E_impl_NormV : Ent Tryz.prog := .of1 Tb109 B109 G_impl_NormV F_impl_NormV fun a0 h => (r_impl_NormV a0).trans (Tr.get_some h)
noncomputable def B126 : Bod Tryz.prog := ⟨126, Tryz.f126, Tryz.f126.body.getD .skip, Tryz.func126, by kernel_rfl, by kernel_rfl, Loops.no _ _⟩
noncomputable def Tb126 : Tb Tryz.prog := { T := [Y2, Y27], mix := mix, Es := [E_spec_l04Ok], Bs := [], d := 1 }
noncomputable def t_spec_LessI (a0 : Iv) (a1 : Iv) : Tr (I64) :=
  .br (!(F_spec_l04Ok a0)) (.leaf ⟨2, rfl⟩) (.br (!(F_spec_l04Ok a1)) (.leaf ⟨2, rfl⟩) (.br (decide (a0.hi.val < a1.lo.val)) (.leaf ⟨1, rfl⟩) (.br (decide (a0.lo.val ≥ a1.hi.val)) (.leaf ⟨0, rfl⟩) (.leaf ⟨2, rfl⟩))))
theorem r_spec_LessI (a0 : Iv) (a1 : Iv) : Tb126.run B126 [enc a0, enc a1] (I64) = (t_spec_LessI a0 a1).opt := by kernel_rfl
noncomputable def F_spec_LessI : Iv → Iv → I64 := fun a0 a1 => (t_spec_LessI a0 a1).get
theorem u_spec_LessI (a0 : Iv) (a1 : Iv) : (t_spec_LessI a0 a1).opt = some (F_spec_LessI a0 a1) := Tr.tot_get (by kernel_rfl)
noncomputable def E_spec_LessI : Ent Tryz.prog := .of2 Tb126 B126 (fun _ _ => true) F_spec_LessI fun a0 a1 _ => (r_spec_LessI a0 a1).trans (u_spec_LessI a0 a1)
noncomputable def B128 : Bod Tryz.prog := ⟨128, Tryz.f128, Tryz.f128.body.getD .skip, Tryz.func128, by kernel_rfl, by kernel_rfl, Loops.no _ _⟩
noncomputable def Tb128 : Tb Tryz.prog := { T := [Y2, Y27], mix := mix, Es := [E_impl_areBounded], Bs := [], d := 1 }
noncomputable def t_impl_LessI (a0 : Iv) (a1 : Iv) : Tr (I64) :=
  .br (!(F_impl_areBounded a0 a1)) (.leaf ⟨2, rfl⟩) (.br (decide (a0.hi.val < a1.lo.val)) (.leaf ⟨1, rfl⟩) (.br (decide (a0.lo.val ≥ a1.hi.val)) (.leaf ⟨0, rfl⟩) (.leaf ⟨2, rfl⟩)))
theorem r_impl_LessI (a0 : Iv) (a1 : Iv) : Tb128.run B128 [enc a0, enc a1] (I64) = (t_impl_LessI a0 a1).opt := by kernel_rfl
noncomputable def F_impl_LessI : Iv → Iv → I64 := fun a0 a1 => (t_impl_LessI a0 a1).get
theorem u_impl_LessI (a0 : Iv) (a1 : Iv) : (t_impl_LessI a0 a1).opt = some (F_impl_LessI a0 a1) := Tr.tot_get (by kernel_rfl)
noncomputable def E_impl_LessI : Ent Tryz.prog := .of2 Tb128 B128 (fun _ _ => true) F_impl_LessI fun a0 a1 _ => (r_impl_LessI a0 a1).trans (u_impl_LessI a0 a1)
noncomputable def B298 : Bod Tryz.prog := ⟨298, Tryz.f298, Tryz.f298.body.getD .skip, Tryz.func298, by kernel_rfl, by kernel_rfl, Loops.no _ _⟩
noncomputable def Tb298 : Tb Tryz.prog := { T := [Y2, Y27], mix := mix, Es := [E_spec_l04Make], Bs := [], d := 1 }
noncomputable def t_spec_l08At (a0 : I64) : Tr (Iv) :=
  .leaf (F_spec_l04Make a0 a0)
theorem r_spec_l08At (a0 : I64) : Tb298.run B298 [enc a0] (Iv) = (t_spec_l08At a0).opt := by kernel_rfl
noncomputable def F_spec_l08At : I64 → Iv := fun a0 => (t_spec_l08At a0).get
theorem u_spec_l08At (a0 : I64) : (t_spec_l08At a0).opt = some (F_spec_l08At a0) := Tr.tot_get (by kernel_rfl)
noncomputable def E_spec_l08At : Ent Tryz.prog := .of1 Tb298 B298 (fun _ => true) F_spec_l08At fun a0 _ => (r_spec_l08At a0).trans (u_spec_l08At a0)
noncomputable def B309 : Bod Tryz.prog := ⟨309, Tryz.f309, Tryz.f309.body.getD .skip, Tryz.func309, by kernel_rfl, by kernel_rfl, Loops.no _ _⟩
noncomputable def Tb309 : Tb Tryz.prog := { T := [Y2, Y27], mix := mix, Es := [E_spec_l08At], Bs := [], d := 1 }
noncomputable def t_spec_l08One : Tr (Iv) :=
  .leaf (F_spec_l08At ⟨4294967296, rfl⟩)
theorem r_spec_l08One : Tb309.run B309 [] (Iv) = (t_spec_l08One).opt := by kernel_rfl
noncomputable def F_spec_l08One : Iv := (t_spec_l08One).get
theorem u_spec_l08One : (t_spec_l08One).opt = some (F_spec_l08One) := Tr.tot_get (by kernel_rfl)
noncomputable def E_spec_l08One : Ent Tryz.prog := .of0 Tb309 B309 F_spec_l08One (r_spec_l08One.trans u_spec_l08One)
noncomputable def B310 : Bod Tryz.prog := ⟨310, Tryz.f310, Tryz.f310.body.getD .skip, Tryz.func310, by kernel_rfl, by kernel_rfl, Loops.no _ _⟩
noncomputable def Tb310 : Tb Tryz.prog := { T := [Y2, Y27], mix := mix, Es := [E_spec_l04Whole, E_spec_l04Ok, E_spec_l04Make], Bs := [], d := 1 }
noncomputable def t_spec_l08Widen (a0 : Iv) (a1 : I64) : Tr (Iv) :=
  .br (!(F_spec_l04Ok a0)) (.leaf F_spec_l04Whole) (.leaf (F_spec_l04Make (Rng.w .i64 (a0.lo.val - a1.val)) (Rng.w .i64 (a0.hi.val + a1.val))))
theorem r_spec_l08Widen (a0 : Iv) (a1 : I64) : Tb310.run B310 [enc a0, enc a1] (Iv) = (t_spec_l08Widen a0 a1).opt := by kernel_rfl
noncomputable def F_spec_l08Widen : Iv → I64 → Iv := fun a0 a1 => (t_spec_l08Widen a0 a1).get
theorem u_spec_l08Widen (a0 : Iv) (a1 : I64) : (t_spec_l08Widen a0 a1).opt = some (F_spec_l08Widen a0 a1) := Tr.tot_get (by kernel_rfl)
noncomputable def E_spec_l08Widen : Ent Tryz.prog := .of2 Tb310 B310 (fun _ _ => true) F_spec_l08Widen fun a0 a1 _ => (r_spec_l08Widen a0 a1).trans (u_spec_l08Widen a0 a1)
structure S_spec_LogAt_5 where
  x0 : I64
  x1 : I64
  x2 : I64
  x3 : I64
  x4 : I64
  x5 : I64
instance : Inhabited S_spec_LogAt_5 := ⟨⟨default, default, default, default, default, default⟩⟩
noncomputable def st_spec_LogAt_5 (x : S_spec_LogAt_5) : St := ⟨[(0, .i64 x.x0), (2, .ptr 0 0), (3, .i64 x.x1), (4, .ptr 1 0)], 79, ⟨[(0, [.i64 x.x2, .i64 x.x3]), (1, [.i64 x.x4, .i64 x.x5])], 2, 0⟩⟩
noncomputable def rd_spec_LogAt_5 : St → Option S_spec_LogAt_5 := fun s => match s with
  | ⟨[(0, .i64 x0), (2, .ptr 0 0), (3, .i64 x1), (4, .ptr 1 0)], 79, ⟨[(0, [.i64 x2, .i64 x3]), (1, [.i64 x4, .i64 x5])], 2, 0⟩⟩ => some ⟨x0, x1, x2, x3, x4, x5⟩
  | _ => none
noncomputable def b_spec_LogAt_5 (x : S_spec_LogAt_5) : Tr (Lp S_spec_LogAt_5) :=
  .br (decide (x.x4.val ≥ 6442450944)) (let c4 := (Rng.w .i64 (x.x1.val + 1)); .leaf (.again ⟨x.x0, c4, x.x2, x.x3, (Rng.w .i64 (x.x0.val.fdiv (2 ^ min ((Rng.w .u64 (c4.val)).val).toNat 64))), (Rng.w .i64 (0 - (Rng.w .i64 ((Rng.w .i64 (0 - x.x0.val)).val.fdiv (2 ^ min ((Rng.w .u64 (c4.val)).val).toNat 64))).val))⟩)) (.leaf (.out ⟨x.x0, x.x1, x.x2, x.x3, x.x4, x.x5⟩))
noncomputable def G_spec_LogAt_5 (x : S_spec_LogAt_5) : Bool := (Lf b_spec_LogAt_5 70 x).opt.isSome
noncomputable def L_spec_LogAt_5 (x : S_spec_LogAt_5) : S_spec_LogAt_5 := (Lf b_spec_LogAt_5 70 x).get
noncomputable def TbL_spec_LogAt_5 : Tb Tryz.prog := { T := [Y2, Y27, Y114], mix := mix, Es := [], Bs := [], d := 1 }
noncomputable def P_spec_LogAt_5 : LpF := loopF [0, 2, 3, 4] [0, 1] 2 rd_spec_LogAt_5 st_spec_LogAt_5 (.exit 0) G_spec_LogAt_5 L_spec_LogAt_5
theorem lok_spec_LogAt_5 : LoopOk Tryz.prog (loopAt (Tryz.f307.body.getD .skip) 0) P_spec_LogAt_5 := loopF_ok (t := TbL_spec_LogAt_5) (lt := fun _ => none) (body := b_spec_LogAt_5) (n := 70) (by intro h; cases h) (fun _ _ _ h => by cases h)
  (by intro s x h; unfold rd_spec_LogAt_5 at h; split at h <;> cases h; rfl) (fun x b cs h => lk_lt (l := (st_spec_LogAt_5 x).mm.blks) (by kernel_rfl) h) (by intro x; kernel_rfl) (fun x h => Tr.get_some h)
structure S_spec_LogAt_8 where
  x0 : I64
  x1 : I64
  x2 : I64
  x3 : I64
  x4 : I64
  x5 : I64
instance : Inhabited S_spec_LogAt_8 := ⟨⟨default, default, default, default, default, default⟩⟩
noncomputable def st_spec_LogAt_8 (x : S_spec_LogAt_8) : St := ⟨[(0, .i64 x.x0), (2, .ptr 0 0), (3, .i64 x.x1), (4, .ptr 1 0)], 79, ⟨[(0, [.i64 x.x2, .i64 x.x3]), (1, [.i64 x.x4, .i64 x.x5])], 2, 0⟩⟩
noncomputable def rd_spec_LogAt_8 : St → Option S_spec_LogAt_8 := fun s => match s with
  | ⟨[(0, .i64 x0), (2, .ptr 0 0), (3, .i64 x1), (4, .ptr 1 0)], 79, ⟨[(0, [.i64 x2, .i64 x3]), (1, [.i64 x4, .i64 x5])], 2, 0⟩⟩ => some ⟨x0, x1, x2, x3, x4, x5⟩
  | _ => none
noncomputable def b_spec_LogAt_8 (x : S_spec_LogAt_8) : Tr (Lp S_spec_LogAt_8) :=
  .br (decide (x.x4.val < 3221225472)) (let c11 := (Rng.w .i64 (x.x1.val - 1)); .leaf (.again ⟨x.x0, c11, x.x2, x.x3, (Rng.w .i64 (x.x0.val * (2 ^ min ((Rng.w .u64 ((Rng.w .i64 (0 - c11.val)).val)).val).toNat 64))), (Rng.w .i64 (x.x0.val * (2 ^ min ((Rng.w .u64 ((Rng.w .i64 (0 - c11.val)).val)).val).toNat 64)))⟩)) (.leaf (.out ⟨x.x0, x.x1, x.x2, x.x3, x.x4, x.x5⟩))
noncomputable def G_spec_LogAt_8 (x : S_spec_LogAt_8) : Bool := (Lf b_spec_LogAt_8 70 x).opt.isSome
noncomputable def L_spec_LogAt_8 (x : S_spec_LogAt_8) : S_spec_LogAt_8 := (Lf b_spec_LogAt_8 70 x).get
noncomputable def TbL_spec_LogAt_8 : Tb Tryz.prog := { T := [Y2, Y27, Y114], mix := mix, Es := [], Bs := [], d := 1 }
noncomputable def P_spec_LogAt_8 : LpF := loopF [0, 2, 3, 4] [0, 1] 2 rd_spec_LogAt_8 st_spec_LogAt_8 (.exit 2) G_spec_LogAt_8 L_spec_LogAt_8
theorem lok_spec_LogAt_8 : LoopOk Tryz.prog (loopAt (Tryz.f307.body.getD .skip) 1) P_spec_LogAt_8 := loopF_ok (t := TbL_spec_LogAt_8) (lt := fun _ => none) (body := b_spec_LogAt_8) (n := 70) (by intro h; cases h) (fun _ _ _ h => by cases h)
  (by intro s x h; unfold rd_spec_LogAt_8 at h; split at h <;> cases h; rfl) (fun x b cs h => lk_lt (l := (st_spec_LogAt_8 x).mm.blks) (by kernel_rfl) h) (by intro x; kernel_rfl) (fun x h => Tr.get_some h)
noncomputable def B307 : Bod Tryz.prog := ⟨307, Tryz.f307, Tryz.f307.body.getD .skip, Tryz.func307, by kernel_rfl, by kernel_rfl, ⟨ltOf [(5, P_spec_LogAt_5), (8, P_spec_LogAt_8)], Loops.of (ks := [5, 8, 15]) (by kernel_rfl) (by
  intro i k h f hf
  match i, h with
  | 0, h => cases h; obtain rfl : P_spec_LogAt_5 = f := Option.some.inj hf; exact lok_spec_LogAt_5
  | 1, h => cases h; obtain rfl : P_spec_LogAt_8 = f := Option.some.inj hf; exact lok_spec_LogAt_8
  | 2, h => cases h; cases (show none = some f from hf)
  | n + 3, h => simp at h)⟩⟩
noncomputable def Tb307 : Tb Tryz.prog := { T := [Y2, Y27, Y114], mix := mix, Es := [E_spec_MulI, E_spec_Integer, E_spec_DivI, ET_spec_Quotient, E_spec_AddI, E_spec_SubI, E_spec_SqrI, E_spec_l04Whole, E_spec_l00In, E_spec_l08One, E_spec_l08Widen, ET_spec_LogTwoI], Bs := [], d := 1 }
noncomputable def t_spec_LogAt (a0 : I64) : Tr (Iv) :=
  .br (!(F_spec_l00In a0 ⟨1, rfl⟩ ⟨1152921504606846976, rfl⟩)) (.leaf F_spec_l04Whole) (.br (G_spec_LogAt_5 ⟨a0, ⟨0, rfl⟩, ⟨0, rfl⟩, ⟨0, rfl⟩, a0, a0⟩) (let c9 := L_spec_LogAt_5 ⟨a0, ⟨0, rfl⟩, ⟨0, rfl⟩, ⟨0, rfl⟩, a0, a0⟩; .br (G_spec_LogAt_8 ⟨c9.x0, c9.x1, c9.x2, c9.x3, c9.x4, c9.x5⟩) (let c16 := L_spec_LogAt_8 ⟨c9.x0, c9.x1, c9.x2, c9.x3, c9.x4, c9.x5⟩; let c21 := F_spec_DivI (F_spec_SubI ⟨c16.x4, c16.x5⟩ F_spec_l08One) (F_spec_AddI ⟨c16.x4, c16.x5⟩ F_spec_l08One); let c22 := F_spec_SqrI c21; .leaf (F_spec_AddI (F_spec_LogTwoI c16.x1) (F_spec_l08Widen (F_spec_MulI (F_spec_MulI (F_spec_Integer ⟨2, rfl⟩) c21) (F_spec_AddI (F_spec_Quotient ⟨1, rfl⟩ ⟨1, rfl⟩) (F_spec_MulI c22 (F_spec_AddI (F_spec_Quotient ⟨1, rfl⟩ ⟨3, rfl⟩) (F_spec_MulI c22 (F_spec_AddI (F_spec_Quotient ⟨1, rfl⟩ ⟨5, rfl⟩) (F_spec_MulI c22 (F_spec_AddI (F_spec_Quotient ⟨1, rfl⟩ ⟨7, rfl⟩) (F_spec_MulI c22 (F_spec_AddI (F_spec_Quotient ⟨1, rfl⟩ ⟨9, rfl⟩) (F_spec_MulI c22 (F_spec_Quotient ⟨1, rfl⟩ ⟨11, rfl⟩)))))))))))) ⟨1, rfl⟩))) (.bad)) (.bad))
theorem r_spec_LogAt (a0 : I64) : Tb307.run B307 [enc a0] (Iv) = (t_spec_LogAt a0).opt := by kernel_rfl
noncomputable def F_spec_LogAt : I64 → Iv := fun a0 => (t_spec_LogAt a0).get
noncomputable def G_spec_LogAt : I64 → Bool := fun a0 => (t_spec_LogAt a0).opt.isSome
noncomputable def E_spec_LogAt : Ent Tryz.prog := .of1 Tb307 B307 G_spec_LogAt F_spec_LogAt fun a0 h => (r_spec_LogAt a0).trans (Tr.get_some h)
structure S_impl_twosOf_2 where
  x0 : I64
  x1 : I64
instance : Inhabited S_impl_twosOf_2 := ⟨⟨default, default⟩⟩
noncomputable def st_impl_twosOf_2 (x : S_impl_twosOf_2) : St := ⟨[(0, .i64 x.x0), (3, .i64 x.x1)], 22, ⟨[], 0, 0⟩⟩
noncomputable def rd_impl_twosOf_2 : St → Option S_impl_twosOf_2 := fun s => match s with
  | ⟨[(0, .i64 x0), (3, .i64 x1)], 22, ⟨[], 0, 0⟩⟩ => some ⟨x0, x1⟩
  | _ => none
noncomputable def b_impl_twosOf_2 (x : S_impl_twosOf_2) : Tr (Lp S_impl_twosOf_2) :=
  .br (decide (x.x1.val < 0)) (.bad) (.br (decide ((Rng.w .i64 (x.x0.val.fdiv (2 ^ min (x.x1.val).toNat 64))).val ≥ 6442450944)) (.leaf (.again ⟨x.x0, (Rng.w .i64 (x.x1.val + 1))⟩)) (.leaf (.out ⟨x.x0, x.x1⟩)))
noncomputable def G_impl_twosOf_2 (x : S_impl_twosOf_2) : Bool := (Lf b_impl_twosOf_2 70 x).opt.isSome
noncomputable def L_impl_twosOf_2 (x : S_impl_twosOf_2) : S_impl_twosOf_2 := (Lf b_impl_twosOf_2 70 x).get
noncomputable def TbL_impl_twosOf_2 : Tb Tryz.prog := { T := [], mix := mix, Es := [], Bs := [], d := 1 }
noncomputable def P_impl_twosOf_2 : LpF := loopF [0, 3] [] 0 rd_impl_twosOf_2 st_impl_twosOf_2 (.exit 0) G_impl_twosOf_2 L_impl_twosOf_2
theorem lok_impl_twosOf_2 : LoopOk Tryz.prog (loopAt (Tryz.f299.body.getD .skip) 0) P_impl_twosOf_2 := loopF_ok (t := TbL_impl_twosOf_2) (lt := fun _ => none) (body := b_impl_twosOf_2) (n := 70) (by intro h; cases h) (fun _ _ _ h => by cases h)
  (by intro s x h; unfold rd_impl_twosOf_2 at h; split at h <;> cases h; rfl) (fun x b cs h => lk_lt (l := (st_impl_twosOf_2 x).mm.blks) (by kernel_rfl) h) (by intro x; kernel_rfl) (fun x h => Tr.get_some h)
structure S_impl_twosOf_4 where
  x0 : I64
  x1 : I64
instance : Inhabited S_impl_twosOf_4 := ⟨⟨default, default⟩⟩
noncomputable def st_impl_twosOf_4 (x : S_impl_twosOf_4) : St := ⟨[(0, .i64 x.x0), (3, .i64 x.x1)], 22, ⟨[], 0, 0⟩⟩
noncomputable def rd_impl_twosOf_4 : St → Option S_impl_twosOf_4 := fun s => match s with
  | ⟨[(0, .i64 x0), (3, .i64 x1)], 22, ⟨[], 0, 0⟩⟩ => some ⟨x0, x1⟩
  | _ => none
noncomputable def b_impl_twosOf_4 (x : S_impl_twosOf_4) : Tr (Lp S_impl_twosOf_4) :=
  .br (decide (x.x1.val ≤ 0)) (let c5 := (Rng.w .i64 (0 - x.x1.val)); .br (decide (c5.val < 0)) (.bad) (.br (decide ((Rng.w .i64 (x.x0.val * (2 ^ min (c5.val).toNat 64))).val < 3221225472)) (.leaf (.again ⟨x.x0, (Rng.w .i64 (x.x1.val - 1))⟩)) (.leaf (.out ⟨x.x0, x.x1⟩)))) (.leaf (.out ⟨x.x0, x.x1⟩))
noncomputable def G_impl_twosOf_4 (x : S_impl_twosOf_4) : Bool := (Lf b_impl_twosOf_4 70 x).opt.isSome
noncomputable def L_impl_twosOf_4 (x : S_impl_twosOf_4) : S_impl_twosOf_4 := (Lf b_impl_twosOf_4 70 x).get
noncomputable def TbL_impl_twosOf_4 : Tb Tryz.prog := { T := [], mix := mix, Es := [], Bs := [], d := 1 }
noncomputable def P_impl_twosOf_4 : LpF := loopF [0, 3] [] 0 rd_impl_twosOf_4 st_impl_twosOf_4 (.exit 2) G_impl_twosOf_4 L_impl_twosOf_4
theorem lok_impl_twosOf_4 : LoopOk Tryz.prog (loopAt (Tryz.f299.body.getD .skip) 1) P_impl_twosOf_4 := loopF_ok (t := TbL_impl_twosOf_4) (lt := fun _ => none) (body := b_impl_twosOf_4) (n := 70) (by intro h; cases h) (fun _ _ _ h => by cases h)
  (by intro s x h; unfold rd_impl_twosOf_4 at h; split at h <;> cases h; rfl) (fun x b cs h => lk_lt (l := (st_impl_twosOf_4 x).mm.blks) (by kernel_rfl) h) (by intro x; kernel_rfl) (fun x h => Tr.get_some h)
noncomputable def B299 : Bod Tryz.prog := ⟨299, Tryz.f299, Tryz.f299.body.getD .skip, Tryz.func299, by kernel_rfl, by kernel_rfl, ⟨ltOf [(2, P_impl_twosOf_2), (4, P_impl_twosOf_4)], Loops.of (ks := [2, 4]) (by kernel_rfl) (by
  intro i k h f hf
  match i, h with
  | 0, h => cases h; obtain rfl : P_impl_twosOf_2 = f := Option.some.inj hf; exact lok_impl_twosOf_2
  | 1, h => cases h; obtain rfl : P_impl_twosOf_4 = f := Option.some.inj hf; exact lok_impl_twosOf_4
  | n + 2, h => simp at h)⟩⟩
noncomputable def Tb299 : Tb Tryz.prog := { T := [], mix := mix, Es := [], Bs := [], d := 1 }
noncomputable def t_impl_twosOf (a0 : I64) : Tr (I64) :=
  .br (G_impl_twosOf_2 ⟨a0, ⟨0, rfl⟩⟩) (let c4 := L_impl_twosOf_2 ⟨a0, ⟨0, rfl⟩⟩; .br (G_impl_twosOf_4 ⟨c4.x0, c4.x1⟩) (.leaf (L_impl_twosOf_4 ⟨c4.x0, c4.x1⟩).x1) (.bad)) (.bad)
theorem r_impl_twosOf (a0 : I64) : Tb299.run B299 [enc a0] (I64) = (t_impl_twosOf a0).opt := by kernel_rfl
noncomputable def F_impl_twosOf : I64 → I64 := fun a0 => (t_impl_twosOf a0).get
noncomputable def G_impl_twosOf : I64 → Bool := fun a0 => (t_impl_twosOf a0).opt.isSome
noncomputable def E_impl_twosOf : Ent Tryz.prog := .of1 Tb299 B299 G_impl_twosOf F_impl_twosOf fun a0 h => (r_impl_twosOf a0).trans (Tr.get_some h)
noncomputable def B301 : Bod Tryz.prog := ⟨301, Tryz.f301, Tryz.f301.body.getD .skip, Tryz.func301, by kernel_rfl, by kernel_rfl, Loops.no _ _⟩
noncomputable def Tb301 : Tb Tryz.prog := { T := [Y2, Y27], mix := mix, Es := [E_impl_bounded, E_impl_ValidInterval], Bs := [], d := 1 }
noncomputable def t_impl_widened (a0 : Iv) (a1 : I64) : Tr (Iv) :=
  .leaf (F_impl_bounded (Rng.w .i64 (a0.lo.val - a1.val)) (Rng.w .i64 (a0.hi.val + a1.val)) (F_impl_ValidInterval a0))
theorem r_impl_widened (a0 : Iv) (a1 : I64) : Tb301.run B301 [enc a0, enc a1] (Iv) = (t_impl_widened a0 a1).opt := by kernel_rfl
noncomputable def F_impl_widened : Iv → I64 → Iv := fun a0 a1 => (t_impl_widened a0 a1).get
theorem u_impl_widened (a0 : Iv) (a1 : I64) : (t_impl_widened a0 a1).opt = some (F_impl_widened a0 a1) := Tr.tot_get (by kernel_rfl)
noncomputable def E_impl_widened : Ent Tryz.prog := .of2 Tb301 B301 (fun _ _ => true) F_impl_widened fun a0 a1 _ => (r_impl_widened a0 a1).trans (u_impl_widened a0 a1)
noncomputable def B272 : Bod Tryz.prog := ⟨272, Tryz.f272, Tryz.f272.body.getD .skip, Tryz.func272, by kernel_rfl, by kernel_rfl, Loops.no _ _⟩
noncomputable def Tb272 : Tb Tryz.prog := { T := [Y2, Y27], mix := mix, Es := [E_impl_Whole, E_impl_DivI, E_impl_Integer, ET_impl_MulI, ET_impl_Quotient, E_impl_at, E_impl_SubI, E_impl_AddI, ET_impl_SqrI, E_impl_ValidFix, E_impl_twosOf, ET_impl_LogTwoI, E_impl_widened], Bs := [], d := 1 }
noncomputable def t_impl_LogAt (a0 : I64) : Tr (Iv) :=
  .br (!(F_impl_ValidFix a0)) (.leaf F_impl_Whole) (.br (decide (a0.val ≤ 0)) (.leaf F_impl_Whole) (.br (G_impl_twosOf a0) (let c4 := F_impl_twosOf a0; .br (decide (c4.val > 0)) (.br (decide (c4.val < 0)) (.bad) (let c6 := (Rng.w .i64 (a0.val.fdiv (2 ^ min (c4.val).toNat 64))); .br (decide (c4.val < 0)) (.bad) (let c9 := (Rng.w .i64 (0 - (Rng.w .i64 ((Rng.w .i64 (0 - a0.val)).val.fdiv (2 ^ min (c4.val).toNat 64))).val)); let c14 := F_impl_DivI (F_impl_SubI ⟨c6, c9⟩ (F_impl_Integer ⟨1, rfl⟩)) (F_impl_AddI ⟨c6, c9⟩ (F_impl_Integer ⟨1, rfl⟩)); let c15 := F_impl_SqrI c14; .leaf (F_impl_AddI (F_impl_LogTwoI c4) (F_impl_widened (F_impl_MulI (F_impl_MulI (F_impl_Integer ⟨2, rfl⟩) c14) (F_impl_AddI (F_impl_Quotient ⟨1, rfl⟩ ⟨1, rfl⟩) (F_impl_MulI c15 (F_impl_AddI (F_impl_Quotient ⟨1, rfl⟩ ⟨3, rfl⟩) (F_impl_MulI c15 (F_impl_AddI (F_impl_Quotient ⟨1, rfl⟩ ⟨5, rfl⟩) (F_impl_MulI c15 (F_impl_AddI (F_impl_Quotient ⟨1, rfl⟩ ⟨7, rfl⟩) (F_impl_MulI c15 (F_impl_AddI (F_impl_Quotient ⟨1, rfl⟩ ⟨9, rfl⟩) (F_impl_MulI c15 (F_impl_Quotient ⟨1, rfl⟩ ⟨11, rfl⟩)))))))))))) ⟨1, rfl⟩))))) (let c38 := (Rng.w .i64 (0 - c4.val)); .br (decide (c38.val < 0)) (.bad) (let c40 := F_impl_at (Rng.w .i64 (a0.val * (2 ^ min (c38.val).toNat 64))); let c45 := F_impl_DivI (F_impl_SubI c40 (F_impl_Integer ⟨1, rfl⟩)) (F_impl_AddI c40 (F_impl_Integer ⟨1, rfl⟩)); let c46 := F_impl_SqrI c45; .leaf (F_impl_AddI (F_impl_LogTwoI c4) (F_impl_widened (F_impl_MulI (F_impl_MulI (F_impl_Integer ⟨2, rfl⟩) c45) (F_impl_AddI (F_impl_Quotient ⟨1, rfl⟩ ⟨1, rfl⟩) (F_impl_MulI c46 (F_impl_AddI (F_impl_Quotient ⟨1, rfl⟩ ⟨3, rfl⟩) (F_impl_MulI c46 (F_impl_AddI (F_impl_Quotient ⟨1, rfl⟩ ⟨5, rfl⟩) (F_impl_MulI c46 (F_impl_AddI (F_impl_Quotient ⟨1, rfl⟩ ⟨7, rfl⟩) (F_impl_MulI c46 (F_impl_AddI (F_impl_Quotient ⟨1, rfl⟩ ⟨9, rfl⟩) (F_impl_MulI c46 (F_impl_Quotient ⟨1, rfl⟩ ⟨11, rfl⟩)))))))))))) ⟨1, rfl⟩))))) (.bad)))
theorem r_impl_LogAt (a0 : I64) : Tb272.run B272 [enc a0] (Iv) = (t_impl_LogAt a0).opt := by kernel_rfl
noncomputable def F_impl_LogAt : I64 → Iv := fun a0 => (t_impl_LogAt a0).get
noncomputable def G_impl_LogAt : I64 → Bool := fun a0 => (t_impl_LogAt a0).opt.isSome
noncomputable def E_impl_LogAt : Ent Tryz.prog := .of1 Tb272 B272 G_impl_LogAt F_impl_LogAt fun a0 h => (r_impl_LogAt a0).trans (Tr.get_some h)
end
end Go.Proofs.YtcfflflcbacapaaGreat.Ev
