import Derived.Test.YtecfhpgpojgjkaaGreatW8
import Derived.Test.YtecfhpgpojgjkaaGreatP17
import Derived.Test.YtecfhpgpojgjkaaGreatP22
import Derived.Test.YtecfhpgpojgjkaaGreatP23
namespace Go.Proofs.YtecfhpgpojgjkaaGreat.Ev
open Go Go.RowKit
set_option maxRecDepth 100000
set_option linter.unusedVariables false
section
noncomputable def ET_spec_AtanhI : Ent Tryz.prog := .of1 Tb302 B302 (fun _ => true) F_spec_AtanhI fun a0 _ => (r_spec_AtanhI a0).trans (tt_atanh_spec a0)
noncomputable def ET_impl_AtanhI : Ent Tryz.prog := .two1 Tb238 B238 (fun _ => true) F_impl_AtanhI 0 [1, 2, 3] 1 [0, 2, 3] (by unfold twoShape; kernel_rfl) (by kernel_rfl) (by kernel_rfl) (by kernel_rfl) (fun a0 => by kernel_rfl) (fun a0 _ => (r0_impl_AtanhI a0).trans (tt_atanh_impl a0)) (fun a0 _ => (r1_impl_AtanhI a0).trans (tt_atanh_impl a0))
noncomputable def ET_impl_ExpAt : Ent Tryz.prog := .of1 Tb223 B223 (fun _ => true) F_impl_ExpAt fun a0 _ => (r_impl_ExpAt a0).trans (tt_exp_impl a0)
noncomputable def ET_spec_TanI : Ent Tryz.prog := .of1 Tb68 B68 (fun _ => true) F_spec_TanI fun a0 _ => (r_spec_TanI a0).trans (tt_tan_spec a0)
noncomputable def B204 : Bod Tryz.prog := ⟨204, Tryz.f204, Tryz.f204.body.getD .skip, Tryz.func204, by kernel_rfl, by kernel_rfl, Loops.no _ _⟩
noncomputable def Tb204 : Tb Tryz.prog := { T := [Y2, Y27], mix := mix, Es := [E_impl_Integer, E_impl_at, E_impl_AddI, E_impl_LogI, ET_impl_SqrtI, ET_impl_SqrI, ET_impl_LogTwoI, ET_impl_LogAt], Bs := [], d := 1 }
noncomputable def t_impl_AsinhI_1 (a0 : I64) : Tr (Iv) :=
  .br (decide (a0.val ≤ 35184372088832)) (.leaf (F_impl_LogI (F_impl_AddI (F_impl_at a0) (F_impl_SqrtI (F_impl_AddI (F_impl_SqrI (F_impl_at a0)) (F_impl_Integer ⟨1, rfl⟩)))))) (.leaf (F_impl_AddI (F_impl_AddI (F_impl_LogTwoI ⟨1, rfl⟩) (F_impl_LogAt a0)) ⟨⟨0, rfl⟩, ⟨16, rfl⟩⟩))
theorem r_impl_AsinhI_1 (a0 : I64) : Tb204.run B204 [enc a0] (Iv) = (t_impl_AsinhI_1 a0).opt := by kernel_rfl
noncomputable def F_impl_AsinhI_1 : I64 → Iv := fun a0 => (t_impl_AsinhI_1 a0).get
theorem u_impl_AsinhI_1 (a0 : I64) : (t_impl_AsinhI_1 a0).opt = some (F_impl_AsinhI_1 a0) := Tr.tot_get (by kernel_rfl)
noncomputable def E_impl_AsinhI_1 : Ent Tryz.prog := .of1 Tb204 B204 (fun _ => true) F_impl_AsinhI_1 fun a0 _ => (r_impl_AsinhI_1 a0).trans (u_impl_AsinhI_1 a0)
noncomputable def Tb284_AsinhI : Tb Tryz.prog := { T := [Y2, Y27, Y81], mix := mix, Es := [E_impl_NegI, E_impl_AsinhI_1], Bs := [], d := 1 }
noncomputable def t_impl_odd_1_AsinhI (a0 : I64) (d0 : FnTag 204) : Tr (Iv) :=
  .br (decide (a0.val < 0)) (.leaf (F_impl_NegI (F_impl_AsinhI_1 (Rng.w .i64 (0 - a0.val))))) (.leaf (F_impl_AsinhI_1 a0))
theorem r_impl_odd_1_AsinhI (a0 : I64) (d0 : FnTag 204) : capRun Tb284_AsinhI B284 [enc a0, .ptr 0 0] [(0, Cap.ec d0)] 1 (Iv) = (t_impl_odd_1_AsinhI a0 d0).opt := by kernel_rfl
noncomputable def F_impl_odd_1_AsinhI : I64 → FnTag 204 → Iv := fun a0 d0 => (t_impl_odd_1_AsinhI a0 d0).get
noncomputable def G_impl_odd_1_AsinhI : I64 → FnTag 204 → Bool := fun a0 d0 => (t_impl_odd_1_AsinhI a0 d0).opt.isSome
theorem u_impl_odd_1_AsinhI (a0 : I64) (d0 : FnTag 204) : (t_impl_odd_1_AsinhI a0 d0).opt = some (F_impl_odd_1_AsinhI a0 d0) := Tr.tot_get (by kernel_rfl)
noncomputable def E_impl_odd_1_AsinhI : Ent Tryz.prog := .cap1 Tb284_AsinhI B284 (fun _ _ => true) F_impl_odd_1_AsinhI fun a0 d0 _ => (r_impl_odd_1_AsinhI a0 d0).trans (u_impl_odd_1_AsinhI a0 d0)
noncomputable def B84 : Bod Tryz.prog := ⟨84, Tryz.f84, Tryz.f84.body.getD .skip, Tryz.func84, by kernel_rfl, by kernel_rfl, Loops.no _ _⟩
noncomputable def Tb84 : Tb Tryz.prog := { T := [Y2, Y27], mix := mix, Es := [E_impl_Whole, E_impl_IsWhole, E_impl_areBounded, E_impl_bounded, E_impl_odd_1_AsinhI], Bs := [B124, B203], d := 8 }
noncomputable def t_impl_AsinhI (a0 : Iv) : Tr (Iv) :=
  .br (F_impl_IsWhole a0) (.leaf F_impl_Whole) (let c3 := F_impl_odd_1_AsinhI a0.lo ⟨⟩; let c4 := F_impl_odd_1_AsinhI a0.hi ⟨⟩; .br (!(F_impl_areBounded c3 c4)) (.leaf F_impl_Whole) (.leaf (F_impl_bounded c3.lo c4.hi true)))
theorem r0_impl_AsinhI (a0 : Iv) : twoRun Tb84 B84 [enc a0] [0, 1, 2, 3] (Iv) = (t_impl_AsinhI a0).opt := by kernel_rfl
theorem r1_impl_AsinhI (a0 : Iv) : twoRun Tb84 B84 [enc a0] [1, 0, 2, 3] (Iv) = (t_impl_AsinhI a0).opt := by kernel_rfl
noncomputable def F_impl_AsinhI : Iv → Iv := fun a0 => (t_impl_AsinhI a0).get
noncomputable def G_impl_AsinhI : Iv → Bool := fun a0 => (t_impl_AsinhI a0).opt.isSome
noncomputable def E_impl_AsinhI : Ent Tryz.prog := .two1 Tb84 B84 G_impl_AsinhI F_impl_AsinhI 0 [1, 2, 3] 1 [0, 2, 3] (by unfold twoShape; kernel_rfl) (by kernel_rfl) (by kernel_rfl) (by kernel_rfl) (fun a0 => by kernel_rfl) (fun a0 h => (r0_impl_AsinhI a0).trans (Tr.get_some h)) (fun a0 h => (r1_impl_AsinhI a0).trans (Tr.get_some h))
noncomputable def B174 : Bod Tryz.prog := ⟨174, Tryz.f174, Tryz.f174.body.getD .skip, Tryz.func174, by kernel_rfl, by kernel_rfl, Loops.no _ _⟩
noncomputable def Tb174_p : Tb Tryz.prog := { T := [Y2, Y27], mix := mix, Es := [E_spec_AddI, E_spec_l08At, E_spec_SqrI, ET_spec_SqrtI, E_spec_LogI, E_spec_l08One, ET_spec_LogTwoI, ET_spec_LogAt], Bs := [], d := 1 }
noncomputable def t_spec_l08Asinh_p (a0 : I64) : Tr (Iv) :=
  .br (decide (a0.val < 0)) (.bad) (.br (decide (a0.val ≤ 35184372088832)) (.leaf (F_spec_LogI (F_spec_AddI (F_spec_l08At a0) (F_spec_SqrtI (F_spec_AddI (F_spec_SqrI (F_spec_l08At a0)) F_spec_l08One))))) (.leaf (F_spec_AddI (F_spec_AddI (F_spec_LogTwoI ⟨1, rfl⟩) (F_spec_LogAt a0)) ⟨⟨0, rfl⟩, ⟨16, rfl⟩⟩)))
theorem r_spec_l08Asinh_p (a0 : I64) : Tb174_p.run B174 [enc a0] (Iv) = (t_spec_l08Asinh_p a0).opt := by kernel_rfl
noncomputable def F_spec_l08Asinh_p : I64 → Iv := fun a0 => (t_spec_l08Asinh_p a0).get
noncomputable def G_spec_l08Asinh_p : I64 → Bool := fun a0 => (t_spec_l08Asinh_p a0).opt.isSome
noncomputable def E_spec_l08Asinh_p : Ent Tryz.prog := .of1 Tb174_p B174 G_spec_l08Asinh_p F_spec_l08Asinh_p fun a0 h => (r_spec_l08Asinh_p a0).trans (Tr.get_some h)
noncomputable def Tb174 : Tb Tryz.prog := { T := [Y2, Y27], mix := mix, Es := [E_spec_NegI, E_spec_AddI, E_spec_l08Asinh_p, E_spec_l08At, E_spec_SqrI, ET_spec_SqrtI, E_spec_LogI, E_spec_l08One, ET_spec_LogTwoI, ET_spec_LogAt], Bs := [], d := 1 }
noncomputable def t_spec_l08Asinh (a0 : I64) : Tr (Iv) :=
  .br (decide (a0.val < 0)) (let c1 := (Rng.w .i64 (0 - a0.val)); .br (G_spec_l08Asinh_p c1) (.leaf (F_spec_NegI (F_spec_l08Asinh_p c1))) (.bad)) (.br (decide (a0.val ≤ 35184372088832)) (.leaf (F_spec_LogI (F_spec_AddI (F_spec_l08At a0) (F_spec_SqrtI (F_spec_AddI (F_spec_SqrI (F_spec_l08At a0)) F_spec_l08One))))) (.leaf (F_spec_AddI (F_spec_AddI (F_spec_LogTwoI ⟨1, rfl⟩) (F_spec_LogAt a0)) ⟨⟨0, rfl⟩, ⟨16, rfl⟩⟩)))
theorem r_spec_l08Asinh (a0 : I64) : Tb174.run B174 [enc a0] (Iv) = (t_spec_l08Asinh a0).opt := by kernel_rfl
noncomputable def F_spec_l08Asinh : I64 → Iv := fun a0 => (t_spec_l08Asinh a0).get
noncomputable def G_spec_l08Asinh : I64 → Bool := fun a0 => (t_spec_l08Asinh a0).opt.isSome
noncomputable def E_spec_l08Asinh : Ent Tryz.prog := .of1 Tb174 B174 G_spec_l08Asinh F_spec_l08Asinh fun a0 h => (r_spec_l08Asinh a0).trans (Tr.get_some h)
noncomputable def B67 : Bod Tryz.prog := ⟨67, Tryz.f67, Tryz.f67.body.getD .skip, Tryz.func67, by kernel_rfl, by kernel_rfl, Loops.no _ _⟩
noncomputable def Tb67 : Tb Tryz.prog := { T := [Y2, Y27], mix := mix, Es := [E_spec_l04Ok, E_spec_l04Whole, E_spec_l08Ends, E_spec_l08Asinh], Bs := [], d := 1 }
noncomputable def t_spec_AsinhI (a0 : Iv) : Tr (Iv) :=
  .br (!(F_spec_l04Ok a0)) (.leaf F_spec_l04Whole) (.br (G_spec_l08Asinh a0.lo) (.br (G_spec_l08Asinh a0.hi) (.leaf (F_spec_l08Ends (F_spec_l08Asinh a0.lo) (F_spec_l08Asinh a0.hi))) (.bad)) (.bad))
theorem r_spec_AsinhI (a0 : Iv) : Tb67.run B67 [enc a0] (Iv) = (t_spec_AsinhI a0).opt := by kernel_rfl
noncomputable def F_spec_AsinhI : Iv → Iv := fun a0 => (t_spec_AsinhI a0).get
noncomputable def G_spec_AsinhI : Iv → Bool := fun a0 => (t_spec_AsinhI a0).opt.isSome
noncomputable def E_spec_AsinhI : Ent Tryz.prog := .of1 Tb67 B67 G_spec_AsinhI F_spec_AsinhI fun a0 h => (r_spec_AsinhI a0).trans (Tr.get_some h)
noncomputable def B217 : Bod Tryz.prog := ⟨217, Tryz.f217, Tryz.f217.body.getD .skip, Tryz.func217, by kernel_rfl, by kernel_rfl, Loops.no _ _⟩
noncomputable def Tb217 : Tb Tryz.prog := { T := [Y2, Y27], mix := mix, Es := [E_spec_HalfI, E_spec_SubI, E_spec_ExpAt], Bs := [], d := 1 }
noncomputable def t_spec_l08Sinh (a0 : I64) : Tr (Iv) :=
  .leaf (F_spec_HalfI (F_spec_SubI (F_spec_ExpAt a0) (F_spec_ExpAt (Rng.w .i64 (0 - a0.val)))))
theorem r_spec_l08Sinh (a0 : I64) : Tb217.run B217 [enc a0] (Iv) = (t_spec_l08Sinh a0).opt := by kernel_rfl
noncomputable def F_spec_l08Sinh : I64 → Iv := fun a0 => (t_spec_l08Sinh a0).get
theorem u_spec_l08Sinh (a0 : I64) : (t_spec_l08Sinh a0).opt = some (F_spec_l08Sinh a0) := Tr.tot_get (by kernel_rfl)
noncomputable def E_spec_l08Sinh : Ent Tryz.prog := .of1 Tb217 B217 (fun _ => true) F_spec_l08Sinh fun a0 _ => (r_spec_l08Sinh a0).trans (u_spec_l08Sinh a0)
noncomputable def B89 : Bod Tryz.prog := ⟨89, Tryz.f89, Tryz.f89.body.getD .skip, Tryz.func89, by kernel_rfl, by kernel_rfl, Loops.no _ _⟩
noncomputable def Tb89 : Tb Tryz.prog := { T := [Y2, Y27], mix := mix, Es := [E_spec_l04Ok, E_spec_l04Whole, E_spec_l08Ends, E_spec_l08Sinh], Bs := [], d := 1 }
noncomputable def t_spec_SinhI (a0 : Iv) : Tr (Iv) :=
  .br (!(F_spec_l04Ok a0)) (.leaf F_spec_l04Whole) (.leaf (F_spec_l08Ends (F_spec_l08Sinh a0.lo) (F_spec_l08Sinh a0.hi)))
theorem r_spec_SinhI (a0 : Iv) : Tb89.run B89 [enc a0] (Iv) = (t_spec_SinhI a0).opt := by kernel_rfl
noncomputable def F_spec_SinhI : Iv → Iv := fun a0 => (t_spec_SinhI a0).get
theorem u_spec_SinhI (a0 : Iv) : (t_spec_SinhI a0).opt = some (F_spec_SinhI a0) := Tr.tot_get (by kernel_rfl)
noncomputable def E_spec_SinhI : Ent Tryz.prog := .of1 Tb89 B89 (fun _ => true) F_spec_SinhI fun a0 _ => (r_spec_SinhI a0).trans (u_spec_SinhI a0)
noncomputable def B222 : Bod Tryz.prog := ⟨222, Tryz.f222, Tryz.f222.body.getD .skip, Tryz.func222, by kernel_rfl, by kernel_rfl, Loops.no _ _⟩
noncomputable def Tb222 : Tb Tryz.prog := { T := [Y2, Y27], mix := mix, Es := [E_impl_HalfI, E_impl_SubI, ET_impl_ExpAt], Bs := [], d := 1 }
noncomputable def t_impl_SinhI_1 (a0 : I64) : Tr (Iv) :=
  .leaf (F_impl_HalfI (F_impl_SubI (F_impl_ExpAt a0) (F_impl_ExpAt (Rng.w .i64 (0 - a0.val)))))
theorem r_impl_SinhI_1 (a0 : I64) : Tb222.run B222 [enc a0] (Iv) = (t_impl_SinhI_1 a0).opt := by kernel_rfl
noncomputable def F_impl_SinhI_1 : I64 → Iv := fun a0 => (t_impl_SinhI_1 a0).get
theorem u_impl_SinhI_1 (a0 : I64) : (t_impl_SinhI_1 a0).opt = some (F_impl_SinhI_1 a0) := Tr.tot_get (by kernel_rfl)
noncomputable def E_impl_SinhI_1 : Ent Tryz.prog := .of1 Tb222 B222 (fun _ => true) F_impl_SinhI_1 fun a0 _ => (r_impl_SinhI_1 a0).trans (u_impl_SinhI_1 a0)
noncomputable def B95 : Bod Tryz.prog := ⟨95, Tryz.f95, Tryz.f95.body.getD .skip, Tryz.func95, by kernel_rfl, by kernel_rfl, Loops.no _ _⟩
noncomputable def Tb95 : Tb Tryz.prog := { T := [Y2, Y27], mix := mix, Es := [E_impl_Whole, E_impl_IsWhole, E_impl_areBounded, E_impl_bounded, E_impl_SinhI_1], Bs := [B124], d := 8 }
noncomputable def t_impl_SinhI (a0 : Iv) : Tr (Iv) :=
  .br (F_impl_IsWhole a0) (.leaf F_impl_Whole) (let c3 := F_impl_SinhI_1 a0.lo; let c4 := F_impl_SinhI_1 a0.hi; .br (!(F_impl_areBounded c3 c4)) (.leaf F_impl_Whole) (.leaf (F_impl_bounded c3.lo c4.hi true)))
theorem r_impl_SinhI (a0 : Iv) : Tb95.run B95 [enc a0] (Iv) = (t_impl_SinhI a0).opt := by kernel_rfl
noncomputable def F_impl_SinhI : Iv → Iv := fun a0 => (t_impl_SinhI a0).get
theorem u_impl_SinhI (a0 : Iv) : (t_impl_SinhI a0).opt = some (F_impl_SinhI a0) := Tr.tot_get (by kernel_rfl)
noncomputable def E_impl_SinhI : Ent Tryz.prog := .of1 Tb95 B95 (fun _ => true) F_impl_SinhI fun a0 _ => (r_impl_SinhI a0).trans (u_impl_SinhI a0)
noncomputable def B341 : Bod Tryz.prog := ⟨341, Tryz.f341, Tryz.f341.body.getD .skip, Tryz.func341, by kernel_rfl, by kernel_rfl, Loops.no _ _⟩
noncomputable def Tb341 : Tb Tryz.prog := { T := [Y2, Y27, Y49], mix := mix, Es := [ET_spec_Quotient, E_spec_l12Ok, E_spec_l04Whole], Bs := [], d := 1 }
noncomputable def t_spec_ThirdI (a0 : Ell) : Tr (Iv) :=
  .br (!(F_spec_l12Ok a0)) (.leaf F_spec_l04Whole) (.leaf (F_spec_Quotient a0.num (Rng.w .i64 ((Rng.w .i64 (2 * a0.den.val)).val - a0.num.val))))
theorem r_spec_ThirdI (a0 : Ell) : Tb341.run B341 [enc a0] (Iv) = (t_spec_ThirdI a0).opt := by kernel_rfl
noncomputable def F_spec_ThirdI : Ell → Iv := fun a0 => (t_spec_ThirdI a0).get
theorem u_spec_ThirdI (a0 : Ell) : (t_spec_ThirdI a0).opt = some (F_spec_ThirdI a0) := Tr.tot_get (by kernel_rfl)
noncomputable def E_spec_ThirdI : Ent Tryz.prog := .of1 Tb341 B341 (fun _ => true) F_spec_ThirdI fun a0 _ => (r_spec_ThirdI a0).trans (u_spec_ThirdI a0)
noncomputable def B304 : Bod Tryz.prog := ⟨304, Tryz.f304, Tryz.f304.body.getD .skip, Tryz.func304, by kernel_rfl, by kernel_rfl, Loops.no _ _⟩
noncomputable def Tb304 : Tb Tryz.prog := { T := [Y2, Y27, Y49], mix := mix, Es := [E_spec_MulI, E_spec_DivI, E_spec_SinI, ET_spec_Quotient, E_spec_Integer, E_spec_SubI, E_spec_AddI, E_spec_l04Make, E_spec_l08At, E_spec_MajorI, E_spec_SqrI, E_spec_ThirdI], Bs := [], d := 1 }
noncomputable def t_spec_l12Arc (a0 : Ell) (a1 : I64) : Tr (Iv) :=
  let c1 := F_spec_l08At a1; let c2 := F_spec_ThirdI a0; let c3 := F_spec_SqrI c2; let c56 := F_spec_MulI (F_spec_MulI (F_spec_MulI (F_spec_Integer ⟨2, rfl⟩) c3) c3) c2; .leaf (F_spec_MulI (F_spec_DivI (F_spec_MajorI a0) (F_spec_AddI (F_spec_Integer ⟨1, rfl⟩) c2)) (F_spec_AddI (F_spec_AddI (F_spec_SubI (F_spec_AddI (F_spec_SubI (F_spec_MulI (F_spec_AddI (F_spec_AddI (F_spec_Integer ⟨1, rfl⟩) (F_spec_DivI c3 (F_spec_Integer ⟨4, rfl⟩))) (F_spec_DivI (F_spec_MulI c3 c3) (F_spec_Integer ⟨64, rfl⟩))) c1) (F_spec_MulI (F_spec_MulI (F_spec_MulI (F_spec_Quotient ⟨3, rfl⟩ ⟨2, rfl⟩) c2) (F_spec_SubI (F_spec_Integer ⟨1, rfl⟩) (F_spec_DivI c3 (F_spec_Integer ⟨8, rfl⟩)))) (F_spec_SinI (F_spec_MulI (F_spec_Integer ⟨2, rfl⟩) c1)))) (F_spec_MulI (F_spec_MulI (F_spec_MulI (F_spec_Quotient ⟨15, rfl⟩ ⟨16, rfl⟩) c3) (F_spec_SubI (F_spec_Integer ⟨1, rfl⟩) (F_spec_DivI c3 (F_spec_Integer ⟨4, rfl⟩)))) (F_spec_SinI (F_spec_MulI (F_spec_Integer ⟨4, rfl⟩) c1)))) (F_spec_MulI (F_spec_MulI (F_spec_MulI (F_spec_Quotient ⟨35, rfl⟩ ⟨48, rfl⟩) c3) c2) (F_spec_SinI (F_spec_MulI (F_spec_Integer ⟨6, rfl⟩) c1)))) (F_spec_MulI (F_spec_MulI (F_spec_MulI (F_spec_Quotient ⟨315, rfl⟩ ⟨512, rfl⟩) c3) c3) (F_spec_SinI (F_spec_MulI (F_spec_Integer ⟨8, rfl⟩) c1)))) (F_spec_l04Make (Rng.w .i64 (0 - c56.hi.val)) c56.hi)))
theorem r_spec_l12Arc (a0 : Ell) (a1 : I64) : Tb304.run B304 [enc a0, enc a1] (Iv) = (t_spec_l12Arc a0 a1).opt := by kernel_rfl
noncomputable def F_spec_l12Arc : Ell → I64 → Iv := fun a0 a1 => (t_spec_l12Arc a0 a1).get
theorem u_spec_l12Arc (a0 : Ell) (a1 : I64) : (t_spec_l12Arc a0 a1).opt = some (F_spec_l12Arc a0 a1) := Tr.tot_get (by kernel_rfl)
noncomputable def E_spec_l12Arc : Ent Tryz.prog := .of2 Tb304 B304 (fun _ _ => true) F_spec_l12Arc fun a0 a1 _ => (r_spec_l12Arc a0 a1).trans (u_spec_l12Arc a0 a1)
noncomputable def B232 : Bod Tryz.prog := ⟨232, Tryz.f232, Tryz.f232.body.getD .skip, Tryz.func232, by kernel_rfl, by kernel_rfl, Loops.no _ _⟩
noncomputable def Tb232 : Tb Tryz.prog := { T := [Y2, Y27, Y49], mix := mix, Es := [E_spec_l12Ok, E_spec_l04Whole, E_spec_l08Ends, E_spec_InsideI, E_spec_l12Arc], Bs := [], d := 1 }
noncomputable def t_spec_ArcI (a0 : Ell) (a1 : Iv) : Tr (Iv) :=
  .br (!(F_spec_l12Ok a0)) (.leaf F_spec_l04Whole) (.br (!(F_spec_InsideI a1 ⟨⟨(-8589934592), rfl⟩, ⟨8589934592, rfl⟩⟩)) (.leaf F_spec_l04Whole) (.leaf (F_spec_l08Ends (F_spec_l12Arc a0 a1.lo) (F_spec_l12Arc a0 a1.hi))))
theorem r_spec_ArcI (a0 : Ell) (a1 : Iv) : Tb232.run B232 [enc a0, enc a1] (Iv) = (t_spec_ArcI a0 a1).opt := by kernel_rfl
noncomputable def F_spec_ArcI : Ell → Iv → Iv := fun a0 a1 => (t_spec_ArcI a0 a1).get
theorem u_spec_ArcI (a0 : Ell) (a1 : Iv) : (t_spec_ArcI a0 a1).opt = some (F_spec_ArcI a0 a1) := Tr.tot_get (by kernel_rfl)
noncomputable def E_spec_ArcI : Ent Tryz.prog := .of2 Tb232 B232 (fun _ _ => true) F_spec_ArcI fun a0 a1 _ => (r_spec_ArcI a0 a1).trans (u_spec_ArcI a0 a1)
noncomputable def B345 : Bod Tryz.prog := ⟨345, Tryz.f345, Tryz.f345.body.getD .skip, Tryz.func345, by kernel_rfl, by kernel_rfl, Loops.no _ _⟩
noncomputable def B310 : Bod Tryz.prog := ⟨310, Tryz.f310, Tryz.f310.body.getD .skip, Tryz.func310, by kernel_rfl, by kernel_rfl, Loops.no _ _⟩
noncomputable def Tb310 : Tb Tryz.prog := { T := [Y2, Y27, Y49], mix := mix, Es := [ET_impl_Quotient, E_impl_ValidEllipsoid, E_impl_Whole], Bs := [B236, B345], d := 8 }
noncomputable def t_impl_ThirdI (a0 : Ell) : Tr (Iv) :=
  .br (!(F_impl_ValidEllipsoid a0)) (.leaf F_impl_Whole) (.leaf (F_impl_Quotient a0.num (Rng.w .i64 ((Rng.w .i64 (2 * a0.den.val)).val - a0.num.val))))
theorem r_impl_ThirdI (a0 : Ell) : Tb310.run B310 [enc a0] (Iv) = (t_impl_ThirdI a0).opt := by kernel_rfl
noncomputable def F_impl_ThirdI : Ell → Iv := fun a0 => (t_impl_ThirdI a0).get
theorem u_impl_ThirdI (a0 : Ell) : (t_impl_ThirdI a0).opt = some (F_impl_ThirdI a0) := Tr.tot_get (by kernel_rfl)
noncomputable def E_impl_ThirdI : Ent Tryz.prog := .of1 Tb310 B310 (fun _ => true) F_impl_ThirdI fun a0 _ => (r_impl_ThirdI a0).trans (u_impl_ThirdI a0)
noncomputable def B259 : Bod Tryz.prog := ⟨259, Tryz.f259, Tryz.f259.body.getD .skip, Tryz.func259, by kernel_rfl, by kernel_rfl, Loops.no _ _⟩
noncomputable def Tb259 : Tb Tryz.prog := { T := [Y2, Y27], mix := mix, Es := [E_impl_Whole, E_impl_IsWhole, E_impl_bounded], Bs := [], d := 1 }
noncomputable def t_impl_symmetric (a0 : Iv) : Tr (Iv) :=
  .br (F_impl_IsWhole a0) (.leaf F_impl_Whole) (.leaf (F_impl_bounded (Rng.w .i64 (0 - a0.hi.val)) a0.hi true))
theorem r_impl_symmetric (a0 : Iv) : Tb259.run B259 [enc a0] (Iv) = (t_impl_symmetric a0).opt := by kernel_rfl
noncomputable def F_impl_symmetric : Iv → Iv := fun a0 => (t_impl_symmetric a0).get
theorem u_impl_symmetric (a0 : Iv) : (t_impl_symmetric a0).opt = some (F_impl_symmetric a0) := Tr.tot_get (by kernel_rfl)
noncomputable def E_impl_symmetric : Ent Tryz.prog := .of1 Tb259 B259 (fun _ => true) F_impl_symmetric fun a0 _ => (r_impl_symmetric a0).trans (u_impl_symmetric a0)
noncomputable def B242 : Bod Tryz.prog := ⟨242, Tryz.f242, Tryz.f242.body.getD .skip, Tryz.func242, by kernel_rfl, by kernel_rfl, Loops.no _ _⟩
noncomputable def Tb242 : Tb Tryz.prog := { T := [Y2, Y27, Y49], mix := mix, Es := [ET_impl_MulI, E_impl_DivI, E_impl_SinI, ET_impl_Quotient, E_impl_oneLess, E_impl_Integer, E_impl_at, E_impl_times, E_impl_SubI, E_impl_AddI, ET_impl_SqrI, E_impl_MajorI, E_impl_over, E_impl_symmetric, E_impl_ThirdI], Bs := [], d := 1 }
noncomputable def t_impl_arcAt (a0 : Ell) (a1 : I64) : Tr (Iv) :=
  let c1 := F_impl_ThirdI a0; let c2 := F_impl_at a1; let c3 := F_impl_SqrI c1; .leaf (F_impl_MulI (F_impl_DivI (F_impl_MajorI a0) (F_impl_AddI (F_impl_Integer ⟨1, rfl⟩) c1)) (F_impl_AddI (F_impl_AddI (F_impl_SubI (F_impl_AddI (F_impl_SubI (F_impl_MulI (F_impl_AddI (F_impl_AddI (F_impl_Integer ⟨1, rfl⟩) (F_impl_over c3 ⟨4, rfl⟩)) (F_impl_over (F_impl_MulI c3 c3) ⟨64, rfl⟩)) c2) (F_impl_MulI (F_impl_MulI (F_impl_MulI (F_impl_Quotient ⟨3, rfl⟩ ⟨2, rfl⟩) c1) (F_impl_oneLess (F_impl_over c3 ⟨8, rfl⟩))) (F_impl_SinI (F_impl_times ⟨2, rfl⟩ c2)))) (F_impl_MulI (F_impl_MulI (F_impl_MulI (F_impl_Quotient ⟨15, rfl⟩ ⟨16, rfl⟩) c3) (F_impl_oneLess (F_impl_over c3 ⟨4, rfl⟩))) (F_impl_SinI (F_impl_times ⟨4, rfl⟩ c2)))) (F_impl_MulI (F_impl_MulI (F_impl_MulI (F_impl_Quotient ⟨35, rfl⟩ ⟨48, rfl⟩) c3) c1) (F_impl_SinI (F_impl_times ⟨6, rfl⟩ c2)))) (F_impl_MulI (F_impl_MulI (F_impl_MulI (F_impl_Quotient ⟨315, rfl⟩ ⟨512, rfl⟩) c3) c3) (F_impl_SinI (F_impl_times ⟨8, rfl⟩ c2)))) (F_impl_symmetric (F_impl_MulI (F_impl_MulI (F_impl_times ⟨2, rfl⟩ c3) c3) c1))))
theorem r_impl_arcAt (a0 : Ell) (a1 : I64) : Tb242.run B242 [enc a0, enc a1] (Iv) = (t_impl_arcAt a0 a1).opt := by kernel_rfl
noncomputable def F_impl_arcAt : Ell → I64 → Iv := fun a0 a1 => (t_impl_arcAt a0 a1).get
theorem u_impl_arcAt (a0 : Ell) (a1 : I64) : (t_impl_arcAt a0 a1).opt = some (F_impl_arcAt a0 a1) := Tr.tot_get (by kernel_rfl)
noncomputable def E_impl_arcAt : Ent Tryz.prog := .of2 Tb242 B242 (fun _ _ => true) F_impl_arcAt fun a0 a1 _ => (r_impl_arcAt a0 a1).trans (u_impl_arcAt a0 a1)
noncomputable def B241 : Bod Tryz.prog := ⟨241, Tryz.f241, Tryz.f241.body.getD .skip, Tryz.func241, by kernel_rfl, by kernel_rfl, Loops.no _ _⟩
noncomputable def Tb241_q : Tb Tryz.prog := { T := [Y2, Y27, Y49], mix := mix, Es := [E_impl_arcAt], Bs := [], d := 1 }
noncomputable def t_impl_ArcI_1_q (a0 : I64) (d0 : Ell) : Tr (Iv) :=
  .leaf (F_impl_arcAt d0 a0)
theorem r_impl_ArcI_1_q (a0 : I64) (d0 : Ell) : capRun Tb241_q B241 [enc a0, .ptr 0 0] [(0, Cap.ec d0)] 1 (Iv) = (t_impl_ArcI_1_q a0 d0).opt := by kernel_rfl
noncomputable def F_impl_ArcI_1_q : I64 → Ell → Iv := fun a0 d0 => (t_impl_ArcI_1_q a0 d0).get
noncomputable def G_impl_ArcI_1_q : I64 → Ell → Bool := fun a0 d0 => (t_impl_ArcI_1_q a0 d0).opt.isSome
theorem u_impl_ArcI_1_q (a0 : I64) (d0 : Ell) : (t_impl_ArcI_1_q a0 d0).opt = some (F_impl_ArcI_1_q a0 d0) := Tr.tot_get (by kernel_rfl)
noncomputable def E_impl_ArcI_1_q : Ent Tryz.prog := .cap1 Tb241_q B241 (fun _ _ => true) F_impl_ArcI_1_q fun a0 d0 _ => (r_impl_ArcI_1_q a0 d0).trans (u_impl_ArcI_1_q a0 d0)
noncomputable def B121 : Bod Tryz.prog := ⟨121, Tryz.f121, Tryz.f121.body.getD .skip, Tryz.func121, by kernel_rfl, by kernel_rfl, Loops.no _ _⟩
noncomputable def Tb121 : Tb Tryz.prog := { T := [Y2, Y27, Y49], mix := mix, Es := [E_impl_ValidEllipsoid, E_impl_within, E_impl_Whole, E_impl_IsWhole, E_impl_areBounded, E_impl_bounded, E_impl_ArcI_1_q], Bs := [B124], d := 8 }
noncomputable def t_impl_ArcI (a0 : Ell) (a1 : Iv) : Tr (Iv) :=
  .br (!(F_impl_ValidEllipsoid a0)) (.leaf F_impl_Whole) (.br (!(F_impl_within a1.lo ⟨(-8589934592), rfl⟩ ⟨8589934592, rfl⟩)) (.leaf F_impl_Whole) (.br (!(F_impl_within a1.hi ⟨(-8589934592), rfl⟩ ⟨8589934592, rfl⟩)) (.leaf F_impl_Whole) (.br (F_impl_IsWhole a1) (.leaf F_impl_Whole) (let c9 := F_impl_ArcI_1_q a1.lo a0; let c10 := F_impl_ArcI_1_q a1.hi a0; .br (!(F_impl_areBounded c9 c10)) (.leaf F_impl_Whole) (.leaf (F_impl_bounded c9.lo c10.hi true))))))
theorem r_impl_ArcI (a0 : Ell) (a1 : Iv) : Tb121.run B121 [enc a0, enc a1] (Iv) = (t_impl_ArcI a0 a1).opt := by kernel_rfl
noncomputable def F_impl_ArcI : Ell → Iv → Iv := fun a0 a1 => (t_impl_ArcI a0 a1).get
theorem u_impl_ArcI (a0 : Ell) (a1 : Iv) : (t_impl_ArcI a0 a1).opt = some (F_impl_ArcI a0 a1) := Tr.tot_get (by kernel_rfl)
noncomputable def E_impl_ArcI : Ent Tryz.prog := .of2 Tb121 B121 (fun _ _ => true) F_impl_ArcI fun a0 a1 _ => (r_impl_ArcI a0 a1).trans (u_impl_ArcI a0 a1)
end
end Go.Proofs.YtecfhpgpojgjkaaGreat.Ev
