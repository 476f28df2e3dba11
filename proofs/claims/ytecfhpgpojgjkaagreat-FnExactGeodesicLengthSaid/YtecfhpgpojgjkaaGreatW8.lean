import Derived.Test.YtecfhpgpojgjkaaGreatW7
namespace Go.Proofs.YtecfhpgpojgjkaaGreat.Ev
open Go Go.RowKit
set_option maxRecDepth 100000
set_option linter.unusedVariables false
section
noncomputable def B308 : Bod Tryz.prog := ⟨308, Tryz.f308, Tryz.f308.body.getD .skip, Tryz.func308, by kernel_rfl, by kernel_rfl, Loops.no _ _⟩
noncomputable def Tb308 : Tb Tryz.prog := { T := [Y2, Y27], mix := mix, Es := [E_impl_DivI, E_impl_Whole, E_impl_at, E_impl_HalfI, E_impl_LogI], Bs := [], d := 1 }
noncomputable def t_impl_AtanhI_1 (a0 : I64) : Tr (Iv) :=
  .br (decide (a0.val ≥ 4294967296)) (.leaf F_impl_Whole) (.leaf (F_impl_HalfI (F_impl_LogI (F_impl_DivI (F_impl_at (Rng.w .i64 (4294967296 + a0.val))) (F_impl_at (Rng.w .i64 (4294967296 - a0.val)))))))
theorem r_impl_AtanhI_1 (a0 : I64) : Tb308.run B308 [enc a0] (Iv) = (t_impl_AtanhI_1 a0).opt := by kernel_rfl
noncomputable def F_impl_AtanhI_1 : I64 → Iv := fun a0 => (t_impl_AtanhI_1 a0).get
theorem u_impl_AtanhI_1 (a0 : I64) : (t_impl_AtanhI_1 a0).opt = some (F_impl_AtanhI_1 a0) := Tr.tot_get (by kernel_rfl)
noncomputable def E_impl_AtanhI_1 : Ent Tryz.prog := .of1 Tb308 B308 (fun _ => true) F_impl_AtanhI_1 fun a0 _ => (r_impl_AtanhI_1 a0).trans (u_impl_AtanhI_1 a0)
noncomputable def Y81 : TyE Tryz.prog := ⟨81, 1, .func, [.nilf], false, by kernel_rfl, by kernel_rfl, by kernel_rfl, by kernel_rfl, by kernel_rfl, by kernel_rfl⟩
noncomputable def B284 : Bod Tryz.prog := ⟨284, Tryz.f284, Tryz.f284.body.getD .skip, Tryz.func284, by kernel_rfl, by kernel_rfl, Loops.no _ _⟩
noncomputable def Tb284_AtanhI : Tb Tryz.prog := { T := [Y2, Y27, Y81], mix := mix, Es := [E_impl_NegI, E_impl_AtanhI_1], Bs := [], d := 1 }
noncomputable def t_impl_odd_1_AtanhI (a0 : I64) (d0 : FnTag 308) : Tr (Iv) :=
  .br (decide (a0.val < 0)) (.leaf (F_impl_NegI (F_impl_AtanhI_1 (Rng.w .i64 (0 - a0.val))))) (.leaf (F_impl_AtanhI_1 a0))
theorem r_impl_odd_1_AtanhI (a0 : I64) (d0 : FnTag 308) : capRun Tb284_AtanhI B284 [enc a0, .ptr 0 0] [(0, Cap.ec d0)] 1 (Iv) = (t_impl_odd_1_AtanhI a0 d0).opt := by kernel_rfl
noncomputable def F_impl_odd_1_AtanhI : I64 → FnTag 308 → Iv := fun a0 d0 => (t_impl_odd_1_AtanhI a0 d0).get
noncomputable def G_impl_odd_1_AtanhI : I64 → FnTag 308 → Bool := fun a0 d0 => (t_impl_odd_1_AtanhI a0 d0).opt.isSome
theorem u_impl_odd_1_AtanhI (a0 : I64) (d0 : FnTag 308) : (t_impl_odd_1_AtanhI a0 d0).opt = some (F_impl_odd_1_AtanhI a0 d0) := Tr.tot_get (by kernel_rfl)
noncomputable def E_impl_odd_1_AtanhI : Ent Tryz.prog := .cap1 Tb284_AtanhI B284 (fun _ _ => true) F_impl_odd_1_AtanhI fun a0 d0 _ => (r_impl_odd_1_AtanhI a0 d0).trans (u_impl_odd_1_AtanhI a0 d0)
noncomputable def B203 : Bod Tryz.prog := ⟨203, Tryz.f203, Tryz.f203.body.getD .skip, Tryz.func203, by kernel_rfl, by kernel_rfl, Loops.no _ _⟩
noncomputable def B238 : Bod Tryz.prog := ⟨238, Tryz.f238, Tryz.f238.body.getD .skip, Tryz.func238, by kernel_rfl, by kernel_rfl, Loops.no _ _⟩
noncomputable def Tb238 : Tb Tryz.prog := { T := [Y2, Y27], mix := mix, Es := [E_impl_Whole, E_impl_IsWhole, E_impl_areBounded, E_impl_bounded, E_impl_odd_1_AtanhI], Bs := [B124, B203], d := 8 }
noncomputable def t_impl_AtanhI (a0 : Iv) : Tr (Iv) :=
  .br (F_impl_IsWhole a0) (.leaf F_impl_Whole) (let c3 := F_impl_odd_1_AtanhI a0.lo ⟨⟩; let c4 := F_impl_odd_1_AtanhI a0.hi ⟨⟩; .br (!(F_impl_areBounded c3 c4)) (.leaf F_impl_Whole) (.leaf (F_impl_bounded c3.lo c4.hi true)))
theorem r0_impl_AtanhI (a0 : Iv) : twoRun Tb238 B238 [enc a0] [0, 1, 2, 3] (Iv) = (t_impl_AtanhI a0).opt := by kernel_rfl
theorem r1_impl_AtanhI (a0 : Iv) : twoRun Tb238 B238 [enc a0] [1, 0, 2, 3] (Iv) = (t_impl_AtanhI a0).opt := by kernel_rfl
noncomputable def F_impl_AtanhI : Iv → Iv := fun a0 => (t_impl_AtanhI a0).get
noncomputable def G_impl_AtanhI : Iv → Bool := fun a0 => (t_impl_AtanhI a0).opt.isSome
noncomputable def E_impl_AtanhI : Ent Tryz.prog := .two1 Tb238 B238 G_impl_AtanhI F_impl_AtanhI 0 [1, 2, 3] 1 [0, 2, 3] (by unfold twoShape; kernel_rfl) (by kernel_rfl) (by kernel_rfl) (by kernel_rfl) (fun a0 => by kernel_rfl) (fun a0 h => (r0_impl_AtanhI a0).trans (Tr.get_some h)) (fun a0 h => (r1_impl_AtanhI a0).trans (Tr.get_some h))
noncomputable def B340 : Bod Tryz.prog := ⟨340, Tryz.f340, Tryz.f340.body.getD .skip, Tryz.func340, by kernel_rfl, by kernel_rfl, Loops.no _ _⟩
noncomputable def Tb340_p : Tb Tryz.prog := { T := [Y2, Y27], mix := mix, Es := [E_spec_DivI, E_spec_l04Whole, E_spec_HalfI, E_spec_l08At, E_spec_LogI], Bs := [], d := 1 }
noncomputable def t_spec_l08Atanh_p (a0 : I64) : Tr (Iv) :=
  .br (decide (a0.val < 0)) (.bad) (.br (decide (a0.val ≥ 4294967296)) (.leaf F_spec_l04Whole) (.leaf (F_spec_HalfI (F_spec_LogI (F_spec_DivI (F_spec_l08At (Rng.w .i64 (4294967296 + a0.val))) (F_spec_l08At (Rng.w .i64 (4294967296 - a0.val))))))))
theorem r_spec_l08Atanh_p (a0 : I64) : Tb340_p.run B340 [enc a0] (Iv) = (t_spec_l08Atanh_p a0).opt := by kernel_rfl
noncomputable def F_spec_l08Atanh_p : I64 → Iv := fun a0 => (t_spec_l08Atanh_p a0).get
noncomputable def G_spec_l08Atanh_p : I64 → Bool := fun a0 => (t_spec_l08Atanh_p a0).opt.isSome
noncomputable def E_spec_l08Atanh_p : Ent Tryz.prog := .of1 Tb340_p B340 G_spec_l08Atanh_p F_spec_l08Atanh_p fun a0 h => (r_spec_l08Atanh_p a0).trans (Tr.get_some h)
noncomputable def Tb340 : Tb Tryz.prog := { T := [Y2, Y27], mix := mix, Es := [E_spec_DivI, E_spec_l04Whole, E_spec_HalfI, E_spec_NegI, E_spec_l08At, E_spec_LogI, E_spec_l08Atanh_p], Bs := [], d := 1 }
noncomputable def t_spec_l08Atanh (a0 : I64) : Tr (Iv) :=
  .br (decide (a0.val < 0)) (let c1 := (Rng.w .i64 (0 - a0.val)); .br (G_spec_l08Atanh_p c1) (.leaf (F_spec_NegI (F_spec_l08Atanh_p c1))) (.bad)) (.br (decide (a0.val ≥ 4294967296)) (.leaf F_spec_l04Whole) (.leaf (F_spec_HalfI (F_spec_LogI (F_spec_DivI (F_spec_l08At (Rng.w .i64 (4294967296 + a0.val))) (F_spec_l08At (Rng.w .i64 (4294967296 - a0.val))))))))
theorem r_spec_l08Atanh (a0 : I64) : Tb340.run B340 [enc a0] (Iv) = (t_spec_l08Atanh a0).opt := by kernel_rfl
noncomputable def F_spec_l08Atanh : I64 → Iv := fun a0 => (t_spec_l08Atanh a0).get
noncomputable def G_spec_l08Atanh : I64 → Bool := fun a0 => (t_spec_l08Atanh a0).opt.isSome
noncomputable def E_spec_l08Atanh : Ent Tryz.prog := .of1 Tb340 B340 G_spec_l08Atanh F_spec_l08Atanh fun a0 h => (r_spec_l08Atanh a0).trans (Tr.get_some h)
noncomputable def B302 : Bod Tryz.prog := ⟨302, Tryz.f302, Tryz.f302.body.getD .skip, Tryz.func302, by kernel_rfl, by kernel_rfl, Loops.no _ _⟩
noncomputable def Tb302 : Tb Tryz.prog := { T := [Y2, Y27], mix := mix, Es := [E_spec_l04Ok, E_spec_l04Whole, E_spec_l08Ends, E_spec_l08Atanh], Bs := [], d := 1 }
noncomputable def t_spec_AtanhI (a0 : Iv) : Tr (Iv) :=
  .br (!(F_spec_l04Ok a0)) (.leaf F_spec_l04Whole) (.br (G_spec_l08Atanh a0.lo) (.br (G_spec_l08Atanh a0.hi) (.leaf (F_spec_l08Ends (F_spec_l08Atanh a0.lo) (F_spec_l08Atanh a0.hi))) (.bad)) (.bad))
theorem r_spec_AtanhI (a0 : Iv) : Tb302.run B302 [enc a0] (Iv) = (t_spec_AtanhI a0).opt := by kernel_rfl
noncomputable def F_spec_AtanhI : Iv → Iv := fun a0 => (t_spec_AtanhI a0).get
noncomputable def G_spec_AtanhI : Iv → Bool := fun a0 => (t_spec_AtanhI a0).opt.isSome
noncomputable def E_spec_AtanhI : Ent Tryz.prog := .of1 Tb302 B302 G_spec_AtanhI F_spec_AtanhI fun a0 h => (r_spec_AtanhI a0).trans (Tr.get_some h)
structure S_impl_scaled_1 where
  x0 : I64
  x1 : I64
  x2 : I64
  x3 : I64
  x4 : I64
instance : Inhabited S_impl_scaled_1 := ⟨⟨default, default, default, default, default⟩⟩
noncomputable def st_impl_scaled_1 (x : S_impl_scaled_1) : St := ⟨[(1, .i64 x.x0), (2, .ptr 0 0), (4, .ptr 1 0)], 27, ⟨[(0, [.i64 x.x1, .i64 x.x2]), (1, [.i64 x.x3, .i64 x.x4])], 2, 0⟩⟩
noncomputable def rd_impl_scaled_1 : St → Option S_impl_scaled_1 := fun s => match s with
  | ⟨[(1, .i64 x0), (2, .ptr 0 0), (4, .ptr 1 0)], 27, ⟨[(0, [.i64 x1, .i64 x2]), (1, [.i64 x3, .i64 x4])], 2, 0⟩⟩ => some ⟨x0, x1, x2, x3, x4⟩
  | _ => none
noncomputable def b_impl_scaled_1 (x : S_impl_scaled_1) : Tr (Lp S_impl_scaled_1) :=
  .br (decide (x.x0.val > 0)) (let c1 := F_impl_DoubleI ⟨x.x1, x.x2⟩; .leaf (.again ⟨(Rng.w .i64 (x.x0.val - 1)), c1.lo, c1.hi, x.x3, x.x4⟩)) (.leaf (.out ⟨x.x0, x.x1, x.x2, x.x3, x.x4⟩))
noncomputable def G_impl_scaled_1 (x : S_impl_scaled_1) : Bool := (Lf b_impl_scaled_1 70 x).opt.isSome
noncomputable def L_impl_scaled_1 (x : S_impl_scaled_1) : S_impl_scaled_1 := (Lf b_impl_scaled_1 70 x).get
noncomputable def TbL_impl_scaled_1 : Tb Tryz.prog := { T := [Y27], mix := mix, Es := [E_impl_DoubleI], Bs := [], d := 1 }
noncomputable def P_impl_scaled_1 : LpF := loopF [1, 2, 4] [0, 1] 2 rd_impl_scaled_1 st_impl_scaled_1 (.exit 0) G_impl_scaled_1 L_impl_scaled_1
theorem lok_impl_scaled_1 : LoopOk Tryz.prog (loopAt (Tryz.f299.body.getD .skip) 0) P_impl_scaled_1 := loopF_ok (t := TbL_impl_scaled_1) (lt := fun _ => none) (body := b_impl_scaled_1) (n := 70) (by intro h; cases h) (fun _ _ _ h => by cases h)
  (by intro s x h; unfold rd_impl_scaled_1 at h; split at h <;> cases h; rfl) (fun x b cs h => lk_lt (l := (st_impl_scaled_1 x).mm.blks) (by kernel_rfl) h) (by intro x; kernel_rfl) (fun x h => Tr.get_some h)
noncomputable def B299 : Bod Tryz.prog := ⟨299, Tryz.f299, Tryz.f299.body.getD .skip, Tryz.func299, by kernel_rfl, by kernel_rfl, ⟨ltOf [(1, P_impl_scaled_1)], Loops.of (ks := [1]) (by kernel_rfl) (by
  intro i k h f hf
  match i, h with
  | 0, h => cases h; obtain rfl : P_impl_scaled_1 = f := Option.some.inj hf; exact lok_impl_scaled_1
  | n + 1, h => simp at h)⟩⟩
noncomputable def Tb299 : Tb Tryz.prog := { T := [Y2, Y27], mix := mix, Es := [E_impl_Whole, E_impl_IsWhole], Bs := [], d := 1 }
noncomputable def t_impl_scaled (a0 : Iv) (a1 : I64) : Tr (Iv) :=
  .br (G_impl_scaled_1 ⟨a1, a0.lo, a0.hi, ⟨0, rfl⟩, ⟨0, rfl⟩⟩) (let c3 := L_impl_scaled_1 ⟨a1, a0.lo, a0.hi, ⟨0, rfl⟩, ⟨0, rfl⟩⟩; .br (F_impl_IsWhole ⟨c3.x1, c3.x2⟩) (.leaf F_impl_Whole) (let c6 := (Rng.w .i64 (0 - c3.x0.val)); .br (decide (c6.val < 0)) (.bad) (let c9 := (Rng.w .i64 (0 - c3.x0.val)); .br (decide (c9.val < 0)) (.bad) (.leaf ⟨(Rng.w .i64 (c3.x1.val.fdiv (2 ^ min (c6.val).toNat 64))), (Rng.w .i64 (0 - (Rng.w .i64 ((Rng.w .i64 (0 - c3.x2.val)).val.fdiv (2 ^ min (c9.val).toNat 64))).val))⟩)))) (.bad)
theorem r_impl_scaled (a0 : Iv) (a1 : I64) : Tb299.run B299 [enc a0, enc a1] (Iv) = (t_impl_scaled a0 a1).opt := by kernel_rfl
noncomputable def F_impl_scaled : Iv → I64 → Iv := fun a0 a1 => (t_impl_scaled a0 a1).get
noncomputable def G_impl_scaled : Iv → I64 → Bool := fun a0 a1 => (t_impl_scaled a0 a1).opt.isSome
noncomputable def E_impl_scaled : Ent Tryz.prog := .of2 Tb299 B299 G_impl_scaled F_impl_scaled fun a0 a1 h => (r_impl_scaled a0 a1).trans (Tr.get_some h)
noncomputable def B335 : Bod Tryz.prog := ⟨335, Tryz.f335, Tryz.f335.body.getD .skip, Tryz.func335, by kernel_rfl, by kernel_rfl, Loops.no _ _⟩
noncomputable def Tb335 : Tb Tryz.prog := { T := [Y2, Y27, Y128], mix := mix, Es := [E_spec_l04Make], Bs := [], d := 1 }
noncomputable def t_spec_l08Scale (a0 : Iv) (a1 : I64) : Tr (Iv) :=
  .br (decide (a1.val ≥ 0)) (.leaf (F_spec_l04Make (Rng.w .i64 (a0.lo.val * (2 ^ min ((Rng.w .u64 (a1.val)).val).toNat 64))) (Rng.w .i64 (a0.hi.val * (2 ^ min ((Rng.w .u64 (a1.val)).val).toNat 64))))) (.leaf (F_spec_l04Make (Rng.w .i64 (a0.lo.val.fdiv (2 ^ min ((Rng.w .u64 ((Rng.w .i64 (0 - a1.val)).val)).val).toNat 64))) (Rng.w .i64 (0 - (Rng.w .i64 ((Rng.w .i64 (0 - a0.hi.val)).val.fdiv (2 ^ min ((Rng.w .u64 ((Rng.w .i64 (0 - a1.val)).val)).val).toNat 64))).val))))
theorem r_spec_l08Scale (a0 : Iv) (a1 : I64) : Tb335.run B335 [enc a0, enc a1] (Iv) = (t_spec_l08Scale a0 a1).opt := by kernel_rfl
noncomputable def F_spec_l08Scale : Iv → I64 → Iv := fun a0 a1 => (t_spec_l08Scale a0 a1).get
theorem u_spec_l08Scale (a0 : Iv) (a1 : I64) : (t_spec_l08Scale a0 a1).opt = some (F_spec_l08Scale a0 a1) := Tr.tot_get (by kernel_rfl)
noncomputable def E_spec_l08Scale : Ent Tryz.prog := .of2 Tb335 B335 (fun _ _ => true) F_spec_l08Scale fun a0 a1 _ => (r_spec_l08Scale a0 a1).trans (u_spec_l08Scale a0 a1)
noncomputable def B294 : Bod Tryz.prog := ⟨294, Tryz.f294, Tryz.f294.body.getD .skip, Tryz.func294, by kernel_rfl, by kernel_rfl, Loops.no _ _⟩
noncomputable def Tb294 : Tb Tryz.prog := { T := [Y2, Y27], mix := mix, Es := [E_spec_MulI, E_spec_DivI, E_spec_l04Whole, E_spec_Integer, E_spec_SubI, E_spec_AddI, E_spec_l08At, E_spec_l03Ok, E_spec_l08One, ET_spec_LogTwoI, E_spec_l08Widen, E_spec_l08Scale], Bs := [], d := 1 }
noncomputable def t_spec_ExpAt (a0 : I64) : Tr (Iv) :=
  .br (!(F_spec_l03Ok a0)) (.leaf F_spec_l04Whole) (.br (decide (a0.val > 85899345920)) (.leaf F_spec_l04Whole) (.br (decide (a0.val < (-98784247808))) (.leaf ⟨⟨0, rfl⟩, ⟨1, rfl⟩⟩) (let c8 := (Rng.w .i64 ((Rng.w .i64 ((Rng.w .i64 (2 * a0.val)).val + 2977044472)).val.tdiv 5954088944)); .br (decide ((Rng.w .i64 ((Rng.w .i64 ((Rng.w .i64 (2 * a0.val)).val + 2977044472)).val.tmod 5954088944)).val < 0)) (let c12 := (Rng.w .i64 (c8.val - 1)); let c15 := F_spec_SubI (F_spec_l08At a0) (F_spec_LogTwoI c12); .leaf (F_spec_l08Scale (F_spec_l08Widen (F_spec_AddI F_spec_l08One (F_spec_DivI (F_spec_MulI c15 (F_spec_AddI F_spec_l08One (F_spec_DivI (F_spec_MulI c15 (F_spec_AddI F_spec_l08One (F_spec_DivI (F_spec_MulI c15 (F_spec_AddI F_spec_l08One (F_spec_DivI (F_spec_MulI c15 (F_spec_AddI F_spec_l08One (F_spec_DivI (F_spec_MulI c15 (F_spec_AddI F_spec_l08One (F_spec_DivI (F_spec_MulI c15 (F_spec_AddI F_spec_l08One (F_spec_DivI (F_spec_MulI c15 (F_spec_AddI F_spec_l08One (F_spec_DivI (F_spec_MulI c15 (F_spec_AddI F_spec_l08One (F_spec_DivI (F_spec_MulI c15 F_spec_l08One) (F_spec_Integer ⟨9, rfl⟩)))) (F_spec_Integer ⟨8, rfl⟩)))) (F_spec_Integer ⟨7, rfl⟩)))) (F_spec_Integer ⟨6, rfl⟩)))) (F_spec_Integer ⟨5, rfl⟩)))) (F_spec_Integer ⟨4, rfl⟩)))) (F_spec_Integer ⟨3, rfl⟩)))) (F_spec_Integer ⟨2, rfl⟩)))) (F_spec_Integer ⟨1, rfl⟩))) ⟨1, rfl⟩) c12)) (let c66 := F_spec_SubI (F_spec_l08At a0) (F_spec_LogTwoI c8); .leaf (F_spec_l08Scale (F_spec_l08Widen (F_spec_AddI F_spec_l08One (F_spec_DivI (F_spec_MulI c66 (F_spec_AddI F_spec_l08One (F_spec_DivI (F_spec_MulI c66 (F_spec_AddI F_spec_l08One (F_spec_DivI (F_spec_MulI c66 (F_spec_AddI F_spec_l08One (F_spec_DivI (F_spec_MulI c66 (F_spec_AddI F_spec_l08One (F_spec_DivI (F_spec_MulI c66 (F_spec_AddI F_spec_l08One (F_spec_DivI (F_spec_MulI c66 (F_spec_AddI F_spec_l08One (F_spec_DivI (F_spec_MulI c66 (F_spec_AddI F_spec_l08One (F_spec_DivI (F_spec_MulI c66 (F_spec_AddI F_spec_l08One (F_spec_DivI (F_spec_MulI c66 F_spec_l08One) (F_spec_Integer ⟨9, rfl⟩)))) (F_spec_Integer ⟨8, rfl⟩)))) (F_spec_Integer ⟨7, rfl⟩)))) (F_spec_Integer ⟨6, rfl⟩)))) (F_spec_Integer ⟨5, rfl⟩)))) (F_spec_Integer ⟨4, rfl⟩)))) (F_spec_Integer ⟨3, rfl⟩)))) (F_spec_Integer ⟨2, rfl⟩)))) (F_spec_Integer ⟨1, rfl⟩))) ⟨1, rfl⟩) c8)))))
theorem r_spec_ExpAt (a0 : I64) : Tb294.run B294 [enc a0] (Iv) = (t_spec_ExpAt a0).opt := by kernel_rfl
noncomputable def F_spec_ExpAt : I64 → Iv := fun a0 => (t_spec_ExpAt a0).get
theorem u_spec_ExpAt (a0 : I64) : (t_spec_ExpAt a0).opt = some (F_spec_ExpAt a0) := Tr.tot_get (by kernel_rfl)
noncomputable def E_spec_ExpAt : Ent Tryz.prog := .of1 Tb294 B294 (fun _ => true) F_spec_ExpAt fun a0 _ => (r_spec_ExpAt a0).trans (u_spec_ExpAt a0)
noncomputable def B223 : Bod Tryz.prog := ⟨223, Tryz.f223, Tryz.f223.body.getD .skip, Tryz.func223, by kernel_rfl, by kernel_rfl, Loops.no _ _⟩
noncomputable def Tb223 : Tb Tryz.prog := { T := [Y2, Y27], mix := mix, Es := [ET_impl_MulI, E_impl_DivI, E_impl_Whole, E_impl_Integer, E_impl_at, E_impl_SubI, E_impl_AddI, ET_impl_LogTwoI, E_impl_ValidFix, E_impl_widened, E_impl_scaled], Bs := [], d := 1 }
noncomputable def t_impl_ExpAt (a0 : I64) : Tr (Iv) :=
  .br (!(F_impl_ValidFix a0)) (.leaf F_impl_Whole) (.br (decide (a0.val > 85899345920)) (.leaf F_impl_Whole) (.br (decide (a0.val < (-98784247808))) (.leaf ⟨⟨0, rfl⟩, ⟨1, rfl⟩⟩) (let c8 := (Rng.w .i64 ((Rng.w .i64 ((Rng.w .i64 (2 * a0.val)).val + 2977044472)).val.tdiv 5954088944)); .br (decide ((Rng.w .i64 ((Rng.w .i64 (c8.val * 2)).val * 2977044472)).val > (Rng.w .i64 ((Rng.w .i64 (2 * a0.val)).val + 2977044472)).val)) (let c14 := (Rng.w .i64 (c8.val - 1)); let c17 := F_impl_SubI (F_impl_at a0) (F_impl_LogTwoI c14); let c64 := F_impl_widened (F_impl_AddI (F_impl_Integer ⟨1, rfl⟩) (F_impl_DivI (F_impl_MulI c17 (F_impl_AddI (F_impl_Integer ⟨1, rfl⟩) (F_impl_DivI (F_impl_MulI c17 (F_impl_AddI (F_impl_Integer ⟨1, rfl⟩) (F_impl_DivI (F_impl_MulI c17 (F_impl_AddI (F_impl_Integer ⟨1, rfl⟩) (F_impl_DivI (F_impl_MulI c17 (F_impl_AddI (F_impl_Integer ⟨1, rfl⟩) (F_impl_DivI (F_impl_MulI c17 (F_impl_AddI (F_impl_Integer ⟨1, rfl⟩) (F_impl_DivI (F_impl_MulI c17 (F_impl_AddI (F_impl_Integer ⟨1, rfl⟩) (F_impl_DivI (F_impl_MulI c17 (F_impl_AddI (F_impl_Integer ⟨1, rfl⟩) (F_impl_DivI (F_impl_MulI c17 (F_impl_AddI (F_impl_Integer ⟨1, rfl⟩) (F_impl_DivI (F_impl_MulI c17 (F_impl_Integer ⟨1, rfl⟩)) (F_impl_Integer ⟨9, rfl⟩)))) (F_impl_Integer ⟨8, rfl⟩)))) (F_impl_Integer ⟨7, rfl⟩)))) (F_impl_Integer ⟨6, rfl⟩)))) (F_impl_Integer ⟨5, rfl⟩)))) (F_impl_Integer ⟨4, rfl⟩)))) (F_impl_Integer ⟨3, rfl⟩)))) (F_impl_Integer ⟨2, rfl⟩)))) (F_impl_Integer ⟨1, rfl⟩))) ⟨1, rfl⟩; .br (G_impl_scaled c64 c14) (.leaf (F_impl_scaled c64 c14)) (.bad)) (let c68 := F_impl_SubI (F_impl_at a0) (F_impl_LogTwoI c8); let c115 := F_impl_widened (F_impl_AddI (F_impl_Integer ⟨1, rfl⟩) (F_impl_DivI (F_impl_MulI c68 (F_impl_AddI (F_impl_Integer ⟨1, rfl⟩) (F_impl_DivI (F_impl_MulI c68 (F_impl_AddI (F_impl_Integer ⟨1, rfl⟩) (F_impl_DivI (F_impl_MulI c68 (F_impl_AddI (F_impl_Integer ⟨1, rfl⟩) (F_impl_DivI (F_impl_MulI c68 (F_impl_AddI (F_impl_Integer ⟨1, rfl⟩) (F_impl_DivI (F_impl_MulI c68 (F_impl_AddI (F_impl_Integer ⟨1, rfl⟩) (F_impl_DivI (F_impl_MulI c68 (F_impl_AddI (F_impl_Integer ⟨1, rfl⟩) (F_impl_DivI (F_impl_MulI c68 (F_impl_AddI (F_impl_Integer ⟨1, rfl⟩) (F_impl_DivI (F_impl_MulI c68 (F_impl_AddI (F_impl_Integer ⟨1, rfl⟩) (F_impl_DivI (F_impl_MulI c68 (F_impl_Integer ⟨1, rfl⟩)) (F_impl_Integer ⟨9, rfl⟩)))) (F_impl_Integer ⟨8, rfl⟩)))) (F_impl_Integer ⟨7, rfl⟩)))) (F_impl_Integer ⟨6, rfl⟩)))) (F_impl_Integer ⟨5, rfl⟩)))) (F_impl_Integer ⟨4, rfl⟩)))) (F_impl_Integer ⟨3, rfl⟩)))) (F_impl_Integer ⟨2, rfl⟩)))) (F_impl_Integer ⟨1, rfl⟩))) ⟨1, rfl⟩; .br (G_impl_scaled c115 c8) (.leaf (F_impl_scaled c115 c8)) (.bad)))))
theorem r_impl_ExpAt (a0 : I64) : Tb223.run B223 [enc a0] (Iv) = (t_impl_ExpAt a0).opt := by kernel_rfl
noncomputable def F_impl_ExpAt : I64 → Iv := fun a0 => (t_impl_ExpAt a0).get
noncomputable def G_impl_ExpAt : I64 → Bool := fun a0 => (t_impl_ExpAt a0).opt.isSome
noncomputable def E_impl_ExpAt : Ent Tryz.prog := .of1 Tb223 B223 G_impl_ExpAt F_impl_ExpAt fun a0 h => (r_impl_ExpAt a0).trans (Tr.get_some h)
structure S_spec_TanI_4 where
  x0 : I64
  x1 : I64
  x2 : I64
  x3 : I64
  x4 : I64
instance : Inhabited S_spec_TanI_4 := ⟨⟨default, default, default, default, default⟩⟩
noncomputable def st_spec_TanI_4 (x : S_spec_TanI_4) : St := ⟨[(1, .ptr 0 0), (2, .ptr 1 0), (3, .i64 x.x0)], 45, ⟨[(0, [.i64 x.x1, .i64 x.x2]), (1, [.i64 x.x3, .i64 x.x4])], 2, 0⟩⟩
noncomputable def rd_spec_TanI_4 : St → Option S_spec_TanI_4 := fun s => match s with
  | ⟨[(1, .ptr 0 0), (2, .ptr 1 0), (3, .i64 x0)], 45, ⟨[(0, [.i64 x1, .i64 x2]), (1, [.i64 x3, .i64 x4])], 2, 0⟩⟩ => some ⟨x0, x1, x2, x3, x4⟩
  | _ => none
noncomputable def b_spec_TanI_4 (x : S_spec_TanI_4) : Tr (Lp2 S_spec_TanI_4) :=
  .br (decide (x.x0.val ≤ (Rng.w .i64 ((F_spec_QuarterOf x.x2).val + 1)).val)) (.br ((Rng.w .i64 (bitop .and .i64 x.x0.val 1)).val == 1) (.br (F_spec_OverlapI (F_spec_TurnI x.x0) ⟨x.x1, x.x2⟩) (.leaf (.out ⟨x.x0, x.x1, x.x2, F_spec_Whole.lo, F_spec_Whole.hi⟩)) (.leaf (.again ⟨(Rng.w .i64 (x.x0.val + 1)), x.x1, x.x2, x.x3, x.x4⟩))) (.leaf (.again ⟨(Rng.w .i64 (x.x0.val + 1)), x.x1, x.x2, x.x3, x.x4⟩))) (.leaf (.alt ⟨x.x0, x.x1, x.x2, x.x3, x.x4⟩))
noncomputable def G_spec_TanI_4 (x : S_spec_TanI_4) : Bool := (Lf2 b_spec_TanI_4 1000 x).opt.isSome
noncomputable def L_spec_TanI_4 (x : S_spec_TanI_4) : Tw S_spec_TanI_4 := (Lf2 b_spec_TanI_4 1000 x).get
noncomputable def TbL_spec_TanI_4 : Tb Tryz.prog := { T := [Y2, Y27], mix := mix, Es := [E_spec_OverlapI, E_spec_Whole, ET_spec_QuarterOf, ET_spec_TurnI], Bs := [], d := 1 }
noncomputable def P_spec_TanI_4 : LpF := loopF2 [1, 2, 3] [0, 1] 2 rd_spec_TanI_4 st_spec_TanI_4 .ret (.exit 0) G_spec_TanI_4 L_spec_TanI_4
theorem lok_spec_TanI_4 : LoopOk Tryz.prog (loopAt (Tryz.f68.body.getD .skip) 0) P_spec_TanI_4 := loopF2_ok (t := TbL_spec_TanI_4) (lt := fun _ => none) (body := b_spec_TanI_4) (n := 1000) (by intro h; cases h) (by intro h; cases h) (fun _ _ _ h => by cases h)
  (by intro s x h; unfold rd_spec_TanI_4 at h; split at h <;> cases h; rfl) (fun x b cs h => lk_lt (l := (st_spec_TanI_4 x).mm.blks) (by kernel_rfl) h) (by intro x; kernel_rfl) (fun x h => Tr.get_some h)
noncomputable def B68 : Bod Tryz.prog := ⟨68, Tryz.f68, Tryz.f68.body.getD .skip, Tryz.func68, by kernel_rfl, by kernel_rfl, ⟨ltOf [(4, P_spec_TanI_4)], Loops.of (ks := [4]) (by kernel_rfl) (by
  intro i k h f hf
  match i, h with
  | 0, h => cases h; obtain rfl : P_spec_TanI_4 = f := Option.some.inj hf; exact lok_spec_TanI_4
  | n + 1, h => simp at h)⟩⟩
noncomputable def Tb68 : Tb Tryz.prog := { T := [Y2, Y27], mix := mix, Es := [E_spec_DivI, E_spec_Whole, E_spec_l06Fits, ET_spec_QuarterOf, E_spec_HullI, E_spec_SinAt, E_spec_CosAt], Bs := [], d := 1 }
noncomputable def t_spec_TanI (a0 : Iv) : Tr (Iv) :=
  .br (!(F_spec_l06Fits a0)) (.leaf F_spec_Whole) (let c4 := (Rng.w .i64 ((F_spec_QuarterOf a0.lo).val - 1)); .br (G_spec_TanI_4 ⟨c4, a0.lo, a0.hi, ⟨0, rfl⟩, ⟨0, rfl⟩⟩) (let c14 := L_spec_TanI_4 ⟨c4, a0.lo, a0.hi, ⟨0, rfl⟩, ⟨0, rfl⟩⟩; .br c14.b (.leaf ⟨c14.s.x3, c14.s.x4⟩) (.leaf (F_spec_HullI (F_spec_DivI (F_spec_SinAt c14.s.x1) (F_spec_CosAt c14.s.x1)) (F_spec_DivI (F_spec_SinAt c14.s.x2) (F_spec_CosAt c14.s.x2))))) (.bad))
theorem r_spec_TanI (a0 : Iv) : Tb68.run B68 [enc a0] (Iv) = (t_spec_TanI a0).opt := by kernel_rfl
noncomputable def F_spec_TanI : Iv → Iv := fun a0 => (t_spec_TanI a0).get
noncomputable def G_spec_TanI : Iv → Bool := fun a0 => (t_spec_TanI a0).opt.isSome
noncomputable def E_spec_TanI : Ent Tryz.prog := .of1 Tb68 B68 G_spec_TanI F_spec_TanI fun a0 h => (r_spec_TanI a0).trans (Tr.get_some h)
end
end Go.Proofs.YtecfhpgpojgjkaaGreat.Ev
