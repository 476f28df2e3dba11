import Derived.Test.YtecfhpgpojgjkaaGreatWI
import Derived.Test.YtecfhpgpojgjkaaGreatP27
namespace Go.Proofs.YtecfhpgpojgjkaaGreat.Ev
open Go Go.RowKit
set_option maxRecDepth 100000
set_option linter.unusedVariables false
section
noncomputable def B256 : Bod Tryz.prog := ⟨256, Tryz.f256, Tryz.f256.body.getD .skip, Tryz.func256, by kernel_rfl, by kernel_rfl, Loops.no _ _⟩
noncomputable def Tb256 : Tb Tryz.prog := { T := [Y2, Y27], mix := mix, Es := [E_spec_l04Ok, E_spec_l04Whole, E_spec_l04Make], Bs := [], d := 1 }
noncomputable def t_spec_l16Both (a0 : Iv) : Tr (Iv) :=
  .br (!(F_spec_l04Ok a0)) (.leaf F_spec_l04Whole) (.leaf (F_spec_l04Make (Rng.w .i64 (0 - a0.hi.val)) a0.hi))
theorem r_spec_l16Both (a0 : Iv) : Tb256.run B256 [enc a0] (Iv) = (t_spec_l16Both a0).opt := by kernel_rfl
noncomputable def F_spec_l16Both : Iv → Iv := fun a0 => (t_spec_l16Both a0).get
theorem u_spec_l16Both (a0 : Iv) : (t_spec_l16Both a0).opt = some (F_spec_l16Both a0) := Tr.tot_get (by kernel_rfl)
noncomputable def E_spec_l16Both : Ent Tryz.prog := .of1 Tb256 B256 (fun _ => true) F_spec_l16Both fun a0 _ => (r_spec_l16Both a0).trans (u_spec_l16Both a0)
structure S_spec_l16S_next_11 where
  x0 : I64
  x1 : I64
  x2 : I64
  x3 : I64
  x4 : I64
  x5 : I64
  x6 : I64
  x7 : I64
  x8 : I64
  x9 : I64
  x10 : I64
  x11 : I64
  x12 : I64
  x13 : I64
  x14 : I64
  x15 : I64
  x16 : I64
  x17 : I64
  x18 : I64
  x19 : I64
  x20 : I64
  x21 : I64
  x22 : I64
  x23 : I64
  x24 : I64
  x25 : I64
  x26 : I64
  x27 : I64
  x28 : I64
  x29 : I64
  x30 : I64
  x31 : I64
instance : Inhabited S_spec_l16S_next_11 := ⟨⟨default, default, default, default, default, default, default, default, default, default, default, default, default, default, default, default, default, default, default, default, default, default, default, default, default, default, default, default, default, default, default, default⟩⟩
noncomputable def st_spec_l16S_next_11 (x : S_spec_l16S_next_11) : St := ⟨[(0, .ptr 0 0), (2, .i64 x.x0), (6, .ptr 2 0), (7, .ptr 3 0), (8, .ptr 4 0), (10, .ptr 6 0), (11, .ptr 7 0), (12, .ptr 8 0), (13, .ptr 9 0), (14, .ptr 10 0), (15, .i64 x.x1)], 190, ⟨[(0, [.i64 x.x2, .i64 x.x3, .i64 x.x4, .i64 x.x5, .i64 x.x6, .i64 x.x7, .i64 x.x8, .i64 x.x9, .i64 x.x10, .i64 x.x11, .i64 x.x12, .i64 x.x13, .i64 x.x14, .i64 x.x15]), (2, [.i64 x.x16, .i64 x.x17]), (3, [.i64 x.x18, .i64 x.x19]), (4, [.i64 x.x20, .i64 x.x21]), (6, [.i64 x.x22, .i64 x.x23]), (7, [.i64 x.x24, .i64 x.x25]), (8, [.i64 x.x26, .i64 x.x27]), (9, [.i64 x.x28, .i64 x.x29]), (10, [.i64 x.x30, .i64 x.x31])], 11, 1⟩⟩
noncomputable def rd_spec_l16S_next_11 : St → Option S_spec_l16S_next_11 := fun s => match s with
  | ⟨[(0, .ptr 0 0), (2, .i64 x0), (6, .ptr 2 0), (7, .ptr 3 0), (8, .ptr 4 0), (10, .ptr 6 0), (11, .ptr 7 0), (12, .ptr 8 0), (13, .ptr 9 0), (14, .ptr 10 0), (15, .i64 x1)], 190, ⟨[(0, [.i64 x2, .i64 x3, .i64 x4, .i64 x5, .i64 x6, .i64 x7, .i64 x8, .i64 x9, .i64 x10, .i64 x11, .i64 x12, .i64 x13, .i64 x14, .i64 x15]), (2, [.i64 x16, .i64 x17]), (3, [.i64 x18, .i64 x19]), (4, [.i64 x20, .i64 x21]), (6, [.i64 x22, .i64 x23]), (7, [.i64 x24, .i64 x25]), (8, [.i64 x26, .i64 x27]), (9, [.i64 x28, .i64 x29]), (10, [.i64 x30, .i64 x31])], 11, 1⟩⟩ => some ⟨x0, x1, x2, x3, x4, x5, x6, x7, x8, x9, x10, x11, x12, x13, x14, x15, x16, x17, x18, x19, x20, x21, x22, x23, x24, x25, x26, x27, x28, x29, x30, x31⟩
  | _ => none
noncomputable def b_spec_l16S_next_11 (x : S_spec_l16S_next_11) : Tr (Lp S_spec_l16S_next_11) :=
  .br (decide (x.x1.val < x.x0.val)) (let c29 := F_spec_MulI ⟨x.x20, x.x21⟩ (F_spec_Quotient (Rng.w .i64 ((Rng.w .i64 (2 * x.x1.val)).val + 1)) (Rng.w .i64 (2 * x.x0.val))); let c41 := F_spec_SqrtI (F_spec_SubI ⟨x.x26, x.x27⟩ (F_spec_MulI ⟨x.x12, x.x13⟩ (F_spec_SubI ⟨x.x26, x.x27⟩ (F_spec_MinI (F_spec_SqrI (F_spec_AddI (F_spec_MulI (F_spec_SinI ⟨x.x5, x.x6⟩) (F_spec_CosI c29)) (F_spec_MulI ⟨x.x24, x.x25⟩ (F_spec_SinI c29)))) ⟨x.x26, x.x27⟩)))); let c42 := F_spec_AddI ⟨x.x28, x.x29⟩ c41; let c45 := F_spec_AddI ⟨x.x30, x.x31⟩ (F_spec_DivI ⟨x.x12, x.x13⟩ (F_spec_AddI ⟨x.x26, x.x27⟩ c41)); .leaf (.again ⟨x.x0, (Rng.w .i64 (x.x1.val + 1)), x.x2, x.x3, x.x4, x.x5, x.x6, x.x7, x.x8, x.x9, x.x10, x.x11, x.x12, x.x13, x.x14, x.x15, x.x16, x.x17, x.x18, x.x19, x.x20, x.x21, x.x22, x.x23, x.x24, x.x25, x.x26, x.x27, c42.lo, c42.hi, c45.lo, c45.hi⟩)) (.leaf (.out ⟨x.x0, x.x1, x.x2, x.x3, x.x4, x.x5, x.x6, x.x7, x.x8, x.x9, x.x10, x.x11, x.x12, x.x13, x.x14, x.x15, x.x16, x.x17, x.x18, x.x19, x.x20, x.x21, x.x22, x.x23, x.x24, x.x25, x.x26, x.x27, x.x28, x.x29, x.x30, x.x31⟩))
noncomputable def G_spec_l16S_next_11 (x : S_spec_l16S_next_11) : Bool := (Lf b_spec_l16S_next_11 70 x).opt.isSome
noncomputable def L_spec_l16S_next_11 (x : S_spec_l16S_next_11) : S_spec_l16S_next_11 := (Lf b_spec_l16S_next_11 70 x).get
noncomputable def TbL_spec_l16S_next_11 : Tb Tryz.prog := { T := [Y2, Y27, Y100], mix := mix, Es := [E_spec_CosI, E_spec_MulI, E_spec_DivI, E_spec_SinI, ET_spec_Quotient, E_spec_SubI, E_spec_AddI, E_spec_SqrI, ET_spec_SqrtI, E_spec_MinI], Bs := [], d := 1 }
noncomputable def P_spec_l16S_next_11 : LpF := loopF [0, 2, 6, 7, 8, 10, 11, 12, 13, 14, 15] [0, 2, 3, 4, 6, 7, 8, 9, 10] 11 rd_spec_l16S_next_11 st_spec_l16S_next_11 (.exit 0) G_spec_l16S_next_11 L_spec_l16S_next_11
theorem lok_spec_l16S_next_11 : LoopOk Tryz.prog (loopAt (Tryz.f147.body.getD .skip) 0) P_spec_l16S_next_11 := loopF_ok (t := TbL_spec_l16S_next_11) (lt := fun _ => none) (body := b_spec_l16S_next_11) (n := 70) (by intro h; cases h) (fun _ _ _ h => by cases h)
  (by intro s x h; unfold rd_spec_l16S_next_11 at h; split at h <;> cases h; rfl) (fun x b cs h => lk_lt (l := (st_spec_l16S_next_11 x).mm.blks) (by kernel_rfl) h) (by intro x; kernel_rfl) (fun x h => Tr.get_some h)
noncomputable def B147 : Bod Tryz.prog := ⟨147, Tryz.f147, Tryz.f147.body.getD .skip, Tryz.func147, by kernel_rfl, by kernel_rfl, ⟨ltOf [(11, P_spec_l16S_next_11)], Loops.of (ks := [11]) (by kernel_rfl) (by
  intro i k h f hf
  match i, h with
  | 0, h => cases h; obtain rfl : P_spec_l16S_next_11 = f := Option.some.inj hf; exact lok_spec_l16S_next_11
  | n + 1, h => simp at h)⟩⟩
noncomputable def Tb147 : Tb Tryz.prog := { T := [Y2, Y27, Y100], mix := mix, Es := [E_spec_CosI, E_spec_MulI, E_spec_DivI, E_spec_SinI, ET_spec_Quotient, E_spec_l04Ok, E_spec_l04Whole, E_spec_l16S_angle, E_spec_Integer, E_spec_SubI, E_spec_AddI, E_spec_l16Both], Bs := [], d := 1 }
noncomputable def t_spec_l16S_next (d0 : GeoS) (a0 : Iv) (a1 : I64) : Tr (T2 Iv Iv) :=
  let c1 := F_spec_l16S_angle d0 a0; let c2 := F_spec_SinI c1; let c8 := F_spec_DivI (F_spec_MulI (F_spec_MulI (F_spec_CosI d0.u) (F_spec_CosI d0.v)) (F_spec_SinI a0)) c2; let c14 := F_spec_DivI (F_spec_SubI (F_spec_SinI d0.v) (F_spec_MulI (F_spec_SinI d0.u) (F_spec_CosI c1))) c2; .br (!(F_spec_l04Ok c8)) (.leaf ⟨F_spec_l04Whole, F_spec_l04Whole⟩) (.br (!(F_spec_l04Ok c14)) (.leaf ⟨F_spec_l04Whole, F_spec_l04Whole⟩) (let c21 := F_spec_Integer ⟨1, rfl⟩; let c22 := F_spec_Integer ⟨0, rfl⟩; let c23 := F_spec_Integer ⟨0, rfl⟩; .br (G_spec_l16S_next_11 ⟨a1, ⟨0, rfl⟩, d0.e.a, d0.e.num, d0.e.den, d0.u.lo, d0.u.hi, d0.v.lo, d0.v.hi, d0.l.lo, d0.l.hi, d0.d, d0.ecc.lo, d0.ecc.hi, d0.major.lo, d0.major.hi, ⟨0, rfl⟩, ⟨0, rfl⟩, ⟨0, rfl⟩, ⟨0, rfl⟩, c1.lo, c1.hi, c8.lo, c8.hi, c14.lo, c14.hi, c21.lo, c21.hi, c22.lo, c22.hi, c23.lo, c23.hi⟩) (let c47 := L_spec_l16S_next_11 ⟨a1, ⟨0, rfl⟩, d0.e.a, d0.e.num, d0.e.den, d0.u.lo, d0.u.hi, d0.v.lo, d0.v.hi, d0.l.lo, d0.l.hi, d0.d, d0.ecc.lo, d0.ecc.hi, d0.major.lo, d0.major.hi, ⟨0, rfl⟩, ⟨0, rfl⟩, ⟨0, rfl⟩, ⟨0, rfl⟩, c1.lo, c1.hi, c8.lo, c8.hi, c14.lo, c14.hi, c21.lo, c21.hi, c22.lo, c22.hi, c23.lo, c23.hi⟩; let c53 := F_spec_DivI (F_spec_MulI (F_spec_MulI ⟨c47.x20, c47.x21⟩ ⟨c47.x20, c47.x21⟩) ⟨c47.x20, c47.x21⟩) (F_spec_Integer (Rng.w .i64 ((Rng.w .i64 (24 * c47.x0.val)).val * c47.x0.val))); let c62 := F_spec_DivI ⟨c47.x20, c47.x21⟩ (F_spec_Integer c47.x0); .leaf ⟨(F_spec_AddI ⟨c47.x9, c47.x10⟩ (F_spec_MulI ⟨c47.x22, c47.x23⟩ (F_spec_AddI (F_spec_MulI c62 ⟨c47.x30, c47.x31⟩) (F_spec_l16Both (F_spec_MulI (F_spec_MulI (F_spec_MulI (F_spec_Quotient ⟨3, rfl⟩ ⟨10, rfl⟩) ⟨c47.x12, c47.x13⟩) ⟨c47.x12, c47.x13⟩) c53))))), (F_spec_MulI ⟨c47.x14, c47.x15⟩ (F_spec_AddI (F_spec_MulI c62 ⟨c47.x28, c47.x29⟩) (F_spec_l16Both (F_spec_MulI (F_spec_MulI (F_spec_Quotient ⟨21, rfl⟩ ⟨20, rfl⟩) ⟨c47.x12, c47.x13⟩) c53))))⟩) (.bad)))
theorem r_spec_l16S_next (d0 : GeoS) (a0 : Iv) (a1 : I64) : capRun Tb147 B147 [.ptr 0 0, enc a0, enc a1] [(0, Cap.ec d0)] 1 (T2 Iv Iv) = (t_spec_l16S_next d0 a0 a1).opt := by kernel_rfl
noncomputable def F_spec_l16S_next : GeoS → Iv → I64 → T2 Iv Iv := fun d0 a0 a1 => (t_spec_l16S_next d0 a0 a1).get
noncomputable def G_spec_l16S_next : GeoS → Iv → I64 → Bool := fun d0 a0 a1 => (t_spec_l16S_next d0 a0 a1).opt.isSome
noncomputable def E_spec_l16S_next : Ent Tryz.prog := .p3 Tb147 B147 G_spec_l16S_next F_spec_l16S_next fun d0 a0 a1 h => (r_spec_l16S_next d0 a0 a1).trans (Tr.get_some h)
structure S_impl_geodesic_solve_7 where
  x0 : I64
  x1 : I64
  x2 : I64
  x3 : I64
  x4 : I64
  x5 : I64
  x6 : I64
  x7 : I64
  x8 : I64
  x9 : I64
  x10 : I64
  x11 : I64
  x12 : Bool
  x13 : I64
  x14 : I64
  x15 : I64
  x16 : I64
  x17 : I64
  x18 : I64
  x19 : I64
  x20 : I64
  x21 : I64
  x22 : I64
  x23 : I64
  x24 : I64
  x25 : I64
  x26 : I64
  x27 : I64
  x28 : I64
instance : Inhabited S_impl_geodesic_solve_7 := ⟨⟨default, default, default, default, default, default, default, default, default, default, default, default, default, default, default, default, default, default, default, default, default, default, default, default, default, default, default, default, default⟩⟩
noncomputable def st_impl_geodesic_solve_7 (x : S_impl_geodesic_solve_7) : St := ⟨[(0, .ptr 0 0), (2, .i64 x.x0), (6, .ptr 2 0), (7, .ptr 3 0), (8, .ptr 4 0), (10, .ptr 6 0), (11, .ptr 7 0), (12, .ptr 8 0), (13, .ptr 9 0), (14, .ptr 10 0), (68, .i64 x.x1), (69, .i64 x.x2)], 164, ⟨[(0, [.i64 x.x3, .i64 x.x4, .i64 x.x5, .i64 x.x6, .i64 x.x7, .i64 x.x8, .i64 x.x9, .i64 x.x10, .i64 x.x11, .bool x.x12]), (2, [.i64 x.x13, .i64 x.x14]), (3, [.i64 x.x15, .i64 x.x16]), (4, [.i64 x.x17, .i64 x.x18]), (6, [.i64 x.x19, .i64 x.x20]), (7, [.i64 x.x21, .i64 x.x22]), (8, [.i64 x.x23, .i64 x.x24]), (9, [.i64 x.x25, .i64 x.x26]), (10, [.i64 x.x27, .i64 x.x28])], 11, 1⟩⟩
noncomputable def rd_impl_geodesic_solve_7 : St → Option S_impl_geodesic_solve_7 := fun s => match s with
  | ⟨[(0, .ptr 0 0), (2, .i64 x0), (6, .ptr 2 0), (7, .ptr 3 0), (8, .ptr 4 0), (10, .ptr 6 0), (11, .ptr 7 0), (12, .ptr 8 0), (13, .ptr 9 0), (14, .ptr 10 0), (68, .i64 x1), (69, .i64 x2)], 164, ⟨[(0, [.i64 x3, .i64 x4, .i64 x5, .i64 x6, .i64 x7, .i64 x8, .i64 x9, .i64 x10, .i64 x11, .bool x12]), (2, [.i64 x13, .i64 x14]), (3, [.i64 x15, .i64 x16]), (4, [.i64 x17, .i64 x18]), (6, [.i64 x19, .i64 x20]), (7, [.i64 x21, .i64 x22]), (8, [.i64 x23, .i64 x24]), (9, [.i64 x25, .i64 x26]), (10, [.i64 x27, .i64 x28])], 11, 1⟩⟩ => some ⟨x0, x1, x2, x3, x4, x5, x6, x7, x8, x9, x10, x11, x12, x13, x14, x15, x16, x17, x18, x19, x20, x21, x22, x23, x24, x25, x26, x27, x28⟩
  | _ => none
noncomputable def b_impl_geodesic_solve_7 (x : S_impl_geodesic_solve_7) : Tr (Lp S_impl_geodesic_solve_7) :=
  .br (decide (x.x2.val < x.x1.val)) (let c23 := F_impl_MulI ⟨x.x17, x.x18⟩ (F_impl_Quotient (Rng.w .i64 ((Rng.w .i64 (2 * x.x2.val)).val + 1)) (Rng.w .i64 (2 * x.x0.val))); let c36 := F_impl_SqrtI (F_impl_oneLess (F_impl_MulI ⟨x.x19, x.x20⟩ (F_impl_oneLess (F_impl_MinI (F_impl_SqrI (F_impl_AddI (F_impl_MulI (F_impl_SinI ⟨x.x6, x.x7⟩) (F_impl_CosI c23)) (F_impl_MulI ⟨x.x23, x.x24⟩ (F_impl_SinI c23)))) (F_impl_Integer ⟨1, rfl⟩))))); let c37 := F_impl_AddI ⟨x.x25, x.x26⟩ c36; let c41 := F_impl_AddI ⟨x.x27, x.x28⟩ (F_impl_DivI ⟨x.x19, x.x20⟩ (F_impl_AddI (F_impl_Integer ⟨1, rfl⟩) c36)); .leaf (.again ⟨x.x0, x.x1, (Rng.w .i64 (x.x2.val + 1)), x.x3, x.x4, x.x5, x.x6, x.x7, x.x8, x.x9, x.x10, x.x11, x.x12, x.x13, x.x14, x.x15, x.x16, x.x17, x.x18, x.x19, x.x20, x.x21, x.x22, x.x23, x.x24, c37.lo, c37.hi, c41.lo, c41.hi⟩)) (.leaf (.out ⟨x.x0, x.x1, x.x2, x.x3, x.x4, x.x5, x.x6, x.x7, x.x8, x.x9, x.x10, x.x11, x.x12, x.x13, x.x14, x.x15, x.x16, x.x17, x.x18, x.x19, x.x20, x.x21, x.x22, x.x23, x.x24, x.x25, x.x26, x.x27, x.x28⟩))
noncomputable def G_impl_geodesic_solve_7 (x : S_impl_geodesic_solve_7) : Bool := (Lf b_impl_geodesic_solve_7 70 x).opt.isSome
noncomputable def L_impl_geodesic_solve_7 (x : S_impl_geodesic_solve_7) : S_impl_geodesic_solve_7 := (Lf b_impl_geodesic_solve_7 70 x).get
noncomputable def TbL_impl_geodesic_solve_7 : Tb Tryz.prog := { T := [Y2, Y27, Y110], mix := mix, Es := [E_impl_CosI, ET_impl_MulI, E_impl_DivI, E_impl_SinI, ET_impl_Quotient, E_impl_oneLess, E_impl_Integer, E_impl_AddI, ET_impl_SqrtI, ET_impl_SqrI, E_impl_MinI], Bs := [], d := 1 }
noncomputable def P_impl_geodesic_solve_7 : LpF := loopF [0, 2, 6, 7, 8, 10, 11, 12, 13, 14, 68, 69] [0, 2, 3, 4, 6, 7, 8, 9, 10] 11 rd_impl_geodesic_solve_7 st_impl_geodesic_solve_7 (.exit 0) G_impl_geodesic_solve_7 L_impl_geodesic_solve_7
theorem lok_impl_geodesic_solve_7 : LoopOk Tryz.prog (loopAt (Tryz.f149.body.getD .skip) 0) P_impl_geodesic_solve_7 := loopF_ok (t := TbL_impl_geodesic_solve_7) (lt := fun _ => none) (body := b_impl_geodesic_solve_7) (n := 70) (by intro h; cases h) (fun _ _ _ h => by cases h)
  (by intro s x h; unfold rd_impl_geodesic_solve_7 at h; split at h <;> cases h; rfl) (fun x b cs h => lk_lt (l := (st_impl_geodesic_solve_7 x).mm.blks) (by kernel_rfl) h) (by intro x; kernel_rfl) (fun x h => Tr.get_some h)
noncomputable def B149 : Bod Tryz.prog := ⟨149, Tryz.f149, Tryz.f149.body.getD .skip, Tryz.func149, by kernel_rfl, by kernel_rfl, ⟨ltOf [(7, P_impl_geodesic_solve_7)], Loops.of (ks := [7]) (by kernel_rfl) (by
  intro i k h f hf
  match i, h with
  | 0, h => cases h; obtain rfl : P_impl_geodesic_solve_7 = f := Option.some.inj hf; exact lok_impl_geodesic_solve_7
  | n + 1, h => simp at h)⟩⟩
noncomputable def Tb149 : Tb Tryz.prog := { T := [Y2, Y27, Y49, Y110], mix := mix, Es := [E_impl_CosI, ET_impl_MulI, E_impl_DivI, E_impl_SinI, ET_impl_Quotient, E_impl_EccI, E_impl_Integer, E_impl_geodesic_reduced, E_impl_SubI, E_impl_AddI, E_impl_MajorI, E_impl_over, E_impl_symmetric], Bs := [], d := 1 }
noncomputable def t_impl_geodesic_solve (d0 : Geo) (a0 : Iv) (a1 : I64) : Tr (T2 Iv Iv) :=
  let c1 := F_impl_geodesic_reduced d0 a0; let c2 := F_impl_SinI c1; let c3 := F_impl_EccI d0.e; let c9 := F_impl_DivI (F_impl_MulI (F_impl_MulI (F_impl_CosI d0.u) (F_impl_CosI d0.v)) (F_impl_SinI a0)) c2; let c15 := F_impl_DivI (F_impl_SubI (F_impl_SinI d0.v) (F_impl_MulI (F_impl_SinI d0.u) (F_impl_CosI c1))) c2; let c16 := F_impl_Integer ⟨0, rfl⟩; let c17 := F_impl_Integer ⟨0, rfl⟩; .br (G_impl_geodesic_solve_7 ⟨a1, a1, ⟨0, rfl⟩, d0.e.a, d0.e.num, d0.e.den, d0.u.lo, d0.u.hi, d0.v.lo, d0.v.hi, d0.lon.lo, d0.lon.hi, d0.back, ⟨0, rfl⟩, ⟨0, rfl⟩, ⟨0, rfl⟩, ⟨0, rfl⟩, c1.lo, c1.hi, c3.lo, c3.hi, c9.lo, c9.hi, c15.lo, c15.hi, c16.lo, c16.hi, c17.lo, c17.hi⟩) (let c43 := L_impl_geodesic_solve_7 ⟨a1, a1, ⟨0, rfl⟩, d0.e.a, d0.e.num, d0.e.den, d0.u.lo, d0.u.hi, d0.v.lo, d0.v.hi, d0.lon.lo, d0.lon.hi, d0.back, ⟨0, rfl⟩, ⟨0, rfl⟩, ⟨0, rfl⟩, ⟨0, rfl⟩, c1.lo, c1.hi, c3.lo, c3.hi, c9.lo, c9.hi, c15.lo, c15.hi, c16.lo, c16.hi, c17.lo, c17.hi⟩; let c48 := F_impl_over (F_impl_MulI (F_impl_MulI ⟨c43.x17, c43.x18⟩ ⟨c43.x17, c43.x18⟩) ⟨c43.x17, c43.x18⟩) (Rng.w .i64 ((Rng.w .i64 (24 * c43.x0.val)).val * c43.x0.val)); let c56 := F_impl_over ⟨c43.x17, c43.x18⟩ c43.x0; .leaf ⟨(F_impl_AddI ⟨c43.x10, c43.x11⟩ (F_impl_MulI ⟨c43.x21, c43.x22⟩ (F_impl_AddI (F_impl_MulI c56 ⟨c43.x27, c43.x28⟩) (F_impl_symmetric (F_impl_MulI (F_impl_MulI (F_impl_MulI (F_impl_Quotient ⟨3, rfl⟩ ⟨10, rfl⟩) ⟨c43.x19, c43.x20⟩) ⟨c43.x19, c43.x20⟩) c48))))), (F_impl_MulI (F_impl_MajorI ⟨c43.x3, c43.x4, c43.x5⟩) (F_impl_AddI (F_impl_MulI c56 ⟨c43.x25, c43.x26⟩) (F_impl_symmetric (F_impl_MulI (F_impl_MulI (F_impl_Quotient ⟨21, rfl⟩ ⟨20, rfl⟩) ⟨c43.x19, c43.x20⟩) c48))))⟩) (.bad)
theorem r_impl_geodesic_solve (d0 : Geo) (a0 : Iv) (a1 : I64) : capRun Tb149 B149 [.ptr 0 0, enc a0, enc a1] [(0, Cap.ec d0)] 1 (T2 Iv Iv) = (t_impl_geodesic_solve d0 a0 a1).opt := by kernel_rfl
noncomputable def F_impl_geodesic_solve : Geo → Iv → I64 → T2 Iv Iv := fun d0 a0 a1 => (t_impl_geodesic_solve d0 a0 a1).get
noncomputable def G_impl_geodesic_solve : Geo → Iv → I64 → Bool := fun d0 a0 a1 => (t_impl_geodesic_solve d0 a0 a1).opt.isSome
noncomputable def E_impl_geodesic_solve : Ent Tryz.prog := .p3 Tb149 B149 G_impl_geodesic_solve F_impl_geodesic_solve fun d0 a0 a1 h => (r_impl_geodesic_solve d0 a0 a1).trans (Tr.get_some h)
end
end Go.Proofs.YtecfhpgpojgjkaaGreat.Ev
