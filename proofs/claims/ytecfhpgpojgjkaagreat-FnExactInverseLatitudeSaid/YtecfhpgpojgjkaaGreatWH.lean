import Derived.Test.YtecfhpgpojgjkaaGreatWG
import Derived.Test.YtecfhpgpojgjkaaGreatP25
namespace Go.Proofs.YtecfhpgpojgjkaaGreat.Ev
open Go Go.RowKit
set_option maxRecDepth 100000
set_option linter.unusedVariables false
section
structure S_spec_l13Inverse_10 where
  x0 : I64
  x1 : I64
  x2 : I64
  x3 : I64
  x4 : I64
  x5 : I64
  x6 : I64
  x7 : I64
  x8 : I64
  x9 : I64
  x10 : I64
  x11 : I64
instance : Inhabited S_spec_l13Inverse_10 := ⟨⟨default, default, default, default, default, default, default, default, default, default, default, default⟩⟩
noncomputable def st_spec_l13Inverse_10 (x : S_spec_l13Inverse_10) : St := ⟨[(0, .i64 x.x0), (4, .ptr 0 0), (5, .ptr 1 0), (6, .ptr 2 0), (8, .i64 x.x1), (11, .ptr 5 0), (12, .i64 x.x2)], 113, ⟨[(0, [.i64 x.x3, .i64 x.x4, .i64 x.x5]), (1, [.i64 x.x6, .i64 x.x7]), (2, [.i64 x.x8, .i64 x.x9]), (5, [.i64 x.x10, .i64 x.x11])], 6, 0⟩⟩
noncomputable def rd_spec_l13Inverse_10 : St → Option S_spec_l13Inverse_10 := fun s => match s with
  | ⟨[(0, .i64 x0), (4, .ptr 0 0), (5, .ptr 1 0), (6, .ptr 2 0), (8, .i64 x1), (11, .ptr 5 0), (12, .i64 x2)], 113, ⟨[(0, [.i64 x3, .i64 x4, .i64 x5]), (1, [.i64 x6, .i64 x7]), (2, [.i64 x8, .i64 x9]), (5, [.i64 x10, .i64 x11])], 6, 0⟩⟩ => some ⟨x0, x1, x2, x3, x4, x5, x6, x7, x8, x9, x10, x11⟩
  | _ => none
noncomputable def b_spec_l13Inverse_10 (x : S_spec_l13Inverse_10) : Tr (Lp S_spec_l13Inverse_10) :=
  .br (decide ((Rng.w .i64 (x.x2.val - x.x10.val)).val > 1)) (let c13 := (Rng.w .i64 ((Rng.w .i64 (x.x10.val + x.x2.val)).val.fdiv 2)); let c14 := F_spec_l13At x.x0 ⟨x.x3, x.x4, x.x5⟩ c13; .br (F_spec_l04Ok c14) (.br (decide (c14.hi.val < x.x6.val)) (.leaf (.again ⟨x.x0, x.x1, x.x2, x.x3, x.x4, x.x5, x.x6, x.x7, x.x8, x.x9, c13, x.x11⟩)) (.leaf (.again ⟨x.x0, x.x1, c13, x.x3, x.x4, x.x5, x.x6, x.x7, x.x8, x.x9, x.x10, x.x11⟩))) (.leaf (.again ⟨x.x0, x.x1, c13, x.x3, x.x4, x.x5, x.x6, x.x7, x.x8, x.x9, x.x10, x.x11⟩))) (.leaf (.out ⟨x.x0, x.x1, x.x2, x.x3, x.x4, x.x5, x.x6, x.x7, x.x8, x.x9, x.x10, x.x11⟩))
noncomputable def G_spec_l13Inverse_10 (x : S_spec_l13Inverse_10) : Bool := (Lf b_spec_l13Inverse_10 70 x).opt.isSome
noncomputable def L_spec_l13Inverse_10 (x : S_spec_l13Inverse_10) : S_spec_l13Inverse_10 := (Lf b_spec_l13Inverse_10 70 x).get
noncomputable def TbL_spec_l13Inverse_10 : Tb Tryz.prog := { T := [Y2, Y27, Y49], mix := mix, Es := [E_spec_l04Ok, E_spec_l13At], Bs := [], d := 1 }
noncomputable def P_spec_l13Inverse_10 : LpF := loopF [0, 4, 5, 6, 8, 11, 12] [0, 1, 2, 5] 6 rd_spec_l13Inverse_10 st_spec_l13Inverse_10 (.exit 0) G_spec_l13Inverse_10 L_spec_l13Inverse_10
theorem lok_spec_l13Inverse_10 : LoopOk Tryz.prog (loopAt (Tryz.f126.body.getD .skip) 0) P_spec_l13Inverse_10 := loopF_ok (t := TbL_spec_l13Inverse_10) (lt := fun _ => none) (body := b_spec_l13Inverse_10) (n := 70) (by intro h; cases h) (fun _ _ _ h => by cases h)
  (by intro s x h; unfold rd_spec_l13Inverse_10 at h; split at h <;> cases h; rfl) (fun x b cs h => lk_lt (l := (st_spec_l13Inverse_10 x).mm.blks) (by kernel_rfl) h) (by intro x; kernel_rfl) (fun x h => Tr.get_some h)
structure S_spec_l13Inverse_17 where
  x0 : I64
  x1 : I64
  x2 : I64
  x3 : I64
  x4 : I64
  x5 : I64
  x6 : I64
  x7 : I64
  x8 : I64
  x9 : I64
  x10 : I64
instance : Inhabited S_spec_l13Inverse_17 := ⟨⟨default, default, default, default, default, default, default, default, default, default, default⟩⟩
noncomputable def st_spec_l13Inverse_17 (x : S_spec_l13Inverse_17) : St := ⟨[(0, .i64 x.x0), (4, .ptr 0 0), (5, .ptr 1 0), (6, .ptr 2 0), (11, .ptr 5 0), (15, .i64 x.x1)], 113, ⟨[(0, [.i64 x.x2, .i64 x.x3, .i64 x.x4]), (1, [.i64 x.x5, .i64 x.x6]), (2, [.i64 x.x7, .i64 x.x8]), (5, [.i64 x.x9, .i64 x.x10])], 6, 0⟩⟩
noncomputable def rd_spec_l13Inverse_17 : St → Option S_spec_l13Inverse_17 := fun s => match s with
  | ⟨[(0, .i64 x0), (4, .ptr 0 0), (5, .ptr 1 0), (6, .ptr 2 0), (11, .ptr 5 0), (15, .i64 x1)], 113, ⟨[(0, [.i64 x2, .i64 x3, .i64 x4]), (1, [.i64 x5, .i64 x6]), (2, [.i64 x7, .i64 x8]), (5, [.i64 x9, .i64 x10])], 6, 0⟩⟩ => some ⟨x0, x1, x2, x3, x4, x5, x6, x7, x8, x9, x10⟩
  | _ => none
noncomputable def b_spec_l13Inverse_17 (x : S_spec_l13Inverse_17) : Tr (Lp S_spec_l13Inverse_17) :=
  .br (decide ((Rng.w .i64 (x.x10.val - x.x1.val)).val > 1)) (let c21 := (Rng.w .i64 ((Rng.w .i64 (x.x1.val + x.x10.val)).val.fdiv 2)); let c22 := F_spec_l13At x.x0 ⟨x.x2, x.x3, x.x4⟩ c21; .br (F_spec_l04Ok c22) (.br (decide (c22.lo.val > x.x6.val)) (.leaf (.again ⟨x.x0, x.x1, x.x2, x.x3, x.x4, x.x5, x.x6, x.x7, x.x8, x.x9, c21⟩)) (.leaf (.again ⟨x.x0, c21, x.x2, x.x3, x.x4, x.x5, x.x6, x.x7, x.x8, x.x9, x.x10⟩))) (.leaf (.again ⟨x.x0, c21, x.x2, x.x3, x.x4, x.x5, x.x6, x.x7, x.x8, x.x9, x.x10⟩))) (.leaf (.out ⟨x.x0, x.x1, x.x2, x.x3, x.x4, x.x5, x.x6, x.x7, x.x8, x.x9, x.x10⟩))
noncomputable def G_spec_l13Inverse_17 (x : S_spec_l13Inverse_17) : Bool := (Lf b_spec_l13Inverse_17 70 x).opt.isSome
noncomputable def L_spec_l13Inverse_17 (x : S_spec_l13Inverse_17) : S_spec_l13Inverse_17 := (Lf b_spec_l13Inverse_17 70 x).get
noncomputable def TbL_spec_l13Inverse_17 : Tb Tryz.prog := { T := [Y2, Y27, Y49], mix := mix, Es := [E_spec_l04Ok, E_spec_l13At], Bs := [], d := 1 }
noncomputable def P_spec_l13Inverse_17 : LpF := loopF [0, 4, 5, 6, 11, 15] [0, 1, 2, 5] 6 rd_spec_l13Inverse_17 st_spec_l13Inverse_17 (.exit 2) G_spec_l13Inverse_17 L_spec_l13Inverse_17
theorem lok_spec_l13Inverse_17 : LoopOk Tryz.prog (loopAt (Tryz.f126.body.getD .skip) 1) P_spec_l13Inverse_17 := loopF_ok (t := TbL_spec_l13Inverse_17) (lt := fun _ => none) (body := b_spec_l13Inverse_17) (n := 70) (by intro h; cases h) (fun _ _ _ h => by cases h)
  (by intro s x h; unfold rd_spec_l13Inverse_17 at h; split at h <;> cases h; rfl) (fun x b cs h => lk_lt (l := (st_spec_l13Inverse_17 x).mm.blks) (by kernel_rfl) h) (by intro x; kernel_rfl) (fun x h => Tr.get_some h)
noncomputable def B126 : Bod Tryz.prog := ⟨126, Tryz.f126, Tryz.f126.body.getD .skip, Tryz.func126, by kernel_rfl, by kernel_rfl, ⟨ltOf [(10, P_spec_l13Inverse_10), (17, P_spec_l13Inverse_17)], Loops.of (ks := [10, 17]) (by kernel_rfl) (by
  intro i k h f hf
  match i, h with
  | 0, h => cases h; obtain rfl : P_spec_l13Inverse_10 = f := Option.some.inj hf; exact lok_spec_l13Inverse_10
  | 1, h => cases h; obtain rfl : P_spec_l13Inverse_17 = f := Option.some.inj hf; exact lok_spec_l13Inverse_17
  | n + 2, h => simp at h)⟩⟩
noncomputable def Tb126 : Tb Tryz.prog := { T := [Y2, Y27, Y49], mix := mix, Es := [E_spec_l04Ok, E_spec_l13End, E_spec_l13At], Bs := [], d := 1 }
noncomputable def t_spec_l13Inverse (a0 : I64) (a1 : Ell) (a2 : Iv) : Tr (T2 Iv I64) :=
  .br (!(F_spec_l04Ok a2)) (.leaf ⟨⟨⟨0, rfl⟩, ⟨0, rfl⟩⟩, ⟨9, rfl⟩⟩) (let c3 := F_spec_l13At a0 a1 F_spec_l13End; let c5 := F_spec_l13At a0 a1 (Rng.w .i64 (0 - F_spec_l13End.val)); .br (F_spec_l04Ok c3) (.br (decide (c3.hi.val < a2.lo.val)) (.leaf ⟨⟨⟨0, rfl⟩, ⟨0, rfl⟩⟩, ⟨8, rfl⟩⟩) (.br (F_spec_l04Ok c5) (.br (decide (c5.lo.val > a2.hi.val)) (.leaf ⟨⟨⟨0, rfl⟩, ⟨0, rfl⟩⟩, ⟨8, rfl⟩⟩) (let c10 := (Rng.w .i64 (0 - F_spec_l13End.val)); .br (G_spec_l13Inverse_10 ⟨a0, F_spec_l13End, F_spec_l13End, a1.a, a1.num, a1.den, a2.lo, a2.hi, ⟨0, rfl⟩, ⟨0, rfl⟩, c10, F_spec_l13End⟩) (let c17 := L_spec_l13Inverse_10 ⟨a0, F_spec_l13End, F_spec_l13End, a1.a, a1.num, a1.den, a2.lo, a2.hi, ⟨0, rfl⟩, ⟨0, rfl⟩, c10, F_spec_l13End⟩; let c18 := (Rng.w .i64 (0 - c17.x1.val)); .br (G_spec_l13Inverse_17 ⟨c17.x0, c18, c17.x3, c17.x4, c17.x5, c17.x6, c17.x7, c17.x8, c17.x9, c17.x10, c17.x11⟩) (let c25 := L_spec_l13Inverse_17 ⟨c17.x0, c18, c17.x3, c17.x4, c17.x5, c17.x6, c17.x7, c17.x8, c17.x9, c17.x10, c17.x11⟩; .leaf ⟨⟨c25.x9, c25.x10⟩, ⟨0, rfl⟩⟩) (.bad)) (.bad))) (let c26 := (Rng.w .i64 (0 - F_spec_l13End.val)); .br (G_spec_l13Inverse_10 ⟨a0, F_spec_l13End, F_spec_l13End, a1.a, a1.num, a1.den, a2.lo, a2.hi, ⟨0, rfl⟩, ⟨0, rfl⟩, c26, F_spec_l13End⟩) (let c27 := L_spec_l13Inverse_10 ⟨a0, F_spec_l13End, F_spec_l13End, a1.a, a1.num, a1.den, a2.lo, a2.hi, ⟨0, rfl⟩, ⟨0, rfl⟩, c26, F_spec_l13End⟩; let c28 := (Rng.w .i64 (0 - c27.x1.val)); .br (G_spec_l13Inverse_17 ⟨c27.x0, c28, c27.x3, c27.x4, c27.x5, c27.x6, c27.x7, c27.x8, c27.x9, c27.x10, c27.x11⟩) (let c29 := L_spec_l13Inverse_17 ⟨c27.x0, c28, c27.x3, c27.x4, c27.x5, c27.x6, c27.x7, c27.x8, c27.x9, c27.x10, c27.x11⟩; .leaf ⟨⟨c29.x9, c29.x10⟩, ⟨0, rfl⟩⟩) (.bad)) (.bad)))) (.br (F_spec_l04Ok c5) (.br (decide (c5.lo.val > a2.hi.val)) (.leaf ⟨⟨⟨0, rfl⟩, ⟨0, rfl⟩⟩, ⟨8, rfl⟩⟩) (let c32 := (Rng.w .i64 (0 - F_spec_l13End.val)); .br (G_spec_l13Inverse_10 ⟨a0, F_spec_l13End, F_spec_l13End, a1.a, a1.num, a1.den, a2.lo, a2.hi, ⟨0, rfl⟩, ⟨0, rfl⟩, c32, F_spec_l13End⟩) (let c33 := L_spec_l13Inverse_10 ⟨a0, F_spec_l13End, F_spec_l13End, a1.a, a1.num, a1.den, a2.lo, a2.hi, ⟨0, rfl⟩, ⟨0, rfl⟩, c32, F_spec_l13End⟩; let c34 := (Rng.w .i64 (0 - c33.x1.val)); .br (G_spec_l13Inverse_17 ⟨c33.x0, c34, c33.x3, c33.x4, c33.x5, c33.x6, c33.x7, c33.x8, c33.x9, c33.x10, c33.x11⟩) (let c35 := L_spec_l13Inverse_17 ⟨c33.x0, c34, c33.x3, c33.x4, c33.x5, c33.x6, c33.x7, c33.x8, c33.x9, c33.x10, c33.x11⟩; .leaf ⟨⟨c35.x9, c35.x10⟩, ⟨0, rfl⟩⟩) (.bad)) (.bad))) (let c36 := (Rng.w .i64 (0 - F_spec_l13End.val)); .br (G_spec_l13Inverse_10 ⟨a0, F_spec_l13End, F_spec_l13End, a1.a, a1.num, a1.den, a2.lo, a2.hi, ⟨0, rfl⟩, ⟨0, rfl⟩, c36, F_spec_l13End⟩) (let c37 := L_spec_l13Inverse_10 ⟨a0, F_spec_l13End, F_spec_l13End, a1.a, a1.num, a1.den, a2.lo, a2.hi, ⟨0, rfl⟩, ⟨0, rfl⟩, c36, F_spec_l13End⟩; let c38 := (Rng.w .i64 (0 - c37.x1.val)); .br (G_spec_l13Inverse_17 ⟨c37.x0, c38, c37.x3, c37.x4, c37.x5, c37.x6, c37.x7, c37.x8, c37.x9, c37.x10, c37.x11⟩) (let c39 := L_spec_l13Inverse_17 ⟨c37.x0, c38, c37.x3, c37.x4, c37.x5, c37.x6, c37.x7, c37.x8, c37.x9, c37.x10, c37.x11⟩; .leaf ⟨⟨c39.x9, c39.x10⟩, ⟨0, rfl⟩⟩) (.bad)) (.bad))))
theorem r_spec_l13Inverse (a0 : I64) (a1 : Ell) (a2 : Iv) : Tb126.run B126 [enc a0, enc a1, enc a2] (T2 Iv I64) = (t_spec_l13Inverse a0 a1 a2).opt := by kernel_rfl
noncomputable def F_spec_l13Inverse : I64 → Ell → Iv → T2 Iv I64 := fun a0 a1 a2 => (t_spec_l13Inverse a0 a1 a2).get
noncomputable def G_spec_l13Inverse : I64 → Ell → Iv → Bool := fun a0 a1 a2 => (t_spec_l13Inverse a0 a1 a2).opt.isSome
noncomputable def E_spec_l13Inverse : Ent Tryz.prog := .of3 Tb126 B126 G_spec_l13Inverse F_spec_l13Inverse fun a0 a1 a2 h => (r_spec_l13Inverse a0 a1 a2).trans (Tr.get_some h)
noncomputable def B128 : Bod Tryz.prog := ⟨128, Tryz.f128, Tryz.f128.body.getD .skip, Tryz.func128, by kernel_rfl, by kernel_rfl, Loops.no _ _⟩
noncomputable def Tb128 : Tb Tryz.prog := { T := [Y2, Y27], mix := mix, Es := [E_impl_ValidInterval], Bs := [], d := 1 }
noncomputable def t_impl_isBelow (a0 : Iv) (a1 : I64) : Tr (Bool) :=
  .br (F_impl_ValidInterval a0) (.leaf (decide (a0.hi.val < a1.val))) (.leaf false)
theorem r_impl_isBelow (a0 : Iv) (a1 : I64) : Tb128.run B128 [enc a0, enc a1] (Bool) = (t_impl_isBelow a0 a1).opt := by kernel_rfl
noncomputable def F_impl_isBelow : Iv → I64 → Bool := fun a0 a1 => (t_impl_isBelow a0 a1).get
theorem u_impl_isBelow (a0 : Iv) (a1 : I64) : (t_impl_isBelow a0 a1).opt = some (F_impl_isBelow a0 a1) := Tr.tot_get (by kernel_rfl)
noncomputable def E_impl_isBelow : Ent Tryz.prog := .of2 Tb128 B128 (fun _ _ => true) F_impl_isBelow fun a0 a1 _ => (r_impl_isBelow a0 a1).trans (u_impl_isBelow a0 a1)
noncomputable def B129 : Bod Tryz.prog := ⟨129, Tryz.f129, Tryz.f129.body.getD .skip, Tryz.func129, by kernel_rfl, by kernel_rfl, Loops.no _ _⟩
noncomputable def Tb129 : Tb Tryz.prog := { T := [Y2, Y27], mix := mix, Es := [E_impl_ValidInterval], Bs := [], d := 1 }
noncomputable def t_impl_isAbove (a0 : Iv) (a1 : I64) : Tr (Bool) :=
  .br (F_impl_ValidInterval a0) (.leaf (decide (a0.lo.val > a1.val))) (.leaf false)
theorem r_impl_isAbove (a0 : Iv) (a1 : I64) : Tb129.run B129 [enc a0, enc a1] (Bool) = (t_impl_isAbove a0 a1).opt := by kernel_rfl
noncomputable def F_impl_isAbove : Iv → I64 → Bool := fun a0 a1 => (t_impl_isAbove a0 a1).get
theorem u_impl_isAbove (a0 : Iv) (a1 : I64) : (t_impl_isAbove a0 a1).opt = some (F_impl_isAbove a0 a1) := Tr.tot_get (by kernel_rfl)
noncomputable def E_impl_isAbove : Ent Tryz.prog := .of2 Tb129 B129 (fun _ _ => true) F_impl_isAbove fun a0 a1 _ => (r_impl_isAbove a0 a1).trans (u_impl_isAbove a0 a1)
structure S_impl_inverseLatitude_2 where
  x0 : I64
  x1 : I64
  x2 : I64
  x3 : I64
  x4 : I64
  x5 : I64
  x6 : I64
  x7 : I64
  x8 : I64
  x9 : I64
instance : Inhabited S_impl_inverseLatitude_2 := ⟨⟨default, default, default, default, default, default, default, default, default, default⟩⟩
noncomputable def st_impl_inverseLatitude_2 (x : S_impl_inverseLatitude_2) : St := ⟨[(0, .i64 x.x0), (4, .ptr 0 0), (5, .ptr 1 0), (6, .ptr 2 0), (7, .i64 x.x1), (8, .i64 x.x2)], 57, ⟨[(0, [.i64 x.x3, .i64 x.x4, .i64 x.x5]), (1, [.i64 x.x6, .i64 x.x7]), (2, [.i64 x.x8, .i64 x.x9])], 3, 0⟩⟩
noncomputable def rd_impl_inverseLatitude_2 : St → Option S_impl_inverseLatitude_2 := fun s => match s with
  | ⟨[(0, .i64 x0), (4, .ptr 0 0), (5, .ptr 1 0), (6, .ptr 2 0), (7, .i64 x1), (8, .i64 x2)], 57, ⟨[(0, [.i64 x3, .i64 x4, .i64 x5]), (1, [.i64 x6, .i64 x7]), (2, [.i64 x8, .i64 x9])], 3, 0⟩⟩ => some ⟨x0, x1, x2, x3, x4, x5, x6, x7, x8, x9⟩
  | _ => none
noncomputable def b_impl_inverseLatitude_2 (x : S_impl_inverseLatitude_2) : Tr (Lp S_impl_inverseLatitude_2) :=
  .br (decide ((Rng.w .i64 (x.x2.val - x.x1.val)).val > 1)) (let c6 := (Rng.w .i64 ((Rng.w .i64 (x.x1.val + x.x2.val)).val.fdiv 2)); .br (F_impl_isBelow (F_impl_LatitudeAt x.x0 ⟨x.x3, x.x4, x.x5⟩ c6) x.x6) (.leaf (.again ⟨x.x0, c6, x.x2, x.x3, x.x4, x.x5, x.x6, x.x7, x.x8, x.x9⟩)) (.leaf (.again ⟨x.x0, x.x1, c6, x.x3, x.x4, x.x5, x.x6, x.x7, x.x8, x.x9⟩))) (.leaf (.out ⟨x.x0, x.x1, x.x2, x.x3, x.x4, x.x5, x.x6, x.x7, x.x8, x.x9⟩))
noncomputable def G_impl_inverseLatitude_2 (x : S_impl_inverseLatitude_2) : Bool := (Lf b_impl_inverseLatitude_2 70 x).opt.isSome
noncomputable def L_impl_inverseLatitude_2 (x : S_impl_inverseLatitude_2) : S_impl_inverseLatitude_2 := (Lf b_impl_inverseLatitude_2 70 x).get
noncomputable def TbL_impl_inverseLatitude_2 : Tb Tryz.prog := { T := [Y2, Y27, Y49], mix := mix, Es := [E_impl_LatitudeAt, E_impl_isBelow], Bs := [], d := 1 }
noncomputable def P_impl_inverseLatitude_2 : LpF := loopF [0, 4, 5, 6, 7, 8] [0, 1, 2] 3 rd_impl_inverseLatitude_2 st_impl_inverseLatitude_2 (.exit 0) G_impl_inverseLatitude_2 L_impl_inverseLatitude_2
theorem lok_impl_inverseLatitude_2 : LoopOk Tryz.prog (loopAt (Tryz.f130.body.getD .skip) 0) P_impl_inverseLatitude_2 := loopF_ok (t := TbL_impl_inverseLatitude_2) (lt := fun _ => none) (body := b_impl_inverseLatitude_2) (n := 70) (by intro h; cases h) (fun _ _ _ h => by cases h)
  (by intro s x h; unfold rd_impl_inverseLatitude_2 at h; split at h <;> cases h; rfl) (fun x b cs h => lk_lt (l := (st_impl_inverseLatitude_2 x).mm.blks) (by kernel_rfl) h) (by intro x; kernel_rfl) (fun x h => Tr.get_some h)
structure S_impl_inverseLatitude_9 where
  x0 : I64
  x1 : I64
  x2 : I64
  x3 : I64
  x4 : I64
  x5 : I64
  x6 : I64
  x7 : I64
  x8 : I64
  x9 : I64
  x10 : I64
  x11 : I64
instance : Inhabited S_impl_inverseLatitude_9 := ⟨⟨default, default, default, default, default, default, default, default, default, default, default, default⟩⟩
noncomputable def st_impl_inverseLatitude_9 (x : S_impl_inverseLatitude_9) : St := ⟨[(0, .i64 x.x0), (4, .ptr 0 0), (5, .ptr 1 0), (6, .ptr 2 0), (7, .i64 x.x1), (8, .i64 x.x2), (10, .ptr 3 0)], 57, ⟨[(0, [.i64 x.x3, .i64 x.x4, .i64 x.x5]), (1, [.i64 x.x6, .i64 x.x7]), (2, [.i64 x.x8, .i64 x.x9]), (3, [.i64 x.x10, .i64 x.x11])], 4, 0⟩⟩
noncomputable def rd_impl_inverseLatitude_9 : St → Option S_impl_inverseLatitude_9 := fun s => match s with
  | ⟨[(0, .i64 x0), (4, .ptr 0 0), (5, .ptr 1 0), (6, .ptr 2 0), (7, .i64 x1), (8, .i64 x2), (10, .ptr 3 0)], 57, ⟨[(0, [.i64 x3, .i64 x4, .i64 x5]), (1, [.i64 x6, .i64 x7]), (2, [.i64 x8, .i64 x9]), (3, [.i64 x10, .i64 x11])], 4, 0⟩⟩ => some ⟨x0, x1, x2, x3, x4, x5, x6, x7, x8, x9, x10, x11⟩
  | _ => none
noncomputable def b_impl_inverseLatitude_9 (x : S_impl_inverseLatitude_9) : Tr (Lp S_impl_inverseLatitude_9) :=
  .br (decide ((Rng.w .i64 (x.x2.val - x.x1.val)).val > 1)) (let c15 := (Rng.w .i64 ((Rng.w .i64 (x.x1.val + x.x2.val)).val.fdiv 2)); .br (F_impl_isAbove (F_impl_LatitudeAt x.x0 ⟨x.x3, x.x4, x.x5⟩ c15) x.x7) (.leaf (.again ⟨x.x0, x.x1, c15, x.x3, x.x4, x.x5, x.x6, x.x7, x.x8, x.x9, x.x10, x.x11⟩)) (.leaf (.again ⟨x.x0, c15, x.x2, x.x3, x.x4, x.x5, x.x6, x.x7, x.x8, x.x9, x.x10, x.x11⟩))) (.leaf (.out ⟨x.x0, x.x1, x.x2, x.x3, x.x4, x.x5, x.x6, x.x7, x.x8, x.x9, x.x10, x.x11⟩))
noncomputable def G_impl_inverseLatitude_9 (x : S_impl_inverseLatitude_9) : Bool := (Lf b_impl_inverseLatitude_9 70 x).opt.isSome
noncomputable def L_impl_inverseLatitude_9 (x : S_impl_inverseLatitude_9) : S_impl_inverseLatitude_9 := (Lf b_impl_inverseLatitude_9 70 x).get
noncomputable def TbL_impl_inverseLatitude_9 : Tb Tryz.prog := { T := [Y2, Y27, Y49], mix := mix, Es := [E_impl_LatitudeAt, E_impl_isAbove], Bs := [], d := 1 }
noncomputable def P_impl_inverseLatitude_9 : LpF := loopF [0, 4, 5, 6, 7, 8, 10] [0, 1, 2, 3] 4 rd_impl_inverseLatitude_9 st_impl_inverseLatitude_9 (.exit 2) G_impl_inverseLatitude_9 L_impl_inverseLatitude_9
theorem lok_impl_inverseLatitude_9 : LoopOk Tryz.prog (loopAt (Tryz.f130.body.getD .skip) 1) P_impl_inverseLatitude_9 := loopF_ok (t := TbL_impl_inverseLatitude_9) (lt := fun _ => none) (body := b_impl_inverseLatitude_9) (n := 70) (by intro h; cases h) (fun _ _ _ h => by cases h)
  (by intro s x h; unfold rd_impl_inverseLatitude_9 at h; split at h <;> cases h; rfl) (fun x b cs h => lk_lt (l := (st_impl_inverseLatitude_9 x).mm.blks) (by kernel_rfl) h) (by intro x; kernel_rfl) (fun x h => Tr.get_some h)
noncomputable def B130 : Bod Tryz.prog := ⟨130, Tryz.f130, Tryz.f130.body.getD .skip, Tryz.func130, by kernel_rfl, by kernel_rfl, ⟨ltOf [(2, P_impl_inverseLatitude_2), (9, P_impl_inverseLatitude_9)], Loops.of (ks := [2, 9]) (by kernel_rfl) (by
  intro i k h f hf
  match i, h with
  | 0, h => cases h; obtain rfl : P_impl_inverseLatitude_2 = f := Option.some.inj hf; exact lok_impl_inverseLatitude_2
  | 1, h => cases h; obtain rfl : P_impl_inverseLatitude_9 = f := Option.some.inj hf; exact lok_impl_inverseLatitude_9
  | n + 2, h => simp at h)⟩⟩
noncomputable def Tb130 : Tb Tryz.prog := { T := [Y2, Y27, Y49], mix := mix, Es := [E_impl_quarter], Bs := [], d := 1 }
noncomputable def t_impl_inverseLatitude (a0 : I64) (a1 : Ell) (a2 : Iv) : Tr (Iv) :=
  let c2 := (Rng.w .i64 (0 - F_impl_quarter.val)); .br (G_impl_inverseLatitude_2 ⟨a0, c2, F_impl_quarter, a1.a, a1.num, a1.den, a2.lo, a2.hi, ⟨0, rfl⟩, ⟨0, rfl⟩⟩) (let c9 := L_impl_inverseLatitude_2 ⟨a0, c2, F_impl_quarter, a1.a, a1.num, a1.den, a2.lo, a2.hi, ⟨0, rfl⟩, ⟨0, rfl⟩⟩; let c11 := (Rng.w .i64 (0 - F_impl_quarter.val)); .br (G_impl_inverseLatitude_9 ⟨c9.x0, c11, F_impl_quarter, c9.x3, c9.x4, c9.x5, c9.x6, c9.x7, c9.x8, c9.x9, c9.x1, ⟨0, rfl⟩⟩) (let c18 := L_impl_inverseLatitude_9 ⟨c9.x0, c11, F_impl_quarter, c9.x3, c9.x4, c9.x5, c9.x6, c9.x7, c9.x8, c9.x9, c9.x1, ⟨0, rfl⟩⟩; .leaf ⟨c18.x10, c18.x2⟩) (.bad)) (.bad)
theorem r_impl_inverseLatitude (a0 : I64) (a1 : Ell) (a2 : Iv) : Tb130.run B130 [enc a0, enc a1, enc a2] (Iv) = (t_impl_inverseLatitude a0 a1 a2).opt := by kernel_rfl
noncomputable def F_impl_inverseLatitude : I64 → Ell → Iv → Iv := fun a0 a1 a2 => (t_impl_inverseLatitude a0 a1 a2).get
noncomputable def G_impl_inverseLatitude : I64 → Ell → Iv → Bool := fun a0 a1 a2 => (t_impl_inverseLatitude a0 a1 a2).opt.isSome
noncomputable def E_impl_inverseLatitude : Ent Tryz.prog := .of3 Tb130 B130 G_impl_inverseLatitude F_impl_inverseLatitude fun a0 a1 a2 h => (r_impl_inverseLatitude a0 a1 a2).trans (Tr.get_some h)
end
end Go.Proofs.YtecfhpgpojgjkaaGreat.Ev
