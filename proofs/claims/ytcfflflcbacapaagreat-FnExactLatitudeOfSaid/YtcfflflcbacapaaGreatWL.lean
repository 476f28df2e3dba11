import Derived.Test.YtcfflflcbacapaaGreatW7
namespace Go.Proofs.YtcfflflcbacapaaGreat.Ev
open Go Go.RowKit
set_option maxRecDepth 100000
set_option linter.unusedVariables false
section
structure S_spec_l14Lat_4 where
  x0 : I64
  x1 : I64
  x2 : I64
  x3 : I64
  x4 : I64
  x5 : I64
  x6 : I64
  x7 : I64
  x8 : I64
  x9 : I64
  x10 : I64
  x11 : I64
  x12 : I64
  x13 : I64
  x14 : I64
instance : Inhabited S_spec_l14Lat_4 := ⟨⟨default, default, default, default, default, default, default, default, default, default, default, default, default, default, default⟩⟩
noncomputable def st_spec_l14Lat_4 (x : S_spec_l14Lat_4) : St := ⟨[(2, .ptr 0 0), (3, .ptr 1 0), (4, .ptr 2 0), (5, .ptr 3 0), (6, .i64 x.x0), (7, .i64 x.x1)], 60, ⟨[(0, [.i64 x.x2, .i64 x.x3, .i64 x.x4]), (1, [.i64 x.x5, .i64 x.x6, .i64 x.x7, .i64 x.x8, .i64 x.x9, .i64 x.x10]), (2, [.i64 x.x11, .i64 x.x12]), (3, [.i64 x.x13, .i64 x.x14])], 4, 0⟩⟩
noncomputable def rd_spec_l14Lat_4 : St → Option S_spec_l14Lat_4 := fun s => match s with
  | ⟨[(2, .ptr 0 0), (3, .ptr 1 0), (4, .ptr 2 0), (5, .ptr 3 0), (6, .i64 x0), (7, .i64 x1)], 60, ⟨[(0, [.i64 x2, .i64 x3, .i64 x4]), (1, [.i64 x5, .i64 x6, .i64 x7, .i64 x8, .i64 x9, .i64 x10]), (2, [.i64 x11, .i64 x12]), (3, [.i64 x13, .i64 x14])], 4, 0⟩⟩ => some ⟨x0, x1, x2, x3, x4, x5, x6, x7, x8, x9, x10, x11, x12, x13, x14⟩
  | _ => none
noncomputable def b_spec_l14Lat_4 (x : S_spec_l14Lat_4) : Tr (Lp S_spec_l14Lat_4) :=
  .br (decide ((Rng.w .i64 (x.x1.val - x.x0.val)).val > 1)) (let c7 := (Rng.w .i64 ((Rng.w .i64 (x.x0.val + x.x1.val)).val.fdiv 2)); .br (decide ((F_spec_l14Side ⟨x.x2, x.x3, x.x4⟩ ⟨x.x13, x.x14⟩ ⟨x.x9, x.x10⟩ c7).hi.val < 0)) (.leaf (.again ⟨c7, x.x1, x.x2, x.x3, x.x4, x.x5, x.x6, x.x7, x.x8, x.x9, x.x10, x.x11, x.x12, x.x13, x.x14⟩)) (.leaf (.again ⟨x.x0, c7, x.x2, x.x3, x.x4, x.x5, x.x6, x.x7, x.x8, x.x9, x.x10, x.x11, x.x12, x.x13, x.x14⟩))) (.leaf (.out ⟨x.x0, x.x1, x.x2, x.x3, x.x4, x.x5, x.x6, x.x7, x.x8, x.x9, x.x10, x.x11, x.x12, x.x13, x.x14⟩))
noncomputable def G_spec_l14Lat_4 (x : S_spec_l14Lat_4) : Bool := (Lf b_spec_l14Lat_4 70 x).opt.isSome
noncomputable def L_spec_l14Lat_4 (x : S_spec_l14Lat_4) : S_spec_l14Lat_4 := (Lf b_spec_l14Lat_4 70 x).get
noncomputable def TbL_spec_l14Lat_4 : Tb Tryz.prog := { T := [Y2, Y27, Y29, Y50], mix := mix, Es := [E_spec_l14Side], Bs := [], d := 1 }
noncomputable def P_spec_l14Lat_4 : LpF := loopF [2, 3, 4, 5, 6, 7] [0, 1, 2, 3] 4 rd_spec_l14Lat_4 st_spec_l14Lat_4 (.exit 0) G_spec_l14Lat_4 L_spec_l14Lat_4
theorem lok_spec_l14Lat_4 : LoopOk Tryz.prog (loopAt (Tryz.f111.body.getD .skip) 0) P_spec_l14Lat_4 := loopF_ok (t := TbL_spec_l14Lat_4) (lt := fun _ => none) (body := b_spec_l14Lat_4) (n := 70) (by intro h; cases h) (fun _ _ _ h => by cases h)
  (by intro s x h; unfold rd_spec_l14Lat_4 at h; split at h <;> cases h; rfl) (fun x b cs h => lk_lt (l := (st_spec_l14Lat_4 x).mm.blks) (by kernel_rfl) h) (by intro x; kernel_rfl) (fun x h => Tr.get_some h)
structure S_spec_l14Lat_11 where
  x0 : I64
  x1 : I64
  x2 : I64
  x3 : I64
  x4 : I64
  x5 : I64
  x6 : I64
  x7 : I64
  x8 : I64
  x9 : I64
  x10 : I64
  x11 : I64
  x12 : I64
  x13 : I64
  x14 : I64
  x15 : I64
instance : Inhabited S_spec_l14Lat_11 := ⟨⟨default, default, default, default, default, default, default, default, default, default, default, default, default, default, default, default⟩⟩
noncomputable def st_spec_l14Lat_11 (x : S_spec_l14Lat_11) : St := ⟨[(2, .ptr 0 0), (3, .ptr 1 0), (4, .ptr 2 0), (5, .ptr 3 0), (6, .i64 x.x0), (7, .i64 x.x1), (9, .i64 x.x2)], 60, ⟨[(0, [.i64 x.x3, .i64 x.x4, .i64 x.x5]), (1, [.i64 x.x6, .i64 x.x7, .i64 x.x8, .i64 x.x9, .i64 x.x10, .i64 x.x11]), (2, [.i64 x.x12, .i64 x.x13]), (3, [.i64 x.x14, .i64 x.x15])], 4, 0⟩⟩
noncomputable def rd_spec_l14Lat_11 : St → Option S_spec_l14Lat_11 := fun s => match s with
  | ⟨[(2, .ptr 0 0), (3, .ptr 1 0), (4, .ptr 2 0), (5, .ptr 3 0), (6, .i64 x0), (7, .i64 x1), (9, .i64 x2)], 60, ⟨[(0, [.i64 x3, .i64 x4, .i64 x5]), (1, [.i64 x6, .i64 x7, .i64 x8, .i64 x9, .i64 x10, .i64 x11]), (2, [.i64 x12, .i64 x13]), (3, [.i64 x14, .i64 x15])], 4, 0⟩⟩ => some ⟨x0, x1, x2, x3, x4, x5, x6, x7, x8, x9, x10, x11, x12, x13, x14, x15⟩
  | _ => none
noncomputable def b_spec_l14Lat_11 (x : S_spec_l14Lat_11) : Tr (Lp S_spec_l14Lat_11) :=
  .br (decide ((Rng.w .i64 (x.x1.val - x.x0.val)).val > 1)) (let c13 := (Rng.w .i64 ((Rng.w .i64 (x.x0.val + x.x1.val)).val.fdiv 2)); .br (decide ((F_spec_l14Side ⟨x.x3, x.x4, x.x5⟩ ⟨x.x14, x.x15⟩ ⟨x.x10, x.x11⟩ c13).lo.val > 0)) (.leaf (.again ⟨x.x0, c13, x.x2, x.x3, x.x4, x.x5, x.x6, x.x7, x.x8, x.x9, x.x10, x.x11, x.x12, x.x13, x.x14, x.x15⟩)) (.leaf (.again ⟨c13, x.x1, x.x2, x.x3, x.x4, x.x5, x.x6, x.x7, x.x8, x.x9, x.x10, x.x11, x.x12, x.x13, x.x14, x.x15⟩))) (.leaf (.out ⟨x.x0, x.x1, x.x2, x.x3, x.x4, x.x5, x.x6, x.x7, x.x8, x.x9, x.x10, x.x11, x.x12, x.x13, x.x14, x.x15⟩))
noncomputable def G_spec_l14Lat_11 (x : S_spec_l14Lat_11) : Bool := (Lf b_spec_l14Lat_11 70 x).opt.isSome
noncomputable def L_spec_l14Lat_11 (x : S_spec_l14Lat_11) : S_spec_l14Lat_11 := (Lf b_spec_l14Lat_11 70 x).get
noncomputable def TbL_spec_l14Lat_11 : Tb Tryz.prog := { T := [Y2, Y27, Y29, Y50], mix := mix, Es := [E_spec_l14Side], Bs := [], d := 1 }
noncomputable def P_spec_l14Lat_11 : LpF := loopF [2, 3, 4, 5, 6, 7, 9] [0, 1, 2, 3] 4 rd_spec_l14Lat_11 st_spec_l14Lat_11 (.exit 2) G_spec_l14Lat_11 L_spec_l14Lat_11
theorem lok_spec_l14Lat_11 : LoopOk Tryz.prog (loopAt (Tryz.f111.body.getD .skip) 1) P_spec_l14Lat_11 := loopF_ok (t := TbL_spec_l14Lat_11) (lt := fun _ => none) (body := b_spec_l14Lat_11) (n := 70) (by intro h; cases h) (fun _ _ _ h => by cases h)
  (by intro s x h; unfold rd_spec_l14Lat_11 at h; split at h <;> cases h; rfl) (fun x b cs h => lk_lt (l := (st_spec_l14Lat_11 x).mm.blks) (by kernel_rfl) h) (by intro x; kernel_rfl) (fun x h => Tr.get_some h)
noncomputable def B111 : Bod Tryz.prog := ⟨111, Tryz.f111, Tryz.f111.body.getD .skip, Tryz.func111, by kernel_rfl, by kernel_rfl, ⟨ltOf [(4, P_spec_l14Lat_4), (11, P_spec_l14Lat_11)], Loops.of (ks := [4, 11]) (by kernel_rfl) (by
  intro i k h f hf
  match i, h with
  | 0, h => cases h; obtain rfl : P_spec_l14Lat_4 = f := Option.some.inj hf; exact lok_spec_l14Lat_4
  | 1, h => cases h; obtain rfl : P_spec_l14Lat_11 = f := Option.some.inj hf; exact lok_spec_l14Lat_11
  | n + 2, h => simp at h)⟩⟩
noncomputable def Tb111 : Tb Tryz.prog := { T := [Y2, Y27, Y29, Y50], mix := mix, Es := [E_spec_l15Flat, E_spec_l05Turn], Bs := [], d := 1 }
noncomputable def t_spec_l14Lat (a0 : Ell) (a1 : Vec) : Tr (Iv) :=
  let c1 := F_spec_l15Flat a1; .br (G_spec_l05Turn ⟨1, rfl⟩) (let c3 := (Rng.w .i64 (0 - (F_spec_l05Turn ⟨1, rfl⟩).hi.val)); .br (G_spec_l05Turn ⟨1, rfl⟩) (let c4 := F_spec_l05Turn ⟨1, rfl⟩; .br (G_spec_l14Lat_4 ⟨c3, c4.hi, a0.a, a0.num, a0.den, a1.x.lo, a1.x.hi, a1.y.lo, a1.y.hi, a1.z.lo, a1.z.hi, ⟨0, rfl⟩, ⟨0, rfl⟩, c1.lo, c1.hi⟩) (let c9 := L_spec_l14Lat_4 ⟨c3, c4.hi, a0.a, a0.num, a0.den, a1.x.lo, a1.x.hi, a1.y.lo, a1.y.hi, a1.z.lo, a1.z.hi, ⟨0, rfl⟩, ⟨0, rfl⟩, c1.lo, c1.hi⟩; .br (G_spec_l05Turn ⟨1, rfl⟩) (let c10 := F_spec_l05Turn ⟨1, rfl⟩; .br (G_spec_l14Lat_11 ⟨c9.x0, c10.hi, c9.x0, c9.x2, c9.x3, c9.x4, c9.x5, c9.x6, c9.x7, c9.x8, c9.x9, c9.x10, c9.x11, c9.x12, c9.x13, c9.x14⟩) (let c16 := L_spec_l14Lat_11 ⟨c9.x0, c10.hi, c9.x0, c9.x2, c9.x3, c9.x4, c9.x5, c9.x6, c9.x7, c9.x8, c9.x9, c9.x10, c9.x11, c9.x12, c9.x13, c9.x14⟩; .leaf ⟨c16.x2, c16.x1⟩) (.bad)) (.bad)) (.bad)) (.bad)) (.bad)
theorem r_spec_l14Lat (a0 : Ell) (a1 : Vec) : Tb111.run B111 [enc a0, enc a1] (Iv) = (t_spec_l14Lat a0 a1).opt := by kernel_rfl
noncomputable def F_spec_l14Lat : Ell → Vec → Iv := fun a0 a1 => (t_spec_l14Lat a0 a1).get
noncomputable def G_spec_l14Lat : Ell → Vec → Bool := fun a0 a1 => (t_spec_l14Lat a0 a1).opt.isSome
noncomputable def E_spec_l14Lat : Ent Tryz.prog := .of2 Tb111 B111 G_spec_l14Lat F_spec_l14Lat fun a0 a1 h => (r_spec_l14Lat a0 a1).trans (Tr.get_some h)
noncomputable def B206 : Bod Tryz.prog := ⟨206, Tryz.f206, Tryz.f206.body.getD .skip, Tryz.func206, by kernel_rfl, by kernel_rfl, Loops.no _ _⟩
noncomputable def Tb206 : Tb Tryz.prog := { T := [Y2, Y27], mix := mix, Es := [ET_impl_TurnI], Bs := [], d := 1 }
noncomputable def t_impl_quarter : Tr (I64) :=
  .leaf (F_impl_TurnI ⟨1, rfl⟩).hi
theorem r_impl_quarter : Tb206.run B206 [] (I64) = (t_impl_quarter).opt := by kernel_rfl
noncomputable def F_impl_quarter : I64 := (t_impl_quarter).get
theorem u_impl_quarter : (t_impl_quarter).opt = some (F_impl_quarter) := Tr.tot_get (by kernel_rfl)
noncomputable def E_impl_quarter : Ent Tryz.prog := .of0 Tb206 B206 F_impl_quarter (r_impl_quarter.trans u_impl_quarter)
structure S_impl_latitudeOf_2 where
  x0 : I64
  x1 : I64
  x2 : I64
  x3 : I64
  x4 : I64
  x5 : I64
  x6 : I64
  x7 : I64
  x8 : I64
  x9 : I64
  x10 : I64
  x11 : I64
  x12 : I64
instance : Inhabited S_impl_latitudeOf_2 := ⟨⟨default, default, default, default, default, default, default, default, default, default, default, default, default⟩⟩
noncomputable def st_impl_latitudeOf_2 (x : S_impl_latitudeOf_2) : St := ⟨[(2, .ptr 0 0), (3, .ptr 1 0), (4, .ptr 2 0), (5, .i64 x.x0), (6, .i64 x.x1)], 51, ⟨[(0, [.i64 x.x2, .i64 x.x3, .i64 x.x4]), (1, [.i64 x.x5, .i64 x.x6, .i64 x.x7, .i64 x.x8, .i64 x.x9, .i64 x.x10]), (2, [.i64 x.x11, .i64 x.x12])], 3, 0⟩⟩
noncomputable def rd_impl_latitudeOf_2 : St → Option S_impl_latitudeOf_2 := fun s => match s with
  | ⟨[(2, .ptr 0 0), (3, .ptr 1 0), (4, .ptr 2 0), (5, .i64 x0), (6, .i64 x1)], 51, ⟨[(0, [.i64 x2, .i64 x3, .i64 x4]), (1, [.i64 x5, .i64 x6, .i64 x7, .i64 x8, .i64 x9, .i64 x10]), (2, [.i64 x11, .i64 x12])], 3, 0⟩⟩ => some ⟨x0, x1, x2, x3, x4, x5, x6, x7, x8, x9, x10, x11, x12⟩
  | _ => none
noncomputable def b_impl_latitudeOf_2 (x : S_impl_latitudeOf_2) : Tr (Lp S_impl_latitudeOf_2) :=
  .br (decide ((Rng.w .i64 (x.x1.val - x.x0.val)).val > 1)) (let c6 := (Rng.w .i64 ((Rng.w .i64 (x.x0.val + x.x1.val)).val.fdiv 2)); .br (decide ((F_impl_SideAt ⟨x.x2, x.x3, x.x4⟩ ⟨⟨x.x5, x.x6⟩, ⟨x.x7, x.x8⟩, ⟨x.x9, x.x10⟩⟩ c6).hi.val < 0)) (.leaf (.again ⟨c6, x.x1, x.x2, x.x3, x.x4, x.x5, x.x6, x.x7, x.x8, x.x9, x.x10, x.x11, x.x12⟩)) (.leaf (.again ⟨x.x0, c6, x.x2, x.x3, x.x4, x.x5, x.x6, x.x7, x.x8, x.x9, x.x10, x.x11, x.x12⟩))) (.leaf (.out ⟨x.x0, x.x1, x.x2, x.x3, x.x4, x.x5, x.x6, x.x7, x.x8, x.x9, x.x10, x.x11, x.x12⟩))
noncomputable def G_impl_latitudeOf_2 (x : S_impl_latitudeOf_2) : Bool := (Lf b_impl_latitudeOf_2 70 x).opt.isSome
noncomputable def L_impl_latitudeOf_2 (x : S_impl_latitudeOf_2) : S_impl_latitudeOf_2 := (Lf b_impl_latitudeOf_2 70 x).get
noncomputable def TbL_impl_latitudeOf_2 : Tb Tryz.prog := { T := [Y2, Y27, Y29, Y50], mix := mix, Es := [E_impl_SideAt], Bs := [], d := 1 }
noncomputable def P_impl_latitudeOf_2 : LpF := loopF [2, 3, 4, 5, 6] [0, 1, 2] 3 rd_impl_latitudeOf_2 st_impl_latitudeOf_2 (.exit 0) G_impl_latitudeOf_2 L_impl_latitudeOf_2
theorem lok_impl_latitudeOf_2 : LoopOk Tryz.prog (loopAt (Tryz.f113.body.getD .skip) 0) P_impl_latitudeOf_2 := loopF_ok (t := TbL_impl_latitudeOf_2) (lt := fun _ => none) (body := b_impl_latitudeOf_2) (n := 70) (by intro h; cases h) (fun _ _ _ h => by cases h)
  (by intro s x h; unfold rd_impl_latitudeOf_2 at h; split at h <;> cases h; rfl) (fun x b cs h => lk_lt (l := (st_impl_latitudeOf_2 x).mm.blks) (by kernel_rfl) h) (by intro x; kernel_rfl) (fun x h => Tr.get_some h)
structure S_impl_latitudeOf_9 where
  x0 : I64
  x1 : I64
  x2 : I64
  x3 : I64
  x4 : I64
  x5 : I64
  x6 : I64
  x7 : I64
  x8 : I64
  x9 : I64
  x10 : I64
  x11 : I64
  x12 : I64
  x13 : I64
  x14 : I64
instance : Inhabited S_impl_latitudeOf_9 := ⟨⟨default, default, default, default, default, default, default, default, default, default, default, default, default, default, default⟩⟩
noncomputable def st_impl_latitudeOf_9 (x : S_impl_latitudeOf_9) : St := ⟨[(2, .ptr 0 0), (3, .ptr 1 0), (4, .ptr 2 0), (5, .i64 x.x0), (6, .i64 x.x1), (8, .ptr 3 0)], 51, ⟨[(0, [.i64 x.x2, .i64 x.x3, .i64 x.x4]), (1, [.i64 x.x5, .i64 x.x6, .i64 x.x7, .i64 x.x8, .i64 x.x9, .i64 x.x10]), (2, [.i64 x.x11, .i64 x.x12]), (3, [.i64 x.x13, .i64 x.x14])], 4, 0⟩⟩
noncomputable def rd_impl_latitudeOf_9 : St → Option S_impl_latitudeOf_9 := fun s => match s with
  | ⟨[(2, .ptr 0 0), (3, .ptr 1 0), (4, .ptr 2 0), (5, .i64 x0), (6, .i64 x1), (8, .ptr 3 0)], 51, ⟨[(0, [.i64 x2, .i64 x3, .i64 x4]), (1, [.i64 x5, .i64 x6, .i64 x7, .i64 x8, .i64 x9, .i64 x10]), (2, [.i64 x11, .i64 x12]), (3, [.i64 x13, .i64 x14])], 4, 0⟩⟩ => some ⟨x0, x1, x2, x3, x4, x5, x6, x7, x8, x9, x10, x11, x12, x13, x14⟩
  | _ => none
noncomputable def b_impl_latitudeOf_9 (x : S_impl_latitudeOf_9) : Tr (Lp S_impl_latitudeOf_9) :=
  .br (decide ((Rng.w .i64 (x.x1.val - x.x0.val)).val > 1)) (let c12 := (Rng.w .i64 ((Rng.w .i64 (x.x0.val + x.x1.val)).val.fdiv 2)); .br (decide ((F_impl_SideAt ⟨x.x2, x.x3, x.x4⟩ ⟨⟨x.x5, x.x6⟩, ⟨x.x7, x.x8⟩, ⟨x.x9, x.x10⟩⟩ c12).lo.val > 0)) (.leaf (.again ⟨x.x0, c12, x.x2, x.x3, x.x4, x.x5, x.x6, x.x7, x.x8, x.x9, x.x10, x.x11, x.x12, x.x13, x.x14⟩)) (.leaf (.again ⟨c12, x.x1, x.x2, x.x3, x.x4, x.x5, x.x6, x.x7, x.x8, x.x9, x.x10, x.x11, x.x12, x.x13, x.x14⟩))) (.leaf (.out ⟨x.x0, x.x1, x.x2, x.x3, x.x4, x.x5, x.x6, x.x7, x.x8, x.x9, x.x10, x.x11, x.x12, x.x13, x.x14⟩))
noncomputable def G_impl_latitudeOf_9 (x : S_impl_latitudeOf_9) : Bool := (Lf b_impl_latitudeOf_9 70 x).opt.isSome
noncomputable def L_impl_latitudeOf_9 (x : S_impl_latitudeOf_9) : S_impl_latitudeOf_9 := (Lf b_impl_latitudeOf_9 70 x).get
noncomputable def TbL_impl_latitudeOf_9 : Tb Tryz.prog := { T := [Y2, Y27, Y29, Y50], mix := mix, Es := [E_impl_SideAt], Bs := [], d := 1 }
noncomputable def P_impl_latitudeOf_9 : LpF := loopF [2, 3, 4, 5, 6, 8] [0, 1, 2, 3] 4 rd_impl_latitudeOf_9 st_impl_latitudeOf_9 (.exit 2) G_impl_latitudeOf_9 L_impl_latitudeOf_9
theorem lok_impl_latitudeOf_9 : LoopOk Tryz.prog (loopAt (Tryz.f113.body.getD .skip) 1) P_impl_latitudeOf_9 := loopF_ok (t := TbL_impl_latitudeOf_9) (lt := fun _ => none) (body := b_impl_latitudeOf_9) (n := 70) (by intro h; cases h) (fun _ _ _ h => by cases h)
  (by intro s x h; unfold rd_impl_latitudeOf_9 at h; split at h <;> cases h; rfl) (fun x b cs h => lk_lt (l := (st_impl_latitudeOf_9 x).mm.blks) (by kernel_rfl) h) (by intro x; kernel_rfl) (fun x h => Tr.get_some h)
noncomputable def B113 : Bod Tryz.prog := ⟨113, Tryz.f113, Tryz.f113.body.getD .skip, Tryz.func113, by kernel_rfl, by kernel_rfl, ⟨ltOf [(2, P_impl_latitudeOf_2), (9, P_impl_latitudeOf_9)], Loops.of (ks := [2, 9]) (by kernel_rfl) (by
  intro i k h f hf
  match i, h with
  | 0, h => cases h; obtain rfl : P_impl_latitudeOf_2 = f := Option.some.inj hf; exact lok_impl_latitudeOf_2
  | 1, h => cases h; obtain rfl : P_impl_latitudeOf_9 = f := Option.some.inj hf; exact lok_impl_latitudeOf_9
  | n + 2, h => simp at h)⟩⟩
noncomputable def Tb113 : Tb Tryz.prog := { T := [Y2, Y27, Y29, Y50], mix := mix, Es := [E_impl_quarter], Bs := [], d := 1 }
noncomputable def t_impl_latitudeOf (a0 : Ell) (a1 : Vec) : Tr (Iv) :=
  let c2 := (Rng.w .i64 (0 - F_impl_quarter.val)); .br (G_impl_latitudeOf_2 ⟨c2, F_impl_quarter, a0.a, a0.num, a0.den, a1.x.lo, a1.x.hi, a1.y.lo, a1.y.hi, a1.z.lo, a1.z.hi, ⟨0, rfl⟩, ⟨0, rfl⟩⟩) (let c8 := L_impl_latitudeOf_2 ⟨c2, F_impl_quarter, a0.a, a0.num, a0.den, a1.x.lo, a1.x.hi, a1.y.lo, a1.y.hi, a1.z.lo, a1.z.hi, ⟨0, rfl⟩, ⟨0, rfl⟩⟩; .br (G_impl_latitudeOf_9 ⟨c8.x0, F_impl_quarter, c8.x2, c8.x3, c8.x4, c8.x5, c8.x6, c8.x7, c8.x8, c8.x9, c8.x10, c8.x11, c8.x12, c8.x0, ⟨0, rfl⟩⟩) (let c15 := L_impl_latitudeOf_9 ⟨c8.x0, F_impl_quarter, c8.x2, c8.x3, c8.x4, c8.x5, c8.x6, c8.x7, c8.x8, c8.x9, c8.x10, c8.x11, c8.x12, c8.x0, ⟨0, rfl⟩⟩; .leaf ⟨c15.x13, c15.x1⟩) (.bad)) (.bad)
theorem r_impl_latitudeOf (a0 : Ell) (a1 : Vec) : Tb113.run B113 [enc a0, enc a1] (Iv) = (t_impl_latitudeOf a0 a1).opt := by kernel_rfl
noncomputable def F_impl_latitudeOf : Ell → Vec → Iv := fun a0 a1 => (t_impl_latitudeOf a0 a1).get
noncomputable def G_impl_latitudeOf : Ell → Vec → Bool := fun a0 a1 => (t_impl_latitudeOf a0 a1).opt.isSome
noncomputable def E_impl_latitudeOf : Ent Tryz.prog := .of2 Tb113 B113 G_impl_latitudeOf F_impl_latitudeOf fun a0 a1 h => (r_impl_latitudeOf a0 a1).trans (Tr.get_some h)
end
end Go.Proofs.YtcfflflcbacapaaGreat.Ev
