import Derived.Test.YtecfhpgpojgjkaaGreatW0
namespace Go.Proofs.YtecfhpgpojgjkaaGreat.Ev
open Go Go.RowKit
set_option maxRecDepth 100000
set_option linter.unusedVariables false
section
noncomputable def E_math_bits_Add64 : Ent Tryz.prog := .add64 Tryz.func329 (by kernel_rfl) (by kernel_rfl) (by kernel_rfl) (by kernel_rfl)
noncomputable def E_math_bits_Sub64 : Ent Tryz.prog := .sub64 Tryz.func349 (by kernel_rfl) (by kernel_rfl) (by kernel_rfl) (by kernel_rfl)
noncomputable def Y27 : TyE Tryz.prog := ⟨27, 2, (.struct [(0, 2, 1), (1, 2, 1)]), [.i64 ⟨0, rfl⟩, .i64 ⟨0, rfl⟩], true, by kernel_rfl, by kernel_rfl, by kernel_rfl, by kernel_rfl, by kernel_rfl, by kernel_rfl⟩
noncomputable def B26 : Bod Tryz.prog := ⟨26, Tryz.f26, Tryz.f26.body.getD .skip, Tryz.func26, by kernel_rfl, by kernel_rfl, Loops.no _ _⟩
noncomputable def Tb26 : Tb Tryz.prog := { T := [Y2, Y27], mix := mix, Es := [], Bs := [], d := 1 }
noncomputable def t_laws_eqInterval (a0 : Iv) (a1 : Iv) : Tr (Bool) :=
  .br (a0.lo.val != a1.lo.val) (.leaf false) (.br (a0.hi.val != a1.hi.val) (.leaf false) (.leaf true))
theorem r_laws_eqInterval (a0 : Iv) (a1 : Iv) : Tb26.run B26 [enc a0, enc a1] (Bool) = (t_laws_eqInterval a0 a1).opt := by kernel_rfl
noncomputable def F_laws_eqInterval : Iv → Iv → Bool := fun a0 a1 => (t_laws_eqInterval a0 a1).get
theorem u_laws_eqInterval (a0 : Iv) (a1 : Iv) : (t_laws_eqInterval a0 a1).opt = some (F_laws_eqInterval a0 a1) := Tr.tot_get (by kernel_rfl)
noncomputable def E_laws_eqInterval : Ent Tryz.prog := .of2 Tb26 B26 (fun _ _ => true) F_laws_eqInterval fun a0 a1 _ => (r_laws_eqInterval a0 a1).trans (u_laws_eqInterval a0 a1)
noncomputable def B190 : Bod Tryz.prog := ⟨190, Tryz.f190, Tryz.f190.body.getD .skip, Tryz.func190, by kernel_rfl, by kernel_rfl, Loops.no _ _⟩
noncomputable def Tb190 : Tb Tryz.prog := { T := [], mix := mix, Es := [], Bs := [], d := 1 }
noncomputable def t_impl_WrapLon (a0 : I64) : Tr (I64) :=
  let c1 := (Rng.w .i64 (a0.val.tmod 3600000000)); .br (decide (c1.val > 1800000000)) (.leaf (Rng.w .i64 (c1.val - 3600000000))) (.br (decide (c1.val ≤ (-1800000000))) (.leaf (Rng.w .i64 (c1.val + 3600000000))) (.leaf c1))
theorem r_impl_WrapLon (a0 : I64) : Tb190.run B190 [enc a0] (I64) = (t_impl_WrapLon a0).opt := by kernel_rfl
noncomputable def F_impl_WrapLon : I64 → I64 := fun a0 => (t_impl_WrapLon a0).get
theorem u_impl_WrapLon (a0 : I64) : (t_impl_WrapLon a0).opt = some (F_impl_WrapLon a0) := Tr.tot_get (by kernel_rfl)
noncomputable def E_impl_WrapLon : Ent Tryz.prog := .of1 Tb190 B190 (fun _ => true) F_impl_WrapLon fun a0 _ => (r_impl_WrapLon a0).trans (u_impl_WrapLon a0)
noncomputable def B166 : Bod Tryz.prog := ⟨166, Tryz.f166, Tryz.f166.body.getD .skip, Tryz.func166, by kernel_rfl, by kernel_rfl, Loops.no _ _⟩
noncomputable def Tb166 : Tb Tryz.prog := { T := [], mix := mix, Es := [], Bs := [], d := 1 }
noncomputable def t_spec_l11Wrap (a0 : I64) : Tr (I64) :=
  let c1 := (Rng.w .i64 (a0.val.tmod 3600000000)); .br (decide (c1.val > 1800000000)) (let c3 := (Rng.w .i64 (c1.val - 3600000000)); .br (decide (c3.val ≤ (-1800000000))) (.leaf (Rng.w .i64 (c3.val + 3600000000))) (.leaf c3)) (.br (decide (c1.val ≤ (-1800000000))) (.leaf (Rng.w .i64 (c1.val + 3600000000))) (.leaf c1))
theorem r_spec_l11Wrap (a0 : I64) : Tb166.run B166 [enc a0] (I64) = (t_spec_l11Wrap a0).opt := by kernel_rfl
noncomputable def F_spec_l11Wrap : I64 → I64 := fun a0 => (t_spec_l11Wrap a0).get
theorem u_spec_l11Wrap (a0 : I64) : (t_spec_l11Wrap a0).opt = some (F_spec_l11Wrap a0) := Tr.tot_get (by kernel_rfl)
noncomputable def E_spec_l11Wrap : Ent Tryz.prog := .of1 Tb166 B166 (fun _ => true) F_spec_l11Wrap fun a0 _ => (r_spec_l11Wrap a0).trans (u_spec_l11Wrap a0)
noncomputable def B104 : Bod Tryz.prog := ⟨104, Tryz.f104, Tryz.f104.body.getD .skip, Tryz.func104, by kernel_rfl, by kernel_rfl, Loops.no _ _⟩
noncomputable def Tb104 : Tb Tryz.prog := { T := [Y2, Y27], mix := mix, Es := [], Bs := [], d := 1 }
noncomputable def t_spec_l04Whole : Tr (Iv) :=
  .leaf ⟨⟨(-1152921504606846976), rfl⟩, ⟨1152921504606846976, rfl⟩⟩
theorem r_spec_l04Whole : Tb104.run B104 [] (Iv) = (t_spec_l04Whole).opt := by kernel_rfl
noncomputable def F_spec_l04Whole : Iv := (t_spec_l04Whole).get
theorem u_spec_l04Whole : (t_spec_l04Whole).opt = some (F_spec_l04Whole) := Tr.tot_get (by kernel_rfl)
noncomputable def E_spec_l04Whole : Ent Tryz.prog := .of0 Tb104 B104 F_spec_l04Whole (r_spec_l04Whole.trans u_spec_l04Whole)
noncomputable def Y131 : TyE Tryz.prog := ⟨131, 1, (.int .u64), [.u64 ⟨0, rfl⟩], false, by kernel_rfl, by kernel_rfl, by kernel_rfl, by kernel_rfl, by kernel_rfl, by kernel_rfl⟩
noncomputable def B324 : Bod Tryz.prog := ⟨324, Tryz.f324, Tryz.f324.body.getD .skip, Tryz.func324, by kernel_rfl, by kernel_rfl, Loops.no _ _⟩
noncomputable def Tb324 : Tb Tryz.prog := { T := [Y2, Y131], mix := mix, Es := [], Bs := [], d := 1 }
noncomputable def t_spec_l02Size (a0 : I64) : Tr (U64) :=
  .br (decide (a0.val < 0)) (.leaf (Rng.w .u64 (0 - (Rng.w .u64 (a0.val)).val))) (.leaf (Rng.w .u64 (a0.val)))
theorem r_spec_l02Size (a0 : I64) : Tb324.run B324 [enc a0] (U64) = (t_spec_l02Size a0).opt := by kernel_rfl
noncomputable def F_spec_l02Size : I64 → U64 := fun a0 => (t_spec_l02Size a0).get
theorem u_spec_l02Size (a0 : I64) : (t_spec_l02Size a0).opt = some (F_spec_l02Size a0) := Tr.tot_get (by kernel_rfl)
noncomputable def E_spec_l02Size : Ent Tryz.prog := .of1 Tb324 B324 (fun _ => true) F_spec_l02Size fun a0 _ => (r_spec_l02Size a0).trans (u_spec_l02Size a0)
noncomputable def B323 : Bod Tryz.prog := ⟨323, Tryz.f323, Tryz.f323.body.getD .skip, Tryz.func323, by kernel_rfl, by kernel_rfl, Loops.no _ _⟩
noncomputable def Tb323 : Tb Tryz.prog := { T := [], mix := mix, Es := [], Bs := [], d := 1 }
noncomputable def t_spec_l02Times (a0 : U64) (a1 : U64) : Tr (T2 U64 U64) :=
  let c8 := (Rng.w .u64 ((Rng.w .u64 ((Rng.w .u64 (a0.val.fdiv 4294967296)).val * (Rng.w .u64 (bitop .and .u64 a1.val 4294967295)).val)).val + (Rng.w .u64 ((Rng.w .u64 ((Rng.w .u64 (bitop .and .u64 a0.val 4294967295)).val * (Rng.w .u64 (bitop .and .u64 a1.val 4294967295)).val)).val.fdiv 4294967296)).val)); .leaf ⟨(Rng.w .u64 ((Rng.w .u64 ((Rng.w .u64 ((Rng.w .u64 (a0.val.fdiv 4294967296)).val * (Rng.w .u64 (a1.val.fdiv 4294967296)).val)).val + (Rng.w .u64 (c8.val.fdiv 4294967296)).val)).val + (Rng.w .u64 ((Rng.w .u64 ((Rng.w .u64 ((Rng.w .u64 (bitop .and .u64 a0.val 4294967295)).val * (Rng.w .u64 (a1.val.fdiv 4294967296)).val)).val + (Rng.w .u64 (bitop .and .u64 c8.val 4294967295)).val)).val.fdiv 4294967296)).val)), (Rng.w .u64 (a0.val * a1.val))⟩
theorem r_spec_l02Times (a0 : U64) (a1 : U64) : Tb323.run B323 [enc a0, enc a1] (T2 U64 U64) = (t_spec_l02Times a0 a1).opt := by kernel_rfl
noncomputable def F_spec_l02Times : U64 → U64 → T2 U64 U64 := fun a0 a1 => (t_spec_l02Times a0 a1).get
theorem u_spec_l02Times (a0 : U64) (a1 : U64) : (t_spec_l02Times a0 a1).opt = some (F_spec_l02Times a0 a1) := Tr.tot_get (by kernel_rfl)
noncomputable def E_spec_l02Times : Ent Tryz.prog := .of2 Tb323 B323 (fun _ _ => true) F_spec_l02Times fun a0 a1 _ => (r_spec_l02Times a0 a1).trans (u_spec_l02Times a0 a1)
noncomputable def Y133 : TyE Tryz.prog := ⟨133, 2, (.struct [(0, 2, 1), (1, 131, 1)]), [.i64 ⟨0, rfl⟩, .u64 ⟨0, rfl⟩], true, by kernel_rfl, by kernel_rfl, by kernel_rfl, by kernel_rfl, by kernel_rfl, by kernel_rfl⟩
noncomputable def B320 : Bod Tryz.prog := ⟨320, Tryz.f320, Tryz.f320.body.getD .skip, Tryz.func320, by kernel_rfl, by kernel_rfl, Loops.no _ _⟩
noncomputable def Tb320 : Tb Tryz.prog := { T := [Y2, Y131, Y133], mix := mix, Es := [], Bs := [], d := 1 }
noncomputable def t_spec_l02Minus (a0 : Wide) : Tr (Wide) :=
  let c2 := (Rng.w .u64 (0 - a0.lo.val)); .br (a0.lo.val == 0) (.leaf ⟨(Rng.w .i64 (0 - a0.hi.val)), c2⟩) (.leaf ⟨(Rng.w .i64 (bitop .xor .i64 (-1) a0.hi.val)), c2⟩)
theorem r_spec_l02Minus (a0 : Wide) : Tb320.run B320 [enc a0] (Wide) = (t_spec_l02Minus a0).opt := by kernel_rfl
noncomputable def F_spec_l02Minus : Wide → Wide := fun a0 => (t_spec_l02Minus a0).get
theorem u_spec_l02Minus (a0 : Wide) : (t_spec_l02Minus a0).opt = some (F_spec_l02Minus a0) := Tr.tot_get (by kernel_rfl)
noncomputable def E_spec_l02Minus : Ent Tryz.prog := .of1 Tb320 B320 (fun _ => true) F_spec_l02Minus fun a0 _ => (r_spec_l02Minus a0).trans (u_spec_l02Minus a0)
noncomputable def Y4 : TyE Tryz.prog := ⟨4, 1, .bool, [.bool false], false, by kernel_rfl, by kernel_rfl, by kernel_rfl, by kernel_rfl, by kernel_rfl, by kernel_rfl⟩
noncomputable def B266 : Bod Tryz.prog := ⟨266, Tryz.f266, Tryz.f266.body.getD .skip, Tryz.func266, by kernel_rfl, by kernel_rfl, Loops.no _ _⟩
noncomputable def Tb266 : Tb Tryz.prog := { T := [Y2, Y4, Y131, Y133], mix := mix, Es := [E_spec_l02Minus, E_spec_l02Times, E_spec_l02Size], Bs := [], d := 1 }
noncomputable def t_spec_l02Mul (a0 : I64) (a1 : I64) : Tr (Wide) :=
  let c3 := F_spec_l02Times (F_spec_l02Size a0) (F_spec_l02Size a1); .br (!((decide (a0.val < 0)) == (decide (a1.val < 0)))) (.leaf (F_spec_l02Minus ⟨(Rng.w .i64 (c3.a.val)), c3.b⟩)) (.leaf ⟨(Rng.w .i64 (c3.a.val)), c3.b⟩)
theorem r_spec_l02Mul (a0 : I64) (a1 : I64) : Tb266.run B266 [enc a0, enc a1] (Wide) = (t_spec_l02Mul a0 a1).opt := by kernel_rfl
noncomputable def F_spec_l02Mul : I64 → I64 → Wide := fun a0 a1 => (t_spec_l02Mul a0 a1).get
theorem u_spec_l02Mul (a0 : I64) (a1 : I64) : (t_spec_l02Mul a0 a1).opt = some (F_spec_l02Mul a0 a1) := Tr.tot_get (by kernel_rfl)
noncomputable def E_spec_l02Mul : Ent Tryz.prog := .of2 Tb266 B266 (fun _ _ => true) F_spec_l02Mul fun a0 a1 _ => (r_spec_l02Mul a0 a1).trans (u_spec_l02Mul a0 a1)
noncomputable def Y3 : TyE Tryz.prog := ⟨3, 1, (.int .i64), [.i64 ⟨0, rfl⟩], false, by kernel_rfl, by kernel_rfl, by kernel_rfl, by kernel_rfl, by kernel_rfl, by kernel_rfl⟩
noncomputable def Y128 : TyE Tryz.prog := ⟨128, 1, (.int .u64), [.u64 ⟨0, rfl⟩], false, by kernel_rfl, by kernel_rfl, by kernel_rfl, by kernel_rfl, by kernel_rfl, by kernel_rfl⟩
structure S_spec_l02Divide_5 where
  x0 : U64
  x1 : U64
  x2 : U64
  x3 : U64
  x4 : U64
  x5 : I64
instance : Inhabited S_spec_l02Divide_5 := ⟨⟨default, default, default, default, default, default⟩⟩
noncomputable def st_spec_l02Divide_5 (x : S_spec_l02Divide_5) : St := ⟨[(1, .u64 x.x0), (2, .u64 x.x1), (9, .u64 x.x2), (10, .u64 x.x3), (11, .u64 x.x4), (12, .i64 x.x5)], 51, ⟨[], 0, 0⟩⟩
noncomputable def rd_spec_l02Divide_5 : St → Option S_spec_l02Divide_5 := fun s => match s with
  | ⟨[(1, .u64 x0), (2, .u64 x1), (9, .u64 x2), (10, .u64 x3), (11, .u64 x4), (12, .i64 x5)], 51, ⟨[], 0, 0⟩⟩ => some ⟨x0, x1, x2, x3, x4, x5⟩
  | _ => none
noncomputable def b_spec_l02Divide_5 (x : S_spec_l02Divide_5) : Tr (Lp S_spec_l02Divide_5) :=
  .br (decide (x.x5.val ≥ 0)) (let c7 := (Rng.w .u64 (bitop .or .u64 (Rng.w .u64 (x.x3.val * 2)).val (Rng.w .u64 (bitop .and .u64 (Rng.w .u64 (x.x0.val.fdiv (2 ^ min ((Rng.w .u64 (x.x5.val)).val).toNat 64))).val 1)).val)); let c8 := (Rng.w .u64 (x.x4.val * 2)); .br ((Rng.w .u64 (x.x3.val.fdiv 9223372036854775808)).val == 1) (.leaf (.again ⟨x.x0, x.x1, x.x2, (Rng.w .u64 (c7.val - x.x1.val)), (Rng.w .u64 (bitop .or .u64 c8.val 1)), (Rng.w .i64 (x.x5.val - 1))⟩)) (.br (decide (c7.val ≥ x.x1.val)) (.leaf (.again ⟨x.x0, x.x1, x.x2, (Rng.w .u64 (c7.val - x.x1.val)), (Rng.w .u64 (bitop .or .u64 c8.val 1)), (Rng.w .i64 (x.x5.val - 1))⟩)) (.leaf (.again ⟨x.x0, x.x1, x.x2, c7, c8, (Rng.w .i64 (x.x5.val - 1))⟩)))) (.leaf (.out ⟨x.x0, x.x1, x.x2, x.x3, x.x4, x.x5⟩))
noncomputable def G_spec_l02Divide_5 (x : S_spec_l02Divide_5) : Bool := (Lf b_spec_l02Divide_5 66 x).opt.isSome
noncomputable def L_spec_l02Divide_5 (x : S_spec_l02Divide_5) : S_spec_l02Divide_5 := (Lf b_spec_l02Divide_5 66 x).get
noncomputable def TbL_spec_l02Divide_5 : Tb Tryz.prog := { T := [Y3, Y128], mix := mix, Es := [], Bs := [], d := 1 }
noncomputable def P_spec_l02Divide_5 : LpF := loopF [1, 2, 9, 10, 11, 12] [] 0 rd_spec_l02Divide_5 st_spec_l02Divide_5 (.exit 0) G_spec_l02Divide_5 L_spec_l02Divide_5
theorem lok_spec_l02Divide_5 : LoopOk Tryz.prog (loopAt (Tryz.f319.body.getD .skip) 0) P_spec_l02Divide_5 := loopF_ok (t := TbL_spec_l02Divide_5) (lt := fun _ => none) (body := b_spec_l02Divide_5) (n := 66) (by intro h; cases h) (fun _ _ _ h => by cases h)
  (by intro s x h; unfold rd_spec_l02Divide_5 at h; split at h <;> cases h; rfl) (fun x b cs h => lk_lt (l := (st_spec_l02Divide_5 x).mm.blks) (by kernel_rfl) h) (by intro x; kernel_rfl) (fun x h => Tr.get_some h)
noncomputable def B319 : Bod Tryz.prog := ⟨319, Tryz.f319, Tryz.f319.body.getD .skip, Tryz.func319, by kernel_rfl, by kernel_rfl, ⟨ltOf [(5, P_spec_l02Divide_5)], Loops.of (ks := [5]) (by kernel_rfl) (by
  intro i k h f hf
  match i, h with
  | 0, h => cases h; obtain rfl : P_spec_l02Divide_5 = f := Option.some.inj hf; exact lok_spec_l02Divide_5
  | n + 1, h => simp at h)⟩⟩
noncomputable def Tb319 : Tb Tryz.prog := { T := [Y3, Y128], mix := mix, Es := [], Bs := [], d := 1 }
noncomputable def t_spec_l02Divide (a0 : U64) (a1 : U64) (a2 : U64) : Tr (T3 U64 U64 U64) :=
  .br (a2.val == 0) (.bad) (let c1 := (Rng.w .u64 (a0.val.tdiv a2.val)); .br (a2.val == 0) (.bad) (let c2 := (Rng.w .u64 (a0.val.tmod a2.val)); .br (G_spec_l02Divide_5 ⟨a1, a2, c1, c2, ⟨0, rfl⟩, ⟨63, rfl⟩⟩) (let c17 := L_spec_l02Divide_5 ⟨a1, a2, c1, c2, ⟨0, rfl⟩, ⟨63, rfl⟩⟩; .leaf ⟨c17.x2, c17.x4, c17.x3⟩) (.bad)))
theorem r_spec_l02Divide (a0 : U64) (a1 : U64) (a2 : U64) : Tb319.run B319 [enc a0, enc a1, enc a2] (T3 U64 U64 U64) = (t_spec_l02Divide a0 a1 a2).opt := by kernel_rfl
noncomputable def F_spec_l02Divide : U64 → U64 → U64 → T3 U64 U64 U64 := fun a0 a1 a2 => (t_spec_l02Divide a0 a1 a2).get
noncomputable def G_spec_l02Divide : U64 → U64 → U64 → Bool := fun a0 a1 a2 => (t_spec_l02Divide a0 a1 a2).opt.isSome
noncomputable def E_spec_l02Divide : Ent Tryz.prog := .of3 Tb319 B319 G_spec_l02Divide F_spec_l02Divide fun a0 a1 a2 h => (r_spec_l02Divide a0 a1 a2).trans (Tr.get_some h)
noncomputable def B322 : Bod Tryz.prog := ⟨322, Tryz.f322, Tryz.f322.body.getD .skip, Tryz.func322, by kernel_rfl, by kernel_rfl, Loops.no _ _⟩
noncomputable def Tb322 : Tb Tryz.prog := { T := [Y2, Y131, Y133], mix := mix, Es := [], Bs := [], d := 1 }
noncomputable def t_spec_l02Of (a0 : I64) : Tr (Wide) :=
  .br (decide (a0.val < 0)) (.leaf ⟨⟨(-1), rfl⟩, (Rng.w .u64 (a0.val))⟩) (.leaf ⟨⟨0, rfl⟩, (Rng.w .u64 (a0.val))⟩)
theorem r_spec_l02Of (a0 : I64) : Tb322.run B322 [enc a0] (Wide) = (t_spec_l02Of a0).opt := by kernel_rfl
noncomputable def F_spec_l02Of : I64 → Wide := fun a0 => (t_spec_l02Of a0).get
theorem u_spec_l02Of (a0 : I64) : (t_spec_l02Of a0).opt = some (F_spec_l02Of a0) := Tr.tot_get (by kernel_rfl)
noncomputable def E_spec_l02Of : Ent Tryz.prog := .of1 Tb322 B322 (fun _ => true) F_spec_l02Of fun a0 _ => (r_spec_l02Of a0).trans (u_spec_l02Of a0)
noncomputable def B321 : Bod Tryz.prog := ⟨321, Tryz.f321, Tryz.f321.body.getD .skip, Tryz.func321, by kernel_rfl, by kernel_rfl, Loops.no _ _⟩
noncomputable def Tb321 : Tb Tryz.prog := { T := [Y2, Y131, Y133], mix := mix, Es := [], Bs := [], d := 1 }
noncomputable def t_spec_l02Plus (a0 : Wide) (a1 : Wide) : Tr (Wide) :=
  let c1 := (Rng.w .i64 (a0.hi.val + a1.hi.val)); let c2 := (Rng.w .u64 (a0.lo.val + a1.lo.val)); .br (decide (c2.val < a0.lo.val)) (.leaf ⟨(Rng.w .i64 (c1.val + 1)), c2⟩) (.leaf ⟨c1, c2⟩)
theorem r_spec_l02Plus (a0 : Wide) (a1 : Wide) : Tb321.run B321 [enc a0, enc a1] (Wide) = (t_spec_l02Plus a0 a1).opt := by kernel_rfl
noncomputable def F_spec_l02Plus : Wide → Wide → Wide := fun a0 a1 => (t_spec_l02Plus a0 a1).get
theorem u_spec_l02Plus (a0 : Wide) (a1 : Wide) : (t_spec_l02Plus a0 a1).opt = some (F_spec_l02Plus a0 a1) := Tr.tot_get (by kernel_rfl)
noncomputable def E_spec_l02Plus : Ent Tryz.prog := .of2 Tb321 B321 (fun _ _ => true) F_spec_l02Plus fun a0 a1 _ => (r_spec_l02Plus a0 a1).trans (u_spec_l02Plus a0 a1)
noncomputable def B265 : Bod Tryz.prog := ⟨265, Tryz.f265, Tryz.f265.body.getD .skip, Tryz.func265, by kernel_rfl, by kernel_rfl, Loops.no _ _⟩
noncomputable def Tb265 : Tb Tryz.prog := { T := [Y2, Y131, Y133], mix := mix, Es := [E_spec_l02Divide, E_spec_l02Minus, E_spec_l02Plus, E_spec_l02Of], Bs := [], d := 1 }
noncomputable def t_spec_l02Div (a0 : Wide) (a1 : I64) : Tr (T2 Wide I64) :=
  .br (decide (a0.hi.val ≥ 0)) (.br (G_spec_l02Divide (Rng.w .u64 (a0.hi.val)) a0.lo (Rng.w .u64 (a1.val))) (let c1 := F_spec_l02Divide (Rng.w .u64 (a0.hi.val)) a0.lo (Rng.w .u64 (a1.val)); .leaf ⟨⟨(Rng.w .i64 (c1.a.val)), c1.b⟩, (Rng.w .i64 (c1.c.val))⟩) (.bad)) (let c2 := F_spec_l02Minus a0; .br (G_spec_l02Divide (Rng.w .u64 (c2.hi.val)) c2.lo (Rng.w .u64 (a1.val))) (let c3 := F_spec_l02Divide (Rng.w .u64 (c2.hi.val)) c2.lo (Rng.w .u64 (a1.val)); let c4 := F_spec_l02Minus ⟨(Rng.w .i64 (c3.a.val)), c3.b⟩; .br (c3.c.val == 0) (.leaf ⟨c4, ⟨0, rfl⟩⟩) (.leaf ⟨(F_spec_l02Plus c4 (F_spec_l02Of ⟨(-1), rfl⟩)), (Rng.w .i64 (a1.val - (Rng.w .i64 (c3.c.val)).val))⟩)) (.bad))
theorem r_spec_l02Div (a0 : Wide) (a1 : I64) : Tb265.run B265 [enc a0, enc a1] (T2 Wide I64) = (t_spec_l02Div a0 a1).opt := by kernel_rfl
noncomputable def F_spec_l02Div : Wide → I64 → T2 Wide I64 := fun a0 a1 => (t_spec_l02Div a0 a1).get
noncomputable def G_spec_l02Div : Wide → I64 → Bool := fun a0 a1 => (t_spec_l02Div a0 a1).opt.isSome
noncomputable def E_spec_l02Div : Ent Tryz.prog := .of2 Tb265 B265 G_spec_l02Div F_spec_l02Div fun a0 a1 h => (r_spec_l02Div a0 a1).trans (Tr.get_some h)
noncomputable def B267 : Bod Tryz.prog := ⟨267, Tryz.f267, Tryz.f267.body.getD .skip, Tryz.func267, by kernel_rfl, by kernel_rfl, Loops.no _ _⟩
noncomputable def Tb267 : Tb Tryz.prog := { T := [Y2, Y131, Y133], mix := mix, Es := [E_spec_l02Of], Bs := [], d := 1 }
noncomputable def t_spec_l02Int (a0 : Wide) : Tr (T2 I64 Bool) :=
  let c1 := F_spec_l02Of (Rng.w .i64 (a0.lo.val)); .br (!((c1.hi.val == a0.hi.val) && ((c1.lo.val == a0.lo.val) && true))) (.leaf ⟨⟨0, rfl⟩, false⟩) (.leaf ⟨(Rng.w .i64 (a0.lo.val)), true⟩)
theorem r_spec_l02Int (a0 : Wide) : Tb267.run B267 [enc a0] (T2 I64 Bool) = (t_spec_l02Int a0).opt := by kernel_rfl
noncomputable def F_spec_l02Int : Wide → T2 I64 Bool := fun a0 => (t_spec_l02Int a0).get
theorem u_spec_l02Int (a0 : Wide) : (t_spec_l02Int a0).opt = some (F_spec_l02Int a0) := Tr.tot_get (by kernel_rfl)
noncomputable def E_spec_l02Int : Ent Tryz.prog := .of1 Tb267 B267 (fun _ => true) F_spec_l02Int fun a0 _ => (r_spec_l02Int a0).trans (u_spec_l02Int a0)
noncomputable def B168 : Bod Tryz.prog := ⟨168, Tryz.f168, Tryz.f168.body.getD .skip, Tryz.func168, by kernel_rfl, by kernel_rfl, Loops.no _ _⟩
noncomputable def Tb168 : Tb Tryz.prog := { T := [Y2, Y131, Y133], mix := mix, Es := [E_spec_l02Div, E_spec_l02Mul, E_spec_l02Int], Bs := [], d := 1 }
noncomputable def t_spec_MulDivFloor (a0 : I64) (a1 : I64) (a2 : I64) : Tr (T2 I64 Bool) :=
  .br (decide (a2.val ≤ 0)) (.leaf ⟨⟨0, rfl⟩, false⟩) (let c1 := F_spec_l02Mul a0 a1; .br (G_spec_l02Div c1 a2) (let c3 := F_spec_l02Int (F_spec_l02Div c1 a2).a; .leaf ⟨c3.a, c3.b⟩) (.bad))
theorem r_spec_MulDivFloor (a0 : I64) (a1 : I64) (a2 : I64) : Tb168.run B168 [enc a0, enc a1, enc a2] (T2 I64 Bool) = (t_spec_MulDivFloor a0 a1 a2).opt := by kernel_rfl
noncomputable def F_spec_MulDivFloor : I64 → I64 → I64 → T2 I64 Bool := fun a0 a1 a2 => (t_spec_MulDivFloor a0 a1 a2).get
noncomputable def G_spec_MulDivFloor : I64 → I64 → I64 → Bool := fun a0 a1 a2 => (t_spec_MulDivFloor a0 a1 a2).opt.isSome
noncomputable def E_spec_MulDivFloor : Ent Tryz.prog := .of3 Tb168 B168 G_spec_MulDivFloor F_spec_MulDivFloor fun a0 a1 a2 h => (r_spec_MulDivFloor a0 a1 a2).trans (Tr.get_some h)
noncomputable def B268 : Bod Tryz.prog := ⟨268, Tryz.f268, Tryz.f268.body.getD .skip, Tryz.func268, by kernel_rfl, by kernel_rfl, Loops.no _ _⟩
noncomputable def Tb268 : Tb Tryz.prog := { T := [], mix := mix, Es := [E_spec_l00In], Bs := [], d := 1 }
noncomputable def t_spec_l03Ok (a0 : I64) : Tr (Bool) :=
  .leaf (F_spec_l00In a0 ⟨(-1152921504606846976), rfl⟩ ⟨1152921504606846976, rfl⟩)
theorem r_spec_l03Ok (a0 : I64) : Tb268.run B268 [enc a0] (Bool) = (t_spec_l03Ok a0).opt := by kernel_rfl
noncomputable def F_spec_l03Ok : I64 → Bool := fun a0 => (t_spec_l03Ok a0).get
theorem u_spec_l03Ok (a0 : I64) : (t_spec_l03Ok a0).opt = some (F_spec_l03Ok a0) := Tr.tot_get (by kernel_rfl)
noncomputable def E_spec_l03Ok : Ent Tryz.prog := .of1 Tb268 B268 (fun _ => true) F_spec_l03Ok fun a0 _ => (r_spec_l03Ok a0).trans (u_spec_l03Ok a0)
noncomputable def B270 : Bod Tryz.prog := ⟨270, Tryz.f270, Tryz.f270.body.getD .skip, Tryz.func270, by kernel_rfl, by kernel_rfl, Loops.no _ _⟩
noncomputable def Tb270 : Tb Tryz.prog := { T := [], mix := mix, Es := [E_spec_l03Ok], Bs := [], d := 1 }
noncomputable def t_spec_l03End (a0 : I64) (a1 : Bool) : Tr (T2 I64 Bool) :=
  .br (!a1) (.leaf ⟨⟨0, rfl⟩, false⟩) (.br (!(F_spec_l03Ok a0)) (.leaf ⟨⟨0, rfl⟩, false⟩) (.leaf ⟨a0, true⟩))
theorem r_spec_l03End (a0 : I64) (a1 : Bool) : Tb270.run B270 [enc a0, enc a1] (T2 I64 Bool) = (t_spec_l03End a0 a1).opt := by kernel_rfl
noncomputable def F_spec_l03End : I64 → Bool → T2 I64 Bool := fun a0 a1 => (t_spec_l03End a0 a1).get
theorem u_spec_l03End (a0 : I64) (a1 : Bool) : (t_spec_l03End a0 a1).opt = some (F_spec_l03End a0 a1) := Tr.tot_get (by kernel_rfl)
noncomputable def E_spec_l03End : Ent Tryz.prog := .of2 Tb270 B270 (fun _ _ => true) F_spec_l03End fun a0 a1 _ => (r_spec_l03End a0 a1).trans (u_spec_l03End a0 a1)
noncomputable def B184 : Bod Tryz.prog := ⟨184, Tryz.f184, Tryz.f184.body.getD .skip, Tryz.func184, by kernel_rfl, by kernel_rfl, Loops.no _ _⟩
noncomputable def Tb184 : Tb Tryz.prog := { T := [], mix := mix, Es := [E_spec_MulDivFloor, E_spec_l03End], Bs := [], d := 1 }
noncomputable def t_spec_l03Floor (a0 : I64) (a1 : I64) : Tr (T2 I64 Bool) :=
  .br (decide (a1.val ≤ 0)) (.leaf ⟨⟨0, rfl⟩, false⟩) (.br (G_spec_MulDivFloor a0 ⟨4294967296, rfl⟩ a1) (let c1 := F_spec_MulDivFloor a0 ⟨4294967296, rfl⟩ a1; let c2 := F_spec_l03End c1.a c1.b; .leaf ⟨c2.a, c2.b⟩) (.bad))
theorem r_spec_l03Floor (a0 : I64) (a1 : I64) : Tb184.run B184 [enc a0, enc a1] (T2 I64 Bool) = (t_spec_l03Floor a0 a1).opt := by kernel_rfl
noncomputable def F_spec_l03Floor : I64 → I64 → T2 I64 Bool := fun a0 a1 => (t_spec_l03Floor a0 a1).get
noncomputable def G_spec_l03Floor : I64 → I64 → Bool := fun a0 a1 => (t_spec_l03Floor a0 a1).opt.isSome
noncomputable def E_spec_l03Floor : Ent Tryz.prog := .of2 Tb184 B184 G_spec_l03Floor F_spec_l03Floor fun a0 a1 h => (r_spec_l03Floor a0 a1).trans (Tr.get_some h)
noncomputable def B185 : Bod Tryz.prog := ⟨185, Tryz.f185, Tryz.f185.body.getD .skip, Tryz.func185, by kernel_rfl, by kernel_rfl, Loops.no _ _⟩
noncomputable def Tb185 : Tb Tryz.prog := { T := [], mix := mix, Es := [E_spec_MulDivFloor, E_spec_l03End], Bs := [], d := 1 }
noncomputable def t_spec_l03Ceil (a0 : I64) (a1 : I64) : Tr (T2 I64 Bool) :=
  .br (decide (a1.val ≤ 0)) (.leaf ⟨⟨0, rfl⟩, false⟩) (.br (G_spec_MulDivFloor a0 ⟨4294967296, rfl⟩ a1) (let c1 := F_spec_MulDivFloor a0 ⟨4294967296, rfl⟩ a1; .br (!c1.b) (.leaf ⟨⟨0, rfl⟩, false⟩) (.br ((Rng.w .i64 (c1.a.val * a1.val)).val != (Rng.w .i64 (a0.val * 4294967296)).val) (let c5 := F_spec_l03End (Rng.w .i64 (c1.a.val + 1)) true; .leaf ⟨c5.a, c5.b⟩) (let c6 := F_spec_l03End c1.a true; .leaf ⟨c6.a, c6.b⟩))) (.bad))
theorem r_spec_l03Ceil (a0 : I64) (a1 : I64) : Tb185.run B185 [enc a0, enc a1] (T2 I64 Bool) = (t_spec_l03Ceil a0 a1).opt := by kernel_rfl
noncomputable def F_spec_l03Ceil : I64 → I64 → T2 I64 Bool := fun a0 a1 => (t_spec_l03Ceil a0 a1).get
noncomputable def G_spec_l03Ceil : I64 → I64 → Bool := fun a0 a1 => (t_spec_l03Ceil a0 a1).opt.isSome
noncomputable def E_spec_l03Ceil : Ent Tryz.prog := .of2 Tb185 B185 G_spec_l03Ceil F_spec_l03Ceil fun a0 a1 h => (r_spec_l03Ceil a0 a1).trans (Tr.get_some h)
noncomputable def B90 : Bod Tryz.prog := ⟨90, Tryz.f90, Tryz.f90.body.getD .skip, Tryz.func90, by kernel_rfl, by kernel_rfl, Loops.no _ _⟩
noncomputable def Tb90 : Tb Tryz.prog := { T := [Y2, Y27], mix := mix, Es := [], Bs := [], d := 1 }
noncomputable def t_spec_l04Ok (a0 : Iv) : Tr (Bool) :=
  .br (decide ((-1152921504606846976) < a0.lo.val)) (.br (decide (a0.lo.val ≤ a0.hi.val)) (.leaf (decide (a0.hi.val < 1152921504606846976))) (.leaf false)) (.leaf false)
theorem r_spec_l04Ok (a0 : Iv) : Tb90.run B90 [enc a0] (Bool) = (t_spec_l04Ok a0).opt := by kernel_rfl
noncomputable def F_spec_l04Ok : Iv → Bool := fun a0 => (t_spec_l04Ok a0).get
theorem u_spec_l04Ok (a0 : Iv) : (t_spec_l04Ok a0).opt = some (F_spec_l04Ok a0) := Tr.tot_get (by kernel_rfl)
noncomputable def E_spec_l04Ok : Ent Tryz.prog := .of1 Tb90 B90 (fun _ => true) F_spec_l04Ok fun a0 _ => (r_spec_l04Ok a0).trans (u_spec_l04Ok a0)
noncomputable def B173 : Bod Tryz.prog := ⟨173, Tryz.f173, Tryz.f173.body.getD .skip, Tryz.func173, by kernel_rfl, by kernel_rfl, Loops.no _ _⟩
noncomputable def Tb173 : Tb Tryz.prog := { T := [Y2, Y27], mix := mix, Es := [E_spec_l04Ok, E_spec_l04Whole], Bs := [], d := 1 }
noncomputable def t_spec_l04Make (a0 : I64) (a1 : I64) : Tr (Iv) :=
  .br (!(F_spec_l04Ok ⟨a0, a1⟩)) (.leaf F_spec_l04Whole) (.leaf ⟨a0, a1⟩)
theorem r_spec_l04Make (a0 : I64) (a1 : I64) : Tb173.run B173 [enc a0, enc a1] (Iv) = (t_spec_l04Make a0 a1).opt := by kernel_rfl
noncomputable def F_spec_l04Make : I64 → I64 → Iv := fun a0 a1 => (t_spec_l04Make a0 a1).get
theorem u_spec_l04Make (a0 : I64) (a1 : I64) : (t_spec_l04Make a0 a1).opt = some (F_spec_l04Make a0 a1) := Tr.tot_get (by kernel_rfl)
noncomputable def E_spec_l04Make : Ent Tryz.prog := .of2 Tb173 B173 (fun _ _ => true) F_spec_l04Make fun a0 a1 _ => (r_spec_l04Make a0 a1).trans (u_spec_l04Make a0 a1)
noncomputable def B71 : Bod Tryz.prog := ⟨71, Tryz.f71, Tryz.f71.body.getD .skip, Tryz.func71, by kernel_rfl, by kernel_rfl, Loops.no _ _⟩
noncomputable def Tb71 : Tb Tryz.prog := { T := [Y2, Y27], mix := mix, Es := [E_spec_l04Whole, E_spec_l04Make, E_spec_l03Floor, E_spec_l03Ceil], Bs := [], d := 1 }
noncomputable def t_spec_Quotient (a0 : I64) (a1 : I64) : Tr (Iv) :=
  .br (decide (a1.val < 0)) (.br (a0.val == (-9223372036854775808)) (.leaf F_spec_l04Whole) (.br (a1.val == (-9223372036854775808)) (.leaf F_spec_l04Whole) (let c5 := (Rng.w .i64 (0 - a0.val)); let c6 := (Rng.w .i64 (0 - a1.val)); .br (G_spec_l03Floor c5 c6) (let c7 := F_spec_l03Floor c5 c6; .br (G_spec_l03Ceil c5 c6) (let c8 := F_spec_l03Ceil c5 c6; .br (!c7.b) (.leaf F_spec_l04Whole) (.br (!c8.b) (.leaf F_spec_l04Whole) (.leaf (F_spec_l04Make c7.a c8.a)))) (.bad)) (.bad)))) (.br (G_spec_l03Floor a0 a1) (let c12 := F_spec_l03Floor a0 a1; .br (G_spec_l03Ceil a0 a1) (let c13 := F_spec_l03Ceil a0 a1; .br (!c12.b) (.leaf F_spec_l04Whole) (.br (!c13.b) (.leaf F_spec_l04Whole) (.leaf (F_spec_l04Make c12.a c13.a)))) (.bad)) (.bad))
theorem r_spec_Quotient (a0 : I64) (a1 : I64) : Tb71.run B71 [enc a0, enc a1] (Iv) = (t_spec_Quotient a0 a1).opt := by kernel_rfl
noncomputable def F_spec_Quotient : I64 → I64 → Iv := fun a0 a1 => (t_spec_Quotient a0 a1).get
noncomputable def G_spec_Quotient : I64 → I64 → Bool := fun a0 a1 => (t_spec_Quotient a0 a1).opt.isSome
noncomputable def E_spec_Quotient : Ent Tryz.prog := .of2 Tb71 B71 G_spec_Quotient F_spec_Quotient fun a0 a1 h => (r_spec_Quotient a0 a1).trans (Tr.get_some h)
noncomputable def B110 : Bod Tryz.prog := ⟨110, Tryz.f110, Tryz.f110.body.getD .skip, Tryz.func110, by kernel_rfl, by kernel_rfl, Loops.no _ _⟩
noncomputable def Tb110 : Tb Tryz.prog := { T := [Y2, Y27], mix := mix, Es := [], Bs := [], d := 1 }
noncomputable def t_impl_Whole : Tr (Iv) :=
  .leaf ⟨⟨(-1152921504606846976), rfl⟩, ⟨1152921504606846976, rfl⟩⟩
theorem r_impl_Whole : Tb110.run B110 [] (Iv) = (t_impl_Whole).opt := by kernel_rfl
noncomputable def F_impl_Whole : Iv := (t_impl_Whole).get
theorem u_impl_Whole : (t_impl_Whole).opt = some (F_impl_Whole) := Tr.tot_get (by kernel_rfl)
noncomputable def E_impl_Whole : Ent Tryz.prog := .of0 Tb110 B110 F_impl_Whole (r_impl_Whole.trans u_impl_Whole)
noncomputable def B330 : Bod Tryz.prog := ⟨330, Tryz.f330, Tryz.f330.body.getD .skip, Tryz.func330, by kernel_rfl, by kernel_rfl, Loops.no _ _⟩
noncomputable def Tb330 : Tb Tryz.prog := { T := [], mix := mix, Es := [], Bs := [], d := 1 }
noncomputable def t_math_bits_Mul64 (a0 : U64) (a1 : U64) : Tr (T2 U64 U64) :=
  let c1 := (Rng.w .u64 (bitop .and .u64 a0.val 4294967295)); let c2 := (Rng.w .u64 (a0.val.fdiv 4294967296)); let c3 := (Rng.w .u64 (bitop .and .u64 a1.val 4294967295)); let c4 := (Rng.w .u64 (a1.val.fdiv 4294967296)); let c8 := (Rng.w .u64 ((Rng.w .u64 (c2.val * c3.val)).val + (Rng.w .u64 ((Rng.w .u64 (c1.val * c3.val)).val.fdiv 4294967296)).val)); .leaf ⟨(Rng.w .u64 ((Rng.w .u64 ((Rng.w .u64 (c2.val * c4.val)).val + (Rng.w .u64 (c8.val.fdiv 4294967296)).val)).val + (Rng.w .u64 ((Rng.w .u64 ((Rng.w .u64 (bitop .and .u64 c8.val 4294967295)).val + (Rng.w .u64 (c1.val * c4.val)).val)).val.fdiv 4294967296)).val)), (Rng.w .u64 (a0.val * a1.val))⟩
theorem r_math_bits_Mul64 (a0 : U64) (a1 : U64) : Tb330.run B330 [enc a0, enc a1] (T2 U64 U64) = (t_math_bits_Mul64 a0 a1).opt := by kernel_rfl
noncomputable def F_math_bits_Mul64 : U64 → U64 → T2 U64 U64 := fun a0 a1 => (t_math_bits_Mul64 a0 a1).get
theorem u_math_bits_Mul64 (a0 : U64) (a1 : U64) : (t_math_bits_Mul64 a0 a1).opt = some (F_math_bits_Mul64 a0 a1) := Tr.tot_get (by kernel_rfl)
noncomputable def E_math_bits_Mul64 : Ent Tryz.prog := .of2 Tb330 B330 (fun _ _ => true) F_math_bits_Mul64 fun a0 a1 _ => (r_math_bits_Mul64 a0 a1).trans (u_math_bits_Mul64 a0 a1)
noncomputable def B279 : Bod Tryz.prog := ⟨279, Tryz.f279, Tryz.f279.body.getD .skip, Tryz.func279, by kernel_rfl, by kernel_rfl, Loops.no _ _⟩
noncomputable def Tb279 : Tb Tryz.prog := { T := [Y2, Y131, Y133], mix := mix, Es := [E_math_bits_Mul64], Bs := [], d := 1 }
noncomputable def t_impl_WideMul (a0 : I64) (a1 : I64) : Tr (Wide) :=
  let c1 := F_math_bits_Mul64 (Rng.w .u64 (a0.val)) (Rng.w .u64 (a1.val)); .br (decide (a0.val < 0)) (let c2 := (Rng.w .u64 (c1.a.val - (Rng.w .u64 (a1.val)).val)); .br (decide (a1.val < 0)) (.leaf ⟨(Rng.w .i64 ((Rng.w .u64 (c2.val - (Rng.w .u64 (a0.val)).val)).val)), c1.b⟩) (.leaf ⟨(Rng.w .i64 (c2.val)), c1.b⟩)) (.br (decide (a1.val < 0)) (.leaf ⟨(Rng.w .i64 ((Rng.w .u64 (c1.a.val - (Rng.w .u64 (a0.val)).val)).val)), c1.b⟩) (.leaf ⟨(Rng.w .i64 (c1.a.val)), c1.b⟩))
theorem r_impl_WideMul (a0 : I64) (a1 : I64) : Tb279.run B279 [enc a0, enc a1] (Wide) = (t_impl_WideMul a0 a1).opt := by kernel_rfl
noncomputable def F_impl_WideMul : I64 → I64 → Wide := fun a0 a1 => (t_impl_WideMul a0 a1).get
theorem u_impl_WideMul (a0 : I64) (a1 : I64) : (t_impl_WideMul a0 a1).opt = some (F_impl_WideMul a0 a1) := Tr.tot_get (by kernel_rfl)
noncomputable def E_impl_WideMul : Ent Tryz.prog := .of2 Tb279 B279 (fun _ _ => true) F_impl_WideMul fun a0 a1 _ => (r_impl_WideMul a0 a1).trans (u_impl_WideMul a0 a1)
noncomputable def Y5 : TyE Tryz.prog := ⟨5, 1, (.int .u8), [.u8 ⟨0, rfl⟩], false, by kernel_rfl, by kernel_rfl, by kernel_rfl, by kernel_rfl, by kernel_rfl, by kernel_rfl⟩
noncomputable def Y9 : TyE Tryz.prog := ⟨9, 1, .str, [.str ByteArray.empty], false, by kernel_rfl, by kernel_rfl, by kernel_rfl, by kernel_rfl, by kernel_rfl, by kernel_rfl⟩
noncomputable def S_353 (i : Nat) : ByteArray := (codeStrs (Tryz.f353.body.getD .skip)).getD i ByteArray.empty
noncomputable def B353 : Bod Tryz.prog := ⟨353, Tryz.f353, Tryz.f353.body.getD .skip, Tryz.func353, by kernel_rfl, by kernel_rfl, Loops.no _ _⟩
noncomputable def Tb353 : Tb Tryz.prog := { T := [Y3, Y5, Y9, Y131], mix := mix, Es := [], Bs := [], d := 1 }
noncomputable def t_math_bits_Len64 (a0 : U64) : Tr (I64) :=
  .br (decide (a0.val ≥ 4294967296)) (let c2 := (Rng.w .u64 (a0.val.fdiv 4294967296)); .br (decide (c2.val ≥ 65536)) (let c4 := (Rng.w .u64 (c2.val.fdiv 65536)); .br (decide (c4.val ≥ 256)) (let c5 := (Rng.w .u64 (c4.val.fdiv 256)); .br (Nat.blt ((Rng.w .u8 (c5.val)).val.toNat) (S_353 0).size) (.leaf (Rng.w .i64 (56 + (Rng.w .i64 ((strAt (S_353 0) ((Rng.w .u8 (c5.val)).val.toNat)).val)).val))) (.bad)) (.br (Nat.blt ((Rng.w .u8 (c4.val)).val.toNat) (S_353 0).size) (.leaf (Rng.w .i64 (48 + (Rng.w .i64 ((strAt (S_353 0) ((Rng.w .u8 (c4.val)).val.toNat)).val)).val))) (.bad))) (.br (decide (c2.val ≥ 256)) (let c10 := (Rng.w .u64 (c2.val.fdiv 256)); .br (Nat.blt ((Rng.w .u8 (c10.val)).val.toNat) (S_353 0).size) (.leaf (Rng.w .i64 (40 + (Rng.w .i64 ((strAt (S_353 0) ((Rng.w .u8 (c10.val)).val.toNat)).val)).val))) (.bad)) (.br (Nat.blt ((Rng.w .u8 (c2.val)).val.toNat) (S_353 0).size) (.leaf (Rng.w .i64 (32 + (Rng.w .i64 ((strAt (S_353 0) ((Rng.w .u8 (c2.val)).val.toNat)).val)).val))) (.bad)))) (.br (decide (a0.val ≥ 65536)) (let c16 := (Rng.w .u64 (a0.val.fdiv 65536)); .br (decide (c16.val ≥ 256)) (let c17 := (Rng.w .u64 (c16.val.fdiv 256)); .br (Nat.blt ((Rng.w .u8 (c17.val)).val.toNat) (S_353 0).size) (.leaf (Rng.w .i64 (24 + (Rng.w .i64 ((strAt (S_353 0) ((Rng.w .u8 (c17.val)).val.toNat)).val)).val))) (.bad)) (.br (Nat.blt ((Rng.w .u8 (c16.val)).val.toNat) (S_353 0).size) (.leaf (Rng.w .i64 (16 + (Rng.w .i64 ((strAt (S_353 0) ((Rng.w .u8 (c16.val)).val.toNat)).val)).val))) (.bad))) (.br (decide (a0.val ≥ 256)) (let c22 := (Rng.w .u64 (a0.val.fdiv 256)); .br (Nat.blt ((Rng.w .u8 (c22.val)).val.toNat) (S_353 0).size) (.leaf (Rng.w .i64 (8 + (Rng.w .i64 ((strAt (S_353 0) ((Rng.w .u8 (c22.val)).val.toNat)).val)).val))) (.bad)) (.br (Nat.blt ((Rng.w .u8 (a0.val)).val.toNat) (S_353 0).size) (.leaf (Rng.w .i64 (0 + (Rng.w .i64 ((strAt (S_353 0) ((Rng.w .u8 (a0.val)).val.toNat)).val)).val))) (.bad))))
theorem r_math_bits_Len64 (a0 : U64) : Tb353.run B353 [enc a0] (I64) = (t_math_bits_Len64 a0).opt := by kernel_rfl
noncomputable def F_math_bits_Len64 : U64 → I64 := fun a0 => (t_math_bits_Len64 a0).get
noncomputable def G_math_bits_Len64 : U64 → Bool := fun a0 => (t_math_bits_Len64 a0).opt.isSome
noncomputable def E_math_bits_Len64 : Ent Tryz.prog := .of1 Tb353 B353 G_math_bits_Len64 F_math_bits_Len64 fun a0 h => (r_math_bits_Len64 a0).trans (Tr.get_some h)
noncomputable def B352 : Bod Tryz.prog := ⟨352, Tryz.f352, Tryz.f352.body.getD .skip, Tryz.func352, by kernel_rfl, by kernel_rfl, Loops.no _ _⟩
noncomputable def Tb352 : Tb Tryz.prog := { T := [], mix := mix, Es := [E_math_bits_Len64], Bs := [], d := 1 }
noncomputable def t_math_bits_LeadingZeros64 (a0 : U64) : Tr (I64) :=
  .br (G_math_bits_Len64 a0) (.leaf (Rng.w .i64 (64 - (F_math_bits_Len64 a0).val))) (.bad)
theorem r_math_bits_LeadingZeros64 (a0 : U64) : Tb352.run B352 [enc a0] (I64) = (t_math_bits_LeadingZeros64 a0).opt := by kernel_rfl
noncomputable def F_math_bits_LeadingZeros64 : U64 → I64 := fun a0 => (t_math_bits_LeadingZeros64 a0).get
noncomputable def G_math_bits_LeadingZeros64 : U64 → Bool := fun a0 => (t_math_bits_LeadingZeros64 a0).opt.isSome
noncomputable def E_math_bits_LeadingZeros64 : Ent Tryz.prog := .of1 Tb352 B352 G_math_bits_LeadingZeros64 F_math_bits_LeadingZeros64 fun a0 h => (r_math_bits_LeadingZeros64 a0).trans (Tr.get_some h)
structure S_math_bits_Div64_17 where
  x0 : U64
  x1 : U64
  x2 : U64
  x3 : U64
  x4 : U64
  x5 : U64
  x6 : U64
  x7 : U64
  x8 : U64
instance : Inhabited S_math_bits_Div64_17 := ⟨⟨default, default, default, default, default, default, default, default, default⟩⟩
noncomputable def st_math_bits_Div64_17 (x : S_math_bits_Div64_17) : St := ⟨[(2, .u64 x.x0), (8, .u64 x.x1), (9, .u64 x.x2), (10, .u64 x.x3), (11, .u64 x.x4), (13, .u64 x.x5), (14, .u64 x.x6), (15, .u64 x.x7), (16, .u64 x.x8)], 135, ⟨[], 0, 0⟩⟩
noncomputable def rd_math_bits_Div64_17 : St → Option S_math_bits_Div64_17 := fun s => match s with
  | ⟨[(2, .u64 x0), (8, .u64 x1), (9, .u64 x2), (10, .u64 x3), (11, .u64 x4), (13, .u64 x5), (14, .u64 x6), (15, .u64 x7), (16, .u64 x8)], 135, ⟨[], 0, 0⟩⟩ => some ⟨x0, x1, x2, x3, x4, x5, x6, x7, x8⟩
  | _ => none
noncomputable def b_math_bits_Div64_17 (x : S_math_bits_Div64_17) : Tr (Lp S_math_bits_Div64_17) :=
  .br (decide (x.x7.val ≥ 4294967296)) (let c19 := (Rng.w .u64 (x.x7.val - 1)); let c20 := (Rng.w .u64 (x.x8.val + x.x2.val)); .br (decide (c20.val ≥ 4294967296)) (.leaf (.out ⟨x.x0, x.x1, x.x2, x.x3, x.x4, x.x5, x.x6, c19, c20⟩)) (.leaf (.again ⟨x.x0, x.x1, x.x2, x.x3, x.x4, x.x5, x.x6, c19, c20⟩))) (.br (decide ((Rng.w .u64 (x.x7.val * x.x3.val)).val > (Rng.w .u64 ((Rng.w .u64 (4294967296 * x.x8.val)).val + x.x5.val)).val)) (let c26 := (Rng.w .u64 (x.x7.val - 1)); let c27 := (Rng.w .u64 (x.x8.val + x.x2.val)); .br (decide (c27.val ≥ 4294967296)) (.leaf (.out ⟨x.x0, x.x1, x.x2, x.x3, x.x4, x.x5, x.x6, c26, c27⟩)) (.leaf (.again ⟨x.x0, x.x1, x.x2, x.x3, x.x4, x.x5, x.x6, c26, c27⟩))) (.leaf (.out ⟨x.x0, x.x1, x.x2, x.x3, x.x4, x.x5, x.x6, x.x7, x.x8⟩)))
noncomputable def G_math_bits_Div64_17 (x : S_math_bits_Div64_17) : Bool := (Lf b_math_bits_Div64_17 4 x).opt.isSome
noncomputable def L_math_bits_Div64_17 (x : S_math_bits_Div64_17) : S_math_bits_Div64_17 := (Lf b_math_bits_Div64_17 4 x).get
noncomputable def TbL_math_bits_Div64_17 : Tb Tryz.prog := { T := [], mix := mix, Es := [], Bs := [], d := 1 }
noncomputable def P_math_bits_Div64_17 : LpF := loopF [2, 8, 9, 10, 11, 13, 14, 15, 16] [] 0 rd_math_bits_Div64_17 st_math_bits_Div64_17 (.exit 0) G_math_bits_Div64_17 L_math_bits_Div64_17
theorem lok_math_bits_Div64_17 : LoopOk Tryz.prog (loopAt (Tryz.f348.body.getD .skip) 0) P_math_bits_Div64_17 := loopF_ok (t := TbL_math_bits_Div64_17) (lt := fun _ => none) (body := b_math_bits_Div64_17) (n := 4) (by intro h; cases h) (fun _ _ _ h => by cases h)
  (by intro s x h; unfold rd_math_bits_Div64_17 at h; split at h <;> cases h; rfl) (fun x b cs h => lk_lt (l := (st_math_bits_Div64_17 x).mm.blks) (by kernel_rfl) h) (by intro x; kernel_rfl) (fun x h => Tr.get_some h)
structure S_math_bits_Div64_24 where
  x0 : U64
  x1 : U64
  x2 : U64
  x3 : U64
  x4 : U64
  x5 : U64
  x6 : U64
  x7 : U64
  x8 : U64
instance : Inhabited S_math_bits_Div64_24 := ⟨⟨default, default, default, default, default, default, default, default, default⟩⟩
noncomputable def st_math_bits_Div64_24 (x : S_math_bits_Div64_24) : St := ⟨[(2, .u64 x.x0), (8, .u64 x.x1), (9, .u64 x.x2), (10, .u64 x.x3), (14, .u64 x.x4), (15, .u64 x.x5), (16, .u64 x.x6), (17, .u64 x.x7), (18, .u64 x.x8)], 135, ⟨[], 0, 0⟩⟩
noncomputable def rd_math_bits_Div64_24 : St → Option S_math_bits_Div64_24 := fun s => match s with
  | ⟨[(2, .u64 x0), (8, .u64 x1), (9, .u64 x2), (10, .u64 x3), (14, .u64 x4), (15, .u64 x5), (16, .u64 x6), (17, .u64 x7), (18, .u64 x8)], 135, ⟨[], 0, 0⟩⟩ => some ⟨x0, x1, x2, x3, x4, x5, x6, x7, x8⟩
  | _ => none
noncomputable def b_math_bits_Div64_24 (x : S_math_bits_Div64_24) : Tr (Lp S_math_bits_Div64_24) :=
  .br (decide (x.x8.val ≥ 4294967296)) (let c38 := (Rng.w .u64 (x.x8.val - 1)); let c39 := (Rng.w .u64 (x.x6.val + x.x2.val)); .br (decide (c39.val ≥ 4294967296)) (.leaf (.out ⟨x.x0, x.x1, x.x2, x.x3, x.x4, x.x5, c39, x.x7, c38⟩)) (.leaf (.again ⟨x.x0, x.x1, x.x2, x.x3, x.x4, x.x5, c39, x.x7, c38⟩))) (.br (decide ((Rng.w .u64 (x.x8.val * x.x3.val)).val > (Rng.w .u64 ((Rng.w .u64 (4294967296 * x.x6.val)).val + x.x4.val)).val)) (let c45 := (Rng.w .u64 (x.x8.val - 1)); let c46 := (Rng.w .u64 (x.x6.val + x.x2.val)); .br (decide (c46.val ≥ 4294967296)) (.leaf (.out ⟨x.x0, x.x1, x.x2, x.x3, x.x4, x.x5, c46, x.x7, c45⟩)) (.leaf (.again ⟨x.x0, x.x1, x.x2, x.x3, x.x4, x.x5, c46, x.x7, c45⟩))) (.leaf (.out ⟨x.x0, x.x1, x.x2, x.x3, x.x4, x.x5, x.x6, x.x7, x.x8⟩)))
noncomputable def G_math_bits_Div64_24 (x : S_math_bits_Div64_24) : Bool := (Lf b_math_bits_Div64_24 4 x).opt.isSome
noncomputable def L_math_bits_Div64_24 (x : S_math_bits_Div64_24) : S_math_bits_Div64_24 := (Lf b_math_bits_Div64_24 4 x).get
noncomputable def TbL_math_bits_Div64_24 : Tb Tryz.prog := { T := [], mix := mix, Es := [], Bs := [], d := 1 }
noncomputable def P_math_bits_Div64_24 : LpF := loopF [2, 8, 9, 10, 14, 15, 16, 17, 18] [] 0 rd_math_bits_Div64_24 st_math_bits_Div64_24 (.exit 2) G_math_bits_Div64_24 L_math_bits_Div64_24
theorem lok_math_bits_Div64_24 : LoopOk Tryz.prog (loopAt (Tryz.f348.body.getD .skip) 1) P_math_bits_Div64_24 := loopF_ok (t := TbL_math_bits_Div64_24) (lt := fun _ => none) (body := b_math_bits_Div64_24) (n := 4) (by intro h; cases h) (fun _ _ _ h => by cases h)
  (by intro s x h; unfold rd_math_bits_Div64_24 at h; split at h <;> cases h; rfl) (fun x b cs h => lk_lt (l := (st_math_bits_Div64_24 x).mm.blks) (by kernel_rfl) h) (by intro x; kernel_rfl) (fun x h => Tr.get_some h)
noncomputable def B348 : Bod Tryz.prog := ⟨348, Tryz.f348, Tryz.f348.body.getD .skip, Tryz.func348, by kernel_rfl, by kernel_rfl, ⟨ltOf [(17, P_math_bits_Div64_17), (24, P_math_bits_Div64_24)], Loops.of (ks := [17, 24]) (by kernel_rfl) (by
  intro i k h f hf
  match i, h with
  | 0, h => cases h; obtain rfl : P_math_bits_Div64_17 = f := Option.some.inj hf; exact lok_math_bits_Div64_17
  | 1, h => cases h; obtain rfl : P_math_bits_Div64_24 = f := Option.some.inj hf; exact lok_math_bits_Div64_24
  | n + 2, h => simp at h)⟩⟩
noncomputable def Tb348 : Tb Tryz.prog := { T := [Y3, Y128], mix := mix, Es := [E_math_bits_LeadingZeros64], Bs := [], d := 1 }
noncomputable def t_math_bits_Div64 (a0 : U64) (a1 : U64) (a2 : U64) : Tr (T2 U64 U64) :=
  .br (a2.val == 0) (.bad) (.br (decide (a2.val ≤ a0.val)) (.bad) (.br (a0.val == 0) (.br (a2.val == 0) (.bad) (.br (a2.val == 0) (.bad) (.leaf ⟨(Rng.w .u64 (a1.val.tdiv a2.val)), (Rng.w .u64 (a1.val.tmod a2.val))⟩))) (.br (G_math_bits_LeadingZeros64 a2) (let c4 := F_math_bits_LeadingZeros64 a2; let c5 := (Rng.w .u64 (a2.val * (2 ^ min ((Rng.w .u64 (c4.val)).val).toNat 64))); let c6 := (Rng.w .u64 (c5.val.fdiv 4294967296)); let c7 := (Rng.w .u64 (bitop .and .u64 c5.val 4294967295)); let c11 := (Rng.w .u64 (bitop .or .u64 (Rng.w .u64 (a0.val * (2 ^ min ((Rng.w .u64 (c4.val)).val).toNat 64))).val (Rng.w .u64 (a1.val.fdiv (2 ^ min ((Rng.w .u64 (64 - (Rng.w .u64 (c4.val)).val)).val).toNat 64))).val)); let c12 := (Rng.w .u64 (a1.val * (2 ^ min ((Rng.w .u64 (c4.val)).val).toNat 64))); let c13 := (Rng.w .u64 (c12.val.fdiv 4294967296)); let c14 := (Rng.w .u64 (bitop .and .u64 c12.val 4294967295)); .br (c6.val == 0) (.bad) (let c15 := (Rng.w .u64 (c11.val.tdiv c6.val)); let c17 := (Rng.w .u64 (c11.val - (Rng.w .u64 (c15.val * c6.val)).val)); .br (G_math_bits_Div64_17 ⟨c5, (Rng.w .u64 (c4.val)), c6, c7, c11, c13, c14, c15, c17⟩) (let c29 := L_math_bits_Div64_17 ⟨c5, (Rng.w .u64 (c4.val)), c6, c7, c11, c13, c14, c15, c17⟩; let c33 := (Rng.w .u64 ((Rng.w .u64 ((Rng.w .u64 (c29.x4.val * 4294967296)).val + c29.x5.val)).val - (Rng.w .u64 (c29.x7.val * c29.x0.val)).val)); .br (c29.x2.val == 0) (.bad) (let c34 := (Rng.w .u64 (c33.val.tdiv c29.x2.val)); let c36 := (Rng.w .u64 (c33.val - (Rng.w .u64 (c34.val * c29.x2.val)).val)); .br (G_math_bits_Div64_24 ⟨c29.x0, c29.x1, c29.x2, c29.x3, c29.x6, c29.x7, c36, c33, c34⟩) (let c48 := L_math_bits_Div64_24 ⟨c29.x0, c29.x1, c29.x2, c29.x3, c29.x6, c29.x7, c36, c33, c34⟩; .leaf ⟨(Rng.w .u64 ((Rng.w .u64 (c48.x5.val * 4294967296)).val + c48.x8.val)), (Rng.w .u64 ((Rng.w .u64 ((Rng.w .u64 ((Rng.w .u64 (c48.x7.val * 4294967296)).val + c48.x4.val)).val - (Rng.w .u64 (c48.x8.val * c48.x0.val)).val)).val.fdiv (2 ^ min (c48.x1.val).toNat 64)))⟩) (.bad))) (.bad))) (.bad))))
theorem r_math_bits_Div64 (a0 : U64) (a1 : U64) (a2 : U64) : Tb348.run B348 [enc a0, enc a1, enc a2] (T2 U64 U64) = (t_math_bits_Div64 a0 a1 a2).opt := by kernel_rfl
noncomputable def F_math_bits_Div64 : U64 → U64 → U64 → T2 U64 U64 := fun a0 a1 a2 => (t_math_bits_Div64 a0 a1 a2).get
noncomputable def G_math_bits_Div64 : U64 → U64 → U64 → Bool := fun a0 a1 a2 => (t_math_bits_Div64 a0 a1 a2).opt.isSome
noncomputable def E_math_bits_Div64 : Ent Tryz.prog := .of3 Tb348 B348 G_math_bits_Div64 F_math_bits_Div64 fun a0 a1 a2 h => (r_math_bits_Div64 a0 a1 a2).trans (Tr.get_some h)
noncomputable def B327 : Bod Tryz.prog := ⟨327, Tryz.f327, Tryz.f327.body.getD .skip, Tryz.func327, by kernel_rfl, by kernel_rfl, Loops.no _ _⟩
noncomputable def Tb327 : Tb Tryz.prog := { T := [], mix := mix, Es := [E_math_bits_Div64], Bs := [], d := 1 }
noncomputable def t_impl_divided (a0 : U64) (a1 : U64) (a2 : U64) : Tr (T3 U64 U64 U64) :=
  .br (a2.val == 0) (.bad) (.br (a2.val == 0) (.bad) (let c2 := (Rng.w .u64 (a0.val.tmod a2.val)); .br (G_math_bits_Div64 c2 a1 a2) (let c3 := F_math_bits_Div64 c2 a1 a2; .leaf ⟨(Rng.w .u64 (a0.val.tdiv a2.val)), c3.a, c3.b⟩) (.bad)))
theorem r_impl_divided (a0 : U64) (a1 : U64) (a2 : U64) : Tb327.run B327 [enc a0, enc a1, enc a2] (T3 U64 U64 U64) = (t_impl_divided a0 a1 a2).opt := by kernel_rfl
noncomputable def F_impl_divided : U64 → U64 → U64 → T3 U64 U64 U64 := fun a0 a1 a2 => (t_impl_divided a0 a1 a2).get
noncomputable def G_impl_divided : U64 → U64 → U64 → Bool := fun a0 a1 a2 => (t_impl_divided a0 a1 a2).opt.isSome
noncomputable def E_impl_divided : Ent Tryz.prog := .of3 Tb327 B327 G_impl_divided F_impl_divided fun a0 a1 a2 h => (r_impl_divided a0 a1 a2).trans (Tr.get_some h)
noncomputable def B328 : Bod Tryz.prog := ⟨328, Tryz.f328, Tryz.f328.body.getD .skip, Tryz.func328, by kernel_rfl, by kernel_rfl, Loops.no _ _⟩
noncomputable def Tb328 : Tb Tryz.prog := { T := [Y2, Y131, Y133], mix := mix, Es := [E_math_bits_Sub64], Bs := [], d := 1 }
noncomputable def t_impl_Wide_negative (a0 : Wide) : Tr (Wide) :=
  let c1 := F_math_bits_Sub64 ⟨0, rfl⟩ a0.lo ⟨0, rfl⟩; .br (G_carry ⟨0, rfl⟩ (Rng.w .u64 (a0.hi.val)) c1.b) (.leaf ⟨(Rng.w .i64 ((F_math_bits_Sub64 ⟨0, rfl⟩ (Rng.w .u64 (a0.hi.val)) c1.b).a.val)), c1.a⟩) (.bad)
theorem r_impl_Wide_negative (a0 : Wide) : Tb328.run B328 [enc a0] (Wide) = (t_impl_Wide_negative a0).opt := by kernel_rfl
noncomputable def F_impl_Wide_negative : Wide → Wide := fun a0 => (t_impl_Wide_negative a0).get
noncomputable def G_impl_Wide_negative : Wide → Bool := fun a0 => (t_impl_Wide_negative a0).opt.isSome
noncomputable def E_impl_Wide_negative : Ent Tryz.prog := .of1 Tb328 B328 G_impl_Wide_negative F_impl_Wide_negative fun a0 h => (r_impl_Wide_negative a0).trans (Tr.get_some h)
noncomputable def B278 : Bod Tryz.prog := ⟨278, Tryz.f278, Tryz.f278.body.getD .skip, Tryz.func278, by kernel_rfl, by kernel_rfl, Loops.no _ _⟩
noncomputable def Tb278 : Tb Tryz.prog := { T := [Y2, Y131, Y133], mix := mix, Es := [E_impl_divided, E_impl_Wide_negative, E_math_bits_Add64], Bs := [], d := 1 }
noncomputable def t_impl_WideDiv (a0 : Wide) (a1 : I64) : Tr (T3 Wide I64 Bool) :=
  .br (decide (a1.val ≤ 0)) (.leaf ⟨⟨⟨0, rfl⟩, ⟨0, rfl⟩⟩, ⟨0, rfl⟩, false⟩) (.br (decide (a0.hi.val ≥ 0)) (.br (G_impl_divided (Rng.w .u64 (a0.hi.val)) a0.lo (Rng.w .u64 (a1.val))) (let c1 := F_impl_divided (Rng.w .u64 (a0.hi.val)) a0.lo (Rng.w .u64 (a1.val)); .leaf ⟨⟨(Rng.w .i64 (c1.a.val)), c1.b⟩, (Rng.w .i64 (c1.c.val)), true⟩) (.bad)) (.br (G_impl_Wide_negative a0) (let c2 := F_impl_Wide_negative a0; .br (G_impl_divided (Rng.w .u64 (c2.hi.val)) c2.lo (Rng.w .u64 (a1.val))) (let c3 := F_impl_divided (Rng.w .u64 (c2.hi.val)) c2.lo (Rng.w .u64 (a1.val)); .br (c3.c.val == 0) (.br (G_impl_Wide_negative ⟨(Rng.w .i64 (c3.a.val)), c3.b⟩) (.leaf ⟨(F_impl_Wide_negative ⟨(Rng.w .i64 (c3.a.val)), c3.b⟩), ⟨0, rfl⟩, true⟩) (.bad)) (let c5 := F_math_bits_Add64 c3.b ⟨1, rfl⟩ ⟨0, rfl⟩; let c6 := (Rng.w .u64 (c3.a.val + c5.b.val)); .br (G_impl_Wide_negative ⟨(Rng.w .i64 (c6.val)), c5.a⟩) (.leaf ⟨(F_impl_Wide_negative ⟨(Rng.w .i64 (c6.val)), c5.a⟩), (Rng.w .i64 (a1.val - (Rng.w .i64 (c3.c.val)).val)), true⟩) (.bad))) (.bad)) (.bad)))
theorem r_impl_WideDiv (a0 : Wide) (a1 : I64) : Tb278.run B278 [enc a0, enc a1] (T3 Wide I64 Bool) = (t_impl_WideDiv a0 a1).opt := by kernel_rfl
noncomputable def F_impl_WideDiv : Wide → I64 → T3 Wide I64 Bool := fun a0 a1 => (t_impl_WideDiv a0 a1).get
noncomputable def G_impl_WideDiv : Wide → I64 → Bool := fun a0 a1 => (t_impl_WideDiv a0 a1).opt.isSome
noncomputable def E_impl_WideDiv : Ent Tryz.prog := .of2 Tb278 B278 G_impl_WideDiv F_impl_WideDiv fun a0 a1 h => (r_impl_WideDiv a0 a1).trans (Tr.get_some h)
noncomputable def B331 : Bod Tryz.prog := ⟨331, Tryz.f331, Tryz.f331.body.getD .skip, Tryz.func331, by kernel_rfl, by kernel_rfl, Loops.no _ _⟩
noncomputable def Tb331 : Tb Tryz.prog := { T := [Y2, Y131, Y133], mix := mix, Es := [], Bs := [], d := 1 }
noncomputable def t_impl_WideOf (a0 : I64) : Tr (Wide) :=
  .leaf ⟨(Rng.w .i64 (a0.val.fdiv 9223372036854775808)), (Rng.w .u64 (a0.val))⟩
theorem r_impl_WideOf (a0 : I64) : Tb331.run B331 [enc a0] (Wide) = (t_impl_WideOf a0).opt := by kernel_rfl
noncomputable def F_impl_WideOf : I64 → Wide := fun a0 => (t_impl_WideOf a0).get
theorem u_impl_WideOf (a0 : I64) : (t_impl_WideOf a0).opt = some (F_impl_WideOf a0) := Tr.tot_get (by kernel_rfl)
noncomputable def E_impl_WideOf : Ent Tryz.prog := .of1 Tb331 B331 (fun _ => true) F_impl_WideOf fun a0 _ => (r_impl_WideOf a0).trans (u_impl_WideOf a0)
noncomputable def B280 : Bod Tryz.prog := ⟨280, Tryz.f280, Tryz.f280.body.getD .skip, Tryz.func280, by kernel_rfl, by kernel_rfl, Loops.no _ _⟩
noncomputable def Tb280 : Tb Tryz.prog := { T := [Y2, Y131, Y133], mix := mix, Es := [E_impl_WideOf], Bs := [], d := 1 }
noncomputable def t_impl_WideInt (a0 : Wide) : Tr (T2 I64 Bool) :=
  let c1 := F_impl_WideOf (Rng.w .i64 (a0.lo.val)); .br (!((c1.hi.val == a0.hi.val) && ((c1.lo.val == a0.lo.val) && true))) (.leaf ⟨⟨0, rfl⟩, false⟩) (.leaf ⟨(Rng.w .i64 (a0.lo.val)), true⟩)
theorem r_impl_WideInt (a0 : Wide) : Tb280.run B280 [enc a0] (T2 I64 Bool) = (t_impl_WideInt a0).opt := by kernel_rfl
noncomputable def F_impl_WideInt : Wide → T2 I64 Bool := fun a0 => (t_impl_WideInt a0).get
theorem u_impl_WideInt (a0 : Wide) : (t_impl_WideInt a0).opt = some (F_impl_WideInt a0) := Tr.tot_get (by kernel_rfl)
noncomputable def E_impl_WideInt : Ent Tryz.prog := .of1 Tb280 B280 (fun _ => true) F_impl_WideInt fun a0 _ => (r_impl_WideInt a0).trans (u_impl_WideInt a0)
noncomputable def B192 : Bod Tryz.prog := ⟨192, Tryz.f192, Tryz.f192.body.getD .skip, Tryz.func192, by kernel_rfl, by kernel_rfl, Loops.no _ _⟩
noncomputable def Tb192 : Tb Tryz.prog := { T := [Y2, Y131, Y133], mix := mix, Es := [E_impl_WideDiv, E_impl_WideMul, E_impl_WideInt], Bs := [], d := 1 }
noncomputable def t_impl_MulDivFloor (a0 : I64) (a1 : I64) (a2 : I64) : Tr (T2 I64 Bool) :=
  let c1 := F_impl_WideMul a0 a1; .br (G_impl_WideDiv c1 a2) (let c2 := F_impl_WideDiv c1 a2; .br (!c2.c) (.leaf ⟨⟨0, rfl⟩, false⟩) (let c3 := F_impl_WideInt c2.a; .leaf ⟨c3.a, c3.b⟩)) (.bad)
theorem r_impl_MulDivFloor (a0 : I64) (a1 : I64) (a2 : I64) : Tb192.run B192 [enc a0, enc a1, enc a2] (T2 I64 Bool) = (t_impl_MulDivFloor a0 a1 a2).opt := by kernel_rfl
noncomputable def F_impl_MulDivFloor : I64 → I64 → I64 → T2 I64 Bool := fun a0 a1 a2 => (t_impl_MulDivFloor a0 a1 a2).get
noncomputable def G_impl_MulDivFloor : I64 → I64 → I64 → Bool := fun a0 a1 a2 => (t_impl_MulDivFloor a0 a1 a2).opt.isSome
noncomputable def E_impl_MulDivFloor : Ent Tryz.prog := .of3 Tb192 B192 G_impl_MulDivFloor F_impl_MulDivFloor fun a0 a1 a2 h => (r_impl_MulDivFloor a0 a1 a2).trans (Tr.get_some h)
noncomputable def B281 : Bod Tryz.prog := ⟨281, Tryz.f281, Tryz.f281.body.getD .skip, Tryz.func281, by kernel_rfl, by kernel_rfl, Loops.no _ _⟩
noncomputable def Tb281 : Tb Tryz.prog := { T := [], mix := mix, Es := [E_impl_within], Bs := [], d := 1 }
noncomputable def t_impl_ValidFix (a0 : I64) : Tr (Bool) :=
  .leaf (F_impl_within a0 ⟨(-1152921504606846976), rfl⟩ ⟨1152921504606846976, rfl⟩)
theorem r_impl_ValidFix (a0 : I64) : Tb281.run B281 [enc a0] (Bool) = (t_impl_ValidFix a0).opt := by kernel_rfl
noncomputable def F_impl_ValidFix : I64 → Bool := fun a0 => (t_impl_ValidFix a0).get
theorem u_impl_ValidFix (a0 : I64) : (t_impl_ValidFix a0).opt = some (F_impl_ValidFix a0) := Tr.tot_get (by kernel_rfl)
noncomputable def E_impl_ValidFix : Ent Tryz.prog := .of1 Tb281 B281 (fun _ => true) F_impl_ValidFix fun a0 _ => (r_impl_ValidFix a0).trans (u_impl_ValidFix a0)
noncomputable def B282 : Bod Tryz.prog := ⟨282, Tryz.f282, Tryz.f282.body.getD .skip, Tryz.func282, by kernel_rfl, by kernel_rfl, Loops.no _ _⟩
noncomputable def Tb282 : Tb Tryz.prog := { T := [], mix := mix, Es := [E_impl_ValidFix], Bs := [], d := 1 }
noncomputable def t_impl_fixed (a0 : I64) (a1 : Bool) : Tr (T2 I64 Bool) :=
  .br (!a1) (.leaf ⟨⟨0, rfl⟩, false⟩) (.br (!(F_impl_ValidFix a0)) (.leaf ⟨⟨0, rfl⟩, false⟩) (.leaf ⟨a0, true⟩))
theorem r_impl_fixed (a0 : I64) (a1 : Bool) : Tb282.run B282 [enc a0, enc a1] (T2 I64 Bool) = (t_impl_fixed a0 a1).opt := by kernel_rfl
noncomputable def F_impl_fixed : I64 → Bool → T2 I64 Bool := fun a0 a1 => (t_impl_fixed a0 a1).get
theorem u_impl_fixed (a0 : I64) (a1 : Bool) : (t_impl_fixed a0 a1).opt = some (F_impl_fixed a0 a1) := Tr.tot_get (by kernel_rfl)
noncomputable def E_impl_fixed : Ent Tryz.prog := .of2 Tb282 B282 (fun _ _ => true) F_impl_fixed fun a0 a1 _ => (r_impl_fixed a0 a1).trans (u_impl_fixed a0 a1)
noncomputable def B200 : Bod Tryz.prog := ⟨200, Tryz.f200, Tryz.f200.body.getD .skip, Tryz.func200, by kernel_rfl, by kernel_rfl, Loops.no _ _⟩
noncomputable def Tb200 : Tb Tryz.prog := { T := [], mix := mix, Es := [E_impl_MulDivFloor, E_impl_fixed], Bs := [], d := 1 }
noncomputable def t_impl_FixFloor (a0 : I64) (a1 : I64) : Tr (T2 I64 Bool) :=
  .br (G_impl_MulDivFloor a0 ⟨4294967296, rfl⟩ a1) (let c1 := F_impl_MulDivFloor a0 ⟨4294967296, rfl⟩ a1; let c2 := F_impl_fixed c1.a c1.b; .leaf ⟨c2.a, c2.b⟩) (.bad)
theorem r_impl_FixFloor (a0 : I64) (a1 : I64) : Tb200.run B200 [enc a0, enc a1] (T2 I64 Bool) = (t_impl_FixFloor a0 a1).opt := by kernel_rfl
noncomputable def F_impl_FixFloor : I64 → I64 → T2 I64 Bool := fun a0 a1 => (t_impl_FixFloor a0 a1).get
noncomputable def G_impl_FixFloor : I64 → I64 → Bool := fun a0 a1 => (t_impl_FixFloor a0 a1).opt.isSome
noncomputable def E_impl_FixFloor : Ent Tryz.prog := .of2 Tb200 B200 G_impl_FixFloor F_impl_FixFloor fun a0 a1 h => (r_impl_FixFloor a0 a1).trans (Tr.get_some h)
noncomputable def B283 : Bod Tryz.prog := ⟨283, Tryz.f283, Tryz.f283.body.getD .skip, Tryz.func283, by kernel_rfl, by kernel_rfl, Loops.no _ _⟩
noncomputable def Tb283 : Tb Tryz.prog := { T := [Y2, Y131, Y133], mix := mix, Es := [E_impl_WideDiv, E_impl_WideMul, E_impl_WideInt], Bs := [], d := 1 }
noncomputable def t_impl_mulDivCeil (a0 : I64) (a1 : I64) (a2 : I64) : Tr (T2 I64 Bool) :=
  let c1 := F_impl_WideMul a0 a1; .br (G_impl_WideDiv c1 a2) (let c2 := F_impl_WideDiv c1 a2; .br (!c2.c) (.leaf ⟨⟨0, rfl⟩, false⟩) (let c3 := F_impl_WideInt c2.a; .br (!c3.b) (.leaf ⟨⟨0, rfl⟩, false⟩) (.br (decide (c2.b.val > 0)) (.br (c3.a.val == 9223372036854775807) (.leaf ⟨⟨0, rfl⟩, false⟩) (.br (decide (c2.b.val > 0)) (.leaf ⟨(Rng.w .i64 (c3.a.val + 1)), true⟩) (.leaf ⟨c3.a, true⟩))) (.br (decide (c2.b.val > 0)) (.leaf ⟨(Rng.w .i64 (c3.a.val + 1)), true⟩) (.leaf ⟨c3.a, true⟩))))) (.bad)
theorem r_impl_mulDivCeil (a0 : I64) (a1 : I64) (a2 : I64) : Tb283.run B283 [enc a0, enc a1, enc a2] (T2 I64 Bool) = (t_impl_mulDivCeil a0 a1 a2).opt := by kernel_rfl
noncomputable def F_impl_mulDivCeil : I64 → I64 → I64 → T2 I64 Bool := fun a0 a1 a2 => (t_impl_mulDivCeil a0 a1 a2).get
noncomputable def G_impl_mulDivCeil : I64 → I64 → I64 → Bool := fun a0 a1 a2 => (t_impl_mulDivCeil a0 a1 a2).opt.isSome
noncomputable def E_impl_mulDivCeil : Ent Tryz.prog := .of3 Tb283 B283 G_impl_mulDivCeil F_impl_mulDivCeil fun a0 a1 a2 h => (r_impl_mulDivCeil a0 a1 a2).trans (Tr.get_some h)
noncomputable def B201 : Bod Tryz.prog := ⟨201, Tryz.f201, Tryz.f201.body.getD .skip, Tryz.func201, by kernel_rfl, by kernel_rfl, Loops.no _ _⟩
noncomputable def Tb201 : Tb Tryz.prog := { T := [], mix := mix, Es := [E_impl_fixed, E_impl_mulDivCeil], Bs := [], d := 1 }
noncomputable def t_impl_FixCeil (a0 : I64) (a1 : I64) : Tr (T2 I64 Bool) :=
  .br (G_impl_mulDivCeil a0 ⟨4294967296, rfl⟩ a1) (let c1 := F_impl_mulDivCeil a0 ⟨4294967296, rfl⟩ a1; let c2 := F_impl_fixed c1.a c1.b; .leaf ⟨c2.a, c2.b⟩) (.bad)
theorem r_impl_FixCeil (a0 : I64) (a1 : I64) : Tb201.run B201 [enc a0, enc a1] (T2 I64 Bool) = (t_impl_FixCeil a0 a1).opt := by kernel_rfl
noncomputable def F_impl_FixCeil : I64 → I64 → T2 I64 Bool := fun a0 a1 => (t_impl_FixCeil a0 a1).get
noncomputable def G_impl_FixCeil : I64 → I64 → Bool := fun a0 a1 => (t_impl_FixCeil a0 a1).opt.isSome
noncomputable def E_impl_FixCeil : Ent Tryz.prog := .of2 Tb201 B201 G_impl_FixCeil F_impl_FixCeil fun a0 a1 h => (r_impl_FixCeil a0 a1).trans (Tr.get_some h)
noncomputable def B243 : Bod Tryz.prog := ⟨243, Tryz.f243, Tryz.f243.body.getD .skip, Tryz.func243, by kernel_rfl, by kernel_rfl, Loops.no _ _⟩
noncomputable def Tb243 : Tb Tryz.prog := { T := [Y2, Y27], mix := mix, Es := [], Bs := [], d := 1 }
noncomputable def t_impl_ValidInterval (a0 : Iv) : Tr (Bool) :=
  .br (decide ((-1152921504606846976) < a0.lo.val)) (.br (decide (a0.lo.val ≤ a0.hi.val)) (.leaf (decide (a0.hi.val < 1152921504606846976))) (.leaf false)) (.leaf false)
theorem r_impl_ValidInterval (a0 : Iv) : Tb243.run B243 [enc a0] (Bool) = (t_impl_ValidInterval a0).opt := by kernel_rfl
noncomputable def F_impl_ValidInterval : Iv → Bool := fun a0 => (t_impl_ValidInterval a0).get
theorem u_impl_ValidInterval (a0 : Iv) : (t_impl_ValidInterval a0).opt = some (F_impl_ValidInterval a0) := Tr.tot_get (by kernel_rfl)
noncomputable def E_impl_ValidInterval : Ent Tryz.prog := .of1 Tb243 B243 (fun _ => true) F_impl_ValidInterval fun a0 _ => (r_impl_ValidInterval a0).trans (u_impl_ValidInterval a0)
noncomputable def B202 : Bod Tryz.prog := ⟨202, Tryz.f202, Tryz.f202.body.getD .skip, Tryz.func202, by kernel_rfl, by kernel_rfl, Loops.no _ _⟩
noncomputable def Tb202 : Tb Tryz.prog := { T := [Y2, Y27], mix := mix, Es := [E_impl_Whole, E_impl_ValidInterval], Bs := [], d := 1 }
noncomputable def t_impl_bounded (a0 : I64) (a1 : I64) (a2 : Bool) : Tr (Iv) :=
  .br a2 (.br (F_impl_ValidInterval ⟨a0, a1⟩) (.leaf ⟨a0, a1⟩) (.leaf F_impl_Whole)) (.leaf F_impl_Whole)
theorem r_impl_bounded (a0 : I64) (a1 : I64) (a2 : Bool) : Tb202.run B202 [enc a0, enc a1, enc a2] (Iv) = (t_impl_bounded a0 a1 a2).opt := by kernel_rfl
noncomputable def F_impl_bounded : I64 → I64 → Bool → Iv := fun a0 a1 a2 => (t_impl_bounded a0 a1 a2).get
theorem u_impl_bounded (a0 : I64) (a1 : I64) (a2 : Bool) : (t_impl_bounded a0 a1 a2).opt = some (F_impl_bounded a0 a1 a2) := Tr.tot_get (by kernel_rfl)
noncomputable def E_impl_bounded : Ent Tryz.prog := .of3 Tb202 B202 (fun _ _ _ => true) F_impl_bounded fun a0 a1 a2 _ => (r_impl_bounded a0 a1 a2).trans (u_impl_bounded a0 a1 a2)
noncomputable def B83 : Bod Tryz.prog := ⟨83, Tryz.f83, Tryz.f83.body.getD .skip, Tryz.func83, by kernel_rfl, by kernel_rfl, Loops.no _ _⟩
noncomputable def Tb83 : Tb Tryz.prog := { T := [Y2, Y27], mix := mix, Es := [E_impl_Whole, E_impl_FixFloor, E_impl_FixCeil, E_impl_bounded], Bs := [], d := 1 }
noncomputable def t_impl_Quotient (a0 : I64) (a1 : I64) : Tr (Iv) :=
  .br (decide (a1.val < 0)) (let c1 := (Rng.w .i64 (0 - a0.val)); let c2 := (Rng.w .i64 (0 - a1.val)); .br (decide (c2.val < 0)) (.leaf F_impl_Whole) (.br (c1.val == (-9223372036854775808)) (.leaf F_impl_Whole) (.br (G_impl_FixFloor c1 c2) (let c6 := F_impl_FixFloor c1 c2; .br (G_impl_FixCeil c1 c2) (let c7 := F_impl_FixCeil c1 c2; .br c6.b (.leaf (F_impl_bounded c6.a c7.a c7.b)) (.leaf (F_impl_bounded c6.a c7.a false))) (.bad)) (.bad)))) (.br (G_impl_FixFloor a0 a1) (let c10 := F_impl_FixFloor a0 a1; .br (G_impl_FixCeil a0 a1) (let c11 := F_impl_FixCeil a0 a1; .br c10.b (.leaf (F_impl_bounded c10.a c11.a c11.b)) (.leaf (F_impl_bounded c10.a c11.a false))) (.bad)) (.bad))
theorem r_impl_Quotient (a0 : I64) (a1 : I64) : Tb83.run B83 [enc a0, enc a1] (Iv) = (t_impl_Quotient a0 a1).opt := by kernel_rfl
noncomputable def F_impl_Quotient : I64 → I64 → Iv := fun a0 a1 => (t_impl_Quotient a0 a1).get
noncomputable def G_impl_Quotient : I64 → I64 → Bool := fun a0 a1 => (t_impl_Quotient a0 a1).opt.isSome
noncomputable def E_impl_Quotient : Ent Tryz.prog := .of2 Tb83 B83 G_impl_Quotient F_impl_Quotient fun a0 a1 h => (r_impl_Quotient a0 a1).trans (Tr.get_some h)
noncomputable def B144 : Bod Tryz.prog := ⟨144, Tryz.f144, Tryz.f144.body.getD .skip, Tryz.func144, by kernel_rfl, by kernel_rfl, Loops.no _ _⟩
noncomputable def Tb144 : Tb Tryz.prog := { T := [Y2, Y27], mix := mix, Es := [E_spec_l04Whole], Bs := [], d := 1 }
noncomputable def t_spec_Whole : Tr (Iv) :=
  .leaf F_spec_l04Whole
theorem r_spec_Whole : Tb144.run B144 [] (Iv) = (t_spec_Whole).opt := by kernel_rfl
noncomputable def F_spec_Whole : Iv := (t_spec_Whole).get
theorem u_spec_Whole : (t_spec_Whole).opt = some (F_spec_Whole) := Tr.tot_get (by kernel_rfl)
noncomputable def E_spec_Whole : Ent Tryz.prog := .of0 Tb144 B144 F_spec_Whole (r_spec_Whole.trans u_spec_Whole)
noncomputable def B153 : Bod Tryz.prog := ⟨153, Tryz.f153, Tryz.f153.body.getD .skip, Tryz.func153, by kernel_rfl, by kernel_rfl, Loops.no _ _⟩
noncomputable def Tb153 : Tb Tryz.prog := { T := [Y2, Y27], mix := mix, Es := [E_spec_l04Ok, E_spec_l04Whole, E_spec_l04Make], Bs := [], d := 1 }
noncomputable def t_spec_NegI (a0 : Iv) : Tr (Iv) :=
  .br (!(F_spec_l04Ok a0)) (.leaf F_spec_l04Whole) (.leaf (F_spec_l04Make (Rng.w .i64 (0 - a0.hi.val)) (Rng.w .i64 (0 - a0.lo.val))))
theorem r_spec_NegI (a0 : Iv) : Tb153.run B153 [enc a0] (Iv) = (t_spec_NegI a0).opt := by kernel_rfl
noncomputable def F_spec_NegI : Iv → Iv := fun a0 => (t_spec_NegI a0).get
theorem u_spec_NegI (a0 : Iv) : (t_spec_NegI a0).opt = some (F_spec_NegI a0) := Tr.tot_get (by kernel_rfl)
noncomputable def E_spec_NegI : Ent Tryz.prog := .of1 Tb153 B153 (fun _ => true) F_spec_NegI fun a0 _ => (r_spec_NegI a0).trans (u_spec_NegI a0)
noncomputable def B64 : Bod Tryz.prog := ⟨64, Tryz.f64, Tryz.f64.body.getD .skip, Tryz.func64, by kernel_rfl, by kernel_rfl, Loops.no _ _⟩
noncomputable def Tb64_p : Tb Tryz.prog := { T := [Y2, Y27], mix := mix, Es := [E_spec_l00In, E_spec_Whole, E_spec_MulDivFloor], Bs := [], d := 1 }
noncomputable def t_spec_RadiansOf_p (a0 : I64) : Tr (Iv) :=
  .br (!(F_spec_l00In a0 ⟨(-36000000000), rfl⟩ ⟨36000000000, rfl⟩)) (.leaf F_spec_Whole) (.br (a0.val == 0) (.leaf ⟨⟨0, rfl⟩, ⟨0, rfl⟩⟩) (.br (decide (a0.val < 0)) (.bad) (.br (G_spec_MulDivFloor a0 ⟨7244019458077122842, rfl⟩ ⟨966367641600000000, rfl⟩) (.br (G_spec_MulDivFloor a0 ⟨7244019458077122843, rfl⟩ ⟨966367641600000000, rfl⟩) (.leaf ⟨(F_spec_MulDivFloor a0 ⟨7244019458077122842, rfl⟩ ⟨966367641600000000, rfl⟩).a, (Rng.w .i64 ((F_spec_MulDivFloor a0 ⟨7244019458077122843, rfl⟩ ⟨966367641600000000, rfl⟩).a.val + 1))⟩) (.bad)) (.bad))))
theorem r_spec_RadiansOf_p (a0 : I64) : Tb64_p.run B64 [enc a0] (Iv) = (t_spec_RadiansOf_p a0).opt := by kernel_rfl
noncomputable def F_spec_RadiansOf_p : I64 → Iv := fun a0 => (t_spec_RadiansOf_p a0).get
noncomputable def G_spec_RadiansOf_p : I64 → Bool := fun a0 => (t_spec_RadiansOf_p a0).opt.isSome
noncomputable def E_spec_RadiansOf_p : Ent Tryz.prog := .of1 Tb64_p B64 G_spec_RadiansOf_p F_spec_RadiansOf_p fun a0 h => (r_spec_RadiansOf_p a0).trans (Tr.get_some h)
noncomputable def Tb64 : Tb Tryz.prog := { T := [Y2, Y27], mix := mix, Es := [E_spec_RadiansOf_p, E_spec_l00In, E_spec_Whole, E_spec_NegI, E_spec_MulDivFloor], Bs := [], d := 1 }
noncomputable def t_spec_RadiansOf (a0 : I64) : Tr (Iv) :=
  .br (!(F_spec_l00In a0 ⟨(-36000000000), rfl⟩ ⟨36000000000, rfl⟩)) (.leaf F_spec_Whole) (.br (a0.val == 0) (.leaf ⟨⟨0, rfl⟩, ⟨0, rfl⟩⟩) (.br (decide (a0.val < 0)) (let c3 := (Rng.w .i64 (0 - a0.val)); .br (G_spec_RadiansOf_p c3) (.leaf (F_spec_NegI (F_spec_RadiansOf_p c3))) (.bad)) (.br (G_spec_MulDivFloor a0 ⟨7244019458077122842, rfl⟩ ⟨966367641600000000, rfl⟩) (.br (G_spec_MulDivFloor a0 ⟨7244019458077122843, rfl⟩ ⟨966367641600000000, rfl⟩) (.leaf ⟨(F_spec_MulDivFloor a0 ⟨7244019458077122842, rfl⟩ ⟨966367641600000000, rfl⟩).a, (Rng.w .i64 ((F_spec_MulDivFloor a0 ⟨7244019458077122843, rfl⟩ ⟨966367641600000000, rfl⟩).a.val + 1))⟩) (.bad)) (.bad))))
theorem r_spec_RadiansOf (a0 : I64) : Tb64.run B64 [enc a0] (Iv) = (t_spec_RadiansOf a0).opt := by kernel_rfl
noncomputable def F_spec_RadiansOf : I64 → Iv := fun a0 => (t_spec_RadiansOf a0).get
noncomputable def G_spec_RadiansOf : I64 → Bool := fun a0 => (t_spec_RadiansOf a0).opt.isSome
noncomputable def E_spec_RadiansOf : Ent Tryz.prog := .of1 Tb64 B64 G_spec_RadiansOf F_spec_RadiansOf fun a0 h => (r_spec_RadiansOf a0).trans (Tr.get_some h)
noncomputable def B127 : Bod Tryz.prog := ⟨127, Tryz.f127, Tryz.f127.body.getD .skip, Tryz.func127, by kernel_rfl, by kernel_rfl, Loops.no _ _⟩
noncomputable def Tb127 : Tb Tryz.prog := { T := [Y27], mix := mix, Es := [E_impl_ValidInterval], Bs := [], d := 1 }
noncomputable def t_impl_IsWhole (a0 : Iv) : Tr (Bool) :=
  .leaf (!(F_impl_ValidInterval a0))
theorem r_impl_IsWhole (a0 : Iv) : Tb127.run B127 [enc a0] (Bool) = (t_impl_IsWhole a0).opt := by kernel_rfl
noncomputable def F_impl_IsWhole : Iv → Bool := fun a0 => (t_impl_IsWhole a0).get
theorem u_impl_IsWhole (a0 : Iv) : (t_impl_IsWhole a0).opt = some (F_impl_IsWhole a0) := Tr.tot_get (by kernel_rfl)
noncomputable def E_impl_IsWhole : Ent Tryz.prog := .of1 Tb127 B127 (fun _ => true) F_impl_IsWhole fun a0 _ => (r_impl_IsWhole a0).trans (u_impl_IsWhole a0)
noncomputable def B156 : Bod Tryz.prog := ⟨156, Tryz.f156, Tryz.f156.body.getD .skip, Tryz.func156, by kernel_rfl, by kernel_rfl, Loops.no _ _⟩
noncomputable def Tb156 : Tb Tryz.prog := { T := [Y2, Y27], mix := mix, Es := [E_impl_Whole, E_impl_IsWhole], Bs := [], d := 1 }
noncomputable def t_impl_NegI (a0 : Iv) : Tr (Iv) :=
  .br (F_impl_IsWhole a0) (.leaf F_impl_Whole) (.leaf ⟨(Rng.w .i64 (0 - a0.hi.val)), (Rng.w .i64 (0 - a0.lo.val))⟩)
theorem r_impl_NegI (a0 : Iv) : Tb156.run B156 [enc a0] (Iv) = (t_impl_NegI a0).opt := by kernel_rfl
noncomputable def F_impl_NegI : Iv → Iv := fun a0 => (t_impl_NegI a0).get
theorem u_impl_NegI (a0 : Iv) : (t_impl_NegI a0).opt = some (F_impl_NegI a0) := Tr.tot_get (by kernel_rfl)
noncomputable def E_impl_NegI : Ent Tryz.prog := .of1 Tb156 B156 (fun _ => true) F_impl_NegI fun a0 _ => (r_impl_NegI a0).trans (u_impl_NegI a0)
noncomputable def B78 : Bod Tryz.prog := ⟨78, Tryz.f78, Tryz.f78.body.getD .skip, Tryz.func78, by kernel_rfl, by kernel_rfl, Loops.no _ _⟩
noncomputable def Tb78_p : Tb Tryz.prog := { T := [Y2, Y27], mix := mix, Es := [E_impl_within, E_impl_Whole, E_impl_MulDivFloor], Bs := [], d := 1 }
noncomputable def t_impl_RadiansOf_p (a0 : I64) : Tr (Iv) :=
  .br (!(F_impl_within a0 ⟨(-36000000000), rfl⟩ ⟨36000000000, rfl⟩)) (.leaf F_impl_Whole) (.br (decide (a0.val < 0)) (.bad) (.br (a0.val == 0) (.leaf ⟨⟨0, rfl⟩, ⟨0, rfl⟩⟩) (.br (G_impl_MulDivFloor a0 ⟨7244019458077122842, rfl⟩ ⟨966367641600000000, rfl⟩) (.br (G_impl_MulDivFloor a0 ⟨7244019458077122843, rfl⟩ ⟨966367641600000000, rfl⟩) (.leaf ⟨(F_impl_MulDivFloor a0 ⟨7244019458077122842, rfl⟩ ⟨966367641600000000, rfl⟩).a, (Rng.w .i64 ((F_impl_MulDivFloor a0 ⟨7244019458077122843, rfl⟩ ⟨966367641600000000, rfl⟩).a.val + 1))⟩) (.bad)) (.bad))))
theorem r_impl_RadiansOf_p (a0 : I64) : Tb78_p.run B78 [enc a0] (Iv) = (t_impl_RadiansOf_p a0).opt := by kernel_rfl
noncomputable def F_impl_RadiansOf_p : I64 → Iv := fun a0 => (t_impl_RadiansOf_p a0).get
noncomputable def G_impl_RadiansOf_p : I64 → Bool := fun a0 => (t_impl_RadiansOf_p a0).opt.isSome
noncomputable def E_impl_RadiansOf_p : Ent Tryz.prog := .of1 Tb78_p B78 G_impl_RadiansOf_p F_impl_RadiansOf_p fun a0 h => (r_impl_RadiansOf_p a0).trans (Tr.get_some h)
noncomputable def Tb78 : Tb Tryz.prog := { T := [Y2, Y27], mix := mix, Es := [E_impl_RadiansOf_p, E_impl_within, E_impl_Whole, E_impl_NegI, E_impl_MulDivFloor], Bs := [], d := 1 }
noncomputable def t_impl_RadiansOf (a0 : I64) : Tr (Iv) :=
  .br (!(F_impl_within a0 ⟨(-36000000000), rfl⟩ ⟨36000000000, rfl⟩)) (.leaf F_impl_Whole) (.br (decide (a0.val < 0)) (let c3 := (Rng.w .i64 (0 - a0.val)); .br (G_impl_RadiansOf_p c3) (.leaf (F_impl_NegI (F_impl_RadiansOf_p c3))) (.bad)) (.br (a0.val == 0) (.leaf ⟨⟨0, rfl⟩, ⟨0, rfl⟩⟩) (.br (G_impl_MulDivFloor a0 ⟨7244019458077122842, rfl⟩ ⟨966367641600000000, rfl⟩) (.br (G_impl_MulDivFloor a0 ⟨7244019458077122843, rfl⟩ ⟨966367641600000000, rfl⟩) (.leaf ⟨(F_impl_MulDivFloor a0 ⟨7244019458077122842, rfl⟩ ⟨966367641600000000, rfl⟩).a, (Rng.w .i64 ((F_impl_MulDivFloor a0 ⟨7244019458077122843, rfl⟩ ⟨966367641600000000, rfl⟩).a.val + 1))⟩) (.bad)) (.bad))))
theorem r_impl_RadiansOf (a0 : I64) : Tb78.run B78 [enc a0] (Iv) = (t_impl_RadiansOf a0).opt := by kernel_rfl
noncomputable def F_impl_RadiansOf : I64 → Iv := fun a0 => (t_impl_RadiansOf a0).get
noncomputable def G_impl_RadiansOf : I64 → Bool := fun a0 => (t_impl_RadiansOf a0).opt.isSome
noncomputable def E_impl_RadiansOf : Ent Tryz.prog := .of1 Tb78 B78 G_impl_RadiansOf F_impl_RadiansOf fun a0 h => (r_impl_RadiansOf a0).trans (Tr.get_some h)
end
end Go.Proofs.YtecfhpgpojgjkaaGreat.Ev
