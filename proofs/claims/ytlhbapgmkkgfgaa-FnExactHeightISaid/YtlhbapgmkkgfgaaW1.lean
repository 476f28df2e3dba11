import Derived.Test.YtlhbapgmkkgfgaaW0
namespace Go.Proofs.Ytlhbapgmkkgfgaa.Ev
open Go Go.RowKit
set_option maxRecDepth 100000
set_option linter.unusedVariables false
section
noncomputable def E_math_bits_Add64 : Ent Try.prog := .add64 Try.func67 (by kernel_rfl) (by kernel_rfl) (by kernel_rfl) (by kernel_rfl)
noncomputable def E_math_bits_Sub64 : Ent Try.prog := .sub64 Try.func77 (by kernel_rfl) (by kernel_rfl) (by kernel_rfl) (by kernel_rfl)
noncomputable def Y39 : TyE Try.prog := ⟨39, 2, (.struct [(0, 2, 1), (1, 2, 1)]), [.i64 ⟨0, rfl⟩, .i64 ⟨0, rfl⟩], true, by kernel_rfl, by kernel_rfl, by kernel_rfl, by kernel_rfl, by kernel_rfl, by kernel_rfl⟩
noncomputable def B34 : Bod Try.prog := ⟨34, Try.f34, Try.f34.body.getD .skip, Try.func34, by kernel_rfl, by kernel_rfl, Loops.no _ _⟩
noncomputable def Tb34 : Tb Try.prog := { T := [Y2, Y39], mix := mix, Es := [], Bs := [], d := 1 }
noncomputable def t_spec_l04Whole : Tr (Iv) :=
  .leaf ⟨⟨(-1152921504606846976), rfl⟩, ⟨1152921504606846976, rfl⟩⟩
theorem r_spec_l04Whole : Tb34.run B34 [] (Iv) = (t_spec_l04Whole).opt := by kernel_rfl
noncomputable def F_spec_l04Whole : Iv := (t_spec_l04Whole).get
theorem u_spec_l04Whole : (t_spec_l04Whole).opt = some (F_spec_l04Whole) := Tr.tot_get (by kernel_rfl)
noncomputable def E_spec_l04Whole : Ent Try.prog := .of0 Tb34 B34 F_spec_l04Whole (r_spec_l04Whole.trans u_spec_l04Whole)
noncomputable def B29 : Bod Try.prog := ⟨29, Try.f29, Try.f29.body.getD .skip, Try.func29, by kernel_rfl, by kernel_rfl, Loops.no _ _⟩
noncomputable def Tb29 : Tb Try.prog := { T := [Y2, Y39], mix := mix, Es := [E_spec_l04Whole], Bs := [], d := 1 }
noncomputable def t_spec_Whole : Tr (Iv) :=
  .leaf F_spec_l04Whole
theorem r_spec_Whole : Tb29.run B29 [] (Iv) = (t_spec_Whole).opt := by kernel_rfl
noncomputable def F_spec_Whole : Iv := (t_spec_Whole).get
theorem u_spec_Whole : (t_spec_Whole).opt = some (F_spec_Whole) := Tr.tot_get (by kernel_rfl)
noncomputable def E_spec_Whole : Ent Try.prog := .of0 Tb29 B29 F_spec_Whole (r_spec_Whole.trans u_spec_Whole)
noncomputable def Y60 : TyE Try.prog := ⟨60, 1, (.int .u64), [.u64 ⟨0, rfl⟩], false, by kernel_rfl, by kernel_rfl, by kernel_rfl, by kernel_rfl, by kernel_rfl, by kernel_rfl⟩
noncomputable def B75 : Bod Try.prog := ⟨75, Try.f75, Try.f75.body.getD .skip, Try.func75, by kernel_rfl, by kernel_rfl, Loops.no _ _⟩
noncomputable def Tb75 : Tb Try.prog := { T := [Y2, Y60], mix := mix, Es := [], Bs := [], d := 1 }
noncomputable def t_spec_l02Size (a0 : I64) : Tr (U64) :=
  .br (decide (a0.val < 0)) (.leaf (Rng.w .u64 (0 - (Rng.w .u64 (a0.val)).val))) (.leaf (Rng.w .u64 (a0.val)))
theorem r_spec_l02Size (a0 : I64) : Tb75.run B75 [enc a0] (U64) = (t_spec_l02Size a0).opt := by kernel_rfl
noncomputable def F_spec_l02Size : I64 → U64 := fun a0 => (t_spec_l02Size a0).get
theorem u_spec_l02Size (a0 : I64) : (t_spec_l02Size a0).opt = some (F_spec_l02Size a0) := Tr.tot_get (by kernel_rfl)
noncomputable def E_spec_l02Size : Ent Try.prog := .of1 Tb75 B75 (fun _ => true) F_spec_l02Size fun a0 _ => (r_spec_l02Size a0).trans (u_spec_l02Size a0)
noncomputable def B74 : Bod Try.prog := ⟨74, Try.f74, Try.f74.body.getD .skip, Try.func74, by kernel_rfl, by kernel_rfl, Loops.no _ _⟩
noncomputable def Tb74 : Tb Try.prog := { T := [], mix := mix, Es := [], Bs := [], d := 1 }
noncomputable def t_spec_l02Times (a0 : U64) (a1 : U64) : Tr (T2 U64 U64) :=
  let c8 := (Rng.w .u64 ((Rng.w .u64 ((Rng.w .u64 (a0.val.fdiv 4294967296)).val * (Rng.w .u64 (bitop .and .u64 a1.val 4294967295)).val)).val + (Rng.w .u64 ((Rng.w .u64 ((Rng.w .u64 (bitop .and .u64 a0.val 4294967295)).val * (Rng.w .u64 (bitop .and .u64 a1.val 4294967295)).val)).val.fdiv 4294967296)).val)); .leaf ⟨(Rng.w .u64 ((Rng.w .u64 ((Rng.w .u64 ((Rng.w .u64 (a0.val.fdiv 4294967296)).val * (Rng.w .u64 (a1.val.fdiv 4294967296)).val)).val + (Rng.w .u64 (c8.val.fdiv 4294967296)).val)).val + (Rng.w .u64 ((Rng.w .u64 ((Rng.w .u64 ((Rng.w .u64 (bitop .and .u64 a0.val 4294967295)).val * (Rng.w .u64 (a1.val.fdiv 4294967296)).val)).val + (Rng.w .u64 (bitop .and .u64 c8.val 4294967295)).val)).val.fdiv 4294967296)).val)), (Rng.w .u64 (a0.val * a1.val))⟩
theorem r_spec_l02Times (a0 : U64) (a1 : U64) : Tb74.run B74 [enc a0, enc a1] (T2 U64 U64) = (t_spec_l02Times a0 a1).opt := by kernel_rfl
noncomputable def F_spec_l02Times : U64 → U64 → T2 U64 U64 := fun a0 a1 => (t_spec_l02Times a0 a1).get
theorem u_spec_l02Times (a0 : U64) (a1 : U64) : (t_spec_l02Times a0 a1).opt = some (F_spec_l02Times a0 a1) := Tr.tot_get (by kernel_rfl)
noncomputable def E_spec_l02Times : Ent Try.prog := .of2 Tb74 B74 (fun _ _ => true) F_spec_l02Times fun a0 a1 _ => (r_spec_l02Times a0 a1).trans (u_spec_l02Times a0 a1)
noncomputable def Y62 : TyE Try.prog := ⟨62, 2, (.struct [(0, 2, 1), (1, 60, 1)]), [.i64 ⟨0, rfl⟩, .u64 ⟨0, rfl⟩], true, by kernel_rfl, by kernel_rfl, by kernel_rfl, by kernel_rfl, by kernel_rfl, by kernel_rfl⟩
noncomputable def B71 : Bod Try.prog := ⟨71, Try.f71, Try.f71.body.getD .skip, Try.func71, by kernel_rfl, by kernel_rfl, Loops.no _ _⟩
noncomputable def Tb71 : Tb Try.prog := { T := [Y2, Y60, Y62], mix := mix, Es := [], Bs := [], d := 1 }
noncomputable def t_spec_l02Minus (a0 : Wide) : Tr (Wide) :=
  let c2 := (Rng.w .u64 (0 - a0.lo.val)); .br (a0.lo.val == 0) (.leaf ⟨(Rng.w .i64 (0 - a0.hi.val)), c2⟩) (.leaf ⟨(Rng.w .i64 (bitop .xor .i64 (-1) a0.hi.val)), c2⟩)
theorem r_spec_l02Minus (a0 : Wide) : Tb71.run B71 [enc a0] (Wide) = (t_spec_l02Minus a0).opt := by kernel_rfl
noncomputable def F_spec_l02Minus : Wide → Wide := fun a0 => (t_spec_l02Minus a0).get
theorem u_spec_l02Minus (a0 : Wide) : (t_spec_l02Minus a0).opt = some (F_spec_l02Minus a0) := Tr.tot_get (by kernel_rfl)
noncomputable def E_spec_l02Minus : Ent Try.prog := .of1 Tb71 B71 (fun _ => true) F_spec_l02Minus fun a0 _ => (r_spec_l02Minus a0).trans (u_spec_l02Minus a0)
noncomputable def B61 : Bod Try.prog := ⟨61, Try.f61, Try.f61.body.getD .skip, Try.func61, by kernel_rfl, by kernel_rfl, Loops.no _ _⟩
noncomputable def Tb61 : Tb Try.prog := { T := [Y2, Y4, Y60, Y62], mix := mix, Es := [E_spec_l02Minus, E_spec_l02Times, E_spec_l02Size], Bs := [], d := 1 }
noncomputable def t_spec_l02Mul (a0 : I64) (a1 : I64) : Tr (Wide) :=
  let c3 := F_spec_l02Times (F_spec_l02Size a0) (F_spec_l02Size a1); .br (!((decide (a0.val < 0)) == (decide (a1.val < 0)))) (.leaf (F_spec_l02Minus ⟨(Rng.w .i64 (c3.a.val)), c3.b⟩)) (.leaf ⟨(Rng.w .i64 (c3.a.val)), c3.b⟩)
theorem r_spec_l02Mul (a0 : I64) (a1 : I64) : Tb61.run B61 [enc a0, enc a1] (Wide) = (t_spec_l02Mul a0 a1).opt := by kernel_rfl
noncomputable def F_spec_l02Mul : I64 → I64 → Wide := fun a0 a1 => (t_spec_l02Mul a0 a1).get
theorem u_spec_l02Mul (a0 : I64) (a1 : I64) : (t_spec_l02Mul a0 a1).opt = some (F_spec_l02Mul a0 a1) := Tr.tot_get (by kernel_rfl)
noncomputable def E_spec_l02Mul : Ent Try.prog := .of2 Tb61 B61 (fun _ _ => true) F_spec_l02Mul fun a0 a1 _ => (r_spec_l02Mul a0 a1).trans (u_spec_l02Mul a0 a1)
noncomputable def Y3 : TyE Try.prog := ⟨3, 1, (.int .i64), [.i64 ⟨0, rfl⟩], false, by kernel_rfl, by kernel_rfl, by kernel_rfl, by kernel_rfl, by kernel_rfl, by kernel_rfl⟩
noncomputable def Y79 : TyE Try.prog := ⟨79, 1, (.int .u64), [.u64 ⟨0, rfl⟩], false, by kernel_rfl, by kernel_rfl, by kernel_rfl, by kernel_rfl, by kernel_rfl, by kernel_rfl⟩
structure S_spec_l02Divide_5 where
  x0 : U64
  x1 : U64
  x2 : U64
  x3 : U64
  x4 : U64
  x5 : I64
instance : Inhabited S_spec_l02Divide_5 := ⟨⟨default, default, default, default, default, default⟩⟩
noncomputable def st_spec_l02Divide_5 (x : S_spec_l02Divide_5) : St := ⟨[(1, .u64 x.x0), (2, .u64 x.x1), (9, .u64 x.x2), (10, .u64 x.x3), (11, .u64 x.x4), (12, .i64 x.x5)], 51, ⟨[], 0, 0⟩⟩
noncomputable def rd_spec_l02Divide_5 : St → Option S_spec_l02Divide_5 := fun s => match s with
  | ⟨[(1, .u64 x0), (2, .u64 x1), (9, .u64 x2), (10, .u64 x3), (11, .u64 x4), (12, .i64 x5)], 51, ⟨[], 0, 0⟩⟩ => some ⟨x0, x1, x2, x3, x4, x5⟩
  | _ => none
noncomputable def b_spec_l02Divide_5 (x : S_spec_l02Divide_5) : Tr (Lp S_spec_l02Divide_5) :=
  .br (decide (x.x5.val ≥ 0)) (let c7 := (Rng.w .u64 (bitop .or .u64 (Rng.w .u64 (x.x3.val * 2)).val (Rng.w .u64 (bitop .and .u64 (Rng.w .u64 (x.x0.val.fdiv (2 ^ min ((Rng.w .u64 (x.x5.val)).val).toNat 64))).val 1)).val)); let c8 := (Rng.w .u64 (x.x4.val * 2)); .br ((Rng.w .u64 (x.x3.val.fdiv 9223372036854775808)).val == 1) (.leaf (.again ⟨x.x0, x.x1, x.x2, (Rng.w .u64 (c7.val - x.x1.val)), (Rng.w .u64 (bitop .or .u64 c8.val 1)), (Rng.w .i64 (x.x5.val - 1))⟩)) (.br (decide (c7.val ≥ x.x1.val)) (.leaf (.again ⟨x.x0, x.x1, x.x2, (Rng.w .u64 (c7.val - x.x1.val)), (Rng.w .u64 (bitop .or .u64 c8.val 1)), (Rng.w .i64 (x.x5.val - 1))⟩)) (.leaf (.again ⟨x.x0, x.x1, x.x2, c7, c8, (Rng.w .i64 (x.x5.val - 1))⟩)))) (.leaf (.out ⟨x.x0, x.x1, x.x2, x.x3, x.x4, x.x5⟩))
noncomputable def G_spec_l02Divide_5 (x : S_spec_l02Divide_5) : Bool := (Lf b_spec_l02Divide_5 66 x).opt.isSome
noncomputable def L_spec_l02Divide_5 (x : S_spec_l02Divide_5) : S_spec_l02Divide_5 := (Lf b_spec_l02Divide_5 66 x).get
noncomputable def TbL_spec_l02Divide_5 : Tb Try.prog := { T := [Y3, Y79], mix := mix, Es := [], Bs := [], d := 1 }
noncomputable def P_spec_l02Divide_5 : LpF := loopF [1, 2, 9, 10, 11, 12] [] 0 rd_spec_l02Divide_5 st_spec_l02Divide_5 (.exit 0) G_spec_l02Divide_5 L_spec_l02Divide_5
theorem lok_spec_l02Divide_5 : LoopOk Try.prog (loopAt (Try.f70.body.getD .skip) 0) P_spec_l02Divide_5 := loopF_ok (t := TbL_spec_l02Divide_5) (lt := fun _ => none) (body := b_spec_l02Divide_5) (n := 66) (by intro h; cases h) (fun _ _ _ h => by cases h)
  (by intro s x h; unfold rd_spec_l02Divide_5 at h; split at h <;> cases h; rfl) (by intro x b cs h; simp [st_spec_l02Divide_5, lk] at h) (by intro x; kernel_rfl) (fun x h => Tr.get_some h)
noncomputable def B70 : Bod Try.prog := ⟨70, Try.f70, Try.f70.body.getD .skip, Try.func70, by kernel_rfl, by kernel_rfl, ⟨ltOf [(5, P_spec_l02Divide_5)], Loops.of (ks := [5]) (by kernel_rfl) (by
  intro i k h f hf
  match i, h with
  | 0, h => cases h; obtain rfl : P_spec_l02Divide_5 = f := Option.some.inj hf; exact lok_spec_l02Divide_5
  | n + 1, h => simp at h)⟩⟩
noncomputable def Tb70 : Tb Try.prog := { T := [Y3, Y79], mix := mix, Es := [], Bs := [], d := 1 }
noncomputable def t_spec_l02Divide (a0 : U64) (a1 : U64) (a2 : U64) : Tr (T3 U64 U64 U64) :=
  .br (a2.val == 0) (.bad) (let c1 := (Rng.w .u64 (a0.val.tdiv a2.val)); .br (a2.val == 0) (.bad) (let c2 := (Rng.w .u64 (a0.val.tmod a2.val)); .br (G_spec_l02Divide_5 ⟨a1, a2, c1, c2, ⟨0, rfl⟩, ⟨63, rfl⟩⟩) (let c17 := L_spec_l02Divide_5 ⟨a1, a2, c1, c2, ⟨0, rfl⟩, ⟨63, rfl⟩⟩; .leaf ⟨c17.x2, c17.x4, c17.x3⟩) (.bad)))
theorem r_spec_l02Divide (a0 : U64) (a1 : U64) (a2 : U64) : Tb70.run B70 [enc a0, enc a1, enc a2] (T3 U64 U64 U64) = (t_spec_l02Divide a0 a1 a2).opt := by kernel_rfl
noncomputable def F_spec_l02Divide : U64 → U64 → U64 → T3 U64 U64 U64 := fun a0 a1 a2 => (t_spec_l02Divide a0 a1 a2).get
noncomputable def G_spec_l02Divide : U64 → U64 → U64 → Bool := fun a0 a1 a2 => (t_spec_l02Divide a0 a1 a2).opt.isSome
noncomputable def E_spec_l02Divide : Ent Try.prog := .of3 Tb70 B70 G_spec_l02Divide F_spec_l02Divide fun a0 a1 a2 h => (r_spec_l02Divide a0 a1 a2).trans (Tr.get_some h)
noncomputable def B73 : Bod Try.prog := ⟨73, Try.f73, Try.f73.body.getD .skip, Try.func73, by kernel_rfl, by kernel_rfl, Loops.no _ _⟩
noncomputable def Tb73 : Tb Try.prog := { T := [Y2, Y60, Y62], mix := mix, Es := [], Bs := [], d := 1 }
noncomputable def t_spec_l02Of (a0 : I64) : Tr (Wide) :=
  .br (decide (a0.val < 0)) (.leaf ⟨⟨(-1), rfl⟩, (Rng.w .u64 (a0.val))⟩) (.leaf ⟨⟨0, rfl⟩, (Rng.w .u64 (a0.val))⟩)
theorem r_spec_l02Of (a0 : I64) : Tb73.run B73 [enc a0] (Wide) = (t_spec_l02Of a0).opt := by kernel_rfl
noncomputable def F_spec_l02Of : I64 → Wide := fun a0 => (t_spec_l02Of a0).get
theorem u_spec_l02Of (a0 : I64) : (t_spec_l02Of a0).opt = some (F_spec_l02Of a0) := Tr.tot_get (by kernel_rfl)
noncomputable def E_spec_l02Of : Ent Try.prog := .of1 Tb73 B73 (fun _ => true) F_spec_l02Of fun a0 _ => (r_spec_l02Of a0).trans (u_spec_l02Of a0)
noncomputable def B72 : Bod Try.prog := ⟨72, Try.f72, Try.f72.body.getD .skip, Try.func72, by kernel_rfl, by kernel_rfl, Loops.no _ _⟩
noncomputable def Tb72 : Tb Try.prog := { T := [Y2, Y60, Y62], mix := mix, Es := [], Bs := [], d := 1 }
noncomputable def t_spec_l02Plus (a0 : Wide) (a1 : Wide) : Tr (Wide) :=
  let c1 := (Rng.w .i64 (a0.hi.val + a1.hi.val)); let c2 := (Rng.w .u64 (a0.lo.val + a1.lo.val)); .br (decide (c2.val < a0.lo.val)) (.leaf ⟨(Rng.w .i64 (c1.val + 1)), c2⟩) (.leaf ⟨c1, c2⟩)
theorem r_spec_l02Plus (a0 : Wide) (a1 : Wide) : Tb72.run B72 [enc a0, enc a1] (Wide) = (t_spec_l02Plus a0 a1).opt := by kernel_rfl
noncomputable def F_spec_l02Plus : Wide → Wide → Wide := fun a0 a1 => (t_spec_l02Plus a0 a1).get
theorem u_spec_l02Plus (a0 : Wide) (a1 : Wide) : (t_spec_l02Plus a0 a1).opt = some (F_spec_l02Plus a0 a1) := Tr.tot_get (by kernel_rfl)
noncomputable def E_spec_l02Plus : Ent Try.prog := .of2 Tb72 B72 (fun _ _ => true) F_spec_l02Plus fun a0 a1 _ => (r_spec_l02Plus a0 a1).trans (u_spec_l02Plus a0 a1)
noncomputable def B60 : Bod Try.prog := ⟨60, Try.f60, Try.f60.body.getD .skip, Try.func60, by kernel_rfl, by kernel_rfl, Loops.no _ _⟩
noncomputable def Tb60 : Tb Try.prog := { T := [Y2, Y60, Y62], mix := mix, Es := [E_spec_l02Divide, E_spec_l02Minus, E_spec_l02Plus, E_spec_l02Of], Bs := [], d := 1 }
noncomputable def t_spec_l02Div (a0 : Wide) (a1 : I64) : Tr (T2 Wide I64) :=
  .br (decide (a0.hi.val ≥ 0)) (.br (G_spec_l02Divide (Rng.w .u64 (a0.hi.val)) a0.lo (Rng.w .u64 (a1.val))) (let c1 := F_spec_l02Divide (Rng.w .u64 (a0.hi.val)) a0.lo (Rng.w .u64 (a1.val)); .leaf ⟨⟨(Rng.w .i64 (c1.a.val)), c1.b⟩, (Rng.w .i64 (c1.c.val))⟩) (.bad)) (let c2 := F_spec_l02Minus a0; .br (G_spec_l02Divide (Rng.w .u64 (c2.hi.val)) c2.lo (Rng.w .u64 (a1.val))) (let c3 := F_spec_l02Divide (Rng.w .u64 (c2.hi.val)) c2.lo (Rng.w .u64 (a1.val)); let c4 := F_spec_l02Minus ⟨(Rng.w .i64 (c3.a.val)), c3.b⟩; .br (c3.c.val == 0) (.leaf ⟨c4, ⟨0, rfl⟩⟩) (.leaf ⟨(F_spec_l02Plus c4 (F_spec_l02Of ⟨(-1), rfl⟩)), (Rng.w .i64 (a1.val - (Rng.w .i64 (c3.c.val)).val))⟩)) (.bad))
theorem r_spec_l02Div (a0 : Wide) (a1 : I64) : Tb60.run B60 [enc a0, enc a1] (T2 Wide I64) = (t_spec_l02Div a0 a1).opt := by kernel_rfl
noncomputable def F_spec_l02Div : Wide → I64 → T2 Wide I64 := fun a0 a1 => (t_spec_l02Div a0 a1).get
noncomputable def G_spec_l02Div : Wide → I64 → Bool := fun a0 a1 => (t_spec_l02Div a0 a1).opt.isSome
noncomputable def E_spec_l02Div : Ent Try.prog := .of2 Tb60 B60 G_spec_l02Div F_spec_l02Div fun a0 a1 h => (r_spec_l02Div a0 a1).trans (Tr.get_some h)
noncomputable def B62 : Bod Try.prog := ⟨62, Try.f62, Try.f62.body.getD .skip, Try.func62, by kernel_rfl, by kernel_rfl, Loops.no _ _⟩
noncomputable def Tb62 : Tb Try.prog := { T := [Y2, Y60, Y62], mix := mix, Es := [E_spec_l02Of], Bs := [], d := 1 }
noncomputable def t_spec_l02Int (a0 : Wide) : Tr (T2 I64 Bool) :=
  let c1 := F_spec_l02Of (Rng.w .i64 (a0.lo.val)); .br (!((c1.hi.val == a0.hi.val) && ((c1.lo.val == a0.lo.val) && true))) (.leaf ⟨⟨0, rfl⟩, false⟩) (.leaf ⟨(Rng.w .i64 (a0.lo.val)), true⟩)
theorem r_spec_l02Int (a0 : Wide) : Tb62.run B62 [enc a0] (T2 I64 Bool) = (t_spec_l02Int a0).opt := by kernel_rfl
noncomputable def F_spec_l02Int : Wide → T2 I64 Bool := fun a0 => (t_spec_l02Int a0).get
theorem u_spec_l02Int (a0 : Wide) : (t_spec_l02Int a0).opt = some (F_spec_l02Int a0) := Tr.tot_get (by kernel_rfl)
noncomputable def E_spec_l02Int : Ent Try.prog := .of1 Tb62 B62 (fun _ => true) F_spec_l02Int fun a0 _ => (r_spec_l02Int a0).trans (u_spec_l02Int a0)
noncomputable def B49 : Bod Try.prog := ⟨49, Try.f49, Try.f49.body.getD .skip, Try.func49, by kernel_rfl, by kernel_rfl, Loops.no _ _⟩
noncomputable def Tb49 : Tb Try.prog := { T := [Y2, Y60, Y62], mix := mix, Es := [E_spec_l02Div, E_spec_l02Mul, E_spec_l02Int], Bs := [], d := 1 }
noncomputable def t_spec_MulDivFloor (a0 : I64) (a1 : I64) (a2 : I64) : Tr (T2 I64 Bool) :=
  .br (decide (a2.val ≤ 0)) (.leaf ⟨⟨0, rfl⟩, false⟩) (let c1 := F_spec_l02Mul a0 a1; .br (G_spec_l02Div c1 a2) (let c3 := F_spec_l02Int (F_spec_l02Div c1 a2).a; .leaf ⟨c3.a, c3.b⟩) (.bad))
theorem r_spec_MulDivFloor (a0 : I64) (a1 : I64) (a2 : I64) : Tb49.run B49 [enc a0, enc a1, enc a2] (T2 I64 Bool) = (t_spec_MulDivFloor a0 a1 a2).opt := by kernel_rfl
noncomputable def F_spec_MulDivFloor : I64 → I64 → I64 → T2 I64 Bool := fun a0 a1 a2 => (t_spec_MulDivFloor a0 a1 a2).get
noncomputable def G_spec_MulDivFloor : I64 → I64 → I64 → Bool := fun a0 a1 a2 => (t_spec_MulDivFloor a0 a1 a2).opt.isSome
noncomputable def E_spec_MulDivFloor : Ent Try.prog := .of3 Tb49 B49 G_spec_MulDivFloor F_spec_MulDivFloor fun a0 a1 a2 h => (r_spec_MulDivFloor a0 a1 a2).trans (Tr.get_some h)
noncomputable def B63 : Bod Try.prog := ⟨63, Try.f63, Try.f63.body.getD .skip, Try.func63, by kernel_rfl, by kernel_rfl, Loops.no _ _⟩
noncomputable def Tb63 : Tb Try.prog := { T := [], mix := mix, Es := [E_spec_l00In], Bs := [], d := 1 }
noncomputable def t_spec_l03Ok (a0 : I64) : Tr (Bool) :=
  .leaf (F_spec_l00In a0 ⟨(-1152921504606846976), rfl⟩ ⟨1152921504606846976, rfl⟩)
theorem r_spec_l03Ok (a0 : I64) : Tb63.run B63 [enc a0] (Bool) = (t_spec_l03Ok a0).opt := by kernel_rfl
noncomputable def F_spec_l03Ok : I64 → Bool := fun a0 => (t_spec_l03Ok a0).get
theorem u_spec_l03Ok (a0 : I64) : (t_spec_l03Ok a0).opt = some (F_spec_l03Ok a0) := Tr.tot_get (by kernel_rfl)
noncomputable def E_spec_l03Ok : Ent Try.prog := .of1 Tb63 B63 (fun _ => true) F_spec_l03Ok fun a0 _ => (r_spec_l03Ok a0).trans (u_spec_l03Ok a0)
noncomputable def B50 : Bod Try.prog := ⟨50, Try.f50, Try.f50.body.getD .skip, Try.func50, by kernel_rfl, by kernel_rfl, Loops.no _ _⟩
noncomputable def Tb50 : Tb Try.prog := { T := [], mix := mix, Es := [E_spec_l03Ok], Bs := [], d := 1 }
noncomputable def t_spec_l03End (a0 : I64) (a1 : Bool) : Tr (T2 I64 Bool) :=
  .br (!a1) (.leaf ⟨⟨0, rfl⟩, false⟩) (.br (!(F_spec_l03Ok a0)) (.leaf ⟨⟨0, rfl⟩, false⟩) (.leaf ⟨a0, true⟩))
theorem r_spec_l03End (a0 : I64) (a1 : Bool) : Tb50.run B50 [enc a0, enc a1] (T2 I64 Bool) = (t_spec_l03End a0 a1).opt := by kernel_rfl
noncomputable def F_spec_l03End : I64 → Bool → T2 I64 Bool := fun a0 a1 => (t_spec_l03End a0 a1).get
theorem u_spec_l03End (a0 : I64) (a1 : Bool) : (t_spec_l03End a0 a1).opt = some (F_spec_l03End a0 a1) := Tr.tot_get (by kernel_rfl)
noncomputable def E_spec_l03End : Ent Try.prog := .of2 Tb50 B50 (fun _ _ => true) F_spec_l03End fun a0 a1 _ => (r_spec_l03End a0 a1).trans (u_spec_l03End a0 a1)
noncomputable def B39 : Bod Try.prog := ⟨39, Try.f39, Try.f39.body.getD .skip, Try.func39, by kernel_rfl, by kernel_rfl, Loops.no _ _⟩
noncomputable def Tb39 : Tb Try.prog := { T := [], mix := mix, Es := [E_spec_MulDivFloor, E_spec_l03End], Bs := [], d := 1 }
noncomputable def t_spec_l03Floor (a0 : I64) (a1 : I64) : Tr (T2 I64 Bool) :=
  .br (decide (a1.val ≤ 0)) (.leaf ⟨⟨0, rfl⟩, false⟩) (.br (G_spec_MulDivFloor a0 ⟨4294967296, rfl⟩ a1) (let c1 := F_spec_MulDivFloor a0 ⟨4294967296, rfl⟩ a1; let c2 := F_spec_l03End c1.a c1.b; .leaf ⟨c2.a, c2.b⟩) (.bad))
theorem r_spec_l03Floor (a0 : I64) (a1 : I64) : Tb39.run B39 [enc a0, enc a1] (T2 I64 Bool) = (t_spec_l03Floor a0 a1).opt := by kernel_rfl
noncomputable def F_spec_l03Floor : I64 → I64 → T2 I64 Bool := fun a0 a1 => (t_spec_l03Floor a0 a1).get
noncomputable def G_spec_l03Floor : I64 → I64 → Bool := fun a0 a1 => (t_spec_l03Floor a0 a1).opt.isSome
noncomputable def E_spec_l03Floor : Ent Try.prog := .of2 Tb39 B39 G_spec_l03Floor F_spec_l03Floor fun a0 a1 h => (r_spec_l03Floor a0 a1).trans (Tr.get_some h)
noncomputable def B40 : Bod Try.prog := ⟨40, Try.f40, Try.f40.body.getD .skip, Try.func40, by kernel_rfl, by kernel_rfl, Loops.no _ _⟩
noncomputable def Tb40 : Tb Try.prog := { T := [], mix := mix, Es := [E_spec_MulDivFloor, E_spec_l03End], Bs := [], d := 1 }
noncomputable def t_spec_l03Ceil (a0 : I64) (a1 : I64) : Tr (T2 I64 Bool) :=
  .br (decide (a1.val ≤ 0)) (.leaf ⟨⟨0, rfl⟩, false⟩) (.br (G_spec_MulDivFloor a0 ⟨4294967296, rfl⟩ a1) (let c1 := F_spec_MulDivFloor a0 ⟨4294967296, rfl⟩ a1; .br (!c1.b) (.leaf ⟨⟨0, rfl⟩, false⟩) (.br ((Rng.w .i64 (c1.a.val * a1.val)).val != (Rng.w .i64 (a0.val * 4294967296)).val) (let c5 := F_spec_l03End (Rng.w .i64 (c1.a.val + 1)) true; .leaf ⟨c5.a, c5.b⟩) (let c6 := F_spec_l03End c1.a true; .leaf ⟨c6.a, c6.b⟩))) (.bad))
theorem r_spec_l03Ceil (a0 : I64) (a1 : I64) : Tb40.run B40 [enc a0, enc a1] (T2 I64 Bool) = (t_spec_l03Ceil a0 a1).opt := by kernel_rfl
noncomputable def F_spec_l03Ceil : I64 → I64 → T2 I64 Bool := fun a0 a1 => (t_spec_l03Ceil a0 a1).get
noncomputable def G_spec_l03Ceil : I64 → I64 → Bool := fun a0 a1 => (t_spec_l03Ceil a0 a1).opt.isSome
noncomputable def E_spec_l03Ceil : Ent Try.prog := .of2 Tb40 B40 G_spec_l03Ceil F_spec_l03Ceil fun a0 a1 h => (r_spec_l03Ceil a0 a1).trans (Tr.get_some h)
noncomputable def B51 : Bod Try.prog := ⟨51, Try.f51, Try.f51.body.getD .skip, Try.func51, by kernel_rfl, by kernel_rfl, Loops.no _ _⟩
noncomputable def Tb51 : Tb Try.prog := { T := [Y2, Y39], mix := mix, Es := [], Bs := [], d := 1 }
noncomputable def t_spec_l04Ok (a0 : Iv) : Tr (Bool) :=
  .br (decide ((-1152921504606846976) < a0.lo.val)) (.br (decide (a0.lo.val ≤ a0.hi.val)) (.leaf (decide (a0.hi.val < 1152921504606846976))) (.leaf false)) (.leaf false)
theorem r_spec_l04Ok (a0 : Iv) : Tb51.run B51 [enc a0] (Bool) = (t_spec_l04Ok a0).opt := by kernel_rfl
noncomputable def F_spec_l04Ok : Iv → Bool := fun a0 => (t_spec_l04Ok a0).get
theorem u_spec_l04Ok (a0 : Iv) : (t_spec_l04Ok a0).opt = some (F_spec_l04Ok a0) := Tr.tot_get (by kernel_rfl)
noncomputable def E_spec_l04Ok : Ent Try.prog := .of1 Tb51 B51 (fun _ => true) F_spec_l04Ok fun a0 _ => (r_spec_l04Ok a0).trans (u_spec_l04Ok a0)
noncomputable def B41 : Bod Try.prog := ⟨41, Try.f41, Try.f41.body.getD .skip, Try.func41, by kernel_rfl, by kernel_rfl, Loops.no _ _⟩
noncomputable def Tb41 : Tb Try.prog := { T := [Y2, Y39], mix := mix, Es := [E_spec_l04Whole, E_spec_l04Ok], Bs := [], d := 1 }
noncomputable def t_spec_l04Make (a0 : I64) (a1 : I64) : Tr (Iv) :=
  .br (!(F_spec_l04Ok ⟨a0, a1⟩)) (.leaf F_spec_l04Whole) (.leaf ⟨a0, a1⟩)
theorem r_spec_l04Make (a0 : I64) (a1 : I64) : Tb41.run B41 [enc a0, enc a1] (Iv) = (t_spec_l04Make a0 a1).opt := by kernel_rfl
noncomputable def F_spec_l04Make : I64 → I64 → Iv := fun a0 a1 => (t_spec_l04Make a0 a1).get
theorem u_spec_l04Make (a0 : I64) (a1 : I64) : (t_spec_l04Make a0 a1).opt = some (F_spec_l04Make a0 a1) := Tr.tot_get (by kernel_rfl)
noncomputable def E_spec_l04Make : Ent Try.prog := .of2 Tb41 B41 (fun _ _ => true) F_spec_l04Make fun a0 a1 _ => (r_spec_l04Make a0 a1).trans (u_spec_l04Make a0 a1)
noncomputable def B30 : Bod Try.prog := ⟨30, Try.f30, Try.f30.body.getD .skip, Try.func30, by kernel_rfl, by kernel_rfl, Loops.no _ _⟩
noncomputable def Tb30 : Tb Try.prog := { T := [Y2, Y39], mix := mix, Es := [E_spec_l04Whole, E_spec_l03Floor, E_spec_l03Ceil, E_spec_l04Make], Bs := [], d := 1 }
noncomputable def t_spec_Quotient (a0 : I64) (a1 : I64) : Tr (Iv) :=
  .br (decide (a1.val < 0)) (.br (a0.val == (-9223372036854775808)) (.leaf F_spec_l04Whole) (.br (a1.val == (-9223372036854775808)) (.leaf F_spec_l04Whole) (let c5 := (Rng.w .i64 (0 - a0.val)); let c6 := (Rng.w .i64 (0 - a1.val)); .br (G_spec_l03Floor c5 c6) (let c7 := F_spec_l03Floor c5 c6; .br (G_spec_l03Ceil c5 c6) (let c8 := F_spec_l03Ceil c5 c6; .br (!c7.b) (.leaf F_spec_l04Whole) (.br (!c8.b) (.leaf F_spec_l04Whole) (.leaf (F_spec_l04Make c7.a c8.a)))) (.bad)) (.bad)))) (.br (G_spec_l03Floor a0 a1) (let c12 := F_spec_l03Floor a0 a1; .br (G_spec_l03Ceil a0 a1) (let c13 := F_spec_l03Ceil a0 a1; .br (!c12.b) (.leaf F_spec_l04Whole) (.br (!c13.b) (.leaf F_spec_l04Whole) (.leaf (F_spec_l04Make c12.a c13.a)))) (.bad)) (.bad))
theorem r_spec_Quotient (a0 : I64) (a1 : I64) : Tb30.run B30 [enc a0, enc a1] (Iv) = (t_spec_Quotient a0 a1).opt := by kernel_rfl
noncomputable def F_spec_Quotient : I64 → I64 → Iv := fun a0 a1 => (t_spec_Quotient a0 a1).get
noncomputable def G_spec_Quotient : I64 → I64 → Bool := fun a0 a1 => (t_spec_Quotient a0 a1).opt.isSome
noncomputable def E_spec_Quotient : Ent Try.prog := .of2 Tb30 B30 G_spec_Quotient F_spec_Quotient fun a0 a1 h => (r_spec_Quotient a0 a1).trans (Tr.get_some h)
noncomputable def B13 : Bod Try.prog := ⟨13, Try.f13, Try.f13.body.getD .skip, Try.func13, by kernel_rfl, by kernel_rfl, Loops.no _ _⟩
noncomputable def Tb13 : Tb Try.prog := { T := [Y2, Y39], mix := mix, Es := [E_spec_l00In, E_spec_Whole, E_spec_Quotient], Bs := [], d := 1 }
noncomputable def t_spec_HeightI (a0 : I64) : Tr (Iv) :=
  .br (!(F_spec_l00In a0 ⟨(-20000000), rfl⟩ ⟨20000000000, rfl⟩)) (.leaf F_spec_Whole) (.br (G_spec_Quotient a0 ⟨1000, rfl⟩) (.leaf (F_spec_Quotient a0 ⟨1000, rfl⟩)) (.bad))
theorem r_spec_HeightI (a0 : I64) : Tb13.run B13 [enc a0] (Iv) = (t_spec_HeightI a0).opt := by kernel_rfl
noncomputable def F_spec_HeightI : I64 → Iv := fun a0 => (t_spec_HeightI a0).get
noncomputable def G_spec_HeightI : I64 → Bool := fun a0 => (t_spec_HeightI a0).opt.isSome
noncomputable def E_spec_HeightI : Ent Try.prog := .of1 Tb13 B13 G_spec_HeightI F_spec_HeightI fun a0 h => (r_spec_HeightI a0).trans (Tr.get_some h)
noncomputable def B31 : Bod Try.prog := ⟨31, Try.f31, Try.f31.body.getD .skip, Try.func31, by kernel_rfl, by kernel_rfl, Loops.no _ _⟩
noncomputable def Tb31 : Tb Try.prog := { T := [Y2, Y39], mix := mix, Es := [], Bs := [], d := 1 }
noncomputable def t_impl_Whole : Tr (Iv) :=
  .leaf ⟨⟨(-1152921504606846976), rfl⟩, ⟨1152921504606846976, rfl⟩⟩
theorem r_impl_Whole : Tb31.run B31 [] (Iv) = (t_impl_Whole).opt := by kernel_rfl
noncomputable def F_impl_Whole : Iv := (t_impl_Whole).get
theorem u_impl_Whole : (t_impl_Whole).opt = some (F_impl_Whole) := Tr.tot_get (by kernel_rfl)
noncomputable def E_impl_Whole : Ent Try.prog := .of0 Tb31 B31 F_impl_Whole (r_impl_Whole.trans u_impl_Whole)
noncomputable def B68 : Bod Try.prog := ⟨68, Try.f68, Try.f68.body.getD .skip, Try.func68, by kernel_rfl, by kernel_rfl, Loops.no _ _⟩
noncomputable def Tb68 : Tb Try.prog := { T := [], mix := mix, Es := [], Bs := [], d := 1 }
noncomputable def t_math_bits_Mul64 (a0 : U64) (a1 : U64) : Tr (T2 U64 U64) :=
  let c1 := (Rng.w .u64 (bitop .and .u64 a0.val 4294967295)); let c2 := (Rng.w .u64 (a0.val.fdiv 4294967296)); let c3 := (Rng.w .u64 (bitop .and .u64 a1.val 4294967295)); let c4 := (Rng.w .u64 (a1.val.fdiv 4294967296)); let c8 := (Rng.w .u64 ((Rng.w .u64 (c2.val * c3.val)).val + (Rng.w .u64 ((Rng.w .u64 (c1.val * c3.val)).val.fdiv 4294967296)).val)); .leaf ⟨(Rng.w .u64 ((Rng.w .u64 ((Rng.w .u64 (c2.val * c4.val)).val + (Rng.w .u64 (c8.val.fdiv 4294967296)).val)).val + (Rng.w .u64 ((Rng.w .u64 ((Rng.w .u64 (bitop .and .u64 c8.val 4294967295)).val + (Rng.w .u64 (c1.val * c4.val)).val)).val.fdiv 4294967296)).val)), (Rng.w .u64 (a0.val * a1.val))⟩
theorem r_math_bits_Mul64 (a0 : U64) (a1 : U64) : Tb68.run B68 [enc a0, enc a1] (T2 U64 U64) = (t_math_bits_Mul64 a0 a1).opt := by kernel_rfl
noncomputable def F_math_bits_Mul64 : U64 → U64 → T2 U64 U64 := fun a0 a1 => (t_math_bits_Mul64 a0 a1).get
theorem u_math_bits_Mul64 (a0 : U64) (a1 : U64) : (t_math_bits_Mul64 a0 a1).opt = some (F_math_bits_Mul64 a0 a1) := Tr.tot_get (by kernel_rfl)
noncomputable def E_math_bits_Mul64 : Ent Try.prog := .of2 Tb68 B68 (fun _ _ => true) F_math_bits_Mul64 fun a0 a1 _ => (r_math_bits_Mul64 a0 a1).trans (u_math_bits_Mul64 a0 a1)
noncomputable def B58 : Bod Try.prog := ⟨58, Try.f58, Try.f58.body.getD .skip, Try.func58, by kernel_rfl, by kernel_rfl, Loops.no _ _⟩
noncomputable def Tb58 : Tb Try.prog := { T := [Y2, Y60, Y62], mix := mix, Es := [E_math_bits_Mul64], Bs := [], d := 1 }
noncomputable def t_impl_WideMul (a0 : I64) (a1 : I64) : Tr (Wide) :=
  let c1 := F_math_bits_Mul64 (Rng.w .u64 (a0.val)) (Rng.w .u64 (a1.val)); .br (decide (a0.val < 0)) (let c2 := (Rng.w .u64 (c1.a.val - (Rng.w .u64 (a1.val)).val)); .br (decide (a1.val < 0)) (.leaf ⟨(Rng.w .i64 ((Rng.w .u64 (c2.val - (Rng.w .u64 (a0.val)).val)).val)), c1.b⟩) (.leaf ⟨(Rng.w .i64 (c2.val)), c1.b⟩)) (.br (decide (a1.val < 0)) (.leaf ⟨(Rng.w .i64 ((Rng.w .u64 (c1.a.val - (Rng.w .u64 (a0.val)).val)).val)), c1.b⟩) (.leaf ⟨(Rng.w .i64 (c1.a.val)), c1.b⟩))
theorem r_impl_WideMul (a0 : I64) (a1 : I64) : Tb58.run B58 [enc a0, enc a1] (Wide) = (t_impl_WideMul a0 a1).opt := by kernel_rfl
noncomputable def F_impl_WideMul : I64 → I64 → Wide := fun a0 a1 => (t_impl_WideMul a0 a1).get
theorem u_impl_WideMul (a0 : I64) (a1 : I64) : (t_impl_WideMul a0 a1).opt = some (F_impl_WideMul a0 a1) := Tr.tot_get (by kernel_rfl)
noncomputable def E_impl_WideMul : Ent Try.prog := .of2 Tb58 B58 (fun _ _ => true) F_impl_WideMul fun a0 a1 _ => (r_impl_WideMul a0 a1).trans (u_impl_WideMul a0 a1)
noncomputable def Y5 : TyE Try.prog := ⟨5, 1, (.int .u8), [.u8 ⟨0, rfl⟩], false, by kernel_rfl, by kernel_rfl, by kernel_rfl, by kernel_rfl, by kernel_rfl, by kernel_rfl⟩
noncomputable def Y9 : TyE Try.prog := ⟨9, 1, .str, [.str ByteArray.empty], false, by kernel_rfl, by kernel_rfl, by kernel_rfl, by kernel_rfl, by kernel_rfl, by kernel_rfl⟩
noncomputable def S_79 (i : Nat) : ByteArray := (codeStrs (Try.f79.body.getD .skip)).getD i ByteArray.empty
noncomputable def B79 : Bod Try.prog := ⟨79, Try.f79, Try.f79.body.getD .skip, Try.func79, by kernel_rfl, by kernel_rfl, Loops.no _ _⟩
noncomputable def Tb79 : Tb Try.prog := { T := [Y3, Y5, Y9, Y60], mix := mix, Es := [], Bs := [], d := 1 }
noncomputable def t_math_bits_Len64 (a0 : U64) : Tr (I64) :=
  .br (decide (a0.val ≥ 4294967296)) (let c2 := (Rng.w .u64 (a0.val.fdiv 4294967296)); .br (decide (c2.val ≥ 65536)) (let c4 := (Rng.w .u64 (c2.val.fdiv 65536)); .br (decide (c4.val ≥ 256)) (let c5 := (Rng.w .u64 (c4.val.fdiv 256)); .br (Nat.blt ((Rng.w .u8 (c5.val)).val.toNat) (S_79 0).size) (.leaf (Rng.w .i64 (56 + (Rng.w .i64 ((strAt (S_79 0) ((Rng.w .u8 (c5.val)).val.toNat)).val)).val))) (.bad)) (.br (Nat.blt ((Rng.w .u8 (c4.val)).val.toNat) (S_79 0).size) (.leaf (Rng.w .i64 (48 + (Rng.w .i64 ((strAt (S_79 0) ((Rng.w .u8 (c4.val)).val.toNat)).val)).val))) (.bad))) (.br (decide (c2.val ≥ 256)) (let c10 := (Rng.w .u64 (c2.val.fdiv 256)); .br (Nat.blt ((Rng.w .u8 (c10.val)).val.toNat) (S_79 0).size) (.leaf (Rng.w .i64 (40 + (Rng.w .i64 ((strAt (S_79 0) ((Rng.w .u8 (c10.val)).val.toNat)).val)).val))) (.bad)) (.br (Nat.blt ((Rng.w .u8 (c2.val)).val.toNat) (S_79 0).size) (.leaf (Rng.w .i64 (32 + (Rng.w .i64 ((strAt (S_79 0) ((Rng.w .u8 (c2.val)).val.toNat)).val)).val))) (.bad)))) (.br (decide (a0.val ≥ 65536)) (let c16 := (Rng.w .u64 (a0.val.fdiv 65536)); .br (decide (c16.val ≥ 256)) (let c17 := (Rng.w .u64 (c16.val.fdiv 256)); .br (Nat.blt ((Rng.w .u8 (c17.val)).val.toNat) (S_79 0).size) (.leaf (Rng.w .i64 (24 + (Rng.w .i64 ((strAt (S_79 0) ((Rng.w .u8 (c17.val)).val.toNat)).val)).val))) (.bad)) (.br (Nat.blt ((Rng.w .u8 (c16.val)).val.toNat) (S_79 0).size) (.leaf (Rng.w .i64 (16 + (Rng.w .i64 ((strAt (S_79 0) ((Rng.w .u8 (c16.val)).val.toNat)).val)).val))) (.bad))) (.br (decide (a0.val ≥ 256)) (let c22 := (Rng.w .u64 (a0.val.fdiv 256)); .br (Nat.blt ((Rng.w .u8 (c22.val)).val.toNat) (S_79 0).size) (.leaf (Rng.w .i64 (8 + (Rng.w .i64 ((strAt (S_79 0) ((Rng.w .u8 (c22.val)).val.toNat)).val)).val))) (.bad)) (.br (Nat.blt ((Rng.w .u8 (a0.val)).val.toNat) (S_79 0).size) (.leaf (Rng.w .i64 (0 + (Rng.w .i64 ((strAt (S_79 0) ((Rng.w .u8 (a0.val)).val.toNat)).val)).val))) (.bad))))
theorem r_math_bits_Len64 (a0 : U64) : Tb79.run B79 [enc a0] (I64) = (t_math_bits_Len64 a0).opt := by kernel_rfl
noncomputable def F_math_bits_Len64 : U64 → I64 := fun a0 => (t_math_bits_Len64 a0).get
noncomputable def G_math_bits_Len64 : U64 → Bool := fun a0 => (t_math_bits_Len64 a0).opt.isSome
noncomputable def E_math_bits_Len64 : Ent Try.prog := .of1 Tb79 B79 G_math_bits_Len64 F_math_bits_Len64 fun a0 h => (r_math_bits_Len64 a0).trans (Tr.get_some h)
noncomputable def B78 : Bod Try.prog := ⟨78, Try.f78, Try.f78.body.getD .skip, Try.func78, by kernel_rfl, by kernel_rfl, Loops.no _ _⟩
noncomputable def Tb78 : Tb Try.prog := { T := [], mix := mix, Es := [E_math_bits_Len64], Bs := [], d := 1 }
noncomputable def t_math_bits_LeadingZeros64 (a0 : U64) : Tr (I64) :=
  .br (G_math_bits_Len64 a0) (.leaf (Rng.w .i64 (64 - (F_math_bits_Len64 a0).val))) (.bad)
theorem r_math_bits_LeadingZeros64 (a0 : U64) : Tb78.run B78 [enc a0] (I64) = (t_math_bits_LeadingZeros64 a0).opt := by kernel_rfl
noncomputable def F_math_bits_LeadingZeros64 : U64 → I64 := fun a0 => (t_math_bits_LeadingZeros64 a0).get
noncomputable def G_math_bits_LeadingZeros64 : U64 → Bool := fun a0 => (t_math_bits_LeadingZeros64 a0).opt.isSome
noncomputable def E_math_bits_LeadingZeros64 : Ent Try.prog := .of1 Tb78 B78 G_math_bits_LeadingZeros64 F_math_bits_LeadingZeros64 fun a0 h => (r_math_bits_LeadingZeros64 a0).trans (Tr.get_some h)
structure S_math_bits_Div64_17 where
  x0 : U64
  x1 : U64
  x2 : U64
  x3 : U64
  x4 : U64
  x5 : U64
  x6 : U64
  x7 : U64
  x8 : U64
instance : Inhabited S_math_bits_Div64_17 := ⟨⟨default, default, default, default, default, default, default, default, default⟩⟩
noncomputable def st_math_bits_Div64_17 (x : S_math_bits_Div64_17) : St := ⟨[(2, .u64 x.x0), (8, .u64 x.x1), (9, .u64 x.x2), (10, .u64 x.x3), (11, .u64 x.x4), (13, .u64 x.x5), (14, .u64 x.x6), (15, .u64 x.x7), (16, .u64 x.x8)], 135, ⟨[], 0, 0⟩⟩
noncomputable def rd_math_bits_Div64_17 : St → Option S_math_bits_Div64_17 := fun s => match s with
  | ⟨[(2, .u64 x0), (8, .u64 x1), (9, .u64 x2), (10, .u64 x3), (11, .u64 x4), (13, .u64 x5), (14, .u64 x6), (15, .u64 x7), (16, .u64 x8)], 135, ⟨[], 0, 0⟩⟩ => some ⟨x0, x1, x2, x3, x4, x5, x6, x7, x8⟩
  | _ => none
noncomputable def b_math_bits_Div64_17 (x : S_math_bits_Div64_17) : Tr (Lp S_math_bits_Div64_17) :=
  .br (decide (x.x7.val ≥ 4294967296)) (let c19 := (Rng.w .u64 (x.x7.val - 1)); let c20 := (Rng.w .u64 (x.x8.val + x.x2.val)); .br (decide (c20.val ≥ 4294967296)) (.leaf (.out ⟨x.x0, x.x1, x.x2, x.x3, x.x4, x.x5, x.x6, c19, c20⟩)) (.leaf (.again ⟨x.x0, x.x1, x.x2, x.x3, x.x4, x.x5, x.x6, c19, c20⟩))) (.br (decide ((Rng.w .u64 (x.x7.val * x.x3.val)).val > (Rng.w .u64 ((Rng.w .u64 (4294967296 * x.x8.val)).val + x.x5.val)).val)) (let c26 := (Rng.w .u64 (x.x7.val - 1)); let c27 := (Rng.w .u64 (x.x8.val + x.x2.val)); .br (decide (c27.val ≥ 4294967296)) (.leaf (.out ⟨x.x0, x.x1, x.x2, x.x3, x.x4, x.x5, x.x6, c26, c27⟩)) (.leaf (.again ⟨x.x0, x.x1, x.x2, x.x3, x.x4, x.x5, x.x6, c26, c27⟩))) (.leaf (.out ⟨x.x0, x.x1, x.x2, x.x3, x.x4, x.x5, x.x6, x.x7, x.x8⟩)))
noncomputable def G_math_bits_Div64_17 (x : S_math_bits_Div64_17) : Bool := (Lf b_math_bits_Div64_17 4 x).opt.isSome
noncomputable def L_math_bits_Div64_17 (x : S_math_bits_Div64_17) : S_math_bits_Div64_17 := (Lf b_math_bits_Div64_17 4 x).get
noncomputable def TbL_math_bits_Div64_17 : Tb Try.prog := { T := [], mix := mix, Es := [], Bs := [], d := 1 }
noncomputable def P_math_bits_Div64_17 : LpF := loopF [2, 8, 9, 10, 11, 13, 14, 15, 16] [] 0 rd_math_bits_Div64_17 st_math_bits_Div64_17 (.exit 0) G_math_bits_Div64_17 L_math_bits_Div64_17
theorem lok_math_bits_Div64_17 : LoopOk Try.prog (loopAt (Try.f76.body.getD .skip) 0) P_math_bits_Div64_17 := loopF_ok (t := TbL_math_bits_Div64_17) (lt := fun _ => none) (body := b_math_bits_Div64_17) (n := 4) (by intro h; cases h) (fun _ _ _ h => by cases h)
  (by intro s x h; unfold rd_math_bits_Div64_17 at h; split at h <;> cases h; rfl) (by intro x b cs h; simp [st_math_bits_Div64_17, lk] at h) (by intro x; kernel_rfl) (fun x h => Tr.get_some h)
structure S_math_bits_Div64_24 where
  x0 : U64
  x1 : U64
  x2 : U64
  x3 : U64
  x4 : U64
  x5 : U64
  x6 : U64
  x7 : U64
  x8 : U64
instance : Inhabited S_math_bits_Div64_24 := ⟨⟨default, default, default, default, default, default, default, default, default⟩⟩
noncomputable def st_math_bits_Div64_24 (x : S_math_bits_Div64_24) : St := ⟨[(2, .u64 x.x0), (8, .u64 x.x1), (9, .u64 x.x2), (10, .u64 x.x3), (14, .u64 x.x4), (15, .u64 x.x5), (16, .u64 x.x6), (17, .u64 x.x7), (18, .u64 x.x8)], 135, ⟨[], 0, 0⟩⟩
noncomputable def rd_math_bits_Div64_24 : St → Option S_math_bits_Div64_24 := fun s => match s with
  | ⟨[(2, .u64 x0), (8, .u64 x1), (9, .u64 x2), (10, .u64 x3), (14, .u64 x4), (15, .u64 x5), (16, .u64 x6), (17, .u64 x7), (18, .u64 x8)], 135, ⟨[], 0, 0⟩⟩ => some ⟨x0, x1, x2, x3, x4, x5, x6, x7, x8⟩
  | _ => none
noncomputable def b_math_bits_Div64_24 (x : S_math_bits_Div64_24) : Tr (Lp S_math_bits_Div64_24) :=
  .br (decide (x.x8.val ≥ 4294967296)) (let c38 := (Rng.w .u64 (x.x8.val - 1)); let c39 := (Rng.w .u64 (x.x6.val + x.x2.val)); .br (decide (c39.val ≥ 4294967296)) (.leaf (.out ⟨x.x0, x.x1, x.x2, x.x3, x.x4, x.x5, c39, x.x7, c38⟩)) (.leaf (.again ⟨x.x0, x.x1, x.x2, x.x3, x.x4, x.x5, c39, x.x7, c38⟩))) (.br (decide ((Rng.w .u64 (x.x8.val * x.x3.val)).val > (Rng.w .u64 ((Rng.w .u64 (4294967296 * x.x6.val)).val + x.x4.val)).val)) (let c45 := (Rng.w .u64 (x.x8.val - 1)); let c46 := (Rng.w .u64 (x.x6.val + x.x2.val)); .br (decide (c46.val ≥ 4294967296)) (.leaf (.out ⟨x.x0, x.x1, x.x2, x.x3, x.x4, x.x5, c46, x.x7, c45⟩)) (.leaf (.again ⟨x.x0, x.x1, x.x2, x.x3, x.x4, x.x5, c46, x.x7, c45⟩))) (.leaf (.out ⟨x.x0, x.x1, x.x2, x.x3, x.x4, x.x5, x.x6, x.x7, x.x8⟩)))
noncomputable def G_math_bits_Div64_24 (x : S_math_bits_Div64_24) : Bool := (Lf b_math_bits_Div64_24 4 x).opt.isSome
noncomputable def L_math_bits_Div64_24 (x : S_math_bits_Div64_24) : S_math_bits_Div64_24 := (Lf b_math_bits_Div64_24 4 x).get
noncomputable def TbL_math_bits_Div64_24 : Tb Try.prog := { T := [], mix := mix, Es := [], Bs := [], d := 1 }
noncomputable def P_math_bits_Div64_24 : LpF := loopF [2, 8, 9, 10, 14, 15, 16, 17, 18] [] 0 rd_math_bits_Div64_24 st_math_bits_Div64_24 (.exit 2) G_math_bits_Div64_24 L_math_bits_Div64_24
theorem lok_math_bits_Div64_24 : LoopOk Try.prog (loopAt (Try.f76.body.getD .skip) 1) P_math_bits_Div64_24 := loopF_ok (t := TbL_math_bits_Div64_24) (lt := fun _ => none) (body := b_math_bits_Div64_24) (n := 4) (by intro h; cases h) (fun _ _ _ h => by cases h)
  (by intro s x h; unfold rd_math_bits_Div64_24 at h; split at h <;> cases h; rfl) (by intro x b cs h; simp [st_math_bits_Div64_24, lk] at h) (by intro x; kernel_rfl) (fun x h => Tr.get_some h)
noncomputable def B76 : Bod Try.prog := ⟨76, Try.f76, Try.f76.body.getD .skip, Try.func76, by kernel_rfl, by kernel_rfl, ⟨ltOf [(17, P_math_bits_Div64_17), (24, P_math_bits_Div64_24)], Loops.of (ks := [17, 24]) (by kernel_rfl) (by
  intro i k h f hf
  match i, h with
  | 0, h => cases h; obtain rfl : P_math_bits_Div64_17 = f := Option.some.inj hf; exact lok_math_bits_Div64_17
  | 1, h => cases h; obtain rfl : P_math_bits_Div64_24 = f := Option.some.inj hf; exact lok_math_bits_Div64_24
  | n + 2, h => simp at h)⟩⟩
noncomputable def Tb76 : Tb Try.prog := { T := [Y3, Y79], mix := mix, Es := [E_math_bits_LeadingZeros64], Bs := [], d := 1 }
noncomputable def t_math_bits_Div64 (a0 : U64) (a1 : U64) (a2 : U64) : Tr (T2 U64 U64) :=
  .br (a2.val == 0) (.bad) (.br (decide (a2.val ≤ a0.val)) (.bad) (.br (a0.val == 0) (.br (a2.val == 0) (.bad) (.br (a2.val == 0) (.bad) (.leaf ⟨(Rng.w .u64 (a1.val.tdiv a2.val)), (Rng.w .u64 (a1.val.tmod a2.val))⟩))) (.br (G_math_bits_LeadingZeros64 a2) (let c4 := F_math_bits_LeadingZeros64 a2; let c5 := (Rng.w .u64 (a2.val * (2 ^ min ((Rng.w .u64 (c4.val)).val).toNat 64))); let c6 := (Rng.w .u64 (c5.val.fdiv 4294967296)); let c7 := (Rng.w .u64 (bitop .and .u64 c5.val 4294967295)); let c11 := (Rng.w .u64 (bitop .or .u64 (Rng.w .u64 (a0.val * (2 ^ min ((Rng.w .u64 (c4.val)).val).toNat 64))).val (Rng.w .u64 (a1.val.fdiv (2 ^ min ((Rng.w .u64 (64 - (Rng.w .u64 (c4.val)).val)).val).toNat 64))).val)); let c12 := (Rng.w .u64 (a1.val * (2 ^ min ((Rng.w .u64 (c4.val)).val).toNat 64))); let c13 := (Rng.w .u64 (c12.val.fdiv 4294967296)); let c14 := (Rng.w .u64 (bitop .and .u64 c12.val 4294967295)); .br (c6.val == 0) (.bad) (let c15 := (Rng.w .u64 (c11.val.tdiv c6.val)); let c17 := (Rng.w .u64 (c11.val - (Rng.w .u64 (c15.val * c6.val)).val)); .br (G_math_bits_Div64_17 ⟨c5, (Rng.w .u64 (c4.val)), c6, c7, c11, c13, c14, c15, c17⟩) (let c29 := L_math_bits_Div64_17 ⟨c5, (Rng.w .u64 (c4.val)), c6, c7, c11, c13, c14, c15, c17⟩; let c33 := (Rng.w .u64 ((Rng.w .u64 ((Rng.w .u64 (c29.x4.val * 4294967296)).val + c29.x5.val)).val - (Rng.w .u64 (c29.x7.val * c29.x0.val)).val)); .br (c29.x2.val == 0) (.bad) (let c34 := (Rng.w .u64 (c33.val.tdiv c29.x2.val)); let c36 := (Rng.w .u64 (c33.val - (Rng.w .u64 (c34.val * c29.x2.val)).val)); .br (G_math_bits_Div64_24 ⟨c29.x0, c29.x1, c29.x2, c29.x3, c29.x6, c29.x7, c36, c33, c34⟩) (let c48 := L_math_bits_Div64_24 ⟨c29.x0, c29.x1, c29.x2, c29.x3, c29.x6, c29.x7, c36, c33, c34⟩; .leaf ⟨(Rng.w .u64 ((Rng.w .u64 (c48.x5.val * 4294967296)).val + c48.x8.val)), (Rng.w .u64 ((Rng.w .u64 ((Rng.w .u64 ((Rng.w .u64 (c48.x7.val * 4294967296)).val + c48.x4.val)).val - (Rng.w .u64 (c48.x8.val * c48.x0.val)).val)).val.fdiv (2 ^ min (c48.x1.val).toNat 64)))⟩) (.bad))) (.bad))) (.bad))))
theorem r_math_bits_Div64 (a0 : U64) (a1 : U64) (a2 : U64) : Tb76.run B76 [enc a0, enc a1, enc a2] (T2 U64 U64) = (t_math_bits_Div64 a0 a1 a2).opt := by kernel_rfl
noncomputable def F_math_bits_Div64 : U64 → U64 → U64 → T2 U64 U64 := fun a0 a1 a2 => (t_math_bits_Div64 a0 a1 a2).get
noncomputable def G_math_bits_Div64 : U64 → U64 → U64 → Bool := fun a0 a1 a2 => (t_math_bits_Div64 a0 a1 a2).opt.isSome
noncomputable def E_math_bits_Div64 : Ent Try.prog := .of3 Tb76 B76 G_math_bits_Div64 F_math_bits_Div64 fun a0 a1 a2 h => (r_math_bits_Div64 a0 a1 a2).trans (Tr.get_some h)
noncomputable def B65 : Bod Try.prog := ⟨65, Try.f65, Try.f65.body.getD .skip, Try.func65, by kernel_rfl, by kernel_rfl, Loops.no _ _⟩
noncomputable def Tb65 : Tb Try.prog := { T := [], mix := mix, Es := [E_math_bits_Div64], Bs := [], d := 1 }
noncomputable def t_impl_divided (a0 : U64) (a1 : U64) (a2 : U64) : Tr (T3 U64 U64 U64) :=
  .br (a2.val == 0) (.bad) (.br (a2.val == 0) (.bad) (let c2 := (Rng.w .u64 (a0.val.tmod a2.val)); .br (G_math_bits_Div64 c2 a1 a2) (let c3 := F_math_bits_Div64 c2 a1 a2; .leaf ⟨(Rng.w .u64 (a0.val.tdiv a2.val)), c3.a, c3.b⟩) (.bad)))
theorem r_impl_divided (a0 : U64) (a1 : U64) (a2 : U64) : Tb65.run B65 [enc a0, enc a1, enc a2] (T3 U64 U64 U64) = (t_impl_divided a0 a1 a2).opt := by kernel_rfl
noncomputable def F_impl_divided : U64 → U64 → U64 → T3 U64 U64 U64 := fun a0 a1 a2 => (t_impl_divided a0 a1 a2).get
noncomputable def G_impl_divided : U64 → U64 → U64 → Bool := fun a0 a1 a2 => (t_impl_divided a0 a1 a2).opt.isSome
noncomputable def E_impl_divided : Ent Try.prog := .of3 Tb65 B65 G_impl_divided F_impl_divided fun a0 a1 a2 h => (r_impl_divided a0 a1 a2).trans (Tr.get_some h)
noncomputable def B66 : Bod Try.prog := ⟨66, Try.f66, Try.f66.body.getD .skip, Try.func66, by kernel_rfl, by kernel_rfl, Loops.no _ _⟩
noncomputable def Tb66 : Tb Try.prog := { T := [Y2, Y60, Y62], mix := mix, Es := [E_math_bits_Sub64], Bs := [], d := 1 }
noncomputable def t_impl_Wide_negative (a0 : Wide) : Tr (Wide) :=
  let c1 := F_math_bits_Sub64 ⟨0, rfl⟩ a0.lo ⟨0, rfl⟩; .br (G_carry ⟨0, rfl⟩ (Rng.w .u64 (a0.hi.val)) c1.b) (.leaf ⟨(Rng.w .i64 ((F_math_bits_Sub64 ⟨0, rfl⟩ (Rng.w .u64 (a0.hi.val)) c1.b).a.val)), c1.a⟩) (.bad)
theorem r_impl_Wide_negative (a0 : Wide) : Tb66.run B66 [enc a0] (Wide) = (t_impl_Wide_negative a0).opt := by kernel_rfl
noncomputable def F_impl_Wide_negative : Wide → Wide := fun a0 => (t_impl_Wide_negative a0).get
noncomputable def G_impl_Wide_negative : Wide → Bool := fun a0 => (t_impl_Wide_negative a0).opt.isSome
noncomputable def E_impl_Wide_negative : Ent Try.prog := .of1 Tb66 B66 G_impl_Wide_negative F_impl_Wide_negative fun a0 h => (r_impl_Wide_negative a0).trans (Tr.get_some h)
noncomputable def B57 : Bod Try.prog := ⟨57, Try.f57, Try.f57.body.getD .skip, Try.func57, by kernel_rfl, by kernel_rfl, Loops.no _ _⟩
noncomputable def Tb57 : Tb Try.prog := { T := [Y2, Y60, Y62], mix := mix, Es := [E_impl_divided, E_impl_Wide_negative, E_math_bits_Add64], Bs := [], d := 1 }
noncomputable def t_impl_WideDiv (a0 : Wide) (a1 : I64) : Tr (T3 Wide I64 Bool) :=
  .br (decide (a1.val ≤ 0)) (.leaf ⟨⟨⟨0, rfl⟩, ⟨0, rfl⟩⟩, ⟨0, rfl⟩, false⟩) (.br (decide (a0.hi.val ≥ 0)) (.br (G_impl_divided (Rng.w .u64 (a0.hi.val)) a0.lo (Rng.w .u64 (a1.val))) (let c1 := F_impl_divided (Rng.w .u64 (a0.hi.val)) a0.lo (Rng.w .u64 (a1.val)); .leaf ⟨⟨(Rng.w .i64 (c1.a.val)), c1.b⟩, (Rng.w .i64 (c1.c.val)), true⟩) (.bad)) (.br (G_impl_Wide_negative a0) (let c2 := F_impl_Wide_negative a0; .br (G_impl_divided (Rng.w .u64 (c2.hi.val)) c2.lo (Rng.w .u64 (a1.val))) (let c3 := F_impl_divided (Rng.w .u64 (c2.hi.val)) c2.lo (Rng.w .u64 (a1.val)); .br (c3.c.val == 0) (.br (G_impl_Wide_negative ⟨(Rng.w .i64 (c3.a.val)), c3.b⟩) (.leaf ⟨(F_impl_Wide_negative ⟨(Rng.w .i64 (c3.a.val)), c3.b⟩), ⟨0, rfl⟩, true⟩) (.bad)) (let c5 := F_math_bits_Add64 c3.b ⟨1, rfl⟩ ⟨0, rfl⟩; let c6 := (Rng.w .u64 (c3.a.val + c5.b.val)); .br (G_impl_Wide_negative ⟨(Rng.w .i64 (c6.val)), c5.a⟩) (.leaf ⟨(F_impl_Wide_negative ⟨(Rng.w .i64 (c6.val)), c5.a⟩), (Rng.w .i64 (a1.val - (Rng.w .i64 (c3.c.val)).val)), true⟩) (.bad))) (.bad)) (.bad)))
theorem r_impl_WideDiv (a0 : Wide) (a1 : I64) : Tb57.run B57 [enc a0, enc a1] (T3 Wide I64 Bool) = (t_impl_WideDiv a0 a1).opt := by kernel_rfl
noncomputable def F_impl_WideDiv : Wide → I64 → T3 Wide I64 Bool := fun a0 a1 => (t_impl_WideDiv a0 a1).get
noncomputable def G_impl_WideDiv : Wide → I64 → Bool := fun a0 a1 => (t_impl_WideDiv a0 a1).opt.isSome
noncomputable def E_impl_WideDiv : Ent Try.prog := .of2 Tb57 B57 G_impl_WideDiv F_impl_WideDiv fun a0 a1 h => (r_impl_WideDiv a0 a1).trans (Tr.get_some h)
noncomputable def B69 : Bod Try.prog := ⟨69, Try.f69, Try.f69.body.getD .skip, Try.func69, by kernel_rfl, by kernel_rfl, Loops.no _ _⟩
noncomputable def Tb69 : Tb Try.prog := { T := [Y2, Y60, Y62], mix := mix, Es := [], Bs := [], d := 1 }
noncomputable def t_impl_WideOf (a0 : I64) : Tr (Wide) :=
  .leaf ⟨(Rng.w .i64 (a0.val.fdiv 9223372036854775808)), (Rng.w .u64 (a0.val))⟩
theorem r_impl_WideOf (a0 : I64) : Tb69.run B69 [enc a0] (Wide) = (t_impl_WideOf a0).opt := by kernel_rfl
noncomputable def F_impl_WideOf : I64 → Wide := fun a0 => (t_impl_WideOf a0).get
theorem u_impl_WideOf (a0 : I64) : (t_impl_WideOf a0).opt = some (F_impl_WideOf a0) := Tr.tot_get (by kernel_rfl)
noncomputable def E_impl_WideOf : Ent Try.prog := .of1 Tb69 B69 (fun _ => true) F_impl_WideOf fun a0 _ => (r_impl_WideOf a0).trans (u_impl_WideOf a0)
noncomputable def B59 : Bod Try.prog := ⟨59, Try.f59, Try.f59.body.getD .skip, Try.func59, by kernel_rfl, by kernel_rfl, Loops.no _ _⟩
noncomputable def Tb59 : Tb Try.prog := { T := [Y2, Y60, Y62], mix := mix, Es := [E_impl_WideOf], Bs := [], d := 1 }
noncomputable def t_impl_WideInt (a0 : Wide) : Tr (T2 I64 Bool) :=
  let c1 := F_impl_WideOf (Rng.w .i64 (a0.lo.val)); .br (!((c1.hi.val == a0.hi.val) && ((c1.lo.val == a0.lo.val) && true))) (.leaf ⟨⟨0, rfl⟩, false⟩) (.leaf ⟨(Rng.w .i64 (a0.lo.val)), true⟩)
theorem r_impl_WideInt (a0 : Wide) : Tb59.run B59 [enc a0] (T2 I64 Bool) = (t_impl_WideInt a0).opt := by kernel_rfl
noncomputable def F_impl_WideInt : Wide → T2 I64 Bool := fun a0 => (t_impl_WideInt a0).get
theorem u_impl_WideInt (a0 : Wide) : (t_impl_WideInt a0).opt = some (F_impl_WideInt a0) := Tr.tot_get (by kernel_rfl)
noncomputable def E_impl_WideInt : Ent Try.prog := .of1 Tb59 B59 (fun _ => true) F_impl_WideInt fun a0 _ => (r_impl_WideInt a0).trans (u_impl_WideInt a0)
noncomputable def B48 : Bod Try.prog := ⟨48, Try.f48, Try.f48.body.getD .skip, Try.func48, by kernel_rfl, by kernel_rfl, Loops.no _ _⟩
noncomputable def Tb48 : Tb Try.prog := { T := [Y2, Y60, Y62], mix := mix, Es := [E_impl_WideDiv, E_impl_WideMul, E_impl_WideInt], Bs := [], d := 1 }
noncomputable def t_impl_MulDivFloor (a0 : I64) (a1 : I64) (a2 : I64) : Tr (T2 I64 Bool) :=
  let c1 := F_impl_WideMul a0 a1; .br (G_impl_WideDiv c1 a2) (let c2 := F_impl_WideDiv c1 a2; .br (!c2.c) (.leaf ⟨⟨0, rfl⟩, false⟩) (let c3 := F_impl_WideInt c2.a; .leaf ⟨c3.a, c3.b⟩)) (.bad)
theorem r_impl_MulDivFloor (a0 : I64) (a1 : I64) (a2 : I64) : Tb48.run B48 [enc a0, enc a1, enc a2] (T2 I64 Bool) = (t_impl_MulDivFloor a0 a1 a2).opt := by kernel_rfl
noncomputable def F_impl_MulDivFloor : I64 → I64 → I64 → T2 I64 Bool := fun a0 a1 a2 => (t_impl_MulDivFloor a0 a1 a2).get
noncomputable def G_impl_MulDivFloor : I64 → I64 → I64 → Bool := fun a0 a1 a2 => (t_impl_MulDivFloor a0 a1 a2).opt.isSome
noncomputable def E_impl_MulDivFloor : Ent Try.prog := .of3 Tb48 B48 G_impl_MulDivFloor F_impl_MulDivFloor fun a0 a1 a2 h => (r_impl_MulDivFloor a0 a1 a2).trans (Tr.get_some h)
noncomputable def B64 : Bod Try.prog := ⟨64, Try.f64, Try.f64.body.getD .skip, Try.func64, by kernel_rfl, by kernel_rfl, Loops.no _ _⟩
noncomputable def Tb64 : Tb Try.prog := { T := [], mix := mix, Es := [E_impl_within], Bs := [], d := 1 }
noncomputable def t_impl_ValidFix (a0 : I64) : Tr (Bool) :=
  .leaf (F_impl_within a0 ⟨(-1152921504606846976), rfl⟩ ⟨1152921504606846976, rfl⟩)
theorem r_impl_ValidFix (a0 : I64) : Tb64.run B64 [enc a0] (Bool) = (t_impl_ValidFix a0).opt := by kernel_rfl
noncomputable def F_impl_ValidFix : I64 → Bool := fun a0 => (t_impl_ValidFix a0).get
theorem u_impl_ValidFix (a0 : I64) : (t_impl_ValidFix a0).opt = some (F_impl_ValidFix a0) := Tr.tot_get (by kernel_rfl)
noncomputable def E_impl_ValidFix : Ent Try.prog := .of1 Tb64 B64 (fun _ => true) F_impl_ValidFix fun a0 _ => (r_impl_ValidFix a0).trans (u_impl_ValidFix a0)
noncomputable def B52 : Bod Try.prog := ⟨52, Try.f52, Try.f52.body.getD .skip, Try.func52, by kernel_rfl, by kernel_rfl, Loops.no _ _⟩
noncomputable def Tb52 : Tb Try.prog := { T := [], mix := mix, Es := [E_impl_ValidFix], Bs := [], d := 1 }
noncomputable def t_impl_fixed (a0 : I64) (a1 : Bool) : Tr (T2 I64 Bool) :=
  .br (!a1) (.leaf ⟨⟨0, rfl⟩, false⟩) (.br (!(F_impl_ValidFix a0)) (.leaf ⟨⟨0, rfl⟩, false⟩) (.leaf ⟨a0, true⟩))
theorem r_impl_fixed (a0 : I64) (a1 : Bool) : Tb52.run B52 [enc a0, enc a1] (T2 I64 Bool) = (t_impl_fixed a0 a1).opt := by kernel_rfl
noncomputable def F_impl_fixed : I64 → Bool → T2 I64 Bool := fun a0 a1 => (t_impl_fixed a0 a1).get
theorem u_impl_fixed (a0 : I64) (a1 : Bool) : (t_impl_fixed a0 a1).opt = some (F_impl_fixed a0 a1) := Tr.tot_get (by kernel_rfl)
noncomputable def E_impl_fixed : Ent Try.prog := .of2 Tb52 B52 (fun _ _ => true) F_impl_fixed fun a0 a1 _ => (r_impl_fixed a0 a1).trans (u_impl_fixed a0 a1)
noncomputable def B42 : Bod Try.prog := ⟨42, Try.f42, Try.f42.body.getD .skip, Try.func42, by kernel_rfl, by kernel_rfl, Loops.no _ _⟩
noncomputable def Tb42 : Tb Try.prog := { T := [], mix := mix, Es := [E_impl_MulDivFloor, E_impl_fixed], Bs := [], d := 1 }
noncomputable def t_impl_FixFloor (a0 : I64) (a1 : I64) : Tr (T2 I64 Bool) :=
  .br (G_impl_MulDivFloor a0 ⟨4294967296, rfl⟩ a1) (let c1 := F_impl_MulDivFloor a0 ⟨4294967296, rfl⟩ a1; let c2 := F_impl_fixed c1.a c1.b; .leaf ⟨c2.a, c2.b⟩) (.bad)
theorem r_impl_FixFloor (a0 : I64) (a1 : I64) : Tb42.run B42 [enc a0, enc a1] (T2 I64 Bool) = (t_impl_FixFloor a0 a1).opt := by kernel_rfl
noncomputable def F_impl_FixFloor : I64 → I64 → T2 I64 Bool := fun a0 a1 => (t_impl_FixFloor a0 a1).get
noncomputable def G_impl_FixFloor : I64 → I64 → Bool := fun a0 a1 => (t_impl_FixFloor a0 a1).opt.isSome
noncomputable def E_impl_FixFloor : Ent Try.prog := .of2 Tb42 B42 G_impl_FixFloor F_impl_FixFloor fun a0 a1 h => (r_impl_FixFloor a0 a1).trans (Tr.get_some h)
noncomputable def B53 : Bod Try.prog := ⟨53, Try.f53, Try.f53.body.getD .skip, Try.func53, by kernel_rfl, by kernel_rfl, Loops.no _ _⟩
noncomputable def Tb53 : Tb Try.prog := { T := [Y2, Y60, Y62], mix := mix, Es := [E_impl_WideDiv, E_impl_WideMul, E_impl_WideInt], Bs := [], d := 1 }
noncomputable def t_impl_mulDivCeil (a0 : I64) (a1 : I64) (a2 : I64) : Tr (T2 I64 Bool) :=
  let c1 := F_impl_WideMul a0 a1; .br (G_impl_WideDiv c1 a2) (let c2 := F_impl_WideDiv c1 a2; .br (!c2.c) (.leaf ⟨⟨0, rfl⟩, false⟩) (let c3 := F_impl_WideInt c2.a; .br (!c3.b) (.leaf ⟨⟨0, rfl⟩, false⟩) (.br (decide (c2.b.val > 0)) (.br (c3.a.val == 9223372036854775807) (.leaf ⟨⟨0, rfl⟩, false⟩) (.br (decide (c2.b.val > 0)) (.leaf ⟨(Rng.w .i64 (c3.a.val + 1)), true⟩) (.leaf ⟨c3.a, true⟩))) (.br (decide (c2.b.val > 0)) (.leaf ⟨(Rng.w .i64 (c3.a.val + 1)), true⟩) (.leaf ⟨c3.a, true⟩))))) (.bad)
theorem r_impl_mulDivCeil (a0 : I64) (a1 : I64) (a2 : I64) : Tb53.run B53 [enc a0, enc a1, enc a2] (T2 I64 Bool) = (t_impl_mulDivCeil a0 a1 a2).opt := by kernel_rfl
noncomputable def F_impl_mulDivCeil : I64 → I64 → I64 → T2 I64 Bool := fun a0 a1 a2 => (t_impl_mulDivCeil a0 a1 a2).get
noncomputable def G_impl_mulDivCeil : I64 → I64 → I64 → Bool := fun a0 a1 a2 => (t_impl_mulDivCeil a0 a1 a2).opt.isSome
noncomputable def E_impl_mulDivCeil : Ent Try.prog := .of3 Tb53 B53 G_impl_mulDivCeil F_impl_mulDivCeil fun a0 a1 a2 h => (r_impl_mulDivCeil a0 a1 a2).trans (Tr.get_some h)
noncomputable def B43 : Bod Try.prog := ⟨43, Try.f43, Try.f43.body.getD .skip, Try.func43, by kernel_rfl, by kernel_rfl, Loops.no _ _⟩
noncomputable def Tb43 : Tb Try.prog := { T := [], mix := mix, Es := [E_impl_fixed, E_impl_mulDivCeil], Bs := [], d := 1 }
noncomputable def t_impl_FixCeil (a0 : I64) (a1 : I64) : Tr (T2 I64 Bool) :=
  .br (G_impl_mulDivCeil a0 ⟨4294967296, rfl⟩ a1) (let c1 := F_impl_mulDivCeil a0 ⟨4294967296, rfl⟩ a1; let c2 := F_impl_fixed c1.a c1.b; .leaf ⟨c2.a, c2.b⟩) (.bad)
theorem r_impl_FixCeil (a0 : I64) (a1 : I64) : Tb43.run B43 [enc a0, enc a1] (T2 I64 Bool) = (t_impl_FixCeil a0 a1).opt := by kernel_rfl
noncomputable def F_impl_FixCeil : I64 → I64 → T2 I64 Bool := fun a0 a1 => (t_impl_FixCeil a0 a1).get
noncomputable def G_impl_FixCeil : I64 → I64 → Bool := fun a0 a1 => (t_impl_FixCeil a0 a1).opt.isSome
noncomputable def E_impl_FixCeil : Ent Try.prog := .of2 Tb43 B43 G_impl_FixCeil F_impl_FixCeil fun a0 a1 h => (r_impl_FixCeil a0 a1).trans (Tr.get_some h)
noncomputable def B54 : Bod Try.prog := ⟨54, Try.f54, Try.f54.body.getD .skip, Try.func54, by kernel_rfl, by kernel_rfl, Loops.no _ _⟩
noncomputable def Tb54 : Tb Try.prog := { T := [Y2, Y39], mix := mix, Es := [], Bs := [], d := 1 }
noncomputable def t_impl_ValidInterval (a0 : Iv) : Tr (Bool) :=
  .br (decide ((-1152921504606846976) < a0.lo.val)) (.br (decide (a0.lo.val ≤ a0.hi.val)) (.leaf (decide (a0.hi.val < 1152921504606846976))) (.leaf false)) (.leaf false)
theorem r_impl_ValidInterval (a0 : Iv) : Tb54.run B54 [enc a0] (Bool) = (t_impl_ValidInterval a0).opt := by kernel_rfl
noncomputable def F_impl_ValidInterval : Iv → Bool := fun a0 => (t_impl_ValidInterval a0).get
theorem u_impl_ValidInterval (a0 : Iv) : (t_impl_ValidInterval a0).opt = some (F_impl_ValidInterval a0) := Tr.tot_get (by kernel_rfl)
noncomputable def E_impl_ValidInterval : Ent Try.prog := .of1 Tb54 B54 (fun _ => true) F_impl_ValidInterval fun a0 _ => (r_impl_ValidInterval a0).trans (u_impl_ValidInterval a0)
noncomputable def B44 : Bod Try.prog := ⟨44, Try.f44, Try.f44.body.getD .skip, Try.func44, by kernel_rfl, by kernel_rfl, Loops.no _ _⟩
noncomputable def Tb44 : Tb Try.prog := { T := [Y2, Y39], mix := mix, Es := [E_impl_Whole, E_impl_ValidInterval], Bs := [], d := 1 }
noncomputable def t_impl_bounded (a0 : I64) (a1 : I64) (a2 : Bool) : Tr (Iv) :=
  .br a2 (.br (F_impl_ValidInterval ⟨a0, a1⟩) (.leaf ⟨a0, a1⟩) (.leaf F_impl_Whole)) (.leaf F_impl_Whole)
theorem r_impl_bounded (a0 : I64) (a1 : I64) (a2 : Bool) : Tb44.run B44 [enc a0, enc a1, enc a2] (Iv) = (t_impl_bounded a0 a1 a2).opt := by kernel_rfl
noncomputable def F_impl_bounded : I64 → I64 → Bool → Iv := fun a0 a1 a2 => (t_impl_bounded a0 a1 a2).get
theorem u_impl_bounded (a0 : I64) (a1 : I64) (a2 : Bool) : (t_impl_bounded a0 a1 a2).opt = some (F_impl_bounded a0 a1 a2) := Tr.tot_get (by kernel_rfl)
noncomputable def E_impl_bounded : Ent Try.prog := .of3 Tb44 B44 (fun _ _ _ => true) F_impl_bounded fun a0 a1 a2 _ => (r_impl_bounded a0 a1 a2).trans (u_impl_bounded a0 a1 a2)
noncomputable def B32 : Bod Try.prog := ⟨32, Try.f32, Try.f32.body.getD .skip, Try.func32, by kernel_rfl, by kernel_rfl, Loops.no _ _⟩
noncomputable def Tb32 : Tb Try.prog := { T := [Y2, Y39], mix := mix, Es := [E_impl_Whole, E_impl_FixFloor, E_impl_FixCeil, E_impl_bounded], Bs := [], d := 1 }
noncomputable def t_impl_Quotient (a0 : I64) (a1 : I64) : Tr (Iv) :=
  .br (decide (a1.val < 0)) (let c1 := (Rng.w .i64 (0 - a0.val)); let c2 := (Rng.w .i64 (0 - a1.val)); .br (decide (c2.val < 0)) (.leaf F_impl_Whole) (.br (c1.val == (-9223372036854775808)) (.leaf F_impl_Whole) (.br (G_impl_FixFloor c1 c2) (let c6 := F_impl_FixFloor c1 c2; .br (G_impl_FixCeil c1 c2) (let c7 := F_impl_FixCeil c1 c2; .br c6.b (.leaf (F_impl_bounded c6.a c7.a c7.b)) (.leaf (F_impl_bounded c6.a c7.a false))) (.bad)) (.bad)))) (.br (G_impl_FixFloor a0 a1) (let c10 := F_impl_FixFloor a0 a1; .br (G_impl_FixCeil a0 a1) (let c11 := F_impl_FixCeil a0 a1; .br c10.b (.leaf (F_impl_bounded c10.a c11.a c11.b)) (.leaf (F_impl_bounded c10.a c11.a false))) (.bad)) (.bad))
theorem r_impl_Quotient (a0 : I64) (a1 : I64) : Tb32.run B32 [enc a0, enc a1] (Iv) = (t_impl_Quotient a0 a1).opt := by kernel_rfl
noncomputable def F_impl_Quotient : I64 → I64 → Iv := fun a0 a1 => (t_impl_Quotient a0 a1).get
noncomputable def G_impl_Quotient : I64 → I64 → Bool := fun a0 a1 => (t_impl_Quotient a0 a1).opt.isSome
noncomputable def E_impl_Quotient : Ent Try.prog := .of2 Tb32 B32 G_impl_Quotient F_impl_Quotient fun a0 a1 h => (r_impl_Quotient a0 a1).trans (Tr.get_some h)
noncomputable def B14 : Bod Try.prog := ⟨14, Try.f14, Try.f14.body.getD .skip, Try.func14, by kernel_rfl, by kernel_rfl, Loops.no _ _⟩
noncomputable def Tb14 : Tb Try.prog := { T := [Y2, Y39], mix := mix, Es := [E_impl_isHeight, E_impl_Whole, E_impl_Quotient], Bs := [], d := 1 }
noncomputable def t_impl_HeightI (a0 : I64) : Tr (Iv) :=
  .br (!(F_impl_isHeight a0)) (.leaf F_impl_Whole) (.br (G_impl_Quotient a0 ⟨1000, rfl⟩) (.leaf (F_impl_Quotient a0 ⟨1000, rfl⟩)) (.bad))
theorem r_impl_HeightI (a0 : I64) : Tb14.run B14 [enc a0] (Iv) = (t_impl_HeightI a0).opt := by kernel_rfl
noncomputable def F_impl_HeightI : I64 → Iv := fun a0 => (t_impl_HeightI a0).get
noncomputable def G_impl_HeightI : I64 → Bool := fun a0 => (t_impl_HeightI a0).opt.isSome
noncomputable def E_impl_HeightI : Ent Try.prog := .of1 Tb14 B14 G_impl_HeightI F_impl_HeightI fun a0 h => (r_impl_HeightI a0).trans (Tr.get_some h)
noncomputable def B15 : Bod Try.prog := ⟨15, Try.f15, Try.f15.body.getD .skip, Try.func15, by kernel_rfl, by kernel_rfl, Loops.no _ _⟩
noncomputable def Tb15 : Tb Try.prog := { T := [Y2, Y39], mix := mix, Es := [], Bs := [], d := 1 }
noncomputable def t_laws_eqInterval (a0 : Iv) (a1 : Iv) : Tr (Bool) :=
  .br (a0.lo.val != a1.lo.val) (.leaf false) (.br (a0.hi.val != a1.hi.val) (.leaf false) (.leaf true))
theorem r_laws_eqInterval (a0 : Iv) (a1 : Iv) : Tb15.run B15 [enc a0, enc a1] (Bool) = (t_laws_eqInterval a0 a1).opt := by kernel_rfl
noncomputable def F_laws_eqInterval : Iv → Iv → Bool := fun a0 a1 => (t_laws_eqInterval a0 a1).get
theorem u_laws_eqInterval (a0 : Iv) (a1 : Iv) : (t_laws_eqInterval a0 a1).opt = some (F_laws_eqInterval a0 a1) := Tr.tot_get (by kernel_rfl)
noncomputable def E_laws_eqInterval : Ent Try.prog := .of2 Tb15 B15 (fun _ _ => true) F_laws_eqInterval fun a0 a1 _ => (r_laws_eqInterval a0 a1).trans (u_laws_eqInterval a0 a1)
noncomputable def B5 : Bod Try.prog := ⟨5, Try.f5, Try.f5.body.getD .skip, Try.func5, by kernel_rfl, by kernel_rfl, Loops.no _ _⟩
noncomputable def Tb5 : Tb Try.prog := { T := [Y2, Y39], mix := mix, Es := [E_spec_HeightI, E_impl_HeightI, E_laws_eqInterval], Bs := [], d := 1 }
noncomputable def t_laws_FnExactHeightI (a0 : I64) : Tr (Bool) :=
  .br (G_spec_HeightI a0) (.br (G_impl_HeightI a0) (.br (!(F_laws_eqInterval (F_impl_HeightI a0) (F_spec_HeightI a0))) (.leaf false) (.leaf true)) (.bad)) (.bad)
theorem r_laws_FnExactHeightI (a0 : I64) : Tb5.run B5 [enc a0] (Bool) = (t_laws_FnExactHeightI a0).opt := by kernel_rfl
noncomputable def F_laws_FnExactHeightI : I64 → Bool := fun a0 => (t_laws_FnExactHeightI a0).get
noncomputable def G_laws_FnExactHeightI : I64 → Bool := fun a0 => (t_laws_FnExactHeightI a0).opt.isSome
noncomputable def E_laws_FnExactHeightI : Ent Try.prog := .of1 Tb5 B5 G_laws_FnExactHeightI F_laws_FnExactHeightI fun a0 h => (r_laws_FnExactHeightI a0).trans (Tr.get_some h)
noncomputable def B46 : Bod Try.prog := ⟨46, Try.f46, Try.f46.body.getD .skip, Try.func46, by kernel_rfl, by kernel_rfl, Loops.no _ _⟩
noncomputable def Tb46 : Tb Try.prog := { T := [], mix := mix, Es := [], Bs := [], d := 1 }
noncomputable def t_spec_l11Wrap (a0 : I64) : Tr (I64) :=
  let c1 := (Rng.w .i64 (a0.val.tmod 3600000000)); .br (decide (c1.val > 1800000000)) (let c3 := (Rng.w .i64 (c1.val - 3600000000)); .br (decide (c3.val ≤ (-1800000000))) (.leaf (Rng.w .i64 (c3.val + 3600000000))) (.leaf c3)) (.br (decide (c1.val ≤ (-1800000000))) (.leaf (Rng.w .i64 (c1.val + 3600000000))) (.leaf c1))
theorem r_spec_l11Wrap (a0 : I64) : Tb46.run B46 [enc a0] (I64) = (t_spec_l11Wrap a0).opt := by kernel_rfl
noncomputable def F_spec_l11Wrap : I64 → I64 := fun a0 => (t_spec_l11Wrap a0).get
theorem u_spec_l11Wrap (a0 : I64) : (t_spec_l11Wrap a0).opt = some (F_spec_l11Wrap a0) := Tr.tot_get (by kernel_rfl)
noncomputable def E_spec_l11Wrap : Ent Try.prog := .of1 Tb46 B46 (fun _ => true) F_spec_l11Wrap fun a0 _ => (r_spec_l11Wrap a0).trans (u_spec_l11Wrap a0)
noncomputable def B55 : Bod Try.prog := ⟨55, Try.f55, Try.f55.body.getD .skip, Try.func55, by kernel_rfl, by kernel_rfl, Loops.no _ _⟩
noncomputable def Tb55 : Tb Try.prog := { T := [Y2, Y39], mix := mix, Es := [E_spec_l04Whole, E_spec_l04Make, E_spec_l04Ok], Bs := [], d := 1 }
noncomputable def t_spec_NegI (a0 : Iv) : Tr (Iv) :=
  .br (!(F_spec_l04Ok a0)) (.leaf F_spec_l04Whole) (.leaf (F_spec_l04Make (Rng.w .i64 (0 - a0.hi.val)) (Rng.w .i64 (0 - a0.lo.val))))
theorem r_spec_NegI (a0 : Iv) : Tb55.run B55 [enc a0] (Iv) = (t_spec_NegI a0).opt := by kernel_rfl
noncomputable def F_spec_NegI : Iv → Iv := fun a0 => (t_spec_NegI a0).get
theorem u_spec_NegI (a0 : Iv) : (t_spec_NegI a0).opt = some (F_spec_NegI a0) := Tr.tot_get (by kernel_rfl)
noncomputable def E_spec_NegI : Ent Try.prog := .of1 Tb55 B55 (fun _ => true) F_spec_NegI fun a0 _ => (r_spec_NegI a0).trans (u_spec_NegI a0)
noncomputable def B45 : Bod Try.prog := ⟨45, Try.f45, Try.f45.body.getD .skip, Try.func45, by kernel_rfl, by kernel_rfl, Loops.no _ _⟩
noncomputable def Tb45_p : Tb Try.prog := { T := [Y2, Y39], mix := mix, Es := [E_spec_l00In, E_spec_Whole, E_spec_MulDivFloor], Bs := [], d := 1 }
noncomputable def t_spec_RadiansOf_p (a0 : I64) : Tr (Iv) :=
  .br (!(F_spec_l00In a0 ⟨(-36000000000), rfl⟩ ⟨36000000000, rfl⟩)) (.leaf F_spec_Whole) (.br (a0.val == 0) (.leaf ⟨⟨0, rfl⟩, ⟨0, rfl⟩⟩) (.br (decide (a0.val < 0)) (.bad) (.br (G_spec_MulDivFloor a0 ⟨7244019458077122842, rfl⟩ ⟨966367641600000000, rfl⟩) (.br (G_spec_MulDivFloor a0 ⟨7244019458077122843, rfl⟩ ⟨966367641600000000, rfl⟩) (.leaf ⟨(F_spec_MulDivFloor a0 ⟨7244019458077122842, rfl⟩ ⟨966367641600000000, rfl⟩).a, (Rng.w .i64 ((F_spec_MulDivFloor a0 ⟨7244019458077122843, rfl⟩ ⟨966367641600000000, rfl⟩).a.val + 1))⟩) (.bad)) (.bad))))
theorem r_spec_RadiansOf_p (a0 : I64) : Tb45_p.run B45 [enc a0] (Iv) = (t_spec_RadiansOf_p a0).opt := by kernel_rfl
noncomputable def F_spec_RadiansOf_p : I64 → Iv := fun a0 => (t_spec_RadiansOf_p a0).get
noncomputable def G_spec_RadiansOf_p : I64 → Bool := fun a0 => (t_spec_RadiansOf_p a0).opt.isSome
noncomputable def E_spec_RadiansOf_p : Ent Try.prog := .of1 Tb45_p B45 G_spec_RadiansOf_p F_spec_RadiansOf_p fun a0 h => (r_spec_RadiansOf_p a0).trans (Tr.get_some h)
noncomputable def Tb45 : Tb Try.prog := { T := [Y2, Y39], mix := mix, Es := [E_spec_l00In, E_spec_Whole, E_spec_RadiansOf_p, E_spec_MulDivFloor, E_spec_NegI], Bs := [], d := 1 }
noncomputable def t_spec_RadiansOf (a0 : I64) : Tr (Iv) :=
  .br (!(F_spec_l00In a0 ⟨(-36000000000), rfl⟩ ⟨36000000000, rfl⟩)) (.leaf F_spec_Whole) (.br (a0.val == 0) (.leaf ⟨⟨0, rfl⟩, ⟨0, rfl⟩⟩) (.br (decide (a0.val < 0)) (let c3 := (Rng.w .i64 (0 - a0.val)); .br (G_spec_RadiansOf_p c3) (.leaf (F_spec_NegI (F_spec_RadiansOf_p c3))) (.bad)) (.br (G_spec_MulDivFloor a0 ⟨7244019458077122842, rfl⟩ ⟨966367641600000000, rfl⟩) (.br (G_spec_MulDivFloor a0 ⟨7244019458077122843, rfl⟩ ⟨966367641600000000, rfl⟩) (.leaf ⟨(F_spec_MulDivFloor a0 ⟨7244019458077122842, rfl⟩ ⟨966367641600000000, rfl⟩).a, (Rng.w .i64 ((F_spec_MulDivFloor a0 ⟨7244019458077122843, rfl⟩ ⟨966367641600000000, rfl⟩).a.val + 1))⟩) (.bad)) (.bad))))
theorem r_spec_RadiansOf (a0 : I64) : Tb45.run B45 [enc a0] (Iv) = (t_spec_RadiansOf a0).opt := by kernel_rfl
noncomputable def F_spec_RadiansOf : I64 → Iv := fun a0 => (t_spec_RadiansOf a0).get
noncomputable def G_spec_RadiansOf : I64 → Bool := fun a0 => (t_spec_RadiansOf a0).opt.isSome
noncomputable def E_spec_RadiansOf : Ent Try.prog := .of1 Tb45 B45 G_spec_RadiansOf F_spec_RadiansOf fun a0 h => (r_spec_RadiansOf a0).trans (Tr.get_some h)
noncomputable def B35 : Bod Try.prog := ⟨35, Try.f35, Try.f35.body.getD .skip, Try.func35, by kernel_rfl, by kernel_rfl, Loops.no _ _⟩
noncomputable def Tb35 : Tb Try.prog := { T := [Y2, Y27, Y35, Y39], mix := mix, Es := [E_spec_RadiansOf, E_spec_l11Wrap], Bs := [], d := 1 }
noncomputable def t_spec_l17Lon (a0 : Proj) (a1 : Point) : Tr (Iv) :=
  let c2 := F_spec_l11Wrap (Rng.w .i64 (a1.lon.val - a0.lon0.val)); .br (G_spec_RadiansOf c2) (.leaf (F_spec_RadiansOf c2)) (.bad)
theorem r_spec_l17Lon (a0 : Proj) (a1 : Point) : Tb35.run B35 [enc a0, enc a1] (Iv) = (t_spec_l17Lon a0 a1).opt := by kernel_rfl
noncomputable def F_spec_l17Lon : Proj → Point → Iv := fun a0 a1 => (t_spec_l17Lon a0 a1).get
noncomputable def G_spec_l17Lon : Proj → Point → Bool := fun a0 a1 => (t_spec_l17Lon a0 a1).opt.isSome
noncomputable def E_spec_l17Lon : Ent Try.prog := .of2 Tb35 B35 G_spec_l17Lon F_spec_l17Lon fun a0 a1 h => (r_spec_l17Lon a0 a1).trans (Tr.get_some h)
noncomputable def B16 : Bod Try.prog := ⟨16, Try.f16, Try.f16.body.getD .skip, Try.func16, by kernel_rfl, by kernel_rfl, Loops.no _ _⟩
noncomputable def Tb16 : Tb Try.prog := { T := [Y2, Y27, Y35, Y39], mix := mix, Es := [E_spec_l17Ok, E_spec_l11Ok, E_spec_l04Whole, E_spec_l17Lon], Bs := [], d := 1 }
noncomputable def t_spec_LonFrom (a0 : Proj) (a1 : Point) : Tr (Iv) :=
  .br (!(F_spec_l17Ok a0)) (.leaf F_spec_l04Whole) (.br (!(F_spec_l11Ok a1)) (.leaf F_spec_l04Whole) (.br (G_spec_l17Lon a0 a1) (.leaf (F_spec_l17Lon a0 a1)) (.bad)))
theorem r_spec_LonFrom (a0 : Proj) (a1 : Point) : Tb16.run B16 [enc a0, enc a1] (Iv) = (t_spec_LonFrom a0 a1).opt := by kernel_rfl
noncomputable def F_spec_LonFrom : Proj → Point → Iv := fun a0 a1 => (t_spec_LonFrom a0 a1).get
noncomputable def G_spec_LonFrom : Proj → Point → Bool := fun a0 a1 => (t_spec_LonFrom a0 a1).opt.isSome
noncomputable def E_spec_LonFrom : Ent Try.prog := .of2 Tb16 B16 G_spec_LonFrom F_spec_LonFrom fun a0 a1 h => (r_spec_LonFrom a0 a1).trans (Tr.get_some h)
noncomputable def B37 : Bod Try.prog := ⟨37, Try.f37, Try.f37.body.getD .skip, Try.func37, by kernel_rfl, by kernel_rfl, Loops.no _ _⟩
noncomputable def Tb37 : Tb Try.prog := { T := [], mix := mix, Es := [], Bs := [], d := 1 }
noncomputable def t_impl_WrapLon (a0 : I64) : Tr (I64) :=
  let c1 := (Rng.w .i64 (a0.val.tmod 3600000000)); .br (decide (c1.val > 1800000000)) (.leaf (Rng.w .i64 (c1.val - 3600000000))) (.br (decide (c1.val ≤ (-1800000000))) (.leaf (Rng.w .i64 (c1.val + 3600000000))) (.leaf c1))
theorem r_impl_WrapLon (a0 : I64) : Tb37.run B37 [enc a0] (I64) = (t_impl_WrapLon a0).opt := by kernel_rfl
noncomputable def F_impl_WrapLon : I64 → I64 := fun a0 => (t_impl_WrapLon a0).get
theorem u_impl_WrapLon (a0 : I64) : (t_impl_WrapLon a0).opt = some (F_impl_WrapLon a0) := Tr.tot_get (by kernel_rfl)
noncomputable def E_impl_WrapLon : Ent Try.prog := .of1 Tb37 B37 (fun _ => true) F_impl_WrapLon fun a0 _ => (r_impl_WrapLon a0).trans (u_impl_WrapLon a0)
noncomputable def B56 : Bod Try.prog := ⟨56, Try.f56, Try.f56.body.getD .skip, Try.func56, by kernel_rfl, by kernel_rfl, Loops.no _ _⟩
noncomputable def Tb56 : Tb Try.prog := { T := [Y39], mix := mix, Es := [E_impl_ValidInterval], Bs := [], d := 1 }
noncomputable def t_impl_IsWhole (a0 : Iv) : Tr (Bool) :=
  .leaf (!(F_impl_ValidInterval a0))
theorem r_impl_IsWhole (a0 : Iv) : Tb56.run B56 [enc a0] (Bool) = (t_impl_IsWhole a0).opt := by kernel_rfl
noncomputable def F_impl_IsWhole : Iv → Bool := fun a0 => (t_impl_IsWhole a0).get
theorem u_impl_IsWhole (a0 : Iv) : (t_impl_IsWhole a0).opt = some (F_impl_IsWhole a0) := Tr.tot_get (by kernel_rfl)
noncomputable def E_impl_IsWhole : Ent Try.prog := .of1 Tb56 B56 (fun _ => true) F_impl_IsWhole fun a0 _ => (r_impl_IsWhole a0).trans (u_impl_IsWhole a0)
noncomputable def B47 : Bod Try.prog := ⟨47, Try.f47, Try.f47.body.getD .skip, Try.func47, by kernel_rfl, by kernel_rfl, Loops.no _ _⟩
noncomputable def Tb47 : Tb Try.prog := { T := [Y2, Y39], mix := mix, Es := [E_impl_Whole, E_impl_IsWhole], Bs := [], d := 1 }
noncomputable def t_impl_NegI (a0 : Iv) : Tr (Iv) :=
  .br (F_impl_IsWhole a0) (.leaf F_impl_Whole) (.leaf ⟨(Rng.w .i64 (0 - a0.hi.val)), (Rng.w .i64 (0 - a0.lo.val))⟩)
theorem r_impl_NegI (a0 : Iv) : Tb47.run B47 [enc a0] (Iv) = (t_impl_NegI a0).opt := by kernel_rfl
noncomputable def F_impl_NegI : Iv → Iv := fun a0 => (t_impl_NegI a0).get
theorem u_impl_NegI (a0 : Iv) : (t_impl_NegI a0).opt = some (F_impl_NegI a0) := Tr.tot_get (by kernel_rfl)
noncomputable def E_impl_NegI : Ent Try.prog := .of1 Tb47 B47 (fun _ => true) F_impl_NegI fun a0 _ => (r_impl_NegI a0).trans (u_impl_NegI a0)
noncomputable def B36 : Bod Try.prog := ⟨36, Try.f36, Try.f36.body.getD .skip, Try.func36, by kernel_rfl, by kernel_rfl, Loops.no _ _⟩
noncomputable def Tb36_p : Tb Try.prog := { T := [Y2, Y39], mix := mix, Es := [E_impl_within, E_impl_Whole, E_impl_MulDivFloor], Bs := [], d := 1 }
noncomputable def t_impl_RadiansOf_p (a0 : I64) : Tr (Iv) :=
  .br (!(F_impl_within a0 ⟨(-36000000000), rfl⟩ ⟨36000000000, rfl⟩)) (.leaf F_impl_Whole) (.br (decide (a0.val < 0)) (.bad) (.br (a0.val == 0) (.leaf ⟨⟨0, rfl⟩, ⟨0, rfl⟩⟩) (.br (G_impl_MulDivFloor a0 ⟨7244019458077122842, rfl⟩ ⟨966367641600000000, rfl⟩) (.br (G_impl_MulDivFloor a0 ⟨7244019458077122843, rfl⟩ ⟨966367641600000000, rfl⟩) (.leaf ⟨(F_impl_MulDivFloor a0 ⟨7244019458077122842, rfl⟩ ⟨966367641600000000, rfl⟩).a, (Rng.w .i64 ((F_impl_MulDivFloor a0 ⟨7244019458077122843, rfl⟩ ⟨966367641600000000, rfl⟩).a.val + 1))⟩) (.bad)) (.bad))))
theorem r_impl_RadiansOf_p (a0 : I64) : Tb36_p.run B36 [enc a0] (Iv) = (t_impl_RadiansOf_p a0).opt := by kernel_rfl
noncomputable def F_impl_RadiansOf_p : I64 → Iv := fun a0 => (t_impl_RadiansOf_p a0).get
noncomputable def G_impl_RadiansOf_p : I64 → Bool := fun a0 => (t_impl_RadiansOf_p a0).opt.isSome
noncomputable def E_impl_RadiansOf_p : Ent Try.prog := .of1 Tb36_p B36 G_impl_RadiansOf_p F_impl_RadiansOf_p fun a0 h => (r_impl_RadiansOf_p a0).trans (Tr.get_some h)
noncomputable def Tb36 : Tb Try.prog := { T := [Y2, Y39], mix := mix, Es := [E_impl_within, E_impl_Whole, E_impl_RadiansOf_p, E_impl_NegI, E_impl_MulDivFloor], Bs := [], d := 1 }
noncomputable def t_impl_RadiansOf (a0 : I64) : Tr (Iv) :=
  .br (!(F_impl_within a0 ⟨(-36000000000), rfl⟩ ⟨36000000000, rfl⟩)) (.leaf F_impl_Whole) (.br (decide (a0.val < 0)) (let c3 := (Rng.w .i64 (0 - a0.val)); .br (G_impl_RadiansOf_p c3) (.leaf (F_impl_NegI (F_impl_RadiansOf_p c3))) (.bad)) (.br (a0.val == 0) (.leaf ⟨⟨0, rfl⟩, ⟨0, rfl⟩⟩) (.br (G_impl_MulDivFloor a0 ⟨7244019458077122842, rfl⟩ ⟨966367641600000000, rfl⟩) (.br (G_impl_MulDivFloor a0 ⟨7244019458077122843, rfl⟩ ⟨966367641600000000, rfl⟩) (.leaf ⟨(F_impl_MulDivFloor a0 ⟨7244019458077122842, rfl⟩ ⟨966367641600000000, rfl⟩).a, (Rng.w .i64 ((F_impl_MulDivFloor a0 ⟨7244019458077122843, rfl⟩ ⟨966367641600000000, rfl⟩).a.val + 1))⟩) (.bad)) (.bad))))
theorem r_impl_RadiansOf (a0 : I64) : Tb36.run B36 [enc a0] (Iv) = (t_impl_RadiansOf a0).opt := by kernel_rfl
noncomputable def F_impl_RadiansOf : I64 → Iv := fun a0 => (t_impl_RadiansOf a0).get
noncomputable def G_impl_RadiansOf : I64 → Bool := fun a0 => (t_impl_RadiansOf a0).opt.isSome
noncomputable def E_impl_RadiansOf : Ent Try.prog := .of1 Tb36 B36 G_impl_RadiansOf F_impl_RadiansOf fun a0 h => (r_impl_RadiansOf a0).trans (Tr.get_some h)
noncomputable def B18 : Bod Try.prog := ⟨18, Try.f18, Try.f18.body.getD .skip, Try.func18, by kernel_rfl, by kernel_rfl, Loops.no _ _⟩
noncomputable def Tb18 : Tb Try.prog := { T := [Y2, Y27, Y35, Y39], mix := mix, Es := [E_impl_ValidProjection, E_impl_ValidPoint, E_impl_Whole, E_impl_RadiansOf, E_impl_WrapLon], Bs := [], d := 1 }
noncomputable def t_impl_LonFrom (a0 : Proj) (a1 : Point) : Tr (Iv) :=
  .br (!(F_impl_ValidProjection a0)) (.leaf F_impl_Whole) (.br (!(F_impl_ValidPoint a1)) (.leaf F_impl_Whole) (let c6 := F_impl_WrapLon (Rng.w .i64 (a1.lon.val - a0.lon0.val)); .br (G_impl_RadiansOf c6) (.leaf (F_impl_RadiansOf c6)) (.bad)))
theorem r_impl_LonFrom (a0 : Proj) (a1 : Point) : Tb18.run B18 [enc a0, enc a1] (Iv) = (t_impl_LonFrom a0 a1).opt := by kernel_rfl
noncomputable def F_impl_LonFrom : Proj → Point → Iv := fun a0 a1 => (t_impl_LonFrom a0 a1).get
noncomputable def G_impl_LonFrom : Proj → Point → Bool := fun a0 a1 => (t_impl_LonFrom a0 a1).opt.isSome
noncomputable def E_impl_LonFrom : Ent Try.prog := .of2 Tb18 B18 G_impl_LonFrom F_impl_LonFrom fun a0 a1 h => (r_impl_LonFrom a0 a1).trans (Tr.get_some h)
noncomputable def B6 : Bod Try.prog := ⟨6, Try.f6, Try.f6.body.getD .skip, Try.func6, by kernel_rfl, by kernel_rfl, Loops.no _ _⟩
noncomputable def Tb6 : Tb Try.prog := { T := [Y2, Y23, Y33, Y39], mix := mix, Es := [E_laws_toProjection, E_laws_eqInterval, E_spec_LonFrom, E_laws_toPoint, E_impl_LonFrom], Bs := [], d := 1 }
noncomputable def t_laws_FnExactLonFrom (a0 : Proj) (a1 : Point) : Tr (Bool) :=
  let c1 := F_laws_toProjection a0; let c2 := F_laws_toPoint a1; .br (G_spec_LonFrom c1 c2) (let c4 := F_laws_toProjection a0; let c5 := F_laws_toPoint a1; .br (G_impl_LonFrom c4 c5) (.br (!(F_laws_eqInterval (F_impl_LonFrom c4 c5) (F_spec_LonFrom c1 c2))) (.leaf false) (.leaf true)) (.bad)) (.bad)
theorem r_laws_FnExactLonFrom (a0 : Proj) (a1 : Point) : Tb6.run B6 [enc a0, enc a1] (Bool) = (t_laws_FnExactLonFrom a0 a1).opt := by kernel_rfl
noncomputable def F_laws_FnExactLonFrom : Proj → Point → Bool := fun a0 a1 => (t_laws_FnExactLonFrom a0 a1).get
noncomputable def G_laws_FnExactLonFrom : Proj → Point → Bool := fun a0 a1 => (t_laws_FnExactLonFrom a0 a1).opt.isSome
noncomputable def E_laws_FnExactLonFrom : Ent Try.prog := .of2 Tb6 B6 G_laws_FnExactLonFrom F_laws_FnExactLonFrom fun a0 a1 h => (r_laws_FnExactLonFrom a0 a1).trans (Tr.get_some h)
end
end Go.Proofs.Ytlhbapgmkkgfgaa.Ev
