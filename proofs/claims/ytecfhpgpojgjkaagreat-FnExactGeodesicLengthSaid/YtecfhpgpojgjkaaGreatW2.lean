import Derived.Test.YtecfhpgpojgjkaaGreatW1
import Derived.Test.YtecfhpgpojgjkaaGreatPA
namespace Go.Proofs.YtecfhpgpojgjkaaGreat.Ev
open Go Go.RowKit
set_option maxRecDepth 100000
set_option linter.unusedVariables false
section
noncomputable def ET_impl_Wide_negative : Ent Tryz.prog := .of1 Tb328 B328 (fun _ => true) F_impl_Wide_negative fun a0 _ => (r_impl_Wide_negative a0).trans (tt_neg a0)
noncomputable def ET_impl_WideDiv : Ent Tryz.prog := .of2 Tb278 B278 (fun _ _ => true) F_impl_WideDiv fun a0 a1 _ => (r_impl_WideDiv a0 a1).trans (tt_WideDiv a0 a1)
noncomputable def ET_spec_MulDivFloor : Ent Tryz.prog := .of3 Tb168 B168 (fun _ _ _ => true) F_spec_MulDivFloor fun a0 a1 a2 _ => (r_spec_MulDivFloor a0 a1 a2).trans (tt_md_spec a0 a1 a2)
noncomputable def ET_impl_MulDivFloor : Ent Tryz.prog := .of3 Tb192 B192 (fun _ _ _ => true) F_impl_MulDivFloor fun a0 a1 a2 _ => (r_impl_MulDivFloor a0 a1 a2).trans (tt_md_impl a0 a1 a2)
noncomputable def ET_spec_l03Floor : Ent Tryz.prog := .of2 Tb184 B184 (fun _ _ => true) F_spec_l03Floor fun a0 a1 _ => (r_spec_l03Floor a0 a1).trans (tt_ff_spec a0 a1)
noncomputable def ET_impl_FixFloor : Ent Tryz.prog := .of2 Tb200 B200 (fun _ _ => true) F_impl_FixFloor fun a0 a1 _ => (r_impl_FixFloor a0 a1).trans (tt_ff_impl a0 a1)
noncomputable def ET_spec_l03Ceil : Ent Tryz.prog := .of2 Tb185 B185 (fun _ _ => true) F_spec_l03Ceil fun a0 a1 _ => (r_spec_l03Ceil a0 a1).trans (tt_fc_spec a0 a1)
noncomputable def ET_impl_FixCeil : Ent Tryz.prog := .of2 Tb201 B201 (fun _ _ => true) F_impl_FixCeil fun a0 a1 _ => (r_impl_FixCeil a0 a1).trans (tt_fc_impl a0 a1)
noncomputable def ET_spec_Quotient : Ent Tryz.prog := .of2 Tb71 B71 (fun _ _ => true) F_spec_Quotient fun a0 a1 _ => (r_spec_Quotient a0 a1).trans (tt_q_spec a0 a1)
noncomputable def ET_impl_Quotient : Ent Tryz.prog := .of2 Tb83 B83 (fun _ _ => true) F_impl_Quotient fun a0 a1 _ => (r_impl_Quotient a0 a1).trans (tt_q_impl a0 a1)
noncomputable def ET_spec_RadiansOf : Ent Tryz.prog := .of1 Tb64 B64 (fun _ => true) F_spec_RadiansOf fun a0 _ => (r_spec_RadiansOf a0).trans (tt_rad_spec a0)
noncomputable def ET_impl_RadiansOf : Ent Tryz.prog := .of1 Tb78 B78 (fun _ => true) F_impl_RadiansOf fun a0 _ => (r_impl_RadiansOf a0).trans (tt_rad_impl a0)
noncomputable def B325 : Bod Tryz.prog := ⟨325, Tryz.f325, Tryz.f325.body.getD .skip, Tryz.func325, by kernel_rfl, by kernel_rfl, Loops.no _ _⟩
noncomputable def Tb325 : Tb Tryz.prog := { T := [Y2, Y128, Y131, Y133], mix := mix, Es := [], Bs := [], d := 1 }
noncomputable def t_spec_l02Shift (a0 : Wide) (a1 : I64) : Tr (Wide) :=
  .br (a1.val == 0) (.leaf a0) (.br (decide (a1.val < 64)) (.leaf ⟨(Rng.w .i64 (a0.hi.val.fdiv (2 ^ min ((Rng.w .u64 (a1.val)).val).toNat 64))), (Rng.w .u64 (bitop .or .u64 (Rng.w .u64 (a0.lo.val.fdiv (2 ^ min ((Rng.w .u64 (a1.val)).val).toNat 64))).val (Rng.w .u64 ((Rng.w .u64 (a0.hi.val)).val * (2 ^ min ((Rng.w .u64 ((Rng.w .i64 (64 - a1.val)).val)).val).toNat 64))).val))⟩) (.leaf ⟨(Rng.w .i64 (a0.hi.val.fdiv 9223372036854775808)), (Rng.w .u64 ((Rng.w .i64 (a0.hi.val.fdiv (2 ^ min ((Rng.w .u64 ((Rng.w .i64 (a1.val - 64)).val)).val).toNat 64))).val))⟩))
theorem r_spec_l02Shift (a0 : Wide) (a1 : I64) : Tb325.run B325 [enc a0, enc a1] (Wide) = (t_spec_l02Shift a0 a1).opt := by kernel_rfl
noncomputable def F_spec_l02Shift : Wide → I64 → Wide := fun a0 a1 => (t_spec_l02Shift a0 a1).get
theorem u_spec_l02Shift (a0 : Wide) (a1 : I64) : (t_spec_l02Shift a0 a1).opt = some (F_spec_l02Shift a0 a1) := Tr.tot_get (by kernel_rfl)
noncomputable def E_spec_l02Shift : Ent Tryz.prog := .of2 Tb325 B325 (fun _ _ => true) F_spec_l02Shift fun a0 a1 _ => (r_spec_l02Shift a0 a1).trans (u_spec_l02Shift a0 a1)
noncomputable def B269 : Bod Tryz.prog := ⟨269, Tryz.f269, Tryz.f269.body.getD .skip, Tryz.func269, by kernel_rfl, by kernel_rfl, Loops.no _ _⟩
noncomputable def Tb269 : Tb Tryz.prog := { T := [], mix := mix, Es := [E_spec_l00In, E_spec_l02Mul, E_spec_l02Int, E_spec_l02Shift], Bs := [], d := 1 }
noncomputable def t_spec_MulFloor (a0 : I64) (a1 : I64) (a2 : I64) : Tr (T2 I64 Bool) :=
  .br (!(F_spec_l00In a2 ⟨0, rfl⟩ ⟨126, rfl⟩)) (.leaf ⟨⟨0, rfl⟩, false⟩) (let c4 := F_spec_l02Int (F_spec_l02Shift (F_spec_l02Mul a0 a1) a2); .leaf ⟨c4.a, c4.b⟩)
theorem r_spec_MulFloor (a0 : I64) (a1 : I64) (a2 : I64) : Tb269.run B269 [enc a0, enc a1, enc a2] (T2 I64 Bool) = (t_spec_MulFloor a0 a1 a2).opt := by kernel_rfl
noncomputable def F_spec_MulFloor : I64 → I64 → I64 → T2 I64 Bool := fun a0 a1 a2 => (t_spec_MulFloor a0 a1 a2).get
theorem u_spec_MulFloor (a0 : I64) (a1 : I64) (a2 : I64) : (t_spec_MulFloor a0 a1 a2).opt = some (F_spec_MulFloor a0 a1 a2) := Tr.tot_get (by kernel_rfl)
noncomputable def E_spec_MulFloor : Ent Tryz.prog := .of3 Tb269 B269 (fun _ _ _ => true) F_spec_MulFloor fun a0 a1 a2 _ => (r_spec_MulFloor a0 a1 a2).trans (u_spec_MulFloor a0 a1 a2)
noncomputable def B169 : Bod Tryz.prog := ⟨169, Tryz.f169, Tryz.f169.body.getD .skip, Tryz.func169, by kernel_rfl, by kernel_rfl, Loops.no _ _⟩
noncomputable def Tb169 : Tb Tryz.prog := { T := [], mix := mix, Es := [E_spec_l03Ok, E_spec_MulFloor, E_spec_l03End], Bs := [], d := 1 }
noncomputable def t_spec_l03MulDown (a0 : I64) (a1 : I64) : Tr (T2 I64 Bool) :=
  .br (!(F_spec_l03Ok a0)) (.leaf ⟨⟨0, rfl⟩, false⟩) (.br (!(F_spec_l03Ok a1)) (.leaf ⟨⟨0, rfl⟩, false⟩) (let c3 := F_spec_MulFloor a0 a1 ⟨32, rfl⟩; let c4 := F_spec_l03End c3.a c3.b; .leaf ⟨c4.a, c4.b⟩))
theorem r_spec_l03MulDown (a0 : I64) (a1 : I64) : Tb169.run B169 [enc a0, enc a1] (T2 I64 Bool) = (t_spec_l03MulDown a0 a1).opt := by kernel_rfl
noncomputable def F_spec_l03MulDown : I64 → I64 → T2 I64 Bool := fun a0 a1 => (t_spec_l03MulDown a0 a1).get
theorem u_spec_l03MulDown (a0 : I64) (a1 : I64) : (t_spec_l03MulDown a0 a1).opt = some (F_spec_l03MulDown a0 a1) := Tr.tot_get (by kernel_rfl)
noncomputable def E_spec_l03MulDown : Ent Tryz.prog := .of2 Tb169 B169 (fun _ _ => true) F_spec_l03MulDown fun a0 a1 _ => (r_spec_l03MulDown a0 a1).trans (u_spec_l03MulDown a0 a1)
noncomputable def B170 : Bod Tryz.prog := ⟨170, Tryz.f170, Tryz.f170.body.getD .skip, Tryz.func170, by kernel_rfl, by kernel_rfl, Loops.no _ _⟩
noncomputable def Tb170 : Tb Tryz.prog := { T := [], mix := mix, Es := [E_spec_l03MulDown, E_spec_l03Ok], Bs := [], d := 1 }
noncomputable def t_spec_l03MulUp (a0 : I64) (a1 : I64) : Tr (T2 I64 Bool) :=
  let c2 := F_spec_l03MulDown (Rng.w .i64 (0 - a0.val)) a1; .br (!(F_spec_l03Ok a0)) (.leaf ⟨⟨0, rfl⟩, false⟩) (.br (!c2.b) (.leaf ⟨⟨0, rfl⟩, false⟩) (.leaf ⟨(Rng.w .i64 (0 - c2.a.val)), true⟩))
theorem r_spec_l03MulUp (a0 : I64) (a1 : I64) : Tb170.run B170 [enc a0, enc a1] (T2 I64 Bool) = (t_spec_l03MulUp a0 a1).opt := by kernel_rfl
noncomputable def F_spec_l03MulUp : I64 → I64 → T2 I64 Bool := fun a0 a1 => (t_spec_l03MulUp a0 a1).get
theorem u_spec_l03MulUp (a0 : I64) (a1 : I64) : (t_spec_l03MulUp a0 a1).opt = some (F_spec_l03MulUp a0 a1) := Tr.tot_get (by kernel_rfl)
noncomputable def E_spec_l03MulUp : Ent Tryz.prog := .of2 Tb170 B170 (fun _ _ => true) F_spec_l03MulUp fun a0 a1 _ => (r_spec_l03MulUp a0 a1).trans (u_spec_l03MulUp a0 a1)
noncomputable def B171 : Bod Tryz.prog := ⟨171, Tryz.f171, Tryz.f171.body.getD .skip, Tryz.func171, by kernel_rfl, by kernel_rfl, Loops.no _ _⟩
noncomputable def Tb171 : Tb Tryz.prog := { T := [], mix := mix, Es := [], Bs := [], d := 1 }
noncomputable def t_spec_l00Min (a0 : I64) (a1 : I64) : Tr (I64) :=
  .br (decide (a0.val < a1.val)) (.leaf a0) (.leaf a1)
theorem r_spec_l00Min (a0 : I64) (a1 : I64) : Tb171.run B171 [enc a0, enc a1] (I64) = (t_spec_l00Min a0 a1).opt := by kernel_rfl
noncomputable def F_spec_l00Min : I64 → I64 → I64 := fun a0 a1 => (t_spec_l00Min a0 a1).get
theorem u_spec_l00Min (a0 : I64) (a1 : I64) : (t_spec_l00Min a0 a1).opt = some (F_spec_l00Min a0 a1) := Tr.tot_get (by kernel_rfl)
noncomputable def E_spec_l00Min : Ent Tryz.prog := .of2 Tb171 B171 (fun _ _ => true) F_spec_l00Min fun a0 a1 _ => (r_spec_l00Min a0 a1).trans (u_spec_l00Min a0 a1)
noncomputable def B172 : Bod Tryz.prog := ⟨172, Tryz.f172, Tryz.f172.body.getD .skip, Tryz.func172, by kernel_rfl, by kernel_rfl, Loops.no _ _⟩
noncomputable def Tb172 : Tb Tryz.prog := { T := [], mix := mix, Es := [], Bs := [], d := 1 }
noncomputable def t_spec_l00Max (a0 : I64) (a1 : I64) : Tr (I64) :=
  .br (decide (a0.val > a1.val)) (.leaf a0) (.leaf a1)
theorem r_spec_l00Max (a0 : I64) (a1 : I64) : Tb172.run B172 [enc a0, enc a1] (I64) = (t_spec_l00Max a0 a1).opt := by kernel_rfl
noncomputable def F_spec_l00Max : I64 → I64 → I64 := fun a0 a1 => (t_spec_l00Max a0 a1).get
theorem u_spec_l00Max (a0 : I64) (a1 : I64) : (t_spec_l00Max a0 a1).opt = some (F_spec_l00Max a0 a1) := Tr.tot_get (by kernel_rfl)
noncomputable def E_spec_l00Max : Ent Tryz.prog := .of2 Tb172 B172 (fun _ _ => true) F_spec_l00Max fun a0 a1 _ => (r_spec_l00Max a0 a1).trans (u_spec_l00Max a0 a1)
noncomputable def Y117 : TyE Tryz.prog := ⟨117, 1, (.slice 2 1), [.nils], false, by kernel_rfl, by kernel_rfl, by kernel_rfl, by kernel_rfl, by kernel_rfl, by kernel_rfl⟩
noncomputable def B66 : Bod Tryz.prog := ⟨66, Tryz.f66, Tryz.f66.body.getD .skip, Tryz.func66, by kernel_rfl, by kernel_rfl, Loops.no _ _⟩
noncomputable def Tb66 : Tb Tryz.prog := { T := [Y2, Y27, Y117], mix := mix, Es := [E_spec_l04Ok, E_spec_l04Whole, E_spec_l03MulDown, E_spec_l03MulUp, E_spec_l00Min, E_spec_l00Max, E_spec_l04Make], Bs := [], d := 1 }
noncomputable def t_spec_MulI (a0 : Iv) (a1 : Iv) : Tr (Iv) :=
  .br (!(F_spec_l04Ok a0)) (.leaf F_spec_l04Whole) (.br (!(F_spec_l04Ok a1)) (.leaf F_spec_l04Whole) (let c5 := F_spec_l03MulDown a0.lo a1.lo; let c6 := F_spec_l03MulUp a0.lo a1.lo; .br (!c5.b) (.leaf F_spec_l04Whole) (.br (!c6.b) (.leaf F_spec_l04Whole) (let c11 := F_spec_l03MulDown a0.lo a1.hi; let c12 := F_spec_l03MulUp a0.lo a1.hi; .br (!c11.b) (.leaf F_spec_l04Whole) (.br (!c12.b) (.leaf F_spec_l04Whole) (let c17 := F_spec_l03MulDown a0.hi a1.lo; let c18 := F_spec_l03MulUp a0.hi a1.lo; .br (!c17.b) (.leaf F_spec_l04Whole) (.br (!c18.b) (.leaf F_spec_l04Whole) (let c23 := F_spec_l03MulDown a0.hi a1.hi; let c24 := F_spec_l03MulUp a0.hi a1.hi; .br (!c23.b) (.leaf F_spec_l04Whole) (.br (!c24.b) (.leaf F_spec_l04Whole) (.leaf (F_spec_l04Make (F_spec_l00Min (F_spec_l00Min (F_spec_l00Min (F_spec_l00Min ⟨1152921504606846976, rfl⟩ c5.a) c11.a) c17.a) c23.a) (F_spec_l00Max (F_spec_l00Max (F_spec_l00Max (F_spec_l00Max ⟨(-1152921504606846976), rfl⟩ c6.a) c12.a) c18.a) c24.a))))))))))))
theorem r_spec_MulI (a0 : Iv) (a1 : Iv) : Tb66.run B66 [enc a0, enc a1] (Iv) = (t_spec_MulI a0 a1).opt := by kernel_rfl
noncomputable def F_spec_MulI : Iv → Iv → Iv := fun a0 a1 => (t_spec_MulI a0 a1).get
theorem u_spec_MulI (a0 : Iv) (a1 : Iv) : (t_spec_MulI a0 a1).opt = some (F_spec_MulI a0 a1) := Tr.tot_get (by kernel_rfl)
noncomputable def E_spec_MulI : Ent Tryz.prog := .of2 Tb66 B66 (fun _ _ => true) F_spec_MulI fun a0 a1 _ => (r_spec_MulI a0 a1).trans (u_spec_MulI a0 a1)
noncomputable def B193 : Bod Tryz.prog := ⟨193, Tryz.f193, Tryz.f193.body.getD .skip, Tryz.func193, by kernel_rfl, by kernel_rfl, Loops.no _ _⟩
noncomputable def Tb193 : Tb Tryz.prog := { T := [Y27], mix := mix, Es := [E_impl_ValidInterval], Bs := [], d := 1 }
noncomputable def t_impl_areBounded (a0 : Iv) (a1 : Iv) : Tr (Bool) :=
  .br (F_impl_ValidInterval a0) (.leaf (F_impl_ValidInterval a1)) (.leaf false)
theorem r_impl_areBounded (a0 : Iv) (a1 : Iv) : Tb193.run B193 [enc a0, enc a1] (Bool) = (t_impl_areBounded a0 a1).opt := by kernel_rfl
noncomputable def F_impl_areBounded : Iv → Iv → Bool := fun a0 a1 => (t_impl_areBounded a0 a1).get
theorem u_impl_areBounded (a0 : Iv) (a1 : Iv) : (t_impl_areBounded a0 a1).opt = some (F_impl_areBounded a0 a1) := Tr.tot_get (by kernel_rfl)
noncomputable def E_impl_areBounded : Ent Tryz.prog := .of2 Tb193 B193 (fun _ _ => true) F_impl_areBounded fun a0 a1 _ => (r_impl_areBounded a0 a1).trans (u_impl_areBounded a0 a1)
noncomputable def B309 : Bod Tryz.prog := ⟨309, Tryz.f309, Tryz.f309.body.getD .skip, Tryz.func309, by kernel_rfl, by kernel_rfl, Loops.no _ _⟩
noncomputable def Tb309 : Tb Tryz.prog := { T := [Y2, Y131, Y133], mix := mix, Es := [E_impl_within], Bs := [], d := 1 }
noncomputable def t_impl_WideShift (a0 : Wide) (a1 : I64) : Tr (Wide) :=
  .br (!(F_impl_within a1 ⟨0, rfl⟩ ⟨127, rfl⟩)) (.leaf ⟨⟨0, rfl⟩, ⟨0, rfl⟩⟩) (.br (decide (a1.val ≥ 64)) (let c3 := (Rng.w .i64 (a1.val - 64)); .br (decide (c3.val < 0)) (.bad) (.leaf ⟨(Rng.w .i64 (a0.hi.val.fdiv 9223372036854775808)), (Rng.w .u64 ((Rng.w .i64 (a0.hi.val.fdiv (2 ^ min (c3.val).toNat 64))).val))⟩)) (.br (decide (a1.val < 0)) (.bad) (.br (decide (a1.val < 0)) (.bad) (let c7 := (Rng.w .i64 (64 - a1.val)); .br (decide (c7.val < 0)) (.bad) (.leaf ⟨(Rng.w .i64 (a0.hi.val.fdiv (2 ^ min (a1.val).toNat 64))), (Rng.w .u64 (bitop .or .u64 (Rng.w .u64 (a0.lo.val.fdiv (2 ^ min (a1.val).toNat 64))).val (Rng.w .u64 ((Rng.w .u64 (a0.hi.val)).val * (2 ^ min (c7.val).toNat 64))).val))⟩)))))
theorem r_impl_WideShift (a0 : Wide) (a1 : I64) : Tb309.run B309 [enc a0, enc a1] (Wide) = (t_impl_WideShift a0 a1).opt := by kernel_rfl
noncomputable def F_impl_WideShift : Wide → I64 → Wide := fun a0 a1 => (t_impl_WideShift a0 a1).get
noncomputable def G_impl_WideShift : Wide → I64 → Bool := fun a0 a1 => (t_impl_WideShift a0 a1).opt.isSome
noncomputable def E_impl_WideShift : Ent Tryz.prog := .of2 Tb309 B309 G_impl_WideShift F_impl_WideShift fun a0 a1 h => (r_impl_WideShift a0 a1).trans (Tr.get_some h)
noncomputable def B240 : Bod Tryz.prog := ⟨240, Tryz.f240, Tryz.f240.body.getD .skip, Tryz.func240, by kernel_rfl, by kernel_rfl, Loops.no _ _⟩
noncomputable def Tb240 : Tb Tryz.prog := { T := [], mix := mix, Es := [E_impl_within, E_impl_WideMul, E_impl_WideInt, E_impl_WideShift], Bs := [], d := 1 }
noncomputable def t_impl_MulFloor (a0 : I64) (a1 : I64) (a2 : I64) : Tr (T2 I64 Bool) :=
  .br (!(F_impl_within a2 ⟨0, rfl⟩ ⟨126, rfl⟩)) (.leaf ⟨⟨0, rfl⟩, false⟩) (let c2 := F_impl_WideMul a0 a1; .br (G_impl_WideShift c2 a2) (let c4 := F_impl_WideInt (F_impl_WideShift c2 a2); .leaf ⟨c4.a, c4.b⟩) (.bad))
theorem r_impl_MulFloor (a0 : I64) (a1 : I64) (a2 : I64) : Tb240.run B240 [enc a0, enc a1, enc a2] (T2 I64 Bool) = (t_impl_MulFloor a0 a1 a2).opt := by kernel_rfl
noncomputable def F_impl_MulFloor : I64 → I64 → I64 → T2 I64 Bool := fun a0 a1 a2 => (t_impl_MulFloor a0 a1 a2).get
noncomputable def G_impl_MulFloor : I64 → I64 → I64 → Bool := fun a0 a1 a2 => (t_impl_MulFloor a0 a1 a2).opt.isSome
noncomputable def E_impl_MulFloor : Ent Tryz.prog := .of3 Tb240 B240 G_impl_MulFloor F_impl_MulFloor fun a0 a1 a2 h => (r_impl_MulFloor a0 a1 a2).trans (Tr.get_some h)
noncomputable def B195 : Bod Tryz.prog := ⟨195, Tryz.f195, Tryz.f195.body.getD .skip, Tryz.func195, by kernel_rfl, by kernel_rfl, Loops.no _ _⟩
noncomputable def Tb195 : Tb Tryz.prog := { T := [], mix := mix, Es := [E_impl_MulFloor, E_impl_ValidFix, E_impl_fixed], Bs := [], d := 1 }
noncomputable def t_impl_MulDown (a0 : I64) (a1 : I64) : Tr (T2 I64 Bool) :=
  .br (!(F_impl_ValidFix a0)) (.leaf ⟨⟨0, rfl⟩, false⟩) (.br (!(F_impl_ValidFix a1)) (.leaf ⟨⟨0, rfl⟩, false⟩) (.br (G_impl_MulFloor a0 a1 ⟨32, rfl⟩) (let c3 := F_impl_MulFloor a0 a1 ⟨32, rfl⟩; let c4 := F_impl_fixed c3.a c3.b; .leaf ⟨c4.a, c4.b⟩) (.bad)))
theorem r_impl_MulDown (a0 : I64) (a1 : I64) : Tb195.run B195 [enc a0, enc a1] (T2 I64 Bool) = (t_impl_MulDown a0 a1).opt := by kernel_rfl
noncomputable def F_impl_MulDown : I64 → I64 → T2 I64 Bool := fun a0 a1 => (t_impl_MulDown a0 a1).get
noncomputable def G_impl_MulDown : I64 → I64 → Bool := fun a0 a1 => (t_impl_MulDown a0 a1).opt.isSome
noncomputable def E_impl_MulDown : Ent Tryz.prog := .of2 Tb195 B195 G_impl_MulDown F_impl_MulDown fun a0 a1 h => (r_impl_MulDown a0 a1).trans (Tr.get_some h)
noncomputable def B196 : Bod Tryz.prog := ⟨196, Tryz.f196, Tryz.f196.body.getD .skip, Tryz.func196, by kernel_rfl, by kernel_rfl, Loops.no _ _⟩
noncomputable def Tb196 : Tb Tryz.prog := { T := [], mix := mix, Es := [E_impl_MulDown, E_impl_ValidFix], Bs := [], d := 1 }
noncomputable def t_impl_MulUp (a0 : I64) (a1 : I64) : Tr (T2 I64 Bool) :=
  .br (!(F_impl_ValidFix a0)) (.leaf ⟨⟨0, rfl⟩, false⟩) (.br (!(F_impl_ValidFix a1)) (.leaf ⟨⟨0, rfl⟩, false⟩) (let c3 := (Rng.w .i64 (0 - a0.val)); .br (G_impl_MulDown c3 a1) (let c4 := F_impl_MulDown c3 a1; .leaf ⟨(Rng.w .i64 (0 - c4.a.val)), c4.b⟩) (.bad)))
theorem r_impl_MulUp (a0 : I64) (a1 : I64) : Tb196.run B196 [enc a0, enc a1] (T2 I64 Bool) = (t_impl_MulUp a0 a1).opt := by kernel_rfl
noncomputable def F_impl_MulUp : I64 → I64 → T2 I64 Bool := fun a0 a1 => (t_impl_MulUp a0 a1).get
noncomputable def G_impl_MulUp : I64 → I64 → Bool := fun a0 a1 => (t_impl_MulUp a0 a1).opt.isSome
noncomputable def E_impl_MulUp : Ent Tryz.prog := .of2 Tb196 B196 G_impl_MulUp F_impl_MulUp fun a0 a1 h => (r_impl_MulUp a0 a1).trans (Tr.get_some h)
noncomputable def Y141 : TyE Tryz.prog := ⟨141, 2, (.array 2 2 1), [.i64 ⟨0, rfl⟩, .i64 ⟨0, rfl⟩], false, by kernel_rfl, by kernel_rfl, by kernel_rfl, by kernel_rfl, by kernel_rfl, by kernel_rfl⟩
noncomputable def B194 : Bod Tryz.prog := ⟨194, Tryz.f194, Tryz.f194.body.getD .skip, Tryz.func194, by kernel_rfl, by kernel_rfl, Loops.no _ _⟩
noncomputable def B80 : Bod Tryz.prog := ⟨80, Tryz.f80, Tryz.f80.body.getD .skip, Tryz.func80, by kernel_rfl, by kernel_rfl, Loops.no _ _⟩
noncomputable def Tb80 : Tb Tryz.prog := { T := [Y2, Y27, Y141], mix := mix, Es := [E_impl_Whole, E_impl_areBounded, E_impl_MulDown, E_impl_MulUp, E_impl_bounded], Bs := [B194], d := 8 }
noncomputable def t_impl_MulI (a0 : Iv) (a1 : Iv) : Tr (Iv) :=
  .br (!(F_impl_areBounded a0 a1)) (.leaf F_impl_Whole) (.br (G_impl_MulDown a0.lo a1.lo) (let c3 := F_impl_MulDown a0.lo a1.lo; .br (G_impl_MulUp a0.lo a1.lo) (let c4 := F_impl_MulUp a0.lo a1.lo; .br (!c3.b) (.leaf F_impl_Whole) (.br (!c4.b) (.leaf F_impl_Whole) (.br (G_impl_MulDown a0.lo a1.hi) (let c7 := F_impl_MulDown a0.lo a1.hi; .br (G_impl_MulUp a0.lo a1.hi) (let c8 := F_impl_MulUp a0.lo a1.hi; .br (!c7.b) (.leaf F_impl_Whole) (.br (!c8.b) (.leaf F_impl_Whole) (.br (G_impl_MulDown a0.hi a1.lo) (let c11 := F_impl_MulDown a0.hi a1.lo; .br (G_impl_MulUp a0.hi a1.lo) (let c12 := F_impl_MulUp a0.hi a1.lo; .br (!c11.b) (.leaf F_impl_Whole) (.br (!c12.b) (.leaf F_impl_Whole) (.br (G_impl_MulDown a0.hi a1.hi) (let c17 := F_impl_MulDown a0.hi a1.hi; .br (G_impl_MulUp a0.hi a1.hi) (let c18 := F_impl_MulUp a0.hi a1.hi; .br (!c17.b) (.leaf F_impl_Whole) (.br (!c18.b) (.leaf F_impl_Whole) (.leaf (F_impl_bounded (mn (mn (mn (mn c3.a c3.a) c7.a) c11.a) c17.a) (mx (mx (mx (mx c4.a c4.a) c8.a) c12.a) c18.a) true)))) (.bad)) (.bad)))) (.bad)) (.bad)))) (.bad)) (.bad)))) (.bad)) (.bad))
theorem r_impl_MulI (a0 : Iv) (a1 : Iv) : Tb80.run B80 [enc a0, enc a1] (Iv) = (t_impl_MulI a0 a1).opt := by kernel_rfl
noncomputable def F_impl_MulI : Iv → Iv → Iv := fun a0 a1 => (t_impl_MulI a0 a1).get
noncomputable def G_impl_MulI : Iv → Iv → Bool := fun a0 a1 => (t_impl_MulI a0 a1).opt.isSome
noncomputable def E_impl_MulI : Ent Tryz.prog := .of2 Tb80 B80 G_impl_MulI F_impl_MulI fun a0 a1 h => (r_impl_MulI a0 a1).trans (Tr.get_some h)
noncomputable def B181 : Bod Tryz.prog := ⟨181, Tryz.f181, Tryz.f181.body.getD .skip, Tryz.func181, by kernel_rfl, by kernel_rfl, Loops.no _ _⟩
noncomputable def Tb181 : Tb Tryz.prog := { T := [Y2, Y27], mix := mix, Es := [E_spec_l00In], Bs := [], d := 1 }
noncomputable def t_spec_l04Has (a0 : Iv) (a1 : I64) : Tr (Bool) :=
  .leaf (F_spec_l00In a1 a0.lo a0.hi)
theorem r_spec_l04Has (a0 : Iv) (a1 : I64) : Tb181.run B181 [enc a0, enc a1] (Bool) = (t_spec_l04Has a0 a1).opt := by kernel_rfl
noncomputable def F_spec_l04Has : Iv → I64 → Bool := fun a0 a1 => (t_spec_l04Has a0 a1).get
theorem u_spec_l04Has (a0 : Iv) (a1 : I64) : (t_spec_l04Has a0 a1).opt = some (F_spec_l04Has a0 a1) := Tr.tot_get (by kernel_rfl)
noncomputable def E_spec_l04Has : Ent Tryz.prog := .of2 Tb181 B181 (fun _ _ => true) F_spec_l04Has fun a0 a1 _ => (r_spec_l04Has a0 a1).trans (u_spec_l04Has a0 a1)
noncomputable def B182 : Bod Tryz.prog := ⟨182, Tryz.f182, Tryz.f182.body.getD .skip, Tryz.func182, by kernel_rfl, by kernel_rfl, Loops.no _ _⟩
noncomputable def Tb182 : Tb Tryz.prog := { T := [], mix := mix, Es := [ET_spec_MulDivFloor, E_spec_l03Ok, E_spec_l03End], Bs := [], d := 1 }
noncomputable def t_spec_l03DivDown (a0 : I64) (a1 : I64) : Tr (T2 I64 Bool) :=
  .br (!(F_spec_l03Ok a0)) (.leaf ⟨⟨0, rfl⟩, false⟩) (.br (!(F_spec_l03Ok a1)) (.leaf ⟨⟨0, rfl⟩, false⟩) (.br (a1.val == 0) (.leaf ⟨⟨0, rfl⟩, false⟩) (.br (decide (a1.val < 0)) (let c5 := F_spec_MulDivFloor (Rng.w .i64 (0 - a0.val)) ⟨4294967296, rfl⟩ (Rng.w .i64 (0 - a1.val)); let c6 := F_spec_l03End c5.a c5.b; .leaf ⟨c6.a, c6.b⟩) (let c7 := F_spec_MulDivFloor a0 ⟨4294967296, rfl⟩ a1; let c8 := F_spec_l03End c7.a c7.b; .leaf ⟨c8.a, c8.b⟩))))
theorem r_spec_l03DivDown (a0 : I64) (a1 : I64) : Tb182.run B182 [enc a0, enc a1] (T2 I64 Bool) = (t_spec_l03DivDown a0 a1).opt := by kernel_rfl
noncomputable def F_spec_l03DivDown : I64 → I64 → T2 I64 Bool := fun a0 a1 => (t_spec_l03DivDown a0 a1).get
theorem u_spec_l03DivDown (a0 : I64) (a1 : I64) : (t_spec_l03DivDown a0 a1).opt = some (F_spec_l03DivDown a0 a1) := Tr.tot_get (by kernel_rfl)
noncomputable def E_spec_l03DivDown : Ent Tryz.prog := .of2 Tb182 B182 (fun _ _ => true) F_spec_l03DivDown fun a0 a1 _ => (r_spec_l03DivDown a0 a1).trans (u_spec_l03DivDown a0 a1)
noncomputable def B183 : Bod Tryz.prog := ⟨183, Tryz.f183, Tryz.f183.body.getD .skip, Tryz.func183, by kernel_rfl, by kernel_rfl, Loops.no _ _⟩
noncomputable def Tb183 : Tb Tryz.prog := { T := [], mix := mix, Es := [E_spec_l03DivDown, E_spec_l03Ok], Bs := [], d := 1 }
noncomputable def t_spec_l03DivUp (a0 : I64) (a1 : I64) : Tr (T2 I64 Bool) :=
  .br (!(F_spec_l03Ok a0)) (.leaf ⟨⟨0, rfl⟩, false⟩) (let c3 := F_spec_l03DivDown (Rng.w .i64 (0 - a0.val)) a1; .leaf ⟨(Rng.w .i64 (0 - c3.a.val)), c3.b⟩)
theorem r_spec_l03DivUp (a0 : I64) (a1 : I64) : Tb183.run B183 [enc a0, enc a1] (T2 I64 Bool) = (t_spec_l03DivUp a0 a1).opt := by kernel_rfl
noncomputable def F_spec_l03DivUp : I64 → I64 → T2 I64 Bool := fun a0 a1 => (t_spec_l03DivUp a0 a1).get
theorem u_spec_l03DivUp (a0 : I64) (a1 : I64) : (t_spec_l03DivUp a0 a1).opt = some (F_spec_l03DivUp a0 a1) := Tr.tot_get (by kernel_rfl)
noncomputable def E_spec_l03DivUp : Ent Tryz.prog := .of2 Tb183 B183 (fun _ _ => true) F_spec_l03DivUp fun a0 a1 _ => (r_spec_l03DivUp a0 a1).trans (u_spec_l03DivUp a0 a1)
noncomputable def B69 : Bod Tryz.prog := ⟨69, Tryz.f69, Tryz.f69.body.getD .skip, Tryz.func69, by kernel_rfl, by kernel_rfl, Loops.no _ _⟩
noncomputable def Tb69 : Tb Tryz.prog := { T := [Y2, Y27, Y117], mix := mix, Es := [E_spec_l04Ok, E_spec_l04Whole, E_spec_l00Min, E_spec_l00Max, E_spec_l04Make, E_spec_l04Has, E_spec_l03DivDown, E_spec_l03DivUp], Bs := [], d := 1 }
noncomputable def t_spec_DivI (a0 : Iv) (a1 : Iv) : Tr (Iv) :=
  .br (!(F_spec_l04Ok a0)) (.leaf F_spec_l04Whole) (.br (!(F_spec_l04Ok a1)) (.leaf F_spec_l04Whole) (.br (F_spec_l04Has a1 ⟨0, rfl⟩) (.leaf F_spec_l04Whole) (let c7 := F_spec_l03DivDown a0.lo a1.lo; let c8 := F_spec_l03DivUp a0.lo a1.lo; .br (!c7.b) (.leaf F_spec_l04Whole) (.br (!c8.b) (.leaf F_spec_l04Whole) (let c13 := F_spec_l03DivDown a0.lo a1.hi; let c14 := F_spec_l03DivUp a0.lo a1.hi; .br (!c13.b) (.leaf F_spec_l04Whole) (.br (!c14.b) (.leaf F_spec_l04Whole) (let c19 := F_spec_l03DivDown a0.hi a1.lo; let c20 := F_spec_l03DivUp a0.hi a1.lo; .br (!c19.b) (.leaf F_spec_l04Whole) (.br (!c20.b) (.leaf F_spec_l04Whole) (let c25 := F_spec_l03DivDown a0.hi a1.hi; let c26 := F_spec_l03DivUp a0.hi a1.hi; .br (!c25.b) (.leaf F_spec_l04Whole) (.br (!c26.b) (.leaf F_spec_l04Whole) (.leaf (F_spec_l04Make (F_spec_l00Min (F_spec_l00Min (F_spec_l00Min (F_spec_l00Min ⟨1152921504606846976, rfl⟩ c7.a) c13.a) c19.a) c25.a) (F_spec_l00Max (F_spec_l00Max (F_spec_l00Max (F_spec_l00Max ⟨(-1152921504606846976), rfl⟩ c8.a) c14.a) c20.a) c26.a)))))))))))))
theorem r_spec_DivI (a0 : Iv) (a1 : Iv) : Tb69.run B69 [enc a0, enc a1] (Iv) = (t_spec_DivI a0 a1).opt := by kernel_rfl
noncomputable def F_spec_DivI : Iv → Iv → Iv := fun a0 a1 => (t_spec_DivI a0 a1).get
theorem u_spec_DivI (a0 : Iv) (a1 : Iv) : (t_spec_DivI a0 a1).opt = some (F_spec_DivI a0 a1) := Tr.tot_get (by kernel_rfl)
noncomputable def E_spec_DivI : Ent Tryz.prog := .of2 Tb69 B69 (fun _ _ => true) F_spec_DivI fun a0 a1 _ => (r_spec_DivI a0 a1).trans (u_spec_DivI a0 a1)
noncomputable def B197 : Bod Tryz.prog := ⟨197, Tryz.f197, Tryz.f197.body.getD .skip, Tryz.func197, by kernel_rfl, by kernel_rfl, Loops.no _ _⟩
noncomputable def Tb197 : Tb Tryz.prog := { T := [Y2, Y27], mix := mix, Es := [E_impl_within, E_impl_IsWhole], Bs := [], d := 1 }
noncomputable def t_impl_HasI (a0 : Iv) (a1 : I64) : Tr (Bool) :=
  .br (F_impl_IsWhole a0) (.leaf true) (.leaf (F_impl_within a1 a0.lo a0.hi))
theorem r_impl_HasI (a0 : Iv) (a1 : I64) : Tb197.run B197 [enc a0, enc a1] (Bool) = (t_impl_HasI a0 a1).opt := by kernel_rfl
noncomputable def F_impl_HasI : Iv → I64 → Bool := fun a0 a1 => (t_impl_HasI a0 a1).get
theorem u_impl_HasI (a0 : Iv) (a1 : I64) : (t_impl_HasI a0 a1).opt = some (F_impl_HasI a0 a1) := Tr.tot_get (by kernel_rfl)
noncomputable def E_impl_HasI : Ent Tryz.prog := .of2 Tb197 B197 (fun _ _ => true) F_impl_HasI fun a0 a1 _ => (r_impl_HasI a0 a1).trans (u_impl_HasI a0 a1)
noncomputable def B198 : Bod Tryz.prog := ⟨198, Tryz.f198, Tryz.f198.body.getD .skip, Tryz.func198, by kernel_rfl, by kernel_rfl, Loops.no _ _⟩
noncomputable def Tb198 : Tb Tryz.prog := { T := [], mix := mix, Es := [ET_impl_MulDivFloor, E_impl_ValidFix, E_impl_fixed], Bs := [], d := 1 }
noncomputable def t_impl_DivDown (a0 : I64) (a1 : I64) : Tr (T2 I64 Bool) :=
  .br (!(F_impl_ValidFix a0)) (.leaf ⟨⟨0, rfl⟩, false⟩) (.br (!(F_impl_ValidFix a1)) (.leaf ⟨⟨0, rfl⟩, false⟩) (.br (decide (a1.val < 0)) (let c5 := F_impl_MulDivFloor (Rng.w .i64 (0 - a0.val)) ⟨4294967296, rfl⟩ (Rng.w .i64 (0 - a1.val)); let c6 := F_impl_fixed c5.a c5.b; .leaf ⟨c6.a, c6.b⟩) (let c7 := F_impl_MulDivFloor a0 ⟨4294967296, rfl⟩ a1; let c8 := F_impl_fixed c7.a c7.b; .leaf ⟨c8.a, c8.b⟩)))
theorem r_impl_DivDown (a0 : I64) (a1 : I64) : Tb198.run B198 [enc a0, enc a1] (T2 I64 Bool) = (t_impl_DivDown a0 a1).opt := by kernel_rfl
noncomputable def F_impl_DivDown : I64 → I64 → T2 I64 Bool := fun a0 a1 => (t_impl_DivDown a0 a1).get
theorem u_impl_DivDown (a0 : I64) (a1 : I64) : (t_impl_DivDown a0 a1).opt = some (F_impl_DivDown a0 a1) := Tr.tot_get (by kernel_rfl)
noncomputable def E_impl_DivDown : Ent Tryz.prog := .of2 Tb198 B198 (fun _ _ => true) F_impl_DivDown fun a0 a1 _ => (r_impl_DivDown a0 a1).trans (u_impl_DivDown a0 a1)
noncomputable def B199 : Bod Tryz.prog := ⟨199, Tryz.f199, Tryz.f199.body.getD .skip, Tryz.func199, by kernel_rfl, by kernel_rfl, Loops.no _ _⟩
noncomputable def Tb199 : Tb Tryz.prog := { T := [], mix := mix, Es := [E_impl_DivDown, E_impl_ValidFix], Bs := [], d := 1 }
noncomputable def t_impl_DivUp (a0 : I64) (a1 : I64) : Tr (T2 I64 Bool) :=
  .br (!(F_impl_ValidFix a0)) (.leaf ⟨⟨0, rfl⟩, false⟩) (.br (!(F_impl_ValidFix a1)) (.leaf ⟨⟨0, rfl⟩, false⟩) (let c4 := F_impl_DivDown (Rng.w .i64 (0 - a0.val)) a1; .leaf ⟨(Rng.w .i64 (0 - c4.a.val)), c4.b⟩))
theorem r_impl_DivUp (a0 : I64) (a1 : I64) : Tb199.run B199 [enc a0, enc a1] (T2 I64 Bool) = (t_impl_DivUp a0 a1).opt := by kernel_rfl
noncomputable def F_impl_DivUp : I64 → I64 → T2 I64 Bool := fun a0 a1 => (t_impl_DivUp a0 a1).get
theorem u_impl_DivUp (a0 : I64) (a1 : I64) : (t_impl_DivUp a0 a1).opt = some (F_impl_DivUp a0 a1) := Tr.tot_get (by kernel_rfl)
noncomputable def E_impl_DivUp : Ent Tryz.prog := .of2 Tb199 B199 (fun _ _ => true) F_impl_DivUp fun a0 a1 _ => (r_impl_DivUp a0 a1).trans (u_impl_DivUp a0 a1)
noncomputable def B81 : Bod Tryz.prog := ⟨81, Tryz.f81, Tryz.f81.body.getD .skip, Tryz.func81, by kernel_rfl, by kernel_rfl, Loops.no _ _⟩
noncomputable def Tb81 : Tb Tryz.prog := { T := [Y2, Y27, Y141], mix := mix, Es := [E_impl_Whole, E_impl_areBounded, E_impl_HasI, E_impl_DivDown, E_impl_DivUp, E_impl_bounded], Bs := [B194], d := 8 }
noncomputable def t_impl_DivI (a0 : Iv) (a1 : Iv) : Tr (Iv) :=
  .br (!(F_impl_areBounded a0 a1)) (.leaf F_impl_Whole) (.br (F_impl_HasI a1 ⟨0, rfl⟩) (.leaf F_impl_Whole) (let c5 := F_impl_DivDown a0.lo a1.lo; let c6 := F_impl_DivUp a0.lo a1.lo; .br (!c5.b) (.leaf F_impl_Whole) (.br (!c6.b) (.leaf F_impl_Whole) (let c9 := F_impl_DivDown a0.lo a1.hi; let c10 := F_impl_DivUp a0.lo a1.hi; .br (!c9.b) (.leaf F_impl_Whole) (.br (!c10.b) (.leaf F_impl_Whole) (let c14 := F_impl_DivDown a0.hi a1.lo; let c15 := F_impl_DivUp a0.hi a1.lo; .br (!c14.b) (.leaf F_impl_Whole) (.br (!c15.b) (.leaf F_impl_Whole) (let c19 := F_impl_DivDown a0.hi a1.hi; let c20 := F_impl_DivUp a0.hi a1.hi; .br (!c19.b) (.leaf F_impl_Whole) (.br (!c20.b) (.leaf F_impl_Whole) (.leaf (F_impl_bounded (mn (mn (mn (mn c5.a c5.a) c9.a) c14.a) c19.a) (mx (mx (mx (mx c6.a c6.a) c10.a) c15.a) c20.a) true)))))))))))
theorem r_impl_DivI (a0 : Iv) (a1 : Iv) : Tb81.run B81 [enc a0, enc a1] (Iv) = (t_impl_DivI a0 a1).opt := by kernel_rfl
noncomputable def F_impl_DivI : Iv → Iv → Iv := fun a0 a1 => (t_impl_DivI a0 a1).get
theorem u_impl_DivI (a0 : Iv) (a1 : Iv) : (t_impl_DivI a0 a1).opt = some (F_impl_DivI a0 a1) := Tr.tot_get (by kernel_rfl)
noncomputable def E_impl_DivI : Ent Tryz.prog := .of2 Tb81 B81 (fun _ _ => true) F_impl_DivI fun a0 a1 _ => (r_impl_DivI a0 a1).trans (u_impl_DivI a0 a1)
noncomputable def B311 : Bod Tryz.prog := ⟨311, Tryz.f311, Tryz.f311.body.getD .skip, Tryz.func311, by kernel_rfl, by kernel_rfl, Loops.no _ _⟩
noncomputable def Tb311 : Tb Tryz.prog := { T := [Y2, Y27], mix := mix, Es := [E_spec_l00Min, E_spec_l00Max, E_spec_l04Has], Bs := [], d := 1 }
noncomputable def t_spec_l04Ends (a0 : Iv) : Tr (T2 I64 I64) :=
  let c2 := F_spec_l00Max a0.lo (Rng.w .i64 (0 - a0.lo.val)); let c4 := F_spec_l00Max a0.hi (Rng.w .i64 (0 - a0.hi.val)); .br (F_spec_l04Has a0 ⟨0, rfl⟩) (.leaf ⟨⟨0, rfl⟩, (F_spec_l00Max c2 c4)⟩) (.leaf ⟨(F_spec_l00Min c2 c4), (F_spec_l00Max c2 c4)⟩)
theorem r_spec_l04Ends (a0 : Iv) : Tb311.run B311 [enc a0] (T2 I64 I64) = (t_spec_l04Ends a0).opt := by kernel_rfl
noncomputable def F_spec_l04Ends : Iv → T2 I64 I64 := fun a0 => (t_spec_l04Ends a0).get
theorem u_spec_l04Ends (a0 : Iv) : (t_spec_l04Ends a0).opt = some (F_spec_l04Ends a0) := Tr.tot_get (by kernel_rfl)
noncomputable def E_spec_l04Ends : Ent Tryz.prog := .of1 Tb311 B311 (fun _ => true) F_spec_l04Ends fun a0 _ => (r_spec_l04Ends a0).trans (u_spec_l04Ends a0)
noncomputable def B248 : Bod Tryz.prog := ⟨248, Tryz.f248, Tryz.f248.body.getD .skip, Tryz.func248, by kernel_rfl, by kernel_rfl, Loops.no _ _⟩
noncomputable def Tb248 : Tb Tryz.prog := { T := [Y2, Y27], mix := mix, Es := [E_spec_l04Ok, E_spec_l04Whole, E_spec_l03MulDown, E_spec_l03MulUp, E_spec_l04Make, E_spec_l04Ends], Bs := [], d := 1 }
noncomputable def t_spec_SqrI (a0 : Iv) : Tr (Iv) :=
  .br (!(F_spec_l04Ok a0)) (.leaf F_spec_l04Whole) (let c3 := F_spec_l04Ends a0; let c4 := F_spec_l03MulDown c3.a c3.a; let c5 := F_spec_l03MulUp c3.b c3.b; .br (!c4.b) (.leaf F_spec_l04Whole) (.br (!c5.b) (.leaf F_spec_l04Whole) (.leaf (F_spec_l04Make c4.a c5.a))))
theorem r_spec_SqrI (a0 : Iv) : Tb248.run B248 [enc a0] (Iv) = (t_spec_SqrI a0).opt := by kernel_rfl
noncomputable def F_spec_SqrI : Iv → Iv := fun a0 => (t_spec_SqrI a0).get
theorem u_spec_SqrI (a0 : Iv) : (t_spec_SqrI a0).opt = some (F_spec_SqrI a0) := Tr.tot_get (by kernel_rfl)
noncomputable def E_spec_SqrI : Ent Tryz.prog := .of1 Tb248 B248 (fun _ => true) F_spec_SqrI fun a0 _ => (r_spec_SqrI a0).trans (u_spec_SqrI a0)
noncomputable def B247 : Bod Tryz.prog := ⟨247, Tryz.f247, Tryz.f247.body.getD .skip, Tryz.func247, by kernel_rfl, by kernel_rfl, Loops.no _ _⟩
noncomputable def Tb247 : Tb Tryz.prog := { T := [Y2, Y27], mix := mix, Es := [E_impl_Whole, E_impl_IsWhole, E_impl_abs, E_impl_HasI], Bs := [], d := 1 }
noncomputable def t_impl_AbsI (a0 : Iv) : Tr (Iv) :=
  .br (F_impl_IsWhole a0) (.leaf F_impl_Whole) (let c5 := F_impl_abs a0.lo; let c6 := F_impl_abs a0.hi; .br (F_impl_HasI a0 ⟨0, rfl⟩) (.leaf ⟨⟨0, rfl⟩, (mx c5 c6)⟩) (.leaf ⟨(mn (F_impl_abs a0.lo) (F_impl_abs a0.hi)), (mx c5 c6)⟩))
theorem r_impl_AbsI (a0 : Iv) : Tb247.run B247 [enc a0] (Iv) = (t_impl_AbsI a0).opt := by kernel_rfl
noncomputable def F_impl_AbsI : Iv → Iv := fun a0 => (t_impl_AbsI a0).get
theorem u_impl_AbsI (a0 : Iv) : (t_impl_AbsI a0).opt = some (F_impl_AbsI a0) := Tr.tot_get (by kernel_rfl)
noncomputable def E_impl_AbsI : Ent Tryz.prog := .of1 Tb247 B247 (fun _ => true) F_impl_AbsI fun a0 _ => (r_impl_AbsI a0).trans (u_impl_AbsI a0)
noncomputable def B207 : Bod Tryz.prog := ⟨207, Tryz.f207, Tryz.f207.body.getD .skip, Tryz.func207, by kernel_rfl, by kernel_rfl, Loops.no _ _⟩
noncomputable def Tb207 : Tb Tryz.prog := { T := [Y2, Y27], mix := mix, Es := [E_impl_Whole, E_impl_IsWhole, E_impl_MulDown, E_impl_MulUp, E_impl_bounded, E_impl_AbsI], Bs := [], d := 1 }
noncomputable def t_impl_SqrI (a0 : Iv) : Tr (Iv) :=
  .br (F_impl_IsWhole a0) (.leaf F_impl_Whole) (let c3 := F_impl_AbsI a0; .br (G_impl_MulDown c3.lo c3.lo) (let c4 := F_impl_MulDown c3.lo c3.lo; .br (G_impl_MulUp c3.hi c3.hi) (let c5 := F_impl_MulUp c3.hi c3.hi; .br c4.b (.leaf (F_impl_bounded c4.a c5.a c5.b)) (.leaf (F_impl_bounded c4.a c5.a false))) (.bad)) (.bad))
theorem r_impl_SqrI (a0 : Iv) : Tb207.run B207 [enc a0] (Iv) = (t_impl_SqrI a0).opt := by kernel_rfl
noncomputable def F_impl_SqrI : Iv → Iv := fun a0 => (t_impl_SqrI a0).get
noncomputable def G_impl_SqrI : Iv → Bool := fun a0 => (t_impl_SqrI a0).opt.isSome
noncomputable def E_impl_SqrI : Ent Tryz.prog := .of1 Tb207 B207 G_impl_SqrI F_impl_SqrI fun a0 h => (r_impl_SqrI a0).trans (Tr.get_some h)
structure S_spec_l02Root_3 where
  x0 : U64
  x1 : I64
  x2 : I64
  x3 : U64
instance : Inhabited S_spec_l02Root_3 := ⟨⟨default, default, default, default⟩⟩
noncomputable def st_spec_l02Root_3 (x : S_spec_l02Root_3) : St := ⟨[(1, .ptr 0 0), (3, .u64 x.x0), (4, .i64 x.x1)], 43, ⟨[(0, [.i64 x.x2, .u64 x.x3])], 1, 0⟩⟩
noncomputable def rd_spec_l02Root_3 : St → Option S_spec_l02Root_3 := fun s => match s with
  | ⟨[(1, .ptr 0 0), (3, .u64 x0), (4, .i64 x1)], 43, ⟨[(0, [.i64 x2, .u64 x3])], 1, 0⟩⟩ => some ⟨x0, x1, x2, x3⟩
  | _ => none
noncomputable def b_spec_l02Root_3 (x : S_spec_l02Root_3) : Tr (Lp S_spec_l02Root_3) :=
  .br (decide (x.x1.val ≥ 0)) (let c2 := (Rng.w .u64 (bitop .or .u64 x.x0.val (Rng.w .u64 (1 * (2 ^ min ((Rng.w .u64 (x.x1.val)).val).toNat 64))).val)); let c3 := F_spec_l02Times c2 c2; .br (decide (c3.a.val < (Rng.w .u64 (x.x2.val)).val)) (.leaf (.again ⟨c2, (Rng.w .i64 (x.x1.val - 1)), x.x2, x.x3⟩)) (.br (c3.a.val == (Rng.w .u64 (x.x2.val)).val) (.br (decide (c3.b.val ≤ x.x3.val)) (.leaf (.again ⟨c2, (Rng.w .i64 (x.x1.val - 1)), x.x2, x.x3⟩)) (.leaf (.again ⟨x.x0, (Rng.w .i64 (x.x1.val - 1)), x.x2, x.x3⟩))) (.leaf (.again ⟨x.x0, (Rng.w .i64 (x.x1.val - 1)), x.x2, x.x3⟩)))) (.leaf (.out ⟨x.x0, x.x1, x.x2, x.x3⟩))
noncomputable def G_spec_l02Root_3 (x : S_spec_l02Root_3) : Bool := (Lf b_spec_l02Root_3 66 x).opt.isSome
noncomputable def L_spec_l02Root_3 (x : S_spec_l02Root_3) : S_spec_l02Root_3 := (Lf b_spec_l02Root_3 66 x).get
noncomputable def TbL_spec_l02Root_3 : Tb Tryz.prog := { T := [Y2, Y3, Y128, Y131, Y133], mix := mix, Es := [E_spec_l02Times], Bs := [], d := 1 }
noncomputable def P_spec_l02Root_3 : LpF := loopF [1, 3, 4] [0] 1 rd_spec_l02Root_3 st_spec_l02Root_3 (.exit 0) G_spec_l02Root_3 L_spec_l02Root_3
theorem lok_spec_l02Root_3 : LoopOk Tryz.prog (loopAt (Tryz.f351.body.getD .skip) 0) P_spec_l02Root_3 := loopF_ok (t := TbL_spec_l02Root_3) (lt := fun _ => none) (body := b_spec_l02Root_3) (n := 66) (by intro h; cases h) (fun _ _ _ h => by cases h)
  (by intro s x h; unfold rd_spec_l02Root_3 at h; split at h <;> cases h; rfl) (fun x b cs h => lk_lt (l := (st_spec_l02Root_3 x).mm.blks) (by kernel_rfl) h) (by intro x; kernel_rfl) (fun x h => Tr.get_some h)
noncomputable def B351 : Bod Tryz.prog := ⟨351, Tryz.f351, Tryz.f351.body.getD .skip, Tryz.func351, by kernel_rfl, by kernel_rfl, ⟨ltOf [(3, P_spec_l02Root_3)], Loops.of (ks := [3]) (by kernel_rfl) (by
  intro i k h f hf
  match i, h with
  | 0, h => cases h; obtain rfl : P_spec_l02Root_3 = f := Option.some.inj hf; exact lok_spec_l02Root_3
  | n + 1, h => simp at h)⟩⟩
noncomputable def Tb351 : Tb Tryz.prog := { T := [Y2, Y3, Y128, Y131, Y133], mix := mix, Es := [], Bs := [], d := 1 }
noncomputable def t_spec_l02Root (a0 : Wide) : Tr (U64) :=
  .br (G_spec_l02Root_3 ⟨⟨0, rfl⟩, ⟨63, rfl⟩, a0.hi, a0.lo⟩) (.leaf (L_spec_l02Root_3 ⟨⟨0, rfl⟩, ⟨63, rfl⟩, a0.hi, a0.lo⟩).x0) (.bad)
theorem r_spec_l02Root (a0 : Wide) : Tb351.run B351 [enc a0] (U64) = (t_spec_l02Root a0).opt := by kernel_rfl
noncomputable def F_spec_l02Root : Wide → U64 := fun a0 => (t_spec_l02Root a0).get
noncomputable def G_spec_l02Root : Wide → Bool := fun a0 => (t_spec_l02Root a0).opt.isSome
noncomputable def E_spec_l02Root : Ent Tryz.prog := .of1 Tb351 B351 G_spec_l02Root F_spec_l02Root fun a0 h => (r_spec_l02Root a0).trans (Tr.get_some h)
noncomputable def B336 : Bod Tryz.prog := ⟨336, Tryz.f336, Tryz.f336.body.getD .skip, Tryz.func336, by kernel_rfl, by kernel_rfl, Loops.no _ _⟩
noncomputable def Tb336 : Tb Tryz.prog := { T := [Y2, Y131], mix := mix, Es := [E_spec_l02Mul, E_spec_l02Root], Bs := [], d := 1 }
noncomputable def t_spec_SqrtFloor (a0 : I64) (a1 : I64) : Tr (T2 I64 Bool) :=
  .br (decide (a0.val < 0)) (.leaf ⟨⟨0, rfl⟩, false⟩) (.br (decide (a1.val < 0)) (.leaf ⟨⟨0, rfl⟩, false⟩) (let c1 := F_spec_l02Mul a0 a1; .br (G_spec_l02Root c1) (.leaf ⟨(Rng.w .i64 ((F_spec_l02Root c1).val)), true⟩) (.bad)))
theorem r_spec_SqrtFloor (a0 : I64) (a1 : I64) : Tb336.run B336 [enc a0, enc a1] (T2 I64 Bool) = (t_spec_SqrtFloor a0 a1).opt := by kernel_rfl
noncomputable def F_spec_SqrtFloor : I64 → I64 → T2 I64 Bool := fun a0 a1 => (t_spec_SqrtFloor a0 a1).get
noncomputable def G_spec_SqrtFloor : I64 → I64 → Bool := fun a0 a1 => (t_spec_SqrtFloor a0 a1).opt.isSome
noncomputable def E_spec_SqrtFloor : Ent Tryz.prog := .of2 Tb336 B336 G_spec_SqrtFloor F_spec_SqrtFloor fun a0 a1 h => (r_spec_SqrtFloor a0 a1).trans (Tr.get_some h)
noncomputable def B312 : Bod Tryz.prog := ⟨312, Tryz.f312, Tryz.f312.body.getD .skip, Tryz.func312, by kernel_rfl, by kernel_rfl, Loops.no _ _⟩
noncomputable def Tb312 : Tb Tryz.prog := { T := [], mix := mix, Es := [E_spec_l00In, E_spec_SqrtFloor], Bs := [], d := 1 }
noncomputable def t_spec_l03SqrtDown (a0 : I64) : Tr (T2 I64 Bool) :=
  .br (!(F_spec_l00In a0 ⟨0, rfl⟩ ⟨1152921504606846976, rfl⟩)) (.leaf ⟨⟨0, rfl⟩, false⟩) (.br (G_spec_SqrtFloor a0 ⟨4294967296, rfl⟩) (let c2 := F_spec_SqrtFloor a0 ⟨4294967296, rfl⟩; .leaf ⟨c2.a, c2.b⟩) (.bad))
theorem r_spec_l03SqrtDown (a0 : I64) : Tb312.run B312 [enc a0] (T2 I64 Bool) = (t_spec_l03SqrtDown a0).opt := by kernel_rfl
noncomputable def F_spec_l03SqrtDown : I64 → T2 I64 Bool := fun a0 => (t_spec_l03SqrtDown a0).get
noncomputable def G_spec_l03SqrtDown : I64 → Bool := fun a0 => (t_spec_l03SqrtDown a0).opt.isSome
noncomputable def E_spec_l03SqrtDown : Ent Tryz.prog := .of1 Tb312 B312 G_spec_l03SqrtDown F_spec_l03SqrtDown fun a0 h => (r_spec_l03SqrtDown a0).trans (Tr.get_some h)
noncomputable def B313 : Bod Tryz.prog := ⟨313, Tryz.f313, Tryz.f313.body.getD .skip, Tryz.func313, by kernel_rfl, by kernel_rfl, Loops.no _ _⟩
noncomputable def Tb313 : Tb Tryz.prog := { T := [], mix := mix, Es := [E_spec_MulFloor, E_spec_l03SqrtDown], Bs := [], d := 1 }
noncomputable def t_spec_l03SqrtUp (a0 : I64) : Tr (T2 I64 Bool) :=
  .br (G_spec_l03SqrtDown a0) (let c1 := F_spec_l03SqrtDown a0; .br (!c1.b) (.leaf ⟨⟨0, rfl⟩, false⟩) (.br ((F_spec_MulFloor c1.a c1.a ⟨32, rfl⟩).a.val != a0.val) (.leaf ⟨(Rng.w .i64 (c1.a.val + 1)), true⟩) (.br ((Rng.w .i64 (bitop .and .i64 (Rng.w .i64 (c1.a.val * c1.a.val)).val 4294967295)).val != 0) (.leaf ⟨(Rng.w .i64 (c1.a.val + 1)), true⟩) (.leaf ⟨c1.a, true⟩)))) (.bad)
theorem r_spec_l03SqrtUp (a0 : I64) : Tb313.run B313 [enc a0] (T2 I64 Bool) = (t_spec_l03SqrtUp a0).opt := by kernel_rfl
noncomputable def F_spec_l03SqrtUp : I64 → T2 I64 Bool := fun a0 => (t_spec_l03SqrtUp a0).get
noncomputable def G_spec_l03SqrtUp : I64 → Bool := fun a0 => (t_spec_l03SqrtUp a0).opt.isSome
noncomputable def E_spec_l03SqrtUp : Ent Tryz.prog := .of1 Tb313 B313 G_spec_l03SqrtUp F_spec_l03SqrtUp fun a0 h => (r_spec_l03SqrtUp a0).trans (Tr.get_some h)
noncomputable def B249 : Bod Tryz.prog := ⟨249, Tryz.f249, Tryz.f249.body.getD .skip, Tryz.func249, by kernel_rfl, by kernel_rfl, Loops.no _ _⟩
noncomputable def Tb249 : Tb Tryz.prog := { T := [Y2, Y27], mix := mix, Es := [E_spec_l04Ok, E_spec_l04Whole, E_spec_l04Make, E_spec_l03SqrtDown, E_spec_l03SqrtUp], Bs := [], d := 1 }
noncomputable def t_spec_SqrtI (a0 : Iv) : Tr (Iv) :=
  .br (!(F_spec_l04Ok a0)) (.leaf F_spec_l04Whole) (.br (decide (a0.lo.val < 0)) (.leaf F_spec_l04Whole) (.br (G_spec_l03SqrtDown a0.lo) (.br (G_spec_l03SqrtUp a0.hi) (.leaf (F_spec_l04Make (F_spec_l03SqrtDown a0.lo).a (F_spec_l03SqrtUp a0.hi).a)) (.bad)) (.bad)))
theorem r_spec_SqrtI (a0 : Iv) : Tb249.run B249 [enc a0] (Iv) = (t_spec_SqrtI a0).opt := by kernel_rfl
noncomputable def F_spec_SqrtI : Iv → Iv := fun a0 => (t_spec_SqrtI a0).get
noncomputable def G_spec_SqrtI : Iv → Bool := fun a0 => (t_spec_SqrtI a0).opt.isSome
noncomputable def E_spec_SqrtI : Ent Tryz.prog := .of1 Tb249 B249 G_spec_SqrtI F_spec_SqrtI fun a0 h => (r_spec_SqrtI a0).trans (Tr.get_some h)
structure S_impl_WideSqrt_5 where
  x0 : U64
  x1 : I64
  x2 : I64
  x3 : U64
instance : Inhabited S_impl_WideSqrt_5 := ⟨⟨default, default, default, default⟩⟩
noncomputable def st_impl_WideSqrt_5 (x : S_impl_WideSqrt_5) : St := ⟨[(1, .ptr 0 0), (4, .u64 x.x0), (5, .i64 x.x1)], 46, ⟨[(0, [.i64 x.x2, .u64 x.x3])], 1, 0⟩⟩
noncomputable def rd_impl_WideSqrt_5 : St → Option S_impl_WideSqrt_5 := fun s => match s with
  | ⟨[(1, .ptr 0 0), (4, .u64 x0), (5, .i64 x1)], 46, ⟨[(0, [.i64 x2, .u64 x3])], 1, 0⟩⟩ => some ⟨x0, x1, x2, x3⟩
  | _ => none
noncomputable def b_impl_WideSqrt_5 (x : S_impl_WideSqrt_5) : Tr (Lp S_impl_WideSqrt_5) :=
  .br (decide (x.x1.val ≥ 0)) (.br (decide (x.x1.val < 0)) (.bad) (let c2 := (Rng.w .u64 (bitop .or .u64 x.x0.val (Rng.w .u64 (1 * (2 ^ min (x.x1.val).toNat 64))).val)); let c3 := F_math_bits_Mul64 c2 c2; .br (decide (c3.a.val < (Rng.w .u64 (x.x2.val)).val)) (.leaf (.again ⟨c2, (Rng.w .i64 (x.x1.val - 1)), x.x2, x.x3⟩)) (.br (c3.a.val == (Rng.w .u64 (x.x2.val)).val) (.br (decide (c3.b.val ≤ x.x3.val)) (.leaf (.again ⟨c2, (Rng.w .i64 (x.x1.val - 1)), x.x2, x.x3⟩)) (.leaf (.again ⟨x.x0, (Rng.w .i64 (x.x1.val - 1)), x.x2, x.x3⟩))) (.leaf (.again ⟨x.x0, (Rng.w .i64 (x.x1.val - 1)), x.x2, x.x3⟩))))) (.leaf (.out ⟨x.x0, x.x1, x.x2, x.x3⟩))
noncomputable def G_impl_WideSqrt_5 (x : S_impl_WideSqrt_5) : Bool := (Lf b_impl_WideSqrt_5 66 x).opt.isSome
noncomputable def L_impl_WideSqrt_5 (x : S_impl_WideSqrt_5) : S_impl_WideSqrt_5 := (Lf b_impl_WideSqrt_5 66 x).get
noncomputable def TbL_impl_WideSqrt_5 : Tb Tryz.prog := { T := [Y2, Y131, Y133], mix := mix, Es := [E_math_bits_Mul64], Bs := [], d := 1 }
noncomputable def P_impl_WideSqrt_5 : LpF := loopF [1, 4, 5] [0] 1 rd_impl_WideSqrt_5 st_impl_WideSqrt_5 (.exit 0) G_impl_WideSqrt_5 L_impl_WideSqrt_5
theorem lok_impl_WideSqrt_5 : LoopOk Tryz.prog (loopAt (Tryz.f350.body.getD .skip) 0) P_impl_WideSqrt_5 := loopF_ok (t := TbL_impl_WideSqrt_5) (lt := fun _ => none) (body := b_impl_WideSqrt_5) (n := 66) (by intro h; cases h) (fun _ _ _ h => by cases h)
  (by intro s x h; unfold rd_impl_WideSqrt_5 at h; split at h <;> cases h; rfl) (fun x b cs h => lk_lt (l := (st_impl_WideSqrt_5 x).mm.blks) (by kernel_rfl) h) (by intro x; kernel_rfl) (fun x h => Tr.get_some h)
noncomputable def B350 : Bod Tryz.prog := ⟨350, Tryz.f350, Tryz.f350.body.getD .skip, Tryz.func350, by kernel_rfl, by kernel_rfl, ⟨ltOf [(5, P_impl_WideSqrt_5)], Loops.of (ks := [5]) (by kernel_rfl) (by
  intro i k h f hf
  match i, h with
  | 0, h => cases h; obtain rfl : P_impl_WideSqrt_5 = f := Option.some.inj hf; exact lok_impl_WideSqrt_5
  | n + 1, h => simp at h)⟩⟩
noncomputable def Tb350 : Tb Tryz.prog := { T := [Y2, Y131, Y133], mix := mix, Es := [], Bs := [], d := 1 }
noncomputable def t_impl_WideSqrt (a0 : Wide) : Tr (T2 U64 Bool) :=
  .br (decide (a0.hi.val < 0)) (.leaf ⟨⟨0, rfl⟩, false⟩) (.br (G_impl_WideSqrt_5 ⟨⟨0, rfl⟩, ⟨63, rfl⟩, a0.hi, a0.lo⟩) (.leaf ⟨(L_impl_WideSqrt_5 ⟨⟨0, rfl⟩, ⟨63, rfl⟩, a0.hi, a0.lo⟩).x0, true⟩) (.bad))
theorem r_impl_WideSqrt (a0 : Wide) : Tb350.run B350 [enc a0] (T2 U64 Bool) = (t_impl_WideSqrt a0).opt := by kernel_rfl
noncomputable def F_impl_WideSqrt : Wide → T2 U64 Bool := fun a0 => (t_impl_WideSqrt a0).get
noncomputable def G_impl_WideSqrt : Wide → Bool := fun a0 => (t_impl_WideSqrt a0).opt.isSome
noncomputable def E_impl_WideSqrt : Ent Tryz.prog := .of1 Tb350 B350 G_impl_WideSqrt F_impl_WideSqrt fun a0 h => (r_impl_WideSqrt a0).trans (Tr.get_some h)
noncomputable def B332 : Bod Tryz.prog := ⟨332, Tryz.f332, Tryz.f332.body.getD .skip, Tryz.func332, by kernel_rfl, by kernel_rfl, Loops.no _ _⟩
noncomputable def Tb332 : Tb Tryz.prog := { T := [Y2, Y131], mix := mix, Es := [E_impl_WideMul, E_impl_WideSqrt], Bs := [], d := 1 }
noncomputable def t_impl_SqrtFloor (a0 : I64) (a1 : I64) : Tr (T2 I64 Bool) :=
  .br (decide (a0.val < 0)) (.leaf ⟨⟨0, rfl⟩, false⟩) (.br (decide (a1.val < 0)) (.leaf ⟨⟨0, rfl⟩, false⟩) (let c1 := F_impl_WideMul a0 a1; .br (G_impl_WideSqrt c1) (let c2 := F_impl_WideSqrt c1; .leaf ⟨(Rng.w .i64 (c2.a.val)), c2.b⟩) (.bad)))
theorem r_impl_SqrtFloor (a0 : I64) (a1 : I64) : Tb332.run B332 [enc a0, enc a1] (T2 I64 Bool) = (t_impl_SqrtFloor a0 a1).opt := by kernel_rfl
noncomputable def F_impl_SqrtFloor : I64 → I64 → T2 I64 Bool := fun a0 a1 => (t_impl_SqrtFloor a0 a1).get
noncomputable def G_impl_SqrtFloor : I64 → I64 → Bool := fun a0 a1 => (t_impl_SqrtFloor a0 a1).opt.isSome
noncomputable def E_impl_SqrtFloor : Ent Tryz.prog := .of2 Tb332 B332 G_impl_SqrtFloor F_impl_SqrtFloor fun a0 a1 h => (r_impl_SqrtFloor a0 a1).trans (Tr.get_some h)
noncomputable def B285 : Bod Tryz.prog := ⟨285, Tryz.f285, Tryz.f285.body.getD .skip, Tryz.func285, by kernel_rfl, by kernel_rfl, Loops.no _ _⟩
noncomputable def Tb285 : Tb Tryz.prog := { T := [], mix := mix, Es := [E_impl_ValidFix, E_impl_fixed, E_impl_SqrtFloor], Bs := [], d := 1 }
noncomputable def t_impl_SqrtDown (a0 : I64) : Tr (T2 I64 Bool) :=
  .br (!(F_impl_ValidFix a0)) (.leaf ⟨⟨0, rfl⟩, false⟩) (.br (G_impl_SqrtFloor a0 ⟨4294967296, rfl⟩) (let c2 := F_impl_SqrtFloor a0 ⟨4294967296, rfl⟩; let c3 := F_impl_fixed c2.a c2.b; .leaf ⟨c3.a, c3.b⟩) (.bad))
theorem r_impl_SqrtDown (a0 : I64) : Tb285.run B285 [enc a0] (T2 I64 Bool) = (t_impl_SqrtDown a0).opt := by kernel_rfl
noncomputable def F_impl_SqrtDown : I64 → T2 I64 Bool := fun a0 => (t_impl_SqrtDown a0).get
noncomputable def G_impl_SqrtDown : I64 → Bool := fun a0 => (t_impl_SqrtDown a0).opt.isSome
noncomputable def E_impl_SqrtDown : Ent Tryz.prog := .of1 Tb285 B285 G_impl_SqrtDown F_impl_SqrtDown fun a0 h => (r_impl_SqrtDown a0).trans (Tr.get_some h)
noncomputable def B286 : Bod Tryz.prog := ⟨286, Tryz.f286, Tryz.f286.body.getD .skip, Tryz.func286, by kernel_rfl, by kernel_rfl, Loops.no _ _⟩
noncomputable def Tb286 : Tb Tryz.prog := { T := [Y2, Y131, Y133], mix := mix, Es := [E_impl_WideMul, E_impl_fixed, E_impl_SqrtDown], Bs := [], d := 1 }
noncomputable def t_impl_SqrtUp (a0 : I64) : Tr (T2 I64 Bool) :=
  .br (G_impl_SqrtDown a0) (let c1 := F_impl_SqrtDown a0; .br c1.b (let c2 := F_impl_WideMul c1.a c1.a; let c3 := F_impl_WideMul a0 ⟨4294967296, rfl⟩; .br (!((c2.hi.val == c3.hi.val) && ((c2.lo.val == c3.lo.val) && true))) (let c6 := F_impl_fixed (Rng.w .i64 (c1.a.val + 1)) c1.b; .leaf ⟨c6.a, c6.b⟩) (let c7 := F_impl_fixed c1.a c1.b; .leaf ⟨c7.a, c7.b⟩)) (let c8 := F_impl_fixed c1.a c1.b; .leaf ⟨c8.a, c8.b⟩)) (.bad)
theorem r_impl_SqrtUp (a0 : I64) : Tb286.run B286 [enc a0] (T2 I64 Bool) = (t_impl_SqrtUp a0).opt := by kernel_rfl
noncomputable def F_impl_SqrtUp : I64 → T2 I64 Bool := fun a0 => (t_impl_SqrtUp a0).get
noncomputable def G_impl_SqrtUp : I64 → Bool := fun a0 => (t_impl_SqrtUp a0).opt.isSome
noncomputable def E_impl_SqrtUp : Ent Tryz.prog := .of1 Tb286 B286 G_impl_SqrtUp F_impl_SqrtUp fun a0 h => (r_impl_SqrtUp a0).trans (Tr.get_some h)
noncomputable def B206 : Bod Tryz.prog := ⟨206, Tryz.f206, Tryz.f206.body.getD .skip, Tryz.func206, by kernel_rfl, by kernel_rfl, Loops.no _ _⟩
noncomputable def Tb206 : Tb Tryz.prog := { T := [Y2, Y27], mix := mix, Es := [E_impl_Whole, E_impl_IsWhole, E_impl_bounded, E_impl_SqrtDown, E_impl_SqrtUp], Bs := [], d := 1 }
noncomputable def t_impl_SqrtI (a0 : Iv) : Tr (Iv) :=
  .br (F_impl_IsWhole a0) (.leaf F_impl_Whole) (.br (decide (a0.lo.val < 0)) (.leaf F_impl_Whole) (.br (G_impl_SqrtDown a0.lo) (let c4 := F_impl_SqrtDown a0.lo; .br (G_impl_SqrtUp a0.hi) (let c5 := F_impl_SqrtUp a0.hi; .br c4.b (.leaf (F_impl_bounded c4.a c5.a c5.b)) (.leaf (F_impl_bounded c4.a c5.a false))) (.bad)) (.bad)))
theorem r_impl_SqrtI (a0 : Iv) : Tb206.run B206 [enc a0] (Iv) = (t_impl_SqrtI a0).opt := by kernel_rfl
noncomputable def F_impl_SqrtI : Iv → Iv := fun a0 => (t_impl_SqrtI a0).get
noncomputable def G_impl_SqrtI : Iv → Bool := fun a0 => (t_impl_SqrtI a0).opt.isSome
noncomputable def E_impl_SqrtI : Ent Tryz.prog := .of1 Tb206 B206 G_impl_SqrtI F_impl_SqrtI fun a0 h => (r_impl_SqrtI a0).trans (Tr.get_some h)
end
end Go.Proofs.YtecfhpgpojgjkaaGreat.Ev
