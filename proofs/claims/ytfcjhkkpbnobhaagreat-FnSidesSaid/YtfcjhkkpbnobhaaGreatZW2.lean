/- The law FnSides gives true, whatever bytes come in. No conditions. (One of the texts of its proof, put together by a program of this session.) -/
import Derived.Test.YtfcjhkkpbnobhaaGreatZW1
import Derived.Test.YtfcjhkkpbnobhaaGreatZPA
set_option linter.unusedSimpArgs false
set_option linter.unusedVariables false
namespace Go.Proofs.YtfcjhkkpbnobhaaGreat.Ev
open Go Go.RowKit
set_option maxRecDepth 100000
section
noncomputable def ET_impl_MulDivFloor : Ent Tryz.prog := .of3 Tb285 B285 (fun _ _ _ => true) zbh fun a0 a1 a2 _ => (r_impl_MulDivFloor a0 a1 a2).trans (tt_md_impl a0 a1 a2)
noncomputable def ET_impl_Quotient : Ent Tryz.prog := .of2 Tb203 B203 (fun _ _ => true) zbc fun a0 a1 _ => (r_impl_Quotient a0 a1).trans (tt_q_impl a0 a1)
noncomputable def ET_impl_RadiansOf : Ent Tryz.prog := .of1 Tb217 B217 (fun _ => true) zd6 fun a0 _ => (r_impl_RadiansOf a0).trans (tt_rad_impl a0)
noncomputable def t_spec_l02Shift (a0 : Wide) (a1 : I64) : Tr (Wide) :=
  .br (a1.val == 0) (.leaf a0) (.br (decide (a1.val < 64)) (.leaf ⟨(Rng.w .i64 (a0.hi.val.fdiv (2 ^ min ((Rng.w .u64 (a1.val)).val).toNat 64))), (Rng.w .u64 (zbd .or .u64 (Rng.w .u64 (a0.lo.val.fdiv (2 ^ min ((Rng.w .u64 (a1.val)).val).toNat 64))).val (Rng.w .u64 ((Rng.w .u64 (a0.hi.val)).val * (2 ^ min ((Rng.w .u64 ((Rng.w .i64 (64 - a1.val)).val)).val).toNat 64))).val))⟩) (.leaf ⟨(Rng.w .i64 (a0.hi.val.fdiv 9223372036854775808)), (Rng.w .u64 ((Rng.w .i64 (a0.hi.val.fdiv (2 ^ min ((Rng.w .u64 ((Rng.w .i64 (a1.val - 64)).val)).val).toNat 64))).val))⟩))
noncomputable def zdC : Wide -> I64 -> Wide := fun a0 a1 => (t_spec_l02Shift a0 a1).get
noncomputable def t_spec_MulFloor (a0 : I64) (a1 : I64) (a2 : I64) : Tr (T2 I64 Bool) :=
  .br (!(zaG a2 ⟨0, rfl⟩ ⟨126, rfl⟩)) (.leaf ⟨⟨0, rfl⟩, false⟩) (let c4 := F_spec_l02Int (zdC (zcF a0 a1) a2);.leaf ⟨c4.a, c4.b⟩)
noncomputable def zaT : I64 -> I64 -> I64 -> T2 I64 Bool := fun a0 a1 a2 => (t_spec_MulFloor a0 a1 a2).get
noncomputable def zcQ (a0 : I64) (a1 : I64) : Tr (T2 I64 Bool) :=
  .br (!(zM a0)) (.leaf ⟨⟨0, rfl⟩, false⟩) (.br (!(zM a1)) (.leaf ⟨⟨0, rfl⟩, false⟩) (let c3 := zaT a0 a1 ⟨32, rfl⟩;let c4 := zau c3.a c3.b;.leaf ⟨c4.a, c4.b⟩))
noncomputable def zS : I64 -> I64 -> T2 I64 Bool := fun a0 a1 => (zcQ a0 a1).get
noncomputable def zep (a0 : I64) (a1 : I64) : Tr (T2 I64 Bool) :=
  let c2 := zS (Rng.w .i64 (0 - a0.val)) a1;.br (!(zM a0)) (.leaf ⟨⟨0, rfl⟩, false⟩) (.br (!c2.b) (.leaf ⟨⟨0, rfl⟩, false⟩) (.leaf ⟨(Rng.w .i64 (0 - c2.a.val)), true⟩))
noncomputable def zal : I64 -> I64 -> T2 I64 Bool := fun a0 a1 => (zep a0 a1).get
noncomputable def t_spec_l00Min (a0 : I64) (a1 : I64) : Tr (I64) :=
  .br (decide (a0.val < a1.val)) (.leaf a0) (.leaf a1)
noncomputable def zJ : I64 -> I64 -> I64 := fun a0 a1 => (t_spec_l00Min a0 a1).get
noncomputable def t_spec_l00Max (a0 : I64) (a1 : I64) : Tr (I64) :=
  .br (decide (a0.val > a1.val)) (.leaf a0) (.leaf a1)
noncomputable def zB : I64 -> I64 -> I64 := fun a0 a1 => (t_spec_l00Max a0 a1).get
noncomputable def t_spec_MulI (a0 : Iv) (a1 : Iv) : Tr (Iv) :=
  .br (!(zn a0)) (.leaf zz) (.br (!(zn a1)) (.leaf zz) (let c5 := zS a0.lo a1.lo;let c6 := zal a0.lo a1.lo;.br (!c5.b) (.leaf zz) (.br (!c6.b) (.leaf zz) (let c11 := zS a0.lo a1.hi;let c12 := zal a0.lo a1.hi;.br (!c11.b) (.leaf zz) (.br (!c12.b) (.leaf zz) (let c17 := zS a0.hi a1.lo;let c18 := zal a0.hi a1.lo;.br (!c17.b) (.leaf zz) (.br (!c18.b) (.leaf zz) (let c23 := zS a0.hi a1.hi;let c24 := zal a0.hi a1.hi;.br (!c23.b) (.leaf zz) (.br (!c24.b) (.leaf zz) (.leaf (zay (zJ (zJ (zJ (zJ ⟨1152921504606846976, rfl⟩ c5.a) c11.a) c17.a) c23.a) (zB (zB (zB (zB ⟨(-1152921504606846976), rfl⟩ c6.a) c12.a) c18.a) c24.a))))))))))))
noncomputable def z8 : Iv -> Iv -> Iv := fun a0 a1 => (t_spec_MulI a0 a1).get
noncomputable def B140 : Bod Tryz.prog := ⟨140, Tryz.f140, Tryz.f140.body.getD .skip, Tryz.func140, by kernel_rfl, by kernel_rfl, zaU.no _ _⟩
noncomputable def Tb140 : Tb Tryz.prog := { T := [Y30], mix := mix, Es := [zdu], Bs := [], d := 1 }
noncomputable def zeL (a0 : Iv) (a1 : Iv) : Tr (Bool) :=
  .br (zbt a0) (.leaf (zbt a1)) (.leaf false)
theorem r_impl_areBounded (a0 : Iv) (a1 : Iv) : Tb140.run B140 [enc a0, enc a1] (Bool) = (zeL a0 a1).opt := by kernel_rfl
noncomputable def zbn : Iv -> Iv -> Bool := fun a0 a1 => (zeL a0 a1).get
theorem u_impl_areBounded (a0 : Iv) (a1 : Iv) : (zeL a0 a1).opt = some (zbn a0 a1) := Tr.zaB (by kernel_rfl)
noncomputable def zcg : Ent Tryz.prog := .of2 Tb140 B140 (fun _ _ => true) zbn fun a0 a1 _ => (r_impl_areBounded a0 a1).trans (u_impl_areBounded a0 a1)
noncomputable def B324 : Bod Tryz.prog := ⟨324, Tryz.f324, Tryz.f324.body.getD .skip, Tryz.func324, by kernel_rfl, by kernel_rfl, zaU.no _ _⟩
noncomputable def Tb324 : Tb Tryz.prog := { T := [Y2, Y132, Y148], mix := mix, Es := [zb7], Bs := [], d := 1 }
noncomputable def zdX (a0 : Wide) (a1 : I64) : Tr (Wide) :=
  .br (!(za1 a1 ⟨0, rfl⟩ ⟨127, rfl⟩)) (.leaf ⟨⟨0, rfl⟩, ⟨0, rfl⟩⟩) (.br (decide (a1.val >= 64)) (let c3 := (Rng.w .i64 (a1.val - 64));.br (decide (c3.val < 0)) (.bad) (.leaf ⟨(Rng.w .i64 (a0.hi.val.fdiv 9223372036854775808)), (Rng.w .u64 ((Rng.w .i64 (a0.hi.val.fdiv (2 ^ min (c3.val).toNat 64))).val))⟩)) (.br (decide (a1.val < 0)) (.bad) (.br (decide (a1.val < 0)) (.bad) (let c7 := (Rng.w .i64 (64 - a1.val));.br (decide (c7.val < 0)) (.bad) (.leaf ⟨(Rng.w .i64 (a0.hi.val.fdiv (2 ^ min (a1.val).toNat 64))), (Rng.w .u64 (zbd .or .u64 (Rng.w .u64 (a0.lo.val.fdiv (2 ^ min (a1.val).toNat 64))).val (Rng.w .u64 ((Rng.w .u64 (a0.hi.val)).val * (2 ^ min (c7.val).toNat 64))).val))⟩)))))
theorem r_impl_WideShift (a0 : Wide) (a1 : I64) : Tb324.run B324 [enc a0, enc a1] (Wide) = (zdX a0 a1).opt := by kernel_rfl
noncomputable def F_impl_WideShift : Wide -> I64 -> Wide := fun a0 a1 => (zdX a0 a1).get
noncomputable def zft : Wide -> I64 -> Bool := fun a0 a1 => (zdX a0 a1).opt.isSome
noncomputable def E_impl_WideShift : Ent Tryz.prog := .of2 Tb324 B324 zft F_impl_WideShift fun a0 a1 h => (r_impl_WideShift a0 a1).trans (Tr.get_some h)
noncomputable def B275 : Bod Tryz.prog := ⟨275, Tryz.f275, Tryz.f275.body.getD .skip, Tryz.func275, by kernel_rfl, by kernel_rfl, zaU.no _ _⟩
noncomputable def Tb275 : Tb Tryz.prog := { T := [], mix := mix, Es := [zb7, zee, E_impl_WideInt, E_impl_WideShift], Bs := [], d := 1 }
noncomputable def zdA (a0 : I64) (a1 : I64) (a2 : I64) : Tr (T2 I64 Bool) :=
  .br (!(za1 a2 ⟨0, rfl⟩ ⟨126, rfl⟩)) (.leaf ⟨⟨0, rfl⟩, false⟩) (let c2 := zbp a0 a1;.br (zft c2 a2) (let c4 := zeb (F_impl_WideShift c2 a2);.leaf ⟨c4.a, c4.b⟩) (.bad))
theorem r_impl_MulFloor (a0 : I64) (a1 : I64) (a2 : I64) : Tb275.run B275 [enc a0, enc a1, enc a2] (T2 I64 Bool) = (zdA a0 a1 a2).opt := by kernel_rfl
noncomputable def zcX : I64 -> I64 -> I64 -> T2 I64 Bool := fun a0 a1 a2 => (zdA a0 a1 a2).get
noncomputable def G_impl_MulFloor : I64 -> I64 -> I64 -> Bool := fun a0 a1 a2 => (zdA a0 a1 a2).opt.isSome
noncomputable def E_impl_MulFloor : Ent Tryz.prog := .of3 Tb275 B275 G_impl_MulFloor zcX fun a0 a1 a2 h => (r_impl_MulFloor a0 a1 a2).trans (Tr.get_some h)
noncomputable def B198 : Bod Tryz.prog := ⟨198, Tryz.f198, Tryz.f198.body.getD .skip, Tryz.func198, by kernel_rfl, by kernel_rfl, zaU.no _ _⟩
noncomputable def Tb198 : Tb Tryz.prog := { T := [], mix := mix, Es := [zdG, zfL, E_impl_MulFloor], Bs := [], d := 1 }
noncomputable def zfg (a0 : I64) (a1 : I64) : Tr (T2 I64 Bool) :=
  .br (!(zaZ a0)) (.leaf ⟨⟨0, rfl⟩, false⟩) (.br (!(zaZ a1)) (.leaf ⟨⟨0, rfl⟩, false⟩) (.br (G_impl_MulFloor a0 a1 ⟨32, rfl⟩) (let c3 := zcX a0 a1 ⟨32, rfl⟩;let c4 := zbY c3.a c3.b;.leaf ⟨c4.a, c4.b⟩) (.bad)))
theorem r_impl_MulDown (a0 : I64) (a1 : I64) : Tb198.run B198 [enc a0, enc a1] (T2 I64 Bool) = (zfg a0 a1).opt := by kernel_rfl
noncomputable def zcN : I64 -> I64 -> T2 I64 Bool := fun a0 a1 => (zfg a0 a1).get
noncomputable def zcj : I64 -> I64 -> Bool := fun a0 a1 => (zfg a0 a1).opt.isSome
noncomputable def E_impl_MulDown : Ent Tryz.prog := .of2 Tb198 B198 zcj zcN fun a0 a1 h => (r_impl_MulDown a0 a1).trans (Tr.get_some h)
noncomputable def B199 : Bod Tryz.prog := ⟨199, Tryz.f199, Tryz.f199.body.getD .skip, Tryz.func199, by kernel_rfl, by kernel_rfl, zaU.no _ _⟩
noncomputable def Tb199 : Tb Tryz.prog := { T := [], mix := mix, Es := [E_impl_MulDown, zdG], Bs := [], d := 1 }
noncomputable def t_impl_MulUp (a0 : I64) (a1 : I64) : Tr (T2 I64 Bool) :=
  .br (!(zaZ a0)) (.leaf ⟨⟨0, rfl⟩, false⟩) (.br (!(zaZ a1)) (.leaf ⟨⟨0, rfl⟩, false⟩) (let c3 := (Rng.w .i64 (0 - a0.val));.br (zcj c3 a1) (let c4 := zcN c3 a1;.leaf ⟨(Rng.w .i64 (0 - c4.a.val)), c4.b⟩) (.bad)))
theorem r_impl_MulUp (a0 : I64) (a1 : I64) : Tb199.run B199 [enc a0, enc a1] (T2 I64 Bool) = (t_impl_MulUp a0 a1).opt := by kernel_rfl
noncomputable def zeG : I64 -> I64 -> T2 I64 Bool := fun a0 a1 => (t_impl_MulUp a0 a1).get
noncomputable def zdK : I64 -> I64 -> Bool := fun a0 a1 => (t_impl_MulUp a0 a1).opt.isSome
noncomputable def E_impl_MulUp : Ent Tryz.prog := .of2 Tb199 B199 zdK zeG fun a0 a1 h => (r_impl_MulUp a0 a1).trans (Tr.get_some h)
noncomputable def Y165 : TyE Tryz.prog := ⟨165, 2, (.array 2 2 1), [.i64 ⟨0, rfl⟩, .i64 ⟨0, rfl⟩], false, by kernel_rfl, by kernel_rfl, by kernel_rfl, by kernel_rfl, by kernel_rfl, by kernel_rfl⟩
noncomputable def B197 : Bod Tryz.prog := ⟨197, Tryz.f197, Tryz.f197.body.getD .skip, Tryz.func197, by kernel_rfl, by kernel_rfl, zaU.no _ _⟩
noncomputable def B116 : Bod Tryz.prog := ⟨116, Tryz.f116, Tryz.f116.body.getD .skip, Tryz.func116, by kernel_rfl, by kernel_rfl, zaU.no _ _⟩
noncomputable def Tb116 : Tb Tryz.prog := { T := [Y2, Y30, Y165], mix := mix, Es := [zcg, zaI, zcO, E_impl_MulDown, E_impl_MulUp], Bs := [B197], d := 8 }
noncomputable def t_impl_MulI (a0 : Iv) (a1 : Iv) : Tr (Iv) :=
  .br (!(zbn a0 a1)) (.leaf zQ) (.br (zcj a0.lo a1.lo) (let c3 := zcN a0.lo a1.lo;.br (zdK a0.lo a1.lo) (let c4 := zeG a0.lo a1.lo;.br (!c3.b) (.leaf zQ) (.br (!c4.b) (.leaf zQ) (.br (zcj a0.lo a1.hi) (let c7 := zcN a0.lo a1.hi;.br (zdK a0.lo a1.hi) (let c8 := zeG a0.lo a1.hi;.br (!c7.b) (.leaf zQ) (.br (!c8.b) (.leaf zQ) (.br (zcj a0.hi a1.lo) (let c11 := zcN a0.hi a1.lo;.br (zdK a0.hi a1.lo) (let c12 := zeG a0.hi a1.lo;.br (!c11.b) (.leaf zQ) (.br (!c12.b) (.leaf zQ) (.br (zcj a0.hi a1.hi) (let c17 := zcN a0.hi a1.hi;.br (zdK a0.hi a1.hi) (let c18 := zeG a0.hi a1.hi;.br (!c17.b) (.leaf zQ) (.br (!c18.b) (.leaf zQ) (.leaf (za3 (mn (mn (mn (mn c3.a c3.a) c7.a) c11.a) c17.a) (mx (mx (mx (mx c4.a c4.a) c8.a) c12.a) c18.a) true)))) (.bad)) (.bad)))) (.bad)) (.bad)))) (.bad)) (.bad)))) (.bad)) (.bad))
theorem r_impl_MulI (a0 : Iv) (a1 : Iv) : Tb116.run B116 [enc a0, enc a1] (Iv) = (t_impl_MulI a0 a1).opt := by kernel_rfl
noncomputable def zav : Iv -> Iv -> Iv := fun a0 a1 => (t_impl_MulI a0 a1).get
noncomputable def B92 : Bod Tryz.prog := ⟨92, Tryz.f92, Tryz.f92.body.getD .skip, Tryz.func92, by kernel_rfl, by kernel_rfl, zaU.no _ _⟩
noncomputable def Tb92 : Tb Tryz.prog := { T := [Y2, Y30], mix := mix, Es := [E_spec_l00In], Bs := [], d := 1 }
noncomputable def zb2 (a0 : Iv) (a1 : I64) : Tr (Bool) :=
  .leaf (zaG a1 a0.lo a0.hi)
theorem r_spec_l04Has (a0 : Iv) (a1 : I64) : Tb92.run B92 [enc a0, enc a1] (Bool) = (zb2 a0 a1).opt := by kernel_rfl
noncomputable def zaH : Iv -> I64 -> Bool := fun a0 a1 => (zb2 a0 a1).get
theorem u_spec_l04Has (a0 : Iv) (a1 : I64) : (zb2 a0 a1).opt = some (zaH a0 a1) := Tr.zaB (by kernel_rfl)
noncomputable def E_spec_l04Has : Ent Tryz.prog := .of2 Tb92 B92 (fun _ _ => true) zaH fun a0 a1 _ => (r_spec_l04Has a0 a1).trans (u_spec_l04Has a0 a1)
noncomputable def zbU (a0 : I64) (a1 : I64) : Tr (T2 I64 Bool) :=
  .br (!(zM a0)) (.leaf ⟨⟨0, rfl⟩, false⟩) (.br (!(zM a1)) (.leaf ⟨⟨0, rfl⟩, false⟩) (.br (a1.val == 0) (.leaf ⟨⟨0, rfl⟩, false⟩) (.br (decide (a1.val < 0)) (let c5 := zbf (Rng.w .i64 (0 - a0.val)) ⟨4294967296, rfl⟩ (Rng.w .i64 (0 - a1.val));let c6 := zau c5.a c5.b;.leaf ⟨c6.a, c6.b⟩) (let c7 := zbf a0 ⟨4294967296, rfl⟩ a1;let c8 := zau c7.a c7.b;.leaf ⟨c8.a, c8.b⟩))))
noncomputable def zN : I64 -> I64 -> T2 I64 Bool := fun a0 a1 => (zbU a0 a1).get
noncomputable def zdw (a0 : I64) (a1 : I64) : Tr (T2 I64 Bool) :=
  .br (!(zM a0)) (.leaf ⟨⟨0, rfl⟩, false⟩) (let c3 := zN (Rng.w .i64 (0 - a0.val)) a1;.leaf ⟨(Rng.w .i64 (0 - c3.a.val)), c3.b⟩)
noncomputable def zY : I64 -> I64 -> T2 I64 Bool := fun a0 a1 => (zdw a0 a1).get
noncomputable def t_spec_DivI (a0 : Iv) (a1 : Iv) : Tr (Iv) :=
  .br (!(zn a0)) (.leaf zz) (.br (!(zn a1)) (.leaf zz) (.br (zaH a1 ⟨0, rfl⟩) (.leaf zz) (let c7 := zN a0.lo a1.lo;let c8 := zY a0.lo a1.lo;.br (!c7.b) (.leaf zz) (.br (!c8.b) (.leaf zz) (let c13 := zN a0.lo a1.hi;let c14 := zY a0.lo a1.hi;.br (!c13.b) (.leaf zz) (.br (!c14.b) (.leaf zz) (let c19 := zN a0.hi a1.lo;let c20 := zY a0.hi a1.lo;.br (!c19.b) (.leaf zz) (.br (!c20.b) (.leaf zz) (let c25 := zN a0.hi a1.hi;let c26 := zY a0.hi a1.hi;.br (!c25.b) (.leaf zz) (.br (!c26.b) (.leaf zz) (.leaf (zay (zJ (zJ (zJ (zJ ⟨1152921504606846976, rfl⟩ c7.a) c13.a) c19.a) c25.a) (zB (zB (zB (zB ⟨(-1152921504606846976), rfl⟩ c8.a) c14.a) c20.a) c26.a)))))))))))))
noncomputable def zL : Iv -> Iv -> Iv := fun a0 a1 => (t_spec_DivI a0 a1).get
noncomputable def B174 : Bod Tryz.prog := ⟨174, Tryz.f174, Tryz.f174.body.getD .skip, Tryz.func174, by kernel_rfl, by kernel_rfl, zaU.no _ _⟩
noncomputable def Tb174 : Tb Tryz.prog := { T := [Y2, Y30], mix := mix, Es := [zb1, zb7], Bs := [], d := 1 }
noncomputable def t_impl_HasI (a0 : Iv) (a1 : I64) : Tr (Bool) :=
  .br (zar a0) (.leaf true) (.leaf (za1 a1 a0.lo a0.hi))
theorem r_impl_HasI (a0 : Iv) (a1 : I64) : Tb174.run B174 [enc a0, enc a1] (Bool) = (t_impl_HasI a0 a1).opt := by kernel_rfl
noncomputable def zdp : Iv -> I64 -> Bool := fun a0 a1 => (t_impl_HasI a0 a1).get
theorem u_impl_HasI (a0 : Iv) (a1 : I64) : (t_impl_HasI a0 a1).opt = some (zdp a0 a1) := Tr.zaB (by kernel_rfl)
noncomputable def E_impl_HasI : Ent Tryz.prog := .of2 Tb174 B174 (fun _ _ => true) zdp fun a0 a1 _ => (r_impl_HasI a0 a1).trans (u_impl_HasI a0 a1)
noncomputable def B224 : Bod Tryz.prog := ⟨224, Tryz.f224, Tryz.f224.body.getD .skip, Tryz.func224, by kernel_rfl, by kernel_rfl, zaU.no _ _⟩
noncomputable def Tb224 : Tb Tryz.prog := { T := [], mix := mix, Es := [zdG, zfL, ET_impl_MulDivFloor], Bs := [], d := 1 }
noncomputable def t_impl_DivDown (a0 : I64) (a1 : I64) : Tr (T2 I64 Bool) :=
  .br (!(zaZ a0)) (.leaf ⟨⟨0, rfl⟩, false⟩) (.br (!(zaZ a1)) (.leaf ⟨⟨0, rfl⟩, false⟩) (.br (decide (a1.val < 0)) (let c5 := zbh (Rng.w .i64 (0 - a0.val)) ⟨4294967296, rfl⟩ (Rng.w .i64 (0 - a1.val));let c6 := zbY c5.a c5.b;.leaf ⟨c6.a, c6.b⟩) (let c7 := zbh a0 ⟨4294967296, rfl⟩ a1;let c8 := zbY c7.a c7.b;.leaf ⟨c8.a, c8.b⟩)))
theorem r_impl_DivDown (a0 : I64) (a1 : I64) : Tb224.run B224 [enc a0, enc a1] (T2 I64 Bool) = (t_impl_DivDown a0 a1).opt := by kernel_rfl
noncomputable def zcn : I64 -> I64 -> T2 I64 Bool := fun a0 a1 => (t_impl_DivDown a0 a1).get
theorem u_impl_DivDown (a0 : I64) (a1 : I64) : (t_impl_DivDown a0 a1).opt = some (zcn a0 a1) := Tr.zaB (by kernel_rfl)
noncomputable def E_impl_DivDown : Ent Tryz.prog := .of2 Tb224 B224 (fun _ _ => true) zcn fun a0 a1 _ => (r_impl_DivDown a0 a1).trans (u_impl_DivDown a0 a1)
noncomputable def B225 : Bod Tryz.prog := ⟨225, Tryz.f225, Tryz.f225.body.getD .skip, Tryz.func225, by kernel_rfl, by kernel_rfl, zaU.no _ _⟩
noncomputable def Tb225 : Tb Tryz.prog := { T := [], mix := mix, Es := [E_impl_DivDown, zdG], Bs := [], d := 1 }
noncomputable def t_impl_DivUp (a0 : I64) (a1 : I64) : Tr (T2 I64 Bool) :=
  .br (!(zaZ a0)) (.leaf ⟨⟨0, rfl⟩, false⟩) (.br (!(zaZ a1)) (.leaf ⟨⟨0, rfl⟩, false⟩) (let c4 := zcn (Rng.w .i64 (0 - a0.val)) a1;.leaf ⟨(Rng.w .i64 (0 - c4.a.val)), c4.b⟩))
theorem r_impl_DivUp (a0 : I64) (a1 : I64) : Tb225.run B225 [enc a0, enc a1] (T2 I64 Bool) = (t_impl_DivUp a0 a1).opt := by kernel_rfl
noncomputable def zdM : I64 -> I64 -> T2 I64 Bool := fun a0 a1 => (t_impl_DivUp a0 a1).get
theorem u_impl_DivUp (a0 : I64) (a1 : I64) : (t_impl_DivUp a0 a1).opt = some (zdM a0 a1) := Tr.zaB (by kernel_rfl)
noncomputable def E_impl_DivUp : Ent Tryz.prog := .of2 Tb225 B225 (fun _ _ => true) zdM fun a0 a1 _ => (r_impl_DivUp a0 a1).trans (u_impl_DivUp a0 a1)
noncomputable def B139 : Bod Tryz.prog := ⟨139, Tryz.f139, Tryz.f139.body.getD .skip, Tryz.func139, by kernel_rfl, by kernel_rfl, zaU.no _ _⟩
noncomputable def Tb139 : Tb Tryz.prog := { T := [Y2, Y30, Y165], mix := mix, Es := [zcg, zaI, zcO, E_impl_HasI, E_impl_DivDown, E_impl_DivUp], Bs := [B197], d := 8 }
noncomputable def t_impl_DivI (a0 : Iv) (a1 : Iv) : Tr (Iv) :=
  .br (!(zbn a0 a1)) (.leaf zQ) (.br (zdp a1 ⟨0, rfl⟩) (.leaf zQ) (let c5 := zcn a0.lo a1.lo;let c6 := zdM a0.lo a1.lo;.br (!c5.b) (.leaf zQ) (.br (!c6.b) (.leaf zQ) (let c9 := zcn a0.lo a1.hi;let c10 := zdM a0.lo a1.hi;.br (!c9.b) (.leaf zQ) (.br (!c10.b) (.leaf zQ) (let c14 := zcn a0.hi a1.lo;let c15 := zdM a0.hi a1.lo;.br (!c14.b) (.leaf zQ) (.br (!c15.b) (.leaf zQ) (let c19 := zcn a0.hi a1.hi;let c20 := zdM a0.hi a1.hi;.br (!c19.b) (.leaf zQ) (.br (!c20.b) (.leaf zQ) (.leaf (za3 (mn (mn (mn (mn c5.a c5.a) c9.a) c14.a) c19.a) (mx (mx (mx (mx c6.a c6.a) c10.a) c15.a) c20.a) true)))))))))))
theorem r_impl_DivI (a0 : Iv) (a1 : Iv) : Tb139.run B139 [enc a0, enc a1] (Iv) = (t_impl_DivI a0 a1).opt := by kernel_rfl
noncomputable def zbj : Iv -> Iv -> Iv := fun a0 a1 => (t_impl_DivI a0 a1).get
theorem u_impl_DivI (a0 : Iv) (a1 : Iv) : (t_impl_DivI a0 a1).opt = some (zbj a0 a1) := Tr.zaB (by kernel_rfl)
noncomputable def E_impl_DivI : Ent Tryz.prog := .of2 Tb139 B139 (fun _ _ => true) zbj fun a0 a1 _ => (r_impl_DivI a0 a1).trans (u_impl_DivI a0 a1)
noncomputable def zfb (a0 : Iv) : Tr (T2 I64 I64) :=
  let c2 := zB a0.lo (Rng.w .i64 (0 - a0.lo.val));let c4 := zB a0.hi (Rng.w .i64 (0 - a0.hi.val));.br (zaH a0 ⟨0, rfl⟩) (.leaf ⟨⟨0, rfl⟩, (zB c2 c4)⟩) (.leaf ⟨(zJ c2 c4), (zB c2 c4)⟩)
noncomputable def zP : Iv -> T2 I64 I64 := fun a0 => (zfb a0).get
noncomputable def t_spec_SqrI (a0 : Iv) : Tr (Iv) :=
  .br (!(zn a0)) (.leaf zz) (let c3 := zP a0;let c4 := zS c3.a c3.a;let c5 := zal c3.b c3.b;.br (!c4.b) (.leaf zz) (.br (!c5.b) (.leaf zz) (.leaf (zay c4.a c5.a))))
noncomputable def zbG : Iv -> Iv := fun a0 => (t_spec_SqrI a0).get
noncomputable def B137 : Bod Tryz.prog := ⟨137, Tryz.f137, Tryz.f137.body.getD .skip, Tryz.func137, by kernel_rfl, by kernel_rfl, zaU.no _ _⟩
noncomputable def Tb137 : Tb Tryz.prog := { T := [Y2, Y30], mix := mix, Es := [zb1, zaI, E_impl_HasI, E_impl_abs], Bs := [], d := 1 }
noncomputable def t_impl_AbsI (a0 : Iv) : Tr (Iv) :=
  .br (zar a0) (.leaf zQ) (let c5 := zbq a0.lo;let c6 := zbq a0.hi;.br (zdp a0 ⟨0, rfl⟩) (.leaf ⟨⟨0, rfl⟩, (mx c5 c6)⟩) (.leaf ⟨(mn (zbq a0.lo) (zbq a0.hi)), (mx c5 c6)⟩))
theorem r_impl_AbsI (a0 : Iv) : Tb137.run B137 [enc a0] (Iv) = (t_impl_AbsI a0).opt := by kernel_rfl
noncomputable def zdr : Iv -> Iv := fun a0 => (t_impl_AbsI a0).get
theorem u_impl_AbsI (a0 : Iv) : (t_impl_AbsI a0).opt = some (zdr a0) := Tr.zaB (by kernel_rfl)
noncomputable def E_impl_AbsI : Ent Tryz.prog := .of1 Tb137 B137 (fun _ => true) zdr fun a0 _ => (r_impl_AbsI a0).trans (u_impl_AbsI a0)
noncomputable def B206 : Bod Tryz.prog := ⟨206, Tryz.f206, Tryz.f206.body.getD .skip, Tryz.func206, by kernel_rfl, by kernel_rfl, zaU.no _ _⟩
noncomputable def Tb206 : Tb Tryz.prog := { T := [Y2, Y30], mix := mix, Es := [zb1, E_impl_AbsI, zaI, zcO, E_impl_MulDown, E_impl_MulUp], Bs := [], d := 1 }
noncomputable def t_impl_SqrI (a0 : Iv) : Tr (Iv) :=
  .br (zar a0) (.leaf zQ) (let c3 := zdr a0;.br (zcj c3.lo c3.lo) (let c4 := zcN c3.lo c3.lo;.br (zdK c3.hi c3.hi) (let c5 := zeG c3.hi c3.hi;.br c4.b (.leaf (za3 c4.a c5.a c5.b)) (.leaf (za3 c4.a c5.a false))) (.bad)) (.bad))
theorem r_impl_SqrI (a0 : Iv) : Tb206.run B206 [enc a0] (Iv) = (t_impl_SqrI a0).opt := by kernel_rfl
noncomputable def zfz : Iv -> Iv := fun a0 => (t_impl_SqrI a0).get
structure zcy where
  x0 : U64
  x1 : I64
  x2 : I64
  x3 : U64
instance : Inhabited zcy := ⟨⟨default, default, default, default⟩⟩
noncomputable def rd_spec_l02Root_3 : St -> Option zcy := fun s => match s with
  | ⟨[(1, .ptr 0 0), (3, .u64 x0), (4, .i64 x1)], 43, ⟨[(0, [.i64 x2, .u64 x3])], 1, 0⟩⟩ => some ⟨x0, x1, x2, x3⟩
  | _ => none
noncomputable def zbN (x : zcy) : Tr (Lp zcy) :=
  .br (decide (x.x1.val >= 0)) (let c2 := (Rng.w .u64 (zbd .or .u64 x.x0.val (Rng.w .u64 (1 * (2 ^ min ((Rng.w .u64 (x.x1.val)).val).toNat 64))).val));let c3 := F_spec_l02Times c2 c2;.br (decide (c3.a.val < (Rng.w .u64 (x.x2.val)).val)) (.leaf (.again ⟨c2, (Rng.w .i64 (x.x1.val - 1)), x.x2, x.x3⟩)) (.br (c3.a.val == (Rng.w .u64 (x.x2.val)).val) (.br (decide (c3.b.val <= x.x3.val)) (.leaf (.again ⟨c2, (Rng.w .i64 (x.x1.val - 1)), x.x2, x.x3⟩)) (.leaf (.again ⟨x.x0, (Rng.w .i64 (x.x1.val - 1)), x.x2, x.x3⟩))) (.leaf (.again ⟨x.x0, (Rng.w .i64 (x.x1.val - 1)), x.x2, x.x3⟩)))) (.leaf (.out ⟨x.x0, x.x1, x.x2, x.x3⟩))
noncomputable def zd3 (x : zcy) : Bool := (Lf zbN 66 x).opt.isSome
noncomputable def L_spec_l02Root_3 (x : zcy) : zcy := (Lf zbN 66 x).get
noncomputable def zdf (a0 : Wide) : Tr (U64) :=
  .br (zd3 ⟨⟨0, rfl⟩, ⟨63, rfl⟩, a0.hi, a0.lo⟩) (.leaf (L_spec_l02Root_3 ⟨⟨0, rfl⟩, ⟨63, rfl⟩, a0.hi, a0.lo⟩).x0) (.bad)
noncomputable def zH : Wide -> U64 := fun a0 => (zdf a0).get
noncomputable def G_spec_l02Root : Wide -> Bool := fun a0 => (zdf a0).opt.isSome
noncomputable def zdU (a0 : I64) (a1 : I64) : Tr (T2 I64 Bool) :=
  .br (decide (a0.val < 0)) (.leaf ⟨⟨0, rfl⟩, false⟩) (.br (decide (a1.val < 0)) (.leaf ⟨⟨0, rfl⟩, false⟩) (let c1 := zcF a0 a1;.br (G_spec_l02Root c1) (.leaf ⟨(Rng.w .i64 ((zH c1).val)), true⟩) (.bad)))
noncomputable def zfv : I64 -> I64 -> T2 I64 Bool := fun a0 a1 => (zdU a0 a1).get
noncomputable def G_spec_SqrtFloor : I64 -> I64 -> Bool := fun a0 a1 => (zdU a0 a1).opt.isSome
noncomputable def zc7 (a0 : I64) : Tr (T2 I64 Bool) :=
  .br (!(zaG a0 ⟨0, rfl⟩ ⟨1152921504606846976, rfl⟩)) (.leaf ⟨⟨0, rfl⟩, false⟩) (.br (G_spec_SqrtFloor a0 ⟨4294967296, rfl⟩) (let c2 := zfv a0 ⟨4294967296, rfl⟩;.leaf ⟨c2.a, c2.b⟩) (.bad))
noncomputable def zb6 : I64 -> T2 I64 Bool := fun a0 => (zc7 a0).get
noncomputable def zej : I64 -> Bool := fun a0 => (zc7 a0).opt.isSome
noncomputable def zb9 (a0 : I64) : Tr (T2 I64 Bool) :=
  .br (zej a0) (let c1 := zb6 a0;.br (!c1.b) (.leaf ⟨⟨0, rfl⟩, false⟩) (.br ((zaT c1.a c1.a ⟨32, rfl⟩).a.val != a0.val) (.leaf ⟨(Rng.w .i64 (c1.a.val + 1)), true⟩) (.br ((Rng.w .i64 (zbd .and .i64 (Rng.w .i64 (c1.a.val * c1.a.val)).val 4294967295)).val != 0) (.leaf ⟨(Rng.w .i64 (c1.a.val + 1)), true⟩) (.leaf ⟨c1.a, true⟩)))) (.bad)
noncomputable def zbP : I64 -> T2 I64 Bool := fun a0 => (zb9 a0).get
noncomputable def G_spec_l03SqrtUp : I64 -> Bool := fun a0 => (zb9 a0).opt.isSome
noncomputable def t_spec_SqrtI (a0 : Iv) : Tr (Iv) :=
  .br (!(zn a0)) (.leaf zz) (.br (decide (a0.lo.val < 0)) (.leaf zz) (.br (zej a0.lo) (.br (G_spec_l03SqrtUp a0.hi) (.leaf (zay (zb6 a0.lo).a (zbP a0.hi).a)) (.bad)) (.bad)))
noncomputable def zcp : Iv -> Iv := fun a0 => (t_spec_SqrtI a0).get
structure zbW where
  x0 : U64
  x1 : I64
  x2 : I64
  x3 : U64
instance : Inhabited zbW := ⟨⟨default, default, default, default⟩⟩
noncomputable def st_impl_WideSqrt_5 (x : zbW) : St := ⟨[(1, .ptr 0 0), (4, .u64 x.x0), (5, .i64 x.x1)], 46, ⟨[(0, [.i64 x.x2, .u64 x.x3])], 1, 0⟩⟩
noncomputable def rd_impl_WideSqrt_5 : St -> Option zbW := fun s => match s with
  | ⟨[(1, .ptr 0 0), (4, .u64 x0), (5, .i64 x1)], 46, ⟨[(0, [.i64 x2, .u64 x3])], 1, 0⟩⟩ => some ⟨x0, x1, x2, x3⟩
  | _ => none
noncomputable def zcS (x : zbW) : Tr (Lp zbW) :=
  .br (decide (x.x1.val >= 0)) (.br (decide (x.x1.val < 0)) (.bad) (let c2 := (Rng.w .u64 (zbd .or .u64 x.x0.val (Rng.w .u64 (1 * (2 ^ min (x.x1.val).toNat 64))).val));let c3 := zcU c2 c2;.br (decide (c3.a.val < (Rng.w .u64 (x.x2.val)).val)) (.leaf (.again ⟨c2, (Rng.w .i64 (x.x1.val - 1)), x.x2, x.x3⟩)) (.br (c3.a.val == (Rng.w .u64 (x.x2.val)).val) (.br (decide (c3.b.val <= x.x3.val)) (.leaf (.again ⟨c2, (Rng.w .i64 (x.x1.val - 1)), x.x2, x.x3⟩)) (.leaf (.again ⟨x.x0, (Rng.w .i64 (x.x1.val - 1)), x.x2, x.x3⟩))) (.leaf (.again ⟨x.x0, (Rng.w .i64 (x.x1.val - 1)), x.x2, x.x3⟩))))) (.leaf (.out ⟨x.x0, x.x1, x.x2, x.x3⟩))
noncomputable def zeU (x : zbW) : Bool := (Lf zcS 66 x).opt.isSome
noncomputable def L_impl_WideSqrt_5 (x : zbW) : zbW := (Lf zcS 66 x).get
noncomputable def TbL_impl_WideSqrt_5 : Tb Tryz.prog := { T := [Y2, Y132, Y148], mix := mix, Es := [E_math_bits_Mul64], Bs := [], d := 1 }
noncomputable def P_impl_WideSqrt_5 : LpF := loopF [1, 4, 5] [0] 1 rd_impl_WideSqrt_5 st_impl_WideSqrt_5 (.exit 0) zeU L_impl_WideSqrt_5
theorem lok_impl_WideSqrt_5 : LoopOk Tryz.prog (loopAt (Tryz.f258.body.getD .skip) 0) P_impl_WideSqrt_5 := loopF_ok (t := TbL_impl_WideSqrt_5) (lt := fun _ => none) (body := zcS) (n := 66) (by intro h;cases h) (fun _ _ _ h => by cases h)
  (by intro s x h;unfold rd_impl_WideSqrt_5 at h;split at h <;> cases h;rfl) (fun x b cs h => lk_lt (l := (st_impl_WideSqrt_5 x).mm.blks) (by kernel_rfl) h) (by intro x;kernel_rfl) (fun x h => Tr.get_some h)
noncomputable def B258 : Bod Tryz.prog := ⟨258, Tryz.f258, Tryz.f258.body.getD .skip, Tryz.func258, by kernel_rfl, by kernel_rfl, ⟨ltOf [(5, P_impl_WideSqrt_5)], zaU.of (ks := [5]) (by kernel_rfl) (by
  intro i k h f hf
  match i, h with
  | 0, h => cases h;obtain rfl : P_impl_WideSqrt_5 = f := Option.some.inj hf;exact lok_impl_WideSqrt_5
  | n + 1, h => simp at h)⟩⟩
noncomputable def Tb258 : Tb Tryz.prog := { T := [Y2, Y132, Y148], mix := mix, Es := [], Bs := [], d := 1 }
noncomputable def zdy (a0 : Wide) : Tr (T2 U64 Bool) :=
  .br (decide (a0.hi.val < 0)) (.leaf ⟨⟨0, rfl⟩, false⟩) (.br (zeU ⟨⟨0, rfl⟩, ⟨63, rfl⟩, a0.hi, a0.lo⟩) (.leaf ⟨(L_impl_WideSqrt_5 ⟨⟨0, rfl⟩, ⟨63, rfl⟩, a0.hi, a0.lo⟩).x0, true⟩) (.bad))
theorem r_impl_WideSqrt (a0 : Wide) : Tb258.run B258 [enc a0] (T2 U64 Bool) = (zdy a0).opt := by kernel_rfl
noncomputable def zcr : Wide -> T2 U64 Bool := fun a0 => (zdy a0).get
noncomputable def G_impl_WideSqrt : Wide -> Bool := fun a0 => (zdy a0).opt.isSome
noncomputable def E_impl_WideSqrt : Ent Tryz.prog := .of1 Tb258 B258 G_impl_WideSqrt zcr fun a0 h => (r_impl_WideSqrt a0).trans (Tr.get_some h)
noncomputable def B278 : Bod Tryz.prog := ⟨278, Tryz.f278, Tryz.f278.body.getD .skip, Tryz.func278, by kernel_rfl, by kernel_rfl, zaU.no _ _⟩
noncomputable def Tb278 : Tb Tryz.prog := { T := [Y2, Y132], mix := mix, Es := [zee, E_impl_WideSqrt], Bs := [], d := 1 }
noncomputable def zc2 (a0 : I64) (a1 : I64) : Tr (T2 I64 Bool) :=
  .br (decide (a0.val < 0)) (.leaf ⟨⟨0, rfl⟩, false⟩) (.br (decide (a1.val < 0)) (.leaf ⟨⟨0, rfl⟩, false⟩) (let c1 := zbp a0 a1;.br (G_impl_WideSqrt c1) (let c2 := zcr c1;.leaf ⟨(Rng.w .i64 (c2.a.val)), c2.b⟩) (.bad)))
theorem r_impl_SqrtFloor (a0 : I64) (a1 : I64) : Tb278.run B278 [enc a0, enc a1] (T2 I64 Bool) = (zc2 a0 a1).opt := by kernel_rfl
noncomputable def zd5 : I64 -> I64 -> T2 I64 Bool := fun a0 a1 => (zc2 a0 a1).get
noncomputable def zfu : I64 -> I64 -> Bool := fun a0 a1 => (zc2 a0 a1).opt.isSome
noncomputable def E_impl_SqrtFloor : Ent Tryz.prog := .of2 Tb278 B278 zfu zd5 fun a0 a1 h => (r_impl_SqrtFloor a0 a1).trans (Tr.get_some h)
noncomputable def B204 : Bod Tryz.prog := ⟨204, Tryz.f204, Tryz.f204.body.getD .skip, Tryz.func204, by kernel_rfl, by kernel_rfl, zaU.no _ _⟩
noncomputable def Tb204 : Tb Tryz.prog := { T := [], mix := mix, Es := [zdG, zfL, E_impl_SqrtFloor], Bs := [], d := 1 }
noncomputable def zdz (a0 : I64) : Tr (T2 I64 Bool) :=
  .br (!(zaZ a0)) (.leaf ⟨⟨0, rfl⟩, false⟩) (.br (zfu a0 ⟨4294967296, rfl⟩) (let c2 := zd5 a0 ⟨4294967296, rfl⟩;let c3 := zbY c2.a c2.b;.leaf ⟨c3.a, c3.b⟩) (.bad))
theorem r_impl_SqrtDown (a0 : I64) : Tb204.run B204 [enc a0] (T2 I64 Bool) = (zdz a0).opt := by kernel_rfl
noncomputable def zdE : I64 -> T2 I64 Bool := fun a0 => (zdz a0).get
noncomputable def zeB : I64 -> Bool := fun a0 => (zdz a0).opt.isSome
noncomputable def E_impl_SqrtDown : Ent Tryz.prog := .of1 Tb204 B204 zeB zdE fun a0 h => (r_impl_SqrtDown a0).trans (Tr.get_some h)
noncomputable def B205 : Bod Tryz.prog := ⟨205, Tryz.f205, Tryz.f205.body.getD .skip, Tryz.func205, by kernel_rfl, by kernel_rfl, zaU.no _ _⟩
noncomputable def Tb205 : Tb Tryz.prog := { T := [Y2, Y132, Y148], mix := mix, Es := [E_impl_SqrtDown, zee, zfL], Bs := [], d := 1 }
noncomputable def zdN (a0 : I64) : Tr (T2 I64 Bool) :=
  .br (zeB a0) (let c1 := zdE a0;.br c1.b (let c2 := zbp c1.a c1.a;let c3 := zbp a0 ⟨4294967296, rfl⟩;.br (!((c2.hi.val == c3.hi.val) && ((c2.lo.val == c3.lo.val) && true))) (let c6 := zbY (Rng.w .i64 (c1.a.val + 1)) c1.b;.leaf ⟨c6.a, c6.b⟩) (let c7 := zbY c1.a c1.b;.leaf ⟨c7.a, c7.b⟩)) (let c8 := zbY c1.a c1.b;.leaf ⟨c8.a, c8.b⟩)) (.bad)
theorem r_impl_SqrtUp (a0 : I64) : Tb205.run B205 [enc a0] (T2 I64 Bool) = (zdN a0).opt := by kernel_rfl
noncomputable def zeZ : I64 -> T2 I64 Bool := fun a0 => (zdN a0).get
noncomputable def G_impl_SqrtUp : I64 -> Bool := fun a0 => (zdN a0).opt.isSome
noncomputable def E_impl_SqrtUp : Ent Tryz.prog := .of1 Tb205 B205 G_impl_SqrtUp zeZ fun a0 h => (r_impl_SqrtUp a0).trans (Tr.get_some h)
noncomputable def B121 : Bod Tryz.prog := ⟨121, Tryz.f121, Tryz.f121.body.getD .skip, Tryz.func121, by kernel_rfl, by kernel_rfl, zaU.no _ _⟩
noncomputable def Tb121 : Tb Tryz.prog := { T := [Y2, Y30], mix := mix, Es := [zb1, zaI, zcO, E_impl_SqrtDown, E_impl_SqrtUp], Bs := [], d := 1 }
noncomputable def t_impl_SqrtI (a0 : Iv) : Tr (Iv) :=
  .br (zar a0) (.leaf zQ) (.br (decide (a0.lo.val < 0)) (.leaf zQ) (.br (zeB a0.lo) (let c4 := zdE a0.lo;.br (G_impl_SqrtUp a0.hi) (let c5 := zeZ a0.hi;.br c4.b (.leaf (za3 c4.a c5.a c5.b)) (.leaf (za3 c4.a c5.a false))) (.bad)) (.bad)))
theorem r_impl_SqrtI (a0 : Iv) : Tb121.run B121 [enc a0] (Iv) = (t_impl_SqrtI a0).opt := by kernel_rfl
noncomputable def F_impl_SqrtI : Iv -> Iv := fun a0 => (t_impl_SqrtI a0).get
end
end Go.Proofs.YtfcjhkkpbnobhaaGreat.Ev
namespace Go.Proofs.YtfcjhkkpbnobhaaGreat.Ev
open Go
theorem or_zero (x : U64) : (Rng.w .u64 (zbd .or .u64 x.val 0)).val = x.val := by
  have b := x.ubd
  rw [or_add 0 x.val.toNat (by simp;omega) (by omega) (by decide) (by omega)]
  rw [wu (by omega) (by omega)];omega
theorem shift_ok (w : Wide) (n : I64) (h : 0 <= n.val /\ n.val <= 127) : (zdX w n).opt = some (zdC w n) := by
  have hw : za1 n ⟨0, rfl⟩ ⟨127, rfl⟩ = true := by rw [zc6];simpa using h
  have en : (Rng.w .u64 n.val).val = n.val := wu (by omega) (by omega)
  simp only [zdX, Tr.opt, hw, Bool.not_true, cond_false, zdC, t_spec_l02Shift, Tr.get, en]
  by_cases h64 : n.val >= 64
  · have e0 : (n.val == 0) = false := by simp;omega
    have e1 : decide (n.val < 64) = false := by simp;omega
    have e2 : (Rng.w .i64 (n.val - 64)).val = n.val - 64 := wi (by omega) (by omega)
    have e3 : decide ((Rng.w .i64 (n.val - 64)).val < 0) = false := by rw [e2];simp;omega
    have e4 : (Rng.w .u64 (Rng.w .i64 (n.val - 64)).val).val = (Rng.w .i64 (n.val - 64)).val := by rw [e2];exact wu (by omega) (by omega)
    simp only [h64, decide_true, cond_true, e0, e1, e3, cond_false, e4]
  · have e1 : decide (n.val < 64) = true := by simp;omega
    have e2 : decide (n.val < 0) = false := by simp;omega
    have e3 : (Rng.w .i64 (64 - n.val)).val = 64 - n.val := wi (by omega) (by omega)
    have e4 : decide ((Rng.w .i64 (64 - n.val)).val < 0) = false := by rw [e3];simp;omega
    have e5 : (Rng.w .u64 (Rng.w .i64 (64 - n.val)).val).val = (Rng.w .i64 (64 - n.val)).val := by rw [e3];exact wu (by omega) (by omega)
    simp only [h64, decide_false, cond_false, e1, e2, e4, e5, cond_true]
    by_cases h0 : n.val = 0
    · have e0 : (n.val == 0) = true := by simp [h0]
      simp only [e0, cond_true]
      rw [h0]
      congr 1
      apply wide_ext
      have bl := w.lo.ubd
      have k1 : min (Int.toNat 0) 64 = 0 := by rfl
      have k2 : min (Rng.w .i64 (64 - 0)).val.toNat 64 = 64 := by rfl
      have k3 : (2 : Int) ^ 64 = 18446744073709551616 := by decide
      have k4 : (Rng.w .u64 (w.lo.val.fdiv (2 ^ 0))) = w.lo := by rw [show (2 : Int) ^ 0 = 1 by rfl, Int.fdiv_one];exact Rng.w_val _
      have k5 : (Rng.w .u64 ((Rng.w .u64 w.hi.val).val * 18446744073709551616)).val = 0 := by rw [za9];omega
      have k6 : Rng.w .i64 (w.hi.val.fdiv (2 ^ 0)) = w.hi := by rw [show (2 : Int) ^ 0 = 1 by rfl, Int.fdiv_one];exact Rng.w_val _
      simp only [k1, k2, k3, k4, k5, k6, wv, or_zero]
    · have e0 : (n.val == 0) = false := by simp [h0]
      simp only [e0, cond_false]
theorem shift_F (w : Wide) (n : I64) (h : 0 <= n.val /\ n.val <= 127) : F_impl_WideShift w n = zdC w n := Tr.zaR (shift_ok w n h)
theorem shift_G (w : Wide) (n : I64) (h : 0 <= n.val /\ n.val <= 127) : zft w n = true := by unfold zft;rw [shift_ok w n h];rfl
theorem mulfloor_ok (a b n : I64) : (zdA a b n).opt = some (zaT a b n) := by
  simp only [zdA, Tr.opt, zaT, t_spec_MulFloor, Tr.get, zc6, ze5, mul_impl, mul_spec, int_impl, int_spec]
  by_cases h : 0 <= n.val /\ n.val <= 126
  · have h' : 0 <= n.val /\ n.val <= 127 := by omega
    simp only [h, and_self, decide_true, Bool.not_true, cond_false, shift_F _ _ h', shift_G _ _ h', cond_true]
  · simp only [h, decide_false, Bool.not_false, cond_true]
theorem mulfloor_F (a b n : I64) : zcX a b n = zaT a b n := Tr.zaR (mulfloor_ok a b n)
theorem mulfloor_G (a b n : I64) : G_impl_MulFloor a b n = true := by unfold G_impl_MulFloor;rw [mulfloor_ok];rfl
theorem okfix_eq (a : I64) : zaZ a = zM a := by
  simp only [zaZ, zet, zM, zeo, Tr.get, zc6, ze5]
theorem muldown_ok (a b : I64) : (zfg a b).opt = some (zS a b) := by
  simp only [zfg, Tr.opt, zS, zcQ, Tr.get, okfix_eq, mulfloor_F, mulfloor_G, end_eq, cond_true]
  cases zM a <;> cases zM b <;> rfl
theorem muldown_F (a b : I64) : zcN a b = zS a b := Tr.zaR (muldown_ok a b)
theorem muldown_G (a b : I64) : zcj a b = true := by unfold zcj;rw [muldown_ok];rfl
theorem end_cases (a : I64) (b : Bool) : zau a b = ⟨⟨0, rfl⟩, false⟩ \/ (zau a b = ⟨a, true⟩ /\ zM a = true) := by
  simp only [zau, zcE, Tr.get]
  cases b
  · left;rfl
  · cases h : zM a
    · left;rfl
    · right;exact ⟨rfl, rfl⟩
theorem zdO (a b : I64) : zS a b = ⟨⟨0, rfl⟩, false⟩ \/ ∃ c, zS a b = ⟨c, true⟩ /\ zM c = true := by
  simp only [zS, zcQ, Tr.get]
  cases zM a
  · left;rfl
  · cases zM b
    · left;rfl
    · simp only [Bool.not_true, cond_false]
      rcases end_cases (zaT a b ⟨32, rfl⟩).a (zaT a b ⟨32, rfl⟩).b with h | ⟨h, k⟩
      · left;rw [h]
      · right;exact ⟨_, h, k⟩
theorem muldown_bad (a b : I64) (h : zM b = false) : zS a b = ⟨⟨0, rfl⟩, false⟩ := by
  simp only [zS, zcQ, Tr.get, h]
  cases zM a <;> rfl
theorem mulup_ok (a b : I64) : (t_impl_MulUp a b).opt = some (zal a b) := by
  simp only [t_impl_MulUp, Tr.opt, zal, zep, Tr.get, okfix_eq, muldown_F, muldown_G, cond_true]
  cases zM a
  · rfl
  · simp only [Bool.not_true, cond_false]
    cases hb : zM b
    · rw [muldown_bad _ _ hb];rfl
    · simp only [Bool.not_true, cond_false]
      rcases zdO (.w .i64 (0 - a.val)) b with h | ⟨c, h, _⟩ <;> rw [h] <;> rfl
theorem mulup_F (a b : I64) : zeG a b = zal a b := Tr.zaR (mulup_ok a b)
theorem mulup_G (a b : I64) : zdK a b = true := by unfold zdK;rw [mulup_ok];rfl
theorem divdown_F (a b : I64) : zcn a b = zN a b := by
  simp only [zcn, t_impl_DivDown, zN, zbU, Tr.get, okfix_eq, md_F_impl, zd0, end_eq]
  cases zM a
  · rfl
  · cases zM b
    · rfl
    · simp only [Bool.not_true, cond_false]
      by_cases h0 : b.val = 0
      · have e0 : (b.val == 0) = true := by simp [h0]
        have e1 : decide (b.val < 0) = false := by simp [h0]
        simp only [e0, e1, cond_true, cond_false, MD]
        rw [if_neg (by omega)]
        simp only [end_no]
      · have e0 : (b.val == 0) = false := by simp [h0]
        simp only [e0, cond_false]
theorem zdQ (a b : I64) : zN a b = ⟨⟨0, rfl⟩, false⟩ \/ ∃ c, zN a b = ⟨c, true⟩ /\ zM c = true := by
  simp only [zN, zbU, Tr.get, zd0]
  cases zM a
  · left;rfl
  · cases zM b
    · left;rfl
    · simp only [Bool.not_true, cond_false]
      cases (b.val == 0)
      · simp only [cond_false]
        cases decide (b.val < 0)
        · simp only [cond_false]
          rcases end_cases (MD a ⟨4294967296, rfl⟩ b).a (MD a ⟨4294967296, rfl⟩ b).b with h | ⟨h, k⟩
          · left;rw [h]
          · right;exact ⟨_, h, k⟩
        · simp only [cond_true]
          rcases end_cases (MD (.w .i64 (0 - a.val)) ⟨4294967296, rfl⟩ (.w .i64 (0 - b.val))).a (MD (.w .i64 (0 - a.val)) ⟨4294967296, rfl⟩ (.w .i64 (0 - b.val))).b with h | ⟨h, k⟩
          · left;rw [h]
          · right;exact ⟨_, h, k⟩
      · left;rfl
theorem divdown_bad (a b : I64) (h : zM b = false) : zN a b = ⟨⟨0, rfl⟩, false⟩ := by
  simp only [zN, zbU, Tr.get, h]
  cases zM a <;> rfl
theorem divup_F (a b : I64) : zdM a b = zY a b := by
  simp only [zdM, t_impl_DivUp, zY, zdw, Tr.get, okfix_eq, divdown_F]
  cases zM a
  · rfl
  · simp only [Bool.not_true, cond_false]
    cases hb : zM b
    · rw [divdown_bad _ _ hb];rfl
    · rfl
theorem min_eq (a b : I64) : mn a b = zJ a b := by
  simp only [mn, zJ, t_spec_l00Min, Tr.get]
  by_cases h : b.val < a.val
  · have : decide (a.val < b.val) = false := by simp;omega
    simp only [h, decide_true, cond_true, this, cond_false]
  · by_cases h' : a.val < b.val
    · simp only [h, h', decide_true, decide_false, cond_true, cond_false]
    · simp only [h, h', decide_false, cond_false];exact rext (by omega)
theorem max_eq (a b : I64) : mx a b = zB a b := by
  simp only [mx, zB, t_spec_l00Max, Tr.get]
  by_cases h : b.val > a.val
  · have : decide (a.val > b.val) = false := by simp;omega
    simp only [h, decide_true, cond_true, this, cond_false]
  · by_cases h' : a.val > b.val
    · simp only [h, h', decide_true, decide_false, cond_true, cond_false]
    · simp only [h, h', decide_false, cond_false];exact rext (by omega)
theorem ok_bd {a : I64} (h : zM a = true) : -1152921504606846976 <= a.val /\ a.val <= 1152921504606846976 := by
  simpa [zM, zeo, Tr.get, ze5] using h
theorem min_top {a : I64} (h : zM a = true) : zJ ⟨1152921504606846976, rfl⟩ a = a := by
  have := ok_bd h
  simp only [zJ, t_spec_l00Min, Tr.get]
  by_cases h : (1152921504606846976 : Int) < a.val
  · omega
  · simp only [h, decide_false, cond_false]
theorem max_top {a : I64} (h : zM a = true) : zB ⟨-1152921504606846976, rfl⟩ a = a := by
  have := ok_bd h
  simp only [zB, t_spec_l00Max, Tr.get]
  by_cases h : (-1152921504606846976 : Int) > a.val
  · omega
  · simp only [h, decide_false, cond_false]
theorem min_self (a : I64) : zJ a a = a := by
  simp only [zJ, t_spec_l00Min, Tr.get];cases decide (a.val < a.val) <;> rfl
theorem max_self (a : I64) : zB a a = a := by
  simp only [zB, t_spec_l00Max, Tr.get];cases decide (a.val > a.val) <;> rfl
theorem areb_eq (a b : Iv) : zbn a b = (zn a && zn b) := by
  simp only [zbn, zeL, Tr.get, valid_eq]
  cases zn a <;> rfl
theorem ok_neg {c : I64} (h : zM c = true) : zM (.w .i64 (0 - c.val)) = true := by
  have := ok_bd h
  simp only [zM, zeo, Tr.get, ze5]
  rw [wi (by omega) (by omega)]
  simp;omega
theorem mulup_cases (a b : I64) : (zal a b).b = false \/ ∃ c, zal a b = ⟨c, true⟩ /\ zM c = true := by
  simp only [zal, zep, Tr.get]
  cases zM a
  · left;rfl
  · rcases zdO (.w .i64 (0 - a.val)) b with h | ⟨c, h, k⟩
    · left;rw [h];rfl
    · right;rw [h];exact ⟨_, rfl, ok_neg k⟩
theorem divup_cases (a b : I64) : (zY a b).b = false \/ ∃ c, zY a b = ⟨c, true⟩ /\ zM c = true := by
  simp only [zY, zdw, Tr.get]
  cases zM a
  · left;rfl
  · rcases zdQ (.w .i64 (0 - a.val)) b with h | ⟨c, h, k⟩
    · left;rw [h];rfl
    · right;rw [h];exact ⟨_, rfl, ok_neg k⟩
theorem mulI_ok (a b : Iv) : (t_impl_MulI a b).opt = some (z8 a b) := by
  simp only [t_impl_MulI, Tr.opt, z8, t_spec_MulI, Tr.get, areb_eq, muldown_F, muldown_G, mulup_F, mulup_G, cond_true, zch, zfI, min_eq, max_eq]
  cases zn a
  · rfl
  cases zn b
  · rfl
  simp only [Bool.and_self, Bool.not_true, cond_false]
  rcases zdO a.lo b.lo with h | ⟨c1, h, k1⟩
  · rw [h];rfl
  rw [h]
  rcases mulup_cases a.lo b.lo with h | ⟨d1, h, l1⟩
  · simp only [h, Bool.not_true, Bool.not_false, cond_true, cond_false]
  rw [h]
  rcases zdO a.lo b.hi with h | ⟨c2, h, k2⟩
  · rw [h];rfl
  rw [h]
  rcases mulup_cases a.lo b.hi with h | ⟨d2, h, l2⟩
  · simp only [h, Bool.not_true, Bool.not_false, cond_true, cond_false]
  rw [h]
  rcases zdO a.hi b.lo with h | ⟨c3, h, k3⟩
  · rw [h];rfl
  rw [h]
  rcases mulup_cases a.hi b.lo with h | ⟨d3, h, l3⟩
  · simp only [h, Bool.not_true, Bool.not_false, cond_true, cond_false]
  rw [h]
  rcases zdO a.hi b.hi with h | ⟨c4, h, k4⟩
  · rw [h];rfl
  rw [h]
  rcases mulup_cases a.hi b.hi with h | ⟨d4, h, l4⟩
  · simp only [h, Bool.not_true, Bool.not_false, cond_true, cond_false]
  rw [h]
  simp only [Bool.not_true, cond_false, min_self, max_self, min_top k1, max_top l1]
theorem mulI_F (a b : Iv) : zav a b = z8 a b := Tr.zaR (mulI_ok a b)
theorem has_eq (a : Iv) (n : I64) (h : zn a = true) : zdp a n = zaH a n := by
  simp only [zdp, t_impl_HasI, zaH, zb2, Tr.get, zar, zcJ, valid_eq, h, Bool.not_true, cond_false, zc6, ze5]
theorem divI_F (a b : Iv) : zbj a b = zL a b := by
  simp only [zbj, t_impl_DivI, zL, t_spec_DivI, Tr.get, areb_eq, divdown_F, divup_F, zch, zfI, min_eq, max_eq]
  cases ha : zn a
  · rfl
  cases hb : zn b
  · rfl
  simp only [Bool.and_self, Bool.not_true, cond_false, has_eq b _ hb]
  cases zaH b ⟨0, rfl⟩
  case true => rfl
  simp only [cond_false]
  rcases zdQ a.lo b.lo with h | ⟨c1, h, k1⟩
  · rw [h];rfl
  rw [h]
  rcases divup_cases a.lo b.lo with h | ⟨d1, h, l1⟩
  · simp only [h, Bool.not_true, Bool.not_false, cond_true, cond_false]
  rw [h]
  rcases zdQ a.lo b.hi with h | ⟨c2, h, k2⟩
  · rw [h];rfl
  rw [h]
  rcases divup_cases a.lo b.hi with h | ⟨d2, h, l2⟩
  · simp only [h, Bool.not_true, Bool.not_false, cond_true, cond_false]
  rw [h]
  rcases zdQ a.hi b.lo with h | ⟨c3, h, k3⟩
  · rw [h];rfl
  rw [h]
  rcases divup_cases a.hi b.lo with h | ⟨d3, h, l3⟩
  · simp only [h, Bool.not_true, Bool.not_false, cond_true, cond_false]
  rw [h]
  rcases zdQ a.hi b.hi with h | ⟨c4, h, k4⟩
  · rw [h];rfl
  rw [h]
  rcases divup_cases a.hi b.hi with h | ⟨d4, h, l4⟩
  · simp only [h, Bool.not_true, Bool.not_false, cond_true, cond_false]
  rw [h]
  simp only [Bool.not_true, cond_false, cond_true, min_self, max_self, min_top k1, max_top l1]
theorem sqrI_ok (a : Iv) : (t_impl_SqrI a).opt = some (zbG a) := by
  simp only [t_impl_SqrI, Tr.opt, zbG, t_spec_SqrI, Tr.get, muldown_F, muldown_G, mulup_F, mulup_G, cond_true, zch, zfI, zar, zcJ, valid_eq]
  cases h : zn a
  · rfl
  simp only [Bool.not_true, cond_false]
  have e : zdr a = ⟨(zP a).a, (zP a).b⟩ := by
    simp only [zdr, t_impl_AbsI, zP, zfb, Tr.get, zar, zcJ, valid_eq, h, Bool.not_true, cond_false, has_eq a _ h, max_eq, min_eq, zbq, t_impl_abs]
    cases zaH a ⟨0, rfl⟩ <;> rfl
  rw [e]
  cases (zS (zP a).a (zP a).a).b <;> cases (zal (zP a).b (zP a).b).b <;> rfl
theorem sqrI_F (a : Iv) : zfz a = zbG a := Tr.zaR (sqrI_ok a)
theorem tt_mulfloor (a b n : I64) : (zdA a b n).opt = some (zcX a b n) := opt_self (mulfloor_ok a b n)
theorem tt_mulI (a b : Iv) : (t_impl_MulI a b).opt = some (zav a b) := opt_self (mulI_ok a b)
theorem tt_sqrI (a : Iv) : (t_impl_SqrI a).opt = some (zfz a) := opt_self (sqrI_ok a)
end Go.Proofs.YtfcjhkkpbnobhaaGreat.Ev
namespace Go.Proofs.YtfcjhkkpbnobhaaGreat.Ev
open Go
theorem root_loop (hi : I64) (lo : U64) : ∀ (k m : Nat) (r : U64) (i : I64), k <= 64 -> i.val = (k : Int) - 1 ->
    ∃ q : U64, (Lf zbN (k + 1 + m) ⟨r, i, hi, lo⟩).opt = some ⟨q, .w .i64 (-1), hi, lo⟩ /\ (Lf zcS (k + 1 + m) ⟨r, i, hi, lo⟩).opt = some ⟨q, .w .i64 (-1), hi, lo⟩ := by
  intro k
  induction k with
  | zero =>
    intro m r i _ hi'
    have h0 : decide (i.val >= 0) = false := by simp;omega
    have e : i = .w .i64 (-1) := rext (by rw [wi (by omega) (by omega)];omega)
    refine ⟨r, ?_, ?_⟩
    · simp only [Lf, zbN, h0, Tr.bind, Tr.opt, cond_false, Nat.zero_add, Nat.add_comm 1 m, <- e]
    · simp only [Lf, zcS, h0, Tr.bind, Tr.opt, cond_false, Nat.zero_add, Nat.add_comm 1 m, <- e]
  | succ k ih =>
    intro m r i hk hi'
    have h0 : decide (i.val >= 0) = true := by simp;omega
    have h1 : decide (i.val < 0) = false := by simp;omega
    have en : (Rng.w .u64 i.val).val = i.val := wu (by omega) (by omega)
    have e1 : (Rng.w .i64 (i.val - 1)).val = (k : Int) - 1 := by rw [wi (by omega) (by omega)];omega
    have hfuel : k + 1 + 1 + m = (k + 1 + m) + 1 := by omega
    obtain ⟨q1, a1, b1⟩ := ih m (Rng.w .u64 (zbd .or .u64 r.val (Rng.w .u64 (1 * (2 ^ min (i.val).toNat 64))).val)) (.w .i64 (i.val - 1)) (by omega) e1
    obtain ⟨q2, a2, b2⟩ := ih m r (.w .i64 (i.val - 1)) (by omega) e1
    rw [hfuel]
    simp only [Lf, zbN, zcS, h0, h1, en, times_spec, times_impl, Tr.bind, Tr.opt, cond_true, cond_false, a1, b1, a2, b2]
    generalize decide ((Rng.w .u64 _).val < _) = c1
    generalize ((Rng.w .u64 _).val == _) = c2
    generalize decide ((Rng.w .u64 _).val <= _) = c3
    cases c1
    · cases c2
      · exact ⟨q2, rfl, rfl⟩
      · cases c3
        · exact ⟨q2, rfl, rfl⟩
        · exact ⟨q1, rfl, rfl⟩
    · exact ⟨q1, rfl, rfl⟩
theorem root_ok (w : Wide) : (zdf w).opt = some (zH w) /\ (zdy w).opt = some (bif decide (w.hi.val < 0) then ⟨⟨0, rfl⟩, false⟩ else ⟨zH w, true⟩) := by
  obtain ⟨q, h1, h2⟩ := root_loop w.hi w.lo 64 1 ⟨0, rfl⟩ ⟨63, rfl⟩ (by omega) (by rfl)
  have hf : (64 + 1 + 1 : Nat) = 66 := rfl
  rw [hf] at h1 h2
  have g1 : zd3 ⟨⟨0, rfl⟩, ⟨63, rfl⟩, w.hi, w.lo⟩ = true := by unfold zd3;rw [h1];rfl
  have g2 : zeU ⟨⟨0, rfl⟩, ⟨63, rfl⟩, w.hi, w.lo⟩ = true := by unfold zeU;rw [h2];rfl
  have l1 : L_spec_l02Root_3 ⟨⟨0, rfl⟩, ⟨63, rfl⟩, w.hi, w.lo⟩ = _ := Tr.zaR h1
  have l2 : L_impl_WideSqrt_5 ⟨⟨0, rfl⟩, ⟨63, rfl⟩, w.hi, w.lo⟩ = _ := Tr.zaR h2
  have k1 : (zdf w).opt = some q := by simp only [zdf, Tr.opt, g1, l1, cond_true]
  have k2 : zH w = q := Tr.zaR k1
  refine ⟨by rw [k1, k2], ?_⟩
  simp only [zdy, Tr.opt, g2, l2, cond_true, k2]
  cases decide (w.hi.val < 0) <;> rfl
theorem root_G (w : Wide) : G_spec_l02Root w = true := by unfold G_spec_l02Root;rw [(root_ok w).1];rfl
theorem wsqrt_G (w : Wide) : G_impl_WideSqrt w = true := by unfold G_impl_WideSqrt;rw [(root_ok w).2];rfl
theorem tt_wsqrt_impl (w : Wide) : (zdy w).opt = some (zcr w) := opt_self (root_ok w).2
theorem tt_sf_spec (a b : I64) : (zdU a b).opt = some (zfv a b) := zfX (by
  simp only [zdU, Tr.opt, root_G, cond_true]
  cases decide (a.val < 0) <;> cases decide (b.val < 0) <;> rfl)
theorem tt_sf_impl (a b : I64) : (zc2 a b).opt = some (zd5 a b) := zfX (by
  simp only [zc2, Tr.opt, wsqrt_G, cond_true]
  cases decide (a.val < 0) <;> cases decide (b.val < 0) <;> rfl)
theorem sf_G_spec (a b : I64) : G_spec_SqrtFloor a b = true := by unfold G_spec_SqrtFloor;rw [tt_sf_spec];rfl
theorem sf_G_impl (a b : I64) : zfu a b = true := by unfold zfu;rw [tt_sf_impl];rfl
theorem tt_sd_spec (a : I64) : (zc7 a).opt = some (zb6 a) := zfX (by
  simp only [zc7, Tr.opt, sf_G_spec, cond_true]
  cases zaG a ⟨0, rfl⟩ ⟨1152921504606846976, rfl⟩ <;> rfl)
theorem tt_sd_impl (a : I64) : (zdz a).opt = some (zdE a) := zfX (by
  simp only [zdz, Tr.opt, sf_G_impl, cond_true]
  cases zaZ a <;> rfl)
theorem sd_G_spec (a : I64) : zej a = true := by unfold zej;rw [tt_sd_spec];rfl
theorem sd_G_impl (a : I64) : zeB a = true := by unfold zeB;rw [tt_sd_impl];rfl
theorem cond_some {γ : Type} (c : Bool) (x y : Option γ) (hx : x.isSome = true) (hy : y.isSome = true) : (bif c then x else y).isSome = true := by cases c <;> assumption
theorem tt_su_spec (a : I64) : (zb9 a).opt = some (zbP a) := zfX (by
  simp only [zb9, Tr.opt, sd_G_spec, cond_true]
  repeat' (first | apply cond_some | rfl))
theorem tt_su_impl (a : I64) : (zdN a).opt = some (zeZ a) := zfX (by
  simp only [zdN, Tr.opt, sd_G_impl, cond_true]
  repeat' (first | apply cond_some | rfl))
theorem su_G_spec (a : I64) : G_spec_l03SqrtUp a = true := by unfold G_spec_l03SqrtUp;rw [tt_su_spec];rfl
theorem su_G_impl (a : I64) : G_impl_SqrtUp a = true := by unfold G_impl_SqrtUp;rw [tt_su_impl];rfl
theorem tt_sqrtI_impl (a : Iv) : (t_impl_SqrtI a).opt = some (F_impl_SqrtI a) := zfX (by
  simp only [t_impl_SqrtI, Tr.opt, sd_G_impl, su_G_impl, cond_true]
  repeat' (first | apply cond_some | rfl))
end Go.Proofs.YtfcjhkkpbnobhaaGreat.Ev
namespace Go.Proofs.YtfcjhkkpbnobhaaGreat.Ev
open Go Go.RowKit
set_option maxRecDepth 100000
section
noncomputable def ET_impl_WideSqrt : Ent Tryz.prog := .of1 Tb258 B258 (fun _ => true) zcr fun a0 _ => (r_impl_WideSqrt a0).trans (tt_wsqrt_impl a0)
noncomputable def ET_impl_SqrtI : Ent Tryz.prog := .of1 Tb121 B121 (fun _ => true) F_impl_SqrtI fun a0 _ => (r_impl_SqrtI a0).trans (tt_sqrtI_impl a0)
noncomputable def ET_impl_MulFloor : Ent Tryz.prog := .of3 Tb275 B275 (fun _ _ _ => true) zcX fun a0 a1 a2 _ => (r_impl_MulFloor a0 a1 a2).trans (tt_mulfloor a0 a1 a2)
noncomputable def zeH : Ent Tryz.prog := .of2 Tb116 B116 (fun _ _ => true) zav fun a0 a1 _ => (r_impl_MulI a0 a1).trans (tt_mulI a0 a1)
noncomputable def ET_impl_SqrI : Ent Tryz.prog := .of1 Tb206 B206 (fun _ => true) zfz fun a0 _ => (r_impl_SqrI a0).trans (tt_sqrI a0)
noncomputable def zc1 (a0 : I64) : Tr (Iv) :=
  .br (a0.val == 0) (.leaf ⟨⟨0, rfl⟩, ⟨0, rfl⟩⟩) (.br (decide (a0.val < 0)) (.bad) (let c2 := zaT a0 ⟨7244019458077122842, rfl⟩ ⟨30, rfl⟩;.leaf ⟨c2.a, (Rng.w .i64 (c2.a.val + 1))⟩))
noncomputable def zbO : I64 -> Iv := fun a0 => (zc1 a0).get
noncomputable def zd2 : I64 -> Bool := fun a0 => (zc1 a0).opt.isSome
noncomputable def zcI (a0 : I64) : Tr (Iv) :=
  .br (a0.val == 0) (.leaf ⟨⟨0, rfl⟩, ⟨0, rfl⟩⟩) (.br (decide (a0.val < 0)) (let c1 := (Rng.w .i64 (0 - a0.val));.br (zd2 c1) (let c2 := zbO c1;.leaf ⟨(Rng.w .i64 (0 - c2.hi.val)), (Rng.w .i64 (0 - c2.lo.val))⟩) (.bad)) (let c5 := zaT a0 ⟨7244019458077122842, rfl⟩ ⟨30, rfl⟩;.leaf ⟨c5.a, (Rng.w .i64 (c5.a.val + 1))⟩))
noncomputable def zbA : I64 -> Iv := fun a0 => (zcI a0).get
noncomputable def zcL : I64 -> Bool := fun a0 => (zcI a0).opt.isSome
noncomputable def t_spec_TurnI (a0 : I64) : Tr (Iv) :=
  .br (!(zaG a0 ⟨(-4096), rfl⟩ ⟨4096, rfl⟩)) (.leaf zaV) (.br (zcL a0) (.leaf (zbA a0)) (.bad))
noncomputable def zW : I64 -> Iv := fun a0 => (t_spec_TurnI a0).get
noncomputable def B240 : Bod Tryz.prog := ⟨240, Tryz.f240, Tryz.f240.body.getD .skip, Tryz.func240, by kernel_rfl, by kernel_rfl, zaU.no _ _⟩
noncomputable def Tb240_p : Tb Tryz.prog := { T := [Y2, Y30], mix := mix, Es := [zaI, zb7, ET_impl_MulFloor], Bs := [], d := 1 }
noncomputable def zd8 (a0 : I64) : Tr (Iv) :=
  .br (!(za1 a0 ⟨(-4096), rfl⟩ ⟨4096, rfl⟩)) (.leaf zQ) (.br (decide (a0.val < 0)) (.bad) (.br (a0.val == 0) (.leaf ⟨⟨0, rfl⟩, ⟨0, rfl⟩⟩) (let c4 := zcX a0 ⟨7244019458077122842, rfl⟩ ⟨30, rfl⟩;.leaf ⟨c4.a, (Rng.w .i64 (c4.a.val + 1))⟩)))
theorem r_impl_TurnI_p (a0 : I64) : Tb240_p.run B240 [enc a0] (Iv) = (zd8 a0).opt := by kernel_rfl
noncomputable def F_impl_TurnI_p : I64 -> Iv := fun a0 => (zd8 a0).get
noncomputable def G_impl_TurnI_p : I64 -> Bool := fun a0 => (zd8 a0).opt.isSome
noncomputable def E_impl_TurnI_p : Ent Tryz.prog := .of1 Tb240_p B240 G_impl_TurnI_p F_impl_TurnI_p fun a0 h => (r_impl_TurnI_p a0).trans (Tr.get_some h)
noncomputable def Tb240 : Tb Tryz.prog := { T := [Y2, Y30], mix := mix, Es := [zaI, zb7, E_impl_NegI, E_impl_TurnI_p, ET_impl_MulFloor], Bs := [], d := 1 }
noncomputable def zdH (a0 : I64) : Tr (Iv) :=
  .br (!(za1 a0 ⟨(-4096), rfl⟩ ⟨4096, rfl⟩)) (.leaf zQ) (.br (decide (a0.val < 0)) (let c3 := (Rng.w .i64 (0 - a0.val));.br (G_impl_TurnI_p c3) (.leaf (zdn (F_impl_TurnI_p c3))) (.bad)) (.br (a0.val == 0) (.leaf ⟨⟨0, rfl⟩, ⟨0, rfl⟩⟩) (let c6 := zcX a0 ⟨7244019458077122842, rfl⟩ ⟨30, rfl⟩;.leaf ⟨c6.a, (Rng.w .i64 (c6.a.val + 1))⟩)))
theorem r_impl_TurnI (a0 : I64) : Tb240.run B240 [enc a0] (Iv) = (zdH a0).opt := by kernel_rfl
noncomputable def za4 : I64 -> Iv := fun a0 => (zdH a0).get
noncomputable def zen (a0 : I64) : Tr (Bool) :=
  .leaf (zaG a0 ⟨(-1099511627776), rfl⟩ ⟨1099511627776, rfl⟩)
noncomputable def zaW : I64 -> Bool := fun a0 => (zen a0).get
noncomputable def zfN (a0 : I64) (a1 : I64) : Tr (I64) :=
  .br (a1.val == 0) (.bad) (let c1 := (Rng.w .i64 (a0.val.tdiv a1.val));.br (a1.val == 0) (.bad) (.br (decide ((Rng.w .i64 (a0.val.tmod a1.val)).val < 0)) (.leaf (Rng.w .i64 (c1.val - 1))) (.leaf c1)))
noncomputable def F_spec_l06Floor : I64 -> I64 -> I64 := fun a0 a1 => (zfN a0 a1).get
noncomputable def G_spec_l06Floor : I64 -> I64 -> Bool := fun a0 a1 => (zfN a0 a1).opt.isSome
noncomputable def zfm (a0 : I64) : Tr (I64) :=
  .br (!(zaW a0)) (.leaf ⟨0, rfl⟩) (let c2 := (Rng.w .i64 (a0.val + 3373259426));.br (G_spec_l06Floor c2 ⟨6746518852, rfl⟩) (.leaf (F_spec_l06Floor c2 ⟨6746518852, rfl⟩)) (.bad))
noncomputable def zak : I64 -> I64 := fun a0 => (zfm a0).get
noncomputable def B317 : Bod Tryz.prog := ⟨317, Tryz.f317, Tryz.f317.body.getD .skip, Tryz.func317, by kernel_rfl, by kernel_rfl, zaU.no _ _⟩
noncomputable def Tb317 : Tb Tryz.prog := { T := [], mix := mix, Es := [zb7], Bs := [], d := 1 }
noncomputable def t_impl_isAngle (a0 : I64) : Tr (Bool) :=
  .leaf (za1 a0 ⟨(-1099511627776), rfl⟩ ⟨1099511627776, rfl⟩)
theorem r_impl_isAngle (a0 : I64) : Tb317.run B317 [enc a0] (Bool) = (t_impl_isAngle a0).opt := by kernel_rfl
noncomputable def zcM : I64 -> Bool := fun a0 => (t_impl_isAngle a0).get
theorem u_impl_isAngle (a0 : I64) : (t_impl_isAngle a0).opt = some (zcM a0) := Tr.zaB (by kernel_rfl)
noncomputable def E_impl_isAngle : Ent Tryz.prog := .of1 Tb317 B317 (fun _ => true) zcM fun a0 _ => (r_impl_isAngle a0).trans (u_impl_isAngle a0)
noncomputable def B318 : Bod Tryz.prog := ⟨318, Tryz.f318, Tryz.f318.body.getD .skip, Tryz.func318, by kernel_rfl, by kernel_rfl, zaU.no _ _⟩
noncomputable def Tb318 : Tb Tryz.prog := { T := [], mix := mix, Es := [E_impl_isAngle], Bs := [], d := 1 }
noncomputable def zdZ (a0 : I64) : Tr (I64) :=
  .br (!(zcM a0)) (.leaf ⟨0, rfl⟩) (let c3 := (Rng.w .i64 ((Rng.w .i64 (a0.val + 3373259426)).val.tdiv 6746518852));.br (decide ((Rng.w .i64 (c3.val * 6746518852)).val > (Rng.w .i64 (a0.val + 3373259426)).val)) (.leaf (Rng.w .i64 (c3.val - 1))) (.leaf c3))
theorem r_impl_QuarterOf (a0 : I64) : Tb318.run B318 [enc a0] (I64) = (zdZ a0).opt := by kernel_rfl
noncomputable def zbR : I64 -> I64 := fun a0 => (zdZ a0).get
theorem u_impl_QuarterOf (a0 : I64) : (zdZ a0).opt = some (zbR a0) := Tr.zaB (by kernel_rfl)
noncomputable def E_impl_QuarterOf : Ent Tryz.prog := .of1 Tb318 B318 (fun _ => true) zbR fun a0 _ => (r_impl_QuarterOf a0).trans (u_impl_QuarterOf a0)
noncomputable def zfE (a0 : Iv) (a1 : Iv) : Tr (T2 Iv Bool) :=
  .br (!(zn a0)) (.br (!(zn a1)) (.leaf ⟨zz, true⟩) (.br (!(zn a0)) (.leaf ⟨a1, true⟩) (.br (!(zn a1)) (.leaf ⟨a0, true⟩) (let c6 := zB a0.lo a1.lo;let c7 := zJ a0.hi a1.hi;.br (decide (c6.val > c7.val)) (.leaf ⟨⟨⟨0, rfl⟩, ⟨0, rfl⟩⟩, false⟩) (.leaf ⟨⟨c6, c7⟩, true⟩))))) (.br (!(zn a0)) (.leaf ⟨a1, true⟩) (.br (!(zn a1)) (.leaf ⟨a0, true⟩) (let c11 := zB a0.lo a1.lo;let c12 := zJ a0.hi a1.hi;.br (decide (c11.val > c12.val)) (.leaf ⟨⟨⟨0, rfl⟩, ⟨0, rfl⟩⟩, false⟩) (.leaf ⟨⟨c11, c12⟩, true⟩))))
noncomputable def zdc : Iv -> Iv -> T2 Iv Bool := fun a0 a1 => (zfE a0 a1).get
noncomputable def t_spec_OverlapI (a0 : Iv) (a1 : Iv) : Tr (Bool) :=
  .leaf (zdc a0 a1).b
noncomputable def zbK : Iv -> Iv -> Bool := fun a0 a1 => (t_spec_OverlapI a0 a1).get
noncomputable def B242 : Bod Tryz.prog := ⟨242, Tryz.f242, Tryz.f242.body.getD .skip, Tryz.func242, by kernel_rfl, by kernel_rfl, zaU.no _ _⟩
noncomputable def Tb242 : Tb Tryz.prog := { T := [Y2, Y30], mix := mix, Es := [zb1, zaI], Bs := [], d := 1 }
noncomputable def t_impl_MeetI (a0 : Iv) (a1 : Iv) : Tr (T2 Iv Bool) :=
  .br (zar a0) (.br (zar a1) (.leaf ⟨zQ, true⟩) (.br (zar a0) (.leaf ⟨a1, true⟩) (.br (zar a1) (.leaf ⟨a0, true⟩) (.br (decide ((mx a0.lo a1.lo).val > (mn a0.hi a1.hi).val)) (.leaf ⟨⟨⟨0, rfl⟩, ⟨0, rfl⟩⟩, false⟩) (.leaf ⟨⟨(mx a0.lo a1.lo), (mn a0.hi a1.hi)⟩, true⟩))))) (.br (zar a0) (.leaf ⟨a1, true⟩) (.br (zar a1) (.leaf ⟨a0, true⟩) (.br (decide ((mx a0.lo a1.lo).val > (mn a0.hi a1.hi).val)) (.leaf ⟨⟨⟨0, rfl⟩, ⟨0, rfl⟩⟩, false⟩) (.leaf ⟨⟨(mx a0.lo a1.lo), (mn a0.hi a1.hi)⟩, true⟩))))
theorem r_impl_MeetI (a0 : Iv) (a1 : Iv) : Tb242.run B242 [enc a0, enc a1] (T2 Iv Bool) = (t_impl_MeetI a0 a1).opt := by kernel_rfl
noncomputable def zfK : Iv -> Iv -> T2 Iv Bool := fun a0 a1 => (t_impl_MeetI a0 a1).get
theorem u_impl_MeetI (a0 : Iv) (a1 : Iv) : (t_impl_MeetI a0 a1).opt = some (zfK a0 a1) := Tr.zaB (by kernel_rfl)
noncomputable def E_impl_MeetI : Ent Tryz.prog := .of2 Tb242 B242 (fun _ _ => true) zfK fun a0 a1 _ => (r_impl_MeetI a0 a1).trans (u_impl_MeetI a0 a1)
noncomputable def B322 : Bod Tryz.prog := ⟨322, Tryz.f322, Tryz.f322.body.getD .skip, Tryz.func322, by kernel_rfl, by kernel_rfl, zaU.no _ _⟩
noncomputable def Tb322 : Tb Tryz.prog := { T := [Y2, Y30], mix := mix, Es := [E_impl_MeetI], Bs := [], d := 1 }
noncomputable def zfS (a0 : Iv) (a1 : Iv) : Tr (Bool) :=
  .leaf (zfK a0 a1).b
theorem r_impl_OverlapI (a0 : Iv) (a1 : Iv) : Tb322.run B322 [enc a0, enc a1] (Bool) = (zfS a0 a1).opt := by kernel_rfl
noncomputable def zcs : Iv -> Iv -> Bool := fun a0 a1 => (zfS a0 a1).get
theorem u_impl_OverlapI (a0 : Iv) (a1 : Iv) : (zfS a0 a1).opt = some (zcs a0 a1) := Tr.zaB (by kernel_rfl)
noncomputable def E_impl_OverlapI : Ent Tryz.prog := .of2 Tb322 B322 (fun _ _ => true) zcs fun a0 a1 _ => (r_impl_OverlapI a0 a1).trans (u_impl_OverlapI a0 a1)
noncomputable def zfe (a0 : Iv) (a1 : Iv) : Tr (Bool) :=
  .br (!(zn a1)) (.leaf true) (.br (zn a0) (.br (decide (a1.lo.val <= a0.lo.val)) (.leaf (decide (a0.hi.val <= a1.hi.val))) (.leaf false)) (.leaf false))
noncomputable def zaS : Iv -> Iv -> Bool := fun a0 a1 => (zfe a0 a1).get
noncomputable def B345 : Bod Tryz.prog := ⟨345, Tryz.f345, Tryz.f345.body.getD .skip, Tryz.func345, by kernel_rfl, by kernel_rfl, zaU.no _ _⟩
noncomputable def Tb345 : Tb Tryz.prog := { T := [Y2, Y30], mix := mix, Es := [zb1], Bs := [], d := 1 }
noncomputable def t_impl_InsideI (a0 : Iv) (a1 : Iv) : Tr (Bool) :=
  .br (zar a0) (.leaf (zar a1)) (.br (zar a1) (.leaf (zar a1)) (.br (decide (a1.lo.val <= a0.lo.val)) (.leaf (decide (a0.hi.val <= a1.hi.val))) (.leaf false)))
theorem r_impl_InsideI (a0 : Iv) (a1 : Iv) : Tb345.run B345 [enc a0, enc a1] (Bool) = (t_impl_InsideI a0 a1).opt := by kernel_rfl
noncomputable def zdo : Iv -> Iv -> Bool := fun a0 a1 => (t_impl_InsideI a0 a1).get
theorem u_impl_InsideI (a0 : Iv) (a1 : Iv) : (t_impl_InsideI a0 a1).opt = some (zdo a0 a1) := Tr.zaB (by kernel_rfl)
noncomputable def E_impl_InsideI : Ent Tryz.prog := .of2 Tb345 B345 (fun _ _ => true) zdo fun a0 a1 _ => (r_impl_InsideI a0 a1).trans (u_impl_InsideI a0 a1)
noncomputable def t_spec_HullI (a0 : Iv) (a1 : Iv) : Tr (Iv) :=
  .br (!(zn a0)) (.leaf zz) (.br (!(zn a1)) (.leaf zz) (.leaf (zay (zJ a0.lo a1.lo) (zB a0.hi a1.hi))))
noncomputable def zX : Iv -> Iv -> Iv := fun a0 a1 => (t_spec_HullI a0 a1).get
noncomputable def B175 : Bod Tryz.prog := ⟨175, Tryz.f175, Tryz.f175.body.getD .skip, Tryz.func175, by kernel_rfl, by kernel_rfl, zaU.no _ _⟩
noncomputable def Tb175 : Tb Tryz.prog := { T := [Y2, Y30], mix := mix, Es := [zcg, zaI], Bs := [], d := 1 }
noncomputable def t_impl_HullI (a0 : Iv) (a1 : Iv) : Tr (Iv) :=
  .br (!(zbn a0 a1)) (.leaf zQ) (.leaf ⟨(mn a0.lo a1.lo), (mx a0.hi a1.hi)⟩)
theorem r_impl_HullI (a0 : Iv) (a1 : Iv) : Tb175.run B175 [enc a0, enc a1] (Iv) = (t_impl_HullI a0 a1).opt := by kernel_rfl
noncomputable def zaw : Iv -> Iv -> Iv := fun a0 a1 => (t_impl_HullI a0 a1).get
theorem u_impl_HullI (a0 : Iv) (a1 : Iv) : (t_impl_HullI a0 a1).opt = some (zaw a0 a1) := Tr.zaB (by kernel_rfl)
noncomputable def E_impl_HullI : Ent Tryz.prog := .of2 Tb175 B175 (fun _ _ => true) zaw fun a0 a1 _ => (r_impl_HullI a0 a1).trans (u_impl_HullI a0 a1)
noncomputable def t_spec_AddI (a0 : Iv) (a1 : Iv) : Tr (Iv) :=
  .br (!(zn a0)) (.leaf zz) (.br (!(zn a1)) (.leaf zz) (.leaf (zay (Rng.w .i64 (a0.lo.val + a1.lo.val)) (Rng.w .i64 (a0.hi.val + a1.hi.val)))))
noncomputable def zaf : Iv -> Iv -> Iv := fun a0 a1 => (t_spec_AddI a0 a1).get
noncomputable def B86 : Bod Tryz.prog := ⟨86, Tryz.f86, Tryz.f86.body.getD .skip, Tryz.func86, by kernel_rfl, by kernel_rfl, zaU.no _ _⟩
noncomputable def Tb86 : Tb Tryz.prog := { T := [Y2, Y30], mix := mix, Es := [zcg, zaI, zcO], Bs := [], d := 1 }
noncomputable def t_impl_AddI (a0 : Iv) (a1 : Iv) : Tr (Iv) :=
  .br (!(zbn a0 a1)) (.leaf zQ) (.leaf (za3 (Rng.w .i64 (a0.lo.val + a1.lo.val)) (Rng.w .i64 (a0.hi.val + a1.hi.val)) true))
theorem r_impl_AddI (a0 : Iv) (a1 : Iv) : Tb86.run B86 [enc a0, enc a1] (Iv) = (t_impl_AddI a0 a1).opt := by kernel_rfl
noncomputable def zbo : Iv -> Iv -> Iv := fun a0 a1 => (t_impl_AddI a0 a1).get
theorem u_impl_AddI (a0 : Iv) (a1 : Iv) : (t_impl_AddI a0 a1).opt = some (zbo a0 a1) := Tr.zaB (by kernel_rfl)
noncomputable def zdT : Ent Tryz.prog := .of2 Tb86 B86 (fun _ _ => true) zbo fun a0 a1 _ => (r_impl_AddI a0 a1).trans (u_impl_AddI a0 a1)
noncomputable def t_spec_SubI (a0 : Iv) (a1 : Iv) : Tr (Iv) :=
  .br (!(zn a0)) (.leaf zz) (.br (!(zn a1)) (.leaf zz) (.leaf (zay (Rng.w .i64 (a0.lo.val - a1.hi.val)) (Rng.w .i64 (a0.hi.val - a1.lo.val)))))
noncomputable def zaa : Iv -> Iv -> Iv := fun a0 a1 => (t_spec_SubI a0 a1).get
noncomputable def B119 : Bod Tryz.prog := ⟨119, Tryz.f119, Tryz.f119.body.getD .skip, Tryz.func119, by kernel_rfl, by kernel_rfl, zaU.no _ _⟩
noncomputable def Tb119 : Tb Tryz.prog := { T := [Y2, Y30], mix := mix, Es := [zdT, E_impl_NegI], Bs := [], d := 1 }
noncomputable def t_impl_SubI (a0 : Iv) (a1 : Iv) : Tr (Iv) :=
  .leaf (zbo a0 (zdn a1))
theorem r_impl_SubI (a0 : Iv) (a1 : Iv) : Tb119.run B119 [enc a0, enc a1] (Iv) = (t_impl_SubI a0 a1).opt := by kernel_rfl
noncomputable def zaD : Iv -> Iv -> Iv := fun a0 a1 => (t_impl_SubI a0 a1).get
theorem u_impl_SubI (a0 : Iv) (a1 : Iv) : (t_impl_SubI a0 a1).opt = some (zaD a0 a1) := Tr.zaB (by kernel_rfl)
noncomputable def zfB : Ent Tryz.prog := .of2 Tb119 B119 (fun _ _ => true) zaD fun a0 a1 _ => (r_impl_SubI a0 a1).trans (u_impl_SubI a0 a1)
noncomputable def t_spec_l06Ring : Tr (Iv) :=
  .leaf ⟨⟨(-4294967296), rfl⟩, ⟨4294967296, rfl⟩⟩
noncomputable def zK : Iv := (t_spec_l06Ring).get
noncomputable def B16 : Bod Tryz.prog := ⟨16, Tryz.f16, Tryz.f16.body.getD .skip, Tryz.func16, by kernel_rfl, by kernel_rfl, zaU.no _ _⟩
noncomputable def Tb16 : Tb Tryz.prog := { T := [Y2, Y30], mix := mix, Es := [E_spec_l00In, E_spec_l04Whole, E_spec_l04Make], Bs := [], d := 1 }
noncomputable def zfd (a0 : I64) : Tr (Iv) :=
  .br (!(zaG a0 ⟨(-268435455), rfl⟩ ⟨268435455, rfl⟩)) (.leaf zz) (.leaf (zay (Rng.w .i64 (a0.val * 4294967296)) (Rng.w .i64 (a0.val * 4294967296))))
theorem r_spec_Integer (a0 : I64) : Tb16.run B16 [enc a0] (Iv) = (zfd a0).opt := by kernel_rfl
noncomputable def zC : I64 -> Iv := fun a0 => (zfd a0).get
theorem u_spec_Integer (a0 : I64) : (zfd a0).opt = some (zC a0) := Tr.zaB (by kernel_rfl)
noncomputable def zc0 (a0 : Iv) (a1 : I64) : Tr (Iv) :=
  let c2 := (Rng.w .i64 (16 + a1.val));let c10 := (Rng.w .i64 (14 + a1.val));let c18 := (Rng.w .i64 (12 + a1.val));let c26 := (Rng.w .i64 (10 + a1.val));let c34 := (Rng.w .i64 (8 + a1.val));let c42 := (Rng.w .i64 (6 + a1.val));let c50 := (Rng.w .i64 (4 + a1.val));let c58 := (Rng.w .i64 (2 + a1.val));.leaf (zaa (zC ⟨1, rfl⟩) (z8 (zL a0 (zC (Rng.w .i64 (c58.val * (Rng.w .i64 (c58.val + 1)).val)))) (zaa (zC ⟨1, rfl⟩) (z8 (zL a0 (zC (Rng.w .i64 (c50.val * (Rng.w .i64 (c50.val + 1)).val)))) (zaa (zC ⟨1, rfl⟩) (z8 (zL a0 (zC (Rng.w .i64 (c42.val * (Rng.w .i64 (c42.val + 1)).val)))) (zaa (zC ⟨1, rfl⟩) (z8 (zL a0 (zC (Rng.w .i64 (c34.val * (Rng.w .i64 (c34.val + 1)).val)))) (zaa (zC ⟨1, rfl⟩) (z8 (zL a0 (zC (Rng.w .i64 (c26.val * (Rng.w .i64 (c26.val + 1)).val)))) (zaa (zC ⟨1, rfl⟩) (z8 (zL a0 (zC (Rng.w .i64 (c18.val * (Rng.w .i64 (c18.val + 1)).val)))) (zaa (zC ⟨1, rfl⟩) (z8 (zL a0 (zC (Rng.w .i64 (c10.val * (Rng.w .i64 (c10.val + 1)).val)))) (zaa (zC ⟨1, rfl⟩) (z8 (zL a0 (zC (Rng.w .i64 (c2.val * (Rng.w .i64 (c2.val + 1)).val)))) (zC ⟨1, rfl⟩)))))))))))))))))
noncomputable def za6 : Iv -> I64 -> Iv := fun a0 a1 => (zc0 a0 a1).get
noncomputable def t_spec_l06Tiny : Tr (Iv) :=
  .leaf ⟨⟨(-1), rfl⟩, ⟨1, rfl⟩⟩
noncomputable def za2 : Iv := (t_spec_l06Tiny).get
noncomputable def zdV (a0 : Iv) : Tr (Iv) :=
  .br (!(zaS a0 zK)) (.leaf zaV) (.leaf (zaf (z8 a0 (za6 (zbG a0) ⟨0, rfl⟩)) za2))
noncomputable def za7 : Iv -> Iv := fun a0 => (zdV a0).get
noncomputable def zdW (a0 : Iv) : Tr (Iv) :=
  .br (!(zaS a0 zK)) (.leaf zaV) (.leaf (zaf (za6 (zbG a0) ⟨(-1), rfl⟩) za2))
noncomputable def za8 : Iv -> Iv := fun a0 => (zdW a0).get
noncomputable def t_spec_l06Meet (a0 : Iv) : Tr (Iv) :=
  let c2 := zdc a0 zK;.br (!c2.b) (.leaf zK) (.leaf c2.a)
noncomputable def zax : Iv -> Iv := fun a0 => (t_spec_l06Meet a0).get
noncomputable def t_spec_ValidInterval (a0 : Iv) : Tr (Bool) :=
  .leaf (zn a0)
noncomputable def F_spec_ValidInterval : Iv -> Bool := fun a0 => (t_spec_ValidInterval a0).get
noncomputable def t_spec_l06Fits (a0 : Iv) : Tr (Bool) :=
  .br (F_spec_ValidInterval a0) (.br (zaW a0.lo) (.leaf (zaW a0.hi)) (.leaf false)) (.leaf false)
noncomputable def zdl : Iv -> Bool := fun a0 => (t_spec_l06Fits a0).get
noncomputable def B270 : Bod Tryz.prog := ⟨270, Tryz.f270, Tryz.f270.body.getD .skip, Tryz.func270, by kernel_rfl, by kernel_rfl, zaU.no _ _⟩
noncomputable def Tb270 : Tb Tryz.prog := { T := [Y2, Y30], mix := mix, Es := [], Bs := [], d := 1 }
noncomputable def t_impl_ring : Tr (Iv) :=
  .leaf ⟨⟨(-4294967296), rfl⟩, ⟨4294967296, rfl⟩⟩
theorem r_impl_ring : Tb270.run B270 [] (Iv) = (t_impl_ring).opt := by kernel_rfl
noncomputable def zdm : Iv := (t_impl_ring).get
theorem u_impl_ring : (t_impl_ring).opt = some (zdm) := Tr.zaB (by kernel_rfl)
noncomputable def E_impl_ring : Ent Tryz.prog := .of0 Tb270 B270 zdm (r_impl_ring.trans u_impl_ring)
noncomputable def B79 : Bod Tryz.prog := ⟨79, Tryz.f79, Tryz.f79.body.getD .skip, Tryz.func79, by kernel_rfl, by kernel_rfl, zaU.no _ _⟩
noncomputable def Tb79 : Tb Tryz.prog := { T := [Y2, Y30], mix := mix, Es := [zaI, zb7, zcO], Bs := [], d := 1 }
noncomputable def t_impl_Integer (a0 : I64) : Tr (Iv) :=
  .br (!(za1 a0 ⟨(-268435456), rfl⟩ ⟨268435456, rfl⟩)) (.leaf zQ) (.leaf (za3 (Rng.w .i64 (a0.val * 4294967296)) (Rng.w .i64 (a0.val * 4294967296)) true))
theorem r_impl_Integer (a0 : I64) : Tb79.run B79 [enc a0] (Iv) = (t_impl_Integer a0).opt := by kernel_rfl
noncomputable def zac : I64 -> Iv := fun a0 => (t_impl_Integer a0).get
theorem u_impl_Integer (a0 : I64) : (t_impl_Integer a0).opt = some (zac a0) := Tr.zaB (by kernel_rfl)
noncomputable def zcP : Ent Tryz.prog := .of1 Tb79 B79 (fun _ => true) zac fun a0 _ => (r_impl_Integer a0).trans (u_impl_Integer a0)
noncomputable def B346 : Bod Tryz.prog := ⟨346, Tryz.f346, Tryz.f346.body.getD .skip, Tryz.func346, by kernel_rfl, by kernel_rfl, zaU.no _ _⟩
noncomputable def Tb346 : Tb Tryz.prog := { T := [Y2, Y30], mix := mix, Es := [zcP, zeH, zfB, E_impl_DivI], Bs := [], d := 1 }
noncomputable def t_impl_series (a0 : Iv) (a1 : I64) : Tr (Iv) :=
  let c2 := (Rng.w .i64 (a1.val + 14));let c10 := (Rng.w .i64 (a1.val + 12));let c18 := (Rng.w .i64 (a1.val + 10));let c26 := (Rng.w .i64 (a1.val + 8));let c34 := (Rng.w .i64 (a1.val + 6));let c42 := (Rng.w .i64 (a1.val + 4));let c50 := (Rng.w .i64 (a1.val + 2));let c58 := (Rng.w .i64 (a1.val + 0));.leaf (zaD (zac ⟨1, rfl⟩) (zav (zbj a0 (zac (Rng.w .i64 (c58.val * (Rng.w .i64 (c58.val + 1)).val)))) (zaD (zac ⟨1, rfl⟩) (zav (zbj a0 (zac (Rng.w .i64 (c50.val * (Rng.w .i64 (c50.val + 1)).val)))) (zaD (zac ⟨1, rfl⟩) (zav (zbj a0 (zac (Rng.w .i64 (c42.val * (Rng.w .i64 (c42.val + 1)).val)))) (zaD (zac ⟨1, rfl⟩) (zav (zbj a0 (zac (Rng.w .i64 (c34.val * (Rng.w .i64 (c34.val + 1)).val)))) (zaD (zac ⟨1, rfl⟩) (zav (zbj a0 (zac (Rng.w .i64 (c26.val * (Rng.w .i64 (c26.val + 1)).val)))) (zaD (zac ⟨1, rfl⟩) (zav (zbj a0 (zac (Rng.w .i64 (c18.val * (Rng.w .i64 (c18.val + 1)).val)))) (zaD (zac ⟨1, rfl⟩) (zav (zbj a0 (zac (Rng.w .i64 (c10.val * (Rng.w .i64 (c10.val + 1)).val)))) (zaD (zac ⟨1, rfl⟩) (zav (zbj a0 (zac (Rng.w .i64 (c2.val * (Rng.w .i64 (c2.val + 1)).val)))) (zac ⟨1, rfl⟩)))))))))))))))))
theorem r_impl_series (a0 : Iv) (a1 : I64) : Tb346.run B346 [enc a0, enc a1] (Iv) = (t_impl_series a0 a1).opt := by kernel_rfl
noncomputable def zeV : Iv -> I64 -> Iv := fun a0 a1 => (t_impl_series a0 a1).get
theorem u_impl_series (a0 : Iv) (a1 : I64) : (t_impl_series a0 a1).opt = some (zeV a0 a1) := Tr.zaB (by kernel_rfl)
noncomputable def E_impl_series : Ent Tryz.prog := .of2 Tb346 B346 (fun _ _ => true) zeV fun a0 a1 _ => (r_impl_series a0 a1).trans (u_impl_series a0 a1)
noncomputable def B347 : Bod Tryz.prog := ⟨347, Tryz.f347, Tryz.f347.body.getD .skip, Tryz.func347, by kernel_rfl, by kernel_rfl, zaU.no _ _⟩
noncomputable def Tb347 : Tb Tryz.prog := { T := [Y2, Y30], mix := mix, Es := [], Bs := [], d := 1 }
noncomputable def t_impl_tiny : Tr (Iv) :=
  .leaf ⟨⟨(-1), rfl⟩, ⟨1, rfl⟩⟩
theorem r_impl_tiny : Tb347.run B347 [] (Iv) = (t_impl_tiny).opt := by kernel_rfl
noncomputable def F_impl_tiny : Iv := (t_impl_tiny).get
theorem u_impl_tiny : (t_impl_tiny).opt = some (F_impl_tiny) := Tr.zaB (by kernel_rfl)
noncomputable def E_impl_tiny : Ent Tryz.prog := .of0 Tb347 B347 F_impl_tiny (r_impl_tiny.trans u_impl_tiny)
noncomputable def B320 : Bod Tryz.prog := ⟨320, Tryz.f320, Tryz.f320.body.getD .skip, Tryz.func320, by kernel_rfl, by kernel_rfl, zaU.no _ _⟩
noncomputable def Tb320 : Tb Tryz.prog := { T := [Y2, Y30], mix := mix, Es := [zdT, zeH, zaI, ET_impl_SqrI, E_impl_ring, E_impl_InsideI, E_impl_series, E_impl_tiny], Bs := [], d := 1 }
noncomputable def zfo (a0 : Iv) : Tr (Iv) :=
  .br (!(zdo a0 zdm)) (.leaf zQ) (.leaf (zbo (zav a0 (zeV (zfz a0) ⟨2, rfl⟩)) F_impl_tiny))
theorem r_impl_SinSeries (a0 : Iv) : Tb320.run B320 [enc a0] (Iv) = (zfo a0).opt := by kernel_rfl
noncomputable def zc4 : Iv -> Iv := fun a0 => (zfo a0).get
theorem u_impl_SinSeries (a0 : Iv) : (zfo a0).opt = some (zc4 a0) := Tr.zaB (by kernel_rfl)
noncomputable def E_impl_SinSeries : Ent Tryz.prog := .of1 Tb320 B320 (fun _ => true) zc4 fun a0 _ => (r_impl_SinSeries a0).trans (u_impl_SinSeries a0)
noncomputable def B321 : Bod Tryz.prog := ⟨321, Tryz.f321, Tryz.f321.body.getD .skip, Tryz.func321, by kernel_rfl, by kernel_rfl, zaU.no _ _⟩
noncomputable def Tb321 : Tb Tryz.prog := { T := [Y2, Y30], mix := mix, Es := [zdT, zaI, ET_impl_SqrI, E_impl_ring, E_impl_InsideI, E_impl_series, E_impl_tiny], Bs := [], d := 1 }
noncomputable def zfp (a0 : Iv) : Tr (Iv) :=
  .br (!(zdo a0 zdm)) (.leaf zQ) (.leaf (zbo (zeV (zfz a0) ⟨1, rfl⟩) F_impl_tiny))
theorem r_impl_CosSeries (a0 : Iv) : Tb321.run B321 [enc a0] (Iv) = (zfp a0).opt := by kernel_rfl
noncomputable def zc5 : Iv -> Iv := fun a0 => (zfp a0).get
theorem u_impl_CosSeries (a0 : Iv) : (zfp a0).opt = some (zc5 a0) := Tr.zaB (by kernel_rfl)
noncomputable def E_impl_CosSeries : Ent Tryz.prog := .of1 Tb321 B321 (fun _ => true) zc5 fun a0 _ => (r_impl_CosSeries a0).trans (u_impl_CosSeries a0)
noncomputable def B319 : Bod Tryz.prog := ⟨319, Tryz.f319, Tryz.f319.body.getD .skip, Tryz.func319, by kernel_rfl, by kernel_rfl, zaU.no _ _⟩
noncomputable def Tb319 : Tb Tryz.prog := { T := [Y2, Y30], mix := mix, Es := [E_impl_MeetI, E_impl_ring], Bs := [], d := 1 }
noncomputable def t_impl_inRing (a0 : Iv) : Tr (Iv) :=
  .leaf (zfK a0 zdm).a
theorem r_impl_inRing (a0 : Iv) : Tb319.run B319 [enc a0] (Iv) = (t_impl_inRing a0).opt := by kernel_rfl
noncomputable def zbQ : Iv -> Iv := fun a0 => (t_impl_inRing a0).get
theorem u_impl_inRing (a0 : Iv) : (t_impl_inRing a0).opt = some (zbQ a0) := Tr.zaB (by kernel_rfl)
noncomputable def E_impl_inRing : Ent Tryz.prog := .of1 Tb319 B319 (fun _ => true) zbQ fun a0 _ => (r_impl_inRing a0).trans (u_impl_inRing a0)
noncomputable def B269 : Bod Tryz.prog := ⟨269, Tryz.f269, Tryz.f269.body.getD .skip, Tryz.func269, by kernel_rfl, by kernel_rfl, zaU.no _ _⟩
noncomputable def Tb269 : Tb Tryz.prog := { T := [Y2, Y30], mix := mix, Es := [zdu, E_impl_isAngle], Bs := [], d := 1 }
noncomputable def zfn (a0 : Iv) : Tr (Bool) :=
  .br (zbt a0) (.br (zcM a0.lo) (.leaf (zcM a0.hi)) (.leaf false)) (.leaf false)
theorem r_impl_areAngles (a0 : Iv) : Tb269.run B269 [enc a0] (Bool) = (zfn a0).opt := by kernel_rfl
noncomputable def zcz : Iv -> Bool := fun a0 => (zfn a0).get
theorem u_impl_areAngles (a0 : Iv) : (zfn a0).opt = some (zcz a0) := Tr.zaB (by kernel_rfl)
noncomputable def E_impl_areAngles : Ent Tryz.prog := .of1 Tb269 B269 (fun _ => true) zcz fun a0 _ => (r_impl_areAngles a0).trans (u_impl_areAngles a0)
end
end Go.Proofs.YtfcjhkkpbnobhaaGreat.Ev
namespace Go.Proofs.YtfcjhkkpbnobhaaGreat.Ev
open Go
theorem zcc (a : Iv) : zn a = true ↔ (-1152921504606846976 < a.lo.val /\ a.lo.val <= a.hi.val /\ a.hi.val < 1152921504606846976) := by
  simp only [zn, zfD, Tr.get]
  by_cases h1 : (-1152921504606846976 : Int) < a.lo.val <;> by_cases h2 : a.lo.val <= a.hi.val <;> simp [h1, h2]
theorem okno (a : Iv) : zn a = false ↔ ¬ (-1152921504606846976 < a.lo.val /\ a.lo.val <= a.hi.val /\ a.hi.val < 1152921504606846976) := by
  rw [<- zcc];cases zn a <;> simp
theorem zcY {lo hi : I64} (h : -1152921504606846976 < lo.val /\ lo.val <= hi.val /\ hi.val < 1152921504606846976) : zay lo hi = ⟨lo, hi⟩ := by
  have : zn ⟨lo, hi⟩ = true := (zcc _).2 h
  simp only [zay, zde, Tr.get, this, Bool.not_true, cond_false]
theorem make_no {lo hi : I64} (h : ¬ (-1152921504606846976 < lo.val /\ lo.val <= hi.val /\ hi.val < 1152921504606846976)) : zay lo hi = zz := by
  have : zn ⟨lo, hi⟩ = false := (okno _).2 h
  simp only [zay, zde, Tr.get, this, Bool.not_false, cond_true]
theorem make_ext {a b c d : I64} (h1 : a.val = c.val) (h2 : b.val = d.val) : zay a b = zay c d := by rw [rext h1, rext h2]
theorem zbH : zn zz = false := by decide +kernel
theorem isw_eq (a : Iv) : zar a = !(zn a) := by
  simp only [zar, zcJ, Tr.get, valid_eq]
theorem zb5 : zaV = zz := rfl
theorem mn_val (a b : I64) : (mn a b).val = if b.val < a.val then b.val else a.val := by unfold mn;by_cases hb : b.val < a.val <;> simp [hb]
theorem mx_val (a b : I64) : (mx a b).val = if b.val > a.val then b.val else a.val := by unfold mx;by_cases hb : b.val > a.val <;> simp [hb]
theorem add_eq (a b : Iv) : zbo a b = zaf a b := by
  simp only [zbo, t_impl_AddI, zaf, t_spec_AddI, Tr.get, areb_eq, zch, zfI, cond_true]
  cases zn a <;> cases zn b <;> rfl
theorem neg_ok_val {a : Iv} (h : zn a = true) : zbb a = ⟨.w .i64 (0 - a.hi.val), .w .i64 (0 - a.lo.val)⟩ := by
  have := (zcc a).1 h
  simp only [zbb, t_spec_NegI, Tr.get, h, Bool.not_true, cond_false]
  refine zcY ?_
  rw [wi (by omega) (by omega), wi (by omega) (by omega)]
  omega
theorem neg_no {a : Iv} (h : zn a = false) : zbb a = zz := by
  simp only [zbb, t_spec_NegI, Tr.get, h, Bool.not_false, cond_true]
theorem neg_isok (a : Iv) : zn (zbb a) = zn a := by
  cases h : zn a
  · rw [neg_no h];exact zbH
  · have := (zcc a).1 h
    rw [neg_ok_val h]
    refine (zcc _).2 ?_
    simp only
    rw [wi (by omega) (by omega), wi (by omega) (by omega)]
    omega
theorem sub_eq (a b : Iv) : zaD a b = zaa a b := by
  simp only [zaD, t_impl_SubI, Tr.get, add_eq, neg_eq, zaf, t_spec_AddI, zaa, t_spec_SubI, neg_isok]
  cases ha : zn a
  · rfl
  cases hb : zn b
  · rfl
  have h1 := (zcc a).1 ha
  have h2 := (zcc b).1 hb
  simp only [Bool.not_true, cond_false, neg_ok_val hb]
  refine make_ext ?_ ?_
  · rw [wi (n := 0 - b.hi.val) (by omega) (by omega)];congr 1;congr 1;omega
  · rw [wi (n := 0 - b.lo.val) (by omega) (by omega)];congr 1;congr 1;omega
theorem zeQ (n : I64) : zac n = zC n := by
  simp only [zac, t_impl_Integer, zC, zfd, Tr.get, zc6, ze5, zfI, zch, cond_true]
  by_cases h : -268435455 <= n.val /\ n.val <= 268435455
  · have h' : -268435456 <= n.val /\ n.val <= 268435456 := by omega
    simp only [h, h', and_self, decide_true, Bool.not_true, cond_false]
  · by_cases h' : -268435456 <= n.val /\ n.val <= 268435456
    · simp only [h, h', and_self, decide_true, decide_false, Bool.not_true, Bool.not_false, cond_false, cond_true]
      refine make_no ?_
      rw [wi (by omega) (by omega)]
      omega
    · simp only [h, h', decide_false, Bool.not_false, cond_true]
theorem hull_eq (a b : Iv) : zaw a b = zX a b := by
  simp only [zaw, t_impl_HullI, zX, t_spec_HullI, Tr.get, areb_eq, zch]
  cases ha : zn a
  · rfl
  cases hb : zn b
  · rfl
  have h1 := (zcc a).1 ha
  have h2 := (zcc b).1 hb
  simp only [Bool.and_self, Bool.not_true, cond_false, <- min_eq, <- max_eq]
  refine (zcY ?_).symm
  rw [mn_val, mx_val]
  split <;> split <;> omega
theorem meet_eq (a b : Iv) : zfK a b = zdc a b := by
  simp only [zfK, t_impl_MeetI, zdc, zfE, Tr.get, isw_eq, zch, min_eq, max_eq]
theorem overlap_eq (a b : Iv) : zcs a b = zbK a b := by
  simp only [zcs, zfS, zbK, t_spec_OverlapI, Tr.get, meet_eq]
theorem inside_eq (a b : Iv) : zdo a b = zaS a b := by
  simp only [zdo, t_impl_InsideI, zaS, zfe, Tr.get, isw_eq]
  cases zn a <;> cases zn b <;> rfl
theorem ring_eq : zdm = zK := rfl
theorem tiny_eq : F_impl_tiny = za2 := rfl
theorem angle_eq (n : I64) : zcM n = zaW n := by
  simp only [zcM, t_impl_isAngle, zaW, zen, Tr.get, zc6, ze5]
theorem angle_iff (n : I64) : zaW n = true ↔ (-1099511627776 <= n.val /\ n.val <= 1099511627776) := by
  simp only [zaW, zen, Tr.get, ze5, decide_eq_true_eq]
theorem fits_eq (a : Iv) : zcz a = zdl a := by
  simp only [zcz, zfn, zdl, t_spec_l06Fits, Tr.get, angle_eq, valid_eq]
  rfl
theorem ediv_bd1 {x d : Int} (hd : 0 < d) (h : -9223372036854775808 <= x /\ x <= 9223372036854775807) : -9223372036854775808 <= x / d /\ x / d <= 9223372036854775807 := by
  have := ediv_bd (M := 9223372036854775808) hd h.1 (by omega)
  refine ⟨this.1, ?_⟩
  by_cases h0 : 0 <= x
  · have := Int.ediv_le_self d h0;omega
  · have := Int.ediv_neg_of_neg_of_pos (a := x) (by omega) hd;omega
theorem or_comm' (a b : Int) : zbd .or .u64 a b = zbd .or .u64 b a := by
  show ((BitVec.ofInt 64 a ||| BitVec.ofInt 64 b).toNat : Int) = ((BitVec.ofInt 64 b ||| BitVec.ofInt 64 a).toNat : Int)
  rw [BitVec.or_comm]
theorem shift_val (w : Wide) (n : I64) (k : Nat) (hn : n.val = k) (h1 : 1 <= k) (h2 : k <= 63) : wv (zdC w n) = wv w / 2 ^ k := by
  have e0 : (n.val == 0) = false := by simp;omega
  have e1 : decide (n.val < 64) = true := by simp;omega
  have e2 : (Rng.w .u64 n.val).val = k := by rw [wu (by omega) (by omega), hn]
  have e3 : (Rng.w .u64 ((Rng.w .i64 (64 - n.val)).val)).val = ((64 - k : Nat) : Int) := by rw [wi (by omega) (by omega), wu (by omega) (by omega)];omega
  simp only [zdC, t_spec_l02Shift, Tr.get, e0, e1, cond_true, cond_false, e2, e3, Int.toNat_natCast, Nat.min_eq_left (show k <= 64 by omega), Nat.min_eq_left (show 64 - k <= 64 by omega), fdpow]
  have bh := w.hi.bd
  have bl := w.lo.ubd
  have hp : (2 : Int) ^ k * 2 ^ (64 - k) = 18446744073709551616 := by
    rw [<- Int.pow_add, show k + (64 - k) = 64 by omega];rfl
  have hp0 : (0 : Int) < 2 ^ k := Int.pow_pos (by decide)
  have hq0 : (0 : Int) < 2 ^ (64 - k) := Int.pow_pos (by decide)
  generalize hP : (2 : Int) ^ k = P at hp hp0
  generalize hQ : (2 : Int) ^ (64 - k) = Q at hp hq0
  have l1 : 0 <= w.lo.val / P := Int.ediv_nonneg bl.1 (by omega)
  have l2 : w.lo.val / P < Q := by
    refine Int.ediv_lt_of_lt_mul hp0 ?_
    rw [Int.mul_comm, hp];omega
  have hhb : -9223372036854775808 <= w.hi.val / P /\ w.hi.val / P <= 9223372036854775807 := ediv_bd1 hp0 bh
  have hQle : Q <= 18446744073709551616 := by
    have : Q * 1 <= Q * P := Int.mul_le_mul_of_nonneg_left (by omega) (by omega)
    rw [Int.mul_comm Q P, hp] at this;omega
  have wlo : (Rng.w .u64 (w.lo.val / P)).val = w.lo.val / P := wu l1 (by omega)
  have whi : (Rng.w .u64 ((Rng.w .u64 w.hi.val).val * Q)).val = (w.hi.val % P) * Q := by
    rw [za9, za9]
    have : (18446744073709551616 : Int) = P * Q := hp.symm
    rw [this]
    have e : w.hi.val % (P * Q) * Q % (P * Q) = w.hi.val * Q % (P * Q) := by
      rw [Int.mul_emod, Int.emod_emod_of_dvd _ (Int.dvd_refl _), <- Int.mul_emod]
    rw [e, Int.mul_comm w.hi.val Q, Int.mul_comm P Q, Int.mul_emod_mul_of_pos _ _ hq0, Int.mul_comm]
  have hm0 : 0 <= w.hi.val % P := Int.emod_nonneg _ (by omega)
  have hm1 : w.hi.val % P < P := Int.emod_lt_of_pos _ hp0
  have hmq : (w.hi.val % P) * Q <= (P - 1) * Q := Int.mul_le_mul_of_nonneg_right (by omega) (by omega)
  have hsum : (w.hi.val % P) * Q + w.lo.val / P <= 18446744073709551615 := by
    have : (P - 1) * Q = 18446744073709551616 - Q := by rw [Int.sub_mul, hp, Int.one_mul]
    omega
  have hor : zbd .or .u64 (w.lo.val / P) (w.hi.val % P * Q) = w.hi.val % P * Q + w.lo.val / P := by
    rw [or_comm', or_add (64 - k) (w.hi.val % P).toNat (by rw [hQ, Int.toNat_of_nonneg hm0, Int.mul_comm]) l1 (by rw [hQ];exact l2) hsum]
  simp only [wv]
  rw [wi hhb.1 hhb.2, wlo, whi, hor, wu (by have := Int.mul_nonneg hm0 (show (0:Int) <= Q by omega);omega) hsum]
  have hdm : w.hi.val = P * (w.hi.val / P) + w.hi.val % P := (Int.mul_ediv_add_emod _ _).symm
  have key : w.hi.val * 18446744073709551616 + w.lo.val = (w.hi.val / P * 18446744073709551616 + w.hi.val % P * Q) * P + w.lo.val := by
    rw [Int.add_mul]
    have e1 : w.hi.val % P * Q * P = w.hi.val % P * 18446744073709551616 := by rw [Int.mul_assoc, Int.mul_comm Q P, hp]
    have e2 : w.hi.val / P * 18446744073709551616 * P = P * (w.hi.val / P) * 18446744073709551616 := by rw [Int.mul_comm _ P, Int.mul_assoc]
    rw [e1, e2, <- Int.add_mul, <- hdm]
  rw [key, Int.add_comm _ w.lo.val, Int.add_mul_ediv_right _ _ (by omega)]
  omega
theorem mf_val (a b n : I64) (k : Nat) (hn : n.val = k) (h1 : 1 <= k) (h2 : k <= 63) : zaT a b n = narrow (a.val * b.val / 2 ^ k) := by
  have hin : zaG n ⟨0, rfl⟩ ⟨126, rfl⟩ = true := by rw [ze5];simp;omega
  have hb := mul_bd a.bd b.bd
  simp only [zaT, t_spec_MulFloor, Tr.get, hin, Bool.not_true, cond_false, mul_spec, int_spec, shift_val _ n k hn h1 h2]
  rw [zfC (by omega) (by omega)]
theorem mf32 (a b : I64) : zaT a b ⟨32, rfl⟩ = narrow (a.val * b.val / 4294967296) := mf_val a b _ 32 rfl (by decide) (by decide)
theorem mf30 (a b : I64) : zaT a b ⟨30, rfl⟩ = narrow (a.val * b.val / 1073741824) := mf_val a b _ 30 rfl (by decide) (by decide)
theorem narrow_ok {v : Int} (h : -9223372036854775808 <= v) (h' : v <= 9223372036854775807) : narrow v = ⟨.w .i64 v, true⟩ := by unfold narrow;rw [if_pos ⟨h, h'⟩]
theorem turn_lo {k : I64} (h : 0 < k.val) (h' : k.val <= 4096) : zaT k ⟨7244019458077122842, rfl⟩ ⟨30, rfl⟩ = ⟨.w .i64 (k.val * 7244019458077122842 / 1073741824), true⟩ /\
    0 <= k.val * 7244019458077122842 / 1073741824 /\ k.val * 7244019458077122842 / 1073741824 <= 27633759721874 := by
  have : 0 <= k.val * 7244019458077122842 / 1073741824 /\ k.val * 7244019458077122842 / 1073741824 <= 27633759721874 := by omega
  exact ⟨by rw [mf30];exact narrow_ok (v := k.val * 7244019458077122842 / 1073741824) (by omega) (by omega), this⟩
theorem turn_p (k : I64) (h : 0 <= k.val) (h' : k.val <= 4096) : ∃ x : Iv, (zc1 k).opt = some x /\ (zd8 k).opt = some x /\ zn x = true := by
  have hw : za1 k ⟨(-4096), rfl⟩ ⟨4096, rfl⟩ = true := by rw [zc6];simp;omega
  have hn : decide (k.val < 0) = false := by simp;omega
  simp only [zc1, zd8, Tr.opt, hw, hn, Bool.not_true, cond_false, mulfloor_F]
  by_cases h0 : k.val = 0
  · have e0 : (k.val == 0) = true := by simp [h0]
    simp only [e0, cond_true]
    exact ⟨_, rfl, rfl, by decide +kernel⟩
  · have e0 : (k.val == 0) = false := by simp [h0]
    obtain ⟨e, b1, b2⟩ := turn_lo (k := k) (by omega) h'
    simp only [e0, cond_false, e]
    refine ⟨_, rfl, rfl, (zcc _).2 ?_⟩
    simp only
    rw [wi (n := k.val * 7244019458077122842 / 1073741824) (by omega) (by omega), wi (by omega) (by omega)]
    omega
theorem turn_ok (k : I64) (h : -4096 <= k.val) (h' : k.val <= 4096) : ∃ x : Iv, (zcI k).opt = some x /\ (zdH k).opt = some x /\ zn x = true := by
  have hw : za1 k ⟨(-4096), rfl⟩ ⟨4096, rfl⟩ = true := by rw [zc6];simp;omega
  by_cases hn : k.val < 0
  · have e1 : (Rng.w .i64 (0 - k.val)).val = 0 - k.val := wi (by omega) (by omega)
    obtain ⟨x, h1, h2, h3⟩ := turn_p (.w .i64 (0 - k.val)) (by omega) (by omega)
    have g1 : zd2 (.w .i64 (0 - k.val)) = true := by unfold zd2;rw [h1];rfl
    have g2 : G_impl_TurnI_p (.w .i64 (0 - k.val)) = true := by unfold G_impl_TurnI_p;rw [h2];rfl
    have f1 : zbO (.w .i64 (0 - k.val)) = x := Tr.zaR h1
    have f2 : F_impl_TurnI_p (.w .i64 (0 - k.val)) = x := Tr.zaR h2
    have e0 : (k.val == 0) = false := by simp;omega
    have hd : decide (k.val < 0) = true := by simpa using hn
    refine ⟨zbb x, ?_, ?_, by rw [neg_isok, h3]⟩
    · simp only [zcI, Tr.opt, e0, hd, g1, f1, cond_true, cond_false, neg_ok_val h3]
    · simp only [zdH, Tr.opt, hw, hd, g2, f2, cond_true, cond_false, Bool.not_true, neg_eq]
  · obtain ⟨x, h1, h2, h3⟩ := turn_p k (by omega) h'
    have hd : decide (k.val < 0) = false := by simpa using hn
    refine ⟨x, ?_, ?_, h3⟩
    · simp only [zc1, Tr.opt, hd] at h1
      simp only [zcI, Tr.opt, hd]
      exact h1
    · simp only [zd8, Tr.opt, hd, hw] at h2
      simp only [zdH, Tr.opt, hd, hw]
      exact h2
theorem turnI_ok (k : I64) : ∃ x : Iv, (t_spec_TurnI k).opt = some x /\ (zdH k).opt = some x := by
  by_cases h : -4096 <= k.val /\ k.val <= 4096
  · obtain ⟨x, h1, h2, h3⟩ := turn_ok k h.1 h.2
    have hi : zaG k ⟨(-4096), rfl⟩ ⟨4096, rfl⟩ = true := by rw [ze5];simpa using h
    have g : zcL k = true := by unfold zcL;rw [h1];rfl
    have f : zbA k = x := Tr.zaR h1
    exact ⟨x, by simp only [t_spec_TurnI, Tr.opt, hi, g, f, Bool.not_true, cond_false, cond_true], h2⟩
  · have hi : zaG k ⟨(-4096), rfl⟩ ⟨4096, rfl⟩ = false := by rw [ze5];simpa using h
    have hw : za1 k ⟨(-4096), rfl⟩ ⟨4096, rfl⟩ = false := by rw [zc6];simpa using h
    exact ⟨zz, by simp only [t_spec_TurnI, Tr.opt, hi, Bool.not_false, cond_true, zb5], by simp only [zdH, Tr.opt, hw, Bool.not_false, cond_true, zch]⟩
theorem tt_turnI_impl (k : I64) : (zdH k).opt = some (za4 k) := by
  obtain ⟨x, _, h1⟩ := turnI_ok k;exact opt_self h1
theorem turnI_eq (k : I64) : za4 k = zW k := by
  obtain ⟨x, h1, h2⟩ := turnI_ok k
  exact (Tr.zaR h2).trans (Tr.zaR h1).symm
theorem quarter_ok (n : I64) : (zfm n).opt = some (zbR n) := by
  simp only [zfm, Tr.opt, zbR, zdZ, Tr.get, angle_eq]
  cases ha : zaW n
  · rfl
  have hb := (angle_iff n).1 ha
  have e1 : (Rng.w .i64 (n.val + 3373259426)).val = n.val + 3373259426 := wi (by omega) (by omega)
  have hs : Int.sign 6746518852 = 1 := rfl
  have q1 : (Rng.w .i64 ((n.val + 3373259426).tdiv 6746518852)).val = (n.val + 3373259426).tdiv 6746518852 := by
    refine wi ?_ ?_
    · have := Int.tdiv_eq_ediv (a := n.val + 3373259426) (b := 6746518852);split at this <;> omega
    · have := Int.tdiv_eq_ediv (a := n.val + 3373259426) (b := 6746518852);split at this <;> omega
  have hm := Int.mul_tdiv_add_tmod (n.val + 3373259426) 6746518852
  have m1 : (Rng.w .i64 ((n.val + 3373259426).tmod 6746518852)).val = (n.val + 3373259426).tmod 6746518852 := by
    refine wi ?_ ?_
    · have := Int.tdiv_eq_ediv (a := n.val + 3373259426) (b := 6746518852);split at this <;> omega
    · have := Int.tdiv_eq_ediv (a := n.val + 3373259426) (b := 6746518852);split at this <;> omega
  have q2 : (Rng.w .i64 ((n.val + 3373259426).tdiv 6746518852 * 6746518852)).val = (n.val + 3373259426).tdiv 6746518852 * 6746518852 := by
    refine wi ?_ ?_
    · have := Int.tdiv_eq_ediv (a := n.val + 3373259426) (b := 6746518852);split at this <;> omega
    · have := Int.tdiv_eq_ediv (a := n.val + 3373259426) (b := 6746518852);split at this <;> omega
  have z : ((6746518852 : Int) == 0) = false := rfl
  simp only [Bool.not_true, cond_false, G_spec_l06Floor, F_spec_l06Floor, zfN, Tr.opt, Tr.get, e1, q1, m1, q2, z, cond_false]
  by_cases hc : (n.val + 3373259426).tmod 6746518852 < 0
  · have hc' : (n.val + 3373259426).tdiv 6746518852 * 6746518852 > n.val + 3373259426 := by omega
    simp only [hc, hc', decide_true, cond_true, Option.isSome_some]
  · have hc' : ¬ (n.val + 3373259426).tdiv 6746518852 * 6746518852 > n.val + 3373259426 := by omega
    simp only [hc, hc', decide_false, cond_false, cond_true, Option.isSome_some]
theorem quarter_eq (n : I64) : zbR n = zak n := (Tr.zaR (quarter_ok n)).symm
theorem quarter_bd (n : I64) : -200 <= (zak n).val /\ (zak n).val <= 200 := by
  rw [<- quarter_eq]
  simp only [zbR, zdZ, Tr.get, angle_eq]
  cases ha : zaW n
  · simp only [Bool.not_false, cond_true];omega
  have hb := (angle_iff n).1 ha
  have e1 : (Rng.w .i64 (n.val + 3373259426)).val = n.val + 3373259426 := wi (by omega) (by omega)
  have hs : Int.sign 6746518852 = 1 := rfl
  have hq : -170 <= (n.val + 3373259426).tdiv 6746518852 /\ (n.val + 3373259426).tdiv 6746518852 <= 170 := by
    have := Int.tdiv_eq_ediv (a := n.val + 3373259426) (b := 6746518852);split at this <;> omega
  have q1 : (Rng.w .i64 ((n.val + 3373259426).tdiv 6746518852)).val = (n.val + 3373259426).tdiv 6746518852 := wi (by omega) (by omega)
  simp only [Bool.not_true, cond_false, e1, q1]
  cases decide ((Rng.w .i64 ((n.val + 3373259426).tdiv 6746518852 * 6746518852)).val > n.val + 3373259426)
  · simp only [cond_false, q1];omega
  · simp only [cond_true];rw [wi (by omega) (by omega)];omega
end Go.Proofs.YtfcjhkkpbnobhaaGreat.Ev
namespace Go.Proofs.YtfcjhkkpbnobhaaGreat.Ev
open Go Go.RowKit
set_option maxRecDepth 100000
section
noncomputable def ze0 : Ent Tryz.prog := .of1 Tb240 B240 (fun _ => true) za4 fun a0 _ => (r_impl_TurnI a0).trans (tt_turnI_impl a0)
noncomputable def t_spec_l05At (a0 : I64) : Tr (Iv) :=
  .leaf ⟨a0, a0⟩
noncomputable def zA : I64 -> Iv := fun a0 => (t_spec_l05At a0).get
noncomputable def t_spec_l06At (a0 : I64) (a1 : I64) : Tr (Iv) :=
  .br (!(zaW a0)) (.leaf zK) (let c3 := zak a0;let c6 := zaa (zA a0) (zW c3);let c8 := (Rng.w .i64 (zbd .and .i64 (Rng.w .i64 (c3.val + a1.val)).val 3));.br (c8.val == 0) (.leaf (zax (za7 c6))) (.br (c8.val == 1) (.leaf (zax (za8 c6))) (.br (c8.val == 2) (.leaf (zax (zbb (za7 c6)))) (.leaf (zax (zbb (za8 c6)))))))
noncomputable def zbe : I64 -> I64 -> Iv := fun a0 a1 => (t_spec_l06At a0 a1).get
noncomputable def B223 : Bod Tryz.prog := ⟨223, Tryz.f223, Tryz.f223.body.getD .skip, Tryz.func223, by kernel_rfl, by kernel_rfl, zaU.no _ _⟩
noncomputable def Tb223 : Tb Tryz.prog := { T := [Y2, Y30], mix := mix, Es := [], Bs := [], d := 1 }
noncomputable def t_impl_at (a0 : I64) : Tr (Iv) :=
  .leaf ⟨a0, a0⟩
theorem r_impl_at (a0 : I64) : Tb223.run B223 [enc a0] (Iv) = (t_impl_at a0).opt := by kernel_rfl
noncomputable def zbZ : I64 -> Iv := fun a0 => (t_impl_at a0).get
theorem u_impl_at (a0 : I64) : (t_impl_at a0).opt = some (zbZ a0) := Tr.zaB (by kernel_rfl)
noncomputable def E_impl_at : Ent Tryz.prog := .of1 Tb223 B223 (fun _ => true) zbZ fun a0 _ => (r_impl_at a0).trans (u_impl_at a0)
noncomputable def B271 : Bod Tryz.prog := ⟨271, Tryz.f271, Tryz.f271.body.getD .skip, Tryz.func271, by kernel_rfl, by kernel_rfl, zaU.no _ _⟩
noncomputable def Tb271 : Tb Tryz.prog := { T := [Y2, Y30], mix := mix, Es := [zfB, E_impl_NegI, E_impl_at, ze0, E_impl_ring, E_impl_isAngle, E_impl_QuarterOf, E_impl_inRing, E_impl_SinSeries, E_impl_CosSeries], Bs := [], d := 1 }
noncomputable def zeg (a0 : I64) (a1 : I64) : Tr (Iv) :=
  .br (!(zcM a0)) (.leaf zdm) (let c3 := zbR a0;let c6 := zaD (zbZ a0) (za4 c3);let c8 := (Rng.w .i64 (zbd .and .i64 (Rng.w .i64 (c3.val + a1.val)).val 3));.br (c8.val == 0) (.leaf (zbQ (zc4 c6))) (.br (c8.val == 1) (.leaf (zbQ (zc5 c6))) (.br (c8.val == 2) (.leaf (zbQ (zdn (zc4 c6)))) (.leaf (zbQ (zdn (zc5 c6)))))))
theorem r_impl_circleValue (a0 : I64) (a1 : I64) : Tb271.run B271 [enc a0, enc a1] (Iv) = (zeg a0 a1).opt := by kernel_rfl
noncomputable def zcx : I64 -> I64 -> Iv := fun a0 a1 => (zeg a0 a1).get
theorem u_impl_circleValue (a0 : I64) (a1 : I64) : (zeg a0 a1).opt = some (zcx a0 a1) := Tr.zaB (by kernel_rfl)
noncomputable def E_impl_circleValue : Ent Tryz.prog := .of2 Tb271 B271 (fun _ _ => true) zcx fun a0 a1 _ => (r_impl_circleValue a0 a1).trans (u_impl_circleValue a0 a1)
structure zc3 where
  x0 : I64
  x1 : I64
  x2 : I64
  x3 : I64
  x4 : I64
  x5 : I64
  x6 : I64
  x7 : I64
instance : Inhabited zc3 := ⟨⟨default, default, default, default, default, default, default, default⟩⟩
noncomputable def zd1 (x : zc3) : Tr (Lp zc3) :=
  .br (decide (x.x1.val <= (Rng.w .i64 ((zak x.x3).val + 1)).val)) (.br (!(zbK (zW x.x1) ⟨x.x2, x.x3⟩)) (.leaf (.again ⟨x.x0, (Rng.w .i64 (x.x1.val + 1)), x.x2, x.x3, x.x4, x.x5, x.x6, x.x7⟩)) (let c15 := (Rng.w .i64 (zbd .and .i64 (Rng.w .i64 (x.x1.val + x.x0.val)).val 3));.br (c15.val == 1) (let c17 := zX ⟨x.x6, x.x7⟩ (zC ⟨1, rfl⟩);.leaf (.again ⟨x.x0, (Rng.w .i64 (x.x1.val + 1)), x.x2, x.x3, x.x4, x.x5, c17.lo, c17.hi⟩)) (.br (c15.val == 3) (let c20 := zX ⟨x.x6, x.x7⟩ (zC ⟨(-1), rfl⟩);.leaf (.again ⟨x.x0, (Rng.w .i64 (x.x1.val + 1)), x.x2, x.x3, x.x4, x.x5, c20.lo, c20.hi⟩)) (.leaf (.again ⟨x.x0, (Rng.w .i64 (x.x1.val + 1)), x.x2, x.x3, x.x4, x.x5, x.x6, x.x7⟩))))) (.leaf (.out ⟨x.x0, x.x1, x.x2, x.x3, x.x4, x.x5, x.x6, x.x7⟩))
noncomputable def G_spec_l06Over_5 (x : zc3) : Bool := (Lf zd1 1000 x).opt.isSome
noncomputable def L_spec_l06Over_5 (x : zc3) : zc3 := (Lf zd1 1000 x).get
noncomputable def t_spec_l06Over (a0 : Iv) (a1 : I64) : Tr (Iv) :=
  .br (!(zdl a0)) (.leaf zK) (let c5 := zX (zbe a0.lo a1) (zbe a0.hi a1);let c7 := (Rng.w .i64 ((zak a0.lo).val - 1));.br (G_spec_l06Over_5 ⟨a1, c7, a0.lo, a0.hi, ⟨0, rfl⟩, ⟨0, rfl⟩, c5.lo, c5.hi⟩) (let c23 := L_spec_l06Over_5 ⟨a1, c7, a0.lo, a0.hi, ⟨0, rfl⟩, ⟨0, rfl⟩, c5.lo, c5.hi⟩;.leaf ⟨c23.x6, c23.x7⟩) (.bad))
noncomputable def zdk : Iv -> I64 -> Iv := fun a0 a1 => (t_spec_l06Over a0 a1).get
end
end Go.Proofs.YtfcjhkkpbnobhaaGreat.Ev
