/- The law FnSides gives true, whatever bytes come in. No conditions. (One of the texts of its proof, put together by a program of this session.) -/
import Derived.Test.YtfcjhkkpbnobhaaGreatZEC
import Derived.Test.YtfcjhkkpbnobhaaGreatChecked
import Derived.KernelRfl
set_option linter.unusedSimpArgs false
set_option linter.unusedVariables false
namespace Go.Proofs.YtfcjhkkpbnobhaaGreat.Ev
open Go Go.RowKit
set_option maxRecDepth 100000
section
theorem mix : Tryz.prog.follows .mixedOrders = true := by kernel_rfl
noncomputable def Y2 : TyE Tryz.prog := ⟨2, 1, (.int .i64), [.i64 ⟨0, rfl⟩], false, by kernel_rfl, by kernel_rfl, by kernel_rfl, by kernel_rfl, by kernel_rfl, by kernel_rfl⟩
noncomputable def Y24 : TyE Tryz.prog := ⟨24, 2, (.struct [(0, 2, 1), (1, 2, 1)]), [.i64 ⟨0, rfl⟩, .i64 ⟨0, rfl⟩], true, by kernel_rfl, by kernel_rfl, by kernel_rfl, by kernel_rfl, by kernel_rfl, by kernel_rfl⟩
noncomputable def B88 : Bod Tryz.prog := ⟨88, Tryz.f88, Tryz.f88.body.getD .skip, Tryz.func88, by kernel_rfl, by kernel_rfl, zaU.no _ _⟩
noncomputable def Tb88 : Tb Tryz.prog := { T := [], mix := mix, Es := [], Bs := [], d := 1 }
noncomputable def t_spec_l00In (a0 : I64) (a1 : I64) (a2 : I64) : Tr (Bool) :=
  .br (decide (a0.val >= a1.val)) (.leaf (decide (a0.val <= a2.val))) (.leaf false)
theorem r_spec_l00In (a0 : I64) (a1 : I64) (a2 : I64) : Tb88.run B88 [enc a0, enc a1, enc a2] (Bool) = (t_spec_l00In a0 a1 a2).opt := by kernel_rfl
noncomputable def zaG : I64 -> I64 -> I64 -> Bool := fun a0 a1 a2 => (t_spec_l00In a0 a1 a2).get
theorem u_spec_l00In (a0 : I64) (a1 : I64) (a2 : I64) : (t_spec_l00In a0 a1 a2).opt = some (zaG a0 a1 a2) := Tr.zaB (by kernel_rfl)
noncomputable def E_spec_l00In : Ent Tryz.prog := .of3 Tb88 B88 (fun _ _ _ => true) zaG fun a0 a1 a2 _ => (r_spec_l00In a0 a1 a2).trans (u_spec_l00In a0 a1 a2)
noncomputable def t_spec_l11Ok (a0 : zbi) : Tr (Bool) :=
  .br (zaG a0.lat ⟨(-900000000), rfl⟩ ⟨900000000, rfl⟩) (.leaf (zaG a0.lon ⟨(-1799999999), rfl⟩ ⟨1800000000, rfl⟩)) (.leaf false)
noncomputable def zab : zbi -> Bool := fun a0 => (t_spec_l11Ok a0).get
noncomputable def B159 : Bod Tryz.prog := ⟨159, Tryz.f159, Tryz.f159.body.getD .skip, Tryz.func159, by kernel_rfl, by kernel_rfl, zaU.no _ _⟩
noncomputable def Tb159 : Tb Tryz.prog := { T := [], mix := mix, Es := [], Bs := [], d := 1 }
noncomputable def t_impl_within (a0 : I64) (a1 : I64) (a2 : I64) : Tr (Bool) :=
  .br (decide (a0.val >= a1.val)) (.leaf (decide (a0.val <= a2.val))) (.leaf false)
theorem r_impl_within (a0 : I64) (a1 : I64) (a2 : I64) : Tb159.run B159 [enc a0, enc a1, enc a2] (Bool) = (t_impl_within a0 a1 a2).opt := by kernel_rfl
noncomputable def za1 : I64 -> I64 -> I64 -> Bool := fun a0 a1 a2 => (t_impl_within a0 a1 a2).get
theorem u_impl_within (a0 : I64) (a1 : I64) (a2 : I64) : (t_impl_within a0 a1 a2).opt = some (za1 a0 a1 a2) := Tr.zaB (by kernel_rfl)
noncomputable def zb7 : Ent Tryz.prog := .of3 Tb159 B159 (fun _ _ _ => true) za1 fun a0 a1 a2 _ => (r_impl_within a0 a1 a2).trans (u_impl_within a0 a1 a2)
noncomputable def B93 : Bod Tryz.prog := ⟨93, Tryz.f93, Tryz.f93.body.getD .skip, Tryz.func93, by kernel_rfl, by kernel_rfl, zaU.no _ _⟩
noncomputable def Tb93 : Tb Tryz.prog := { T := [Y2, Y24], mix := mix, Es := [zb7], Bs := [], d := 1 }
noncomputable def zeM (a0 : zbi) : Tr (Bool) :=
  .br (za1 a0.lat ⟨(-900000000), rfl⟩ ⟨900000000, rfl⟩) (.br (decide (a0.lon.val > (-1800000000))) (.leaf (decide (a0.lon.val <= 1800000000))) (.leaf false)) (.leaf false)
theorem r_impl_ValidPoint (a0 : zbi) : Tb93.run B93 [enc a0] (Bool) = (zeM a0).opt := by kernel_rfl
noncomputable def zaL : zbi -> Bool := fun a0 => (zeM a0).get
theorem u_impl_ValidPoint (a0 : zbi) : (zeM a0).opt = some (zaL a0) := Tr.zaB (by kernel_rfl)
noncomputable def zdF : Ent Tryz.prog := .of1 Tb93 B93 (fun _ => true) zaL fun a0 _ => (r_impl_ValidPoint a0).trans (u_impl_ValidPoint a0)
noncomputable def B219 : Bod Tryz.prog := ⟨219, Tryz.f219, Tryz.f219.body.getD .skip, Tryz.func219, by kernel_rfl, by kernel_rfl, zaU.no _ _⟩
noncomputable def Tb219 : Tb Tryz.prog := { T := [], mix := mix, Es := [], Bs := [], d := 1 }
noncomputable def t_impl_abs (a0 : I64) : Tr (I64) :=
  .leaf (mx a0 (Rng.w .i64 (0 - a0.val)))
theorem r_impl_abs (a0 : I64) : Tb219.run B219 [enc a0] (I64) = (t_impl_abs a0).opt := by kernel_rfl
noncomputable def zbq : I64 -> I64 := fun a0 => (t_impl_abs a0).get
theorem u_impl_abs (a0 : I64) : (t_impl_abs a0).opt = some (zbq a0) := Tr.zaB (by kernel_rfl)
noncomputable def E_impl_abs : Ent Tryz.prog := .of1 Tb219 B219 (fun _ => true) zbq fun a0 _ => (r_impl_abs a0).trans (u_impl_abs a0)
end
end Go.Proofs.YtfcjhkkpbnobhaaGreat.Ev
namespace Go.Proofs.YtfcjhkkpbnobhaaGreat.Ev
open Go Go.RowKit
set_option maxRecDepth 100000
section
noncomputable def E_math_bits_Add64 : Ent Tryz.prog := .add64 Tryz.func313 (by kernel_rfl) (by kernel_rfl) (by kernel_rfl) (by kernel_rfl)
noncomputable def E_math_bits_Sub64 : Ent Tryz.prog := .sub64 Tryz.func364 (by kernel_rfl) (by kernel_rfl) (by kernel_rfl) (by kernel_rfl)
noncomputable def Y30 : TyE Tryz.prog := ⟨30, 2, (.struct [(0, 2, 1), (1, 2, 1)]), [.i64 ⟨0, rfl⟩, .i64 ⟨0, rfl⟩], true, by kernel_rfl, by kernel_rfl, by kernel_rfl, by kernel_rfl, by kernel_rfl, by kernel_rfl⟩
noncomputable def B145 : Bod Tryz.prog := ⟨145, Tryz.f145, Tryz.f145.body.getD .skip, Tryz.func145, by kernel_rfl, by kernel_rfl, zaU.no _ _⟩
noncomputable def Tb145 : Tb Tryz.prog := { T := [Y2, Y30], mix := mix, Es := [], Bs := [], d := 1 }
noncomputable def t_impl_Whole : Tr (Iv) :=
  .leaf ⟨⟨(-1152921504606846976), rfl⟩, ⟨1152921504606846976, rfl⟩⟩
theorem r_impl_Whole : Tb145.run B145 [] (Iv) = (t_impl_Whole).opt := by kernel_rfl
noncomputable def zQ : Iv := (t_impl_Whole).get
theorem u_impl_Whole : (t_impl_Whole).opt = some (zQ) := Tr.zaB (by kernel_rfl)
noncomputable def zaI : Ent Tryz.prog := .of0 Tb145 B145 zQ (r_impl_Whole.trans u_impl_Whole)
noncomputable def B314 : Bod Tryz.prog := ⟨314, Tryz.f314, Tryz.f314.body.getD .skip, Tryz.func314, by kernel_rfl, by kernel_rfl, zaU.no _ _⟩
noncomputable def Tb314 : Tb Tryz.prog := { T := [], mix := mix, Es := [], Bs := [], d := 1 }
noncomputable def zeJ (a0 : U64) (a1 : U64) : Tr (T2 U64 U64) :=
  let c1 := (Rng.w .u64 (zbd .and .u64 a0.val 4294967295));let c2 := (Rng.w .u64 (a0.val.fdiv 4294967296));let c3 := (Rng.w .u64 (zbd .and .u64 a1.val 4294967295));let c4 := (Rng.w .u64 (a1.val.fdiv 4294967296));let c8 := (Rng.w .u64 ((Rng.w .u64 (c2.val * c3.val)).val + (Rng.w .u64 ((Rng.w .u64 (c1.val * c3.val)).val.fdiv 4294967296)).val));.leaf ⟨(Rng.w .u64 ((Rng.w .u64 ((Rng.w .u64 (c2.val * c4.val)).val + (Rng.w .u64 (c8.val.fdiv 4294967296)).val)).val + (Rng.w .u64 ((Rng.w .u64 ((Rng.w .u64 (zbd .and .u64 c8.val 4294967295)).val + (Rng.w .u64 (c1.val * c4.val)).val)).val.fdiv 4294967296)).val)), (Rng.w .u64 (a0.val * a1.val))⟩
theorem r_math_bits_Mul64 (a0 : U64) (a1 : U64) : Tb314.run B314 [enc a0, enc a1] (T2 U64 U64) = (zeJ a0 a1).opt := by kernel_rfl
noncomputable def zcU : U64 -> U64 -> T2 U64 U64 := fun a0 a1 => (zeJ a0 a1).get
theorem u_math_bits_Mul64 (a0 : U64) (a1 : U64) : (zeJ a0 a1).opt = some (zcU a0 a1) := Tr.zaB (by kernel_rfl)
noncomputable def E_math_bits_Mul64 : Ent Tryz.prog := .of2 Tb314 B314 (fun _ _ => true) zcU fun a0 a1 _ => (r_math_bits_Mul64 a0 a1).trans (u_math_bits_Mul64 a0 a1)
noncomputable def Y132 : TyE Tryz.prog := ⟨132, 1, (.int .u64), [.u64 ⟨0, rfl⟩], false, by kernel_rfl, by kernel_rfl, by kernel_rfl, by kernel_rfl, by kernel_rfl, by kernel_rfl⟩
noncomputable def Y148 : TyE Tryz.prog := ⟨148, 2, (.struct [(0, 2, 1), (1, 132, 1)]), [.i64 ⟨0, rfl⟩, .u64 ⟨0, rfl⟩], true, by kernel_rfl, by kernel_rfl, by kernel_rfl, by kernel_rfl, by kernel_rfl, by kernel_rfl⟩
noncomputable def B257 : Bod Tryz.prog := ⟨257, Tryz.f257, Tryz.f257.body.getD .skip, Tryz.func257, by kernel_rfl, by kernel_rfl, zaU.no _ _⟩
noncomputable def Tb257 : Tb Tryz.prog := { T := [Y2, Y132, Y148], mix := mix, Es := [E_math_bits_Mul64], Bs := [], d := 1 }
noncomputable def t_impl_WideMul (a0 : I64) (a1 : I64) : Tr (Wide) :=
  let c1 := zcU (Rng.w .u64 (a0.val)) (Rng.w .u64 (a1.val));.br (decide (a0.val < 0)) (let c2 := (Rng.w .u64 (c1.a.val - (Rng.w .u64 (a1.val)).val));.br (decide (a1.val < 0)) (.leaf ⟨(Rng.w .i64 ((Rng.w .u64 (c2.val - (Rng.w .u64 (a0.val)).val)).val)), c1.b⟩) (.leaf ⟨(Rng.w .i64 (c2.val)), c1.b⟩)) (.br (decide (a1.val < 0)) (.leaf ⟨(Rng.w .i64 ((Rng.w .u64 (c1.a.val - (Rng.w .u64 (a0.val)).val)).val)), c1.b⟩) (.leaf ⟨(Rng.w .i64 (c1.a.val)), c1.b⟩))
theorem r_impl_WideMul (a0 : I64) (a1 : I64) : Tb257.run B257 [enc a0, enc a1] (Wide) = (t_impl_WideMul a0 a1).opt := by kernel_rfl
noncomputable def zbp : I64 -> I64 -> Wide := fun a0 a1 => (t_impl_WideMul a0 a1).get
theorem u_impl_WideMul (a0 : I64) (a1 : I64) : (t_impl_WideMul a0 a1).opt = some (zbp a0 a1) := Tr.zaB (by kernel_rfl)
noncomputable def zee : Ent Tryz.prog := .of2 Tb257 B257 (fun _ _ => true) zbp fun a0 a1 _ => (r_impl_WideMul a0 a1).trans (u_impl_WideMul a0 a1)
noncomputable def Y3 : TyE Tryz.prog := ⟨3, 1, (.int .i64), [.i64 ⟨0, rfl⟩], false, by kernel_rfl, by kernel_rfl, by kernel_rfl, by kernel_rfl, by kernel_rfl, by kernel_rfl⟩
noncomputable def Y5 : TyE Tryz.prog := ⟨5, 1, (.int .u8), [.u8 ⟨0, rfl⟩], false, by kernel_rfl, by kernel_rfl, by kernel_rfl, by kernel_rfl, by kernel_rfl, by kernel_rfl⟩
noncomputable def Y9 : TyE Tryz.prog := ⟨9, 1, .str, [.str ByteArray.empty], false, by kernel_rfl, by kernel_rfl, by kernel_rfl, by kernel_rfl, by kernel_rfl, by kernel_rfl⟩
noncomputable def zfM (i : Nat) : ByteArray := (codeStrs (Tryz.f376.body.getD .skip)).getD i ByteArray.empty
noncomputable def B376 : Bod Tryz.prog := ⟨376, Tryz.f376, Tryz.f376.body.getD .skip, Tryz.func376, by kernel_rfl, by kernel_rfl, zaU.no _ _⟩
noncomputable def Tb376 : Tb Tryz.prog := { T := [Y3, Y5, Y9, Y132], mix := mix, Es := [], Bs := [], d := 1 }
noncomputable def zdx (a0 : U64) : Tr (I64) :=
  .br (decide (a0.val >= 4294967296)) (let c2 := (Rng.w .u64 (a0.val.fdiv 4294967296));.br (decide (c2.val >= 65536)) (let c4 := (Rng.w .u64 (c2.val.fdiv 65536));.br (decide (c4.val >= 256)) (let c5 := (Rng.w .u64 (c4.val.fdiv 256));.br (Nat.blt ((Rng.w .u8 (c5.val)).val.toNat) (zfM 0).size) (.leaf (Rng.w .i64 (56 + (Rng.w .i64 ((strAt (zfM 0) ((Rng.w .u8 (c5.val)).val.toNat)).val)).val))) (.bad)) (.br (Nat.blt ((Rng.w .u8 (c4.val)).val.toNat) (zfM 0).size) (.leaf (Rng.w .i64 (48 + (Rng.w .i64 ((strAt (zfM 0) ((Rng.w .u8 (c4.val)).val.toNat)).val)).val))) (.bad))) (.br (decide (c2.val >= 256)) (let c10 := (Rng.w .u64 (c2.val.fdiv 256));.br (Nat.blt ((Rng.w .u8 (c10.val)).val.toNat) (zfM 0).size) (.leaf (Rng.w .i64 (40 + (Rng.w .i64 ((strAt (zfM 0) ((Rng.w .u8 (c10.val)).val.toNat)).val)).val))) (.bad)) (.br (Nat.blt ((Rng.w .u8 (c2.val)).val.toNat) (zfM 0).size) (.leaf (Rng.w .i64 (32 + (Rng.w .i64 ((strAt (zfM 0) ((Rng.w .u8 (c2.val)).val.toNat)).val)).val))) (.bad)))) (.br (decide (a0.val >= 65536)) (let c16 := (Rng.w .u64 (a0.val.fdiv 65536));.br (decide (c16.val >= 256)) (let c17 := (Rng.w .u64 (c16.val.fdiv 256));.br (Nat.blt ((Rng.w .u8 (c17.val)).val.toNat) (zfM 0).size) (.leaf (Rng.w .i64 (24 + (Rng.w .i64 ((strAt (zfM 0) ((Rng.w .u8 (c17.val)).val.toNat)).val)).val))) (.bad)) (.br (Nat.blt ((Rng.w .u8 (c16.val)).val.toNat) (zfM 0).size) (.leaf (Rng.w .i64 (16 + (Rng.w .i64 ((strAt (zfM 0) ((Rng.w .u8 (c16.val)).val.toNat)).val)).val))) (.bad))) (.br (decide (a0.val >= 256)) (let c22 := (Rng.w .u64 (a0.val.fdiv 256));.br (Nat.blt ((Rng.w .u8 (c22.val)).val.toNat) (zfM 0).size) (.leaf (Rng.w .i64 (8 + (Rng.w .i64 ((strAt (zfM 0) ((Rng.w .u8 (c22.val)).val.toNat)).val)).val))) (.bad)) (.br (Nat.blt ((Rng.w .u8 (a0.val)).val.toNat) (zfM 0).size) (.leaf (Rng.w .i64 (0 + (Rng.w .i64 ((strAt (zfM 0) ((Rng.w .u8 (a0.val)).val.toNat)).val)).val))) (.bad))))
theorem r_math_bits_Len64 (a0 : U64) : Tb376.run B376 [enc a0] (I64) = (zdx a0).opt := by kernel_rfl
noncomputable def F_math_bits_Len64 : U64 -> I64 := fun a0 => (zdx a0).get
noncomputable def zeS : U64 -> Bool := fun a0 => (zdx a0).opt.isSome
noncomputable def E_math_bits_Len64 : Ent Tryz.prog := .of1 Tb376 B376 zeS F_math_bits_Len64 fun a0 h => (r_math_bits_Len64 a0).trans (Tr.get_some h)
noncomputable def B372 : Bod Tryz.prog := ⟨372, Tryz.f372, Tryz.f372.body.getD .skip, Tryz.func372, by kernel_rfl, by kernel_rfl, zaU.no _ _⟩
noncomputable def Tb372 : Tb Tryz.prog := { T := [], mix := mix, Es := [E_math_bits_Len64], Bs := [], d := 1 }
noncomputable def zbD (a0 : U64) : Tr (I64) :=
  .br (zeS a0) (.leaf (Rng.w .i64 (64 - (F_math_bits_Len64 a0).val))) (.bad)
theorem r_math_bits_LeadingZeros64 (a0 : U64) : Tb372.run B372 [enc a0] (I64) = (zbD a0).opt := by kernel_rfl
noncomputable def zcZ : U64 -> I64 := fun a0 => (zbD a0).get
noncomputable def zcd : U64 -> Bool := fun a0 => (zbD a0).opt.isSome
noncomputable def E_math_bits_LeadingZeros64 : Ent Tryz.prog := .of1 Tb372 B372 zcd zcZ fun a0 h => (r_math_bits_LeadingZeros64 a0).trans (Tr.get_some h)
structure zaQ where
  x0 : U64
  x1 : U64
  x2 : U64
  x3 : U64
  x4 : U64
  x5 : U64
  x6 : U64
  x7 : U64
  x8 : U64
instance : Inhabited zaQ := ⟨⟨default, default, default, default, default, default, default, default, default⟩⟩
noncomputable def st_math_bits_Div64_17 (x : zaQ) : St := ⟨[(2, .u64 x.x0), (8, .u64 x.x1), (9, .u64 x.x2), (10, .u64 x.x3), (11, .u64 x.x4), (13, .u64 x.x5), (14, .u64 x.x6), (15, .u64 x.x7), (16, .u64 x.x8)], 135, ⟨[], 0, 0⟩⟩
noncomputable def rd_math_bits_Div64_17 : St -> Option zaQ := fun s => match s with
  | ⟨[(2, .u64 x0), (8, .u64 x1), (9, .u64 x2), (10, .u64 x3), (11, .u64 x4), (13, .u64 x5), (14, .u64 x6), (15, .u64 x7), (16, .u64 x8)], 135, ⟨[], 0, 0⟩⟩ => some ⟨x0, x1, x2, x3, x4, x5, x6, x7, x8⟩
  | _ => none
noncomputable def zaO (x : zaQ) : Tr (Lp zaQ) :=
  .br (decide (x.x7.val >= 4294967296)) (let c19 := (Rng.w .u64 (x.x7.val - 1));let c20 := (Rng.w .u64 (x.x8.val + x.x2.val));.br (decide (c20.val >= 4294967296)) (.leaf (.out ⟨x.x0, x.x1, x.x2, x.x3, x.x4, x.x5, x.x6, c19, c20⟩)) (.leaf (.again ⟨x.x0, x.x1, x.x2, x.x3, x.x4, x.x5, x.x6, c19, c20⟩))) (.br (decide ((Rng.w .u64 (x.x7.val * x.x3.val)).val > (Rng.w .u64 ((Rng.w .u64 (4294967296 * x.x8.val)).val + x.x5.val)).val)) (let c26 := (Rng.w .u64 (x.x7.val - 1));let c27 := (Rng.w .u64 (x.x8.val + x.x2.val));.br (decide (c27.val >= 4294967296)) (.leaf (.out ⟨x.x0, x.x1, x.x2, x.x3, x.x4, x.x5, x.x6, c26, c27⟩)) (.leaf (.again ⟨x.x0, x.x1, x.x2, x.x3, x.x4, x.x5, x.x6, c26, c27⟩))) (.leaf (.out ⟨x.x0, x.x1, x.x2, x.x3, x.x4, x.x5, x.x6, x.x7, x.x8⟩)))
noncomputable def zdt (x : zaQ) : Bool := (Lf zaO 4 x).opt.isSome
noncomputable def ze9 (x : zaQ) : zaQ := (Lf zaO 4 x).get
noncomputable def TbL_math_bits_Div64_17 : Tb Tryz.prog := { T := [], mix := mix, Es := [], Bs := [], d := 1 }
noncomputable def ze7 : LpF := loopF [2, 8, 9, 10, 11, 13, 14, 15, 16] [] 0 rd_math_bits_Div64_17 st_math_bits_Div64_17 (.exit 0) zdt ze9
theorem lok_math_bits_Div64_17 : LoopOk Tryz.prog (loopAt (Tryz.f363.body.getD .skip) 0) ze7 := loopF_ok (t := TbL_math_bits_Div64_17) (lt := fun _ => none) (body := zaO) (n := 4) (by intro h;cases h) (fun _ _ _ h => by cases h)
  (by intro s x h;unfold rd_math_bits_Div64_17 at h;split at h <;> cases h;rfl) (fun x b cs h => lk_lt (l := (st_math_bits_Div64_17 x).mm.blks) (by kernel_rfl) h) (by intro x;kernel_rfl) (fun x h => Tr.get_some h)
structure zaP where
  x0 : U64
  x1 : U64
  x2 : U64
  x3 : U64
  x4 : U64
  x5 : U64
  x6 : U64
  x7 : U64
  x8 : U64
instance : Inhabited zaP := ⟨⟨default, default, default, default, default, default, default, default, default⟩⟩
noncomputable def st_math_bits_Div64_24 (x : zaP) : St := ⟨[(2, .u64 x.x0), (8, .u64 x.x1), (9, .u64 x.x2), (10, .u64 x.x3), (14, .u64 x.x4), (15, .u64 x.x5), (16, .u64 x.x6), (17, .u64 x.x7), (18, .u64 x.x8)], 135, ⟨[], 0, 0⟩⟩
noncomputable def rd_math_bits_Div64_24 : St -> Option zaP := fun s => match s with
  | ⟨[(2, .u64 x0), (8, .u64 x1), (9, .u64 x2), (10, .u64 x3), (14, .u64 x4), (15, .u64 x5), (16, .u64 x6), (17, .u64 x7), (18, .u64 x8)], 135, ⟨[], 0, 0⟩⟩ => some ⟨x0, x1, x2, x3, x4, x5, x6, x7, x8⟩
  | _ => none
noncomputable def zaN (x : zaP) : Tr (Lp zaP) :=
  .br (decide (x.x8.val >= 4294967296)) (let c38 := (Rng.w .u64 (x.x8.val - 1));let c39 := (Rng.w .u64 (x.x6.val + x.x2.val));.br (decide (c39.val >= 4294967296)) (.leaf (.out ⟨x.x0, x.x1, x.x2, x.x3, x.x4, x.x5, c39, x.x7, c38⟩)) (.leaf (.again ⟨x.x0, x.x1, x.x2, x.x3, x.x4, x.x5, c39, x.x7, c38⟩))) (.br (decide ((Rng.w .u64 (x.x8.val * x.x3.val)).val > (Rng.w .u64 ((Rng.w .u64 (4294967296 * x.x6.val)).val + x.x4.val)).val)) (let c45 := (Rng.w .u64 (x.x8.val - 1));let c46 := (Rng.w .u64 (x.x6.val + x.x2.val));.br (decide (c46.val >= 4294967296)) (.leaf (.out ⟨x.x0, x.x1, x.x2, x.x3, x.x4, x.x5, c46, x.x7, c45⟩)) (.leaf (.again ⟨x.x0, x.x1, x.x2, x.x3, x.x4, x.x5, c46, x.x7, c45⟩))) (.leaf (.out ⟨x.x0, x.x1, x.x2, x.x3, x.x4, x.x5, x.x6, x.x7, x.x8⟩)))
noncomputable def zds (x : zaP) : Bool := (Lf zaN 4 x).opt.isSome
noncomputable def ze8 (x : zaP) : zaP := (Lf zaN 4 x).get
noncomputable def TbL_math_bits_Div64_24 : Tb Tryz.prog := { T := [], mix := mix, Es := [], Bs := [], d := 1 }
noncomputable def ze6 : LpF := loopF [2, 8, 9, 10, 14, 15, 16, 17, 18] [] 0 rd_math_bits_Div64_24 st_math_bits_Div64_24 (.exit 2) zds ze8
theorem lok_math_bits_Div64_24 : LoopOk Tryz.prog (loopAt (Tryz.f363.body.getD .skip) 1) ze6 := loopF_ok (t := TbL_math_bits_Div64_24) (lt := fun _ => none) (body := zaN) (n := 4) (by intro h;cases h) (fun _ _ _ h => by cases h)
  (by intro s x h;unfold rd_math_bits_Div64_24 at h;split at h <;> cases h;rfl) (fun x b cs h => lk_lt (l := (st_math_bits_Div64_24 x).mm.blks) (by kernel_rfl) h) (by intro x;kernel_rfl) (fun x h => Tr.get_some h)
noncomputable def Y140 : TyE Tryz.prog := ⟨140, 1, (.int .u64), [.u64 ⟨0, rfl⟩], false, by kernel_rfl, by kernel_rfl, by kernel_rfl, by kernel_rfl, by kernel_rfl, by kernel_rfl⟩
noncomputable def B363 : Bod Tryz.prog := ⟨363, Tryz.f363, Tryz.f363.body.getD .skip, Tryz.func363, by kernel_rfl, by kernel_rfl, ⟨ltOf [(17, ze7), (24, ze6)], zaU.of (ks := [17, 24]) (by kernel_rfl) (by
  intro i k h f hf
  match i, h with
  | 0, h => cases h;obtain rfl : ze7 = f := Option.some.inj hf;exact lok_math_bits_Div64_17
  | 1, h => cases h;obtain rfl : ze6 = f := Option.some.inj hf;exact lok_math_bits_Div64_24
  | n + 2, h => simp at h)⟩⟩
noncomputable def Tb363 : Tb Tryz.prog := { T := [Y3, Y140], mix := mix, Es := [E_math_bits_LeadingZeros64], Bs := [], d := 1 }
noncomputable def zcR (a0 : U64) (a1 : U64) (a2 : U64) : Tr (T2 U64 U64) :=
  .br (a2.val == 0) (.bad) (.br (decide (a2.val <= a0.val)) (.bad) (.br (a0.val == 0) (.br (a2.val == 0) (.bad) (.br (a2.val == 0) (.bad) (.leaf ⟨(Rng.w .u64 (a1.val.tdiv a2.val)), (Rng.w .u64 (a1.val.tmod a2.val))⟩))) (.br (zcd a2) (let c4 := zcZ a2;let c5 := (Rng.w .u64 (a2.val * (2 ^ min ((Rng.w .u64 (c4.val)).val).toNat 64)));let c6 := (Rng.w .u64 (c5.val.fdiv 4294967296));let c7 := (Rng.w .u64 (zbd .and .u64 c5.val 4294967295));let c11 := (Rng.w .u64 (zbd .or .u64 (Rng.w .u64 (a0.val * (2 ^ min ((Rng.w .u64 (c4.val)).val).toNat 64))).val (Rng.w .u64 (a1.val.fdiv (2 ^ min ((Rng.w .u64 (64 - (Rng.w .u64 (c4.val)).val)).val).toNat 64))).val));let c12 := (Rng.w .u64 (a1.val * (2 ^ min ((Rng.w .u64 (c4.val)).val).toNat 64)));let c13 := (Rng.w .u64 (c12.val.fdiv 4294967296));let c14 := (Rng.w .u64 (zbd .and .u64 c12.val 4294967295));.br (c6.val == 0) (.bad) (let c15 := (Rng.w .u64 (c11.val.tdiv c6.val));let c17 := (Rng.w .u64 (c11.val - (Rng.w .u64 (c15.val * c6.val)).val));.br (zdt ⟨c5, (Rng.w .u64 (c4.val)), c6, c7, c11, c13, c14, c15, c17⟩) (let c29 := ze9 ⟨c5, (Rng.w .u64 (c4.val)), c6, c7, c11, c13, c14, c15, c17⟩;let c33 := (Rng.w .u64 ((Rng.w .u64 ((Rng.w .u64 (c29.x4.val * 4294967296)).val + c29.x5.val)).val - (Rng.w .u64 (c29.x7.val * c29.x0.val)).val));.br (c29.x2.val == 0) (.bad) (let c34 := (Rng.w .u64 (c33.val.tdiv c29.x2.val));let c36 := (Rng.w .u64 (c33.val - (Rng.w .u64 (c34.val * c29.x2.val)).val));.br (zds ⟨c29.x0, c29.x1, c29.x2, c29.x3, c29.x6, c29.x7, c36, c33, c34⟩) (let c48 := ze8 ⟨c29.x0, c29.x1, c29.x2, c29.x3, c29.x6, c29.x7, c36, c33, c34⟩;.leaf ⟨(Rng.w .u64 ((Rng.w .u64 (c48.x5.val * 4294967296)).val + c48.x8.val)), (Rng.w .u64 ((Rng.w .u64 ((Rng.w .u64 ((Rng.w .u64 (c48.x7.val * 4294967296)).val + c48.x4.val)).val - (Rng.w .u64 (c48.x8.val * c48.x0.val)).val)).val.fdiv (2 ^ min (c48.x1.val).toNat 64)))⟩) (.bad))) (.bad))) (.bad))))
theorem r_math_bits_Div64 (a0 : U64) (a1 : U64) (a2 : U64) : Tb363.run B363 [enc a0, enc a1, enc a2] (T2 U64 U64) = (zcR a0 a1 a2).opt := by kernel_rfl
noncomputable def F_math_bits_Div64 : U64 -> U64 -> U64 -> T2 U64 U64 := fun a0 a1 a2 => (zcR a0 a1 a2).get
noncomputable def zeT : U64 -> U64 -> U64 -> Bool := fun a0 a1 a2 => (zcR a0 a1 a2).opt.isSome
noncomputable def E_math_bits_Div64 : Ent Tryz.prog := .of3 Tb363 B363 zeT F_math_bits_Div64 fun a0 a1 a2 h => (r_math_bits_Div64 a0 a1 a2).trans (Tr.get_some h)
noncomputable def B350 : Bod Tryz.prog := ⟨350, Tryz.f350, Tryz.f350.body.getD .skip, Tryz.func350, by kernel_rfl, by kernel_rfl, zaU.no _ _⟩
noncomputable def Tb350 : Tb Tryz.prog := { T := [], mix := mix, Es := [E_math_bits_Div64], Bs := [], d := 1 }
noncomputable def zff (a0 : U64) (a1 : U64) (a2 : U64) : Tr (T3 U64 U64 U64) :=
  .br (a2.val == 0) (.bad) (.br (a2.val == 0) (.bad) (let c2 := (Rng.w .u64 (a0.val.tmod a2.val));.br (zeT c2 a1 a2) (let c3 := F_math_bits_Div64 c2 a1 a2;.leaf ⟨(Rng.w .u64 (a0.val.tdiv a2.val)), c3.a, c3.b⟩) (.bad)))
theorem r_impl_divided (a0 : U64) (a1 : U64) (a2 : U64) : Tb350.run B350 [enc a0, enc a1, enc a2] (T3 U64 U64 U64) = (zff a0 a1 a2).opt := by kernel_rfl
noncomputable def F_impl_divided : U64 -> U64 -> U64 -> T3 U64 U64 U64 := fun a0 a1 a2 => (zff a0 a1 a2).get
noncomputable def zfi : U64 -> U64 -> U64 -> Bool := fun a0 a1 a2 => (zff a0 a1 a2).opt.isSome
noncomputable def E_impl_divided : Ent Tryz.prog := .of3 Tb350 B350 zfi F_impl_divided fun a0 a1 a2 h => (r_impl_divided a0 a1 a2).trans (Tr.get_some h)
noncomputable def B351 : Bod Tryz.prog := ⟨351, Tryz.f351, Tryz.f351.body.getD .skip, Tryz.func351, by kernel_rfl, by kernel_rfl, zaU.no _ _⟩
noncomputable def Tb351 : Tb Tryz.prog := { T := [Y2, Y132, Y148], mix := mix, Es := [E_math_bits_Sub64], Bs := [], d := 1 }
noncomputable def zcB (a0 : Wide) : Tr (Wide) :=
  let c1 := zdD ⟨0, rfl⟩ a0.lo ⟨0, rfl⟩;.br (G_carry ⟨0, rfl⟩ (Rng.w .u64 (a0.hi.val)) c1.b) (.leaf ⟨(Rng.w .i64 ((zdD ⟨0, rfl⟩ (Rng.w .u64 (a0.hi.val)) c1.b).a.val)), c1.a⟩) (.bad)
theorem r_impl_Wide_negative (a0 : Wide) : Tb351.run B351 [enc a0] (Wide) = (zcB a0).opt := by kernel_rfl
noncomputable def zcD : Wide -> Wide := fun a0 => (zcB a0).get
noncomputable def zb8 : Wide -> Bool := fun a0 => (zcB a0).opt.isSome
noncomputable def E_impl_Wide_negative : Ent Tryz.prog := .of1 Tb351 B351 zb8 zcD fun a0 h => (r_impl_Wide_negative a0).trans (Tr.get_some h)
noncomputable def B329 : Bod Tryz.prog := ⟨329, Tryz.f329, Tryz.f329.body.getD .skip, Tryz.func329, by kernel_rfl, by kernel_rfl, zaU.no _ _⟩
noncomputable def Tb329 : Tb Tryz.prog := { T := [Y2, Y132, Y148], mix := mix, Es := [E_math_bits_Add64, E_impl_divided, E_impl_Wide_negative], Bs := [], d := 1 }
noncomputable def zdg (a0 : Wide) (a1 : I64) : Tr (T3 Wide I64 Bool) :=
  .br (decide (a1.val <= 0)) (.leaf ⟨⟨⟨0, rfl⟩, ⟨0, rfl⟩⟩, ⟨0, rfl⟩, false⟩) (.br (decide (a0.hi.val >= 0)) (.br (zfi (Rng.w .u64 (a0.hi.val)) a0.lo (Rng.w .u64 (a1.val))) (let c1 := F_impl_divided (Rng.w .u64 (a0.hi.val)) a0.lo (Rng.w .u64 (a1.val));.leaf ⟨⟨(Rng.w .i64 (c1.a.val)), c1.b⟩, (Rng.w .i64 (c1.c.val)), true⟩) (.bad)) (.br (zb8 a0) (let c2 := zcD a0;.br (zfi (Rng.w .u64 (c2.hi.val)) c2.lo (Rng.w .u64 (a1.val))) (let c3 := F_impl_divided (Rng.w .u64 (c2.hi.val)) c2.lo (Rng.w .u64 (a1.val));.br (c3.c.val == 0) (.br (zb8 ⟨(Rng.w .i64 (c3.a.val)), c3.b⟩) (.leaf ⟨(zcD ⟨(Rng.w .i64 (c3.a.val)), c3.b⟩), ⟨0, rfl⟩, true⟩) (.bad)) (let c5 := zaF c3.b ⟨1, rfl⟩ ⟨0, rfl⟩;let c6 := (Rng.w .u64 (c3.a.val + c5.b.val));.br (zb8 ⟨(Rng.w .i64 (c6.val)), c5.a⟩) (.leaf ⟨(zcD ⟨(Rng.w .i64 (c6.val)), c5.a⟩), (Rng.w .i64 (a1.val - (Rng.w .i64 (c3.c.val)).val)), true⟩) (.bad))) (.bad)) (.bad)))
theorem r_impl_WideDiv (a0 : Wide) (a1 : I64) : Tb329.run B329 [enc a0, enc a1] (T3 Wide I64 Bool) = (zdg a0 a1).opt := by kernel_rfl
noncomputable def zec : Wide -> I64 -> T3 Wide I64 Bool := fun a0 a1 => (zdg a0 a1).get
noncomputable def zci : Wide -> I64 -> Bool := fun a0 a1 => (zdg a0 a1).opt.isSome
noncomputable def E_impl_WideDiv : Ent Tryz.prog := .of2 Tb329 B329 zci zec fun a0 a1 h => (r_impl_WideDiv a0 a1).trans (Tr.get_some h)
noncomputable def B348 : Bod Tryz.prog := ⟨348, Tryz.f348, Tryz.f348.body.getD .skip, Tryz.func348, by kernel_rfl, by kernel_rfl, zaU.no _ _⟩
noncomputable def Tb348 : Tb Tryz.prog := { T := [Y2, Y132, Y148], mix := mix, Es := [], Bs := [], d := 1 }
noncomputable def t_impl_WideOf (a0 : I64) : Tr (Wide) :=
  .leaf ⟨(Rng.w .i64 (a0.val.fdiv 9223372036854775808)), (Rng.w .u64 (a0.val))⟩
theorem r_impl_WideOf (a0 : I64) : Tb348.run B348 [enc a0] (Wide) = (t_impl_WideOf a0).opt := by kernel_rfl
noncomputable def zeY : I64 -> Wide := fun a0 => (t_impl_WideOf a0).get
theorem u_impl_WideOf (a0 : I64) : (t_impl_WideOf a0).opt = some (zeY a0) := Tr.zaB (by kernel_rfl)
noncomputable def E_impl_WideOf : Ent Tryz.prog := .of1 Tb348 B348 (fun _ => true) zeY fun a0 _ => (r_impl_WideOf a0).trans (u_impl_WideOf a0)
noncomputable def B323 : Bod Tryz.prog := ⟨323, Tryz.f323, Tryz.f323.body.getD .skip, Tryz.func323, by kernel_rfl, by kernel_rfl, zaU.no _ _⟩
noncomputable def Tb323 : Tb Tryz.prog := { T := [Y2, Y132, Y148], mix := mix, Es := [E_impl_WideOf], Bs := [], d := 1 }
noncomputable def t_impl_WideInt (a0 : Wide) : Tr (T2 I64 Bool) :=
  let c1 := zeY (Rng.w .i64 (a0.lo.val));.br (!((c1.hi.val == a0.hi.val) && ((c1.lo.val == a0.lo.val) && true))) (.leaf ⟨⟨0, rfl⟩, false⟩) (.leaf ⟨(Rng.w .i64 (a0.lo.val)), true⟩)
theorem r_impl_WideInt (a0 : Wide) : Tb323.run B323 [enc a0] (T2 I64 Bool) = (t_impl_WideInt a0).opt := by kernel_rfl
noncomputable def zeb : Wide -> T2 I64 Bool := fun a0 => (t_impl_WideInt a0).get
theorem u_impl_WideInt (a0 : Wide) : (t_impl_WideInt a0).opt = some (zeb a0) := Tr.zaB (by kernel_rfl)
noncomputable def E_impl_WideInt : Ent Tryz.prog := .of1 Tb323 B323 (fun _ => true) zeb fun a0 _ => (r_impl_WideInt a0).trans (u_impl_WideInt a0)
noncomputable def B285 : Bod Tryz.prog := ⟨285, Tryz.f285, Tryz.f285.body.getD .skip, Tryz.func285, by kernel_rfl, by kernel_rfl, zaU.no _ _⟩
noncomputable def Tb285 : Tb Tryz.prog := { T := [Y2, Y132, Y148], mix := mix, Es := [zee, E_impl_WideInt, E_impl_WideDiv], Bs := [], d := 1 }
noncomputable def zb4 (a0 : I64) (a1 : I64) (a2 : I64) : Tr (T2 I64 Bool) :=
  let c1 := zbp a0 a1;.br (zci c1 a2) (let c2 := zec c1 a2;.br (!c2.c) (.leaf ⟨⟨0, rfl⟩, false⟩) (let c3 := zeb c2.a;.leaf ⟨c3.a, c3.b⟩)) (.bad)
theorem r_impl_MulDivFloor (a0 : I64) (a1 : I64) (a2 : I64) : Tb285.run B285 [enc a0, enc a1, enc a2] (T2 I64 Bool) = (zb4 a0 a1 a2).opt := by kernel_rfl
noncomputable def zbh : I64 -> I64 -> I64 -> T2 I64 Bool := fun a0 a1 a2 => (zb4 a0 a1 a2).get
noncomputable def zbJ : I64 -> I64 -> I64 -> Bool := fun a0 a1 a2 => (zb4 a0 a1 a2).opt.isSome
noncomputable def E_impl_MulDivFloor : Ent Tryz.prog := .of3 Tb285 B285 zbJ zbh fun a0 a1 a2 h => (r_impl_MulDivFloor a0 a1 a2).trans (Tr.get_some h)
noncomputable def B273 : Bod Tryz.prog := ⟨273, Tryz.f273, Tryz.f273.body.getD .skip, Tryz.func273, by kernel_rfl, by kernel_rfl, zaU.no _ _⟩
noncomputable def Tb273 : Tb Tryz.prog := { T := [], mix := mix, Es := [zb7], Bs := [], d := 1 }
noncomputable def zet (a0 : I64) : Tr (Bool) :=
  .leaf (za1 a0 ⟨(-1152921504606846976), rfl⟩ ⟨1152921504606846976, rfl⟩)
theorem r_impl_ValidFix (a0 : I64) : Tb273.run B273 [enc a0] (Bool) = (zet a0).opt := by kernel_rfl
noncomputable def zaZ : I64 -> Bool := fun a0 => (zet a0).get
theorem u_impl_ValidFix (a0 : I64) : (zet a0).opt = some (zaZ a0) := Tr.zaB (by kernel_rfl)
noncomputable def zdG : Ent Tryz.prog := .of1 Tb273 B273 (fun _ => true) zaZ fun a0 _ => (r_impl_ValidFix a0).trans (u_impl_ValidFix a0)
noncomputable def B274 : Bod Tryz.prog := ⟨274, Tryz.f274, Tryz.f274.body.getD .skip, Tryz.func274, by kernel_rfl, by kernel_rfl, zaU.no _ _⟩
noncomputable def Tb274 : Tb Tryz.prog := { T := [], mix := mix, Es := [zdG], Bs := [], d := 1 }
noncomputable def t_impl_fixed (a0 : I64) (a1 : Bool) : Tr (T2 I64 Bool) :=
  .br (!a1) (.leaf ⟨⟨0, rfl⟩, false⟩) (.br (!(zaZ a0)) (.leaf ⟨⟨0, rfl⟩, false⟩) (.leaf ⟨a0, true⟩))
theorem r_impl_fixed (a0 : I64) (a1 : Bool) : Tb274.run B274 [enc a0, enc a1] (T2 I64 Bool) = (t_impl_fixed a0 a1).opt := by kernel_rfl
noncomputable def zbY : I64 -> Bool -> T2 I64 Bool := fun a0 a1 => (t_impl_fixed a0 a1).get
theorem u_impl_fixed (a0 : I64) (a1 : Bool) : (t_impl_fixed a0 a1).opt = some (zbY a0 a1) := Tr.zaB (by kernel_rfl)
noncomputable def zfL : Ent Tryz.prog := .of2 Tb274 B274 (fun _ _ => true) zbY fun a0 a1 _ => (r_impl_fixed a0 a1).trans (u_impl_fixed a0 a1)
noncomputable def B276 : Bod Tryz.prog := ⟨276, Tryz.f276, Tryz.f276.body.getD .skip, Tryz.func276, by kernel_rfl, by kernel_rfl, zaU.no _ _⟩
noncomputable def Tb276 : Tb Tryz.prog := { T := [], mix := mix, Es := [zfL, E_impl_MulDivFloor], Bs := [], d := 1 }
noncomputable def zev (a0 : I64) (a1 : I64) : Tr (T2 I64 Bool) :=
  .br (zbJ a0 ⟨4294967296, rfl⟩ a1) (let c1 := zbh a0 ⟨4294967296, rfl⟩ a1;let c2 := zbY c1.a c1.b;.leaf ⟨c2.a, c2.b⟩) (.bad)
theorem r_impl_FixFloor (a0 : I64) (a1 : I64) : Tb276.run B276 [enc a0, enc a1] (T2 I64 Bool) = (zev a0 a1).opt := by kernel_rfl
noncomputable def F_impl_FixFloor : I64 -> I64 -> T2 I64 Bool := fun a0 a1 => (zev a0 a1).get
noncomputable def zeC : I64 -> I64 -> Bool := fun a0 a1 => (zev a0 a1).opt.isSome
noncomputable def E_impl_FixFloor : Ent Tryz.prog := .of2 Tb276 B276 zeC F_impl_FixFloor fun a0 a1 h => (r_impl_FixFloor a0 a1).trans (Tr.get_some h)
noncomputable def B325 : Bod Tryz.prog := ⟨325, Tryz.f325, Tryz.f325.body.getD .skip, Tryz.func325, by kernel_rfl, by kernel_rfl, zaU.no _ _⟩
noncomputable def Tb325 : Tb Tryz.prog := { T := [Y2, Y132, Y148], mix := mix, Es := [zee, E_impl_WideInt, E_impl_WideDiv], Bs := [], d := 1 }
noncomputable def zce (a0 : I64) (a1 : I64) (a2 : I64) : Tr (T2 I64 Bool) :=
  let c1 := zbp a0 a1;.br (zci c1 a2) (let c2 := zec c1 a2;.br (!c2.c) (.leaf ⟨⟨0, rfl⟩, false⟩) (let c3 := zeb c2.a;.br (!c3.b) (.leaf ⟨⟨0, rfl⟩, false⟩) (.br (decide (c2.b.val > 0)) (.br (c3.a.val == 9223372036854775807) (.leaf ⟨⟨0, rfl⟩, false⟩) (.br (decide (c2.b.val > 0)) (.leaf ⟨(Rng.w .i64 (c3.a.val + 1)), true⟩) (.leaf ⟨c3.a, true⟩))) (.br (decide (c2.b.val > 0)) (.leaf ⟨(Rng.w .i64 (c3.a.val + 1)), true⟩) (.leaf ⟨c3.a, true⟩))))) (.bad)
theorem r_impl_mulDivCeil (a0 : I64) (a1 : I64) (a2 : I64) : Tb325.run B325 [enc a0, enc a1, enc a2] (T2 I64 Bool) = (zce a0 a1 a2).opt := by kernel_rfl
noncomputable def zeW : I64 -> I64 -> I64 -> T2 I64 Bool := fun a0 a1 a2 => (zce a0 a1 a2).get
noncomputable def zcT : I64 -> I64 -> I64 -> Bool := fun a0 a1 a2 => (zce a0 a1 a2).opt.isSome
noncomputable def E_impl_mulDivCeil : Ent Tryz.prog := .of3 Tb325 B325 zcT zeW fun a0 a1 a2 h => (r_impl_mulDivCeil a0 a1 a2).trans (Tr.get_some h)
noncomputable def B277 : Bod Tryz.prog := ⟨277, Tryz.f277, Tryz.f277.body.getD .skip, Tryz.func277, by kernel_rfl, by kernel_rfl, zaU.no _ _⟩
noncomputable def Tb277 : Tb Tryz.prog := { T := [], mix := mix, Es := [zfL, E_impl_mulDivCeil], Bs := [], d := 1 }
noncomputable def zd9 (a0 : I64) (a1 : I64) : Tr (T2 I64 Bool) :=
  .br (zcT a0 ⟨4294967296, rfl⟩ a1) (let c1 := zeW a0 ⟨4294967296, rfl⟩ a1;let c2 := zbY c1.a c1.b;.leaf ⟨c2.a, c2.b⟩) (.bad)
theorem r_impl_FixCeil (a0 : I64) (a1 : I64) : Tb277.run B277 [enc a0, enc a1] (T2 I64 Bool) = (zd9 a0 a1).opt := by kernel_rfl
noncomputable def F_impl_FixCeil : I64 -> I64 -> T2 I64 Bool := fun a0 a1 => (zd9 a0 a1).get
noncomputable def zfj : I64 -> I64 -> Bool := fun a0 a1 => (zd9 a0 a1).opt.isSome
noncomputable def E_impl_FixCeil : Ent Tryz.prog := .of2 Tb277 B277 zfj F_impl_FixCeil fun a0 a1 h => (r_impl_FixCeil a0 a1).trans (Tr.get_some h)
noncomputable def B207 : Bod Tryz.prog := ⟨207, Tryz.f207, Tryz.f207.body.getD .skip, Tryz.func207, by kernel_rfl, by kernel_rfl, zaU.no _ _⟩
noncomputable def Tb207 : Tb Tryz.prog := { T := [Y2, Y30], mix := mix, Es := [], Bs := [], d := 1 }
noncomputable def ze4 (a0 : Iv) : Tr (Bool) :=
  .br (decide ((-1152921504606846976) < a0.lo.val)) (.br (decide (a0.lo.val <= a0.hi.val)) (.leaf (decide (a0.hi.val < 1152921504606846976))) (.leaf false)) (.leaf false)
theorem r_impl_ValidInterval (a0 : Iv) : Tb207.run B207 [enc a0] (Bool) = (ze4 a0).opt := by kernel_rfl
noncomputable def zbt : Iv -> Bool := fun a0 => (ze4 a0).get
theorem u_impl_ValidInterval (a0 : Iv) : (ze4 a0).opt = some (zbt a0) := Tr.zaB (by kernel_rfl)
noncomputable def zdu : Ent Tryz.prog := .of1 Tb207 B207 (fun _ => true) zbt fun a0 _ => (r_impl_ValidInterval a0).trans (u_impl_ValidInterval a0)
noncomputable def B172 : Bod Tryz.prog := ⟨172, Tryz.f172, Tryz.f172.body.getD .skip, Tryz.func172, by kernel_rfl, by kernel_rfl, zaU.no _ _⟩
noncomputable def Tb172 : Tb Tryz.prog := { T := [Y2, Y30], mix := mix, Es := [zaI, zdu], Bs := [], d := 1 }
noncomputable def t_impl_bounded (a0 : I64) (a1 : I64) (a2 : Bool) : Tr (Iv) :=
  .br a2 (.br (zbt ⟨a0, a1⟩) (.leaf ⟨a0, a1⟩) (.leaf zQ)) (.leaf zQ)
theorem r_impl_bounded (a0 : I64) (a1 : I64) (a2 : Bool) : Tb172.run B172 [enc a0, enc a1, enc a2] (Iv) = (t_impl_bounded a0 a1 a2).opt := by kernel_rfl
noncomputable def za3 : I64 -> I64 -> Bool -> Iv := fun a0 a1 a2 => (t_impl_bounded a0 a1 a2).get
theorem u_impl_bounded (a0 : I64) (a1 : I64) (a2 : Bool) : (t_impl_bounded a0 a1 a2).opt = some (za3 a0 a1 a2) := Tr.zaB (by kernel_rfl)
noncomputable def zcO : Ent Tryz.prog := .of3 Tb172 B172 (fun _ _ _ => true) za3 fun a0 a1 a2 _ => (r_impl_bounded a0 a1 a2).trans (u_impl_bounded a0 a1 a2)
noncomputable def B203 : Bod Tryz.prog := ⟨203, Tryz.f203, Tryz.f203.body.getD .skip, Tryz.func203, by kernel_rfl, by kernel_rfl, zaU.no _ _⟩
noncomputable def Tb203 : Tb Tryz.prog := { T := [Y2, Y30], mix := mix, Es := [zaI, zcO, E_impl_FixFloor, E_impl_FixCeil], Bs := [], d := 1 }
noncomputable def zeu (a0 : I64) (a1 : I64) : Tr (Iv) :=
  .br (decide (a1.val < 0)) (let c1 := (Rng.w .i64 (0 - a0.val));let c2 := (Rng.w .i64 (0 - a1.val));.br (decide (c2.val < 0)) (.leaf zQ) (.br (c1.val == (-9223372036854775808)) (.leaf zQ) (.br (zeC c1 c2) (let c6 := F_impl_FixFloor c1 c2;.br (zfj c1 c2) (let c7 := F_impl_FixCeil c1 c2;.br c6.b (.leaf (za3 c6.a c7.a c7.b)) (.leaf (za3 c6.a c7.a false))) (.bad)) (.bad)))) (.br (zeC a0 a1) (let c10 := F_impl_FixFloor a0 a1;.br (zfj a0 a1) (let c11 := F_impl_FixCeil a0 a1;.br c10.b (.leaf (za3 c10.a c11.a c11.b)) (.leaf (za3 c10.a c11.a false))) (.bad)) (.bad))
theorem r_impl_Quotient (a0 : I64) (a1 : I64) : Tb203.run B203 [enc a0, enc a1] (Iv) = (zeu a0 a1).opt := by kernel_rfl
noncomputable def zbc : I64 -> I64 -> Iv := fun a0 a1 => (zeu a0 a1).get
noncomputable def B89 : Bod Tryz.prog := ⟨89, Tryz.f89, Tryz.f89.body.getD .skip, Tryz.func89, by kernel_rfl, by kernel_rfl, zaU.no _ _⟩
noncomputable def Tb89 : Tb Tryz.prog := { T := [Y2, Y30], mix := mix, Es := [], Bs := [], d := 1 }
noncomputable def t_spec_l04Whole : Tr (Iv) :=
  .leaf ⟨⟨(-1152921504606846976), rfl⟩, ⟨1152921504606846976, rfl⟩⟩
theorem r_spec_l04Whole : Tb89.run B89 [] (Iv) = (t_spec_l04Whole).opt := by kernel_rfl
noncomputable def zz : Iv := (t_spec_l04Whole).get
theorem u_spec_l04Whole : (t_spec_l04Whole).opt = some (zz) := Tr.zaB (by kernel_rfl)
noncomputable def E_spec_l04Whole : Ent Tryz.prog := .of0 Tb89 B89 zz (r_spec_l04Whole.trans u_spec_l04Whole)
noncomputable def t_spec_Whole : Tr (Iv) :=
  .leaf zz
noncomputable def zaV : Iv := (t_spec_Whole).get
noncomputable def t_spec_l02Size (a0 : I64) : Tr (U64) :=
  .br (decide (a0.val < 0)) (.leaf (Rng.w .u64 (0 - (Rng.w .u64 (a0.val)).val))) (.leaf (Rng.w .u64 (a0.val)))
noncomputable def zbB : I64 -> U64 := fun a0 => (t_spec_l02Size a0).get
noncomputable def t_spec_l02Times (a0 : U64) (a1 : U64) : Tr (T2 U64 U64) :=
  let c8 := (Rng.w .u64 ((Rng.w .u64 ((Rng.w .u64 (a0.val.fdiv 4294967296)).val * (Rng.w .u64 (zbd .and .u64 a1.val 4294967295)).val)).val + (Rng.w .u64 ((Rng.w .u64 ((Rng.w .u64 (zbd .and .u64 a0.val 4294967295)).val * (Rng.w .u64 (zbd .and .u64 a1.val 4294967295)).val)).val.fdiv 4294967296)).val));.leaf ⟨(Rng.w .u64 ((Rng.w .u64 ((Rng.w .u64 ((Rng.w .u64 (a0.val.fdiv 4294967296)).val * (Rng.w .u64 (a1.val.fdiv 4294967296)).val)).val + (Rng.w .u64 (c8.val.fdiv 4294967296)).val)).val + (Rng.w .u64 ((Rng.w .u64 ((Rng.w .u64 ((Rng.w .u64 (zbd .and .u64 a0.val 4294967295)).val * (Rng.w .u64 (a1.val.fdiv 4294967296)).val)).val + (Rng.w .u64 (zbd .and .u64 c8.val 4294967295)).val)).val.fdiv 4294967296)).val)), (Rng.w .u64 (a0.val * a1.val))⟩
noncomputable def F_spec_l02Times : U64 -> U64 -> T2 U64 U64 := fun a0 a1 => (t_spec_l02Times a0 a1).get
noncomputable def zer (a0 : Wide) : Tr (Wide) :=
  let c2 := (Rng.w .u64 (0 - a0.lo.val));.br (a0.lo.val == 0) (.leaf ⟨(Rng.w .i64 (0 - a0.hi.val)), c2⟩) (.leaf ⟨(Rng.w .i64 (zbd .xor .i64 (-1) a0.hi.val)), c2⟩)
noncomputable def zaX : Wide -> Wide := fun a0 => (zer a0).get
noncomputable def t_spec_l02Mul (a0 : I64) (a1 : I64) : Tr (Wide) :=
  let c3 := F_spec_l02Times (zbB a0) (zbB a1);.br (!((decide (a0.val < 0)) == (decide (a1.val < 0)))) (.leaf (zaX ⟨(Rng.w .i64 (c3.a.val)), c3.b⟩)) (.leaf ⟨(Rng.w .i64 (c3.a.val)), c3.b⟩)
noncomputable def zcF : I64 -> I64 -> Wide := fun a0 a1 => (t_spec_l02Mul a0 a1).get
structure zcv where
  x0 : U64
  x1 : U64
  x2 : U64
  x3 : U64
  x4 : U64
  x5 : I64
instance : Inhabited zcv := ⟨⟨default, default, default, default, default, default⟩⟩
noncomputable def zcu (x : zcv) : Tr (Lp zcv) :=
  .br (decide (x.x5.val >= 0)) (let c7 := (Rng.w .u64 (zbd .or .u64 (Rng.w .u64 (x.x3.val * 2)).val (Rng.w .u64 (zbd .and .u64 (Rng.w .u64 (x.x0.val.fdiv (2 ^ min ((Rng.w .u64 (x.x5.val)).val).toNat 64))).val 1)).val));let c8 := (Rng.w .u64 (x.x4.val * 2));.br ((Rng.w .u64 (x.x3.val.fdiv 9223372036854775808)).val == 1) (.leaf (.again ⟨x.x0, x.x1, x.x2, (Rng.w .u64 (c7.val - x.x1.val)), (Rng.w .u64 (zbd .or .u64 c8.val 1)), (Rng.w .i64 (x.x5.val - 1))⟩)) (.br (decide (c7.val >= x.x1.val)) (.leaf (.again ⟨x.x0, x.x1, x.x2, (Rng.w .u64 (c7.val - x.x1.val)), (Rng.w .u64 (zbd .or .u64 c8.val 1)), (Rng.w .i64 (x.x5.val - 1))⟩)) (.leaf (.again ⟨x.x0, x.x1, x.x2, c7, c8, (Rng.w .i64 (x.x5.val - 1))⟩)))) (.leaf (.out ⟨x.x0, x.x1, x.x2, x.x3, x.x4, x.x5⟩))
noncomputable def G_spec_l02Divide_5 (x : zcv) : Bool := (Lf zcu 66 x).opt.isSome
noncomputable def L_spec_l02Divide_5 (x : zcv) : zcv := (Lf zcu 66 x).get
noncomputable def zfl (a0 : U64) (a1 : U64) (a2 : U64) : Tr (T3 U64 U64 U64) :=
  .br (a2.val == 0) (.bad) (let c1 := (Rng.w .u64 (a0.val.tdiv a2.val));.br (a2.val == 0) (.bad) (let c2 := (Rng.w .u64 (a0.val.tmod a2.val));.br (G_spec_l02Divide_5 ⟨a1, a2, c1, c2, ⟨0, rfl⟩, ⟨63, rfl⟩⟩) (let c17 := L_spec_l02Divide_5 ⟨a1, a2, c1, c2, ⟨0, rfl⟩, ⟨63, rfl⟩⟩;.leaf ⟨c17.x2, c17.x4, c17.x3⟩) (.bad)))
noncomputable def zcb : U64 -> U64 -> U64 -> T3 U64 U64 U64 := fun a0 a1 a2 => (zfl a0 a1 a2).get
noncomputable def zfs : U64 -> U64 -> U64 -> Bool := fun a0 a1 a2 => (zfl a0 a1 a2).opt.isSome
noncomputable def t_spec_l02Of (a0 : I64) : Tr (Wide) :=
  .br (decide (a0.val < 0)) (.leaf ⟨⟨(-1), rfl⟩, (Rng.w .u64 (a0.val))⟩) (.leaf ⟨⟨0, rfl⟩, (Rng.w .u64 (a0.val))⟩)
noncomputable def zdL : I64 -> Wide := fun a0 => (t_spec_l02Of a0).get
noncomputable def t_spec_l02Plus (a0 : Wide) (a1 : Wide) : Tr (Wide) :=
  let c1 := (Rng.w .i64 (a0.hi.val + a1.hi.val));let c2 := (Rng.w .u64 (a0.lo.val + a1.lo.val));.br (decide (c2.val < a0.lo.val)) (.leaf ⟨(Rng.w .i64 (c1.val + 1)), c2⟩) (.leaf ⟨c1, c2⟩)
noncomputable def zb0 : Wide -> Wide -> Wide := fun a0 a1 => (t_spec_l02Plus a0 a1).get
noncomputable def zfO (a0 : Wide) (a1 : I64) : Tr (T2 Wide I64) :=
  .br (decide (a0.hi.val >= 0)) (.br (zfs (Rng.w .u64 (a0.hi.val)) a0.lo (Rng.w .u64 (a1.val))) (let c1 := zcb (Rng.w .u64 (a0.hi.val)) a0.lo (Rng.w .u64 (a1.val));.leaf ⟨⟨(Rng.w .i64 (c1.a.val)), c1.b⟩, (Rng.w .i64 (c1.c.val))⟩) (.bad)) (let c2 := zaX a0;.br (zfs (Rng.w .u64 (c2.hi.val)) c2.lo (Rng.w .u64 (a1.val))) (let c3 := zcb (Rng.w .u64 (c2.hi.val)) c2.lo (Rng.w .u64 (a1.val));let c4 := zaX ⟨(Rng.w .i64 (c3.a.val)), c3.b⟩;.br (c3.c.val == 0) (.leaf ⟨c4, ⟨0, rfl⟩⟩) (.leaf ⟨(zb0 c4 (zdL ⟨(-1), rfl⟩)), (Rng.w .i64 (a1.val - (Rng.w .i64 (c3.c.val)).val))⟩)) (.bad))
noncomputable def F_spec_l02Div : Wide -> I64 -> T2 Wide I64 := fun a0 a1 => (zfO a0 a1).get
noncomputable def G_spec_l02Div : Wide -> I64 -> Bool := fun a0 a1 => (zfO a0 a1).opt.isSome
noncomputable def t_spec_l02Int (a0 : Wide) : Tr (T2 I64 Bool) :=
  let c1 := zdL (Rng.w .i64 (a0.lo.val));.br (!((c1.hi.val == a0.hi.val) && ((c1.lo.val == a0.lo.val) && true))) (.leaf ⟨⟨0, rfl⟩, false⟩) (.leaf ⟨(Rng.w .i64 (a0.lo.val)), true⟩)
noncomputable def F_spec_l02Int : Wide -> T2 I64 Bool := fun a0 => (t_spec_l02Int a0).get
noncomputable def zc8 (a0 : I64) (a1 : I64) (a2 : I64) : Tr (T2 I64 Bool) :=
  .br (decide (a2.val <= 0)) (.leaf ⟨⟨0, rfl⟩, false⟩) (let c1 := zcF a0 a1;.br (G_spec_l02Div c1 a2) (let c3 := F_spec_l02Int (F_spec_l02Div c1 a2).a;.leaf ⟨c3.a, c3.b⟩) (.bad))
noncomputable def zbf : I64 -> I64 -> I64 -> T2 I64 Bool := fun a0 a1 a2 => (zc8 a0 a1 a2).get
noncomputable def zbI : I64 -> I64 -> I64 -> Bool := fun a0 a1 a2 => (zc8 a0 a1 a2).opt.isSome
noncomputable def zeo (a0 : I64) : Tr (Bool) :=
  .leaf (zaG a0 ⟨(-1152921504606846976), rfl⟩ ⟨1152921504606846976, rfl⟩)
noncomputable def zM : I64 -> Bool := fun a0 => (zeo a0).get
noncomputable def zcE (a0 : I64) (a1 : Bool) : Tr (T2 I64 Bool) :=
  .br (!a1) (.leaf ⟨⟨0, rfl⟩, false⟩) (.br (!(zM a0)) (.leaf ⟨⟨0, rfl⟩, false⟩) (.leaf ⟨a0, true⟩))
noncomputable def zau : I64 -> Bool -> T2 I64 Bool := fun a0 a1 => (zcE a0 a1).get
noncomputable def zeq (a0 : I64) (a1 : I64) : Tr (T2 I64 Bool) :=
  .br (decide (a1.val <= 0)) (.leaf ⟨⟨0, rfl⟩, false⟩) (.br (zbI a0 ⟨4294967296, rfl⟩ a1) (let c1 := zbf a0 ⟨4294967296, rfl⟩ a1;let c2 := zau c1.a c1.b;.leaf ⟨c2.a, c2.b⟩) (.bad))
noncomputable def F_spec_l03Floor : I64 -> I64 -> T2 I64 Bool := fun a0 a1 => (zeq a0 a1).get
noncomputable def zfZ : I64 -> I64 -> Bool := fun a0 a1 => (zeq a0 a1).opt.isSome
noncomputable def zfc (a0 : I64) (a1 : I64) : Tr (T2 I64 Bool) :=
  .br (decide (a1.val <= 0)) (.leaf ⟨⟨0, rfl⟩, false⟩) (.br (zbI a0 ⟨4294967296, rfl⟩ a1) (let c1 := zbf a0 ⟨4294967296, rfl⟩ a1;.br (!c1.b) (.leaf ⟨⟨0, rfl⟩, false⟩) (.br ((Rng.w .i64 (c1.a.val * a1.val)).val != (Rng.w .i64 (a0.val * 4294967296)).val) (let c5 := zau (Rng.w .i64 (c1.a.val + 1)) true;.leaf ⟨c5.a, c5.b⟩) (let c6 := zau c1.a true;.leaf ⟨c6.a, c6.b⟩))) (.bad))
noncomputable def F_spec_l03Ceil : I64 -> I64 -> T2 I64 Bool := fun a0 a1 => (zfc a0 a1).get
noncomputable def G_spec_l03Ceil : I64 -> I64 -> Bool := fun a0 a1 => (zfc a0 a1).opt.isSome
noncomputable def B91 : Bod Tryz.prog := ⟨91, Tryz.f91, Tryz.f91.body.getD .skip, Tryz.func91, by kernel_rfl, by kernel_rfl, zaU.no _ _⟩
noncomputable def Tb91 : Tb Tryz.prog := { T := [Y2, Y30], mix := mix, Es := [], Bs := [], d := 1 }
noncomputable def zfD (a0 : Iv) : Tr (Bool) :=
  .br (decide ((-1152921504606846976) < a0.lo.val)) (.br (decide (a0.lo.val <= a0.hi.val)) (.leaf (decide (a0.hi.val < 1152921504606846976))) (.leaf false)) (.leaf false)
theorem r_spec_l04Ok (a0 : Iv) : Tb91.run B91 [enc a0] (Bool) = (zfD a0).opt := by kernel_rfl
noncomputable def zn : Iv -> Bool := fun a0 => (zfD a0).get
theorem u_spec_l04Ok (a0 : Iv) : (zfD a0).opt = some (zn a0) := Tr.zaB (by kernel_rfl)
noncomputable def E_spec_l04Ok : Ent Tryz.prog := .of1 Tb91 B91 (fun _ => true) zn fun a0 _ => (r_spec_l04Ok a0).trans (u_spec_l04Ok a0)
noncomputable def B90 : Bod Tryz.prog := ⟨90, Tryz.f90, Tryz.f90.body.getD .skip, Tryz.func90, by kernel_rfl, by kernel_rfl, zaU.no _ _⟩
noncomputable def Tb90 : Tb Tryz.prog := { T := [Y2, Y30], mix := mix, Es := [E_spec_l04Whole, E_spec_l04Ok], Bs := [], d := 1 }
noncomputable def zde (a0 : I64) (a1 : I64) : Tr (Iv) :=
  .br (!(zn ⟨a0, a1⟩)) (.leaf zz) (.leaf ⟨a0, a1⟩)
theorem r_spec_l04Make (a0 : I64) (a1 : I64) : Tb90.run B90 [enc a0, enc a1] (Iv) = (zde a0 a1).opt := by kernel_rfl
noncomputable def zay : I64 -> I64 -> Iv := fun a0 a1 => (zde a0 a1).get
theorem u_spec_l04Make (a0 : I64) (a1 : I64) : (zde a0 a1).opt = some (zay a0 a1) := Tr.zaB (by kernel_rfl)
noncomputable def E_spec_l04Make : Ent Tryz.prog := .of2 Tb90 B90 (fun _ _ => true) zay fun a0 a1 _ => (r_spec_l04Make a0 a1).trans (u_spec_l04Make a0 a1)
noncomputable def t_spec_Quotient (a0 : I64) (a1 : I64) : Tr (Iv) :=
  .br (decide (a1.val < 0)) (.br (a0.val == (-9223372036854775808)) (.leaf zz) (.br (a1.val == (-9223372036854775808)) (.leaf zz) (let c5 := (Rng.w .i64 (0 - a0.val));let c6 := (Rng.w .i64 (0 - a1.val));.br (zfZ c5 c6) (let c7 := F_spec_l03Floor c5 c6;.br (G_spec_l03Ceil c5 c6) (let c8 := F_spec_l03Ceil c5 c6;.br (!c7.b) (.leaf zz) (.br (!c8.b) (.leaf zz) (.leaf (zay c7.a c8.a)))) (.bad)) (.bad)))) (.br (zfZ a0 a1) (let c12 := F_spec_l03Floor a0 a1;.br (G_spec_l03Ceil a0 a1) (let c13 := F_spec_l03Ceil a0 a1;.br (!c12.b) (.leaf zz) (.br (!c13.b) (.leaf zz) (.leaf (zay c12.a c13.a)))) (.bad)) (.bad))
noncomputable def zaY : I64 -> I64 -> Iv := fun a0 a1 => (t_spec_Quotient a0 a1).get
noncomputable def t_spec_NegI (a0 : Iv) : Tr (Iv) :=
  .br (!(zn a0)) (.leaf zz) (.leaf (zay (Rng.w .i64 (0 - a0.hi.val)) (Rng.w .i64 (0 - a0.lo.val))))
noncomputable def zbb : Iv -> Iv := fun a0 => (t_spec_NegI a0).get
noncomputable def zb3 (a0 : I64) : Tr (Iv) :=
  .br (!(zaG a0 ⟨(-36000000000), rfl⟩ ⟨36000000000, rfl⟩)) (.leaf zaV) (.br (a0.val == 0) (.leaf ⟨⟨0, rfl⟩, ⟨0, rfl⟩⟩) (.br (decide (a0.val < 0)) (.bad) (.br (zbI a0 ⟨7244019458077122842, rfl⟩ ⟨966367641600000000, rfl⟩) (.br (zbI a0 ⟨7244019458077122843, rfl⟩ ⟨966367641600000000, rfl⟩) (.leaf ⟨(zbf a0 ⟨7244019458077122842, rfl⟩ ⟨966367641600000000, rfl⟩).a, (Rng.w .i64 ((zbf a0 ⟨7244019458077122843, rfl⟩ ⟨966367641600000000, rfl⟩).a.val + 1))⟩) (.bad)) (.bad))))
noncomputable def zcw : I64 -> Iv := fun a0 => (zb3 a0).get
noncomputable def zek : I64 -> Bool := fun a0 => (zb3 a0).opt.isSome
noncomputable def zbL (a0 : I64) : Tr (Iv) :=
  .br (!(zaG a0 ⟨(-36000000000), rfl⟩ ⟨36000000000, rfl⟩)) (.leaf zaV) (.br (a0.val == 0) (.leaf ⟨⟨0, rfl⟩, ⟨0, rfl⟩⟩) (.br (decide (a0.val < 0)) (let c3 := (Rng.w .i64 (0 - a0.val));.br (zek c3) (.leaf (zbb (zcw c3))) (.bad)) (.br (zbI a0 ⟨7244019458077122842, rfl⟩ ⟨966367641600000000, rfl⟩) (.br (zbI a0 ⟨7244019458077122843, rfl⟩ ⟨966367641600000000, rfl⟩) (.leaf ⟨(zbf a0 ⟨7244019458077122842, rfl⟩ ⟨966367641600000000, rfl⟩).a, (Rng.w .i64 ((zbf a0 ⟨7244019458077122843, rfl⟩ ⟨966367641600000000, rfl⟩).a.val + 1))⟩) (.bad)) (.bad))))
noncomputable def zaz : I64 -> Iv := fun a0 => (zbL a0).get
noncomputable def B123 : Bod Tryz.prog := ⟨123, Tryz.f123, Tryz.f123.body.getD .skip, Tryz.func123, by kernel_rfl, by kernel_rfl, zaU.no _ _⟩
noncomputable def Tb123 : Tb Tryz.prog := { T := [Y30], mix := mix, Es := [zdu], Bs := [], d := 1 }
noncomputable def zcJ (a0 : Iv) : Tr (Bool) :=
  .leaf (!(zbt a0))
theorem r_impl_IsWhole (a0 : Iv) : Tb123.run B123 [enc a0] (Bool) = (zcJ a0).opt := by kernel_rfl
noncomputable def zar : Iv -> Bool := fun a0 => (zcJ a0).get
theorem u_impl_IsWhole (a0 : Iv) : (zcJ a0).opt = some (zar a0) := Tr.zaB (by kernel_rfl)
noncomputable def zb1 : Ent Tryz.prog := .of1 Tb123 B123 (fun _ => true) zar fun a0 _ => (r_impl_IsWhole a0).trans (u_impl_IsWhole a0)
noncomputable def B200 : Bod Tryz.prog := ⟨200, Tryz.f200, Tryz.f200.body.getD .skip, Tryz.func200, by kernel_rfl, by kernel_rfl, zaU.no _ _⟩
noncomputable def Tb200 : Tb Tryz.prog := { T := [Y2, Y30], mix := mix, Es := [zb1, zaI], Bs := [], d := 1 }
noncomputable def t_impl_NegI (a0 : Iv) : Tr (Iv) :=
  .br (zar a0) (.leaf zQ) (.leaf ⟨(Rng.w .i64 (0 - a0.hi.val)), (Rng.w .i64 (0 - a0.lo.val))⟩)
theorem r_impl_NegI (a0 : Iv) : Tb200.run B200 [enc a0] (Iv) = (t_impl_NegI a0).opt := by kernel_rfl
noncomputable def zdn : Iv -> Iv := fun a0 => (t_impl_NegI a0).get
theorem u_impl_NegI (a0 : Iv) : (t_impl_NegI a0).opt = some (zdn a0) := Tr.zaB (by kernel_rfl)
noncomputable def E_impl_NegI : Ent Tryz.prog := .of1 Tb200 B200 (fun _ => true) zdn fun a0 _ => (r_impl_NegI a0).trans (u_impl_NegI a0)
noncomputable def B217 : Bod Tryz.prog := ⟨217, Tryz.f217, Tryz.f217.body.getD .skip, Tryz.func217, by kernel_rfl, by kernel_rfl, zaU.no _ _⟩
noncomputable def Tb217_p : Tb Tryz.prog := { T := [Y2, Y30], mix := mix, Es := [zaI, zb7, E_impl_MulDivFloor], Bs := [], d := 1 }
noncomputable def zc9 (a0 : I64) : Tr (Iv) :=
  .br (!(za1 a0 ⟨(-36000000000), rfl⟩ ⟨36000000000, rfl⟩)) (.leaf zQ) (.br (decide (a0.val < 0)) (.bad) (.br (a0.val == 0) (.leaf ⟨⟨0, rfl⟩, ⟨0, rfl⟩⟩) (.br (zbJ a0 ⟨7244019458077122842, rfl⟩ ⟨966367641600000000, rfl⟩) (.br (zbJ a0 ⟨7244019458077122843, rfl⟩ ⟨966367641600000000, rfl⟩) (.leaf ⟨(zbh a0 ⟨7244019458077122842, rfl⟩ ⟨966367641600000000, rfl⟩).a, (Rng.w .i64 ((zbh a0 ⟨7244019458077122843, rfl⟩ ⟨966367641600000000, rfl⟩).a.val + 1))⟩) (.bad)) (.bad))))
theorem r_impl_RadiansOf_p (a0 : I64) : Tb217_p.run B217 [enc a0] (Iv) = (zc9 a0).opt := by kernel_rfl
noncomputable def F_impl_RadiansOf_p : I64 -> Iv := fun a0 => (zc9 a0).get
noncomputable def zel : I64 -> Bool := fun a0 => (zc9 a0).opt.isSome
noncomputable def E_impl_RadiansOf_p : Ent Tryz.prog := .of1 Tb217_p B217 zel F_impl_RadiansOf_p fun a0 h => (r_impl_RadiansOf_p a0).trans (Tr.get_some h)
noncomputable def Tb217 : Tb Tryz.prog := { T := [Y2, Y30], mix := mix, Es := [zaI, zb7, E_impl_NegI, E_impl_RadiansOf_p, E_impl_MulDivFloor], Bs := [], d := 1 }
noncomputable def zdY (a0 : I64) : Tr (Iv) :=
  .br (!(za1 a0 ⟨(-36000000000), rfl⟩ ⟨36000000000, rfl⟩)) (.leaf zQ) (.br (decide (a0.val < 0)) (let c3 := (Rng.w .i64 (0 - a0.val));.br (zel c3) (.leaf (zdn (F_impl_RadiansOf_p c3))) (.bad)) (.br (a0.val == 0) (.leaf ⟨⟨0, rfl⟩, ⟨0, rfl⟩⟩) (.br (zbJ a0 ⟨7244019458077122842, rfl⟩ ⟨966367641600000000, rfl⟩) (.br (zbJ a0 ⟨7244019458077122843, rfl⟩ ⟨966367641600000000, rfl⟩) (.leaf ⟨(zbh a0 ⟨7244019458077122842, rfl⟩ ⟨966367641600000000, rfl⟩).a, (Rng.w .i64 ((zbh a0 ⟨7244019458077122843, rfl⟩ ⟨966367641600000000, rfl⟩).a.val + 1))⟩) (.bad)) (.bad))))
theorem r_impl_RadiansOf (a0 : I64) : Tb217.run B217 [enc a0] (Iv) = (zdY a0).opt := by kernel_rfl
noncomputable def zd6 : I64 -> Iv := fun a0 => (zdY a0).get
end
end Go.Proofs.YtfcjhkkpbnobhaaGreat.Ev
namespace Go.Proofs.YtfcjhkkpbnobhaaGreat.Ev
open Go
theorem wi {n : Int} (h : -9223372036854775808 <= n) (h' : n <= 9223372036854775807) : (Rng.w .i64 n).val = n := wrap_inB (k := .i64) (by simp [inB, h, h'])
theorem wu {n : Int} (h : 0 <= n) (h' : n <= 18446744073709551615) : (Rng.w .u64 n).val = n := wrap_inB (k := .u64) (by simp [inB, h, h'])
theorem za9 (n : Int) : (Rng.w .u64 n).val = n % 18446744073709551616 := by
  show IntKind.u64.wrap n = _
  simp [IntKind.wrap, IntKind.bits, IntKind.signed]
theorem zc6 (a b c : I64) : za1 a b c = decide (b.val <= a.val /\ a.val <= c.val) := by
  simp only [za1, t_impl_within, Tr.get, ge_iff_le]
  by_cases h : b.val <= a.val <;> simp [h]
theorem ze5 (a b c : I64) : zaG a b c = decide (b.val <= a.val /\ a.val <= c.val) := by
  simp only [zaG, t_spec_l00In, Tr.get, ge_iff_le]
  by_cases h : b.val <= a.val <;> simp [h]
theorem point_eq (p : zbi) : zaL p = zab p := by
  simp only [zaL, zab, zeM, t_spec_l11Ok, Tr.get, zc6, ze5]
  rw [Bool.eq_iff_iff]
  simp [Bool.cond_eq_ite]
  grind
theorem abs_val (n : I64) (h : -9223372036854775807 <= n.val) : (zbq n).val = if n.val < 0 then -n.val else n.val := by
  have b := n.bd
  simp only [zbq, t_impl_abs, Tr.get, mx]
  rw [wi (by omega) (by omega)]
  by_cases h0 : n.val < 0
  · have e : decide (0 - n.val > n.val) = true := by simp;omega
    rw [e, cond_true, wi (by omega) (by omega)];simp [h0]
  · have e : decide (0 - n.val > n.val) = false := by simp;omega
    rw [e, cond_false];simp [h0]
end Go.Proofs.YtfcjhkkpbnobhaaGreat.Ev
