import Derived.Test.YtcfflflcbacapaaGreatW0
namespace Go.Proofs.YtcfflflcbacapaaGreat.Ev
open Go Go.RowKit
set_option maxRecDepth 100000
set_option linter.unusedVariables false
section
noncomputable def E_math_bits_Add64 : Ent Tryz.prog := .add64 Tryz.func290 (by kernel_rfl) (by kernel_rfl) (by kernel_rfl) (by kernel_rfl)
noncomputable def E_math_bits_Sub64 : Ent Tryz.prog := .sub64 Tryz.func306 (by kernel_rfl) (by kernel_rfl) (by kernel_rfl) (by kernel_rfl)
noncomputable def Y27 : TyE Tryz.prog := ⟨27, 2, (.struct [(0, 2, 1), (1, 2, 1)]), [.i64 ⟨0, rfl⟩, .i64 ⟨0, rfl⟩], true, by kernel_rfl, by kernel_rfl, by kernel_rfl, by kernel_rfl, by kernel_rfl, by kernel_rfl⟩
noncomputable def B23 : Bod Tryz.prog := ⟨23, Tryz.f23, Tryz.f23.body.getD .skip, Tryz.func23, by kernel_rfl, by kernel_rfl, Loops.no _ _⟩
noncomputable def Tb23 : Tb Tryz.prog := { T := [Y2, Y27], mix := mix, Es := [], Bs := [], d := 1 }
noncomputable def t_laws_eqInterval (a0 : Iv) (a1 : Iv) : Tr (Bool) :=
  .br (a0.lo.val != a1.lo.val) (.leaf false) (.br (a0.hi.val != a1.hi.val) (.leaf false) (.leaf true))
theorem r_laws_eqInterval (a0 : Iv) (a1 : Iv) : Tb23.run B23 [enc a0, enc a1] (Bool) = (t_laws_eqInterval a0 a1).opt := by kernel_rfl
noncomputable def F_laws_eqInterval : Iv → Iv → Bool := fun a0 a1 => (t_laws_eqInterval a0 a1).get
theorem u_laws_eqInterval (a0 : Iv) (a1 : Iv) : (t_laws_eqInterval a0 a1).opt = some (F_laws_eqInterval a0 a1) := Tr.tot_get (by kernel_rfl)
noncomputable def E_laws_eqInterval : Ent Tryz.prog := .of2 Tb23 B23 (fun _ _ => true) F_laws_eqInterval fun a0 a1 _ => (r_laws_eqInterval a0 a1).trans (u_laws_eqInterval a0 a1)
noncomputable def B147 : Bod Tryz.prog := ⟨147, Tryz.f147, Tryz.f147.body.getD .skip, Tryz.func147, by kernel_rfl, by kernel_rfl, Loops.no _ _⟩
noncomputable def Tb147 : Tb Tryz.prog := { T := [], mix := mix, Es := [], Bs := [], d := 1 }
noncomputable def t_impl_WrapLon (a0 : I64) : Tr (I64) :=
  let c1 := (Rng.w .i64 (a0.val.tmod 3600000000)); .br (decide (c1.val > 1800000000)) (.leaf (Rng.w .i64 (c1.val - 3600000000))) (.br (decide (c1.val ≤ (-1800000000))) (.leaf (Rng.w .i64 (c1.val + 3600000000))) (.leaf c1))
theorem r_impl_WrapLon (a0 : I64) : Tb147.run B147 [enc a0] (I64) = (t_impl_WrapLon a0).opt := by kernel_rfl
noncomputable def F_impl_WrapLon : I64 → I64 := fun a0 => (t_impl_WrapLon a0).get
theorem u_impl_WrapLon (a0 : I64) : (t_impl_WrapLon a0).opt = some (F_impl_WrapLon a0) := Tr.tot_get (by kernel_rfl)
noncomputable def E_impl_WrapLon : Ent Tryz.prog := .of1 Tb147 B147 (fun _ => true) F_impl_WrapLon fun a0 _ => (r_impl_WrapLon a0).trans (u_impl_WrapLon a0)
noncomputable def B135 : Bod Tryz.prog := ⟨135, Tryz.f135, Tryz.f135.body.getD .skip, Tryz.func135, by kernel_rfl, by kernel_rfl, Loops.no _ _⟩
noncomputable def Tb135 : Tb Tryz.prog := { T := [], mix := mix, Es := [], Bs := [], d := 1 }
noncomputable def t_spec_l11Wrap (a0 : I64) : Tr (I64) :=
  let c1 := (Rng.w .i64 (a0.val.tmod 3600000000)); .br (decide (c1.val > 1800000000)) (let c3 := (Rng.w .i64 (c1.val - 3600000000)); .br (decide (c3.val ≤ (-1800000000))) (.leaf (Rng.w .i64 (c3.val + 3600000000))) (.leaf c3)) (.br (decide (c1.val ≤ (-1800000000))) (.leaf (Rng.w .i64 (c1.val + 3600000000))) (.leaf c1))
theorem r_spec_l11Wrap (a0 : I64) : Tb135.run B135 [enc a0] (I64) = (t_spec_l11Wrap a0).opt := by kernel_rfl
noncomputable def F_spec_l11Wrap : I64 → I64 := fun a0 => (t_spec_l11Wrap a0).get
theorem u_spec_l11Wrap (a0 : I64) : (t_spec_l11Wrap a0).opt = some (F_spec_l11Wrap a0) := Tr.tot_get (by kernel_rfl)
noncomputable def E_spec_l11Wrap : Ent Tryz.prog := .of1 Tb135 B135 (fun _ => true) F_spec_l11Wrap fun a0 _ => (r_spec_l11Wrap a0).trans (u_spec_l11Wrap a0)
noncomputable def B66 : Bod Tryz.prog := ⟨66, Tryz.f66, Tryz.f66.body.getD .skip, Tryz.func66, by kernel_rfl, by kernel_rfl, Loops.no _ _⟩
noncomputable def Tb66 : Tb Tryz.prog := { T := [Y2, Y27], mix := mix, Es := [], Bs := [], d := 1 }
noncomputable def t_impl_Whole : Tr (Iv) :=
  .leaf ⟨⟨(-1152921504606846976), rfl⟩, ⟨1152921504606846976, rfl⟩⟩
theorem r_impl_Whole : Tb66.run B66 [] (Iv) = (t_impl_Whole).opt := by kernel_rfl
noncomputable def F_impl_Whole : Iv := (t_impl_Whole).get
theorem u_impl_Whole : (t_impl_Whole).opt = some (F_impl_Whole) := Tr.tot_get (by kernel_rfl)
noncomputable def E_impl_Whole : Ent Tryz.prog := .of0 Tb66 B66 F_impl_Whole (r_impl_Whole.trans u_impl_Whole)
noncomputable def B291 : Bod Tryz.prog := ⟨291, Tryz.f291, Tryz.f291.body.getD .skip, Tryz.func291, by kernel_rfl, by kernel_rfl, Loops.no _ _⟩
noncomputable def Tb291 : Tb Tryz.prog := { T := [], mix := mix, Es := [], Bs := [], d := 1 }
noncomputable def t_math_bits_Mul64 (a0 : U64) (a1 : U64) : Tr (T2 U64 U64) :=
  let c1 := (Rng.w .u64 (bitop .and .u64 a0.val 4294967295)); let c2 := (Rng.w .u64 (a0.val.fdiv 4294967296)); let c3 := (Rng.w .u64 (bitop .and .u64 a1.val 4294967295)); let c4 := (Rng.w .u64 (a1.val.fdiv 4294967296)); let c8 := (Rng.w .u64 ((Rng.w .u64 (c2.val * c3.val)).val + (Rng.w .u64 ((Rng.w .u64 (c1.val * c3.val)).val.fdiv 4294967296)).val)); .leaf ⟨(Rng.w .u64 ((Rng.w .u64 ((Rng.w .u64 (c2.val * c4.val)).val + (Rng.w .u64 (c8.val.fdiv 4294967296)).val)).val + (Rng.w .u64 ((Rng.w .u64 ((Rng.w .u64 (bitop .and .u64 c8.val 4294967295)).val + (Rng.w .u64 (c1.val * c4.val)).val)).val.fdiv 4294967296)).val)), (Rng.w .u64 (a0.val * a1.val))⟩
theorem r_math_bits_Mul64 (a0 : U64) (a1 : U64) : Tb291.run B291 [enc a0, enc a1] (T2 U64 U64) = (t_math_bits_Mul64 a0 a1).opt := by kernel_rfl
noncomputable def F_math_bits_Mul64 : U64 → U64 → T2 U64 U64 := fun a0 a1 => (t_math_bits_Mul64 a0 a1).get
theorem u_math_bits_Mul64 (a0 : U64) (a1 : U64) : (t_math_bits_Mul64 a0 a1).opt = some (F_math_bits_Mul64 a0 a1) := Tr.tot_get (by kernel_rfl)
noncomputable def E_math_bits_Mul64 : Ent Tryz.prog := .of2 Tb291 B291 (fun _ _ => true) F_math_bits_Mul64 fun a0 a1 _ => (r_math_bits_Mul64 a0 a1).trans (u_math_bits_Mul64 a0 a1)
noncomputable def Y122 : TyE Tryz.prog := ⟨122, 1, (.int .u64), [.u64 ⟨0, rfl⟩], false, by kernel_rfl, by kernel_rfl, by kernel_rfl, by kernel_rfl, by kernel_rfl, by kernel_rfl⟩
noncomputable def Y125 : TyE Tryz.prog := ⟨125, 2, (.struct [(0, 2, 1), (1, 122, 1)]), [.i64 ⟨0, rfl⟩, .u64 ⟨0, rfl⟩], true, by kernel_rfl, by kernel_rfl, by kernel_rfl, by kernel_rfl, by kernel_rfl, by kernel_rfl⟩
noncomputable def B248 : Bod Tryz.prog := ⟨248, Tryz.f248, Tryz.f248.body.getD .skip, Tryz.func248, by kernel_rfl, by kernel_rfl, Loops.no _ _⟩
noncomputable def Tb248 : Tb Tryz.prog := { T := [Y2, Y122, Y125], mix := mix, Es := [E_math_bits_Mul64], Bs := [], d := 1 }
noncomputable def t_impl_WideMul (a0 : I64) (a1 : I64) : Tr (Wide) :=
  let c1 := F_math_bits_Mul64 (Rng.w .u64 (a0.val)) (Rng.w .u64 (a1.val)); .br (decide (a0.val < 0)) (let c2 := (Rng.w .u64 (c1.a.val - (Rng.w .u64 (a1.val)).val)); .br (decide (a1.val < 0)) (.leaf ⟨(Rng.w .i64 ((Rng.w .u64 (c2.val - (Rng.w .u64 (a0.val)).val)).val)), c1.b⟩) (.leaf ⟨(Rng.w .i64 (c2.val)), c1.b⟩)) (.br (decide (a1.val < 0)) (.leaf ⟨(Rng.w .i64 ((Rng.w .u64 (c1.a.val - (Rng.w .u64 (a0.val)).val)).val)), c1.b⟩) (.leaf ⟨(Rng.w .i64 (c1.a.val)), c1.b⟩))
theorem r_impl_WideMul (a0 : I64) (a1 : I64) : Tb248.run B248 [enc a0, enc a1] (Wide) = (t_impl_WideMul a0 a1).opt := by kernel_rfl
noncomputable def F_impl_WideMul : I64 → I64 → Wide := fun a0 a1 => (t_impl_WideMul a0 a1).get
theorem u_impl_WideMul (a0 : I64) (a1 : I64) : (t_impl_WideMul a0 a1).opt = some (F_impl_WideMul a0 a1) := Tr.tot_get (by kernel_rfl)
noncomputable def E_impl_WideMul : Ent Tryz.prog := .of2 Tb248 B248 (fun _ _ => true) F_impl_WideMul fun a0 a1 _ => (r_impl_WideMul a0 a1).trans (u_impl_WideMul a0 a1)
noncomputable def Y3 : TyE Tryz.prog := ⟨3, 1, (.int .i64), [.i64 ⟨0, rfl⟩], false, by kernel_rfl, by kernel_rfl, by kernel_rfl, by kernel_rfl, by kernel_rfl, by kernel_rfl⟩
noncomputable def Y5 : TyE Tryz.prog := ⟨5, 1, (.int .u8), [.u8 ⟨0, rfl⟩], false, by kernel_rfl, by kernel_rfl, by kernel_rfl, by kernel_rfl, by kernel_rfl, by kernel_rfl⟩
noncomputable def Y9 : TyE Tryz.prog := ⟨9, 1, .str, [.str ByteArray.empty], false, by kernel_rfl, by kernel_rfl, by kernel_rfl, by kernel_rfl, by kernel_rfl, by kernel_rfl⟩
noncomputable def S_312 (i : Nat) : ByteArray := (codeStrs (Tryz.f312.body.getD .skip)).getD i ByteArray.empty
noncomputable def B312 : Bod Tryz.prog := ⟨312, Tryz.f312, Tryz.f312.body.getD .skip, Tryz.func312, by kernel_rfl, by kernel_rfl, Loops.no _ _⟩
noncomputable def Tb312 : Tb Tryz.prog := { T := [Y3, Y5, Y9, Y122], mix := mix, Es := [], Bs := [], d := 1 }
noncomputable def t_math_bits_Len64 (a0 : U64) : Tr (I64) :=
  .br (decide (a0.val ≥ 4294967296)) (let c2 := (Rng.w .u64 (a0.val.fdiv 4294967296)); .br (decide (c2.val ≥ 65536)) (let c4 := (Rng.w .u64 (c2.val.fdiv 65536)); .br (decide (c4.val ≥ 256)) (let c5 := (Rng.w .u64 (c4.val.fdiv 256)); .br (Nat.blt ((Rng.w .u8 (c5.val)).val.toNat) (S_312 0).size) (.leaf (Rng.w .i64 (56 + (Rng.w .i64 ((strAt (S_312 0) ((Rng.w .u8 (c5.val)).val.toNat)).val)).val))) (.bad)) (.br (Nat.blt ((Rng.w .u8 (c4.val)).val.toNat) (S_312 0).size) (.leaf (Rng.w .i64 (48 + (Rng.w .i64 ((strAt (S_312 0) ((Rng.w .u8 (c4.val)).val.toNat)).val)).val))) (.bad))) (.br (decide (c2.val ≥ 256)) (let c10 := (Rng.w .u64 (c2.val.fdiv 256)); .br (Nat.blt ((Rng.w .u8 (c10.val)).val.toNat) (S_312 0).size) (.leaf (Rng.w .i64 (40 + (Rng.w .i64 ((strAt (S_312 0) ((Rng.w .u8 (c10.val)).val.toNat)).val)).val))) (.bad)) (.br (Nat.blt ((Rng.w .u8 (c2.val)).val.toNat) (S_312 0).size) (.leaf (Rng.w .i64 (32 + (Rng.w .i64 ((strAt (S_312 0) ((Rng.w .u8 (c2.val)).val.toNat)).val)).val))) (.bad)))) (.br (decide (a0.val ≥ 65536)) (let c16 := (Rng.w .u64 (a0.val.fdiv 65536)); .br (decide (c16.val ≥ 256)) (let c17 := (Rng.w .u64 (c16.val.fdiv 256)); .br (Nat.blt ((Rng.w .u8 (c17.val)).val.toNat) (S_312 0).size) (.leaf (Rng.w .i64 (24 + (Rng.w .i64 ((strAt (S_312 0) ((Rng.w .u8 (c17.val)).val.toNat)).val)).val))) (.bad)) (.br (Nat.blt ((Rng.w .u8 (c16.val)).val.toNat) (S_312 0).size) (.leaf (Rng.w .i64 (16 + (Rng.w .i64 ((strAt (S_312 0) ((Rng.w .u8 (c16.val)).val.toNat)).val)).val))) (.bad))) (.br (decide (a0.val ≥ 256)) (let c22 := (Rng.w .u64 (a0.val.fdiv 256)); .br (Nat.blt ((Rng.w .u8 (c22.val)).val.toNat) (S_312 0).size) (.leaf (Rng.w .i64 (8 + (Rng.w .i64 ((strAt (S_312 0) ((Rng.w .u8 (c22.val)).val.toNat)).val)).val))) (.bad)) (.br (Nat.blt ((Rng.w .u8 (a0.val)).val.toNat) (S_312 0).size) (.leaf (Rng.w .i64 (0 + (Rng.w .i64 ((strAt (S_312 0) ((Rng.w .u8 (a0.val)).val.toNat)).val)).val))) (.bad))))
theorem r_math_bits_Len64 (a0 : U64) : Tb312.run B312 [enc a0] (I64) = (t_math_bits_Len64 a0).opt := by kernel_rfl
noncomputable def F_math_bits_Len64 : U64 → I64 := fun a0 => (t_math_bits_Len64 a0).get
noncomputable def G_math_bits_Len64 : U64 → Bool := fun a0 => (t_math_bits_Len64 a0).opt.isSome
noncomputable def E_math_bits_Len64 : Ent Tryz.prog := .of1 Tb312 B312 G_math_bits_Len64 F_math_bits_Len64 fun a0 h => (r_math_bits_Len64 a0).trans (Tr.get_some h)
noncomputable def B308 : Bod Tryz.prog := ⟨308, Tryz.f308, Tryz.f308.body.getD .skip, Tryz.func308, by kernel_rfl, by kernel_rfl, Loops.no _ _⟩
noncomputable def Tb308 : Tb Tryz.prog := { T := [], mix := mix, Es := [E_math_bits_Len64], Bs := [], d := 1 }
noncomputable def t_math_bits_LeadingZeros64 (a0 : U64) : Tr (I64) :=
  .br (G_math_bits_Len64 a0) (.leaf (Rng.w .i64 (64 - (F_math_bits_Len64 a0).val))) (.bad)
theorem r_math_bits_LeadingZeros64 (a0 : U64) : Tb308.run B308 [enc a0] (I64) = (t_math_bits_LeadingZeros64 a0).opt := by kernel_rfl
noncomputable def F_math_bits_LeadingZeros64 : U64 → I64 := fun a0 => (t_math_bits_LeadingZeros64 a0).get
noncomputable def G_math_bits_LeadingZeros64 : U64 → Bool := fun a0 => (t_math_bits_LeadingZeros64 a0).opt.isSome
noncomputable def E_math_bits_LeadingZeros64 : Ent Tryz.prog := .of1 Tb308 B308 G_math_bits_LeadingZeros64 F_math_bits_LeadingZeros64 fun a0 h => (r_math_bits_LeadingZeros64 a0).trans (Tr.get_some h)
structure S_math_bits_Div64_17 where
  x0 : U64
  x1 : U64
  x2 : U64
  x3 : U64
  x4 : U64
  x5 : U64
  x6 : U64
  x7 : U64
  x8 : U64
instance : Inhabited S_math_bits_Div64_17 := ⟨⟨default, default, default, default, default, default, default, default, default⟩⟩
noncomputable def st_math_bits_Div64_17 (x : S_math_bits_Div64_17) : St := ⟨[(2, .u64 x.x0), (8, .u64 x.x1), (9, .u64 x.x2), (10, .u64 x.x3), (11, .u64 x.x4), (13, .u64 x.x5), (14, .u64 x.x6), (15, .u64 x.x7), (16, .u64 x.x8)], 135, ⟨[], 0, 0⟩⟩
noncomputable def rd_math_bits_Div64_17 : St → Option S_math_bits_Div64_17 := fun s => match s with
  | ⟨[(2, .u64 x0), (8, .u64 x1), (9, .u64 x2), (10, .u64 x3), (11, .u64 x4), (13, .u64 x5), (14, .u64 x6), (15, .u64 x7), (16, .u64 x8)], 135, ⟨[], 0, 0⟩⟩ => some ⟨x0, x1, x2, x3, x4, x5, x6, x7, x8⟩
  | _ => none
noncomputable def b_math_bits_Div64_17 (x : S_math_bits_Div64_17) : Tr (Lp S_math_bits_Div64_17) :=
  .br (decide (x.x7.val ≥ 4294967296)) (let c19 := (Rng.w .u64 (x.x7.val - 1)); let c20 := (Rng.w .u64 (x.x8.val + x.x2.val)); .br (decide (c20.val ≥ 4294967296)) (.leaf (.out ⟨x.x0, x.x1, x.x2, x.x3, x.x4, x.x5, x.x6, c19, c20⟩)) (.leaf (.again ⟨x.x0, x.x1, x.x2, x.x3, x.x4, x.x5, x.x6, c19, c20⟩))) (.br (decide ((Rng.w .u64 (x.x7.val * x.x3.val)).val > (Rng.w .u64 ((Rng.w .u64 (4294967296 * x.x8.val)).val + x.x5.val)).val)) (let c26 := (Rng.w .u64 (x.x7.val - 1)); let c27 := (Rng.w .u64 (x.x8.val + x.x2.val)); .br (decide (c27.val ≥ 4294967296)) (.leaf (.out ⟨x.x0, x.x1, x.x2, x.x3, x.x4, x.x5, x.x6, c26, c27⟩)) (.leaf (.again ⟨x.x0, x.x1, x.x2, x.x3, x.x4, x.x5, x.x6, c26, c27⟩))) (.leaf (.out ⟨x.x0, x.x1, x.x2, x.x3, x.x4, x.x5, x.x6, x.x7, x.x8⟩)))
noncomputable def G_math_bits_Div64_17 (x : S_math_bits_Div64_17) : Bool := (Lf b_math_bits_Div64_17 4 x).opt.isSome
noncomputable def L_math_bits_Div64_17 (x : S_math_bits_Div64_17) : S_math_bits_Div64_17 := (Lf b_math_bits_Div64_17 4 x).get
noncomputable def TbL_math_bits_Div64_17 : Tb Tryz.prog := { T := [], mix := mix, Es := [], Bs := [], d := 1 }
noncomputable def P_math_bits_Div64_17 : LpF := loopF [2, 8, 9, 10, 11, 13, 14, 15, 16] [] 0 rd_math_bits_Div64_17 st_math_bits_Div64_17 (.exit 0) G_math_bits_Div64_17 L_math_bits_Div64_17
theorem lok_math_bits_Div64_17 : LoopOk Tryz.prog (loopAt (Tryz.f305.body.getD .skip) 0) P_math_bits_Div64_17 := loopF_ok (t := TbL_math_bits_Div64_17) (lt := fun _ => none) (body := b_math_bits_Div64_17) (n := 4) (by intro h; cases h) (fun _ _ _ h => by cases h)
  (by intro s x h; unfold rd_math_bits_Div64_17 at h; split at h <;> cases h; rfl) (fun x b cs h => lk_lt (l := (st_math_bits_Div64_17 x).mm.blks) (by kernel_rfl) h) (by intro x; kernel_rfl) (fun x h => Tr.get_some h)
structure S_math_bits_Div64_24 where
  x0 : U64
  x1 : U64
  x2 : U64
  x3 : U64
  x4 : U64
  x5 : U64
  x6 : U64
  x7 : U64
  x8 : U64
instance : Inhabited S_math_bits_Div64_24 := ⟨⟨default, default, default, default, default, default, default, default, default⟩⟩
noncomputable def st_math_bits_Div64_24 (x : S_math_bits_Div64_24) : St := ⟨[(2, .u64 x.x0), (8, .u64 x.x1), (9, .u64 x.x2), (10, .u64 x.x3), (14, .u64 x.x4), (15, .u64 x.x5), (16, .u64 x.x6), (17, .u64 x.x7), (18, .u64 x.x8)], 135, ⟨[], 0, 0⟩⟩
noncomputable def rd_math_bits_Div64_24 : St → Option S_math_bits_Div64_24 := fun s => match s with
  | ⟨[(2, .u64 x0), (8, .u64 x1), (9, .u64 x2), (10, .u64 x3), (14, .u64 x4), (15, .u64 x5), (16, .u64 x6), (17, .u64 x7), (18, .u64 x8)], 135, ⟨[], 0, 0⟩⟩ => some ⟨x0, x1, x2, x3, x4, x5, x6, x7, x8⟩
  | _ => none
noncomputable def b_math_bits_Div64_24 (x : S_math_bits_Div64_24) : Tr (Lp S_math_bits_Div64_24) :=
  .br (decide (x.x8.val ≥ 4294967296)) (let c38 := (Rng.w .u64 (x.x8.val - 1)); let c39 := (Rng.w .u64 (x.x6.val + x.x2.val)); .br (decide (c39.val ≥ 4294967296)) (.leaf (.out ⟨x.x0, x.x1, x.x2, x.x3, x.x4, x.x5, c39, x.x7, c38⟩)) (.leaf (.again ⟨x.x0, x.x1, x.x2, x.x3, x.x4, x.x5, c39, x.x7, c38⟩))) (.br (decide ((Rng.w .u64 (x.x8.val * x.x3.val)).val > (Rng.w .u64 ((Rng.w .u64 (4294967296 * x.x6.val)).val + x.x4.val)).val)) (let c45 := (Rng.w .u64 (x.x8.val - 1)); let c46 := (Rng.w .u64 (x.x6.val + x.x2.val)); .br (decide (c46.val ≥ 4294967296)) (.leaf (.out ⟨x.x0, x.x1, x.x2, x.x3, x.x4, x.x5, c46, x.x7, c45⟩)) (.leaf (.again ⟨x.x0, x.x1, x.x2, x.x3, x.x4, x.x5, c46, x.x7, c45⟩))) (.leaf (.out ⟨x.x0, x.x1, x.x2, x.x3, x.x4, x.x5, x.x6, x.x7, x.x8⟩)))
noncomputable def G_math_bits_Div64_24 (x : S_math_bits_Div64_24) : Bool := (Lf b_math_bits_Div64_24 4 x).opt.isSome
noncomputable def L_math_bits_Div64_24 (x : S_math_bits_Div64_24) : S_math_bits_Div64_24 := (Lf b_math_bits_Div64_24 4 x).get
noncomputable def TbL_math_bits_Div64_24 : Tb Tryz.prog := { T := [], mix := mix, Es := [], Bs := [], d := 1 }
noncomputable def P_math_bits_Div64_24 : LpF := loopF [2, 8, 9, 10, 14, 15, 16, 17, 18] [] 0 rd_math_bits_Div64_24 st_math_bits_Div64_24 (.exit 2) G_math_bits_Div64_24 L_math_bits_Div64_24
theorem lok_math_bits_Div64_24 : LoopOk Tryz.prog (loopAt (Tryz.f305.body.getD .skip) 1) P_math_bits_Div64_24 := loopF_ok (t := TbL_math_bits_Div64_24) (lt := fun _ => none) (body := b_math_bits_Div64_24) (n := 4) (by intro h; cases h) (fun _ _ _ h => by cases h)
  (by intro s x h; unfold rd_math_bits_Div64_24 at h; split at h <;> cases h; rfl) (fun x b cs h => lk_lt (l := (st_math_bits_Div64_24 x).mm.blks) (by kernel_rfl) h) (by intro x; kernel_rfl) (fun x h => Tr.get_some h)
noncomputable def Y114 : TyE Tryz.prog := ⟨114, 1, (.int .u64), [.u64 ⟨0, rfl⟩], false, by kernel_rfl, by kernel_rfl, by kernel_rfl, by kernel_rfl, by kernel_rfl, by kernel_rfl⟩
noncomputable def B305 : Bod Tryz.prog := ⟨305, Tryz.f305, Tryz.f305.body.getD .skip, Tryz.func305, by kernel_rfl, by kernel_rfl, ⟨ltOf [(17, P_math_bits_Div64_17), (24, P_math_bits_Div64_24)], Loops.of (ks := [17, 24]) (by kernel_rfl) (by
  intro i k h f hf
  match i, h with
  | 0, h => cases h; obtain rfl : P_math_bits_Div64_17 = f := Option.some.inj hf; exact lok_math_bits_Div64_17
  | 1, h => cases h; obtain rfl : P_math_bits_Div64_24 = f := Option.some.inj hf; exact lok_math_bits_Div64_24
  | n + 2, h => simp at h)⟩⟩
noncomputable def Tb305 : Tb Tryz.prog := { T := [Y3, Y114], mix := mix, Es := [E_math_bits_LeadingZeros64], Bs := [], d := 1 }
noncomputable def t_math_bits_Div64 (a0 : U64) (a1 : U64) (a2 : U64) : Tr (T2 U64 U64) :=
  .br (a2.val == 0) (.bad) (.br (decide (a2.val ≤ a0.val)) (.bad) (.br (a0.val == 0) (.br (a2.val == 0) (.bad) (.br (a2.val == 0) (.bad) (.leaf ⟨(Rng.w .u64 (a1.val.tdiv a2.val)), (Rng.w .u64 (a1.val.tmod a2.val))⟩))) (.br (G_math_bits_LeadingZeros64 a2) (let c4 := F_math_bits_LeadingZeros64 a2; let c5 := (Rng.w .u64 (a2.val * (2 ^ min ((Rng.w .u64 (c4.val)).val).toNat 64))); let c6 := (Rng.w .u64 (c5.val.fdiv 4294967296)); let c7 := (Rng.w .u64 (bitop .and .u64 c5.val 4294967295)); let c11 := (Rng.w .u64 (bitop .or .u64 (Rng.w .u64 (a0.val * (2 ^ min ((Rng.w .u64 (c4.val)).val).toNat 64))).val (Rng.w .u64 (a1.val.fdiv (2 ^ min ((Rng.w .u64 (64 - (Rng.w .u64 (c4.val)).val)).val).toNat 64))).val)); let c12 := (Rng.w .u64 (a1.val * (2 ^ min ((Rng.w .u64 (c4.val)).val).toNat 64))); let c13 := (Rng.w .u64 (c12.val.fdiv 4294967296)); let c14 := (Rng.w .u64 (bitop .and .u64 c12.val 4294967295)); .br (c6.val == 0) (.bad) (let c15 := (Rng.w .u64 (c11.val.tdiv c6.val)); let c17 := (Rng.w .u64 (c11.val - (Rng.w .u64 (c15.val * c6.val)).val)); .br (G_math_bits_Div64_17 ⟨c5, (Rng.w .u64 (c4.val)), c6, c7, c11, c13, c14, c15, c17⟩) (let c29 := L_math_bits_Div64_17 ⟨c5, (Rng.w .u64 (c4.val)), c6, c7, c11, c13, c14, c15, c17⟩; let c33 := (Rng.w .u64 ((Rng.w .u64 ((Rng.w .u64 (c29.x4.val * 4294967296)).val + c29.x5.val)).val - (Rng.w .u64 (c29.x7.val * c29.x0.val)).val)); .br (c29.x2.val == 0) (.bad) (let c34 := (Rng.w .u64 (c33.val.tdiv c29.x2.val)); let c36 := (Rng.w .u64 (c33.val - (Rng.w .u64 (c34.val * c29.x2.val)).val)); .br (G_math_bits_Div64_24 ⟨c29.x0, c29.x1, c29.x2, c29.x3, c29.x6, c29.x7, c36, c33, c34⟩) (let c48 := L_math_bits_Div64_24 ⟨c29.x0, c29.x1, c29.x2, c29.x3, c29.x6, c29.x7, c36, c33, c34⟩; .leaf ⟨(Rng.w .u64 ((Rng.w .u64 (c48.x5.val * 4294967296)).val + c48.x8.val)), (Rng.w .u64 ((Rng.w .u64 ((Rng.w .u64 ((Rng.w .u64 (c48.x7.val * 4294967296)).val + c48.x4.val)).val - (Rng.w .u64 (c48.x8.val * c48.x0.val)).val)).val.fdiv (2 ^ min (c48.x1.val).toNat 64)))⟩) (.bad))) (.bad))) (.bad))))
theorem r_math_bits_Div64 (a0 : U64) (a1 : U64) (a2 : U64) : Tb305.run B305 [enc a0, enc a1, enc a2] (T2 U64 U64) = (t_math_bits_Div64 a0 a1 a2).opt := by kernel_rfl
noncomputable def F_math_bits_Div64 : U64 → U64 → U64 → T2 U64 U64 := fun a0 a1 a2 => (t_math_bits_Div64 a0 a1 a2).get
noncomputable def G_math_bits_Div64 : U64 → U64 → U64 → Bool := fun a0 a1 a2 => (t_math_bits_Div64 a0 a1 a2).opt.isSome
noncomputable def E_math_bits_Div64 : Ent Tryz.prog := .of3 Tb305 B305 G_math_bits_Div64 F_math_bits_Div64 fun a0 a1 a2 h => (r_math_bits_Div64 a0 a1 a2).trans (Tr.get_some h)
noncomputable def B288 : Bod Tryz.prog := ⟨288, Tryz.f288, Tryz.f288.body.getD .skip, Tryz.func288, by kernel_rfl, by kernel_rfl, Loops.no _ _⟩
noncomputable def Tb288 : Tb Tryz.prog := { T := [], mix := mix, Es := [E_math_bits_Div64], Bs := [], d := 1 }
noncomputable def t_impl_divided (a0 : U64) (a1 : U64) (a2 : U64) : Tr (T3 U64 U64 U64) :=
  .br (a2.val == 0) (.bad) (.br (a2.val == 0) (.bad) (let c2 := (Rng.w .u64 (a0.val.tmod a2.val)); .br (G_math_bits_Div64 c2 a1 a2) (let c3 := F_math_bits_Div64 c2 a1 a2; .leaf ⟨(Rng.w .u64 (a0.val.tdiv a2.val)), c3.a, c3.b⟩) (.bad)))
theorem r_impl_divided (a0 : U64) (a1 : U64) (a2 : U64) : Tb288.run B288 [enc a0, enc a1, enc a2] (T3 U64 U64 U64) = (t_impl_divided a0 a1 a2).opt := by kernel_rfl
noncomputable def F_impl_divided : U64 → U64 → U64 → T3 U64 U64 U64 := fun a0 a1 a2 => (t_impl_divided a0 a1 a2).get
noncomputable def G_impl_divided : U64 → U64 → U64 → Bool := fun a0 a1 a2 => (t_impl_divided a0 a1 a2).opt.isSome
noncomputable def E_impl_divided : Ent Tryz.prog := .of3 Tb288 B288 G_impl_divided F_impl_divided fun a0 a1 a2 h => (r_impl_divided a0 a1 a2).trans (Tr.get_some h)
noncomputable def B289 : Bod Tryz.prog := ⟨289, Tryz.f289, Tryz.f289.body.getD .skip, Tryz.func289, by kernel_rfl, by kernel_rfl, Loops.no _ _⟩
noncomputable def Tb289 : Tb Tryz.prog := { T := [Y2, Y122, Y125], mix := mix, Es := [E_math_bits_Sub64], Bs := [], d := 1 }
noncomputable def t_impl_Wide_negative (a0 : Wide) : Tr (Wide) :=
  let c1 := F_math_bits_Sub64 ⟨0, rfl⟩ a0.lo ⟨0, rfl⟩; .br (G_carry ⟨0, rfl⟩ (Rng.w .u64 (a0.hi.val)) c1.b) (.leaf ⟨(Rng.w .i64 ((F_math_bits_Sub64 ⟨0, rfl⟩ (Rng.w .u64 (a0.hi.val)) c1.b).a.val)), c1.a⟩) (.bad)
theorem r_impl_Wide_negative (a0 : Wide) : Tb289.run B289 [enc a0] (Wide) = (t_impl_Wide_negative a0).opt := by kernel_rfl
noncomputable def F_impl_Wide_negative : Wide → Wide := fun a0 => (t_impl_Wide_negative a0).get
noncomputable def G_impl_Wide_negative : Wide → Bool := fun a0 => (t_impl_Wide_negative a0).opt.isSome
noncomputable def E_impl_Wide_negative : Ent Tryz.prog := .of1 Tb289 B289 G_impl_Wide_negative F_impl_Wide_negative fun a0 h => (r_impl_Wide_negative a0).trans (Tr.get_some h)
noncomputable def B247 : Bod Tryz.prog := ⟨247, Tryz.f247, Tryz.f247.body.getD .skip, Tryz.func247, by kernel_rfl, by kernel_rfl, Loops.no _ _⟩
noncomputable def Tb247 : Tb Tryz.prog := { T := [Y2, Y122, Y125], mix := mix, Es := [E_impl_divided, E_impl_Wide_negative, E_math_bits_Add64], Bs := [], d := 1 }
noncomputable def t_impl_WideDiv (a0 : Wide) (a1 : I64) : Tr (T3 Wide I64 Bool) :=
  .br (decide (a1.val ≤ 0)) (.leaf ⟨⟨⟨0, rfl⟩, ⟨0, rfl⟩⟩, ⟨0, rfl⟩, false⟩) (.br (decide (a0.hi.val ≥ 0)) (.br (G_impl_divided (Rng.w .u64 (a0.hi.val)) a0.lo (Rng.w .u64 (a1.val))) (let c1 := F_impl_divided (Rng.w .u64 (a0.hi.val)) a0.lo (Rng.w .u64 (a1.val)); .leaf ⟨⟨(Rng.w .i64 (c1.a.val)), c1.b⟩, (Rng.w .i64 (c1.c.val)), true⟩) (.bad)) (.br (G_impl_Wide_negative a0) (let c2 := F_impl_Wide_negative a0; .br (G_impl_divided (Rng.w .u64 (c2.hi.val)) c2.lo (Rng.w .u64 (a1.val))) (let c3 := F_impl_divided (Rng.w .u64 (c2.hi.val)) c2.lo (Rng.w .u64 (a1.val)); .br (c3.c.val == 0) (.br (G_impl_Wide_negative ⟨(Rng.w .i64 (c3.a.val)), c3.b⟩) (.leaf ⟨(F_impl_Wide_negative ⟨(Rng.w .i64 (c3.a.val)), c3.b⟩), ⟨0, rfl⟩, true⟩) (.bad)) (let c5 := F_math_bits_Add64 c3.b ⟨1, rfl⟩ ⟨0, rfl⟩; let c6 := (Rng.w .u64 (c3.a.val + c5.b.val)); .br (G_impl_Wide_negative ⟨(Rng.w .i64 (c6.val)), c5.a⟩) (.leaf ⟨(F_impl_Wide_negative ⟨(Rng.w .i64 (c6.val)), c5.a⟩), (Rng.w .i64 (a1.val - (Rng.w .i64 (c3.c.val)).val)), true⟩) (.bad))) (.bad)) (.bad)))
theorem r_impl_WideDiv (a0 : Wide) (a1 : I64) : Tb247.run B247 [enc a0, enc a1] (T3 Wide I64 Bool) = (t_impl_WideDiv a0 a1).opt := by kernel_rfl
noncomputable def F_impl_WideDiv : Wide → I64 → T3 Wide I64 Bool := fun a0 a1 => (t_impl_WideDiv a0 a1).get
noncomputable def G_impl_WideDiv : Wide → I64 → Bool := fun a0 a1 => (t_impl_WideDiv a0 a1).opt.isSome
noncomputable def E_impl_WideDiv : Ent Tryz.prog := .of2 Tb247 B247 G_impl_WideDiv F_impl_WideDiv fun a0 a1 h => (r_impl_WideDiv a0 a1).trans (Tr.get_some h)
noncomputable def B292 : Bod Tryz.prog := ⟨292, Tryz.f292, Tryz.f292.body.getD .skip, Tryz.func292, by kernel_rfl, by kernel_rfl, Loops.no _ _⟩
noncomputable def Tb292 : Tb Tryz.prog := { T := [Y2, Y122, Y125], mix := mix, Es := [], Bs := [], d := 1 }
noncomputable def t_impl_WideOf (a0 : I64) : Tr (Wide) :=
  .leaf ⟨(Rng.w .i64 (a0.val.fdiv 9223372036854775808)), (Rng.w .u64 (a0.val))⟩
theorem r_impl_WideOf (a0 : I64) : Tb292.run B292 [enc a0] (Wide) = (t_impl_WideOf a0).opt := by kernel_rfl
noncomputable def F_impl_WideOf : I64 → Wide := fun a0 => (t_impl_WideOf a0).get
theorem u_impl_WideOf (a0 : I64) : (t_impl_WideOf a0).opt = some (F_impl_WideOf a0) := Tr.tot_get (by kernel_rfl)
noncomputable def E_impl_WideOf : Ent Tryz.prog := .of1 Tb292 B292 (fun _ => true) F_impl_WideOf fun a0 _ => (r_impl_WideOf a0).trans (u_impl_WideOf a0)
noncomputable def B249 : Bod Tryz.prog := ⟨249, Tryz.f249, Tryz.f249.body.getD .skip, Tryz.func249, by kernel_rfl, by kernel_rfl, Loops.no _ _⟩
noncomputable def Tb249 : Tb Tryz.prog := { T := [Y2, Y122, Y125], mix := mix, Es := [E_impl_WideOf], Bs := [], d := 1 }
noncomputable def t_impl_WideInt (a0 : Wide) : Tr (T2 I64 Bool) :=
  let c1 := F_impl_WideOf (Rng.w .i64 (a0.lo.val)); .br (!((c1.hi.val == a0.hi.val) && ((c1.lo.val == a0.lo.val) && true))) (.leaf ⟨⟨0, rfl⟩, false⟩) (.leaf ⟨(Rng.w .i64 (a0.lo.val)), true⟩)
theorem r_impl_WideInt (a0 : Wide) : Tb249.run B249 [enc a0] (T2 I64 Bool) = (t_impl_WideInt a0).opt := by kernel_rfl
noncomputable def F_impl_WideInt : Wide → T2 I64 Bool := fun a0 => (t_impl_WideInt a0).get
theorem u_impl_WideInt (a0 : Wide) : (t_impl_WideInt a0).opt = some (F_impl_WideInt a0) := Tr.tot_get (by kernel_rfl)
noncomputable def E_impl_WideInt : Ent Tryz.prog := .of1 Tb249 B249 (fun _ => true) F_impl_WideInt fun a0 _ => (r_impl_WideInt a0).trans (u_impl_WideInt a0)
noncomputable def B180 : Bod Tryz.prog := ⟨180, Tryz.f180, Tryz.f180.body.getD .skip, Tryz.func180, by kernel_rfl, by kernel_rfl, Loops.no _ _⟩
noncomputable def Tb180 : Tb Tryz.prog := { T := [Y2, Y122, Y125], mix := mix, Es := [E_impl_WideDiv, E_impl_WideMul, E_impl_WideInt], Bs := [], d := 1 }
noncomputable def t_impl_MulDivFloor (a0 : I64) (a1 : I64) (a2 : I64) : Tr (T2 I64 Bool) :=
  let c1 := F_impl_WideMul a0 a1; .br (G_impl_WideDiv c1 a2) (let c2 := F_impl_WideDiv c1 a2; .br (!c2.c) (.leaf ⟨⟨0, rfl⟩, false⟩) (let c3 := F_impl_WideInt c2.a; .leaf ⟨c3.a, c3.b⟩)) (.bad)
theorem r_impl_MulDivFloor (a0 : I64) (a1 : I64) (a2 : I64) : Tb180.run B180 [enc a0, enc a1, enc a2] (T2 I64 Bool) = (t_impl_MulDivFloor a0 a1 a2).opt := by kernel_rfl
noncomputable def F_impl_MulDivFloor : I64 → I64 → I64 → T2 I64 Bool := fun a0 a1 a2 => (t_impl_MulDivFloor a0 a1 a2).get
noncomputable def G_impl_MulDivFloor : I64 → I64 → I64 → Bool := fun a0 a1 a2 => (t_impl_MulDivFloor a0 a1 a2).opt.isSome
noncomputable def E_impl_MulDivFloor : Ent Tryz.prog := .of3 Tb180 B180 G_impl_MulDivFloor F_impl_MulDivFloor fun a0 a1 a2 h => (r_impl_MulDivFloor a0 a1 a2).trans (Tr.get_some h)
noncomputable def B250 : Bod Tryz.prog := ⟨250, Tryz.f250, Tryz.f250.body.getD .skip, Tryz.func250, by kernel_rfl, by kernel_rfl, Loops.no _ _⟩
noncomputable def Tb250 : Tb Tryz.prog := { T := [], mix := mix, Es := [E_impl_within], Bs := [], d := 1 }
noncomputable def t_impl_ValidFix (a0 : I64) : Tr (Bool) :=
  .leaf (F_impl_within a0 ⟨(-1152921504606846976), rfl⟩ ⟨1152921504606846976, rfl⟩)
theorem r_impl_ValidFix (a0 : I64) : Tb250.run B250 [enc a0] (Bool) = (t_impl_ValidFix a0).opt := by kernel_rfl
noncomputable def F_impl_ValidFix : I64 → Bool := fun a0 => (t_impl_ValidFix a0).get
theorem u_impl_ValidFix (a0 : I64) : (t_impl_ValidFix a0).opt = some (F_impl_ValidFix a0) := Tr.tot_get (by kernel_rfl)
noncomputable def E_impl_ValidFix : Ent Tryz.prog := .of1 Tb250 B250 (fun _ => true) F_impl_ValidFix fun a0 _ => (r_impl_ValidFix a0).trans (u_impl_ValidFix a0)
noncomputable def B251 : Bod Tryz.prog := ⟨251, Tryz.f251, Tryz.f251.body.getD .skip, Tryz.func251, by kernel_rfl, by kernel_rfl, Loops.no _ _⟩
noncomputable def Tb251 : Tb Tryz.prog := { T := [], mix := mix, Es := [E_impl_ValidFix], Bs := [], d := 1 }
noncomputable def t_impl_fixed (a0 : I64) (a1 : Bool) : Tr (T2 I64 Bool) :=
  .br (!a1) (.leaf ⟨⟨0, rfl⟩, false⟩) (.br (!(F_impl_ValidFix a0)) (.leaf ⟨⟨0, rfl⟩, false⟩) (.leaf ⟨a0, true⟩))
theorem r_impl_fixed (a0 : I64) (a1 : Bool) : Tb251.run B251 [enc a0, enc a1] (T2 I64 Bool) = (t_impl_fixed a0 a1).opt := by kernel_rfl
noncomputable def F_impl_fixed : I64 → Bool → T2 I64 Bool := fun a0 a1 => (t_impl_fixed a0 a1).get
theorem u_impl_fixed (a0 : I64) (a1 : Bool) : (t_impl_fixed a0 a1).opt = some (F_impl_fixed a0 a1) := Tr.tot_get (by kernel_rfl)
noncomputable def E_impl_fixed : Ent Tryz.prog := .of2 Tb251 B251 (fun _ _ => true) F_impl_fixed fun a0 a1 _ => (r_impl_fixed a0 a1).trans (u_impl_fixed a0 a1)
noncomputable def B188 : Bod Tryz.prog := ⟨188, Tryz.f188, Tryz.f188.body.getD .skip, Tryz.func188, by kernel_rfl, by kernel_rfl, Loops.no _ _⟩
noncomputable def Tb188 : Tb Tryz.prog := { T := [], mix := mix, Es := [E_impl_MulDivFloor, E_impl_fixed], Bs := [], d := 1 }
noncomputable def t_impl_FixFloor (a0 : I64) (a1 : I64) : Tr (T2 I64 Bool) :=
  .br (G_impl_MulDivFloor a0 ⟨4294967296, rfl⟩ a1) (let c1 := F_impl_MulDivFloor a0 ⟨4294967296, rfl⟩ a1; let c2 := F_impl_fixed c1.a c1.b; .leaf ⟨c2.a, c2.b⟩) (.bad)
theorem r_impl_FixFloor (a0 : I64) (a1 : I64) : Tb188.run B188 [enc a0, enc a1] (T2 I64 Bool) = (t_impl_FixFloor a0 a1).opt := by kernel_rfl
noncomputable def F_impl_FixFloor : I64 → I64 → T2 I64 Bool := fun a0 a1 => (t_impl_FixFloor a0 a1).get
noncomputable def G_impl_FixFloor : I64 → I64 → Bool := fun a0 a1 => (t_impl_FixFloor a0 a1).opt.isSome
noncomputable def E_impl_FixFloor : Ent Tryz.prog := .of2 Tb188 B188 G_impl_FixFloor F_impl_FixFloor fun a0 a1 h => (r_impl_FixFloor a0 a1).trans (Tr.get_some h)
noncomputable def B253 : Bod Tryz.prog := ⟨253, Tryz.f253, Tryz.f253.body.getD .skip, Tryz.func253, by kernel_rfl, by kernel_rfl, Loops.no _ _⟩
noncomputable def Tb253 : Tb Tryz.prog := { T := [Y2, Y122, Y125], mix := mix, Es := [E_impl_WideDiv, E_impl_WideMul, E_impl_WideInt], Bs := [], d := 1 }
noncomputable def t_impl_mulDivCeil (a0 : I64) (a1 : I64) (a2 : I64) : Tr (T2 I64 Bool) :=
  let c1 := F_impl_WideMul a0 a1; .br (G_impl_WideDiv c1 a2) (let c2 := F_impl_WideDiv c1 a2; .br (!c2.c) (.leaf ⟨⟨0, rfl⟩, false⟩) (let c3 := F_impl_WideInt c2.a; .br (!c3.b) (.leaf ⟨⟨0, rfl⟩, false⟩) (.br (decide (c2.b.val > 0)) (.br (c3.a.val == 9223372036854775807) (.leaf ⟨⟨0, rfl⟩, false⟩) (.br (decide (c2.b.val > 0)) (.leaf ⟨(Rng.w .i64 (c3.a.val + 1)), true⟩) (.leaf ⟨c3.a, true⟩))) (.br (decide (c2.b.val > 0)) (.leaf ⟨(Rng.w .i64 (c3.a.val + 1)), true⟩) (.leaf ⟨c3.a, true⟩))))) (.bad)
theorem r_impl_mulDivCeil (a0 : I64) (a1 : I64) (a2 : I64) : Tb253.run B253 [enc a0, enc a1, enc a2] (T2 I64 Bool) = (t_impl_mulDivCeil a0 a1 a2).opt := by kernel_rfl
noncomputable def F_impl_mulDivCeil : I64 → I64 → I64 → T2 I64 Bool := fun a0 a1 a2 => (t_impl_mulDivCeil a0 a1 a2).get
noncomputable def G_impl_mulDivCeil : I64 → I64 → I64 → Bool := fun a0 a1 a2 => (t_impl_mulDivCeil a0 a1 a2).opt.isSome
noncomputable def E_impl_mulDivCeil : Ent Tryz.prog := .of3 Tb253 B253 G_impl_mulDivCeil F_impl_mulDivCeil fun a0 a1 a2 h => (r_impl_mulDivCeil a0 a1 a2).trans (Tr.get_some h)
noncomputable def B189 : Bod Tryz.prog := ⟨189, Tryz.f189, Tryz.f189.body.getD .skip, Tryz.func189, by kernel_rfl, by kernel_rfl, Loops.no _ _⟩
noncomputable def Tb189 : Tb Tryz.prog := { T := [], mix := mix, Es := [E_impl_fixed, E_impl_mulDivCeil], Bs := [], d := 1 }
noncomputable def t_impl_FixCeil (a0 : I64) (a1 : I64) : Tr (T2 I64 Bool) :=
  .br (G_impl_mulDivCeil a0 ⟨4294967296, rfl⟩ a1) (let c1 := F_impl_mulDivCeil a0 ⟨4294967296, rfl⟩ a1; let c2 := F_impl_fixed c1.a c1.b; .leaf ⟨c2.a, c2.b⟩) (.bad)
theorem r_impl_FixCeil (a0 : I64) (a1 : I64) : Tb189.run B189 [enc a0, enc a1] (T2 I64 Bool) = (t_impl_FixCeil a0 a1).opt := by kernel_rfl
noncomputable def F_impl_FixCeil : I64 → I64 → T2 I64 Bool := fun a0 a1 => (t_impl_FixCeil a0 a1).get
noncomputable def G_impl_FixCeil : I64 → I64 → Bool := fun a0 a1 => (t_impl_FixCeil a0 a1).opt.isSome
noncomputable def E_impl_FixCeil : Ent Tryz.prog := .of2 Tb189 B189 G_impl_FixCeil F_impl_FixCeil fun a0 a1 h => (r_impl_FixCeil a0 a1).trans (Tr.get_some h)
noncomputable def B217 : Bod Tryz.prog := ⟨217, Tryz.f217, Tryz.f217.body.getD .skip, Tryz.func217, by kernel_rfl, by kernel_rfl, Loops.no _ _⟩
noncomputable def Tb217 : Tb Tryz.prog := { T := [Y2, Y27], mix := mix, Es := [], Bs := [], d := 1 }
noncomputable def t_impl_ValidInterval (a0 : Iv) : Tr (Bool) :=
  .br (decide ((-1152921504606846976) < a0.lo.val)) (.br (decide (a0.lo.val ≤ a0.hi.val)) (.leaf (decide (a0.hi.val < 1152921504606846976))) (.leaf false)) (.leaf false)
theorem r_impl_ValidInterval (a0 : Iv) : Tb217.run B217 [enc a0] (Bool) = (t_impl_ValidInterval a0).opt := by kernel_rfl
noncomputable def F_impl_ValidInterval : Iv → Bool := fun a0 => (t_impl_ValidInterval a0).get
theorem u_impl_ValidInterval (a0 : Iv) : (t_impl_ValidInterval a0).opt = some (F_impl_ValidInterval a0) := Tr.tot_get (by kernel_rfl)
noncomputable def E_impl_ValidInterval : Ent Tryz.prog := .of1 Tb217 B217 (fun _ => true) F_impl_ValidInterval fun a0 _ => (r_impl_ValidInterval a0).trans (u_impl_ValidInterval a0)
noncomputable def B185 : Bod Tryz.prog := ⟨185, Tryz.f185, Tryz.f185.body.getD .skip, Tryz.func185, by kernel_rfl, by kernel_rfl, Loops.no _ _⟩
noncomputable def Tb185 : Tb Tryz.prog := { T := [Y2, Y27], mix := mix, Es := [E_impl_Whole, E_impl_ValidInterval], Bs := [], d := 1 }
noncomputable def t_impl_bounded (a0 : I64) (a1 : I64) (a2 : Bool) : Tr (Iv) :=
  .br a2 (.br (F_impl_ValidInterval ⟨a0, a1⟩) (.leaf ⟨a0, a1⟩) (.leaf F_impl_Whole)) (.leaf F_impl_Whole)
theorem r_impl_bounded (a0 : I64) (a1 : I64) (a2 : Bool) : Tb185.run B185 [enc a0, enc a1, enc a2] (Iv) = (t_impl_bounded a0 a1 a2).opt := by kernel_rfl
noncomputable def F_impl_bounded : I64 → I64 → Bool → Iv := fun a0 a1 a2 => (t_impl_bounded a0 a1 a2).get
theorem u_impl_bounded (a0 : I64) (a1 : I64) (a2 : Bool) : (t_impl_bounded a0 a1 a2).opt = some (F_impl_bounded a0 a1 a2) := Tr.tot_get (by kernel_rfl)
noncomputable def E_impl_bounded : Ent Tryz.prog := .of3 Tb185 B185 (fun _ _ _ => true) F_impl_bounded fun a0 a1 a2 _ => (r_impl_bounded a0 a1 a2).trans (u_impl_bounded a0 a1 a2)
noncomputable def B84 : Bod Tryz.prog := ⟨84, Tryz.f84, Tryz.f84.body.getD .skip, Tryz.func84, by kernel_rfl, by kernel_rfl, Loops.no _ _⟩
noncomputable def Tb84 : Tb Tryz.prog := { T := [Y2, Y27], mix := mix, Es := [E_impl_Whole, E_impl_bounded, E_impl_FixFloor, E_impl_FixCeil], Bs := [], d := 1 }
noncomputable def t_impl_Quotient (a0 : I64) (a1 : I64) : Tr (Iv) :=
  .br (decide (a1.val < 0)) (let c1 := (Rng.w .i64 (0 - a0.val)); let c2 := (Rng.w .i64 (0 - a1.val)); .br (decide (c2.val < 0)) (.leaf F_impl_Whole) (.br (c1.val == (-9223372036854775808)) (.leaf F_impl_Whole) (.br (G_impl_FixFloor c1 c2) (let c6 := F_impl_FixFloor c1 c2; .br (G_impl_FixCeil c1 c2) (let c7 := F_impl_FixCeil c1 c2; .br c6.b (.leaf (F_impl_bounded c6.a c7.a c7.b)) (.leaf (F_impl_bounded c6.a c7.a false))) (.bad)) (.bad)))) (.br (G_impl_FixFloor a0 a1) (let c10 := F_impl_FixFloor a0 a1; .br (G_impl_FixCeil a0 a1) (let c11 := F_impl_FixCeil a0 a1; .br c10.b (.leaf (F_impl_bounded c10.a c11.a c11.b)) (.leaf (F_impl_bounded c10.a c11.a false))) (.bad)) (.bad))
theorem r_impl_Quotient (a0 : I64) (a1 : I64) : Tb84.run B84 [enc a0, enc a1] (Iv) = (t_impl_Quotient a0 a1).opt := by kernel_rfl
noncomputable def F_impl_Quotient : I64 → I64 → Iv := fun a0 a1 => (t_impl_Quotient a0 a1).get
noncomputable def G_impl_Quotient : I64 → I64 → Bool := fun a0 a1 => (t_impl_Quotient a0 a1).opt.isSome
noncomputable def E_impl_Quotient : Ent Tryz.prog := .of2 Tb84 B84 G_impl_Quotient F_impl_Quotient fun a0 a1 h => (r_impl_Quotient a0 a1).trans (Tr.get_some h)
noncomputable def B197 : Bod Tryz.prog := ⟨197, Tryz.f197, Tryz.f197.body.getD .skip, Tryz.func197, by kernel_rfl, by kernel_rfl, Loops.no _ _⟩
noncomputable def Tb197 : Tb Tryz.prog := { T := [Y2, Y27], mix := mix, Es := [E_impl_Whole, E_impl_Quotient, E_impl_isHeight], Bs := [], d := 1 }
noncomputable def t_impl_HeightI (a0 : I64) : Tr (Iv) :=
  .br (!(F_impl_isHeight a0)) (.leaf F_impl_Whole) (.br (G_impl_Quotient a0 ⟨1000, rfl⟩) (.leaf (F_impl_Quotient a0 ⟨1000, rfl⟩)) (.bad))
theorem r_impl_HeightI (a0 : I64) : Tb197.run B197 [enc a0] (Iv) = (t_impl_HeightI a0).opt := by kernel_rfl
noncomputable def F_impl_HeightI : I64 → Iv := fun a0 => (t_impl_HeightI a0).get
noncomputable def G_impl_HeightI : I64 → Bool := fun a0 => (t_impl_HeightI a0).opt.isSome
noncomputable def E_impl_HeightI : Ent Tryz.prog := .of1 Tb197 B197 G_impl_HeightI F_impl_HeightI fun a0 h => (r_impl_HeightI a0).trans (Tr.get_some h)
noncomputable def B131 : Bod Tryz.prog := ⟨131, Tryz.f131, Tryz.f131.body.getD .skip, Tryz.func131, by kernel_rfl, by kernel_rfl, Loops.no _ _⟩
noncomputable def Tb131 : Tb Tryz.prog := { T := [Y2, Y27], mix := mix, Es := [], Bs := [], d := 1 }
noncomputable def t_spec_l04Whole : Tr (Iv) :=
  .leaf ⟨⟨(-1152921504606846976), rfl⟩, ⟨1152921504606846976, rfl⟩⟩
theorem r_spec_l04Whole : Tb131.run B131 [] (Iv) = (t_spec_l04Whole).opt := by kernel_rfl
noncomputable def F_spec_l04Whole : Iv := (t_spec_l04Whole).get
theorem u_spec_l04Whole : (t_spec_l04Whole).opt = some (F_spec_l04Whole) := Tr.tot_get (by kernel_rfl)
noncomputable def E_spec_l04Whole : Ent Tryz.prog := .of0 Tb131 B131 F_spec_l04Whole (r_spec_l04Whole.trans u_spec_l04Whole)
noncomputable def B263 : Bod Tryz.prog := ⟨263, Tryz.f263, Tryz.f263.body.getD .skip, Tryz.func263, by kernel_rfl, by kernel_rfl, Loops.no _ _⟩
noncomputable def Tb263 : Tb Tryz.prog := { T := [Y2, Y122], mix := mix, Es := [], Bs := [], d := 1 }
noncomputable def t_spec_l02Size (a0 : I64) : Tr (U64) :=
  .br (decide (a0.val < 0)) (.leaf (Rng.w .u64 (0 - (Rng.w .u64 (a0.val)).val))) (.leaf (Rng.w .u64 (a0.val)))
theorem r_spec_l02Size (a0 : I64) : Tb263.run B263 [enc a0] (U64) = (t_spec_l02Size a0).opt := by kernel_rfl
noncomputable def F_spec_l02Size : I64 → U64 := fun a0 => (t_spec_l02Size a0).get
theorem u_spec_l02Size (a0 : I64) : (t_spec_l02Size a0).opt = some (F_spec_l02Size a0) := Tr.tot_get (by kernel_rfl)
noncomputable def E_spec_l02Size : Ent Tryz.prog := .of1 Tb263 B263 (fun _ => true) F_spec_l02Size fun a0 _ => (r_spec_l02Size a0).trans (u_spec_l02Size a0)
noncomputable def B261 : Bod Tryz.prog := ⟨261, Tryz.f261, Tryz.f261.body.getD .skip, Tryz.func261, by kernel_rfl, by kernel_rfl, Loops.no _ _⟩
noncomputable def Tb261 : Tb Tryz.prog := { T := [], mix := mix, Es := [], Bs := [], d := 1 }
noncomputable def t_spec_l02Times (a0 : U64) (a1 : U64) : Tr (T2 U64 U64) :=
  let c8 := (Rng.w .u64 ((Rng.w .u64 ((Rng.w .u64 (a0.val.fdiv 4294967296)).val * (Rng.w .u64 (bitop .and .u64 a1.val 4294967295)).val)).val + (Rng.w .u64 ((Rng.w .u64 ((Rng.w .u64 (bitop .and .u64 a0.val 4294967295)).val * (Rng.w .u64 (bitop .and .u64 a1.val 4294967295)).val)).val.fdiv 4294967296)).val)); .leaf ⟨(Rng.w .u64 ((Rng.w .u64 ((Rng.w .u64 ((Rng.w .u64 (a0.val.fdiv 4294967296)).val * (Rng.w .u64 (a1.val.fdiv 4294967296)).val)).val + (Rng.w .u64 (c8.val.fdiv 4294967296)).val)).val + (Rng.w .u64 ((Rng.w .u64 ((Rng.w .u64 ((Rng.w .u64 (bitop .and .u64 a0.val 4294967295)).val * (Rng.w .u64 (a1.val.fdiv 4294967296)).val)).val + (Rng.w .u64 (bitop .and .u64 c8.val 4294967295)).val)).val.fdiv 4294967296)).val)), (Rng.w .u64 (a0.val * a1.val))⟩
theorem r_spec_l02Times (a0 : U64) (a1 : U64) : Tb261.run B261 [enc a0, enc a1] (T2 U64 U64) = (t_spec_l02Times a0 a1).opt := by kernel_rfl
noncomputable def F_spec_l02Times : U64 → U64 → T2 U64 U64 := fun a0 a1 => (t_spec_l02Times a0 a1).get
theorem u_spec_l02Times (a0 : U64) (a1 : U64) : (t_spec_l02Times a0 a1).opt = some (F_spec_l02Times a0 a1) := Tr.tot_get (by kernel_rfl)
noncomputable def E_spec_l02Times : Ent Tryz.prog := .of2 Tb261 B261 (fun _ _ => true) F_spec_l02Times fun a0 a1 _ => (r_spec_l02Times a0 a1).trans (u_spec_l02Times a0 a1)
noncomputable def B264 : Bod Tryz.prog := ⟨264, Tryz.f264, Tryz.f264.body.getD .skip, Tryz.func264, by kernel_rfl, by kernel_rfl, Loops.no _ _⟩
noncomputable def Tb264 : Tb Tryz.prog := { T := [Y2, Y122, Y125], mix := mix, Es := [], Bs := [], d := 1 }
noncomputable def t_spec_l02Minus (a0 : Wide) : Tr (Wide) :=
  let c2 := (Rng.w .u64 (0 - a0.lo.val)); .br (a0.lo.val == 0) (.leaf ⟨(Rng.w .i64 (0 - a0.hi.val)), c2⟩) (.leaf ⟨(Rng.w .i64 (bitop .xor .i64 (-1) a0.hi.val)), c2⟩)
theorem r_spec_l02Minus (a0 : Wide) : Tb264.run B264 [enc a0] (Wide) = (t_spec_l02Minus a0).opt := by kernel_rfl
noncomputable def F_spec_l02Minus : Wide → Wide := fun a0 => (t_spec_l02Minus a0).get
theorem u_spec_l02Minus (a0 : Wide) : (t_spec_l02Minus a0).opt = some (F_spec_l02Minus a0) := Tr.tot_get (by kernel_rfl)
noncomputable def E_spec_l02Minus : Ent Tryz.prog := .of1 Tb264 B264 (fun _ => true) F_spec_l02Minus fun a0 _ => (r_spec_l02Minus a0).trans (u_spec_l02Minus a0)
noncomputable def Y4 : TyE Tryz.prog := ⟨4, 1, .bool, [.bool false], false, by kernel_rfl, by kernel_rfl, by kernel_rfl, by kernel_rfl, by kernel_rfl, by kernel_rfl⟩
noncomputable def B203 : Bod Tryz.prog := ⟨203, Tryz.f203, Tryz.f203.body.getD .skip, Tryz.func203, by kernel_rfl, by kernel_rfl, Loops.no _ _⟩
noncomputable def Tb203 : Tb Tryz.prog := { T := [Y2, Y4, Y122, Y125], mix := mix, Es := [E_spec_l02Times, E_spec_l02Size, E_spec_l02Minus], Bs := [], d := 1 }
noncomputable def t_spec_l02Mul (a0 : I64) (a1 : I64) : Tr (Wide) :=
  let c3 := F_spec_l02Times (F_spec_l02Size a0) (F_spec_l02Size a1); .br (!((decide (a0.val < 0)) == (decide (a1.val < 0)))) (.leaf (F_spec_l02Minus ⟨(Rng.w .i64 (c3.a.val)), c3.b⟩)) (.leaf ⟨(Rng.w .i64 (c3.a.val)), c3.b⟩)
theorem r_spec_l02Mul (a0 : I64) (a1 : I64) : Tb203.run B203 [enc a0, enc a1] (Wide) = (t_spec_l02Mul a0 a1).opt := by kernel_rfl
noncomputable def F_spec_l02Mul : I64 → I64 → Wide := fun a0 a1 => (t_spec_l02Mul a0 a1).get
theorem u_spec_l02Mul (a0 : I64) (a1 : I64) : (t_spec_l02Mul a0 a1).opt = some (F_spec_l02Mul a0 a1) := Tr.tot_get (by kernel_rfl)
noncomputable def E_spec_l02Mul : Ent Tryz.prog := .of2 Tb203 B203 (fun _ _ => true) F_spec_l02Mul fun a0 a1 _ => (r_spec_l02Mul a0 a1).trans (u_spec_l02Mul a0 a1)
structure S_spec_l02Divide_5 where
  x0 : U64
  x1 : U64
  x2 : U64
  x3 : U64
  x4 : U64
  x5 : I64
instance : Inhabited S_spec_l02Divide_5 := ⟨⟨default, default, default, default, default, default⟩⟩
noncomputable def st_spec_l02Divide_5 (x : S_spec_l02Divide_5) : St := ⟨[(1, .u64 x.x0), (2, .u64 x.x1), (9, .u64 x.x2), (10, .u64 x.x3), (11, .u64 x.x4), (12, .i64 x.x5)], 51, ⟨[], 0, 0⟩⟩
noncomputable def rd_spec_l02Divide_5 : St → Option S_spec_l02Divide_5 := fun s => match s with
  | ⟨[(1, .u64 x0), (2, .u64 x1), (9, .u64 x2), (10, .u64 x3), (11, .u64 x4), (12, .i64 x5)], 51, ⟨[], 0, 0⟩⟩ => some ⟨x0, x1, x2, x3, x4, x5⟩
  | _ => none
noncomputable def b_spec_l02Divide_5 (x : S_spec_l02Divide_5) : Tr (Lp S_spec_l02Divide_5) :=
  .br (decide (x.x5.val ≥ 0)) (let c7 := (Rng.w .u64 (bitop .or .u64 (Rng.w .u64 (x.x3.val * 2)).val (Rng.w .u64 (bitop .and .u64 (Rng.w .u64 (x.x0.val.fdiv (2 ^ min ((Rng.w .u64 (x.x5.val)).val).toNat 64))).val 1)).val)); let c8 := (Rng.w .u64 (x.x4.val * 2)); .br ((Rng.w .u64 (x.x3.val.fdiv 9223372036854775808)).val == 1) (.leaf (.again ⟨x.x0, x.x1, x.x2, (Rng.w .u64 (c7.val - x.x1.val)), (Rng.w .u64 (bitop .or .u64 c8.val 1)), (Rng.w .i64 (x.x5.val - 1))⟩)) (.br (decide (c7.val ≥ x.x1.val)) (.leaf (.again ⟨x.x0, x.x1, x.x2, (Rng.w .u64 (c7.val - x.x1.val)), (Rng.w .u64 (bitop .or .u64 c8.val 1)), (Rng.w .i64 (x.x5.val - 1))⟩)) (.leaf (.again ⟨x.x0, x.x1, x.x2, c7, c8, (Rng.w .i64 (x.x5.val - 1))⟩)))) (.leaf (.out ⟨x.x0, x.x1, x.x2, x.x3, x.x4, x.x5⟩))
noncomputable def G_spec_l02Divide_5 (x : S_spec_l02Divide_5) : Bool := (Lf b_spec_l02Divide_5 66 x).opt.isSome
noncomputable def L_spec_l02Divide_5 (x : S_spec_l02Divide_5) : S_spec_l02Divide_5 := (Lf b_spec_l02Divide_5 66 x).get
noncomputable def TbL_spec_l02Divide_5 : Tb Tryz.prog := { T := [Y3, Y114], mix := mix, Es := [], Bs := [], d := 1 }
noncomputable def P_spec_l02Divide_5 : LpF := loopF [1, 2, 9, 10, 11, 12] [] 0 rd_spec_l02Divide_5 st_spec_l02Divide_5 (.exit 0) G_spec_l02Divide_5 L_spec_l02Divide_5
theorem lok_spec_l02Divide_5 : LoopOk Tryz.prog (loopAt (Tryz.f285.body.getD .skip) 0) P_spec_l02Divide_5 := loopF_ok (t := TbL_spec_l02Divide_5) (lt := fun _ => none) (body := b_spec_l02Divide_5) (n := 66) (by intro h; cases h) (fun _ _ _ h => by cases h)
  (by intro s x h; unfold rd_spec_l02Divide_5 at h; split at h <;> cases h; rfl) (fun x b cs h => lk_lt (l := (st_spec_l02Divide_5 x).mm.blks) (by kernel_rfl) h) (by intro x; kernel_rfl) (fun x h => Tr.get_some h)
noncomputable def B285 : Bod Tryz.prog := ⟨285, Tryz.f285, Tryz.f285.body.getD .skip, Tryz.func285, by kernel_rfl, by kernel_rfl, ⟨ltOf [(5, P_spec_l02Divide_5)], Loops.of (ks := [5]) (by kernel_rfl) (by
  intro i k h f hf
  match i, h with
  | 0, h => cases h; obtain rfl : P_spec_l02Divide_5 = f := Option.some.inj hf; exact lok_spec_l02Divide_5
  | n + 1, h => simp at h)⟩⟩
noncomputable def Tb285 : Tb Tryz.prog := { T := [Y3, Y114], mix := mix, Es := [], Bs := [], d := 1 }
noncomputable def t_spec_l02Divide (a0 : U64) (a1 : U64) (a2 : U64) : Tr (T3 U64 U64 U64) :=
  .br (a2.val == 0) (.bad) (let c1 := (Rng.w .u64 (a0.val.tdiv a2.val)); .br (a2.val == 0) (.bad) (let c2 := (Rng.w .u64 (a0.val.tmod a2.val)); .br (G_spec_l02Divide_5 ⟨a1, a2, c1, c2, ⟨0, rfl⟩, ⟨63, rfl⟩⟩) (let c17 := L_spec_l02Divide_5 ⟨a1, a2, c1, c2, ⟨0, rfl⟩, ⟨63, rfl⟩⟩; .leaf ⟨c17.x2, c17.x4, c17.x3⟩) (.bad)))
theorem r_spec_l02Divide (a0 : U64) (a1 : U64) (a2 : U64) : Tb285.run B285 [enc a0, enc a1, enc a2] (T3 U64 U64 U64) = (t_spec_l02Divide a0 a1 a2).opt := by kernel_rfl
noncomputable def F_spec_l02Divide : U64 → U64 → U64 → T3 U64 U64 U64 := fun a0 a1 a2 => (t_spec_l02Divide a0 a1 a2).get
noncomputable def G_spec_l02Divide : U64 → U64 → U64 → Bool := fun a0 a1 a2 => (t_spec_l02Divide a0 a1 a2).opt.isSome
noncomputable def E_spec_l02Divide : Ent Tryz.prog := .of3 Tb285 B285 G_spec_l02Divide F_spec_l02Divide fun a0 a1 a2 h => (r_spec_l02Divide a0 a1 a2).trans (Tr.get_some h)
noncomputable def B286 : Bod Tryz.prog := ⟨286, Tryz.f286, Tryz.f286.body.getD .skip, Tryz.func286, by kernel_rfl, by kernel_rfl, Loops.no _ _⟩
noncomputable def Tb286 : Tb Tryz.prog := { T := [Y2, Y122, Y125], mix := mix, Es := [], Bs := [], d := 1 }
noncomputable def t_spec_l02Of (a0 : I64) : Tr (Wide) :=
  .br (decide (a0.val < 0)) (.leaf ⟨⟨(-1), rfl⟩, (Rng.w .u64 (a0.val))⟩) (.leaf ⟨⟨0, rfl⟩, (Rng.w .u64 (a0.val))⟩)
theorem r_spec_l02Of (a0 : I64) : Tb286.run B286 [enc a0] (Wide) = (t_spec_l02Of a0).opt := by kernel_rfl
noncomputable def F_spec_l02Of : I64 → Wide := fun a0 => (t_spec_l02Of a0).get
theorem u_spec_l02Of (a0 : I64) : (t_spec_l02Of a0).opt = some (F_spec_l02Of a0) := Tr.tot_get (by kernel_rfl)
noncomputable def E_spec_l02Of : Ent Tryz.prog := .of1 Tb286 B286 (fun _ => true) F_spec_l02Of fun a0 _ => (r_spec_l02Of a0).trans (u_spec_l02Of a0)
noncomputable def B262 : Bod Tryz.prog := ⟨262, Tryz.f262, Tryz.f262.body.getD .skip, Tryz.func262, by kernel_rfl, by kernel_rfl, Loops.no _ _⟩
noncomputable def Tb262 : Tb Tryz.prog := { T := [Y2, Y122, Y125], mix := mix, Es := [], Bs := [], d := 1 }
noncomputable def t_spec_l02Plus (a0 : Wide) (a1 : Wide) : Tr (Wide) :=
  let c1 := (Rng.w .i64 (a0.hi.val + a1.hi.val)); let c2 := (Rng.w .u64 (a0.lo.val + a1.lo.val)); .br (decide (c2.val < a0.lo.val)) (.leaf ⟨(Rng.w .i64 (c1.val + 1)), c2⟩) (.leaf ⟨c1, c2⟩)
theorem r_spec_l02Plus (a0 : Wide) (a1 : Wide) : Tb262.run B262 [enc a0, enc a1] (Wide) = (t_spec_l02Plus a0 a1).opt := by kernel_rfl
noncomputable def F_spec_l02Plus : Wide → Wide → Wide := fun a0 a1 => (t_spec_l02Plus a0 a1).get
theorem u_spec_l02Plus (a0 : Wide) (a1 : Wide) : (t_spec_l02Plus a0 a1).opt = some (F_spec_l02Plus a0 a1) := Tr.tot_get (by kernel_rfl)
noncomputable def E_spec_l02Plus : Ent Tryz.prog := .of2 Tb262 B262 (fun _ _ => true) F_spec_l02Plus fun a0 a1 _ => (r_spec_l02Plus a0 a1).trans (u_spec_l02Plus a0 a1)
noncomputable def B243 : Bod Tryz.prog := ⟨243, Tryz.f243, Tryz.f243.body.getD .skip, Tryz.func243, by kernel_rfl, by kernel_rfl, Loops.no _ _⟩
noncomputable def Tb243 : Tb Tryz.prog := { T := [Y2, Y122, Y125], mix := mix, Es := [E_spec_l02Plus, E_spec_l02Minus, E_spec_l02Divide, E_spec_l02Of], Bs := [], d := 1 }
noncomputable def t_spec_l02Div (a0 : Wide) (a1 : I64) : Tr (T2 Wide I64) :=
  .br (decide (a0.hi.val ≥ 0)) (.br (G_spec_l02Divide (Rng.w .u64 (a0.hi.val)) a0.lo (Rng.w .u64 (a1.val))) (let c1 := F_spec_l02Divide (Rng.w .u64 (a0.hi.val)) a0.lo (Rng.w .u64 (a1.val)); .leaf ⟨⟨(Rng.w .i64 (c1.a.val)), c1.b⟩, (Rng.w .i64 (c1.c.val))⟩) (.bad)) (let c2 := F_spec_l02Minus a0; .br (G_spec_l02Divide (Rng.w .u64 (c2.hi.val)) c2.lo (Rng.w .u64 (a1.val))) (let c3 := F_spec_l02Divide (Rng.w .u64 (c2.hi.val)) c2.lo (Rng.w .u64 (a1.val)); let c4 := F_spec_l02Minus ⟨(Rng.w .i64 (c3.a.val)), c3.b⟩; .br (c3.c.val == 0) (.leaf ⟨c4, ⟨0, rfl⟩⟩) (.leaf ⟨(F_spec_l02Plus c4 (F_spec_l02Of ⟨(-1), rfl⟩)), (Rng.w .i64 (a1.val - (Rng.w .i64 (c3.c.val)).val))⟩)) (.bad))
theorem r_spec_l02Div (a0 : Wide) (a1 : I64) : Tb243.run B243 [enc a0, enc a1] (T2 Wide I64) = (t_spec_l02Div a0 a1).opt := by kernel_rfl
noncomputable def F_spec_l02Div : Wide → I64 → T2 Wide I64 := fun a0 a1 => (t_spec_l02Div a0 a1).get
noncomputable def G_spec_l02Div : Wide → I64 → Bool := fun a0 a1 => (t_spec_l02Div a0 a1).opt.isSome
noncomputable def E_spec_l02Div : Ent Tryz.prog := .of2 Tb243 B243 G_spec_l02Div F_spec_l02Div fun a0 a1 h => (r_spec_l02Div a0 a1).trans (Tr.get_some h)
noncomputable def B244 : Bod Tryz.prog := ⟨244, Tryz.f244, Tryz.f244.body.getD .skip, Tryz.func244, by kernel_rfl, by kernel_rfl, Loops.no _ _⟩
noncomputable def Tb244 : Tb Tryz.prog := { T := [Y2, Y122, Y125], mix := mix, Es := [E_spec_l02Of], Bs := [], d := 1 }
noncomputable def t_spec_l02Int (a0 : Wide) : Tr (T2 I64 Bool) :=
  let c1 := F_spec_l02Of (Rng.w .i64 (a0.lo.val)); .br (!((c1.hi.val == a0.hi.val) && ((c1.lo.val == a0.lo.val) && true))) (.leaf ⟨⟨0, rfl⟩, false⟩) (.leaf ⟨(Rng.w .i64 (a0.lo.val)), true⟩)
theorem r_spec_l02Int (a0 : Wide) : Tb244.run B244 [enc a0] (T2 I64 Bool) = (t_spec_l02Int a0).opt := by kernel_rfl
noncomputable def F_spec_l02Int : Wide → T2 I64 Bool := fun a0 => (t_spec_l02Int a0).get
theorem u_spec_l02Int (a0 : Wide) : (t_spec_l02Int a0).opt = some (F_spec_l02Int a0) := Tr.tot_get (by kernel_rfl)
noncomputable def E_spec_l02Int : Ent Tryz.prog := .of1 Tb244 B244 (fun _ => true) F_spec_l02Int fun a0 _ => (r_spec_l02Int a0).trans (u_spec_l02Int a0)
noncomputable def B169 : Bod Tryz.prog := ⟨169, Tryz.f169, Tryz.f169.body.getD .skip, Tryz.func169, by kernel_rfl, by kernel_rfl, Loops.no _ _⟩
noncomputable def Tb169 : Tb Tryz.prog := { T := [Y2, Y122, Y125], mix := mix, Es := [E_spec_l02Mul, E_spec_l02Div, E_spec_l02Int], Bs := [], d := 1 }
noncomputable def t_spec_MulDivFloor (a0 : I64) (a1 : I64) (a2 : I64) : Tr (T2 I64 Bool) :=
  .br (decide (a2.val ≤ 0)) (.leaf ⟨⟨0, rfl⟩, false⟩) (let c1 := F_spec_l02Mul a0 a1; .br (G_spec_l02Div c1 a2) (let c3 := F_spec_l02Int (F_spec_l02Div c1 a2).a; .leaf ⟨c3.a, c3.b⟩) (.bad))
theorem r_spec_MulDivFloor (a0 : I64) (a1 : I64) (a2 : I64) : Tb169.run B169 [enc a0, enc a1, enc a2] (T2 I64 Bool) = (t_spec_MulDivFloor a0 a1 a2).opt := by kernel_rfl
noncomputable def F_spec_MulDivFloor : I64 → I64 → I64 → T2 I64 Bool := fun a0 a1 a2 => (t_spec_MulDivFloor a0 a1 a2).get
noncomputable def G_spec_MulDivFloor : I64 → I64 → I64 → Bool := fun a0 a1 a2 => (t_spec_MulDivFloor a0 a1 a2).opt.isSome
noncomputable def E_spec_MulDivFloor : Ent Tryz.prog := .of3 Tb169 B169 G_spec_MulDivFloor F_spec_MulDivFloor fun a0 a1 a2 h => (r_spec_MulDivFloor a0 a1 a2).trans (Tr.get_some h)
noncomputable def B228 : Bod Tryz.prog := ⟨228, Tryz.f228, Tryz.f228.body.getD .skip, Tryz.func228, by kernel_rfl, by kernel_rfl, Loops.no _ _⟩
noncomputable def Tb228 : Tb Tryz.prog := { T := [], mix := mix, Es := [E_spec_l00In], Bs := [], d := 1 }
noncomputable def t_spec_l03Ok (a0 : I64) : Tr (Bool) :=
  .leaf (F_spec_l00In a0 ⟨(-1152921504606846976), rfl⟩ ⟨1152921504606846976, rfl⟩)
theorem r_spec_l03Ok (a0 : I64) : Tb228.run B228 [enc a0] (Bool) = (t_spec_l03Ok a0).opt := by kernel_rfl
noncomputable def F_spec_l03Ok : I64 → Bool := fun a0 => (t_spec_l03Ok a0).get
theorem u_spec_l03Ok (a0 : I64) : (t_spec_l03Ok a0).opt = some (F_spec_l03Ok a0) := Tr.tot_get (by kernel_rfl)
noncomputable def E_spec_l03Ok : Ent Tryz.prog := .of1 Tb228 B228 (fun _ => true) F_spec_l03Ok fun a0 _ => (r_spec_l03Ok a0).trans (u_spec_l03Ok a0)
noncomputable def B230 : Bod Tryz.prog := ⟨230, Tryz.f230, Tryz.f230.body.getD .skip, Tryz.func230, by kernel_rfl, by kernel_rfl, Loops.no _ _⟩
noncomputable def Tb230 : Tb Tryz.prog := { T := [], mix := mix, Es := [E_spec_l03Ok], Bs := [], d := 1 }
noncomputable def t_spec_l03End (a0 : I64) (a1 : Bool) : Tr (T2 I64 Bool) :=
  .br (!a1) (.leaf ⟨⟨0, rfl⟩, false⟩) (.br (!(F_spec_l03Ok a0)) (.leaf ⟨⟨0, rfl⟩, false⟩) (.leaf ⟨a0, true⟩))
theorem r_spec_l03End (a0 : I64) (a1 : Bool) : Tb230.run B230 [enc a0, enc a1] (T2 I64 Bool) = (t_spec_l03End a0 a1).opt := by kernel_rfl
noncomputable def F_spec_l03End : I64 → Bool → T2 I64 Bool := fun a0 a1 => (t_spec_l03End a0 a1).get
theorem u_spec_l03End (a0 : I64) (a1 : Bool) : (t_spec_l03End a0 a1).opt = some (F_spec_l03End a0 a1) := Tr.tot_get (by kernel_rfl)
noncomputable def E_spec_l03End : Ent Tryz.prog := .of2 Tb230 B230 (fun _ _ => true) F_spec_l03End fun a0 a1 _ => (r_spec_l03End a0 a1).trans (u_spec_l03End a0 a1)
noncomputable def B173 : Bod Tryz.prog := ⟨173, Tryz.f173, Tryz.f173.body.getD .skip, Tryz.func173, by kernel_rfl, by kernel_rfl, Loops.no _ _⟩
noncomputable def Tb173 : Tb Tryz.prog := { T := [], mix := mix, Es := [E_spec_MulDivFloor, E_spec_l03End], Bs := [], d := 1 }
noncomputable def t_spec_l03Floor (a0 : I64) (a1 : I64) : Tr (T2 I64 Bool) :=
  .br (decide (a1.val ≤ 0)) (.leaf ⟨⟨0, rfl⟩, false⟩) (.br (G_spec_MulDivFloor a0 ⟨4294967296, rfl⟩ a1) (let c1 := F_spec_MulDivFloor a0 ⟨4294967296, rfl⟩ a1; let c2 := F_spec_l03End c1.a c1.b; .leaf ⟨c2.a, c2.b⟩) (.bad))
theorem r_spec_l03Floor (a0 : I64) (a1 : I64) : Tb173.run B173 [enc a0, enc a1] (T2 I64 Bool) = (t_spec_l03Floor a0 a1).opt := by kernel_rfl
noncomputable def F_spec_l03Floor : I64 → I64 → T2 I64 Bool := fun a0 a1 => (t_spec_l03Floor a0 a1).get
noncomputable def G_spec_l03Floor : I64 → I64 → Bool := fun a0 a1 => (t_spec_l03Floor a0 a1).opt.isSome
noncomputable def E_spec_l03Floor : Ent Tryz.prog := .of2 Tb173 B173 G_spec_l03Floor F_spec_l03Floor fun a0 a1 h => (r_spec_l03Floor a0 a1).trans (Tr.get_some h)
noncomputable def B174 : Bod Tryz.prog := ⟨174, Tryz.f174, Tryz.f174.body.getD .skip, Tryz.func174, by kernel_rfl, by kernel_rfl, Loops.no _ _⟩
noncomputable def Tb174 : Tb Tryz.prog := { T := [], mix := mix, Es := [E_spec_MulDivFloor, E_spec_l03End], Bs := [], d := 1 }
noncomputable def t_spec_l03Ceil (a0 : I64) (a1 : I64) : Tr (T2 I64 Bool) :=
  .br (decide (a1.val ≤ 0)) (.leaf ⟨⟨0, rfl⟩, false⟩) (.br (G_spec_MulDivFloor a0 ⟨4294967296, rfl⟩ a1) (let c1 := F_spec_MulDivFloor a0 ⟨4294967296, rfl⟩ a1; .br (!c1.b) (.leaf ⟨⟨0, rfl⟩, false⟩) (.br ((Rng.w .i64 (c1.a.val * a1.val)).val != (Rng.w .i64 (a0.val * 4294967296)).val) (let c5 := F_spec_l03End (Rng.w .i64 (c1.a.val + 1)) true; .leaf ⟨c5.a, c5.b⟩) (let c6 := F_spec_l03End c1.a true; .leaf ⟨c6.a, c6.b⟩))) (.bad))
theorem r_spec_l03Ceil (a0 : I64) (a1 : I64) : Tb174.run B174 [enc a0, enc a1] (T2 I64 Bool) = (t_spec_l03Ceil a0 a1).opt := by kernel_rfl
noncomputable def F_spec_l03Ceil : I64 → I64 → T2 I64 Bool := fun a0 a1 => (t_spec_l03Ceil a0 a1).get
noncomputable def G_spec_l03Ceil : I64 → I64 → Bool := fun a0 a1 => (t_spec_l03Ceil a0 a1).opt.isSome
noncomputable def E_spec_l03Ceil : Ent Tryz.prog := .of2 Tb174 B174 G_spec_l03Ceil F_spec_l03Ceil fun a0 a1 h => (r_spec_l03Ceil a0 a1).trans (Tr.get_some h)
noncomputable def B151 : Bod Tryz.prog := ⟨151, Tryz.f151, Tryz.f151.body.getD .skip, Tryz.func151, by kernel_rfl, by kernel_rfl, Loops.no _ _⟩
noncomputable def Tb151 : Tb Tryz.prog := { T := [Y2, Y27], mix := mix, Es := [], Bs := [], d := 1 }
noncomputable def t_spec_l04Ok (a0 : Iv) : Tr (Bool) :=
  .br (decide ((-1152921504606846976) < a0.lo.val)) (.br (decide (a0.lo.val ≤ a0.hi.val)) (.leaf (decide (a0.hi.val < 1152921504606846976))) (.leaf false)) (.leaf false)
theorem r_spec_l04Ok (a0 : Iv) : Tb151.run B151 [enc a0] (Bool) = (t_spec_l04Ok a0).opt := by kernel_rfl
noncomputable def F_spec_l04Ok : Iv → Bool := fun a0 => (t_spec_l04Ok a0).get
theorem u_spec_l04Ok (a0 : Iv) : (t_spec_l04Ok a0).opt = some (F_spec_l04Ok a0) := Tr.tot_get (by kernel_rfl)
noncomputable def E_spec_l04Ok : Ent Tryz.prog := .of1 Tb151 B151 (fun _ => true) F_spec_l04Ok fun a0 _ => (r_spec_l04Ok a0).trans (u_spec_l04Ok a0)
noncomputable def B156 : Bod Tryz.prog := ⟨156, Tryz.f156, Tryz.f156.body.getD .skip, Tryz.func156, by kernel_rfl, by kernel_rfl, Loops.no _ _⟩
noncomputable def Tb156 : Tb Tryz.prog := { T := [Y2, Y27], mix := mix, Es := [E_spec_l04Whole, E_spec_l04Ok], Bs := [], d := 1 }
noncomputable def t_spec_l04Make (a0 : I64) (a1 : I64) : Tr (Iv) :=
  .br (!(F_spec_l04Ok ⟨a0, a1⟩)) (.leaf F_spec_l04Whole) (.leaf ⟨a0, a1⟩)
theorem r_spec_l04Make (a0 : I64) (a1 : I64) : Tb156.run B156 [enc a0, enc a1] (Iv) = (t_spec_l04Make a0 a1).opt := by kernel_rfl
noncomputable def F_spec_l04Make : I64 → I64 → Iv := fun a0 a1 => (t_spec_l04Make a0 a1).get
theorem u_spec_l04Make (a0 : I64) (a1 : I64) : (t_spec_l04Make a0 a1).opt = some (F_spec_l04Make a0 a1) := Tr.tot_get (by kernel_rfl)
noncomputable def E_spec_l04Make : Ent Tryz.prog := .of2 Tb156 B156 (fun _ _ => true) F_spec_l04Make fun a0 a1 _ => (r_spec_l04Make a0 a1).trans (u_spec_l04Make a0 a1)
noncomputable def B74 : Bod Tryz.prog := ⟨74, Tryz.f74, Tryz.f74.body.getD .skip, Tryz.func74, by kernel_rfl, by kernel_rfl, Loops.no _ _⟩
noncomputable def Tb74 : Tb Tryz.prog := { T := [Y2, Y27], mix := mix, Es := [E_spec_l04Whole, E_spec_l04Make, E_spec_l03Floor, E_spec_l03Ceil], Bs := [], d := 1 }
noncomputable def t_spec_Quotient (a0 : I64) (a1 : I64) : Tr (Iv) :=
  .br (decide (a1.val < 0)) (.br (a0.val == (-9223372036854775808)) (.leaf F_spec_l04Whole) (.br (a1.val == (-9223372036854775808)) (.leaf F_spec_l04Whole) (let c5 := (Rng.w .i64 (0 - a0.val)); let c6 := (Rng.w .i64 (0 - a1.val)); .br (G_spec_l03Floor c5 c6) (let c7 := F_spec_l03Floor c5 c6; .br (G_spec_l03Ceil c5 c6) (let c8 := F_spec_l03Ceil c5 c6; .br (!c7.b) (.leaf F_spec_l04Whole) (.br (!c8.b) (.leaf F_spec_l04Whole) (.leaf (F_spec_l04Make c7.a c8.a)))) (.bad)) (.bad)))) (.br (G_spec_l03Floor a0 a1) (let c12 := F_spec_l03Floor a0 a1; .br (G_spec_l03Ceil a0 a1) (let c13 := F_spec_l03Ceil a0 a1; .br (!c12.b) (.leaf F_spec_l04Whole) (.br (!c13.b) (.leaf F_spec_l04Whole) (.leaf (F_spec_l04Make c12.a c13.a)))) (.bad)) (.bad))
theorem r_spec_Quotient (a0 : I64) (a1 : I64) : Tb74.run B74 [enc a0, enc a1] (Iv) = (t_spec_Quotient a0 a1).opt := by kernel_rfl
noncomputable def F_spec_Quotient : I64 → I64 → Iv := fun a0 a1 => (t_spec_Quotient a0 a1).get
noncomputable def G_spec_Quotient : I64 → I64 → Bool := fun a0 a1 => (t_spec_Quotient a0 a1).opt.isSome
noncomputable def E_spec_Quotient : Ent Tryz.prog := .of2 Tb74 B74 G_spec_Quotient F_spec_Quotient fun a0 a1 h => (r_spec_Quotient a0 a1).trans (Tr.get_some h)
noncomputable def B61 : Bod Tryz.prog := ⟨61, Tryz.f61, Tryz.f61.body.getD .skip, Tryz.func61, by kernel_rfl, by kernel_rfl, Loops.no _ _⟩
noncomputable def Tb61 : Tb Tryz.prog := { T := [Y2, Y27], mix := mix, Es := [E_spec_l04Whole], Bs := [], d := 1 }
noncomputable def t_spec_Whole : Tr (Iv) :=
  .leaf F_spec_l04Whole
theorem r_spec_Whole : Tb61.run B61 [] (Iv) = (t_spec_Whole).opt := by kernel_rfl
noncomputable def F_spec_Whole : Iv := (t_spec_Whole).get
theorem u_spec_Whole : (t_spec_Whole).opt = some (F_spec_Whole) := Tr.tot_get (by kernel_rfl)
noncomputable def E_spec_Whole : Ent Tryz.prog := .of0 Tb61 B61 F_spec_Whole (r_spec_Whole.trans u_spec_Whole)
noncomputable def B168 : Bod Tryz.prog := ⟨168, Tryz.f168, Tryz.f168.body.getD .skip, Tryz.func168, by kernel_rfl, by kernel_rfl, Loops.no _ _⟩
noncomputable def Tb168 : Tb Tryz.prog := { T := [Y2, Y27], mix := mix, Es := [E_spec_l04Whole, E_spec_l04Ok, E_spec_l04Make], Bs := [], d := 1 }
noncomputable def t_spec_NegI (a0 : Iv) : Tr (Iv) :=
  .br (!(F_spec_l04Ok a0)) (.leaf F_spec_l04Whole) (.leaf (F_spec_l04Make (Rng.w .i64 (0 - a0.hi.val)) (Rng.w .i64 (0 - a0.lo.val))))
theorem r_spec_NegI (a0 : Iv) : Tb168.run B168 [enc a0] (Iv) = (t_spec_NegI a0).opt := by kernel_rfl
noncomputable def F_spec_NegI : Iv → Iv := fun a0 => (t_spec_NegI a0).get
theorem u_spec_NegI (a0 : Iv) : (t_spec_NegI a0).opt = some (F_spec_NegI a0) := Tr.tot_get (by kernel_rfl)
noncomputable def E_spec_NegI : Ent Tryz.prog := .of1 Tb168 B168 (fun _ => true) F_spec_NegI fun a0 _ => (r_spec_NegI a0).trans (u_spec_NegI a0)
noncomputable def B70 : Bod Tryz.prog := ⟨70, Tryz.f70, Tryz.f70.body.getD .skip, Tryz.func70, by kernel_rfl, by kernel_rfl, Loops.no _ _⟩
noncomputable def Tb70_p : Tb Tryz.prog := { T := [Y2, Y27], mix := mix, Es := [E_spec_Whole, E_spec_l00In, E_spec_MulDivFloor], Bs := [], d := 1 }
noncomputable def t_spec_RadiansOf_p (a0 : I64) : Tr (Iv) :=
  .br (!(F_spec_l00In a0 ⟨(-36000000000), rfl⟩ ⟨36000000000, rfl⟩)) (.leaf F_spec_Whole) (.br (a0.val == 0) (.leaf ⟨⟨0, rfl⟩, ⟨0, rfl⟩⟩) (.br (decide (a0.val < 0)) (.bad) (.br (G_spec_MulDivFloor a0 ⟨7244019458077122842, rfl⟩ ⟨966367641600000000, rfl⟩) (.br (G_spec_MulDivFloor a0 ⟨7244019458077122843, rfl⟩ ⟨966367641600000000, rfl⟩) (.leaf ⟨(F_spec_MulDivFloor a0 ⟨7244019458077122842, rfl⟩ ⟨966367641600000000, rfl⟩).a, (Rng.w .i64 ((F_spec_MulDivFloor a0 ⟨7244019458077122843, rfl⟩ ⟨966367641600000000, rfl⟩).a.val + 1))⟩) (.bad)) (.bad))))
theorem r_spec_RadiansOf_p (a0 : I64) : Tb70_p.run B70 [enc a0] (Iv) = (t_spec_RadiansOf_p a0).opt := by kernel_rfl
noncomputable def F_spec_RadiansOf_p : I64 → Iv := fun a0 => (t_spec_RadiansOf_p a0).get
noncomputable def G_spec_RadiansOf_p : I64 → Bool := fun a0 => (t_spec_RadiansOf_p a0).opt.isSome
noncomputable def E_spec_RadiansOf_p : Ent Tryz.prog := .of1 Tb70_p B70 G_spec_RadiansOf_p F_spec_RadiansOf_p fun a0 h => (r_spec_RadiansOf_p a0).trans (Tr.get_some h)
noncomputable def Tb70 : Tb Tryz.prog := { T := [Y2, Y27], mix := mix, Es := [E_spec_Whole, E_spec_RadiansOf_p, E_spec_l00In, E_spec_NegI, E_spec_MulDivFloor], Bs := [], d := 1 }
noncomputable def t_spec_RadiansOf (a0 : I64) : Tr (Iv) :=
  .br (!(F_spec_l00In a0 ⟨(-36000000000), rfl⟩ ⟨36000000000, rfl⟩)) (.leaf F_spec_Whole) (.br (a0.val == 0) (.leaf ⟨⟨0, rfl⟩, ⟨0, rfl⟩⟩) (.br (decide (a0.val < 0)) (let c3 := (Rng.w .i64 (0 - a0.val)); .br (G_spec_RadiansOf_p c3) (.leaf (F_spec_NegI (F_spec_RadiansOf_p c3))) (.bad)) (.br (G_spec_MulDivFloor a0 ⟨7244019458077122842, rfl⟩ ⟨966367641600000000, rfl⟩) (.br (G_spec_MulDivFloor a0 ⟨7244019458077122843, rfl⟩ ⟨966367641600000000, rfl⟩) (.leaf ⟨(F_spec_MulDivFloor a0 ⟨7244019458077122842, rfl⟩ ⟨966367641600000000, rfl⟩).a, (Rng.w .i64 ((F_spec_MulDivFloor a0 ⟨7244019458077122843, rfl⟩ ⟨966367641600000000, rfl⟩).a.val + 1))⟩) (.bad)) (.bad))))
theorem r_spec_RadiansOf (a0 : I64) : Tb70.run B70 [enc a0] (Iv) = (t_spec_RadiansOf a0).opt := by kernel_rfl
noncomputable def F_spec_RadiansOf : I64 → Iv := fun a0 => (t_spec_RadiansOf a0).get
noncomputable def G_spec_RadiansOf : I64 → Bool := fun a0 => (t_spec_RadiansOf a0).opt.isSome
noncomputable def E_spec_RadiansOf : Ent Tryz.prog := .of1 Tb70 B70 G_spec_RadiansOf F_spec_RadiansOf fun a0 h => (r_spec_RadiansOf a0).trans (Tr.get_some h)
noncomputable def B123 : Bod Tryz.prog := ⟨123, Tryz.f123, Tryz.f123.body.getD .skip, Tryz.func123, by kernel_rfl, by kernel_rfl, Loops.no _ _⟩
noncomputable def Tb123 : Tb Tryz.prog := { T := [Y27], mix := mix, Es := [E_impl_ValidInterval], Bs := [], d := 1 }
noncomputable def t_impl_IsWhole (a0 : Iv) : Tr (Bool) :=
  .leaf (!(F_impl_ValidInterval a0))
theorem r_impl_IsWhole (a0 : Iv) : Tb123.run B123 [enc a0] (Bool) = (t_impl_IsWhole a0).opt := by kernel_rfl
noncomputable def F_impl_IsWhole : Iv → Bool := fun a0 => (t_impl_IsWhole a0).get
theorem u_impl_IsWhole (a0 : Iv) : (t_impl_IsWhole a0).opt = some (F_impl_IsWhole a0) := Tr.tot_get (by kernel_rfl)
noncomputable def E_impl_IsWhole : Ent Tryz.prog := .of1 Tb123 B123 (fun _ => true) F_impl_IsWhole fun a0 _ => (r_impl_IsWhole a0).trans (u_impl_IsWhole a0)
noncomputable def B179 : Bod Tryz.prog := ⟨179, Tryz.f179, Tryz.f179.body.getD .skip, Tryz.func179, by kernel_rfl, by kernel_rfl, Loops.no _ _⟩
noncomputable def Tb179 : Tb Tryz.prog := { T := [Y2, Y27], mix := mix, Es := [E_impl_Whole, E_impl_IsWhole], Bs := [], d := 1 }
noncomputable def t_impl_NegI (a0 : Iv) : Tr (Iv) :=
  .br (F_impl_IsWhole a0) (.leaf F_impl_Whole) (.leaf ⟨(Rng.w .i64 (0 - a0.hi.val)), (Rng.w .i64 (0 - a0.lo.val))⟩)
theorem r_impl_NegI (a0 : Iv) : Tb179.run B179 [enc a0] (Iv) = (t_impl_NegI a0).opt := by kernel_rfl
noncomputable def F_impl_NegI : Iv → Iv := fun a0 => (t_impl_NegI a0).get
theorem u_impl_NegI (a0 : Iv) : (t_impl_NegI a0).opt = some (F_impl_NegI a0) := Tr.tot_get (by kernel_rfl)
noncomputable def E_impl_NegI : Ent Tryz.prog := .of1 Tb179 B179 (fun _ => true) F_impl_NegI fun a0 _ => (r_impl_NegI a0).trans (u_impl_NegI a0)
noncomputable def B79 : Bod Tryz.prog := ⟨79, Tryz.f79, Tryz.f79.body.getD .skip, Tryz.func79, by kernel_rfl, by kernel_rfl, Loops.no _ _⟩
noncomputable def Tb79_p : Tb Tryz.prog := { T := [Y2, Y27], mix := mix, Es := [E_impl_Whole, E_impl_within, E_impl_MulDivFloor], Bs := [], d := 1 }
noncomputable def t_impl_RadiansOf_p (a0 : I64) : Tr (Iv) :=
  .br (!(F_impl_within a0 ⟨(-36000000000), rfl⟩ ⟨36000000000, rfl⟩)) (.leaf F_impl_Whole) (.br (decide (a0.val < 0)) (.bad) (.br (a0.val == 0) (.leaf ⟨⟨0, rfl⟩, ⟨0, rfl⟩⟩) (.br (G_impl_MulDivFloor a0 ⟨7244019458077122842, rfl⟩ ⟨966367641600000000, rfl⟩) (.br (G_impl_MulDivFloor a0 ⟨7244019458077122843, rfl⟩ ⟨966367641600000000, rfl⟩) (.leaf ⟨(F_impl_MulDivFloor a0 ⟨7244019458077122842, rfl⟩ ⟨966367641600000000, rfl⟩).a, (Rng.w .i64 ((F_impl_MulDivFloor a0 ⟨7244019458077122843, rfl⟩ ⟨966367641600000000, rfl⟩).a.val + 1))⟩) (.bad)) (.bad))))
theorem r_impl_RadiansOf_p (a0 : I64) : Tb79_p.run B79 [enc a0] (Iv) = (t_impl_RadiansOf_p a0).opt := by kernel_rfl
noncomputable def F_impl_RadiansOf_p : I64 → Iv := fun a0 => (t_impl_RadiansOf_p a0).get
noncomputable def G_impl_RadiansOf_p : I64 → Bool := fun a0 => (t_impl_RadiansOf_p a0).opt.isSome
noncomputable def E_impl_RadiansOf_p : Ent Tryz.prog := .of1 Tb79_p B79 G_impl_RadiansOf_p F_impl_RadiansOf_p fun a0 h => (r_impl_RadiansOf_p a0).trans (Tr.get_some h)
noncomputable def Tb79 : Tb Tryz.prog := { T := [Y2, Y27], mix := mix, Es := [E_impl_Whole, E_impl_RadiansOf_p, E_impl_within, E_impl_NegI, E_impl_MulDivFloor], Bs := [], d := 1 }
noncomputable def t_impl_RadiansOf (a0 : I64) : Tr (Iv) :=
  .br (!(F_impl_within a0 ⟨(-36000000000), rfl⟩ ⟨36000000000, rfl⟩)) (.leaf F_impl_Whole) (.br (decide (a0.val < 0)) (let c3 := (Rng.w .i64 (0 - a0.val)); .br (G_impl_RadiansOf_p c3) (.leaf (F_impl_NegI (F_impl_RadiansOf_p c3))) (.bad)) (.br (a0.val == 0) (.leaf ⟨⟨0, rfl⟩, ⟨0, rfl⟩⟩) (.br (G_impl_MulDivFloor a0 ⟨7244019458077122842, rfl⟩ ⟨966367641600000000, rfl⟩) (.br (G_impl_MulDivFloor a0 ⟨7244019458077122843, rfl⟩ ⟨966367641600000000, rfl⟩) (.leaf ⟨(F_impl_MulDivFloor a0 ⟨7244019458077122842, rfl⟩ ⟨966367641600000000, rfl⟩).a, (Rng.w .i64 ((F_impl_MulDivFloor a0 ⟨7244019458077122843, rfl⟩ ⟨966367641600000000, rfl⟩).a.val + 1))⟩) (.bad)) (.bad))))
theorem r_impl_RadiansOf (a0 : I64) : Tb79.run B79 [enc a0] (Iv) = (t_impl_RadiansOf a0).opt := by kernel_rfl
noncomputable def F_impl_RadiansOf : I64 → Iv := fun a0 => (t_impl_RadiansOf a0).get
noncomputable def G_impl_RadiansOf : I64 → Bool := fun a0 => (t_impl_RadiansOf a0).opt.isSome
noncomputable def E_impl_RadiansOf : Ent Tryz.prog := .of1 Tb79 B79 G_impl_RadiansOf F_impl_RadiansOf fun a0 h => (r_impl_RadiansOf a0).trans (Tr.get_some h)
end
end Go.Proofs.YtcfflflcbacapaaGreat.Ev
