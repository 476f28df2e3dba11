/- The law FnExactPathLength gives true, whatever comes in; each argument reads behind the call as it read before. No conditions. (One of the texts of its proof, put together by a program of this session.) -/
import Derived.Test.YtkenfaengphiiaaGreatZEC
import Derived.Test.YtkenfaengphiiaaGreatChecked
import Derived.KernelRfl
set_option linter.unusedSectionVars false
set_option linter.unusedSimpArgs false
set_option linter.unusedVariables false
noncomputable section
namespace Go.Proofs.YtkenfaengphiiaaGreat.Ev
open Go Go.RowKit
set_option maxRecDepth 100000
section
variable [Amb]
theorem mix:Tryz.prog.follows .mixedOrders=true:=by kernel_rfl
def Y2:TyE Tryz.prog:=⟨2,1,(.int .i64),[.i64 ⟨0,rfl⟩],false,by kernel_rfl,by kernel_rfl,by kernel_rfl,by kernel_rfl,by kernel_rfl,by kernel_rfl⟩
def Y24:TyE Tryz.prog:=⟨24,2,(.struct [(0,2,1),(1,2,1)]),[.i64 ⟨0,rfl⟩,.i64 ⟨0,rfl⟩],true,by kernel_rfl,by kernel_rfl,by kernel_rfl,by kernel_rfl,by kernel_rfl,by kernel_rfl⟩
def B83:Bod Tryz.prog:=⟨83,Tryz.f83,Tryz.f83.body.getD .skip,Tryz.func83,by kernel_rfl,by kernel_rfl,zK.no _ _⟩
def Tb83:Tb Tryz.prog:= {T:= [],mix:=mix,Es:= [],Bs:= [],d:=1}
def t_spec_l00In (a0:I64) (a1:I64) (a2:I64):Tr (Bool):=
 .br (decide (a0.val>=a1.val)) (.leaf (decide (a0.val<=a2.val))) (.leaf false)
theorem r_spec_l00In (a0:I64) (a1:I64) (a2:I64):Tb83.run B83 [enc a0,enc a1,enc a2] (Bool)=(t_spec_l00In a0 a1 a2).opt:=by kernel_rfl
def zaj:I64->I64->I64->Bool:=fun a0 a1 a2=>(t_spec_l00In a0 a1 a2).get
theorem u_spec_l00In (a0:I64) (a1:I64) (a2:I64):(t_spec_l00In a0 a1 a2).opt=some (zaj a0 a1 a2):=Tr.zz (by kernel_rfl)
def zbu:Ent Tryz.prog:= .of3 Tb83 B83 (fun _ _ _=>true) zaj fun a0 a1 a2 _=>(r_spec_l00In a0 a1 a2).trans (u_spec_l00In a0 a1 a2)
def B99:Bod Tryz.prog:=⟨99,Tryz.f99,Tryz.f99.body.getD .skip,Tryz.func99,by kernel_rfl,by kernel_rfl,zK.no _ _⟩
def Tb99:Tb Tryz.prog:= {T:= [Y2,Y24],mix:=mix,Es:= [zbu],Bs:= [],d:=1}
def t_spec_l11Ok (a0:zbN):Tr (Bool):=
 .br (zaj a0.lat ⟨(-900000000),rfl⟩ ⟨900000000,rfl⟩) (.leaf (zaj a0.lon ⟨(-1799999999),rfl⟩ ⟨1800000000,rfl⟩)) (.leaf false)
theorem r_spec_l11Ok (a0:zbN):Tb99.run B99 [enc a0] (Bool)=(t_spec_l11Ok a0).opt:=by kernel_rfl
def zbb:zbN->Bool:=fun a0=>(t_spec_l11Ok a0).get
theorem u_spec_l11Ok (a0:zbN):(t_spec_l11Ok a0).opt=some (zbb a0):=Tr.zz (by kernel_rfl)
def E_spec_l11Ok:Ent Tryz.prog:= .of1 Tb99 B99 (fun _=>true) zbb fun a0 _=>(r_spec_l11Ok a0).trans (u_spec_l11Ok a0)
def B179:Bod Tryz.prog:=⟨179,Tryz.f179,Tryz.f179.body.getD .skip,Tryz.func179,by kernel_rfl,by kernel_rfl,zK.no _ _⟩
def Tb179:Tb Tryz.prog:= {T:= [],mix:=mix,Es:= [],Bs:= [],d:=1}
def t_impl_within (a0:I64) (a1:I64) (a2:I64):Tr (Bool):=
 .br (decide (a0.val>=a1.val)) (.leaf (decide (a0.val<=a2.val))) (.leaf false)
theorem r_impl_within (a0:I64) (a1:I64) (a2:I64):Tb179.run B179 [enc a0,enc a1,enc a2] (Bool)=(t_impl_within a0 a1 a2).opt:=by kernel_rfl
def zan:I64->I64->I64->Bool:=fun a0 a1 a2=>(t_impl_within a0 a1 a2).get
theorem u_impl_within (a0:I64) (a1:I64) (a2:I64):(t_impl_within a0 a1 a2).opt=some (zan a0 a1 a2):=Tr.zz (by kernel_rfl)
def za8:Ent Tryz.prog:= .of3 Tb179 B179 (fun _ _ _=>true) zan fun a0 a1 a2 _=>(r_impl_within a0 a1 a2).trans (u_impl_within a0 a1 a2)
def B88:Bod Tryz.prog:=⟨88,Tryz.f88,Tryz.f88.body.getD .skip,Tryz.func88,by kernel_rfl,by kernel_rfl,zK.no _ _⟩
def Tb88:Tb Tryz.prog:= {T:= [Y2,Y24],mix:=mix,Es:= [za8],Bs:= [],d:=1}
def t_impl_ValidPoint (a0:zbN):Tr (Bool):=
 .br (zan a0.lat ⟨(-900000000),rfl⟩ ⟨900000000,rfl⟩) (.br (decide (a0.lon.val>(-1800000000))) (.leaf (decide (a0.lon.val<=1800000000))) (.leaf false)) (.leaf false)
theorem r_impl_ValidPoint (a0:zbN):Tb88.run B88 [enc a0] (Bool)=(t_impl_ValidPoint a0).opt:=by kernel_rfl
def zcT:zbN->Bool:=fun a0=>(t_impl_ValidPoint a0).get
theorem u_impl_ValidPoint (a0:zbN):(t_impl_ValidPoint a0).opt=some (zcT a0):=Tr.zz (by kernel_rfl)
def E_impl_ValidPoint:Ent Tryz.prog:= .of1 Tb88 B88 (fun _=>true) zcT fun a0 _=>(r_impl_ValidPoint a0).trans (u_impl_ValidPoint a0)
def B250:Bod Tryz.prog:=⟨250,Tryz.f250,Tryz.f250.body.getD .skip,Tryz.func250,by kernel_rfl,by kernel_rfl,zK.no _ _⟩
def Tb250:Tb Tryz.prog:= {T:= [],mix:=mix,Es:= [],Bs:= [],d:=1}
def t_impl_abs (a0:I64):Tr (I64):=
 .leaf (mx a0 (Rng.w .i64 (0-a0.val)))
theorem r_impl_abs (a0:I64):Tb250.run B250 [enc a0] (I64)=(t_impl_abs a0).opt:=by kernel_rfl
def zct:I64->I64:=fun a0=>(t_impl_abs a0).get
theorem u_impl_abs (a0:I64):(t_impl_abs a0).opt=some (zct a0):=Tr.zz (by kernel_rfl)
def E_impl_abs:Ent Tryz.prog:= .of1 Tb250 B250 (fun _=>true) zct fun a0 _=>(r_impl_abs a0).trans (u_impl_abs a0)
end
end Go.Proofs.YtkenfaengphiiaaGreat.Ev
namespace Go.Proofs.YtkenfaengphiiaaGreat.Ev
open Go
theorem wi {n:Int} (h: -9223372036854775808<=n) (h':n<=9223372036854775807):(Rng.w .i64 n).val=n:=zfu (k:= .i64) (by simp [inB,h,h'])
theorem wu {n:Int} (h:0<=n) (h':n<=18446744073709551615):(Rng.w .u64 n).val=n:=zfu (k:= .u64) (by simp [inB,h,h'])
theorem zbn (n:Int):(Rng.w .u64 n).val=n%18446744073709551616:=by
 show IntKind.u64.wrap n=_
 simp [IntKind.wrap,IntKind.bits,IntKind.signed]
theorem zb0 (a b c:I64):zan a b c=decide (b.val<=a.val/\a.val<=c.val):=by
 simp only [zan,t_impl_within,Tr.get,ge_iff_le]
 by_cases h:b.val<=a.val<;>simp [h]
theorem zft (a b c:I64):zaj a b c=decide (b.val<=a.val/\a.val<=c.val):=by
 simp only [zaj,t_spec_l00In,Tr.get,ge_iff_le]
 by_cases h:b.val<=a.val<;>simp [h]
theorem point_eq (p:zbN):zcT p=zbb p:=by
 simp only [zcT,zbb,t_impl_ValidPoint,t_spec_l11Ok,Tr.get,zb0,zft]
 rw [Bool.eq_iff_iff]
 simp [Bool.cond_eq_ite]
 grind
theorem abs_val (n:I64) (h: -9223372036854775807<=n.val):(zct n).val=if n.val<0 then -n.val else n.val:=by
 have b:=n.bd
 simp only [zct,t_impl_abs,Tr.get,mx]
 rw [wi (by omega) (by omega)]
 by_cases h0:n.val<0
 ·have e:decide (0-n.val>n.val)=true:=by simp;omega
  rw [e,cond_true,wi (by omega) (by omega)];simp [h0]
 ·have e:decide (0-n.val>n.val)=false:=by simp;omega
  rw [e,cond_false];simp [h0]
end Go.Proofs.YtkenfaengphiiaaGreat.Ev
namespace Go.Proofs.YtkenfaengphiiaaGreat.Ev
open Go Go.RowKit
set_option maxRecDepth 100000
section
variable [Amb]
def E_math_bits_Add64:Ent Tryz.prog:= .add64 Tryz.func350 (by kernel_rfl) (by kernel_rfl) (by kernel_rfl) (by kernel_rfl)
def E_math_bits_Sub64:Ent Tryz.prog:= .sub64 Tryz.func385 (by kernel_rfl) (by kernel_rfl) (by kernel_rfl) (by kernel_rfl)
def Y30:TyE Tryz.prog:=⟨30,2,(.struct [(0,2,1),(1,2,1)]),[.i64 ⟨0,rfl⟩,.i64 ⟨0,rfl⟩],true,by kernel_rfl,by kernel_rfl,by kernel_rfl,by kernel_rfl,by kernel_rfl,by kernel_rfl⟩
def B251:Bod Tryz.prog:=⟨251,Tryz.f251,Tryz.f251.body.getD .skip,Tryz.func251,by kernel_rfl,by kernel_rfl,zK.no _ _⟩
def Tb251:Tb Tryz.prog:= {T:= [],mix:=mix,Es:= [],Bs:= [],d:=1}
def t_impl_WrapLon (a0:I64):Tr (I64):=
 let c1:=(Rng.w .i64 (a0.val.tmod 3600000000));.br (decide (c1.val>1800000000)) (.leaf (Rng.w .i64 (c1.val-3600000000))) (.br (decide (c1.val<=(-1800000000))) (.leaf (Rng.w .i64 (c1.val+3600000000))) (.leaf c1))
theorem r_impl_WrapLon (a0:I64):Tb251.run B251 [enc a0] (I64)=(t_impl_WrapLon a0).opt:=by kernel_rfl
def zfn:I64->I64:=fun a0=>(t_impl_WrapLon a0).get
theorem u_impl_WrapLon (a0:I64):(t_impl_WrapLon a0).opt=some (zfn a0):=Tr.zz (by kernel_rfl)
def E_impl_WrapLon:Ent Tryz.prog:= .of1 Tb251 B251 (fun _=>true) zfn fun a0 _=>(r_impl_WrapLon a0).trans (u_impl_WrapLon a0)
def B71:Bod Tryz.prog:=⟨71,Tryz.f71,Tryz.f71.body.getD .skip,Tryz.func71,by kernel_rfl,by kernel_rfl,zK.no _ _⟩
def Tb71:Tb Tryz.prog:= {T:= [],mix:=mix,Es:= [],Bs:= [],d:=1}
def t_spec_l11Wrap (a0:I64):Tr (I64):=
 let c1:=(Rng.w .i64 (a0.val.tmod 3600000000));.br (decide (c1.val>1800000000)) (let c3:=(Rng.w .i64 (c1.val-3600000000));.br (decide (c3.val<=(-1800000000))) (.leaf (Rng.w .i64 (c3.val+3600000000))) (.leaf c3)) (.br (decide (c1.val<=(-1800000000))) (.leaf (Rng.w .i64 (c1.val+3600000000))) (.leaf c1))
theorem r_spec_l11Wrap (a0:I64):Tb71.run B71 [enc a0] (I64)=(t_spec_l11Wrap a0).opt:=by kernel_rfl
def F_spec_l11Wrap:I64->I64:=fun a0=>(t_spec_l11Wrap a0).get
theorem u_spec_l11Wrap (a0:I64):(t_spec_l11Wrap a0).opt=some (F_spec_l11Wrap a0):=Tr.zz (by kernel_rfl)
def E_spec_l11Wrap:Ent Tryz.prog:= .of1 Tb71 B71 (fun _=>true) F_spec_l11Wrap fun a0 _=>(r_spec_l11Wrap a0).trans (u_spec_l11Wrap a0)
def B186:Bod Tryz.prog:=⟨186,Tryz.f186,Tryz.f186.body.getD .skip,Tryz.func186,by kernel_rfl,by kernel_rfl,zK.no _ _⟩
def Tb186:Tb Tryz.prog:= {T:= [Y2,Y30],mix:=mix,Es:= [],Bs:= [],d:=1}
def t_impl_Whole:Tr (Iv):=
 .leaf ⟨⟨(-1152921504606846976),rfl⟩,⟨1152921504606846976,rfl⟩⟩
theorem r_impl_Whole:Tb186.run B186 [] (Iv)=(t_impl_Whole).opt:=by kernel_rfl
def zq:Iv:=(t_impl_Whole).get
theorem u_impl_Whole:(t_impl_Whole).opt=some (zq):=Tr.zz (by kernel_rfl)
def zaa:Ent Tryz.prog:= .of0 Tb186 B186 zq (r_impl_Whole.trans u_impl_Whole)
def B351:Bod Tryz.prog:=⟨351,Tryz.f351,Tryz.f351.body.getD .skip,Tryz.func351,by kernel_rfl,by kernel_rfl,zK.no _ _⟩
def Tb351:Tb Tryz.prog:= {T:= [],mix:=mix,Es:= [],Bs:= [],d:=1}
def t_math_bits_Mul64 (a0:U64) (a1:U64):Tr (T2 U64 U64):=
 let c1:=(Rng.w .u64 (zbJ .and .u64 a0.val 4294967295));let c2:=(Rng.w .u64 (a0.val.fdiv 4294967296));let c3:=(Rng.w .u64 (zbJ .and .u64 a1.val 4294967295));let c4:=(Rng.w .u64 (a1.val.fdiv 4294967296));let c8:=(Rng.w .u64 ((Rng.w .u64 (c2.val*c3.val)).val+(Rng.w .u64 ((Rng.w .u64 (c1.val*c3.val)).val.fdiv 4294967296)).val));.leaf ⟨(Rng.w .u64 ((Rng.w .u64 ((Rng.w .u64 (c2.val*c4.val)).val+(Rng.w .u64 (c8.val.fdiv 4294967296)).val)).val+(Rng.w .u64 ((Rng.w .u64 ((Rng.w .u64 (zbJ .and .u64 c8.val 4294967295)).val+(Rng.w .u64 (c1.val*c4.val)).val)).val.fdiv 4294967296)).val)),(Rng.w .u64 (a0.val*a1.val))⟩
theorem r_math_bits_Mul64 (a0:U64) (a1:U64):Tb351.run B351 [enc a0,enc a1] (T2 U64 U64)=(t_math_bits_Mul64 a0 a1).opt:=by kernel_rfl
def zev:U64->U64->T2 U64 U64:=fun a0 a1=>(t_math_bits_Mul64 a0 a1).get
theorem u_math_bits_Mul64 (a0:U64) (a1:U64):(t_math_bits_Mul64 a0 a1).opt=some (zev a0 a1):=Tr.zz (by kernel_rfl)
def E_math_bits_Mul64:Ent Tryz.prog:= .of2 Tb351 B351 (fun _ _=>true) zev fun a0 a1 _=>(r_math_bits_Mul64 a0 a1).trans (u_math_bits_Mul64 a0 a1)
def Y153:TyE Tryz.prog:=⟨153,1,(.int .u64),[.u64 ⟨0,rfl⟩],false,by kernel_rfl,by kernel_rfl,by kernel_rfl,by kernel_rfl,by kernel_rfl,by kernel_rfl⟩
def Y171:TyE Tryz.prog:=⟨171,2,(.struct [(0,2,1),(1,153,1)]),[.i64 ⟨0,rfl⟩,.u64 ⟨0,rfl⟩],true,by kernel_rfl,by kernel_rfl,by kernel_rfl,by kernel_rfl,by kernel_rfl,by kernel_rfl⟩
def B292:Bod Tryz.prog:=⟨292,Tryz.f292,Tryz.f292.body.getD .skip,Tryz.func292,by kernel_rfl,by kernel_rfl,zK.no _ _⟩
def Tb292:Tb Tryz.prog:= {T:= [Y2,Y153,Y171],mix:=mix,Es:= [E_math_bits_Mul64],Bs:= [],d:=1}
def t_impl_WideMul (a0:I64) (a1:I64):Tr (Wide):=
 let c1:=zev (Rng.w .u64 (a0.val)) (Rng.w .u64 (a1.val));.br (decide (a0.val<0)) (let c2:=(Rng.w .u64 (c1.a.val-(Rng.w .u64 (a1.val)).val));.br (decide (a1.val<0)) (.leaf ⟨(Rng.w .i64 ((Rng.w .u64 (c2.val-(Rng.w .u64 (a0.val)).val)).val)),c1.b⟩) (.leaf ⟨(Rng.w .i64 (c2.val)),c1.b⟩)) (.br (decide (a1.val<0)) (.leaf ⟨(Rng.w .i64 ((Rng.w .u64 (c1.a.val-(Rng.w .u64 (a0.val)).val)).val)),c1.b⟩) (.leaf ⟨(Rng.w .i64 (c1.a.val)),c1.b⟩))
theorem r_impl_WideMul (a0:I64) (a1:I64):Tb292.run B292 [enc a0,enc a1] (Wide)=(t_impl_WideMul a0 a1).opt:=by kernel_rfl
def zce:I64->I64->Wide:=fun a0 a1=>(t_impl_WideMul a0 a1).get
theorem u_impl_WideMul (a0:I64) (a1:I64):(t_impl_WideMul a0 a1).opt=some (zce a0 a1):=Tr.zz (by kernel_rfl)
def E_impl_WideMul:Ent Tryz.prog:= .of2 Tb292 B292 (fun _ _=>true) zce fun a0 a1 _=>(r_impl_WideMul a0 a1).trans (u_impl_WideMul a0 a1)
def Y3:TyE Tryz.prog:=⟨3,1,(.int .i64),[.i64 ⟨0,rfl⟩],false,by kernel_rfl,by kernel_rfl,by kernel_rfl,by kernel_rfl,by kernel_rfl,by kernel_rfl⟩
def Y5:TyE Tryz.prog:=⟨5,1,(.int .u8),[.u8 ⟨0,rfl⟩],false,by kernel_rfl,by kernel_rfl,by kernel_rfl,by kernel_rfl,by kernel_rfl,by kernel_rfl⟩
def Y9:TyE Tryz.prog:=⟨9,1,.str,[.str ByteArray.empty],false,by kernel_rfl,by kernel_rfl,by kernel_rfl,by kernel_rfl,by kernel_rfl,by kernel_rfl⟩
def S_397 (i:Nat):ByteArray:=(codeStrs (Tryz.f397.body.getD .skip)).getD i ByteArray.empty
def B397:Bod Tryz.prog:=⟨397,Tryz.f397,Tryz.f397.body.getD .skip,Tryz.func397,by kernel_rfl,by kernel_rfl,zK.no _ _⟩
def Tb397:Tb Tryz.prog:= {T:= [Y3,Y5,Y9,Y153],mix:=mix,Es:= [],Bs:= [],d:=1}
def zfH (a0:U64):Tr (I64):=
 .br (decide (a0.val>=4294967296)) (let c2:=(Rng.w .u64 (a0.val.fdiv 4294967296));.br (decide (c2.val>=65536)) (let c4:=(Rng.w .u64 (c2.val.fdiv 65536));.br (decide (c4.val>=256)) (let c5:=(Rng.w .u64 (c4.val.fdiv 256));.br (Nat.blt ((Rng.w .u8 (c5.val)).val.toNat) (S_397 0).size) (.leaf (Rng.w .i64 (56+(Rng.w .i64 ((strAt (S_397 0) ((Rng.w .u8 (c5.val)).val.toNat)).val)).val))) (.bad)) (.br (Nat.blt ((Rng.w .u8 (c4.val)).val.toNat) (S_397 0).size) (.leaf (Rng.w .i64 (48+(Rng.w .i64 ((strAt (S_397 0) ((Rng.w .u8 (c4.val)).val.toNat)).val)).val))) (.bad))) (.br (decide (c2.val>=256)) (let c10:=(Rng.w .u64 (c2.val.fdiv 256));.br (Nat.blt ((Rng.w .u8 (c10.val)).val.toNat) (S_397 0).size) (.leaf (Rng.w .i64 (40+(Rng.w .i64 ((strAt (S_397 0) ((Rng.w .u8 (c10.val)).val.toNat)).val)).val))) (.bad)) (.br (Nat.blt ((Rng.w .u8 (c2.val)).val.toNat) (S_397 0).size) (.leaf (Rng.w .i64 (32+(Rng.w .i64 ((strAt (S_397 0) ((Rng.w .u8 (c2.val)).val.toNat)).val)).val))) (.bad)))) (.br (decide (a0.val>=65536)) (let c16:=(Rng.w .u64 (a0.val.fdiv 65536));.br (decide (c16.val>=256)) (let c17:=(Rng.w .u64 (c16.val.fdiv 256));.br (Nat.blt ((Rng.w .u8 (c17.val)).val.toNat) (S_397 0).size) (.leaf (Rng.w .i64 (24+(Rng.w .i64 ((strAt (S_397 0) ((Rng.w .u8 (c17.val)).val.toNat)).val)).val))) (.bad)) (.br (Nat.blt ((Rng.w .u8 (c16.val)).val.toNat) (S_397 0).size) (.leaf (Rng.w .i64 (16+(Rng.w .i64 ((strAt (S_397 0) ((Rng.w .u8 (c16.val)).val.toNat)).val)).val))) (.bad))) (.br (decide (a0.val>=256)) (let c22:=(Rng.w .u64 (a0.val.fdiv 256));.br (Nat.blt ((Rng.w .u8 (c22.val)).val.toNat) (S_397 0).size) (.leaf (Rng.w .i64 (8+(Rng.w .i64 ((strAt (S_397 0) ((Rng.w .u8 (c22.val)).val.toNat)).val)).val))) (.bad)) (.br (Nat.blt ((Rng.w .u8 (a0.val)).val.toNat) (S_397 0).size) (.leaf (Rng.w .i64 (0+(Rng.w .i64 ((strAt (S_397 0) ((Rng.w .u8 (a0.val)).val.toNat)).val)).val))) (.bad))))
theorem r_math_bits_Len64 (a0:U64):Tb397.run B397 [enc a0] (I64)=(zfH a0).opt:=by kernel_rfl
def F_math_bits_Len64:U64->I64:=fun a0=>(zfH a0).get
def G_math_bits_Len64:U64->Bool:=fun a0=>(zfH a0).opt.isSome
def E_math_bits_Len64:Ent Tryz.prog:= .of1 Tb397 B397 G_math_bits_Len64 F_math_bits_Len64 fun a0 h=>(r_math_bits_Len64 a0).trans (Tr.get_some h)
def B392:Bod Tryz.prog:=⟨392,Tryz.f392,Tryz.f392.body.getD .skip,Tryz.func392,by kernel_rfl,by kernel_rfl,zK.no _ _⟩
def Tb392:Tb Tryz.prog:= {T:= [],mix:=mix,Es:= [E_math_bits_Len64],Bs:= [],d:=1}
def zck (a0:U64):Tr (I64):=
 .br (G_math_bits_Len64 a0) (.leaf (Rng.w .i64 (64-(F_math_bits_Len64 a0).val))) (.bad)
theorem r_math_bits_LeadingZeros64 (a0:U64):Tb392.run B392 [enc a0] (I64)=(zck a0).opt:=by kernel_rfl
def zeK:U64->I64:=fun a0=>(zck a0).get
def zdr:U64->Bool:=fun a0=>(zck a0).opt.isSome
def E_math_bits_LeadingZeros64:Ent Tryz.prog:= .of1 Tb392 B392 zdr zeK fun a0 h=>(r_math_bits_LeadingZeros64 a0).trans (Tr.get_some h)
structure za3 where
 x0:U64
 x1:U64
 x2:U64
 x3:U64
 x4:U64
 x5:U64
 x6:U64
 x7:U64
 x8:U64
instance:Inhabited za3:=⟨⟨default,default,default,default,default,default,default,default,default⟩⟩
def st_math_bits_Div64_17 (x:za3):St:=⟨[(2,.u64 x.x0),(8,.u64 x.x1),(9,.u64 x.x2),(10,.u64 x.x3),(11,.u64 x.x4),(13,.u64 x.x5),(14,.u64 x.x6),(15,.u64 x.x7),(16,.u64 x.x8)],135,⟨[],0,0⟩⟩
def rd_math_bits_Div64_17:St->Option za3:=fun s=>match s with
 | ⟨[(2,.u64 x0),(8,.u64 x1),(9,.u64 x2),(10,.u64 x3),(11,.u64 x4),(13,.u64 x5),(14,.u64 x6),(15,.u64 x7),(16,.u64 x8)],135,⟨[],0,0⟩⟩=>some ⟨x0,x1,x2,x3,x4,x5,x6,x7,x8⟩
 | _=>none
def za1 (x:za3):Tr (Lp za3):=
 .br (decide (x.x7.val>=4294967296)) (let c19:=(Rng.w .u64 (x.x7.val-1));let c20:=(Rng.w .u64 (x.x8.val+x.x2.val));.br (decide (c20.val>=4294967296)) (.leaf (.out ⟨x.x0,x.x1,x.x2,x.x3,x.x4,x.x5,x.x6,c19,c20⟩)) (.leaf (.again ⟨x.x0,x.x1,x.x2,x.x3,x.x4,x.x5,x.x6,c19,c20⟩))) (.br (decide ((Rng.w .u64 (x.x7.val*x.x3.val)).val>(Rng.w .u64 ((Rng.w .u64 (4294967296*x.x8.val)).val+x.x5.val)).val)) (let c26:=(Rng.w .u64 (x.x7.val-1));let c27:=(Rng.w .u64 (x.x8.val+x.x2.val));.br (decide (c27.val>=4294967296)) (.leaf (.out ⟨x.x0,x.x1,x.x2,x.x3,x.x4,x.x5,x.x6,c26,c27⟩)) (.leaf (.again ⟨x.x0,x.x1,x.x2,x.x3,x.x4,x.x5,x.x6,c26,c27⟩))) (.leaf (.out ⟨x.x0,x.x1,x.x2,x.x3,x.x4,x.x5,x.x6,x.x7,x.x8⟩)))
def zfA (x:za3):Bool:=(Lf za1 4 x).opt.isSome
def L_math_bits_Div64_17 (x:za3):za3:=(Lf za1 4 x).get
def TbL_math_bits_Div64_17:Tb Tryz.prog:= {T:= [],mix:=mix,Es:= [],Bs:= [],d:=1}
def P_math_bits_Div64_17:LpF:=loopF [2,8,9,10,11,13,14,15,16] [] 0 rd_math_bits_Div64_17 st_math_bits_Div64_17 (.exit 0) zfA L_math_bits_Div64_17
theorem lok_math_bits_Div64_17:LoopOk Tryz.prog (loopAt (Tryz.f384.body.getD .skip) 0) P_math_bits_Div64_17:=zfw (t:=TbL_math_bits_Div64_17) (lt:=fun _=>none) (body:=za1) (n:=4) (by intro h;cases h) (fun _ _ _ h=>by cases h)
 (by intro s x h;unfold rd_math_bits_Div64_17 at h;split at h<;>cases h;rfl) (fun x b cs h=>lk_lt (l:=(st_math_bits_Div64_17 x).mm.blks) (by kernel_rfl) h) (by intro x;kernel_rfl) (fun x h=>Tr.get_some h)
structure za2 where
 x0:U64
 x1:U64
 x2:U64
 x3:U64
 x4:U64
 x5:U64
 x6:U64
 x7:U64
 x8:U64
instance:Inhabited za2:=⟨⟨default,default,default,default,default,default,default,default,default⟩⟩
def st_math_bits_Div64_24 (x:za2):St:=⟨[(2,.u64 x.x0),(8,.u64 x.x1),(9,.u64 x.x2),(10,.u64 x.x3),(14,.u64 x.x4),(15,.u64 x.x5),(16,.u64 x.x6),(17,.u64 x.x7),(18,.u64 x.x8)],135,⟨[],0,0⟩⟩
def rd_math_bits_Div64_24:St->Option za2:=fun s=>match s with
 | ⟨[(2,.u64 x0),(8,.u64 x1),(9,.u64 x2),(10,.u64 x3),(14,.u64 x4),(15,.u64 x5),(16,.u64 x6),(17,.u64 x7),(18,.u64 x8)],135,⟨[],0,0⟩⟩=>some ⟨x0,x1,x2,x3,x4,x5,x6,x7,x8⟩
 | _=>none
def za0 (x:za2):Tr (Lp za2):=
 .br (decide (x.x8.val>=4294967296)) (let c38:=(Rng.w .u64 (x.x8.val-1));let c39:=(Rng.w .u64 (x.x6.val+x.x2.val));.br (decide (c39.val>=4294967296)) (.leaf (.out ⟨x.x0,x.x1,x.x2,x.x3,x.x4,x.x5,c39,x.x7,c38⟩)) (.leaf (.again ⟨x.x0,x.x1,x.x2,x.x3,x.x4,x.x5,c39,x.x7,c38⟩))) (.br (decide ((Rng.w .u64 (x.x8.val*x.x3.val)).val>(Rng.w .u64 ((Rng.w .u64 (4294967296*x.x6.val)).val+x.x4.val)).val)) (let c45:=(Rng.w .u64 (x.x8.val-1));let c46:=(Rng.w .u64 (x.x6.val+x.x2.val));.br (decide (c46.val>=4294967296)) (.leaf (.out ⟨x.x0,x.x1,x.x2,x.x3,x.x4,x.x5,c46,x.x7,c45⟩)) (.leaf (.again ⟨x.x0,x.x1,x.x2,x.x3,x.x4,x.x5,c46,x.x7,c45⟩))) (.leaf (.out ⟨x.x0,x.x1,x.x2,x.x3,x.x4,x.x5,x.x6,x.x7,x.x8⟩)))
def zfz (x:za2):Bool:=(Lf za0 4 x).opt.isSome
def L_math_bits_Div64_24 (x:za2):za2:=(Lf za0 4 x).get
def TbL_math_bits_Div64_24:Tb Tryz.prog:= {T:= [],mix:=mix,Es:= [],Bs:= [],d:=1}
def P_math_bits_Div64_24:LpF:=loopF [2,8,9,10,14,15,16,17,18] [] 0 rd_math_bits_Div64_24 st_math_bits_Div64_24 (.exit 2) zfz L_math_bits_Div64_24
theorem lok_math_bits_Div64_24:LoopOk Tryz.prog (loopAt (Tryz.f384.body.getD .skip) 1) P_math_bits_Div64_24:=zfw (t:=TbL_math_bits_Div64_24) (lt:=fun _=>none) (body:=za0) (n:=4) (by intro h;cases h) (fun _ _ _ h=>by cases h)
 (by intro s x h;unfold rd_math_bits_Div64_24 at h;split at h<;>cases h;rfl) (fun x b cs h=>lk_lt (l:=(st_math_bits_Div64_24 x).mm.blks) (by kernel_rfl) h) (by intro x;kernel_rfl) (fun x h=>Tr.get_some h)
def Y162:TyE Tryz.prog:=⟨162,1,(.int .u64),[.u64 ⟨0,rfl⟩],false,by kernel_rfl,by kernel_rfl,by kernel_rfl,by kernel_rfl,by kernel_rfl,by kernel_rfl⟩
def B384:Bod Tryz.prog:=⟨384,Tryz.f384,Tryz.f384.body.getD .skip,Tryz.func384,by kernel_rfl,by kernel_rfl,⟨ltOf [(17,P_math_bits_Div64_17),(24,P_math_bits_Div64_24)],zK.of (ks:= [17,24]) (by kernel_rfl) (by
 intro i k h f hf
 match i,h with
 | 0,h=>cases h;obtain rfl:P_math_bits_Div64_17=f:=Option.some.inj hf;exact lok_math_bits_Div64_17
 | 1,h=>cases h;obtain rfl:P_math_bits_Div64_24=f:=Option.some.inj hf;exact lok_math_bits_Div64_24
 | n+2,h=>simp at h)⟩⟩
def Tb384:Tb Tryz.prog:= {T:= [Y3,Y162],mix:=mix,Es:= [E_math_bits_LeadingZeros64],Bs:= [],d:=1}
def zep (a0:U64) (a1:U64) (a2:U64):Tr (T2 U64 U64):=
 .br (a2.val==0) (.bad) (.br (decide (a2.val<=a0.val)) (.bad) (.br (a0.val==0) (.br (a2.val==0) (.bad) (.br (a2.val==0) (.bad) (.leaf ⟨(Rng.w .u64 (a1.val.tdiv a2.val)),(Rng.w .u64 (a1.val.tmod a2.val))⟩))) (.br (zdr a2) (let c4:=zeK a2;let c5:=(Rng.w .u64 (a2.val*(2^min ((Rng.w .u64 (c4.val)).val).toNat 64)));let c6:=(Rng.w .u64 (c5.val.fdiv 4294967296));let c7:=(Rng.w .u64 (zbJ .and .u64 c5.val 4294967295));let c11:=(Rng.w .u64 (zbJ .or .u64 (Rng.w .u64 (a0.val*(2^min ((Rng.w .u64 (c4.val)).val).toNat 64))).val (Rng.w .u64 (a1.val.fdiv (2^min ((Rng.w .u64 (64-(Rng.w .u64 (c4.val)).val)).val).toNat 64))).val));let c12:=(Rng.w .u64 (a1.val*(2^min ((Rng.w .u64 (c4.val)).val).toNat 64)));let c13:=(Rng.w .u64 (c12.val.fdiv 4294967296));let c14:=(Rng.w .u64 (zbJ .and .u64 c12.val 4294967295));.br (c6.val==0) (.bad) (let c15:=(Rng.w .u64 (c11.val.tdiv c6.val));let c17:=(Rng.w .u64 (c11.val-(Rng.w .u64 (c15.val*c6.val)).val));.br (zfA ⟨c5,(Rng.w .u64 (c4.val)),c6,c7,c11,c13,c14,c15,c17⟩) (let c29:=L_math_bits_Div64_17 ⟨c5,(Rng.w .u64 (c4.val)),c6,c7,c11,c13,c14,c15,c17⟩;let c33:=(Rng.w .u64 ((Rng.w .u64 ((Rng.w .u64 (c29.x4.val*4294967296)).val+c29.x5.val)).val-(Rng.w .u64 (c29.x7.val*c29.x0.val)).val));.br (c29.x2.val==0) (.bad) (let c34:=(Rng.w .u64 (c33.val.tdiv c29.x2.val));let c36:=(Rng.w .u64 (c33.val-(Rng.w .u64 (c34.val*c29.x2.val)).val));.br (zfz ⟨c29.x0,c29.x1,c29.x2,c29.x3,c29.x6,c29.x7,c36,c33,c34⟩) (let c48:=L_math_bits_Div64_24 ⟨c29.x0,c29.x1,c29.x2,c29.x3,c29.x6,c29.x7,c36,c33,c34⟩;.leaf ⟨(Rng.w .u64 ((Rng.w .u64 (c48.x5.val*4294967296)).val+c48.x8.val)),(Rng.w .u64 ((Rng.w .u64 ((Rng.w .u64 ((Rng.w .u64 (c48.x7.val*4294967296)).val+c48.x4.val)).val-(Rng.w .u64 (c48.x8.val*c48.x0.val)).val)).val.fdiv (2^min (c48.x1.val).toNat 64)))⟩) (.bad))) (.bad))) (.bad))))
theorem r_math_bits_Div64 (a0:U64) (a1:U64) (a2:U64):Tb384.run B384 [enc a0,enc a1,enc a2] (T2 U64 U64)=(zep a0 a1 a2).opt:=by kernel_rfl
def F_math_bits_Div64:U64->U64->U64->T2 U64 U64:=fun a0 a1 a2=>(zep a0 a1 a2).get
def G_math_bits_Div64:U64->U64->U64->Bool:=fun a0 a1 a2=>(zep a0 a1 a2).opt.isSome
def E_math_bits_Div64:Ent Tryz.prog:= .of3 Tb384 B384 G_math_bits_Div64 F_math_bits_Div64 fun a0 a1 a2 h=>(r_math_bits_Div64 a0 a1 a2).trans (Tr.get_some h)
def B363:Bod Tryz.prog:=⟨363,Tryz.f363,Tryz.f363.body.getD .skip,Tryz.func363,by kernel_rfl,by kernel_rfl,zK.no _ _⟩
def Tb363:Tb Tryz.prog:= {T:= [],mix:=mix,Es:= [E_math_bits_Div64],Bs:= [],d:=1}
def t_impl_divided (a0:U64) (a1:U64) (a2:U64):Tr (T3 U64 U64 U64):=
 .br (a2.val==0) (.bad) (.br (a2.val==0) (.bad) (let c2:=(Rng.w .u64 (a0.val.tmod a2.val));.br (G_math_bits_Div64 c2 a1 a2) (let c3:=F_math_bits_Div64 c2 a1 a2;.leaf ⟨(Rng.w .u64 (a0.val.tdiv a2.val)),c3.a,c3.b⟩) (.bad)))
theorem r_impl_divided (a0:U64) (a1:U64) (a2:U64):Tb363.run B363 [enc a0,enc a1,enc a2] (T3 U64 U64 U64)=(t_impl_divided a0 a1 a2).opt:=by kernel_rfl
def F_impl_divided:U64->U64->U64->T3 U64 U64 U64:=fun a0 a1 a2=>(t_impl_divided a0 a1 a2).get
def G_impl_divided:U64->U64->U64->Bool:=fun a0 a1 a2=>(t_impl_divided a0 a1 a2).opt.isSome
def E_impl_divided:Ent Tryz.prog:= .of3 Tb363 B363 G_impl_divided F_impl_divided fun a0 a1 a2 h=>(r_impl_divided a0 a1 a2).trans (Tr.get_some h)
def B364:Bod Tryz.prog:=⟨364,Tryz.f364,Tryz.f364.body.getD .skip,Tryz.func364,by kernel_rfl,by kernel_rfl,zK.no _ _⟩
def Tb364:Tb Tryz.prog:= {T:= [Y2,Y153,Y171],mix:=mix,Es:= [E_math_bits_Sub64],Bs:= [],d:=1}
def zd1 (a0:Wide):Tr (Wide):=
 let c1:=zfR ⟨0,rfl⟩ a0.lo ⟨0,rfl⟩;.br (G_carry ⟨0,rfl⟩ (Rng.w .u64 (a0.hi.val)) c1.b) (.leaf ⟨(Rng.w .i64 ((zfR ⟨0,rfl⟩ (Rng.w .u64 (a0.hi.val)) c1.b).a.val)),c1.a⟩) (.bad)
theorem r_impl_Wide_negative (a0:Wide):Tb364.run B364 [enc a0] (Wide)=(zd1 a0).opt:=by kernel_rfl
def zd2:Wide->Wide:=fun a0=>(zd1 a0).get
def zdi:Wide->Bool:=fun a0=>(zd1 a0).opt.isSome
def E_impl_Wide_negative:Ent Tryz.prog:= .of1 Tb364 B364 zdi zd2 fun a0 h=>(r_impl_Wide_negative a0).trans (Tr.get_some h)
def B322:Bod Tryz.prog:=⟨322,Tryz.f322,Tryz.f322.body.getD .skip,Tryz.func322,by kernel_rfl,by kernel_rfl,zK.no _ _⟩
def Tb322:Tb Tryz.prog:= {T:= [Y2,Y153,Y171],mix:=mix,Es:= [E_math_bits_Add64,E_impl_divided,E_impl_Wide_negative],Bs:= [],d:=1}
def zfh (a0:Wide) (a1:I64):Tr (T3 Wide I64 Bool):=
 .br (decide (a1.val<=0)) (.leaf ⟨⟨⟨0,rfl⟩,⟨0,rfl⟩⟩,⟨0,rfl⟩,false⟩) (.br (decide (a0.hi.val>=0)) (.br (G_impl_divided (Rng.w .u64 (a0.hi.val)) a0.lo (Rng.w .u64 (a1.val))) (let c1:=F_impl_divided (Rng.w .u64 (a0.hi.val)) a0.lo (Rng.w .u64 (a1.val));.leaf ⟨⟨(Rng.w .i64 (c1.a.val)),c1.b⟩,(Rng.w .i64 (c1.c.val)),true⟩) (.bad)) (.br (zdi a0) (let c2:=zd2 a0;.br (G_impl_divided (Rng.w .u64 (c2.hi.val)) c2.lo (Rng.w .u64 (a1.val))) (let c3:=F_impl_divided (Rng.w .u64 (c2.hi.val)) c2.lo (Rng.w .u64 (a1.val));.br (c3.c.val==0) (.br (zdi ⟨(Rng.w .i64 (c3.a.val)),c3.b⟩) (.leaf ⟨(zd2 ⟨(Rng.w .i64 (c3.a.val)),c3.b⟩),⟨0,rfl⟩,true⟩) (.bad)) (let c5:=zew c3.b ⟨1,rfl⟩ ⟨0,rfl⟩;let c6:=(Rng.w .u64 (c3.a.val+c5.b.val));.br (zdi ⟨(Rng.w .i64 (c6.val)),c5.a⟩) (.leaf ⟨(zd2 ⟨(Rng.w .i64 (c6.val)),c5.a⟩),(Rng.w .i64 (a1.val-(Rng.w .i64 (c3.c.val)).val)),true⟩) (.bad))) (.bad)) (.bad)))
theorem r_impl_WideDiv (a0:Wide) (a1:I64):Tb322.run B322 [enc a0,enc a1] (T3 Wide I64 Bool)=(zfh a0 a1).opt:=by kernel_rfl
def F_impl_WideDiv:Wide->I64->T3 Wide I64 Bool:=fun a0 a1=>(zfh a0 a1).get
def zdD:Wide->I64->Bool:=fun a0 a1=>(zfh a0 a1).opt.isSome
def E_impl_WideDiv:Ent Tryz.prog:= .of2 Tb322 B322 zdD F_impl_WideDiv fun a0 a1 h=>(r_impl_WideDiv a0 a1).trans (Tr.get_some h)
def B365:Bod Tryz.prog:=⟨365,Tryz.f365,Tryz.f365.body.getD .skip,Tryz.func365,by kernel_rfl,by kernel_rfl,zK.no _ _⟩
def Tb365:Tb Tryz.prog:= {T:= [Y2,Y153,Y171],mix:=mix,Es:= [],Bs:= [],d:=1}
def t_impl_WideOf (a0:I64):Tr (Wide):=
 .leaf ⟨(Rng.w .i64 (a0.val.fdiv 9223372036854775808)),(Rng.w .u64 (a0.val))⟩
theorem r_impl_WideOf (a0:I64):Tb365.run B365 [enc a0] (Wide)=(t_impl_WideOf a0).opt:=by kernel_rfl
def F_impl_WideOf:I64->Wide:=fun a0=>(t_impl_WideOf a0).get
theorem u_impl_WideOf (a0:I64):(t_impl_WideOf a0).opt=some (F_impl_WideOf a0):=Tr.zz (by kernel_rfl)
def E_impl_WideOf:Ent Tryz.prog:= .of1 Tb365 B365 (fun _=>true) F_impl_WideOf fun a0 _=>(r_impl_WideOf a0).trans (u_impl_WideOf a0)
def B323:Bod Tryz.prog:=⟨323,Tryz.f323,Tryz.f323.body.getD .skip,Tryz.func323,by kernel_rfl,by kernel_rfl,zK.no _ _⟩
def Tb323:Tb Tryz.prog:= {T:= [Y2,Y153,Y171],mix:=mix,Es:= [E_impl_WideOf],Bs:= [],d:=1}
def t_impl_WideInt (a0:Wide):Tr (T2 I64 Bool):=
 let c1:=F_impl_WideOf (Rng.w .i64 (a0.lo.val));.br (!((c1.hi.val==a0.hi.val)&&((c1.lo.val==a0.lo.val)&&true))) (.leaf ⟨⟨0,rfl⟩,false⟩) (.leaf ⟨(Rng.w .i64 (a0.lo.val)),true⟩)
theorem r_impl_WideInt (a0:Wide):Tb323.run B323 [enc a0] (T2 I64 Bool)=(t_impl_WideInt a0).opt:=by kernel_rfl
def F_impl_WideInt:Wide->T2 I64 Bool:=fun a0=>(t_impl_WideInt a0).get
theorem u_impl_WideInt (a0:Wide):(t_impl_WideInt a0).opt=some (F_impl_WideInt a0):=Tr.zz (by kernel_rfl)
def E_impl_WideInt:Ent Tryz.prog:= .of1 Tb323 B323 (fun _=>true) F_impl_WideInt fun a0 _=>(r_impl_WideInt a0).trans (u_impl_WideInt a0)
def B252:Bod Tryz.prog:=⟨252,Tryz.f252,Tryz.f252.body.getD .skip,Tryz.func252,by kernel_rfl,by kernel_rfl,zK.no _ _⟩
def Tb252:Tb Tryz.prog:= {T:= [Y2,Y153,Y171],mix:=mix,Es:= [E_impl_WideMul,E_impl_WideDiv,E_impl_WideInt],Bs:= [],d:=1}
def zc3 (a0:I64) (a1:I64) (a2:I64):Tr (T2 I64 Bool):=
 let c1:=zce a0 a1;.br (zdD c1 a2) (let c2:=F_impl_WideDiv c1 a2;.br (!c2.c) (.leaf ⟨⟨0,rfl⟩,false⟩) (let c3:=F_impl_WideInt c2.a;.leaf ⟨c3.a,c3.b⟩)) (.bad)
theorem r_impl_MulDivFloor (a0:I64) (a1:I64) (a2:I64):Tb252.run B252 [enc a0,enc a1,enc a2] (T2 I64 Bool)=(zc3 a0 a1 a2).opt:=by kernel_rfl
def zbt:I64->I64->I64->T2 I64 Bool:=fun a0 a1 a2=>(zc3 a0 a1 a2).get
def zcp:I64->I64->I64->Bool:=fun a0 a1 a2=>(zc3 a0 a1 a2).opt.isSome
def E_impl_MulDivFloor:Ent Tryz.prog:= .of3 Tb252 B252 zcp zbt fun a0 a1 a2 h=>(r_impl_MulDivFloor a0 a1 a2).trans (Tr.get_some h)
def B304:Bod Tryz.prog:=⟨304,Tryz.f304,Tryz.f304.body.getD .skip,Tryz.func304,by kernel_rfl,by kernel_rfl,zK.no _ _⟩
def Tb304:Tb Tryz.prog:= {T:= [],mix:=mix,Es:= [za8],Bs:= [],d:=1}
def t_impl_ValidFix (a0:I64):Tr (Bool):=
 .leaf (zan a0 ⟨(-1152921504606846976),rfl⟩ ⟨1152921504606846976,rfl⟩)
theorem r_impl_ValidFix (a0:I64):Tb304.run B304 [enc a0] (Bool)=(t_impl_ValidFix a0).opt:=by kernel_rfl
def zaQ:I64->Bool:=fun a0=>(t_impl_ValidFix a0).get
theorem u_impl_ValidFix (a0:I64):(t_impl_ValidFix a0).opt=some (zaQ a0):=Tr.zz (by kernel_rfl)
def zdR:Ent Tryz.prog:= .of1 Tb304 B304 (fun _=>true) zaQ fun a0 _=>(r_impl_ValidFix a0).trans (u_impl_ValidFix a0)
def B305:Bod Tryz.prog:=⟨305,Tryz.f305,Tryz.f305.body.getD .skip,Tryz.func305,by kernel_rfl,by kernel_rfl,zK.no _ _⟩
def Tb305:Tb Tryz.prog:= {T:= [],mix:=mix,Es:= [zdR],Bs:= [],d:=1}
def t_impl_fixed (a0:I64) (a1:Bool):Tr (T2 I64 Bool):=
 .br (!a1) (.leaf ⟨⟨0,rfl⟩,false⟩) (.br (!(zaQ a0)) (.leaf ⟨⟨0,rfl⟩,false⟩) (.leaf ⟨a0,true⟩))
theorem r_impl_fixed (a0:I64) (a1:Bool):Tb305.run B305 [enc a0,enc a1] (T2 I64 Bool)=(t_impl_fixed a0 a1).opt:=by kernel_rfl
def zcS:I64->Bool->T2 I64 Bool:=fun a0 a1=>(t_impl_fixed a0 a1).get
theorem u_impl_fixed (a0:I64) (a1:Bool):(t_impl_fixed a0 a1).opt=some (zcS a0 a1):=Tr.zz (by kernel_rfl)
def E_impl_fixed:Ent Tryz.prog:= .of2 Tb305 B305 (fun _ _=>true) zcS fun a0 a1 _=>(r_impl_fixed a0 a1).trans (u_impl_fixed a0 a1)
def B253:Bod Tryz.prog:=⟨253,Tryz.f253,Tryz.f253.body.getD .skip,Tryz.func253,by kernel_rfl,by kernel_rfl,zK.no _ _⟩
def Tb253:Tb Tryz.prog:= {T:= [],mix:=mix,Es:= [E_impl_MulDivFloor,E_impl_fixed],Bs:= [],d:=1}
def t_impl_FixFloor (a0:I64) (a1:I64):Tr (T2 I64 Bool):=
 .br (zcp a0 ⟨4294967296,rfl⟩ a1) (let c1:=zbt a0 ⟨4294967296,rfl⟩ a1;let c2:=zcS c1.a c1.b;.leaf ⟨c2.a,c2.b⟩) (.bad)
theorem r_impl_FixFloor (a0:I64) (a1:I64):Tb253.run B253 [enc a0,enc a1] (T2 I64 Bool)=(t_impl_FixFloor a0 a1).opt:=by kernel_rfl
def F_impl_FixFloor:I64->I64->T2 I64 Bool:=fun a0 a1=>(t_impl_FixFloor a0 a1).get
def G_impl_FixFloor:I64->I64->Bool:=fun a0 a1=>(t_impl_FixFloor a0 a1).opt.isSome
def E_impl_FixFloor:Ent Tryz.prog:= .of2 Tb253 B253 G_impl_FixFloor F_impl_FixFloor fun a0 a1 h=>(r_impl_FixFloor a0 a1).trans (Tr.get_some h)
def B324:Bod Tryz.prog:=⟨324,Tryz.f324,Tryz.f324.body.getD .skip,Tryz.func324,by kernel_rfl,by kernel_rfl,zK.no _ _⟩
def Tb324:Tb Tryz.prog:= {T:= [Y2,Y153,Y171],mix:=mix,Es:= [E_impl_WideMul,E_impl_WideDiv,E_impl_WideInt],Bs:= [],d:=1}
def zdt (a0:I64) (a1:I64) (a2:I64):Tr (T2 I64 Bool):=
 let c1:=zce a0 a1;.br (zdD c1 a2) (let c2:=F_impl_WideDiv c1 a2;.br (!c2.c) (.leaf ⟨⟨0,rfl⟩,false⟩) (let c3:=F_impl_WideInt c2.a;.br (!c3.b) (.leaf ⟨⟨0,rfl⟩,false⟩) (.br (decide (c2.b.val>0)) (.br (c3.a.val==9223372036854775807) (.leaf ⟨⟨0,rfl⟩,false⟩) (.br (decide (c2.b.val>0)) (.leaf ⟨(Rng.w .i64 (c3.a.val+1)),true⟩) (.leaf ⟨c3.a,true⟩))) (.br (decide (c2.b.val>0)) (.leaf ⟨(Rng.w .i64 (c3.a.val+1)),true⟩) (.leaf ⟨c3.a,true⟩))))) (.bad)
theorem r_impl_mulDivCeil (a0:I64) (a1:I64) (a2:I64):Tb324.run B324 [enc a0,enc a1,enc a2] (T2 I64 Bool)=(zdt a0 a1 a2).opt:=by kernel_rfl
def F_impl_mulDivCeil:I64->I64->I64->T2 I64 Bool:=fun a0 a1 a2=>(zdt a0 a1 a2).get
def zer:I64->I64->I64->Bool:=fun a0 a1 a2=>(zdt a0 a1 a2).opt.isSome
def E_impl_mulDivCeil:Ent Tryz.prog:= .of3 Tb324 B324 zer F_impl_mulDivCeil fun a0 a1 a2 h=>(r_impl_mulDivCeil a0 a1 a2).trans (Tr.get_some h)
def B254:Bod Tryz.prog:=⟨254,Tryz.f254,Tryz.f254.body.getD .skip,Tryz.func254,by kernel_rfl,by kernel_rfl,zK.no _ _⟩
def Tb254:Tb Tryz.prog:= {T:= [],mix:=mix,Es:= [E_impl_fixed,E_impl_mulDivCeil],Bs:= [],d:=1}
def t_impl_FixCeil (a0:I64) (a1:I64):Tr (T2 I64 Bool):=
 .br (zer a0 ⟨4294967296,rfl⟩ a1) (let c1:=F_impl_mulDivCeil a0 ⟨4294967296,rfl⟩ a1;let c2:=zcS c1.a c1.b;.leaf ⟨c2.a,c2.b⟩) (.bad)
theorem r_impl_FixCeil (a0:I64) (a1:I64):Tb254.run B254 [enc a0,enc a1] (T2 I64 Bool)=(t_impl_FixCeil a0 a1).opt:=by kernel_rfl
def F_impl_FixCeil:I64->I64->T2 I64 Bool:=fun a0 a1=>(t_impl_FixCeil a0 a1).get
def G_impl_FixCeil:I64->I64->Bool:=fun a0 a1=>(t_impl_FixCeil a0 a1).opt.isSome
def E_impl_FixCeil:Ent Tryz.prog:= .of2 Tb254 B254 G_impl_FixCeil F_impl_FixCeil fun a0 a1 h=>(r_impl_FixCeil a0 a1).trans (Tr.get_some h)
def B219:Bod Tryz.prog:=⟨219,Tryz.f219,Tryz.f219.body.getD .skip,Tryz.func219,by kernel_rfl,by kernel_rfl,zK.no _ _⟩
def Tb219:Tb Tryz.prog:= {T:= [Y2,Y30],mix:=mix,Es:= [],Bs:= [],d:=1}
def t_impl_ValidInterval (a0:Iv):Tr (Bool):=
 .br (decide ((-1152921504606846976)<a0.lo.val)) (.br (decide (a0.lo.val<=a0.hi.val)) (.leaf (decide (a0.hi.val<1152921504606846976))) (.leaf false)) (.leaf false)
theorem r_impl_ValidInterval (a0:Iv):Tb219.run B219 [enc a0] (Bool)=(t_impl_ValidInterval a0).opt:=by kernel_rfl
def zby:Iv->Bool:=fun a0=>(t_impl_ValidInterval a0).get
theorem u_impl_ValidInterval (a0:Iv):(t_impl_ValidInterval a0).opt=some (zby a0):=Tr.zz (by kernel_rfl)
def zd4:Ent Tryz.prog:= .of1 Tb219 B219 (fun _=>true) zby fun a0 _=>(r_impl_ValidInterval a0).trans (u_impl_ValidInterval a0)
def B187:Bod Tryz.prog:=⟨187,Tryz.f187,Tryz.f187.body.getD .skip,Tryz.func187,by kernel_rfl,by kernel_rfl,zK.no _ _⟩
def Tb187:Tb Tryz.prog:= {T:= [Y2,Y30],mix:=mix,Es:= [zaa,zd4],Bs:= [],d:=1}
def t_impl_bounded (a0:I64) (a1:I64) (a2:Bool):Tr (Iv):=
 .br a2 (.br (zby ⟨a0,a1⟩) (.leaf ⟨a0,a1⟩) (.leaf zq)) (.leaf zq)
theorem r_impl_bounded (a0:I64) (a1:I64) (a2:Bool):Tb187.run B187 [enc a0,enc a1,enc a2] (Iv)=(t_impl_bounded a0 a1 a2).opt:=by kernel_rfl
def zaE:I64->I64->Bool->Iv:=fun a0 a1 a2=>(t_impl_bounded a0 a1 a2).get
theorem u_impl_bounded (a0:I64) (a1:I64) (a2:Bool):(t_impl_bounded a0 a1 a2).opt=some (zaE a0 a1 a2):=Tr.zz (by kernel_rfl)
def zbm:Ent Tryz.prog:= .of3 Tb187 B187 (fun _ _ _=>true) zaE fun a0 a1 a2 _=>(r_impl_bounded a0 a1 a2).trans (u_impl_bounded a0 a1 a2)
def B158:Bod Tryz.prog:=⟨158,Tryz.f158,Tryz.f158.body.getD .skip,Tryz.func158,by kernel_rfl,by kernel_rfl,zK.no _ _⟩
def Tb158:Tb Tryz.prog:= {T:= [Y2,Y30],mix:=mix,Es:= [zaa,zbm,E_impl_FixFloor,E_impl_FixCeil],Bs:= [],d:=1}
def t_impl_Quotient (a0:I64) (a1:I64):Tr (Iv):=
 .br (decide (a1.val<0)) (let c1:=(Rng.w .i64 (0-a0.val));let c2:=(Rng.w .i64 (0-a1.val));.br (decide (c2.val<0)) (.leaf zq) (.br (c1.val==(-9223372036854775808)) (.leaf zq) (.br (G_impl_FixFloor c1 c2) (let c6:=F_impl_FixFloor c1 c2;.br (G_impl_FixCeil c1 c2) (let c7:=F_impl_FixCeil c1 c2;.br c6.b (.leaf (zaE c6.a c7.a c7.b)) (.leaf (zaE c6.a c7.a false))) (.bad)) (.bad)))) (.br (G_impl_FixFloor a0 a1) (let c10:=F_impl_FixFloor a0 a1;.br (G_impl_FixCeil a0 a1) (let c11:=F_impl_FixCeil a0 a1;.br c10.b (.leaf (zaE c10.a c11.a c11.b)) (.leaf (zaE c10.a c11.a false))) (.bad)) (.bad))
theorem r_impl_Quotient (a0:I64) (a1:I64):Tb158.run B158 [enc a0,enc a1] (Iv)=(t_impl_Quotient a0 a1).opt:=by kernel_rfl
def zU:I64->I64->Iv:=fun a0 a1=>(t_impl_Quotient a0 a1).get
def B84:Bod Tryz.prog:=⟨84,Tryz.f84,Tryz.f84.body.getD .skip,Tryz.func84,by kernel_rfl,by kernel_rfl,zK.no _ _⟩
def Tb84:Tb Tryz.prog:= {T:= [Y2,Y30],mix:=mix,Es:= [],Bs:= [],d:=1}
def t_spec_l04Whole:Tr (Iv):=
 .leaf ⟨⟨(-1152921504606846976),rfl⟩,⟨1152921504606846976,rfl⟩⟩
theorem r_spec_l04Whole:Tb84.run B84 [] (Iv)=(t_spec_l04Whole).opt:=by kernel_rfl
def ze:Iv:=(t_spec_l04Whole).get
theorem u_spec_l04Whole:(t_spec_l04Whole).opt=some (ze):=Tr.zz (by kernel_rfl)
def zS:Ent Tryz.prog:= .of0 Tb84 B84 ze (r_spec_l04Whole.trans u_spec_l04Whole)
def B132:Bod Tryz.prog:=⟨132,Tryz.f132,Tryz.f132.body.getD .skip,Tryz.func132,by kernel_rfl,by kernel_rfl,zK.no _ _⟩
def Tb132:Tb Tryz.prog:= {T:= [Y2,Y30],mix:=mix,Es:= [zS],Bs:= [],d:=1}
def t_spec_Whole:Tr (Iv):=
 .leaf ze
theorem r_spec_Whole:Tb132.run B132 [] (Iv)=(t_spec_Whole).opt:=by kernel_rfl
def zaK:Iv:=(t_spec_Whole).get
theorem u_spec_Whole:(t_spec_Whole).opt=some (zaK):=Tr.zz (by kernel_rfl)
def zcs:Ent Tryz.prog:= .of0 Tb132 B132 zaK (r_spec_Whole.trans u_spec_Whole)
def B314:Bod Tryz.prog:=⟨314,Tryz.f314,Tryz.f314.body.getD .skip,Tryz.func314,by kernel_rfl,by kernel_rfl,zK.no _ _⟩
def Tb314:Tb Tryz.prog:= {T:= [Y2,Y153],mix:=mix,Es:= [],Bs:= [],d:=1}
def t_spec_l02Size (a0:I64):Tr (U64):=
 .br (decide (a0.val<0)) (.leaf (Rng.w .u64 (0-(Rng.w .u64 (a0.val)).val))) (.leaf (Rng.w .u64 (a0.val)))
theorem r_spec_l02Size (a0:I64):Tb314.run B314 [enc a0] (U64)=(t_spec_l02Size a0).opt:=by kernel_rfl
def zbD:I64->U64:=fun a0=>(t_spec_l02Size a0).get
theorem u_spec_l02Size (a0:I64):(t_spec_l02Size a0).opt=some (zbD a0):=Tr.zz (by kernel_rfl)
def E_spec_l02Size:Ent Tryz.prog:= .of1 Tb314 B314 (fun _=>true) zbD fun a0 _=>(r_spec_l02Size a0).trans (u_spec_l02Size a0)
def B312:Bod Tryz.prog:=⟨312,Tryz.f312,Tryz.f312.body.getD .skip,Tryz.func312,by kernel_rfl,by kernel_rfl,zK.no _ _⟩
def Tb312:Tb Tryz.prog:= {T:= [],mix:=mix,Es:= [],Bs:= [],d:=1}
def t_spec_l02Times (a0:U64) (a1:U64):Tr (T2 U64 U64):=
 let c8:=(Rng.w .u64 ((Rng.w .u64 ((Rng.w .u64 (a0.val.fdiv 4294967296)).val*(Rng.w .u64 (zbJ .and .u64 a1.val 4294967295)).val)).val+(Rng.w .u64 ((Rng.w .u64 ((Rng.w .u64 (zbJ .and .u64 a0.val 4294967295)).val*(Rng.w .u64 (zbJ .and .u64 a1.val 4294967295)).val)).val.fdiv 4294967296)).val));.leaf ⟨(Rng.w .u64 ((Rng.w .u64 ((Rng.w .u64 ((Rng.w .u64 (a0.val.fdiv 4294967296)).val*(Rng.w .u64 (a1.val.fdiv 4294967296)).val)).val+(Rng.w .u64 (c8.val.fdiv 4294967296)).val)).val+(Rng.w .u64 ((Rng.w .u64 ((Rng.w .u64 ((Rng.w .u64 (zbJ .and .u64 a0.val 4294967295)).val*(Rng.w .u64 (a1.val.fdiv 4294967296)).val)).val+(Rng.w .u64 (zbJ .and .u64 c8.val 4294967295)).val)).val.fdiv 4294967296)).val)),(Rng.w .u64 (a0.val*a1.val))⟩
theorem r_spec_l02Times (a0:U64) (a1:U64):Tb312.run B312 [enc a0,enc a1] (T2 U64 U64)=(t_spec_l02Times a0 a1).opt:=by kernel_rfl
def zfP:U64->U64->T2 U64 U64:=fun a0 a1=>(t_spec_l02Times a0 a1).get
theorem u_spec_l02Times (a0:U64) (a1:U64):(t_spec_l02Times a0 a1).opt=some (zfP a0 a1):=Tr.zz (by kernel_rfl)
def E_spec_l02Times:Ent Tryz.prog:= .of2 Tb312 B312 (fun _ _=>true) zfP fun a0 a1 _=>(r_spec_l02Times a0 a1).trans (u_spec_l02Times a0 a1)
def B315:Bod Tryz.prog:=⟨315,Tryz.f315,Tryz.f315.body.getD .skip,Tryz.func315,by kernel_rfl,by kernel_rfl,zK.no _ _⟩
def Tb315:Tb Tryz.prog:= {T:= [Y2,Y153,Y171],mix:=mix,Es:= [],Bs:= [],d:=1}
def zez (a0:Wide):Tr (Wide):=
 let c2:=(Rng.w .u64 (0-a0.lo.val));.br (a0.lo.val==0) (.leaf ⟨(Rng.w .i64 (0-a0.hi.val)),c2⟩) (.leaf ⟨(Rng.w .i64 (zbJ .xor .i64 (-1) a0.hi.val)),c2⟩)
theorem r_spec_l02Minus (a0:Wide):Tb315.run B315 [enc a0] (Wide)=(zez a0).opt:=by kernel_rfl
def zaZ:Wide->Wide:=fun a0=>(zez a0).get
theorem u_spec_l02Minus (a0:Wide):(zez a0).opt=some (zaZ a0):=Tr.zz (by kernel_rfl)
def E_spec_l02Minus:Ent Tryz.prog:= .of1 Tb315 B315 (fun _=>true) zaZ fun a0 _=>(r_spec_l02Minus a0).trans (u_spec_l02Minus a0)
def Y4:TyE Tryz.prog:=⟨4,1,.bool,[.bool false],false,by kernel_rfl,by kernel_rfl,by kernel_rfl,by kernel_rfl,by kernel_rfl,by kernel_rfl⟩
def B236:Bod Tryz.prog:=⟨236,Tryz.f236,Tryz.f236.body.getD .skip,Tryz.func236,by kernel_rfl,by kernel_rfl,zK.no _ _⟩
def Tb236:Tb Tryz.prog:= {T:= [Y2,Y4,Y153,Y171],mix:=mix,Es:= [E_spec_l02Times,E_spec_l02Size,E_spec_l02Minus],Bs:= [],d:=1}
def t_spec_l02Mul (a0:I64) (a1:I64):Tr (Wide):=
 let c3:=zfP (zbD a0) (zbD a1);.br (!((decide (a0.val<0))==(decide (a1.val<0)))) (.leaf (zaZ ⟨(Rng.w .i64 (c3.a.val)),c3.b⟩)) (.leaf ⟨(Rng.w .i64 (c3.a.val)),c3.b⟩)
theorem r_spec_l02Mul (a0:I64) (a1:I64):Tb236.run B236 [enc a0,enc a1] (Wide)=(t_spec_l02Mul a0 a1).opt:=by kernel_rfl
def ze9:I64->I64->Wide:=fun a0 a1=>(t_spec_l02Mul a0 a1).get
theorem u_spec_l02Mul (a0:I64) (a1:I64):(t_spec_l02Mul a0 a1).opt=some (ze9 a0 a1):=Tr.zz (by kernel_rfl)
def E_spec_l02Mul:Ent Tryz.prog:= .of2 Tb236 B236 (fun _ _=>true) ze9 fun a0 a1 _=>(r_spec_l02Mul a0 a1).trans (u_spec_l02Mul a0 a1)
structure zco where
 x0:U64
 x1:U64
 x2:U64
 x3:U64
 x4:U64
 x5:I64
instance:Inhabited zco:=⟨⟨default,default,default,default,default,default⟩⟩
def st_spec_l02Divide_5 (x:zco):St:=⟨[(1,.u64 x.x0),(2,.u64 x.x1),(9,.u64 x.x2),(10,.u64 x.x3),(11,.u64 x.x4),(12,.i64 x.x5)],51,⟨[],0,0⟩⟩
def rd_spec_l02Divide_5:St->Option zco:=fun s=>match s with
 | ⟨[(1,.u64 x0),(2,.u64 x1),(9,.u64 x2),(10,.u64 x3),(11,.u64 x4),(12,.i64 x5)],51,⟨[],0,0⟩⟩=>some ⟨x0,x1,x2,x3,x4,x5⟩
 | _=>none
def zc8 (x:zco):Tr (Lp zco):=
 .br (decide (x.x5.val>=0)) (let c7:=(Rng.w .u64 (zbJ .or .u64 (Rng.w .u64 (x.x3.val*2)).val (Rng.w .u64 (zbJ .and .u64 (Rng.w .u64 (x.x0.val.fdiv (2^min ((Rng.w .u64 (x.x5.val)).val).toNat 64))).val 1)).val));let c8:=(Rng.w .u64 (x.x4.val*2));.br ((Rng.w .u64 (x.x3.val.fdiv 9223372036854775808)).val==1) (.leaf (.again ⟨x.x0,x.x1,x.x2,(Rng.w .u64 (c7.val-x.x1.val)),(Rng.w .u64 (zbJ .or .u64 c8.val 1)),(Rng.w .i64 (x.x5.val-1))⟩)) (.br (decide (c7.val>=x.x1.val)) (.leaf (.again ⟨x.x0,x.x1,x.x2,(Rng.w .u64 (c7.val-x.x1.val)),(Rng.w .u64 (zbJ .or .u64 c8.val 1)),(Rng.w .i64 (x.x5.val-1))⟩)) (.leaf (.again ⟨x.x0,x.x1,x.x2,c7,c8,(Rng.w .i64 (x.x5.val-1))⟩)))) (.leaf (.out ⟨x.x0,x.x1,x.x2,x.x3,x.x4,x.x5⟩))
def G_spec_l02Divide_5 (x:zco):Bool:=(Lf zc8 66 x).opt.isSome
def L_spec_l02Divide_5 (x:zco):zco:=(Lf zc8 66 x).get
def TbL_spec_l02Divide_5:Tb Tryz.prog:= {T:= [Y3,Y162],mix:=mix,Es:= [],Bs:= [],d:=1}
def P_spec_l02Divide_5:LpF:=loopF [1,2,9,10,11,12] [] 0 rd_spec_l02Divide_5 st_spec_l02Divide_5 (.exit 0) G_spec_l02Divide_5 L_spec_l02Divide_5
theorem lok_spec_l02Divide_5:LoopOk Tryz.prog (loopAt (Tryz.f361.body.getD .skip) 0) P_spec_l02Divide_5:=zfw (t:=TbL_spec_l02Divide_5) (lt:=fun _=>none) (body:=zc8) (n:=66) (by intro h;cases h) (fun _ _ _ h=>by cases h)
 (by intro s x h;unfold rd_spec_l02Divide_5 at h;split at h<;>cases h;rfl) (fun x b cs h=>lk_lt (l:=(st_spec_l02Divide_5 x).mm.blks) (by kernel_rfl) h) (by intro x;kernel_rfl) (fun x h=>Tr.get_some h)
def B361:Bod Tryz.prog:=⟨361,Tryz.f361,Tryz.f361.body.getD .skip,Tryz.func361,by kernel_rfl,by kernel_rfl,⟨ltOf [(5,P_spec_l02Divide_5)],zK.of (ks:= [5]) (by kernel_rfl) (by
 intro i k h f hf
 match i,h with
 | 0,h=>cases h;obtain rfl:P_spec_l02Divide_5=f:=Option.some.inj hf;exact lok_spec_l02Divide_5
 | n+1,h=>simp at h)⟩⟩
def Tb361:Tb Tryz.prog:= {T:= [Y3,Y162],mix:=mix,Es:= [],Bs:= [],d:=1}
def t_spec_l02Divide (a0:U64) (a1:U64) (a2:U64):Tr (T3 U64 U64 U64):=
 .br (a2.val==0) (.bad) (let c1:=(Rng.w .u64 (a0.val.tdiv a2.val));.br (a2.val==0) (.bad) (let c2:=(Rng.w .u64 (a0.val.tmod a2.val));.br (G_spec_l02Divide_5 ⟨a1,a2,c1,c2,⟨0,rfl⟩,⟨63,rfl⟩⟩) (let c17:=L_spec_l02Divide_5 ⟨a1,a2,c1,c2,⟨0,rfl⟩,⟨63,rfl⟩⟩;.leaf ⟨c17.x2,c17.x4,c17.x3⟩) (.bad)))
theorem r_spec_l02Divide (a0:U64) (a1:U64) (a2:U64):Tb361.run B361 [enc a0,enc a1,enc a2] (T3 U64 U64 U64)=(t_spec_l02Divide a0 a1 a2).opt:=by kernel_rfl
def zcy:U64->U64->U64->T3 U64 U64 U64:=fun a0 a1 a2=>(t_spec_l02Divide a0 a1 a2).get
def G_spec_l02Divide:U64->U64->U64->Bool:=fun a0 a1 a2=>(t_spec_l02Divide a0 a1 a2).opt.isSome
def E_spec_l02Divide:Ent Tryz.prog:= .of3 Tb361 B361 G_spec_l02Divide zcy fun a0 a1 a2 h=>(r_spec_l02Divide a0 a1 a2).trans (Tr.get_some h)
def B352:Bod Tryz.prog:=⟨352,Tryz.f352,Tryz.f352.body.getD .skip,Tryz.func352,by kernel_rfl,by kernel_rfl,zK.no _ _⟩
def Tb352:Tb Tryz.prog:= {T:= [Y2,Y153,Y171],mix:=mix,Es:= [],Bs:= [],d:=1}
def t_spec_l02Of (a0:I64):Tr (Wide):=
 .br (decide (a0.val<0)) (.leaf ⟨⟨(-1),rfl⟩,(Rng.w .u64 (a0.val))⟩) (.leaf ⟨⟨0,rfl⟩,(Rng.w .u64 (a0.val))⟩)
theorem r_spec_l02Of (a0:I64):Tb352.run B352 [enc a0] (Wide)=(t_spec_l02Of a0).opt:=by kernel_rfl
def zee:I64->Wide:=fun a0=>(t_spec_l02Of a0).get
theorem u_spec_l02Of (a0:I64):(t_spec_l02Of a0).opt=some (zee a0):=Tr.zz (by kernel_rfl)
def E_spec_l02Of:Ent Tryz.prog:= .of1 Tb352 B352 (fun _=>true) zee fun a0 _=>(r_spec_l02Of a0).trans (u_spec_l02Of a0)
def B313:Bod Tryz.prog:=⟨313,Tryz.f313,Tryz.f313.body.getD .skip,Tryz.func313,by kernel_rfl,by kernel_rfl,zK.no _ _⟩
def Tb313:Tb Tryz.prog:= {T:= [Y2,Y153,Y171],mix:=mix,Es:= [],Bs:= [],d:=1}
def t_spec_l02Plus (a0:Wide) (a1:Wide):Tr (Wide):=
 let c1:=(Rng.w .i64 (a0.hi.val+a1.hi.val));let c2:=(Rng.w .u64 (a0.lo.val+a1.lo.val));.br (decide (c2.val<a0.lo.val)) (.leaf ⟨(Rng.w .i64 (c1.val+1)),c2⟩) (.leaf ⟨c1,c2⟩)
theorem r_spec_l02Plus (a0:Wide) (a1:Wide):Tb313.run B313 [enc a0,enc a1] (Wide)=(t_spec_l02Plus a0 a1).opt:=by kernel_rfl
def F_spec_l02Plus:Wide->Wide->Wide:=fun a0 a1=>(t_spec_l02Plus a0 a1).get
theorem u_spec_l02Plus (a0:Wide) (a1:Wide):(t_spec_l02Plus a0 a1).opt=some (F_spec_l02Plus a0 a1):=Tr.zz (by kernel_rfl)
def E_spec_l02Plus:Ent Tryz.prog:= .of2 Tb313 B313 (fun _ _=>true) F_spec_l02Plus fun a0 a1 _=>(r_spec_l02Plus a0 a1).trans (u_spec_l02Plus a0 a1)
def B310:Bod Tryz.prog:=⟨310,Tryz.f310,Tryz.f310.body.getD .skip,Tryz.func310,by kernel_rfl,by kernel_rfl,zK.no _ _⟩
def Tb310:Tb Tryz.prog:= {T:= [Y2,Y153,Y171],mix:=mix,Es:= [E_spec_l02Plus,E_spec_l02Minus,E_spec_l02Of,E_spec_l02Divide],Bs:= [],d:=1}
def t_spec_l02Div (a0:Wide) (a1:I64):Tr (T2 Wide I64):=
 .br (decide (a0.hi.val>=0)) (.br (G_spec_l02Divide (Rng.w .u64 (a0.hi.val)) a0.lo (Rng.w .u64 (a1.val))) (let c1:=zcy (Rng.w .u64 (a0.hi.val)) a0.lo (Rng.w .u64 (a1.val));.leaf ⟨⟨(Rng.w .i64 (c1.a.val)),c1.b⟩,(Rng.w .i64 (c1.c.val))⟩) (.bad)) (let c2:=zaZ a0;.br (G_spec_l02Divide (Rng.w .u64 (c2.hi.val)) c2.lo (Rng.w .u64 (a1.val))) (let c3:=zcy (Rng.w .u64 (c2.hi.val)) c2.lo (Rng.w .u64 (a1.val));let c4:=zaZ ⟨(Rng.w .i64 (c3.a.val)),c3.b⟩;.br (c3.c.val==0) (.leaf ⟨c4,⟨0,rfl⟩⟩) (.leaf ⟨(F_spec_l02Plus c4 (zee ⟨(-1),rfl⟩)),(Rng.w .i64 (a1.val-(Rng.w .i64 (c3.c.val)).val))⟩)) (.bad))
theorem r_spec_l02Div (a0:Wide) (a1:I64):Tb310.run B310 [enc a0,enc a1] (T2 Wide I64)=(t_spec_l02Div a0 a1).opt:=by kernel_rfl
def F_spec_l02Div:Wide->I64->T2 Wide I64:=fun a0 a1=>(t_spec_l02Div a0 a1).get
def G_spec_l02Div:Wide->I64->Bool:=fun a0 a1=>(t_spec_l02Div a0 a1).opt.isSome
def E_spec_l02Div:Ent Tryz.prog:= .of2 Tb310 B310 G_spec_l02Div F_spec_l02Div fun a0 a1 h=>(r_spec_l02Div a0 a1).trans (Tr.get_some h)
def B294:Bod Tryz.prog:=⟨294,Tryz.f294,Tryz.f294.body.getD .skip,Tryz.func294,by kernel_rfl,by kernel_rfl,zK.no _ _⟩
def Tb294:Tb Tryz.prog:= {T:= [Y2,Y153,Y171],mix:=mix,Es:= [E_spec_l02Of],Bs:= [],d:=1}
def t_spec_l02Int (a0:Wide):Tr (T2 I64 Bool):=
 let c1:=zee (Rng.w .i64 (a0.lo.val));.br (!((c1.hi.val==a0.hi.val)&&((c1.lo.val==a0.lo.val)&&true))) (.leaf ⟨⟨0,rfl⟩,false⟩) (.leaf ⟨(Rng.w .i64 (a0.lo.val)),true⟩)
theorem r_spec_l02Int (a0:Wide):Tb294.run B294 [enc a0] (T2 I64 Bool)=(t_spec_l02Int a0).opt:=by kernel_rfl
def F_spec_l02Int:Wide->T2 I64 Bool:=fun a0=>(t_spec_l02Int a0).get
theorem u_spec_l02Int (a0:Wide):(t_spec_l02Int a0).opt=some (F_spec_l02Int a0):=Tr.zz (by kernel_rfl)
def E_spec_l02Int:Ent Tryz.prog:= .of1 Tb294 B294 (fun _=>true) F_spec_l02Int fun a0 _=>(r_spec_l02Int a0).trans (u_spec_l02Int a0)
def B228:Bod Tryz.prog:=⟨228,Tryz.f228,Tryz.f228.body.getD .skip,Tryz.func228,by kernel_rfl,by kernel_rfl,zK.no _ _⟩
def Tb228:Tb Tryz.prog:= {T:= [Y2,Y153,Y171],mix:=mix,Es:= [E_spec_l02Mul,E_spec_l02Int,E_spec_l02Div],Bs:= [],d:=1}
def zc1 (a0:I64) (a1:I64) (a2:I64):Tr (T2 I64 Bool):=
 .br (decide (a2.val<=0)) (.leaf ⟨⟨0,rfl⟩,false⟩) (let c1:=ze9 a0 a1;.br (G_spec_l02Div c1 a2) (let c3:=F_spec_l02Int (F_spec_l02Div c1 a2).a;.leaf ⟨c3.a,c3.b⟩) (.bad))
theorem r_spec_MulDivFloor (a0:I64) (a1:I64) (a2:I64):Tb228.run B228 [enc a0,enc a1,enc a2] (T2 I64 Bool)=(zc1 a0 a1 a2).opt:=by kernel_rfl
def zbg:I64->I64->I64->T2 I64 Bool:=fun a0 a1 a2=>(zc1 a0 a1 a2).get
def zb1:I64->I64->I64->Bool:=fun a0 a1 a2=>(zc1 a0 a1 a2).opt.isSome
def E_spec_MulDivFloor:Ent Tryz.prog:= .of3 Tb228 B228 zb1 zbg fun a0 a1 a2 h=>(r_spec_MulDivFloor a0 a1 a2).trans (Tr.get_some h)
def B193:Bod Tryz.prog:=⟨193,Tryz.f193,Tryz.f193.body.getD .skip,Tryz.func193,by kernel_rfl,by kernel_rfl,zK.no _ _⟩
def Tb193:Tb Tryz.prog:= {T:= [],mix:=mix,Es:= [zbu],Bs:= [],d:=1}
def zeZ (a0:I64):Tr (Bool):=
 .leaf (zaj a0 ⟨(-1152921504606846976),rfl⟩ ⟨1152921504606846976,rfl⟩)
theorem r_spec_l03Ok (a0:I64):Tb193.run B193 [enc a0] (Bool)=(zeZ a0).opt:=by kernel_rfl
def zD:I64->Bool:=fun a0=>(zeZ a0).get
theorem u_spec_l03Ok (a0:I64):(zeZ a0).opt=some (zD a0):=Tr.zz (by kernel_rfl)
def E_spec_l03Ok:Ent Tryz.prog:= .of1 Tb193 B193 (fun _=>true) zD fun a0 _=>(r_spec_l03Ok a0).trans (u_spec_l03Ok a0)
def B195:Bod Tryz.prog:=⟨195,Tryz.f195,Tryz.f195.body.getD .skip,Tryz.func195,by kernel_rfl,by kernel_rfl,zK.no _ _⟩
def Tb195:Tb Tryz.prog:= {T:= [],mix:=mix,Es:= [E_spec_l03Ok],Bs:= [],d:=1}
def zdy (a0:I64) (a1:Bool):Tr (T2 I64 Bool):=
 .br (!a1) (.leaf ⟨⟨0,rfl⟩,false⟩) (.br (!(zD a0)) (.leaf ⟨⟨0,rfl⟩,false⟩) (.leaf ⟨a0,true⟩))
theorem r_spec_l03End (a0:I64) (a1:Bool):Tb195.run B195 [enc a0,enc a1] (T2 I64 Bool)=(zdy a0 a1).opt:=by kernel_rfl
def zaG:I64->Bool->T2 I64 Bool:=fun a0 a1=>(zdy a0 a1).get
theorem u_spec_l03End (a0:I64) (a1:Bool):(zdy a0 a1).opt=some (zaG a0 a1):=Tr.zz (by kernel_rfl)
def E_spec_l03End:Ent Tryz.prog:= .of2 Tb195 B195 (fun _ _=>true) zaG fun a0 a1 _=>(r_spec_l03End a0 a1).trans (u_spec_l03End a0 a1)
def B229:Bod Tryz.prog:=⟨229,Tryz.f229,Tryz.f229.body.getD .skip,Tryz.func229,by kernel_rfl,by kernel_rfl,zK.no _ _⟩
def Tb229:Tb Tryz.prog:= {T:= [],mix:=mix,Es:= [E_spec_l03End,E_spec_MulDivFloor],Bs:= [],d:=1}
def zfG (a0:I64) (a1:I64):Tr (T2 I64 Bool):=
 .br (decide (a1.val<=0)) (.leaf ⟨⟨0,rfl⟩,false⟩) (.br (zb1 a0 ⟨4294967296,rfl⟩ a1) (let c1:=zbg a0 ⟨4294967296,rfl⟩ a1;let c2:=zaG c1.a c1.b;.leaf ⟨c2.a,c2.b⟩) (.bad))
theorem r_spec_l03Floor (a0:I64) (a1:I64):Tb229.run B229 [enc a0,enc a1] (T2 I64 Bool)=(zfG a0 a1).opt:=by kernel_rfl
def F_spec_l03Floor:I64->I64->T2 I64 Bool:=fun a0 a1=>(zfG a0 a1).get
def G_spec_l03Floor:I64->I64->Bool:=fun a0 a1=>(zfG a0 a1).opt.isSome
def E_spec_l03Floor:Ent Tryz.prog:= .of2 Tb229 B229 G_spec_l03Floor F_spec_l03Floor fun a0 a1 h=>(r_spec_l03Floor a0 a1).trans (Tr.get_some h)
def B230:Bod Tryz.prog:=⟨230,Tryz.f230,Tryz.f230.body.getD .skip,Tryz.func230,by kernel_rfl,by kernel_rfl,zK.no _ _⟩
def Tb230:Tb Tryz.prog:= {T:= [],mix:=mix,Es:= [E_spec_l03End,E_spec_MulDivFloor],Bs:= [],d:=1}
def t_spec_l03Ceil (a0:I64) (a1:I64):Tr (T2 I64 Bool):=
 .br (decide (a1.val<=0)) (.leaf ⟨⟨0,rfl⟩,false⟩) (.br (zb1 a0 ⟨4294967296,rfl⟩ a1) (let c1:=zbg a0 ⟨4294967296,rfl⟩ a1;.br (!c1.b) (.leaf ⟨⟨0,rfl⟩,false⟩) (.br ((Rng.w .i64 (c1.a.val*a1.val)).val != (Rng.w .i64 (a0.val*4294967296)).val) (let c5:=zaG (Rng.w .i64 (c1.a.val+1)) true;.leaf ⟨c5.a,c5.b⟩) (let c6:=zaG c1.a true;.leaf ⟨c6.a,c6.b⟩))) (.bad))
theorem r_spec_l03Ceil (a0:I64) (a1:I64):Tb230.run B230 [enc a0,enc a1] (T2 I64 Bool)=(t_spec_l03Ceil a0 a1).opt:=by kernel_rfl
def F_spec_l03Ceil:I64->I64->T2 I64 Bool:=fun a0 a1=>(t_spec_l03Ceil a0 a1).get
def G_spec_l03Ceil:I64->I64->Bool:=fun a0 a1=>(t_spec_l03Ceil a0 a1).opt.isSome
def E_spec_l03Ceil:Ent Tryz.prog:= .of2 Tb230 B230 G_spec_l03Ceil F_spec_l03Ceil fun a0 a1 h=>(r_spec_l03Ceil a0 a1).trans (Tr.get_some h)
def B86:Bod Tryz.prog:=⟨86,Tryz.f86,Tryz.f86.body.getD .skip,Tryz.func86,by kernel_rfl,by kernel_rfl,zK.no _ _⟩
def Tb86:Tb Tryz.prog:= {T:= [Y2,Y30],mix:=mix,Es:= [],Bs:= [],d:=1}
def t_spec_l04Ok (a0:Iv):Tr (Bool):=
 .br (decide ((-1152921504606846976)<a0.lo.val)) (.br (decide (a0.lo.val<=a0.hi.val)) (.leaf (decide (a0.hi.val<1152921504606846976))) (.leaf false)) (.leaf false)
theorem r_spec_l04Ok (a0:Iv):Tb86.run B86 [enc a0] (Bool)=(t_spec_l04Ok a0).opt:=by kernel_rfl
def za:Iv->Bool:=fun a0=>(t_spec_l04Ok a0).get
theorem u_spec_l04Ok (a0:Iv):(t_spec_l04Ok a0).opt=some (za a0):=Tr.zz (by kernel_rfl)
def zaA:Ent Tryz.prog:= .of1 Tb86 B86 (fun _=>true) za fun a0 _=>(r_spec_l04Ok a0).trans (u_spec_l04Ok a0)
def B85:Bod Tryz.prog:=⟨85,Tryz.f85,Tryz.f85.body.getD .skip,Tryz.func85,by kernel_rfl,by kernel_rfl,zK.no _ _⟩
def Tb85:Tb Tryz.prog:= {T:= [Y2,Y30],mix:=mix,Es:= [zS,zaA],Bs:= [],d:=1}
def zfe (a0:I64) (a1:I64):Tr (Iv):=
 .br (!(za ⟨a0,a1⟩)) (.leaf ze) (.leaf ⟨a0,a1⟩)
theorem r_spec_l04Make (a0:I64) (a1:I64):Tb85.run B85 [enc a0,enc a1] (Iv)=(zfe a0 a1).opt:=by kernel_rfl
def zR:I64->I64->Iv:=fun a0 a1=>(zfe a0 a1).get
theorem u_spec_l04Make (a0:I64) (a1:I64):(zfe a0 a1).opt=some (zR a0 a1):=Tr.zz (by kernel_rfl)
def zaJ:Ent Tryz.prog:= .of2 Tb85 B85 (fun _ _=>true) zR fun a0 a1 _=>(r_spec_l04Make a0 a1).trans (u_spec_l04Make a0 a1)
def B133:Bod Tryz.prog:=⟨133,Tryz.f133,Tryz.f133.body.getD .skip,Tryz.func133,by kernel_rfl,by kernel_rfl,zK.no _ _⟩
def Tb133:Tb Tryz.prog:= {T:= [Y2,Y30],mix:=mix,Es:= [zS,zaJ,E_spec_l03Floor,E_spec_l03Ceil],Bs:= [],d:=1}
def t_spec_Quotient (a0:I64) (a1:I64):Tr (Iv):=
 .br (decide (a1.val<0)) (.br (a0.val==(-9223372036854775808)) (.leaf ze) (.br (a1.val==(-9223372036854775808)) (.leaf ze) (let c5:=(Rng.w .i64 (0-a0.val));let c6:=(Rng.w .i64 (0-a1.val));.br (G_spec_l03Floor c5 c6) (let c7:=F_spec_l03Floor c5 c6;.br (G_spec_l03Ceil c5 c6) (let c8:=F_spec_l03Ceil c5 c6;.br (!c7.b) (.leaf ze) (.br (!c8.b) (.leaf ze) (.leaf (zR c7.a c8.a)))) (.bad)) (.bad)))) (.br (G_spec_l03Floor a0 a1) (let c12:=F_spec_l03Floor a0 a1;.br (G_spec_l03Ceil a0 a1) (let c13:=F_spec_l03Ceil a0 a1;.br (!c12.b) (.leaf ze) (.br (!c13.b) (.leaf ze) (.leaf (zR c12.a c13.a)))) (.bad)) (.bad))
theorem r_spec_Quotient (a0:I64) (a1:I64):Tb133.run B133 [enc a0,enc a1] (Iv)=(t_spec_Quotient a0 a1).opt:=by kernel_rfl
def zQ:I64->I64->Iv:=fun a0 a1=>(t_spec_Quotient a0 a1).get
def B227:Bod Tryz.prog:=⟨227,Tryz.f227,Tryz.f227.body.getD .skip,Tryz.func227,by kernel_rfl,by kernel_rfl,zK.no _ _⟩
def Tb227:Tb Tryz.prog:= {T:= [Y2,Y30],mix:=mix,Es:= [zS,zaJ,zaA],Bs:= [],d:=1}
def t_spec_NegI (a0:Iv):Tr (Iv):=
 .br (!(za a0)) (.leaf ze) (.leaf (zR (Rng.w .i64 (0-a0.hi.val)) (Rng.w .i64 (0-a0.lo.val))))
theorem r_spec_NegI (a0:Iv):Tb227.run B227 [enc a0] (Iv)=(t_spec_NegI a0).opt:=by kernel_rfl
def zaO:Iv->Iv:=fun a0=>(t_spec_NegI a0).get
theorem u_spec_NegI (a0:Iv):(t_spec_NegI a0).opt=some (zaO a0):=Tr.zz (by kernel_rfl)
def E_spec_NegI:Ent Tryz.prog:= .of1 Tb227 B227 (fun _=>true) zaO fun a0 _=>(r_spec_NegI a0).trans (u_spec_NegI a0)
def B131:Bod Tryz.prog:=⟨131,Tryz.f131,Tryz.f131.body.getD .skip,Tryz.func131,by kernel_rfl,by kernel_rfl,zK.no _ _⟩
def Tb131_p:Tb Tryz.prog:= {T:= [Y2,Y30],mix:=mix,Es:= [zbu,zcs,E_spec_MulDivFloor],Bs:= [],d:=1}
def zdT (a0:I64):Tr (Iv):=
 .br (!(zaj a0 ⟨(-36000000000),rfl⟩ ⟨36000000000,rfl⟩)) (.leaf zaK) (.br (a0.val==0) (.leaf ⟨⟨0,rfl⟩,⟨0,rfl⟩⟩) (.br (decide (a0.val<0)) (.bad) (.br (zb1 a0 ⟨7244019458077122842,rfl⟩ ⟨966367641600000000,rfl⟩) (.br (zb1 a0 ⟨7244019458077122843,rfl⟩ ⟨966367641600000000,rfl⟩) (.leaf ⟨(zbg a0 ⟨7244019458077122842,rfl⟩ ⟨966367641600000000,rfl⟩).a,(Rng.w .i64 ((zbg a0 ⟨7244019458077122843,rfl⟩ ⟨966367641600000000,rfl⟩).a.val+1))⟩) (.bad)) (.bad))))
theorem r_spec_RadiansOf_p (a0:I64):Tb131_p.run B131 [enc a0] (Iv)=(zdT a0).opt:=by kernel_rfl
def F_spec_RadiansOf_p:I64->Iv:=fun a0=>(zdT a0).get
def G_spec_RadiansOf_p:I64->Bool:=fun a0=>(zdT a0).opt.isSome
def E_spec_RadiansOf_p:Ent Tryz.prog:= .of1 Tb131_p B131 G_spec_RadiansOf_p F_spec_RadiansOf_p fun a0 h=>(r_spec_RadiansOf_p a0).trans (Tr.get_some h)
def Tb131:Tb Tryz.prog:= {T:= [Y2,Y30],mix:=mix,Es:= [zbu,E_spec_RadiansOf_p,zcs,E_spec_NegI,E_spec_MulDivFloor],Bs:= [],d:=1}
def zeN (a0:I64):Tr (Iv):=
 .br (!(zaj a0 ⟨(-36000000000),rfl⟩ ⟨36000000000,rfl⟩)) (.leaf zaK) (.br (a0.val==0) (.leaf ⟨⟨0,rfl⟩,⟨0,rfl⟩⟩) (.br (decide (a0.val<0)) (let c3:=(Rng.w .i64 (0-a0.val));.br (G_spec_RadiansOf_p c3) (.leaf (zaO (F_spec_RadiansOf_p c3))) (.bad)) (.br (zb1 a0 ⟨7244019458077122842,rfl⟩ ⟨966367641600000000,rfl⟩) (.br (zb1 a0 ⟨7244019458077122843,rfl⟩ ⟨966367641600000000,rfl⟩) (.leaf ⟨(zbg a0 ⟨7244019458077122842,rfl⟩ ⟨966367641600000000,rfl⟩).a,(Rng.w .i64 ((zbg a0 ⟨7244019458077122843,rfl⟩ ⟨966367641600000000,rfl⟩).a.val+1))⟩) (.bad)) (.bad))))
theorem r_spec_RadiansOf (a0:I64):Tb131.run B131 [enc a0] (Iv)=(zeN a0).opt:=by kernel_rfl
def zbp:I64->Iv:=fun a0=>(zeN a0).get
def B119:Bod Tryz.prog:=⟨119,Tryz.f119,Tryz.f119.body.getD .skip,Tryz.func119,by kernel_rfl,by kernel_rfl,zK.no _ _⟩
def Tb119:Tb Tryz.prog:= {T:= [Y30],mix:=mix,Es:= [zd4],Bs:= [],d:=1}
def zd9 (a0:Iv):Tr (Bool):=
 .leaf (!(zby a0))
theorem r_impl_IsWhole (a0:Iv):Tb119.run B119 [enc a0] (Bool)=(zd9 a0).opt:=by kernel_rfl
def zX:Iv->Bool:=fun a0=>(zd9 a0).get
theorem u_impl_IsWhole (a0:Iv):(zd9 a0).opt=some (zX a0):=Tr.zz (by kernel_rfl)
def zaW:Ent Tryz.prog:= .of1 Tb119 B119 (fun _=>true) zX fun a0 _=>(r_impl_IsWhole a0).trans (u_impl_IsWhole a0)
def B214:Bod Tryz.prog:=⟨214,Tryz.f214,Tryz.f214.body.getD .skip,Tryz.func214,by kernel_rfl,by kernel_rfl,zK.no _ _⟩
def Tb214:Tb Tryz.prog:= {T:= [Y2,Y30],mix:=mix,Es:= [zaW,zaa],Bs:= [],d:=1}
def t_impl_NegI (a0:Iv):Tr (Iv):=
 .br (zX a0) (.leaf zq) (.leaf ⟨(Rng.w .i64 (0-a0.hi.val)),(Rng.w .i64 (0-a0.lo.val))⟩)
theorem r_impl_NegI (a0:Iv):Tb214.run B214 [enc a0] (Iv)=(t_impl_NegI a0).opt:=by kernel_rfl
def zdv:Iv->Iv:=fun a0=>(t_impl_NegI a0).get
theorem u_impl_NegI (a0:Iv):(t_impl_NegI a0).opt=some (zdv a0):=Tr.zz (by kernel_rfl)
def E_impl_NegI:Ent Tryz.prog:= .of1 Tb214 B214 (fun _=>true) zdv fun a0 _=>(r_impl_NegI a0).trans (u_impl_NegI a0)
def B156:Bod Tryz.prog:=⟨156,Tryz.f156,Tryz.f156.body.getD .skip,Tryz.func156,by kernel_rfl,by kernel_rfl,zK.no _ _⟩
def Tb156_p:Tb Tryz.prog:= {T:= [Y2,Y30],mix:=mix,Es:= [za8,zaa,E_impl_MulDivFloor],Bs:= [],d:=1}
def ze3 (a0:I64):Tr (Iv):=
 .br (!(zan a0 ⟨(-36000000000),rfl⟩ ⟨36000000000,rfl⟩)) (.leaf zq) (.br (decide (a0.val<0)) (.bad) (.br (a0.val==0) (.leaf ⟨⟨0,rfl⟩,⟨0,rfl⟩⟩) (.br (zcp a0 ⟨7244019458077122842,rfl⟩ ⟨966367641600000000,rfl⟩) (.br (zcp a0 ⟨7244019458077122843,rfl⟩ ⟨966367641600000000,rfl⟩) (.leaf ⟨(zbt a0 ⟨7244019458077122842,rfl⟩ ⟨966367641600000000,rfl⟩).a,(Rng.w .i64 ((zbt a0 ⟨7244019458077122843,rfl⟩ ⟨966367641600000000,rfl⟩).a.val+1))⟩) (.bad)) (.bad))))
theorem r_impl_RadiansOf_p (a0:I64):Tb156_p.run B156 [enc a0] (Iv)=(ze3 a0).opt:=by kernel_rfl
def F_impl_RadiansOf_p:I64->Iv:=fun a0=>(ze3 a0).get
def G_impl_RadiansOf_p:I64->Bool:=fun a0=>(ze3 a0).opt.isSome
def E_impl_RadiansOf_p:Ent Tryz.prog:= .of1 Tb156_p B156 G_impl_RadiansOf_p F_impl_RadiansOf_p fun a0 h=>(r_impl_RadiansOf_p a0).trans (Tr.get_some h)
def Tb156:Tb Tryz.prog:= {T:= [Y2,Y30],mix:=mix,Es:= [E_impl_RadiansOf_p,za8,zaa,E_impl_NegI,E_impl_MulDivFloor],Bs:= [],d:=1}
def t_impl_RadiansOf (a0:I64):Tr (Iv):=
 .br (!(zan a0 ⟨(-36000000000),rfl⟩ ⟨36000000000,rfl⟩)) (.leaf zq) (.br (decide (a0.val<0)) (let c3:=(Rng.w .i64 (0-a0.val));.br (G_impl_RadiansOf_p c3) (.leaf (zdv (F_impl_RadiansOf_p c3))) (.bad)) (.br (a0.val==0) (.leaf ⟨⟨0,rfl⟩,⟨0,rfl⟩⟩) (.br (zcp a0 ⟨7244019458077122842,rfl⟩ ⟨966367641600000000,rfl⟩) (.br (zcp a0 ⟨7244019458077122843,rfl⟩ ⟨966367641600000000,rfl⟩) (.leaf ⟨(zbt a0 ⟨7244019458077122842,rfl⟩ ⟨966367641600000000,rfl⟩).a,(Rng.w .i64 ((zbt a0 ⟨7244019458077122843,rfl⟩ ⟨966367641600000000,rfl⟩).a.val+1))⟩) (.bad)) (.bad))))
theorem r_impl_RadiansOf (a0:I64):Tb156.run B156 [enc a0] (Iv)=(t_impl_RadiansOf a0).opt:=by kernel_rfl
def zeW:I64->Iv:=fun a0=>(t_impl_RadiansOf a0).get
end
end Go.Proofs.YtkenfaengphiiaaGreat.Ev
