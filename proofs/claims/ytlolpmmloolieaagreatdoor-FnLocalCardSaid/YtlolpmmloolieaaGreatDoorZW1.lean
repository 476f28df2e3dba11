/- The law FnLocal gives true, whatever bytes come in, where the listed tables hold what the program's text lays. The card: the tables tied to the text. No other conditions. (One of the texts of its proof, put together by a program of this session.) -/
import Derived.Test.YtlolpmmloolieaaGreatDoorZEC
import Derived.Test.YtlolpmmloolieaaGreatDoorChecked
import Derived.KernelRfl
set_option linter.unusedSectionVars false
set_option linter.unusedSimpArgs false
set_option linter.unusedVariables false
noncomputable section
namespace Go.Proofs.YtlolpmmloolieaaGreatDoor.Ev
open Go Go.RowKit
set_option maxRecDepth 100000
section
variable [Amb]
theorem mix:Tryz.prog.follows .mixedOrders=true:=by kernel_rfl
def B69:Bod Tryz.prog:=⟨69,Tryz.f69,Tryz.f69.body.getD .skip,Tryz.func69,by kernel_rfl,by kernel_rfl,zai.no _ _⟩
def Tb69:Tb Tryz.prog:= {T:= [],mix:=mix,Es:= [],Bs:= [],d:=1}
def zer (a0:I64) (a1:I64) (a2:I64):Tr (Bool):=
 .br (decide (a0.val>=a1.val)) (.leaf (decide (a0.val<=a2.val))) (.leaf false)
theorem r_impl_within (a0:I64) (a1:I64) (a2:I64):Tb69.run B69 [enc a0,enc a1,enc a2] (Bool)=(zer a0 a1 a2).opt:=by kernel_rfl
def zal:I64->I64->I64->Bool:=fun a0 a1 a2=>(zer a0 a1 a2).get
theorem u_impl_within (a0:I64) (a1:I64) (a2:I64):(zer a0 a1 a2).opt=some (zal a0 a1 a2):=Tr.zW (by kernel_rfl)
def zbf:Ent Tryz.prog:= .of3 Tb69 B69 (fun _ _ _=>true) zal fun a0 a1 a2 _=>(r_impl_within a0 a1 a2).trans (u_impl_within a0 a1 a2)
def Y2:TyE Tryz.prog:=⟨2,1,(.int .i64),[.i64 ⟨0,rfl⟩],false,by kernel_rfl,by kernel_rfl,by kernel_rfl,by kernel_rfl,by kernel_rfl,by kernel_rfl⟩
def Y28:TyE Tryz.prog:=⟨28,2,(.struct [(0,2,1),(1,2,1)]),[.i64 ⟨0,rfl⟩,.i64 ⟨0,rfl⟩],true,by kernel_rfl,by kernel_rfl,by kernel_rfl,by kernel_rfl,by kernel_rfl,by kernel_rfl⟩
def B62:Bod Tryz.prog:=⟨62,Tryz.f62,Tryz.f62.body.getD .skip,Tryz.func62,by kernel_rfl,by kernel_rfl,zai.no _ _⟩
def Tb62:Tb Tryz.prog:= {T:= [Y2,Y28],mix:=mix,Es:= [zbf],Bs:= [],d:=1}
def zdc (a0:zdz):Tr (Bool):=
 .br (zal a0.lat ⟨(-900000000),rfl⟩ ⟨900000000,rfl⟩) (.br (decide (a0.lon.val>(-1800000000))) (.leaf (decide (a0.lon.val<=1800000000))) (.leaf false)) (.leaf false)
theorem r_impl_ValidPoint (a0:zdz):Tb62.run B62 [enc a0] (Bool)=(zdc a0).opt:=by kernel_rfl
def zab:zdz->Bool:=fun a0=>(zdc a0).get
theorem u_impl_ValidPoint (a0:zdz):(zdc a0).opt=some (zab a0):=Tr.zW (by kernel_rfl)
def zeF:Ent Tryz.prog:= .of1 Tb62 B62 (fun _=>true) zab fun a0 _=>(r_impl_ValidPoint a0).trans (u_impl_ValidPoint a0)
def B70:Bod Tryz.prog:=⟨70,Tryz.f70,Tryz.f70.body.getD .skip,Tryz.func70,by kernel_rfl,by kernel_rfl,zai.no _ _⟩
def Tb70:Tb Tryz.prog:= {T:= [],mix:=mix,Es:= [zbf],Bs:= [],d:=1}
def zea (a0:I64):Tr (Bool):=
 .leaf (zal a0 ⟨(-20000000),rfl⟩ ⟨20000000000,rfl⟩)
theorem r_impl_isHeight (a0:I64):Tb70.run B70 [enc a0] (Bool)=(zea a0).opt:=by kernel_rfl
def zbG:I64->Bool:=fun a0=>(zea a0).get
theorem u_impl_isHeight (a0:I64):(zea a0).opt=some (zbG a0):=Tr.zW (by kernel_rfl)
def E_impl_isHeight:Ent Tryz.prog:= .of1 Tb70 B70 (fun _=>true) zbG fun a0 _=>(r_impl_isHeight a0).trans (u_impl_isHeight a0)
def Y30:TyE Tryz.prog:=⟨30,3,(.struct [(0,28,2),(2,2,1)]),[.i64 ⟨0,rfl⟩,.i64 ⟨0,rfl⟩,.i64 ⟨0,rfl⟩],false,by kernel_rfl,by kernel_rfl,by kernel_rfl,by kernel_rfl,by kernel_rfl,by kernel_rfl⟩
def B30:Bod Tryz.prog:=⟨30,Tryz.f30,Tryz.f30.body.getD .skip,Tryz.func30,by kernel_rfl,by kernel_rfl,zai.no _ _⟩
def Tb30:Tb Tryz.prog:= {T:= [Y2,Y28,Y30],mix:=mix,Es:= [zeF,E_impl_isHeight],Bs:= [],d:=1}
def zdd (a0:Place):Tr (Bool):=
 .br (zab a0.pt) (.leaf (zbG a0.h)) (.leaf false)
theorem r_impl_ValidPlace (a0:Place):Tb30.run B30 [enc a0] (Bool)=(zdd a0).opt:=by kernel_rfl
def zac:Place->Bool:=fun a0=>(zdd a0).get
theorem u_impl_ValidPlace (a0:Place):(zdd a0).opt=some (zac a0):=Tr.zW (by kernel_rfl)
def zeG:Ent Tryz.prog:= .of1 Tb30 B30 (fun _=>true) zac fun a0 _=>(r_impl_ValidPlace a0).trans (u_impl_ValidPlace a0)
def B99:Bod Tryz.prog:=⟨99,Tryz.f99,Tryz.f99.body.getD .skip,Tryz.func99,by kernel_rfl,by kernel_rfl,zai.no _ _⟩
def Tb99:Tb Tryz.prog:= {T:= [],mix:=mix,Es:= [],Bs:= [],d:=1}
def t_impl_abs (a0:I64):Tr (I64):=
 .leaf (mx a0 (Rng.w .i64 (0-a0.val)))
theorem r_impl_abs (a0:I64):Tb99.run B99 [enc a0] (I64)=(t_impl_abs a0).opt:=by kernel_rfl
def zfr:I64->I64:=fun a0=>(t_impl_abs a0).get
theorem u_impl_abs (a0:I64):(t_impl_abs a0).opt=some (zfr a0):=Tr.zW (by kernel_rfl)
def E_impl_abs:Ent Tryz.prog:= .of1 Tb99 B99 (fun _=>true) zfr fun a0 _=>(r_impl_abs a0).trans (u_impl_abs a0)
def B193:Bod Tryz.prog:=⟨193,Tryz.f193,Tryz.f193.body.getD .skip,Tryz.func193,by kernel_rfl,by kernel_rfl,zai.no _ _⟩
def Tb193:Tb Tryz.prog:= {T:= [],mix:=mix,Es:= [],Bs:= [],d:=1}
def t_spec_l00In (a0:I64) (a1:I64) (a2:I64):Tr (Bool):=
 .br (decide (a0.val>=a1.val)) (.leaf (decide (a0.val<=a2.val))) (.leaf false)
theorem r_spec_l00In (a0:I64) (a1:I64) (a2:I64):Tb193.run B193 [enc a0,enc a1,enc a2] (Bool)=(t_spec_l00In a0 a1 a2).opt:=by kernel_rfl
def zV:I64->I64->I64->Bool:=fun a0 a1 a2=>(t_spec_l00In a0 a1 a2).get
theorem u_spec_l00In (a0:I64) (a1:I64) (a2:I64):(t_spec_l00In a0 a1 a2).opt=some (zV a0 a1 a2):=Tr.zW (by kernel_rfl)
def E_spec_l00In:Ent Tryz.prog:= .of3 Tb193 B193 (fun _ _ _=>true) zV fun a0 a1 a2 _=>(r_spec_l00In a0 a1 a2).trans (u_spec_l00In a0 a1 a2)
def t_spec_l11Ok (a0:zdz):Tr (Bool):=
 .br (zV a0.lat ⟨(-900000000),rfl⟩ ⟨900000000,rfl⟩) (.leaf (zV a0.lon ⟨(-1799999999),rfl⟩ ⟨1800000000,rfl⟩)) (.leaf false)
def za1:zdz->Bool:=fun a0=>(t_spec_l11Ok a0).get
end
end Go.Proofs.YtlolpmmloolieaaGreatDoor.Ev
namespace Go.Proofs.YtlolpmmloolieaaGreatDoor.Ev
open Go Go.RowKit
set_option maxRecDepth 100000
section
variable [Amb]
def E_math_bits_Add64:Ent Tryz.prog:= .add64 Tryz.func126 (by kernel_rfl) (by kernel_rfl) (by kernel_rfl) (by kernel_rfl)
def E_math_bits_Sub64:Ent Tryz.prog:= .sub64 Tryz.func195 (by kernel_rfl) (by kernel_rfl) (by kernel_rfl) (by kernel_rfl)
def Y33:TyE Tryz.prog:=⟨33,2,(.struct [(0,2,1),(1,2,1)]),[.i64 ⟨0,rfl⟩,.i64 ⟨0,rfl⟩],true,by kernel_rfl,by kernel_rfl,by kernel_rfl,by kernel_rfl,by kernel_rfl,by kernel_rfl⟩
def B58:Bod Tryz.prog:=⟨58,Tryz.f58,Tryz.f58.body.getD .skip,Tryz.func58,by kernel_rfl,by kernel_rfl,zai.no _ _⟩
def Tb58:Tb Tryz.prog:= {T:= [Y2,Y33],mix:=mix,Es:= [],Bs:= [],d:=1}
def t_impl_Whole:Tr (Iv):=
 .leaf ⟨⟨(-1152921504606846976),rfl⟩,⟨1152921504606846976,rfl⟩⟩
theorem r_impl_Whole:Tb58.run B58 [] (Iv)=(t_impl_Whole).opt:=by kernel_rfl
def zJ:Iv:=(t_impl_Whole).get
theorem u_impl_Whole:(t_impl_Whole).opt=some (zJ):=Tr.zW (by kernel_rfl)
def zaq:Ent Tryz.prog:= .of0 Tb58 B58 zJ (r_impl_Whole.trans u_impl_Whole)
def B127:Bod Tryz.prog:=⟨127,Tryz.f127,Tryz.f127.body.getD .skip,Tryz.func127,by kernel_rfl,by kernel_rfl,zai.no _ _⟩
def Tb127:Tb Tryz.prog:= {T:= [],mix:=mix,Es:= [],Bs:= [],d:=1}
def zeq (a0:U64) (a1:U64):Tr (T2 U64 U64):=
 let c1:=(Rng.w .u64 (zaN .and .u64 a0.val 4294967295));let c2:=(Rng.w .u64 (a0.val.fdiv 4294967296));let c3:=(Rng.w .u64 (zaN .and .u64 a1.val 4294967295));let c4:=(Rng.w .u64 (a1.val.fdiv 4294967296));let c8:=(Rng.w .u64 ((Rng.w .u64 (c2.val*c3.val)).val+(Rng.w .u64 ((Rng.w .u64 (c1.val*c3.val)).val.fdiv 4294967296)).val));.leaf ⟨(Rng.w .u64 ((Rng.w .u64 ((Rng.w .u64 (c2.val*c4.val)).val+(Rng.w .u64 (c8.val.fdiv 4294967296)).val)).val+(Rng.w .u64 ((Rng.w .u64 ((Rng.w .u64 (zaN .and .u64 c8.val 4294967295)).val+(Rng.w .u64 (c1.val*c4.val)).val)).val.fdiv 4294967296)).val)),(Rng.w .u64 (a0.val*a1.val))⟩
theorem r_math_bits_Mul64 (a0:U64) (a1:U64):Tb127.run B127 [enc a0,enc a1] (T2 U64 U64)=(zeq a0 a1).opt:=by kernel_rfl
def zcq:U64->U64->T2 U64 U64:=fun a0 a1=>(zeq a0 a1).get
theorem u_math_bits_Mul64 (a0:U64) (a1:U64):(zeq a0 a1).opt=some (zcq a0 a1):=Tr.zW (by kernel_rfl)
def E_math_bits_Mul64:Ent Tryz.prog:= .of2 Tb127 B127 (fun _ _=>true) zcq fun a0 a1 _=>(r_math_bits_Mul64 a0 a1).trans (u_math_bits_Mul64 a0 a1)
def Y75:TyE Tryz.prog:=⟨75,1,(.int .u64),[.u64 ⟨0,rfl⟩],false,by kernel_rfl,by kernel_rfl,by kernel_rfl,by kernel_rfl,by kernel_rfl,by kernel_rfl⟩
def Y78:TyE Tryz.prog:=⟨78,2,(.struct [(0,2,1),(1,75,1)]),[.i64 ⟨0,rfl⟩,.u64 ⟨0,rfl⟩],true,by kernel_rfl,by kernel_rfl,by kernel_rfl,by kernel_rfl,by kernel_rfl,by kernel_rfl⟩
def B101:Bod Tryz.prog:=⟨101,Tryz.f101,Tryz.f101.body.getD .skip,Tryz.func101,by kernel_rfl,by kernel_rfl,zai.no _ _⟩
def Tb101:Tb Tryz.prog:= {T:= [Y2,Y75,Y78],mix:=mix,Es:= [E_math_bits_Mul64],Bs:= [],d:=1}
def t_impl_WideMul (a0:I64) (a1:I64):Tr (Wide):=
 let c1:=zcq (Rng.w .u64 (a0.val)) (Rng.w .u64 (a1.val));.br (decide (a0.val<0)) (let c2:=(Rng.w .u64 (c1.a.val-(Rng.w .u64 (a1.val)).val));.br (decide (a1.val<0)) (.leaf ⟨(Rng.w .i64 ((Rng.w .u64 (c2.val-(Rng.w .u64 (a0.val)).val)).val)),c1.b⟩) (.leaf ⟨(Rng.w .i64 (c2.val)),c1.b⟩)) (.br (decide (a1.val<0)) (.leaf ⟨(Rng.w .i64 ((Rng.w .u64 (c1.a.val-(Rng.w .u64 (a0.val)).val)).val)),c1.b⟩) (.leaf ⟨(Rng.w .i64 (c1.a.val)),c1.b⟩))
theorem r_impl_WideMul (a0:I64) (a1:I64):Tb101.run B101 [enc a0,enc a1] (Wide)=(t_impl_WideMul a0 a1).opt:=by kernel_rfl
def zaW:I64->I64->Wide:=fun a0 a1=>(t_impl_WideMul a0 a1).get
theorem u_impl_WideMul (a0:I64) (a1:I64):(t_impl_WideMul a0 a1).opt=some (zaW a0 a1):=Tr.zW (by kernel_rfl)
def zdX:Ent Tryz.prog:= .of2 Tb101 B101 (fun _ _=>true) zaW fun a0 a1 _=>(r_impl_WideMul a0 a1).trans (u_impl_WideMul a0 a1)
def Y3:TyE Tryz.prog:=⟨3,1,(.int .i64),[.i64 ⟨0,rfl⟩],false,by kernel_rfl,by kernel_rfl,by kernel_rfl,by kernel_rfl,by kernel_rfl,by kernel_rfl⟩
def Y5:TyE Tryz.prog:=⟨5,1,(.int .u8),[.u8 ⟨0,rfl⟩],false,by kernel_rfl,by kernel_rfl,by kernel_rfl,by kernel_rfl,by kernel_rfl,by kernel_rfl⟩
def Y9:TyE Tryz.prog:=⟨9,1,.str,[.str ByteArray.empty],false,by kernel_rfl,by kernel_rfl,by kernel_rfl,by kernel_rfl,by kernel_rfl,by kernel_rfl⟩
def zfw (i:Nat):ByteArray:=(codeStrs (Tryz.f189.body.getD .skip)).getD i ByteArray.empty
def B189:Bod Tryz.prog:=⟨189,Tryz.f189,Tryz.f189.body.getD .skip,Tryz.func189,by kernel_rfl,by kernel_rfl,zai.no _ _⟩
def Tb189:Tb Tryz.prog:= {T:= [Y3,Y5,Y9,Y75],mix:=mix,Es:= [],Bs:= [],d:=1}
def zda (a0:U64):Tr (I64):=
 .br (decide (a0.val>=4294967296)) (let c2:=(Rng.w .u64 (a0.val.fdiv 4294967296));.br (decide (c2.val>=65536)) (let c4:=(Rng.w .u64 (c2.val.fdiv 65536));.br (decide (c4.val>=256)) (let c5:=(Rng.w .u64 (c4.val.fdiv 256));.br (Nat.blt ((Rng.w .u8 (c5.val)).val.toNat) (zfw 0).size) (.leaf (Rng.w .i64 (56+(Rng.w .i64 ((strAt (zfw 0) ((Rng.w .u8 (c5.val)).val.toNat)).val)).val))) (.bad)) (.br (Nat.blt ((Rng.w .u8 (c4.val)).val.toNat) (zfw 0).size) (.leaf (Rng.w .i64 (48+(Rng.w .i64 ((strAt (zfw 0) ((Rng.w .u8 (c4.val)).val.toNat)).val)).val))) (.bad))) (.br (decide (c2.val>=256)) (let c10:=(Rng.w .u64 (c2.val.fdiv 256));.br (Nat.blt ((Rng.w .u8 (c10.val)).val.toNat) (zfw 0).size) (.leaf (Rng.w .i64 (40+(Rng.w .i64 ((strAt (zfw 0) ((Rng.w .u8 (c10.val)).val.toNat)).val)).val))) (.bad)) (.br (Nat.blt ((Rng.w .u8 (c2.val)).val.toNat) (zfw 0).size) (.leaf (Rng.w .i64 (32+(Rng.w .i64 ((strAt (zfw 0) ((Rng.w .u8 (c2.val)).val.toNat)).val)).val))) (.bad)))) (.br (decide (a0.val>=65536)) (let c16:=(Rng.w .u64 (a0.val.fdiv 65536));.br (decide (c16.val>=256)) (let c17:=(Rng.w .u64 (c16.val.fdiv 256));.br (Nat.blt ((Rng.w .u8 (c17.val)).val.toNat) (zfw 0).size) (.leaf (Rng.w .i64 (24+(Rng.w .i64 ((strAt (zfw 0) ((Rng.w .u8 (c17.val)).val.toNat)).val)).val))) (.bad)) (.br (Nat.blt ((Rng.w .u8 (c16.val)).val.toNat) (zfw 0).size) (.leaf (Rng.w .i64 (16+(Rng.w .i64 ((strAt (zfw 0) ((Rng.w .u8 (c16.val)).val.toNat)).val)).val))) (.bad))) (.br (decide (a0.val>=256)) (let c22:=(Rng.w .u64 (a0.val.fdiv 256));.br (Nat.blt ((Rng.w .u8 (c22.val)).val.toNat) (zfw 0).size) (.leaf (Rng.w .i64 (8+(Rng.w .i64 ((strAt (zfw 0) ((Rng.w .u8 (c22.val)).val.toNat)).val)).val))) (.bad)) (.br (Nat.blt ((Rng.w .u8 (a0.val)).val.toNat) (zfw 0).size) (.leaf (Rng.w .i64 (0+(Rng.w .i64 ((strAt (zfw 0) ((Rng.w .u8 (a0.val)).val.toNat)).val)).val))) (.bad))))
theorem r_math_bits_Len64 (a0:U64):Tb189.run B189 [enc a0] (I64)=(zda a0).opt:=by kernel_rfl
def F_math_bits_Len64:U64->I64:=fun a0=>(zda a0).get
def zex:U64->Bool:=fun a0=>(zda a0).opt.isSome
def E_math_bits_Len64:Ent Tryz.prog:= .of1 Tb189 B189 zex F_math_bits_Len64 fun a0 h=>(r_math_bits_Len64 a0).trans (Tr.get_some h)
def B208:Bod Tryz.prog:=⟨208,Tryz.f208,Tryz.f208.body.getD .skip,Tryz.func208,by kernel_rfl,by kernel_rfl,zai.no _ _⟩
def Tb208:Tb Tryz.prog:= {T:= [],mix:=mix,Es:= [E_math_bits_Len64],Bs:= [],d:=1}
def zbg (a0:U64):Tr (I64):=
 .br (zex a0) (.leaf (Rng.w .i64 (64-(F_math_bits_Len64 a0).val))) (.bad)
theorem r_math_bits_LeadingZeros64 (a0:U64):Tb208.run B208 [enc a0] (I64)=(zbg a0).opt:=by kernel_rfl
def zcz:U64->I64:=fun a0=>(zbg a0).get
def zbN:U64->Bool:=fun a0=>(zbg a0).opt.isSome
def E_math_bits_LeadingZeros64:Ent Tryz.prog:= .of1 Tb208 B208 zbN zcz fun a0 h=>(r_math_bits_LeadingZeros64 a0).trans (Tr.get_some h)
structure zay where
 x0:U64
 x1:U64
 x2:U64
 x3:U64
 x4:U64
 x5:U64
 x6:U64
 x7:U64
 x8:U64
instance:Inhabited zay:=⟨⟨default,default,default,default,default,default,default,default,default⟩⟩
def st_math_bits_Div64_17 (x:zay):St:=⟨[(2,.u64 x.x0),(8,.u64 x.x1),(9,.u64 x.x2),(10,.u64 x.x3),(11,.u64 x.x4),(13,.u64 x.x5),(14,.u64 x.x6),(15,.u64 x.x7),(16,.u64 x.x8)],135,⟨[],0,0⟩⟩
def rd_math_bits_Div64_17:St->Option zay:=fun s=>match s with
 | ⟨[(2,.u64 x0),(8,.u64 x1),(9,.u64 x2),(10,.u64 x3),(11,.u64 x4),(13,.u64 x5),(14,.u64 x6),(15,.u64 x7),(16,.u64 x8)],135,⟨[],0,0⟩⟩=>some ⟨x0,x1,x2,x3,x4,x5,x6,x7,x8⟩
 | _=>none
def zaw (x:zay):Tr (Lp zay):=
 .br (decide (x.x7.val>=4294967296)) (let c19:=(Rng.w .u64 (x.x7.val-1));let c20:=(Rng.w .u64 (x.x8.val+x.x2.val));.br (decide (c20.val>=4294967296)) (.leaf (.out ⟨x.x0,x.x1,x.x2,x.x3,x.x4,x.x5,x.x6,c19,c20⟩)) (.leaf (.again ⟨x.x0,x.x1,x.x2,x.x3,x.x4,x.x5,x.x6,c19,c20⟩))) (.br (decide ((Rng.w .u64 (x.x7.val*x.x3.val)).val>(Rng.w .u64 ((Rng.w .u64 (4294967296*x.x8.val)).val+x.x5.val)).val)) (let c26:=(Rng.w .u64 (x.x7.val-1));let c27:=(Rng.w .u64 (x.x8.val+x.x2.val));.br (decide (c27.val>=4294967296)) (.leaf (.out ⟨x.x0,x.x1,x.x2,x.x3,x.x4,x.x5,x.x6,c26,c27⟩)) (.leaf (.again ⟨x.x0,x.x1,x.x2,x.x3,x.x4,x.x5,x.x6,c26,c27⟩))) (.leaf (.out ⟨x.x0,x.x1,x.x2,x.x3,x.x4,x.x5,x.x6,x.x7,x.x8⟩)))
def zc5 (x:zay):Bool:=(Lf zaw 4 x).opt.isSome
def zeO (x:zay):zay:=(Lf zaw 4 x).get
def TbL_math_bits_Div64_17:Tb Tryz.prog:= {T:= [],mix:=mix,Es:= [],Bs:= [],d:=1}
def zeM:LpF:=loopF [2,8,9,10,11,13,14,15,16] [] 0 rd_math_bits_Div64_17 st_math_bits_Div64_17 (.exit 0) zc5 zeO
theorem lok_math_bits_Div64_17:LoopOk Tryz.prog (loopAt (Tryz.f194.body.getD .skip) 0) zeM:=loopF_ok (t:=TbL_math_bits_Div64_17) (lt:=fun _=>none) (body:=zaw) (n:=4) (by intro h;cases h) (fun _ _ _ h=>by cases h)
 (by intro s x h;unfold rd_math_bits_Div64_17 at h;split at h<;>cases h;rfl) (fun x b cs h=>lk_lt (l:=(st_math_bits_Div64_17 x).mm.blks) (by kernel_rfl) h) (by intro x;kernel_rfl) (fun x h=>Tr.get_some h)
structure zax where
 x0:U64
 x1:U64
 x2:U64
 x3:U64
 x4:U64
 x5:U64
 x6:U64
 x7:U64
 x8:U64
instance:Inhabited zax:=⟨⟨default,default,default,default,default,default,default,default,default⟩⟩
def st_math_bits_Div64_24 (x:zax):St:=⟨[(2,.u64 x.x0),(8,.u64 x.x1),(9,.u64 x.x2),(10,.u64 x.x3),(14,.u64 x.x4),(15,.u64 x.x5),(16,.u64 x.x6),(17,.u64 x.x7),(18,.u64 x.x8)],135,⟨[],0,0⟩⟩
def rd_math_bits_Div64_24:St->Option zax:=fun s=>match s with
 | ⟨[(2,.u64 x0),(8,.u64 x1),(9,.u64 x2),(10,.u64 x3),(14,.u64 x4),(15,.u64 x5),(16,.u64 x6),(17,.u64 x7),(18,.u64 x8)],135,⟨[],0,0⟩⟩=>some ⟨x0,x1,x2,x3,x4,x5,x6,x7,x8⟩
 | _=>none
def zav (x:zax):Tr (Lp zax):=
 .br (decide (x.x8.val>=4294967296)) (let c38:=(Rng.w .u64 (x.x8.val-1));let c39:=(Rng.w .u64 (x.x6.val+x.x2.val));.br (decide (c39.val>=4294967296)) (.leaf (.out ⟨x.x0,x.x1,x.x2,x.x3,x.x4,x.x5,c39,x.x7,c38⟩)) (.leaf (.again ⟨x.x0,x.x1,x.x2,x.x3,x.x4,x.x5,c39,x.x7,c38⟩))) (.br (decide ((Rng.w .u64 (x.x8.val*x.x3.val)).val>(Rng.w .u64 ((Rng.w .u64 (4294967296*x.x6.val)).val+x.x4.val)).val)) (let c45:=(Rng.w .u64 (x.x8.val-1));let c46:=(Rng.w .u64 (x.x6.val+x.x2.val));.br (decide (c46.val>=4294967296)) (.leaf (.out ⟨x.x0,x.x1,x.x2,x.x3,x.x4,x.x5,c46,x.x7,c45⟩)) (.leaf (.again ⟨x.x0,x.x1,x.x2,x.x3,x.x4,x.x5,c46,x.x7,c45⟩))) (.leaf (.out ⟨x.x0,x.x1,x.x2,x.x3,x.x4,x.x5,x.x6,x.x7,x.x8⟩)))
def zc4 (x:zax):Bool:=(Lf zav 4 x).opt.isSome
def zeN (x:zax):zax:=(Lf zav 4 x).get
def TbL_math_bits_Div64_24:Tb Tryz.prog:= {T:= [],mix:=mix,Es:= [],Bs:= [],d:=1}
def zeL:LpF:=loopF [2,8,9,10,14,15,16,17,18] [] 0 rd_math_bits_Div64_24 st_math_bits_Div64_24 (.exit 2) zc4 zeN
theorem lok_math_bits_Div64_24:LoopOk Tryz.prog (loopAt (Tryz.f194.body.getD .skip) 1) zeL:=loopF_ok (t:=TbL_math_bits_Div64_24) (lt:=fun _=>none) (body:=zav) (n:=4) (by intro h;cases h) (fun _ _ _ h=>by cases h)
 (by intro s x h;unfold rd_math_bits_Div64_24 at h;split at h<;>cases h;rfl) (fun x b cs h=>lk_lt (l:=(st_math_bits_Div64_24 x).mm.blks) (by kernel_rfl) h) (by intro x;kernel_rfl) (fun x h=>Tr.get_some h)
def Y86:TyE Tryz.prog:=⟨86,1,(.int .u64),[.u64 ⟨0,rfl⟩],false,by kernel_rfl,by kernel_rfl,by kernel_rfl,by kernel_rfl,by kernel_rfl,by kernel_rfl⟩
def B194:Bod Tryz.prog:=⟨194,Tryz.f194,Tryz.f194.body.getD .skip,Tryz.func194,by kernel_rfl,by kernel_rfl,⟨ltOf [(17,zeM),(24,zeL)],zai.of (ks:= [17,24]) (by kernel_rfl) (by
 intro i k h f hf
 match i,h with
 | 0,h=>cases h;obtain rfl:zeM=f:=Option.some.inj hf;exact lok_math_bits_Div64_17
 | 1,h=>cases h;obtain rfl:zeL=f:=Option.some.inj hf;exact lok_math_bits_Div64_24
 | n+2,h=>simp at h)⟩⟩
def Tb194:Tb Tryz.prog:= {T:= [Y3,Y86],mix:=mix,Es:= [E_math_bits_LeadingZeros64],Bs:= [],d:=1}
def zcn (a0:U64) (a1:U64) (a2:U64):Tr (T2 U64 U64):=
 .br (a2.val==0) (.bad) (.br (decide (a2.val<=a0.val)) (.bad) (.br (a0.val==0) (.br (a2.val==0) (.bad) (.br (a2.val==0) (.bad) (.leaf ⟨(Rng.w .u64 (a1.val.tdiv a2.val)),(Rng.w .u64 (a1.val.tmod a2.val))⟩))) (.br (zbN a2) (let c4:=zcz a2;let c5:=(Rng.w .u64 (a2.val*(2^min ((Rng.w .u64 (c4.val)).val).toNat 64)));let c6:=(Rng.w .u64 (c5.val.fdiv 4294967296));let c7:=(Rng.w .u64 (zaN .and .u64 c5.val 4294967295));let c11:=(Rng.w .u64 (zaN .or .u64 (Rng.w .u64 (a0.val*(2^min ((Rng.w .u64 (c4.val)).val).toNat 64))).val (Rng.w .u64 (a1.val.fdiv (2^min ((Rng.w .u64 (64-(Rng.w .u64 (c4.val)).val)).val).toNat 64))).val));let c12:=(Rng.w .u64 (a1.val*(2^min ((Rng.w .u64 (c4.val)).val).toNat 64)));let c13:=(Rng.w .u64 (c12.val.fdiv 4294967296));let c14:=(Rng.w .u64 (zaN .and .u64 c12.val 4294967295));.br (c6.val==0) (.bad) (let c15:=(Rng.w .u64 (c11.val.tdiv c6.val));let c17:=(Rng.w .u64 (c11.val-(Rng.w .u64 (c15.val*c6.val)).val));.br (zc5 ⟨c5,(Rng.w .u64 (c4.val)),c6,c7,c11,c13,c14,c15,c17⟩) (let c29:=zeO ⟨c5,(Rng.w .u64 (c4.val)),c6,c7,c11,c13,c14,c15,c17⟩;let c33:=(Rng.w .u64 ((Rng.w .u64 ((Rng.w .u64 (c29.x4.val*4294967296)).val+c29.x5.val)).val-(Rng.w .u64 (c29.x7.val*c29.x0.val)).val));.br (c29.x2.val==0) (.bad) (let c34:=(Rng.w .u64 (c33.val.tdiv c29.x2.val));let c36:=(Rng.w .u64 (c33.val-(Rng.w .u64 (c34.val*c29.x2.val)).val));.br (zc4 ⟨c29.x0,c29.x1,c29.x2,c29.x3,c29.x6,c29.x7,c36,c33,c34⟩) (let c48:=zeN ⟨c29.x0,c29.x1,c29.x2,c29.x3,c29.x6,c29.x7,c36,c33,c34⟩;.leaf ⟨(Rng.w .u64 ((Rng.w .u64 (c48.x5.val*4294967296)).val+c48.x8.val)),(Rng.w .u64 ((Rng.w .u64 ((Rng.w .u64 ((Rng.w .u64 (c48.x7.val*4294967296)).val+c48.x4.val)).val-(Rng.w .u64 (c48.x8.val*c48.x0.val)).val)).val.fdiv (2^min (c48.x1.val).toNat 64)))⟩) (.bad))) (.bad))) (.bad))))
theorem r_math_bits_Div64 (a0:U64) (a1:U64) (a2:U64):Tb194.run B194 [enc a0,enc a1,enc a2] (T2 U64 U64)=(zcn a0 a1 a2).opt:=by kernel_rfl
def F_math_bits_Div64:U64->U64->U64->T2 U64 U64:=fun a0 a1 a2=>(zcn a0 a1 a2).get
def zey:U64->U64->U64->Bool:=fun a0 a1 a2=>(zcn a0 a1 a2).opt.isSome
def E_math_bits_Div64:Ent Tryz.prog:= .of3 Tb194 B194 zey F_math_bits_Div64 fun a0 a1 a2 h=>(r_math_bits_Div64 a0 a1 a2).trans (Tr.get_some h)
def B158:Bod Tryz.prog:=⟨158,Tryz.f158,Tryz.f158.body.getD .skip,Tryz.func158,by kernel_rfl,by kernel_rfl,zai.no _ _⟩
def Tb158:Tb Tryz.prog:= {T:= [],mix:=mix,Es:= [E_math_bits_Div64],Bs:= [],d:=1}
def zeQ (a0:U64) (a1:U64) (a2:U64):Tr (T3 U64 U64 U64):=
 .br (a2.val==0) (.bad) (.br (a2.val==0) (.bad) (let c2:=(Rng.w .u64 (a0.val.tmod a2.val));.br (zey c2 a1 a2) (let c3:=F_math_bits_Div64 c2 a1 a2;.leaf ⟨(Rng.w .u64 (a0.val.tdiv a2.val)),c3.a,c3.b⟩) (.bad)))
theorem r_impl_divided (a0:U64) (a1:U64) (a2:U64):Tb158.run B158 [enc a0,enc a1,enc a2] (T3 U64 U64 U64)=(zeQ a0 a1 a2).opt:=by kernel_rfl
def F_impl_divided:U64->U64->U64->T3 U64 U64 U64:=fun a0 a1 a2=>(zeQ a0 a1 a2).get
def zeW:U64->U64->U64->Bool:=fun a0 a1 a2=>(zeQ a0 a1 a2).opt.isSome
def E_impl_divided:Ent Tryz.prog:= .of3 Tb158 B158 zeW F_impl_divided fun a0 a1 a2 h=>(r_impl_divided a0 a1 a2).trans (Tr.get_some h)
def B159:Bod Tryz.prog:=⟨159,Tryz.f159,Tryz.f159.body.getD .skip,Tryz.func159,by kernel_rfl,by kernel_rfl,zai.no _ _⟩
def Tb159:Tb Tryz.prog:= {T:= [Y2,Y75,Y78],mix:=mix,Es:= [E_math_bits_Sub64],Bs:= [],d:=1}
def zcb (a0:Wide):Tr (Wide):=
 let c1:=zdk ⟨0,rfl⟩ a0.lo ⟨0,rfl⟩;.br (G_carry ⟨0,rfl⟩ (Rng.w .u64 (a0.hi.val)) c1.b) (.leaf ⟨(Rng.w .i64 ((zdk ⟨0,rfl⟩ (Rng.w .u64 (a0.hi.val)) c1.b).a.val)),c1.a⟩) (.bad)
theorem r_impl_Wide_negative (a0:Wide):Tb159.run B159 [enc a0] (Wide)=(zcb a0).opt:=by kernel_rfl
def zcd:Wide->Wide:=fun a0=>(zcb a0).get
def zbI:Wide->Bool:=fun a0=>(zcb a0).opt.isSome
def E_impl_Wide_negative:Ent Tryz.prog:= .of1 Tb159 B159 zbI zcd fun a0 h=>(r_impl_Wide_negative a0).trans (Tr.get_some h)
def B128:Bod Tryz.prog:=⟨128,Tryz.f128,Tryz.f128.body.getD .skip,Tryz.func128,by kernel_rfl,by kernel_rfl,zai.no _ _⟩
def Tb128:Tb Tryz.prog:= {T:= [Y2,Y75,Y78],mix:=mix,Es:= [E_math_bits_Add64,E_impl_divided,E_impl_Wide_negative],Bs:= [],d:=1}
def zcV (a0:Wide) (a1:I64):Tr (T3 Wide I64 Bool):=
 .br (decide (a1.val<=0)) (.leaf ⟨⟨⟨0,rfl⟩,⟨0,rfl⟩⟩,⟨0,rfl⟩,false⟩) (.br (decide (a0.hi.val>=0)) (.br (zeW (Rng.w .u64 (a0.hi.val)) a0.lo (Rng.w .u64 (a1.val))) (let c1:=F_impl_divided (Rng.w .u64 (a0.hi.val)) a0.lo (Rng.w .u64 (a1.val));.leaf ⟨⟨(Rng.w .i64 (c1.a.val)),c1.b⟩,(Rng.w .i64 (c1.c.val)),true⟩) (.bad)) (.br (zbI a0) (let c2:=zcd a0;.br (zeW (Rng.w .u64 (c2.hi.val)) c2.lo (Rng.w .u64 (a1.val))) (let c3:=F_impl_divided (Rng.w .u64 (c2.hi.val)) c2.lo (Rng.w .u64 (a1.val));.br (c3.c.val==0) (.br (zbI ⟨(Rng.w .i64 (c3.a.val)),c3.b⟩) (.leaf ⟨(zcd ⟨(Rng.w .i64 (c3.a.val)),c3.b⟩),⟨0,rfl⟩,true⟩) (.bad)) (let c5:=zan c3.b ⟨1,rfl⟩ ⟨0,rfl⟩;let c6:=(Rng.w .u64 (c3.a.val+c5.b.val));.br (zbI ⟨(Rng.w .i64 (c6.val)),c5.a⟩) (.leaf ⟨(zcd ⟨(Rng.w .i64 (c6.val)),c5.a⟩),(Rng.w .i64 (a1.val-(Rng.w .i64 (c3.c.val)).val)),true⟩) (.bad))) (.bad)) (.bad)))
theorem r_impl_WideDiv (a0:Wide) (a1:I64):Tb128.run B128 [enc a0,enc a1] (T3 Wide I64 Bool)=(zcV a0 a1).opt:=by kernel_rfl
def zdV:Wide->I64->T3 Wide I64 Bool:=fun a0 a1=>(zcV a0 a1).get
def zbR:Wide->I64->Bool:=fun a0 a1=>(zcV a0 a1).opt.isSome
def E_impl_WideDiv:Ent Tryz.prog:= .of2 Tb128 B128 zbR zdV fun a0 a1 h=>(r_impl_WideDiv a0 a1).trans (Tr.get_some h)
def B160:Bod Tryz.prog:=⟨160,Tryz.f160,Tryz.f160.body.getD .skip,Tryz.func160,by kernel_rfl,by kernel_rfl,zai.no _ _⟩
def Tb160:Tb Tryz.prog:= {T:= [Y2,Y75,Y78],mix:=mix,Es:= [],Bs:= [],d:=1}
def t_impl_WideOf (a0:I64):Tr (Wide):=
 .leaf ⟨(Rng.w .i64 (a0.val.fdiv 9223372036854775808)),(Rng.w .u64 (a0.val))⟩
theorem r_impl_WideOf (a0:I64):Tb160.run B160 [enc a0] (Wide)=(t_impl_WideOf a0).opt:=by kernel_rfl
def zeD:I64->Wide:=fun a0=>(t_impl_WideOf a0).get
theorem u_impl_WideOf (a0:I64):(t_impl_WideOf a0).opt=some (zeD a0):=Tr.zW (by kernel_rfl)
def E_impl_WideOf:Ent Tryz.prog:= .of1 Tb160 B160 (fun _=>true) zeD fun a0 _=>(r_impl_WideOf a0).trans (u_impl_WideOf a0)
def B129:Bod Tryz.prog:=⟨129,Tryz.f129,Tryz.f129.body.getD .skip,Tryz.func129,by kernel_rfl,by kernel_rfl,zai.no _ _⟩
def Tb129:Tb Tryz.prog:= {T:= [Y2,Y75,Y78],mix:=mix,Es:= [E_impl_WideOf],Bs:= [],d:=1}
def t_impl_WideInt (a0:Wide):Tr (T2 I64 Bool):=
 let c1:=zeD (Rng.w .i64 (a0.lo.val));.br (!((c1.hi.val==a0.hi.val)&&((c1.lo.val==a0.lo.val)&&true))) (.leaf ⟨⟨0,rfl⟩,false⟩) (.leaf ⟨(Rng.w .i64 (a0.lo.val)),true⟩)
theorem r_impl_WideInt (a0:Wide):Tb129.run B129 [enc a0] (T2 I64 Bool)=(t_impl_WideInt a0).opt:=by kernel_rfl
def zdU:Wide->T2 I64 Bool:=fun a0=>(t_impl_WideInt a0).get
theorem u_impl_WideInt (a0:Wide):(t_impl_WideInt a0).opt=some (zdU a0):=Tr.zW (by kernel_rfl)
def E_impl_WideInt:Ent Tryz.prog:= .of1 Tb129 B129 (fun _=>true) zdU fun a0 _=>(r_impl_WideInt a0).trans (u_impl_WideInt a0)
def B103:Bod Tryz.prog:=⟨103,Tryz.f103,Tryz.f103.body.getD .skip,Tryz.func103,by kernel_rfl,by kernel_rfl,zai.no _ _⟩
def Tb103:Tb Tryz.prog:= {T:= [Y2,Y75,Y78],mix:=mix,Es:= [zdX,E_impl_WideDiv,E_impl_WideInt],Bs:= [],d:=1}
def zbB (a0:I64) (a1:I64) (a2:I64):Tr (T2 I64 Bool):=
 let c1:=zaW a0 a1;.br (zbR c1 a2) (let c2:=zdV c1 a2;.br (!c2.c) (.leaf ⟨⟨0,rfl⟩,false⟩) (let c3:=zdU c2.a;.leaf ⟨c3.a,c3.b⟩)) (.bad)
theorem r_impl_MulDivFloor (a0:I64) (a1:I64) (a2:I64):Tb103.run B103 [enc a0,enc a1,enc a2] (T2 I64 Bool)=(zbB a0 a1 a2).opt:=by kernel_rfl
def zaP:I64->I64->I64->T2 I64 Bool:=fun a0 a1 a2=>(zbB a0 a1 a2).get
def zbk:I64->I64->I64->Bool:=fun a0 a1 a2=>(zbB a0 a1 a2).opt.isSome
def zfS:Ent Tryz.prog:= .of3 Tb103 B103 zbk zaP fun a0 a1 a2 h=>(r_impl_MulDivFloor a0 a1 a2).trans (Tr.get_some h)
def B104:Bod Tryz.prog:=⟨104,Tryz.f104,Tryz.f104.body.getD .skip,Tryz.func104,by kernel_rfl,by kernel_rfl,zai.no _ _⟩
def Tb104:Tb Tryz.prog:= {T:= [],mix:=mix,Es:= [zbf],Bs:= [],d:=1}
def zeb (a0:I64):Tr (Bool):=
 .leaf (zal a0 ⟨(-1152921504606846976),rfl⟩ ⟨1152921504606846976,rfl⟩)
theorem r_impl_ValidFix (a0:I64):Tb104.run B104 [enc a0] (Bool)=(zeb a0).opt:=by kernel_rfl
def zaC:I64->Bool:=fun a0=>(zeb a0).get
theorem u_impl_ValidFix (a0:I64):(zeb a0).opt=some (zaC a0):=Tr.zW (by kernel_rfl)
def zdn:Ent Tryz.prog:= .of1 Tb104 B104 (fun _=>true) zaC fun a0 _=>(r_impl_ValidFix a0).trans (u_impl_ValidFix a0)
def B105:Bod Tryz.prog:=⟨105,Tryz.f105,Tryz.f105.body.getD .skip,Tryz.func105,by kernel_rfl,by kernel_rfl,zai.no _ _⟩
def Tb105:Tb Tryz.prog:= {T:= [],mix:=mix,Es:= [zdn],Bs:= [],d:=1}
def t_impl_fixed (a0:I64) (a1:Bool):Tr (T2 I64 Bool):=
 .br (!a1) (.leaf ⟨⟨0,rfl⟩,false⟩) (.br (!(zaC a0)) (.leaf ⟨⟨0,rfl⟩,false⟩) (.leaf ⟨a0,true⟩))
theorem r_impl_fixed (a0:I64) (a1:Bool):Tb105.run B105 [enc a0,enc a1] (T2 I64 Bool)=(t_impl_fixed a0 a1).opt:=by kernel_rfl
def zbw:I64->Bool->T2 I64 Bool:=fun a0 a1=>(t_impl_fixed a0 a1).get
theorem u_impl_fixed (a0:I64) (a1:Bool):(t_impl_fixed a0 a1).opt=some (zbw a0 a1):=Tr.zW (by kernel_rfl)
def zfv:Ent Tryz.prog:= .of2 Tb105 B105 (fun _ _=>true) zbw fun a0 a1 _=>(r_impl_fixed a0 a1).trans (u_impl_fixed a0 a1)
def B115:Bod Tryz.prog:=⟨115,Tryz.f115,Tryz.f115.body.getD .skip,Tryz.func115,by kernel_rfl,by kernel_rfl,zai.no _ _⟩
def Tb115:Tb Tryz.prog:= {T:= [],mix:=mix,Es:= [zfS,zfv],Bs:= [],d:=1}
def zec (a0:I64) (a1:I64):Tr (T2 I64 Bool):=
 .br (zbk a0 ⟨4294967296,rfl⟩ a1) (let c1:=zaP a0 ⟨4294967296,rfl⟩ a1;let c2:=zbw c1.a c1.b;.leaf ⟨c2.a,c2.b⟩) (.bad)
theorem r_impl_FixFloor (a0:I64) (a1:I64):Tb115.run B115 [enc a0,enc a1] (T2 I64 Bool)=(zec a0 a1).opt:=by kernel_rfl
def zfQ:I64->I64->T2 I64 Bool:=fun a0 a1=>(zec a0 a1).get
def zef:I64->I64->Bool:=fun a0 a1=>(zec a0 a1).opt.isSome
def E_impl_FixFloor:Ent Tryz.prog:= .of2 Tb115 B115 zef zfQ fun a0 a1 h=>(r_impl_FixFloor a0 a1).trans (Tr.get_some h)
def B142:Bod Tryz.prog:=⟨142,Tryz.f142,Tryz.f142.body.getD .skip,Tryz.func142,by kernel_rfl,by kernel_rfl,zai.no _ _⟩
def Tb142:Tb Tryz.prog:= {T:= [Y2,Y75,Y78],mix:=mix,Es:= [zdX,E_impl_WideDiv,E_impl_WideInt],Bs:= [],d:=1}
def zbO (a0:I64) (a1:I64) (a2:I64):Tr (T2 I64 Bool):=
 let c1:=zaW a0 a1;.br (zbR c1 a2) (let c2:=zdV c1 a2;.br (!c2.c) (.leaf ⟨⟨0,rfl⟩,false⟩) (let c3:=zdU c2.a;.br (!c3.b) (.leaf ⟨⟨0,rfl⟩,false⟩) (.br (decide (c2.b.val>0)) (.br (c3.a.val==9223372036854775807) (.leaf ⟨⟨0,rfl⟩,false⟩) (.br (decide (c2.b.val>0)) (.leaf ⟨(Rng.w .i64 (c3.a.val+1)),true⟩) (.leaf ⟨c3.a,true⟩))) (.br (decide (c2.b.val>0)) (.leaf ⟨(Rng.w .i64 (c3.a.val+1)),true⟩) (.leaf ⟨c3.a,true⟩))))) (.bad)
theorem r_impl_mulDivCeil (a0:I64) (a1:I64) (a2:I64):Tb142.run B142 [enc a0,enc a1,enc a2] (T2 I64 Bool)=(zbO a0 a1 a2).opt:=by kernel_rfl
def zeC:I64->I64->I64->T2 I64 Bool:=fun a0 a1 a2=>(zbO a0 a1 a2).get
def zcp:I64->I64->I64->Bool:=fun a0 a1 a2=>(zbO a0 a1 a2).opt.isSome
def E_impl_mulDivCeil:Ent Tryz.prog:= .of3 Tb142 B142 zcp zeC fun a0 a1 a2 h=>(r_impl_mulDivCeil a0 a1 a2).trans (Tr.get_some h)
def B116:Bod Tryz.prog:=⟨116,Tryz.f116,Tryz.f116.body.getD .skip,Tryz.func116,by kernel_rfl,by kernel_rfl,zai.no _ _⟩
def Tb116:Tb Tryz.prog:= {T:= [],mix:=mix,Es:= [zfv,E_impl_mulDivCeil],Bs:= [],d:=1}
def zdP (a0:I64) (a1:I64):Tr (T2 I64 Bool):=
 .br (zcp a0 ⟨4294967296,rfl⟩ a1) (let c1:=zeC a0 ⟨4294967296,rfl⟩ a1;let c2:=zbw c1.a c1.b;.leaf ⟨c2.a,c2.b⟩) (.bad)
theorem r_impl_FixCeil (a0:I64) (a1:I64):Tb116.run B116 [enc a0,enc a1] (T2 I64 Bool)=(zdP a0 a1).opt:=by kernel_rfl
def F_impl_FixCeil:I64->I64->T2 I64 Bool:=fun a0 a1=>(zdP a0 a1).get
def zeX:I64->I64->Bool:=fun a0 a1=>(zdP a0 a1).opt.isSome
def E_impl_FixCeil:Ent Tryz.prog:= .of2 Tb116 B116 zeX F_impl_FixCeil fun a0 a1 h=>(r_impl_FixCeil a0 a1).trans (Tr.get_some h)
def B98:Bod Tryz.prog:=⟨98,Tryz.f98,Tryz.f98.body.getD .skip,Tryz.func98,by kernel_rfl,by kernel_rfl,zai.no _ _⟩
def Tb98:Tb Tryz.prog:= {T:= [Y2,Y33],mix:=mix,Es:= [],Bs:= [],d:=1}
def zeK (a0:Iv):Tr (Bool):=
 .br (decide ((-1152921504606846976)<a0.lo.val)) (.br (decide (a0.lo.val<=a0.hi.val)) (.leaf (decide (a0.hi.val<1152921504606846976))) (.leaf false)) (.leaf false)
theorem r_impl_ValidInterval (a0:Iv):Tb98.run B98 [enc a0] (Bool)=(zeK a0).opt:=by kernel_rfl
def za4:Iv->Bool:=fun a0=>(zeK a0).get
theorem u_impl_ValidInterval (a0:Iv):(zeK a0).opt=some (za4 a0):=Tr.zW (by kernel_rfl)
def zc6:Ent Tryz.prog:= .of1 Tb98 B98 (fun _=>true) za4 fun a0 _=>(r_impl_ValidInterval a0).trans (u_impl_ValidInterval a0)
def B61:Bod Tryz.prog:=⟨61,Tryz.f61,Tryz.f61.body.getD .skip,Tryz.func61,by kernel_rfl,by kernel_rfl,zai.no _ _⟩
def Tb61:Tb Tryz.prog:= {T:= [Y2,Y33],mix:=mix,Es:= [zaq,zc6],Bs:= [],d:=1}
def t_impl_bounded (a0:I64) (a1:I64) (a2:Bool):Tr (Iv):=
 .br a2 (.br (za4 ⟨a0,a1⟩) (.leaf ⟨a0,a1⟩) (.leaf zJ)) (.leaf zJ)
theorem r_impl_bounded (a0:I64) (a1:I64) (a2:Bool):Tb61.run B61 [enc a0,enc a1,enc a2] (Iv)=(t_impl_bounded a0 a1 a2).opt:=by kernel_rfl
def zaF:I64->I64->Bool->Iv:=fun a0 a1 a2=>(t_impl_bounded a0 a1 a2).get
theorem u_impl_bounded (a0:I64) (a1:I64) (a2:Bool):(t_impl_bounded a0 a1 a2).opt=some (zaF a0 a1 a2):=Tr.zW (by kernel_rfl)
def zck:Ent Tryz.prog:= .of3 Tb61 B61 (fun _ _ _=>true) zaF fun a0 a1 a2 _=>(r_impl_bounded a0 a1 a2).trans (u_impl_bounded a0 a1 a2)
def B80:Bod Tryz.prog:=⟨80,Tryz.f80,Tryz.f80.body.getD .skip,Tryz.func80,by kernel_rfl,by kernel_rfl,zai.no _ _⟩
def Tb80:Tb Tryz.prog:= {T:= [Y2,Y33],mix:=mix,Es:= [zaq,zck,E_impl_FixFloor,E_impl_FixCeil],Bs:= [],d:=1}
def zdf (a0:I64) (a1:I64):Tr (Iv):=
 .br (decide (a1.val<0)) (let c1:=(Rng.w .i64 (0-a0.val));let c2:=(Rng.w .i64 (0-a1.val));.br (decide (c2.val<0)) (.leaf zJ) (.br (c1.val==(-9223372036854775808)) (.leaf zJ) (.br (zef c1 c2) (let c6:=zfQ c1 c2;.br (zeX c1 c2) (let c7:=F_impl_FixCeil c1 c2;.br c6.b (.leaf (zaF c6.a c7.a c7.b)) (.leaf (zaF c6.a c7.a false))) (.bad)) (.bad)))) (.br (zef a0 a1) (let c10:=zfQ a0 a1;.br (zeX a0 a1) (let c11:=F_impl_FixCeil a0 a1;.br c10.b (.leaf (zaF c10.a c11.a c11.b)) (.leaf (zaF c10.a c11.a false))) (.bad)) (.bad))
theorem r_impl_Quotient (a0:I64) (a1:I64):Tb80.run B80 [enc a0,enc a1] (Iv)=(zdf a0 a1).opt:=by kernel_rfl
def zbH:I64->I64->Iv:=fun a0 a1=>(zdf a0 a1).get
def zfM:I64->I64->Bool:=fun a0 a1=>(zdf a0 a1).opt.isSome
def E_impl_Quotient:Ent Tryz.prog:= .of2 Tb80 B80 zfM zbH fun a0 a1 h=>(r_impl_Quotient a0 a1).trans (Tr.get_some h)
def B72:Bod Tryz.prog:=⟨72,Tryz.f72,Tryz.f72.body.getD .skip,Tryz.func72,by kernel_rfl,by kernel_rfl,zai.no _ _⟩
def Tb72:Tb Tryz.prog:= {T:= [Y2,Y33],mix:=mix,Es:= [zaq,E_impl_isHeight,E_impl_Quotient],Bs:= [],d:=1}
def zeS (a0:I64):Tr (Iv):=
 .br (!(zbG a0)) (.leaf zJ) (.br (zfM a0 ⟨1000,rfl⟩) (.leaf (zbH a0 ⟨1000,rfl⟩)) (.bad))
theorem r_impl_HeightI (a0:I64):Tb72.run B72 [enc a0] (Iv)=(zeS a0).opt:=by kernel_rfl
def ze2:I64->Iv:=fun a0=>(zeS a0).get
def B57:Bod Tryz.prog:=⟨57,Tryz.f57,Tryz.f57.body.getD .skip,Tryz.func57,by kernel_rfl,by kernel_rfl,zai.no _ _⟩
def Tb57:Tb Tryz.prog:= {T:= [Y33],mix:=mix,Es:= [zc6],Bs:= [],d:=1}
def zcg (a0:Iv):Tr (Bool):=
 .leaf (!(za4 a0))
theorem r_impl_IsWhole (a0:Iv):Tb57.run B57 [enc a0] (Bool)=(zcg a0).opt:=by kernel_rfl
def zah:Iv->Bool:=fun a0=>(zcg a0).get
theorem u_impl_IsWhole (a0:Iv):(zcg a0).opt=some (zah a0):=Tr.zW (by kernel_rfl)
def zcl:Ent Tryz.prog:= .of1 Tb57 B57 (fun _=>true) zah fun a0 _=>(r_impl_IsWhole a0).trans (u_impl_IsWhole a0)
def B68:Bod Tryz.prog:=⟨68,Tryz.f68,Tryz.f68.body.getD .skip,Tryz.func68,by kernel_rfl,by kernel_rfl,zai.no _ _⟩
def Tb68:Tb Tryz.prog:= {T:= [Y2,Y33],mix:=mix,Es:= [zcl,zaq],Bs:= [],d:=1}
def t_impl_NegI (a0:Iv):Tr (Iv):=
 .br (zah a0) (.leaf zJ) (.leaf ⟨(Rng.w .i64 (0-a0.hi.val)),(Rng.w .i64 (0-a0.lo.val))⟩)
theorem r_impl_NegI (a0:Iv):Tb68.run B68 [enc a0] (Iv)=(t_impl_NegI a0).opt:=by kernel_rfl
def zdA:Iv->Iv:=fun a0=>(t_impl_NegI a0).get
theorem u_impl_NegI (a0:Iv):(t_impl_NegI a0).opt=some (zdA a0):=Tr.zW (by kernel_rfl)
def E_impl_NegI:Ent Tryz.prog:= .of1 Tb68 B68 (fun _=>true) zdA fun a0 _=>(r_impl_NegI a0).trans (u_impl_NegI a0)
def B63:Bod Tryz.prog:=⟨63,Tryz.f63,Tryz.f63.body.getD .skip,Tryz.func63,by kernel_rfl,by kernel_rfl,zai.no _ _⟩
def Tb63_p:Tb Tryz.prog:= {T:= [Y2,Y33],mix:=mix,Es:= [zaq,zbf,zfS],Bs:= [],d:=1}
def zcM (a0:I64):Tr (Iv):=
 .br (!(zal a0 ⟨(-36000000000),rfl⟩ ⟨36000000000,rfl⟩)) (.leaf zJ) (.br (decide (a0.val<0)) (.bad) (.br (a0.val==0) (.leaf ⟨⟨0,rfl⟩,⟨0,rfl⟩⟩) (.br (zbk a0 ⟨7244019458077122842,rfl⟩ ⟨966367641600000000,rfl⟩) (.br (zbk a0 ⟨7244019458077122843,rfl⟩ ⟨966367641600000000,rfl⟩) (.leaf ⟨(zaP a0 ⟨7244019458077122842,rfl⟩ ⟨966367641600000000,rfl⟩).a,(Rng.w .i64 ((zaP a0 ⟨7244019458077122843,rfl⟩ ⟨966367641600000000,rfl⟩).a.val+1))⟩) (.bad)) (.bad))))
theorem r_impl_RadiansOf_p (a0:I64):Tb63_p.run B63 [enc a0] (Iv)=(zcM a0).opt:=by kernel_rfl
def zfO:I64->Iv:=fun a0=>(zcM a0).get
def zd5:I64->Bool:=fun a0=>(zcM a0).opt.isSome
def E_impl_RadiansOf_p:Ent Tryz.prog:= .of1 Tb63_p B63 zd5 zfO fun a0 h=>(r_impl_RadiansOf_p a0).trans (Tr.get_some h)
def Tb63:Tb Tryz.prog:= {T:= [Y2,Y33],mix:=mix,Es:= [zaq,E_impl_RadiansOf_p,E_impl_NegI,zbf,zfS],Bs:= [],d:=1}
def zdE (a0:I64):Tr (Iv):=
 .br (!(zal a0 ⟨(-36000000000),rfl⟩ ⟨36000000000,rfl⟩)) (.leaf zJ) (.br (decide (a0.val<0)) (let c3:=(Rng.w .i64 (0-a0.val));.br (zd5 c3) (.leaf (zdA (zfO c3))) (.bad)) (.br (a0.val==0) (.leaf ⟨⟨0,rfl⟩,⟨0,rfl⟩⟩) (.br (zbk a0 ⟨7244019458077122842,rfl⟩ ⟨966367641600000000,rfl⟩) (.br (zbk a0 ⟨7244019458077122843,rfl⟩ ⟨966367641600000000,rfl⟩) (.leaf ⟨(zaP a0 ⟨7244019458077122842,rfl⟩ ⟨966367641600000000,rfl⟩).a,(Rng.w .i64 ((zaP a0 ⟨7244019458077122843,rfl⟩ ⟨966367641600000000,rfl⟩).a.val+1))⟩) (.bad)) (.bad))))
theorem r_impl_RadiansOf (a0:I64):Tb63.run B63 [enc a0] (Iv)=(zdE a0).opt:=by kernel_rfl
def zdM:I64->Iv:=fun a0=>(zdE a0).get
def B90:Bod Tryz.prog:=⟨90,Tryz.f90,Tryz.f90.body.getD .skip,Tryz.func90,by kernel_rfl,by kernel_rfl,zai.no _ _⟩
def Tb90:Tb Tryz.prog:= {T:= [Y2,Y33],mix:=mix,Es:= [],Bs:= [],d:=1}
def t_spec_l04Whole:Tr (Iv):=
 .leaf ⟨⟨(-1152921504606846976),rfl⟩,⟨1152921504606846976,rfl⟩⟩
theorem r_spec_l04Whole:Tb90.run B90 [] (Iv)=(t_spec_l04Whole).opt:=by kernel_rfl
def zn:Iv:=(t_spec_l04Whole).get
theorem u_spec_l04Whole:(t_spec_l04Whole).opt=some (zn):=Tr.zW (by kernel_rfl)
def zfR:Ent Tryz.prog:= .of0 Tb90 B90 zn (r_spec_l04Whole.trans u_spec_l04Whole)
def B46:Bod Tryz.prog:=⟨46,Tryz.f46,Tryz.f46.body.getD .skip,Tryz.func46,by kernel_rfl,by kernel_rfl,zai.no _ _⟩
def Tb46:Tb Tryz.prog:= {T:= [Y2,Y33],mix:=mix,Es:= [zfR],Bs:= [],d:=1}
def t_spec_Whole:Tr (Iv):=
 .leaf zn
theorem r_spec_Whole:Tb46.run B46 [] (Iv)=(t_spec_Whole).opt:=by kernel_rfl
def za8:Iv:=(t_spec_Whole).get
theorem u_spec_Whole:(t_spec_Whole).opt=some (za8):=Tr.zW (by kernel_rfl)
def E_spec_Whole:Ent Tryz.prog:= .of0 Tb46 B46 za8 (r_spec_Whole.trans u_spec_Whole)
def B96:Bod Tryz.prog:=⟨96,Tryz.f96,Tryz.f96.body.getD .skip,Tryz.func96,by kernel_rfl,by kernel_rfl,zai.no _ _⟩
def Tb96:Tb Tryz.prog:= {T:= [Y2,Y75],mix:=mix,Es:= [],Bs:= [],d:=1}
def t_spec_l02Size (a0:I64):Tr (U64):=
 .br (decide (a0.val<0)) (.leaf (Rng.w .u64 (0-(Rng.w .u64 (a0.val)).val))) (.leaf (Rng.w .u64 (a0.val)))
theorem r_spec_l02Size (a0:I64):Tb96.run B96 [enc a0] (U64)=(t_spec_l02Size a0).opt:=by kernel_rfl
def zaU:I64->U64:=fun a0=>(t_spec_l02Size a0).get
theorem u_spec_l02Size (a0:I64):(t_spec_l02Size a0).opt=some (zaU a0):=Tr.zW (by kernel_rfl)
def E_spec_l02Size:Ent Tryz.prog:= .of1 Tb96 B96 (fun _=>true) zaU fun a0 _=>(r_spec_l02Size a0).trans (u_spec_l02Size a0)
def B94:Bod Tryz.prog:=⟨94,Tryz.f94,Tryz.f94.body.getD .skip,Tryz.func94,by kernel_rfl,by kernel_rfl,zai.no _ _⟩
def Tb94:Tb Tryz.prog:= {T:= [],mix:=mix,Es:= [],Bs:= [],d:=1}
def zfy (a0:U64) (a1:U64):Tr (T2 U64 U64):=
 let c8:=(Rng.w .u64 ((Rng.w .u64 ((Rng.w .u64 (a0.val.fdiv 4294967296)).val*(Rng.w .u64 (zaN .and .u64 a1.val 4294967295)).val)).val+(Rng.w .u64 ((Rng.w .u64 ((Rng.w .u64 (zaN .and .u64 a0.val 4294967295)).val*(Rng.w .u64 (zaN .and .u64 a1.val 4294967295)).val)).val.fdiv 4294967296)).val));.leaf ⟨(Rng.w .u64 ((Rng.w .u64 ((Rng.w .u64 ((Rng.w .u64 (a0.val.fdiv 4294967296)).val*(Rng.w .u64 (a1.val.fdiv 4294967296)).val)).val+(Rng.w .u64 (c8.val.fdiv 4294967296)).val)).val+(Rng.w .u64 ((Rng.w .u64 ((Rng.w .u64 ((Rng.w .u64 (zaN .and .u64 a0.val 4294967295)).val*(Rng.w .u64 (a1.val.fdiv 4294967296)).val)).val+(Rng.w .u64 (zaN .and .u64 c8.val 4294967295)).val)).val.fdiv 4294967296)).val)),(Rng.w .u64 (a0.val*a1.val))⟩
theorem r_spec_l02Times (a0:U64) (a1:U64):Tb94.run B94 [enc a0,enc a1] (T2 U64 U64)=(zfy a0 a1).opt:=by kernel_rfl
def zdi:U64->U64->T2 U64 U64:=fun a0 a1=>(zfy a0 a1).get
theorem u_spec_l02Times (a0:U64) (a1:U64):(zfy a0 a1).opt=some (zdi a0 a1):=Tr.zW (by kernel_rfl)
def E_spec_l02Times:Ent Tryz.prog:= .of2 Tb94 B94 (fun _ _=>true) zdi fun a0 a1 _=>(r_spec_l02Times a0 a1).trans (u_spec_l02Times a0 a1)
def B97:Bod Tryz.prog:=⟨97,Tryz.f97,Tryz.f97.body.getD .skip,Tryz.func97,by kernel_rfl,by kernel_rfl,zai.no _ _⟩
def Tb97:Tb Tryz.prog:= {T:= [Y2,Y75,Y78],mix:=mix,Es:= [],Bs:= [],d:=1}
def zcu (a0:Wide):Tr (Wide):=
 let c2:=(Rng.w .u64 (0-a0.lo.val));.br (a0.lo.val==0) (.leaf ⟨(Rng.w .i64 (0-a0.hi.val)),c2⟩) (.leaf ⟨(Rng.w .i64 (zaN .xor .i64 (-1) a0.hi.val)),c2⟩)
theorem r_spec_l02Minus (a0:Wide):Tb97.run B97 [enc a0] (Wide)=(zcu a0).opt:=by kernel_rfl
def zas:Wide->Wide:=fun a0=>(zcu a0).get
theorem u_spec_l02Minus (a0:Wide):(zcu a0).opt=some (zas a0):=Tr.zW (by kernel_rfl)
def E_spec_l02Minus:Ent Tryz.prog:= .of1 Tb97 B97 (fun _=>true) zas fun a0 _=>(r_spec_l02Minus a0).trans (u_spec_l02Minus a0)
def Y4:TyE Tryz.prog:=⟨4,1,.bool,[.bool false],false,by kernel_rfl,by kernel_rfl,by kernel_rfl,by kernel_rfl,by kernel_rfl,by kernel_rfl⟩
def B50:Bod Tryz.prog:=⟨50,Tryz.f50,Tryz.f50.body.getD .skip,Tryz.func50,by kernel_rfl,by kernel_rfl,zai.no _ _⟩
def Tb50:Tb Tryz.prog:= {T:= [Y2,Y4,Y75,Y78],mix:=mix,Es:= [E_spec_l02Times,E_spec_l02Size,E_spec_l02Minus],Bs:= [],d:=1}
def t_spec_l02Mul (a0:I64) (a1:I64):Tr (Wide):=
 let c3:=zdi (zaU a0) (zaU a1);.br (!((decide (a0.val<0))==(decide (a1.val<0)))) (.leaf (zas ⟨(Rng.w .i64 (c3.a.val)),c3.b⟩)) (.leaf ⟨(Rng.w .i64 (c3.a.val)),c3.b⟩)
theorem r_spec_l02Mul (a0:I64) (a1:I64):Tb50.run B50 [enc a0,enc a1] (Wide)=(t_spec_l02Mul a0 a1).opt:=by kernel_rfl
def zbD:I64->I64->Wide:=fun a0 a1=>(t_spec_l02Mul a0 a1).get
theorem u_spec_l02Mul (a0:I64) (a1:I64):(t_spec_l02Mul a0 a1).opt=some (zbD a0 a1):=Tr.zW (by kernel_rfl)
def E_spec_l02Mul:Ent Tryz.prog:= .of2 Tb50 B50 (fun _ _=>true) zbD fun a0 a1 _=>(r_spec_l02Mul a0 a1).trans (u_spec_l02Mul a0 a1)
def B95:Bod Tryz.prog:=⟨95,Tryz.f95,Tryz.f95.body.getD .skip,Tryz.func95,by kernel_rfl,by kernel_rfl,zai.no _ _⟩
def Tb95:Tb Tryz.prog:= {T:= [Y2,Y75,Y78],mix:=mix,Es:= [],Bs:= [],d:=1}
def zdN (a0:Wide) (a1:Wide):Tr (Wide):=
 let c1:=(Rng.w .i64 (a0.hi.val+a1.hi.val));let c2:=(Rng.w .u64 (a0.lo.val+a1.lo.val));.br (decide (c2.val<a0.lo.val)) (.leaf ⟨(Rng.w .i64 (c1.val+1)),c2⟩) (.leaf ⟨c1,c2⟩)
theorem r_spec_l02Plus (a0:Wide) (a1:Wide):Tb95.run B95 [enc a0,enc a1] (Wide)=(zdN a0 a1).opt:=by kernel_rfl
def zbc:Wide->Wide->Wide:=fun a0 a1=>(zdN a0 a1).get
theorem u_spec_l02Plus (a0:Wide) (a1:Wide):(zdN a0 a1).opt=some (zbc a0 a1):=Tr.zW (by kernel_rfl)
def E_spec_l02Plus:Ent Tryz.prog:= .of2 Tb95 B95 (fun _ _=>true) zbc fun a0 a1 _=>(r_spec_l02Plus a0 a1).trans (u_spec_l02Plus a0 a1)
def B89:Bod Tryz.prog:=⟨89,Tryz.f89,Tryz.f89.body.getD .skip,Tryz.func89,by kernel_rfl,by kernel_rfl,zai.no _ _⟩
def Tb89:Tb Tryz.prog:= {T:= [Y2,Y33],mix:=mix,Es:= [],Bs:= [],d:=1}
def zfn (a0:Iv):Tr (Bool):=
 .br (decide ((-1152921504606846976)<a0.lo.val)) (.br (decide (a0.lo.val<=a0.hi.val)) (.leaf (decide (a0.hi.val<1152921504606846976))) (.leaf false)) (.leaf false)
theorem r_spec_l04Ok (a0:Iv):Tb89.run B89 [enc a0] (Bool)=(zfn a0).opt:=by kernel_rfl
def za:Iv->Bool:=fun a0=>(zfn a0).get
theorem u_spec_l04Ok (a0:Iv):(zfn a0).opt=some (za a0):=Tr.zW (by kernel_rfl)
def E_spec_l04Ok:Ent Tryz.prog:= .of1 Tb89 B89 (fun _=>true) za fun a0 _=>(r_spec_l04Ok a0).trans (u_spec_l04Ok a0)
def B125:Bod Tryz.prog:=⟨125,Tryz.f125,Tryz.f125.body.getD .skip,Tryz.func125,by kernel_rfl,by kernel_rfl,zai.no _ _⟩
def Tb125:Tb Tryz.prog:= {T:= [Y2,Y33],mix:=mix,Es:= [E_spec_l04Ok,zfR],Bs:= [],d:=1}
def zcT (a0:I64) (a1:I64):Tr (Iv):=
 .br (!(za ⟨a0,a1⟩)) (.leaf zn) (.leaf ⟨a0,a1⟩)
theorem r_spec_l04Make (a0:I64) (a1:I64):Tb125.run B125 [enc a0,enc a1] (Iv)=(zcT a0 a1).opt:=by kernel_rfl
def zaf:I64->I64->Iv:=fun a0 a1=>(zcT a0 a1).get
theorem u_spec_l04Make (a0:I64) (a1:I64):(zcT a0 a1).opt=some (zaf a0 a1):=Tr.zW (by kernel_rfl)
def E_spec_l04Make:Ent Tryz.prog:= .of2 Tb125 B125 (fun _ _=>true) zaf fun a0 a1 _=>(r_spec_l04Make a0 a1).trans (u_spec_l04Make a0 a1)
structure zb5 where
 x0:U64
 x1:U64
 x2:U64
 x3:U64
 x4:U64
 x5:I64
instance:Inhabited zb5:=⟨⟨default,default,default,default,default,default⟩⟩
def zb4 (x:zb5):Tr (Lp zb5):=
 .br (decide (x.x5.val>=0)) (let c7:=(Rng.w .u64 (zaN .or .u64 (Rng.w .u64 (x.x3.val*2)).val (Rng.w .u64 (zaN .and .u64 (Rng.w .u64 (x.x0.val.fdiv (2^min ((Rng.w .u64 (x.x5.val)).val).toNat 64))).val 1)).val));let c8:=(Rng.w .u64 (x.x4.val*2));.br ((Rng.w .u64 (x.x3.val.fdiv 9223372036854775808)).val==1) (.leaf (.again ⟨x.x0,x.x1,x.x2,(Rng.w .u64 (c7.val-x.x1.val)),(Rng.w .u64 (zaN .or .u64 c8.val 1)),(Rng.w .i64 (x.x5.val-1))⟩)) (.br (decide (c7.val>=x.x1.val)) (.leaf (.again ⟨x.x0,x.x1,x.x2,(Rng.w .u64 (c7.val-x.x1.val)),(Rng.w .u64 (zaN .or .u64 c8.val 1)),(Rng.w .i64 (x.x5.val-1))⟩)) (.leaf (.again ⟨x.x0,x.x1,x.x2,c7,c8,(Rng.w .i64 (x.x5.val-1))⟩)))) (.leaf (.out ⟨x.x0,x.x1,x.x2,x.x3,x.x4,x.x5⟩))
def zfK (x:zb5):Bool:=(Lf zb4 66 x).opt.isSome
def L_spec_l02Divide_5 (x:zb5):zb5:=(Lf zb4 66 x).get
def ze4 (a0:U64) (a1:U64) (a2:U64):Tr (T3 U64 U64 U64):=
 .br (a2.val==0) (.bad) (let c1:=(Rng.w .u64 (a0.val.tdiv a2.val));.br (a2.val==0) (.bad) (let c2:=(Rng.w .u64 (a0.val.tmod a2.val));.br (zfK ⟨a1,a2,c1,c2,⟨0,rfl⟩,⟨63,rfl⟩⟩) (let c17:=L_spec_l02Divide_5 ⟨a1,a2,c1,c2,⟨0,rfl⟩,⟨63,rfl⟩⟩;.leaf ⟨c17.x2,c17.x4,c17.x3⟩) (.bad)))
def zbL:U64->U64->U64->T3 U64 U64 U64:=fun a0 a1 a2=>(ze4 a0 a1 a2).get
def zfc:U64->U64->U64->Bool:=fun a0 a1 a2=>(ze4 a0 a1 a2).opt.isSome
def t_spec_l02Of (a0:I64):Tr (Wide):=
 .br (decide (a0.val<0)) (.leaf ⟨⟨(-1),rfl⟩,(Rng.w .u64 (a0.val))⟩) (.leaf ⟨⟨0,rfl⟩,(Rng.w .u64 (a0.val))⟩)
def zds:I64->Wide:=fun a0=>(t_spec_l02Of a0).get
def zfz (a0:Wide) (a1:I64):Tr (T2 Wide I64):=
 .br (decide (a0.hi.val>=0)) (.br (zfc (Rng.w .u64 (a0.hi.val)) a0.lo (Rng.w .u64 (a1.val))) (let c1:=zbL (Rng.w .u64 (a0.hi.val)) a0.lo (Rng.w .u64 (a1.val));.leaf ⟨⟨(Rng.w .i64 (c1.a.val)),c1.b⟩,(Rng.w .i64 (c1.c.val))⟩) (.bad)) (let c2:=zas a0;.br (zfc (Rng.w .u64 (c2.hi.val)) c2.lo (Rng.w .u64 (a1.val))) (let c3:=zbL (Rng.w .u64 (c2.hi.val)) c2.lo (Rng.w .u64 (a1.val));let c4:=zas ⟨(Rng.w .i64 (c3.a.val)),c3.b⟩;.br (c3.c.val==0) (.leaf ⟨c4,⟨0,rfl⟩⟩) (.leaf ⟨(zbc c4 (zds ⟨(-1),rfl⟩)),(Rng.w .i64 (a1.val-(Rng.w .i64 (c3.c.val)).val))⟩)) (.bad))
def F_spec_l02Div:Wide->I64->T2 Wide I64:=fun a0 a1=>(zfz a0 a1).get
def G_spec_l02Div:Wide->I64->Bool:=fun a0 a1=>(zfz a0 a1).opt.isSome
def t_spec_l02Int (a0:Wide):Tr (T2 I64 Bool):=
 let c1:=zds (Rng.w .i64 (a0.lo.val));.br (!((c1.hi.val==a0.hi.val)&&((c1.lo.val==a0.lo.val)&&true))) (.leaf ⟨⟨0,rfl⟩,false⟩) (.leaf ⟨(Rng.w .i64 (a0.lo.val)),true⟩)
def F_spec_l02Int:Wide->T2 I64 Bool:=fun a0=>(t_spec_l02Int a0).get
def zcK (a0:I64) (a1:I64) (a2:I64):Tr (T2 I64 Bool):=
 .br (decide (a2.val<=0)) (.leaf ⟨⟨0,rfl⟩,false⟩) (let c1:=zbD a0 a1;.br (G_spec_l02Div c1 a2) (let c3:=F_spec_l02Int (F_spec_l02Div c1 a2).a;.leaf ⟨c3.a,c3.b⟩) (.bad))
def zaO:I64->I64->I64->T2 I64 Bool:=fun a0 a1 a2=>(zcK a0 a1 a2).get
def zbj:I64->I64->I64->Bool:=fun a0 a1 a2=>(zcK a0 a1 a2).opt.isSome
def zd7 (a0:I64):Tr (Bool):=
 .leaf (zV a0 ⟨(-1152921504606846976),rfl⟩ ⟨1152921504606846976,rfl⟩)
def zB:I64->Bool:=fun a0=>(zd7 a0).get
def zce (a0:I64) (a1:Bool):Tr (T2 I64 Bool):=
 .br (!a1) (.leaf ⟨⟨0,rfl⟩,false⟩) (.br (!(zB a0)) (.leaf ⟨⟨0,rfl⟩,false⟩) (.leaf ⟨a0,true⟩))
def zae:I64->Bool->T2 I64 Bool:=fun a0 a1=>(zce a0 a1).get
def zd9 (a0:I64) (a1:I64):Tr (T2 I64 Bool):=
 .br (decide (a1.val<=0)) (.leaf ⟨⟨0,rfl⟩,false⟩) (.br (zbj a0 ⟨4294967296,rfl⟩ a1) (let c1:=zaO a0 ⟨4294967296,rfl⟩ a1;let c2:=zae c1.a c1.b;.leaf ⟨c2.a,c2.b⟩) (.bad))
def F_spec_l03Floor:I64->I64->T2 I64 Bool:=fun a0 a1=>(zd9 a0 a1).get
def zfJ:I64->I64->Bool:=fun a0 a1=>(zd9 a0 a1).opt.isSome
def zeP (a0:I64) (a1:I64):Tr (T2 I64 Bool):=
 .br (decide (a1.val<=0)) (.leaf ⟨⟨0,rfl⟩,false⟩) (.br (zbj a0 ⟨4294967296,rfl⟩ a1) (let c1:=zaO a0 ⟨4294967296,rfl⟩ a1;.br (!c1.b) (.leaf ⟨⟨0,rfl⟩,false⟩) (.br ((Rng.w .i64 (c1.a.val*a1.val)).val != (Rng.w .i64 (a0.val*4294967296)).val) (let c5:=zae (Rng.w .i64 (c1.a.val+1)) true;.leaf ⟨c5.a,c5.b⟩) (let c6:=zae c1.a true;.leaf ⟨c6.a,c6.b⟩))) (.bad))
def F_spec_l03Ceil:I64->I64->T2 I64 Bool:=fun a0 a1=>(zeP a0 a1).get
def G_spec_l03Ceil:I64->I64->Bool:=fun a0 a1=>(zeP a0 a1).opt.isSome
def t_spec_Quotient (a0:I64) (a1:I64):Tr (Iv):=
 .br (decide (a1.val<0)) (.br (a0.val==(-9223372036854775808)) (.leaf zn) (.br (a1.val==(-9223372036854775808)) (.leaf zn) (let c5:=(Rng.w .i64 (0-a0.val));let c6:=(Rng.w .i64 (0-a1.val));.br (zfJ c5 c6) (let c7:=F_spec_l03Floor c5 c6;.br (G_spec_l03Ceil c5 c6) (let c8:=F_spec_l03Ceil c5 c6;.br (!c7.b) (.leaf zn) (.br (!c8.b) (.leaf zn) (.leaf (zaf c7.a c8.a)))) (.bad)) (.bad)))) (.br (zfJ a0 a1) (let c12:=F_spec_l03Floor a0 a1;.br (G_spec_l03Ceil a0 a1) (let c13:=F_spec_l03Ceil a0 a1;.br (!c12.b) (.leaf zn) (.br (!c13.b) (.leaf zn) (.leaf (zaf c12.a c13.a)))) (.bad)) (.bad))
def zbE:I64->I64->Iv:=fun a0 a1=>(t_spec_Quotient a0 a1).get
def t_spec_NegI (a0:Iv):Tr (Iv):=
 .br (!(za a0)) (.leaf zn) (.leaf (zaf (Rng.w .i64 (0-a0.hi.val)) (Rng.w .i64 (0-a0.lo.val))))
def zaQ:Iv->Iv:=fun a0=>(t_spec_NegI a0).get
def zbA (a0:I64):Tr (Iv):=
 .br (!(zV a0 ⟨(-36000000000),rfl⟩ ⟨36000000000,rfl⟩)) (.leaf za8) (.br (a0.val==0) (.leaf ⟨⟨0,rfl⟩,⟨0,rfl⟩⟩) (.br (decide (a0.val<0)) (.bad) (.br (zbj a0 ⟨7244019458077122842,rfl⟩ ⟨966367641600000000,rfl⟩) (.br (zbj a0 ⟨7244019458077122843,rfl⟩ ⟨966367641600000000,rfl⟩) (.leaf ⟨(zaO a0 ⟨7244019458077122842,rfl⟩ ⟨966367641600000000,rfl⟩).a,(Rng.w .i64 ((zaO a0 ⟨7244019458077122843,rfl⟩ ⟨966367641600000000,rfl⟩).a.val+1))⟩) (.bad)) (.bad))))
def zb6:I64->Iv:=fun a0=>(zbA a0).get
def zd4:I64->Bool:=fun a0=>(zbA a0).opt.isSome
def zbn (a0:I64):Tr (Iv):=
 .br (!(zV a0 ⟨(-36000000000),rfl⟩ ⟨36000000000,rfl⟩)) (.leaf za8) (.br (a0.val==0) (.leaf ⟨⟨0,rfl⟩,⟨0,rfl⟩⟩) (.br (decide (a0.val<0)) (let c3:=(Rng.w .i64 (0-a0.val));.br (zd4 c3) (.leaf (zaQ (zb6 c3))) (.bad)) (.br (zbj a0 ⟨7244019458077122842,rfl⟩ ⟨966367641600000000,rfl⟩) (.br (zbj a0 ⟨7244019458077122843,rfl⟩ ⟨966367641600000000,rfl⟩) (.leaf ⟨(zaO a0 ⟨7244019458077122842,rfl⟩ ⟨966367641600000000,rfl⟩).a,(Rng.w .i64 ((zaO a0 ⟨7244019458077122843,rfl⟩ ⟨966367641600000000,rfl⟩).a.val+1))⟩) (.bad)) (.bad))))
def zX:I64->Iv:=fun a0=>(zbn a0).get
end
end Go.Proofs.YtlolpmmloolieaaGreatDoor.Ev
namespace Go.Proofs.YtlolpmmloolieaaGreatDoor.Ev
open Go
theorem wi {n:Int} (h: -9223372036854775808<=n) (h':n<=9223372036854775807):(Rng.w .i64 n).val=n:=zen (k:= .i64) (by simp [inB,h,h'])
theorem wu {n:Int} (h:0<=n) (h':n<=18446744073709551615):(Rng.w .u64 n).val=n:=zen (k:= .u64) (by simp [inB,h,h'])
theorem zaJ (n:Int):(Rng.w .u64 n).val=n%18446744073709551616:=by
 show IntKind.u64.wrap n=_
 simp [IntKind.wrap,IntKind.bits,IntKind.signed]
theorem zct (a b c:I64):zal a b c=decide (b.val<=a.val/\a.val<=c.val):=by
 simp only [zal,zer,Tr.get,ge_iff_le]
 by_cases h:b.val<=a.val<;>simp [h]
theorem zed (a b c:I64):zV a b c=decide (b.val<=a.val/\a.val<=c.val):=by
 simp only [zV,t_spec_l00In,Tr.get,ge_iff_le]
 by_cases h:b.val<=a.val<;>simp [h]
theorem point_eq (p:zdz):zab p=za1 p:=by
 simp only [zab,za1,zdc,t_spec_l11Ok,Tr.get,zct,zed]
 rw [Bool.eq_iff_iff]
 simp [Bool.cond_eq_ite]
 grind
end Go.Proofs.YtlolpmmloolieaaGreatDoor.Ev
