/- The law FnRhumbs gives true, whatever bytes come in. No conditions. (One of the texts of its proof, put together by a program of this session.) -/
import Derived.Test.YtfcjhkkpbnobhaaGreatQEC
import Derived.Test.YtfcjhkkpbnobhaaGreatChecked
import Derived.KernelRfl
set_option linter.unusedSectionVars false
set_option linter.unusedSimpArgs false
set_option linter.unusedVariables false
noncomputable section
namespace Go.Proofs.YtfcjhkkpbnobhaaGreat.Ev
open Go Go.RowKit
set_option maxRecDepth 100000
section
variable [Amb]
theorem mix:Tryz.prog.follows .mixedOrders=true:=by kernel_rfl
def Y2:TyE Tryz.prog:=⟨2,1,(.int .i64),[.i64 ⟨0,rfl⟩],false,by kernel_rfl,by kernel_rfl,by kernel_rfl,by kernel_rfl,by kernel_rfl,by kernel_rfl⟩
def Y24:TyE Tryz.prog:=⟨24,2,(.struct [(0,2,1),(1,2,1)]),[.i64 ⟨0,rfl⟩,.i64 ⟨0,rfl⟩],true,by kernel_rfl,by kernel_rfl,by kernel_rfl,by kernel_rfl,by kernel_rfl,by kernel_rfl⟩
def B88:Bod Tryz.prog:=⟨88,Tryz.f88,Tryz.f88.body.getD .skip,Tryz.func88,by kernel_rfl,by kernel_rfl,zae.no _ _⟩
def Tb88:Tb Tryz.prog:= {T:= [],mix:=mix,Es:= [],Bs:= [],d:=1}
def t_spec_l00In (a0:I64) (a1:I64) (a2:I64):Tr (Bool):=
 .br (decide (a0.val>=a1.val)) (.leaf (decide (a0.val<=a2.val))) (.leaf false)
theorem r_spec_l00In (a0:I64) (a1:I64) (a2:I64):Tb88.run B88 [enc a0,enc a1,enc a2] (Bool)=(t_spec_l00In a0 a1 a2).opt:=by kernel_rfl
def zar:I64->I64->I64->Bool:=fun a0 a1 a2=>(t_spec_l00In a0 a1 a2).get
theorem u_spec_l00In (a0:I64) (a1:I64) (a2:I64):(t_spec_l00In a0 a1 a2).opt=some (zar a0 a1 a2):=Tr.zL (by kernel_rfl)
def zcc:Ent Tryz.prog:= .of3 Tb88 B88 (fun _ _ _=>true) zar fun a0 a1 a2 _=>(r_spec_l00In a0 a1 a2).trans (u_spec_l00In a0 a1 a2)
def B103:Bod Tryz.prog:=⟨103,Tryz.f103,Tryz.f103.body.getD .skip,Tryz.func103,by kernel_rfl,by kernel_rfl,zae.no _ _⟩
def Tb103:Tb Tryz.prog:= {T:= [Y2,Y24],mix:=mix,Es:= [zcc],Bs:= [],d:=1}
def t_spec_l11Ok (a0:zaL):Tr (Bool):=
 .br (zar a0.lat ⟨(-900000000),rfl⟩ ⟨900000000,rfl⟩) (.leaf (zar a0.lon ⟨(-1799999999),rfl⟩ ⟨1800000000,rfl⟩)) (.leaf false)
theorem r_spec_l11Ok (a0:zaL):Tb103.run B103 [enc a0] (Bool)=(t_spec_l11Ok a0).opt:=by kernel_rfl
def zab:zaL->Bool:=fun a0=>(t_spec_l11Ok a0).get
theorem u_spec_l11Ok (a0:zaL):(t_spec_l11Ok a0).opt=some (zab a0):=Tr.zL (by kernel_rfl)
def E_spec_l11Ok:Ent Tryz.prog:= .of1 Tb103 B103 (fun _=>true) zab fun a0 _=>(r_spec_l11Ok a0).trans (u_spec_l11Ok a0)
def B159:Bod Tryz.prog:=⟨159,Tryz.f159,Tryz.f159.body.getD .skip,Tryz.func159,by kernel_rfl,by kernel_rfl,zae.no _ _⟩
def Tb159:Tb Tryz.prog:= {T:= [],mix:=mix,Es:= [],Bs:= [],d:=1}
def t_impl_within (a0:I64) (a1:I64) (a2:I64):Tr (Bool):=
 .br (decide (a0.val>=a1.val)) (.leaf (decide (a0.val<=a2.val))) (.leaf false)
theorem r_impl_within (a0:I64) (a1:I64) (a2:I64):Tb159.run B159 [enc a0,enc a1,enc a2] (Bool)=(t_impl_within a0 a1 a2).opt:=by kernel_rfl
def zaK:I64->I64->I64->Bool:=fun a0 a1 a2=>(t_impl_within a0 a1 a2).get
theorem u_impl_within (a0:I64) (a1:I64) (a2:I64):(t_impl_within a0 a1 a2).opt=some (zaK a0 a1 a2):=Tr.zL (by kernel_rfl)
def zbO:Ent Tryz.prog:= .of3 Tb159 B159 (fun _ _ _=>true) zaK fun a0 a1 a2 _=>(r_impl_within a0 a1 a2).trans (u_impl_within a0 a1 a2)
def B93:Bod Tryz.prog:=⟨93,Tryz.f93,Tryz.f93.body.getD .skip,Tryz.func93,by kernel_rfl,by kernel_rfl,zae.no _ _⟩
def Tb93:Tb Tryz.prog:= {T:= [Y2,Y24],mix:=mix,Es:= [zbO],Bs:= [],d:=1}
def t_impl_ValidPoint (a0:zaL):Tr (Bool):=
 .br (zaK a0.lat ⟨(-900000000),rfl⟩ ⟨900000000,rfl⟩) (.br (decide (a0.lon.val>(-1800000000))) (.leaf (decide (a0.lon.val<=1800000000))) (.leaf false)) (.leaf false)
theorem r_impl_ValidPoint (a0:zaL):Tb93.run B93 [enc a0] (Bool)=(t_impl_ValidPoint a0).opt:=by kernel_rfl
def zcb:zaL->Bool:=fun a0=>(t_impl_ValidPoint a0).get
theorem u_impl_ValidPoint (a0:zaL):(t_impl_ValidPoint a0).opt=some (zcb a0):=Tr.zL (by kernel_rfl)
def E_impl_ValidPoint:Ent Tryz.prog:= .of1 Tb93 B93 (fun _=>true) zcb fun a0 _=>(r_impl_ValidPoint a0).trans (u_impl_ValidPoint a0)
def B219:Bod Tryz.prog:=⟨219,Tryz.f219,Tryz.f219.body.getD .skip,Tryz.func219,by kernel_rfl,by kernel_rfl,zae.no _ _⟩
def Tb219:Tb Tryz.prog:= {T:= [],mix:=mix,Es:= [],Bs:= [],d:=1}
def t_impl_abs (a0:I64):Tr (I64):=
 .leaf (mx a0 (Rng.w .i64 (0-a0.val)))
theorem r_impl_abs (a0:I64):Tb219.run B219 [enc a0] (I64)=(t_impl_abs a0).opt:=by kernel_rfl
def zbs:I64->I64:=fun a0=>(t_impl_abs a0).get
theorem u_impl_abs (a0:I64):(t_impl_abs a0).opt=some (zbs a0):=Tr.zL (by kernel_rfl)
def E_impl_abs:Ent Tryz.prog:= .of1 Tb219 B219 (fun _=>true) zbs fun a0 _=>(r_impl_abs a0).trans (u_impl_abs a0)
end
end Go.Proofs.YtfcjhkkpbnobhaaGreat.Ev
namespace Go.Proofs.YtfcjhkkpbnobhaaGreat.Ev
open Go Go.RowKit
set_option maxRecDepth 100000
section
variable [Amb]
def E_math_bits_Add64:Ent Tryz.prog:= .add64 Tryz.func313 (by kernel_rfl) (by kernel_rfl) (by kernel_rfl) (by kernel_rfl)
def E_math_bits_Sub64:Ent Tryz.prog:= .sub64 Tryz.func364 (by kernel_rfl) (by kernel_rfl) (by kernel_rfl) (by kernel_rfl)
def Y30:TyE Tryz.prog:=⟨30,2,(.struct [(0,2,1),(1,2,1)]),[.i64 ⟨0,rfl⟩,.i64 ⟨0,rfl⟩],true,by kernel_rfl,by kernel_rfl,by kernel_rfl,by kernel_rfl,by kernel_rfl,by kernel_rfl⟩
def B218:Bod Tryz.prog:=⟨218,Tryz.f218,Tryz.f218.body.getD .skip,Tryz.func218,by kernel_rfl,by kernel_rfl,zae.no _ _⟩
def Tb218:Tb Tryz.prog:= {T:= [],mix:=mix,Es:= [],Bs:= [],d:=1}
def t_impl_WrapLon (a0:I64):Tr (I64):=
 let c1:=(Rng.w .i64 (a0.val.tmod 3600000000));.br (decide (c1.val>1800000000)) (.leaf (Rng.w .i64 (c1.val-3600000000))) (.br (decide (c1.val<=(-1800000000))) (.leaf (Rng.w .i64 (c1.val+3600000000))) (.leaf c1))
theorem r_impl_WrapLon (a0:I64):Tb218.run B218 [enc a0] (I64)=(t_impl_WrapLon a0).opt:=by kernel_rfl
def F_impl_WrapLon:I64->I64:=fun a0=>(t_impl_WrapLon a0).get
theorem u_impl_WrapLon (a0:I64):(t_impl_WrapLon a0).opt=some (F_impl_WrapLon a0):=Tr.zL (by kernel_rfl)
def E_impl_WrapLon:Ent Tryz.prog:= .of1 Tb218 B218 (fun _=>true) F_impl_WrapLon fun a0 _=>(r_impl_WrapLon a0).trans (u_impl_WrapLon a0)
def B76:Bod Tryz.prog:=⟨76,Tryz.f76,Tryz.f76.body.getD .skip,Tryz.func76,by kernel_rfl,by kernel_rfl,zae.no _ _⟩
def Tb76:Tb Tryz.prog:= {T:= [],mix:=mix,Es:= [],Bs:= [],d:=1}
def t_spec_l11Wrap (a0:I64):Tr (I64):=
 let c1:=(Rng.w .i64 (a0.val.tmod 3600000000));.br (decide (c1.val>1800000000)) (let c3:=(Rng.w .i64 (c1.val-3600000000));.br (decide (c3.val<=(-1800000000))) (.leaf (Rng.w .i64 (c3.val+3600000000))) (.leaf c3)) (.br (decide (c1.val<=(-1800000000))) (.leaf (Rng.w .i64 (c1.val+3600000000))) (.leaf c1))
theorem r_spec_l11Wrap (a0:I64):Tb76.run B76 [enc a0] (I64)=(t_spec_l11Wrap a0).opt:=by kernel_rfl
def zcN:I64->I64:=fun a0=>(t_spec_l11Wrap a0).get
theorem u_spec_l11Wrap (a0:I64):(t_spec_l11Wrap a0).opt=some (zcN a0):=Tr.zL (by kernel_rfl)
def E_spec_l11Wrap:Ent Tryz.prog:= .of1 Tb76 B76 (fun _=>true) zcN fun a0 _=>(r_spec_l11Wrap a0).trans (u_spec_l11Wrap a0)
def B145:Bod Tryz.prog:=⟨145,Tryz.f145,Tryz.f145.body.getD .skip,Tryz.func145,by kernel_rfl,by kernel_rfl,zae.no _ _⟩
def Tb145:Tb Tryz.prog:= {T:= [Y2,Y30],mix:=mix,Es:= [],Bs:= [],d:=1}
def t_impl_Whole:Tr (Iv):=
 .leaf ⟨⟨(-1152921504606846976),rfl⟩,⟨1152921504606846976,rfl⟩⟩
theorem r_impl_Whole:Tb145.run B145 [] (Iv)=(t_impl_Whole).opt:=by kernel_rfl
def zH:Iv:=(t_impl_Whole).get
theorem u_impl_Whole:(t_impl_Whole).opt=some (zH):=Tr.zL (by kernel_rfl)
def zaD:Ent Tryz.prog:= .of0 Tb145 B145 zH (r_impl_Whole.trans u_impl_Whole)
def B314:Bod Tryz.prog:=⟨314,Tryz.f314,Tryz.f314.body.getD .skip,Tryz.func314,by kernel_rfl,by kernel_rfl,zae.no _ _⟩
def Tb314:Tb Tryz.prog:= {T:= [],mix:=mix,Es:= [],Bs:= [],d:=1}
def t_math_bits_Mul64 (a0:U64) (a1:U64):Tr (T2 U64 U64):=
 let c1:=(Rng.w .u64 (zbf .and .u64 a0.val 4294967295));let c2:=(Rng.w .u64 (a0.val.fdiv 4294967296));let c3:=(Rng.w .u64 (zbf .and .u64 a1.val 4294967295));let c4:=(Rng.w .u64 (a1.val.fdiv 4294967296));let c8:=(Rng.w .u64 ((Rng.w .u64 (c2.val*c3.val)).val+(Rng.w .u64 ((Rng.w .u64 (c1.val*c3.val)).val.fdiv 4294967296)).val));.leaf ⟨(Rng.w .u64 ((Rng.w .u64 ((Rng.w .u64 (c2.val*c4.val)).val+(Rng.w .u64 (c8.val.fdiv 4294967296)).val)).val+(Rng.w .u64 ((Rng.w .u64 ((Rng.w .u64 (zbf .and .u64 c8.val 4294967295)).val+(Rng.w .u64 (c1.val*c4.val)).val)).val.fdiv 4294967296)).val)),(Rng.w .u64 (a0.val*a1.val))⟩
theorem r_math_bits_Mul64 (a0:U64) (a1:U64):Tb314.run B314 [enc a0,enc a1] (T2 U64 U64)=(t_math_bits_Mul64 a0 a1).opt:=by kernel_rfl
def zdy:U64->U64->T2 U64 U64:=fun a0 a1=>(t_math_bits_Mul64 a0 a1).get
theorem u_math_bits_Mul64 (a0:U64) (a1:U64):(t_math_bits_Mul64 a0 a1).opt=some (zdy a0 a1):=Tr.zL (by kernel_rfl)
def E_math_bits_Mul64:Ent Tryz.prog:= .of2 Tb314 B314 (fun _ _=>true) zdy fun a0 a1 _=>(r_math_bits_Mul64 a0 a1).trans (u_math_bits_Mul64 a0 a1)
def Y132:TyE Tryz.prog:=⟨132,1,(.int .u64),[.u64 ⟨0,rfl⟩],false,by kernel_rfl,by kernel_rfl,by kernel_rfl,by kernel_rfl,by kernel_rfl,by kernel_rfl⟩
def Y148:TyE Tryz.prog:=⟨148,2,(.struct [(0,2,1),(1,132,1)]),[.i64 ⟨0,rfl⟩,.u64 ⟨0,rfl⟩],true,by kernel_rfl,by kernel_rfl,by kernel_rfl,by kernel_rfl,by kernel_rfl,by kernel_rfl⟩
def B257:Bod Tryz.prog:=⟨257,Tryz.f257,Tryz.f257.body.getD .skip,Tryz.func257,by kernel_rfl,by kernel_rfl,zae.no _ _⟩
def Tb257:Tb Tryz.prog:= {T:= [Y2,Y132,Y148],mix:=mix,Es:= [E_math_bits_Mul64],Bs:= [],d:=1}
def t_impl_WideMul (a0:I64) (a1:I64):Tr (Wide):=
 let c1:=zdy (Rng.w .u64 (a0.val)) (Rng.w .u64 (a1.val));.br (decide (a0.val<0)) (let c2:=(Rng.w .u64 (c1.a.val-(Rng.w .u64 (a1.val)).val));.br (decide (a1.val<0)) (.leaf ⟨(Rng.w .i64 ((Rng.w .u64 (c2.val-(Rng.w .u64 (a0.val)).val)).val)),c1.b⟩) (.leaf ⟨(Rng.w .i64 (c2.val)),c1.b⟩)) (.br (decide (a1.val<0)) (.leaf ⟨(Rng.w .i64 ((Rng.w .u64 (c1.a.val-(Rng.w .u64 (a0.val)).val)).val)),c1.b⟩) (.leaf ⟨(Rng.w .i64 (c1.a.val)),c1.b⟩))
theorem r_impl_WideMul (a0:I64) (a1:I64):Tb257.run B257 [enc a0,enc a1] (Wide)=(t_impl_WideMul a0 a1).opt:=by kernel_rfl
def zbr:I64->I64->Wide:=fun a0 a1=>(t_impl_WideMul a0 a1).get
theorem u_impl_WideMul (a0:I64) (a1:I64):(t_impl_WideMul a0 a1).opt=some (zbr a0 a1):=Tr.zL (by kernel_rfl)
def E_impl_WideMul:Ent Tryz.prog:= .of2 Tb257 B257 (fun _ _=>true) zbr fun a0 a1 _=>(r_impl_WideMul a0 a1).trans (u_impl_WideMul a0 a1)
def Y3:TyE Tryz.prog:=⟨3,1,(.int .i64),[.i64 ⟨0,rfl⟩],false,by kernel_rfl,by kernel_rfl,by kernel_rfl,by kernel_rfl,by kernel_rfl,by kernel_rfl⟩
def Y5:TyE Tryz.prog:=⟨5,1,(.int .u8),[.u8 ⟨0,rfl⟩],false,by kernel_rfl,by kernel_rfl,by kernel_rfl,by kernel_rfl,by kernel_rfl,by kernel_rfl⟩
def Y9:TyE Tryz.prog:=⟨9,1,.str,[.str ByteArray.empty],false,by kernel_rfl,by kernel_rfl,by kernel_rfl,by kernel_rfl,by kernel_rfl,by kernel_rfl⟩
def S_376 (i:Nat):ByteArray:=(codeStrs (Tryz.f376.body.getD .skip)).getD i ByteArray.empty
def B376:Bod Tryz.prog:=⟨376,Tryz.f376,Tryz.f376.body.getD .skip,Tryz.func376,by kernel_rfl,by kernel_rfl,zae.no _ _⟩
def Tb376:Tb Tryz.prog:= {T:= [Y3,Y5,Y9,Y132],mix:=mix,Es:= [],Bs:= [],d:=1}
def zeu (a0:U64):Tr (I64):=
 .br (decide (a0.val>=4294967296)) (let c2:=(Rng.w .u64 (a0.val.fdiv 4294967296));.br (decide (c2.val>=65536)) (let c4:=(Rng.w .u64 (c2.val.fdiv 65536));.br (decide (c4.val>=256)) (let c5:=(Rng.w .u64 (c4.val.fdiv 256));.br (Nat.blt ((Rng.w .u8 (c5.val)).val.toNat) (S_376 0).size) (.leaf (Rng.w .i64 (56+(Rng.w .i64 ((strAt (S_376 0) ((Rng.w .u8 (c5.val)).val.toNat)).val)).val))) (.bad)) (.br (Nat.blt ((Rng.w .u8 (c4.val)).val.toNat) (S_376 0).size) (.leaf (Rng.w .i64 (48+(Rng.w .i64 ((strAt (S_376 0) ((Rng.w .u8 (c4.val)).val.toNat)).val)).val))) (.bad))) (.br (decide (c2.val>=256)) (let c10:=(Rng.w .u64 (c2.val.fdiv 256));.br (Nat.blt ((Rng.w .u8 (c10.val)).val.toNat) (S_376 0).size) (.leaf (Rng.w .i64 (40+(Rng.w .i64 ((strAt (S_376 0) ((Rng.w .u8 (c10.val)).val.toNat)).val)).val))) (.bad)) (.br (Nat.blt ((Rng.w .u8 (c2.val)).val.toNat) (S_376 0).size) (.leaf (Rng.w .i64 (32+(Rng.w .i64 ((strAt (S_376 0) ((Rng.w .u8 (c2.val)).val.toNat)).val)).val))) (.bad)))) (.br (decide (a0.val>=65536)) (let c16:=(Rng.w .u64 (a0.val.fdiv 65536));.br (decide (c16.val>=256)) (let c17:=(Rng.w .u64 (c16.val.fdiv 256));.br (Nat.blt ((Rng.w .u8 (c17.val)).val.toNat) (S_376 0).size) (.leaf (Rng.w .i64 (24+(Rng.w .i64 ((strAt (S_376 0) ((Rng.w .u8 (c17.val)).val.toNat)).val)).val))) (.bad)) (.br (Nat.blt ((Rng.w .u8 (c16.val)).val.toNat) (S_376 0).size) (.leaf (Rng.w .i64 (16+(Rng.w .i64 ((strAt (S_376 0) ((Rng.w .u8 (c16.val)).val.toNat)).val)).val))) (.bad))) (.br (decide (a0.val>=256)) (let c22:=(Rng.w .u64 (a0.val.fdiv 256));.br (Nat.blt ((Rng.w .u8 (c22.val)).val.toNat) (S_376 0).size) (.leaf (Rng.w .i64 (8+(Rng.w .i64 ((strAt (S_376 0) ((Rng.w .u8 (c22.val)).val.toNat)).val)).val))) (.bad)) (.br (Nat.blt ((Rng.w .u8 (a0.val)).val.toNat) (S_376 0).size) (.leaf (Rng.w .i64 (0+(Rng.w .i64 ((strAt (S_376 0) ((Rng.w .u8 (a0.val)).val.toNat)).val)).val))) (.bad))))
theorem r_math_bits_Len64 (a0:U64):Tb376.run B376 [enc a0] (I64)=(zeu a0).opt:=by kernel_rfl
def F_math_bits_Len64:U64->I64:=fun a0=>(zeu a0).get
def G_math_bits_Len64:U64->Bool:=fun a0=>(zeu a0).opt.isSome
def E_math_bits_Len64:Ent Tryz.prog:= .of1 Tb376 B376 G_math_bits_Len64 F_math_bits_Len64 fun a0 h=>(r_math_bits_Len64 a0).trans (Tr.get_some h)
def B372:Bod Tryz.prog:=⟨372,Tryz.f372,Tryz.f372.body.getD .skip,Tryz.func372,by kernel_rfl,by kernel_rfl,zae.no _ _⟩
def Tb372:Tb Tryz.prog:= {T:= [],mix:=mix,Es:= [E_math_bits_Len64],Bs:= [],d:=1}
def zbP (a0:U64):Tr (I64):=
 .br (G_math_bits_Len64 a0) (.leaf (Rng.w .i64 (64-(F_math_bits_Len64 a0).val))) (.bad)
theorem r_math_bits_LeadingZeros64 (a0:U64):Tb372.run B372 [enc a0] (I64)=(zbP a0).opt:=by kernel_rfl
def zdI:U64->I64:=fun a0=>(zbP a0).get
def zcy:U64->Bool:=fun a0=>(zbP a0).opt.isSome
def E_math_bits_LeadingZeros64:Ent Tryz.prog:= .of1 Tb372 B372 zcy zdI fun a0 h=>(r_math_bits_LeadingZeros64 a0).trans (Tr.get_some h)
structure zaX where
 x0:U64
 x1:U64
 x2:U64
 x3:U64
 x4:U64
 x5:U64
 x6:U64
 x7:U64
 x8:U64
instance:Inhabited zaX:=⟨⟨default,default,default,default,default,default,default,default,default⟩⟩
def st_math_bits_Div64_17 (x:zaX):St:=⟨[(2,.u64 x.x0),(8,.u64 x.x1),(9,.u64 x.x2),(10,.u64 x.x3),(11,.u64 x.x4),(13,.u64 x.x5),(14,.u64 x.x6),(15,.u64 x.x7),(16,.u64 x.x8)],135,⟨[],0,0⟩⟩
def rd_math_bits_Div64_17:St->Option zaX:=fun s=>match s with
 | ⟨[(2,.u64 x0),(8,.u64 x1),(9,.u64 x2),(10,.u64 x3),(11,.u64 x4),(13,.u64 x5),(14,.u64 x6),(15,.u64 x7),(16,.u64 x8)],135,⟨[],0,0⟩⟩=>some ⟨x0,x1,x2,x3,x4,x5,x6,x7,x8⟩
 | _=>none
def zaV (x:zaX):Tr (Lp zaX):=
 .br (decide (x.x7.val>=4294967296)) (let c19:=(Rng.w .u64 (x.x7.val-1));let c20:=(Rng.w .u64 (x.x8.val+x.x2.val));.br (decide (c20.val>=4294967296)) (.leaf (.out ⟨x.x0,x.x1,x.x2,x.x3,x.x4,x.x5,x.x6,c19,c20⟩)) (.leaf (.again ⟨x.x0,x.x1,x.x2,x.x3,x.x4,x.x5,x.x6,c19,c20⟩))) (.br (decide ((Rng.w .u64 (x.x7.val*x.x3.val)).val>(Rng.w .u64 ((Rng.w .u64 (4294967296*x.x8.val)).val+x.x5.val)).val)) (let c26:=(Rng.w .u64 (x.x7.val-1));let c27:=(Rng.w .u64 (x.x8.val+x.x2.val));.br (decide (c27.val>=4294967296)) (.leaf (.out ⟨x.x0,x.x1,x.x2,x.x3,x.x4,x.x5,x.x6,c26,c27⟩)) (.leaf (.again ⟨x.x0,x.x1,x.x2,x.x3,x.x4,x.x5,x.x6,c26,c27⟩))) (.leaf (.out ⟨x.x0,x.x1,x.x2,x.x3,x.x4,x.x5,x.x6,x.x7,x.x8⟩)))
def zel (x:zaX):Bool:=(Lf zaV 4 x).opt.isSome
def L_math_bits_Div64_17 (x:zaX):zaX:=(Lf zaV 4 x).get
def TbL_math_bits_Div64_17:Tb Tryz.prog:= {T:= [],mix:=mix,Es:= [],Bs:= [],d:=1}
def P_math_bits_Div64_17:LpF:=loopF [2,8,9,10,11,13,14,15,16] [] 0 rd_math_bits_Div64_17 st_math_bits_Div64_17 (.exit 0) zel L_math_bits_Div64_17
theorem lok_math_bits_Div64_17:LoopOk Tryz.prog (loopAt (Tryz.f363.body.getD .skip) 0) P_math_bits_Div64_17:=loopF_ok (t:=TbL_math_bits_Div64_17) (lt:=fun _=>none) (body:=zaV) (n:=4) (by intro h;cases h) (fun _ _ _ h=>by cases h)
 (by intro s x h;unfold rd_math_bits_Div64_17 at h;split at h<;>cases h;rfl) (fun x b cs h=>lk_lt (l:=(st_math_bits_Div64_17 x).mm.blks) (by kernel_rfl) h) (by intro x;kernel_rfl) (fun x h=>Tr.get_some h)
structure zaW where
 x0:U64
 x1:U64
 x2:U64
 x3:U64
 x4:U64
 x5:U64
 x6:U64
 x7:U64
 x8:U64
instance:Inhabited zaW:=⟨⟨default,default,default,default,default,default,default,default,default⟩⟩
def st_math_bits_Div64_24 (x:zaW):St:=⟨[(2,.u64 x.x0),(8,.u64 x.x1),(9,.u64 x.x2),(10,.u64 x.x3),(14,.u64 x.x4),(15,.u64 x.x5),(16,.u64 x.x6),(17,.u64 x.x7),(18,.u64 x.x8)],135,⟨[],0,0⟩⟩
def rd_math_bits_Div64_24:St->Option zaW:=fun s=>match s with
 | ⟨[(2,.u64 x0),(8,.u64 x1),(9,.u64 x2),(10,.u64 x3),(14,.u64 x4),(15,.u64 x5),(16,.u64 x6),(17,.u64 x7),(18,.u64 x8)],135,⟨[],0,0⟩⟩=>some ⟨x0,x1,x2,x3,x4,x5,x6,x7,x8⟩
 | _=>none
def zaU (x:zaW):Tr (Lp zaW):=
 .br (decide (x.x8.val>=4294967296)) (let c38:=(Rng.w .u64 (x.x8.val-1));let c39:=(Rng.w .u64 (x.x6.val+x.x2.val));.br (decide (c39.val>=4294967296)) (.leaf (.out ⟨x.x0,x.x1,x.x2,x.x3,x.x4,x.x5,c39,x.x7,c38⟩)) (.leaf (.again ⟨x.x0,x.x1,x.x2,x.x3,x.x4,x.x5,c39,x.x7,c38⟩))) (.br (decide ((Rng.w .u64 (x.x8.val*x.x3.val)).val>(Rng.w .u64 ((Rng.w .u64 (4294967296*x.x6.val)).val+x.x4.val)).val)) (let c45:=(Rng.w .u64 (x.x8.val-1));let c46:=(Rng.w .u64 (x.x6.val+x.x2.val));.br (decide (c46.val>=4294967296)) (.leaf (.out ⟨x.x0,x.x1,x.x2,x.x3,x.x4,x.x5,c46,x.x7,c45⟩)) (.leaf (.again ⟨x.x0,x.x1,x.x2,x.x3,x.x4,x.x5,c46,x.x7,c45⟩))) (.leaf (.out ⟨x.x0,x.x1,x.x2,x.x3,x.x4,x.x5,x.x6,x.x7,x.x8⟩)))
def zek (x:zaW):Bool:=(Lf zaU 4 x).opt.isSome
def L_math_bits_Div64_24 (x:zaW):zaW:=(Lf zaU 4 x).get
def TbL_math_bits_Div64_24:Tb Tryz.prog:= {T:= [],mix:=mix,Es:= [],Bs:= [],d:=1}
def P_math_bits_Div64_24:LpF:=loopF [2,8,9,10,14,15,16,17,18] [] 0 rd_math_bits_Div64_24 st_math_bits_Div64_24 (.exit 2) zek L_math_bits_Div64_24
theorem lok_math_bits_Div64_24:LoopOk Tryz.prog (loopAt (Tryz.f363.body.getD .skip) 1) P_math_bits_Div64_24:=loopF_ok (t:=TbL_math_bits_Div64_24) (lt:=fun _=>none) (body:=zaU) (n:=4) (by intro h;cases h) (fun _ _ _ h=>by cases h)
 (by intro s x h;unfold rd_math_bits_Div64_24 at h;split at h<;>cases h;rfl) (fun x b cs h=>lk_lt (l:=(st_math_bits_Div64_24 x).mm.blks) (by kernel_rfl) h) (by intro x;kernel_rfl) (fun x h=>Tr.get_some h)
def Y140:TyE Tryz.prog:=⟨140,1,(.int .u64),[.u64 ⟨0,rfl⟩],false,by kernel_rfl,by kernel_rfl,by kernel_rfl,by kernel_rfl,by kernel_rfl,by kernel_rfl⟩
def B363:Bod Tryz.prog:=⟨363,Tryz.f363,Tryz.f363.body.getD .skip,Tryz.func363,by kernel_rfl,by kernel_rfl,⟨ltOf [(17,P_math_bits_Div64_17),(24,P_math_bits_Div64_24)],zae.of (ks:= [17,24]) (by kernel_rfl) (by
 intro i k h f hf
 match i,h with
 | 0,h=>cases h;obtain rfl:P_math_bits_Div64_17=f:=Option.some.inj hf;exact lok_math_bits_Div64_17
 | 1,h=>cases h;obtain rfl:P_math_bits_Div64_24=f:=Option.some.inj hf;exact lok_math_bits_Div64_24
 | n+2,h=>simp at h)⟩⟩
def Tb363:Tb Tryz.prog:= {T:= [Y3,Y140],mix:=mix,Es:= [E_math_bits_LeadingZeros64],Bs:= [],d:=1}
def zdv (a0:U64) (a1:U64) (a2:U64):Tr (T2 U64 U64):=
 .br (a2.val==0) (.bad) (.br (decide (a2.val<=a0.val)) (.bad) (.br (a0.val==0) (.br (a2.val==0) (.bad) (.br (a2.val==0) (.bad) (.leaf ⟨(Rng.w .u64 (a1.val.tdiv a2.val)),(Rng.w .u64 (a1.val.tmod a2.val))⟩))) (.br (zcy a2) (let c4:=zdI a2;let c5:=(Rng.w .u64 (a2.val*(2^min ((Rng.w .u64 (c4.val)).val).toNat 64)));let c6:=(Rng.w .u64 (c5.val.fdiv 4294967296));let c7:=(Rng.w .u64 (zbf .and .u64 c5.val 4294967295));let c11:=(Rng.w .u64 (zbf .or .u64 (Rng.w .u64 (a0.val*(2^min ((Rng.w .u64 (c4.val)).val).toNat 64))).val (Rng.w .u64 (a1.val.fdiv (2^min ((Rng.w .u64 (64-(Rng.w .u64 (c4.val)).val)).val).toNat 64))).val));let c12:=(Rng.w .u64 (a1.val*(2^min ((Rng.w .u64 (c4.val)).val).toNat 64)));let c13:=(Rng.w .u64 (c12.val.fdiv 4294967296));let c14:=(Rng.w .u64 (zbf .and .u64 c12.val 4294967295));.br (c6.val==0) (.bad) (let c15:=(Rng.w .u64 (c11.val.tdiv c6.val));let c17:=(Rng.w .u64 (c11.val-(Rng.w .u64 (c15.val*c6.val)).val));.br (zel ⟨c5,(Rng.w .u64 (c4.val)),c6,c7,c11,c13,c14,c15,c17⟩) (let c29:=L_math_bits_Div64_17 ⟨c5,(Rng.w .u64 (c4.val)),c6,c7,c11,c13,c14,c15,c17⟩;let c33:=(Rng.w .u64 ((Rng.w .u64 ((Rng.w .u64 (c29.x4.val*4294967296)).val+c29.x5.val)).val-(Rng.w .u64 (c29.x7.val*c29.x0.val)).val));.br (c29.x2.val==0) (.bad) (let c34:=(Rng.w .u64 (c33.val.tdiv c29.x2.val));let c36:=(Rng.w .u64 (c33.val-(Rng.w .u64 (c34.val*c29.x2.val)).val));.br (zek ⟨c29.x0,c29.x1,c29.x2,c29.x3,c29.x6,c29.x7,c36,c33,c34⟩) (let c48:=L_math_bits_Div64_24 ⟨c29.x0,c29.x1,c29.x2,c29.x3,c29.x6,c29.x7,c36,c33,c34⟩;.leaf ⟨(Rng.w .u64 ((Rng.w .u64 (c48.x5.val*4294967296)).val+c48.x8.val)),(Rng.w .u64 ((Rng.w .u64 ((Rng.w .u64 ((Rng.w .u64 (c48.x7.val*4294967296)).val+c48.x4.val)).val-(Rng.w .u64 (c48.x8.val*c48.x0.val)).val)).val.fdiv (2^min (c48.x1.val).toNat 64)))⟩) (.bad))) (.bad))) (.bad))))
theorem r_math_bits_Div64 (a0:U64) (a1:U64) (a2:U64):Tb363.run B363 [enc a0,enc a1,enc a2] (T2 U64 U64)=(zdv a0 a1 a2).opt:=by kernel_rfl
def F_math_bits_Div64:U64->U64->U64->T2 U64 U64:=fun a0 a1 a2=>(zdv a0 a1 a2).get
def G_math_bits_Div64:U64->U64->U64->Bool:=fun a0 a1 a2=>(zdv a0 a1 a2).opt.isSome
def E_math_bits_Div64:Ent Tryz.prog:= .of3 Tb363 B363 G_math_bits_Div64 F_math_bits_Div64 fun a0 a1 a2 h=>(r_math_bits_Div64 a0 a1 a2).trans (Tr.get_some h)
def B350:Bod Tryz.prog:=⟨350,Tryz.f350,Tryz.f350.body.getD .skip,Tryz.func350,by kernel_rfl,by kernel_rfl,zae.no _ _⟩
def Tb350:Tb Tryz.prog:= {T:= [],mix:=mix,Es:= [E_math_bits_Div64],Bs:= [],d:=1}
def t_impl_divided (a0:U64) (a1:U64) (a2:U64):Tr (T3 U64 U64 U64):=
 .br (a2.val==0) (.bad) (.br (a2.val==0) (.bad) (let c2:=(Rng.w .u64 (a0.val.tmod a2.val));.br (G_math_bits_Div64 c2 a1 a2) (let c3:=F_math_bits_Div64 c2 a1 a2;.leaf ⟨(Rng.w .u64 (a0.val.tdiv a2.val)),c3.a,c3.b⟩) (.bad)))
theorem r_impl_divided (a0:U64) (a1:U64) (a2:U64):Tb350.run B350 [enc a0,enc a1,enc a2] (T3 U64 U64 U64)=(t_impl_divided a0 a1 a2).opt:=by kernel_rfl
def F_impl_divided:U64->U64->U64->T3 U64 U64 U64:=fun a0 a1 a2=>(t_impl_divided a0 a1 a2).get
def G_impl_divided:U64->U64->U64->Bool:=fun a0 a1 a2=>(t_impl_divided a0 a1 a2).opt.isSome
def E_impl_divided:Ent Tryz.prog:= .of3 Tb350 B350 G_impl_divided F_impl_divided fun a0 a1 a2 h=>(r_impl_divided a0 a1 a2).trans (Tr.get_some h)
def B351:Bod Tryz.prog:=⟨351,Tryz.f351,Tryz.f351.body.getD .skip,Tryz.func351,by kernel_rfl,by kernel_rfl,zae.no _ _⟩
def Tb351:Tb Tryz.prog:= {T:= [Y2,Y132,Y148],mix:=mix,Es:= [E_math_bits_Sub64],Bs:= [],d:=1}
def zdc (a0:Wide):Tr (Wide):=
 let c1:=zeB ⟨0,rfl⟩ a0.lo ⟨0,rfl⟩;.br (G_carry ⟨0,rfl⟩ (Rng.w .u64 (a0.hi.val)) c1.b) (.leaf ⟨(Rng.w .i64 ((zeB ⟨0,rfl⟩ (Rng.w .u64 (a0.hi.val)) c1.b).a.val)),c1.a⟩) (.bad)
theorem r_impl_Wide_negative (a0:Wide):Tb351.run B351 [enc a0] (Wide)=(zdc a0).opt:=by kernel_rfl
def zdg:Wide->Wide:=fun a0=>(zdc a0).get
def zcs:Wide->Bool:=fun a0=>(zdc a0).opt.isSome
def E_impl_Wide_negative:Ent Tryz.prog:= .of1 Tb351 B351 zcs zdg fun a0 h=>(r_impl_Wide_negative a0).trans (Tr.get_some h)
def B329:Bod Tryz.prog:=⟨329,Tryz.f329,Tryz.f329.body.getD .skip,Tryz.func329,by kernel_rfl,by kernel_rfl,zae.no _ _⟩
def Tb329:Tb Tryz.prog:= {T:= [Y2,Y132,Y148],mix:=mix,Es:= [E_math_bits_Add64,E_impl_divided,E_impl_Wide_negative],Bs:= [],d:=1}
def zd8 (a0:Wide) (a1:I64):Tr (T3 Wide I64 Bool):=
 .br (decide (a1.val<=0)) (.leaf ⟨⟨⟨0,rfl⟩,⟨0,rfl⟩⟩,⟨0,rfl⟩,false⟩) (.br (decide (a0.hi.val>=0)) (.br (G_impl_divided (Rng.w .u64 (a0.hi.val)) a0.lo (Rng.w .u64 (a1.val))) (let c1:=F_impl_divided (Rng.w .u64 (a0.hi.val)) a0.lo (Rng.w .u64 (a1.val));.leaf ⟨⟨(Rng.w .i64 (c1.a.val)),c1.b⟩,(Rng.w .i64 (c1.c.val)),true⟩) (.bad)) (.br (zcs a0) (let c2:=zdg a0;.br (G_impl_divided (Rng.w .u64 (c2.hi.val)) c2.lo (Rng.w .u64 (a1.val))) (let c3:=F_impl_divided (Rng.w .u64 (c2.hi.val)) c2.lo (Rng.w .u64 (a1.val));.br (c3.c.val==0) (.br (zcs ⟨(Rng.w .i64 (c3.a.val)),c3.b⟩) (.leaf ⟨(zdg ⟨(Rng.w .i64 (c3.a.val)),c3.b⟩),⟨0,rfl⟩,true⟩) (.bad)) (let c5:=zaJ c3.b ⟨1,rfl⟩ ⟨0,rfl⟩;let c6:=(Rng.w .u64 (c3.a.val+c5.b.val));.br (zcs ⟨(Rng.w .i64 (c6.val)),c5.a⟩) (.leaf ⟨(zdg ⟨(Rng.w .i64 (c6.val)),c5.a⟩),(Rng.w .i64 (a1.val-(Rng.w .i64 (c3.c.val)).val)),true⟩) (.bad))) (.bad)) (.bad)))
theorem r_impl_WideDiv (a0:Wide) (a1:I64):Tb329.run B329 [enc a0,enc a1] (T3 Wide I64 Bool)=(zd8 a0 a1).opt:=by kernel_rfl
def zfr:Wide->I64->T3 Wide I64 Bool:=fun a0 a1=>(zd8 a0 a1).get
def zcL:Wide->I64->Bool:=fun a0 a1=>(zd8 a0 a1).opt.isSome
def E_impl_WideDiv:Ent Tryz.prog:= .of2 Tb329 B329 zcL zfr fun a0 a1 h=>(r_impl_WideDiv a0 a1).trans (Tr.get_some h)
def B348:Bod Tryz.prog:=⟨348,Tryz.f348,Tryz.f348.body.getD .skip,Tryz.func348,by kernel_rfl,by kernel_rfl,zae.no _ _⟩
def Tb348:Tb Tryz.prog:= {T:= [Y2,Y132,Y148],mix:=mix,Es:= [],Bs:= [],d:=1}
def t_impl_WideOf (a0:I64):Tr (Wide):=
 .leaf ⟨(Rng.w .i64 (a0.val.fdiv 9223372036854775808)),(Rng.w .u64 (a0.val))⟩
theorem r_impl_WideOf (a0:I64):Tb348.run B348 [enc a0] (Wide)=(t_impl_WideOf a0).opt:=by kernel_rfl
def F_impl_WideOf:I64->Wide:=fun a0=>(t_impl_WideOf a0).get
theorem u_impl_WideOf (a0:I64):(t_impl_WideOf a0).opt=some (F_impl_WideOf a0):=Tr.zL (by kernel_rfl)
def E_impl_WideOf:Ent Tryz.prog:= .of1 Tb348 B348 (fun _=>true) F_impl_WideOf fun a0 _=>(r_impl_WideOf a0).trans (u_impl_WideOf a0)
def B323:Bod Tryz.prog:=⟨323,Tryz.f323,Tryz.f323.body.getD .skip,Tryz.func323,by kernel_rfl,by kernel_rfl,zae.no _ _⟩
def Tb323:Tb Tryz.prog:= {T:= [Y2,Y132,Y148],mix:=mix,Es:= [E_impl_WideOf],Bs:= [],d:=1}
def t_impl_WideInt (a0:Wide):Tr (T2 I64 Bool):=
 let c1:=F_impl_WideOf (Rng.w .i64 (a0.lo.val));.br (!((c1.hi.val==a0.hi.val)&&((c1.lo.val==a0.lo.val)&&true))) (.leaf ⟨⟨0,rfl⟩,false⟩) (.leaf ⟨(Rng.w .i64 (a0.lo.val)),true⟩)
theorem r_impl_WideInt (a0:Wide):Tb323.run B323 [enc a0] (T2 I64 Bool)=(t_impl_WideInt a0).opt:=by kernel_rfl
def zfq:Wide->T2 I64 Bool:=fun a0=>(t_impl_WideInt a0).get
theorem u_impl_WideInt (a0:Wide):(t_impl_WideInt a0).opt=some (zfq a0):=Tr.zL (by kernel_rfl)
def E_impl_WideInt:Ent Tryz.prog:= .of1 Tb323 B323 (fun _=>true) zfq fun a0 _=>(r_impl_WideInt a0).trans (u_impl_WideInt a0)
def B285:Bod Tryz.prog:=⟨285,Tryz.f285,Tryz.f285.body.getD .skip,Tryz.func285,by kernel_rfl,by kernel_rfl,zae.no _ _⟩
def Tb285:Tb Tryz.prog:= {T:= [Y2,Y132,Y148],mix:=mix,Es:= [E_impl_WideMul,E_impl_WideInt,E_impl_WideDiv],Bs:= [],d:=1}
def zcj (a0:I64) (a1:I64) (a2:I64):Tr (T2 I64 Bool):=
 let c1:=zbr a0 a1;.br (zcL c1 a2) (let c2:=zfr c1 a2;.br (!c2.c) (.leaf ⟨⟨0,rfl⟩,false⟩) (let c3:=zfq c2.a;.leaf ⟨c3.a,c3.b⟩)) (.bad)
theorem r_impl_MulDivFloor (a0:I64) (a1:I64) (a2:I64):Tb285.run B285 [enc a0,enc a1,enc a2] (T2 I64 Bool)=(zcj a0 a1 a2).opt:=by kernel_rfl
def zbk:I64->I64->I64->T2 I64 Bool:=fun a0 a1 a2=>(zcj a0 a1 a2).get
def zbU:I64->I64->I64->Bool:=fun a0 a1 a2=>(zcj a0 a1 a2).opt.isSome
def E_impl_MulDivFloor:Ent Tryz.prog:= .of3 Tb285 B285 zbU zbk fun a0 a1 a2 h=>(r_impl_MulDivFloor a0 a1 a2).trans (Tr.get_some h)
def B273:Bod Tryz.prog:=⟨273,Tryz.f273,Tryz.f273.body.getD .skip,Tryz.func273,by kernel_rfl,by kernel_rfl,zae.no _ _⟩
def Tb273:Tb Tryz.prog:= {T:= [],mix:=mix,Es:= [zbO],Bs:= [],d:=1}
def zfQ (a0:I64):Tr (Bool):=
 .leaf (zaK a0 ⟨(-1152921504606846976),rfl⟩ ⟨1152921504606846976,rfl⟩)
theorem r_impl_ValidFix (a0:I64):Tb273.run B273 [enc a0] (Bool)=(zfQ a0).opt:=by kernel_rfl
def zaQ:I64->Bool:=fun a0=>(zfQ a0).get
theorem u_impl_ValidFix (a0:I64):(zfQ a0).opt=some (zaQ a0):=Tr.zL (by kernel_rfl)
def zdH:Ent Tryz.prog:= .of1 Tb273 B273 (fun _=>true) zaQ fun a0 _=>(r_impl_ValidFix a0).trans (u_impl_ValidFix a0)
def B274:Bod Tryz.prog:=⟨274,Tryz.f274,Tryz.f274.body.getD .skip,Tryz.func274,by kernel_rfl,by kernel_rfl,zae.no _ _⟩
def Tb274:Tb Tryz.prog:= {T:= [],mix:=mix,Es:= [zdH],Bs:= [],d:=1}
def t_impl_fixed (a0:I64) (a1:Bool):Tr (T2 I64 Bool):=
 .br (!a1) (.leaf ⟨⟨0,rfl⟩,false⟩) (.br (!(zaQ a0)) (.leaf ⟨⟨0,rfl⟩,false⟩) (.leaf ⟨a0,true⟩))
theorem r_impl_fixed (a0:I64) (a1:Bool):Tb274.run B274 [enc a0,enc a1] (T2 I64 Bool)=(t_impl_fixed a0 a1).opt:=by kernel_rfl
def zca:I64->Bool->T2 I64 Bool:=fun a0 a1=>(t_impl_fixed a0 a1).get
theorem u_impl_fixed (a0:I64) (a1:Bool):(t_impl_fixed a0 a1).opt=some (zca a0 a1):=Tr.zL (by kernel_rfl)
def E_impl_fixed:Ent Tryz.prog:= .of2 Tb274 B274 (fun _ _=>true) zca fun a0 a1 _=>(r_impl_fixed a0 a1).trans (u_impl_fixed a0 a1)
def B276:Bod Tryz.prog:=⟨276,Tryz.f276,Tryz.f276.body.getD .skip,Tryz.func276,by kernel_rfl,by kernel_rfl,zae.no _ _⟩
def Tb276:Tb Tryz.prog:= {T:= [],mix:=mix,Es:= [E_impl_fixed,E_impl_MulDivFloor],Bs:= [],d:=1}
def zfS (a0:I64) (a1:I64):Tr (T2 I64 Bool):=
 .br (zbU a0 ⟨4294967296,rfl⟩ a1) (let c1:=zbk a0 ⟨4294967296,rfl⟩ a1;let c2:=zca c1.a c1.b;.leaf ⟨c2.a,c2.b⟩) (.bad)
theorem r_impl_FixFloor (a0:I64) (a1:I64):Tb276.run B276 [enc a0,enc a1] (T2 I64 Bool)=(zfS a0 a1).opt:=by kernel_rfl
def F_impl_FixFloor:I64->I64->T2 I64 Bool:=fun a0 a1=>(zfS a0 a1).get
def zfZ:I64->I64->Bool:=fun a0 a1=>(zfS a0 a1).opt.isSome
def E_impl_FixFloor:Ent Tryz.prog:= .of2 Tb276 B276 zfZ F_impl_FixFloor fun a0 a1 h=>(r_impl_FixFloor a0 a1).trans (Tr.get_some h)
def B325:Bod Tryz.prog:=⟨325,Tryz.f325,Tryz.f325.body.getD .skip,Tryz.func325,by kernel_rfl,by kernel_rfl,zae.no _ _⟩
def Tb325:Tb Tryz.prog:= {T:= [Y2,Y132,Y148],mix:=mix,Es:= [E_impl_WideMul,E_impl_WideInt,E_impl_WideDiv],Bs:= [],d:=1}
def zcC (a0:I64) (a1:I64) (a2:I64):Tr (T2 I64 Bool):=
 let c1:=zbr a0 a1;.br (zcL c1 a2) (let c2:=zfr c1 a2;.br (!c2.c) (.leaf ⟨⟨0,rfl⟩,false⟩) (let c3:=zfq c2.a;.br (!c3.b) (.leaf ⟨⟨0,rfl⟩,false⟩) (.br (decide (c2.b.val>0)) (.br (c3.a.val==9223372036854775807) (.leaf ⟨⟨0,rfl⟩,false⟩) (.br (decide (c2.b.val>0)) (.leaf ⟨(Rng.w .i64 (c3.a.val+1)),true⟩) (.leaf ⟨c3.a,true⟩))) (.br (decide (c2.b.val>0)) (.leaf ⟨(Rng.w .i64 (c3.a.val+1)),true⟩) (.leaf ⟨c3.a,true⟩))))) (.bad)
theorem r_impl_mulDivCeil (a0:I64) (a1:I64) (a2:I64):Tb325.run B325 [enc a0,enc a1,enc a2] (T2 I64 Bool)=(zcC a0 a1 a2).opt:=by kernel_rfl
def F_impl_mulDivCeil:I64->I64->I64->T2 I64 Bool:=fun a0 a1 a2=>(zcC a0 a1 a2).get
def zdx:I64->I64->I64->Bool:=fun a0 a1 a2=>(zcC a0 a1 a2).opt.isSome
def E_impl_mulDivCeil:Ent Tryz.prog:= .of3 Tb325 B325 zdx F_impl_mulDivCeil fun a0 a1 a2 h=>(r_impl_mulDivCeil a0 a1 a2).trans (Tr.get_some h)
def B277:Bod Tryz.prog:=⟨277,Tryz.f277,Tryz.f277.body.getD .skip,Tryz.func277,by kernel_rfl,by kernel_rfl,zae.no _ _⟩
def Tb277:Tb Tryz.prog:= {T:= [],mix:=mix,Es:= [E_impl_fixed,E_impl_mulDivCeil],Bs:= [],d:=1}
def zfi (a0:I64) (a1:I64):Tr (T2 I64 Bool):=
 .br (zdx a0 ⟨4294967296,rfl⟩ a1) (let c1:=F_impl_mulDivCeil a0 ⟨4294967296,rfl⟩ a1;let c2:=zca c1.a c1.b;.leaf ⟨c2.a,c2.b⟩) (.bad)
theorem r_impl_FixCeil (a0:I64) (a1:I64):Tb277.run B277 [enc a0,enc a1] (T2 I64 Bool)=(zfi a0 a1).opt:=by kernel_rfl
def F_impl_FixCeil:I64->I64->T2 I64 Bool:=fun a0 a1=>(zfi a0 a1).get
def G_impl_FixCeil:I64->I64->Bool:=fun a0 a1=>(zfi a0 a1).opt.isSome
def E_impl_FixCeil:Ent Tryz.prog:= .of2 Tb277 B277 G_impl_FixCeil F_impl_FixCeil fun a0 a1 h=>(r_impl_FixCeil a0 a1).trans (Tr.get_some h)
def B207:Bod Tryz.prog:=⟨207,Tryz.f207,Tryz.f207.body.getD .skip,Tryz.func207,by kernel_rfl,by kernel_rfl,zae.no _ _⟩
def Tb207:Tb Tryz.prog:= {T:= [Y2,Y30],mix:=mix,Es:= [],Bs:= [],d:=1}
def t_impl_ValidInterval (a0:Iv):Tr (Bool):=
 .br (decide ((-1152921504606846976)<a0.lo.val)) (.br (decide (a0.lo.val<=a0.hi.val)) (.leaf (decide (a0.hi.val<1152921504606846976))) (.leaf false)) (.leaf false)
theorem r_impl_ValidInterval (a0:Iv):Tb207.run B207 [enc a0] (Bool)=(t_impl_ValidInterval a0).opt:=by kernel_rfl
def zbp:Iv->Bool:=fun a0=>(t_impl_ValidInterval a0).get
theorem u_impl_ValidInterval (a0:Iv):(t_impl_ValidInterval a0).opt=some (zbp a0):=Tr.zL (by kernel_rfl)
def zdh:Ent Tryz.prog:= .of1 Tb207 B207 (fun _=>true) zbp fun a0 _=>(r_impl_ValidInterval a0).trans (u_impl_ValidInterval a0)
def B172:Bod Tryz.prog:=⟨172,Tryz.f172,Tryz.f172.body.getD .skip,Tryz.func172,by kernel_rfl,by kernel_rfl,zae.no _ _⟩
def Tb172:Tb Tryz.prog:= {T:= [Y2,Y30],mix:=mix,Es:= [zaD,zdh],Bs:= [],d:=1}
def t_impl_bounded (a0:I64) (a1:I64) (a2:Bool):Tr (Iv):=
 .br a2 (.br (zbp ⟨a0,a1⟩) (.leaf ⟨a0,a1⟩) (.leaf zH)) (.leaf zH)
theorem r_impl_bounded (a0:I64) (a1:I64) (a2:Bool):Tb172.run B172 [enc a0,enc a1,enc a2] (Iv)=(t_impl_bounded a0 a1 a2).opt:=by kernel_rfl
def zaN:I64->I64->Bool->Iv:=fun a0 a1 a2=>(t_impl_bounded a0 a1 a2).get
theorem u_impl_bounded (a0:I64) (a1:I64) (a2:Bool):(t_impl_bounded a0 a1 a2).opt=some (zaN a0 a1 a2):=Tr.zL (by kernel_rfl)
def zcf:Ent Tryz.prog:= .of3 Tb172 B172 (fun _ _ _=>true) zaN fun a0 a1 a2 _=>(r_impl_bounded a0 a1 a2).trans (u_impl_bounded a0 a1 a2)
def B203:Bod Tryz.prog:=⟨203,Tryz.f203,Tryz.f203.body.getD .skip,Tryz.func203,by kernel_rfl,by kernel_rfl,zae.no _ _⟩
def Tb203:Tb Tryz.prog:= {T:= [Y2,Y30],mix:=mix,Es:= [zaD,zcf,E_impl_FixFloor,E_impl_FixCeil],Bs:= [],d:=1}
def zfR (a0:I64) (a1:I64):Tr (Iv):=
 .br (decide (a1.val<0)) (let c1:=(Rng.w .i64 (0-a0.val));let c2:=(Rng.w .i64 (0-a1.val));.br (decide (c2.val<0)) (.leaf zH) (.br (c1.val==(-9223372036854775808)) (.leaf zH) (.br (zfZ c1 c2) (let c6:=F_impl_FixFloor c1 c2;.br (G_impl_FixCeil c1 c2) (let c7:=F_impl_FixCeil c1 c2;.br c6.b (.leaf (zaN c6.a c7.a c7.b)) (.leaf (zaN c6.a c7.a false))) (.bad)) (.bad)))) (.br (zfZ a0 a1) (let c10:=F_impl_FixFloor a0 a1;.br (G_impl_FixCeil a0 a1) (let c11:=F_impl_FixCeil a0 a1;.br c10.b (.leaf (zaN c10.a c11.a c11.b)) (.leaf (zaN c10.a c11.a false))) (.bad)) (.bad))
theorem r_impl_Quotient (a0:I64) (a1:I64):Tb203.run B203 [enc a0,enc a1] (Iv)=(zfR a0 a1).opt:=by kernel_rfl
def zam:I64->I64->Iv:=fun a0 a1=>(zfR a0 a1).get
def B89:Bod Tryz.prog:=⟨89,Tryz.f89,Tryz.f89.body.getD .skip,Tryz.func89,by kernel_rfl,by kernel_rfl,zae.no _ _⟩
def Tb89:Tb Tryz.prog:= {T:= [Y2,Y30],mix:=mix,Es:= [],Bs:= [],d:=1}
def t_spec_l04Whole:Tr (Iv):=
 .leaf ⟨⟨(-1152921504606846976),rfl⟩,⟨1152921504606846976,rfl⟩⟩
theorem r_spec_l04Whole:Tb89.run B89 [] (Iv)=(t_spec_l04Whole).opt:=by kernel_rfl
def zo:Iv:=(t_spec_l04Whole).get
theorem u_spec_l04Whole:(t_spec_l04Whole).opt=some (zo):=Tr.zL (by kernel_rfl)
def zas:Ent Tryz.prog:= .of0 Tb89 B89 zo (r_spec_l04Whole.trans u_spec_l04Whole)
def B133:Bod Tryz.prog:=⟨133,Tryz.f133,Tryz.f133.body.getD .skip,Tryz.func133,by kernel_rfl,by kernel_rfl,zae.no _ _⟩
def Tb133:Tb Tryz.prog:= {T:= [Y2,Y30],mix:=mix,Es:= [zas],Bs:= [],d:=1}
def t_spec_Whole:Tr (Iv):=
 .leaf zo
theorem r_spec_Whole:Tb133.run B133 [] (Iv)=(t_spec_Whole).opt:=by kernel_rfl
def zaR:Iv:=(t_spec_Whole).get
theorem u_spec_Whole:(t_spec_Whole).opt=some (zaR):=Tr.zL (by kernel_rfl)
def zd4:Ent Tryz.prog:= .of0 Tb133 B133 zaR (r_spec_Whole.trans u_spec_Whole)
def B294:Bod Tryz.prog:=⟨294,Tryz.f294,Tryz.f294.body.getD .skip,Tryz.func294,by kernel_rfl,by kernel_rfl,zae.no _ _⟩
def Tb294:Tb Tryz.prog:= {T:= [Y2,Y132],mix:=mix,Es:= [],Bs:= [],d:=1}
def t_spec_l02Size (a0:I64):Tr (U64):=
 .br (decide (a0.val<0)) (.leaf (Rng.w .u64 (0-(Rng.w .u64 (a0.val)).val))) (.leaf (Rng.w .u64 (a0.val)))
theorem r_spec_l02Size (a0:I64):Tb294.run B294 [enc a0] (U64)=(t_spec_l02Size a0).opt:=by kernel_rfl
def zbq:I64->U64:=fun a0=>(t_spec_l02Size a0).get
theorem u_spec_l02Size (a0:I64):(t_spec_l02Size a0).opt=some (zbq a0):=Tr.zL (by kernel_rfl)
def E_spec_l02Size:Ent Tryz.prog:= .of1 Tb294 B294 (fun _=>true) zbq fun a0 _=>(r_spec_l02Size a0).trans (u_spec_l02Size a0)
def B293:Bod Tryz.prog:=⟨293,Tryz.f293,Tryz.f293.body.getD .skip,Tryz.func293,by kernel_rfl,by kernel_rfl,zae.no _ _⟩
def Tb293:Tb Tryz.prog:= {T:= [],mix:=mix,Es:= [],Bs:= [],d:=1}
def t_spec_l02Times (a0:U64) (a1:U64):Tr (T2 U64 U64):=
 let c8:=(Rng.w .u64 ((Rng.w .u64 ((Rng.w .u64 (a0.val.fdiv 4294967296)).val*(Rng.w .u64 (zbf .and .u64 a1.val 4294967295)).val)).val+(Rng.w .u64 ((Rng.w .u64 ((Rng.w .u64 (zbf .and .u64 a0.val 4294967295)).val*(Rng.w .u64 (zbf .and .u64 a1.val 4294967295)).val)).val.fdiv 4294967296)).val));.leaf ⟨(Rng.w .u64 ((Rng.w .u64 ((Rng.w .u64 ((Rng.w .u64 (a0.val.fdiv 4294967296)).val*(Rng.w .u64 (a1.val.fdiv 4294967296)).val)).val+(Rng.w .u64 (c8.val.fdiv 4294967296)).val)).val+(Rng.w .u64 ((Rng.w .u64 ((Rng.w .u64 ((Rng.w .u64 (zbf .and .u64 a0.val 4294967295)).val*(Rng.w .u64 (a1.val.fdiv 4294967296)).val)).val+(Rng.w .u64 (zbf .and .u64 c8.val 4294967295)).val)).val.fdiv 4294967296)).val)),(Rng.w .u64 (a0.val*a1.val))⟩
theorem r_spec_l02Times (a0:U64) (a1:U64):Tb293.run B293 [enc a0,enc a1] (T2 U64 U64)=(t_spec_l02Times a0 a1).opt:=by kernel_rfl
def zeA:U64->U64->T2 U64 U64:=fun a0 a1=>(t_spec_l02Times a0 a1).get
theorem u_spec_l02Times (a0:U64) (a1:U64):(t_spec_l02Times a0 a1).opt=some (zeA a0 a1):=Tr.zL (by kernel_rfl)
def E_spec_l02Times:Ent Tryz.prog:= .of2 Tb293 B293 (fun _ _=>true) zeA fun a0 a1 _=>(r_spec_l02Times a0 a1).trans (u_spec_l02Times a0 a1)
def B290:Bod Tryz.prog:=⟨290,Tryz.f290,Tryz.f290.body.getD .skip,Tryz.func290,by kernel_rfl,by kernel_rfl,zae.no _ _⟩
def Tb290:Tb Tryz.prog:= {T:= [Y2,Y132,Y148],mix:=mix,Es:= [],Bs:= [],d:=1}
def zdC (a0:Wide):Tr (Wide):=
 let c2:=(Rng.w .u64 (0-a0.lo.val));.br (a0.lo.val==0) (.leaf ⟨(Rng.w .i64 (0-a0.hi.val)),c2⟩) (.leaf ⟨(Rng.w .i64 (zbf .xor .i64 (-1) a0.hi.val)),c2⟩)
theorem r_spec_l02Minus (a0:Wide):Tb290.run B290 [enc a0] (Wide)=(zdC a0).opt:=by kernel_rfl
def zaP:Wide->Wide:=fun a0=>(zdC a0).get
theorem u_spec_l02Minus (a0:Wide):(zdC a0).opt=some (zaP a0):=Tr.zL (by kernel_rfl)
def E_spec_l02Minus:Ent Tryz.prog:= .of1 Tb290 B290 (fun _=>true) zaP fun a0 _=>(r_spec_l02Minus a0).trans (u_spec_l02Minus a0)
def Y4:TyE Tryz.prog:=⟨4,1,.bool,[.bool false],false,by kernel_rfl,by kernel_rfl,by kernel_rfl,by kernel_rfl,by kernel_rfl,by kernel_rfl⟩
def B230:Bod Tryz.prog:=⟨230,Tryz.f230,Tryz.f230.body.getD .skip,Tryz.func230,by kernel_rfl,by kernel_rfl,zae.no _ _⟩
def Tb230:Tb Tryz.prog:= {T:= [Y2,Y4,Y132,Y148],mix:=mix,Es:= [E_spec_l02Minus,E_spec_l02Times,E_spec_l02Size],Bs:= [],d:=1}
def t_spec_l02Mul (a0:I64) (a1:I64):Tr (Wide):=
 let c3:=zeA (zbq a0) (zbq a1);.br (!((decide (a0.val<0))==(decide (a1.val<0)))) (.leaf (zaP ⟨(Rng.w .i64 (c3.a.val)),c3.b⟩)) (.leaf ⟨(Rng.w .i64 (c3.a.val)),c3.b⟩)
theorem r_spec_l02Mul (a0:I64) (a1:I64):Tb230.run B230 [enc a0,enc a1] (Wide)=(t_spec_l02Mul a0 a1).opt:=by kernel_rfl
def zcn:I64->I64->Wide:=fun a0 a1=>(t_spec_l02Mul a0 a1).get
theorem u_spec_l02Mul (a0:I64) (a1:I64):(t_spec_l02Mul a0 a1).opt=some (zcn a0 a1):=Tr.zL (by kernel_rfl)
def E_spec_l02Mul:Ent Tryz.prog:= .of2 Tb230 B230 (fun _ _=>true) zcn fun a0 a1 _=>(r_spec_l02Mul a0 a1).trans (u_spec_l02Mul a0 a1)
structure zbT where
 x0:U64
 x1:U64
 x2:U64
 x3:U64
 x4:U64
 x5:I64
instance:Inhabited zbT:=⟨⟨default,default,default,default,default,default⟩⟩
def st_spec_l02Divide_5 (x:zbT):St:=⟨[(1,.u64 x.x0),(2,.u64 x.x1),(9,.u64 x.x2),(10,.u64 x.x3),(11,.u64 x.x4),(12,.i64 x.x5)],51,⟨[],0,0⟩⟩
def rd_spec_l02Divide_5:St->Option zbT:=fun s=>match s with
 | ⟨[(1,.u64 x0),(2,.u64 x1),(9,.u64 x2),(10,.u64 x3),(11,.u64 x4),(12,.i64 x5)],51,⟨[],0,0⟩⟩=>some ⟨x0,x1,x2,x3,x4,x5⟩
 | _=>none
def zck (x:zbT):Tr (Lp zbT):=
 .br (decide (x.x5.val>=0)) (let c7:=(Rng.w .u64 (zbf .or .u64 (Rng.w .u64 (x.x3.val*2)).val (Rng.w .u64 (zbf .and .u64 (Rng.w .u64 (x.x0.val.fdiv (2^min ((Rng.w .u64 (x.x5.val)).val).toNat 64))).val 1)).val));let c8:=(Rng.w .u64 (x.x4.val*2));.br ((Rng.w .u64 (x.x3.val.fdiv 9223372036854775808)).val==1) (.leaf (.again ⟨x.x0,x.x1,x.x2,(Rng.w .u64 (c7.val-x.x1.val)),(Rng.w .u64 (zbf .or .u64 c8.val 1)),(Rng.w .i64 (x.x5.val-1))⟩)) (.br (decide (c7.val>=x.x1.val)) (.leaf (.again ⟨x.x0,x.x1,x.x2,(Rng.w .u64 (c7.val-x.x1.val)),(Rng.w .u64 (zbf .or .u64 c8.val 1)),(Rng.w .i64 (x.x5.val-1))⟩)) (.leaf (.again ⟨x.x0,x.x1,x.x2,c7,c8,(Rng.w .i64 (x.x5.val-1))⟩)))) (.leaf (.out ⟨x.x0,x.x1,x.x2,x.x3,x.x4,x.x5⟩))
def zfz (x:zbT):Bool:=(Lf zck 66 x).opt.isSome
def L_spec_l02Divide_5 (x:zbT):zbT:=(Lf zck 66 x).get
def TbL_spec_l02Divide_5:Tb Tryz.prog:= {T:= [Y3,Y140],mix:=mix,Es:= [],Bs:= [],d:=1}
def P_spec_l02Divide_5:LpF:=loopF [1,2,9,10,11,12] [] 0 rd_spec_l02Divide_5 st_spec_l02Divide_5 (.exit 0) zfz L_spec_l02Divide_5
theorem lok_spec_l02Divide_5:LoopOk Tryz.prog (loopAt (Tryz.f289.body.getD .skip) 0) P_spec_l02Divide_5:=loopF_ok (t:=TbL_spec_l02Divide_5) (lt:=fun _=>none) (body:=zck) (n:=66) (by intro h;cases h) (fun _ _ _ h=>by cases h)
 (by intro s x h;unfold rd_spec_l02Divide_5 at h;split at h<;>cases h;rfl) (fun x b cs h=>lk_lt (l:=(st_spec_l02Divide_5 x).mm.blks) (by kernel_rfl) h) (by intro x;kernel_rfl) (fun x h=>Tr.get_some h)
def B289:Bod Tryz.prog:=⟨289,Tryz.f289,Tryz.f289.body.getD .skip,Tryz.func289,by kernel_rfl,by kernel_rfl,⟨ltOf [(5,P_spec_l02Divide_5)],zae.of (ks:= [5]) (by kernel_rfl) (by
 intro i k h f hf
 match i,h with
 | 0,h=>cases h;obtain rfl:P_spec_l02Divide_5=f:=Option.some.inj hf;exact lok_spec_l02Divide_5
 | n+1,h=>simp at h)⟩⟩
def Tb289:Tb Tryz.prog:= {T:= [Y3,Y140],mix:=mix,Es:= [],Bs:= [],d:=1}
def ze3 (a0:U64) (a1:U64) (a2:U64):Tr (T3 U64 U64 U64):=
 .br (a2.val==0) (.bad) (let c1:=(Rng.w .u64 (a0.val.tdiv a2.val));.br (a2.val==0) (.bad) (let c2:=(Rng.w .u64 (a0.val.tmod a2.val));.br (zfz ⟨a1,a2,c1,c2,⟨0,rfl⟩,⟨63,rfl⟩⟩) (let c17:=L_spec_l02Divide_5 ⟨a1,a2,c1,c2,⟨0,rfl⟩,⟨63,rfl⟩⟩;.leaf ⟨c17.x2,c17.x4,c17.x3⟩) (.bad)))
theorem r_spec_l02Divide (a0:U64) (a1:U64) (a2:U64):Tb289.run B289 [enc a0,enc a1,enc a2] (T3 U64 U64 U64)=(ze3 a0 a1 a2).opt:=by kernel_rfl
def zb1:U64->U64->U64->T3 U64 U64 U64:=fun a0 a1 a2=>(ze3 a0 a1 a2).get
def ze9:U64->U64->U64->Bool:=fun a0 a1 a2=>(ze3 a0 a1 a2).opt.isSome
def E_spec_l02Divide:Ent Tryz.prog:= .of3 Tb289 B289 ze9 zb1 fun a0 a1 a2 h=>(r_spec_l02Divide a0 a1 a2).trans (Tr.get_some h)
def B292:Bod Tryz.prog:=⟨292,Tryz.f292,Tryz.f292.body.getD .skip,Tryz.func292,by kernel_rfl,by kernel_rfl,zae.no _ _⟩
def Tb292:Tb Tryz.prog:= {T:= [Y2,Y132,Y148],mix:=mix,Es:= [],Bs:= [],d:=1}
def t_spec_l02Of (a0:I64):Tr (Wide):=
 .br (decide (a0.val<0)) (.leaf ⟨⟨(-1),rfl⟩,(Rng.w .u64 (a0.val))⟩) (.leaf ⟨⟨0,rfl⟩,(Rng.w .u64 (a0.val))⟩)
theorem r_spec_l02Of (a0:I64):Tb292.run B292 [enc a0] (Wide)=(t_spec_l02Of a0).opt:=by kernel_rfl
def zdq:I64->Wide:=fun a0=>(t_spec_l02Of a0).get
theorem u_spec_l02Of (a0:I64):(t_spec_l02Of a0).opt=some (zdq a0):=Tr.zL (by kernel_rfl)
def E_spec_l02Of:Ent Tryz.prog:= .of1 Tb292 B292 (fun _=>true) zdq fun a0 _=>(r_spec_l02Of a0).trans (u_spec_l02Of a0)
def B291:Bod Tryz.prog:=⟨291,Tryz.f291,Tryz.f291.body.getD .skip,Tryz.func291,by kernel_rfl,by kernel_rfl,zae.no _ _⟩
def Tb291:Tb Tryz.prog:= {T:= [Y2,Y132,Y148],mix:=mix,Es:= [],Bs:= [],d:=1}
def zfe (a0:Wide) (a1:Wide):Tr (Wide):=
 let c1:=(Rng.w .i64 (a0.hi.val+a1.hi.val));let c2:=(Rng.w .u64 (a0.lo.val+a1.lo.val));.br (decide (c2.val<a0.lo.val)) (.leaf ⟨(Rng.w .i64 (c1.val+1)),c2⟩) (.leaf ⟨c1,c2⟩)
theorem r_spec_l02Plus (a0:Wide) (a1:Wide):Tb291.run B291 [enc a0,enc a1] (Wide)=(zfe a0 a1).opt:=by kernel_rfl
def zbN:Wide->Wide->Wide:=fun a0 a1=>(zfe a0 a1).get
theorem u_spec_l02Plus (a0:Wide) (a1:Wide):(zfe a0 a1).opt=some (zbN a0 a1):=Tr.zL (by kernel_rfl)
def E_spec_l02Plus:Ent Tryz.prog:= .of2 Tb291 B291 (fun _ _=>true) zbN fun a0 a1 _=>(r_spec_l02Plus a0 a1).trans (u_spec_l02Plus a0 a1)
def B229:Bod Tryz.prog:=⟨229,Tryz.f229,Tryz.f229.body.getD .skip,Tryz.func229,by kernel_rfl,by kernel_rfl,zae.no _ _⟩
def Tb229:Tb Tryz.prog:= {T:= [Y2,Y132,Y148],mix:=mix,Es:= [E_spec_l02Divide,E_spec_l02Minus,E_spec_l02Plus,E_spec_l02Of],Bs:= [],d:=1}
def t_spec_l02Div (a0:Wide) (a1:I64):Tr (T2 Wide I64):=
 .br (decide (a0.hi.val>=0)) (.br (ze9 (Rng.w .u64 (a0.hi.val)) a0.lo (Rng.w .u64 (a1.val))) (let c1:=zb1 (Rng.w .u64 (a0.hi.val)) a0.lo (Rng.w .u64 (a1.val));.leaf ⟨⟨(Rng.w .i64 (c1.a.val)),c1.b⟩,(Rng.w .i64 (c1.c.val))⟩) (.bad)) (let c2:=zaP a0;.br (ze9 (Rng.w .u64 (c2.hi.val)) c2.lo (Rng.w .u64 (a1.val))) (let c3:=zb1 (Rng.w .u64 (c2.hi.val)) c2.lo (Rng.w .u64 (a1.val));let c4:=zaP ⟨(Rng.w .i64 (c3.a.val)),c3.b⟩;.br (c3.c.val==0) (.leaf ⟨c4,⟨0,rfl⟩⟩) (.leaf ⟨(zbN c4 (zdq ⟨(-1),rfl⟩)),(Rng.w .i64 (a1.val-(Rng.w .i64 (c3.c.val)).val))⟩)) (.bad))
theorem r_spec_l02Div (a0:Wide) (a1:I64):Tb229.run B229 [enc a0,enc a1] (T2 Wide I64)=(t_spec_l02Div a0 a1).opt:=by kernel_rfl
def F_spec_l02Div:Wide->I64->T2 Wide I64:=fun a0 a1=>(t_spec_l02Div a0 a1).get
def G_spec_l02Div:Wide->I64->Bool:=fun a0 a1=>(t_spec_l02Div a0 a1).opt.isSome
def E_spec_l02Div:Ent Tryz.prog:= .of2 Tb229 B229 G_spec_l02Div F_spec_l02Div fun a0 a1 h=>(r_spec_l02Div a0 a1).trans (Tr.get_some h)
def B231:Bod Tryz.prog:=⟨231,Tryz.f231,Tryz.f231.body.getD .skip,Tryz.func231,by kernel_rfl,by kernel_rfl,zae.no _ _⟩
def Tb231:Tb Tryz.prog:= {T:= [Y2,Y132,Y148],mix:=mix,Es:= [E_spec_l02Of],Bs:= [],d:=1}
def t_spec_l02Int (a0:Wide):Tr (T2 I64 Bool):=
 let c1:=zdq (Rng.w .i64 (a0.lo.val));.br (!((c1.hi.val==a0.hi.val)&&((c1.lo.val==a0.lo.val)&&true))) (.leaf ⟨⟨0,rfl⟩,false⟩) (.leaf ⟨(Rng.w .i64 (a0.lo.val)),true⟩)
theorem r_spec_l02Int (a0:Wide):Tb231.run B231 [enc a0] (T2 I64 Bool)=(t_spec_l02Int a0).opt:=by kernel_rfl
def F_spec_l02Int:Wide->T2 I64 Bool:=fun a0=>(t_spec_l02Int a0).get
theorem u_spec_l02Int (a0:Wide):(t_spec_l02Int a0).opt=some (F_spec_l02Int a0):=Tr.zL (by kernel_rfl)
def E_spec_l02Int:Ent Tryz.prog:= .of1 Tb231 B231 (fun _=>true) F_spec_l02Int fun a0 _=>(r_spec_l02Int a0).trans (u_spec_l02Int a0)
def B143:Bod Tryz.prog:=⟨143,Tryz.f143,Tryz.f143.body.getD .skip,Tryz.func143,by kernel_rfl,by kernel_rfl,zae.no _ _⟩
def Tb143:Tb Tryz.prog:= {T:= [Y2,Y132,Y148],mix:=mix,Es:= [E_spec_l02Div,E_spec_l02Mul,E_spec_l02Int],Bs:= [],d:=1}
def zci (a0:I64) (a1:I64) (a2:I64):Tr (T2 I64 Bool):=
 .br (decide (a2.val<=0)) (.leaf ⟨⟨0,rfl⟩,false⟩) (let c1:=zcn a0 a1;.br (G_spec_l02Div c1 a2) (let c3:=F_spec_l02Int (F_spec_l02Div c1 a2).a;.leaf ⟨c3.a,c3.b⟩) (.bad))
theorem r_spec_MulDivFloor (a0:I64) (a1:I64) (a2:I64):Tb143.run B143 [enc a0,enc a1,enc a2] (T2 I64 Bool)=(zci a0 a1 a2).opt:=by kernel_rfl
def zaS:I64->I64->I64->T2 I64 Bool:=fun a0 a1 a2=>(zci a0 a1 a2).get
def zbE:I64->I64->I64->Bool:=fun a0 a1 a2=>(zci a0 a1 a2).opt.isSome
def zfB:Ent Tryz.prog:= .of3 Tb143 B143 zbE zaS fun a0 a1 a2 h=>(r_spec_MulDivFloor a0 a1 a2).trans (Tr.get_some h)
def B178:Bod Tryz.prog:=⟨178,Tryz.f178,Tryz.f178.body.getD .skip,Tryz.func178,by kernel_rfl,by kernel_rfl,zae.no _ _⟩
def Tb178:Tb Tryz.prog:= {T:= [],mix:=mix,Es:= [zcc],Bs:= [],d:=1}
def zdW (a0:I64):Tr (Bool):=
 .leaf (zar a0 ⟨(-1152921504606846976),rfl⟩ ⟨1152921504606846976,rfl⟩)
theorem r_spec_l03Ok (a0:I64):Tb178.run B178 [enc a0] (Bool)=(zdW a0).opt:=by kernel_rfl
def zF:I64->Bool:=fun a0=>(zdW a0).get
theorem u_spec_l03Ok (a0:I64):(zdW a0).opt=some (zF a0):=Tr.zL (by kernel_rfl)
def E_spec_l03Ok:Ent Tryz.prog:= .of1 Tb178 B178 (fun _=>true) zF fun a0 _=>(r_spec_l03Ok a0).trans (u_spec_l03Ok a0)
def B180:Bod Tryz.prog:=⟨180,Tryz.f180,Tryz.f180.body.getD .skip,Tryz.func180,by kernel_rfl,by kernel_rfl,zae.no _ _⟩
def Tb180:Tb Tryz.prog:= {T:= [],mix:=mix,Es:= [E_spec_l03Ok],Bs:= [],d:=1}
def zch (a0:I64) (a1:Bool):Tr (T2 I64 Bool):=
 .br (!a1) (.leaf ⟨⟨0,rfl⟩,false⟩) (.br (!(zF a0)) (.leaf ⟨⟨0,rfl⟩,false⟩) (.leaf ⟨a0,true⟩))
theorem r_spec_l03End (a0:I64) (a1:Bool):Tb180.run B180 [enc a0,enc a1] (T2 I64 Bool)=(zch a0 a1).opt:=by kernel_rfl
def zat:I64->Bool->T2 I64 Bool:=fun a0 a1=>(zch a0 a1).get
theorem u_spec_l03End (a0:I64) (a1:Bool):(zch a0 a1).opt=some (zat a0 a1):=Tr.zL (by kernel_rfl)
def E_spec_l03End:Ent Tryz.prog:= .of2 Tb180 B180 (fun _ _=>true) zat fun a0 a1 _=>(r_spec_l03End a0 a1).trans (u_spec_l03End a0 a1)
def B215:Bod Tryz.prog:=⟨215,Tryz.f215,Tryz.f215.body.getD .skip,Tryz.func215,by kernel_rfl,by kernel_rfl,zae.no _ _⟩
def Tb215:Tb Tryz.prog:= {T:= [],mix:=mix,Es:= [zfB,E_spec_l03End],Bs:= [],d:=1}
def zer (a0:I64) (a1:I64):Tr (T2 I64 Bool):=
 .br (decide (a1.val<=0)) (.leaf ⟨⟨0,rfl⟩,false⟩) (.br (zbE a0 ⟨4294967296,rfl⟩ a1) (let c1:=zaS a0 ⟨4294967296,rfl⟩ a1;let c2:=zat c1.a c1.b;.leaf ⟨c2.a,c2.b⟩) (.bad))
theorem r_spec_l03Floor (a0:I64) (a1:I64):Tb215.run B215 [enc a0,enc a1] (T2 I64 Bool)=(zer a0 a1).opt:=by kernel_rfl
def F_spec_l03Floor:I64->I64->T2 I64 Bool:=fun a0 a1=>(zer a0 a1).get
def zfX:I64->I64->Bool:=fun a0 a1=>(zer a0 a1).opt.isSome
def E_spec_l03Floor:Ent Tryz.prog:= .of2 Tb215 B215 zfX F_spec_l03Floor fun a0 a1 h=>(r_spec_l03Floor a0 a1).trans (Tr.get_some h)
def B216:Bod Tryz.prog:=⟨216,Tryz.f216,Tryz.f216.body.getD .skip,Tryz.func216,by kernel_rfl,by kernel_rfl,zae.no _ _⟩
def Tb216:Tb Tryz.prog:= {T:= [],mix:=mix,Es:= [zfB,E_spec_l03End],Bs:= [],d:=1}
def zfd (a0:I64) (a1:I64):Tr (T2 I64 Bool):=
 .br (decide (a1.val<=0)) (.leaf ⟨⟨0,rfl⟩,false⟩) (.br (zbE a0 ⟨4294967296,rfl⟩ a1) (let c1:=zaS a0 ⟨4294967296,rfl⟩ a1;.br (!c1.b) (.leaf ⟨⟨0,rfl⟩,false⟩) (.br ((Rng.w .i64 (c1.a.val*a1.val)).val != (Rng.w .i64 (a0.val*4294967296)).val) (let c5:=zat (Rng.w .i64 (c1.a.val+1)) true;.leaf ⟨c5.a,c5.b⟩) (let c6:=zat c1.a true;.leaf ⟨c6.a,c6.b⟩))) (.bad))
theorem r_spec_l03Ceil (a0:I64) (a1:I64):Tb216.run B216 [enc a0,enc a1] (T2 I64 Bool)=(zfd a0 a1).opt:=by kernel_rfl
def F_spec_l03Ceil:I64->I64->T2 I64 Bool:=fun a0 a1=>(zfd a0 a1).get
def G_spec_l03Ceil:I64->I64->Bool:=fun a0 a1=>(zfd a0 a1).opt.isSome
def E_spec_l03Ceil:Ent Tryz.prog:= .of2 Tb216 B216 G_spec_l03Ceil F_spec_l03Ceil fun a0 a1 h=>(r_spec_l03Ceil a0 a1).trans (Tr.get_some h)
def B91:Bod Tryz.prog:=⟨91,Tryz.f91,Tryz.f91.body.getD .skip,Tryz.func91,by kernel_rfl,by kernel_rfl,zae.no _ _⟩
def Tb91:Tb Tryz.prog:= {T:= [Y2,Y30],mix:=mix,Es:= [],Bs:= [],d:=1}
def t_spec_l04Ok (a0:Iv):Tr (Bool):=
 .br (decide ((-1152921504606846976)<a0.lo.val)) (.br (decide (a0.lo.val<=a0.hi.val)) (.leaf (decide (a0.hi.val<1152921504606846976))) (.leaf false)) (.leaf false)
theorem r_spec_l04Ok (a0:Iv):Tb91.run B91 [enc a0] (Bool)=(t_spec_l04Ok a0).opt:=by kernel_rfl
def za:Iv->Bool:=fun a0=>(t_spec_l04Ok a0).get
theorem u_spec_l04Ok (a0:Iv):(t_spec_l04Ok a0).opt=some (za a0):=Tr.zL (by kernel_rfl)
def za6:Ent Tryz.prog:= .of1 Tb91 B91 (fun _=>true) za fun a0 _=>(r_spec_l04Ok a0).trans (u_spec_l04Ok a0)
def B90:Bod Tryz.prog:=⟨90,Tryz.f90,Tryz.f90.body.getD .skip,Tryz.func90,by kernel_rfl,by kernel_rfl,zae.no _ _⟩
def Tb90:Tb Tryz.prog:= {T:= [Y2,Y30],mix:=mix,Es:= [zas,za6],Bs:= [],d:=1}
def zd5 (a0:I64) (a1:I64):Tr (Iv):=
 .br (!(za ⟨a0,a1⟩)) (.leaf zo) (.leaf ⟨a0,a1⟩)
theorem r_spec_l04Make (a0:I64) (a1:I64):Tb90.run B90 [enc a0,enc a1] (Iv)=(zd5 a0 a1).opt:=by kernel_rfl
def zai:I64->I64->Iv:=fun a0 a1=>(zd5 a0 a1).get
theorem u_spec_l04Make (a0:I64) (a1:I64):(zd5 a0 a1).opt=some (zai a0 a1):=Tr.zL (by kernel_rfl)
def za4:Ent Tryz.prog:= .of2 Tb90 B90 (fun _ _=>true) zai fun a0 a1 _=>(r_spec_l04Make a0 a1).trans (u_spec_l04Make a0 a1)
def B134:Bod Tryz.prog:=⟨134,Tryz.f134,Tryz.f134.body.getD .skip,Tryz.func134,by kernel_rfl,by kernel_rfl,zae.no _ _⟩
def Tb134:Tb Tryz.prog:= {T:= [Y2,Y30],mix:=mix,Es:= [zas,za4,E_spec_l03Floor,E_spec_l03Ceil],Bs:= [],d:=1}
def zfK (a0:I64) (a1:I64):Tr (Iv):=
 .br (decide (a1.val<0)) (.br (a0.val==(-9223372036854775808)) (.leaf zo) (.br (a1.val==(-9223372036854775808)) (.leaf zo) (let c5:=(Rng.w .i64 (0-a0.val));let c6:=(Rng.w .i64 (0-a1.val));.br (zfX c5 c6) (let c7:=F_spec_l03Floor c5 c6;.br (G_spec_l03Ceil c5 c6) (let c8:=F_spec_l03Ceil c5 c6;.br (!c7.b) (.leaf zo) (.br (!c8.b) (.leaf zo) (.leaf (zai c7.a c8.a)))) (.bad)) (.bad)))) (.br (zfX a0 a1) (let c12:=F_spec_l03Floor a0 a1;.br (G_spec_l03Ceil a0 a1) (let c13:=F_spec_l03Ceil a0 a1;.br (!c12.b) (.leaf zo) (.br (!c13.b) (.leaf zo) (.leaf (zai c12.a c13.a)))) (.bad)) (.bad))
theorem r_spec_Quotient (a0:I64) (a1:I64):Tb134.run B134 [enc a0,enc a1] (Iv)=(zfK a0 a1).opt:=by kernel_rfl
def zO:I64->I64->Iv:=fun a0 a1=>(zfK a0 a1).get
def B52:Bod Tryz.prog:=⟨52,Tryz.f52,Tryz.f52.body.getD .skip,Tryz.func52,by kernel_rfl,by kernel_rfl,zae.no _ _⟩
def Tb52:Tb Tryz.prog:= {T:= [Y2,Y30],mix:=mix,Es:= [zas,za4,za6],Bs:= [],d:=1}
def t_spec_NegI (a0:Iv):Tr (Iv):=
 .br (!(za a0)) (.leaf zo) (.leaf (zai (Rng.w .i64 (0-a0.hi.val)) (Rng.w .i64 (0-a0.lo.val))))
theorem r_spec_NegI (a0:Iv):Tb52.run B52 [enc a0] (Iv)=(t_spec_NegI a0).opt:=by kernel_rfl
def zaM:Iv->Iv:=fun a0=>(t_spec_NegI a0).get
theorem u_spec_NegI (a0:Iv):(t_spec_NegI a0).opt=some (zaM a0):=Tr.zL (by kernel_rfl)
def E_spec_NegI:Ent Tryz.prog:= .of1 Tb52 B52 (fun _=>true) zaM fun a0 _=>(r_spec_NegI a0).trans (u_spec_NegI a0)
def B45:Bod Tryz.prog:=⟨45,Tryz.f45,Tryz.f45.body.getD .skip,Tryz.func45,by kernel_rfl,by kernel_rfl,zae.no _ _⟩
def Tb45_p:Tb Tryz.prog:= {T:= [Y2,Y30],mix:=mix,Es:= [zcc,zd4,zfB],Bs:= [],d:=1}
def zbS (a0:I64):Tr (Iv):=
 .br (!(zar a0 ⟨(-36000000000),rfl⟩ ⟨36000000000,rfl⟩)) (.leaf zaR) (.br (a0.val==0) (.leaf ⟨⟨0,rfl⟩,⟨0,rfl⟩⟩) (.br (decide (a0.val<0)) (.bad) (.br (zbE a0 ⟨7244019458077122842,rfl⟩ ⟨966367641600000000,rfl⟩) (.br (zbE a0 ⟨7244019458077122843,rfl⟩ ⟨966367641600000000,rfl⟩) (.leaf ⟨(zaS a0 ⟨7244019458077122842,rfl⟩ ⟨966367641600000000,rfl⟩).a,(Rng.w .i64 ((zaS a0 ⟨7244019458077122843,rfl⟩ ⟨966367641600000000,rfl⟩).a.val+1))⟩) (.bad)) (.bad))))
theorem r_spec_RadiansOf_p (a0:I64):Tb45_p.run B45 [enc a0] (Iv)=(zbS a0).opt:=by kernel_rfl
def zco:I64->Iv:=fun a0=>(zbS a0).get
def zd0:I64->Bool:=fun a0=>(zbS a0).opt.isSome
def E_spec_RadiansOf_p:Ent Tryz.prog:= .of1 Tb45_p B45 zd0 zco fun a0 h=>(r_spec_RadiansOf_p a0).trans (Tr.get_some h)
def Tb45:Tb Tryz.prog:= {T:= [Y2,Y30],mix:=mix,Es:= [E_spec_RadiansOf_p,E_spec_NegI,zcc,zd4,zfB],Bs:= [],d:=1}
def zbJ (a0:I64):Tr (Iv):=
 .br (!(zar a0 ⟨(-36000000000),rfl⟩ ⟨36000000000,rfl⟩)) (.leaf zaR) (.br (a0.val==0) (.leaf ⟨⟨0,rfl⟩,⟨0,rfl⟩⟩) (.br (decide (a0.val<0)) (let c3:=(Rng.w .i64 (0-a0.val));.br (zd0 c3) (.leaf (zaM (zco c3))) (.bad)) (.br (zbE a0 ⟨7244019458077122842,rfl⟩ ⟨966367641600000000,rfl⟩) (.br (zbE a0 ⟨7244019458077122843,rfl⟩ ⟨966367641600000000,rfl⟩) (.leaf ⟨(zaS a0 ⟨7244019458077122842,rfl⟩ ⟨966367641600000000,rfl⟩).a,(Rng.w .i64 ((zaS a0 ⟨7244019458077122843,rfl⟩ ⟨966367641600000000,rfl⟩).a.val+1))⟩) (.bad)) (.bad))))
theorem r_spec_RadiansOf (a0:I64):Tb45.run B45 [enc a0] (Iv)=(zbJ a0).opt:=by kernel_rfl
def zaa:I64->Iv:=fun a0=>(zbJ a0).get
def B123:Bod Tryz.prog:=⟨123,Tryz.f123,Tryz.f123.body.getD .skip,Tryz.func123,by kernel_rfl,by kernel_rfl,zae.no _ _⟩
def Tb123:Tb Tryz.prog:= {T:= [Y30],mix:=mix,Es:= [zdh],Bs:= [],d:=1}
def zdk (a0:Iv):Tr (Bool):=
 .leaf (!(zbp a0))
theorem r_impl_IsWhole (a0:Iv):Tb123.run B123 [enc a0] (Bool)=(zdk a0).opt:=by kernel_rfl
def zal:Iv->Bool:=fun a0=>(zdk a0).get
theorem u_impl_IsWhole (a0:Iv):(zdk a0).opt=some (zal a0):=Tr.zL (by kernel_rfl)
def zbY:Ent Tryz.prog:= .of1 Tb123 B123 (fun _=>true) zal fun a0 _=>(r_impl_IsWhole a0).trans (u_impl_IsWhole a0)
def B200:Bod Tryz.prog:=⟨200,Tryz.f200,Tryz.f200.body.getD .skip,Tryz.func200,by kernel_rfl,by kernel_rfl,zae.no _ _⟩
def Tb200:Tb Tryz.prog:= {T:= [Y2,Y30],mix:=mix,Es:= [zbY,zaD],Bs:= [],d:=1}
def t_impl_NegI (a0:Iv):Tr (Iv):=
 .br (zal a0) (.leaf zH) (.leaf ⟨(Rng.w .i64 (0-a0.hi.val)),(Rng.w .i64 (0-a0.lo.val))⟩)
theorem r_impl_NegI (a0:Iv):Tb200.run B200 [enc a0] (Iv)=(t_impl_NegI a0).opt:=by kernel_rfl
def zdb:Iv->Iv:=fun a0=>(t_impl_NegI a0).get
theorem u_impl_NegI (a0:Iv):(t_impl_NegI a0).opt=some (zdb a0):=Tr.zL (by kernel_rfl)
def E_impl_NegI:Ent Tryz.prog:= .of1 Tb200 B200 (fun _=>true) zdb fun a0 _=>(r_impl_NegI a0).trans (u_impl_NegI a0)
def B217:Bod Tryz.prog:=⟨217,Tryz.f217,Tryz.f217.body.getD .skip,Tryz.func217,by kernel_rfl,by kernel_rfl,zae.no _ _⟩
def Tb217_p:Tb Tryz.prog:= {T:= [Y2,Y30],mix:=mix,Es:= [zaD,zbO,E_impl_MulDivFloor],Bs:= [],d:=1}
def zdX (a0:I64):Tr (Iv):=
 .br (!(zaK a0 ⟨(-36000000000),rfl⟩ ⟨36000000000,rfl⟩)) (.leaf zH) (.br (decide (a0.val<0)) (.bad) (.br (a0.val==0) (.leaf ⟨⟨0,rfl⟩,⟨0,rfl⟩⟩) (.br (zbU a0 ⟨7244019458077122842,rfl⟩ ⟨966367641600000000,rfl⟩) (.br (zbU a0 ⟨7244019458077122843,rfl⟩ ⟨966367641600000000,rfl⟩) (.leaf ⟨(zbk a0 ⟨7244019458077122842,rfl⟩ ⟨966367641600000000,rfl⟩).a,(Rng.w .i64 ((zbk a0 ⟨7244019458077122843,rfl⟩ ⟨966367641600000000,rfl⟩).a.val+1))⟩) (.bad)) (.bad))))
theorem r_impl_RadiansOf_p (a0:I64):Tb217_p.run B217 [enc a0] (Iv)=(zdX a0).opt:=by kernel_rfl
def F_impl_RadiansOf_p:I64->Iv:=fun a0=>(zdX a0).get
def zfA:I64->Bool:=fun a0=>(zdX a0).opt.isSome
def E_impl_RadiansOf_p:Ent Tryz.prog:= .of1 Tb217_p B217 zfA F_impl_RadiansOf_p fun a0 h=>(r_impl_RadiansOf_p a0).trans (Tr.get_some h)
def Tb217:Tb Tryz.prog:= {T:= [Y2,Y30],mix:=mix,Es:= [zaD,zbO,E_impl_NegI,E_impl_RadiansOf_p,E_impl_MulDivFloor],Bs:= [],d:=1}
def ze6 (a0:I64):Tr (Iv):=
 .br (!(zaK a0 ⟨(-36000000000),rfl⟩ ⟨36000000000,rfl⟩)) (.leaf zH) (.br (decide (a0.val<0)) (let c3:=(Rng.w .i64 (0-a0.val));.br (zfA c3) (.leaf (zdb (F_impl_RadiansOf_p c3))) (.bad)) (.br (a0.val==0) (.leaf ⟨⟨0,rfl⟩,⟨0,rfl⟩⟩) (.br (zbU a0 ⟨7244019458077122842,rfl⟩ ⟨966367641600000000,rfl⟩) (.br (zbU a0 ⟨7244019458077122843,rfl⟩ ⟨966367641600000000,rfl⟩) (.leaf ⟨(zbk a0 ⟨7244019458077122842,rfl⟩ ⟨966367641600000000,rfl⟩).a,(Rng.w .i64 ((zbk a0 ⟨7244019458077122843,rfl⟩ ⟨966367641600000000,rfl⟩).a.val+1))⟩) (.bad)) (.bad))))
theorem r_impl_RadiansOf (a0:I64):Tb217.run B217 [enc a0] (Iv)=(ze6 a0).opt:=by kernel_rfl
def zdU:I64->Iv:=fun a0=>(ze6 a0).get
end
end Go.Proofs.YtfcjhkkpbnobhaaGreat.Ev
namespace Go.Proofs.YtfcjhkkpbnobhaaGreat.Ev
open Go
theorem wi {n:Int} (h: -9223372036854775808<=n) (h':n<=9223372036854775807):(Rng.w .i64 n).val=n:=wrap_inB (k:= .i64) (by simp [inB,h,h'])
theorem wu {n:Int} (h:0<=n) (h':n<=18446744073709551615):(Rng.w .u64 n).val=n:=wrap_inB (k:= .u64) (by simp [inB,h,h'])
theorem zbd (n:Int):(Rng.w .u64 n).val=n%18446744073709551616:=by
 show IntKind.u64.wrap n=_
 simp [IntKind.wrap,IntKind.bits,IntKind.signed]
theorem zcQ (a b c:I64):zaK a b c=decide (b.val<=a.val/\a.val<=c.val):=by
 simp only [zaK,t_impl_within,Tr.get,ge_iff_le]
 by_cases h:b.val<=a.val<;>simp [h]
theorem zeF (a b c:I64):zar a b c=decide (b.val<=a.val/\a.val<=c.val):=by
 simp only [zar,t_spec_l00In,Tr.get,ge_iff_le]
 by_cases h:b.val<=a.val<;>simp [h]
theorem point_eq (p:zaL):zcb p=zab p:=by
 simp only [zcb,zab,t_impl_ValidPoint,t_spec_l11Ok,Tr.get,zcQ,zeF]
 rw [Bool.eq_iff_iff]
 simp [Bool.cond_eq_ite]
 grind
theorem abs_val (n:I64) (h: -9223372036854775807<=n.val):(zbs n).val=if n.val<0 then -n.val else n.val:=by
 have b:=n.bd
 simp only [zbs,t_impl_abs,Tr.get,mx]
 rw [wi (by omega) (by omega)]
 by_cases h0:n.val<0
 ·have e:decide (0-n.val>n.val)=true:=by simp;omega
  rw [e,cond_true,wi (by omega) (by omega)];simp [h0]
 ·have e:decide (0-n.val>n.val)=false:=by simp;omega
  rw [e,cond_false];simp [h0]
end Go.Proofs.YtfcjhkkpbnobhaaGreat.Ev
