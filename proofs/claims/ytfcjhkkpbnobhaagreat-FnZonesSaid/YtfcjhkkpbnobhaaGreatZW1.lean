/- The law FnZones gives true, whatever bytes come in. No conditions. (One of the texts of its proof, put together by a program of this session.) -/
import Derived.Test.YtfcjhkkpbnobhaaGreatZEC
import Derived.Test.YtfcjhkkpbnobhaaGreatChecked
import Derived.KernelRfl
set_option linter.unusedSectionVars false
set_option linter.unusedSimpArgs false
set_option linter.unusedVariables false
noncomputable section
namespace Go.Proofs.YtfcjhkkpbnobhaaGreat.Ev
open Go Go.RowKit
set_option maxRecDepth 100000
section
variable [Amb]
theorem mix:Tryz.prog.follows .mixedOrders=true:=by kernel_rfl
def Y2:TyE Tryz.prog:=⟨2,1,(.int .i64),[.i64 ⟨0,rfl⟩],false,by kernel_rfl,by kernel_rfl,by kernel_rfl,by kernel_rfl,by kernel_rfl,by kernel_rfl⟩
def Y24:TyE Tryz.prog:=⟨24,2,(.struct [(0,2,1),(1,2,1)]),[.i64 ⟨0,rfl⟩,.i64 ⟨0,rfl⟩],true,by kernel_rfl,by kernel_rfl,by kernel_rfl,by kernel_rfl,by kernel_rfl,by kernel_rfl⟩
def B88:Bod Tryz.prog:=⟨88,Tryz.f88,Tryz.f88.body.getD .skip,Tryz.func88,by kernel_rfl,by kernel_rfl,zan.no _ _⟩
def Tb88:Tb Tryz.prog:= {T:= [],mix:=mix,Es:= [],Bs:= [],d:=1}
def t_spec_l00In (a0:I64) (a1:I64) (a2:I64):Tr (Bool):=
 .br (decide (a0.val>=a1.val)) (.leaf (decide (a0.val<=a2.val))) (.leaf false)
theorem r_spec_l00In (a0:I64) (a1:I64) (a2:I64):Tb88.run B88 [enc a0,enc a1,enc a2] (Bool)=(t_spec_l00In a0 a1 a2).opt:=by kernel_rfl
def zah:I64->I64->I64->Bool:=fun a0 a1 a2=>(t_spec_l00In a0 a1 a2).get
theorem u_spec_l00In (a0:I64) (a1:I64) (a2:I64):(t_spec_l00In a0 a1 a2).opt=some (zah a0 a1 a2):=Tr.zT (by kernel_rfl)
def zeg:Ent Tryz.prog:= .of3 Tb88 B88 (fun _ _ _=>true) zah fun a0 a1 a2 _=>(r_spec_l00In a0 a1 a2).trans (u_spec_l00In a0 a1 a2)
def B103:Bod Tryz.prog:=⟨103,Tryz.f103,Tryz.f103.body.getD .skip,Tryz.func103,by kernel_rfl,by kernel_rfl,zan.no _ _⟩
def Tb103:Tb Tryz.prog:= {T:= [Y2,Y24],mix:=mix,Es:= [zeg],Bs:= [],d:=1}
def t_spec_l11Ok (a0:Point):Tr (Bool):=
 .br (zah a0.lat ⟨(-900000000),rfl⟩ ⟨900000000,rfl⟩) (.leaf (zah a0.lon ⟨(-1799999999),rfl⟩ ⟨1800000000,rfl⟩)) (.leaf false)
theorem r_spec_l11Ok (a0:Point):Tb103.run B103 [enc a0] (Bool)=(t_spec_l11Ok a0).opt:=by kernel_rfl
def zcG:Point->Bool:=fun a0=>(t_spec_l11Ok a0).get
theorem u_spec_l11Ok (a0:Point):(t_spec_l11Ok a0).opt=some (zcG a0):=Tr.zT (by kernel_rfl)
def E_spec_l11Ok:Ent Tryz.prog:= .of1 Tb103 B103 (fun _=>true) zcG fun a0 _=>(r_spec_l11Ok a0).trans (u_spec_l11Ok a0)
def B159:Bod Tryz.prog:=⟨159,Tryz.f159,Tryz.f159.body.getD .skip,Tryz.func159,by kernel_rfl,by kernel_rfl,zan.no _ _⟩
def Tb159:Tb Tryz.prog:= {T:= [],mix:=mix,Es:= [],Bs:= [],d:=1}
def t_impl_within (a0:I64) (a1:I64) (a2:I64):Tr (Bool):=
 .br (decide (a0.val>=a1.val)) (.leaf (decide (a0.val<=a2.val))) (.leaf false)
theorem r_impl_within (a0:I64) (a1:I64) (a2:I64):Tb159.run B159 [enc a0,enc a1,enc a2] (Bool)=(t_impl_within a0 a1 a2).opt:=by kernel_rfl
def zau:I64->I64->I64->Bool:=fun a0 a1 a2=>(t_impl_within a0 a1 a2).get
theorem u_impl_within (a0:I64) (a1:I64) (a2:I64):(t_impl_within a0 a1 a2).opt=some (zau a0 a1 a2):=Tr.zT (by kernel_rfl)
def zbr:Ent Tryz.prog:= .of3 Tb159 B159 (fun _ _ _=>true) zau fun a0 a1 a2 _=>(r_impl_within a0 a1 a2).trans (u_impl_within a0 a1 a2)
def B219:Bod Tryz.prog:=⟨219,Tryz.f219,Tryz.f219.body.getD .skip,Tryz.func219,by kernel_rfl,by kernel_rfl,zan.no _ _⟩
def Tb219:Tb Tryz.prog:= {T:= [],mix:=mix,Es:= [],Bs:= [],d:=1}
def t_impl_abs (a0:I64):Tr (I64):=
 .leaf (mx a0 (Rng.w .i64 (0-a0.val)))
theorem r_impl_abs (a0:I64):Tb219.run B219 [enc a0] (I64)=(t_impl_abs a0).opt:=by kernel_rfl
def zcj:I64->I64:=fun a0=>(t_impl_abs a0).get
theorem u_impl_abs (a0:I64):(t_impl_abs a0).opt=some (zcj a0):=Tr.zT (by kernel_rfl)
def E_impl_abs:Ent Tryz.prog:= .of1 Tb219 B219 (fun _=>true) zcj fun a0 _=>(r_impl_abs a0).trans (u_impl_abs a0)
end
end Go.Proofs.YtfcjhkkpbnobhaaGreat.Ev
namespace Go.Proofs.YtfcjhkkpbnobhaaGreat.Ev
open Go Go.RowKit
set_option maxRecDepth 100000
section
variable [Amb]
def E_math_bits_Add64:Ent Tryz.prog:= .add64 Tryz.func313 (by kernel_rfl) (by kernel_rfl) (by kernel_rfl) (by kernel_rfl)
def E_math_bits_Sub64:Ent Tryz.prog:= .sub64 Tryz.func364 (by kernel_rfl) (by kernel_rfl) (by kernel_rfl) (by kernel_rfl)
def Y30:TyE Tryz.prog:=⟨30,2,(.struct [(0,2,1),(1,2,1)]),[.i64 ⟨0,rfl⟩,.i64 ⟨0,rfl⟩],true,by kernel_rfl,by kernel_rfl,by kernel_rfl,by kernel_rfl,by kernel_rfl,by kernel_rfl⟩
def B145:Bod Tryz.prog:=⟨145,Tryz.f145,Tryz.f145.body.getD .skip,Tryz.func145,by kernel_rfl,by kernel_rfl,zan.no _ _⟩
def Tb145:Tb Tryz.prog:= {T:= [Y2,Y30],mix:=mix,Es:= [],Bs:= [],d:=1}
def t_impl_Whole:Tr (Iv):=
 .leaf ⟨⟨(-1152921504606846976),rfl⟩,⟨1152921504606846976,rfl⟩⟩
theorem r_impl_Whole:Tb145.run B145 [] (Iv)=(t_impl_Whole).opt:=by kernel_rfl
def zF:Iv:=(t_impl_Whole).get
theorem u_impl_Whole:(t_impl_Whole).opt=some (zF):=Tr.zT (by kernel_rfl)
def zal:Ent Tryz.prog:= .of0 Tb145 B145 zF (r_impl_Whole.trans u_impl_Whole)
def B314:Bod Tryz.prog:=⟨314,Tryz.f314,Tryz.f314.body.getD .skip,Tryz.func314,by kernel_rfl,by kernel_rfl,zan.no _ _⟩
def Tb314:Tb Tryz.prog:= {T:= [],mix:=mix,Es:= [],Bs:= [],d:=1}
def t_math_bits_Mul64 (a0:U64) (a1:U64):Tr (T2 U64 U64):=
 let c1:=(Rng.w .u64 (zbv .and .u64 a0.val 4294967295));let c2:=(Rng.w .u64 (a0.val.fdiv 4294967296));let c3:=(Rng.w .u64 (zbv .and .u64 a1.val 4294967295));let c4:=(Rng.w .u64 (a1.val.fdiv 4294967296));let c8:=(Rng.w .u64 ((Rng.w .u64 (c2.val*c3.val)).val+(Rng.w .u64 ((Rng.w .u64 (c1.val*c3.val)).val.fdiv 4294967296)).val));.leaf ⟨(Rng.w .u64 ((Rng.w .u64 ((Rng.w .u64 (c2.val*c4.val)).val+(Rng.w .u64 (c8.val.fdiv 4294967296)).val)).val+(Rng.w .u64 ((Rng.w .u64 ((Rng.w .u64 (zbv .and .u64 c8.val 4294967295)).val+(Rng.w .u64 (c1.val*c4.val)).val)).val.fdiv 4294967296)).val)),(Rng.w .u64 (a0.val*a1.val))⟩
theorem r_math_bits_Mul64 (a0:U64) (a1:U64):Tb314.run B314 [enc a0,enc a1] (T2 U64 U64)=(t_math_bits_Mul64 a0 a1).opt:=by kernel_rfl
def zdz:U64->U64->T2 U64 U64:=fun a0 a1=>(t_math_bits_Mul64 a0 a1).get
theorem u_math_bits_Mul64 (a0:U64) (a1:U64):(t_math_bits_Mul64 a0 a1).opt=some (zdz a0 a1):=Tr.zT (by kernel_rfl)
def E_math_bits_Mul64:Ent Tryz.prog:= .of2 Tb314 B314 (fun _ _=>true) zdz fun a0 a1 _=>(r_math_bits_Mul64 a0 a1).trans (u_math_bits_Mul64 a0 a1)
def Y132:TyE Tryz.prog:=⟨132,1,(.int .u64),[.u64 ⟨0,rfl⟩],false,by kernel_rfl,by kernel_rfl,by kernel_rfl,by kernel_rfl,by kernel_rfl,by kernel_rfl⟩
def Y148:TyE Tryz.prog:=⟨148,2,(.struct [(0,2,1),(1,132,1)]),[.i64 ⟨0,rfl⟩,.u64 ⟨0,rfl⟩],true,by kernel_rfl,by kernel_rfl,by kernel_rfl,by kernel_rfl,by kernel_rfl,by kernel_rfl⟩
def B257:Bod Tryz.prog:=⟨257,Tryz.f257,Tryz.f257.body.getD .skip,Tryz.func257,by kernel_rfl,by kernel_rfl,zan.no _ _⟩
def Tb257:Tb Tryz.prog:= {T:= [Y2,Y132,Y148],mix:=mix,Es:= [E_math_bits_Mul64],Bs:= [],d:=1}
def t_impl_WideMul (a0:I64) (a1:I64):Tr (Wide):=
 let c1:=zdz (Rng.w .u64 (a0.val)) (Rng.w .u64 (a1.val));.br (decide (a0.val<0)) (let c2:=(Rng.w .u64 (c1.a.val-(Rng.w .u64 (a1.val)).val));.br (decide (a1.val<0)) (.leaf ⟨(Rng.w .i64 ((Rng.w .u64 (c2.val-(Rng.w .u64 (a0.val)).val)).val)),c1.b⟩) (.leaf ⟨(Rng.w .i64 (c2.val)),c1.b⟩)) (.br (decide (a1.val<0)) (.leaf ⟨(Rng.w .i64 ((Rng.w .u64 (c1.a.val-(Rng.w .u64 (a0.val)).val)).val)),c1.b⟩) (.leaf ⟨(Rng.w .i64 (c1.a.val)),c1.b⟩))
theorem r_impl_WideMul (a0:I64) (a1:I64):Tb257.run B257 [enc a0,enc a1] (Wide)=(t_impl_WideMul a0 a1).opt:=by kernel_rfl
def zbR:I64->I64->Wide:=fun a0 a1=>(t_impl_WideMul a0 a1).get
theorem u_impl_WideMul (a0:I64) (a1:I64):(t_impl_WideMul a0 a1).opt=some (zbR a0 a1):=Tr.zT (by kernel_rfl)
def zfF:Ent Tryz.prog:= .of2 Tb257 B257 (fun _ _=>true) zbR fun a0 a1 _=>(r_impl_WideMul a0 a1).trans (u_impl_WideMul a0 a1)
def Y3:TyE Tryz.prog:=⟨3,1,(.int .i64),[.i64 ⟨0,rfl⟩],false,by kernel_rfl,by kernel_rfl,by kernel_rfl,by kernel_rfl,by kernel_rfl,by kernel_rfl⟩
def Y5:TyE Tryz.prog:=⟨5,1,(.int .u8),[.u8 ⟨0,rfl⟩],false,by kernel_rfl,by kernel_rfl,by kernel_rfl,by kernel_rfl,by kernel_rfl,by kernel_rfl⟩
def Y9:TyE Tryz.prog:=⟨9,1,.str,[.str ByteArray.empty],false,by kernel_rfl,by kernel_rfl,by kernel_rfl,by kernel_rfl,by kernel_rfl,by kernel_rfl⟩
def S_376 (i:Nat):ByteArray:=(codeStrs (Tryz.f376.body.getD .skip)).getD i ByteArray.empty
def B376:Bod Tryz.prog:=⟨376,Tryz.f376,Tryz.f376.body.getD .skip,Tryz.func376,by kernel_rfl,by kernel_rfl,zan.no _ _⟩
def Tb376:Tb Tryz.prog:= {T:= [Y3,Y5,Y9,Y132],mix:=mix,Es:= [],Bs:= [],d:=1}
def zeC (a0:U64):Tr (I64):=
 .br (decide (a0.val>=4294967296)) (let c2:=(Rng.w .u64 (a0.val.fdiv 4294967296));.br (decide (c2.val>=65536)) (let c4:=(Rng.w .u64 (c2.val.fdiv 65536));.br (decide (c4.val>=256)) (let c5:=(Rng.w .u64 (c4.val.fdiv 256));.br (Nat.blt ((Rng.w .u8 (c5.val)).val.toNat) (S_376 0).size) (.leaf (Rng.w .i64 (56+(Rng.w .i64 ((strAt (S_376 0) ((Rng.w .u8 (c5.val)).val.toNat)).val)).val))) (.bad)) (.br (Nat.blt ((Rng.w .u8 (c4.val)).val.toNat) (S_376 0).size) (.leaf (Rng.w .i64 (48+(Rng.w .i64 ((strAt (S_376 0) ((Rng.w .u8 (c4.val)).val.toNat)).val)).val))) (.bad))) (.br (decide (c2.val>=256)) (let c10:=(Rng.w .u64 (c2.val.fdiv 256));.br (Nat.blt ((Rng.w .u8 (c10.val)).val.toNat) (S_376 0).size) (.leaf (Rng.w .i64 (40+(Rng.w .i64 ((strAt (S_376 0) ((Rng.w .u8 (c10.val)).val.toNat)).val)).val))) (.bad)) (.br (Nat.blt ((Rng.w .u8 (c2.val)).val.toNat) (S_376 0).size) (.leaf (Rng.w .i64 (32+(Rng.w .i64 ((strAt (S_376 0) ((Rng.w .u8 (c2.val)).val.toNat)).val)).val))) (.bad)))) (.br (decide (a0.val>=65536)) (let c16:=(Rng.w .u64 (a0.val.fdiv 65536));.br (decide (c16.val>=256)) (let c17:=(Rng.w .u64 (c16.val.fdiv 256));.br (Nat.blt ((Rng.w .u8 (c17.val)).val.toNat) (S_376 0).size) (.leaf (Rng.w .i64 (24+(Rng.w .i64 ((strAt (S_376 0) ((Rng.w .u8 (c17.val)).val.toNat)).val)).val))) (.bad)) (.br (Nat.blt ((Rng.w .u8 (c16.val)).val.toNat) (S_376 0).size) (.leaf (Rng.w .i64 (16+(Rng.w .i64 ((strAt (S_376 0) ((Rng.w .u8 (c16.val)).val.toNat)).val)).val))) (.bad))) (.br (decide (a0.val>=256)) (let c22:=(Rng.w .u64 (a0.val.fdiv 256));.br (Nat.blt ((Rng.w .u8 (c22.val)).val.toNat) (S_376 0).size) (.leaf (Rng.w .i64 (8+(Rng.w .i64 ((strAt (S_376 0) ((Rng.w .u8 (c22.val)).val.toNat)).val)).val))) (.bad)) (.br (Nat.blt ((Rng.w .u8 (a0.val)).val.toNat) (S_376 0).size) (.leaf (Rng.w .i64 (0+(Rng.w .i64 ((strAt (S_376 0) ((Rng.w .u8 (a0.val)).val.toNat)).val)).val))) (.bad))))
theorem r_math_bits_Len64 (a0:U64):Tb376.run B376 [enc a0] (I64)=(zeC a0).opt:=by kernel_rfl
def F_math_bits_Len64:U64->I64:=fun a0=>(zeC a0).get
def G_math_bits_Len64:U64->Bool:=fun a0=>(zeC a0).opt.isSome
def E_math_bits_Len64:Ent Tryz.prog:= .of1 Tb376 B376 G_math_bits_Len64 F_math_bits_Len64 fun a0 h=>(r_math_bits_Len64 a0).trans (Tr.get_some h)
def B372:Bod Tryz.prog:=⟨372,Tryz.f372,Tryz.f372.body.getD .skip,Tryz.func372,by kernel_rfl,by kernel_rfl,zan.no _ _⟩
def Tb372:Tb Tryz.prog:= {T:= [],mix:=mix,Es:= [E_math_bits_Len64],Bs:= [],d:=1}
def zbY (a0:U64):Tr (I64):=
 .br (G_math_bits_Len64 a0) (.leaf (Rng.w .i64 (64-(F_math_bits_Len64 a0).val))) (.bad)
theorem r_math_bits_LeadingZeros64 (a0:U64):Tb372.run B372 [enc a0] (I64)=(zbY a0).opt:=by kernel_rfl
def zdO:U64->I64:=fun a0=>(zbY a0).get
def zcJ:U64->Bool:=fun a0=>(zbY a0).opt.isSome
def E_math_bits_LeadingZeros64:Ent Tryz.prog:= .of1 Tb372 B372 zcJ zdO fun a0 h=>(r_math_bits_LeadingZeros64 a0).trans (Tr.get_some h)
structure za1 where
 x0:U64
 x1:U64
 x2:U64
 x3:U64
 x4:U64
 x5:U64
 x6:U64
 x7:U64
 x8:U64
instance:Inhabited za1:=⟨⟨default,default,default,default,default,default,default,default,default⟩⟩
def st_math_bits_Div64_17 (x:za1):St:=⟨[(2,.u64 x.x0),(8,.u64 x.x1),(9,.u64 x.x2),(10,.u64 x.x3),(11,.u64 x.x4),(13,.u64 x.x5),(14,.u64 x.x6),(15,.u64 x.x7),(16,.u64 x.x8)],135,⟨[],0,0⟩⟩
def rd_math_bits_Div64_17:St->Option za1:=fun s=>match s with
 | ⟨[(2,.u64 x0),(8,.u64 x1),(9,.u64 x2),(10,.u64 x3),(11,.u64 x4),(13,.u64 x5),(14,.u64 x6),(15,.u64 x7),(16,.u64 x8)],135,⟨[],0,0⟩⟩=>some ⟨x0,x1,x2,x3,x4,x5,x6,x7,x8⟩
 | _=>none
def zaZ (x:za1):Tr (Lp za1):=
 .br (decide (x.x7.val>=4294967296)) (let c19:=(Rng.w .u64 (x.x7.val-1));let c20:=(Rng.w .u64 (x.x8.val+x.x2.val));.br (decide (c20.val>=4294967296)) (.leaf (.out ⟨x.x0,x.x1,x.x2,x.x3,x.x4,x.x5,x.x6,c19,c20⟩)) (.leaf (.again ⟨x.x0,x.x1,x.x2,x.x3,x.x4,x.x5,x.x6,c19,c20⟩))) (.br (decide ((Rng.w .u64 (x.x7.val*x.x3.val)).val>(Rng.w .u64 ((Rng.w .u64 (4294967296*x.x8.val)).val+x.x5.val)).val)) (let c26:=(Rng.w .u64 (x.x7.val-1));let c27:=(Rng.w .u64 (x.x8.val+x.x2.val));.br (decide (c27.val>=4294967296)) (.leaf (.out ⟨x.x0,x.x1,x.x2,x.x3,x.x4,x.x5,x.x6,c26,c27⟩)) (.leaf (.again ⟨x.x0,x.x1,x.x2,x.x3,x.x4,x.x5,x.x6,c26,c27⟩))) (.leaf (.out ⟨x.x0,x.x1,x.x2,x.x3,x.x4,x.x5,x.x6,x.x7,x.x8⟩)))
def zew (x:za1):Bool:=(Lf zaZ 4 x).opt.isSome
def L_math_bits_Div64_17 (x:za1):za1:=(Lf zaZ 4 x).get
def TbL_math_bits_Div64_17:Tb Tryz.prog:= {T:= [],mix:=mix,Es:= [],Bs:= [],d:=1}
def P_math_bits_Div64_17:LpF:=loopF [2,8,9,10,11,13,14,15,16] [] 0 rd_math_bits_Div64_17 st_math_bits_Div64_17 (.exit 0) zew L_math_bits_Div64_17
theorem lok_math_bits_Div64_17:LoopOk Tryz.prog (loopAt (Tryz.f363.body.getD .skip) 0) P_math_bits_Div64_17:=loopF_ok (t:=TbL_math_bits_Div64_17) (lt:=fun _=>none) (body:=zaZ) (n:=4) (by intro h;cases h) (fun _ _ _ h=>by cases h)
 (by intro s x h;unfold rd_math_bits_Div64_17 at h;split at h<;>cases h;rfl) (fun x b cs h=>lk_lt (l:=(st_math_bits_Div64_17 x).mm.blks) (by kernel_rfl) h) (by intro x;kernel_rfl) (fun x h=>Tr.get_some h)
structure za0 where
 x0:U64
 x1:U64
 x2:U64
 x3:U64
 x4:U64
 x5:U64
 x6:U64
 x7:U64
 x8:U64
instance:Inhabited za0:=⟨⟨default,default,default,default,default,default,default,default,default⟩⟩
def st_math_bits_Div64_24 (x:za0):St:=⟨[(2,.u64 x.x0),(8,.u64 x.x1),(9,.u64 x.x2),(10,.u64 x.x3),(14,.u64 x.x4),(15,.u64 x.x5),(16,.u64 x.x6),(17,.u64 x.x7),(18,.u64 x.x8)],135,⟨[],0,0⟩⟩
def rd_math_bits_Div64_24:St->Option za0:=fun s=>match s with
 | ⟨[(2,.u64 x0),(8,.u64 x1),(9,.u64 x2),(10,.u64 x3),(14,.u64 x4),(15,.u64 x5),(16,.u64 x6),(17,.u64 x7),(18,.u64 x8)],135,⟨[],0,0⟩⟩=>some ⟨x0,x1,x2,x3,x4,x5,x6,x7,x8⟩
 | _=>none
def zaY (x:za0):Tr (Lp za0):=
 .br (decide (x.x8.val>=4294967296)) (let c38:=(Rng.w .u64 (x.x8.val-1));let c39:=(Rng.w .u64 (x.x6.val+x.x2.val));.br (decide (c39.val>=4294967296)) (.leaf (.out ⟨x.x0,x.x1,x.x2,x.x3,x.x4,x.x5,c39,x.x7,c38⟩)) (.leaf (.again ⟨x.x0,x.x1,x.x2,x.x3,x.x4,x.x5,c39,x.x7,c38⟩))) (.br (decide ((Rng.w .u64 (x.x8.val*x.x3.val)).val>(Rng.w .u64 ((Rng.w .u64 (4294967296*x.x6.val)).val+x.x4.val)).val)) (let c45:=(Rng.w .u64 (x.x8.val-1));let c46:=(Rng.w .u64 (x.x6.val+x.x2.val));.br (decide (c46.val>=4294967296)) (.leaf (.out ⟨x.x0,x.x1,x.x2,x.x3,x.x4,x.x5,c46,x.x7,c45⟩)) (.leaf (.again ⟨x.x0,x.x1,x.x2,x.x3,x.x4,x.x5,c46,x.x7,c45⟩))) (.leaf (.out ⟨x.x0,x.x1,x.x2,x.x3,x.x4,x.x5,x.x6,x.x7,x.x8⟩)))
def zev (x:za0):Bool:=(Lf zaY 4 x).opt.isSome
def L_math_bits_Div64_24 (x:za0):za0:=(Lf zaY 4 x).get
def TbL_math_bits_Div64_24:Tb Tryz.prog:= {T:= [],mix:=mix,Es:= [],Bs:= [],d:=1}
def P_math_bits_Div64_24:LpF:=loopF [2,8,9,10,14,15,16,17,18] [] 0 rd_math_bits_Div64_24 st_math_bits_Div64_24 (.exit 2) zev L_math_bits_Div64_24
theorem lok_math_bits_Div64_24:LoopOk Tryz.prog (loopAt (Tryz.f363.body.getD .skip) 1) P_math_bits_Div64_24:=loopF_ok (t:=TbL_math_bits_Div64_24) (lt:=fun _=>none) (body:=zaY) (n:=4) (by intro h;cases h) (fun _ _ _ h=>by cases h)
 (by intro s x h;unfold rd_math_bits_Div64_24 at h;split at h<;>cases h;rfl) (fun x b cs h=>lk_lt (l:=(st_math_bits_Div64_24 x).mm.blks) (by kernel_rfl) h) (by intro x;kernel_rfl) (fun x h=>Tr.get_some h)
def Y140:TyE Tryz.prog:=⟨140,1,(.int .u64),[.u64 ⟨0,rfl⟩],false,by kernel_rfl,by kernel_rfl,by kernel_rfl,by kernel_rfl,by kernel_rfl,by kernel_rfl⟩
def B363:Bod Tryz.prog:=⟨363,Tryz.f363,Tryz.f363.body.getD .skip,Tryz.func363,by kernel_rfl,by kernel_rfl,⟨ltOf [(17,P_math_bits_Div64_17),(24,P_math_bits_Div64_24)],zan.of (ks:= [17,24]) (by kernel_rfl) (by
 intro i k h f hf
 match i,h with
 | 0,h=>cases h;obtain rfl:P_math_bits_Div64_17=f:=Option.some.inj hf;exact lok_math_bits_Div64_17
 | 1,h=>cases h;obtain rfl:P_math_bits_Div64_24=f:=Option.some.inj hf;exact lok_math_bits_Div64_24
 | n+2,h=>simp at h)⟩⟩
def Tb363:Tb Tryz.prog:= {T:= [Y3,Y140],mix:=mix,Es:= [E_math_bits_LeadingZeros64],Bs:= [],d:=1}
def zdw (a0:U64) (a1:U64) (a2:U64):Tr (T2 U64 U64):=
 .br (a2.val==0) (.bad) (.br (decide (a2.val<=a0.val)) (.bad) (.br (a0.val==0) (.br (a2.val==0) (.bad) (.br (a2.val==0) (.bad) (.leaf ⟨(Rng.w .u64 (a1.val.tdiv a2.val)),(Rng.w .u64 (a1.val.tmod a2.val))⟩))) (.br (zcJ a2) (let c4:=zdO a2;let c5:=(Rng.w .u64 (a2.val*(2^min ((Rng.w .u64 (c4.val)).val).toNat 64)));let c6:=(Rng.w .u64 (c5.val.fdiv 4294967296));let c7:=(Rng.w .u64 (zbv .and .u64 c5.val 4294967295));let c11:=(Rng.w .u64 (zbv .or .u64 (Rng.w .u64 (a0.val*(2^min ((Rng.w .u64 (c4.val)).val).toNat 64))).val (Rng.w .u64 (a1.val.fdiv (2^min ((Rng.w .u64 (64-(Rng.w .u64 (c4.val)).val)).val).toNat 64))).val));let c12:=(Rng.w .u64 (a1.val*(2^min ((Rng.w .u64 (c4.val)).val).toNat 64)));let c13:=(Rng.w .u64 (c12.val.fdiv 4294967296));let c14:=(Rng.w .u64 (zbv .and .u64 c12.val 4294967295));.br (c6.val==0) (.bad) (let c15:=(Rng.w .u64 (c11.val.tdiv c6.val));let c17:=(Rng.w .u64 (c11.val-(Rng.w .u64 (c15.val*c6.val)).val));.br (zew ⟨c5,(Rng.w .u64 (c4.val)),c6,c7,c11,c13,c14,c15,c17⟩) (let c29:=L_math_bits_Div64_17 ⟨c5,(Rng.w .u64 (c4.val)),c6,c7,c11,c13,c14,c15,c17⟩;let c33:=(Rng.w .u64 ((Rng.w .u64 ((Rng.w .u64 (c29.x4.val*4294967296)).val+c29.x5.val)).val-(Rng.w .u64 (c29.x7.val*c29.x0.val)).val));.br (c29.x2.val==0) (.bad) (let c34:=(Rng.w .u64 (c33.val.tdiv c29.x2.val));let c36:=(Rng.w .u64 (c33.val-(Rng.w .u64 (c34.val*c29.x2.val)).val));.br (zev ⟨c29.x0,c29.x1,c29.x2,c29.x3,c29.x6,c29.x7,c36,c33,c34⟩) (let c48:=L_math_bits_Div64_24 ⟨c29.x0,c29.x1,c29.x2,c29.x3,c29.x6,c29.x7,c36,c33,c34⟩;.leaf ⟨(Rng.w .u64 ((Rng.w .u64 (c48.x5.val*4294967296)).val+c48.x8.val)),(Rng.w .u64 ((Rng.w .u64 ((Rng.w .u64 ((Rng.w .u64 (c48.x7.val*4294967296)).val+c48.x4.val)).val-(Rng.w .u64 (c48.x8.val*c48.x0.val)).val)).val.fdiv (2^min (c48.x1.val).toNat 64)))⟩) (.bad))) (.bad))) (.bad))))
theorem r_math_bits_Div64 (a0:U64) (a1:U64) (a2:U64):Tb363.run B363 [enc a0,enc a1,enc a2] (T2 U64 U64)=(zdw a0 a1 a2).opt:=by kernel_rfl
def F_math_bits_Div64:U64->U64->U64->T2 U64 U64:=fun a0 a1 a2=>(zdw a0 a1 a2).get
def G_math_bits_Div64:U64->U64->U64->Bool:=fun a0 a1 a2=>(zdw a0 a1 a2).opt.isSome
def E_math_bits_Div64:Ent Tryz.prog:= .of3 Tb363 B363 G_math_bits_Div64 F_math_bits_Div64 fun a0 a1 a2 h=>(r_math_bits_Div64 a0 a1 a2).trans (Tr.get_some h)
def B350:Bod Tryz.prog:=⟨350,Tryz.f350,Tryz.f350.body.getD .skip,Tryz.func350,by kernel_rfl,by kernel_rfl,zan.no _ _⟩
def Tb350:Tb Tryz.prog:= {T:= [],mix:=mix,Es:= [E_math_bits_Div64],Bs:= [],d:=1}
def t_impl_divided (a0:U64) (a1:U64) (a2:U64):Tr (T3 U64 U64 U64):=
 .br (a2.val==0) (.bad) (.br (a2.val==0) (.bad) (let c2:=(Rng.w .u64 (a0.val.tmod a2.val));.br (G_math_bits_Div64 c2 a1 a2) (let c3:=F_math_bits_Div64 c2 a1 a2;.leaf ⟨(Rng.w .u64 (a0.val.tdiv a2.val)),c3.a,c3.b⟩) (.bad)))
theorem r_impl_divided (a0:U64) (a1:U64) (a2:U64):Tb350.run B350 [enc a0,enc a1,enc a2] (T3 U64 U64 U64)=(t_impl_divided a0 a1 a2).opt:=by kernel_rfl
def F_impl_divided:U64->U64->U64->T3 U64 U64 U64:=fun a0 a1 a2=>(t_impl_divided a0 a1 a2).get
def G_impl_divided:U64->U64->U64->Bool:=fun a0 a1 a2=>(t_impl_divided a0 a1 a2).opt.isSome
def E_impl_divided:Ent Tryz.prog:= .of3 Tb350 B350 G_impl_divided F_impl_divided fun a0 a1 a2 h=>(r_impl_divided a0 a1 a2).trans (Tr.get_some h)
def B351:Bod Tryz.prog:=⟨351,Tryz.f351,Tryz.f351.body.getD .skip,Tryz.func351,by kernel_rfl,by kernel_rfl,zan.no _ _⟩
def Tb351:Tb Tryz.prog:= {T:= [Y2,Y132,Y148],mix:=mix,Es:= [E_math_bits_Sub64],Bs:= [],d:=1}
def zdf (a0:Wide):Tr (Wide):=
 let c1:=zeN ⟨0,rfl⟩ a0.lo ⟨0,rfl⟩;.br (G_carry ⟨0,rfl⟩ (Rng.w .u64 (a0.hi.val)) c1.b) (.leaf ⟨(Rng.w .i64 ((zeN ⟨0,rfl⟩ (Rng.w .u64 (a0.hi.val)) c1.b).a.val)),c1.a⟩) (.bad)
theorem r_impl_Wide_negative (a0:Wide):Tb351.run B351 [enc a0] (Wide)=(zdf a0).opt:=by kernel_rfl
def zdh:Wide->Wide:=fun a0=>(zdf a0).get
def zcC:Wide->Bool:=fun a0=>(zdf a0).opt.isSome
def E_impl_Wide_negative:Ent Tryz.prog:= .of1 Tb351 B351 zcC zdh fun a0 h=>(r_impl_Wide_negative a0).trans (Tr.get_some h)
def B329:Bod Tryz.prog:=⟨329,Tryz.f329,Tryz.f329.body.getD .skip,Tryz.func329,by kernel_rfl,by kernel_rfl,zan.no _ _⟩
def Tb329:Tb Tryz.prog:= {T:= [Y2,Y132,Y148],mix:=mix,Es:= [E_math_bits_Add64,E_impl_divided,E_impl_Wide_negative],Bs:= [],d:=1}
def zek (a0:Wide) (a1:I64):Tr (T3 Wide I64 Bool):=
 .br (decide (a1.val<=0)) (.leaf ⟨⟨⟨0,rfl⟩,⟨0,rfl⟩⟩,⟨0,rfl⟩,false⟩) (.br (decide (a0.hi.val>=0)) (.br (G_impl_divided (Rng.w .u64 (a0.hi.val)) a0.lo (Rng.w .u64 (a1.val))) (let c1:=F_impl_divided (Rng.w .u64 (a0.hi.val)) a0.lo (Rng.w .u64 (a1.val));.leaf ⟨⟨(Rng.w .i64 (c1.a.val)),c1.b⟩,(Rng.w .i64 (c1.c.val)),true⟩) (.bad)) (.br (zcC a0) (let c2:=zdh a0;.br (G_impl_divided (Rng.w .u64 (c2.hi.val)) c2.lo (Rng.w .u64 (a1.val))) (let c3:=F_impl_divided (Rng.w .u64 (c2.hi.val)) c2.lo (Rng.w .u64 (a1.val));.br (c3.c.val==0) (.br (zcC ⟨(Rng.w .i64 (c3.a.val)),c3.b⟩) (.leaf ⟨(zdh ⟨(Rng.w .i64 (c3.a.val)),c3.b⟩),⟨0,rfl⟩,true⟩) (.bad)) (let c5:=zdA c3.b ⟨1,rfl⟩ ⟨0,rfl⟩;let c6:=(Rng.w .u64 (c3.a.val+c5.b.val));.br (zcC ⟨(Rng.w .i64 (c6.val)),c5.a⟩) (.leaf ⟨(zdh ⟨(Rng.w .i64 (c6.val)),c5.a⟩),(Rng.w .i64 (a1.val-(Rng.w .i64 (c3.c.val)).val)),true⟩) (.bad))) (.bad)) (.bad)))
theorem r_impl_WideDiv (a0:Wide) (a1:I64):Tb329.run B329 [enc a0,enc a1] (T3 Wide I64 Bool)=(zek a0 a1).opt:=by kernel_rfl
def zfE:Wide->I64->T3 Wide I64 Bool:=fun a0 a1=>(zek a0 a1).get
def zcV:Wide->I64->Bool:=fun a0 a1=>(zek a0 a1).opt.isSome
def E_impl_WideDiv:Ent Tryz.prog:= .of2 Tb329 B329 zcV zfE fun a0 a1 h=>(r_impl_WideDiv a0 a1).trans (Tr.get_some h)
def B348:Bod Tryz.prog:=⟨348,Tryz.f348,Tryz.f348.body.getD .skip,Tryz.func348,by kernel_rfl,by kernel_rfl,zan.no _ _⟩
def Tb348:Tb Tryz.prog:= {T:= [Y2,Y132,Y148],mix:=mix,Es:= [],Bs:= [],d:=1}
def t_impl_WideOf (a0:I64):Tr (Wide):=
 .leaf ⟨(Rng.w .i64 (a0.val.fdiv 9223372036854775808)),(Rng.w .u64 (a0.val))⟩
theorem r_impl_WideOf (a0:I64):Tb348.run B348 [enc a0] (Wide)=(t_impl_WideOf a0).opt:=by kernel_rfl
def F_impl_WideOf:I64->Wide:=fun a0=>(t_impl_WideOf a0).get
theorem u_impl_WideOf (a0:I64):(t_impl_WideOf a0).opt=some (F_impl_WideOf a0):=Tr.zT (by kernel_rfl)
def E_impl_WideOf:Ent Tryz.prog:= .of1 Tb348 B348 (fun _=>true) F_impl_WideOf fun a0 _=>(r_impl_WideOf a0).trans (u_impl_WideOf a0)
def B323:Bod Tryz.prog:=⟨323,Tryz.f323,Tryz.f323.body.getD .skip,Tryz.func323,by kernel_rfl,by kernel_rfl,zan.no _ _⟩
def Tb323:Tb Tryz.prog:= {T:= [Y2,Y132,Y148],mix:=mix,Es:= [E_impl_WideOf],Bs:= [],d:=1}
def t_impl_WideInt (a0:Wide):Tr (T2 I64 Bool):=
 let c1:=F_impl_WideOf (Rng.w .i64 (a0.lo.val));.br (!((c1.hi.val==a0.hi.val)&&((c1.lo.val==a0.lo.val)&&true))) (.leaf ⟨⟨0,rfl⟩,false⟩) (.leaf ⟨(Rng.w .i64 (a0.lo.val)),true⟩)
theorem r_impl_WideInt (a0:Wide):Tb323.run B323 [enc a0] (T2 I64 Bool)=(t_impl_WideInt a0).opt:=by kernel_rfl
def zfD:Wide->T2 I64 Bool:=fun a0=>(t_impl_WideInt a0).get
theorem u_impl_WideInt (a0:Wide):(t_impl_WideInt a0).opt=some (zfD a0):=Tr.zT (by kernel_rfl)
def E_impl_WideInt:Ent Tryz.prog:= .of1 Tb323 B323 (fun _=>true) zfD fun a0 _=>(r_impl_WideInt a0).trans (u_impl_WideInt a0)
def B285:Bod Tryz.prog:=⟨285,Tryz.f285,Tryz.f285.body.getD .skip,Tryz.func285,by kernel_rfl,by kernel_rfl,zan.no _ _⟩
def Tb285:Tb Tryz.prog:= {T:= [Y2,Y132,Y148],mix:=mix,Es:= [zfF,E_impl_WideInt,E_impl_WideDiv],Bs:= [],d:=1}
def zct (a0:I64) (a1:I64) (a2:I64):Tr (T2 I64 Bool):=
 let c1:=zbR a0 a1;.br (zcV c1 a2) (let c2:=zfE c1 a2;.br (!c2.c) (.leaf ⟨⟨0,rfl⟩,false⟩) (let c3:=zfD c2.a;.leaf ⟨c3.a,c3.b⟩)) (.bad)
theorem r_impl_MulDivFloor (a0:I64) (a1:I64) (a2:I64):Tb285.run B285 [enc a0,enc a1,enc a2] (T2 I64 Bool)=(zct a0 a1 a2).opt:=by kernel_rfl
def zbl:I64->I64->I64->T2 I64 Bool:=fun a0 a1 a2=>(zct a0 a1 a2).get
def zb2:I64->I64->I64->Bool:=fun a0 a1 a2=>(zct a0 a1 a2).opt.isSome
def E_impl_MulDivFloor:Ent Tryz.prog:= .of3 Tb285 B285 zb2 zbl fun a0 a1 a2 h=>(r_impl_MulDivFloor a0 a1 a2).trans (Tr.get_some h)
def B273:Bod Tryz.prog:=⟨273,Tryz.f273,Tryz.f273.body.getD .skip,Tryz.func273,by kernel_rfl,by kernel_rfl,zan.no _ _⟩
def Tb273:Tb Tryz.prog:= {T:= [],mix:=mix,Es:= [zbr],Bs:= [],d:=1}
def zf1 (a0:I64):Tr (Bool):=
 .leaf (zau a0 ⟨(-1152921504606846976),rfl⟩ ⟨1152921504606846976,rfl⟩)
theorem r_impl_ValidFix (a0:I64):Tb273.run B273 [enc a0] (Bool)=(zf1 a0).opt:=by kernel_rfl
def zaR:I64->Bool:=fun a0=>(zf1 a0).get
theorem u_impl_ValidFix (a0:I64):(zf1 a0).opt=some (zaR a0):=Tr.zT (by kernel_rfl)
def zc7:Ent Tryz.prog:= .of1 Tb273 B273 (fun _=>true) zaR fun a0 _=>(r_impl_ValidFix a0).trans (u_impl_ValidFix a0)
def B274:Bod Tryz.prog:=⟨274,Tryz.f274,Tryz.f274.body.getD .skip,Tryz.func274,by kernel_rfl,by kernel_rfl,zan.no _ _⟩
def Tb274:Tb Tryz.prog:= {T:= [],mix:=mix,Es:= [zc7],Bs:= [],d:=1}
def t_impl_fixed (a0:I64) (a1:Bool):Tr (T2 I64 Bool):=
 .br (!a1) (.leaf ⟨⟨0,rfl⟩,false⟩) (.br (!(zaR a0)) (.leaf ⟨⟨0,rfl⟩,false⟩) (.leaf ⟨a0,true⟩))
theorem r_impl_fixed (a0:I64) (a1:Bool):Tb274.run B274 [enc a0,enc a1] (T2 I64 Bool)=(t_impl_fixed a0 a1).opt:=by kernel_rfl
def zci:I64->Bool->T2 I64 Bool:=fun a0 a1=>(t_impl_fixed a0 a1).get
theorem u_impl_fixed (a0:I64) (a1:Bool):(t_impl_fixed a0 a1).opt=some (zci a0 a1):=Tr.zT (by kernel_rfl)
def E_impl_fixed:Ent Tryz.prog:= .of2 Tb274 B274 (fun _ _=>true) zci fun a0 a1 _=>(r_impl_fixed a0 a1).trans (u_impl_fixed a0 a1)
def B276:Bod Tryz.prog:=⟨276,Tryz.f276,Tryz.f276.body.getD .skip,Tryz.func276,by kernel_rfl,by kernel_rfl,zan.no _ _⟩
def Tb276:Tb Tryz.prog:= {T:= [],mix:=mix,Es:= [E_impl_fixed,E_impl_MulDivFloor],Bs:= [],d:=1}
def t_impl_FixFloor (a0:I64) (a1:I64):Tr (T2 I64 Bool):=
 .br (zb2 a0 ⟨4294967296,rfl⟩ a1) (let c1:=zbl a0 ⟨4294967296,rfl⟩ a1;let c2:=zci c1.a c1.b;.leaf ⟨c2.a,c2.b⟩) (.bad)
theorem r_impl_FixFloor (a0:I64) (a1:I64):Tb276.run B276 [enc a0,enc a1] (T2 I64 Bool)=(t_impl_FixFloor a0 a1).opt:=by kernel_rfl
def F_impl_FixFloor:I64->I64->T2 I64 Bool:=fun a0 a1=>(t_impl_FixFloor a0 a1).get
def G_impl_FixFloor:I64->I64->Bool:=fun a0 a1=>(t_impl_FixFloor a0 a1).opt.isSome
def E_impl_FixFloor:Ent Tryz.prog:= .of2 Tb276 B276 G_impl_FixFloor F_impl_FixFloor fun a0 a1 h=>(r_impl_FixFloor a0 a1).trans (Tr.get_some h)
def B325:Bod Tryz.prog:=⟨325,Tryz.f325,Tryz.f325.body.getD .skip,Tryz.func325,by kernel_rfl,by kernel_rfl,zan.no _ _⟩
def Tb325:Tb Tryz.prog:= {T:= [Y2,Y132,Y148],mix:=mix,Es:= [zfF,E_impl_WideInt,E_impl_WideDiv],Bs:= [],d:=1}
def zcK (a0:I64) (a1:I64) (a2:I64):Tr (T2 I64 Bool):=
 let c1:=zbR a0 a1;.br (zcV c1 a2) (let c2:=zfE c1 a2;.br (!c2.c) (.leaf ⟨⟨0,rfl⟩,false⟩) (let c3:=zfD c2.a;.br (!c3.b) (.leaf ⟨⟨0,rfl⟩,false⟩) (.br (decide (c2.b.val>0)) (.br (c3.a.val==9223372036854775807) (.leaf ⟨⟨0,rfl⟩,false⟩) (.br (decide (c2.b.val>0)) (.leaf ⟨(Rng.w .i64 (c3.a.val+1)),true⟩) (.leaf ⟨c3.a,true⟩))) (.br (decide (c2.b.val>0)) (.leaf ⟨(Rng.w .i64 (c3.a.val+1)),true⟩) (.leaf ⟨c3.a,true⟩))))) (.bad)
theorem r_impl_mulDivCeil (a0:I64) (a1:I64) (a2:I64):Tb325.run B325 [enc a0,enc a1,enc a2] (T2 I64 Bool)=(zcK a0 a1 a2).opt:=by kernel_rfl
def F_impl_mulDivCeil:I64->I64->I64->T2 I64 Bool:=fun a0 a1 a2=>(zcK a0 a1 a2).get
def zdy:I64->I64->I64->Bool:=fun a0 a1 a2=>(zcK a0 a1 a2).opt.isSome
def E_impl_mulDivCeil:Ent Tryz.prog:= .of3 Tb325 B325 zdy F_impl_mulDivCeil fun a0 a1 a2 h=>(r_impl_mulDivCeil a0 a1 a2).trans (Tr.get_some h)
def B277:Bod Tryz.prog:=⟨277,Tryz.f277,Tryz.f277.body.getD .skip,Tryz.func277,by kernel_rfl,by kernel_rfl,zan.no _ _⟩
def Tb277:Tb Tryz.prog:= {T:= [],mix:=mix,Es:= [E_impl_fixed,E_impl_mulDivCeil],Bs:= [],d:=1}
def zfv (a0:I64) (a1:I64):Tr (T2 I64 Bool):=
 .br (zdy a0 ⟨4294967296,rfl⟩ a1) (let c1:=F_impl_mulDivCeil a0 ⟨4294967296,rfl⟩ a1;let c2:=zci c1.a c1.b;.leaf ⟨c2.a,c2.b⟩) (.bad)
theorem r_impl_FixCeil (a0:I64) (a1:I64):Tb277.run B277 [enc a0,enc a1] (T2 I64 Bool)=(zfv a0 a1).opt:=by kernel_rfl
def F_impl_FixCeil:I64->I64->T2 I64 Bool:=fun a0 a1=>(zfv a0 a1).get
def G_impl_FixCeil:I64->I64->Bool:=fun a0 a1=>(zfv a0 a1).opt.isSome
def E_impl_FixCeil:Ent Tryz.prog:= .of2 Tb277 B277 G_impl_FixCeil F_impl_FixCeil fun a0 a1 h=>(r_impl_FixCeil a0 a1).trans (Tr.get_some h)
def B207:Bod Tryz.prog:=⟨207,Tryz.f207,Tryz.f207.body.getD .skip,Tryz.func207,by kernel_rfl,by kernel_rfl,zan.no _ _⟩
def Tb207:Tb Tryz.prog:= {T:= [Y2,Y30],mix:=mix,Es:= [],Bs:= [],d:=1}
def t_impl_ValidInterval (a0:Iv):Tr (Bool):=
 .br (decide ((-1152921504606846976)<a0.lo.val)) (.br (decide (a0.lo.val<=a0.hi.val)) (.leaf (decide (a0.hi.val<1152921504606846976))) (.leaf false)) (.leaf false)
theorem r_impl_ValidInterval (a0:Iv):Tb207.run B207 [enc a0] (Bool)=(t_impl_ValidInterval a0).opt:=by kernel_rfl
def zbq:Iv->Bool:=fun a0=>(t_impl_ValidInterval a0).get
theorem u_impl_ValidInterval (a0:Iv):(t_impl_ValidInterval a0).opt=some (zbq a0):=Tr.zT (by kernel_rfl)
def zdj:Ent Tryz.prog:= .of1 Tb207 B207 (fun _=>true) zbq fun a0 _=>(r_impl_ValidInterval a0).trans (u_impl_ValidInterval a0)
def B172:Bod Tryz.prog:=⟨172,Tryz.f172,Tryz.f172.body.getD .skip,Tryz.func172,by kernel_rfl,by kernel_rfl,zan.no _ _⟩
def Tb172:Tb Tryz.prog:= {T:= [Y2,Y30],mix:=mix,Es:= [zal,zdj],Bs:= [],d:=1}
def t_impl_bounded (a0:I64) (a1:I64) (a2:Bool):Tr (Iv):=
 .br a2 (.br (zbq ⟨a0,a1⟩) (.leaf ⟨a0,a1⟩) (.leaf zF)) (.leaf zF)
theorem r_impl_bounded (a0:I64) (a1:I64) (a2:Bool):Tb172.run B172 [enc a0,enc a1,enc a2] (Iv)=(t_impl_bounded a0 a1 a2).opt:=by kernel_rfl
def zaI:I64->I64->Bool->Iv:=fun a0 a1 a2=>(t_impl_bounded a0 a1 a2).get
theorem u_impl_bounded (a0:I64) (a1:I64) (a2:Bool):(t_impl_bounded a0 a1 a2).opt=some (zaI a0 a1 a2):=Tr.zT (by kernel_rfl)
def zbn:Ent Tryz.prog:= .of3 Tb172 B172 (fun _ _ _=>true) zaI fun a0 a1 a2 _=>(r_impl_bounded a0 a1 a2).trans (u_impl_bounded a0 a1 a2)
def B203:Bod Tryz.prog:=⟨203,Tryz.f203,Tryz.f203.body.getD .skip,Tryz.func203,by kernel_rfl,by kernel_rfl,zan.no _ _⟩
def Tb203:Tb Tryz.prog:= {T:= [Y2,Y30],mix:=mix,Es:= [zal,zbn,E_impl_FixFloor,E_impl_FixCeil],Bs:= [],d:=1}
def t_impl_Quotient (a0:I64) (a1:I64):Tr (Iv):=
 .br (decide (a1.val<0)) (let c1:=(Rng.w .i64 (0-a0.val));let c2:=(Rng.w .i64 (0-a1.val));.br (decide (c2.val<0)) (.leaf zF) (.br (c1.val==(-9223372036854775808)) (.leaf zF) (.br (G_impl_FixFloor c1 c2) (let c6:=F_impl_FixFloor c1 c2;.br (G_impl_FixCeil c1 c2) (let c7:=F_impl_FixCeil c1 c2;.br c6.b (.leaf (zaI c6.a c7.a c7.b)) (.leaf (zaI c6.a c7.a false))) (.bad)) (.bad)))) (.br (G_impl_FixFloor a0 a1) (let c10:=F_impl_FixFloor a0 a1;.br (G_impl_FixCeil a0 a1) (let c11:=F_impl_FixCeil a0 a1;.br c10.b (.leaf (zaI c10.a c11.a c11.b)) (.leaf (zaI c10.a c11.a false))) (.bad)) (.bad))
theorem r_impl_Quotient (a0:I64) (a1:I64):Tb203.run B203 [enc a0,enc a1] (Iv)=(t_impl_Quotient a0 a1).opt:=by kernel_rfl
def zad:I64->I64->Iv:=fun a0 a1=>(t_impl_Quotient a0 a1).get
def B89:Bod Tryz.prog:=⟨89,Tryz.f89,Tryz.f89.body.getD .skip,Tryz.func89,by kernel_rfl,by kernel_rfl,zan.no _ _⟩
def Tb89:Tb Tryz.prog:= {T:= [Y2,Y30],mix:=mix,Es:= [],Bs:= [],d:=1}
def t_spec_l04Whole:Tr (Iv):=
 .leaf ⟨⟨(-1152921504606846976),rfl⟩,⟨1152921504606846976,rfl⟩⟩
theorem r_spec_l04Whole:Tb89.run B89 [] (Iv)=(t_spec_l04Whole).opt:=by kernel_rfl
def zk:Iv:=(t_spec_l04Whole).get
theorem u_spec_l04Whole:(t_spec_l04Whole).opt=some (zk):=Tr.zT (by kernel_rfl)
def zbM:Ent Tryz.prog:= .of0 Tb89 B89 zk (r_spec_l04Whole.trans u_spec_l04Whole)
def B133:Bod Tryz.prog:=⟨133,Tryz.f133,Tryz.f133.body.getD .skip,Tryz.func133,by kernel_rfl,by kernel_rfl,zan.no _ _⟩
def Tb133:Tb Tryz.prog:= {T:= [Y2,Y30],mix:=mix,Es:= [zbM],Bs:= [],d:=1}
def t_spec_Whole:Tr (Iv):=
 .leaf zk
theorem r_spec_Whole:Tb133.run B133 [] (Iv)=(t_spec_Whole).opt:=by kernel_rfl
def zaL:Iv:=(t_spec_Whole).get
theorem u_spec_Whole:(t_spec_Whole).opt=some (zaL):=Tr.zT (by kernel_rfl)
def E_spec_Whole:Ent Tryz.prog:= .of0 Tb133 B133 zaL (r_spec_Whole.trans u_spec_Whole)
def B294:Bod Tryz.prog:=⟨294,Tryz.f294,Tryz.f294.body.getD .skip,Tryz.func294,by kernel_rfl,by kernel_rfl,zan.no _ _⟩
def Tb294:Tb Tryz.prog:= {T:= [Y2,Y132],mix:=mix,Es:= [],Bs:= [],d:=1}
def t_spec_l02Size (a0:I64):Tr (U64):=
 .br (decide (a0.val<0)) (.leaf (Rng.w .u64 (0-(Rng.w .u64 (a0.val)).val))) (.leaf (Rng.w .u64 (a0.val)))
theorem r_spec_l02Size (a0:I64):Tb294.run B294 [enc a0] (U64)=(t_spec_l02Size a0).opt:=by kernel_rfl
def zbw:I64->U64:=fun a0=>(t_spec_l02Size a0).get
theorem u_spec_l02Size (a0:I64):(t_spec_l02Size a0).opt=some (zbw a0):=Tr.zT (by kernel_rfl)
def E_spec_l02Size:Ent Tryz.prog:= .of1 Tb294 B294 (fun _=>true) zbw fun a0 _=>(r_spec_l02Size a0).trans (u_spec_l02Size a0)
def B293:Bod Tryz.prog:=⟨293,Tryz.f293,Tryz.f293.body.getD .skip,Tryz.func293,by kernel_rfl,by kernel_rfl,zan.no _ _⟩
def Tb293:Tb Tryz.prog:= {T:= [],mix:=mix,Es:= [],Bs:= [],d:=1}
def t_spec_l02Times (a0:U64) (a1:U64):Tr (T2 U64 U64):=
 let c8:=(Rng.w .u64 ((Rng.w .u64 ((Rng.w .u64 (a0.val.fdiv 4294967296)).val*(Rng.w .u64 (zbv .and .u64 a1.val 4294967295)).val)).val+(Rng.w .u64 ((Rng.w .u64 ((Rng.w .u64 (zbv .and .u64 a0.val 4294967295)).val*(Rng.w .u64 (zbv .and .u64 a1.val 4294967295)).val)).val.fdiv 4294967296)).val));.leaf ⟨(Rng.w .u64 ((Rng.w .u64 ((Rng.w .u64 ((Rng.w .u64 (a0.val.fdiv 4294967296)).val*(Rng.w .u64 (a1.val.fdiv 4294967296)).val)).val+(Rng.w .u64 (c8.val.fdiv 4294967296)).val)).val+(Rng.w .u64 ((Rng.w .u64 ((Rng.w .u64 ((Rng.w .u64 (zbv .and .u64 a0.val 4294967295)).val*(Rng.w .u64 (a1.val.fdiv 4294967296)).val)).val+(Rng.w .u64 (zbv .and .u64 c8.val 4294967295)).val)).val.fdiv 4294967296)).val)),(Rng.w .u64 (a0.val*a1.val))⟩
theorem r_spec_l02Times (a0:U64) (a1:U64):Tb293.run B293 [enc a0,enc a1] (T2 U64 U64)=(t_spec_l02Times a0 a1).opt:=by kernel_rfl
def zeL:U64->U64->T2 U64 U64:=fun a0 a1=>(t_spec_l02Times a0 a1).get
theorem u_spec_l02Times (a0:U64) (a1:U64):(t_spec_l02Times a0 a1).opt=some (zeL a0 a1):=Tr.zT (by kernel_rfl)
def E_spec_l02Times:Ent Tryz.prog:= .of2 Tb293 B293 (fun _ _=>true) zeL fun a0 a1 _=>(r_spec_l02Times a0 a1).trans (u_spec_l02Times a0 a1)
def B290:Bod Tryz.prog:=⟨290,Tryz.f290,Tryz.f290.body.getD .skip,Tryz.func290,by kernel_rfl,by kernel_rfl,zan.no _ _⟩
def Tb290:Tb Tryz.prog:= {T:= [Y2,Y132,Y148],mix:=mix,Es:= [],Bs:= [],d:=1}
def zdE (a0:Wide):Tr (Wide):=
 let c2:=(Rng.w .u64 (0-a0.lo.val));.br (a0.lo.val==0) (.leaf ⟨(Rng.w .i64 (0-a0.hi.val)),c2⟩) (.leaf ⟨(Rng.w .i64 (zbv .xor .i64 (-1) a0.hi.val)),c2⟩)
theorem r_spec_l02Minus (a0:Wide):Tb290.run B290 [enc a0] (Wide)=(zdE a0).opt:=by kernel_rfl
def zaT:Wide->Wide:=fun a0=>(zdE a0).get
theorem u_spec_l02Minus (a0:Wide):(zdE a0).opt=some (zaT a0):=Tr.zT (by kernel_rfl)
def E_spec_l02Minus:Ent Tryz.prog:= .of1 Tb290 B290 (fun _=>true) zaT fun a0 _=>(r_spec_l02Minus a0).trans (u_spec_l02Minus a0)
def Y4:TyE Tryz.prog:=⟨4,1,.bool,[.bool false],false,by kernel_rfl,by kernel_rfl,by kernel_rfl,by kernel_rfl,by kernel_rfl,by kernel_rfl⟩
def B230:Bod Tryz.prog:=⟨230,Tryz.f230,Tryz.f230.body.getD .skip,Tryz.func230,by kernel_rfl,by kernel_rfl,zan.no _ _⟩
def Tb230:Tb Tryz.prog:= {T:= [Y2,Y4,Y132,Y148],mix:=mix,Es:= [E_spec_l02Minus,E_spec_l02Times,E_spec_l02Size],Bs:= [],d:=1}
def t_spec_l02Mul (a0:I64) (a1:I64):Tr (Wide):=
 let c3:=zeL (zbw a0) (zbw a1);.br (!((decide (a0.val<0))==(decide (a1.val<0)))) (.leaf (zaT ⟨(Rng.w .i64 (c3.a.val)),c3.b⟩)) (.leaf ⟨(Rng.w .i64 (c3.a.val)),c3.b⟩)
theorem r_spec_l02Mul (a0:I64) (a1:I64):Tb230.run B230 [enc a0,enc a1] (Wide)=(t_spec_l02Mul a0 a1).opt:=by kernel_rfl
def zec:I64->I64->Wide:=fun a0 a1=>(t_spec_l02Mul a0 a1).get
theorem u_spec_l02Mul (a0:I64) (a1:I64):(t_spec_l02Mul a0 a1).opt=some (zec a0 a1):=Tr.zT (by kernel_rfl)
def E_spec_l02Mul:Ent Tryz.prog:= .of2 Tb230 B230 (fun _ _=>true) zec fun a0 a1 _=>(r_spec_l02Mul a0 a1).trans (u_spec_l02Mul a0 a1)
structure zb1 where
 x0:U64
 x1:U64
 x2:U64
 x3:U64
 x4:U64
 x5:I64
instance:Inhabited zb1:=⟨⟨default,default,default,default,default,default⟩⟩
def st_spec_l02Divide_5 (x:zb1):St:=⟨[(1,.u64 x.x0),(2,.u64 x.x1),(9,.u64 x.x2),(10,.u64 x.x3),(11,.u64 x.x4),(12,.i64 x.x5)],51,⟨[],0,0⟩⟩
def rd_spec_l02Divide_5:St->Option zb1:=fun s=>match s with
 | ⟨[(1,.u64 x0),(2,.u64 x1),(9,.u64 x2),(10,.u64 x3),(11,.u64 x4),(12,.i64 x5)],51,⟨[],0,0⟩⟩=>some ⟨x0,x1,x2,x3,x4,x5⟩
 | _=>none
def zcv (x:zb1):Tr (Lp zb1):=
 .br (decide (x.x5.val>=0)) (let c7:=(Rng.w .u64 (zbv .or .u64 (Rng.w .u64 (x.x3.val*2)).val (Rng.w .u64 (zbv .and .u64 (Rng.w .u64 (x.x0.val.fdiv (2^min ((Rng.w .u64 (x.x5.val)).val).toNat 64))).val 1)).val));let c8:=(Rng.w .u64 (x.x4.val*2));.br ((Rng.w .u64 (x.x3.val.fdiv 9223372036854775808)).val==1) (.leaf (.again ⟨x.x0,x.x1,x.x2,(Rng.w .u64 (c7.val-x.x1.val)),(Rng.w .u64 (zbv .or .u64 c8.val 1)),(Rng.w .i64 (x.x5.val-1))⟩)) (.br (decide (c7.val>=x.x1.val)) (.leaf (.again ⟨x.x0,x.x1,x.x2,(Rng.w .u64 (c7.val-x.x1.val)),(Rng.w .u64 (zbv .or .u64 c8.val 1)),(Rng.w .i64 (x.x5.val-1))⟩)) (.leaf (.again ⟨x.x0,x.x1,x.x2,c7,c8,(Rng.w .i64 (x.x5.val-1))⟩)))) (.leaf (.out ⟨x.x0,x.x1,x.x2,x.x3,x.x4,x.x5⟩))
def zfP (x:zb1):Bool:=(Lf zcv 66 x).opt.isSome
def L_spec_l02Divide_5 (x:zb1):zb1:=(Lf zcv 66 x).get
def TbL_spec_l02Divide_5:Tb Tryz.prog:= {T:= [Y3,Y140],mix:=mix,Es:= [],Bs:= [],d:=1}
def P_spec_l02Divide_5:LpF:=loopF [1,2,9,10,11,12] [] 0 rd_spec_l02Divide_5 st_spec_l02Divide_5 (.exit 0) zfP L_spec_l02Divide_5
theorem lok_spec_l02Divide_5:LoopOk Tryz.prog (loopAt (Tryz.f289.body.getD .skip) 0) P_spec_l02Divide_5:=loopF_ok (t:=TbL_spec_l02Divide_5) (lt:=fun _=>none) (body:=zcv) (n:=66) (by intro h;cases h) (fun _ _ _ h=>by cases h)
 (by intro s x h;unfold rd_spec_l02Divide_5 at h;split at h<;>cases h;rfl) (fun x b cs h=>lk_lt (l:=(st_spec_l02Divide_5 x).mm.blks) (by kernel_rfl) h) (by intro x;kernel_rfl) (fun x h=>Tr.get_some h)
def B289:Bod Tryz.prog:=⟨289,Tryz.f289,Tryz.f289.body.getD .skip,Tryz.func289,by kernel_rfl,by kernel_rfl,⟨ltOf [(5,P_spec_l02Divide_5)],zan.of (ks:= [5]) (by kernel_rfl) (by
 intro i k h f hf
 match i,h with
 | 0,h=>cases h;obtain rfl:P_spec_l02Divide_5=f:=Option.some.inj hf;exact lok_spec_l02Divide_5
 | n+1,h=>simp at h)⟩⟩
def Tb289:Tb Tryz.prog:= {T:= [Y3,Y140],mix:=mix,Es:= [],Bs:= [],d:=1}
def zff (a0:U64) (a1:U64) (a2:U64):Tr (T3 U64 U64 U64):=
 .br (a2.val==0) (.bad) (let c1:=(Rng.w .u64 (a0.val.tdiv a2.val));.br (a2.val==0) (.bad) (let c2:=(Rng.w .u64 (a0.val.tmod a2.val));.br (zfP ⟨a1,a2,c1,c2,⟨0,rfl⟩,⟨63,rfl⟩⟩) (let c17:=L_spec_l02Divide_5 ⟨a1,a2,c1,c2,⟨0,rfl⟩,⟨63,rfl⟩⟩;.leaf ⟨c17.x2,c17.x4,c17.x3⟩) (.bad)))
theorem r_spec_l02Divide (a0:U64) (a1:U64) (a2:U64):Tb289.run B289 [enc a0,enc a1,enc a2] (T3 U64 U64 U64)=(zff a0 a1 a2).opt:=by kernel_rfl
def zb8:U64->U64->U64->T3 U64 U64 U64:=fun a0 a1 a2=>(zff a0 a1 a2).get
def zfm:U64->U64->U64->Bool:=fun a0 a1 a2=>(zff a0 a1 a2).opt.isSome
def E_spec_l02Divide:Ent Tryz.prog:= .of3 Tb289 B289 zfm zb8 fun a0 a1 a2 h=>(r_spec_l02Divide a0 a1 a2).trans (Tr.get_some h)
def B292:Bod Tryz.prog:=⟨292,Tryz.f292,Tryz.f292.body.getD .skip,Tryz.func292,by kernel_rfl,by kernel_rfl,zan.no _ _⟩
def Tb292:Tb Tryz.prog:= {T:= [Y2,Y132,Y148],mix:=mix,Es:= [],Bs:= [],d:=1}
def t_spec_l02Of (a0:I64):Tr (Wide):=
 .br (decide (a0.val<0)) (.leaf ⟨⟨(-1),rfl⟩,(Rng.w .u64 (a0.val))⟩) (.leaf ⟨⟨0,rfl⟩,(Rng.w .u64 (a0.val))⟩)
theorem r_spec_l02Of (a0:I64):Tb292.run B292 [enc a0] (Wide)=(t_spec_l02Of a0).opt:=by kernel_rfl
def zdp:I64->Wide:=fun a0=>(t_spec_l02Of a0).get
theorem u_spec_l02Of (a0:I64):(t_spec_l02Of a0).opt=some (zdp a0):=Tr.zT (by kernel_rfl)
def E_spec_l02Of:Ent Tryz.prog:= .of1 Tb292 B292 (fun _=>true) zdp fun a0 _=>(r_spec_l02Of a0).trans (u_spec_l02Of a0)
def B291:Bod Tryz.prog:=⟨291,Tryz.f291,Tryz.f291.body.getD .skip,Tryz.func291,by kernel_rfl,by kernel_rfl,zan.no _ _⟩
def Tb291:Tb Tryz.prog:= {T:= [Y2,Y132,Y148],mix:=mix,Es:= [],Bs:= [],d:=1}
def t_spec_l02Plus (a0:Wide) (a1:Wide):Tr (Wide):=
 let c1:=(Rng.w .i64 (a0.hi.val+a1.hi.val));let c2:=(Rng.w .u64 (a0.lo.val+a1.lo.val));.br (decide (c2.val<a0.lo.val)) (.leaf ⟨(Rng.w .i64 (c1.val+1)),c2⟩) (.leaf ⟨c1,c2⟩)
theorem r_spec_l02Plus (a0:Wide) (a1:Wide):Tb291.run B291 [enc a0,enc a1] (Wide)=(t_spec_l02Plus a0 a1).opt:=by kernel_rfl
def zfA:Wide->Wide->Wide:=fun a0 a1=>(t_spec_l02Plus a0 a1).get
theorem u_spec_l02Plus (a0:Wide) (a1:Wide):(t_spec_l02Plus a0 a1).opt=some (zfA a0 a1):=Tr.zT (by kernel_rfl)
def E_spec_l02Plus:Ent Tryz.prog:= .of2 Tb291 B291 (fun _ _=>true) zfA fun a0 a1 _=>(r_spec_l02Plus a0 a1).trans (u_spec_l02Plus a0 a1)
def B229:Bod Tryz.prog:=⟨229,Tryz.f229,Tryz.f229.body.getD .skip,Tryz.func229,by kernel_rfl,by kernel_rfl,zan.no _ _⟩
def Tb229:Tb Tryz.prog:= {T:= [Y2,Y132,Y148],mix:=mix,Es:= [E_spec_l02Divide,E_spec_l02Minus,E_spec_l02Plus,E_spec_l02Of],Bs:= [],d:=1}
def t_spec_l02Div (a0:Wide) (a1:I64):Tr (T2 Wide I64):=
 .br (decide (a0.hi.val>=0)) (.br (zfm (Rng.w .u64 (a0.hi.val)) a0.lo (Rng.w .u64 (a1.val))) (let c1:=zb8 (Rng.w .u64 (a0.hi.val)) a0.lo (Rng.w .u64 (a1.val));.leaf ⟨⟨(Rng.w .i64 (c1.a.val)),c1.b⟩,(Rng.w .i64 (c1.c.val))⟩) (.bad)) (let c2:=zaT a0;.br (zfm (Rng.w .u64 (c2.hi.val)) c2.lo (Rng.w .u64 (a1.val))) (let c3:=zb8 (Rng.w .u64 (c2.hi.val)) c2.lo (Rng.w .u64 (a1.val));let c4:=zaT ⟨(Rng.w .i64 (c3.a.val)),c3.b⟩;.br (c3.c.val==0) (.leaf ⟨c4,⟨0,rfl⟩⟩) (.leaf ⟨(zfA c4 (zdp ⟨(-1),rfl⟩)),(Rng.w .i64 (a1.val-(Rng.w .i64 (c3.c.val)).val))⟩)) (.bad))
theorem r_spec_l02Div (a0:Wide) (a1:I64):Tb229.run B229 [enc a0,enc a1] (T2 Wide I64)=(t_spec_l02Div a0 a1).opt:=by kernel_rfl
def F_spec_l02Div:Wide->I64->T2 Wide I64:=fun a0 a1=>(t_spec_l02Div a0 a1).get
def G_spec_l02Div:Wide->I64->Bool:=fun a0 a1=>(t_spec_l02Div a0 a1).opt.isSome
def E_spec_l02Div:Ent Tryz.prog:= .of2 Tb229 B229 G_spec_l02Div F_spec_l02Div fun a0 a1 h=>(r_spec_l02Div a0 a1).trans (Tr.get_some h)
def B231:Bod Tryz.prog:=⟨231,Tryz.f231,Tryz.f231.body.getD .skip,Tryz.func231,by kernel_rfl,by kernel_rfl,zan.no _ _⟩
def Tb231:Tb Tryz.prog:= {T:= [Y2,Y132,Y148],mix:=mix,Es:= [E_spec_l02Of],Bs:= [],d:=1}
def t_spec_l02Int (a0:Wide):Tr (T2 I64 Bool):=
 let c1:=zdp (Rng.w .i64 (a0.lo.val));.br (!((c1.hi.val==a0.hi.val)&&((c1.lo.val==a0.lo.val)&&true))) (.leaf ⟨⟨0,rfl⟩,false⟩) (.leaf ⟨(Rng.w .i64 (a0.lo.val)),true⟩)
theorem r_spec_l02Int (a0:Wide):Tb231.run B231 [enc a0] (T2 I64 Bool)=(t_spec_l02Int a0).opt:=by kernel_rfl
def F_spec_l02Int:Wide->T2 I64 Bool:=fun a0=>(t_spec_l02Int a0).get
theorem u_spec_l02Int (a0:Wide):(t_spec_l02Int a0).opt=some (F_spec_l02Int a0):=Tr.zT (by kernel_rfl)
def E_spec_l02Int:Ent Tryz.prog:= .of1 Tb231 B231 (fun _=>true) F_spec_l02Int fun a0 _=>(r_spec_l02Int a0).trans (u_spec_l02Int a0)
def B143:Bod Tryz.prog:=⟨143,Tryz.f143,Tryz.f143.body.getD .skip,Tryz.func143,by kernel_rfl,by kernel_rfl,zan.no _ _⟩
def Tb143:Tb Tryz.prog:= {T:= [Y2,Y132,Y148],mix:=mix,Es:= [E_spec_l02Div,E_spec_l02Mul,E_spec_l02Int],Bs:= [],d:=1}
def zcs (a0:I64) (a1:I64) (a2:I64):Tr (T2 I64 Bool):=
 .br (decide (a2.val<=0)) (.leaf ⟨⟨0,rfl⟩,false⟩) (let c1:=zec a0 a1;.br (G_spec_l02Div c1 a2) (let c3:=F_spec_l02Int (F_spec_l02Div c1 a2).a;.leaf ⟨c3.a,c3.b⟩) (.bad))
theorem r_spec_MulDivFloor (a0:I64) (a1:I64) (a2:I64):Tb143.run B143 [enc a0,enc a1,enc a2] (T2 I64 Bool)=(zcs a0 a1 a2).opt:=by kernel_rfl
def zaV:I64->I64->I64->T2 I64 Bool:=fun a0 a1 a2=>(zcs a0 a1 a2).get
def zbH:I64->I64->I64->Bool:=fun a0 a1 a2=>(zcs a0 a1 a2).opt.isSome
def E_spec_MulDivFloor:Ent Tryz.prog:= .of3 Tb143 B143 zbH zaV fun a0 a1 a2 h=>(r_spec_MulDivFloor a0 a1 a2).trans (Tr.get_some h)
def B178:Bod Tryz.prog:=⟨178,Tryz.f178,Tryz.f178.body.getD .skip,Tryz.func178,by kernel_rfl,by kernel_rfl,zan.no _ _⟩
def Tb178:Tb Tryz.prog:= {T:= [],mix:=mix,Es:= [zeg],Bs:= [],d:=1}
def zd2 (a0:I64):Tr (Bool):=
 .leaf (zah a0 ⟨(-1152921504606846976),rfl⟩ ⟨1152921504606846976,rfl⟩)
theorem r_spec_l03Ok (a0:I64):Tb178.run B178 [enc a0] (Bool)=(zd2 a0).opt:=by kernel_rfl
def zO:I64->Bool:=fun a0=>(zd2 a0).get
theorem u_spec_l03Ok (a0:I64):(zd2 a0).opt=some (zO a0):=Tr.zT (by kernel_rfl)
def E_spec_l03Ok:Ent Tryz.prog:= .of1 Tb178 B178 (fun _=>true) zO fun a0 _=>(r_spec_l03Ok a0).trans (u_spec_l03Ok a0)
def B180:Bod Tryz.prog:=⟨180,Tryz.f180,Tryz.f180.body.getD .skip,Tryz.func180,by kernel_rfl,by kernel_rfl,zan.no _ _⟩
def Tb180:Tb Tryz.prog:= {T:= [],mix:=mix,Es:= [E_spec_l03Ok],Bs:= [],d:=1}
def zcq (a0:I64) (a1:Bool):Tr (T2 I64 Bool):=
 .br (!a1) (.leaf ⟨⟨0,rfl⟩,false⟩) (.br (!(zO a0)) (.leaf ⟨⟨0,rfl⟩,false⟩) (.leaf ⟨a0,true⟩))
theorem r_spec_l03End (a0:I64) (a1:Bool):Tb180.run B180 [enc a0,enc a1] (T2 I64 Bool)=(zcq a0 a1).opt:=by kernel_rfl
def zaA:I64->Bool->T2 I64 Bool:=fun a0 a1=>(zcq a0 a1).get
theorem u_spec_l03End (a0:I64) (a1:Bool):(zcq a0 a1).opt=some (zaA a0 a1):=Tr.zT (by kernel_rfl)
def E_spec_l03End:Ent Tryz.prog:= .of2 Tb180 B180 (fun _ _=>true) zaA fun a0 a1 _=>(r_spec_l03End a0 a1).trans (u_spec_l03End a0 a1)
def zfU (a0:I64) (a1:I64):Tr (T2 I64 Bool):=
 .br (decide (a1.val<=0)) (.leaf ⟨⟨0,rfl⟩,false⟩) (.br (zbH a0 ⟨4294967296,rfl⟩ a1) (let c1:=zaV a0 ⟨4294967296,rfl⟩ a1;let c2:=zaA c1.a c1.b;.leaf ⟨c2.a,c2.b⟩) (.bad))
def F_spec_l03Floor:I64->I64->T2 I64 Bool:=fun a0 a1=>(zfU a0 a1).get
def G_spec_l03Floor:I64->I64->Bool:=fun a0 a1=>(zfU a0 a1).opt.isSome
def t_spec_l03Ceil (a0:I64) (a1:I64):Tr (T2 I64 Bool):=
 .br (decide (a1.val<=0)) (.leaf ⟨⟨0,rfl⟩,false⟩) (.br (zbH a0 ⟨4294967296,rfl⟩ a1) (let c1:=zaV a0 ⟨4294967296,rfl⟩ a1;.br (!c1.b) (.leaf ⟨⟨0,rfl⟩,false⟩) (.br ((Rng.w .i64 (c1.a.val*a1.val)).val != (Rng.w .i64 (a0.val*4294967296)).val) (let c5:=zaA (Rng.w .i64 (c1.a.val+1)) true;.leaf ⟨c5.a,c5.b⟩) (let c6:=zaA c1.a true;.leaf ⟨c6.a,c6.b⟩))) (.bad))
def F_spec_l03Ceil:I64->I64->T2 I64 Bool:=fun a0 a1=>(t_spec_l03Ceil a0 a1).get
def G_spec_l03Ceil:I64->I64->Bool:=fun a0 a1=>(t_spec_l03Ceil a0 a1).opt.isSome
def B91:Bod Tryz.prog:=⟨91,Tryz.f91,Tryz.f91.body.getD .skip,Tryz.func91,by kernel_rfl,by kernel_rfl,zan.no _ _⟩
def Tb91:Tb Tryz.prog:= {T:= [Y2,Y30],mix:=mix,Es:= [],Bs:= [],d:=1}
def t_spec_l04Ok (a0:Iv):Tr (Bool):=
 .br (decide ((-1152921504606846976)<a0.lo.val)) (.br (decide (a0.lo.val<=a0.hi.val)) (.leaf (decide (a0.hi.val<1152921504606846976))) (.leaf false)) (.leaf false)
theorem r_spec_l04Ok (a0:Iv):Tb91.run B91 [enc a0] (Bool)=(t_spec_l04Ok a0).opt:=by kernel_rfl
def zf:Iv->Bool:=fun a0=>(t_spec_l04Ok a0).get
theorem u_spec_l04Ok (a0:Iv):(t_spec_l04Ok a0).opt=some (zf a0):=Tr.zT (by kernel_rfl)
def zcI:Ent Tryz.prog:= .of1 Tb91 B91 (fun _=>true) zf fun a0 _=>(r_spec_l04Ok a0).trans (u_spec_l04Ok a0)
def B90:Bod Tryz.prog:=⟨90,Tryz.f90,Tryz.f90.body.getD .skip,Tryz.func90,by kernel_rfl,by kernel_rfl,zan.no _ _⟩
def Tb90:Tb Tryz.prog:= {T:= [Y2,Y30],mix:=mix,Es:= [zbM,zcI],Bs:= [],d:=1}
def zei (a0:I64) (a1:I64):Tr (Iv):=
 .br (!(zf ⟨a0,a1⟩)) (.leaf zk) (.leaf ⟨a0,a1⟩)
theorem r_spec_l04Make (a0:I64) (a1:I64):Tb90.run B90 [enc a0,enc a1] (Iv)=(zei a0 a1).opt:=by kernel_rfl
def z8:I64->I64->Iv:=fun a0 a1=>(zei a0 a1).get
theorem u_spec_l04Make (a0:I64) (a1:I64):(zei a0 a1).opt=some (z8 a0 a1):=Tr.zT (by kernel_rfl)
def zdv:Ent Tryz.prog:= .of2 Tb90 B90 (fun _ _=>true) z8 fun a0 a1 _=>(r_spec_l04Make a0 a1).trans (u_spec_l04Make a0 a1)
def t_spec_Quotient (a0:I64) (a1:I64):Tr (Iv):=
 .br (decide (a1.val<0)) (.br (a0.val==(-9223372036854775808)) (.leaf zk) (.br (a1.val==(-9223372036854775808)) (.leaf zk) (let c5:=(Rng.w .i64 (0-a0.val));let c6:=(Rng.w .i64 (0-a1.val));.br (G_spec_l03Floor c5 c6) (let c7:=F_spec_l03Floor c5 c6;.br (G_spec_l03Ceil c5 c6) (let c8:=F_spec_l03Ceil c5 c6;.br (!c7.b) (.leaf zk) (.br (!c8.b) (.leaf zk) (.leaf (z8 c7.a c8.a)))) (.bad)) (.bad)))) (.br (G_spec_l03Floor a0 a1) (let c12:=F_spec_l03Floor a0 a1;.br (G_spec_l03Ceil a0 a1) (let c13:=F_spec_l03Ceil a0 a1;.br (!c12.b) (.leaf zk) (.br (!c13.b) (.leaf zk) (.leaf (z8 c12.a c13.a)))) (.bad)) (.bad))
def zQ:I64->I64->Iv:=fun a0 a1=>(t_spec_Quotient a0 a1).get
def B52:Bod Tryz.prog:=⟨52,Tryz.f52,Tryz.f52.body.getD .skip,Tryz.func52,by kernel_rfl,by kernel_rfl,zan.no _ _⟩
def Tb52:Tb Tryz.prog:= {T:= [Y2,Y30],mix:=mix,Es:= [zbM,zdv,zcI],Bs:= [],d:=1}
def t_spec_NegI (a0:Iv):Tr (Iv):=
 .br (!(zf a0)) (.leaf zk) (.leaf (z8 (Rng.w .i64 (0-a0.hi.val)) (Rng.w .i64 (0-a0.lo.val))))
theorem r_spec_NegI (a0:Iv):Tb52.run B52 [enc a0] (Iv)=(t_spec_NegI a0).opt:=by kernel_rfl
def zaE:Iv->Iv:=fun a0=>(t_spec_NegI a0).get
theorem u_spec_NegI (a0:Iv):(t_spec_NegI a0).opt=some (zaE a0):=Tr.zT (by kernel_rfl)
def E_spec_NegI:Ent Tryz.prog:= .of1 Tb52 B52 (fun _=>true) zaE fun a0 _=>(r_spec_NegI a0).trans (u_spec_NegI a0)
def B45:Bod Tryz.prog:=⟨45,Tryz.f45,Tryz.f45.body.getD .skip,Tryz.func45,by kernel_rfl,by kernel_rfl,zan.no _ _⟩
def Tb45_p:Tb Tryz.prog:= {T:= [Y2,Y30],mix:=mix,Es:= [zeg,E_spec_Whole,E_spec_MulDivFloor],Bs:= [],d:=1}
def zb0 (a0:I64):Tr (Iv):=
 .br (!(zah a0 ⟨(-36000000000),rfl⟩ ⟨36000000000,rfl⟩)) (.leaf zaL) (.br (a0.val==0) (.leaf ⟨⟨0,rfl⟩,⟨0,rfl⟩⟩) (.br (decide (a0.val<0)) (.bad) (.br (zbH a0 ⟨7244019458077122842,rfl⟩ ⟨966367641600000000,rfl⟩) (.br (zbH a0 ⟨7244019458077122843,rfl⟩ ⟨966367641600000000,rfl⟩) (.leaf ⟨(zaV a0 ⟨7244019458077122842,rfl⟩ ⟨966367641600000000,rfl⟩).a,(Rng.w .i64 ((zaV a0 ⟨7244019458077122843,rfl⟩ ⟨966367641600000000,rfl⟩).a.val+1))⟩) (.bad)) (.bad))))
theorem r_spec_RadiansOf_p (a0:I64):Tb45_p.run B45 [enc a0] (Iv)=(zb0 a0).opt:=by kernel_rfl
def zcz:I64->Iv:=fun a0=>(zb0 a0).get
def zeb:I64->Bool:=fun a0=>(zb0 a0).opt.isSome
def E_spec_RadiansOf_p:Ent Tryz.prog:= .of1 Tb45_p B45 zeb zcz fun a0 h=>(r_spec_RadiansOf_p a0).trans (Tr.get_some h)
def Tb45:Tb Tryz.prog:= {T:= [Y2,Y30],mix:=mix,Es:= [E_spec_RadiansOf_p,E_spec_NegI,zeg,E_spec_Whole,E_spec_MulDivFloor],Bs:= [],d:=1}
def zbN (a0:I64):Tr (Iv):=
 .br (!(zah a0 ⟨(-36000000000),rfl⟩ ⟨36000000000,rfl⟩)) (.leaf zaL) (.br (a0.val==0) (.leaf ⟨⟨0,rfl⟩,⟨0,rfl⟩⟩) (.br (decide (a0.val<0)) (let c3:=(Rng.w .i64 (0-a0.val));.br (zeb c3) (.leaf (zaE (zcz c3))) (.bad)) (.br (zbH a0 ⟨7244019458077122842,rfl⟩ ⟨966367641600000000,rfl⟩) (.br (zbH a0 ⟨7244019458077122843,rfl⟩ ⟨966367641600000000,rfl⟩) (.leaf ⟨(zaV a0 ⟨7244019458077122842,rfl⟩ ⟨966367641600000000,rfl⟩).a,(Rng.w .i64 ((zaV a0 ⟨7244019458077122843,rfl⟩ ⟨966367641600000000,rfl⟩).a.val+1))⟩) (.bad)) (.bad))))
theorem r_spec_RadiansOf (a0:I64):Tb45.run B45 [enc a0] (Iv)=(zbN a0).opt:=by kernel_rfl
def zaJ:I64->Iv:=fun a0=>(zbN a0).get
def B123:Bod Tryz.prog:=⟨123,Tryz.f123,Tryz.f123.body.getD .skip,Tryz.func123,by kernel_rfl,by kernel_rfl,zan.no _ _⟩
def Tb123:Tb Tryz.prog:= {T:= [Y30],mix:=mix,Es:= [zdj],Bs:= [],d:=1}
def zdn (a0:Iv):Tr (Bool):=
 .leaf (!(zbq a0))
theorem r_impl_IsWhole (a0:Iv):Tb123.run B123 [enc a0] (Bool)=(zdn a0).opt:=by kernel_rfl
def zam:Iv->Bool:=fun a0=>(zdn a0).get
theorem u_impl_IsWhole (a0:Iv):(zdn a0).opt=some (zam a0):=Tr.zT (by kernel_rfl)
def zbb:Ent Tryz.prog:= .of1 Tb123 B123 (fun _=>true) zam fun a0 _=>(r_impl_IsWhole a0).trans (u_impl_IsWhole a0)
def B200:Bod Tryz.prog:=⟨200,Tryz.f200,Tryz.f200.body.getD .skip,Tryz.func200,by kernel_rfl,by kernel_rfl,zan.no _ _⟩
def Tb200:Tb Tryz.prog:= {T:= [Y2,Y30],mix:=mix,Es:= [zbb,zal],Bs:= [],d:=1}
def t_impl_NegI (a0:Iv):Tr (Iv):=
 .br (zam a0) (.leaf zF) (.leaf ⟨(Rng.w .i64 (0-a0.hi.val)),(Rng.w .i64 (0-a0.lo.val))⟩)
theorem r_impl_NegI (a0:Iv):Tb200.run B200 [enc a0] (Iv)=(t_impl_NegI a0).opt:=by kernel_rfl
def zcN:Iv->Iv:=fun a0=>(t_impl_NegI a0).get
theorem u_impl_NegI (a0:Iv):(t_impl_NegI a0).opt=some (zcN a0):=Tr.zT (by kernel_rfl)
def E_impl_NegI:Ent Tryz.prog:= .of1 Tb200 B200 (fun _=>true) zcN fun a0 _=>(r_impl_NegI a0).trans (u_impl_NegI a0)
def zfK (a0:I64):Tr (Iv):=
 .br (!(zau a0 ⟨(-36000000000),rfl⟩ ⟨36000000000,rfl⟩)) (.leaf zF) (.br (decide (a0.val<0)) (.bad) (.br (a0.val==0) (.leaf ⟨⟨0,rfl⟩,⟨0,rfl⟩⟩) (.br (zb2 a0 ⟨7244019458077122842,rfl⟩ ⟨966367641600000000,rfl⟩) (.br (zb2 a0 ⟨7244019458077122843,rfl⟩ ⟨966367641600000000,rfl⟩) (.leaf ⟨(zbl a0 ⟨7244019458077122842,rfl⟩ ⟨966367641600000000,rfl⟩).a,(Rng.w .i64 ((zbl a0 ⟨7244019458077122843,rfl⟩ ⟨966367641600000000,rfl⟩).a.val+1))⟩) (.bad)) (.bad))))
def F_impl_RadiansOf_p:I64->Iv:=fun a0=>(zfK a0).get
def G_impl_RadiansOf_p:I64->Bool:=fun a0=>(zfK a0).opt.isSome
def t_impl_RadiansOf (a0:I64):Tr (Iv):=
 .br (!(zau a0 ⟨(-36000000000),rfl⟩ ⟨36000000000,rfl⟩)) (.leaf zF) (.br (decide (a0.val<0)) (let c3:=(Rng.w .i64 (0-a0.val));.br (G_impl_RadiansOf_p c3) (.leaf (zcN (F_impl_RadiansOf_p c3))) (.bad)) (.br (a0.val==0) (.leaf ⟨⟨0,rfl⟩,⟨0,rfl⟩⟩) (.br (zb2 a0 ⟨7244019458077122842,rfl⟩ ⟨966367641600000000,rfl⟩) (.br (zb2 a0 ⟨7244019458077122843,rfl⟩ ⟨966367641600000000,rfl⟩) (.leaf ⟨(zbl a0 ⟨7244019458077122842,rfl⟩ ⟨966367641600000000,rfl⟩).a,(Rng.w .i64 ((zbl a0 ⟨7244019458077122843,rfl⟩ ⟨966367641600000000,rfl⟩).a.val+1))⟩) (.bad)) (.bad))))
end
end Go.Proofs.YtfcjhkkpbnobhaaGreat.Ev
namespace Go.Proofs.YtfcjhkkpbnobhaaGreat.Ev
open Go
theorem wi {n:Int} (h: -9223372036854775808<=n) (h':n<=9223372036854775807):(Rng.w .i64 n).val=n:=wrap_inB (k:= .i64) (by simp [inB,h,h'])
theorem wu {n:Int} (h:0<=n) (h':n<=18446744073709551615):(Rng.w .u64 n).val=n:=wrap_inB (k:= .u64) (by simp [inB,h,h'])
theorem zbh (n:Int):(Rng.w .u64 n).val=n%18446744073709551616:=by
 show IntKind.u64.wrap n=_
 simp [IntKind.wrap,IntKind.bits,IntKind.signed]
theorem zbX (a b c:I64):zau a b c=decide (b.val<=a.val/\a.val<=c.val):=by
 simp only [zau,t_impl_within,Tr.get,ge_iff_le]
 by_cases h:b.val<=a.val<;>simp [h]
theorem zdg (a b c:I64):zah a b c=decide (b.val<=a.val/\a.val<=c.val):=by
 simp only [zah,t_spec_l00In,Tr.get,ge_iff_le]
 by_cases h:b.val<=a.val<;>simp [h]
theorem abs_val (n:I64) (h: -9223372036854775807<=n.val):(zcj n).val=if n.val<0 then -n.val else n.val:=by
 have b:=n.bd
 simp only [zcj,t_impl_abs,Tr.get,mx]
 rw [wi (by omega) (by omega)]
 by_cases h0:n.val<0
 ·have e:decide (0-n.val>n.val)=true:=by simp;omega
  rw [e,cond_true,wi (by omega) (by omega)];simp [h0]
 ·have e:decide (0-n.val>n.val)=false:=by simp;omega
  rw [e,cond_false];simp [h0]
end Go.Proofs.YtfcjhkkpbnobhaaGreat.Ev
