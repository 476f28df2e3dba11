/- The law FnZones gives true, whatever bytes come in. No conditions. (One of the texts of its proof, put together by a program of this session.) -/
import Derived.Test.YtfcjhkkpbnobhaaGreatZW1
import Derived.Test.YtfcjhkkpbnobhaaGreatZPA
set_option linter.unusedSectionVars false
set_option linter.unusedSimpArgs false
set_option linter.unusedVariables false
noncomputable section
namespace Go.Proofs.YtfcjhkkpbnobhaaGreat.Ev
open Go Go.RowKit
set_option maxRecDepth 100000
section
variable [Amb]
def ET_spec_MulDivFloor:Ent Tryz.prog:= .of3 Tb143 B143 (fun _ _ _=>true) zaV fun a0 a1 a2 _=>(r_spec_MulDivFloor a0 a1 a2).trans (tt_md_spec a0 a1 a2)
def ET_impl_MulDivFloor:Ent Tryz.prog:= .of3 Tb285 B285 (fun _ _ _=>true) zbl fun a0 a1 a2 _=>(r_impl_MulDivFloor a0 a1 a2).trans (tt_md_impl a0 a1 a2)
def zd0:Ent Tryz.prog:= .of2 Tb203 B203 (fun _ _=>true) zad fun a0 a1 _=>(r_impl_Quotient a0 a1).trans (tt_q_impl a0 a1)
def ET_spec_RadiansOf:Ent Tryz.prog:= .of1 Tb45 B45 (fun _=>true) zaJ fun a0 _=>(r_spec_RadiansOf a0).trans (tt_rad_spec a0)
def B259:Bod Tryz.prog:=⟨259,Tryz.f259,Tryz.f259.body.getD .skip,Tryz.func259,by kernel_rfl,by kernel_rfl,zan.no _ _⟩
def Tb259:Tb Tryz.prog:= {T:= [Y2,Y132,Y140,Y148],mix:=mix,Es:= [],Bs:= [],d:=1}
def zfV (a0:Wide) (a1:I64):Tr (Wide):=
 .br (a1.val==0) (.leaf a0) (.br (decide (a1.val<64)) (.leaf ⟨(Rng.w .i64 (a0.hi.val.fdiv (2^min ((Rng.w .u64 (a1.val)).val).toNat 64))),(Rng.w .u64 (zbv .or .u64 (Rng.w .u64 (a0.lo.val.fdiv (2^min ((Rng.w .u64 (a1.val)).val).toNat 64))).val (Rng.w .u64 ((Rng.w .u64 (a0.hi.val)).val*(2^min ((Rng.w .u64 ((Rng.w .i64 (64-a1.val)).val)).val).toNat 64))).val))⟩) (.leaf ⟨(Rng.w .i64 (a0.hi.val.fdiv 9223372036854775808)),(Rng.w .u64 ((Rng.w .i64 (a0.hi.val.fdiv (2^min ((Rng.w .u64 ((Rng.w .i64 (a1.val-64)).val)).val).toNat 64))).val))⟩))
theorem r_spec_l02Shift (a0:Wide) (a1:I64):Tb259.run B259 [enc a0,enc a1] (Wide)=(zfV a0 a1).opt:=by kernel_rfl
def zc4:Wide->I64->Wide:=fun a0 a1=>(zfV a0 a1).get
theorem u_spec_l02Shift (a0:Wide) (a1:I64):(zfV a0 a1).opt=some (zc4 a0 a1):=Tr.zT (by kernel_rfl)
def E_spec_l02Shift:Ent Tryz.prog:= .of2 Tb259 B259 (fun _ _=>true) zc4 fun a0 a1 _=>(r_spec_l02Shift a0 a1).trans (u_spec_l02Shift a0 a1)
def B179:Bod Tryz.prog:=⟨179,Tryz.f179,Tryz.f179.body.getD .skip,Tryz.func179,by kernel_rfl,by kernel_rfl,zan.no _ _⟩
def Tb179:Tb Tryz.prog:= {T:= [],mix:=mix,Es:= [zeg,E_spec_l02Mul,E_spec_l02Int,E_spec_l02Shift],Bs:= [],d:=1}
def zfX (a0:I64) (a1:I64) (a2:I64):Tr (T2 I64 Bool):=
 .br (!(zah a2 ⟨0,rfl⟩ ⟨126,rfl⟩)) (.leaf ⟨⟨0,rfl⟩,false⟩) (let c4:=F_spec_l02Int (zc4 (zec a0 a1) a2);.leaf ⟨c4.a,c4.b⟩)
theorem r_spec_MulFloor (a0:I64) (a1:I64) (a2:I64):Tb179.run B179 [enc a0,enc a1,enc a2] (T2 I64 Bool)=(zfX a0 a1 a2).opt:=by kernel_rfl
def zaw:I64->I64->I64->T2 I64 Bool:=fun a0 a1 a2=>(zfX a0 a1 a2).get
theorem u_spec_MulFloor (a0:I64) (a1:I64) (a2:I64):(zfX a0 a1 a2).opt=some (zaw a0 a1 a2):=Tr.zT (by kernel_rfl)
def E_spec_MulFloor:Ent Tryz.prog:= .of3 Tb179 B179 (fun _ _ _=>true) zaw fun a0 a1 a2 _=>(r_spec_MulFloor a0 a1 a2).trans (u_spec_MulFloor a0 a1 a2)
def B97:Bod Tryz.prog:=⟨97,Tryz.f97,Tryz.f97.body.getD .skip,Tryz.func97,by kernel_rfl,by kernel_rfl,zan.no _ _⟩
def Tb97:Tb Tryz.prog:= {T:= [],mix:=mix,Es:= [E_spec_l03Ok,E_spec_MulFloor,E_spec_l03End],Bs:= [],d:=1}
def zcd (a0:I64) (a1:I64):Tr (T2 I64 Bool):=
 .br (!(zO a0)) (.leaf ⟨⟨0,rfl⟩,false⟩) (.br (!(zO a1)) (.leaf ⟨⟨0,rfl⟩,false⟩) (let c3:=zaw a0 a1 ⟨32,rfl⟩;let c4:=zaA c3.a c3.b;.leaf ⟨c4.a,c4.b⟩))
theorem r_spec_l03MulDown (a0:I64) (a1:I64):Tb97.run B97 [enc a0,enc a1] (T2 I64 Bool)=(zcd a0 a1).opt:=by kernel_rfl
def zV:I64->I64->T2 I64 Bool:=fun a0 a1=>(zcd a0 a1).get
theorem u_spec_l03MulDown (a0:I64) (a1:I64):(zcd a0 a1).opt=some (zV a0 a1):=Tr.zT (by kernel_rfl)
def E_spec_l03MulDown:Ent Tryz.prog:= .of2 Tb97 B97 (fun _ _=>true) zV fun a0 a1 _=>(r_spec_l03MulDown a0 a1).trans (u_spec_l03MulDown a0 a1)
def B98:Bod Tryz.prog:=⟨98,Tryz.f98,Tryz.f98.body.getD .skip,Tryz.func98,by kernel_rfl,by kernel_rfl,zan.no _ _⟩
def Tb98:Tb Tryz.prog:= {T:= [],mix:=mix,Es:= [E_spec_l03MulDown,E_spec_l03Ok],Bs:= [],d:=1}
def zdD (a0:I64) (a1:I64):Tr (T2 I64 Bool):=
 let c2:=zV (Rng.w .i64 (0-a0.val)) a1;.br (!(zO a0)) (.leaf ⟨⟨0,rfl⟩,false⟩) (.br (!c2.b) (.leaf ⟨⟨0,rfl⟩,false⟩) (.leaf ⟨(Rng.w .i64 (0-c2.a.val)),true⟩))
theorem r_spec_l03MulUp (a0:I64) (a1:I64):Tb98.run B98 [enc a0,enc a1] (T2 I64 Bool)=(zdD a0 a1).opt:=by kernel_rfl
def zaj:I64->I64->T2 I64 Bool:=fun a0 a1=>(zdD a0 a1).get
theorem u_spec_l03MulUp (a0:I64) (a1:I64):(zdD a0 a1).opt=some (zaj a0 a1):=Tr.zT (by kernel_rfl)
def E_spec_l03MulUp:Ent Tryz.prog:= .of2 Tb98 B98 (fun _ _=>true) zaj fun a0 a1 _=>(r_spec_l03MulUp a0 a1).trans (u_spec_l03MulUp a0 a1)
def B99:Bod Tryz.prog:=⟨99,Tryz.f99,Tryz.f99.body.getD .skip,Tryz.func99,by kernel_rfl,by kernel_rfl,zan.no _ _⟩
def Tb99:Tb Tryz.prog:= {T:= [],mix:=mix,Es:= [],Bs:= [],d:=1}
def t_spec_l00Min (a0:I64) (a1:I64):Tr (I64):=
 .br (decide (a0.val<a1.val)) (.leaf a0) (.leaf a1)
theorem r_spec_l00Min (a0:I64) (a1:I64):Tb99.run B99 [enc a0,enc a1] (I64)=(t_spec_l00Min a0 a1).opt:=by kernel_rfl
def zJ:I64->I64->I64:=fun a0 a1=>(t_spec_l00Min a0 a1).get
theorem u_spec_l00Min (a0:I64) (a1:I64):(t_spec_l00Min a0 a1).opt=some (zJ a0 a1):=Tr.zT (by kernel_rfl)
def E_spec_l00Min:Ent Tryz.prog:= .of2 Tb99 B99 (fun _ _=>true) zJ fun a0 a1 _=>(r_spec_l00Min a0 a1).trans (u_spec_l00Min a0 a1)
def B100:Bod Tryz.prog:=⟨100,Tryz.f100,Tryz.f100.body.getD .skip,Tryz.func100,by kernel_rfl,by kernel_rfl,zan.no _ _⟩
def Tb100:Tb Tryz.prog:= {T:= [],mix:=mix,Es:= [],Bs:= [],d:=1}
def t_spec_l00Max (a0:I64) (a1:I64):Tr (I64):=
 .br (decide (a0.val>a1.val)) (.leaf a0) (.leaf a1)
theorem r_spec_l00Max (a0:I64) (a1:I64):Tb100.run B100 [enc a0,enc a1] (I64)=(t_spec_l00Max a0 a1).opt:=by kernel_rfl
def zD:I64->I64->I64:=fun a0 a1=>(t_spec_l00Max a0 a1).get
theorem u_spec_l00Max (a0:I64) (a1:I64):(t_spec_l00Max a0 a1).opt=some (zD a0 a1):=Tr.zT (by kernel_rfl)
def E_spec_l00Max:Ent Tryz.prog:= .of2 Tb100 B100 (fun _ _=>true) zD fun a0 a1 _=>(r_spec_l00Max a0 a1).trans (u_spec_l00Max a0 a1)
def Y99:TyE Tryz.prog:=⟨99,1,(.slice 2 1),[.nils],false,by kernel_rfl,by kernel_rfl,by kernel_rfl,by kernel_rfl,by kernel_rfl,by kernel_rfl⟩
def B25:Bod Tryz.prog:=⟨25,Tryz.f25,Tryz.f25.body.getD .skip,Tryz.func25,by kernel_rfl,by kernel_rfl,zan.no _ _⟩
def Tb25:Tb Tryz.prog:= {T:= [Y2,Y30,Y99],mix:=mix,Es:= [zbM,zdv,zcI,E_spec_l03MulDown,E_spec_l03MulUp,E_spec_l00Min,E_spec_l00Max],Bs:= [],d:=1}
def t_spec_MulI (a0:Iv) (a1:Iv):Tr (Iv):=
 .br (!(zf a0)) (.leaf zk) (.br (!(zf a1)) (.leaf zk) (let c5:=zV a0.lo a1.lo;let c6:=zaj a0.lo a1.lo;.br (!c5.b) (.leaf zk) (.br (!c6.b) (.leaf zk) (let c11:=zV a0.lo a1.hi;let c12:=zaj a0.lo a1.hi;.br (!c11.b) (.leaf zk) (.br (!c12.b) (.leaf zk) (let c17:=zV a0.hi a1.lo;let c18:=zaj a0.hi a1.lo;.br (!c17.b) (.leaf zk) (.br (!c18.b) (.leaf zk) (let c23:=zV a0.hi a1.hi;let c24:=zaj a0.hi a1.hi;.br (!c23.b) (.leaf zk) (.br (!c24.b) (.leaf zk) (.leaf (z8 (zJ (zJ (zJ (zJ ⟨1152921504606846976,rfl⟩ c5.a) c11.a) c17.a) c23.a) (zD (zD (zD (zD ⟨(-1152921504606846976),rfl⟩ c6.a) c12.a) c18.a) c24.a))))))))))))
theorem r_spec_MulI (a0:Iv) (a1:Iv):Tb25.run B25 [enc a0,enc a1] (Iv)=(t_spec_MulI a0 a1).opt:=by kernel_rfl
def zu:Iv->Iv->Iv:=fun a0 a1=>(t_spec_MulI a0 a1).get
theorem u_spec_MulI (a0:Iv) (a1:Iv):(t_spec_MulI a0 a1).opt=some (zu a0 a1):=Tr.zT (by kernel_rfl)
def E_spec_MulI:Ent Tryz.prog:= .of2 Tb25 B25 (fun _ _=>true) zu fun a0 a1 _=>(r_spec_MulI a0 a1).trans (u_spec_MulI a0 a1)
def B140:Bod Tryz.prog:=⟨140,Tryz.f140,Tryz.f140.body.getD .skip,Tryz.func140,by kernel_rfl,by kernel_rfl,zan.no _ _⟩
def Tb140:Tb Tryz.prog:= {T:= [Y30],mix:=mix,Es:= [zdj],Bs:= [],d:=1}
def t_impl_areBounded (a0:Iv) (a1:Iv):Tr (Bool):=
 .br (zbq a0) (.leaf (zbq a1)) (.leaf false)
theorem r_impl_areBounded (a0:Iv) (a1:Iv):Tb140.run B140 [enc a0,enc a1] (Bool)=(t_impl_areBounded a0 a1).opt:=by kernel_rfl
def zaX:Iv->Iv->Bool:=fun a0 a1=>(t_impl_areBounded a0 a1).get
theorem u_impl_areBounded (a0:Iv) (a1:Iv):(t_impl_areBounded a0 a1).opt=some (zaX a0 a1):=Tr.zT (by kernel_rfl)
def zbu:Ent Tryz.prog:= .of2 Tb140 B140 (fun _ _=>true) zaX fun a0 a1 _=>(r_impl_areBounded a0 a1).trans (u_impl_areBounded a0 a1)
def B324:Bod Tryz.prog:=⟨324,Tryz.f324,Tryz.f324.body.getD .skip,Tryz.func324,by kernel_rfl,by kernel_rfl,zan.no _ _⟩
def Tb324:Tb Tryz.prog:= {T:= [Y2,Y132,Y148],mix:=mix,Es:= [zbr],Bs:= [],d:=1}
def zfh (a0:Wide) (a1:I64):Tr (Wide):=
 .br (!(zau a1 ⟨0,rfl⟩ ⟨127,rfl⟩)) (.leaf ⟨⟨0,rfl⟩,⟨0,rfl⟩⟩) (.br (decide (a1.val>=64)) (let c3:=(Rng.w .i64 (a1.val-64));.br (decide (c3.val<0)) (.bad) (.leaf ⟨(Rng.w .i64 (a0.hi.val.fdiv 9223372036854775808)),(Rng.w .u64 ((Rng.w .i64 (a0.hi.val.fdiv (2^min (c3.val).toNat 64))).val))⟩)) (.br (decide (a1.val<0)) (.bad) (.br (decide (a1.val<0)) (.bad) (let c7:=(Rng.w .i64 (64-a1.val));.br (decide (c7.val<0)) (.bad) (.leaf ⟨(Rng.w .i64 (a0.hi.val.fdiv (2^min (a1.val).toNat 64))),(Rng.w .u64 (zbv .or .u64 (Rng.w .u64 (a0.lo.val.fdiv (2^min (a1.val).toNat 64))).val (Rng.w .u64 ((Rng.w .u64 (a0.hi.val)).val*(2^min (c7.val).toNat 64))).val))⟩)))))
theorem r_impl_WideShift (a0:Wide) (a1:I64):Tb324.run B324 [enc a0,enc a1] (Wide)=(zfh a0 a1).opt:=by kernel_rfl
def F_impl_WideShift:Wide->I64->Wide:=fun a0 a1=>(zfh a0 a1).get
def G_impl_WideShift:Wide->I64->Bool:=fun a0 a1=>(zfh a0 a1).opt.isSome
def E_impl_WideShift:Ent Tryz.prog:= .of2 Tb324 B324 G_impl_WideShift F_impl_WideShift fun a0 a1 h=>(r_impl_WideShift a0 a1).trans (Tr.get_some h)
def B275:Bod Tryz.prog:=⟨275,Tryz.f275,Tryz.f275.body.getD .skip,Tryz.func275,by kernel_rfl,by kernel_rfl,zan.no _ _⟩
def Tb275:Tb Tryz.prog:= {T:= [],mix:=mix,Es:= [zbr,zfF,E_impl_WideInt,E_impl_WideShift],Bs:= [],d:=1}
def zeE (a0:I64) (a1:I64) (a2:I64):Tr (T2 I64 Bool):=
 .br (!(zau a2 ⟨0,rfl⟩ ⟨126,rfl⟩)) (.leaf ⟨⟨0,rfl⟩,false⟩) (let c2:=zbR a0 a1;.br (G_impl_WideShift c2 a2) (let c4:=zfD (F_impl_WideShift c2 a2);.leaf ⟨c4.a,c4.b⟩) (.bad))
theorem r_impl_MulFloor (a0:I64) (a1:I64) (a2:I64):Tb275.run B275 [enc a0,enc a1,enc a2] (T2 I64 Bool)=(zeE a0 a1 a2).opt:=by kernel_rfl
def zbL:I64->I64->I64->T2 I64 Bool:=fun a0 a1 a2=>(zeE a0 a1 a2).get
def G_impl_MulFloor:I64->I64->I64->Bool:=fun a0 a1 a2=>(zeE a0 a1 a2).opt.isSome
def E_impl_MulFloor:Ent Tryz.prog:= .of3 Tb275 B275 G_impl_MulFloor zbL fun a0 a1 a2 h=>(r_impl_MulFloor a0 a1 a2).trans (Tr.get_some h)
def B198:Bod Tryz.prog:=⟨198,Tryz.f198,Tryz.f198.body.getD .skip,Tryz.func198,by kernel_rfl,by kernel_rfl,zan.no _ _⟩
def Tb198:Tb Tryz.prog:= {T:= [],mix:=mix,Es:= [zc7,E_impl_fixed,E_impl_MulFloor],Bs:= [],d:=1}
def t_impl_MulDown (a0:I64) (a1:I64):Tr (T2 I64 Bool):=
 .br (!(zaR a0)) (.leaf ⟨⟨0,rfl⟩,false⟩) (.br (!(zaR a1)) (.leaf ⟨⟨0,rfl⟩,false⟩) (.br (G_impl_MulFloor a0 a1 ⟨32,rfl⟩) (let c3:=zbL a0 a1 ⟨32,rfl⟩;let c4:=zci c3.a c3.b;.leaf ⟨c4.a,c4.b⟩) (.bad)))
theorem r_impl_MulDown (a0:I64) (a1:I64):Tb198.run B198 [enc a0,enc a1] (T2 I64 Bool)=(t_impl_MulDown a0 a1).opt:=by kernel_rfl
def zdt:I64->I64->T2 I64 Bool:=fun a0 a1=>(t_impl_MulDown a0 a1).get
def zcW:I64->I64->Bool:=fun a0 a1=>(t_impl_MulDown a0 a1).opt.isSome
def E_impl_MulDown:Ent Tryz.prog:= .of2 Tb198 B198 zcW zdt fun a0 a1 h=>(r_impl_MulDown a0 a1).trans (Tr.get_some h)
def B199:Bod Tryz.prog:=⟨199,Tryz.f199,Tryz.f199.body.getD .skip,Tryz.func199,by kernel_rfl,by kernel_rfl,zan.no _ _⟩
def Tb199:Tb Tryz.prog:= {T:= [],mix:=mix,Es:= [E_impl_MulDown,zc7],Bs:= [],d:=1}
def t_impl_MulUp (a0:I64) (a1:I64):Tr (T2 I64 Bool):=
 .br (!(zaR a0)) (.leaf ⟨⟨0,rfl⟩,false⟩) (.br (!(zaR a1)) (.leaf ⟨⟨0,rfl⟩,false⟩) (let c3:=(Rng.w .i64 (0-a0.val));.br (zcW c3 a1) (let c4:=zdt c3 a1;.leaf ⟨(Rng.w .i64 (0-c4.a.val)),c4.b⟩) (.bad)))
theorem r_impl_MulUp (a0:I64) (a1:I64):Tb199.run B199 [enc a0,enc a1] (T2 I64 Bool)=(t_impl_MulUp a0 a1).opt:=by kernel_rfl
def F_impl_MulUp:I64->I64->T2 I64 Bool:=fun a0 a1=>(t_impl_MulUp a0 a1).get
def zeZ:I64->I64->Bool:=fun a0 a1=>(t_impl_MulUp a0 a1).opt.isSome
def E_impl_MulUp:Ent Tryz.prog:= .of2 Tb199 B199 zeZ F_impl_MulUp fun a0 a1 h=>(r_impl_MulUp a0 a1).trans (Tr.get_some h)
def Y165:TyE Tryz.prog:=⟨165,2,(.array 2 2 1),[.i64 ⟨0,rfl⟩,.i64 ⟨0,rfl⟩],false,by kernel_rfl,by kernel_rfl,by kernel_rfl,by kernel_rfl,by kernel_rfl,by kernel_rfl⟩
def B197:Bod Tryz.prog:=⟨197,Tryz.f197,Tryz.f197.body.getD .skip,Tryz.func197,by kernel_rfl,by kernel_rfl,zan.no _ _⟩
def B116:Bod Tryz.prog:=⟨116,Tryz.f116,Tryz.f116.body.getD .skip,Tryz.func116,by kernel_rfl,by kernel_rfl,zan.no _ _⟩
def Tb116:Tb Tryz.prog:= {T:= [Y2,Y30,Y165],mix:=mix,Es:= [zbu,zal,zbn,E_impl_MulDown,E_impl_MulUp],Bs:= [B197],d:=8}
def t_impl_MulI (a0:Iv) (a1:Iv):Tr (Iv):=
 .br (!(zaX a0 a1)) (.leaf zF) (.br (zcW a0.lo a1.lo) (let c3:=zdt a0.lo a1.lo;.br (zeZ a0.lo a1.lo) (let c4:=F_impl_MulUp a0.lo a1.lo;.br (!c3.b) (.leaf zF) (.br (!c4.b) (.leaf zF) (.br (zcW a0.lo a1.hi) (let c7:=zdt a0.lo a1.hi;.br (zeZ a0.lo a1.hi) (let c8:=F_impl_MulUp a0.lo a1.hi;.br (!c7.b) (.leaf zF) (.br (!c8.b) (.leaf zF) (.br (zcW a0.hi a1.lo) (let c11:=zdt a0.hi a1.lo;.br (zeZ a0.hi a1.lo) (let c12:=F_impl_MulUp a0.hi a1.lo;.br (!c11.b) (.leaf zF) (.br (!c12.b) (.leaf zF) (.br (zcW a0.hi a1.hi) (let c17:=zdt a0.hi a1.hi;.br (zeZ a0.hi a1.hi) (let c18:=F_impl_MulUp a0.hi a1.hi;.br (!c17.b) (.leaf zF) (.br (!c18.b) (.leaf zF) (.leaf (zaI (mn (mn (mn (mn c3.a c3.a) c7.a) c11.a) c17.a) (mx (mx (mx (mx c4.a c4.a) c8.a) c12.a) c18.a) true)))) (.bad)) (.bad)))) (.bad)) (.bad)))) (.bad)) (.bad)))) (.bad)) (.bad))
theorem r_impl_MulI (a0:Iv) (a1:Iv):Tb116.run B116 [enc a0,enc a1] (Iv)=(t_impl_MulI a0 a1).opt:=by kernel_rfl
def zK:Iv->Iv->Iv:=fun a0 a1=>(t_impl_MulI a0 a1).get
def B92:Bod Tryz.prog:=⟨92,Tryz.f92,Tryz.f92.body.getD .skip,Tryz.func92,by kernel_rfl,by kernel_rfl,zan.no _ _⟩
def Tb92:Tb Tryz.prog:= {T:= [Y2,Y30],mix:=mix,Es:= [zeg],Bs:= [],d:=1}
def zcR (a0:Iv) (a1:I64):Tr (Bool):=
 .leaf (zah a1 a0.lo a0.hi)
theorem r_spec_l04Has (a0:Iv) (a1:I64):Tb92.run B92 [enc a0,enc a1] (Bool)=(zcR a0 a1).opt:=by kernel_rfl
def za7:Iv->I64->Bool:=fun a0 a1=>(zcR a0 a1).get
theorem u_spec_l04Has (a0:Iv) (a1:I64):(zcR a0 a1).opt=some (za7 a0 a1):=Tr.zT (by kernel_rfl)
def E_spec_l04Has:Ent Tryz.prog:= .of2 Tb92 B92 (fun _ _=>true) za7 fun a0 a1 _=>(r_spec_l04Has a0 a1).trans (u_spec_l04Has a0 a1)
def B227:Bod Tryz.prog:=⟨227,Tryz.f227,Tryz.f227.body.getD .skip,Tryz.func227,by kernel_rfl,by kernel_rfl,zan.no _ _⟩
def Tb227:Tb Tryz.prog:= {T:= [],mix:=mix,Es:= [ET_spec_MulDivFloor,E_spec_l03Ok,E_spec_l03End],Bs:= [],d:=1}
def zbj (a0:I64) (a1:I64):Tr (T2 I64 Bool):=
 .br (!(zO a0)) (.leaf ⟨⟨0,rfl⟩,false⟩) (.br (!(zO a1)) (.leaf ⟨⟨0,rfl⟩,false⟩) (.br (a1.val==0) (.leaf ⟨⟨0,rfl⟩,false⟩) (.br (decide (a1.val<0)) (let c5:=zaV (Rng.w .i64 (0-a0.val)) ⟨4294967296,rfl⟩ (Rng.w .i64 (0-a1.val));let c6:=zaA c5.a c5.b;.leaf ⟨c6.a,c6.b⟩) (let c7:=zaV a0 ⟨4294967296,rfl⟩ a1;let c8:=zaA c7.a c7.b;.leaf ⟨c8.a,c8.b⟩))))
theorem r_spec_l03DivDown (a0:I64) (a1:I64):Tb227.run B227 [enc a0,enc a1] (T2 I64 Bool)=(zbj a0 a1).opt:=by kernel_rfl
def zN:I64->I64->T2 I64 Bool:=fun a0 a1=>(zbj a0 a1).get
theorem u_spec_l03DivDown (a0:I64) (a1:I64):(zbj a0 a1).opt=some (zN a0 a1):=Tr.zT (by kernel_rfl)
def E_spec_l03DivDown:Ent Tryz.prog:= .of2 Tb227 B227 (fun _ _=>true) zN fun a0 a1 _=>(r_spec_l03DivDown a0 a1).trans (u_spec_l03DivDown a0 a1)
def B228:Bod Tryz.prog:=⟨228,Tryz.f228,Tryz.f228.body.getD .skip,Tryz.func228,by kernel_rfl,by kernel_rfl,zan.no _ _⟩
def Tb228:Tb Tryz.prog:= {T:= [],mix:=mix,Es:= [E_spec_l03Ok,E_spec_l03DivDown],Bs:= [],d:=1}
def zcr (a0:I64) (a1:I64):Tr (T2 I64 Bool):=
 .br (!(zO a0)) (.leaf ⟨⟨0,rfl⟩,false⟩) (let c3:=zN (Rng.w .i64 (0-a0.val)) a1;.leaf ⟨(Rng.w .i64 (0-c3.a.val)),c3.b⟩)
theorem r_spec_l03DivUp (a0:I64) (a1:I64):Tb228.run B228 [enc a0,enc a1] (T2 I64 Bool)=(zcr a0 a1).opt:=by kernel_rfl
def zZ:I64->I64->T2 I64 Bool:=fun a0 a1=>(zcr a0 a1).get
theorem u_spec_l03DivUp (a0:I64) (a1:I64):(zcr a0 a1).opt=some (zZ a0 a1):=Tr.zT (by kernel_rfl)
def E_spec_l03DivUp:Ent Tryz.prog:= .of2 Tb228 B228 (fun _ _=>true) zZ fun a0 a1 _=>(r_spec_l03DivUp a0 a1).trans (u_spec_l03DivUp a0 a1)
def B142:Bod Tryz.prog:=⟨142,Tryz.f142,Tryz.f142.body.getD .skip,Tryz.func142,by kernel_rfl,by kernel_rfl,zan.no _ _⟩
def Tb142:Tb Tryz.prog:= {T:= [Y2,Y30,Y99],mix:=mix,Es:= [zbM,zdv,zcI,E_spec_l04Has,E_spec_l00Min,E_spec_l00Max,E_spec_l03DivDown,E_spec_l03DivUp],Bs:= [],d:=1}
def zfY (a0:Iv) (a1:Iv):Tr (Iv):=
 .br (!(zf a0)) (.leaf zk) (.br (!(zf a1)) (.leaf zk) (.br (za7 a1 ⟨0,rfl⟩) (.leaf zk) (let c7:=zN a0.lo a1.lo;let c8:=zZ a0.lo a1.lo;.br (!c7.b) (.leaf zk) (.br (!c8.b) (.leaf zk) (let c13:=zN a0.lo a1.hi;let c14:=zZ a0.lo a1.hi;.br (!c13.b) (.leaf zk) (.br (!c14.b) (.leaf zk) (let c19:=zN a0.hi a1.lo;let c20:=zZ a0.hi a1.lo;.br (!c19.b) (.leaf zk) (.br (!c20.b) (.leaf zk) (let c25:=zN a0.hi a1.hi;let c26:=zZ a0.hi a1.hi;.br (!c25.b) (.leaf zk) (.br (!c26.b) (.leaf zk) (.leaf (z8 (zJ (zJ (zJ (zJ ⟨1152921504606846976,rfl⟩ c7.a) c13.a) c19.a) c25.a) (zD (zD (zD (zD ⟨(-1152921504606846976),rfl⟩ c8.a) c14.a) c20.a) c26.a)))))))))))))
theorem r_spec_DivI (a0:Iv) (a1:Iv):Tb142.run B142 [enc a0,enc a1] (Iv)=(zfY a0 a1).opt:=by kernel_rfl
def zw:Iv->Iv->Iv:=fun a0 a1=>(zfY a0 a1).get
theorem u_spec_DivI (a0:Iv) (a1:Iv):(zfY a0 a1).opt=some (zw a0 a1):=Tr.zT (by kernel_rfl)
def E_spec_DivI:Ent Tryz.prog:= .of2 Tb142 B142 (fun _ _=>true) zw fun a0 a1 _=>(r_spec_DivI a0 a1).trans (u_spec_DivI a0 a1)
def B174:Bod Tryz.prog:=⟨174,Tryz.f174,Tryz.f174.body.getD .skip,Tryz.func174,by kernel_rfl,by kernel_rfl,zan.no _ _⟩
def Tb174:Tb Tryz.prog:= {T:= [Y2,Y30],mix:=mix,Es:= [zbb,zbr],Bs:= [],d:=1}
def t_impl_HasI (a0:Iv) (a1:I64):Tr (Bool):=
 .br (zam a0) (.leaf true) (.leaf (zau a1 a0.lo a0.hi))
theorem r_impl_HasI (a0:Iv) (a1:I64):Tb174.run B174 [enc a0,enc a1] (Bool)=(t_impl_HasI a0 a1).opt:=by kernel_rfl
def zeq:Iv->I64->Bool:=fun a0 a1=>(t_impl_HasI a0 a1).get
theorem u_impl_HasI (a0:Iv) (a1:I64):(t_impl_HasI a0 a1).opt=some (zeq a0 a1):=Tr.zT (by kernel_rfl)
def E_impl_HasI:Ent Tryz.prog:= .of2 Tb174 B174 (fun _ _=>true) zeq fun a0 a1 _=>(r_impl_HasI a0 a1).trans (u_impl_HasI a0 a1)
def B224:Bod Tryz.prog:=⟨224,Tryz.f224,Tryz.f224.body.getD .skip,Tryz.func224,by kernel_rfl,by kernel_rfl,zan.no _ _⟩
def Tb224:Tb Tryz.prog:= {T:= [],mix:=mix,Es:= [zc7,E_impl_fixed,ET_impl_MulDivFloor],Bs:= [],d:=1}
def t_impl_DivDown (a0:I64) (a1:I64):Tr (T2 I64 Bool):=
 .br (!(zaR a0)) (.leaf ⟨⟨0,rfl⟩,false⟩) (.br (!(zaR a1)) (.leaf ⟨⟨0,rfl⟩,false⟩) (.br (decide (a1.val<0)) (let c5:=zbl (Rng.w .i64 (0-a0.val)) ⟨4294967296,rfl⟩ (Rng.w .i64 (0-a1.val));let c6:=zci c5.a c5.b;.leaf ⟨c6.a,c6.b⟩) (let c7:=zbl a0 ⟨4294967296,rfl⟩ a1;let c8:=zci c7.a c7.b;.leaf ⟨c8.a,c8.b⟩)))
theorem r_impl_DivDown (a0:I64) (a1:I64):Tb224.run B224 [enc a0,enc a1] (T2 I64 Bool)=(t_impl_DivDown a0 a1).opt:=by kernel_rfl
def zcY:I64->I64->T2 I64 Bool:=fun a0 a1=>(t_impl_DivDown a0 a1).get
theorem u_impl_DivDown (a0:I64) (a1:I64):(t_impl_DivDown a0 a1).opt=some (zcY a0 a1):=Tr.zT (by kernel_rfl)
def E_impl_DivDown:Ent Tryz.prog:= .of2 Tb224 B224 (fun _ _=>true) zcY fun a0 a1 _=>(r_impl_DivDown a0 a1).trans (u_impl_DivDown a0 a1)
def B225:Bod Tryz.prog:=⟨225,Tryz.f225,Tryz.f225.body.getD .skip,Tryz.func225,by kernel_rfl,by kernel_rfl,zan.no _ _⟩
def Tb225:Tb Tryz.prog:= {T:= [],mix:=mix,Es:= [E_impl_DivDown,zc7],Bs:= [],d:=1}
def t_impl_DivUp (a0:I64) (a1:I64):Tr (T2 I64 Bool):=
 .br (!(zaR a0)) (.leaf ⟨⟨0,rfl⟩,false⟩) (.br (!(zaR a1)) (.leaf ⟨⟨0,rfl⟩,false⟩) (let c4:=zcY (Rng.w .i64 (0-a0.val)) a1;.leaf ⟨(Rng.w .i64 (0-c4.a.val)),c4.b⟩))
theorem r_impl_DivUp (a0:I64) (a1:I64):Tb225.run B225 [enc a0,enc a1] (T2 I64 Bool)=(t_impl_DivUp a0 a1).opt:=by kernel_rfl
def ze4:I64->I64->T2 I64 Bool:=fun a0 a1=>(t_impl_DivUp a0 a1).get
theorem u_impl_DivUp (a0:I64) (a1:I64):(t_impl_DivUp a0 a1).opt=some (ze4 a0 a1):=Tr.zT (by kernel_rfl)
def E_impl_DivUp:Ent Tryz.prog:= .of2 Tb225 B225 (fun _ _=>true) ze4 fun a0 a1 _=>(r_impl_DivUp a0 a1).trans (u_impl_DivUp a0 a1)
def B139:Bod Tryz.prog:=⟨139,Tryz.f139,Tryz.f139.body.getD .skip,Tryz.func139,by kernel_rfl,by kernel_rfl,zan.no _ _⟩
def Tb139:Tb Tryz.prog:= {T:= [Y2,Y30,Y165],mix:=mix,Es:= [zbu,zal,zbn,E_impl_HasI,E_impl_DivDown,E_impl_DivUp],Bs:= [B197],d:=8}
def t_impl_DivI (a0:Iv) (a1:Iv):Tr (Iv):=
 .br (!(zaX a0 a1)) (.leaf zF) (.br (zeq a1 ⟨0,rfl⟩) (.leaf zF) (let c5:=zcY a0.lo a1.lo;let c6:=ze4 a0.lo a1.lo;.br (!c5.b) (.leaf zF) (.br (!c6.b) (.leaf zF) (let c9:=zcY a0.lo a1.hi;let c10:=ze4 a0.lo a1.hi;.br (!c9.b) (.leaf zF) (.br (!c10.b) (.leaf zF) (let c14:=zcY a0.hi a1.lo;let c15:=ze4 a0.hi a1.lo;.br (!c14.b) (.leaf zF) (.br (!c15.b) (.leaf zF) (let c19:=zcY a0.hi a1.hi;let c20:=ze4 a0.hi a1.hi;.br (!c19.b) (.leaf zF) (.br (!c20.b) (.leaf zF) (.leaf (zaI (mn (mn (mn (mn c5.a c5.a) c9.a) c14.a) c19.a) (mx (mx (mx (mx c6.a c6.a) c10.a) c15.a) c20.a) true)))))))))))
theorem r_impl_DivI (a0:Iv) (a1:Iv):Tb139.run B139 [enc a0,enc a1] (Iv)=(t_impl_DivI a0 a1).opt:=by kernel_rfl
def zae:Iv->Iv->Iv:=fun a0 a1=>(t_impl_DivI a0 a1).get
theorem u_impl_DivI (a0:Iv) (a1:Iv):(t_impl_DivI a0 a1).opt=some (zae a0 a1):=Tr.zT (by kernel_rfl)
def zcA:Ent Tryz.prog:= .of2 Tb139 B139 (fun _ _=>true) zae fun a0 a1 _=>(r_impl_DivI a0 a1).trans (u_impl_DivI a0 a1)
def B155:Bod Tryz.prog:=⟨155,Tryz.f155,Tryz.f155.body.getD .skip,Tryz.func155,by kernel_rfl,by kernel_rfl,zan.no _ _⟩
def Tb155:Tb Tryz.prog:= {T:= [Y2,Y30],mix:=mix,Es:= [E_spec_l04Has,E_spec_l00Min,E_spec_l00Max],Bs:= [],d:=1}
def zft (a0:Iv):Tr (T2 I64 I64):=
 let c2:=zD a0.lo (Rng.w .i64 (0-a0.lo.val));let c4:=zD a0.hi (Rng.w .i64 (0-a0.hi.val));.br (za7 a0 ⟨0,rfl⟩) (.leaf ⟨⟨0,rfl⟩,(zD c2 c4)⟩) (.leaf ⟨(zJ c2 c4),(zD c2 c4)⟩)
theorem r_spec_l04Ends (a0:Iv):Tb155.run B155 [enc a0] (T2 I64 I64)=(zft a0).opt:=by kernel_rfl
def zaf:Iv->T2 I64 I64:=fun a0=>(zft a0).get
theorem u_spec_l04Ends (a0:Iv):(zft a0).opt=some (zaf a0):=Tr.zT (by kernel_rfl)
def E_spec_l04Ends:Ent Tryz.prog:= .of1 Tb155 B155 (fun _=>true) zaf fun a0 _=>(r_spec_l04Ends a0).trans (u_spec_l04Ends a0)
def B128:Bod Tryz.prog:=⟨128,Tryz.f128,Tryz.f128.body.getD .skip,Tryz.func128,by kernel_rfl,by kernel_rfl,zan.no _ _⟩
def Tb128:Tb Tryz.prog:= {T:= [Y2,Y30],mix:=mix,Es:= [zbM,zdv,zcI,E_spec_l03MulDown,E_spec_l03MulUp,E_spec_l04Ends],Bs:= [],d:=1}
def t_spec_SqrI (a0:Iv):Tr (Iv):=
 .br (!(zf a0)) (.leaf zk) (let c3:=zaf a0;let c4:=zV c3.a c3.a;let c5:=zaj c3.b c3.b;.br (!c4.b) (.leaf zk) (.br (!c5.b) (.leaf zk) (.leaf (z8 c4.a c5.a))))
theorem r_spec_SqrI (a0:Iv):Tb128.run B128 [enc a0] (Iv)=(t_spec_SqrI a0).opt:=by kernel_rfl
def zaW:Iv->Iv:=fun a0=>(t_spec_SqrI a0).get
theorem u_spec_SqrI (a0:Iv):(t_spec_SqrI a0).opt=some (zaW a0):=Tr.zT (by kernel_rfl)
def E_spec_SqrI:Ent Tryz.prog:= .of1 Tb128 B128 (fun _=>true) zaW fun a0 _=>(r_spec_SqrI a0).trans (u_spec_SqrI a0)
def B137:Bod Tryz.prog:=⟨137,Tryz.f137,Tryz.f137.body.getD .skip,Tryz.func137,by kernel_rfl,by kernel_rfl,zan.no _ _⟩
def Tb137:Tb Tryz.prog:= {T:= [Y2,Y30],mix:=mix,Es:= [zbb,zal,E_impl_HasI,E_impl_abs],Bs:= [],d:=1}
def t_impl_AbsI (a0:Iv):Tr (Iv):=
 .br (zam a0) (.leaf zF) (let c5:=zcj a0.lo;let c6:=zcj a0.hi;.br (zeq a0 ⟨0,rfl⟩) (.leaf ⟨⟨0,rfl⟩,(mx c5 c6)⟩) (.leaf ⟨(mn (zcj a0.lo) (zcj a0.hi)),(mx c5 c6)⟩))
theorem r_impl_AbsI (a0:Iv):Tb137.run B137 [enc a0] (Iv)=(t_impl_AbsI a0).opt:=by kernel_rfl
def F_impl_AbsI:Iv->Iv:=fun a0=>(t_impl_AbsI a0).get
theorem u_impl_AbsI (a0:Iv):(t_impl_AbsI a0).opt=some (F_impl_AbsI a0):=Tr.zT (by kernel_rfl)
def E_impl_AbsI:Ent Tryz.prog:= .of1 Tb137 B137 (fun _=>true) F_impl_AbsI fun a0 _=>(r_impl_AbsI a0).trans (u_impl_AbsI a0)
def B206:Bod Tryz.prog:=⟨206,Tryz.f206,Tryz.f206.body.getD .skip,Tryz.func206,by kernel_rfl,by kernel_rfl,zan.no _ _⟩
def Tb206:Tb Tryz.prog:= {T:= [Y2,Y30],mix:=mix,Es:= [zbb,E_impl_AbsI,zal,zbn,E_impl_MulDown,E_impl_MulUp],Bs:= [],d:=1}
def t_impl_SqrI (a0:Iv):Tr (Iv):=
 .br (zam a0) (.leaf zF) (let c3:=F_impl_AbsI a0;.br (zcW c3.lo c3.lo) (let c4:=zdt c3.lo c3.lo;.br (zeZ c3.hi c3.hi) (let c5:=F_impl_MulUp c3.hi c3.hi;.br c4.b (.leaf (zaI c4.a c5.a c5.b)) (.leaf (zaI c4.a c5.a false))) (.bad)) (.bad))
theorem r_impl_SqrI (a0:Iv):Tb206.run B206 [enc a0] (Iv)=(t_impl_SqrI a0).opt:=by kernel_rfl
def zde:Iv->Iv:=fun a0=>(t_impl_SqrI a0).get
structure zdb where
 x0:U64
 x1:I64
 x2:I64
 x3:U64
instance:Inhabited zdb:=⟨⟨default,default,default,default⟩⟩
def rd_spec_l02Root_3:St->Option zdb:=fun s=>match s with
 | ⟨[(1,.ptr 0 0),(3,.u64 x0),(4,.i64 x1)],43,⟨[(0,[.i64 x2,.u64 x3])],1,0⟩⟩=>some ⟨x0,x1,x2,x3⟩
 | _=>none
def zb6 (x:zdb):Tr (Lp zdb):=
 .br (decide (x.x1.val>=0)) (let c2:=(Rng.w .u64 (zbv .or .u64 x.x0.val (Rng.w .u64 (1*(2^min ((Rng.w .u64 (x.x1.val)).val).toNat 64))).val));let c3:=zeL c2 c2;.br (decide (c3.a.val<(Rng.w .u64 (x.x2.val)).val)) (.leaf (.again ⟨c2,(Rng.w .i64 (x.x1.val-1)),x.x2,x.x3⟩)) (.br (c3.a.val==(Rng.w .u64 (x.x2.val)).val) (.br (decide (c3.b.val<=x.x3.val)) (.leaf (.again ⟨c2,(Rng.w .i64 (x.x1.val-1)),x.x2,x.x3⟩)) (.leaf (.again ⟨x.x0,(Rng.w .i64 (x.x1.val-1)),x.x2,x.x3⟩))) (.leaf (.again ⟨x.x0,(Rng.w .i64 (x.x1.val-1)),x.x2,x.x3⟩)))) (.leaf (.out ⟨x.x0,x.x1,x.x2,x.x3⟩))
def zfl (x:zdb):Bool:=(Lf zb6 66 x).opt.isSome
def L_spec_l02Root_3 (x:zdb):zdb:=(Lf zb6 66 x).get
def zej (a0:Wide):Tr (U64):=
 .br (zfl ⟨⟨0,rfl⟩,⟨63,rfl⟩,a0.hi,a0.lo⟩) (.leaf (L_spec_l02Root_3 ⟨⟨0,rfl⟩,⟨63,rfl⟩,a0.hi,a0.lo⟩).x0) (.bad)
def zbm:Wide->U64:=fun a0=>(zej a0).get
def G_spec_l02Root:Wide->Bool:=fun a0=>(zej a0).opt.isSome
def zfg (a0:I64) (a1:I64):Tr (T2 I64 Bool):=
 .br (decide (a0.val<0)) (.leaf ⟨⟨0,rfl⟩,false⟩) (.br (decide (a1.val<0)) (.leaf ⟨⟨0,rfl⟩,false⟩) (let c1:=zec a0 a1;.br (G_spec_l02Root c1) (.leaf ⟨(Rng.w .i64 ((zbm c1).val)),true⟩) (.bad)))
def zfn:I64->I64->T2 I64 Bool:=fun a0 a1=>(zfg a0 a1).get
def G_spec_SqrtFloor:I64->I64->Bool:=fun a0 a1=>(zfg a0 a1).opt.isSome
def zd1 (a0:I64):Tr (T2 I64 Bool):=
 .br (!(zah a0 ⟨0,rfl⟩ ⟨1152921504606846976,rfl⟩)) (.leaf ⟨⟨0,rfl⟩,false⟩) (.br (G_spec_SqrtFloor a0 ⟨4294967296,rfl⟩) (let c2:=zfn a0 ⟨4294967296,rfl⟩;.leaf ⟨c2.a,c2.b⟩) (.bad))
def zcx:I64->T2 I64 Bool:=fun a0=>(zd1 a0).get
def zfO:I64->Bool:=fun a0=>(zd1 a0).opt.isSome
def zcE (a0:I64):Tr (T2 I64 Bool):=
 .br (zfO a0) (let c1:=zcx a0;.br (!c1.b) (.leaf ⟨⟨0,rfl⟩,false⟩) (.br ((zaw c1.a c1.a ⟨32,rfl⟩).a.val != a0.val) (.leaf ⟨(Rng.w .i64 (c1.a.val+1)),true⟩) (.br ((Rng.w .i64 (zbv .and .i64 (Rng.w .i64 (c1.a.val*c1.a.val)).val 4294967295)).val != 0) (.leaf ⟨(Rng.w .i64 (c1.a.val+1)),true⟩) (.leaf ⟨c1.a,true⟩)))) (.bad)
def zb7:I64->T2 I64 Bool:=fun a0=>(zcE a0).get
def G_spec_l03SqrtUp:I64->Bool:=fun a0=>(zcE a0).opt.isSome
def t_spec_SqrtI (a0:Iv):Tr (Iv):=
 .br (!(zf a0)) (.leaf zk) (.br (decide (a0.lo.val<0)) (.leaf zk) (.br (zfO a0.lo) (.br (G_spec_l03SqrtUp a0.hi) (.leaf (z8 (zcx a0.lo).a (zb7 a0.hi).a)) (.bad)) (.bad)))
def zbK:Iv->Iv:=fun a0=>(t_spec_SqrtI a0).get
structure zcg where
 x0:U64
 x1:I64
 x2:I64
 x3:U64
instance:Inhabited zcg:=⟨⟨default,default,default,default⟩⟩
def st_impl_WideSqrt_5 (x:zcg):St:=⟨[(1,.ptr 0 0),(4,.u64 x.x0),(5,.i64 x.x1)],46,⟨[(0,[.i64 x.x2,.u64 x.x3])],1,0⟩⟩
def rd_impl_WideSqrt_5:St->Option zcg:=fun s=>match s with
 | ⟨[(1,.ptr 0 0),(4,.u64 x0),(5,.i64 x1)],46,⟨[(0,[.i64 x2,.u64 x3])],1,0⟩⟩=>some ⟨x0,x1,x2,x3⟩
 | _=>none
def zdx (x:zcg):Tr (Lp zcg):=
 .br (decide (x.x1.val>=0)) (.br (decide (x.x1.val<0)) (.bad) (let c2:=(Rng.w .u64 (zbv .or .u64 x.x0.val (Rng.w .u64 (1*(2^min (x.x1.val).toNat 64))).val));let c3:=zdz c2 c2;.br (decide (c3.a.val<(Rng.w .u64 (x.x2.val)).val)) (.leaf (.again ⟨c2,(Rng.w .i64 (x.x1.val-1)),x.x2,x.x3⟩)) (.br (c3.a.val==(Rng.w .u64 (x.x2.val)).val) (.br (decide (c3.b.val<=x.x3.val)) (.leaf (.again ⟨c2,(Rng.w .i64 (x.x1.val-1)),x.x2,x.x3⟩)) (.leaf (.again ⟨x.x0,(Rng.w .i64 (x.x1.val-1)),x.x2,x.x3⟩))) (.leaf (.again ⟨x.x0,(Rng.w .i64 (x.x1.val-1)),x.x2,x.x3⟩))))) (.leaf (.out ⟨x.x0,x.x1,x.x2,x.x3⟩))
def G_impl_WideSqrt_5 (x:zcg):Bool:=(Lf zdx 66 x).opt.isSome
def L_impl_WideSqrt_5 (x:zcg):zcg:=(Lf zdx 66 x).get
def TbL_impl_WideSqrt_5:Tb Tryz.prog:= {T:= [Y2,Y132,Y148],mix:=mix,Es:= [E_math_bits_Mul64],Bs:= [],d:=1}
def P_impl_WideSqrt_5:LpF:=loopF [1,4,5] [0] 1 rd_impl_WideSqrt_5 st_impl_WideSqrt_5 (.exit 0) G_impl_WideSqrt_5 L_impl_WideSqrt_5
theorem lok_impl_WideSqrt_5:LoopOk Tryz.prog (loopAt (Tryz.f258.body.getD .skip) 0) P_impl_WideSqrt_5:=loopF_ok (t:=TbL_impl_WideSqrt_5) (lt:=fun _=>none) (body:=zdx) (n:=66) (by intro h;cases h) (fun _ _ _ h=>by cases h)
 (by intro s x h;unfold rd_impl_WideSqrt_5 at h;split at h<;>cases h;rfl) (fun x b cs h=>lk_lt (l:=(st_impl_WideSqrt_5 x).mm.blks) (by kernel_rfl) h) (by intro x;kernel_rfl) (fun x h=>Tr.get_some h)
def B258:Bod Tryz.prog:=⟨258,Tryz.f258,Tryz.f258.body.getD .skip,Tryz.func258,by kernel_rfl,by kernel_rfl,⟨ltOf [(5,P_impl_WideSqrt_5)],zan.of (ks:= [5]) (by kernel_rfl) (by
 intro i k h f hf
 match i,h with
 | 0,h=>cases h;obtain rfl:P_impl_WideSqrt_5=f:=Option.some.inj hf;exact lok_impl_WideSqrt_5
 | n+1,h=>simp at h)⟩⟩
def Tb258:Tb Tryz.prog:= {T:= [Y2,Y132,Y148],mix:=mix,Es:= [],Bs:= [],d:=1}
def zf0 (a0:Wide):Tr (T2 U64 Bool):=
 .br (decide (a0.hi.val<0)) (.leaf ⟨⟨0,rfl⟩,false⟩) (.br (G_impl_WideSqrt_5 ⟨⟨0,rfl⟩,⟨63,rfl⟩,a0.hi,a0.lo⟩) (.leaf ⟨(L_impl_WideSqrt_5 ⟨⟨0,rfl⟩,⟨63,rfl⟩,a0.hi,a0.lo⟩).x0,true⟩) (.bad))
theorem r_impl_WideSqrt (a0:Wide):Tb258.run B258 [enc a0] (T2 U64 Bool)=(zf0 a0).opt:=by kernel_rfl
def F_impl_WideSqrt:Wide->T2 U64 Bool:=fun a0=>(zf0 a0).get
def G_impl_WideSqrt:Wide->Bool:=fun a0=>(zf0 a0).opt.isSome
def E_impl_WideSqrt:Ent Tryz.prog:= .of1 Tb258 B258 G_impl_WideSqrt F_impl_WideSqrt fun a0 h=>(r_impl_WideSqrt a0).trans (Tr.get_some h)
def B278:Bod Tryz.prog:=⟨278,Tryz.f278,Tryz.f278.body.getD .skip,Tryz.func278,by kernel_rfl,by kernel_rfl,zan.no _ _⟩
def Tb278:Tb Tryz.prog:= {T:= [Y2,Y132],mix:=mix,Es:= [zfF,E_impl_WideSqrt],Bs:= [],d:=1}
def zdS (a0:I64) (a1:I64):Tr (T2 I64 Bool):=
 .br (decide (a0.val<0)) (.leaf ⟨⟨0,rfl⟩,false⟩) (.br (decide (a1.val<0)) (.leaf ⟨⟨0,rfl⟩,false⟩) (let c1:=zbR a0 a1;.br (G_impl_WideSqrt c1) (let c2:=F_impl_WideSqrt c1;.leaf ⟨(Rng.w .i64 (c2.a.val)),c2.b⟩) (.bad)))
theorem r_impl_SqrtFloor (a0:I64) (a1:I64):Tb278.run B278 [enc a0,enc a1] (T2 I64 Bool)=(zdS a0 a1).opt:=by kernel_rfl
def zdd:I64->I64->T2 I64 Bool:=fun a0 a1=>(zdS a0 a1).get
def G_impl_SqrtFloor:I64->I64->Bool:=fun a0 a1=>(zdS a0 a1).opt.isSome
def E_impl_SqrtFloor:Ent Tryz.prog:= .of2 Tb278 B278 G_impl_SqrtFloor zdd fun a0 a1 h=>(r_impl_SqrtFloor a0 a1).trans (Tr.get_some h)
def B204:Bod Tryz.prog:=⟨204,Tryz.f204,Tryz.f204.body.getD .skip,Tryz.func204,by kernel_rfl,by kernel_rfl,zan.no _ _⟩
def Tb204:Tb Tryz.prog:= {T:= [],mix:=mix,Es:= [zc7,E_impl_fixed,E_impl_SqrtFloor],Bs:= [],d:=1}
def zeD (a0:I64):Tr (T2 I64 Bool):=
 .br (!(zaR a0)) (.leaf ⟨⟨0,rfl⟩,false⟩) (.br (G_impl_SqrtFloor a0 ⟨4294967296,rfl⟩) (let c2:=zdd a0 ⟨4294967296,rfl⟩;let c3:=zci c2.a c2.b;.leaf ⟨c3.a,c3.b⟩) (.bad))
theorem r_impl_SqrtDown (a0:I64):Tb204.run B204 [enc a0] (T2 I64 Bool)=(zeD a0).opt:=by kernel_rfl
def zeP:I64->T2 I64 Bool:=fun a0=>(zeD a0).get
def G_impl_SqrtDown:I64->Bool:=fun a0=>(zeD a0).opt.isSome
def E_impl_SqrtDown:Ent Tryz.prog:= .of1 Tb204 B204 G_impl_SqrtDown zeP fun a0 h=>(r_impl_SqrtDown a0).trans (Tr.get_some h)
def B205:Bod Tryz.prog:=⟨205,Tryz.f205,Tryz.f205.body.getD .skip,Tryz.func205,by kernel_rfl,by kernel_rfl,zan.no _ _⟩
def Tb205:Tb Tryz.prog:= {T:= [Y2,Y132,Y148],mix:=mix,Es:= [E_impl_SqrtDown,zfF,E_impl_fixed],Bs:= [],d:=1}
def ze7 (a0:I64):Tr (T2 I64 Bool):=
 .br (G_impl_SqrtDown a0) (let c1:=zeP a0;.br c1.b (let c2:=zbR c1.a c1.a;let c3:=zbR a0 ⟨4294967296,rfl⟩;.br (!((c2.hi.val==c3.hi.val)&&((c2.lo.val==c3.lo.val)&&true))) (let c6:=zci (Rng.w .i64 (c1.a.val+1)) c1.b;.leaf ⟨c6.a,c6.b⟩) (let c7:=zci c1.a c1.b;.leaf ⟨c7.a,c7.b⟩)) (let c8:=zci c1.a c1.b;.leaf ⟨c8.a,c8.b⟩)) (.bad)
theorem r_impl_SqrtUp (a0:I64):Tb205.run B205 [enc a0] (T2 I64 Bool)=(ze7 a0).opt:=by kernel_rfl
def F_impl_SqrtUp:I64->T2 I64 Bool:=fun a0=>(ze7 a0).get
def G_impl_SqrtUp:I64->Bool:=fun a0=>(ze7 a0).opt.isSome
def E_impl_SqrtUp:Ent Tryz.prog:= .of1 Tb205 B205 G_impl_SqrtUp F_impl_SqrtUp fun a0 h=>(r_impl_SqrtUp a0).trans (Tr.get_some h)
def B121:Bod Tryz.prog:=⟨121,Tryz.f121,Tryz.f121.body.getD .skip,Tryz.func121,by kernel_rfl,by kernel_rfl,zan.no _ _⟩
def Tb121:Tb Tryz.prog:= {T:= [Y2,Y30],mix:=mix,Es:= [zbb,zal,zbn,E_impl_SqrtDown,E_impl_SqrtUp],Bs:= [],d:=1}
def t_impl_SqrtI (a0:Iv):Tr (Iv):=
 .br (zam a0) (.leaf zF) (.br (decide (a0.lo.val<0)) (.leaf zF) (.br (G_impl_SqrtDown a0.lo) (let c4:=zeP a0.lo;.br (G_impl_SqrtUp a0.hi) (let c5:=F_impl_SqrtUp a0.hi;.br c4.b (.leaf (zaI c4.a c5.a c5.b)) (.leaf (zaI c4.a c5.a false))) (.bad)) (.bad)))
theorem r_impl_SqrtI (a0:Iv):Tb121.run B121 [enc a0] (Iv)=(t_impl_SqrtI a0).opt:=by kernel_rfl
def ze1:Iv->Iv:=fun a0=>(t_impl_SqrtI a0).get
end
end Go.Proofs.YtfcjhkkpbnobhaaGreat.Ev
namespace Go.Proofs.YtfcjhkkpbnobhaaGreat.Ev
open Go
theorem or_zero (x:U64):(Rng.w .u64 (zbv .or .u64 x.val 0)).val=x.val:=by
 have b:=x.ubd
 rw [or_add 0 x.val.toNat (by simp;omega) (by omega) (by decide) (by omega)]
 rw [wu (by omega) (by omega)];omega
theorem shift_ok (w:Wide) (n:I64) (h:0<=n.val/\n.val<=127):(zfh w n).opt=some (zc4 w n):=by
 have hw:zau n ⟨0,rfl⟩ ⟨127,rfl⟩=true:=by rw [zbX];simpa using h
 have en:(Rng.w .u64 n.val).val=n.val:=wu (by omega) (by omega)
 simp only [zfh,Tr.opt,hw,Bool.not_true,cond_false,zc4,zfV,Tr.get,en]
 by_cases h64:n.val>=64
 ·have e0:(n.val==0)=false:=by simp;omega
  have e1:decide (n.val<64)=false:=by simp;omega
  have e2:(Rng.w .i64 (n.val-64)).val=n.val-64:=wi (by omega) (by omega)
  have e3:decide ((Rng.w .i64 (n.val-64)).val<0)=false:=by rw [e2];simp;omega
  have e4:(Rng.w .u64 (Rng.w .i64 (n.val-64)).val).val=(Rng.w .i64 (n.val-64)).val:=by rw [e2];exact wu (by omega) (by omega)
  simp only [h64,decide_true,cond_true,e0,e1,e3,cond_false,e4]
 ·have e1:decide (n.val<64)=true:=by simp;omega
  have e2:decide (n.val<0)=false:=by simp;omega
  have e3:(Rng.w .i64 (64-n.val)).val=64-n.val:=wi (by omega) (by omega)
  have e4:decide ((Rng.w .i64 (64-n.val)).val<0)=false:=by rw [e3];simp;omega
  have e5:(Rng.w .u64 (Rng.w .i64 (64-n.val)).val).val=(Rng.w .i64 (64-n.val)).val:=by rw [e3];exact wu (by omega) (by omega)
  simp only [h64,decide_false,cond_false,e1,e2,e4,e5,cond_true]
  by_cases h0:n.val=0
  ·have e0:(n.val==0)=true:=by simp [h0]
   simp only [e0,cond_true]
   rw [h0]
   congr 1
   apply wide_ext
   have bl:=w.lo.ubd
   have k1:min (Int.toNat 0) 64=0:=by rfl
   have k2:min (Rng.w .i64 (64-0)).val.toNat 64=64:=by rfl
   have k3:(2:Int)^64=18446744073709551616:=by decide
   have k4:(Rng.w .u64 (w.lo.val.fdiv (2^0)))=w.lo:=by rw [show (2:Int)^0=1 by rfl,Int.fdiv_one];exact Rng.w_val _
   have k5:(Rng.w .u64 ((Rng.w .u64 w.hi.val).val*18446744073709551616)).val=0:=by rw [zbh];omega
   have k6:Rng.w .i64 (w.hi.val.fdiv (2^0))=w.hi:=by rw [show (2:Int)^0=1 by rfl,Int.fdiv_one];exact Rng.w_val _
   simp only [k1,k2,k3,k4,k5,k6,wv,or_zero]
  ·have e0:(n.val==0)=false:=by simp [h0]
   simp only [e0,cond_false]
theorem shift_F (w:Wide) (n:I64) (h:0<=n.val/\n.val<=127):F_impl_WideShift w n=zc4 w n:=Tr.zar (shift_ok w n h)
theorem shift_G (w:Wide) (n:I64) (h:0<=n.val/\n.val<=127):G_impl_WideShift w n=true:=by unfold G_impl_WideShift;rw [shift_ok w n h];rfl
theorem mulfloor_ok (a b n:I64):(zeE a b n).opt=some (zaw a b n):=by
 simp only [zeE,Tr.opt,zaw,zfX,Tr.get,zbX,zdg,mul_impl,mul_spec,int_impl,int_spec]
 by_cases h:0<=n.val/\n.val<=126
 ·have h':0<=n.val/\n.val<=127:=by omega
  simp only [h,and_self,decide_true,Bool.not_true,cond_false,shift_F _ _ h',shift_G _ _ h',cond_true]
 ·simp only [h,decide_false,Bool.not_false,cond_true]
theorem mulfloor_F (a b n:I64):zbL a b n=zaw a b n:=Tr.zar (mulfloor_ok a b n)
theorem mulfloor_G (a b n:I64):G_impl_MulFloor a b n=true:=by unfold G_impl_MulFloor;rw [mulfloor_ok];rfl
theorem okfix_eq (a:I64):zaR a=zO a:=by
 simp only [zaR,zf1,zO,zd2,Tr.get,zbX,zdg]
theorem muldown_ok (a b:I64):(t_impl_MulDown a b).opt=some (zV a b):=by
 simp only [t_impl_MulDown,Tr.opt,zV,zcd,Tr.get,okfix_eq,mulfloor_F,mulfloor_G,end_eq,cond_true]
 cases zO a<;>cases zO b<;>rfl
theorem muldown_F (a b:I64):zdt a b=zV a b:=Tr.zar (muldown_ok a b)
theorem muldown_G (a b:I64):zcW a b=true:=by unfold zcW;rw [muldown_ok];rfl
theorem end_cases (a:I64) (b:Bool):zaA a b=⟨⟨0,rfl⟩,false⟩\/(zaA a b=⟨a,true⟩/\zO a=true):=by
 simp only [zaA,zcq,Tr.get]
 cases b
 ·left;rfl
 ·cases h:zO a
  ·left;rfl
  ·right;exact ⟨rfl,rfl⟩
theorem ze8 (a b:I64):zV a b=⟨⟨0,rfl⟩,false⟩\/∃c,zV a b=⟨c,true⟩/\zO c=true:=by
 simp only [zV,zcd,Tr.get]
 cases zO a
 ·left;rfl
 ·cases zO b
  ·left;rfl
  ·simp only [Bool.not_true,cond_false]
   rcases end_cases (zaw a b ⟨32,rfl⟩).a (zaw a b ⟨32,rfl⟩).b with h|⟨h,k⟩
   ·left;rw [h]
   ·right;exact ⟨_,h,k⟩
theorem muldown_bad (a b:I64) (h:zO b=false):zV a b=⟨⟨0,rfl⟩,false⟩:=by
 simp only [zV,zcd,Tr.get,h]
 cases zO a<;>rfl
theorem mulup_ok (a b:I64):(t_impl_MulUp a b).opt=some (zaj a b):=by
 simp only [t_impl_MulUp,Tr.opt,zaj,zdD,Tr.get,okfix_eq,muldown_F,muldown_G,cond_true]
 cases zO a
 ·rfl
 ·simp only [Bool.not_true,cond_false]
  cases hb:zO b
  ·rw [muldown_bad _ _ hb];rfl
  ·simp only [Bool.not_true,cond_false]
   rcases ze8 (.w .i64 (0-a.val)) b with h|⟨c,h,_⟩<;>rw [h]<;>rfl
theorem mulup_F (a b:I64):F_impl_MulUp a b=zaj a b:=Tr.zar (mulup_ok a b)
theorem mulup_G (a b:I64):zeZ a b=true:=by unfold zeZ;rw [mulup_ok];rfl
theorem divdown_F (a b:I64):zcY a b=zN a b:=by
 simp only [zcY,t_impl_DivDown,zN,zbj,Tr.get,okfix_eq,md_F_impl,zd9,end_eq]
 cases zO a
 ·rfl
 ·cases zO b
  ·rfl
  ·simp only [Bool.not_true,cond_false]
   by_cases h0:b.val=0
   ·have e0:(b.val==0)=true:=by simp [h0]
    have e1:decide (b.val<0)=false:=by simp [h0]
    simp only [e0,e1,cond_true,cond_false,MD]
    rw [if_neg (by omega)]
    simp only [end_no]
   ·have e0:(b.val==0)=false:=by simp [h0]
    simp only [e0,cond_false]
theorem ze9 (a b:I64):zN a b=⟨⟨0,rfl⟩,false⟩\/∃c,zN a b=⟨c,true⟩/\zO c=true:=by
 simp only [zN,zbj,Tr.get,zd9]
 cases zO a
 ·left;rfl
 ·cases zO b
  ·left;rfl
  ·simp only [Bool.not_true,cond_false]
   cases (b.val==0)
   ·simp only [cond_false]
    cases decide (b.val<0)
    ·simp only [cond_false]
     rcases end_cases (MD a ⟨4294967296,rfl⟩ b).a (MD a ⟨4294967296,rfl⟩ b).b with h|⟨h,k⟩
     ·left;rw [h]
     ·right;exact ⟨_,h,k⟩
    ·simp only [cond_true]
     rcases end_cases (MD (.w .i64 (0-a.val)) ⟨4294967296,rfl⟩ (.w .i64 (0-b.val))).a (MD (.w .i64 (0-a.val)) ⟨4294967296,rfl⟩ (.w .i64 (0-b.val))).b with h|⟨h,k⟩
     ·left;rw [h]
     ·right;exact ⟨_,h,k⟩
   ·left;rfl
theorem divdown_bad (a b:I64) (h:zO b=false):zN a b=⟨⟨0,rfl⟩,false⟩:=by
 simp only [zN,zbj,Tr.get,h]
 cases zO a<;>rfl
theorem divup_F (a b:I64):ze4 a b=zZ a b:=by
 simp only [ze4,t_impl_DivUp,zZ,zcr,Tr.get,okfix_eq,divdown_F]
 cases zO a
 ·rfl
 ·simp only [Bool.not_true,cond_false]
  cases hb:zO b
  ·rw [divdown_bad _ _ hb];rfl
  ·rfl
theorem min_eq (a b:I64):mn a b=zJ a b:=by
 simp only [mn,zJ,t_spec_l00Min,Tr.get]
 by_cases h:b.val<a.val
 ·have:decide (a.val<b.val)=false:=by simp;omega
  simp only [h,decide_true,cond_true,this,cond_false]
 ·by_cases h':a.val<b.val
  ·simp only [h,h',decide_true,decide_false,cond_true,cond_false]
  ·simp only [h,h',decide_false,cond_false];exact rext (by omega)
theorem max_eq (a b:I64):mx a b=zD a b:=by
 simp only [mx,zD,t_spec_l00Max,Tr.get]
 by_cases h:b.val>a.val
 ·have:decide (a.val>b.val)=false:=by simp;omega
  simp only [h,decide_true,cond_true,this,cond_false]
 ·by_cases h':a.val>b.val
  ·simp only [h,h',decide_true,decide_false,cond_true,cond_false]
  ·simp only [h,h',decide_false,cond_false];exact rext (by omega)
theorem ok_bd {a:I64} (h:zO a=true): -1152921504606846976<=a.val/\a.val<=1152921504606846976:=by
 simpa [zO,zd2,Tr.get,zdg] using h
theorem min_top {a:I64} (h:zO a=true):zJ ⟨1152921504606846976,rfl⟩ a=a:=by
 have:=ok_bd h
 simp only [zJ,t_spec_l00Min,Tr.get]
 by_cases h:(1152921504606846976:Int)<a.val
 ·omega
 ·simp only [h,decide_false,cond_false]
theorem max_top {a:I64} (h:zO a=true):zD ⟨-1152921504606846976,rfl⟩ a=a:=by
 have:=ok_bd h
 simp only [zD,t_spec_l00Max,Tr.get]
 by_cases h:(-1152921504606846976:Int)>a.val
 ·omega
 ·simp only [h,decide_false,cond_false]
theorem min_self (a:I64):zJ a a=a:=by
 simp only [zJ,t_spec_l00Min,Tr.get];cases decide (a.val<a.val)<;>rfl
theorem max_self (a:I64):zD a a=a:=by
 simp only [zD,t_spec_l00Max,Tr.get];cases decide (a.val>a.val)<;>rfl
theorem areb_eq (a b:Iv):zaX a b=(zf a&&zf b):=by
 simp only [zaX,t_impl_areBounded,Tr.get,valid_eq]
 cases zf a<;>rfl
theorem ok_neg {c:I64} (h:zO c=true):zO (.w .i64 (0-c.val))=true:=by
 have:=ok_bd h
 simp only [zO,zd2,Tr.get,zdg]
 rw [wi (by omega) (by omega)]
 simp;omega
theorem mulup_cases (a b:I64):(zaj a b).b=false\/∃c,zaj a b=⟨c,true⟩/\zO c=true:=by
 simp only [zaj,zdD,Tr.get]
 cases zO a
 ·left;rfl
 ·rcases ze8 (.w .i64 (0-a.val)) b with h|⟨c,h,k⟩
  ·left;rw [h];rfl
  ·right;rw [h];exact ⟨_,rfl,ok_neg k⟩
theorem divup_cases (a b:I64):(zZ a b).b=false\/∃c,zZ a b=⟨c,true⟩/\zO c=true:=by
 simp only [zZ,zcr,Tr.get]
 cases zO a
 ·left;rfl
 ·rcases ze9 (.w .i64 (0-a.val)) b with h|⟨c,h,k⟩
  ·left;rw [h];rfl
  ·right;rw [h];exact ⟨_,rfl,ok_neg k⟩
theorem mulI_ok (a b:Iv):(t_impl_MulI a b).opt=some (zu a b):=by
 simp only [t_impl_MulI,Tr.opt,zu,t_spec_MulI,Tr.get,areb_eq,muldown_F,muldown_G,mulup_F,mulup_G,cond_true,zaU,zcL,min_eq,max_eq]
 cases zf a
 ·rfl
 cases zf b
 ·rfl
 simp only [Bool.and_self,Bool.not_true,cond_false]
 rcases ze8 a.lo b.lo with h|⟨c1,h,k1⟩
 ·rw [h];rfl
 rw [h]
 rcases mulup_cases a.lo b.lo with h|⟨d1,h,l1⟩
 ·simp only [h,Bool.not_true,Bool.not_false,cond_true,cond_false]
 rw [h]
 rcases ze8 a.lo b.hi with h|⟨c2,h,k2⟩
 ·rw [h];rfl
 rw [h]
 rcases mulup_cases a.lo b.hi with h|⟨d2,h,l2⟩
 ·simp only [h,Bool.not_true,Bool.not_false,cond_true,cond_false]
 rw [h]
 rcases ze8 a.hi b.lo with h|⟨c3,h,k3⟩
 ·rw [h];rfl
 rw [h]
 rcases mulup_cases a.hi b.lo with h|⟨d3,h,l3⟩
 ·simp only [h,Bool.not_true,Bool.not_false,cond_true,cond_false]
 rw [h]
 rcases ze8 a.hi b.hi with h|⟨c4,h,k4⟩
 ·rw [h];rfl
 rw [h]
 rcases mulup_cases a.hi b.hi with h|⟨d4,h,l4⟩
 ·simp only [h,Bool.not_true,Bool.not_false,cond_true,cond_false]
 rw [h]
 simp only [Bool.not_true,cond_false,min_self,max_self,min_top k1,max_top l1]
theorem mulI_F (a b:Iv):zK a b=zu a b:=Tr.zar (mulI_ok a b)
theorem has_eq (a:Iv) (n:I64) (h:zf a=true):zeq a n=za7 a n:=by
 simp only [zeq,t_impl_HasI,za7,zcR,Tr.get,zam,zdn,valid_eq,h,Bool.not_true,cond_false,zbX,zdg]
theorem divI_F (a b:Iv):zae a b=zw a b:=by
 simp only [zae,t_impl_DivI,zw,zfY,Tr.get,areb_eq,divdown_F,divup_F,zaU,zcL,min_eq,max_eq]
 cases ha:zf a
 ·rfl
 cases hb:zf b
 ·rfl
 simp only [Bool.and_self,Bool.not_true,cond_false,has_eq b _ hb]
 cases za7 b ⟨0,rfl⟩
 case true=>rfl
 simp only [cond_false]
 rcases ze9 a.lo b.lo with h|⟨c1,h,k1⟩
 ·rw [h];rfl
 rw [h]
 rcases divup_cases a.lo b.lo with h|⟨d1,h,l1⟩
 ·simp only [h,Bool.not_true,Bool.not_false,cond_true,cond_false]
 rw [h]
 rcases ze9 a.lo b.hi with h|⟨c2,h,k2⟩
 ·rw [h];rfl
 rw [h]
 rcases divup_cases a.lo b.hi with h|⟨d2,h,l2⟩
 ·simp only [h,Bool.not_true,Bool.not_false,cond_true,cond_false]
 rw [h]
 rcases ze9 a.hi b.lo with h|⟨c3,h,k3⟩
 ·rw [h];rfl
 rw [h]
 rcases divup_cases a.hi b.lo with h|⟨d3,h,l3⟩
 ·simp only [h,Bool.not_true,Bool.not_false,cond_true,cond_false]
 rw [h]
 rcases ze9 a.hi b.hi with h|⟨c4,h,k4⟩
 ·rw [h];rfl
 rw [h]
 rcases divup_cases a.hi b.hi with h|⟨d4,h,l4⟩
 ·simp only [h,Bool.not_true,Bool.not_false,cond_true,cond_false]
 rw [h]
 simp only [Bool.not_true,cond_false,cond_true,min_self,max_self,min_top k1,max_top l1]
theorem sqrI_ok (a:Iv):(t_impl_SqrI a).opt=some (zaW a):=by
 simp only [t_impl_SqrI,Tr.opt,zaW,t_spec_SqrI,Tr.get,muldown_F,muldown_G,mulup_F,mulup_G,cond_true,zaU,zcL,zam,zdn,valid_eq]
 cases h:zf a
 ·rfl
 simp only [Bool.not_true,cond_false]
 have e:F_impl_AbsI a=⟨(zaf a).a,(zaf a).b⟩:=by
  simp only [F_impl_AbsI,t_impl_AbsI,zaf,zft,Tr.get,zam,zdn,valid_eq,h,Bool.not_true,cond_false,has_eq a _ h,max_eq,min_eq,zcj,t_impl_abs]
  cases za7 a ⟨0,rfl⟩<;>rfl
 rw [e]
 cases (zV (zaf a).a (zaf a).a).b<;>cases (zaj (zaf a).b (zaf a).b).b<;>rfl
theorem sqrI_F (a:Iv):zde a=zaW a:=Tr.zar (sqrI_ok a)
theorem tt_mulfloor (a b n:I64):(zeE a b n).opt=some (zbL a b n):=zeu (mulfloor_ok a b n)
theorem tt_mulI (a b:Iv):(t_impl_MulI a b).opt=some (zK a b):=zeu (mulI_ok a b)
theorem tt_sqrI (a:Iv):(t_impl_SqrI a).opt=some (zde a):=zeu (sqrI_ok a)
end Go.Proofs.YtfcjhkkpbnobhaaGreat.Ev
namespace Go.Proofs.YtfcjhkkpbnobhaaGreat.Ev
open Go
theorem root_loop (hi:I64) (lo:U64):∀(k m:Nat) (r:U64) (i:I64),k<=64->i.val=(k:Int)-1->
  ∃q:U64,(Lf zb6 (k+1+m) ⟨r,i,hi,lo⟩).opt=some ⟨q,.w .i64 (-1),hi,lo⟩/\(Lf zdx (k+1+m) ⟨r,i,hi,lo⟩).opt=some ⟨q,.w .i64 (-1),hi,lo⟩:=by
 intro k
 induction k with
 | zero=>
  intro m r i _ hi'
  have h0:decide (i.val>=0)=false:=by simp;omega
  have e:i= .w .i64 (-1):=rext (by rw [wi (by omega) (by omega)];omega)
  refine ⟨r,?_,?_⟩
  ·simp only [Lf,zb6,h0,Tr.bind,Tr.opt,cond_false,Nat.zero_add,Nat.add_comm 1 m,<- e]
  ·simp only [Lf,zdx,h0,Tr.bind,Tr.opt,cond_false,Nat.zero_add,Nat.add_comm 1 m,<- e]
 | succ k ih=>
  intro m r i hk hi'
  have h0:decide (i.val>=0)=true:=by simp;omega
  have h1:decide (i.val<0)=false:=by simp;omega
  have en:(Rng.w .u64 i.val).val=i.val:=wu (by omega) (by omega)
  have e1:(Rng.w .i64 (i.val-1)).val=(k:Int)-1:=by rw [wi (by omega) (by omega)];omega
  have hfuel:k+1+1+m=(k+1+m)+1:=by omega
  obtain ⟨q1,a1,b1⟩:=ih m (Rng.w .u64 (zbv .or .u64 r.val (Rng.w .u64 (1*(2^min (i.val).toNat 64))).val)) (.w .i64 (i.val-1)) (by omega) e1
  obtain ⟨q2,a2,b2⟩:=ih m r (.w .i64 (i.val-1)) (by omega) e1
  rw [hfuel]
  simp only [Lf,zb6,zdx,h0,h1,en,times_spec,times_impl,Tr.bind,Tr.opt,cond_true,cond_false,a1,b1,a2,b2]
  generalize decide ((Rng.w .u64 _).val<_)=c1
  generalize ((Rng.w .u64 _).val==_)=c2
  generalize decide ((Rng.w .u64 _).val<=_)=c3
  cases c1
  ·cases c2
   ·exact ⟨q2,rfl,rfl⟩
   ·cases c3
    ·exact ⟨q2,rfl,rfl⟩
    ·exact ⟨q1,rfl,rfl⟩
  ·exact ⟨q1,rfl,rfl⟩
theorem root_ok (w:Wide):(zej w).opt=some (zbm w)/\(zf0 w).opt=some (bif decide (w.hi.val<0) then ⟨⟨0,rfl⟩,false⟩ else ⟨zbm w,true⟩):=by
 obtain ⟨q,h1,h2⟩:=root_loop w.hi w.lo 64 1 ⟨0,rfl⟩ ⟨63,rfl⟩ (by omega) (by rfl)
 have hf:(64+1+1:Nat)=66:=rfl
 rw [hf] at h1 h2
 have g1:zfl ⟨⟨0,rfl⟩,⟨63,rfl⟩,w.hi,w.lo⟩=true:=by unfold zfl;rw [h1];rfl
 have g2:G_impl_WideSqrt_5 ⟨⟨0,rfl⟩,⟨63,rfl⟩,w.hi,w.lo⟩=true:=by unfold G_impl_WideSqrt_5;rw [h2];rfl
 have l1:L_spec_l02Root_3 ⟨⟨0,rfl⟩,⟨63,rfl⟩,w.hi,w.lo⟩=_:=Tr.zar h1
 have l2:L_impl_WideSqrt_5 ⟨⟨0,rfl⟩,⟨63,rfl⟩,w.hi,w.lo⟩=_:=Tr.zar h2
 have k1:(zej w).opt=some q:=by simp only [zej,Tr.opt,g1,l1,cond_true]
 have k2:zbm w=q:=Tr.zar k1
 refine ⟨by rw [k1,k2],?_⟩
 simp only [zf0,Tr.opt,g2,l2,cond_true,k2]
 cases decide (w.hi.val<0)<;>rfl
theorem root_G (w:Wide):G_spec_l02Root w=true:=by unfold G_spec_l02Root;rw [(root_ok w).1];rfl
theorem wsqrt_G (w:Wide):G_impl_WideSqrt w=true:=by unfold G_impl_WideSqrt;rw [(root_ok w).2];rfl
theorem tt_sf_spec (a b:I64):(zfg a b).opt=some (zfn a b):=opt_self2 (by
 simp only [zfg,Tr.opt,root_G,cond_true]
 cases decide (a.val<0)<;>cases decide (b.val<0)<;>rfl)
theorem tt_sf_impl (a b:I64):(zdS a b).opt=some (zdd a b):=opt_self2 (by
 simp only [zdS,Tr.opt,wsqrt_G,cond_true]
 cases decide (a.val<0)<;>cases decide (b.val<0)<;>rfl)
theorem sf_G_spec (a b:I64):G_spec_SqrtFloor a b=true:=by unfold G_spec_SqrtFloor;rw [tt_sf_spec];rfl
theorem sf_G_impl (a b:I64):G_impl_SqrtFloor a b=true:=by unfold G_impl_SqrtFloor;rw [tt_sf_impl];rfl
theorem tt_sd_spec (a:I64):(zd1 a).opt=some (zcx a):=opt_self2 (by
 simp only [zd1,Tr.opt,sf_G_spec,cond_true]
 cases zah a ⟨0,rfl⟩ ⟨1152921504606846976,rfl⟩<;>rfl)
theorem tt_sd_impl (a:I64):(zeD a).opt=some (zeP a):=opt_self2 (by
 simp only [zeD,Tr.opt,sf_G_impl,cond_true]
 cases zaR a<;>rfl)
theorem sd_G_spec (a:I64):zfO a=true:=by unfold zfO;rw [tt_sd_spec];rfl
theorem sd_G_impl (a:I64):G_impl_SqrtDown a=true:=by unfold G_impl_SqrtDown;rw [tt_sd_impl];rfl
theorem cond_some {γ:Type} (c:Bool) (x y:Option γ) (hx:x.isSome=true) (hy:y.isSome=true):(bif c then x else y).isSome=true:=by cases c<;>assumption
theorem tt_su_spec (a:I64):(zcE a).opt=some (zb7 a):=opt_self2 (by
 simp only [zcE,Tr.opt,sd_G_spec,cond_true]
 repeat' (first|apply cond_some|rfl))
theorem tt_su_impl (a:I64):(ze7 a).opt=some (F_impl_SqrtUp a):=opt_self2 (by
 simp only [ze7,Tr.opt,sd_G_impl,cond_true]
 repeat' (first|apply cond_some|rfl))
theorem su_G_spec (a:I64):G_spec_l03SqrtUp a=true:=by unfold G_spec_l03SqrtUp;rw [tt_su_spec];rfl
theorem su_G_impl (a:I64):G_impl_SqrtUp a=true:=by unfold G_impl_SqrtUp;rw [tt_su_impl];rfl
theorem tt_sqrtI_impl (a:Iv):(t_impl_SqrtI a).opt=some (ze1 a):=opt_self2 (by
 simp only [t_impl_SqrtI,Tr.opt,sd_G_impl,su_G_impl,cond_true]
 repeat' (first|apply cond_some|rfl))
end Go.Proofs.YtfcjhkkpbnobhaaGreat.Ev
namespace Go.Proofs.YtfcjhkkpbnobhaaGreat.Ev
open Go Go.RowKit
set_option maxRecDepth 100000
section
variable [Amb]
def ET_impl_SqrtFloor:Ent Tryz.prog:= .of2 Tb278 B278 (fun _ _=>true) zdd fun a0 a1 _=>(r_impl_SqrtFloor a0 a1).trans (tt_sf_impl a0 a1)
def ET_impl_SqrtI:Ent Tryz.prog:= .of1 Tb121 B121 (fun _=>true) ze1 fun a0 _=>(r_impl_SqrtI a0).trans (tt_sqrtI_impl a0)
def ET_impl_MulFloor:Ent Tryz.prog:= .of3 Tb275 B275 (fun _ _ _=>true) zbL fun a0 a1 a2 _=>(r_impl_MulFloor a0 a1 a2).trans (tt_mulfloor a0 a1 a2)
def zcm:Ent Tryz.prog:= .of2 Tb116 B116 (fun _ _=>true) zK fun a0 a1 _=>(r_impl_MulI a0 a1).trans (tt_mulI a0 a1)
def ze5:Ent Tryz.prog:= .of1 Tb206 B206 (fun _=>true) zde fun a0 _=>(r_impl_SqrI a0).trans (tt_sqrI a0)
def B107:Bod Tryz.prog:=⟨107,Tryz.f107,Tryz.f107.body.getD .skip,Tryz.func107,by kernel_rfl,by kernel_rfl,zan.no _ _⟩
def Tb107_p:Tb Tryz.prog:= {T:= [Y2,Y30],mix:=mix,Es:= [E_spec_MulFloor],Bs:= [],d:=1}
def zda (a0:I64):Tr (Iv):=
 .br (a0.val==0) (.leaf ⟨⟨0,rfl⟩,⟨0,rfl⟩⟩) (.br (decide (a0.val<0)) (.bad) (let c2:=zaw a0 ⟨7244019458077122842,rfl⟩ ⟨30,rfl⟩;.leaf ⟨c2.a,(Rng.w .i64 (c2.a.val+1))⟩))
theorem r_spec_l05Turn_p (a0:I64):Tb107_p.run B107 [enc a0] (Iv)=(zda a0).opt:=by kernel_rfl
def zbP:I64->Iv:=fun a0=>(zda a0).get
def zdV:I64->Bool:=fun a0=>(zda a0).opt.isSome
def E_spec_l05Turn_p:Ent Tryz.prog:= .of1 Tb107_p B107 zdV zbP fun a0 h=>(r_spec_l05Turn_p a0).trans (Tr.get_some h)
def Tb107:Tb Tryz.prog:= {T:= [Y2,Y30],mix:=mix,Es:= [E_spec_l05Turn_p,E_spec_MulFloor],Bs:= [],d:=1}
def zcQ (a0:I64):Tr (Iv):=
 .br (a0.val==0) (.leaf ⟨⟨0,rfl⟩,⟨0,rfl⟩⟩) (.br (decide (a0.val<0)) (let c1:=(Rng.w .i64 (0-a0.val));.br (zdV c1) (let c2:=zbP c1;.leaf ⟨(Rng.w .i64 (0-c2.hi.val)),(Rng.w .i64 (0-c2.lo.val))⟩) (.bad)) (let c5:=zaw a0 ⟨7244019458077122842,rfl⟩ ⟨30,rfl⟩;.leaf ⟨c5.a,(Rng.w .i64 (c5.a.val+1))⟩))
theorem r_spec_l05Turn (a0:I64):Tb107.run B107 [enc a0] (Iv)=(zcQ a0).opt:=by kernel_rfl
def zaQ:I64->Iv:=fun a0=>(zcQ a0).get
def zcn:I64->Bool:=fun a0=>(zcQ a0).opt.isSome
def E_spec_l05Turn:Ent Tryz.prog:= .of1 Tb107 B107 zcn zaQ fun a0 h=>(r_spec_l05Turn a0).trans (Tr.get_some h)
def B51:Bod Tryz.prog:=⟨51,Tryz.f51,Tryz.f51.body.getD .skip,Tryz.func51,by kernel_rfl,by kernel_rfl,zan.no _ _⟩
def Tb51:Tb Tryz.prog:= {T:= [Y2,Y30],mix:=mix,Es:= [zeg,E_spec_l05Turn,E_spec_Whole],Bs:= [],d:=1}
def zfW (a0:I64):Tr (Iv):=
 .br (!(zah a0 ⟨(-4096),rfl⟩ ⟨4096,rfl⟩)) (.leaf zaL) (.br (zcn a0) (.leaf (zaQ a0)) (.bad))
theorem r_spec_TurnI (a0:I64):Tb51.run B51 [enc a0] (Iv)=(zfW a0).opt:=by kernel_rfl
def zU:I64->Iv:=fun a0=>(zfW a0).get
def B240:Bod Tryz.prog:=⟨240,Tryz.f240,Tryz.f240.body.getD .skip,Tryz.func240,by kernel_rfl,by kernel_rfl,zan.no _ _⟩
def Tb240_p:Tb Tryz.prog:= {T:= [Y2,Y30],mix:=mix,Es:= [zal,zbr,ET_impl_MulFloor],Bs:= [],d:=1}
def zfu (a0:I64):Tr (Iv):=
 .br (!(zau a0 ⟨(-4096),rfl⟩ ⟨4096,rfl⟩)) (.leaf zF) (.br (decide (a0.val<0)) (.bad) (.br (a0.val==0) (.leaf ⟨⟨0,rfl⟩,⟨0,rfl⟩⟩) (let c4:=zbL a0 ⟨7244019458077122842,rfl⟩ ⟨30,rfl⟩;.leaf ⟨c4.a,(Rng.w .i64 (c4.a.val+1))⟩)))
theorem r_impl_TurnI_p (a0:I64):Tb240_p.run B240 [enc a0] (Iv)=(zfu a0).opt:=by kernel_rfl
def F_impl_TurnI_p:I64->Iv:=fun a0=>(zfu a0).get
def G_impl_TurnI_p:I64->Bool:=fun a0=>(zfu a0).opt.isSome
def E_impl_TurnI_p:Ent Tryz.prog:= .of1 Tb240_p B240 G_impl_TurnI_p F_impl_TurnI_p fun a0 h=>(r_impl_TurnI_p a0).trans (Tr.get_some h)
def Tb240:Tb Tryz.prog:= {T:= [Y2,Y30],mix:=mix,Es:= [zal,zbr,E_impl_NegI,E_impl_TurnI_p,ET_impl_MulFloor],Bs:= [],d:=1}
def zeU (a0:I64):Tr (Iv):=
 .br (!(zau a0 ⟨(-4096),rfl⟩ ⟨4096,rfl⟩)) (.leaf zF) (.br (decide (a0.val<0)) (let c3:=(Rng.w .i64 (0-a0.val));.br (G_impl_TurnI_p c3) (.leaf (zcN (F_impl_TurnI_p c3))) (.bad)) (.br (a0.val==0) (.leaf ⟨⟨0,rfl⟩,⟨0,rfl⟩⟩) (let c6:=zbL a0 ⟨7244019458077122842,rfl⟩ ⟨30,rfl⟩;.leaf ⟨c6.a,(Rng.w .i64 (c6.a.val+1))⟩)))
theorem r_impl_TurnI (a0:I64):Tb240.run B240 [enc a0] (Iv)=(zeU a0).opt:=by kernel_rfl
def za6:I64->Iv:=fun a0=>(zeU a0).get
def B260:Bod Tryz.prog:=⟨260,Tryz.f260,Tryz.f260.body.getD .skip,Tryz.func260,by kernel_rfl,by kernel_rfl,zan.no _ _⟩
def Tb260:Tb Tryz.prog:= {T:= [],mix:=mix,Es:= [zeg],Bs:= [],d:=1}
def zdC (a0:I64):Tr (Bool):=
 .leaf (zah a0 ⟨(-1099511627776),rfl⟩ ⟨1099511627776,rfl⟩)
theorem r_spec_l06Angle (a0:I64):Tb260.run B260 [enc a0] (Bool)=(zdC a0).opt:=by kernel_rfl
def za4:I64->Bool:=fun a0=>(zdC a0).get
theorem u_spec_l06Angle (a0:I64):(zdC a0).opt=some (za4 a0):=Tr.zT (by kernel_rfl)
def E_spec_l06Angle:Ent Tryz.prog:= .of1 Tb260 B260 (fun _=>true) za4 fun a0 _=>(r_spec_l06Angle a0).trans (u_spec_l06Angle a0)
def B265:Bod Tryz.prog:=⟨265,Tryz.f265,Tryz.f265.body.getD .skip,Tryz.func265,by kernel_rfl,by kernel_rfl,zan.no _ _⟩
def Tb265:Tb Tryz.prog:= {T:= [],mix:=mix,Es:= [],Bs:= [],d:=1}
def zfT (a0:I64) (a1:I64):Tr (I64):=
 .br (a1.val==0) (.bad) (let c1:=(Rng.w .i64 (a0.val.tdiv a1.val));.br (a1.val==0) (.bad) (.br (decide ((Rng.w .i64 (a0.val.tmod a1.val)).val<0)) (.leaf (Rng.w .i64 (c1.val-1))) (.leaf c1)))
theorem r_spec_l06Floor (a0:I64) (a1:I64):Tb265.run B265 [enc a0,enc a1] (I64)=(zfT a0 a1).opt:=by kernel_rfl
def F_spec_l06Floor:I64->I64->I64:=fun a0 a1=>(zfT a0 a1).get
def G_spec_l06Floor:I64->I64->Bool:=fun a0 a1=>(zfT a0 a1).opt.isSome
def E_spec_l06Floor:Ent Tryz.prog:= .of2 Tb265 B265 G_spec_l06Floor F_spec_l06Floor fun a0 a1 h=>(r_spec_l06Floor a0 a1).trans (Tr.get_some h)
def B185:Bod Tryz.prog:=⟨185,Tryz.f185,Tryz.f185.body.getD .skip,Tryz.func185,by kernel_rfl,by kernel_rfl,zan.no _ _⟩
def Tb185:Tb Tryz.prog:= {T:= [],mix:=mix,Es:= [E_spec_l06Angle,E_spec_l06Floor],Bs:= [],d:=1}
def zdQ (a0:I64):Tr (I64):=
 .br (!(za4 a0)) (.leaf ⟨0,rfl⟩) (let c2:=(Rng.w .i64 (a0.val+3373259426));.br (G_spec_l06Floor c2 ⟨6746518852,rfl⟩) (.leaf (F_spec_l06Floor c2 ⟨6746518852,rfl⟩)) (.bad))
theorem r_spec_QuarterOf (a0:I64):Tb185.run B185 [enc a0] (I64)=(zdQ a0).opt:=by kernel_rfl
def zaq:I64->I64:=fun a0=>(zdQ a0).get
def B317:Bod Tryz.prog:=⟨317,Tryz.f317,Tryz.f317.body.getD .skip,Tryz.func317,by kernel_rfl,by kernel_rfl,zan.no _ _⟩
def Tb317:Tb Tryz.prog:= {T:= [],mix:=mix,Es:= [zbr],Bs:= [],d:=1}
def t_impl_isAngle (a0:I64):Tr (Bool):=
 .leaf (zau a0 ⟨(-1099511627776),rfl⟩ ⟨1099511627776,rfl⟩)
theorem r_impl_isAngle (a0:I64):Tb317.run B317 [enc a0] (Bool)=(t_impl_isAngle a0).opt:=by kernel_rfl
def zds:I64->Bool:=fun a0=>(t_impl_isAngle a0).get
theorem u_impl_isAngle (a0:I64):(t_impl_isAngle a0).opt=some (zds a0):=Tr.zT (by kernel_rfl)
def E_impl_isAngle:Ent Tryz.prog:= .of1 Tb317 B317 (fun _=>true) zds fun a0 _=>(r_impl_isAngle a0).trans (u_impl_isAngle a0)
def B318:Bod Tryz.prog:=⟨318,Tryz.f318,Tryz.f318.body.getD .skip,Tryz.func318,by kernel_rfl,by kernel_rfl,zan.no _ _⟩
def Tb318:Tb Tryz.prog:= {T:= [],mix:=mix,Es:= [E_impl_isAngle],Bs:= [],d:=1}
def zfi (a0:I64):Tr (I64):=
 .br (!(zds a0)) (.leaf ⟨0,rfl⟩) (let c3:=(Rng.w .i64 ((Rng.w .i64 (a0.val+3373259426)).val.tdiv 6746518852));.br (decide ((Rng.w .i64 (c3.val*6746518852)).val>(Rng.w .i64 (a0.val+3373259426)).val)) (.leaf (Rng.w .i64 (c3.val-1))) (.leaf c3))
theorem r_impl_QuarterOf (a0:I64):Tb318.run B318 [enc a0] (I64)=(zfi a0).opt:=by kernel_rfl
def zca:I64->I64:=fun a0=>(zfi a0).get
theorem u_impl_QuarterOf (a0:I64):(zfi a0).opt=some (zca a0):=Tr.zT (by kernel_rfl)
def E_impl_QuarterOf:Ent Tryz.prog:= .of1 Tb318 B318 (fun _=>true) zca fun a0 _=>(r_impl_QuarterOf a0).trans (u_impl_QuarterOf a0)
def B102:Bod Tryz.prog:=⟨102,Tryz.f102,Tryz.f102.body.getD .skip,Tryz.func102,by kernel_rfl,by kernel_rfl,zan.no _ _⟩
def Tb102:Tb Tryz.prog:= {T:= [Y2,Y30],mix:=mix,Es:= [zbM,zcI,E_spec_l00Min,E_spec_l00Max],Bs:= [],d:=1}
def zd3 (a0:Iv) (a1:Iv):Tr (T2 Iv Bool):=
 .br (!(zf a0)) (.br (!(zf a1)) (.leaf ⟨zk,true⟩) (.br (!(zf a0)) (.leaf ⟨a1,true⟩) (.br (!(zf a1)) (.leaf ⟨a0,true⟩) (let c6:=zD a0.lo a1.lo;let c7:=zJ a0.hi a1.hi;.br (decide (c6.val>c7.val)) (.leaf ⟨⟨⟨0,rfl⟩,⟨0,rfl⟩⟩,false⟩) (.leaf ⟨⟨c6,c7⟩,true⟩))))) (.br (!(zf a0)) (.leaf ⟨a1,true⟩) (.br (!(zf a1)) (.leaf ⟨a0,true⟩) (let c11:=zD a0.lo a1.lo;let c12:=zJ a0.hi a1.hi;.br (decide (c11.val>c12.val)) (.leaf ⟨⟨⟨0,rfl⟩,⟨0,rfl⟩⟩,false⟩) (.leaf ⟨⟨c11,c12⟩,true⟩))))
theorem r_spec_MeetI (a0:Iv) (a1:Iv):Tb102.run B102 [enc a0,enc a1] (T2 Iv Bool)=(zd3 a0 a1).opt:=by kernel_rfl
def za9:Iv->Iv->T2 Iv Bool:=fun a0 a1=>(zd3 a0 a1).get
theorem u_spec_MeetI (a0:Iv) (a1:Iv):(zd3 a0 a1).opt=some (za9 a0 a1):=Tr.zT (by kernel_rfl)
def E_spec_MeetI:Ent Tryz.prog:= .of2 Tb102 B102 (fun _ _=>true) za9 fun a0 a1 _=>(r_spec_MeetI a0 a1).trans (u_spec_MeetI a0 a1)
def B29:Bod Tryz.prog:=⟨29,Tryz.f29,Tryz.f29.body.getD .skip,Tryz.func29,by kernel_rfl,by kernel_rfl,zan.no _ _⟩
def Tb29:Tb Tryz.prog:= {T:= [Y2,Y30],mix:=mix,Es:= [E_spec_MeetI],Bs:= [],d:=1}
def zeB (a0:Iv) (a1:Iv):Tr (Bool):=
 .leaf (za9 a0 a1).b
theorem r_spec_OverlapI (a0:Iv) (a1:Iv):Tb29.run B29 [enc a0,enc a1] (Bool)=(zeB a0 a1).opt:=by kernel_rfl
def zav:Iv->Iv->Bool:=fun a0 a1=>(zeB a0 a1).get
theorem u_spec_OverlapI (a0:Iv) (a1:Iv):(zeB a0 a1).opt=some (zav a0 a1):=Tr.zT (by kernel_rfl)
def E_spec_OverlapI:Ent Tryz.prog:= .of2 Tb29 B29 (fun _ _=>true) zav fun a0 a1 _=>(r_spec_OverlapI a0 a1).trans (u_spec_OverlapI a0 a1)
def B242:Bod Tryz.prog:=⟨242,Tryz.f242,Tryz.f242.body.getD .skip,Tryz.func242,by kernel_rfl,by kernel_rfl,zan.no _ _⟩
def Tb242:Tb Tryz.prog:= {T:= [Y2,Y30],mix:=mix,Es:= [zbb,zal],Bs:= [],d:=1}
def t_impl_MeetI (a0:Iv) (a1:Iv):Tr (T2 Iv Bool):=
 .br (zam a0) (.br (zam a1) (.leaf ⟨zF,true⟩) (.br (zam a0) (.leaf ⟨a1,true⟩) (.br (zam a1) (.leaf ⟨a0,true⟩) (.br (decide ((mx a0.lo a1.lo).val>(mn a0.hi a1.hi).val)) (.leaf ⟨⟨⟨0,rfl⟩,⟨0,rfl⟩⟩,false⟩) (.leaf ⟨⟨(mx a0.lo a1.lo),(mn a0.hi a1.hi)⟩,true⟩))))) (.br (zam a0) (.leaf ⟨a1,true⟩) (.br (zam a1) (.leaf ⟨a0,true⟩) (.br (decide ((mx a0.lo a1.lo).val>(mn a0.hi a1.hi).val)) (.leaf ⟨⟨⟨0,rfl⟩,⟨0,rfl⟩⟩,false⟩) (.leaf ⟨⟨(mx a0.lo a1.lo),(mn a0.hi a1.hi)⟩,true⟩))))
theorem r_impl_MeetI (a0:Iv) (a1:Iv):Tb242.run B242 [enc a0,enc a1] (T2 Iv Bool)=(t_impl_MeetI a0 a1).opt:=by kernel_rfl
def ze3:Iv->Iv->T2 Iv Bool:=fun a0 a1=>(t_impl_MeetI a0 a1).get
theorem u_impl_MeetI (a0:Iv) (a1:Iv):(t_impl_MeetI a0 a1).opt=some (ze3 a0 a1):=Tr.zT (by kernel_rfl)
def E_impl_MeetI:Ent Tryz.prog:= .of2 Tb242 B242 (fun _ _=>true) ze3 fun a0 a1 _=>(r_impl_MeetI a0 a1).trans (u_impl_MeetI a0 a1)
def B322:Bod Tryz.prog:=⟨322,Tryz.f322,Tryz.f322.body.getD .skip,Tryz.func322,by kernel_rfl,by kernel_rfl,zan.no _ _⟩
def Tb322:Tb Tryz.prog:= {T:= [Y2,Y30],mix:=mix,Es:= [E_impl_MeetI],Bs:= [],d:=1}
def t_impl_OverlapI (a0:Iv) (a1:Iv):Tr (Bool):=
 .leaf (ze3 a0 a1).b
theorem r_impl_OverlapI (a0:Iv) (a1:Iv):Tb322.run B322 [enc a0,enc a1] (Bool)=(t_impl_OverlapI a0 a1).opt:=by kernel_rfl
def zc6:Iv->Iv->Bool:=fun a0 a1=>(t_impl_OverlapI a0 a1).get
theorem u_impl_OverlapI (a0:Iv) (a1:Iv):(t_impl_OverlapI a0 a1).opt=some (zc6 a0 a1):=Tr.zT (by kernel_rfl)
def E_impl_OverlapI:Ent Tryz.prog:= .of2 Tb322 B322 (fun _ _=>true) zc6 fun a0 a1 _=>(r_impl_OverlapI a0 a1).trans (u_impl_OverlapI a0 a1)
def B56:Bod Tryz.prog:=⟨56,Tryz.f56,Tryz.f56.body.getD .skip,Tryz.func56,by kernel_rfl,by kernel_rfl,zan.no _ _⟩
def Tb56:Tb Tryz.prog:= {T:= [Y2,Y30],mix:=mix,Es:= [zcI],Bs:= [],d:=1}
def zdm (a0:Iv) (a1:Iv):Tr (Bool):=
 .br (!(zf a1)) (.leaf true) (.br (zf a0) (.br (decide (a1.lo.val<=a0.lo.val)) (.leaf (decide (a0.hi.val<=a1.hi.val))) (.leaf false)) (.leaf false))
theorem r_spec_InsideI (a0:Iv) (a1:Iv):Tb56.run B56 [enc a0,enc a1] (Bool)=(zdm a0 a1).opt:=by kernel_rfl
def zaP:Iv->Iv->Bool:=fun a0 a1=>(zdm a0 a1).get
theorem u_spec_InsideI (a0:Iv) (a1:Iv):(zdm a0 a1).opt=some (zaP a0 a1):=Tr.zT (by kernel_rfl)
def E_spec_InsideI:Ent Tryz.prog:= .of2 Tb56 B56 (fun _ _=>true) zaP fun a0 a1 _=>(r_spec_InsideI a0 a1).trans (u_spec_InsideI a0 a1)
def B345:Bod Tryz.prog:=⟨345,Tryz.f345,Tryz.f345.body.getD .skip,Tryz.func345,by kernel_rfl,by kernel_rfl,zan.no _ _⟩
def Tb345:Tb Tryz.prog:= {T:= [Y2,Y30],mix:=mix,Es:= [zbb],Bs:= [],d:=1}
def t_impl_InsideI (a0:Iv) (a1:Iv):Tr (Bool):=
 .br (zam a0) (.leaf (zam a1)) (.br (zam a1) (.leaf (zam a1)) (.br (decide (a1.lo.val<=a0.lo.val)) (.leaf (decide (a0.hi.val<=a1.hi.val))) (.leaf false)))
theorem r_impl_InsideI (a0:Iv) (a1:Iv):Tb345.run B345 [enc a0,enc a1] (Bool)=(t_impl_InsideI a0 a1).opt:=by kernel_rfl
def zep:Iv->Iv->Bool:=fun a0 a1=>(t_impl_InsideI a0 a1).get
theorem u_impl_InsideI (a0:Iv) (a1:Iv):(t_impl_InsideI a0 a1).opt=some (zep a0 a1):=Tr.zT (by kernel_rfl)
def E_impl_InsideI:Ent Tryz.prog:= .of2 Tb345 B345 (fun _ _=>true) zep fun a0 a1 _=>(r_impl_InsideI a0 a1).trans (u_impl_InsideI a0 a1)
def B183:Bod Tryz.prog:=⟨183,Tryz.f183,Tryz.f183.body.getD .skip,Tryz.func183,by kernel_rfl,by kernel_rfl,zan.no _ _⟩
def Tb183:Tb Tryz.prog:= {T:= [Y2,Y30],mix:=mix,Es:= [zbM,zdv,zcI,E_spec_l00Min,E_spec_l00Max],Bs:= [],d:=1}
def t_spec_HullI (a0:Iv) (a1:Iv):Tr (Iv):=
 .br (!(zf a0)) (.leaf zk) (.br (!(zf a1)) (.leaf zk) (.leaf (z8 (zJ a0.lo a1.lo) (zD a0.hi a1.hi))))
theorem r_spec_HullI (a0:Iv) (a1:Iv):Tb183.run B183 [enc a0,enc a1] (Iv)=(t_spec_HullI a0 a1).opt:=by kernel_rfl
def zac:Iv->Iv->Iv:=fun a0 a1=>(t_spec_HullI a0 a1).get
theorem u_spec_HullI (a0:Iv) (a1:Iv):(t_spec_HullI a0 a1).opt=some (zac a0 a1):=Tr.zT (by kernel_rfl)
def E_spec_HullI:Ent Tryz.prog:= .of2 Tb183 B183 (fun _ _=>true) zac fun a0 a1 _=>(r_spec_HullI a0 a1).trans (u_spec_HullI a0 a1)
def B175:Bod Tryz.prog:=⟨175,Tryz.f175,Tryz.f175.body.getD .skip,Tryz.func175,by kernel_rfl,by kernel_rfl,zan.no _ _⟩
def Tb175:Tb Tryz.prog:= {T:= [Y2,Y30],mix:=mix,Es:= [zbu,zal],Bs:= [],d:=1}
def t_impl_HullI (a0:Iv) (a1:Iv):Tr (Iv):=
 .br (!(zaX a0 a1)) (.leaf zF) (.leaf ⟨(mn a0.lo a1.lo),(mx a0.hi a1.hi)⟩)
theorem r_impl_HullI (a0:Iv) (a1:Iv):Tb175.run B175 [enc a0,enc a1] (Iv)=(t_impl_HullI a0 a1).opt:=by kernel_rfl
def zaC:Iv->Iv->Iv:=fun a0 a1=>(t_impl_HullI a0 a1).get
theorem u_impl_HullI (a0:Iv) (a1:Iv):(t_impl_HullI a0 a1).opt=some (zaC a0 a1):=Tr.zT (by kernel_rfl)
def E_impl_HullI:Ent Tryz.prog:= .of2 Tb175 B175 (fun _ _=>true) zaC fun a0 a1 _=>(r_impl_HullI a0 a1).trans (u_impl_HullI a0 a1)
def B34:Bod Tryz.prog:=⟨34,Tryz.f34,Tryz.f34.body.getD .skip,Tryz.func34,by kernel_rfl,by kernel_rfl,zan.no _ _⟩
def Tb34:Tb Tryz.prog:= {T:= [Y2,Y30],mix:=mix,Es:= [zbM,zdv,zcI],Bs:= [],d:=1}
def zdF (a0:Iv) (a1:Iv):Tr (Iv):=
 .br (!(zf a0)) (.leaf zk) (.br (!(zf a1)) (.leaf zk) (.leaf (z8 (Rng.w .i64 (a0.lo.val+a1.lo.val)) (Rng.w .i64 (a0.hi.val+a1.hi.val)))))
theorem r_spec_AddI (a0:Iv) (a1:Iv):Tb34.run B34 [enc a0,enc a1] (Iv)=(zdF a0 a1).opt:=by kernel_rfl
def zG:Iv->Iv->Iv:=fun a0 a1=>(zdF a0 a1).get
theorem u_spec_AddI (a0:Iv) (a1:Iv):(zdF a0 a1).opt=some (zG a0 a1):=Tr.zT (by kernel_rfl)
def E_spec_AddI:Ent Tryz.prog:= .of2 Tb34 B34 (fun _ _=>true) zG fun a0 a1 _=>(r_spec_AddI a0 a1).trans (u_spec_AddI a0 a1)
def B86:Bod Tryz.prog:=⟨86,Tryz.f86,Tryz.f86.body.getD .skip,Tryz.func86,by kernel_rfl,by kernel_rfl,zan.no _ _⟩
def Tb86:Tb Tryz.prog:= {T:= [Y2,Y30],mix:=mix,Es:= [zbu,zal,zbn],Bs:= [],d:=1}
def t_impl_AddI (a0:Iv) (a1:Iv):Tr (Iv):=
 .br (!(zaX a0 a1)) (.leaf zF) (.leaf (zaI (Rng.w .i64 (a0.lo.val+a1.lo.val)) (Rng.w .i64 (a0.hi.val+a1.hi.val)) true))
theorem r_impl_AddI (a0:Iv) (a1:Iv):Tb86.run B86 [enc a0,enc a1] (Iv)=(t_impl_AddI a0 a1).opt:=by kernel_rfl
def zY:Iv->Iv->Iv:=fun a0 a1=>(t_impl_AddI a0 a1).get
theorem u_impl_AddI (a0:Iv) (a1:Iv):(t_impl_AddI a0 a1).opt=some (zY a0 a1):=Tr.zT (by kernel_rfl)
def zcP:Ent Tryz.prog:= .of2 Tb86 B86 (fun _ _=>true) zY fun a0 a1 _=>(r_impl_AddI a0 a1).trans (u_impl_AddI a0 a1)
def B65:Bod Tryz.prog:=⟨65,Tryz.f65,Tryz.f65.body.getD .skip,Tryz.func65,by kernel_rfl,by kernel_rfl,zan.no _ _⟩
def Tb65:Tb Tryz.prog:= {T:= [Y2,Y30],mix:=mix,Es:= [zbM,zdv,zcI],Bs:= [],d:=1}
def t_spec_SubI (a0:Iv) (a1:Iv):Tr (Iv):=
 .br (!(zf a0)) (.leaf zk) (.br (!(zf a1)) (.leaf zk) (.leaf (z8 (Rng.w .i64 (a0.lo.val-a1.hi.val)) (Rng.w .i64 (a0.hi.val-a1.lo.val)))))
theorem r_spec_SubI (a0:Iv) (a1:Iv):Tb65.run B65 [enc a0,enc a1] (Iv)=(t_spec_SubI a0 a1).opt:=by kernel_rfl
def zR:Iv->Iv->Iv:=fun a0 a1=>(t_spec_SubI a0 a1).get
theorem u_spec_SubI (a0:Iv) (a1:Iv):(t_spec_SubI a0 a1).opt=some (zR a0 a1):=Tr.zT (by kernel_rfl)
def E_spec_SubI:Ent Tryz.prog:= .of2 Tb65 B65 (fun _ _=>true) zR fun a0 a1 _=>(r_spec_SubI a0 a1).trans (u_spec_SubI a0 a1)
def B119:Bod Tryz.prog:=⟨119,Tryz.f119,Tryz.f119.body.getD .skip,Tryz.func119,by kernel_rfl,by kernel_rfl,zan.no _ _⟩
def Tb119:Tb Tryz.prog:= {T:= [Y2,Y30],mix:=mix,Es:= [zcP,E_impl_NegI],Bs:= [],d:=1}
def t_impl_SubI (a0:Iv) (a1:Iv):Tr (Iv):=
 .leaf (zY a0 (zcN a1))
theorem r_impl_SubI (a0:Iv) (a1:Iv):Tb119.run B119 [enc a0,enc a1] (Iv)=(t_impl_SubI a0 a1).opt:=by kernel_rfl
def zax:Iv->Iv->Iv:=fun a0 a1=>(t_impl_SubI a0 a1).get
theorem u_impl_SubI (a0:Iv) (a1:Iv):(t_impl_SubI a0 a1).opt=some (zax a0 a1):=Tr.zT (by kernel_rfl)
def zcO:Ent Tryz.prog:= .of2 Tb119 B119 (fun _ _=>true) zax fun a0 a1 _=>(r_impl_SubI a0 a1).trans (u_impl_SubI a0 a1)
def B182:Bod Tryz.prog:=⟨182,Tryz.f182,Tryz.f182.body.getD .skip,Tryz.func182,by kernel_rfl,by kernel_rfl,zan.no _ _⟩
def Tb182:Tb Tryz.prog:= {T:= [Y2,Y30],mix:=mix,Es:= [],Bs:= [],d:=1}
def t_spec_l06Ring:Tr (Iv):=
 .leaf ⟨⟨(-4294967296),rfl⟩,⟨4294967296,rfl⟩⟩
theorem r_spec_l06Ring:Tb182.run B182 [] (Iv)=(t_spec_l06Ring).opt:=by kernel_rfl
def zS:Iv:=(t_spec_l06Ring).get
theorem u_spec_l06Ring:(t_spec_l06Ring).opt=some (zS):=Tr.zT (by kernel_rfl)
def E_spec_l06Ring:Ent Tryz.prog:= .of0 Tb182 B182 zS (r_spec_l06Ring.trans u_spec_l06Ring)
def B16:Bod Tryz.prog:=⟨16,Tryz.f16,Tryz.f16.body.getD .skip,Tryz.func16,by kernel_rfl,by kernel_rfl,zan.no _ _⟩
def Tb16:Tb Tryz.prog:= {T:= [Y2,Y30],mix:=mix,Es:= [zeg,zbM,zdv],Bs:= [],d:=1}
def t_spec_Integer (a0:I64):Tr (Iv):=
 .br (!(zah a0 ⟨(-268435455),rfl⟩ ⟨268435455,rfl⟩)) (.leaf zk) (.leaf (z8 (Rng.w .i64 (a0.val*4294967296)) (Rng.w .i64 (a0.val*4294967296))))
theorem r_spec_Integer (a0:I64):Tb16.run B16 [enc a0] (Iv)=(t_spec_Integer a0).opt:=by kernel_rfl
def zm:I64->Iv:=fun a0=>(t_spec_Integer a0).get
theorem u_spec_Integer (a0:I64):(t_spec_Integer a0).opt=some (zm a0):=Tr.zT (by kernel_rfl)
def E_spec_Integer:Ent Tryz.prog:= .of1 Tb16 B16 (fun _=>true) zm fun a0 _=>(r_spec_Integer a0).trans (u_spec_Integer a0)
def B315:Bod Tryz.prog:=⟨315,Tryz.f315,Tryz.f315.body.getD .skip,Tryz.func315,by kernel_rfl,by kernel_rfl,zan.no _ _⟩
def Tb315:Tb Tryz.prog:= {T:= [Y2,Y30],mix:=mix,Es:= [E_spec_Integer,E_spec_MulI,E_spec_SubI,E_spec_DivI],Bs:= [],d:=1}
def zcD (a0:Iv) (a1:I64):Tr (Iv):=
 let c2:=(Rng.w .i64 (16+a1.val));let c10:=(Rng.w .i64 (14+a1.val));let c18:=(Rng.w .i64 (12+a1.val));let c26:=(Rng.w .i64 (10+a1.val));let c34:=(Rng.w .i64 (8+a1.val));let c42:=(Rng.w .i64 (6+a1.val));let c50:=(Rng.w .i64 (4+a1.val));let c58:=(Rng.w .i64 (2+a1.val));.leaf (zR (zm ⟨1,rfl⟩) (zu (zw a0 (zm (Rng.w .i64 (c58.val*(Rng.w .i64 (c58.val+1)).val)))) (zR (zm ⟨1,rfl⟩) (zu (zw a0 (zm (Rng.w .i64 (c50.val*(Rng.w .i64 (c50.val+1)).val)))) (zR (zm ⟨1,rfl⟩) (zu (zw a0 (zm (Rng.w .i64 (c42.val*(Rng.w .i64 (c42.val+1)).val)))) (zR (zm ⟨1,rfl⟩) (zu (zw a0 (zm (Rng.w .i64 (c34.val*(Rng.w .i64 (c34.val+1)).val)))) (zR (zm ⟨1,rfl⟩) (zu (zw a0 (zm (Rng.w .i64 (c26.val*(Rng.w .i64 (c26.val+1)).val)))) (zR (zm ⟨1,rfl⟩) (zu (zw a0 (zm (Rng.w .i64 (c18.val*(Rng.w .i64 (c18.val+1)).val)))) (zR (zm ⟨1,rfl⟩) (zu (zw a0 (zm (Rng.w .i64 (c10.val*(Rng.w .i64 (c10.val+1)).val)))) (zR (zm ⟨1,rfl⟩) (zu (zw a0 (zm (Rng.w .i64 (c2.val*(Rng.w .i64 (c2.val+1)).val)))) (zm ⟨1,rfl⟩)))))))))))))))))
theorem r_spec_l06Series (a0:Iv) (a1:I64):Tb315.run B315 [enc a0,enc a1] (Iv)=(zcD a0 a1).opt:=by kernel_rfl
def za2:Iv->I64->Iv:=fun a0 a1=>(zcD a0 a1).get
theorem u_spec_l06Series (a0:Iv) (a1:I64):(zcD a0 a1).opt=some (za2 a0 a1):=Tr.zT (by kernel_rfl)
def E_spec_l06Series:Ent Tryz.prog:= .of2 Tb315 B315 (fun _ _=>true) za2 fun a0 a1 _=>(r_spec_l06Series a0 a1).trans (u_spec_l06Series a0 a1)
def B316:Bod Tryz.prog:=⟨316,Tryz.f316,Tryz.f316.body.getD .skip,Tryz.func316,by kernel_rfl,by kernel_rfl,zan.no _ _⟩
def Tb316:Tb Tryz.prog:= {T:= [Y2,Y30],mix:=mix,Es:= [],Bs:= [],d:=1}
def t_spec_l06Tiny:Tr (Iv):=
 .leaf ⟨⟨(-1),rfl⟩,⟨1,rfl⟩⟩
theorem r_spec_l06Tiny:Tb316.run B316 [] (Iv)=(t_spec_l06Tiny).opt:=by kernel_rfl
def zbC:Iv:=(t_spec_l06Tiny).get
theorem u_spec_l06Tiny:(t_spec_l06Tiny).opt=some (zbC):=Tr.zT (by kernel_rfl)
def E_spec_l06Tiny:Ent Tryz.prog:= .of0 Tb316 B316 zbC (r_spec_l06Tiny.trans u_spec_l06Tiny)
def B263:Bod Tryz.prog:=⟨263,Tryz.f263,Tryz.f263.body.getD .skip,Tryz.func263,by kernel_rfl,by kernel_rfl,zan.no _ _⟩
def Tb263:Tb Tryz.prog:= {T:= [Y2,Y30],mix:=mix,Es:= [E_spec_MulI,E_spec_AddI,E_spec_InsideI,E_spec_SqrI,E_spec_Whole,E_spec_l06Ring,E_spec_l06Series,E_spec_l06Tiny],Bs:= [],d:=1}
def zdP (a0:Iv):Tr (Iv):=
 .br (!(zaP a0 zS)) (.leaf zaL) (.leaf (zG (zu a0 (za2 (zaW a0) ⟨0,rfl⟩)) zbC))
theorem r_spec_SinSeries (a0:Iv):Tb263.run B263 [enc a0] (Iv)=(zdP a0).opt:=by kernel_rfl
def zbe:Iv->Iv:=fun a0=>(zdP a0).get
theorem u_spec_SinSeries (a0:Iv):(zdP a0).opt=some (zbe a0):=Tr.zT (by kernel_rfl)
def E_spec_SinSeries:Ent Tryz.prog:= .of1 Tb263 B263 (fun _=>true) zbe fun a0 _=>(r_spec_SinSeries a0).trans (u_spec_SinSeries a0)
def B264:Bod Tryz.prog:=⟨264,Tryz.f264,Tryz.f264.body.getD .skip,Tryz.func264,by kernel_rfl,by kernel_rfl,zan.no _ _⟩
def Tb264:Tb Tryz.prog:= {T:= [Y2,Y30],mix:=mix,Es:= [E_spec_AddI,E_spec_InsideI,E_spec_SqrI,E_spec_Whole,E_spec_l06Ring,E_spec_l06Series,E_spec_l06Tiny],Bs:= [],d:=1}
def zdR (a0:Iv):Tr (Iv):=
 .br (!(zaP a0 zS)) (.leaf zaL) (.leaf (zG (za2 (zaW a0) ⟨(-1),rfl⟩) zbC))
theorem r_spec_CosSeries (a0:Iv):Tb264.run B264 [enc a0] (Iv)=(zdR a0).opt:=by kernel_rfl
def zbf:Iv->Iv:=fun a0=>(zdR a0).get
theorem u_spec_CosSeries (a0:Iv):(zdR a0).opt=some (zbf a0):=Tr.zT (by kernel_rfl)
def E_spec_CosSeries:Ent Tryz.prog:= .of1 Tb264 B264 (fun _=>true) zbf fun a0 _=>(r_spec_CosSeries a0).trans (u_spec_CosSeries a0)
def B262:Bod Tryz.prog:=⟨262,Tryz.f262,Tryz.f262.body.getD .skip,Tryz.func262,by kernel_rfl,by kernel_rfl,zan.no _ _⟩
def Tb262:Tb Tryz.prog:= {T:= [Y2,Y30],mix:=mix,Es:= [E_spec_MeetI,E_spec_l06Ring],Bs:= [],d:=1}
def zfs (a0:Iv):Tr (Iv):=
 let c2:=za9 a0 zS;.br (!c2.b) (.leaf zS) (.leaf c2.a)
theorem r_spec_l06Meet (a0:Iv):Tb262.run B262 [enc a0] (Iv)=(zfs a0).opt:=by kernel_rfl
def zaD:Iv->Iv:=fun a0=>(zfs a0).get
theorem u_spec_l06Meet (a0:Iv):(zfs a0).opt=some (zaD a0):=Tr.zT (by kernel_rfl)
def E_spec_l06Meet:Ent Tryz.prog:= .of1 Tb262 B262 (fun _=>true) zaD fun a0 _=>(r_spec_l06Meet a0).trans (u_spec_l06Meet a0)
def B24:Bod Tryz.prog:=⟨24,Tryz.f24,Tryz.f24.body.getD .skip,Tryz.func24,by kernel_rfl,by kernel_rfl,zan.no _ _⟩
def Tb24:Tb Tryz.prog:= {T:= [Y30],mix:=mix,Es:= [zcI],Bs:= [],d:=1}
def zes (a0:Iv):Tr (Bool):=
 .leaf (zf a0)
theorem r_spec_ValidInterval (a0:Iv):Tb24.run B24 [enc a0] (Bool)=(zes a0).opt:=by kernel_rfl
def zex:Iv->Bool:=fun a0=>(zes a0).get
theorem u_spec_ValidInterval (a0:Iv):(zes a0).opt=some (zex a0):=Tr.zT (by kernel_rfl)
def E_spec_ValidInterval:Ent Tryz.prog:= .of1 Tb24 B24 (fun _=>true) zex fun a0 _=>(r_spec_ValidInterval a0).trans (u_spec_ValidInterval a0)
def B181:Bod Tryz.prog:=⟨181,Tryz.f181,Tryz.f181.body.getD .skip,Tryz.func181,by kernel_rfl,by kernel_rfl,zan.no _ _⟩
def Tb181:Tb Tryz.prog:= {T:= [Y2,Y30],mix:=mix,Es:= [E_spec_ValidInterval,E_spec_l06Angle],Bs:= [],d:=1}
def t_spec_l06Fits (a0:Iv):Tr (Bool):=
 .br (zex a0) (.br (za4 a0.lo) (.leaf (za4 a0.hi)) (.leaf false)) (.leaf false)
theorem r_spec_l06Fits (a0:Iv):Tb181.run B181 [enc a0] (Bool)=(t_spec_l06Fits a0).opt:=by kernel_rfl
def zco:Iv->Bool:=fun a0=>(t_spec_l06Fits a0).get
theorem u_spec_l06Fits (a0:Iv):(t_spec_l06Fits a0).opt=some (zco a0):=Tr.zT (by kernel_rfl)
def E_spec_l06Fits:Ent Tryz.prog:= .of1 Tb181 B181 (fun _=>true) zco fun a0 _=>(r_spec_l06Fits a0).trans (u_spec_l06Fits a0)
def B270:Bod Tryz.prog:=⟨270,Tryz.f270,Tryz.f270.body.getD .skip,Tryz.func270,by kernel_rfl,by kernel_rfl,zan.no _ _⟩
def Tb270:Tb Tryz.prog:= {T:= [Y2,Y30],mix:=mix,Es:= [],Bs:= [],d:=1}
def t_impl_ring:Tr (Iv):=
 .leaf ⟨⟨(-4294967296),rfl⟩,⟨4294967296,rfl⟩⟩
theorem r_impl_ring:Tb270.run B270 [] (Iv)=(t_impl_ring).opt:=by kernel_rfl
def zdN:Iv:=(t_impl_ring).get
theorem u_impl_ring:(t_impl_ring).opt=some (zdN):=Tr.zT (by kernel_rfl)
def E_impl_ring:Ent Tryz.prog:= .of0 Tb270 B270 zdN (r_impl_ring.trans u_impl_ring)
def B79:Bod Tryz.prog:=⟨79,Tryz.f79,Tryz.f79.body.getD .skip,Tryz.func79,by kernel_rfl,by kernel_rfl,zan.no _ _⟩
def Tb79:Tb Tryz.prog:= {T:= [Y2,Y30],mix:=mix,Es:= [zal,zbr,zbn],Bs:= [],d:=1}
def t_impl_Integer (a0:I64):Tr (Iv):=
 .br (!(zau a0 ⟨(-268435456),rfl⟩ ⟨268435456,rfl⟩)) (.leaf zF) (.leaf (zaI (Rng.w .i64 (a0.val*4294967296)) (Rng.w .i64 (a0.val*4294967296)) true))
theorem r_impl_Integer (a0:I64):Tb79.run B79 [enc a0] (Iv)=(t_impl_Integer a0).opt:=by kernel_rfl
def zy:I64->Iv:=fun a0=>(t_impl_Integer a0).get
theorem u_impl_Integer (a0:I64):(t_impl_Integer a0).opt=some (zy a0):=Tr.zT (by kernel_rfl)
def zbo:Ent Tryz.prog:= .of1 Tb79 B79 (fun _=>true) zy fun a0 _=>(r_impl_Integer a0).trans (u_impl_Integer a0)
def B346:Bod Tryz.prog:=⟨346,Tryz.f346,Tryz.f346.body.getD .skip,Tryz.func346,by kernel_rfl,by kernel_rfl,zan.no _ _⟩
def Tb346:Tb Tryz.prog:= {T:= [Y2,Y30],mix:=mix,Es:= [zbo,zcm,zcO,zcA],Bs:= [],d:=1}
def t_impl_series (a0:Iv) (a1:I64):Tr (Iv):=
 let c2:=(Rng.w .i64 (a1.val+14));let c10:=(Rng.w .i64 (a1.val+12));let c18:=(Rng.w .i64 (a1.val+10));let c26:=(Rng.w .i64 (a1.val+8));let c34:=(Rng.w .i64 (a1.val+6));let c42:=(Rng.w .i64 (a1.val+4));let c50:=(Rng.w .i64 (a1.val+2));let c58:=(Rng.w .i64 (a1.val+0));.leaf (zax (zy ⟨1,rfl⟩) (zK (zae a0 (zy (Rng.w .i64 (c58.val*(Rng.w .i64 (c58.val+1)).val)))) (zax (zy ⟨1,rfl⟩) (zK (zae a0 (zy (Rng.w .i64 (c50.val*(Rng.w .i64 (c50.val+1)).val)))) (zax (zy ⟨1,rfl⟩) (zK (zae a0 (zy (Rng.w .i64 (c42.val*(Rng.w .i64 (c42.val+1)).val)))) (zax (zy ⟨1,rfl⟩) (zK (zae a0 (zy (Rng.w .i64 (c34.val*(Rng.w .i64 (c34.val+1)).val)))) (zax (zy ⟨1,rfl⟩) (zK (zae a0 (zy (Rng.w .i64 (c26.val*(Rng.w .i64 (c26.val+1)).val)))) (zax (zy ⟨1,rfl⟩) (zK (zae a0 (zy (Rng.w .i64 (c18.val*(Rng.w .i64 (c18.val+1)).val)))) (zax (zy ⟨1,rfl⟩) (zK (zae a0 (zy (Rng.w .i64 (c10.val*(Rng.w .i64 (c10.val+1)).val)))) (zax (zy ⟨1,rfl⟩) (zK (zae a0 (zy (Rng.w .i64 (c2.val*(Rng.w .i64 (c2.val+1)).val)))) (zy ⟨1,rfl⟩)))))))))))))))))
theorem r_impl_series (a0:Iv) (a1:I64):Tb346.run B346 [enc a0,enc a1] (Iv)=(t_impl_series a0 a1).opt:=by kernel_rfl
def F_impl_series:Iv->I64->Iv:=fun a0 a1=>(t_impl_series a0 a1).get
theorem u_impl_series (a0:Iv) (a1:I64):(t_impl_series a0 a1).opt=some (F_impl_series a0 a1):=Tr.zT (by kernel_rfl)
def E_impl_series:Ent Tryz.prog:= .of2 Tb346 B346 (fun _ _=>true) F_impl_series fun a0 a1 _=>(r_impl_series a0 a1).trans (u_impl_series a0 a1)
def B347:Bod Tryz.prog:=⟨347,Tryz.f347,Tryz.f347.body.getD .skip,Tryz.func347,by kernel_rfl,by kernel_rfl,zan.no _ _⟩
def Tb347:Tb Tryz.prog:= {T:= [Y2,Y30],mix:=mix,Es:= [],Bs:= [],d:=1}
def t_impl_tiny:Tr (Iv):=
 .leaf ⟨⟨(-1),rfl⟩,⟨1,rfl⟩⟩
theorem r_impl_tiny:Tb347.run B347 [] (Iv)=(t_impl_tiny).opt:=by kernel_rfl
def F_impl_tiny:Iv:=(t_impl_tiny).get
theorem u_impl_tiny:(t_impl_tiny).opt=some (F_impl_tiny):=Tr.zT (by kernel_rfl)
def E_impl_tiny:Ent Tryz.prog:= .of0 Tb347 B347 F_impl_tiny (r_impl_tiny.trans u_impl_tiny)
def B320:Bod Tryz.prog:=⟨320,Tryz.f320,Tryz.f320.body.getD .skip,Tryz.func320,by kernel_rfl,by kernel_rfl,zan.no _ _⟩
def Tb320:Tb Tryz.prog:= {T:= [Y2,Y30],mix:=mix,Es:= [zcP,zcm,zal,ze5,E_impl_ring,E_impl_InsideI,E_impl_series,E_impl_tiny],Bs:= [],d:=1}
def t_impl_SinSeries (a0:Iv):Tr (Iv):=
 .br (!(zep a0 zdN)) (.leaf zF) (.leaf (zY (zK a0 (F_impl_series (zde a0) ⟨2,rfl⟩)) F_impl_tiny))
theorem r_impl_SinSeries (a0:Iv):Tb320.run B320 [enc a0] (Iv)=(t_impl_SinSeries a0).opt:=by kernel_rfl
def zdX:Iv->Iv:=fun a0=>(t_impl_SinSeries a0).get
theorem u_impl_SinSeries (a0:Iv):(t_impl_SinSeries a0).opt=some (zdX a0):=Tr.zT (by kernel_rfl)
def E_impl_SinSeries:Ent Tryz.prog:= .of1 Tb320 B320 (fun _=>true) zdX fun a0 _=>(r_impl_SinSeries a0).trans (u_impl_SinSeries a0)
def B321:Bod Tryz.prog:=⟨321,Tryz.f321,Tryz.f321.body.getD .skip,Tryz.func321,by kernel_rfl,by kernel_rfl,zan.no _ _⟩
def Tb321:Tb Tryz.prog:= {T:= [Y2,Y30],mix:=mix,Es:= [zcP,zal,ze5,E_impl_ring,E_impl_InsideI,E_impl_series,E_impl_tiny],Bs:= [],d:=1}
def t_impl_CosSeries (a0:Iv):Tr (Iv):=
 .br (!(zep a0 zdN)) (.leaf zF) (.leaf (zY (F_impl_series (zde a0) ⟨1,rfl⟩) F_impl_tiny))
theorem r_impl_CosSeries (a0:Iv):Tb321.run B321 [enc a0] (Iv)=(t_impl_CosSeries a0).opt:=by kernel_rfl
def zdZ:Iv->Iv:=fun a0=>(t_impl_CosSeries a0).get
theorem u_impl_CosSeries (a0:Iv):(t_impl_CosSeries a0).opt=some (zdZ a0):=Tr.zT (by kernel_rfl)
def E_impl_CosSeries:Ent Tryz.prog:= .of1 Tb321 B321 (fun _=>true) zdZ fun a0 _=>(r_impl_CosSeries a0).trans (u_impl_CosSeries a0)
def B319:Bod Tryz.prog:=⟨319,Tryz.f319,Tryz.f319.body.getD .skip,Tryz.func319,by kernel_rfl,by kernel_rfl,zan.no _ _⟩
def Tb319:Tb Tryz.prog:= {T:= [Y2,Y30],mix:=mix,Es:= [E_impl_MeetI,E_impl_ring],Bs:= [],d:=1}
def t_impl_inRing (a0:Iv):Tr (Iv):=
 .leaf (ze3 a0 zdN).a
theorem r_impl_inRing (a0:Iv):Tb319.run B319 [enc a0] (Iv)=(t_impl_inRing a0).opt:=by kernel_rfl
def zb9:Iv->Iv:=fun a0=>(t_impl_inRing a0).get
theorem u_impl_inRing (a0:Iv):(t_impl_inRing a0).opt=some (zb9 a0):=Tr.zT (by kernel_rfl)
def E_impl_inRing:Ent Tryz.prog:= .of1 Tb319 B319 (fun _=>true) zb9 fun a0 _=>(r_impl_inRing a0).trans (u_impl_inRing a0)
def B269:Bod Tryz.prog:=⟨269,Tryz.f269,Tryz.f269.body.getD .skip,Tryz.func269,by kernel_rfl,by kernel_rfl,zan.no _ _⟩
def Tb269:Tb Tryz.prog:= {T:= [Y2,Y30],mix:=mix,Es:= [zdj,E_impl_isAngle],Bs:= [],d:=1}
def t_impl_areAngles (a0:Iv):Tr (Bool):=
 .br (zbq a0) (.br (zds a0.lo) (.leaf (zds a0.hi)) (.leaf false)) (.leaf false)
theorem r_impl_areAngles (a0:Iv):Tb269.run B269 [enc a0] (Bool)=(t_impl_areAngles a0).opt:=by kernel_rfl
def zbQ:Iv->Bool:=fun a0=>(t_impl_areAngles a0).get
theorem u_impl_areAngles (a0:Iv):(t_impl_areAngles a0).opt=some (zbQ a0):=Tr.zT (by kernel_rfl)
def E_impl_areAngles:Ent Tryz.prog:= .of1 Tb269 B269 (fun _=>true) zbQ fun a0 _=>(r_impl_areAngles a0).trans (u_impl_areAngles a0)
end
end Go.Proofs.YtfcjhkkpbnobhaaGreat.Ev
namespace Go.Proofs.YtfcjhkkpbnobhaaGreat.Ev
open Go
theorem zbz (a:Iv):zf a=true↔(-1152921504606846976<a.lo.val/\a.lo.val<=a.hi.val/\a.hi.val<1152921504606846976):=by
 simp only [zf,t_spec_l04Ok,Tr.get]
 by_cases h1:(-1152921504606846976:Int)<a.lo.val<;>by_cases h2:a.lo.val<=a.hi.val<;>simp [h1,h2]
theorem okno (a:Iv):zf a=false↔¬(-1152921504606846976<a.lo.val/\a.lo.val<=a.hi.val/\a.hi.val<1152921504606846976):=by
 rw [<- zbz];cases zf a<;>simp
theorem zbT {lo hi:I64} (h: -1152921504606846976<lo.val/\lo.val<=hi.val/\hi.val<1152921504606846976):z8 lo hi=⟨lo,hi⟩:=by
 have:zf ⟨lo,hi⟩=true:=(zbz _).2 h
 simp only [z8,zei,Tr.get,this,Bool.not_true,cond_false]
theorem make_no {lo hi:I64} (h:¬(-1152921504606846976<lo.val/\lo.val<=hi.val/\hi.val<1152921504606846976)):z8 lo hi=zk:=by
 have:zf ⟨lo,hi⟩=false:=(okno _).2 h
 simp only [z8,zei,Tr.get,this,Bool.not_false,cond_true]
theorem make_ext {a b c d:I64} (h1:a.val=c.val) (h2:b.val=d.val):z8 a b=z8 c d:=by rw [rext h1,rext h2]
theorem zbI:zf zk=false:=by decide +kernel
theorem isw_eq (a:Iv):zam a= !(zf a):=by
 simp only [zam,zdn,Tr.get,valid_eq]
theorem zcu:zaL=zk:=rfl
theorem mn_val (a b:I64):(mn a b).val=if b.val<a.val then b.val else a.val:=by unfold mn;by_cases hb:b.val<a.val<;>simp [hb]
theorem mx_val (a b:I64):(mx a b).val=if b.val>a.val then b.val else a.val:=by unfold mx;by_cases hb:b.val>a.val<;>simp [hb]
theorem add_eq (a b:Iv):zY a b=zG a b:=by
 simp only [zY,t_impl_AddI,zG,zdF,Tr.get,areb_eq,zaU,zcL,cond_true]
 cases zf a<;>cases zf b<;>rfl
theorem neg_ok_val {a:Iv} (h:zf a=true):zaE a=⟨.w .i64 (0-a.hi.val),.w .i64 (0-a.lo.val)⟩:=by
 have:=(zbz a).1 h
 simp only [zaE,t_spec_NegI,Tr.get,h,Bool.not_true,cond_false]
 refine zbT ?_
 rw [wi (by omega) (by omega),wi (by omega) (by omega)]
 omega
theorem neg_no {a:Iv} (h:zf a=false):zaE a=zk:=by
 simp only [zaE,t_spec_NegI,Tr.get,h,Bool.not_false,cond_true]
theorem neg_isok (a:Iv):zf (zaE a)=zf a:=by
 cases h:zf a
 ·rw [neg_no h];exact zbI
 ·have:=(zbz a).1 h
  rw [neg_ok_val h]
  refine (zbz _).2 ?_
  simp only
  rw [wi (by omega) (by omega),wi (by omega) (by omega)]
  omega
theorem sub_eq (a b:Iv):zax a b=zR a b:=by
 simp only [zax,t_impl_SubI,Tr.get,add_eq,neg_eq,zG,zdF,zR,t_spec_SubI,neg_isok]
 cases ha:zf a
 ·rfl
 cases hb:zf b
 ·rfl
 have h1:=(zbz a).1 ha
 have h2:=(zbz b).1 hb
 simp only [Bool.not_true,cond_false,neg_ok_val hb]
 refine make_ext ?_ ?_
 ·rw [wi (n:=0-b.hi.val) (by omega) (by omega)];congr 1;congr 1;omega
 ·rw [wi (n:=0-b.lo.val) (by omega) (by omega)];congr 1;congr 1;omega
theorem zbU (n:I64):zy n=zm n:=by
 simp only [zy,t_impl_Integer,zm,t_spec_Integer,Tr.get,zbX,zdg,zcL,zaU,cond_true]
 by_cases h: -268435455<=n.val/\n.val<=268435455
 ·have h': -268435456<=n.val/\n.val<=268435456:=by omega
  simp only [h,h',and_self,decide_true,Bool.not_true,cond_false]
 ·by_cases h': -268435456<=n.val/\n.val<=268435456
  ·simp only [h,h',and_self,decide_true,decide_false,Bool.not_true,Bool.not_false,cond_false,cond_true]
   refine make_no ?_
   rw [wi (by omega) (by omega)]
   omega
  ·simp only [h,h',decide_false,Bool.not_false,cond_true]
theorem hull_eq (a b:Iv):zaC a b=zac a b:=by
 simp only [zaC,t_impl_HullI,zac,t_spec_HullI,Tr.get,areb_eq,zaU]
 cases ha:zf a
 ·rfl
 cases hb:zf b
 ·rfl
 have h1:=(zbz a).1 ha
 have h2:=(zbz b).1 hb
 simp only [Bool.and_self,Bool.not_true,cond_false,<- min_eq,<- max_eq]
 refine (zbT ?_).symm
 rw [mn_val,mx_val]
 split<;>split<;>omega
theorem meet_eq (a b:Iv):ze3 a b=za9 a b:=by
 simp only [ze3,t_impl_MeetI,za9,zd3,Tr.get,isw_eq,zaU,min_eq,max_eq]
theorem overlap_eq (a b:Iv):zc6 a b=zav a b:=by
 simp only [zc6,t_impl_OverlapI,zav,zeB,Tr.get,meet_eq]
theorem inside_eq (a b:Iv):zep a b=zaP a b:=by
 simp only [zep,t_impl_InsideI,zaP,zdm,Tr.get,isw_eq]
 cases zf a<;>cases zf b<;>rfl
theorem ring_eq:zdN=zS:=rfl
theorem tiny_eq:F_impl_tiny=zbC:=rfl
theorem angle_eq (n:I64):zds n=za4 n:=by
 simp only [zds,t_impl_isAngle,za4,zdC,Tr.get,zbX,zdg]
theorem angle_iff (n:I64):za4 n=true↔(-1099511627776<=n.val/\n.val<=1099511627776):=by
 simp only [za4,zdC,Tr.get,zdg,decide_eq_true_eq]
theorem fits_eq (a:Iv):zbQ a=zco a:=by
 simp only [zbQ,t_impl_areAngles,zco,t_spec_l06Fits,Tr.get,angle_eq,valid_eq]
 rfl
theorem ediv_bd1 {x d:Int} (hd:0<d) (h: -9223372036854775808<=x/\x<=9223372036854775807): -9223372036854775808<=x/d/\x/d<=9223372036854775807:=by
 have:=ediv_bd (M:=9223372036854775808) hd h.1 (by omega)
 refine ⟨this.1,?_⟩
 by_cases h0:0<=x
 ·have:=Int.ediv_le_self d h0;omega
 ·have:=Int.ediv_neg_of_neg_of_pos (a:=x) (by omega) hd;omega
theorem or_comm' (a b:Int):zbv .or .u64 a b=zbv .or .u64 b a:=by
 show ((BitVec.ofInt 64 a ||| BitVec.ofInt 64 b).toNat:Int)=((BitVec.ofInt 64 b ||| BitVec.ofInt 64 a).toNat:Int)
 rw [BitVec.or_comm]
theorem shift_val (w:Wide) (n:I64) (k:Nat) (hn:n.val=k) (h1:1<=k) (h2:k<=63):wv (zc4 w n)=wv w/2^k:=by
 have e0:(n.val==0)=false:=by simp;omega
 have e1:decide (n.val<64)=true:=by simp;omega
 have e2:(Rng.w .u64 n.val).val=k:=by rw [wu (by omega) (by omega),hn]
 have e3:(Rng.w .u64 ((Rng.w .i64 (64-n.val)).val)).val=((64-k:Nat):Int):=by rw [wi (by omega) (by omega),wu (by omega) (by omega)];omega
 simp only [zc4,zfV,Tr.get,e0,e1,cond_true,cond_false,e2,e3,Int.toNat_natCast,Nat.min_eq_left (show k<=64 by omega),Nat.min_eq_left (show 64-k<=64 by omega),fdpow]
 have bh:=w.hi.bd
 have bl:=w.lo.ubd
 have hp:(2:Int)^k*2^(64-k)=18446744073709551616:=by
  rw [<- Int.pow_add,show k+(64-k)=64 by omega];rfl
 have hp0:(0:Int)<2^k:=Int.pow_pos (by decide)
 have hq0:(0:Int)<2^(64-k):=Int.pow_pos (by decide)
 generalize hP:(2:Int)^k=P at hp hp0
 generalize hQ:(2:Int)^(64-k)=Q at hp hq0
 have l1:0<=w.lo.val/P:=Int.ediv_nonneg bl.1 (by omega)
 have l2:w.lo.val/P<Q:=by
  refine Int.ediv_lt_of_lt_mul hp0 ?_
  rw [Int.mul_comm,hp];omega
 have hhb: -9223372036854775808<=w.hi.val/P/\w.hi.val/P<=9223372036854775807:=ediv_bd1 hp0 bh
 have hQle:Q<=18446744073709551616:=by
  have:Q*1<=Q*P:=Int.mul_le_mul_of_nonneg_left (by omega) (by omega)
  rw [Int.mul_comm Q P,hp] at this;omega
 have wlo:(Rng.w .u64 (w.lo.val/P)).val=w.lo.val/P:=wu l1 (by omega)
 have whi:(Rng.w .u64 ((Rng.w .u64 w.hi.val).val*Q)).val=(w.hi.val%P)*Q:=by
  rw [zbh,zbh]
  have:(18446744073709551616:Int)=P*Q:=hp.symm
  rw [this]
  have e:w.hi.val%(P*Q)*Q%(P*Q)=w.hi.val*Q%(P*Q):=by
   rw [Int.mul_emod,Int.emod_emod_of_dvd _ (Int.dvd_refl _),<- Int.mul_emod]
  rw [e,Int.mul_comm w.hi.val Q,Int.mul_comm P Q,Int.mul_emod_mul_of_pos _ _ hq0,Int.mul_comm]
 have hm0:0<=w.hi.val%P:=Int.emod_nonneg _ (by omega)
 have hm1:w.hi.val%P<P:=Int.emod_lt_of_pos _ hp0
 have hmq:(w.hi.val%P)*Q<=(P-1)*Q:=Int.mul_le_mul_of_nonneg_right (by omega) (by omega)
 have hsum:(w.hi.val%P)*Q+w.lo.val/P<=18446744073709551615:=by
  have:(P-1)*Q=18446744073709551616-Q:=by rw [Int.sub_mul,hp,Int.one_mul]
  omega
 have hor:zbv .or .u64 (w.lo.val/P) (w.hi.val%P*Q)=w.hi.val%P*Q+w.lo.val/P:=by
  rw [or_comm',or_add (64-k) (w.hi.val%P).toNat (by rw [hQ,Int.toNat_of_nonneg hm0,Int.mul_comm]) l1 (by rw [hQ];exact l2) hsum]
 simp only [wv]
 rw [wi hhb.1 hhb.2,wlo,whi,hor,wu (by have:=Int.mul_nonneg hm0 (show (0:Int)<=Q by omega);omega) hsum]
 have hdm:w.hi.val=P*(w.hi.val/P)+w.hi.val%P:=(Int.mul_ediv_add_emod _ _).symm
 have key:w.hi.val*18446744073709551616+w.lo.val=(w.hi.val/P*18446744073709551616+w.hi.val%P*Q)*P+w.lo.val:=by
  rw [Int.add_mul]
  have e1:w.hi.val%P*Q*P=w.hi.val%P*18446744073709551616:=by rw [Int.mul_assoc,Int.mul_comm Q P,hp]
  have e2:w.hi.val/P*18446744073709551616*P=P*(w.hi.val/P)*18446744073709551616:=by rw [Int.mul_comm _ P,Int.mul_assoc]
  rw [e1,e2,<- Int.add_mul,<- hdm]
 rw [key,Int.add_comm _ w.lo.val,Int.add_mul_ediv_right _ _ (by omega)]
 omega
theorem mf_val (a b n:I64) (k:Nat) (hn:n.val=k) (h1:1<=k) (h2:k<=63):zaw a b n=narrow (a.val*b.val/2^k):=by
 have hin:zah n ⟨0,rfl⟩ ⟨126,rfl⟩=true:=by rw [zdg];simp;omega
 have hb:=mul_bd a.bd b.bd
 simp only [zaw,zfX,Tr.get,hin,Bool.not_true,cond_false,mul_spec,int_spec,shift_val _ n k hn h1 h2]
 rw [wv_mkW (by omega) (by omega)]
theorem mf32 (a b:I64):zaw a b ⟨32,rfl⟩=narrow (a.val*b.val/4294967296):=mf_val a b _ 32 rfl (by decide) (by decide)
theorem mf30 (a b:I64):zaw a b ⟨30,rfl⟩=narrow (a.val*b.val/1073741824):=mf_val a b _ 30 rfl (by decide) (by decide)
theorem mf29 (a b:I64):zaw a b ⟨29,rfl⟩=narrow (a.val*b.val/536870912):=mf_val a b _ 29 rfl (by decide) (by decide)
theorem zfk {v:Int} (h: -9223372036854775808<=v) (h':v<=9223372036854775807):narrow v=⟨.w .i64 v,true⟩:=by unfold narrow;rw [if_pos ⟨h,h'⟩]
theorem turn_lo {k:I64} (h:0<k.val) (h':k.val<=4096):zaw k ⟨7244019458077122842,rfl⟩ ⟨30,rfl⟩=⟨.w .i64 (k.val*7244019458077122842/1073741824),true⟩ /\
  0<=k.val*7244019458077122842/1073741824/\k.val*7244019458077122842/1073741824<=27633759721874:=by
 have:0<=k.val*7244019458077122842/1073741824/\k.val*7244019458077122842/1073741824<=27633759721874:=by omega
 exact ⟨by rw [mf30];exact zfk (v:=k.val*7244019458077122842/1073741824) (by omega) (by omega),this⟩
theorem turn_p (k:I64) (h:0<=k.val) (h':k.val<=4096):∃x:Iv,(zda k).opt=some x/\(zfu k).opt=some x/\zf x=true:=by
 have hw:zau k ⟨(-4096),rfl⟩ ⟨4096,rfl⟩=true:=by rw [zbX];simp;omega
 have hn:decide (k.val<0)=false:=by simp;omega
 simp only [zda,zfu,Tr.opt,hw,hn,Bool.not_true,cond_false,mulfloor_F]
 by_cases h0:k.val=0
 ·have e0:(k.val==0)=true:=by simp [h0]
  simp only [e0,cond_true]
  exact ⟨_,rfl,rfl,by decide +kernel⟩
 ·have e0:(k.val==0)=false:=by simp [h0]
  obtain ⟨e,b1,b2⟩:=turn_lo (k:=k) (by omega) h'
  simp only [e0,cond_false,e]
  refine ⟨_,rfl,rfl,(zbz _).2 ?_⟩
  simp only
  rw [wi (n:=k.val*7244019458077122842/1073741824) (by omega) (by omega),wi (by omega) (by omega)]
  omega
theorem turn_ok (k:I64) (h: -4096<=k.val) (h':k.val<=4096):∃x:Iv,(zcQ k).opt=some x/\(zeU k).opt=some x/\zf x=true:=by
 have hw:zau k ⟨(-4096),rfl⟩ ⟨4096,rfl⟩=true:=by rw [zbX];simp;omega
 by_cases hn:k.val<0
 ·have e1:(Rng.w .i64 (0-k.val)).val=0-k.val:=wi (by omega) (by omega)
  obtain ⟨x,h1,h2,h3⟩:=turn_p (.w .i64 (0-k.val)) (by omega) (by omega)
  have g1:zdV (.w .i64 (0-k.val))=true:=by unfold zdV;rw [h1];rfl
  have g2:G_impl_TurnI_p (.w .i64 (0-k.val))=true:=by unfold G_impl_TurnI_p;rw [h2];rfl
  have f1:zbP (.w .i64 (0-k.val))=x:=Tr.zar h1
  have f2:F_impl_TurnI_p (.w .i64 (0-k.val))=x:=Tr.zar h2
  have e0:(k.val==0)=false:=by simp;omega
  have hd:decide (k.val<0)=true:=by simpa using hn
  refine ⟨zaE x,?_,?_,by rw [neg_isok,h3]⟩
  ·simp only [zcQ,Tr.opt,e0,hd,g1,f1,cond_true,cond_false,neg_ok_val h3]
  ·simp only [zeU,Tr.opt,hw,hd,g2,f2,cond_true,cond_false,Bool.not_true,neg_eq]
 ·obtain ⟨x,h1,h2,h3⟩:=turn_p k (by omega) h'
  have hd:decide (k.val<0)=false:=by simpa using hn
  refine ⟨x,?_,?_,h3⟩
  ·simp only [zda,Tr.opt,hd] at h1
   simp only [zcQ,Tr.opt,hd]
   exact h1
  ·simp only [zfu,Tr.opt,hd,hw] at h2
   simp only [zeU,Tr.opt,hd,hw]
   exact h2
theorem turnI_ok (k:I64):∃x:Iv,(zfW k).opt=some x/\(zeU k).opt=some x:=by
 by_cases h: -4096<=k.val/\k.val<=4096
 ·obtain ⟨x,h1,h2,h3⟩:=turn_ok k h.1 h.2
  have hi:zah k ⟨(-4096),rfl⟩ ⟨4096,rfl⟩=true:=by rw [zdg];simpa using h
  have g:zcn k=true:=by unfold zcn;rw [h1];rfl
  have f:zaQ k=x:=Tr.zar h1
  exact ⟨x,by simp only [zfW,Tr.opt,hi,g,f,Bool.not_true,cond_false,cond_true],h2⟩
 ·have hi:zah k ⟨(-4096),rfl⟩ ⟨4096,rfl⟩=false:=by rw [zdg];simpa using h
  have hw:zau k ⟨(-4096),rfl⟩ ⟨4096,rfl⟩=false:=by rw [zbX];simpa using h
  exact ⟨zk,by simp only [zfW,Tr.opt,hi,Bool.not_false,cond_true,zcu],by simp only [zeU,Tr.opt,hw,Bool.not_false,cond_true,zaU]⟩
theorem tt_turnI_spec (k:I64):(zfW k).opt=some (zU k):=by
 obtain ⟨x,h1,_⟩:=turnI_ok k;exact zeu h1
theorem tt_turnI_impl (k:I64):(zeU k).opt=some (za6 k):=by
 obtain ⟨x,_,h1⟩:=turnI_ok k;exact zeu h1
theorem turnI_eq (k:I64):za6 k=zU k:=by
 obtain ⟨x,h1,h2⟩:=turnI_ok k
 exact (Tr.zar h2).trans (Tr.zar h1).symm
theorem quarter_ok (n:I64):(zdQ n).opt=some (zca n):=by
 simp only [zdQ,Tr.opt,zca,zfi,Tr.get,angle_eq]
 cases ha:za4 n
 ·rfl
 have hb:=(angle_iff n).1 ha
 have e1:(Rng.w .i64 (n.val+3373259426)).val=n.val+3373259426:=wi (by omega) (by omega)
 have hs:Int.sign 6746518852=1:=rfl
 have q1:(Rng.w .i64 ((n.val+3373259426).tdiv 6746518852)).val=(n.val+3373259426).tdiv 6746518852:=by
  refine wi ?_ ?_
  ·have:=Int.tdiv_eq_ediv (a:=n.val+3373259426) (b:=6746518852);split at this<;>omega
  ·have:=Int.tdiv_eq_ediv (a:=n.val+3373259426) (b:=6746518852);split at this<;>omega
 have hm:=Int.mul_tdiv_add_tmod (n.val+3373259426) 6746518852
 have m1:(Rng.w .i64 ((n.val+3373259426).tmod 6746518852)).val=(n.val+3373259426).tmod 6746518852:=by
  refine wi ?_ ?_
  ·have:=Int.tdiv_eq_ediv (a:=n.val+3373259426) (b:=6746518852);split at this<;>omega
  ·have:=Int.tdiv_eq_ediv (a:=n.val+3373259426) (b:=6746518852);split at this<;>omega
 have q2:(Rng.w .i64 ((n.val+3373259426).tdiv 6746518852*6746518852)).val=(n.val+3373259426).tdiv 6746518852*6746518852:=by
  refine wi ?_ ?_
  ·have:=Int.tdiv_eq_ediv (a:=n.val+3373259426) (b:=6746518852);split at this<;>omega
  ·have:=Int.tdiv_eq_ediv (a:=n.val+3373259426) (b:=6746518852);split at this<;>omega
 have z:((6746518852:Int)==0)=false:=rfl
 simp only [Bool.not_true,cond_false,G_spec_l06Floor,F_spec_l06Floor,zfT,Tr.opt,Tr.get,e1,q1,m1,q2,z,cond_false]
 by_cases hc:(n.val+3373259426).tmod 6746518852<0
 ·have hc':(n.val+3373259426).tdiv 6746518852*6746518852>n.val+3373259426:=by omega
  simp only [hc,hc',decide_true,cond_true,Option.isSome_some]
 ·have hc':¬(n.val+3373259426).tdiv 6746518852*6746518852>n.val+3373259426:=by omega
  simp only [hc,hc',decide_false,cond_false,cond_true,Option.isSome_some]
theorem quarter_eq (n:I64):zca n=zaq n:=(Tr.zar (quarter_ok n)).symm
theorem tt_quarter_spec (n:I64):(zdQ n).opt=some (zaq n):=zeu (quarter_ok n)
theorem quarter_bd (n:I64): -200<=(zaq n).val/\(zaq n).val<=200:=by
 rw [<- quarter_eq]
 simp only [zca,zfi,Tr.get,angle_eq]
 cases ha:za4 n
 ·simp only [Bool.not_false,cond_true];omega
 have hb:=(angle_iff n).1 ha
 have e1:(Rng.w .i64 (n.val+3373259426)).val=n.val+3373259426:=wi (by omega) (by omega)
 have hs:Int.sign 6746518852=1:=rfl
 have hq: -170<=(n.val+3373259426).tdiv 6746518852/\(n.val+3373259426).tdiv 6746518852<=170:=by
  have:=Int.tdiv_eq_ediv (a:=n.val+3373259426) (b:=6746518852);split at this<;>omega
 have q1:(Rng.w .i64 ((n.val+3373259426).tdiv 6746518852)).val=(n.val+3373259426).tdiv 6746518852:=wi (by omega) (by omega)
 simp only [Bool.not_true,cond_false,e1,q1]
 cases decide ((Rng.w .i64 ((n.val+3373259426).tdiv 6746518852*6746518852)).val>n.val+3373259426)
 ·simp only [cond_false,q1];omega
 ·simp only [cond_true];rw [wi (by omega) (by omega)];omega
end Go.Proofs.YtfcjhkkpbnobhaaGreat.Ev
namespace Go.Proofs.YtfcjhkkpbnobhaaGreat.Ev
open Go Go.RowKit
set_option maxRecDepth 100000
section
variable [Amb]
def ET_spec_TurnI:Ent Tryz.prog:= .of1 Tb51 B51 (fun _=>true) zU fun a0 _=>(r_spec_TurnI a0).trans (tt_turnI_spec a0)
def zeh:Ent Tryz.prog:= .of1 Tb240 B240 (fun _=>true) za6 fun a0 _=>(r_impl_TurnI a0).trans (tt_turnI_impl a0)
def ET_spec_QuarterOf:Ent Tryz.prog:= .of1 Tb185 B185 (fun _=>true) zaq fun a0 _=>(r_spec_QuarterOf a0).trans (tt_quarter_spec a0)
def B261:Bod Tryz.prog:=⟨261,Tryz.f261,Tryz.f261.body.getD .skip,Tryz.func261,by kernel_rfl,by kernel_rfl,zan.no _ _⟩
def Tb261:Tb Tryz.prog:= {T:= [Y2,Y30],mix:=mix,Es:= [],Bs:= [],d:=1}
def zeT (a0:I64):Tr (Iv):=
 .leaf ⟨a0,a0⟩
theorem r_spec_l05At (a0:I64):Tb261.run B261 [enc a0] (Iv)=(zeT a0).opt:=by kernel_rfl
def zH:I64->Iv:=fun a0=>(zeT a0).get
theorem u_spec_l05At (a0:I64):(zeT a0).opt=some (zH a0):=Tr.zT (by kernel_rfl)
def E_spec_l05At:Ent Tryz.prog:= .of1 Tb261 B261 (fun _=>true) zH fun a0 _=>(r_spec_l05At a0).trans (u_spec_l05At a0)
def B184:Bod Tryz.prog:=⟨184,Tryz.f184,Tryz.f184.body.getD .skip,Tryz.func184,by kernel_rfl,by kernel_rfl,zan.no _ _⟩
def Tb184:Tb Tryz.prog:= {T:= [Y2,Y30],mix:=mix,Es:= [ET_spec_TurnI,E_spec_NegI,E_spec_SubI,E_spec_l06Ring,ET_spec_QuarterOf,E_spec_l06Angle,E_spec_l05At,E_spec_l06Meet,E_spec_SinSeries,E_spec_CosSeries],Bs:= [],d:=1}
def t_spec_l06At (a0:I64) (a1:I64):Tr (Iv):=
 .br (!(za4 a0)) (.leaf zS) (let c3:=zaq a0;let c6:=zR (zH a0) (zU c3);let c8:=(Rng.w .i64 (zbv .and .i64 (Rng.w .i64 (c3.val+a1.val)).val 3));.br (c8.val==0) (.leaf (zaD (zbe c6))) (.br (c8.val==1) (.leaf (zaD (zbf c6))) (.br (c8.val==2) (.leaf (zaD (zaE (zbe c6)))) (.leaf (zaD (zaE (zbf c6)))))))
theorem r_spec_l06At (a0:I64) (a1:I64):Tb184.run B184 [enc a0,enc a1] (Iv)=(t_spec_l06At a0 a1).opt:=by kernel_rfl
def zbp:I64->I64->Iv:=fun a0 a1=>(t_spec_l06At a0 a1).get
theorem u_spec_l06At (a0:I64) (a1:I64):(t_spec_l06At a0 a1).opt=some (zbp a0 a1):=Tr.zT (by kernel_rfl)
def E_spec_l06At:Ent Tryz.prog:= .of2 Tb184 B184 (fun _ _=>true) zbp fun a0 a1 _=>(r_spec_l06At a0 a1).trans (u_spec_l06At a0 a1)
def B223:Bod Tryz.prog:=⟨223,Tryz.f223,Tryz.f223.body.getD .skip,Tryz.func223,by kernel_rfl,by kernel_rfl,zan.no _ _⟩
def Tb223:Tb Tryz.prog:= {T:= [Y2,Y30],mix:=mix,Es:= [],Bs:= [],d:=1}
def t_impl_at (a0:I64):Tr (Iv):=
 .leaf ⟨a0,a0⟩
theorem r_impl_at (a0:I64):Tb223.run B223 [enc a0] (Iv)=(t_impl_at a0).opt:=by kernel_rfl
def za8:I64->Iv:=fun a0=>(t_impl_at a0).get
theorem u_impl_at (a0:I64):(t_impl_at a0).opt=some (za8 a0):=Tr.zT (by kernel_rfl)
def zeS:Ent Tryz.prog:= .of1 Tb223 B223 (fun _=>true) za8 fun a0 _=>(r_impl_at a0).trans (u_impl_at a0)
def B271:Bod Tryz.prog:=⟨271,Tryz.f271,Tryz.f271.body.getD .skip,Tryz.func271,by kernel_rfl,by kernel_rfl,zan.no _ _⟩
def Tb271:Tb Tryz.prog:= {T:= [Y2,Y30],mix:=mix,Es:= [zcO,E_impl_NegI,zeS,zeh,E_impl_ring,E_impl_isAngle,E_impl_QuarterOf,E_impl_inRing,E_impl_SinSeries,E_impl_CosSeries],Bs:= [],d:=1}
def zfJ (a0:I64) (a1:I64):Tr (Iv):=
 .br (!(zds a0)) (.leaf zdN) (let c3:=zca a0;let c6:=zax (za8 a0) (za6 c3);let c8:=(Rng.w .i64 (zbv .and .i64 (Rng.w .i64 (c3.val+a1.val)).val 3));.br (c8.val==0) (.leaf (zb9 (zdX c6))) (.br (c8.val==1) (.leaf (zb9 (zdZ c6))) (.br (c8.val==2) (.leaf (zb9 (zcN (zdX c6)))) (.leaf (zb9 (zcN (zdZ c6)))))))
theorem r_impl_circleValue (a0:I64) (a1:I64):Tb271.run B271 [enc a0,enc a1] (Iv)=(zfJ a0 a1).opt:=by kernel_rfl
def zb4:I64->I64->Iv:=fun a0 a1=>(zfJ a0 a1).get
theorem u_impl_circleValue (a0:I64) (a1:I64):(zfJ a0 a1).opt=some (zb4 a0 a1):=Tr.zT (by kernel_rfl)
def E_impl_circleValue:Ent Tryz.prog:= .of2 Tb271 B271 (fun _ _=>true) zb4 fun a0 a1 _=>(r_impl_circleValue a0 a1).trans (u_impl_circleValue a0 a1)
structure zcF where
 x0:I64
 x1:I64
 x2:I64
 x3:I64
 x4:I64
 x5:I64
 x6:I64
 x7:I64
instance:Inhabited zcF:=⟨⟨default,default,default,default,default,default,default,default⟩⟩
def st_spec_l06Over_5 (x:zcF):St:=⟨[(1,.i64 x.x0),(2,.ptr 0 0),(4,.ptr 1 0),(5,.ptr 2 0),(6,.i64 x.x1)],52,⟨[(0,[.i64 x.x2,.i64 x.x3]),(1,[.i64 x.x4,.i64 x.x5]),(2,[.i64 x.x6,.i64 x.x7])],3,0⟩⟩
def rd_spec_l06Over_5:St->Option zcF:=fun s=>match s with
 | ⟨[(1,.i64 x0),(2,.ptr 0 0),(4,.ptr 1 0),(5,.ptr 2 0),(6,.i64 x1)],52,⟨[(0,[.i64 x2,.i64 x3]),(1,[.i64 x4,.i64 x5]),(2,[.i64 x6,.i64 x7])],3,0⟩⟩=>some ⟨x0,x1,x2,x3,x4,x5,x6,x7⟩
 | _=>none
def zdU (x:zcF):Tr (Lp zcF):=
 .br (decide (x.x1.val<=(Rng.w .i64 ((zaq x.x3).val+1)).val)) (.br (!(zav (zU x.x1) ⟨x.x2,x.x3⟩)) (.leaf (.again ⟨x.x0,(Rng.w .i64 (x.x1.val+1)),x.x2,x.x3,x.x4,x.x5,x.x6,x.x7⟩)) (let c15:=(Rng.w .i64 (zbv .and .i64 (Rng.w .i64 (x.x1.val+x.x0.val)).val 3));.br (c15.val==1) (let c17:=zac ⟨x.x6,x.x7⟩ (zm ⟨1,rfl⟩);.leaf (.again ⟨x.x0,(Rng.w .i64 (x.x1.val+1)),x.x2,x.x3,x.x4,x.x5,c17.lo,c17.hi⟩)) (.br (c15.val==3) (let c20:=zac ⟨x.x6,x.x7⟩ (zm ⟨(-1),rfl⟩);.leaf (.again ⟨x.x0,(Rng.w .i64 (x.x1.val+1)),x.x2,x.x3,x.x4,x.x5,c20.lo,c20.hi⟩)) (.leaf (.again ⟨x.x0,(Rng.w .i64 (x.x1.val+1)),x.x2,x.x3,x.x4,x.x5,x.x6,x.x7⟩))))) (.leaf (.out ⟨x.x0,x.x1,x.x2,x.x3,x.x4,x.x5,x.x6,x.x7⟩))
def G_spec_l06Over_5 (x:zcF):Bool:=(Lf zdU 1000 x).opt.isSome
def L_spec_l06Over_5 (x:zcF):zcF:=(Lf zdU 1000 x).get
def TbL_spec_l06Over_5:Tb Tryz.prog:= {T:= [Y2,Y30],mix:=mix,Es:= [E_spec_Integer,E_spec_OverlapI,ET_spec_TurnI,E_spec_HullI,ET_spec_QuarterOf],Bs:= [],d:=1}
def P_spec_l06Over_5:LpF:=loopF [1,2,4,5,6] [0,1,2] 3 rd_spec_l06Over_5 st_spec_l06Over_5 (.exit 0) G_spec_l06Over_5 L_spec_l06Over_5
theorem lok_spec_l06Over_5:LoopOk Tryz.prog (loopAt (Tryz.f101.body.getD .skip) 0) P_spec_l06Over_5:=loopF_ok (t:=TbL_spec_l06Over_5) (lt:=fun _=>none) (body:=zdU) (n:=1000) (by intro h;cases h) (fun _ _ _ h=>by cases h)
 (by intro s x h;unfold rd_spec_l06Over_5 at h;split at h<;>cases h;rfl) (fun x b cs h=>lk_lt (l:=(st_spec_l06Over_5 x).mm.blks) (by kernel_rfl) h) (by intro x;kernel_rfl) (fun x h=>Tr.get_some h)
def B101:Bod Tryz.prog:=⟨101,Tryz.f101,Tryz.f101.body.getD .skip,Tryz.func101,by kernel_rfl,by kernel_rfl,⟨ltOf [(5,P_spec_l06Over_5)],zan.of (ks:= [5]) (by kernel_rfl) (by
 intro i k h f hf
 match i,h with
 | 0,h=>cases h;obtain rfl:P_spec_l06Over_5=f:=Option.some.inj hf;exact lok_spec_l06Over_5
 | n+1,h=>simp at h)⟩⟩
def Tb101:Tb Tryz.prog:= {T:= [Y2,Y30],mix:=mix,Es:= [E_spec_l06Fits,E_spec_l06Ring,E_spec_HullI,E_spec_l06At,ET_spec_QuarterOf],Bs:= [],d:=1}
def t_spec_l06Over (a0:Iv) (a1:I64):Tr (Iv):=
 .br (!(zco a0)) (.leaf zS) (let c5:=zac (zbp a0.lo a1) (zbp a0.hi a1);let c7:=(Rng.w .i64 ((zaq a0.lo).val-1));.br (G_spec_l06Over_5 ⟨a1,c7,a0.lo,a0.hi,⟨0,rfl⟩,⟨0,rfl⟩,c5.lo,c5.hi⟩) (let c23:=L_spec_l06Over_5 ⟨a1,c7,a0.lo,a0.hi,⟨0,rfl⟩,⟨0,rfl⟩,c5.lo,c5.hi⟩;.leaf ⟨c23.x6,c23.x7⟩) (.bad))
theorem r_spec_l06Over (a0:Iv) (a1:I64):Tb101.run B101 [enc a0,enc a1] (Iv)=(t_spec_l06Over a0 a1).opt:=by kernel_rfl
def zfz:Iv->I64->Iv:=fun a0 a1=>(t_spec_l06Over a0 a1).get
end
end Go.Proofs.YtfcjhkkpbnobhaaGreat.Ev
