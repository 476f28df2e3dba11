/- The law FnRhumbs gives true, whatever bytes come in. No conditions. (One of the texts of its proof, put together by a program of this session.) -/
import Derived.Test.YtfcjhkkpbnobhaaGreatQW1
import Derived.Test.YtfcjhkkpbnobhaaGreatQPA
set_option linter.unusedSectionVars false
set_option linter.unusedSimpArgs false
set_option linter.unusedVariables false
noncomputable section
namespace Go.Proofs.YtfcjhkkpbnobhaaGreat.Ev
open Go Go.RowKit
set_option maxRecDepth 100000
section
variable [Amb]
def ET_spec_MulDivFloor:Ent Tryz.prog:= .of3 Tb143 B143 (fun _ _ _=>true) zaS fun a0 a1 a2 _=>(r_spec_MulDivFloor a0 a1 a2).trans (tt_md_spec a0 a1 a2)
def ET_impl_MulDivFloor:Ent Tryz.prog:= .of3 Tb285 B285 (fun _ _ _=>true) zbk fun a0 a1 a2 _=>(r_impl_MulDivFloor a0 a1 a2).trans (tt_md_impl a0 a1 a2)
def ET_spec_Quotient:Ent Tryz.prog:= .of2 Tb134 B134 (fun _ _=>true) zO fun a0 a1 _=>(r_spec_Quotient a0 a1).trans (tt_q_spec a0 a1)
def ET_impl_Quotient:Ent Tryz.prog:= .of2 Tb203 B203 (fun _ _=>true) zam fun a0 a1 _=>(r_impl_Quotient a0 a1).trans (tt_q_impl a0 a1)
def ET_spec_RadiansOf:Ent Tryz.prog:= .of1 Tb45 B45 (fun _=>true) zaa fun a0 _=>(r_spec_RadiansOf a0).trans (tt_rad_spec a0)
def ET_impl_RadiansOf:Ent Tryz.prog:= .of1 Tb217 B217 (fun _=>true) zdU fun a0 _=>(r_impl_RadiansOf a0).trans (tt_rad_impl a0)
def B259:Bod Tryz.prog:=⟨259,Tryz.f259,Tryz.f259.body.getD .skip,Tryz.func259,by kernel_rfl,by kernel_rfl,zae.no _ _⟩
def Tb259:Tb Tryz.prog:= {T:= [Y2,Y132,Y140,Y148],mix:=mix,Es:= [],Bs:= [],d:=1}
def zfH (a0:Wide) (a1:I64):Tr (Wide):=
 .br (a1.val==0) (.leaf a0) (.br (decide (a1.val<64)) (.leaf ⟨(Rng.w .i64 (a0.hi.val.fdiv (2^min ((Rng.w .u64 (a1.val)).val).toNat 64))),(Rng.w .u64 (zbf .or .u64 (Rng.w .u64 (a0.lo.val.fdiv (2^min ((Rng.w .u64 (a1.val)).val).toNat 64))).val (Rng.w .u64 ((Rng.w .u64 (a0.hi.val)).val*(2^min ((Rng.w .u64 ((Rng.w .i64 (64-a1.val)).val)).val).toNat 64))).val))⟩) (.leaf ⟨(Rng.w .i64 (a0.hi.val.fdiv 9223372036854775808)),(Rng.w .u64 ((Rng.w .i64 (a0.hi.val.fdiv (2^min ((Rng.w .u64 ((Rng.w .i64 (a1.val-64)).val)).val).toNat 64))).val))⟩))
theorem r_spec_l02Shift (a0:Wide) (a1:I64):Tb259.run B259 [enc a0,enc a1] (Wide)=(zfH a0 a1).opt:=by kernel_rfl
def zcW:Wide->I64->Wide:=fun a0 a1=>(zfH a0 a1).get
theorem u_spec_l02Shift (a0:Wide) (a1:I64):(zfH a0 a1).opt=some (zcW a0 a1):=Tr.zL (by kernel_rfl)
def E_spec_l02Shift:Ent Tryz.prog:= .of2 Tb259 B259 (fun _ _=>true) zcW fun a0 a1 _=>(r_spec_l02Shift a0 a1).trans (u_spec_l02Shift a0 a1)
def B179:Bod Tryz.prog:=⟨179,Tryz.f179,Tryz.f179.body.getD .skip,Tryz.func179,by kernel_rfl,by kernel_rfl,zae.no _ _⟩
def Tb179:Tb Tryz.prog:= {T:= [],mix:=mix,Es:= [zcc,E_spec_l02Mul,E_spec_l02Int,E_spec_l02Shift],Bs:= [],d:=1}
def zfL (a0:I64) (a1:I64) (a2:I64):Tr (T2 I64 Bool):=
 .br (!(zar a2 ⟨0,rfl⟩ ⟨126,rfl⟩)) (.leaf ⟨⟨0,rfl⟩,false⟩) (let c4:=F_spec_l02Int (zcW (zcn a0 a1) a2);.leaf ⟨c4.a,c4.b⟩)
theorem r_spec_MulFloor (a0:I64) (a1:I64) (a2:I64):Tb179.run B179 [enc a0,enc a1,enc a2] (T2 I64 Bool)=(zfL a0 a1 a2).opt:=by kernel_rfl
def zaq:I64->I64->I64->T2 I64 Bool:=fun a0 a1 a2=>(zfL a0 a1 a2).get
theorem u_spec_MulFloor (a0:I64) (a1:I64) (a2:I64):(zfL a0 a1 a2).opt=some (zaq a0 a1 a2):=Tr.zL (by kernel_rfl)
def zeE:Ent Tryz.prog:= .of3 Tb179 B179 (fun _ _ _=>true) zaq fun a0 a1 a2 _=>(r_spec_MulFloor a0 a1 a2).trans (u_spec_MulFloor a0 a1 a2)
def B97:Bod Tryz.prog:=⟨97,Tryz.f97,Tryz.f97.body.getD .skip,Tryz.func97,by kernel_rfl,by kernel_rfl,zae.no _ _⟩
def Tb97:Tb Tryz.prog:= {T:= [],mix:=mix,Es:= [E_spec_l03Ok,zeE,E_spec_l03End],Bs:= [],d:=1}
def zb6 (a0:I64) (a1:I64):Tr (T2 I64 Bool):=
 .br (!(zF a0)) (.leaf ⟨⟨0,rfl⟩,false⟩) (.br (!(zF a1)) (.leaf ⟨⟨0,rfl⟩,false⟩) (let c3:=zaq a0 a1 ⟨32,rfl⟩;let c4:=zat c3.a c3.b;.leaf ⟨c4.a,c4.b⟩))
theorem r_spec_l03MulDown (a0:I64) (a1:I64):Tb97.run B97 [enc a0,enc a1] (T2 I64 Bool)=(zb6 a0 a1).opt:=by kernel_rfl
def zN:I64->I64->T2 I64 Bool:=fun a0 a1=>(zb6 a0 a1).get
theorem u_spec_l03MulDown (a0:I64) (a1:I64):(zb6 a0 a1).opt=some (zN a0 a1):=Tr.zL (by kernel_rfl)
def E_spec_l03MulDown:Ent Tryz.prog:= .of2 Tb97 B97 (fun _ _=>true) zN fun a0 a1 _=>(r_spec_l03MulDown a0 a1).trans (u_spec_l03MulDown a0 a1)
def B98:Bod Tryz.prog:=⟨98,Tryz.f98,Tryz.f98.body.getD .skip,Tryz.func98,by kernel_rfl,by kernel_rfl,zae.no _ _⟩
def Tb98:Tb Tryz.prog:= {T:= [],mix:=mix,Es:= [E_spec_l03MulDown,E_spec_l03Ok],Bs:= [],d:=1}
def zdB (a0:I64) (a1:I64):Tr (T2 I64 Bool):=
 let c2:=zN (Rng.w .i64 (0-a0.val)) a1;.br (!(zF a0)) (.leaf ⟨⟨0,rfl⟩,false⟩) (.br (!c2.b) (.leaf ⟨⟨0,rfl⟩,false⟩) (.leaf ⟨(Rng.w .i64 (0-c2.a.val)),true⟩))
theorem r_spec_l03MulUp (a0:I64) (a1:I64):Tb98.run B98 [enc a0,enc a1] (T2 I64 Bool)=(zdB a0 a1).opt:=by kernel_rfl
def zak:I64->I64->T2 I64 Bool:=fun a0 a1=>(zdB a0 a1).get
theorem u_spec_l03MulUp (a0:I64) (a1:I64):(zdB a0 a1).opt=some (zak a0 a1):=Tr.zL (by kernel_rfl)
def E_spec_l03MulUp:Ent Tryz.prog:= .of2 Tb98 B98 (fun _ _=>true) zak fun a0 a1 _=>(r_spec_l03MulUp a0 a1).trans (u_spec_l03MulUp a0 a1)
def B99:Bod Tryz.prog:=⟨99,Tryz.f99,Tryz.f99.body.getD .skip,Tryz.func99,by kernel_rfl,by kernel_rfl,zae.no _ _⟩
def Tb99:Tb Tryz.prog:= {T:= [],mix:=mix,Es:= [],Bs:= [],d:=1}
def t_spec_l00Min (a0:I64) (a1:I64):Tr (I64):=
 .br (decide (a0.val<a1.val)) (.leaf a0) (.leaf a1)
theorem r_spec_l00Min (a0:I64) (a1:I64):Tb99.run B99 [enc a0,enc a1] (I64)=(t_spec_l00Min a0 a1).opt:=by kernel_rfl
def zB:I64->I64->I64:=fun a0 a1=>(t_spec_l00Min a0 a1).get
theorem u_spec_l00Min (a0:I64) (a1:I64):(t_spec_l00Min a0 a1).opt=some (zB a0 a1):=Tr.zL (by kernel_rfl)
def E_spec_l00Min:Ent Tryz.prog:= .of2 Tb99 B99 (fun _ _=>true) zB fun a0 a1 _=>(r_spec_l00Min a0 a1).trans (u_spec_l00Min a0 a1)
def B100:Bod Tryz.prog:=⟨100,Tryz.f100,Tryz.f100.body.getD .skip,Tryz.func100,by kernel_rfl,by kernel_rfl,zae.no _ _⟩
def Tb100:Tb Tryz.prog:= {T:= [],mix:=mix,Es:= [],Bs:= [],d:=1}
def t_spec_l00Max (a0:I64) (a1:I64):Tr (I64):=
 .br (decide (a0.val>a1.val)) (.leaf a0) (.leaf a1)
theorem r_spec_l00Max (a0:I64) (a1:I64):Tb100.run B100 [enc a0,enc a1] (I64)=(t_spec_l00Max a0 a1).opt:=by kernel_rfl
def zt:I64->I64->I64:=fun a0 a1=>(t_spec_l00Max a0 a1).get
theorem u_spec_l00Max (a0:I64) (a1:I64):(t_spec_l00Max a0 a1).opt=some (zt a0 a1):=Tr.zL (by kernel_rfl)
def E_spec_l00Max:Ent Tryz.prog:= .of2 Tb100 B100 (fun _ _=>true) zt fun a0 a1 _=>(r_spec_l00Max a0 a1).trans (u_spec_l00Max a0 a1)
def Y99:TyE Tryz.prog:=⟨99,1,(.slice 2 1),[.nils],false,by kernel_rfl,by kernel_rfl,by kernel_rfl,by kernel_rfl,by kernel_rfl,by kernel_rfl⟩
def B25:Bod Tryz.prog:=⟨25,Tryz.f25,Tryz.f25.body.getD .skip,Tryz.func25,by kernel_rfl,by kernel_rfl,zae.no _ _⟩
def Tb25:Tb Tryz.prog:= {T:= [Y2,Y30,Y99],mix:=mix,Es:= [zas,za4,za6,E_spec_l03MulDown,E_spec_l03MulUp,E_spec_l00Min,E_spec_l00Max],Bs:= [],d:=1}
def t_spec_MulI (a0:Iv) (a1:Iv):Tr (Iv):=
 .br (!(za a0)) (.leaf zo) (.br (!(za a1)) (.leaf zo) (let c5:=zN a0.lo a1.lo;let c6:=zak a0.lo a1.lo;.br (!c5.b) (.leaf zo) (.br (!c6.b) (.leaf zo) (let c11:=zN a0.lo a1.hi;let c12:=zak a0.lo a1.hi;.br (!c11.b) (.leaf zo) (.br (!c12.b) (.leaf zo) (let c17:=zN a0.hi a1.lo;let c18:=zak a0.hi a1.lo;.br (!c17.b) (.leaf zo) (.br (!c18.b) (.leaf zo) (let c23:=zN a0.hi a1.hi;let c24:=zak a0.hi a1.hi;.br (!c23.b) (.leaf zo) (.br (!c24.b) (.leaf zo) (.leaf (zai (zB (zB (zB (zB ⟨1152921504606846976,rfl⟩ c5.a) c11.a) c17.a) c23.a) (zt (zt (zt (zt ⟨(-1152921504606846976),rfl⟩ c6.a) c12.a) c18.a) c24.a))))))))))))
theorem r_spec_MulI (a0:Iv) (a1:Iv):Tb25.run B25 [enc a0,enc a1] (Iv)=(t_spec_MulI a0 a1).opt:=by kernel_rfl
def zC:Iv->Iv->Iv:=fun a0 a1=>(t_spec_MulI a0 a1).get
theorem u_spec_MulI (a0:Iv) (a1:Iv):(t_spec_MulI a0 a1).opt=some (zC a0 a1):=Tr.zL (by kernel_rfl)
def ze1:Ent Tryz.prog:= .of2 Tb25 B25 (fun _ _=>true) zC fun a0 a1 _=>(r_spec_MulI a0 a1).trans (u_spec_MulI a0 a1)
def B140:Bod Tryz.prog:=⟨140,Tryz.f140,Tryz.f140.body.getD .skip,Tryz.func140,by kernel_rfl,by kernel_rfl,zae.no _ _⟩
def Tb140:Tb Tryz.prog:= {T:= [Y30],mix:=mix,Es:= [zdh],Bs:= [],d:=1}
def t_impl_areBounded (a0:Iv) (a1:Iv):Tr (Bool):=
 .br (zbp a0) (.leaf (zbp a1)) (.leaf false)
theorem r_impl_areBounded (a0:Iv) (a1:Iv):Tb140.run B140 [enc a0,enc a1] (Bool)=(t_impl_areBounded a0 a1).opt:=by kernel_rfl
def za2:Iv->Iv->Bool:=fun a0 a1=>(t_impl_areBounded a0 a1).get
theorem u_impl_areBounded (a0:Iv) (a1:Iv):(t_impl_areBounded a0 a1).opt=some (za2 a0 a1):=Tr.zL (by kernel_rfl)
def zcd:Ent Tryz.prog:= .of2 Tb140 B140 (fun _ _=>true) za2 fun a0 a1 _=>(r_impl_areBounded a0 a1).trans (u_impl_areBounded a0 a1)
def B324:Bod Tryz.prog:=⟨324,Tryz.f324,Tryz.f324.body.getD .skip,Tryz.func324,by kernel_rfl,by kernel_rfl,zae.no _ _⟩
def Tb324:Tb Tryz.prog:= {T:= [Y2,Y132,Y148],mix:=mix,Es:= [zbO],Bs:= [],d:=1}
def ze5 (a0:Wide) (a1:I64):Tr (Wide):=
 .br (!(zaK a1 ⟨0,rfl⟩ ⟨127,rfl⟩)) (.leaf ⟨⟨0,rfl⟩,⟨0,rfl⟩⟩) (.br (decide (a1.val>=64)) (let c3:=(Rng.w .i64 (a1.val-64));.br (decide (c3.val<0)) (.bad) (.leaf ⟨(Rng.w .i64 (a0.hi.val.fdiv 9223372036854775808)),(Rng.w .u64 ((Rng.w .i64 (a0.hi.val.fdiv (2^min (c3.val).toNat 64))).val))⟩)) (.br (decide (a1.val<0)) (.bad) (.br (decide (a1.val<0)) (.bad) (let c7:=(Rng.w .i64 (64-a1.val));.br (decide (c7.val<0)) (.bad) (.leaf ⟨(Rng.w .i64 (a0.hi.val.fdiv (2^min (a1.val).toNat 64))),(Rng.w .u64 (zbf .or .u64 (Rng.w .u64 (a0.lo.val.fdiv (2^min (a1.val).toNat 64))).val (Rng.w .u64 ((Rng.w .u64 (a0.hi.val)).val*(2^min (c7.val).toNat 64))).val))⟩)))))
theorem r_impl_WideShift (a0:Wide) (a1:I64):Tb324.run B324 [enc a0,enc a1] (Wide)=(ze5 a0 a1).opt:=by kernel_rfl
def F_impl_WideShift:Wide->I64->Wide:=fun a0 a1=>(ze5 a0 a1).get
def G_impl_WideShift:Wide->I64->Bool:=fun a0 a1=>(ze5 a0 a1).opt.isSome
def E_impl_WideShift:Ent Tryz.prog:= .of2 Tb324 B324 G_impl_WideShift F_impl_WideShift fun a0 a1 h=>(r_impl_WideShift a0 a1).trans (Tr.get_some h)
def B275:Bod Tryz.prog:=⟨275,Tryz.f275,Tryz.f275.body.getD .skip,Tryz.func275,by kernel_rfl,by kernel_rfl,zae.no _ _⟩
def Tb275:Tb Tryz.prog:= {T:= [],mix:=mix,Es:= [zbO,E_impl_WideMul,E_impl_WideInt,E_impl_WideShift],Bs:= [],d:=1}
def zew (a0:I64) (a1:I64) (a2:I64):Tr (T2 I64 Bool):=
 .br (!(zaK a2 ⟨0,rfl⟩ ⟨126,rfl⟩)) (.leaf ⟨⟨0,rfl⟩,false⟩) (let c2:=zbr a0 a1;.br (G_impl_WideShift c2 a2) (let c4:=zfq (F_impl_WideShift c2 a2);.leaf ⟨c4.a,c4.b⟩) (.bad))
theorem r_impl_MulFloor (a0:I64) (a1:I64) (a2:I64):Tb275.run B275 [enc a0,enc a1,enc a2] (T2 I64 Bool)=(zew a0 a1 a2).opt:=by kernel_rfl
def zbI:I64->I64->I64->T2 I64 Bool:=fun a0 a1 a2=>(zew a0 a1 a2).get
def G_impl_MulFloor:I64->I64->I64->Bool:=fun a0 a1 a2=>(zew a0 a1 a2).opt.isSome
def E_impl_MulFloor:Ent Tryz.prog:= .of3 Tb275 B275 G_impl_MulFloor zbI fun a0 a1 a2 h=>(r_impl_MulFloor a0 a1 a2).trans (Tr.get_some h)
def B198:Bod Tryz.prog:=⟨198,Tryz.f198,Tryz.f198.body.getD .skip,Tryz.func198,by kernel_rfl,by kernel_rfl,zae.no _ _⟩
def Tb198:Tb Tryz.prog:= {T:= [],mix:=mix,Es:= [zdH,E_impl_fixed,E_impl_MulFloor],Bs:= [],d:=1}
def t_impl_MulDown (a0:I64) (a1:I64):Tr (T2 I64 Bool):=
 .br (!(zaQ a0)) (.leaf ⟨⟨0,rfl⟩,false⟩) (.br (!(zaQ a1)) (.leaf ⟨⟨0,rfl⟩,false⟩) (.br (G_impl_MulFloor a0 a1 ⟨32,rfl⟩) (let c3:=zbI a0 a1 ⟨32,rfl⟩;let c4:=zca c3.a c3.b;.leaf ⟨c4.a,c4.b⟩) (.bad)))
theorem r_impl_MulDown (a0:I64) (a1:I64):Tb198.run B198 [enc a0,enc a1] (T2 I64 Bool)=(t_impl_MulDown a0 a1).opt:=by kernel_rfl
def zdt:I64->I64->T2 I64 Bool:=fun a0 a1=>(t_impl_MulDown a0 a1).get
def zcM:I64->I64->Bool:=fun a0 a1=>(t_impl_MulDown a0 a1).opt.isSome
def E_impl_MulDown:Ent Tryz.prog:= .of2 Tb198 B198 zcM zdt fun a0 a1 h=>(r_impl_MulDown a0 a1).trans (Tr.get_some h)
def B199:Bod Tryz.prog:=⟨199,Tryz.f199,Tryz.f199.body.getD .skip,Tryz.func199,by kernel_rfl,by kernel_rfl,zae.no _ _⟩
def Tb199:Tb Tryz.prog:= {T:= [],mix:=mix,Es:= [E_impl_MulDown,zdH],Bs:= [],d:=1}
def t_impl_MulUp (a0:I64) (a1:I64):Tr (T2 I64 Bool):=
 .br (!(zaQ a0)) (.leaf ⟨⟨0,rfl⟩,false⟩) (.br (!(zaQ a1)) (.leaf ⟨⟨0,rfl⟩,false⟩) (let c3:=(Rng.w .i64 (0-a0.val));.br (zcM c3 a1) (let c4:=zdt c3 a1;.leaf ⟨(Rng.w .i64 (0-c4.a.val)),c4.b⟩) (.bad)))
theorem r_impl_MulUp (a0:I64) (a1:I64):Tb199.run B199 [enc a0,enc a1] (T2 I64 Bool)=(t_impl_MulUp a0 a1).opt:=by kernel_rfl
def F_impl_MulUp:I64->I64->T2 I64 Bool:=fun a0 a1=>(t_impl_MulUp a0 a1).get
def zeL:I64->I64->Bool:=fun a0 a1=>(t_impl_MulUp a0 a1).opt.isSome
def E_impl_MulUp:Ent Tryz.prog:= .of2 Tb199 B199 zeL F_impl_MulUp fun a0 a1 h=>(r_impl_MulUp a0 a1).trans (Tr.get_some h)
def Y165:TyE Tryz.prog:=⟨165,2,(.array 2 2 1),[.i64 ⟨0,rfl⟩,.i64 ⟨0,rfl⟩],false,by kernel_rfl,by kernel_rfl,by kernel_rfl,by kernel_rfl,by kernel_rfl,by kernel_rfl⟩
def B197:Bod Tryz.prog:=⟨197,Tryz.f197,Tryz.f197.body.getD .skip,Tryz.func197,by kernel_rfl,by kernel_rfl,zae.no _ _⟩
def B116:Bod Tryz.prog:=⟨116,Tryz.f116,Tryz.f116.body.getD .skip,Tryz.func116,by kernel_rfl,by kernel_rfl,zae.no _ _⟩
def Tb116:Tb Tryz.prog:= {T:= [Y2,Y30,Y165],mix:=mix,Es:= [zcd,zaD,zcf,E_impl_MulDown,E_impl_MulUp],Bs:= [B197],d:=8}
def t_impl_MulI (a0:Iv) (a1:Iv):Tr (Iv):=
 .br (!(za2 a0 a1)) (.leaf zH) (.br (zcM a0.lo a1.lo) (let c3:=zdt a0.lo a1.lo;.br (zeL a0.lo a1.lo) (let c4:=F_impl_MulUp a0.lo a1.lo;.br (!c3.b) (.leaf zH) (.br (!c4.b) (.leaf zH) (.br (zcM a0.lo a1.hi) (let c7:=zdt a0.lo a1.hi;.br (zeL a0.lo a1.hi) (let c8:=F_impl_MulUp a0.lo a1.hi;.br (!c7.b) (.leaf zH) (.br (!c8.b) (.leaf zH) (.br (zcM a0.hi a1.lo) (let c11:=zdt a0.hi a1.lo;.br (zeL a0.hi a1.lo) (let c12:=F_impl_MulUp a0.hi a1.lo;.br (!c11.b) (.leaf zH) (.br (!c12.b) (.leaf zH) (.br (zcM a0.hi a1.hi) (let c17:=zdt a0.hi a1.hi;.br (zeL a0.hi a1.hi) (let c18:=F_impl_MulUp a0.hi a1.hi;.br (!c17.b) (.leaf zH) (.br (!c18.b) (.leaf zH) (.leaf (zaN (mn (mn (mn (mn c3.a c3.a) c7.a) c11.a) c17.a) (mx (mx (mx (mx c4.a c4.a) c8.a) c12.a) c18.a) true)))) (.bad)) (.bad)))) (.bad)) (.bad)))) (.bad)) (.bad)))) (.bad)) (.bad))
theorem r_impl_MulI (a0:Iv) (a1:Iv):Tb116.run B116 [enc a0,enc a1] (Iv)=(t_impl_MulI a0 a1).opt:=by kernel_rfl
def zaf:Iv->Iv->Iv:=fun a0 a1=>(t_impl_MulI a0 a1).get
def B92:Bod Tryz.prog:=⟨92,Tryz.f92,Tryz.f92.body.getD .skip,Tryz.func92,by kernel_rfl,by kernel_rfl,zae.no _ _⟩
def Tb92:Tb Tryz.prog:= {T:= [Y2,Y30],mix:=mix,Es:= [zcc],Bs:= [],d:=1}
def zcg (a0:Iv) (a1:I64):Tr (Bool):=
 .leaf (zar a1 a0.lo a0.hi)
theorem r_spec_l04Has (a0:Iv) (a1:I64):Tb92.run B92 [enc a0,enc a1] (Bool)=(zcg a0 a1).opt:=by kernel_rfl
def zaO:Iv->I64->Bool:=fun a0 a1=>(zcg a0 a1).get
theorem u_spec_l04Has (a0:Iv) (a1:I64):(zcg a0 a1).opt=some (zaO a0 a1):=Tr.zL (by kernel_rfl)
def E_spec_l04Has:Ent Tryz.prog:= .of2 Tb92 B92 (fun _ _=>true) zaO fun a0 a1 _=>(r_spec_l04Has a0 a1).trans (u_spec_l04Has a0 a1)
def B227:Bod Tryz.prog:=⟨227,Tryz.f227,Tryz.f227.body.getD .skip,Tryz.func227,by kernel_rfl,by kernel_rfl,zae.no _ _⟩
def Tb227:Tb Tryz.prog:= {T:= [],mix:=mix,Es:= [ET_spec_MulDivFloor,E_spec_l03Ok,E_spec_l03End],Bs:= [],d:=1}
def zby (a0:I64) (a1:I64):Tr (T2 I64 Bool):=
 .br (!(zF a0)) (.leaf ⟨⟨0,rfl⟩,false⟩) (.br (!(zF a1)) (.leaf ⟨⟨0,rfl⟩,false⟩) (.br (a1.val==0) (.leaf ⟨⟨0,rfl⟩,false⟩) (.br (decide (a1.val<0)) (let c5:=zaS (Rng.w .i64 (0-a0.val)) ⟨4294967296,rfl⟩ (Rng.w .i64 (0-a1.val));let c6:=zat c5.a c5.b;.leaf ⟨c6.a,c6.b⟩) (let c7:=zaS a0 ⟨4294967296,rfl⟩ a1;let c8:=zat c7.a c7.b;.leaf ⟨c8.a,c8.b⟩))))
theorem r_spec_l03DivDown (a0:I64) (a1:I64):Tb227.run B227 [enc a0,enc a1] (T2 I64 Bool)=(zby a0 a1).opt:=by kernel_rfl
def zG:I64->I64->T2 I64 Bool:=fun a0 a1=>(zby a0 a1).get
theorem u_spec_l03DivDown (a0:I64) (a1:I64):(zby a0 a1).opt=some (zG a0 a1):=Tr.zL (by kernel_rfl)
def E_spec_l03DivDown:Ent Tryz.prog:= .of2 Tb227 B227 (fun _ _=>true) zG fun a0 a1 _=>(r_spec_l03DivDown a0 a1).trans (u_spec_l03DivDown a0 a1)
def B228:Bod Tryz.prog:=⟨228,Tryz.f228,Tryz.f228.body.getD .skip,Tryz.func228,by kernel_rfl,by kernel_rfl,zae.no _ _⟩
def Tb228:Tb Tryz.prog:= {T:= [],mix:=mix,Es:= [E_spec_l03Ok,E_spec_l03DivDown],Bs:= [],d:=1}
def zcR (a0:I64) (a1:I64):Tr (T2 I64 Bool):=
 .br (!(zF a0)) (.leaf ⟨⟨0,rfl⟩,false⟩) (let c3:=zG (Rng.w .i64 (0-a0.val)) a1;.leaf ⟨(Rng.w .i64 (0-c3.a.val)),c3.b⟩)
theorem r_spec_l03DivUp (a0:I64) (a1:I64):Tb228.run B228 [enc a0,enc a1] (T2 I64 Bool)=(zcR a0 a1).opt:=by kernel_rfl
def z8:I64->I64->T2 I64 Bool:=fun a0 a1=>(zcR a0 a1).get
theorem u_spec_l03DivUp (a0:I64) (a1:I64):(zcR a0 a1).opt=some (z8 a0 a1):=Tr.zL (by kernel_rfl)
def E_spec_l03DivUp:Ent Tryz.prog:= .of2 Tb228 B228 (fun _ _=>true) z8 fun a0 a1 _=>(r_spec_l03DivUp a0 a1).trans (u_spec_l03DivUp a0 a1)
def B142:Bod Tryz.prog:=⟨142,Tryz.f142,Tryz.f142.body.getD .skip,Tryz.func142,by kernel_rfl,by kernel_rfl,zae.no _ _⟩
def Tb142:Tb Tryz.prog:= {T:= [Y2,Y30,Y99],mix:=mix,Es:= [zas,za4,za6,E_spec_l04Has,E_spec_l00Min,E_spec_l00Max,E_spec_l03DivDown,E_spec_l03DivUp],Bs:= [],d:=1}
def zfM (a0:Iv) (a1:Iv):Tr (Iv):=
 .br (!(za a0)) (.leaf zo) (.br (!(za a1)) (.leaf zo) (.br (zaO a1 ⟨0,rfl⟩) (.leaf zo) (let c7:=zG a0.lo a1.lo;let c8:=z8 a0.lo a1.lo;.br (!c7.b) (.leaf zo) (.br (!c8.b) (.leaf zo) (let c13:=zG a0.lo a1.hi;let c14:=z8 a0.lo a1.hi;.br (!c13.b) (.leaf zo) (.br (!c14.b) (.leaf zo) (let c19:=zG a0.hi a1.lo;let c20:=z8 a0.hi a1.lo;.br (!c19.b) (.leaf zo) (.br (!c20.b) (.leaf zo) (let c25:=zG a0.hi a1.hi;let c26:=z8 a0.hi a1.hi;.br (!c25.b) (.leaf zo) (.br (!c26.b) (.leaf zo) (.leaf (zai (zB (zB (zB (zB ⟨1152921504606846976,rfl⟩ c7.a) c13.a) c19.a) c25.a) (zt (zt (zt (zt ⟨(-1152921504606846976),rfl⟩ c8.a) c14.a) c20.a) c26.a)))))))))))))
theorem r_spec_DivI (a0:Iv) (a1:Iv):Tb142.run B142 [enc a0,enc a1] (Iv)=(zfM a0 a1).opt:=by kernel_rfl
def zz:Iv->Iv->Iv:=fun a0 a1=>(zfM a0 a1).get
theorem u_spec_DivI (a0:Iv) (a1:Iv):(zfM a0 a1).opt=some (zz a0 a1):=Tr.zL (by kernel_rfl)
def ze2:Ent Tryz.prog:= .of2 Tb142 B142 (fun _ _=>true) zz fun a0 a1 _=>(r_spec_DivI a0 a1).trans (u_spec_DivI a0 a1)
def B174:Bod Tryz.prog:=⟨174,Tryz.f174,Tryz.f174.body.getD .skip,Tryz.func174,by kernel_rfl,by kernel_rfl,zae.no _ _⟩
def Tb174:Tb Tryz.prog:= {T:= [Y2,Y30],mix:=mix,Es:= [zbY,zbO],Bs:= [],d:=1}
def t_impl_HasI (a0:Iv) (a1:I64):Tr (Bool):=
 .br (zal a0) (.leaf true) (.leaf (zaK a1 a0.lo a0.hi))
theorem r_impl_HasI (a0:Iv) (a1:I64):Tb174.run B174 [enc a0,enc a1] (Bool)=(t_impl_HasI a0 a1).opt:=by kernel_rfl
def zee:Iv->I64->Bool:=fun a0 a1=>(t_impl_HasI a0 a1).get
theorem u_impl_HasI (a0:Iv) (a1:I64):(t_impl_HasI a0 a1).opt=some (zee a0 a1):=Tr.zL (by kernel_rfl)
def E_impl_HasI:Ent Tryz.prog:= .of2 Tb174 B174 (fun _ _=>true) zee fun a0 a1 _=>(r_impl_HasI a0 a1).trans (u_impl_HasI a0 a1)
def B224:Bod Tryz.prog:=⟨224,Tryz.f224,Tryz.f224.body.getD .skip,Tryz.func224,by kernel_rfl,by kernel_rfl,zae.no _ _⟩
def Tb224:Tb Tryz.prog:= {T:= [],mix:=mix,Es:= [zdH,E_impl_fixed,ET_impl_MulDivFloor],Bs:= [],d:=1}
def t_impl_DivDown (a0:I64) (a1:I64):Tr (T2 I64 Bool):=
 .br (!(zaQ a0)) (.leaf ⟨⟨0,rfl⟩,false⟩) (.br (!(zaQ a1)) (.leaf ⟨⟨0,rfl⟩,false⟩) (.br (decide (a1.val<0)) (let c5:=zbk (Rng.w .i64 (0-a0.val)) ⟨4294967296,rfl⟩ (Rng.w .i64 (0-a1.val));let c6:=zca c5.a c5.b;.leaf ⟨c6.a,c6.b⟩) (let c7:=zbk a0 ⟨4294967296,rfl⟩ a1;let c8:=zca c7.a c7.b;.leaf ⟨c8.a,c8.b⟩)))
theorem r_impl_DivDown (a0:I64) (a1:I64):Tb224.run B224 [enc a0,enc a1] (T2 I64 Bool)=(t_impl_DivDown a0 a1).opt:=by kernel_rfl
def zcP:I64->I64->T2 I64 Bool:=fun a0 a1=>(t_impl_DivDown a0 a1).get
theorem u_impl_DivDown (a0:I64) (a1:I64):(t_impl_DivDown a0 a1).opt=some (zcP a0 a1):=Tr.zL (by kernel_rfl)
def E_impl_DivDown:Ent Tryz.prog:= .of2 Tb224 B224 (fun _ _=>true) zcP fun a0 a1 _=>(r_impl_DivDown a0 a1).trans (u_impl_DivDown a0 a1)
def B225:Bod Tryz.prog:=⟨225,Tryz.f225,Tryz.f225.body.getD .skip,Tryz.func225,by kernel_rfl,by kernel_rfl,zae.no _ _⟩
def Tb225:Tb Tryz.prog:= {T:= [],mix:=mix,Es:= [E_impl_DivDown,zdH],Bs:= [],d:=1}
def t_impl_DivUp (a0:I64) (a1:I64):Tr (T2 I64 Bool):=
 .br (!(zaQ a0)) (.leaf ⟨⟨0,rfl⟩,false⟩) (.br (!(zaQ a1)) (.leaf ⟨⟨0,rfl⟩,false⟩) (let c4:=zcP (Rng.w .i64 (0-a0.val)) a1;.leaf ⟨(Rng.w .i64 (0-c4.a.val)),c4.b⟩))
theorem r_impl_DivUp (a0:I64) (a1:I64):Tb225.run B225 [enc a0,enc a1] (T2 I64 Bool)=(t_impl_DivUp a0 a1).opt:=by kernel_rfl
def zeM:I64->I64->T2 I64 Bool:=fun a0 a1=>(t_impl_DivUp a0 a1).get
theorem u_impl_DivUp (a0:I64) (a1:I64):(t_impl_DivUp a0 a1).opt=some (zeM a0 a1):=Tr.zL (by kernel_rfl)
def E_impl_DivUp:Ent Tryz.prog:= .of2 Tb225 B225 (fun _ _=>true) zeM fun a0 a1 _=>(r_impl_DivUp a0 a1).trans (u_impl_DivUp a0 a1)
def B139:Bod Tryz.prog:=⟨139,Tryz.f139,Tryz.f139.body.getD .skip,Tryz.func139,by kernel_rfl,by kernel_rfl,zae.no _ _⟩
def Tb139:Tb Tryz.prog:= {T:= [Y2,Y30,Y165],mix:=mix,Es:= [zcd,zaD,zcf,E_impl_HasI,E_impl_DivDown,E_impl_DivUp],Bs:= [B197],d:=8}
def t_impl_DivI (a0:Iv) (a1:Iv):Tr (Iv):=
 .br (!(za2 a0 a1)) (.leaf zH) (.br (zee a1 ⟨0,rfl⟩) (.leaf zH) (let c5:=zcP a0.lo a1.lo;let c6:=zeM a0.lo a1.lo;.br (!c5.b) (.leaf zH) (.br (!c6.b) (.leaf zH) (let c9:=zcP a0.lo a1.hi;let c10:=zeM a0.lo a1.hi;.br (!c9.b) (.leaf zH) (.br (!c10.b) (.leaf zH) (let c14:=zcP a0.hi a1.lo;let c15:=zeM a0.hi a1.lo;.br (!c14.b) (.leaf zH) (.br (!c15.b) (.leaf zH) (let c19:=zcP a0.hi a1.hi;let c20:=zeM a0.hi a1.hi;.br (!c19.b) (.leaf zH) (.br (!c20.b) (.leaf zH) (.leaf (zaN (mn (mn (mn (mn c5.a c5.a) c9.a) c14.a) c19.a) (mx (mx (mx (mx c6.a c6.a) c10.a) c15.a) c20.a) true)))))))))))
theorem r_impl_DivI (a0:Iv) (a1:Iv):Tb139.run B139 [enc a0,enc a1] (Iv)=(t_impl_DivI a0 a1).opt:=by kernel_rfl
def za5:Iv->Iv->Iv:=fun a0 a1=>(t_impl_DivI a0 a1).get
theorem u_impl_DivI (a0:Iv) (a1:Iv):(t_impl_DivI a0 a1).opt=some (za5 a0 a1):=Tr.zL (by kernel_rfl)
def E_impl_DivI:Ent Tryz.prog:= .of2 Tb139 B139 (fun _ _=>true) za5 fun a0 a1 _=>(r_impl_DivI a0 a1).trans (u_impl_DivI a0 a1)
def B155:Bod Tryz.prog:=⟨155,Tryz.f155,Tryz.f155.body.getD .skip,Tryz.func155,by kernel_rfl,by kernel_rfl,zae.no _ _⟩
def Tb155:Tb Tryz.prog:= {T:= [Y2,Y30],mix:=mix,Es:= [E_spec_l04Has,E_spec_l00Min,E_spec_l00Max],Bs:= [],d:=1}
def zd6 (a0:Iv):Tr (T2 I64 I64):=
 let c2:=zt a0.lo (Rng.w .i64 (0-a0.lo.val));let c4:=zt a0.hi (Rng.w .i64 (0-a0.hi.val));.br (zaO a0 ⟨0,rfl⟩) (.leaf ⟨⟨0,rfl⟩,(zt c2 c4)⟩) (.leaf ⟨(zB c2 c4),(zt c2 c4)⟩)
theorem r_spec_l04Ends (a0:Iv):Tb155.run B155 [enc a0] (T2 I64 I64)=(zd6 a0).opt:=by kernel_rfl
def zM:Iv->T2 I64 I64:=fun a0=>(zd6 a0).get
theorem u_spec_l04Ends (a0:Iv):(zd6 a0).opt=some (zM a0):=Tr.zL (by kernel_rfl)
def E_spec_l04Ends:Ent Tryz.prog:= .of1 Tb155 B155 (fun _=>true) zM fun a0 _=>(r_spec_l04Ends a0).trans (u_spec_l04Ends a0)
def B128:Bod Tryz.prog:=⟨128,Tryz.f128,Tryz.f128.body.getD .skip,Tryz.func128,by kernel_rfl,by kernel_rfl,zae.no _ _⟩
def Tb128:Tb Tryz.prog:= {T:= [Y2,Y30],mix:=mix,Es:= [zas,za4,za6,E_spec_l03MulDown,E_spec_l03MulUp,E_spec_l04Ends],Bs:= [],d:=1}
def t_spec_SqrI (a0:Iv):Tr (Iv):=
 .br (!(za a0)) (.leaf zo) (let c3:=zM a0;let c4:=zN c3.a c3.a;let c5:=zak c3.b c3.b;.br (!c4.b) (.leaf zo) (.br (!c5.b) (.leaf zo) (.leaf (zai c4.a c5.a))))
theorem r_spec_SqrI (a0:Iv):Tb128.run B128 [enc a0] (Iv)=(t_spec_SqrI a0).opt:=by kernel_rfl
def zbe:Iv->Iv:=fun a0=>(t_spec_SqrI a0).get
theorem u_spec_SqrI (a0:Iv):(t_spec_SqrI a0).opt=some (zbe a0):=Tr.zL (by kernel_rfl)
def E_spec_SqrI:Ent Tryz.prog:= .of1 Tb128 B128 (fun _=>true) zbe fun a0 _=>(r_spec_SqrI a0).trans (u_spec_SqrI a0)
def B137:Bod Tryz.prog:=⟨137,Tryz.f137,Tryz.f137.body.getD .skip,Tryz.func137,by kernel_rfl,by kernel_rfl,zae.no _ _⟩
def Tb137:Tb Tryz.prog:= {T:= [Y2,Y30],mix:=mix,Es:= [zbY,zaD,E_impl_HasI,E_impl_abs],Bs:= [],d:=1}
def t_impl_AbsI (a0:Iv):Tr (Iv):=
 .br (zal a0) (.leaf zH) (let c5:=zbs a0.lo;let c6:=zbs a0.hi;.br (zee a0 ⟨0,rfl⟩) (.leaf ⟨⟨0,rfl⟩,(mx c5 c6)⟩) (.leaf ⟨(mn (zbs a0.lo) (zbs a0.hi)),(mx c5 c6)⟩))
theorem r_impl_AbsI (a0:Iv):Tb137.run B137 [enc a0] (Iv)=(t_impl_AbsI a0).opt:=by kernel_rfl
def zcq:Iv->Iv:=fun a0=>(t_impl_AbsI a0).get
theorem u_impl_AbsI (a0:Iv):(t_impl_AbsI a0).opt=some (zcq a0):=Tr.zL (by kernel_rfl)
def E_impl_AbsI:Ent Tryz.prog:= .of1 Tb137 B137 (fun _=>true) zcq fun a0 _=>(r_impl_AbsI a0).trans (u_impl_AbsI a0)
def B206:Bod Tryz.prog:=⟨206,Tryz.f206,Tryz.f206.body.getD .skip,Tryz.func206,by kernel_rfl,by kernel_rfl,zae.no _ _⟩
def Tb206:Tb Tryz.prog:= {T:= [Y2,Y30],mix:=mix,Es:= [zbY,E_impl_AbsI,zaD,zcf,E_impl_MulDown,E_impl_MulUp],Bs:= [],d:=1}
def t_impl_SqrI (a0:Iv):Tr (Iv):=
 .br (zal a0) (.leaf zH) (let c3:=zcq a0;.br (zcM c3.lo c3.lo) (let c4:=zdt c3.lo c3.lo;.br (zeL c3.hi c3.hi) (let c5:=F_impl_MulUp c3.hi c3.hi;.br c4.b (.leaf (zaN c4.a c5.a c5.b)) (.leaf (zaN c4.a c5.a false))) (.bad)) (.bad))
theorem r_impl_SqrI (a0:Iv):Tb206.run B206 [enc a0] (Iv)=(t_impl_SqrI a0).opt:=by kernel_rfl
def zeX:Iv->Iv:=fun a0=>(t_impl_SqrI a0).get
structure zcw where
 x0:U64
 x1:I64
 x2:I64
 x3:U64
instance:Inhabited zcw:=⟨⟨default,default,default,default⟩⟩
def st_spec_l02Root_3 (x:zcw):St:=⟨[(1,.ptr 0 0),(3,.u64 x.x0),(4,.i64 x.x1)],43,⟨[(0,[.i64 x.x2,.u64 x.x3])],1,0⟩⟩
def rd_spec_l02Root_3:St->Option zcw:=fun s=>match s with
 | ⟨[(1,.ptr 0 0),(3,.u64 x0),(4,.i64 x1)],43,⟨[(0,[.i64 x2,.u64 x3])],1,0⟩⟩=>some ⟨x0,x1,x2,x3⟩
 | _=>none
def zbK (x:zcw):Tr (Lp zcw):=
 .br (decide (x.x1.val>=0)) (let c2:=(Rng.w .u64 (zbf .or .u64 x.x0.val (Rng.w .u64 (1*(2^min ((Rng.w .u64 (x.x1.val)).val).toNat 64))).val));let c3:=zeA c2 c2;.br (decide (c3.a.val<(Rng.w .u64 (x.x2.val)).val)) (.leaf (.again ⟨c2,(Rng.w .i64 (x.x1.val-1)),x.x2,x.x3⟩)) (.br (c3.a.val==(Rng.w .u64 (x.x2.val)).val) (.br (decide (c3.b.val<=x.x3.val)) (.leaf (.again ⟨c2,(Rng.w .i64 (x.x1.val-1)),x.x2,x.x3⟩)) (.leaf (.again ⟨x.x0,(Rng.w .i64 (x.x1.val-1)),x.x2,x.x3⟩))) (.leaf (.again ⟨x.x0,(Rng.w .i64 (x.x1.val-1)),x.x2,x.x3⟩)))) (.leaf (.out ⟨x.x0,x.x1,x.x2,x.x3⟩))
def zdR (x:zcw):Bool:=(Lf zbK 66 x).opt.isSome
def L_spec_l02Root_3 (x:zcw):zcw:=(Lf zbK 66 x).get
def TbL_spec_l02Root_3:Tb Tryz.prog:= {T:= [Y2,Y3,Y132,Y140,Y148],mix:=mix,Es:= [E_spec_l02Times],Bs:= [],d:=1}
def P_spec_l02Root_3:LpF:=loopF [1,3,4] [0] 1 rd_spec_l02Root_3 st_spec_l02Root_3 (.exit 0) zdR L_spec_l02Root_3
theorem lok_spec_l02Root_3:LoopOk Tryz.prog (loopAt (Tryz.f267.body.getD .skip) 0) P_spec_l02Root_3:=loopF_ok (t:=TbL_spec_l02Root_3) (lt:=fun _=>none) (body:=zbK) (n:=66) (by intro h;cases h) (fun _ _ _ h=>by cases h)
 (by intro s x h;unfold rd_spec_l02Root_3 at h;split at h<;>cases h;rfl) (fun x b cs h=>lk_lt (l:=(st_spec_l02Root_3 x).mm.blks) (by kernel_rfl) h) (by intro x;kernel_rfl) (fun x h=>Tr.get_some h)
def B267:Bod Tryz.prog:=⟨267,Tryz.f267,Tryz.f267.body.getD .skip,Tryz.func267,by kernel_rfl,by kernel_rfl,⟨ltOf [(3,P_spec_l02Root_3)],zae.of (ks:= [3]) (by kernel_rfl) (by
 intro i k h f hf
 match i,h with
 | 0,h=>cases h;obtain rfl:P_spec_l02Root_3=f:=Option.some.inj hf;exact lok_spec_l02Root_3
 | n+1,h=>simp at h)⟩⟩
def Tb267:Tb Tryz.prog:= {T:= [Y2,Y3,Y132,Y140,Y148],mix:=mix,Es:= [],Bs:= [],d:=1}
def zcH (a0:Wide):Tr (U64):=
 .br (zdR ⟨⟨0,rfl⟩,⟨63,rfl⟩,a0.hi,a0.lo⟩) (.leaf (L_spec_l02Root_3 ⟨⟨0,rfl⟩,⟨63,rfl⟩,a0.hi,a0.lo⟩).x0) (.bad)
theorem r_spec_l02Root (a0:Wide):Tb267.run B267 [enc a0] (U64)=(zcH a0).opt:=by kernel_rfl
def zy:Wide->U64:=fun a0=>(zcH a0).get
def G_spec_l02Root:Wide->Bool:=fun a0=>(zcH a0).opt.isSome
def E_spec_l02Root:Ent Tryz.prog:= .of1 Tb267 B267 G_spec_l02Root zy fun a0 h=>(r_spec_l02Root a0).trans (Tr.get_some h)
def B282:Bod Tryz.prog:=⟨282,Tryz.f282,Tryz.f282.body.getD .skip,Tryz.func282,by kernel_rfl,by kernel_rfl,zae.no _ _⟩
def Tb282:Tb Tryz.prog:= {T:= [Y2,Y132],mix:=mix,Es:= [E_spec_l02Mul,E_spec_l02Root],Bs:= [],d:=1}
def zdJ (a0:I64) (a1:I64):Tr (T2 I64 Bool):=
 .br (decide (a0.val<0)) (.leaf ⟨⟨0,rfl⟩,false⟩) (.br (decide (a1.val<0)) (.leaf ⟨⟨0,rfl⟩,false⟩) (let c1:=zcn a0 a1;.br (G_spec_l02Root c1) (.leaf ⟨(Rng.w .i64 ((zy c1).val)),true⟩) (.bad)))
theorem r_spec_SqrtFloor (a0:I64) (a1:I64):Tb282.run B282 [enc a0,enc a1] (T2 I64 Bool)=(zdJ a0 a1).opt:=by kernel_rfl
def zfa:I64->I64->T2 I64 Bool:=fun a0 a1=>(zdJ a0 a1).get
def G_spec_SqrtFloor:I64->I64->Bool:=fun a0 a1=>(zdJ a0 a1).opt.isSome
def E_spec_SqrtFloor:Ent Tryz.prog:= .of2 Tb282 B282 G_spec_SqrtFloor zfa fun a0 a1 h=>(r_spec_SqrtFloor a0 a1).trans (Tr.get_some h)
def B211:Bod Tryz.prog:=⟨211,Tryz.f211,Tryz.f211.body.getD .skip,Tryz.func211,by kernel_rfl,by kernel_rfl,zae.no _ _⟩
def Tb211:Tb Tryz.prog:= {T:= [],mix:=mix,Es:= [zcc,E_spec_SqrtFloor],Bs:= [],d:=1}
def zc3 (a0:I64):Tr (T2 I64 Bool):=
 .br (!(zar a0 ⟨0,rfl⟩ ⟨1152921504606846976,rfl⟩)) (.leaf ⟨⟨0,rfl⟩,false⟩) (.br (G_spec_SqrtFloor a0 ⟨4294967296,rfl⟩) (let c2:=zfa a0 ⟨4294967296,rfl⟩;.leaf ⟨c2.a,c2.b⟩) (.bad))
theorem r_spec_l03SqrtDown (a0:I64):Tb211.run B211 [enc a0] (T2 I64 Bool)=(zc3 a0).opt:=by kernel_rfl
def zbV:I64->T2 I64 Bool:=fun a0=>(zc3 a0).get
def zdZ:I64->Bool:=fun a0=>(zc3 a0).opt.isSome
def E_spec_l03SqrtDown:Ent Tryz.prog:= .of1 Tb211 B211 zdZ zbV fun a0 h=>(r_spec_l03SqrtDown a0).trans (Tr.get_some h)
def B212:Bod Tryz.prog:=⟨212,Tryz.f212,Tryz.f212.body.getD .skip,Tryz.func212,by kernel_rfl,by kernel_rfl,zae.no _ _⟩
def Tb212:Tb Tryz.prog:= {T:= [],mix:=mix,Es:= [zeE,E_spec_l03SqrtDown],Bs:= [],d:=1}
def zbZ (a0:I64):Tr (T2 I64 Bool):=
 .br (zdZ a0) (let c1:=zbV a0;.br (!c1.b) (.leaf ⟨⟨0,rfl⟩,false⟩) (.br ((zaq c1.a c1.a ⟨32,rfl⟩).a.val != a0.val) (.leaf ⟨(Rng.w .i64 (c1.a.val+1)),true⟩) (.br ((Rng.w .i64 (zbf .and .i64 (Rng.w .i64 (c1.a.val*c1.a.val)).val 4294967295)).val != 0) (.leaf ⟨(Rng.w .i64 (c1.a.val+1)),true⟩) (.leaf ⟨c1.a,true⟩)))) (.bad)
theorem r_spec_l03SqrtUp (a0:I64):Tb212.run B212 [enc a0] (T2 I64 Bool)=(zbZ a0).opt:=by kernel_rfl
def zbM:I64->T2 I64 Bool:=fun a0=>(zbZ a0).get
def G_spec_l03SqrtUp:I64->Bool:=fun a0=>(zbZ a0).opt.isSome
def E_spec_l03SqrtUp:Ent Tryz.prog:= .of1 Tb212 B212 G_spec_l03SqrtUp zbM fun a0 h=>(r_spec_l03SqrtUp a0).trans (Tr.get_some h)
def B126:Bod Tryz.prog:=⟨126,Tryz.f126,Tryz.f126.body.getD .skip,Tryz.func126,by kernel_rfl,by kernel_rfl,zae.no _ _⟩
def Tb126:Tb Tryz.prog:= {T:= [Y2,Y30],mix:=mix,Es:= [zas,za4,za6,E_spec_l03SqrtDown,E_spec_l03SqrtUp],Bs:= [],d:=1}
def zfJ (a0:Iv):Tr (Iv):=
 .br (!(za a0)) (.leaf zo) (.br (decide (a0.lo.val<0)) (.leaf zo) (.br (zdZ a0.lo) (.br (G_spec_l03SqrtUp a0.hi) (.leaf (zai (zbV a0.lo).a (zbM a0.hi).a)) (.bad)) (.bad)))
theorem r_spec_SqrtI (a0:Iv):Tb126.run B126 [enc a0] (Iv)=(zfJ a0).opt:=by kernel_rfl
def zb8:Iv->Iv:=fun a0=>(zfJ a0).get
structure zb7 where
 x0:U64
 x1:I64
 x2:I64
 x3:U64
instance:Inhabited zb7:=⟨⟨default,default,default,default⟩⟩
def st_impl_WideSqrt_5 (x:zb7):St:=⟨[(1,.ptr 0 0),(4,.u64 x.x0),(5,.i64 x.x1)],46,⟨[(0,[.i64 x.x2,.u64 x.x3])],1,0⟩⟩
def rd_impl_WideSqrt_5:St->Option zb7:=fun s=>match s with
 | ⟨[(1,.ptr 0 0),(4,.u64 x0),(5,.i64 x1)],46,⟨[(0,[.i64 x2,.u64 x3])],1,0⟩⟩=>some ⟨x0,x1,x2,x3⟩
 | _=>none
def zdw (x:zb7):Tr (Lp zb7):=
 .br (decide (x.x1.val>=0)) (.br (decide (x.x1.val<0)) (.bad) (let c2:=(Rng.w .u64 (zbf .or .u64 x.x0.val (Rng.w .u64 (1*(2^min (x.x1.val).toNat 64))).val));let c3:=zdy c2 c2;.br (decide (c3.a.val<(Rng.w .u64 (x.x2.val)).val)) (.leaf (.again ⟨c2,(Rng.w .i64 (x.x1.val-1)),x.x2,x.x3⟩)) (.br (c3.a.val==(Rng.w .u64 (x.x2.val)).val) (.br (decide (c3.b.val<=x.x3.val)) (.leaf (.again ⟨c2,(Rng.w .i64 (x.x1.val-1)),x.x2,x.x3⟩)) (.leaf (.again ⟨x.x0,(Rng.w .i64 (x.x1.val-1)),x.x2,x.x3⟩))) (.leaf (.again ⟨x.x0,(Rng.w .i64 (x.x1.val-1)),x.x2,x.x3⟩))))) (.leaf (.out ⟨x.x0,x.x1,x.x2,x.x3⟩))
def G_impl_WideSqrt_5 (x:zb7):Bool:=(Lf zdw 66 x).opt.isSome
def L_impl_WideSqrt_5 (x:zb7):zb7:=(Lf zdw 66 x).get
def TbL_impl_WideSqrt_5:Tb Tryz.prog:= {T:= [Y2,Y132,Y148],mix:=mix,Es:= [E_math_bits_Mul64],Bs:= [],d:=1}
def P_impl_WideSqrt_5:LpF:=loopF [1,4,5] [0] 1 rd_impl_WideSqrt_5 st_impl_WideSqrt_5 (.exit 0) G_impl_WideSqrt_5 L_impl_WideSqrt_5
theorem lok_impl_WideSqrt_5:LoopOk Tryz.prog (loopAt (Tryz.f258.body.getD .skip) 0) P_impl_WideSqrt_5:=loopF_ok (t:=TbL_impl_WideSqrt_5) (lt:=fun _=>none) (body:=zdw) (n:=66) (by intro h;cases h) (fun _ _ _ h=>by cases h)
 (by intro s x h;unfold rd_impl_WideSqrt_5 at h;split at h<;>cases h;rfl) (fun x b cs h=>lk_lt (l:=(st_impl_WideSqrt_5 x).mm.blks) (by kernel_rfl) h) (by intro x;kernel_rfl) (fun x h=>Tr.get_some h)
def B258:Bod Tryz.prog:=⟨258,Tryz.f258,Tryz.f258.body.getD .skip,Tryz.func258,by kernel_rfl,by kernel_rfl,⟨ltOf [(5,P_impl_WideSqrt_5)],zae.of (ks:= [5]) (by kernel_rfl) (by
 intro i k h f hf
 match i,h with
 | 0,h=>cases h;obtain rfl:P_impl_WideSqrt_5=f:=Option.some.inj hf;exact lok_impl_WideSqrt_5
 | n+1,h=>simp at h)⟩⟩
def Tb258:Tb Tryz.prog:= {T:= [Y2,Y132,Y148],mix:=mix,Es:= [],Bs:= [],d:=1}
def zfP (a0:Wide):Tr (T2 U64 Bool):=
 .br (decide (a0.hi.val<0)) (.leaf ⟨⟨0,rfl⟩,false⟩) (.br (G_impl_WideSqrt_5 ⟨⟨0,rfl⟩,⟨63,rfl⟩,a0.hi,a0.lo⟩) (.leaf ⟨(L_impl_WideSqrt_5 ⟨⟨0,rfl⟩,⟨63,rfl⟩,a0.hi,a0.lo⟩).x0,true⟩) (.bad))
theorem r_impl_WideSqrt (a0:Wide):Tb258.run B258 [enc a0] (T2 U64 Bool)=(zfP a0).opt:=by kernel_rfl
def zeC:Wide->T2 U64 Bool:=fun a0=>(zfP a0).get
def G_impl_WideSqrt:Wide->Bool:=fun a0=>(zfP a0).opt.isSome
def E_impl_WideSqrt:Ent Tryz.prog:= .of1 Tb258 B258 G_impl_WideSqrt zeC fun a0 h=>(r_impl_WideSqrt a0).trans (Tr.get_some h)
def B278:Bod Tryz.prog:=⟨278,Tryz.f278,Tryz.f278.body.getD .skip,Tryz.func278,by kernel_rfl,by kernel_rfl,zae.no _ _⟩
def Tb278:Tb Tryz.prog:= {T:= [Y2,Y132],mix:=mix,Es:= [E_impl_WideMul,E_impl_WideSqrt],Bs:= [],d:=1}
def zdN (a0:I64) (a1:I64):Tr (T2 I64 Bool):=
 .br (decide (a0.val<0)) (.leaf ⟨⟨0,rfl⟩,false⟩) (.br (decide (a1.val<0)) (.leaf ⟨⟨0,rfl⟩,false⟩) (let c1:=zbr a0 a1;.br (G_impl_WideSqrt c1) (let c2:=zeC c1;.leaf ⟨(Rng.w .i64 (c2.a.val)),c2.b⟩) (.bad)))
theorem r_impl_SqrtFloor (a0:I64) (a1:I64):Tb278.run B278 [enc a0,enc a1] (T2 I64 Bool)=(zdN a0 a1).opt:=by kernel_rfl
def zfb:I64->I64->T2 I64 Bool:=fun a0 a1=>(zdN a0 a1).get
def G_impl_SqrtFloor:I64->I64->Bool:=fun a0 a1=>(zdN a0 a1).opt.isSome
def E_impl_SqrtFloor:Ent Tryz.prog:= .of2 Tb278 B278 G_impl_SqrtFloor zfb fun a0 a1 h=>(r_impl_SqrtFloor a0 a1).trans (Tr.get_some h)
def B204:Bod Tryz.prog:=⟨204,Tryz.f204,Tryz.f204.body.getD .skip,Tryz.func204,by kernel_rfl,by kernel_rfl,zae.no _ _⟩
def Tb204:Tb Tryz.prog:= {T:= [],mix:=mix,Es:= [zdH,E_impl_fixed,E_impl_SqrtFloor],Bs:= [],d:=1}
def zev (a0:I64):Tr (T2 I64 Bool):=
 .br (!(zaQ a0)) (.leaf ⟨⟨0,rfl⟩,false⟩) (.br (G_impl_SqrtFloor a0 ⟨4294967296,rfl⟩) (let c2:=zfb a0 ⟨4294967296,rfl⟩;let c3:=zca c2.a c2.b;.leaf ⟨c3.a,c3.b⟩) (.bad))
theorem r_impl_SqrtDown (a0:I64):Tb204.run B204 [enc a0] (T2 I64 Bool)=(zev a0).opt:=by kernel_rfl
def zeD:I64->T2 I64 Bool:=fun a0=>(zev a0).get
def zfY:I64->Bool:=fun a0=>(zev a0).opt.isSome
def E_impl_SqrtDown:Ent Tryz.prog:= .of1 Tb204 B204 zfY zeD fun a0 h=>(r_impl_SqrtDown a0).trans (Tr.get_some h)
def B205:Bod Tryz.prog:=⟨205,Tryz.f205,Tryz.f205.body.getD .skip,Tryz.func205,by kernel_rfl,by kernel_rfl,zae.no _ _⟩
def Tb205:Tb Tryz.prog:= {T:= [Y2,Y132,Y148],mix:=mix,Es:= [E_impl_SqrtDown,E_impl_WideMul,E_impl_fixed],Bs:= [],d:=1}
def zeR (a0:I64):Tr (T2 I64 Bool):=
 .br (zfY a0) (let c1:=zeD a0;.br c1.b (let c2:=zbr c1.a c1.a;let c3:=zbr a0 ⟨4294967296,rfl⟩;.br (!((c2.hi.val==c3.hi.val)&&((c2.lo.val==c3.lo.val)&&true))) (let c6:=zca (Rng.w .i64 (c1.a.val+1)) c1.b;.leaf ⟨c6.a,c6.b⟩) (let c7:=zca c1.a c1.b;.leaf ⟨c7.a,c7.b⟩)) (let c8:=zca c1.a c1.b;.leaf ⟨c8.a,c8.b⟩)) (.bad)
theorem r_impl_SqrtUp (a0:I64):Tb205.run B205 [enc a0] (T2 I64 Bool)=(zeR a0).opt:=by kernel_rfl
def F_impl_SqrtUp:I64->T2 I64 Bool:=fun a0=>(zeR a0).get
def G_impl_SqrtUp:I64->Bool:=fun a0=>(zeR a0).opt.isSome
def E_impl_SqrtUp:Ent Tryz.prog:= .of1 Tb205 B205 G_impl_SqrtUp F_impl_SqrtUp fun a0 h=>(r_impl_SqrtUp a0).trans (Tr.get_some h)
def B121:Bod Tryz.prog:=⟨121,Tryz.f121,Tryz.f121.body.getD .skip,Tryz.func121,by kernel_rfl,by kernel_rfl,zae.no _ _⟩
def Tb121:Tb Tryz.prog:= {T:= [Y2,Y30],mix:=mix,Es:= [zbY,zaD,zcf,E_impl_SqrtDown,E_impl_SqrtUp],Bs:= [],d:=1}
def t_impl_SqrtI (a0:Iv):Tr (Iv):=
 .br (zal a0) (.leaf zH) (.br (decide (a0.lo.val<0)) (.leaf zH) (.br (zfY a0.lo) (let c4:=zeD a0.lo;.br (G_impl_SqrtUp a0.hi) (let c5:=F_impl_SqrtUp a0.hi;.br c4.b (.leaf (zaN c4.a c5.a c5.b)) (.leaf (zaN c4.a c5.a false))) (.bad)) (.bad)))
theorem r_impl_SqrtI (a0:Iv):Tb121.run B121 [enc a0] (Iv)=(t_impl_SqrtI a0).opt:=by kernel_rfl
def F_impl_SqrtI:Iv->Iv:=fun a0=>(t_impl_SqrtI a0).get
end
end Go.Proofs.YtfcjhkkpbnobhaaGreat.Ev
namespace Go.Proofs.YtfcjhkkpbnobhaaGreat.Ev
open Go
theorem or_zero (x:U64):(Rng.w .u64 (zbf .or .u64 x.val 0)).val=x.val:=by
 have b:=x.ubd
 rw [or_add 0 x.val.toNat (by simp;omega) (by omega) (by decide) (by omega)]
 rw [wu (by omega) (by omega)];omega
theorem shift_ok (w:Wide) (n:I64) (h:0<=n.val/\n.val<=127):(ze5 w n).opt=some (zcW w n):=by
 have hw:zaK n ⟨0,rfl⟩ ⟨127,rfl⟩=true:=by rw [zcQ];simpa using h
 have en:(Rng.w .u64 n.val).val=n.val:=wu (by omega) (by omega)
 simp only [ze5,Tr.opt,hw,Bool.not_true,cond_false,zcW,zfH,Tr.get,en]
 by_cases h64:n.val>=64
 ·have e0:(n.val==0)=false:=by simp;omega
  have e1:decide (n.val<64)=false:=by simp;omega
  have e2:(Rng.w .i64 (n.val-64)).val=n.val-64:=wi (by omega) (by omega)
  have e3:decide ((Rng.w .i64 (n.val-64)).val<0)=false:=by rw [e2];simp;omega
  have e4:(Rng.w .u64 (Rng.w .i64 (n.val-64)).val).val=(Rng.w .i64 (n.val-64)).val:=by rw [e2];exact wu (by omega) (by omega)
  simp only [h64,decide_true,cond_true,e0,e1,e3,cond_false,e4]
 ·have e1:decide (n.val<64)=true:=by simp;omega
  have e2:decide (n.val<0)=false:=by simp;omega
  have e3:(Rng.w .i64 (64-n.val)).val=64-n.val:=wi (by omega) (by omega)
  have e4:decide ((Rng.w .i64 (64-n.val)).val<0)=false:=by rw [e3];simp;omega
  have e5:(Rng.w .u64 (Rng.w .i64 (64-n.val)).val).val=(Rng.w .i64 (64-n.val)).val:=by rw [e3];exact wu (by omega) (by omega)
  simp only [h64,decide_false,cond_false,e1,e2,e4,e5,cond_true]
  by_cases h0:n.val=0
  ·have e0:(n.val==0)=true:=by simp [h0]
   simp only [e0,cond_true]
   rw [h0]
   congr 1
   apply wide_ext
   have bl:=w.lo.ubd
   have k1:min (Int.toNat 0) 64=0:=by rfl
   have k2:min (Rng.w .i64 (64-0)).val.toNat 64=64:=by rfl
   have k3:(2:Int)^64=18446744073709551616:=by decide
   have k4:(Rng.w .u64 (w.lo.val.fdiv (2^0)))=w.lo:=by rw [show (2:Int)^0=1 by rfl,Int.fdiv_one];exact Rng.w_val _
   have k5:(Rng.w .u64 ((Rng.w .u64 w.hi.val).val*18446744073709551616)).val=0:=by rw [zbd];omega
   have k6:Rng.w .i64 (w.hi.val.fdiv (2^0))=w.hi:=by rw [show (2:Int)^0=1 by rfl,Int.fdiv_one];exact Rng.w_val _
   simp only [k1,k2,k3,k4,k5,k6,wv,or_zero]
  ·have e0:(n.val==0)=false:=by simp [h0]
   simp only [e0,cond_false]
theorem shift_F (w:Wide) (n:I64) (h:0<=n.val/\n.val<=127):F_impl_WideShift w n=zcW w n:=Tr.zan (shift_ok w n h)
theorem shift_G (w:Wide) (n:I64) (h:0<=n.val/\n.val<=127):G_impl_WideShift w n=true:=by unfold G_impl_WideShift;rw [shift_ok w n h];rfl
theorem mulfloor_ok (a b n:I64):(zew a b n).opt=some (zaq a b n):=by
 simp only [zew,Tr.opt,zaq,zfL,Tr.get,zcQ,zeF,mul_impl,mul_spec,int_impl,int_spec]
 by_cases h:0<=n.val/\n.val<=126
 ·have h':0<=n.val/\n.val<=127:=by omega
  simp only [h,and_self,decide_true,Bool.not_true,cond_false,shift_F _ _ h',shift_G _ _ h',cond_true]
 ·simp only [h,decide_false,Bool.not_false,cond_true]
theorem mulfloor_F (a b n:I64):zbI a b n=zaq a b n:=Tr.zan (mulfloor_ok a b n)
theorem mulfloor_G (a b n:I64):G_impl_MulFloor a b n=true:=by unfold G_impl_MulFloor;rw [mulfloor_ok];rfl
theorem okfix_eq (a:I64):zaQ a=zF a:=by
 simp only [zaQ,zfQ,zF,zdW,Tr.get,zcQ,zeF]
theorem muldown_ok (a b:I64):(t_impl_MulDown a b).opt=some (zN a b):=by
 simp only [t_impl_MulDown,Tr.opt,zN,zb6,Tr.get,okfix_eq,mulfloor_F,mulfloor_G,end_eq,cond_true]
 cases zF a<;>cases zF b<;>rfl
theorem muldown_F (a b:I64):zdt a b=zN a b:=Tr.zan (muldown_ok a b)
theorem muldown_G (a b:I64):zcM a b=true:=by unfold zcM;rw [muldown_ok];rfl
theorem end_cases (a:I64) (b:Bool):zat a b=⟨⟨0,rfl⟩,false⟩\/(zat a b=⟨a,true⟩/\zF a=true):=by
 simp only [zat,zch,Tr.get]
 cases b
 ·left;rfl
 ·cases h:zF a
  ·left;rfl
  ·right;exact ⟨rfl,rfl⟩
theorem zeS (a b:I64):zN a b=⟨⟨0,rfl⟩,false⟩\/∃c,zN a b=⟨c,true⟩/\zF c=true:=by
 simp only [zN,zb6,Tr.get]
 cases zF a
 ·left;rfl
 ·cases zF b
  ·left;rfl
  ·simp only [Bool.not_true,cond_false]
   rcases end_cases (zaq a b ⟨32,rfl⟩).a (zaq a b ⟨32,rfl⟩).b with h|⟨h,k⟩
   ·left;rw [h]
   ·right;exact ⟨_,h,k⟩
theorem muldown_bad (a b:I64) (h:zF b=false):zN a b=⟨⟨0,rfl⟩,false⟩:=by
 simp only [zN,zb6,Tr.get,h]
 cases zF a<;>rfl
theorem mulup_ok (a b:I64):(t_impl_MulUp a b).opt=some (zak a b):=by
 simp only [t_impl_MulUp,Tr.opt,zak,zdB,Tr.get,okfix_eq,muldown_F,muldown_G,cond_true]
 cases zF a
 ·rfl
 ·simp only [Bool.not_true,cond_false]
  cases hb:zF b
  ·rw [muldown_bad _ _ hb];rfl
  ·simp only [Bool.not_true,cond_false]
   rcases zeS (.w .i64 (0-a.val)) b with h|⟨c,h,_⟩<;>rw [h]<;>rfl
theorem mulup_F (a b:I64):F_impl_MulUp a b=zak a b:=Tr.zan (mulup_ok a b)
theorem mulup_G (a b:I64):zeL a b=true:=by unfold zeL;rw [mulup_ok];rfl
theorem divdown_F (a b:I64):zcP a b=zG a b:=by
 simp only [zcP,t_impl_DivDown,zG,zby,Tr.get,okfix_eq,md_F_impl,ze8,end_eq]
 cases zF a
 ·rfl
 ·cases zF b
  ·rfl
  ·simp only [Bool.not_true,cond_false]
   by_cases h0:b.val=0
   ·have e0:(b.val==0)=true:=by simp [h0]
    have e1:decide (b.val<0)=false:=by simp [h0]
    simp only [e0,e1,cond_true,cond_false,MD]
    rw [if_neg (by omega)]
    simp only [end_no]
   ·have e0:(b.val==0)=false:=by simp [h0]
    simp only [e0,cond_false]
theorem zeT (a b:I64):zG a b=⟨⟨0,rfl⟩,false⟩\/∃c,zG a b=⟨c,true⟩/\zF c=true:=by
 simp only [zG,zby,Tr.get,ze8]
 cases zF a
 ·left;rfl
 ·cases zF b
  ·left;rfl
  ·simp only [Bool.not_true,cond_false]
   cases (b.val==0)
   ·simp only [cond_false]
    cases decide (b.val<0)
    ·simp only [cond_false]
     rcases end_cases (MD a ⟨4294967296,rfl⟩ b).a (MD a ⟨4294967296,rfl⟩ b).b with h|⟨h,k⟩
     ·left;rw [h]
     ·right;exact ⟨_,h,k⟩
    ·simp only [cond_true]
     rcases end_cases (MD (.w .i64 (0-a.val)) ⟨4294967296,rfl⟩ (.w .i64 (0-b.val))).a (MD (.w .i64 (0-a.val)) ⟨4294967296,rfl⟩ (.w .i64 (0-b.val))).b with h|⟨h,k⟩
     ·left;rw [h]
     ·right;exact ⟨_,h,k⟩
   ·left;rfl
theorem divdown_bad (a b:I64) (h:zF b=false):zG a b=⟨⟨0,rfl⟩,false⟩:=by
 simp only [zG,zby,Tr.get,h]
 cases zF a<;>rfl
theorem divup_F (a b:I64):zeM a b=z8 a b:=by
 simp only [zeM,t_impl_DivUp,z8,zcR,Tr.get,okfix_eq,divdown_F]
 cases zF a
 ·rfl
 ·simp only [Bool.not_true,cond_false]
  cases hb:zF b
  ·rw [divdown_bad _ _ hb];rfl
  ·rfl
theorem min_eq (a b:I64):mn a b=zB a b:=by
 simp only [mn,zB,t_spec_l00Min,Tr.get]
 by_cases h:b.val<a.val
 ·have:decide (a.val<b.val)=false:=by simp;omega
  simp only [h,decide_true,cond_true,this,cond_false]
 ·by_cases h':a.val<b.val
  ·simp only [h,h',decide_true,decide_false,cond_true,cond_false]
  ·simp only [h,h',decide_false,cond_false];exact rext (by omega)
theorem max_eq (a b:I64):mx a b=zt a b:=by
 simp only [mx,zt,t_spec_l00Max,Tr.get]
 by_cases h:b.val>a.val
 ·have:decide (a.val>b.val)=false:=by simp;omega
  simp only [h,decide_true,cond_true,this,cond_false]
 ·by_cases h':a.val>b.val
  ·simp only [h,h',decide_true,decide_false,cond_true,cond_false]
  ·simp only [h,h',decide_false,cond_false];exact rext (by omega)
theorem ok_bd {a:I64} (h:zF a=true): -1152921504606846976<=a.val/\a.val<=1152921504606846976:=by
 simpa [zF,zdW,Tr.get,zeF] using h
theorem min_top {a:I64} (h:zF a=true):zB ⟨1152921504606846976,rfl⟩ a=a:=by
 have:=ok_bd h
 simp only [zB,t_spec_l00Min,Tr.get]
 by_cases h:(1152921504606846976:Int)<a.val
 ·omega
 ·simp only [h,decide_false,cond_false]
theorem max_top {a:I64} (h:zF a=true):zt ⟨-1152921504606846976,rfl⟩ a=a:=by
 have:=ok_bd h
 simp only [zt,t_spec_l00Max,Tr.get]
 by_cases h:(-1152921504606846976:Int)>a.val
 ·omega
 ·simp only [h,decide_false,cond_false]
theorem min_self (a:I64):zB a a=a:=by
 simp only [zB,t_spec_l00Min,Tr.get];cases decide (a.val<a.val)<;>rfl
theorem max_self (a:I64):zt a a=a:=by
 simp only [zt,t_spec_l00Max,Tr.get];cases decide (a.val>a.val)<;>rfl
theorem areb_eq (a b:Iv):za2 a b=(za a&&za b):=by
 simp only [za2,t_impl_areBounded,Tr.get,valid_eq]
 cases za a<;>rfl
theorem ok_neg {c:I64} (h:zF c=true):zF (.w .i64 (0-c.val))=true:=by
 have:=ok_bd h
 simp only [zF,zdW,Tr.get,zeF]
 rw [wi (by omega) (by omega)]
 simp;omega
theorem mulup_cases (a b:I64):(zak a b).b=false\/∃c,zak a b=⟨c,true⟩/\zF c=true:=by
 simp only [zak,zdB,Tr.get]
 cases zF a
 ·left;rfl
 ·rcases zeS (.w .i64 (0-a.val)) b with h|⟨c,h,k⟩
  ·left;rw [h];rfl
  ·right;rw [h];exact ⟨_,rfl,ok_neg k⟩
theorem divup_cases (a b:I64):(z8 a b).b=false\/∃c,z8 a b=⟨c,true⟩/\zF c=true:=by
 simp only [z8,zcR,Tr.get]
 cases zF a
 ·left;rfl
 ·rcases zeT (.w .i64 (0-a.val)) b with h|⟨c,h,k⟩
  ·left;rw [h];rfl
  ·right;rw [h];exact ⟨_,rfl,ok_neg k⟩
theorem mulI_ok (a b:Iv):(t_impl_MulI a b).opt=some (zC a b):=by
 simp only [t_impl_MulI,Tr.opt,zC,t_spec_MulI,Tr.get,areb_eq,muldown_F,muldown_G,mulup_F,mulup_G,cond_true,zbt,zex,min_eq,max_eq]
 cases za a
 ·rfl
 cases za b
 ·rfl
 simp only [Bool.and_self,Bool.not_true,cond_false]
 rcases zeS a.lo b.lo with h|⟨c1,h,k1⟩
 ·rw [h];rfl
 rw [h]
 rcases mulup_cases a.lo b.lo with h|⟨d1,h,l1⟩
 ·simp only [h,Bool.not_true,Bool.not_false,cond_true,cond_false]
 rw [h]
 rcases zeS a.lo b.hi with h|⟨c2,h,k2⟩
 ·rw [h];rfl
 rw [h]
 rcases mulup_cases a.lo b.hi with h|⟨d2,h,l2⟩
 ·simp only [h,Bool.not_true,Bool.not_false,cond_true,cond_false]
 rw [h]
 rcases zeS a.hi b.lo with h|⟨c3,h,k3⟩
 ·rw [h];rfl
 rw [h]
 rcases mulup_cases a.hi b.lo with h|⟨d3,h,l3⟩
 ·simp only [h,Bool.not_true,Bool.not_false,cond_true,cond_false]
 rw [h]
 rcases zeS a.hi b.hi with h|⟨c4,h,k4⟩
 ·rw [h];rfl
 rw [h]
 rcases mulup_cases a.hi b.hi with h|⟨d4,h,l4⟩
 ·simp only [h,Bool.not_true,Bool.not_false,cond_true,cond_false]
 rw [h]
 simp only [Bool.not_true,cond_false,min_self,max_self,min_top k1,max_top l1]
theorem mulI_F (a b:Iv):zaf a b=zC a b:=Tr.zan (mulI_ok a b)
theorem has_eq (a:Iv) (n:I64) (h:za a=true):zee a n=zaO a n:=by
 simp only [zee,t_impl_HasI,zaO,zcg,Tr.get,zal,zdk,valid_eq,h,Bool.not_true,cond_false,zcQ,zeF]
theorem divI_F (a b:Iv):za5 a b=zz a b:=by
 simp only [za5,t_impl_DivI,zz,zfM,Tr.get,areb_eq,divdown_F,divup_F,zbt,zex,min_eq,max_eq]
 cases ha:za a
 ·rfl
 cases hb:za b
 ·rfl
 simp only [Bool.and_self,Bool.not_true,cond_false,has_eq b _ hb]
 cases zaO b ⟨0,rfl⟩
 case true=>rfl
 simp only [cond_false]
 rcases zeT a.lo b.lo with h|⟨c1,h,k1⟩
 ·rw [h];rfl
 rw [h]
 rcases divup_cases a.lo b.lo with h|⟨d1,h,l1⟩
 ·simp only [h,Bool.not_true,Bool.not_false,cond_true,cond_false]
 rw [h]
 rcases zeT a.lo b.hi with h|⟨c2,h,k2⟩
 ·rw [h];rfl
 rw [h]
 rcases divup_cases a.lo b.hi with h|⟨d2,h,l2⟩
 ·simp only [h,Bool.not_true,Bool.not_false,cond_true,cond_false]
 rw [h]
 rcases zeT a.hi b.lo with h|⟨c3,h,k3⟩
 ·rw [h];rfl
 rw [h]
 rcases divup_cases a.hi b.lo with h|⟨d3,h,l3⟩
 ·simp only [h,Bool.not_true,Bool.not_false,cond_true,cond_false]
 rw [h]
 rcases zeT a.hi b.hi with h|⟨c4,h,k4⟩
 ·rw [h];rfl
 rw [h]
 rcases divup_cases a.hi b.hi with h|⟨d4,h,l4⟩
 ·simp only [h,Bool.not_true,Bool.not_false,cond_true,cond_false]
 rw [h]
 simp only [Bool.not_true,cond_false,cond_true,min_self,max_self,min_top k1,max_top l1]
theorem sqrI_ok (a:Iv):(t_impl_SqrI a).opt=some (zbe a):=by
 simp only [t_impl_SqrI,Tr.opt,zbe,t_spec_SqrI,Tr.get,muldown_F,muldown_G,mulup_F,mulup_G,cond_true,zbt,zex,zal,zdk,valid_eq]
 cases h:za a
 ·rfl
 simp only [Bool.not_true,cond_false]
 have e:zcq a=⟨(zM a).a,(zM a).b⟩:=by
  simp only [zcq,t_impl_AbsI,zM,zd6,Tr.get,zal,zdk,valid_eq,h,Bool.not_true,cond_false,has_eq a _ h,max_eq,min_eq,zbs,t_impl_abs]
  cases zaO a ⟨0,rfl⟩<;>rfl
 rw [e]
 cases (zN (zM a).a (zM a).a).b<;>cases (zak (zM a).b (zM a).b).b<;>rfl
theorem sqrI_F (a:Iv):zeX a=zbe a:=Tr.zan (sqrI_ok a)
theorem tt_mulfloor (a b n:I64):(zew a b n).opt=some (zbI a b n):=zdi (mulfloor_ok a b n)
theorem tt_mulI (a b:Iv):(t_impl_MulI a b).opt=some (zaf a b):=zdi (mulI_ok a b)
theorem tt_sqrI (a:Iv):(t_impl_SqrI a).opt=some (zeX a):=zdi (sqrI_ok a)
end Go.Proofs.YtfcjhkkpbnobhaaGreat.Ev
namespace Go.Proofs.YtfcjhkkpbnobhaaGreat.Ev
open Go
theorem root_loop (hi:I64) (lo:U64):∀(k m:Nat) (r:U64) (i:I64),k<=64->i.val=(k:Int)-1->
  ∃q:U64,(Lf zbK (k+1+m) ⟨r,i,hi,lo⟩).opt=some ⟨q,.w .i64 (-1),hi,lo⟩/\(Lf zdw (k+1+m) ⟨r,i,hi,lo⟩).opt=some ⟨q,.w .i64 (-1),hi,lo⟩:=by
 intro k
 induction k with
 | zero=>
  intro m r i _ hi'
  have h0:decide (i.val>=0)=false:=by simp;omega
  have e:i= .w .i64 (-1):=rext (by rw [wi (by omega) (by omega)];omega)
  refine ⟨r,?_,?_⟩
  ·simp only [Lf,zbK,h0,Tr.bind,Tr.opt,cond_false,Nat.zero_add,Nat.add_comm 1 m,<- e]
  ·simp only [Lf,zdw,h0,Tr.bind,Tr.opt,cond_false,Nat.zero_add,Nat.add_comm 1 m,<- e]
 | succ k ih=>
  intro m r i hk hi'
  have h0:decide (i.val>=0)=true:=by simp;omega
  have h1:decide (i.val<0)=false:=by simp;omega
  have en:(Rng.w .u64 i.val).val=i.val:=wu (by omega) (by omega)
  have e1:(Rng.w .i64 (i.val-1)).val=(k:Int)-1:=by rw [wi (by omega) (by omega)];omega
  have hfuel:k+1+1+m=(k+1+m)+1:=by omega
  obtain ⟨q1,a1,b1⟩:=ih m (Rng.w .u64 (zbf .or .u64 r.val (Rng.w .u64 (1*(2^min (i.val).toNat 64))).val)) (.w .i64 (i.val-1)) (by omega) e1
  obtain ⟨q2,a2,b2⟩:=ih m r (.w .i64 (i.val-1)) (by omega) e1
  rw [hfuel]
  simp only [Lf,zbK,zdw,h0,h1,en,times_spec,times_impl,Tr.bind,Tr.opt,cond_true,cond_false,a1,b1,a2,b2]
  generalize decide ((Rng.w .u64 _).val<_)=c1
  generalize ((Rng.w .u64 _).val==_)=c2
  generalize decide ((Rng.w .u64 _).val<=_)=c3
  cases c1
  ·cases c2
   ·exact ⟨q2,rfl,rfl⟩
   ·cases c3
    ·exact ⟨q2,rfl,rfl⟩
    ·exact ⟨q1,rfl,rfl⟩
  ·exact ⟨q1,rfl,rfl⟩
theorem root_ok (w:Wide):(zcH w).opt=some (zy w)/\(zfP w).opt=some (bif decide (w.hi.val<0) then ⟨⟨0,rfl⟩,false⟩ else ⟨zy w,true⟩):=by
 obtain ⟨q,h1,h2⟩:=root_loop w.hi w.lo 64 1 ⟨0,rfl⟩ ⟨63,rfl⟩ (by omega) (by rfl)
 have hf:(64+1+1:Nat)=66:=rfl
 rw [hf] at h1 h2
 have g1:zdR ⟨⟨0,rfl⟩,⟨63,rfl⟩,w.hi,w.lo⟩=true:=by unfold zdR;rw [h1];rfl
 have g2:G_impl_WideSqrt_5 ⟨⟨0,rfl⟩,⟨63,rfl⟩,w.hi,w.lo⟩=true:=by unfold G_impl_WideSqrt_5;rw [h2];rfl
 have l1:L_spec_l02Root_3 ⟨⟨0,rfl⟩,⟨63,rfl⟩,w.hi,w.lo⟩=_:=Tr.zan h1
 have l2:L_impl_WideSqrt_5 ⟨⟨0,rfl⟩,⟨63,rfl⟩,w.hi,w.lo⟩=_:=Tr.zan h2
 have k1:(zcH w).opt=some q:=by simp only [zcH,Tr.opt,g1,l1,cond_true]
 have k2:zy w=q:=Tr.zan k1
 refine ⟨by rw [k1,k2],?_⟩
 simp only [zfP,Tr.opt,g2,l2,cond_true,k2]
 cases decide (w.hi.val<0)<;>rfl
theorem root_G (w:Wide):G_spec_l02Root w=true:=by unfold G_spec_l02Root;rw [(root_ok w).1];rfl
theorem wsqrt_G (w:Wide):G_impl_WideSqrt w=true:=by unfold G_impl_WideSqrt;rw [(root_ok w).2];rfl
theorem tt_root_spec (w:Wide):(zcH w).opt=some (zy w):=(root_ok w).1
theorem tt_sf_spec (a b:I64):(zdJ a b).opt=some (zfa a b):=opt_self2 (by
 simp only [zdJ,Tr.opt,root_G,cond_true]
 cases decide (a.val<0)<;>cases decide (b.val<0)<;>rfl)
theorem tt_sf_impl (a b:I64):(zdN a b).opt=some (zfb a b):=opt_self2 (by
 simp only [zdN,Tr.opt,wsqrt_G,cond_true]
 cases decide (a.val<0)<;>cases decide (b.val<0)<;>rfl)
theorem sf_G_spec (a b:I64):G_spec_SqrtFloor a b=true:=by unfold G_spec_SqrtFloor;rw [tt_sf_spec];rfl
theorem sf_G_impl (a b:I64):G_impl_SqrtFloor a b=true:=by unfold G_impl_SqrtFloor;rw [tt_sf_impl];rfl
theorem tt_sd_spec (a:I64):(zc3 a).opt=some (zbV a):=opt_self2 (by
 simp only [zc3,Tr.opt,sf_G_spec,cond_true]
 cases zar a ⟨0,rfl⟩ ⟨1152921504606846976,rfl⟩<;>rfl)
theorem tt_sd_impl (a:I64):(zev a).opt=some (zeD a):=opt_self2 (by
 simp only [zev,Tr.opt,sf_G_impl,cond_true]
 cases zaQ a<;>rfl)
theorem sd_G_spec (a:I64):zdZ a=true:=by unfold zdZ;rw [tt_sd_spec];rfl
theorem sd_G_impl (a:I64):zfY a=true:=by unfold zfY;rw [tt_sd_impl];rfl
theorem cond_some {γ:Type} (c:Bool) (x y:Option γ) (hx:x.isSome=true) (hy:y.isSome=true):(bif c then x else y).isSome=true:=by cases c<;>assumption
theorem tt_su_spec (a:I64):(zbZ a).opt=some (zbM a):=opt_self2 (by
 simp only [zbZ,Tr.opt,sd_G_spec,cond_true]
 repeat' (first|apply cond_some|rfl))
theorem tt_su_impl (a:I64):(zeR a).opt=some (F_impl_SqrtUp a):=opt_self2 (by
 simp only [zeR,Tr.opt,sd_G_impl,cond_true]
 repeat' (first|apply cond_some|rfl))
theorem su_G_spec (a:I64):G_spec_l03SqrtUp a=true:=by unfold G_spec_l03SqrtUp;rw [tt_su_spec];rfl
theorem su_G_impl (a:I64):G_impl_SqrtUp a=true:=by unfold G_impl_SqrtUp;rw [tt_su_impl];rfl
theorem tt_sqrtI_spec (a:Iv):(zfJ a).opt=some (zb8 a):=opt_self2 (by
 simp only [zfJ,Tr.opt,sd_G_spec,su_G_spec,cond_true]
 repeat' (first|apply cond_some|rfl))
theorem tt_sqrtI_impl (a:Iv):(t_impl_SqrtI a).opt=some (F_impl_SqrtI a):=opt_self2 (by
 simp only [t_impl_SqrtI,Tr.opt,sd_G_impl,su_G_impl,cond_true]
 repeat' (first|apply cond_some|rfl))
end Go.Proofs.YtfcjhkkpbnobhaaGreat.Ev
namespace Go.Proofs.YtfcjhkkpbnobhaaGreat.Ev
open Go Go.RowKit
set_option maxRecDepth 100000
section
variable [Amb]
def ET_spec_l02Root:Ent Tryz.prog:= .of1 Tb267 B267 (fun _=>true) zy fun a0 _=>(r_spec_l02Root a0).trans (tt_root_spec a0)
def ET_spec_SqrtI:Ent Tryz.prog:= .of1 Tb126 B126 (fun _=>true) zb8 fun a0 _=>(r_spec_SqrtI a0).trans (tt_sqrtI_spec a0)
def ET_impl_SqrtI:Ent Tryz.prog:= .of1 Tb121 B121 (fun _=>true) F_impl_SqrtI fun a0 _=>(r_impl_SqrtI a0).trans (tt_sqrtI_impl a0)
def ET_impl_MulFloor:Ent Tryz.prog:= .of3 Tb275 B275 (fun _ _ _=>true) zbI fun a0 a1 a2 _=>(r_impl_MulFloor a0 a1 a2).trans (tt_mulfloor a0 a1 a2)
def ET_impl_MulI:Ent Tryz.prog:= .of2 Tb116 B116 (fun _ _=>true) zaf fun a0 a1 _=>(r_impl_MulI a0 a1).trans (tt_mulI a0 a1)
def ET_impl_SqrI:Ent Tryz.prog:= .of1 Tb206 B206 (fun _=>true) zeX fun a0 _=>(r_impl_SqrI a0).trans (tt_sqrI a0)
def B107:Bod Tryz.prog:=⟨107,Tryz.f107,Tryz.f107.body.getD .skip,Tryz.func107,by kernel_rfl,by kernel_rfl,zae.no _ _⟩
def Tb107_p:Tb Tryz.prog:= {T:= [Y2,Y30],mix:=mix,Es:= [zeE],Bs:= [],d:=1}
def zc7 (a0:I64):Tr (Iv):=
 .br (a0.val==0) (.leaf ⟨⟨0,rfl⟩,⟨0,rfl⟩⟩) (.br (decide (a0.val<0)) (.bad) (let c2:=zaq a0 ⟨7244019458077122842,rfl⟩ ⟨30,rfl⟩;.leaf ⟨c2.a,(Rng.w .i64 (c2.a.val+1))⟩))
theorem r_spec_l05Turn_p (a0:I64):Tb107_p.run B107 [enc a0] (Iv)=(zc7 a0).opt:=by kernel_rfl
def zbL:I64->Iv:=fun a0=>(zc7 a0).get
def zdQ:I64->Bool:=fun a0=>(zc7 a0).opt.isSome
def E_spec_l05Turn_p:Ent Tryz.prog:= .of1 Tb107_p B107 zdQ zbL fun a0 h=>(r_spec_l05Turn_p a0).trans (Tr.get_some h)
def Tb107:Tb Tryz.prog:= {T:= [Y2,Y30],mix:=mix,Es:= [E_spec_l05Turn_p,zeE],Bs:= [],d:=1}
def zcG (a0:I64):Tr (Iv):=
 .br (a0.val==0) (.leaf ⟨⟨0,rfl⟩,⟨0,rfl⟩⟩) (.br (decide (a0.val<0)) (let c1:=(Rng.w .i64 (0-a0.val));.br (zdQ c1) (let c2:=zbL c1;.leaf ⟨(Rng.w .i64 (0-c2.hi.val)),(Rng.w .i64 (0-c2.lo.val))⟩) (.bad)) (let c5:=zaq a0 ⟨7244019458077122842,rfl⟩ ⟨30,rfl⟩;.leaf ⟨c5.a,(Rng.w .i64 (c5.a.val+1))⟩))
theorem r_spec_l05Turn (a0:I64):Tb107.run B107 [enc a0] (Iv)=(zcG a0).opt:=by kernel_rfl
def zbA:I64->Iv:=fun a0=>(zcG a0).get
def zcK:I64->Bool:=fun a0=>(zcG a0).opt.isSome
def E_spec_l05Turn:Ent Tryz.prog:= .of1 Tb107 B107 zcK zbA fun a0 h=>(r_spec_l05Turn a0).trans (Tr.get_some h)
def B51:Bod Tryz.prog:=⟨51,Tryz.f51,Tryz.f51.body.getD .skip,Tryz.func51,by kernel_rfl,by kernel_rfl,zae.no _ _⟩
def Tb51:Tb Tryz.prog:= {T:= [Y2,Y30],mix:=mix,Es:= [zcc,E_spec_l05Turn,zd4],Bs:= [],d:=1}
def zfI (a0:I64):Tr (Iv):=
 .br (!(zar a0 ⟨(-4096),rfl⟩ ⟨4096,rfl⟩)) (.leaf zaR) (.br (zcK a0) (.leaf (zbA a0)) (.bad))
theorem r_spec_TurnI (a0:I64):Tb51.run B51 [enc a0] (Iv)=(zfI a0).opt:=by kernel_rfl
def zV:I64->Iv:=fun a0=>(zfI a0).get
def B240:Bod Tryz.prog:=⟨240,Tryz.f240,Tryz.f240.body.getD .skip,Tryz.func240,by kernel_rfl,by kernel_rfl,zae.no _ _⟩
def Tb240_p:Tb Tryz.prog:= {T:= [Y2,Y30],mix:=mix,Es:= [zaD,zbO,ET_impl_MulFloor],Bs:= [],d:=1}
def zfh (a0:I64):Tr (Iv):=
 .br (!(zaK a0 ⟨(-4096),rfl⟩ ⟨4096,rfl⟩)) (.leaf zH) (.br (decide (a0.val<0)) (.bad) (.br (a0.val==0) (.leaf ⟨⟨0,rfl⟩,⟨0,rfl⟩⟩) (let c4:=zbI a0 ⟨7244019458077122842,rfl⟩ ⟨30,rfl⟩;.leaf ⟨c4.a,(Rng.w .i64 (c4.a.val+1))⟩)))
theorem r_impl_TurnI_p (a0:I64):Tb240_p.run B240 [enc a0] (Iv)=(zfh a0).opt:=by kernel_rfl
def F_impl_TurnI_p:I64->Iv:=fun a0=>(zfh a0).get
def G_impl_TurnI_p:I64->Bool:=fun a0=>(zfh a0).opt.isSome
def E_impl_TurnI_p:Ent Tryz.prog:= .of1 Tb240_p B240 G_impl_TurnI_p F_impl_TurnI_p fun a0 h=>(r_impl_TurnI_p a0).trans (Tr.get_some h)
def Tb240:Tb Tryz.prog:= {T:= [Y2,Y30],mix:=mix,Es:= [zaD,zbO,E_impl_NegI,E_impl_TurnI_p,ET_impl_MulFloor],Bs:= [],d:=1}
def zeI (a0:I64):Tr (Iv):=
 .br (!(zaK a0 ⟨(-4096),rfl⟩ ⟨4096,rfl⟩)) (.leaf zH) (.br (decide (a0.val<0)) (let c3:=(Rng.w .i64 (0-a0.val));.br (G_impl_TurnI_p c3) (.leaf (zdb (F_impl_TurnI_p c3))) (.bad)) (.br (a0.val==0) (.leaf ⟨⟨0,rfl⟩,⟨0,rfl⟩⟩) (let c6:=zbI a0 ⟨7244019458077122842,rfl⟩ ⟨30,rfl⟩;.leaf ⟨c6.a,(Rng.w .i64 (c6.a.val+1))⟩)))
theorem r_impl_TurnI (a0:I64):Tb240.run B240 [enc a0] (Iv)=(zeI a0).opt:=by kernel_rfl
def za8:I64->Iv:=fun a0=>(zeI a0).get
def B260:Bod Tryz.prog:=⟨260,Tryz.f260,Tryz.f260.body.getD .skip,Tryz.func260,by kernel_rfl,by kernel_rfl,zae.no _ _⟩
def Tb260:Tb Tryz.prog:= {T:= [],mix:=mix,Es:= [zcc],Bs:= [],d:=1}
def zdA (a0:I64):Tr (Bool):=
 .leaf (zar a0 ⟨(-1099511627776),rfl⟩ ⟨1099511627776,rfl⟩)
theorem r_spec_l06Angle (a0:I64):Tb260.run B260 [enc a0] (Bool)=(zdA a0).opt:=by kernel_rfl
def za0:I64->Bool:=fun a0=>(zdA a0).get
theorem u_spec_l06Angle (a0:I64):(zdA a0).opt=some (za0 a0):=Tr.zL (by kernel_rfl)
def E_spec_l06Angle:Ent Tryz.prog:= .of1 Tb260 B260 (fun _=>true) za0 fun a0 _=>(r_spec_l06Angle a0).trans (u_spec_l06Angle a0)
def B265:Bod Tryz.prog:=⟨265,Tryz.f265,Tryz.f265.body.getD .skip,Tryz.func265,by kernel_rfl,by kernel_rfl,zae.no _ _⟩
def Tb265:Tb Tryz.prog:= {T:= [],mix:=mix,Es:= [],Bs:= [],d:=1}
def zfF (a0:I64) (a1:I64):Tr (I64):=
 .br (a1.val==0) (.bad) (let c1:=(Rng.w .i64 (a0.val.tdiv a1.val));.br (a1.val==0) (.bad) (.br (decide ((Rng.w .i64 (a0.val.tmod a1.val)).val<0)) (.leaf (Rng.w .i64 (c1.val-1))) (.leaf c1)))
theorem r_spec_l06Floor (a0:I64) (a1:I64):Tb265.run B265 [enc a0,enc a1] (I64)=(zfF a0 a1).opt:=by kernel_rfl
def F_spec_l06Floor:I64->I64->I64:=fun a0 a1=>(zfF a0 a1).get
def G_spec_l06Floor:I64->I64->Bool:=fun a0 a1=>(zfF a0 a1).opt.isSome
def E_spec_l06Floor:Ent Tryz.prog:= .of2 Tb265 B265 G_spec_l06Floor F_spec_l06Floor fun a0 a1 h=>(r_spec_l06Floor a0 a1).trans (Tr.get_some h)
def B185:Bod Tryz.prog:=⟨185,Tryz.f185,Tryz.f185.body.getD .skip,Tryz.func185,by kernel_rfl,by kernel_rfl,zae.no _ _⟩
def Tb185:Tb Tryz.prog:= {T:= [],mix:=mix,Es:= [E_spec_l06Angle,E_spec_l06Floor],Bs:= [],d:=1}
def zdL (a0:I64):Tr (I64):=
 .br (!(za0 a0)) (.leaf ⟨0,rfl⟩) (let c2:=(Rng.w .i64 (a0.val+3373259426));.br (G_spec_l06Floor c2 ⟨6746518852,rfl⟩) (.leaf (F_spec_l06Floor c2 ⟨6746518852,rfl⟩)) (.bad))
theorem r_spec_QuarterOf (a0:I64):Tb185.run B185 [enc a0] (I64)=(zdL a0).opt:=by kernel_rfl
def zao:I64->I64:=fun a0=>(zdL a0).get
def B317:Bod Tryz.prog:=⟨317,Tryz.f317,Tryz.f317.body.getD .skip,Tryz.func317,by kernel_rfl,by kernel_rfl,zae.no _ _⟩
def Tb317:Tb Tryz.prog:= {T:= [],mix:=mix,Es:= [zbO],Bs:= [],d:=1}
def t_impl_isAngle (a0:I64):Tr (Bool):=
 .leaf (zaK a0 ⟨(-1099511627776),rfl⟩ ⟨1099511627776,rfl⟩)
theorem r_impl_isAngle (a0:I64):Tb317.run B317 [enc a0] (Bool)=(t_impl_isAngle a0).opt:=by kernel_rfl
def zds:I64->Bool:=fun a0=>(t_impl_isAngle a0).get
theorem u_impl_isAngle (a0:I64):(t_impl_isAngle a0).opt=some (zds a0):=Tr.zL (by kernel_rfl)
def E_impl_isAngle:Ent Tryz.prog:= .of1 Tb317 B317 (fun _=>true) zds fun a0 _=>(r_impl_isAngle a0).trans (u_impl_isAngle a0)
def B318:Bod Tryz.prog:=⟨318,Tryz.f318,Tryz.f318.body.getD .skip,Tryz.func318,by kernel_rfl,by kernel_rfl,zae.no _ _⟩
def Tb318:Tb Tryz.prog:= {T:= [],mix:=mix,Es:= [E_impl_isAngle],Bs:= [],d:=1}
def ze7 (a0:I64):Tr (I64):=
 .br (!(zds a0)) (.leaf ⟨0,rfl⟩) (let c3:=(Rng.w .i64 ((Rng.w .i64 (a0.val+3373259426)).val.tdiv 6746518852));.br (decide ((Rng.w .i64 (c3.val*6746518852)).val>(Rng.w .i64 (a0.val+3373259426)).val)) (.leaf (Rng.w .i64 (c3.val-1))) (.leaf c3))
theorem r_impl_QuarterOf (a0:I64):Tb318.run B318 [enc a0] (I64)=(ze7 a0).opt:=by kernel_rfl
def zb3:I64->I64:=fun a0=>(ze7 a0).get
theorem u_impl_QuarterOf (a0:I64):(ze7 a0).opt=some (zb3 a0):=Tr.zL (by kernel_rfl)
def E_impl_QuarterOf:Ent Tryz.prog:= .of1 Tb318 B318 (fun _=>true) zb3 fun a0 _=>(r_impl_QuarterOf a0).trans (u_impl_QuarterOf a0)
def B102:Bod Tryz.prog:=⟨102,Tryz.f102,Tryz.f102.body.getD .skip,Tryz.func102,by kernel_rfl,by kernel_rfl,zae.no _ _⟩
def Tb102:Tb Tryz.prog:= {T:= [Y2,Y30],mix:=mix,Es:= [zas,za6,E_spec_l00Min,E_spec_l00Max],Bs:= [],d:=1}
def zeG (a0:Iv) (a1:Iv):Tr (T2 Iv Bool):=
 .br (!(za a0)) (.br (!(za a1)) (.leaf ⟨zo,true⟩) (.br (!(za a0)) (.leaf ⟨a1,true⟩) (.br (!(za a1)) (.leaf ⟨a0,true⟩) (let c6:=zt a0.lo a1.lo;let c7:=zB a0.hi a1.hi;.br (decide (c6.val>c7.val)) (.leaf ⟨⟨⟨0,rfl⟩,⟨0,rfl⟩⟩,false⟩) (.leaf ⟨⟨c6,c7⟩,true⟩))))) (.br (!(za a0)) (.leaf ⟨a1,true⟩) (.br (!(za a1)) (.leaf ⟨a0,true⟩) (let c11:=zt a0.lo a1.lo;let c12:=zB a0.hi a1.hi;.br (decide (c11.val>c12.val)) (.leaf ⟨⟨⟨0,rfl⟩,⟨0,rfl⟩⟩,false⟩) (.leaf ⟨⟨c11,c12⟩,true⟩))))
theorem r_spec_MeetI (a0:Iv) (a1:Iv):Tb102.run B102 [enc a0,enc a1] (T2 Iv Bool)=(zeG a0 a1).opt:=by kernel_rfl
def zcX:Iv->Iv->T2 Iv Bool:=fun a0 a1=>(zeG a0 a1).get
theorem u_spec_MeetI (a0:Iv) (a1:Iv):(zeG a0 a1).opt=some (zcX a0 a1):=Tr.zL (by kernel_rfl)
def E_spec_MeetI:Ent Tryz.prog:= .of2 Tb102 B102 (fun _ _=>true) zcX fun a0 a1 _=>(r_spec_MeetI a0 a1).trans (u_spec_MeetI a0 a1)
def B29:Bod Tryz.prog:=⟨29,Tryz.f29,Tryz.f29.body.getD .skip,Tryz.func29,by kernel_rfl,by kernel_rfl,zae.no _ _⟩
def Tb29:Tb Tryz.prog:= {T:= [Y2,Y30],mix:=mix,Es:= [E_spec_MeetI],Bs:= [],d:=1}
def zes (a0:Iv) (a1:Iv):Tr (Bool):=
 .leaf (zcX a0 a1).b
theorem r_spec_OverlapI (a0:Iv) (a1:Iv):Tb29.run B29 [enc a0,enc a1] (Bool)=(zes a0 a1).opt:=by kernel_rfl
def za7:Iv->Iv->Bool:=fun a0 a1=>(zes a0 a1).get
theorem u_spec_OverlapI (a0:Iv) (a1:Iv):(zes a0 a1).opt=some (za7 a0 a1):=Tr.zL (by kernel_rfl)
def E_spec_OverlapI:Ent Tryz.prog:= .of2 Tb29 B29 (fun _ _=>true) za7 fun a0 a1 _=>(r_spec_OverlapI a0 a1).trans (u_spec_OverlapI a0 a1)
def B242:Bod Tryz.prog:=⟨242,Tryz.f242,Tryz.f242.body.getD .skip,Tryz.func242,by kernel_rfl,by kernel_rfl,zae.no _ _⟩
def Tb242:Tb Tryz.prog:= {T:= [Y2,Y30],mix:=mix,Es:= [zbY,zaD],Bs:= [],d:=1}
def t_impl_MeetI (a0:Iv) (a1:Iv):Tr (T2 Iv Bool):=
 .br (zal a0) (.br (zal a1) (.leaf ⟨zH,true⟩) (.br (zal a0) (.leaf ⟨a1,true⟩) (.br (zal a1) (.leaf ⟨a0,true⟩) (.br (decide ((mx a0.lo a1.lo).val>(mn a0.hi a1.hi).val)) (.leaf ⟨⟨⟨0,rfl⟩,⟨0,rfl⟩⟩,false⟩) (.leaf ⟨⟨(mx a0.lo a1.lo),(mn a0.hi a1.hi)⟩,true⟩))))) (.br (zal a0) (.leaf ⟨a1,true⟩) (.br (zal a1) (.leaf ⟨a0,true⟩) (.br (decide ((mx a0.lo a1.lo).val>(mn a0.hi a1.hi).val)) (.leaf ⟨⟨⟨0,rfl⟩,⟨0,rfl⟩⟩,false⟩) (.leaf ⟨⟨(mx a0.lo a1.lo),(mn a0.hi a1.hi)⟩,true⟩))))
theorem r_impl_MeetI (a0:Iv) (a1:Iv):Tb242.run B242 [enc a0,enc a1] (T2 Iv Bool)=(t_impl_MeetI a0 a1).opt:=by kernel_rfl
def F_impl_MeetI:Iv->Iv->T2 Iv Bool:=fun a0 a1=>(t_impl_MeetI a0 a1).get
theorem u_impl_MeetI (a0:Iv) (a1:Iv):(t_impl_MeetI a0 a1).opt=some (F_impl_MeetI a0 a1):=Tr.zL (by kernel_rfl)
def E_impl_MeetI:Ent Tryz.prog:= .of2 Tb242 B242 (fun _ _=>true) F_impl_MeetI fun a0 a1 _=>(r_impl_MeetI a0 a1).trans (u_impl_MeetI a0 a1)
def B322:Bod Tryz.prog:=⟨322,Tryz.f322,Tryz.f322.body.getD .skip,Tryz.func322,by kernel_rfl,by kernel_rfl,zae.no _ _⟩
def Tb322:Tb Tryz.prog:= {T:= [Y2,Y30],mix:=mix,Es:= [E_impl_MeetI],Bs:= [],d:=1}
def t_impl_OverlapI (a0:Iv) (a1:Iv):Tr (Bool):=
 .leaf (F_impl_MeetI a0 a1).b
theorem r_impl_OverlapI (a0:Iv) (a1:Iv):Tb322.run B322 [enc a0,enc a1] (Bool)=(t_impl_OverlapI a0 a1).opt:=by kernel_rfl
def zc1:Iv->Iv->Bool:=fun a0 a1=>(t_impl_OverlapI a0 a1).get
theorem u_impl_OverlapI (a0:Iv) (a1:Iv):(t_impl_OverlapI a0 a1).opt=some (zc1 a0 a1):=Tr.zL (by kernel_rfl)
def E_impl_OverlapI:Ent Tryz.prog:= .of2 Tb322 B322 (fun _ _=>true) zc1 fun a0 a1 _=>(r_impl_OverlapI a0 a1).trans (u_impl_OverlapI a0 a1)
def B56:Bod Tryz.prog:=⟨56,Tryz.f56,Tryz.f56.body.getD .skip,Tryz.func56,by kernel_rfl,by kernel_rfl,zae.no _ _⟩
def Tb56:Tb Tryz.prog:= {T:= [Y2,Y30],mix:=mix,Es:= [za6],Bs:= [],d:=1}
def zd7 (a0:Iv) (a1:Iv):Tr (Bool):=
 .br (!(za a1)) (.leaf true) (.br (za a0) (.br (decide (a1.lo.val<=a0.lo.val)) (.leaf (decide (a0.hi.val<=a1.hi.val))) (.leaf false)) (.leaf false))
theorem r_spec_InsideI (a0:Iv) (a1:Iv):Tb56.run B56 [enc a0,enc a1] (Bool)=(zd7 a0 a1).opt:=by kernel_rfl
def zaZ:Iv->Iv->Bool:=fun a0 a1=>(zd7 a0 a1).get
theorem u_spec_InsideI (a0:Iv) (a1:Iv):(zd7 a0 a1).opt=some (zaZ a0 a1):=Tr.zL (by kernel_rfl)
def E_spec_InsideI:Ent Tryz.prog:= .of2 Tb56 B56 (fun _ _=>true) zaZ fun a0 a1 _=>(r_spec_InsideI a0 a1).trans (u_spec_InsideI a0 a1)
def B345:Bod Tryz.prog:=⟨345,Tryz.f345,Tryz.f345.body.getD .skip,Tryz.func345,by kernel_rfl,by kernel_rfl,zae.no _ _⟩
def Tb345:Tb Tryz.prog:= {T:= [Y2,Y30],mix:=mix,Es:= [zbY],Bs:= [],d:=1}
def t_impl_InsideI (a0:Iv) (a1:Iv):Tr (Bool):=
 .br (zal a0) (.leaf (zal a1)) (.br (zal a1) (.leaf (zal a1)) (.br (decide (a1.lo.val<=a0.lo.val)) (.leaf (decide (a0.hi.val<=a1.hi.val))) (.leaf false)))
theorem r_impl_InsideI (a0:Iv) (a1:Iv):Tb345.run B345 [enc a0,enc a1] (Bool)=(t_impl_InsideI a0 a1).opt:=by kernel_rfl
def zed:Iv->Iv->Bool:=fun a0 a1=>(t_impl_InsideI a0 a1).get
theorem u_impl_InsideI (a0:Iv) (a1:Iv):(t_impl_InsideI a0 a1).opt=some (zed a0 a1):=Tr.zL (by kernel_rfl)
def E_impl_InsideI:Ent Tryz.prog:= .of2 Tb345 B345 (fun _ _=>true) zed fun a0 a1 _=>(r_impl_InsideI a0 a1).trans (u_impl_InsideI a0 a1)
def B183:Bod Tryz.prog:=⟨183,Tryz.f183,Tryz.f183.body.getD .skip,Tryz.func183,by kernel_rfl,by kernel_rfl,zae.no _ _⟩
def Tb183:Tb Tryz.prog:= {T:= [Y2,Y30],mix:=mix,Es:= [zas,za4,za6,E_spec_l00Min,E_spec_l00Max],Bs:= [],d:=1}
def t_spec_HullI (a0:Iv) (a1:Iv):Tr (Iv):=
 .br (!(za a0)) (.leaf zo) (.br (!(za a1)) (.leaf zo) (.leaf (zai (zB a0.lo a1.lo) (zt a0.hi a1.hi))))
theorem r_spec_HullI (a0:Iv) (a1:Iv):Tb183.run B183 [enc a0,enc a1] (Iv)=(t_spec_HullI a0 a1).opt:=by kernel_rfl
def zW:Iv->Iv->Iv:=fun a0 a1=>(t_spec_HullI a0 a1).get
theorem u_spec_HullI (a0:Iv) (a1:Iv):(t_spec_HullI a0 a1).opt=some (zW a0 a1):=Tr.zL (by kernel_rfl)
def E_spec_HullI:Ent Tryz.prog:= .of2 Tb183 B183 (fun _ _=>true) zW fun a0 a1 _=>(r_spec_HullI a0 a1).trans (u_spec_HullI a0 a1)
def B175:Bod Tryz.prog:=⟨175,Tryz.f175,Tryz.f175.body.getD .skip,Tryz.func175,by kernel_rfl,by kernel_rfl,zae.no _ _⟩
def Tb175:Tb Tryz.prog:= {T:= [Y2,Y30],mix:=mix,Es:= [zcd,zaD],Bs:= [],d:=1}
def t_impl_HullI (a0:Iv) (a1:Iv):Tr (Iv):=
 .br (!(za2 a0 a1)) (.leaf zH) (.leaf ⟨(mn a0.lo a1.lo),(mx a0.hi a1.hi)⟩)
theorem r_impl_HullI (a0:Iv) (a1:Iv):Tb175.run B175 [enc a0,enc a1] (Iv)=(t_impl_HullI a0 a1).opt:=by kernel_rfl
def zaw:Iv->Iv->Iv:=fun a0 a1=>(t_impl_HullI a0 a1).get
theorem u_impl_HullI (a0:Iv) (a1:Iv):(t_impl_HullI a0 a1).opt=some (zaw a0 a1):=Tr.zL (by kernel_rfl)
def E_impl_HullI:Ent Tryz.prog:= .of2 Tb175 B175 (fun _ _=>true) zaw fun a0 a1 _=>(r_impl_HullI a0 a1).trans (u_impl_HullI a0 a1)
def B34:Bod Tryz.prog:=⟨34,Tryz.f34,Tryz.f34.body.getD .skip,Tryz.func34,by kernel_rfl,by kernel_rfl,zae.no _ _⟩
def Tb34:Tb Tryz.prog:= {T:= [Y2,Y30],mix:=mix,Es:= [zas,za4,za6],Bs:= [],d:=1}
def zfN (a0:Iv) (a1:Iv):Tr (Iv):=
 .br (!(za a0)) (.leaf zo) (.br (!(za a1)) (.leaf zo) (.leaf (zai (Rng.w .i64 (a0.lo.val+a1.lo.val)) (Rng.w .i64 (a0.hi.val+a1.hi.val)))))
theorem r_spec_AddI (a0:Iv) (a1:Iv):Tb34.run B34 [enc a0,enc a1] (Iv)=(zfN a0 a1).opt:=by kernel_rfl
def zP:Iv->Iv->Iv:=fun a0 a1=>(zfN a0 a1).get
theorem u_spec_AddI (a0:Iv) (a1:Iv):(zfN a0 a1).opt=some (zP a0 a1):=Tr.zL (by kernel_rfl)
def E_spec_AddI:Ent Tryz.prog:= .of2 Tb34 B34 (fun _ _=>true) zP fun a0 a1 _=>(r_spec_AddI a0 a1).trans (u_spec_AddI a0 a1)
def B86:Bod Tryz.prog:=⟨86,Tryz.f86,Tryz.f86.body.getD .skip,Tryz.func86,by kernel_rfl,by kernel_rfl,zae.no _ _⟩
def Tb86:Tb Tryz.prog:= {T:= [Y2,Y30],mix:=mix,Es:= [zcd,zaD,zcf],Bs:= [],d:=1}
def t_impl_AddI (a0:Iv) (a1:Iv):Tr (Iv):=
 .br (!(za2 a0 a1)) (.leaf zH) (.leaf (zaN (Rng.w .i64 (a0.lo.val+a1.lo.val)) (Rng.w .i64 (a0.hi.val+a1.hi.val)) true))
theorem r_impl_AddI (a0:Iv) (a1:Iv):Tb86.run B86 [enc a0,enc a1] (Iv)=(t_impl_AddI a0 a1).opt:=by kernel_rfl
def zaH:Iv->Iv->Iv:=fun a0 a1=>(t_impl_AddI a0 a1).get
theorem u_impl_AddI (a0:Iv) (a1:Iv):(t_impl_AddI a0 a1).opt=some (zaH a0 a1):=Tr.zL (by kernel_rfl)
def E_impl_AddI:Ent Tryz.prog:= .of2 Tb86 B86 (fun _ _=>true) zaH fun a0 a1 _=>(r_impl_AddI a0 a1).trans (u_impl_AddI a0 a1)
def B65:Bod Tryz.prog:=⟨65,Tryz.f65,Tryz.f65.body.getD .skip,Tryz.func65,by kernel_rfl,by kernel_rfl,zae.no _ _⟩
def Tb65:Tb Tryz.prog:= {T:= [Y2,Y30],mix:=mix,Es:= [zas,za4,za6],Bs:= [],d:=1}
def t_spec_SubI (a0:Iv) (a1:Iv):Tr (Iv):=
 .br (!(za a0)) (.leaf zo) (.br (!(za a1)) (.leaf zo) (.leaf (zai (Rng.w .i64 (a0.lo.val-a1.hi.val)) (Rng.w .i64 (a0.hi.val-a1.lo.val)))))
theorem r_spec_SubI (a0:Iv) (a1:Iv):Tb65.run B65 [enc a0,enc a1] (Iv)=(t_spec_SubI a0 a1).opt:=by kernel_rfl
def zQ:Iv->Iv->Iv:=fun a0 a1=>(t_spec_SubI a0 a1).get
theorem u_spec_SubI (a0:Iv) (a1:Iv):(t_spec_SubI a0 a1).opt=some (zQ a0 a1):=Tr.zL (by kernel_rfl)
def ze0:Ent Tryz.prog:= .of2 Tb65 B65 (fun _ _=>true) zQ fun a0 a1 _=>(r_spec_SubI a0 a1).trans (u_spec_SubI a0 a1)
def B119:Bod Tryz.prog:=⟨119,Tryz.f119,Tryz.f119.body.getD .skip,Tryz.func119,by kernel_rfl,by kernel_rfl,zae.no _ _⟩
def Tb119:Tb Tryz.prog:= {T:= [Y2,Y30],mix:=mix,Es:= [E_impl_AddI,E_impl_NegI],Bs:= [],d:=1}
def t_impl_SubI (a0:Iv) (a1:Iv):Tr (Iv):=
 .leaf (zaH a0 (zdb a1))
theorem r_impl_SubI (a0:Iv) (a1:Iv):Tb119.run B119 [enc a0,enc a1] (Iv)=(t_impl_SubI a0 a1).opt:=by kernel_rfl
def zav:Iv->Iv->Iv:=fun a0 a1=>(t_impl_SubI a0 a1).get
theorem u_impl_SubI (a0:Iv) (a1:Iv):(t_impl_SubI a0 a1).opt=some (zav a0 a1):=Tr.zL (by kernel_rfl)
def E_impl_SubI:Ent Tryz.prog:= .of2 Tb119 B119 (fun _ _=>true) zav fun a0 a1 _=>(r_impl_SubI a0 a1).trans (u_impl_SubI a0 a1)
def B182:Bod Tryz.prog:=⟨182,Tryz.f182,Tryz.f182.body.getD .skip,Tryz.func182,by kernel_rfl,by kernel_rfl,zae.no _ _⟩
def Tb182:Tb Tryz.prog:= {T:= [Y2,Y30],mix:=mix,Es:= [],Bs:= [],d:=1}
def t_spec_l06Ring:Tr (Iv):=
 .leaf ⟨⟨(-4294967296),rfl⟩,⟨4294967296,rfl⟩⟩
theorem r_spec_l06Ring:Tb182.run B182 [] (Iv)=(t_spec_l06Ring).opt:=by kernel_rfl
def zR:Iv:=(t_spec_l06Ring).get
theorem u_spec_l06Ring:(t_spec_l06Ring).opt=some (zR):=Tr.zL (by kernel_rfl)
def E_spec_l06Ring:Ent Tryz.prog:= .of0 Tb182 B182 zR (r_spec_l06Ring.trans u_spec_l06Ring)
def B16:Bod Tryz.prog:=⟨16,Tryz.f16,Tryz.f16.body.getD .skip,Tryz.func16,by kernel_rfl,by kernel_rfl,zae.no _ _⟩
def Tb16:Tb Tryz.prog:= {T:= [Y2,Y30],mix:=mix,Es:= [zcc,zas,za4],Bs:= [],d:=1}
def t_spec_Integer (a0:I64):Tr (Iv):=
 .br (!(zar a0 ⟨(-268435455),rfl⟩ ⟨268435455,rfl⟩)) (.leaf zo) (.leaf (zai (Rng.w .i64 (a0.val*4294967296)) (Rng.w .i64 (a0.val*4294967296))))
theorem r_spec_Integer (a0:I64):Tb16.run B16 [enc a0] (Iv)=(t_spec_Integer a0).opt:=by kernel_rfl
def zD:I64->Iv:=fun a0=>(t_spec_Integer a0).get
theorem u_spec_Integer (a0:I64):(t_spec_Integer a0).opt=some (zD a0):=Tr.zL (by kernel_rfl)
def zfs:Ent Tryz.prog:= .of1 Tb16 B16 (fun _=>true) zD fun a0 _=>(r_spec_Integer a0).trans (u_spec_Integer a0)
def B315:Bod Tryz.prog:=⟨315,Tryz.f315,Tryz.f315.body.getD .skip,Tryz.func315,by kernel_rfl,by kernel_rfl,zae.no _ _⟩
def Tb315:Tb Tryz.prog:= {T:= [Y2,Y30],mix:=mix,Es:= [zfs,ze1,ze0,ze2],Bs:= [],d:=1}
def zct (a0:Iv) (a1:I64):Tr (Iv):=
 let c2:=(Rng.w .i64 (16+a1.val));let c10:=(Rng.w .i64 (14+a1.val));let c18:=(Rng.w .i64 (12+a1.val));let c26:=(Rng.w .i64 (10+a1.val));let c34:=(Rng.w .i64 (8+a1.val));let c42:=(Rng.w .i64 (6+a1.val));let c50:=(Rng.w .i64 (4+a1.val));let c58:=(Rng.w .i64 (2+a1.val));.leaf (zQ (zD ⟨1,rfl⟩) (zC (zz a0 (zD (Rng.w .i64 (c58.val*(Rng.w .i64 (c58.val+1)).val)))) (zQ (zD ⟨1,rfl⟩) (zC (zz a0 (zD (Rng.w .i64 (c50.val*(Rng.w .i64 (c50.val+1)).val)))) (zQ (zD ⟨1,rfl⟩) (zC (zz a0 (zD (Rng.w .i64 (c42.val*(Rng.w .i64 (c42.val+1)).val)))) (zQ (zD ⟨1,rfl⟩) (zC (zz a0 (zD (Rng.w .i64 (c34.val*(Rng.w .i64 (c34.val+1)).val)))) (zQ (zD ⟨1,rfl⟩) (zC (zz a0 (zD (Rng.w .i64 (c26.val*(Rng.w .i64 (c26.val+1)).val)))) (zQ (zD ⟨1,rfl⟩) (zC (zz a0 (zD (Rng.w .i64 (c18.val*(Rng.w .i64 (c18.val+1)).val)))) (zQ (zD ⟨1,rfl⟩) (zC (zz a0 (zD (Rng.w .i64 (c10.val*(Rng.w .i64 (c10.val+1)).val)))) (zQ (zD ⟨1,rfl⟩) (zC (zz a0 (zD (Rng.w .i64 (c2.val*(Rng.w .i64 (c2.val+1)).val)))) (zD ⟨1,rfl⟩)))))))))))))))))
theorem r_spec_l06Series (a0:Iv) (a1:I64):Tb315.run B315 [enc a0,enc a1] (Iv)=(zct a0 a1).opt:=by kernel_rfl
def zaY:Iv->I64->Iv:=fun a0 a1=>(zct a0 a1).get
theorem u_spec_l06Series (a0:Iv) (a1:I64):(zct a0 a1).opt=some (zaY a0 a1):=Tr.zL (by kernel_rfl)
def E_spec_l06Series:Ent Tryz.prog:= .of2 Tb315 B315 (fun _ _=>true) zaY fun a0 a1 _=>(r_spec_l06Series a0 a1).trans (u_spec_l06Series a0 a1)
def B316:Bod Tryz.prog:=⟨316,Tryz.f316,Tryz.f316.body.getD .skip,Tryz.func316,by kernel_rfl,by kernel_rfl,zae.no _ _⟩
def Tb316:Tb Tryz.prog:= {T:= [Y2,Y30],mix:=mix,Es:= [],Bs:= [],d:=1}
def t_spec_l06Tiny:Tr (Iv):=
 .leaf ⟨⟨(-1),rfl⟩,⟨1,rfl⟩⟩
theorem r_spec_l06Tiny:Tb316.run B316 [] (Iv)=(t_spec_l06Tiny).opt:=by kernel_rfl
def zbz:Iv:=(t_spec_l06Tiny).get
theorem u_spec_l06Tiny:(t_spec_l06Tiny).opt=some (zbz):=Tr.zL (by kernel_rfl)
def E_spec_l06Tiny:Ent Tryz.prog:= .of0 Tb316 B316 zbz (r_spec_l06Tiny.trans u_spec_l06Tiny)
def B263:Bod Tryz.prog:=⟨263,Tryz.f263,Tryz.f263.body.getD .skip,Tryz.func263,by kernel_rfl,by kernel_rfl,zae.no _ _⟩
def Tb263:Tb Tryz.prog:= {T:= [Y2,Y30],mix:=mix,Es:= [ze1,E_spec_AddI,E_spec_InsideI,E_spec_SqrI,zd4,E_spec_l06Ring,E_spec_l06Series,E_spec_l06Tiny],Bs:= [],d:=1}
def zdK (a0:Iv):Tr (Iv):=
 .br (!(zaZ a0 zR)) (.leaf zaR) (.leaf (zP (zC a0 (zaY (zbe a0) ⟨0,rfl⟩)) zbz))
theorem r_spec_SinSeries (a0:Iv):Tb263.run B263 [enc a0] (Iv)=(zdK a0).opt:=by kernel_rfl
def zbb:Iv->Iv:=fun a0=>(zdK a0).get
theorem u_spec_SinSeries (a0:Iv):(zdK a0).opt=some (zbb a0):=Tr.zL (by kernel_rfl)
def E_spec_SinSeries:Ent Tryz.prog:= .of1 Tb263 B263 (fun _=>true) zbb fun a0 _=>(r_spec_SinSeries a0).trans (u_spec_SinSeries a0)
def B264:Bod Tryz.prog:=⟨264,Tryz.f264,Tryz.f264.body.getD .skip,Tryz.func264,by kernel_rfl,by kernel_rfl,zae.no _ _⟩
def Tb264:Tb Tryz.prog:= {T:= [Y2,Y30],mix:=mix,Es:= [E_spec_AddI,E_spec_InsideI,E_spec_SqrI,zd4,E_spec_l06Ring,E_spec_l06Series,E_spec_l06Tiny],Bs:= [],d:=1}
def zdM (a0:Iv):Tr (Iv):=
 .br (!(zaZ a0 zR)) (.leaf zaR) (.leaf (zP (zaY (zbe a0) ⟨(-1),rfl⟩) zbz))
theorem r_spec_CosSeries (a0:Iv):Tb264.run B264 [enc a0] (Iv)=(zdM a0).opt:=by kernel_rfl
def zbc:Iv->Iv:=fun a0=>(zdM a0).get
theorem u_spec_CosSeries (a0:Iv):(zdM a0).opt=some (zbc a0):=Tr.zL (by kernel_rfl)
def E_spec_CosSeries:Ent Tryz.prog:= .of1 Tb264 B264 (fun _=>true) zbc fun a0 _=>(r_spec_CosSeries a0).trans (u_spec_CosSeries a0)
def B262:Bod Tryz.prog:=⟨262,Tryz.f262,Tryz.f262.body.getD .skip,Tryz.func262,by kernel_rfl,by kernel_rfl,zae.no _ _⟩
def Tb262:Tb Tryz.prog:= {T:= [Y2,Y30],mix:=mix,Es:= [E_spec_MeetI,E_spec_l06Ring],Bs:= [],d:=1}
def t_spec_l06Meet (a0:Iv):Tr (Iv):=
 let c2:=zcX a0 zR;.br (!c2.b) (.leaf zR) (.leaf c2.a)
theorem r_spec_l06Meet (a0:Iv):Tb262.run B262 [enc a0] (Iv)=(t_spec_l06Meet a0).opt:=by kernel_rfl
def zaA:Iv->Iv:=fun a0=>(t_spec_l06Meet a0).get
theorem u_spec_l06Meet (a0:Iv):(t_spec_l06Meet a0).opt=some (zaA a0):=Tr.zL (by kernel_rfl)
def E_spec_l06Meet:Ent Tryz.prog:= .of1 Tb262 B262 (fun _=>true) zaA fun a0 _=>(r_spec_l06Meet a0).trans (u_spec_l06Meet a0)
def B24:Bod Tryz.prog:=⟨24,Tryz.f24,Tryz.f24.body.getD .skip,Tryz.func24,by kernel_rfl,by kernel_rfl,zae.no _ _⟩
def Tb24:Tb Tryz.prog:= {T:= [Y30],mix:=mix,Es:= [za6],Bs:= [],d:=1}
def zei (a0:Iv):Tr (Bool):=
 .leaf (za a0)
theorem r_spec_ValidInterval (a0:Iv):Tb24.run B24 [enc a0] (Bool)=(zei a0).opt:=by kernel_rfl
def zem:Iv->Bool:=fun a0=>(zei a0).get
theorem u_spec_ValidInterval (a0:Iv):(zei a0).opt=some (zem a0):=Tr.zL (by kernel_rfl)
def E_spec_ValidInterval:Ent Tryz.prog:= .of1 Tb24 B24 (fun _=>true) zem fun a0 _=>(r_spec_ValidInterval a0).trans (u_spec_ValidInterval a0)
def B181:Bod Tryz.prog:=⟨181,Tryz.f181,Tryz.f181.body.getD .skip,Tryz.func181,by kernel_rfl,by kernel_rfl,zae.no _ _⟩
def Tb181:Tb Tryz.prog:= {T:= [Y2,Y30],mix:=mix,Es:= [E_spec_ValidInterval,E_spec_l06Angle],Bs:= [],d:=1}
def t_spec_l06Fits (a0:Iv):Tr (Bool):=
 .br (zem a0) (.br (za0 a0.lo) (.leaf (za0 a0.hi)) (.leaf false)) (.leaf false)
theorem r_spec_l06Fits (a0:Iv):Tb181.run B181 [enc a0] (Bool)=(t_spec_l06Fits a0).opt:=by kernel_rfl
def zdp:Iv->Bool:=fun a0=>(t_spec_l06Fits a0).get
theorem u_spec_l06Fits (a0:Iv):(t_spec_l06Fits a0).opt=some (zdp a0):=Tr.zL (by kernel_rfl)
def E_spec_l06Fits:Ent Tryz.prog:= .of1 Tb181 B181 (fun _=>true) zdp fun a0 _=>(r_spec_l06Fits a0).trans (u_spec_l06Fits a0)
def B270:Bod Tryz.prog:=⟨270,Tryz.f270,Tryz.f270.body.getD .skip,Tryz.func270,by kernel_rfl,by kernel_rfl,zae.no _ _⟩
def Tb270:Tb Tryz.prog:= {T:= [Y2,Y30],mix:=mix,Es:= [],Bs:= [],d:=1}
def t_impl_ring:Tr (Iv):=
 .leaf ⟨⟨(-4294967296),rfl⟩,⟨4294967296,rfl⟩⟩
theorem r_impl_ring:Tb270.run B270 [] (Iv)=(t_impl_ring).opt:=by kernel_rfl
def zec:Iv:=(t_impl_ring).get
theorem u_impl_ring:(t_impl_ring).opt=some (zec):=Tr.zL (by kernel_rfl)
def E_impl_ring:Ent Tryz.prog:= .of0 Tb270 B270 zec (r_impl_ring.trans u_impl_ring)
def B79:Bod Tryz.prog:=⟨79,Tryz.f79,Tryz.f79.body.getD .skip,Tryz.func79,by kernel_rfl,by kernel_rfl,zae.no _ _⟩
def Tb79:Tb Tryz.prog:= {T:= [Y2,Y30],mix:=mix,Es:= [zaD,zbO,zcf],Bs:= [],d:=1}
def t_impl_Integer (a0:I64):Tr (Iv):=
 .br (!(zaK a0 ⟨(-268435456),rfl⟩ ⟨268435456,rfl⟩)) (.leaf zH) (.leaf (zaN (Rng.w .i64 (a0.val*4294967296)) (Rng.w .i64 (a0.val*4294967296)) true))
theorem r_impl_Integer (a0:I64):Tb79.run B79 [enc a0] (Iv)=(t_impl_Integer a0).opt:=by kernel_rfl
def zac:I64->Iv:=fun a0=>(t_impl_Integer a0).get
theorem u_impl_Integer (a0:I64):(t_impl_Integer a0).opt=some (zac a0):=Tr.zL (by kernel_rfl)
def zeg:Ent Tryz.prog:= .of1 Tb79 B79 (fun _=>true) zac fun a0 _=>(r_impl_Integer a0).trans (u_impl_Integer a0)
def B346:Bod Tryz.prog:=⟨346,Tryz.f346,Tryz.f346.body.getD .skip,Tryz.func346,by kernel_rfl,by kernel_rfl,zae.no _ _⟩
def Tb346:Tb Tryz.prog:= {T:= [Y2,Y30],mix:=mix,Es:= [zeg,ET_impl_MulI,E_impl_SubI,E_impl_DivI],Bs:= [],d:=1}
def t_impl_series (a0:Iv) (a1:I64):Tr (Iv):=
 let c2:=(Rng.w .i64 (a1.val+14));let c10:=(Rng.w .i64 (a1.val+12));let c18:=(Rng.w .i64 (a1.val+10));let c26:=(Rng.w .i64 (a1.val+8));let c34:=(Rng.w .i64 (a1.val+6));let c42:=(Rng.w .i64 (a1.val+4));let c50:=(Rng.w .i64 (a1.val+2));let c58:=(Rng.w .i64 (a1.val+0));.leaf (zav (zac ⟨1,rfl⟩) (zaf (za5 a0 (zac (Rng.w .i64 (c58.val*(Rng.w .i64 (c58.val+1)).val)))) (zav (zac ⟨1,rfl⟩) (zaf (za5 a0 (zac (Rng.w .i64 (c50.val*(Rng.w .i64 (c50.val+1)).val)))) (zav (zac ⟨1,rfl⟩) (zaf (za5 a0 (zac (Rng.w .i64 (c42.val*(Rng.w .i64 (c42.val+1)).val)))) (zav (zac ⟨1,rfl⟩) (zaf (za5 a0 (zac (Rng.w .i64 (c34.val*(Rng.w .i64 (c34.val+1)).val)))) (zav (zac ⟨1,rfl⟩) (zaf (za5 a0 (zac (Rng.w .i64 (c26.val*(Rng.w .i64 (c26.val+1)).val)))) (zav (zac ⟨1,rfl⟩) (zaf (za5 a0 (zac (Rng.w .i64 (c18.val*(Rng.w .i64 (c18.val+1)).val)))) (zav (zac ⟨1,rfl⟩) (zaf (za5 a0 (zac (Rng.w .i64 (c10.val*(Rng.w .i64 (c10.val+1)).val)))) (zav (zac ⟨1,rfl⟩) (zaf (za5 a0 (zac (Rng.w .i64 (c2.val*(Rng.w .i64 (c2.val+1)).val)))) (zac ⟨1,rfl⟩)))))))))))))))))
theorem r_impl_series (a0:Iv) (a1:I64):Tb346.run B346 [enc a0,enc a1] (Iv)=(t_impl_series a0 a1).opt:=by kernel_rfl
def F_impl_series:Iv->I64->Iv:=fun a0 a1=>(t_impl_series a0 a1).get
theorem u_impl_series (a0:Iv) (a1:I64):(t_impl_series a0 a1).opt=some (F_impl_series a0 a1):=Tr.zL (by kernel_rfl)
def E_impl_series:Ent Tryz.prog:= .of2 Tb346 B346 (fun _ _=>true) F_impl_series fun a0 a1 _=>(r_impl_series a0 a1).trans (u_impl_series a0 a1)
def B347:Bod Tryz.prog:=⟨347,Tryz.f347,Tryz.f347.body.getD .skip,Tryz.func347,by kernel_rfl,by kernel_rfl,zae.no _ _⟩
def Tb347:Tb Tryz.prog:= {T:= [Y2,Y30],mix:=mix,Es:= [],Bs:= [],d:=1}
def t_impl_tiny:Tr (Iv):=
 .leaf ⟨⟨(-1),rfl⟩,⟨1,rfl⟩⟩
theorem r_impl_tiny:Tb347.run B347 [] (Iv)=(t_impl_tiny).opt:=by kernel_rfl
def F_impl_tiny:Iv:=(t_impl_tiny).get
theorem u_impl_tiny:(t_impl_tiny).opt=some (F_impl_tiny):=Tr.zL (by kernel_rfl)
def E_impl_tiny:Ent Tryz.prog:= .of0 Tb347 B347 F_impl_tiny (r_impl_tiny.trans u_impl_tiny)
def B320:Bod Tryz.prog:=⟨320,Tryz.f320,Tryz.f320.body.getD .skip,Tryz.func320,by kernel_rfl,by kernel_rfl,zae.no _ _⟩
def Tb320:Tb Tryz.prog:= {T:= [Y2,Y30],mix:=mix,Es:= [E_impl_AddI,ET_impl_MulI,zaD,ET_impl_SqrI,E_impl_ring,E_impl_InsideI,E_impl_series,E_impl_tiny],Bs:= [],d:=1}
def t_impl_SinSeries (a0:Iv):Tr (Iv):=
 .br (!(zed a0 zec)) (.leaf zH) (.leaf (zaH (zaf a0 (F_impl_series (zeX a0) ⟨2,rfl⟩)) F_impl_tiny))
theorem r_impl_SinSeries (a0:Iv):Tb320.run B320 [enc a0] (Iv)=(t_impl_SinSeries a0).opt:=by kernel_rfl
def zdT:Iv->Iv:=fun a0=>(t_impl_SinSeries a0).get
theorem u_impl_SinSeries (a0:Iv):(t_impl_SinSeries a0).opt=some (zdT a0):=Tr.zL (by kernel_rfl)
def E_impl_SinSeries:Ent Tryz.prog:= .of1 Tb320 B320 (fun _=>true) zdT fun a0 _=>(r_impl_SinSeries a0).trans (u_impl_SinSeries a0)
def B321:Bod Tryz.prog:=⟨321,Tryz.f321,Tryz.f321.body.getD .skip,Tryz.func321,by kernel_rfl,by kernel_rfl,zae.no _ _⟩
def Tb321:Tb Tryz.prog:= {T:= [Y2,Y30],mix:=mix,Es:= [E_impl_AddI,zaD,ET_impl_SqrI,E_impl_ring,E_impl_InsideI,E_impl_series,E_impl_tiny],Bs:= [],d:=1}
def t_impl_CosSeries (a0:Iv):Tr (Iv):=
 .br (!(zed a0 zec)) (.leaf zH) (.leaf (zaH (F_impl_series (zeX a0) ⟨1,rfl⟩) F_impl_tiny))
theorem r_impl_CosSeries (a0:Iv):Tb321.run B321 [enc a0] (Iv)=(t_impl_CosSeries a0).opt:=by kernel_rfl
def zdV:Iv->Iv:=fun a0=>(t_impl_CosSeries a0).get
theorem u_impl_CosSeries (a0:Iv):(t_impl_CosSeries a0).opt=some (zdV a0):=Tr.zL (by kernel_rfl)
def E_impl_CosSeries:Ent Tryz.prog:= .of1 Tb321 B321 (fun _=>true) zdV fun a0 _=>(r_impl_CosSeries a0).trans (u_impl_CosSeries a0)
def B319:Bod Tryz.prog:=⟨319,Tryz.f319,Tryz.f319.body.getD .skip,Tryz.func319,by kernel_rfl,by kernel_rfl,zae.no _ _⟩
def Tb319:Tb Tryz.prog:= {T:= [Y2,Y30],mix:=mix,Es:= [E_impl_MeetI,E_impl_ring],Bs:= [],d:=1}
def t_impl_inRing (a0:Iv):Tr (Iv):=
 .leaf (F_impl_MeetI a0 zec).a
theorem r_impl_inRing (a0:Iv):Tb319.run B319 [enc a0] (Iv)=(t_impl_inRing a0).opt:=by kernel_rfl
def zb2:Iv->Iv:=fun a0=>(t_impl_inRing a0).get
theorem u_impl_inRing (a0:Iv):(t_impl_inRing a0).opt=some (zb2 a0):=Tr.zL (by kernel_rfl)
def E_impl_inRing:Ent Tryz.prog:= .of1 Tb319 B319 (fun _=>true) zb2 fun a0 _=>(r_impl_inRing a0).trans (u_impl_inRing a0)
def B269:Bod Tryz.prog:=⟨269,Tryz.f269,Tryz.f269.body.getD .skip,Tryz.func269,by kernel_rfl,by kernel_rfl,zae.no _ _⟩
def Tb269:Tb Tryz.prog:= {T:= [Y2,Y30],mix:=mix,Es:= [zdh,E_impl_isAngle],Bs:= [],d:=1}
def t_impl_areAngles (a0:Iv):Tr (Bool):=
 .br (zbp a0) (.br (zds a0.lo) (.leaf (zds a0.hi)) (.leaf false)) (.leaf false)
theorem r_impl_areAngles (a0:Iv):Tb269.run B269 [enc a0] (Bool)=(t_impl_areAngles a0).opt:=by kernel_rfl
def zda:Iv->Bool:=fun a0=>(t_impl_areAngles a0).get
theorem u_impl_areAngles (a0:Iv):(t_impl_areAngles a0).opt=some (zda a0):=Tr.zL (by kernel_rfl)
def E_impl_areAngles:Ent Tryz.prog:= .of1 Tb269 B269 (fun _=>true) zda fun a0 _=>(r_impl_areAngles a0).trans (u_impl_areAngles a0)
end
end Go.Proofs.YtfcjhkkpbnobhaaGreat.Ev
namespace Go.Proofs.YtfcjhkkpbnobhaaGreat.Ev
open Go
theorem zbR (a:Iv):za a=true↔(-1152921504606846976<a.lo.val/\a.lo.val<=a.hi.val/\a.hi.val<1152921504606846976):=by
 simp only [za,t_spec_l04Ok,Tr.get]
 by_cases h1:(-1152921504606846976:Int)<a.lo.val<;>by_cases h2:a.lo.val<=a.hi.val<;>simp [h1,h2]
theorem okno (a:Iv):za a=false↔¬(-1152921504606846976<a.lo.val/\a.lo.val<=a.hi.val/\a.hi.val<1152921504606846976):=by
 rw [<- zbR];cases za a<;>simp
theorem zcx {lo hi:I64} (h: -1152921504606846976<lo.val/\lo.val<=hi.val/\hi.val<1152921504606846976):zai lo hi=⟨lo,hi⟩:=by
 have:za ⟨lo,hi⟩=true:=(zbR _).2 h
 simp only [zai,zd5,Tr.get,this,Bool.not_true,cond_false]
theorem make_no {lo hi:I64} (h:¬(-1152921504606846976<lo.val/\lo.val<=hi.val/\hi.val<1152921504606846976)):zai lo hi=zo:=by
 have:za ⟨lo,hi⟩=false:=(okno _).2 h
 simp only [zai,zd5,Tr.get,this,Bool.not_false,cond_true]
theorem make_ext {a b c d:I64} (h1:a.val=c.val) (h2:b.val=d.val):zai a b=zai c d:=by rw [rext h1,rext h2]
theorem zbn:za zo=false:=by decide +kernel
theorem isw_eq (a:Iv):zal a= !(za a):=by
 simp only [zal,zdk,Tr.get,valid_eq]
theorem zcz:zaR=zo:=rfl
theorem mn_val (a b:I64):(mn a b).val=if b.val<a.val then b.val else a.val:=by unfold mn;by_cases hb:b.val<a.val<;>simp [hb]
theorem mx_val (a b:I64):(mx a b).val=if b.val>a.val then b.val else a.val:=by unfold mx;by_cases hb:b.val>a.val<;>simp [hb]
theorem add_eq (a b:Iv):zaH a b=zP a b:=by
 simp only [zaH,t_impl_AddI,zP,zfN,Tr.get,areb_eq,zbt,zex,cond_true]
 cases za a<;>cases za b<;>rfl
theorem neg_ok_val {a:Iv} (h:za a=true):zaM a=⟨.w .i64 (0-a.hi.val),.w .i64 (0-a.lo.val)⟩:=by
 have:=(zbR a).1 h
 simp only [zaM,t_spec_NegI,Tr.get,h,Bool.not_true,cond_false]
 refine zcx ?_
 rw [wi (by omega) (by omega),wi (by omega) (by omega)]
 omega
theorem neg_no {a:Iv} (h:za a=false):zaM a=zo:=by
 simp only [zaM,t_spec_NegI,Tr.get,h,Bool.not_false,cond_true]
theorem neg_isok (a:Iv):za (zaM a)=za a:=by
 cases h:za a
 ·rw [neg_no h];exact zbn
 ·have:=(zbR a).1 h
  rw [neg_ok_val h]
  refine (zbR _).2 ?_
  simp only
  rw [wi (by omega) (by omega),wi (by omega) (by omega)]
  omega
theorem sub_eq (a b:Iv):zav a b=zQ a b:=by
 simp only [zav,t_impl_SubI,Tr.get,add_eq,neg_eq,zP,zfN,zQ,t_spec_SubI,neg_isok]
 cases ha:za a
 ·rfl
 cases hb:za b
 ·rfl
 have h1:=(zbR a).1 ha
 have h2:=(zbR b).1 hb
 simp only [Bool.not_true,cond_false,neg_ok_val hb]
 refine make_ext ?_ ?_
 ·rw [wi (n:=0-b.hi.val) (by omega) (by omega)];congr 1;congr 1;omega
 ·rw [wi (n:=0-b.lo.val) (by omega) (by omega)];congr 1;congr 1;omega
theorem integer_eq (n:I64):zac n=zD n:=by
 simp only [zac,t_impl_Integer,zD,t_spec_Integer,Tr.get,zcQ,zeF,zex,zbt,cond_true]
 by_cases h: -268435455<=n.val/\n.val<=268435455
 ·have h': -268435456<=n.val/\n.val<=268435456:=by omega
  simp only [h,h',and_self,decide_true,Bool.not_true,cond_false]
 ·by_cases h': -268435456<=n.val/\n.val<=268435456
  ·simp only [h,h',and_self,decide_true,decide_false,Bool.not_true,Bool.not_false,cond_false,cond_true]
   refine make_no ?_
   rw [wi (by omega) (by omega)]
   omega
  ·simp only [h,h',decide_false,Bool.not_false,cond_true]
theorem hull_eq (a b:Iv):zaw a b=zW a b:=by
 simp only [zaw,t_impl_HullI,zW,t_spec_HullI,Tr.get,areb_eq,zbt]
 cases ha:za a
 ·rfl
 cases hb:za b
 ·rfl
 have h1:=(zbR a).1 ha
 have h2:=(zbR b).1 hb
 simp only [Bool.and_self,Bool.not_true,cond_false,<- min_eq,<- max_eq]
 refine (zcx ?_).symm
 rw [mn_val,mx_val]
 split<;>split<;>omega
theorem meet_eq (a b:Iv):F_impl_MeetI a b=zcX a b:=by
 simp only [F_impl_MeetI,t_impl_MeetI,zcX,zeG,Tr.get,isw_eq,zbt,min_eq,max_eq]
theorem overlap_eq (a b:Iv):zc1 a b=za7 a b:=by
 simp only [zc1,t_impl_OverlapI,za7,zes,Tr.get,meet_eq]
theorem inside_eq (a b:Iv):zed a b=zaZ a b:=by
 simp only [zed,t_impl_InsideI,zaZ,zd7,Tr.get,isw_eq]
 cases za a<;>cases za b<;>rfl
theorem ring_eq:zec=zR:=rfl
theorem tiny_eq:F_impl_tiny=zbz:=rfl
theorem angle_eq (n:I64):zds n=za0 n:=by
 simp only [zds,t_impl_isAngle,za0,zdA,Tr.get,zcQ,zeF]
theorem angle_iff (n:I64):za0 n=true↔(-1099511627776<=n.val/\n.val<=1099511627776):=by
 simp only [za0,zdA,Tr.get,zeF,decide_eq_true_eq]
theorem fits_eq (a:Iv):zda a=zdp a:=by
 simp only [zda,t_impl_areAngles,zdp,t_spec_l06Fits,Tr.get,angle_eq,valid_eq]
 rfl
theorem ediv_bd1 {x d:Int} (hd:0<d) (h: -9223372036854775808<=x/\x<=9223372036854775807): -9223372036854775808<=x/d/\x/d<=9223372036854775807:=by
 have:=ediv_bd (M:=9223372036854775808) hd h.1 (by omega)
 refine ⟨this.1,?_⟩
 by_cases h0:0<=x
 ·have:=Int.ediv_le_self d h0;omega
 ·have:=Int.ediv_neg_of_neg_of_pos (a:=x) (by omega) hd;omega
theorem or_comm' (a b:Int):zbf .or .u64 a b=zbf .or .u64 b a:=by
 show ((BitVec.ofInt 64 a ||| BitVec.ofInt 64 b).toNat:Int)=((BitVec.ofInt 64 b ||| BitVec.ofInt 64 a).toNat:Int)
 rw [BitVec.or_comm]
theorem shift_val (w:Wide) (n:I64) (k:Nat) (hn:n.val=k) (h1:1<=k) (h2:k<=63):wv (zcW w n)=wv w/2^k:=by
 have e0:(n.val==0)=false:=by simp;omega
 have e1:decide (n.val<64)=true:=by simp;omega
 have e2:(Rng.w .u64 n.val).val=k:=by rw [wu (by omega) (by omega),hn]
 have e3:(Rng.w .u64 ((Rng.w .i64 (64-n.val)).val)).val=((64-k:Nat):Int):=by rw [wi (by omega) (by omega),wu (by omega) (by omega)];omega
 simp only [zcW,zfH,Tr.get,e0,e1,cond_true,cond_false,e2,e3,Int.toNat_natCast,Nat.min_eq_left (show k<=64 by omega),Nat.min_eq_left (show 64-k<=64 by omega),fdpow]
 have bh:=w.hi.bd
 have bl:=w.lo.ubd
 have hp:(2:Int)^k*2^(64-k)=18446744073709551616:=by
  rw [<- Int.pow_add,show k+(64-k)=64 by omega];rfl
 have hp0:(0:Int)<2^k:=Int.pow_pos (by decide)
 have hq0:(0:Int)<2^(64-k):=Int.pow_pos (by decide)
 generalize hP:(2:Int)^k=P at hp hp0
 generalize hQ:(2:Int)^(64-k)=Q at hp hq0
 have l1:0<=w.lo.val/P:=Int.ediv_nonneg bl.1 (by omega)
 have l2:w.lo.val/P<Q:=by
  refine Int.ediv_lt_of_lt_mul hp0 ?_
  rw [Int.mul_comm,hp];omega
 have hhb: -9223372036854775808<=w.hi.val/P/\w.hi.val/P<=9223372036854775807:=ediv_bd1 hp0 bh
 have hQle:Q<=18446744073709551616:=by
  have:Q*1<=Q*P:=Int.mul_le_mul_of_nonneg_left (by omega) (by omega)
  rw [Int.mul_comm Q P,hp] at this;omega
 have wlo:(Rng.w .u64 (w.lo.val/P)).val=w.lo.val/P:=wu l1 (by omega)
 have whi:(Rng.w .u64 ((Rng.w .u64 w.hi.val).val*Q)).val=(w.hi.val%P)*Q:=by
  rw [zbd,zbd]
  have:(18446744073709551616:Int)=P*Q:=hp.symm
  rw [this]
  have e:w.hi.val%(P*Q)*Q%(P*Q)=w.hi.val*Q%(P*Q):=by
   rw [Int.mul_emod,Int.emod_emod_of_dvd _ (Int.dvd_refl _),<- Int.mul_emod]
  rw [e,Int.mul_comm w.hi.val Q,Int.mul_comm P Q,Int.mul_emod_mul_of_pos _ _ hq0,Int.mul_comm]
 have hm0:0<=w.hi.val%P:=Int.emod_nonneg _ (by omega)
 have hm1:w.hi.val%P<P:=Int.emod_lt_of_pos _ hp0
 have hmq:(w.hi.val%P)*Q<=(P-1)*Q:=Int.mul_le_mul_of_nonneg_right (by omega) (by omega)
 have hsum:(w.hi.val%P)*Q+w.lo.val/P<=18446744073709551615:=by
  have:(P-1)*Q=18446744073709551616-Q:=by rw [Int.sub_mul,hp,Int.one_mul]
  omega
 have hor:zbf .or .u64 (w.lo.val/P) (w.hi.val%P*Q)=w.hi.val%P*Q+w.lo.val/P:=by
  rw [or_comm',or_add (64-k) (w.hi.val%P).toNat (by rw [hQ,Int.toNat_of_nonneg hm0,Int.mul_comm]) l1 (by rw [hQ];exact l2) hsum]
 simp only [wv]
 rw [wi hhb.1 hhb.2,wlo,whi,hor,wu (by have:=Int.mul_nonneg hm0 (show (0:Int)<=Q by omega);omega) hsum]
 have hdm:w.hi.val=P*(w.hi.val/P)+w.hi.val%P:=(Int.mul_ediv_add_emod _ _).symm
 have key:w.hi.val*18446744073709551616+w.lo.val=(w.hi.val/P*18446744073709551616+w.hi.val%P*Q)*P+w.lo.val:=by
  rw [Int.add_mul]
  have e1:w.hi.val%P*Q*P=w.hi.val%P*18446744073709551616:=by rw [Int.mul_assoc,Int.mul_comm Q P,hp]
  have e2:w.hi.val/P*18446744073709551616*P=P*(w.hi.val/P)*18446744073709551616:=by rw [Int.mul_comm _ P,Int.mul_assoc]
  rw [e1,e2,<- Int.add_mul,<- hdm]
 rw [key,Int.add_comm _ w.lo.val,Int.add_mul_ediv_right _ _ (by omega)]
 omega
theorem mf_val (a b n:I64) (k:Nat) (hn:n.val=k) (h1:1<=k) (h2:k<=63):zaq a b n=narrow (a.val*b.val/2^k):=by
 have hin:zar n ⟨0,rfl⟩ ⟨126,rfl⟩=true:=by rw [zeF];simp;omega
 have hb:=mul_bd a.bd b.bd
 simp only [zaq,zfL,Tr.get,hin,Bool.not_true,cond_false,mul_spec,int_spec,shift_val _ n k hn h1 h2]
 rw [wv_mkW (by omega) (by omega)]
theorem mf32 (a b:I64):zaq a b ⟨32,rfl⟩=narrow (a.val*b.val/4294967296):=mf_val a b _ 32 rfl (by decide) (by decide)
theorem mf30 (a b:I64):zaq a b ⟨30,rfl⟩=narrow (a.val*b.val/1073741824):=mf_val a b _ 30 rfl (by decide) (by decide)
theorem mf29 (a b:I64):zaq a b ⟨29,rfl⟩=narrow (a.val*b.val/536870912):=mf_val a b _ 29 rfl (by decide) (by decide)
theorem narrow_ok {v:Int} (h: -9223372036854775808<=v) (h':v<=9223372036854775807):narrow v=⟨.w .i64 v,true⟩:=by unfold narrow;rw [if_pos ⟨h,h'⟩]
theorem turn_lo {k:I64} (h:0<k.val) (h':k.val<=4096):zaq k ⟨7244019458077122842,rfl⟩ ⟨30,rfl⟩=⟨.w .i64 (k.val*7244019458077122842/1073741824),true⟩ /\
  0<=k.val*7244019458077122842/1073741824/\k.val*7244019458077122842/1073741824<=27633759721874:=by
 have:0<=k.val*7244019458077122842/1073741824/\k.val*7244019458077122842/1073741824<=27633759721874:=by omega
 exact ⟨by rw [mf30];exact narrow_ok (v:=k.val*7244019458077122842/1073741824) (by omega) (by omega),this⟩
theorem turn_p (k:I64) (h:0<=k.val) (h':k.val<=4096):∃x:Iv,(zc7 k).opt=some x/\(zfh k).opt=some x/\za x=true:=by
 have hw:zaK k ⟨(-4096),rfl⟩ ⟨4096,rfl⟩=true:=by rw [zcQ];simp;omega
 have hn:decide (k.val<0)=false:=by simp;omega
 simp only [zc7,zfh,Tr.opt,hw,hn,Bool.not_true,cond_false,mulfloor_F]
 by_cases h0:k.val=0
 ·have e0:(k.val==0)=true:=by simp [h0]
  simp only [e0,cond_true]
  exact ⟨_,rfl,rfl,by decide +kernel⟩
 ·have e0:(k.val==0)=false:=by simp [h0]
  obtain ⟨e,b1,b2⟩:=turn_lo (k:=k) (by omega) h'
  simp only [e0,cond_false,e]
  refine ⟨_,rfl,rfl,(zbR _).2 ?_⟩
  simp only
  rw [wi (n:=k.val*7244019458077122842/1073741824) (by omega) (by omega),wi (by omega) (by omega)]
  omega
theorem turn_ok (k:I64) (h: -4096<=k.val) (h':k.val<=4096):∃x:Iv,(zcG k).opt=some x/\(zeI k).opt=some x/\za x=true:=by
 have hw:zaK k ⟨(-4096),rfl⟩ ⟨4096,rfl⟩=true:=by rw [zcQ];simp;omega
 by_cases hn:k.val<0
 ·have e1:(Rng.w .i64 (0-k.val)).val=0-k.val:=wi (by omega) (by omega)
  obtain ⟨x,h1,h2,h3⟩:=turn_p (.w .i64 (0-k.val)) (by omega) (by omega)
  have g1:zdQ (.w .i64 (0-k.val))=true:=by unfold zdQ;rw [h1];rfl
  have g2:G_impl_TurnI_p (.w .i64 (0-k.val))=true:=by unfold G_impl_TurnI_p;rw [h2];rfl
  have f1:zbL (.w .i64 (0-k.val))=x:=Tr.zan h1
  have f2:F_impl_TurnI_p (.w .i64 (0-k.val))=x:=Tr.zan h2
  have e0:(k.val==0)=false:=by simp;omega
  have hd:decide (k.val<0)=true:=by simpa using hn
  refine ⟨zaM x,?_,?_,by rw [neg_isok,h3]⟩
  ·simp only [zcG,Tr.opt,e0,hd,g1,f1,cond_true,cond_false,neg_ok_val h3]
  ·simp only [zeI,Tr.opt,hw,hd,g2,f2,cond_true,cond_false,Bool.not_true,neg_eq]
 ·obtain ⟨x,h1,h2,h3⟩:=turn_p k (by omega) h'
  have hd:decide (k.val<0)=false:=by simpa using hn
  refine ⟨x,?_,?_,h3⟩
  ·simp only [zc7,Tr.opt,hd] at h1
   simp only [zcG,Tr.opt,hd]
   exact h1
  ·simp only [zfh,Tr.opt,hd,hw] at h2
   simp only [zeI,Tr.opt,hd,hw]
   exact h2
theorem turnI_ok (k:I64):∃x:Iv,(zfI k).opt=some x/\(zeI k).opt=some x:=by
 by_cases h: -4096<=k.val/\k.val<=4096
 ·obtain ⟨x,h1,h2,h3⟩:=turn_ok k h.1 h.2
  have hi:zar k ⟨(-4096),rfl⟩ ⟨4096,rfl⟩=true:=by rw [zeF];simpa using h
  have g:zcK k=true:=by unfold zcK;rw [h1];rfl
  have f:zbA k=x:=Tr.zan h1
  exact ⟨x,by simp only [zfI,Tr.opt,hi,g,f,Bool.not_true,cond_false,cond_true],h2⟩
 ·have hi:zar k ⟨(-4096),rfl⟩ ⟨4096,rfl⟩=false:=by rw [zeF];simpa using h
  have hw:zaK k ⟨(-4096),rfl⟩ ⟨4096,rfl⟩=false:=by rw [zcQ];simpa using h
  exact ⟨zo,by simp only [zfI,Tr.opt,hi,Bool.not_false,cond_true,zcz],by simp only [zeI,Tr.opt,hw,Bool.not_false,cond_true,zbt]⟩
theorem tt_turnI_spec (k:I64):(zfI k).opt=some (zV k):=by
 obtain ⟨x,h1,_⟩:=turnI_ok k;exact zdi h1
theorem tt_turnI_impl (k:I64):(zeI k).opt=some (za8 k):=by
 obtain ⟨x,_,h1⟩:=turnI_ok k;exact zdi h1
theorem turnI_eq (k:I64):za8 k=zV k:=by
 obtain ⟨x,h1,h2⟩:=turnI_ok k
 exact (Tr.zan h2).trans (Tr.zan h1).symm
theorem quarter_ok (n:I64):(zdL n).opt=some (zb3 n):=by
 simp only [zdL,Tr.opt,zb3,ze7,Tr.get,angle_eq]
 cases ha:za0 n
 ·rfl
 have hb:=(angle_iff n).1 ha
 have e1:(Rng.w .i64 (n.val+3373259426)).val=n.val+3373259426:=wi (by omega) (by omega)
 have hs:Int.sign 6746518852=1:=rfl
 have q1:(Rng.w .i64 ((n.val+3373259426).tdiv 6746518852)).val=(n.val+3373259426).tdiv 6746518852:=by
  refine wi ?_ ?_
  ·have:=Int.tdiv_eq_ediv (a:=n.val+3373259426) (b:=6746518852);split at this<;>omega
  ·have:=Int.tdiv_eq_ediv (a:=n.val+3373259426) (b:=6746518852);split at this<;>omega
 have hm:=Int.mul_tdiv_add_tmod (n.val+3373259426) 6746518852
 have m1:(Rng.w .i64 ((n.val+3373259426).tmod 6746518852)).val=(n.val+3373259426).tmod 6746518852:=by
  refine wi ?_ ?_
  ·have:=Int.tdiv_eq_ediv (a:=n.val+3373259426) (b:=6746518852);split at this<;>omega
  ·have:=Int.tdiv_eq_ediv (a:=n.val+3373259426) (b:=6746518852);split at this<;>omega
 have q2:(Rng.w .i64 ((n.val+3373259426).tdiv 6746518852*6746518852)).val=(n.val+3373259426).tdiv 6746518852*6746518852:=by
  refine wi ?_ ?_
  ·have:=Int.tdiv_eq_ediv (a:=n.val+3373259426) (b:=6746518852);split at this<;>omega
  ·have:=Int.tdiv_eq_ediv (a:=n.val+3373259426) (b:=6746518852);split at this<;>omega
 have z:((6746518852:Int)==0)=false:=rfl
 simp only [Bool.not_true,cond_false,G_spec_l06Floor,F_spec_l06Floor,zfF,Tr.opt,Tr.get,e1,q1,m1,q2,z,cond_false]
 by_cases hc:(n.val+3373259426).tmod 6746518852<0
 ·have hc':(n.val+3373259426).tdiv 6746518852*6746518852>n.val+3373259426:=by omega
  simp only [hc,hc',decide_true,cond_true,Option.isSome_some]
 ·have hc':¬(n.val+3373259426).tdiv 6746518852*6746518852>n.val+3373259426:=by omega
  simp only [hc,hc',decide_false,cond_false,cond_true,Option.isSome_some]
theorem quarter_eq (n:I64):zb3 n=zao n:=(Tr.zan (quarter_ok n)).symm
theorem tt_quarter_spec (n:I64):(zdL n).opt=some (zao n):=zdi (quarter_ok n)
theorem quarter_bd (n:I64): -200<=(zao n).val/\(zao n).val<=200:=by
 rw [<- quarter_eq]
 simp only [zb3,ze7,Tr.get,angle_eq]
 cases ha:za0 n
 ·simp only [Bool.not_false,cond_true];omega
 have hb:=(angle_iff n).1 ha
 have e1:(Rng.w .i64 (n.val+3373259426)).val=n.val+3373259426:=wi (by omega) (by omega)
 have hs:Int.sign 6746518852=1:=rfl
 have hq: -170<=(n.val+3373259426).tdiv 6746518852/\(n.val+3373259426).tdiv 6746518852<=170:=by
  have:=Int.tdiv_eq_ediv (a:=n.val+3373259426) (b:=6746518852);split at this<;>omega
 have q1:(Rng.w .i64 ((n.val+3373259426).tdiv 6746518852)).val=(n.val+3373259426).tdiv 6746518852:=wi (by omega) (by omega)
 simp only [Bool.not_true,cond_false,e1,q1]
 cases decide ((Rng.w .i64 ((n.val+3373259426).tdiv 6746518852*6746518852)).val>n.val+3373259426)
 ·simp only [cond_false,q1];omega
 ·simp only [cond_true];rw [wi (by omega) (by omega)];omega
end Go.Proofs.YtfcjhkkpbnobhaaGreat.Ev
namespace Go.Proofs.YtfcjhkkpbnobhaaGreat.Ev
open Go Go.RowKit
set_option maxRecDepth 100000
section
variable [Amb]
def ET_spec_TurnI:Ent Tryz.prog:= .of1 Tb51 B51 (fun _=>true) zV fun a0 _=>(r_spec_TurnI a0).trans (tt_turnI_spec a0)
def ET_impl_TurnI:Ent Tryz.prog:= .of1 Tb240 B240 (fun _=>true) za8 fun a0 _=>(r_impl_TurnI a0).trans (tt_turnI_impl a0)
def ET_spec_QuarterOf:Ent Tryz.prog:= .of1 Tb185 B185 (fun _=>true) zao fun a0 _=>(r_spec_QuarterOf a0).trans (tt_quarter_spec a0)
def B261:Bod Tryz.prog:=⟨261,Tryz.f261,Tryz.f261.body.getD .skip,Tryz.func261,by kernel_rfl,by kernel_rfl,zae.no _ _⟩
def Tb261:Tb Tryz.prog:= {T:= [Y2,Y30],mix:=mix,Es:= [],Bs:= [],d:=1}
def zfG (a0:I64):Tr (Iv):=
 .leaf ⟨a0,a0⟩
theorem r_spec_l05At (a0:I64):Tb261.run B261 [enc a0] (Iv)=(zfG a0).opt:=by kernel_rfl
def zq:I64->Iv:=fun a0=>(zfG a0).get
theorem u_spec_l05At (a0:I64):(zfG a0).opt=some (zq a0):=Tr.zL (by kernel_rfl)
def E_spec_l05At:Ent Tryz.prog:= .of1 Tb261 B261 (fun _=>true) zq fun a0 _=>(r_spec_l05At a0).trans (u_spec_l05At a0)
def B184:Bod Tryz.prog:=⟨184,Tryz.f184,Tryz.f184.body.getD .skip,Tryz.func184,by kernel_rfl,by kernel_rfl,zae.no _ _⟩
def Tb184:Tb Tryz.prog:= {T:= [Y2,Y30],mix:=mix,Es:= [ET_spec_TurnI,E_spec_NegI,ze0,E_spec_l06Ring,ET_spec_QuarterOf,E_spec_l06Angle,E_spec_l05At,E_spec_l06Meet,E_spec_SinSeries,E_spec_CosSeries],Bs:= [],d:=1}
def t_spec_l06At (a0:I64) (a1:I64):Tr (Iv):=
 .br (!(za0 a0)) (.leaf zR) (let c3:=zao a0;let c6:=zQ (zq a0) (zV c3);let c8:=(Rng.w .i64 (zbf .and .i64 (Rng.w .i64 (c3.val+a1.val)).val 3));.br (c8.val==0) (.leaf (zaA (zbb c6))) (.br (c8.val==1) (.leaf (zaA (zbc c6))) (.br (c8.val==2) (.leaf (zaA (zaM (zbb c6)))) (.leaf (zaA (zaM (zbc c6)))))))
theorem r_spec_l06At (a0:I64) (a1:I64):Tb184.run B184 [enc a0,enc a1] (Iv)=(t_spec_l06At a0 a1).opt:=by kernel_rfl
def zbB:I64->I64->Iv:=fun a0 a1=>(t_spec_l06At a0 a1).get
theorem u_spec_l06At (a0:I64) (a1:I64):(t_spec_l06At a0 a1).opt=some (zbB a0 a1):=Tr.zL (by kernel_rfl)
def E_spec_l06At:Ent Tryz.prog:= .of2 Tb184 B184 (fun _ _=>true) zbB fun a0 a1 _=>(r_spec_l06At a0 a1).trans (u_spec_l06At a0 a1)
def B223:Bod Tryz.prog:=⟨223,Tryz.f223,Tryz.f223.body.getD .skip,Tryz.func223,by kernel_rfl,by kernel_rfl,zae.no _ _⟩
def Tb223:Tb Tryz.prog:= {T:= [Y2,Y30],mix:=mix,Es:= [],Bs:= [],d:=1}
def t_impl_at (a0:I64):Tr (Iv):=
 .leaf ⟨a0,a0⟩
theorem r_impl_at (a0:I64):Tb223.run B223 [enc a0] (Iv)=(t_impl_at a0).opt:=by kernel_rfl
def zbH:I64->Iv:=fun a0=>(t_impl_at a0).get
theorem u_impl_at (a0:I64):(t_impl_at a0).opt=some (zbH a0):=Tr.zL (by kernel_rfl)
def E_impl_at:Ent Tryz.prog:= .of1 Tb223 B223 (fun _=>true) zbH fun a0 _=>(r_impl_at a0).trans (u_impl_at a0)
def B271:Bod Tryz.prog:=⟨271,Tryz.f271,Tryz.f271.body.getD .skip,Tryz.func271,by kernel_rfl,by kernel_rfl,zae.no _ _⟩
def Tb271:Tb Tryz.prog:= {T:= [Y2,Y30],mix:=mix,Es:= [E_impl_SubI,E_impl_NegI,E_impl_at,ET_impl_TurnI,E_impl_ring,E_impl_isAngle,E_impl_QuarterOf,E_impl_inRing,E_impl_SinSeries,E_impl_CosSeries],Bs:= [],d:=1}
def zfw (a0:I64) (a1:I64):Tr (Iv):=
 .br (!(zds a0)) (.leaf zec) (let c3:=zb3 a0;let c6:=zav (zbH a0) (za8 c3);let c8:=(Rng.w .i64 (zbf .and .i64 (Rng.w .i64 (c3.val+a1.val)).val 3));.br (c8.val==0) (.leaf (zb2 (zdT c6))) (.br (c8.val==1) (.leaf (zb2 (zdV c6))) (.br (c8.val==2) (.leaf (zb2 (zdb (zdT c6)))) (.leaf (zb2 (zdb (zdV c6)))))))
theorem r_impl_circleValue (a0:I64) (a1:I64):Tb271.run B271 [enc a0,enc a1] (Iv)=(zfw a0 a1).opt:=by kernel_rfl
def zc6:I64->I64->Iv:=fun a0 a1=>(zfw a0 a1).get
theorem u_impl_circleValue (a0:I64) (a1:I64):(zfw a0 a1).opt=some (zc6 a0 a1):=Tr.zL (by kernel_rfl)
def E_impl_circleValue:Ent Tryz.prog:= .of2 Tb271 B271 (fun _ _=>true) zc6 fun a0 a1 _=>(r_impl_circleValue a0 a1).trans (u_impl_circleValue a0 a1)
structure zcv where
 x0:I64
 x1:I64
 x2:I64
 x3:I64
 x4:I64
 x5:I64
 x6:I64
 x7:I64
instance:Inhabited zcv:=⟨⟨default,default,default,default,default,default,default,default⟩⟩
def st_spec_l06Over_5 (x:zcv):St:=⟨[(1,.i64 x.x0),(2,.ptr 0 0),(4,.ptr 1 0),(5,.ptr 2 0),(6,.i64 x.x1)],52,⟨[(0,[.i64 x.x2,.i64 x.x3]),(1,[.i64 x.x4,.i64 x.x5]),(2,[.i64 x.x6,.i64 x.x7])],3,0⟩⟩
def rd_spec_l06Over_5:St->Option zcv:=fun s=>match s with
 | ⟨[(1,.i64 x0),(2,.ptr 0 0),(4,.ptr 1 0),(5,.ptr 2 0),(6,.i64 x1)],52,⟨[(0,[.i64 x2,.i64 x3]),(1,[.i64 x4,.i64 x5]),(2,[.i64 x6,.i64 x7])],3,0⟩⟩=>some ⟨x0,x1,x2,x3,x4,x5,x6,x7⟩
 | _=>none
def zdP (x:zcv):Tr (Lp zcv):=
 .br (decide (x.x1.val<=(Rng.w .i64 ((zao x.x3).val+1)).val)) (.br (!(za7 (zV x.x1) ⟨x.x2,x.x3⟩)) (.leaf (.again ⟨x.x0,(Rng.w .i64 (x.x1.val+1)),x.x2,x.x3,x.x4,x.x5,x.x6,x.x7⟩)) (let c15:=(Rng.w .i64 (zbf .and .i64 (Rng.w .i64 (x.x1.val+x.x0.val)).val 3));.br (c15.val==1) (let c17:=zW ⟨x.x6,x.x7⟩ (zD ⟨1,rfl⟩);.leaf (.again ⟨x.x0,(Rng.w .i64 (x.x1.val+1)),x.x2,x.x3,x.x4,x.x5,c17.lo,c17.hi⟩)) (.br (c15.val==3) (let c20:=zW ⟨x.x6,x.x7⟩ (zD ⟨(-1),rfl⟩);.leaf (.again ⟨x.x0,(Rng.w .i64 (x.x1.val+1)),x.x2,x.x3,x.x4,x.x5,c20.lo,c20.hi⟩)) (.leaf (.again ⟨x.x0,(Rng.w .i64 (x.x1.val+1)),x.x2,x.x3,x.x4,x.x5,x.x6,x.x7⟩))))) (.leaf (.out ⟨x.x0,x.x1,x.x2,x.x3,x.x4,x.x5,x.x6,x.x7⟩))
def G_spec_l06Over_5 (x:zcv):Bool:=(Lf zdP 1000 x).opt.isSome
def L_spec_l06Over_5 (x:zcv):zcv:=(Lf zdP 1000 x).get
def TbL_spec_l06Over_5:Tb Tryz.prog:= {T:= [Y2,Y30],mix:=mix,Es:= [zfs,E_spec_OverlapI,ET_spec_TurnI,E_spec_HullI,ET_spec_QuarterOf],Bs:= [],d:=1}
def P_spec_l06Over_5:LpF:=loopF [1,2,4,5,6] [0,1,2] 3 rd_spec_l06Over_5 st_spec_l06Over_5 (.exit 0) G_spec_l06Over_5 L_spec_l06Over_5
theorem lok_spec_l06Over_5:LoopOk Tryz.prog (loopAt (Tryz.f101.body.getD .skip) 0) P_spec_l06Over_5:=loopF_ok (t:=TbL_spec_l06Over_5) (lt:=fun _=>none) (body:=zdP) (n:=1000) (by intro h;cases h) (fun _ _ _ h=>by cases h)
 (by intro s x h;unfold rd_spec_l06Over_5 at h;split at h<;>cases h;rfl) (fun x b cs h=>lk_lt (l:=(st_spec_l06Over_5 x).mm.blks) (by kernel_rfl) h) (by intro x;kernel_rfl) (fun x h=>Tr.get_some h)
def B101:Bod Tryz.prog:=⟨101,Tryz.f101,Tryz.f101.body.getD .skip,Tryz.func101,by kernel_rfl,by kernel_rfl,⟨ltOf [(5,P_spec_l06Over_5)],zae.of (ks:= [5]) (by kernel_rfl) (by
 intro i k h f hf
 match i,h with
 | 0,h=>cases h;obtain rfl:P_spec_l06Over_5=f:=Option.some.inj hf;exact lok_spec_l06Over_5
 | n+1,h=>simp at h)⟩⟩
def Tb101:Tb Tryz.prog:= {T:= [Y2,Y30],mix:=mix,Es:= [E_spec_l06Fits,E_spec_l06Ring,E_spec_HullI,E_spec_l06At,ET_spec_QuarterOf],Bs:= [],d:=1}
def t_spec_l06Over (a0:Iv) (a1:I64):Tr (Iv):=
 .br (!(zdp a0)) (.leaf zR) (let c5:=zW (zbB a0.lo a1) (zbB a0.hi a1);let c7:=(Rng.w .i64 ((zao a0.lo).val-1));.br (G_spec_l06Over_5 ⟨a1,c7,a0.lo,a0.hi,⟨0,rfl⟩,⟨0,rfl⟩,c5.lo,c5.hi⟩) (let c23:=L_spec_l06Over_5 ⟨a1,c7,a0.lo,a0.hi,⟨0,rfl⟩,⟨0,rfl⟩,c5.lo,c5.hi⟩;.leaf ⟨c23.x6,c23.x7⟩) (.bad))
theorem r_spec_l06Over (a0:Iv) (a1:I64):Tb101.run B101 [enc a0,enc a1] (Iv)=(t_spec_l06Over a0 a1).opt:=by kernel_rfl
def zfo:Iv->I64->Iv:=fun a0 a1=>(t_spec_l06Over a0 a1).get
end
end Go.Proofs.YtfcjhkkpbnobhaaGreat.Ev
