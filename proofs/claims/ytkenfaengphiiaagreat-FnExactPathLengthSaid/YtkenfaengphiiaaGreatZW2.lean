/- The law FnExactPathLength gives true, whatever comes in; each argument reads behind the call as it read before. No conditions. (One of the texts of its proof, put together by a program of this session.) -/
import Derived.Test.YtkenfaengphiiaaGreatZW1
import Derived.Test.YtkenfaengphiiaaGreatZPA
set_option linter.unusedSectionVars false
set_option linter.unusedSimpArgs false
set_option linter.unusedVariables false
noncomputable section
namespace Go.Proofs.YtkenfaengphiiaaGreat.Ev
open Go Go.RowKit
set_option maxRecDepth 100000
section
variable [Amb]
def ET_spec_MulDivFloor:Ent Tryz.prog:= .of3 Tb228 B228 (fun _ _ _=>true) zbg fun a0 a1 a2 _=>(r_spec_MulDivFloor a0 a1 a2).trans (tt_md_spec a0 a1 a2)
def ET_impl_MulDivFloor:Ent Tryz.prog:= .of3 Tb252 B252 (fun _ _ _=>true) zbt fun a0 a1 a2 _=>(r_impl_MulDivFloor a0 a1 a2).trans (tt_md_impl a0 a1 a2)
def zcC:Ent Tryz.prog:= .of2 Tb133 B133 (fun _ _=>true) zQ fun a0 a1 _=>(r_spec_Quotient a0 a1).trans (tt_q_spec a0 a1)
def zcD:Ent Tryz.prog:= .of2 Tb158 B158 (fun _ _=>true) zU fun a0 a1 _=>(r_impl_Quotient a0 a1).trans (tt_q_impl a0 a1)
def ET_spec_RadiansOf:Ent Tryz.prog:= .of1 Tb131 B131 (fun _=>true) zbp fun a0 _=>(r_spec_RadiansOf a0).trans (tt_rad_spec a0)
def ET_impl_RadiansOf:Ent Tryz.prog:= .of1 Tb156 B156 (fun _=>true) zeW fun a0 _=>(r_impl_RadiansOf a0).trans (tt_rad_impl a0)
def B295:Bod Tryz.prog:=⟨295,Tryz.f295,Tryz.f295.body.getD .skip,Tryz.func295,by kernel_rfl,by kernel_rfl,zK.no _ _⟩
def Tb295:Tb Tryz.prog:= {T:= [Y2,Y153,Y162,Y171],mix:=mix,Es:= [],Bs:= [],d:=1}
def t_spec_l02Shift (a0:Wide) (a1:I64):Tr (Wide):=
 .br (a1.val==0) (.leaf a0) (.br (decide (a1.val<64)) (.leaf ⟨(Rng.w .i64 (a0.hi.val.fdiv (2^min ((Rng.w .u64 (a1.val)).val).toNat 64))),(Rng.w .u64 (zbJ .or .u64 (Rng.w .u64 (a0.lo.val.fdiv (2^min ((Rng.w .u64 (a1.val)).val).toNat 64))).val (Rng.w .u64 ((Rng.w .u64 (a0.hi.val)).val*(2^min ((Rng.w .u64 ((Rng.w .i64 (64-a1.val)).val)).val).toNat 64))).val))⟩) (.leaf ⟨(Rng.w .i64 (a0.hi.val.fdiv 9223372036854775808)),(Rng.w .u64 ((Rng.w .i64 (a0.hi.val.fdiv (2^min ((Rng.w .u64 ((Rng.w .i64 (a1.val-64)).val)).val).toNat 64))).val))⟩))
theorem r_spec_l02Shift (a0:Wide) (a1:I64):Tb295.run B295 [enc a0,enc a1] (Wide)=(t_spec_l02Shift a0 a1).opt:=by kernel_rfl
def zdN:Wide->I64->Wide:=fun a0 a1=>(t_spec_l02Shift a0 a1).get
theorem u_spec_l02Shift (a0:Wide) (a1:I64):(t_spec_l02Shift a0 a1).opt=some (zdN a0 a1):=Tr.zz (by kernel_rfl)
def E_spec_l02Shift:Ent Tryz.prog:= .of2 Tb295 B295 (fun _ _=>true) zdN fun a0 a1 _=>(r_spec_l02Shift a0 a1).trans (u_spec_l02Shift a0 a1)
def B194:Bod Tryz.prog:=⟨194,Tryz.f194,Tryz.f194.body.getD .skip,Tryz.func194,by kernel_rfl,by kernel_rfl,zK.no _ _⟩
def Tb194:Tb Tryz.prog:= {T:= [],mix:=mix,Es:= [zbu,E_spec_l02Mul,E_spec_l02Int,E_spec_l02Shift],Bs:= [],d:=1}
def t_spec_MulFloor (a0:I64) (a1:I64) (a2:I64):Tr (T2 I64 Bool):=
 .br (!(zaj a2 ⟨0,rfl⟩ ⟨126,rfl⟩)) (.leaf ⟨⟨0,rfl⟩,false⟩) (let c4:=F_spec_l02Int (zdN (ze9 a0 a1) a2);.leaf ⟨c4.a,c4.b⟩)
theorem r_spec_MulFloor (a0:I64) (a1:I64) (a2:I64):Tb194.run B194 [enc a0,enc a1,enc a2] (T2 I64 Bool)=(t_spec_MulFloor a0 a1 a2).opt:=by kernel_rfl
def zav:I64->I64->I64->T2 I64 Bool:=fun a0 a1 a2=>(t_spec_MulFloor a0 a1 a2).get
theorem u_spec_MulFloor (a0:I64) (a1:I64) (a2:I64):(t_spec_MulFloor a0 a1 a2).opt=some (zav a0 a1 a2):=Tr.zz (by kernel_rfl)
def zfX:Ent Tryz.prog:= .of3 Tb194 B194 (fun _ _ _=>true) zav fun a0 a1 a2 _=>(r_spec_MulFloor a0 a1 a2).trans (u_spec_MulFloor a0 a1 a2)
def B93:Bod Tryz.prog:=⟨93,Tryz.f93,Tryz.f93.body.getD .skip,Tryz.func93,by kernel_rfl,by kernel_rfl,zK.no _ _⟩
def Tb93:Tb Tryz.prog:= {T:= [],mix:=mix,Es:= [E_spec_l03Ok,zfX,E_spec_l03End],Bs:= [],d:=1}
def zcL (a0:I64) (a1:I64):Tr (T2 I64 Bool):=
 .br (!(zD a0)) (.leaf ⟨⟨0,rfl⟩,false⟩) (.br (!(zD a1)) (.leaf ⟨⟨0,rfl⟩,false⟩) (let c3:=zav a0 a1 ⟨32,rfl⟩;let c4:=zaG c3.a c3.b;.leaf ⟨c4.a,c4.b⟩))
theorem r_spec_l03MulDown (a0:I64) (a1:I64):Tb93.run B93 [enc a0,enc a1] (T2 I64 Bool)=(zcL a0 a1).opt:=by kernel_rfl
def zO:I64->I64->T2 I64 Bool:=fun a0 a1=>(zcL a0 a1).get
theorem u_spec_l03MulDown (a0:I64) (a1:I64):(zcL a0 a1).opt=some (zO a0 a1):=Tr.zz (by kernel_rfl)
def E_spec_l03MulDown:Ent Tryz.prog:= .of2 Tb93 B93 (fun _ _=>true) zO fun a0 a1 _=>(r_spec_l03MulDown a0 a1).trans (u_spec_l03MulDown a0 a1)
def B94:Bod Tryz.prog:=⟨94,Tryz.f94,Tryz.f94.body.getD .skip,Tryz.func94,by kernel_rfl,by kernel_rfl,zK.no _ _⟩
def Tb94:Tb Tryz.prog:= {T:= [],mix:=mix,Es:= [E_spec_l03MulDown,E_spec_l03Ok],Bs:= [],d:=1}
def zey (a0:I64) (a1:I64):Tr (T2 I64 Bool):=
 let c2:=zO (Rng.w .i64 (0-a0.val)) a1;.br (!(zD a0)) (.leaf ⟨⟨0,rfl⟩,false⟩) (.br (!c2.b) (.leaf ⟨⟨0,rfl⟩,false⟩) (.leaf ⟨(Rng.w .i64 (0-c2.a.val)),true⟩))
theorem r_spec_l03MulUp (a0:I64) (a1:I64):Tb94.run B94 [enc a0,enc a1] (T2 I64 Bool)=(zey a0 a1).opt:=by kernel_rfl
def zaf:I64->I64->T2 I64 Bool:=fun a0 a1=>(zey a0 a1).get
theorem u_spec_l03MulUp (a0:I64) (a1:I64):(zey a0 a1).opt=some (zaf a0 a1):=Tr.zz (by kernel_rfl)
def E_spec_l03MulUp:Ent Tryz.prog:= .of2 Tb94 B94 (fun _ _=>true) zaf fun a0 a1 _=>(r_spec_l03MulUp a0 a1).trans (u_spec_l03MulUp a0 a1)
def B95:Bod Tryz.prog:=⟨95,Tryz.f95,Tryz.f95.body.getD .skip,Tryz.func95,by kernel_rfl,by kernel_rfl,zK.no _ _⟩
def Tb95:Tb Tryz.prog:= {T:= [],mix:=mix,Es:= [],Bs:= [],d:=1}
def t_spec_l00Min (a0:I64) (a1:I64):Tr (I64):=
 .br (decide (a0.val<a1.val)) (.leaf a0) (.leaf a1)
theorem r_spec_l00Min (a0:I64) (a1:I64):Tb95.run B95 [enc a0,enc a1] (I64)=(t_spec_l00Min a0 a1).opt:=by kernel_rfl
def zC:I64->I64->I64:=fun a0 a1=>(t_spec_l00Min a0 a1).get
theorem u_spec_l00Min (a0:I64) (a1:I64):(t_spec_l00Min a0 a1).opt=some (zC a0 a1):=Tr.zz (by kernel_rfl)
def E_spec_l00Min:Ent Tryz.prog:= .of2 Tb95 B95 (fun _ _=>true) zC fun a0 a1 _=>(r_spec_l00Min a0 a1).trans (u_spec_l00Min a0 a1)
def B96:Bod Tryz.prog:=⟨96,Tryz.f96,Tryz.f96.body.getD .skip,Tryz.func96,by kernel_rfl,by kernel_rfl,zK.no _ _⟩
def Tb96:Tb Tryz.prog:= {T:= [],mix:=mix,Es:= [],Bs:= [],d:=1}
def t_spec_l00Max (a0:I64) (a1:I64):Tr (I64):=
 .br (decide (a0.val>a1.val)) (.leaf a0) (.leaf a1)
theorem r_spec_l00Max (a0:I64) (a1:I64):Tb96.run B96 [enc a0,enc a1] (I64)=(t_spec_l00Max a0 a1).opt:=by kernel_rfl
def zu:I64->I64->I64:=fun a0 a1=>(t_spec_l00Max a0 a1).get
theorem u_spec_l00Max (a0:I64) (a1:I64):(t_spec_l00Max a0 a1).opt=some (zu a0 a1):=Tr.zz (by kernel_rfl)
def E_spec_l00Max:Ent Tryz.prog:= .of2 Tb96 B96 (fun _ _=>true) zu fun a0 a1 _=>(r_spec_l00Max a0 a1).trans (u_spec_l00Max a0 a1)
def Y119:TyE Tryz.prog:=⟨119,1,(.slice 2 1),[.nils],false,by kernel_rfl,by kernel_rfl,by kernel_rfl,by kernel_rfl,by kernel_rfl,by kernel_rfl⟩
def B26:Bod Tryz.prog:=⟨26,Tryz.f26,Tryz.f26.body.getD .skip,Tryz.func26,by kernel_rfl,by kernel_rfl,zK.no _ _⟩
def Tb26:Tb Tryz.prog:= {T:= [Y2,Y30,Y119],mix:=mix,Es:= [zS,zaJ,zaA,E_spec_l03MulDown,E_spec_l03MulUp,E_spec_l00Min,E_spec_l00Max],Bs:= [],d:=1}
def t_spec_MulI (a0:Iv) (a1:Iv):Tr (Iv):=
 .br (!(za a0)) (.leaf ze) (.br (!(za a1)) (.leaf ze) (let c5:=zO a0.lo a1.lo;let c6:=zaf a0.lo a1.lo;.br (!c5.b) (.leaf ze) (.br (!c6.b) (.leaf ze) (let c11:=zO a0.lo a1.hi;let c12:=zaf a0.lo a1.hi;.br (!c11.b) (.leaf ze) (.br (!c12.b) (.leaf ze) (let c17:=zO a0.hi a1.lo;let c18:=zaf a0.hi a1.lo;.br (!c17.b) (.leaf ze) (.br (!c18.b) (.leaf ze) (let c23:=zO a0.hi a1.hi;let c24:=zaf a0.hi a1.hi;.br (!c23.b) (.leaf ze) (.br (!c24.b) (.leaf ze) (.leaf (zR (zC (zC (zC (zC ⟨1152921504606846976,rfl⟩ c5.a) c11.a) c17.a) c23.a) (zu (zu (zu (zu ⟨(-1152921504606846976),rfl⟩ c6.a) c12.a) c18.a) c24.a))))))))))))
theorem r_spec_MulI (a0:Iv) (a1:Iv):Tb26.run B26 [enc a0,enc a1] (Iv)=(t_spec_MulI a0 a1).opt:=by kernel_rfl
def zf:Iv->Iv->Iv:=fun a0 a1=>(t_spec_MulI a0 a1).get
theorem u_spec_MulI (a0:Iv) (a1:Iv):(t_spec_MulI a0 a1).opt=some (zf a0 a1):=Tr.zz (by kernel_rfl)
def zcJ:Ent Tryz.prog:= .of2 Tb26 B26 (fun _ _=>true) zf fun a0 a1 _=>(r_spec_MulI a0 a1).trans (u_spec_MulI a0 a1)
def B185:Bod Tryz.prog:=⟨185,Tryz.f185,Tryz.f185.body.getD .skip,Tryz.func185,by kernel_rfl,by kernel_rfl,zK.no _ _⟩
def Tb185:Tb Tryz.prog:= {T:= [Y30],mix:=mix,Es:= [zd4],Bs:= [],d:=1}
def t_impl_areBounded (a0:Iv) (a1:Iv):Tr (Bool):=
 .br (zby a0) (.leaf (zby a1)) (.leaf false)
theorem r_impl_areBounded (a0:Iv) (a1:Iv):Tb185.run B185 [enc a0,enc a1] (Bool)=(t_impl_areBounded a0 a1).opt:=by kernel_rfl
def zaH:Iv->Iv->Bool:=fun a0 a1=>(t_impl_areBounded a0 a1).get
theorem u_impl_areBounded (a0:Iv) (a1:Iv):(t_impl_areBounded a0 a1).opt=some (zaH a0 a1):=Tr.zz (by kernel_rfl)
def za9:Ent Tryz.prog:= .of2 Tb185 B185 (fun _ _=>true) zaH fun a0 a1 _=>(r_impl_areBounded a0 a1).trans (u_impl_areBounded a0 a1)
def B360:Bod Tryz.prog:=⟨360,Tryz.f360,Tryz.f360.body.getD .skip,Tryz.func360,by kernel_rfl,by kernel_rfl,zK.no _ _⟩
def Tb360:Tb Tryz.prog:= {T:= [Y2,Y153,Y171],mix:=mix,Es:= [za8],Bs:= [],d:=1}
def t_impl_WideShift (a0:Wide) (a1:I64):Tr (Wide):=
 .br (!(zan a1 ⟨0,rfl⟩ ⟨127,rfl⟩)) (.leaf ⟨⟨0,rfl⟩,⟨0,rfl⟩⟩) (.br (decide (a1.val>=64)) (let c3:=(Rng.w .i64 (a1.val-64));.br (decide (c3.val<0)) (.bad) (.leaf ⟨(Rng.w .i64 (a0.hi.val.fdiv 9223372036854775808)),(Rng.w .u64 ((Rng.w .i64 (a0.hi.val.fdiv (2^min (c3.val).toNat 64))).val))⟩)) (.br (decide (a1.val<0)) (.bad) (.br (decide (a1.val<0)) (.bad) (let c7:=(Rng.w .i64 (64-a1.val));.br (decide (c7.val<0)) (.bad) (.leaf ⟨(Rng.w .i64 (a0.hi.val.fdiv (2^min (a1.val).toNat 64))),(Rng.w .u64 (zbJ .or .u64 (Rng.w .u64 (a0.lo.val.fdiv (2^min (a1.val).toNat 64))).val (Rng.w .u64 ((Rng.w .u64 (a0.hi.val)).val*(2^min (c7.val).toNat 64))).val))⟩)))))
theorem r_impl_WideShift (a0:Wide) (a1:I64):Tb360.run B360 [enc a0,enc a1] (Wide)=(t_impl_WideShift a0 a1).opt:=by kernel_rfl
def F_impl_WideShift:Wide->I64->Wide:=fun a0 a1=>(t_impl_WideShift a0 a1).get
def G_impl_WideShift:Wide->I64->Bool:=fun a0 a1=>(t_impl_WideShift a0 a1).opt.isSome
def E_impl_WideShift:Ent Tryz.prog:= .of2 Tb360 B360 G_impl_WideShift F_impl_WideShift fun a0 a1 h=>(r_impl_WideShift a0 a1).trans (Tr.get_some h)
def B306:Bod Tryz.prog:=⟨306,Tryz.f306,Tryz.f306.body.getD .skip,Tryz.func306,by kernel_rfl,by kernel_rfl,zK.no _ _⟩
def Tb306:Tb Tryz.prog:= {T:= [],mix:=mix,Es:= [za8,E_impl_WideMul,E_impl_WideInt,E_impl_WideShift],Bs:= [],d:=1}
def zfJ (a0:I64) (a1:I64) (a2:I64):Tr (T2 I64 Bool):=
 .br (!(zan a2 ⟨0,rfl⟩ ⟨126,rfl⟩)) (.leaf ⟨⟨0,rfl⟩,false⟩) (let c2:=zce a0 a1;.br (G_impl_WideShift c2 a2) (let c4:=F_impl_WideInt (F_impl_WideShift c2 a2);.leaf ⟨c4.a,c4.b⟩) (.bad))
theorem r_impl_MulFloor (a0:I64) (a1:I64) (a2:I64):Tb306.run B306 [enc a0,enc a1,enc a2] (T2 I64 Bool)=(zfJ a0 a1 a2).opt:=by kernel_rfl
def zb7:I64->I64->I64->T2 I64 Bool:=fun a0 a1 a2=>(zfJ a0 a1 a2).get
def G_impl_MulFloor:I64->I64->I64->Bool:=fun a0 a1 a2=>(zfJ a0 a1 a2).opt.isSome
def E_impl_MulFloor:Ent Tryz.prog:= .of3 Tb306 B306 G_impl_MulFloor zb7 fun a0 a1 a2 h=>(r_impl_MulFloor a0 a1 a2).trans (Tr.get_some h)
def B212:Bod Tryz.prog:=⟨212,Tryz.f212,Tryz.f212.body.getD .skip,Tryz.func212,by kernel_rfl,by kernel_rfl,zK.no _ _⟩
def Tb212:Tb Tryz.prog:= {T:= [],mix:=mix,Es:= [zdR,E_impl_fixed,E_impl_MulFloor],Bs:= [],d:=1}
def t_impl_MulDown (a0:I64) (a1:I64):Tr (T2 I64 Bool):=
 .br (!(zaQ a0)) (.leaf ⟨⟨0,rfl⟩,false⟩) (.br (!(zaQ a1)) (.leaf ⟨⟨0,rfl⟩,false⟩) (.br (G_impl_MulFloor a0 a1 ⟨32,rfl⟩) (let c3:=zb7 a0 a1 ⟨32,rfl⟩;let c4:=zcS c3.a c3.b;.leaf ⟨c4.a,c4.b⟩) (.bad)))
theorem r_impl_MulDown (a0:I64) (a1:I64):Tb212.run B212 [enc a0,enc a1] (T2 I64 Bool)=(t_impl_MulDown a0 a1).opt:=by kernel_rfl
def zej:I64->I64->T2 I64 Bool:=fun a0 a1=>(t_impl_MulDown a0 a1).get
def zdE:I64->I64->Bool:=fun a0 a1=>(t_impl_MulDown a0 a1).opt.isSome
def E_impl_MulDown:Ent Tryz.prog:= .of2 Tb212 B212 zdE zej fun a0 a1 h=>(r_impl_MulDown a0 a1).trans (Tr.get_some h)
def B213:Bod Tryz.prog:=⟨213,Tryz.f213,Tryz.f213.body.getD .skip,Tryz.func213,by kernel_rfl,by kernel_rfl,zK.no _ _⟩
def Tb213:Tb Tryz.prog:= {T:= [],mix:=mix,Es:= [E_impl_MulDown,zdR],Bs:= [],d:=1}
def t_impl_MulUp (a0:I64) (a1:I64):Tr (T2 I64 Bool):=
 .br (!(zaQ a0)) (.leaf ⟨⟨0,rfl⟩,false⟩) (.br (!(zaQ a1)) (.leaf ⟨⟨0,rfl⟩,false⟩) (let c3:=(Rng.w .i64 (0-a0.val));.br (zdE c3 a1) (let c4:=zej c3 a1;.leaf ⟨(Rng.w .i64 (0-c4.a.val)),c4.b⟩) (.bad)))
theorem r_impl_MulUp (a0:I64) (a1:I64):Tb213.run B213 [enc a0,enc a1] (T2 I64 Bool)=(t_impl_MulUp a0 a1).opt:=by kernel_rfl
def F_impl_MulUp:I64->I64->T2 I64 Bool:=fun a0 a1=>(t_impl_MulUp a0 a1).get
def G_impl_MulUp:I64->I64->Bool:=fun a0 a1=>(t_impl_MulUp a0 a1).opt.isSome
def E_impl_MulUp:Ent Tryz.prog:= .of2 Tb213 B213 G_impl_MulUp F_impl_MulUp fun a0 a1 h=>(r_impl_MulUp a0 a1).trans (Tr.get_some h)
def Y191:TyE Tryz.prog:=⟨191,2,(.array 2 2 1),[.i64 ⟨0,rfl⟩,.i64 ⟨0,rfl⟩],false,by kernel_rfl,by kernel_rfl,by kernel_rfl,by kernel_rfl,by kernel_rfl,by kernel_rfl⟩
def B211:Bod Tryz.prog:=⟨211,Tryz.f211,Tryz.f211.body.getD .skip,Tryz.func211,by kernel_rfl,by kernel_rfl,zK.no _ _⟩
def B112:Bod Tryz.prog:=⟨112,Tryz.f112,Tryz.f112.body.getD .skip,Tryz.func112,by kernel_rfl,by kernel_rfl,zK.no _ _⟩
def Tb112:Tb Tryz.prog:= {T:= [Y2,Y30,Y191],mix:=mix,Es:= [za9,zaa,zbm,E_impl_MulDown,E_impl_MulUp],Bs:= [B211],d:=8}
def t_impl_MulI (a0:Iv) (a1:Iv):Tr (Iv):=
 .br (!(zaH a0 a1)) (.leaf zq) (.br (zdE a0.lo a1.lo) (let c3:=zej a0.lo a1.lo;.br (G_impl_MulUp a0.lo a1.lo) (let c4:=F_impl_MulUp a0.lo a1.lo;.br (!c3.b) (.leaf zq) (.br (!c4.b) (.leaf zq) (.br (zdE a0.lo a1.hi) (let c7:=zej a0.lo a1.hi;.br (G_impl_MulUp a0.lo a1.hi) (let c8:=F_impl_MulUp a0.lo a1.hi;.br (!c7.b) (.leaf zq) (.br (!c8.b) (.leaf zq) (.br (zdE a0.hi a1.lo) (let c11:=zej a0.hi a1.lo;.br (G_impl_MulUp a0.hi a1.lo) (let c12:=F_impl_MulUp a0.hi a1.lo;.br (!c11.b) (.leaf zq) (.br (!c12.b) (.leaf zq) (.br (zdE a0.hi a1.hi) (let c17:=zej a0.hi a1.hi;.br (G_impl_MulUp a0.hi a1.hi) (let c18:=F_impl_MulUp a0.hi a1.hi;.br (!c17.b) (.leaf zq) (.br (!c18.b) (.leaf zq) (.leaf (zaE (mn (mn (mn (mn c3.a c3.a) c7.a) c11.a) c17.a) (mx (mx (mx (mx c4.a c4.a) c8.a) c12.a) c18.a) true)))) (.bad)) (.bad)))) (.bad)) (.bad)))) (.bad)) (.bad)))) (.bad)) (.bad))
theorem r_impl_MulI (a0:Iv) (a1:Iv):Tb112.run B112 [enc a0,enc a1] (Iv)=(t_impl_MulI a0 a1).opt:=by kernel_rfl
def zt:Iv->Iv->Iv:=fun a0 a1=>(t_impl_MulI a0 a1).get
def B87:Bod Tryz.prog:=⟨87,Tryz.f87,Tryz.f87.body.getD .skip,Tryz.func87,by kernel_rfl,by kernel_rfl,zK.no _ _⟩
def Tb87:Tb Tryz.prog:= {T:= [Y2,Y30],mix:=mix,Es:= [zbu],Bs:= [],d:=1}
def zcZ (a0:Iv) (a1:I64):Tr (Bool):=
 .leaf (zaj a1 a0.lo a0.hi)
theorem r_spec_l04Has (a0:Iv) (a1:I64):Tb87.run B87 [enc a0,enc a1] (Bool)=(zcZ a0 a1).opt:=by kernel_rfl
def za5:Iv->I64->Bool:=fun a0 a1=>(zcZ a0 a1).get
theorem u_spec_l04Has (a0:Iv) (a1:I64):(zcZ a0 a1).opt=some (za5 a0 a1):=Tr.zz (by kernel_rfl)
def E_spec_l04Has:Ent Tryz.prog:= .of2 Tb87 B87 (fun _ _=>true) za5 fun a0 a1 _=>(r_spec_l04Has a0 a1).trans (u_spec_l04Has a0 a1)
def B237:Bod Tryz.prog:=⟨237,Tryz.f237,Tryz.f237.body.getD .skip,Tryz.func237,by kernel_rfl,by kernel_rfl,zK.no _ _⟩
def Tb237:Tb Tryz.prog:= {T:= [],mix:=mix,Es:= [E_spec_l03Ok,E_spec_l03End,ET_spec_MulDivFloor],Bs:= [],d:=1}
def zbo (a0:I64) (a1:I64):Tr (T2 I64 Bool):=
 .br (!(zD a0)) (.leaf ⟨⟨0,rfl⟩,false⟩) (.br (!(zD a1)) (.leaf ⟨⟨0,rfl⟩,false⟩) (.br (a1.val==0) (.leaf ⟨⟨0,rfl⟩,false⟩) (.br (decide (a1.val<0)) (let c5:=zbg (Rng.w .i64 (0-a0.val)) ⟨4294967296,rfl⟩ (Rng.w .i64 (0-a1.val));let c6:=zaG c5.a c5.b;.leaf ⟨c6.a,c6.b⟩) (let c7:=zbg a0 ⟨4294967296,rfl⟩ a1;let c8:=zaG c7.a c7.b;.leaf ⟨c8.a,c8.b⟩))))
theorem r_spec_l03DivDown (a0:I64) (a1:I64):Tb237.run B237 [enc a0,enc a1] (T2 I64 Bool)=(zbo a0 a1).opt:=by kernel_rfl
def zP:I64->I64->T2 I64 Bool:=fun a0 a1=>(zbo a0 a1).get
theorem u_spec_l03DivDown (a0:I64) (a1:I64):(zbo a0 a1).opt=some (zP a0 a1):=Tr.zz (by kernel_rfl)
def E_spec_l03DivDown:Ent Tryz.prog:= .of2 Tb237 B237 (fun _ _=>true) zP fun a0 a1 _=>(r_spec_l03DivDown a0 a1).trans (u_spec_l03DivDown a0 a1)
def B238:Bod Tryz.prog:=⟨238,Tryz.f238,Tryz.f238.body.getD .skip,Tryz.func238,by kernel_rfl,by kernel_rfl,zK.no _ _⟩
def Tb238:Tb Tryz.prog:= {T:= [],mix:=mix,Es:= [E_spec_l03Ok,E_spec_l03DivDown],Bs:= [],d:=1}
def zc0 (a0:I64) (a1:I64):Tr (T2 I64 Bool):=
 .br (!(zD a0)) (.leaf ⟨⟨0,rfl⟩,false⟩) (let c3:=zP (Rng.w .i64 (0-a0.val)) a1;.leaf ⟨(Rng.w .i64 (0-c3.a.val)),c3.b⟩)
theorem r_spec_l03DivUp (a0:I64) (a1:I64):Tb238.run B238 [enc a0,enc a1] (T2 I64 Bool)=(zc0 a0 a1).opt:=by kernel_rfl
def zal:I64->I64->T2 I64 Bool:=fun a0 a1=>(zc0 a0 a1).get
theorem u_spec_l03DivUp (a0:I64) (a1:I64):(zc0 a0 a1).opt=some (zal a0 a1):=Tr.zz (by kernel_rfl)
def E_spec_l03DivUp:Ent Tryz.prog:= .of2 Tb238 B238 (fun _ _=>true) zal fun a0 a1 _=>(r_spec_l03DivUp a0 a1).trans (u_spec_l03DivUp a0 a1)
def B142:Bod Tryz.prog:=⟨142,Tryz.f142,Tryz.f142.body.getD .skip,Tryz.func142,by kernel_rfl,by kernel_rfl,zK.no _ _⟩
def Tb142:Tb Tryz.prog:= {T:= [Y2,Y30,Y119],mix:=mix,Es:= [zS,zaJ,zaA,E_spec_l04Has,E_spec_l00Min,E_spec_l00Max,E_spec_l03DivDown,E_spec_l03DivUp],Bs:= [],d:=1}
def t_spec_DivI (a0:Iv) (a1:Iv):Tr (Iv):=
 .br (!(za a0)) (.leaf ze) (.br (!(za a1)) (.leaf ze) (.br (za5 a1 ⟨0,rfl⟩) (.leaf ze) (let c7:=zP a0.lo a1.lo;let c8:=zal a0.lo a1.lo;.br (!c7.b) (.leaf ze) (.br (!c8.b) (.leaf ze) (let c13:=zP a0.lo a1.hi;let c14:=zal a0.lo a1.hi;.br (!c13.b) (.leaf ze) (.br (!c14.b) (.leaf ze) (let c19:=zP a0.hi a1.lo;let c20:=zal a0.hi a1.lo;.br (!c19.b) (.leaf ze) (.br (!c20.b) (.leaf ze) (let c25:=zP a0.hi a1.hi;let c26:=zal a0.hi a1.hi;.br (!c25.b) (.leaf ze) (.br (!c26.b) (.leaf ze) (.leaf (zR (zC (zC (zC (zC ⟨1152921504606846976,rfl⟩ c7.a) c13.a) c19.a) c25.a) (zu (zu (zu (zu ⟨(-1152921504606846976),rfl⟩ c8.a) c14.a) c20.a) c26.a)))))))))))))
theorem r_spec_DivI (a0:Iv) (a1:Iv):Tb142.run B142 [enc a0,enc a1] (Iv)=(t_spec_DivI a0 a1).opt:=by kernel_rfl
def zn:Iv->Iv->Iv:=fun a0 a1=>(t_spec_DivI a0 a1).get
theorem u_spec_DivI (a0:Iv) (a1:Iv):(t_spec_DivI a0 a1).opt=some (zn a0 a1):=Tr.zz (by kernel_rfl)
def zb8:Ent Tryz.prog:= .of2 Tb142 B142 (fun _ _=>true) zn fun a0 a1 _=>(r_spec_DivI a0 a1).trans (u_spec_DivI a0 a1)
def B188:Bod Tryz.prog:=⟨188,Tryz.f188,Tryz.f188.body.getD .skip,Tryz.func188,by kernel_rfl,by kernel_rfl,zK.no _ _⟩
def Tb188:Tb Tryz.prog:= {T:= [Y2,Y30],mix:=mix,Es:= [zaW,za8],Bs:= [],d:=1}
def t_impl_HasI (a0:Iv) (a1:I64):Tr (Bool):=
 .br (zX a0) (.leaf true) (.leaf (zan a1 a0.lo a0.hi))
theorem r_impl_HasI (a0:Iv) (a1:I64):Tb188.run B188 [enc a0,enc a1] (Bool)=(t_impl_HasI a0 a1).opt:=by kernel_rfl
def zfp:Iv->I64->Bool:=fun a0 a1=>(t_impl_HasI a0 a1).get
theorem u_impl_HasI (a0:Iv) (a1:I64):(t_impl_HasI a0 a1).opt=some (zfp a0 a1):=Tr.zz (by kernel_rfl)
def E_impl_HasI:Ent Tryz.prog:= .of2 Tb188 B188 (fun _ _=>true) zfp fun a0 a1 _=>(r_impl_HasI a0 a1).trans (u_impl_HasI a0 a1)
def B239:Bod Tryz.prog:=⟨239,Tryz.f239,Tryz.f239.body.getD .skip,Tryz.func239,by kernel_rfl,by kernel_rfl,zK.no _ _⟩
def Tb239:Tb Tryz.prog:= {T:= [],mix:=mix,Es:= [ET_impl_MulDivFloor,zdR,E_impl_fixed],Bs:= [],d:=1}
def t_impl_DivDown (a0:I64) (a1:I64):Tr (T2 I64 Bool):=
 .br (!(zaQ a0)) (.leaf ⟨⟨0,rfl⟩,false⟩) (.br (!(zaQ a1)) (.leaf ⟨⟨0,rfl⟩,false⟩) (.br (decide (a1.val<0)) (let c5:=zbt (Rng.w .i64 (0-a0.val)) ⟨4294967296,rfl⟩ (Rng.w .i64 (0-a1.val));let c6:=zcS c5.a c5.b;.leaf ⟨c6.a,c6.b⟩) (let c7:=zbt a0 ⟨4294967296,rfl⟩ a1;let c8:=zcS c7.a c7.b;.leaf ⟨c8.a,c8.b⟩)))
theorem r_impl_DivDown (a0:I64) (a1:I64):Tb239.run B239 [enc a0,enc a1] (T2 I64 Bool)=(t_impl_DivDown a0 a1).opt:=by kernel_rfl
def zdG:I64->I64->T2 I64 Bool:=fun a0 a1=>(t_impl_DivDown a0 a1).get
theorem u_impl_DivDown (a0:I64) (a1:I64):(t_impl_DivDown a0 a1).opt=some (zdG a0 a1):=Tr.zz (by kernel_rfl)
def E_impl_DivDown:Ent Tryz.prog:= .of2 Tb239 B239 (fun _ _=>true) zdG fun a0 a1 _=>(r_impl_DivDown a0 a1).trans (u_impl_DivDown a0 a1)
def B240:Bod Tryz.prog:=⟨240,Tryz.f240,Tryz.f240.body.getD .skip,Tryz.func240,by kernel_rfl,by kernel_rfl,zK.no _ _⟩
def Tb240:Tb Tryz.prog:= {T:= [],mix:=mix,Es:= [E_impl_DivDown,zdR],Bs:= [],d:=1}
def t_impl_DivUp (a0:I64) (a1:I64):Tr (T2 I64 Bool):=
 .br (!(zaQ a0)) (.leaf ⟨⟨0,rfl⟩,false⟩) (.br (!(zaQ a1)) (.leaf ⟨⟨0,rfl⟩,false⟩) (let c4:=zdG (Rng.w .i64 (0-a0.val)) a1;.leaf ⟨(Rng.w .i64 (0-c4.a.val)),c4.b⟩))
theorem r_impl_DivUp (a0:I64) (a1:I64):Tb240.run B240 [enc a0,enc a1] (T2 I64 Bool)=(t_impl_DivUp a0 a1).opt:=by kernel_rfl
def F_impl_DivUp:I64->I64->T2 I64 Bool:=fun a0 a1=>(t_impl_DivUp a0 a1).get
theorem u_impl_DivUp (a0:I64) (a1:I64):(t_impl_DivUp a0 a1).opt=some (F_impl_DivUp a0 a1):=Tr.zz (by kernel_rfl)
def E_impl_DivUp:Ent Tryz.prog:= .of2 Tb240 B240 (fun _ _=>true) F_impl_DivUp fun a0 a1 _=>(r_impl_DivUp a0 a1).trans (u_impl_DivUp a0 a1)
def B145:Bod Tryz.prog:=⟨145,Tryz.f145,Tryz.f145.body.getD .skip,Tryz.func145,by kernel_rfl,by kernel_rfl,zK.no _ _⟩
def Tb145:Tb Tryz.prog:= {T:= [Y2,Y30,Y191],mix:=mix,Es:= [za9,zaa,zbm,E_impl_HasI,E_impl_DivDown,E_impl_DivUp],Bs:= [B211],d:=8}
def t_impl_DivI (a0:Iv) (a1:Iv):Tr (Iv):=
 .br (!(zaH a0 a1)) (.leaf zq) (.br (zfp a1 ⟨0,rfl⟩) (.leaf zq) (let c5:=zdG a0.lo a1.lo;let c6:=F_impl_DivUp a0.lo a1.lo;.br (!c5.b) (.leaf zq) (.br (!c6.b) (.leaf zq) (let c9:=zdG a0.lo a1.hi;let c10:=F_impl_DivUp a0.lo a1.hi;.br (!c9.b) (.leaf zq) (.br (!c10.b) (.leaf zq) (let c14:=zdG a0.hi a1.lo;let c15:=F_impl_DivUp a0.hi a1.lo;.br (!c14.b) (.leaf zq) (.br (!c15.b) (.leaf zq) (let c19:=zdG a0.hi a1.hi;let c20:=F_impl_DivUp a0.hi a1.hi;.br (!c19.b) (.leaf zq) (.br (!c20.b) (.leaf zq) (.leaf (zaE (mn (mn (mn (mn c5.a c5.a) c9.a) c14.a) c19.a) (mx (mx (mx (mx c6.a c6.a) c10.a) c15.a) c20.a) true)))))))))))
theorem r_impl_DivI (a0:Iv) (a1:Iv):Tb145.run B145 [enc a0,enc a1] (Iv)=(t_impl_DivI a0 a1).opt:=by kernel_rfl
def zY:Iv->Iv->Iv:=fun a0 a1=>(t_impl_DivI a0 a1).get
theorem u_impl_DivI (a0:Iv) (a1:Iv):(t_impl_DivI a0 a1).opt=some (zY a0 a1):=Tr.zz (by kernel_rfl)
def zb9:Ent Tryz.prog:= .of2 Tb145 B145 (fun _ _=>true) zY fun a0 a1 _=>(r_impl_DivI a0 a1).trans (u_impl_DivI a0 a1)
def B225:Bod Tryz.prog:=⟨225,Tryz.f225,Tryz.f225.body.getD .skip,Tryz.func225,by kernel_rfl,by kernel_rfl,zK.no _ _⟩
def Tb225:Tb Tryz.prog:= {T:= [Y2,Y30],mix:=mix,Es:= [E_spec_l04Has,E_spec_l00Min,E_spec_l00Max],Bs:= [],d:=1}
def zff (a0:Iv):Tr (T2 I64 I64):=
 let c2:=zu a0.lo (Rng.w .i64 (0-a0.lo.val));let c4:=zu a0.hi (Rng.w .i64 (0-a0.hi.val));.br (za5 a0 ⟨0,rfl⟩) (.leaf ⟨⟨0,rfl⟩,(zu c2 c4)⟩) (.leaf ⟨(zC c2 c4),(zu c2 c4)⟩)
theorem r_spec_l04Ends (a0:Iv):Tb225.run B225 [enc a0] (T2 I64 I64)=(zff a0).opt:=by kernel_rfl
def zN:Iv->T2 I64 I64:=fun a0=>(zff a0).get
theorem u_spec_l04Ends (a0:Iv):(zff a0).opt=some (zN a0):=Tr.zz (by kernel_rfl)
def E_spec_l04Ends:Ent Tryz.prog:= .of1 Tb225 B225 (fun _=>true) zN fun a0 _=>(r_spec_l04Ends a0).trans (u_spec_l04Ends a0)
def B124:Bod Tryz.prog:=⟨124,Tryz.f124,Tryz.f124.body.getD .skip,Tryz.func124,by kernel_rfl,by kernel_rfl,zK.no _ _⟩
def Tb124:Tb Tryz.prog:= {T:= [Y2,Y30],mix:=mix,Es:= [zS,zaJ,zaA,E_spec_l03MulDown,E_spec_l03MulUp,E_spec_l04Ends],Bs:= [],d:=1}
def t_spec_SqrI (a0:Iv):Tr (Iv):=
 .br (!(za a0)) (.leaf ze) (let c3:=zN a0;let c4:=zO c3.a c3.a;let c5:=zaf c3.b c3.b;.br (!c4.b) (.leaf ze) (.br (!c5.b) (.leaf ze) (.leaf (zR c4.a c5.a))))
theorem r_spec_SqrI (a0:Iv):Tb124.run B124 [enc a0] (Iv)=(t_spec_SqrI a0).opt:=by kernel_rfl
def zao:Iv->Iv:=fun a0=>(t_spec_SqrI a0).get
theorem u_spec_SqrI (a0:Iv):(t_spec_SqrI a0).opt=some (zao a0):=Tr.zz (by kernel_rfl)
def zeH:Ent Tryz.prog:= .of1 Tb124 B124 (fun _=>true) zao fun a0 _=>(r_spec_SqrI a0).trans (u_spec_SqrI a0)
def B191:Bod Tryz.prog:=⟨191,Tryz.f191,Tryz.f191.body.getD .skip,Tryz.func191,by kernel_rfl,by kernel_rfl,zK.no _ _⟩
def Tb191:Tb Tryz.prog:= {T:= [Y2,Y30],mix:=mix,Es:= [zaW,zaa,E_impl_HasI,E_impl_abs],Bs:= [],d:=1}
def t_impl_AbsI (a0:Iv):Tr (Iv):=
 .br (zX a0) (.leaf zq) (let c5:=zct a0.lo;let c6:=zct a0.hi;.br (zfp a0 ⟨0,rfl⟩) (.leaf ⟨⟨0,rfl⟩,(mx c5 c6)⟩) (.leaf ⟨(mn (zct a0.lo) (zct a0.hi)),(mx c5 c6)⟩))
theorem r_impl_AbsI (a0:Iv):Tb191.run B191 [enc a0] (Iv)=(t_impl_AbsI a0).opt:=by kernel_rfl
def zeG:Iv->Iv:=fun a0=>(t_impl_AbsI a0).get
theorem u_impl_AbsI (a0:Iv):(t_impl_AbsI a0).opt=some (zeG a0):=Tr.zz (by kernel_rfl)
def E_impl_AbsI:Ent Tryz.prog:= .of1 Tb191 B191 (fun _=>true) zeG fun a0 _=>(r_impl_AbsI a0).trans (u_impl_AbsI a0)
def B147:Bod Tryz.prog:=⟨147,Tryz.f147,Tryz.f147.body.getD .skip,Tryz.func147,by kernel_rfl,by kernel_rfl,zK.no _ _⟩
def Tb147:Tb Tryz.prog:= {T:= [Y2,Y30],mix:=mix,Es:= [zaW,zaa,zbm,E_impl_AbsI,E_impl_MulDown,E_impl_MulUp],Bs:= [],d:=1}
def t_impl_SqrI (a0:Iv):Tr (Iv):=
 .br (zX a0) (.leaf zq) (let c3:=zeG a0;.br (zdE c3.lo c3.lo) (let c4:=zej c3.lo c3.lo;.br (G_impl_MulUp c3.hi c3.hi) (let c5:=F_impl_MulUp c3.hi c3.hi;.br c4.b (.leaf (zaE c4.a c5.a c5.b)) (.leaf (zaE c4.a c5.a false))) (.bad)) (.bad))
theorem r_impl_SqrI (a0:Iv):Tb147.run B147 [enc a0] (Iv)=(t_impl_SqrI a0).opt:=by kernel_rfl
def zcI:Iv->Iv:=fun a0=>(t_impl_SqrI a0).get
structure zdm where
 x0:U64
 x1:I64
 x2:I64
 x3:U64
instance:Inhabited zdm:=⟨⟨default,default,default,default⟩⟩
def st_spec_l02Root_3 (x:zdm):St:=⟨[(1,.ptr 0 0),(3,.u64 x.x0),(4,.i64 x.x1)],43,⟨[(0,[.i64 x.x2,.u64 x.x3])],1,0⟩⟩
def rd_spec_l02Root_3:St->Option zdm:=fun s=>match s with
 | ⟨[(1,.ptr 0 0),(3,.u64 x0),(4,.i64 x1)],43,⟨[(0,[.i64 x2,.u64 x3])],1,0⟩⟩=>some ⟨x0,x1,x2,x3⟩
 | _=>none
def zcb (x:zdm):Tr (Lp zdm):=
 .br (decide (x.x1.val>=0)) (let c2:=(Rng.w .u64 (zbJ .or .u64 x.x0.val (Rng.w .u64 (1*(2^min ((Rng.w .u64 (x.x1.val)).val).toNat 64))).val));let c3:=zfP c2 c2;.br (decide (c3.a.val<(Rng.w .u64 (x.x2.val)).val)) (.leaf (.again ⟨c2,(Rng.w .i64 (x.x1.val-1)),x.x2,x.x3⟩)) (.br (c3.a.val==(Rng.w .u64 (x.x2.val)).val) (.br (decide (c3.b.val<=x.x3.val)) (.leaf (.again ⟨c2,(Rng.w .i64 (x.x1.val-1)),x.x2,x.x3⟩)) (.leaf (.again ⟨x.x0,(Rng.w .i64 (x.x1.val-1)),x.x2,x.x3⟩))) (.leaf (.again ⟨x.x0,(Rng.w .i64 (x.x1.val-1)),x.x2,x.x3⟩)))) (.leaf (.out ⟨x.x0,x.x1,x.x2,x.x3⟩))
def zeS (x:zdm):Bool:=(Lf zcb 66 x).opt.isSome
def L_spec_l02Root_3 (x:zdm):zdm:=(Lf zcb 66 x).get
def TbL_spec_l02Root_3:Tb Tryz.prog:= {T:= [Y2,Y3,Y153,Y162,Y171],mix:=mix,Es:= [E_spec_l02Times],Bs:= [],d:=1}
def P_spec_l02Root_3:LpF:=loopF [1,3,4] [0] 1 rd_spec_l02Root_3 st_spec_l02Root_3 (.exit 0) zeS L_spec_l02Root_3
theorem lok_spec_l02Root_3:LoopOk Tryz.prog (loopAt (Tryz.f234.body.getD .skip) 0) P_spec_l02Root_3:=zfw (t:=TbL_spec_l02Root_3) (lt:=fun _=>none) (body:=zcb) (n:=66) (by intro h;cases h) (fun _ _ _ h=>by cases h)
 (by intro s x h;unfold rd_spec_l02Root_3 at h;split at h<;>cases h;rfl) (fun x b cs h=>lk_lt (l:=(st_spec_l02Root_3 x).mm.blks) (by kernel_rfl) h) (by intro x;kernel_rfl) (fun x h=>Tr.get_some h)
def B234:Bod Tryz.prog:=⟨234,Tryz.f234,Tryz.f234.body.getD .skip,Tryz.func234,by kernel_rfl,by kernel_rfl,⟨ltOf [(3,P_spec_l02Root_3)],zK.of (ks:= [3]) (by kernel_rfl) (by
 intro i k h f hf
 match i,h with
 | 0,h=>cases h;obtain rfl:P_spec_l02Root_3=f:=Option.some.inj hf;exact lok_spec_l02Root_3
 | n+1,h=>simp at h)⟩⟩
def Tb234:Tb Tryz.prog:= {T:= [Y2,Y3,Y153,Y162,Y171],mix:=mix,Es:= [],Bs:= [],d:=1}
def zd8 (a0:Wide):Tr (U64):=
 .br (zeS ⟨⟨0,rfl⟩,⟨63,rfl⟩,a0.hi,a0.lo⟩) (.leaf (L_spec_l02Root_3 ⟨⟨0,rfl⟩,⟨63,rfl⟩,a0.hi,a0.lo⟩).x0) (.bad)
theorem r_spec_l02Root (a0:Wide):Tb234.run B234 [enc a0] (U64)=(zd8 a0).opt:=by kernel_rfl
def zbk:Wide->U64:=fun a0=>(zd8 a0).get
def G_spec_l02Root:Wide->Bool:=fun a0=>(zd8 a0).opt.isSome
def E_spec_l02Root:Ent Tryz.prog:= .of1 Tb234 B234 G_spec_l02Root zbk fun a0 h=>(r_spec_l02Root a0).trans (Tr.get_some h)
def B308:Bod Tryz.prog:=⟨308,Tryz.f308,Tryz.f308.body.getD .skip,Tryz.func308,by kernel_rfl,by kernel_rfl,zK.no _ _⟩
def Tb308:Tb Tryz.prog:= {T:= [Y2,Y153],mix:=mix,Es:= [E_spec_l02Root,E_spec_l02Mul],Bs:= [],d:=1}
def zeM (a0:I64) (a1:I64):Tr (T2 I64 Bool):=
 .br (decide (a0.val<0)) (.leaf ⟨⟨0,rfl⟩,false⟩) (.br (decide (a1.val<0)) (.leaf ⟨⟨0,rfl⟩,false⟩) (let c1:=ze9 a0 a1;.br (G_spec_l02Root c1) (.leaf ⟨(Rng.w .i64 ((zbk c1).val)),true⟩) (.bad)))
theorem r_spec_SqrtFloor (a0:I64) (a1:I64):Tb308.run B308 [enc a0,enc a1] (T2 I64 Bool)=(zeM a0 a1).opt:=by kernel_rfl
def zdX:I64->I64->T2 I64 Bool:=fun a0 a1=>(zeM a0 a1).get
def G_spec_SqrtFloor:I64->I64->Bool:=fun a0 a1=>(zeM a0 a1).opt.isSome
def E_spec_SqrtFloor:Ent Tryz.prog:= .of2 Tb308 B308 G_spec_SqrtFloor zdX fun a0 a1 h=>(r_spec_SqrtFloor a0 a1).trans (Tr.get_some h)
def B222:Bod Tryz.prog:=⟨222,Tryz.f222,Tryz.f222.body.getD .skip,Tryz.func222,by kernel_rfl,by kernel_rfl,zK.no _ _⟩
def Tb222:Tb Tryz.prog:= {T:= [],mix:=mix,Es:= [zbu,E_spec_SqrtFloor],Bs:= [],d:=1}
def zdS (a0:I64):Tr (T2 I64 Bool):=
 .br (!(zaj a0 ⟨0,rfl⟩ ⟨1152921504606846976,rfl⟩)) (.leaf ⟨⟨0,rfl⟩,false⟩) (.br (G_spec_SqrtFloor a0 ⟨4294967296,rfl⟩) (let c2:=zdX a0 ⟨4294967296,rfl⟩;.leaf ⟨c2.a,c2.b⟩) (.bad))
theorem r_spec_l03SqrtDown (a0:I64):Tb222.run B222 [enc a0] (T2 I64 Bool)=(zdS a0).opt:=by kernel_rfl
def zcq:I64->T2 I64 Bool:=fun a0=>(zdS a0).get
def ze7:I64->Bool:=fun a0=>(zdS a0).opt.isSome
def E_spec_l03SqrtDown:Ent Tryz.prog:= .of1 Tb222 B222 ze7 zcq fun a0 h=>(r_spec_l03SqrtDown a0).trans (Tr.get_some h)
def B223:Bod Tryz.prog:=⟨223,Tryz.f223,Tryz.f223.body.getD .skip,Tryz.func223,by kernel_rfl,by kernel_rfl,zK.no _ _⟩
def Tb223:Tb Tryz.prog:= {T:= [],mix:=mix,Es:= [zfX,E_spec_l03SqrtDown],Bs:= [],d:=1}
def zcw (a0:I64):Tr (T2 I64 Bool):=
 .br (ze7 a0) (let c1:=zcq a0;.br (!c1.b) (.leaf ⟨⟨0,rfl⟩,false⟩) (.br ((zav c1.a c1.a ⟨32,rfl⟩).a.val != a0.val) (.leaf ⟨(Rng.w .i64 (c1.a.val+1)),true⟩) (.br ((Rng.w .i64 (zbJ .and .i64 (Rng.w .i64 (c1.a.val*c1.a.val)).val 4294967295)).val != 0) (.leaf ⟨(Rng.w .i64 (c1.a.val+1)),true⟩) (.leaf ⟨c1.a,true⟩)))) (.bad)
theorem r_spec_l03SqrtUp (a0:I64):Tb223.run B223 [enc a0] (T2 I64 Bool)=(zcw a0).opt:=by kernel_rfl
def zcc:I64->T2 I64 Bool:=fun a0=>(zcw a0).get
def G_spec_l03SqrtUp:I64->Bool:=fun a0=>(zcw a0).opt.isSome
def E_spec_l03SqrtUp:Ent Tryz.prog:= .of1 Tb223 B223 G_spec_l03SqrtUp zcc fun a0 h=>(r_spec_l03SqrtUp a0).trans (Tr.get_some h)
def B122:Bod Tryz.prog:=⟨122,Tryz.f122,Tryz.f122.body.getD .skip,Tryz.func122,by kernel_rfl,by kernel_rfl,zK.no _ _⟩
def Tb122:Tb Tryz.prog:= {T:= [Y2,Y30],mix:=mix,Es:= [zS,zaJ,zaA,E_spec_l03SqrtDown,E_spec_l03SqrtUp],Bs:= [],d:=1}
def t_spec_SqrtI (a0:Iv):Tr (Iv):=
 .br (!(za a0)) (.leaf ze) (.br (decide (a0.lo.val<0)) (.leaf ze) (.br (ze7 a0.lo) (.br (G_spec_l03SqrtUp a0.hi) (.leaf (zR (zcq a0.lo).a (zcc a0.hi).a)) (.bad)) (.bad)))
theorem r_spec_SqrtI (a0:Iv):Tb122.run B122 [enc a0] (Iv)=(t_spec_SqrtI a0).opt:=by kernel_rfl
def zar:Iv->Iv:=fun a0=>(t_spec_SqrtI a0).get
structure zcO where
 x0:U64
 x1:I64
 x2:I64
 x3:U64
instance:Inhabited zcO:=⟨⟨default,default,default,default⟩⟩
def st_impl_WideSqrt_5 (x:zcO):St:=⟨[(1,.ptr 0 0),(4,.u64 x.x0),(5,.i64 x.x1)],46,⟨[(0,[.i64 x.x2,.u64 x.x3])],1,0⟩⟩
def rd_impl_WideSqrt_5:St->Option zcO:=fun s=>match s with
 | ⟨[(1,.ptr 0 0),(4,.u64 x0),(5,.i64 x1)],46,⟨[(0,[.i64 x2,.u64 x3])],1,0⟩⟩=>some ⟨x0,x1,x2,x3⟩
 | _=>none
def zeq (x:zcO):Tr (Lp zcO):=
 .br (decide (x.x1.val>=0)) (.br (decide (x.x1.val<0)) (.bad) (let c2:=(Rng.w .u64 (zbJ .or .u64 x.x0.val (Rng.w .u64 (1*(2^min (x.x1.val).toNat 64))).val));let c3:=zev c2 c2;.br (decide (c3.a.val<(Rng.w .u64 (x.x2.val)).val)) (.leaf (.again ⟨c2,(Rng.w .i64 (x.x1.val-1)),x.x2,x.x3⟩)) (.br (c3.a.val==(Rng.w .u64 (x.x2.val)).val) (.br (decide (c3.b.val<=x.x3.val)) (.leaf (.again ⟨c2,(Rng.w .i64 (x.x1.val-1)),x.x2,x.x3⟩)) (.leaf (.again ⟨x.x0,(Rng.w .i64 (x.x1.val-1)),x.x2,x.x3⟩))) (.leaf (.again ⟨x.x0,(Rng.w .i64 (x.x1.val-1)),x.x2,x.x3⟩))))) (.leaf (.out ⟨x.x0,x.x1,x.x2,x.x3⟩))
def G_impl_WideSqrt_5 (x:zcO):Bool:=(Lf zeq 66 x).opt.isSome
def L_impl_WideSqrt_5 (x:zcO):zcO:=(Lf zeq 66 x).get
def TbL_impl_WideSqrt_5:Tb Tryz.prog:= {T:= [Y2,Y153,Y171],mix:=mix,Es:= [E_math_bits_Mul64],Bs:= [],d:=1}
def P_impl_WideSqrt_5:LpF:=loopF [1,4,5] [0] 1 rd_impl_WideSqrt_5 st_impl_WideSqrt_5 (.exit 0) G_impl_WideSqrt_5 L_impl_WideSqrt_5
theorem lok_impl_WideSqrt_5:LoopOk Tryz.prog (loopAt (Tryz.f293.body.getD .skip) 0) P_impl_WideSqrt_5:=zfw (t:=TbL_impl_WideSqrt_5) (lt:=fun _=>none) (body:=zeq) (n:=66) (by intro h;cases h) (fun _ _ _ h=>by cases h)
 (by intro s x h;unfold rd_impl_WideSqrt_5 at h;split at h<;>cases h;rfl) (fun x b cs h=>lk_lt (l:=(st_impl_WideSqrt_5 x).mm.blks) (by kernel_rfl) h) (by intro x;kernel_rfl) (fun x h=>Tr.get_some h)
def B293:Bod Tryz.prog:=⟨293,Tryz.f293,Tryz.f293.body.getD .skip,Tryz.func293,by kernel_rfl,by kernel_rfl,⟨ltOf [(5,P_impl_WideSqrt_5)],zK.of (ks:= [5]) (by kernel_rfl) (by
 intro i k h f hf
 match i,h with
 | 0,h=>cases h;obtain rfl:P_impl_WideSqrt_5=f:=Option.some.inj hf;exact lok_impl_WideSqrt_5
 | n+1,h=>simp at h)⟩⟩
def Tb293:Tb Tryz.prog:= {T:= [Y2,Y153,Y171],mix:=mix,Es:= [],Bs:= [],d:=1}
def t_impl_WideSqrt (a0:Wide):Tr (T2 U64 Bool):=
 .br (decide (a0.hi.val<0)) (.leaf ⟨⟨0,rfl⟩,false⟩) (.br (G_impl_WideSqrt_5 ⟨⟨0,rfl⟩,⟨63,rfl⟩,a0.hi,a0.lo⟩) (.leaf ⟨(L_impl_WideSqrt_5 ⟨⟨0,rfl⟩,⟨63,rfl⟩,a0.hi,a0.lo⟩).x0,true⟩) (.bad))
theorem r_impl_WideSqrt (a0:Wide):Tb293.run B293 [enc a0] (T2 U64 Bool)=(t_impl_WideSqrt a0).opt:=by kernel_rfl
def F_impl_WideSqrt:Wide->T2 U64 Bool:=fun a0=>(t_impl_WideSqrt a0).get
def G_impl_WideSqrt:Wide->Bool:=fun a0=>(t_impl_WideSqrt a0).opt.isSome
def E_impl_WideSqrt:Ent Tryz.prog:= .of1 Tb293 B293 G_impl_WideSqrt F_impl_WideSqrt fun a0 h=>(r_impl_WideSqrt a0).trans (Tr.get_some h)
def B307:Bod Tryz.prog:=⟨307,Tryz.f307,Tryz.f307.body.getD .skip,Tryz.func307,by kernel_rfl,by kernel_rfl,zK.no _ _⟩
def Tb307:Tb Tryz.prog:= {T:= [Y2,Y153],mix:=mix,Es:= [E_impl_WideMul,E_impl_WideSqrt],Bs:= [],d:=1}
def zeO (a0:I64) (a1:I64):Tr (T2 I64 Bool):=
 .br (decide (a0.val<0)) (.leaf ⟨⟨0,rfl⟩,false⟩) (.br (decide (a1.val<0)) (.leaf ⟨⟨0,rfl⟩,false⟩) (let c1:=zce a0 a1;.br (G_impl_WideSqrt c1) (let c2:=F_impl_WideSqrt c1;.leaf ⟨(Rng.w .i64 (c2.a.val)),c2.b⟩) (.bad)))
theorem r_impl_SqrtFloor (a0:I64) (a1:I64):Tb307.run B307 [enc a0,enc a1] (T2 I64 Bool)=(zeO a0 a1).opt:=by kernel_rfl
def zdY:I64->I64->T2 I64 Bool:=fun a0 a1=>(zeO a0 a1).get
def G_impl_SqrtFloor:I64->I64->Bool:=fun a0 a1=>(zeO a0 a1).opt.isSome
def E_impl_SqrtFloor:Ent Tryz.prog:= .of2 Tb307 B307 G_impl_SqrtFloor zdY fun a0 a1 h=>(r_impl_SqrtFloor a0 a1).trans (Tr.get_some h)
def B217:Bod Tryz.prog:=⟨217,Tryz.f217,Tryz.f217.body.getD .skip,Tryz.func217,by kernel_rfl,by kernel_rfl,zK.no _ _⟩
def Tb217:Tb Tryz.prog:= {T:= [],mix:=mix,Es:= [zdR,E_impl_fixed,E_impl_SqrtFloor],Bs:= [],d:=1}
def zfI (a0:I64):Tr (T2 I64 Bool):=
 .br (!(zaQ a0)) (.leaf ⟨⟨0,rfl⟩,false⟩) (.br (G_impl_SqrtFloor a0 ⟨4294967296,rfl⟩) (let c2:=zdY a0 ⟨4294967296,rfl⟩;let c3:=zcS c2.a c2.b;.leaf ⟨c3.a,c3.b⟩) (.bad))
theorem r_impl_SqrtDown (a0:I64):Tb217.run B217 [enc a0] (T2 I64 Bool)=(zfI a0).opt:=by kernel_rfl
def zfT:I64->T2 I64 Bool:=fun a0=>(zfI a0).get
def G_impl_SqrtDown:I64->Bool:=fun a0=>(zfI a0).opt.isSome
def E_impl_SqrtDown:Ent Tryz.prog:= .of1 Tb217 B217 G_impl_SqrtDown zfT fun a0 h=>(r_impl_SqrtDown a0).trans (Tr.get_some h)
def B218:Bod Tryz.prog:=⟨218,Tryz.f218,Tryz.f218.body.getD .skip,Tryz.func218,by kernel_rfl,by kernel_rfl,zK.no _ _⟩
def Tb218:Tb Tryz.prog:= {T:= [Y2,Y153,Y171],mix:=mix,Es:= [E_impl_SqrtDown,E_impl_WideMul,E_impl_fixed],Bs:= [],d:=1}
def t_impl_SqrtUp (a0:I64):Tr (T2 I64 Bool):=
 .br (G_impl_SqrtDown a0) (let c1:=zfT a0;.br c1.b (let c2:=zce c1.a c1.a;let c3:=zce a0 ⟨4294967296,rfl⟩;.br (!((c2.hi.val==c3.hi.val)&&((c2.lo.val==c3.lo.val)&&true))) (let c6:=zcS (Rng.w .i64 (c1.a.val+1)) c1.b;.leaf ⟨c6.a,c6.b⟩) (let c7:=zcS c1.a c1.b;.leaf ⟨c7.a,c7.b⟩)) (let c8:=zcS c1.a c1.b;.leaf ⟨c8.a,c8.b⟩)) (.bad)
theorem r_impl_SqrtUp (a0:I64):Tb218.run B218 [enc a0] (T2 I64 Bool)=(t_impl_SqrtUp a0).opt:=by kernel_rfl
def F_impl_SqrtUp:I64->T2 I64 Bool:=fun a0=>(t_impl_SqrtUp a0).get
def G_impl_SqrtUp:I64->Bool:=fun a0=>(t_impl_SqrtUp a0).opt.isSome
def E_impl_SqrtUp:Ent Tryz.prog:= .of1 Tb218 B218 G_impl_SqrtUp F_impl_SqrtUp fun a0 h=>(r_impl_SqrtUp a0).trans (Tr.get_some h)
def B117:Bod Tryz.prog:=⟨117,Tryz.f117,Tryz.f117.body.getD .skip,Tryz.func117,by kernel_rfl,by kernel_rfl,zK.no _ _⟩
def Tb117:Tb Tryz.prog:= {T:= [Y2,Y30],mix:=mix,Es:= [zaW,zaa,zbm,E_impl_SqrtDown,E_impl_SqrtUp],Bs:= [],d:=1}
def t_impl_SqrtI (a0:Iv):Tr (Iv):=
 .br (zX a0) (.leaf zq) (.br (decide (a0.lo.val<0)) (.leaf zq) (.br (G_impl_SqrtDown a0.lo) (let c4:=zfT a0.lo;.br (G_impl_SqrtUp a0.hi) (let c5:=F_impl_SqrtUp a0.hi;.br c4.b (.leaf (zaE c4.a c5.a c5.b)) (.leaf (zaE c4.a c5.a false))) (.bad)) (.bad)))
theorem r_impl_SqrtI (a0:Iv):Tb117.run B117 [enc a0] (Iv)=(t_impl_SqrtI a0).opt:=by kernel_rfl
def zei:Iv->Iv:=fun a0=>(t_impl_SqrtI a0).get
end
end Go.Proofs.YtkenfaengphiiaaGreat.Ev
namespace Go.Proofs.YtkenfaengphiiaaGreat.Ev
open Go
theorem or_zero (x:U64):(Rng.w .u64 (zbJ .or .u64 x.val 0)).val=x.val:=by
 have b:=x.ubd
 rw [or_add 0 x.val.toNat (by simp;omega) (by omega) (by decide) (by omega)]
 rw [wu (by omega) (by omega)];omega
theorem shift_ok (w:Wide) (n:I64) (h:0<=n.val/\n.val<=127):(t_impl_WideShift w n).opt=some (zdN w n):=by
 have hw:zan n ⟨0,rfl⟩ ⟨127,rfl⟩=true:=by rw [zb0];simpa using h
 have en:(Rng.w .u64 n.val).val=n.val:=wu (by omega) (by omega)
 simp only [t_impl_WideShift,Tr.opt,hw,Bool.not_true,cond_false,zdN,t_spec_l02Shift,Tr.get,en]
 by_cases h64:n.val>=64
 ·have e0:(n.val==0)=false:=by simp;omega
  have e1:decide (n.val<64)=false:=by simp;omega
  have e2:(Rng.w .i64 (n.val-64)).val=n.val-64:=wi (by omega) (by omega)
  have e3:decide ((Rng.w .i64 (n.val-64)).val<0)=false:=by rw [e2];simp;omega
  have e4:(Rng.w .u64 (Rng.w .i64 (n.val-64)).val).val=(Rng.w .i64 (n.val-64)).val:=by rw [e2];exact wu (by omega) (by omega)
  simp only [h64,decide_true,cond_true,e0,e1,e3,cond_false,e4]
 ·have e1:decide (n.val<64)=true:=by simp;omega
  have e2:decide (n.val<0)=false:=by simp;omega
  have e3:(Rng.w .i64 (64-n.val)).val=64-n.val:=wi (by omega) (by omega)
  have e4:decide ((Rng.w .i64 (64-n.val)).val<0)=false:=by rw [e3];simp;omega
  have e5:(Rng.w .u64 (Rng.w .i64 (64-n.val)).val).val=(Rng.w .i64 (64-n.val)).val:=by rw [e3];exact wu (by omega) (by omega)
  simp only [h64,decide_false,cond_false,e1,e2,e4,e5,cond_true]
  by_cases h0:n.val=0
  ·have e0:(n.val==0)=true:=by simp [h0]
   simp only [e0,cond_true]
   rw [h0]
   congr 1
   apply wide_ext
   have bl:=w.lo.ubd
   have k1:min (Int.toNat 0) 64=0:=by rfl
   have k2:min (Rng.w .i64 (64-0)).val.toNat 64=64:=by rfl
   have k3:(2:Int)^64=18446744073709551616:=by decide
   have k4:(Rng.w .u64 (w.lo.val.fdiv (2^0)))=w.lo:=by rw [show (2:Int)^0=1 by rfl,Int.fdiv_one];exact Rng.w_val _
   have k5:(Rng.w .u64 ((Rng.w .u64 w.hi.val).val*18446744073709551616)).val=0:=by rw [zbn];omega
   have k6:Rng.w .i64 (w.hi.val.fdiv (2^0))=w.hi:=by rw [show (2:Int)^0=1 by rfl,Int.fdiv_one];exact Rng.w_val _
   simp only [k1,k2,k3,k4,k5,k6,wv,or_zero]
  ·have e0:(n.val==0)=false:=by simp [h0]
   simp only [e0,cond_false]
theorem shift_F (w:Wide) (n:I64) (h:0<=n.val/\n.val<=127):F_impl_WideShift w n=zdN w n:=Tr.zae (shift_ok w n h)
theorem shift_G (w:Wide) (n:I64) (h:0<=n.val/\n.val<=127):G_impl_WideShift w n=true:=by unfold G_impl_WideShift;rw [shift_ok w n h];rfl
theorem mulfloor_ok (a b n:I64):(zfJ a b n).opt=some (zav a b n):=by
 simp only [zfJ,Tr.opt,zav,t_spec_MulFloor,Tr.get,zb0,zft,mul_impl,mul_spec,int_impl,int_spec]
 by_cases h:0<=n.val/\n.val<=126
 ·have h':0<=n.val/\n.val<=127:=by omega
  simp only [h,and_self,decide_true,Bool.not_true,cond_false,shift_F _ _ h',shift_G _ _ h',cond_true]
 ·simp only [h,decide_false,Bool.not_false,cond_true]
theorem mulfloor_F (a b n:I64):zb7 a b n=zav a b n:=Tr.zae (mulfloor_ok a b n)
theorem mulfloor_G (a b n:I64):G_impl_MulFloor a b n=true:=by unfold G_impl_MulFloor;rw [mulfloor_ok];rfl
theorem okfix_eq (a:I64):zaQ a=zD a:=by
 simp only [zaQ,t_impl_ValidFix,zD,zeZ,Tr.get,zb0,zft]
theorem muldown_ok (a b:I64):(t_impl_MulDown a b).opt=some (zO a b):=by
 simp only [t_impl_MulDown,Tr.opt,zO,zcL,Tr.get,okfix_eq,mulfloor_F,mulfloor_G,end_eq,cond_true]
 cases zD a<;>cases zD b<;>rfl
theorem muldown_F (a b:I64):zej a b=zO a b:=Tr.zae (muldown_ok a b)
theorem muldown_G (a b:I64):zdE a b=true:=by unfold zdE;rw [muldown_ok];rfl
theorem end_cases (a:I64) (b:Bool):zaG a b=⟨⟨0,rfl⟩,false⟩\/(zaG a b=⟨a,true⟩/\zD a=true):=by
 simp only [zaG,zdy,Tr.get]
 cases b
 ·left;rfl
 ·cases h:zD a
  ·left;rfl
  ·right;exact ⟨rfl,rfl⟩
theorem muldown_cases (a b:I64):zO a b=⟨⟨0,rfl⟩,false⟩\/∃c,zO a b=⟨c,true⟩/\zD c=true:=by
 simp only [zO,zcL,Tr.get]
 cases zD a
 ·left;rfl
 ·cases zD b
  ·left;rfl
  ·simp only [Bool.not_true,cond_false]
   rcases end_cases (zav a b ⟨32,rfl⟩).a (zav a b ⟨32,rfl⟩).b with h|⟨h,k⟩
   ·left;rw [h]
   ·right;exact ⟨_,h,k⟩
theorem muldown_bad (a b:I64) (h:zD b=false):zO a b=⟨⟨0,rfl⟩,false⟩:=by
 simp only [zO,zcL,Tr.get,h]
 cases zD a<;>rfl
theorem mulup_ok (a b:I64):(t_impl_MulUp a b).opt=some (zaf a b):=by
 simp only [t_impl_MulUp,Tr.opt,zaf,zey,Tr.get,okfix_eq,muldown_F,muldown_G,cond_true]
 cases zD a
 ·rfl
 ·simp only [Bool.not_true,cond_false]
  cases hb:zD b
  ·rw [muldown_bad _ _ hb];rfl
  ·simp only [Bool.not_true,cond_false]
   rcases muldown_cases (.w .i64 (0-a.val)) b with h|⟨c,h,_⟩<;>rw [h]<;>rfl
theorem mulup_F (a b:I64):F_impl_MulUp a b=zaf a b:=Tr.zae (mulup_ok a b)
theorem mulup_G (a b:I64):G_impl_MulUp a b=true:=by unfold G_impl_MulUp;rw [mulup_ok];rfl
theorem divdown_F (a b:I64):zdG a b=zP a b:=by
 simp only [zdG,t_impl_DivDown,zP,zbo,Tr.get,okfix_eq,md_F_impl,md_F_spec,end_eq]
 cases zD a
 ·rfl
 ·cases zD b
  ·rfl
  ·simp only [Bool.not_true,cond_false]
   by_cases h0:b.val=0
   ·have e0:(b.val==0)=true:=by simp [h0]
    have e1:decide (b.val<0)=false:=by simp [h0]
    simp only [e0,e1,cond_true,cond_false,MD]
    rw [if_neg (by omega)]
    simp only [end_no]
   ·have e0:(b.val==0)=false:=by simp [h0]
    simp only [e0,cond_false]
theorem divdown_cases (a b:I64):zP a b=⟨⟨0,rfl⟩,false⟩\/∃c,zP a b=⟨c,true⟩/\zD c=true:=by
 simp only [zP,zbo,Tr.get,md_F_spec]
 cases zD a
 ·left;rfl
 ·cases zD b
  ·left;rfl
  ·simp only [Bool.not_true,cond_false]
   cases (b.val==0)
   ·simp only [cond_false]
    cases decide (b.val<0)
    ·simp only [cond_false]
     rcases end_cases (MD a ⟨4294967296,rfl⟩ b).a (MD a ⟨4294967296,rfl⟩ b).b with h|⟨h,k⟩
     ·left;rw [h]
     ·right;exact ⟨_,h,k⟩
    ·simp only [cond_true]
     rcases end_cases (MD (.w .i64 (0-a.val)) ⟨4294967296,rfl⟩ (.w .i64 (0-b.val))).a (MD (.w .i64 (0-a.val)) ⟨4294967296,rfl⟩ (.w .i64 (0-b.val))).b with h|⟨h,k⟩
     ·left;rw [h]
     ·right;exact ⟨_,h,k⟩
   ·left;rfl
theorem divdown_bad (a b:I64) (h:zD b=false):zP a b=⟨⟨0,rfl⟩,false⟩:=by
 simp only [zP,zbo,Tr.get,h]
 cases zD a<;>rfl
theorem divup_F (a b:I64):F_impl_DivUp a b=zal a b:=by
 simp only [F_impl_DivUp,t_impl_DivUp,zal,zc0,Tr.get,okfix_eq,divdown_F]
 cases zD a
 ·rfl
 ·simp only [Bool.not_true,cond_false]
  cases hb:zD b
  ·rw [divdown_bad _ _ hb];rfl
  ·rfl
theorem min_eq (a b:I64):mn a b=zC a b:=by
 simp only [mn,zC,t_spec_l00Min,Tr.get]
 by_cases h:b.val<a.val
 ·have:decide (a.val<b.val)=false:=by simp;omega
  simp only [h,decide_true,cond_true,this,cond_false]
 ·by_cases h':a.val<b.val
  ·simp only [h,h',decide_true,decide_false,cond_true,cond_false]
  ·simp only [h,h',decide_false,cond_false];exact rext (by omega)
theorem max_eq (a b:I64):mx a b=zu a b:=by
 simp only [mx,zu,t_spec_l00Max,Tr.get]
 by_cases h:b.val>a.val
 ·have:decide (a.val>b.val)=false:=by simp;omega
  simp only [h,decide_true,cond_true,this,cond_false]
 ·by_cases h':a.val>b.val
  ·simp only [h,h',decide_true,decide_false,cond_true,cond_false]
  ·simp only [h,h',decide_false,cond_false];exact rext (by omega)
theorem ok_bd {a:I64} (h:zD a=true): -1152921504606846976<=a.val/\a.val<=1152921504606846976:=by
 simpa [zD,zeZ,Tr.get,zft] using h
theorem min_top {a:I64} (h:zD a=true):zC ⟨1152921504606846976,rfl⟩ a=a:=by
 have:=ok_bd h
 simp only [zC,t_spec_l00Min,Tr.get]
 by_cases h:(1152921504606846976:Int)<a.val
 ·omega
 ·simp only [h,decide_false,cond_false]
theorem max_top {a:I64} (h:zD a=true):zu ⟨-1152921504606846976,rfl⟩ a=a:=by
 have:=ok_bd h
 simp only [zu,t_spec_l00Max,Tr.get]
 by_cases h:(-1152921504606846976:Int)>a.val
 ·omega
 ·simp only [h,decide_false,cond_false]
theorem min_self (a:I64):zC a a=a:=by
 simp only [zC,t_spec_l00Min,Tr.get];cases decide (a.val<a.val)<;>rfl
theorem max_self (a:I64):zu a a=a:=by
 simp only [zu,t_spec_l00Max,Tr.get];cases decide (a.val>a.val)<;>rfl
theorem areb_eq (a b:Iv):zaH a b=(za a&&za b):=by
 simp only [zaH,t_impl_areBounded,Tr.get,valid_eq]
 cases za a<;>rfl
theorem ok_neg {c:I64} (h:zD c=true):zD (.w .i64 (0-c.val))=true:=by
 have:=ok_bd h
 simp only [zD,zeZ,Tr.get,zft]
 rw [wi (by omega) (by omega)]
 simp;omega
theorem mulup_cases (a b:I64):(zaf a b).b=false\/∃c,zaf a b=⟨c,true⟩/\zD c=true:=by
 simp only [zaf,zey,Tr.get]
 cases zD a
 ·left;rfl
 ·rcases muldown_cases (.w .i64 (0-a.val)) b with h|⟨c,h,k⟩
  ·left;rw [h];rfl
  ·right;rw [h];exact ⟨_,rfl,ok_neg k⟩
theorem divup_cases (a b:I64):(zal a b).b=false\/∃c,zal a b=⟨c,true⟩/\zD c=true:=by
 simp only [zal,zc0,Tr.get]
 cases zD a
 ·left;rfl
 ·rcases divdown_cases (.w .i64 (0-a.val)) b with h|⟨c,h,k⟩
  ·left;rw [h];rfl
  ·right;rw [h];exact ⟨_,rfl,ok_neg k⟩
theorem mulI_ok (a b:Iv):(t_impl_MulI a b).opt=some (zf a b):=by
 simp only [t_impl_MulI,Tr.opt,zf,t_spec_MulI,Tr.get,areb_eq,muldown_F,muldown_G,mulup_F,mulup_G,cond_true,zaS,zcN,min_eq,max_eq]
 cases za a
 ·rfl
 cases za b
 ·rfl
 simp only [Bool.and_self,Bool.not_true,cond_false]
 rcases muldown_cases a.lo b.lo with h|⟨c1,h,k1⟩
 ·rw [h];rfl
 rw [h]
 rcases mulup_cases a.lo b.lo with h|⟨d1,h,l1⟩
 ·simp only [h,Bool.not_true,Bool.not_false,cond_true,cond_false]
 rw [h]
 rcases muldown_cases a.lo b.hi with h|⟨c2,h,k2⟩
 ·rw [h];rfl
 rw [h]
 rcases mulup_cases a.lo b.hi with h|⟨d2,h,l2⟩
 ·simp only [h,Bool.not_true,Bool.not_false,cond_true,cond_false]
 rw [h]
 rcases muldown_cases a.hi b.lo with h|⟨c3,h,k3⟩
 ·rw [h];rfl
 rw [h]
 rcases mulup_cases a.hi b.lo with h|⟨d3,h,l3⟩
 ·simp only [h,Bool.not_true,Bool.not_false,cond_true,cond_false]
 rw [h]
 rcases muldown_cases a.hi b.hi with h|⟨c4,h,k4⟩
 ·rw [h];rfl
 rw [h]
 rcases mulup_cases a.hi b.hi with h|⟨d4,h,l4⟩
 ·simp only [h,Bool.not_true,Bool.not_false,cond_true,cond_false]
 rw [h]
 simp only [Bool.not_true,cond_false,min_self,max_self,min_top k1,max_top l1]
theorem mulI_F (a b:Iv):zt a b=zf a b:=Tr.zae (mulI_ok a b)
theorem has_eq (a:Iv) (n:I64) (h:za a=true):zfp a n=za5 a n:=by
 simp only [zfp,t_impl_HasI,za5,zcZ,Tr.get,zX,zd9,valid_eq,h,Bool.not_true,cond_false,zb0,zft]
theorem divI_F (a b:Iv):zY a b=zn a b:=by
 simp only [zY,t_impl_DivI,zn,t_spec_DivI,Tr.get,areb_eq,divdown_F,divup_F,zaS,zcN,min_eq,max_eq]
 cases ha:za a
 ·rfl
 cases hb:za b
 ·rfl
 simp only [Bool.and_self,Bool.not_true,cond_false,has_eq b _ hb]
 cases za5 b ⟨0,rfl⟩
 case true=>rfl
 simp only [cond_false]
 rcases divdown_cases a.lo b.lo with h|⟨c1,h,k1⟩
 ·rw [h];rfl
 rw [h]
 rcases divup_cases a.lo b.lo with h|⟨d1,h,l1⟩
 ·simp only [h,Bool.not_true,Bool.not_false,cond_true,cond_false]
 rw [h]
 rcases divdown_cases a.lo b.hi with h|⟨c2,h,k2⟩
 ·rw [h];rfl
 rw [h]
 rcases divup_cases a.lo b.hi with h|⟨d2,h,l2⟩
 ·simp only [h,Bool.not_true,Bool.not_false,cond_true,cond_false]
 rw [h]
 rcases divdown_cases a.hi b.lo with h|⟨c3,h,k3⟩
 ·rw [h];rfl
 rw [h]
 rcases divup_cases a.hi b.lo with h|⟨d3,h,l3⟩
 ·simp only [h,Bool.not_true,Bool.not_false,cond_true,cond_false]
 rw [h]
 rcases divdown_cases a.hi b.hi with h|⟨c4,h,k4⟩
 ·rw [h];rfl
 rw [h]
 rcases divup_cases a.hi b.hi with h|⟨d4,h,l4⟩
 ·simp only [h,Bool.not_true,Bool.not_false,cond_true,cond_false]
 rw [h]
 simp only [Bool.not_true,cond_false,cond_true,min_self,max_self,min_top k1,max_top l1]
theorem sqrI_ok (a:Iv):(t_impl_SqrI a).opt=some (zao a):=by
 simp only [t_impl_SqrI,Tr.opt,zao,t_spec_SqrI,Tr.get,muldown_F,muldown_G,mulup_F,mulup_G,cond_true,zaS,zcN,zX,zd9,valid_eq]
 cases h:za a
 ·rfl
 simp only [Bool.not_true,cond_false]
 have e:zeG a=⟨(zN a).a,(zN a).b⟩:=by
  simp only [zeG,t_impl_AbsI,zN,zff,Tr.get,zX,zd9,valid_eq,h,Bool.not_true,cond_false,has_eq a _ h,max_eq,min_eq,zct,t_impl_abs]
  cases za5 a ⟨0,rfl⟩<;>rfl
 rw [e]
 cases (zO (zN a).a (zN a).a).b<;>cases (zaf (zN a).b (zN a).b).b<;>rfl
theorem sqrI_F (a:Iv):zcI a=zao a:=Tr.zae (sqrI_ok a)
theorem tt_mulfloor (a b n:I64):(zfJ a b n).opt=some (zb7 a b n):=zc6 (mulfloor_ok a b n)
theorem tt_mulI (a b:Iv):(t_impl_MulI a b).opt=some (zt a b):=zc6 (mulI_ok a b)
theorem tt_sqrI (a:Iv):(t_impl_SqrI a).opt=some (zcI a):=zc6 (sqrI_ok a)
end Go.Proofs.YtkenfaengphiiaaGreat.Ev
namespace Go.Proofs.YtkenfaengphiiaaGreat.Ev
open Go
theorem root_loop (hi:I64) (lo:U64):∀(k m:Nat) (r:U64) (i:I64),k<=64->i.val=(k:Int)-1->
  ∃q:U64,(Lf zcb (k+1+m) ⟨r,i,hi,lo⟩).opt=some ⟨q,.w .i64 (-1),hi,lo⟩/\(Lf zeq (k+1+m) ⟨r,i,hi,lo⟩).opt=some ⟨q,.w .i64 (-1),hi,lo⟩:=by
 intro k
 induction k with
 | zero=>
  intro m r i _ hi'
  have h0:decide (i.val>=0)=false:=by simp;omega
  have e:i= .w .i64 (-1):=rext (by rw [wi (by omega) (by omega)];omega)
  refine ⟨r,?_,?_⟩
  ·simp only [Lf,zcb,h0,Tr.bind,Tr.opt,cond_false,Nat.zero_add,Nat.add_comm 1 m,<- e]
  ·simp only [Lf,zeq,h0,Tr.bind,Tr.opt,cond_false,Nat.zero_add,Nat.add_comm 1 m,<- e]
 | succ k ih=>
  intro m r i hk hi'
  have h0:decide (i.val>=0)=true:=by simp;omega
  have h1:decide (i.val<0)=false:=by simp;omega
  have en:(Rng.w .u64 i.val).val=i.val:=wu (by omega) (by omega)
  have e1:(Rng.w .i64 (i.val-1)).val=(k:Int)-1:=by rw [wi (by omega) (by omega)];omega
  have hfuel:k+1+1+m=(k+1+m)+1:=by omega
  obtain ⟨q1,a1,b1⟩:=ih m (Rng.w .u64 (zbJ .or .u64 r.val (Rng.w .u64 (1*(2^min (i.val).toNat 64))).val)) (.w .i64 (i.val-1)) (by omega) e1
  obtain ⟨q2,a2,b2⟩:=ih m r (.w .i64 (i.val-1)) (by omega) e1
  rw [hfuel]
  simp only [Lf,zcb,zeq,h0,h1,en,times_spec,times_impl,Tr.bind,Tr.opt,cond_true,cond_false,a1,b1,a2,b2]
  generalize decide ((Rng.w .u64 _).val<_)=c1
  generalize ((Rng.w .u64 _).val==_)=c2
  generalize decide ((Rng.w .u64 _).val<=_)=c3
  cases c1
  ·cases c2
   ·exact ⟨q2,rfl,rfl⟩
   ·cases c3
    ·exact ⟨q2,rfl,rfl⟩
    ·exact ⟨q1,rfl,rfl⟩
  ·exact ⟨q1,rfl,rfl⟩
theorem root_ok (w:Wide):(zd8 w).opt=some (zbk w)/\(t_impl_WideSqrt w).opt=some (bif decide (w.hi.val<0) then ⟨⟨0,rfl⟩,false⟩ else ⟨zbk w,true⟩):=by
 obtain ⟨q,h1,h2⟩:=root_loop w.hi w.lo 64 1 ⟨0,rfl⟩ ⟨63,rfl⟩ (by omega) (by rfl)
 have hf:(64+1+1:Nat)=66:=rfl
 rw [hf] at h1 h2
 have g1:zeS ⟨⟨0,rfl⟩,⟨63,rfl⟩,w.hi,w.lo⟩=true:=by unfold zeS;rw [h1];rfl
 have g2:G_impl_WideSqrt_5 ⟨⟨0,rfl⟩,⟨63,rfl⟩,w.hi,w.lo⟩=true:=by unfold G_impl_WideSqrt_5;rw [h2];rfl
 have l1:L_spec_l02Root_3 ⟨⟨0,rfl⟩,⟨63,rfl⟩,w.hi,w.lo⟩=_:=Tr.zae h1
 have l2:L_impl_WideSqrt_5 ⟨⟨0,rfl⟩,⟨63,rfl⟩,w.hi,w.lo⟩=_:=Tr.zae h2
 have k1:(zd8 w).opt=some q:=by simp only [zd8,Tr.opt,g1,l1,cond_true]
 have k2:zbk w=q:=Tr.zae k1
 refine ⟨by rw [k1,k2],?_⟩
 simp only [t_impl_WideSqrt,Tr.opt,g2,l2,cond_true,k2]
 cases decide (w.hi.val<0)<;>rfl
theorem root_G (w:Wide):G_spec_l02Root w=true:=by unfold G_spec_l02Root;rw [(root_ok w).1];rfl
theorem wsqrt_G (w:Wide):G_impl_WideSqrt w=true:=by unfold G_impl_WideSqrt;rw [(root_ok w).2];rfl
theorem tt_sf_spec (a b:I64):(zeM a b).opt=some (zdX a b):=opt_self2 (by
 simp only [zeM,Tr.opt,root_G,cond_true]
 cases decide (a.val<0)<;>cases decide (b.val<0)<;>rfl)
theorem tt_sf_impl (a b:I64):(zeO a b).opt=some (zdY a b):=opt_self2 (by
 simp only [zeO,Tr.opt,wsqrt_G,cond_true]
 cases decide (a.val<0)<;>cases decide (b.val<0)<;>rfl)
theorem sf_G_spec (a b:I64):G_spec_SqrtFloor a b=true:=by unfold G_spec_SqrtFloor;rw [tt_sf_spec];rfl
theorem sf_G_impl (a b:I64):G_impl_SqrtFloor a b=true:=by unfold G_impl_SqrtFloor;rw [tt_sf_impl];rfl
theorem tt_sd_spec (a:I64):(zdS a).opt=some (zcq a):=opt_self2 (by
 simp only [zdS,Tr.opt,sf_G_spec,cond_true]
 cases zaj a ⟨0,rfl⟩ ⟨1152921504606846976,rfl⟩<;>rfl)
theorem tt_sd_impl (a:I64):(zfI a).opt=some (zfT a):=opt_self2 (by
 simp only [zfI,Tr.opt,sf_G_impl,cond_true]
 cases zaQ a<;>rfl)
theorem sd_G_spec (a:I64):ze7 a=true:=by unfold ze7;rw [tt_sd_spec];rfl
theorem sd_G_impl (a:I64):G_impl_SqrtDown a=true:=by unfold G_impl_SqrtDown;rw [tt_sd_impl];rfl
theorem cond_some {γ:Type} (c:Bool) (x y:Option γ) (hx:x.isSome=true) (hy:y.isSome=true):(bif c then x else y).isSome=true:=by cases c<;>assumption
theorem tt_su_spec (a:I64):(zcw a).opt=some (zcc a):=opt_self2 (by
 simp only [zcw,Tr.opt,sd_G_spec,cond_true]
 repeat' (first|apply cond_some|rfl))
theorem tt_su_impl (a:I64):(t_impl_SqrtUp a).opt=some (F_impl_SqrtUp a):=opt_self2 (by
 simp only [t_impl_SqrtUp,Tr.opt,sd_G_impl,cond_true]
 repeat' (first|apply cond_some|rfl))
theorem su_G_spec (a:I64):G_spec_l03SqrtUp a=true:=by unfold G_spec_l03SqrtUp;rw [tt_su_spec];rfl
theorem su_G_impl (a:I64):G_impl_SqrtUp a=true:=by unfold G_impl_SqrtUp;rw [tt_su_impl];rfl
theorem tt_sqrtI_spec (a:Iv):(t_spec_SqrtI a).opt=some (zar a):=opt_self2 (by
 simp only [t_spec_SqrtI,Tr.opt,sd_G_spec,su_G_spec,cond_true]
 repeat' (first|apply cond_some|rfl))
theorem tt_sqrtI_impl (a:Iv):(t_impl_SqrtI a).opt=some (zei a):=opt_self2 (by
 simp only [t_impl_SqrtI,Tr.opt,sd_G_impl,su_G_impl,cond_true]
 repeat' (first|apply cond_some|rfl))
end Go.Proofs.YtkenfaengphiiaaGreat.Ev
namespace Go.Proofs.YtkenfaengphiiaaGreat.Ev
open Go Go.RowKit
set_option maxRecDepth 100000
section
variable [Amb]
def ET_spec_SqrtFloor:Ent Tryz.prog:= .of2 Tb308 B308 (fun _ _=>true) zdX fun a0 a1 _=>(r_spec_SqrtFloor a0 a1).trans (tt_sf_spec a0 a1)
def ET_impl_SqrtFloor:Ent Tryz.prog:= .of2 Tb307 B307 (fun _ _=>true) zdY fun a0 a1 _=>(r_impl_SqrtFloor a0 a1).trans (tt_sf_impl a0 a1)
def ET_spec_SqrtI:Ent Tryz.prog:= .of1 Tb122 B122 (fun _=>true) zar fun a0 _=>(r_spec_SqrtI a0).trans (tt_sqrtI_spec a0)
def ET_impl_SqrtI:Ent Tryz.prog:= .of1 Tb117 B117 (fun _=>true) zei fun a0 _=>(r_impl_SqrtI a0).trans (tt_sqrtI_impl a0)
def ET_impl_MulFloor:Ent Tryz.prog:= .of3 Tb306 B306 (fun _ _ _=>true) zb7 fun a0 a1 a2 _=>(r_impl_MulFloor a0 a1 a2).trans (tt_mulfloor a0 a1 a2)
def zbG:Ent Tryz.prog:= .of2 Tb112 B112 (fun _ _=>true) zt fun a0 a1 _=>(r_impl_MulI a0 a1).trans (tt_mulI a0 a1)
def zel:Ent Tryz.prog:= .of1 Tb147 B147 (fun _=>true) zcI fun a0 _=>(r_impl_SqrI a0).trans (tt_sqrI a0)
def B103:Bod Tryz.prog:=⟨103,Tryz.f103,Tryz.f103.body.getD .skip,Tryz.func103,by kernel_rfl,by kernel_rfl,zK.no _ _⟩
def Tb103_p:Tb Tryz.prog:= {T:= [Y2,Y30],mix:=mix,Es:= [zfX],Bs:= [],d:=1}
def zeL (a0:I64):Tr (Iv):=
 .br (a0.val==0) (.leaf ⟨⟨0,rfl⟩,⟨0,rfl⟩⟩) (.br (decide (a0.val<0)) (.bad) (let c2:=zav a0 ⟨7244019458077122842,rfl⟩ ⟨30,rfl⟩;.leaf ⟨c2.a,(Rng.w .i64 (c2.a.val+1))⟩))
theorem r_spec_l05Turn_p (a0:I64):Tb103_p.run B103 [enc a0] (Iv)=(zeL a0).opt:=by kernel_rfl
def F_spec_l05Turn_p:I64->Iv:=fun a0=>(zeL a0).get
def G_spec_l05Turn_p:I64->Bool:=fun a0=>(zeL a0).opt.isSome
def E_spec_l05Turn_p:Ent Tryz.prog:= .of1 Tb103_p B103 G_spec_l05Turn_p F_spec_l05Turn_p fun a0 h=>(r_spec_l05Turn_p a0).trans (Tr.get_some h)
def Tb103:Tb Tryz.prog:= {T:= [Y2,Y30],mix:=mix,Es:= [E_spec_l05Turn_p,zfX],Bs:= [],d:=1}
def t_spec_l05Turn (a0:I64):Tr (Iv):=
 .br (a0.val==0) (.leaf ⟨⟨0,rfl⟩,⟨0,rfl⟩⟩) (.br (decide (a0.val<0)) (let c1:=(Rng.w .i64 (0-a0.val));.br (G_spec_l05Turn_p c1) (let c2:=F_spec_l05Turn_p c1;.leaf ⟨(Rng.w .i64 (0-c2.hi.val)),(Rng.w .i64 (0-c2.lo.val))⟩) (.bad)) (let c5:=zav a0 ⟨7244019458077122842,rfl⟩ ⟨30,rfl⟩;.leaf ⟨c5.a,(Rng.w .i64 (c5.a.val+1))⟩))
theorem r_spec_l05Turn (a0:I64):Tb103.run B103 [enc a0] (Iv)=(t_spec_l05Turn a0).opt:=by kernel_rfl
def zbw:I64->Iv:=fun a0=>(t_spec_l05Turn a0).get
def zcu:I64->Bool:=fun a0=>(t_spec_l05Turn a0).opt.isSome
def E_spec_l05Turn:Ent Tryz.prog:= .of1 Tb103 B103 zcu zbw fun a0 h=>(r_spec_l05Turn a0).trans (Tr.get_some h)
def B200:Bod Tryz.prog:=⟨200,Tryz.f200,Tryz.f200.body.getD .skip,Tryz.func200,by kernel_rfl,by kernel_rfl,zK.no _ _⟩
def Tb200:Tb Tryz.prog:= {T:= [Y2,Y30],mix:=mix,Es:= [zbu,E_spec_l05Turn,zcs],Bs:= [],d:=1}
def t_spec_TurnI (a0:I64):Tr (Iv):=
 .br (!(zaj a0 ⟨(-4096),rfl⟩ ⟨4096,rfl⟩)) (.leaf zaK) (.br (zcu a0) (.leaf (zbw a0)) (.bad))
theorem r_spec_TurnI (a0:I64):Tb200.run B200 [enc a0] (Iv)=(t_spec_TurnI a0).opt:=by kernel_rfl
def zW:I64->Iv:=fun a0=>(t_spec_TurnI a0).get
def B277:Bod Tryz.prog:=⟨277,Tryz.f277,Tryz.f277.body.getD .skip,Tryz.func277,by kernel_rfl,by kernel_rfl,zK.no _ _⟩
def Tb277_p:Tb Tryz.prog:= {T:= [Y2,Y30],mix:=mix,Es:= [za8,zaa,ET_impl_MulFloor],Bs:= [],d:=1}
def t_impl_TurnI_p (a0:I64):Tr (Iv):=
 .br (!(zan a0 ⟨(-4096),rfl⟩ ⟨4096,rfl⟩)) (.leaf zq) (.br (decide (a0.val<0)) (.bad) (.br (a0.val==0) (.leaf ⟨⟨0,rfl⟩,⟨0,rfl⟩⟩) (let c4:=zb7 a0 ⟨7244019458077122842,rfl⟩ ⟨30,rfl⟩;.leaf ⟨c4.a,(Rng.w .i64 (c4.a.val+1))⟩)))
theorem r_impl_TurnI_p (a0:I64):Tb277_p.run B277 [enc a0] (Iv)=(t_impl_TurnI_p a0).opt:=by kernel_rfl
def F_impl_TurnI_p:I64->Iv:=fun a0=>(t_impl_TurnI_p a0).get
def G_impl_TurnI_p:I64->Bool:=fun a0=>(t_impl_TurnI_p a0).opt.isSome
def E_impl_TurnI_p:Ent Tryz.prog:= .of1 Tb277_p B277 G_impl_TurnI_p F_impl_TurnI_p fun a0 h=>(r_impl_TurnI_p a0).trans (Tr.get_some h)
def Tb277:Tb Tryz.prog:= {T:= [Y2,Y30],mix:=mix,Es:= [za8,zaa,E_impl_NegI,E_impl_TurnI_p,ET_impl_MulFloor],Bs:= [],d:=1}
def t_impl_TurnI (a0:I64):Tr (Iv):=
 .br (!(zan a0 ⟨(-4096),rfl⟩ ⟨4096,rfl⟩)) (.leaf zq) (.br (decide (a0.val<0)) (let c3:=(Rng.w .i64 (0-a0.val));.br (G_impl_TurnI_p c3) (.leaf (zdv (F_impl_TurnI_p c3))) (.bad)) (.br (a0.val==0) (.leaf ⟨⟨0,rfl⟩,⟨0,rfl⟩⟩) (let c6:=zb7 a0 ⟨7244019458077122842,rfl⟩ ⟨30,rfl⟩;.leaf ⟨c6.a,(Rng.w .i64 (c6.a.val+1))⟩)))
theorem r_impl_TurnI (a0:I64):Tb277.run B277 [enc a0] (Iv)=(t_impl_TurnI a0).opt:=by kernel_rfl
def zaV:I64->Iv:=fun a0=>(t_impl_TurnI a0).get
def B296:Bod Tryz.prog:=⟨296,Tryz.f296,Tryz.f296.body.getD .skip,Tryz.func296,by kernel_rfl,by kernel_rfl,zK.no _ _⟩
def Tb296:Tb Tryz.prog:= {T:= [],mix:=mix,Es:= [zbu],Bs:= [],d:=1}
def t_spec_l06Angle (a0:I64):Tr (Bool):=
 .leaf (zaj a0 ⟨(-1099511627776),rfl⟩ ⟨1099511627776,rfl⟩)
theorem r_spec_l06Angle (a0:I64):Tb296.run B296 [enc a0] (Bool)=(t_spec_l06Angle a0).opt:=by kernel_rfl
def zbh:I64->Bool:=fun a0=>(t_spec_l06Angle a0).get
theorem u_spec_l06Angle (a0:I64):(t_spec_l06Angle a0).opt=some (zbh a0):=Tr.zz (by kernel_rfl)
def E_spec_l06Angle:Ent Tryz.prog:= .of1 Tb296 B296 (fun _=>true) zbh fun a0 _=>(r_spec_l06Angle a0).trans (u_spec_l06Angle a0)
def B301:Bod Tryz.prog:=⟨301,Tryz.f301,Tryz.f301.body.getD .skip,Tryz.func301,by kernel_rfl,by kernel_rfl,zK.no _ _⟩
def Tb301:Tb Tryz.prog:= {T:= [],mix:=mix,Es:= [],Bs:= [],d:=1}
def t_spec_l06Floor (a0:I64) (a1:I64):Tr (I64):=
 .br (a1.val==0) (.bad) (let c1:=(Rng.w .i64 (a0.val.tdiv a1.val));.br (a1.val==0) (.bad) (.br (decide ((Rng.w .i64 (a0.val.tmod a1.val)).val<0)) (.leaf (Rng.w .i64 (c1.val-1))) (.leaf c1)))
theorem r_spec_l06Floor (a0:I64) (a1:I64):Tb301.run B301 [enc a0,enc a1] (I64)=(t_spec_l06Floor a0 a1).opt:=by kernel_rfl
def F_spec_l06Floor:I64->I64->I64:=fun a0 a1=>(t_spec_l06Floor a0 a1).get
def G_spec_l06Floor:I64->I64->Bool:=fun a0 a1=>(t_spec_l06Floor a0 a1).opt.isSome
def E_spec_l06Floor:Ent Tryz.prog:= .of2 Tb301 B301 G_spec_l06Floor F_spec_l06Floor fun a0 a1 h=>(r_spec_l06Floor a0 a1).trans (Tr.get_some h)
def B199:Bod Tryz.prog:=⟨199,Tryz.f199,Tryz.f199.body.getD .skip,Tryz.func199,by kernel_rfl,by kernel_rfl,zK.no _ _⟩
def Tb199:Tb Tryz.prog:= {T:= [],mix:=mix,Es:= [E_spec_l06Angle,E_spec_l06Floor],Bs:= [],d:=1}
def t_spec_QuarterOf (a0:I64):Tr (I64):=
 .br (!(zbh a0)) (.leaf ⟨0,rfl⟩) (let c2:=(Rng.w .i64 (a0.val+3373259426));.br (G_spec_l06Floor c2 ⟨6746518852,rfl⟩) (.leaf (F_spec_l06Floor c2 ⟨6746518852,rfl⟩)) (.bad))
theorem r_spec_QuarterOf (a0:I64):Tb199.run B199 [enc a0] (I64)=(t_spec_QuarterOf a0).opt:=by kernel_rfl
def zau:I64->I64:=fun a0=>(t_spec_QuarterOf a0).get
def B328:Bod Tryz.prog:=⟨328,Tryz.f328,Tryz.f328.body.getD .skip,Tryz.func328,by kernel_rfl,by kernel_rfl,zK.no _ _⟩
def Tb328:Tb Tryz.prog:= {T:= [],mix:=mix,Es:= [za8],Bs:= [],d:=1}
def t_impl_isAngle (a0:I64):Tr (Bool):=
 .leaf (zan a0 ⟨(-1099511627776),rfl⟩ ⟨1099511627776,rfl⟩)
theorem r_impl_isAngle (a0:I64):Tb328.run B328 [enc a0] (Bool)=(t_impl_isAngle a0).opt:=by kernel_rfl
def zeh:I64->Bool:=fun a0=>(t_impl_isAngle a0).get
theorem u_impl_isAngle (a0:I64):(t_impl_isAngle a0).opt=some (zeh a0):=Tr.zz (by kernel_rfl)
def E_impl_isAngle:Ent Tryz.prog:= .of1 Tb328 B328 (fun _=>true) zeh fun a0 _=>(r_impl_isAngle a0).trans (u_impl_isAngle a0)
def B329:Bod Tryz.prog:=⟨329,Tryz.f329,Tryz.f329.body.getD .skip,Tryz.func329,by kernel_rfl,by kernel_rfl,zK.no _ _⟩
def Tb329:Tb Tryz.prog:= {T:= [],mix:=mix,Es:= [E_impl_isAngle],Bs:= [],d:=1}
def zeP (a0:I64):Tr (I64):=
 .br (!(zeh a0)) (.leaf ⟨0,rfl⟩) (let c3:=(Rng.w .i64 ((Rng.w .i64 (a0.val+3373259426)).val.tdiv 6746518852));.br (decide ((Rng.w .i64 (c3.val*6746518852)).val>(Rng.w .i64 (a0.val+3373259426)).val)) (.leaf (Rng.w .i64 (c3.val-1))) (.leaf c3))
theorem r_impl_QuarterOf (a0:I64):Tb329.run B329 [enc a0] (I64)=(zeP a0).opt:=by kernel_rfl
def zcf:I64->I64:=fun a0=>(zeP a0).get
theorem u_impl_QuarterOf (a0:I64):(zeP a0).opt=some (zcf a0):=Tr.zz (by kernel_rfl)
def E_impl_QuarterOf:Ent Tryz.prog:= .of1 Tb329 B329 (fun _=>true) zcf fun a0 _=>(r_impl_QuarterOf a0).trans (u_impl_QuarterOf a0)
def B98:Bod Tryz.prog:=⟨98,Tryz.f98,Tryz.f98.body.getD .skip,Tryz.func98,by kernel_rfl,by kernel_rfl,zK.no _ _⟩
def Tb98:Tb Tryz.prog:= {T:= [Y2,Y30],mix:=mix,Es:= [zS,zaA,E_spec_l00Min,E_spec_l00Max],Bs:= [],d:=1}
def zcM (a0:Iv) (a1:Iv):Tr (T2 Iv Bool):=
 .br (!(za a0)) (.br (!(za a1)) (.leaf ⟨ze,true⟩) (.br (!(za a0)) (.leaf ⟨a1,true⟩) (.br (!(za a1)) (.leaf ⟨a0,true⟩) (let c6:=zu a0.lo a1.lo;let c7:=zC a0.hi a1.hi;.br (decide (c6.val>c7.val)) (.leaf ⟨⟨⟨0,rfl⟩,⟨0,rfl⟩⟩,false⟩) (.leaf ⟨⟨c6,c7⟩,true⟩))))) (.br (!(za a0)) (.leaf ⟨a1,true⟩) (.br (!(za a1)) (.leaf ⟨a0,true⟩) (let c11:=zu a0.lo a1.lo;let c12:=zC a0.hi a1.hi;.br (decide (c11.val>c12.val)) (.leaf ⟨⟨⟨0,rfl⟩,⟨0,rfl⟩⟩,false⟩) (.leaf ⟨⟨c11,c12⟩,true⟩))))
theorem r_spec_MeetI (a0:Iv) (a1:Iv):Tb98.run B98 [enc a0,enc a1] (T2 Iv Bool)=(zcM a0 a1).opt:=by kernel_rfl
def zas:Iv->Iv->T2 Iv Bool:=fun a0 a1=>(zcM a0 a1).get
theorem u_spec_MeetI (a0:Iv) (a1:Iv):(zcM a0 a1).opt=some (zas a0 a1):=Tr.zz (by kernel_rfl)
def E_spec_MeetI:Ent Tryz.prog:= .of2 Tb98 B98 (fun _ _=>true) zas fun a0 a1 _=>(r_spec_MeetI a0 a1).trans (u_spec_MeetI a0 a1)
def B30:Bod Tryz.prog:=⟨30,Tryz.f30,Tryz.f30.body.getD .skip,Tryz.func30,by kernel_rfl,by kernel_rfl,zK.no _ _⟩
def Tb30:Tb Tryz.prog:= {T:= [Y2,Y30],mix:=mix,Es:= [E_spec_MeetI],Bs:= [],d:=1}
def t_spec_OverlapI (a0:Iv) (a1:Iv):Tr (Bool):=
 .leaf (zas a0 a1).b
theorem r_spec_OverlapI (a0:Iv) (a1:Iv):Tb30.run B30 [enc a0,enc a1] (Bool)=(t_spec_OverlapI a0 a1).opt:=by kernel_rfl
def zb4:Iv->Iv->Bool:=fun a0 a1=>(t_spec_OverlapI a0 a1).get
theorem u_spec_OverlapI (a0:Iv) (a1:Iv):(t_spec_OverlapI a0 a1).opt=some (zb4 a0 a1):=Tr.zz (by kernel_rfl)
def E_spec_OverlapI:Ent Tryz.prog:= .of2 Tb30 B30 (fun _ _=>true) zb4 fun a0 a1 _=>(r_spec_OverlapI a0 a1).trans (u_spec_OverlapI a0 a1)
def B274:Bod Tryz.prog:=⟨274,Tryz.f274,Tryz.f274.body.getD .skip,Tryz.func274,by kernel_rfl,by kernel_rfl,zK.no _ _⟩
def Tb274:Tb Tryz.prog:= {T:= [Y2,Y30],mix:=mix,Es:= [zaW,zaa],Bs:= [],d:=1}
def t_impl_MeetI (a0:Iv) (a1:Iv):Tr (T2 Iv Bool):=
 .br (zX a0) (.br (zX a1) (.leaf ⟨zq,true⟩) (.br (zX a0) (.leaf ⟨a1,true⟩) (.br (zX a1) (.leaf ⟨a0,true⟩) (.br (decide ((mx a0.lo a1.lo).val>(mn a0.hi a1.hi).val)) (.leaf ⟨⟨⟨0,rfl⟩,⟨0,rfl⟩⟩,false⟩) (.leaf ⟨⟨(mx a0.lo a1.lo),(mn a0.hi a1.hi)⟩,true⟩))))) (.br (zX a0) (.leaf ⟨a1,true⟩) (.br (zX a1) (.leaf ⟨a0,true⟩) (.br (decide ((mx a0.lo a1.lo).val>(mn a0.hi a1.hi).val)) (.leaf ⟨⟨⟨0,rfl⟩,⟨0,rfl⟩⟩,false⟩) (.leaf ⟨⟨(mx a0.lo a1.lo),(mn a0.hi a1.hi)⟩,true⟩))))
theorem r_impl_MeetI (a0:Iv) (a1:Iv):Tb274.run B274 [enc a0,enc a1] (T2 Iv Bool)=(t_impl_MeetI a0 a1).opt:=by kernel_rfl
def zcU:Iv->Iv->T2 Iv Bool:=fun a0 a1=>(t_impl_MeetI a0 a1).get
theorem u_impl_MeetI (a0:Iv) (a1:Iv):(t_impl_MeetI a0 a1).opt=some (zcU a0 a1):=Tr.zz (by kernel_rfl)
def E_impl_MeetI:Ent Tryz.prog:= .of2 Tb274 B274 (fun _ _=>true) zcU fun a0 a1 _=>(r_impl_MeetI a0 a1).trans (u_impl_MeetI a0 a1)
def B169:Bod Tryz.prog:=⟨169,Tryz.f169,Tryz.f169.body.getD .skip,Tryz.func169,by kernel_rfl,by kernel_rfl,zK.no _ _⟩
def Tb169:Tb Tryz.prog:= {T:= [Y2,Y30],mix:=mix,Es:= [E_impl_MeetI],Bs:= [],d:=1}
def t_impl_OverlapI (a0:Iv) (a1:Iv):Tr (Bool):=
 .leaf (zcU a0 a1).b
theorem r_impl_OverlapI (a0:Iv) (a1:Iv):Tb169.run B169 [enc a0,enc a1] (Bool)=(t_impl_OverlapI a0 a1).opt:=by kernel_rfl
def zdQ:Iv->Iv->Bool:=fun a0 a1=>(t_impl_OverlapI a0 a1).get
theorem u_impl_OverlapI (a0:Iv) (a1:Iv):(t_impl_OverlapI a0 a1).opt=some (zdQ a0 a1):=Tr.zz (by kernel_rfl)
def E_impl_OverlapI:Ent Tryz.prog:= .of2 Tb169 B169 (fun _ _=>true) zdQ fun a0 a1 _=>(r_impl_OverlapI a0 a1).trans (u_impl_OverlapI a0 a1)
def B353:Bod Tryz.prog:=⟨353,Tryz.f353,Tryz.f353.body.getD .skip,Tryz.func353,by kernel_rfl,by kernel_rfl,zK.no _ _⟩
def Tb353:Tb Tryz.prog:= {T:= [Y2,Y30],mix:=mix,Es:= [zaA],Bs:= [],d:=1}
def zfg (a0:Iv) (a1:Iv):Tr (Bool):=
 .br (!(za a1)) (.leaf true) (.br (za a0) (.br (decide (a1.lo.val<=a0.lo.val)) (.leaf (decide (a0.hi.val<=a1.hi.val))) (.leaf false)) (.leaf false))
theorem r_spec_InsideI (a0:Iv) (a1:Iv):Tb353.run B353 [enc a0,enc a1] (Bool)=(zfg a0 a1).opt:=by kernel_rfl
def zaC:Iv->Iv->Bool:=fun a0 a1=>(zfg a0 a1).get
theorem u_spec_InsideI (a0:Iv) (a1:Iv):(zfg a0 a1).opt=some (zaC a0 a1):=Tr.zz (by kernel_rfl)
def E_spec_InsideI:Ent Tryz.prog:= .of2 Tb353 B353 (fun _ _=>true) zaC fun a0 a1 _=>(r_spec_InsideI a0 a1).trans (u_spec_InsideI a0 a1)
def B381:Bod Tryz.prog:=⟨381,Tryz.f381,Tryz.f381.body.getD .skip,Tryz.func381,by kernel_rfl,by kernel_rfl,zK.no _ _⟩
def Tb381:Tb Tryz.prog:= {T:= [Y2,Y30],mix:=mix,Es:= [zaW],Bs:= [],d:=1}
def t_impl_InsideI (a0:Iv) (a1:Iv):Tr (Bool):=
 .br (zX a0) (.leaf (zX a1)) (.br (zX a1) (.leaf (zX a1)) (.br (decide (a1.lo.val<=a0.lo.val)) (.leaf (decide (a0.hi.val<=a1.hi.val))) (.leaf false)))
theorem r_impl_InsideI (a0:Iv) (a1:Iv):Tb381.run B381 [enc a0,enc a1] (Bool)=(t_impl_InsideI a0 a1).opt:=by kernel_rfl
def zfo:Iv->Iv->Bool:=fun a0 a1=>(t_impl_InsideI a0 a1).get
theorem u_impl_InsideI (a0:Iv) (a1:Iv):(t_impl_InsideI a0 a1).opt=some (zfo a0 a1):=Tr.zz (by kernel_rfl)
def E_impl_InsideI:Ent Tryz.prog:= .of2 Tb381 B381 (fun _ _=>true) zfo fun a0 a1 _=>(r_impl_InsideI a0 a1).trans (u_impl_InsideI a0 a1)
def B197:Bod Tryz.prog:=⟨197,Tryz.f197,Tryz.f197.body.getD .skip,Tryz.func197,by kernel_rfl,by kernel_rfl,zK.no _ _⟩
def Tb197:Tb Tryz.prog:= {T:= [Y2,Y30],mix:=mix,Es:= [zS,zaJ,zaA,E_spec_l00Min,E_spec_l00Max],Bs:= [],d:=1}
def t_spec_HullI (a0:Iv) (a1:Iv):Tr (Iv):=
 .br (!(za a0)) (.leaf ze) (.br (!(za a1)) (.leaf ze) (.leaf (zR (zC a0.lo a1.lo) (zu a0.hi a1.hi))))
theorem r_spec_HullI (a0:Iv) (a1:Iv):Tb197.run B197 [enc a0,enc a1] (Iv)=(t_spec_HullI a0 a1).opt:=by kernel_rfl
def zT:Iv->Iv->Iv:=fun a0 a1=>(t_spec_HullI a0 a1).get
theorem u_spec_HullI (a0:Iv) (a1:Iv):(t_spec_HullI a0 a1).opt=some (zT a0 a1):=Tr.zz (by kernel_rfl)
def E_spec_HullI:Ent Tryz.prog:= .of2 Tb197 B197 (fun _ _=>true) zT fun a0 a1 _=>(r_spec_HullI a0 a1).trans (u_spec_HullI a0 a1)
def B189:Bod Tryz.prog:=⟨189,Tryz.f189,Tryz.f189.body.getD .skip,Tryz.func189,by kernel_rfl,by kernel_rfl,zK.no _ _⟩
def Tb189:Tb Tryz.prog:= {T:= [Y2,Y30],mix:=mix,Es:= [za9,zaa],Bs:= [],d:=1}
def t_impl_HullI (a0:Iv) (a1:Iv):Tr (Iv):=
 .br (!(zaH a0 a1)) (.leaf zq) (.leaf ⟨(mn a0.lo a1.lo),(mx a0.hi a1.hi)⟩)
theorem r_impl_HullI (a0:Iv) (a1:Iv):Tb189.run B189 [enc a0,enc a1] (Iv)=(t_impl_HullI a0 a1).opt:=by kernel_rfl
def zay:Iv->Iv->Iv:=fun a0 a1=>(t_impl_HullI a0 a1).get
theorem u_impl_HullI (a0:Iv) (a1:Iv):(t_impl_HullI a0 a1).opt=some (zay a0 a1):=Tr.zz (by kernel_rfl)
def E_impl_HullI:Ent Tryz.prog:= .of2 Tb189 B189 (fun _ _=>true) zay fun a0 a1 _=>(r_impl_HullI a0 a1).trans (u_impl_HullI a0 a1)
def B35:Bod Tryz.prog:=⟨35,Tryz.f35,Tryz.f35.body.getD .skip,Tryz.func35,by kernel_rfl,by kernel_rfl,zK.no _ _⟩
def Tb35:Tb Tryz.prog:= {T:= [Y2,Y30],mix:=mix,Es:= [zS,zaJ,zaA],Bs:= [],d:=1}
def zc2 (a0:Iv) (a1:Iv):Tr (Iv):=
 .br (!(za a0)) (.leaf ze) (.br (!(za a1)) (.leaf ze) (.leaf (zR (Rng.w .i64 (a0.lo.val+a1.lo.val)) (Rng.w .i64 (a0.hi.val+a1.hi.val)))))
theorem r_spec_AddI (a0:Iv) (a1:Iv):Tb35.run B35 [enc a0,enc a1] (Iv)=(zc2 a0 a1).opt:=by kernel_rfl
def zk:Iv->Iv->Iv:=fun a0 a1=>(zc2 a0 a1).get
theorem u_spec_AddI (a0:Iv) (a1:Iv):(zc2 a0 a1).opt=some (zk a0 a1):=Tr.zz (by kernel_rfl)
def zcn:Ent Tryz.prog:= .of2 Tb35 B35 (fun _ _=>true) zk fun a0 a1 _=>(r_spec_AddI a0 a1).trans (u_spec_AddI a0 a1)
def B81:Bod Tryz.prog:=⟨81,Tryz.f81,Tryz.f81.body.getD .skip,Tryz.func81,by kernel_rfl,by kernel_rfl,zK.no _ _⟩
def Tb81:Tb Tryz.prog:= {T:= [Y2,Y30],mix:=mix,Es:= [za9,zaa,zbm],Bs:= [],d:=1}
def t_impl_AddI (a0:Iv) (a1:Iv):Tr (Iv):=
 .br (!(zaH a0 a1)) (.leaf zq) (.leaf (zaE (Rng.w .i64 (a0.lo.val+a1.lo.val)) (Rng.w .i64 (a0.hi.val+a1.hi.val)) true))
theorem r_impl_AddI (a0:Iv) (a1:Iv):Tb81.run B81 [enc a0,enc a1] (Iv)=(t_impl_AddI a0 a1).opt:=by kernel_rfl
def zL:Iv->Iv->Iv:=fun a0 a1=>(t_impl_AddI a0 a1).get
theorem u_impl_AddI (a0:Iv) (a1:Iv):(t_impl_AddI a0 a1).opt=some (zL a0 a1):=Tr.zz (by kernel_rfl)
def zca:Ent Tryz.prog:= .of2 Tb81 B81 (fun _ _=>true) zL fun a0 a1 _=>(r_impl_AddI a0 a1).trans (u_impl_AddI a0 a1)
def B89:Bod Tryz.prog:=⟨89,Tryz.f89,Tryz.f89.body.getD .skip,Tryz.func89,by kernel_rfl,by kernel_rfl,zK.no _ _⟩
def Tb89:Tb Tryz.prog:= {T:= [Y2,Y30],mix:=mix,Es:= [zS,zaJ,zaA],Bs:= [],d:=1}
def t_spec_SubI (a0:Iv) (a1:Iv):Tr (Iv):=
 .br (!(za a0)) (.leaf ze) (.br (!(za a1)) (.leaf ze) (.leaf (zR (Rng.w .i64 (a0.lo.val-a1.hi.val)) (Rng.w .i64 (a0.hi.val-a1.lo.val)))))
theorem r_spec_SubI (a0:Iv) (a1:Iv):Tb89.run B89 [enc a0,enc a1] (Iv)=(t_spec_SubI a0 a1).opt:=by kernel_rfl
def zF:Iv->Iv->Iv:=fun a0 a1=>(t_spec_SubI a0 a1).get
theorem u_spec_SubI (a0:Iv) (a1:Iv):(t_spec_SubI a0 a1).opt=some (zF a0 a1):=Tr.zz (by kernel_rfl)
def zbZ:Ent Tryz.prog:= .of2 Tb89 B89 (fun _ _=>true) zF fun a0 a1 _=>(r_spec_SubI a0 a1).trans (u_spec_SubI a0 a1)
def B115:Bod Tryz.prog:=⟨115,Tryz.f115,Tryz.f115.body.getD .skip,Tryz.func115,by kernel_rfl,by kernel_rfl,zK.no _ _⟩
def Tb115:Tb Tryz.prog:= {T:= [Y2,Y30],mix:=mix,Es:= [zca,E_impl_NegI],Bs:= [],d:=1}
def t_impl_SubI (a0:Iv) (a1:Iv):Tr (Iv):=
 .leaf (zL a0 (zdv a1))
theorem r_impl_SubI (a0:Iv) (a1:Iv):Tb115.run B115 [enc a0,enc a1] (Iv)=(t_impl_SubI a0 a1).opt:=by kernel_rfl
def zaq:Iv->Iv->Iv:=fun a0 a1=>(t_impl_SubI a0 a1).get
theorem u_impl_SubI (a0:Iv) (a1:Iv):(t_impl_SubI a0 a1).opt=some (zaq a0 a1):=Tr.zz (by kernel_rfl)
def zcK:Ent Tryz.prog:= .of2 Tb115 B115 (fun _ _=>true) zaq fun a0 a1 _=>(r_impl_SubI a0 a1).trans (u_impl_SubI a0 a1)
def B165:Bod Tryz.prog:=⟨165,Tryz.f165,Tryz.f165.body.getD .skip,Tryz.func165,by kernel_rfl,by kernel_rfl,zK.no _ _⟩
def Tb165:Tb Tryz.prog:= {T:= [Y2,Y30],mix:=mix,Es:= [],Bs:= [],d:=1}
def t_spec_l06Ring:Tr (Iv):=
 .leaf ⟨⟨(-4294967296),rfl⟩,⟨4294967296,rfl⟩⟩
theorem r_spec_l06Ring:Tb165.run B165 [] (Iv)=(t_spec_l06Ring).opt:=by kernel_rfl
def zw:Iv:=(t_spec_l06Ring).get
theorem u_spec_l06Ring:(t_spec_l06Ring).opt=some (zw):=Tr.zz (by kernel_rfl)
def E_spec_l06Ring:Ent Tryz.prog:= .of0 Tb165 B165 zw (r_spec_l06Ring.trans u_spec_l06Ring)
def B17:Bod Tryz.prog:=⟨17,Tryz.f17,Tryz.f17.body.getD .skip,Tryz.func17,by kernel_rfl,by kernel_rfl,zK.no _ _⟩
def Tb17:Tb Tryz.prog:= {T:= [Y2,Y30],mix:=mix,Es:= [zbu,zS,zaJ],Bs:= [],d:=1}
def t_spec_Integer (a0:I64):Tr (Iv):=
 .br (!(zaj a0 ⟨(-268435455),rfl⟩ ⟨268435455,rfl⟩)) (.leaf ze) (.leaf (zR (Rng.w .i64 (a0.val*4294967296)) (Rng.w .i64 (a0.val*4294967296))))
theorem r_spec_Integer (a0:I64):Tb17.run B17 [enc a0] (Iv)=(t_spec_Integer a0).opt:=by kernel_rfl
def zb:I64->Iv:=fun a0=>(t_spec_Integer a0).get
theorem u_spec_Integer (a0:I64):(t_spec_Integer a0).opt=some (zb a0):=Tr.zz (by kernel_rfl)
def zbl:Ent Tryz.prog:= .of1 Tb17 B17 (fun _=>true) zb fun a0 _=>(r_spec_Integer a0).trans (u_spec_Integer a0)
def B354:Bod Tryz.prog:=⟨354,Tryz.f354,Tryz.f354.body.getD .skip,Tryz.func354,by kernel_rfl,by kernel_rfl,zK.no _ _⟩
def Tb354:Tb Tryz.prog:= {T:= [Y2,Y30],mix:=mix,Es:= [zbl,zcJ,zbZ,zb8],Bs:= [],d:=1}
def zdk (a0:Iv) (a1:I64):Tr (Iv):=
 let c2:=(Rng.w .i64 (16+a1.val));let c10:=(Rng.w .i64 (14+a1.val));let c18:=(Rng.w .i64 (12+a1.val));let c26:=(Rng.w .i64 (10+a1.val));let c34:=(Rng.w .i64 (8+a1.val));let c42:=(Rng.w .i64 (6+a1.val));let c50:=(Rng.w .i64 (4+a1.val));let c58:=(Rng.w .i64 (2+a1.val));.leaf (zF (zb ⟨1,rfl⟩) (zf (zn a0 (zb (Rng.w .i64 (c58.val*(Rng.w .i64 (c58.val+1)).val)))) (zF (zb ⟨1,rfl⟩) (zf (zn a0 (zb (Rng.w .i64 (c50.val*(Rng.w .i64 (c50.val+1)).val)))) (zF (zb ⟨1,rfl⟩) (zf (zn a0 (zb (Rng.w .i64 (c42.val*(Rng.w .i64 (c42.val+1)).val)))) (zF (zb ⟨1,rfl⟩) (zf (zn a0 (zb (Rng.w .i64 (c34.val*(Rng.w .i64 (c34.val+1)).val)))) (zF (zb ⟨1,rfl⟩) (zf (zn a0 (zb (Rng.w .i64 (c26.val*(Rng.w .i64 (c26.val+1)).val)))) (zF (zb ⟨1,rfl⟩) (zf (zn a0 (zb (Rng.w .i64 (c18.val*(Rng.w .i64 (c18.val+1)).val)))) (zF (zb ⟨1,rfl⟩) (zf (zn a0 (zb (Rng.w .i64 (c10.val*(Rng.w .i64 (c10.val+1)).val)))) (zF (zb ⟨1,rfl⟩) (zf (zn a0 (zb (Rng.w .i64 (c2.val*(Rng.w .i64 (c2.val+1)).val)))) (zb ⟨1,rfl⟩)))))))))))))))))
theorem r_spec_l06Series (a0:Iv) (a1:I64):Tb354.run B354 [enc a0,enc a1] (Iv)=(zdk a0 a1).opt:=by kernel_rfl
def zaP:Iv->I64->Iv:=fun a0 a1=>(zdk a0 a1).get
theorem u_spec_l06Series (a0:Iv) (a1:I64):(zdk a0 a1).opt=some (zaP a0 a1):=Tr.zz (by kernel_rfl)
def E_spec_l06Series:Ent Tryz.prog:= .of2 Tb354 B354 (fun _ _=>true) zaP fun a0 a1 _=>(r_spec_l06Series a0 a1).trans (u_spec_l06Series a0 a1)
def B355:Bod Tryz.prog:=⟨355,Tryz.f355,Tryz.f355.body.getD .skip,Tryz.func355,by kernel_rfl,by kernel_rfl,zK.no _ _⟩
def Tb355:Tb Tryz.prog:= {T:= [Y2,Y30],mix:=mix,Es:= [],Bs:= [],d:=1}
def t_spec_l06Tiny:Tr (Iv):=
 .leaf ⟨⟨(-1),rfl⟩,⟨1,rfl⟩⟩
theorem r_spec_l06Tiny:Tb355.run B355 [] (Iv)=(t_spec_l06Tiny).opt:=by kernel_rfl
def zbv:Iv:=(t_spec_l06Tiny).get
theorem u_spec_l06Tiny:(t_spec_l06Tiny).opt=some (zbv):=Tr.zz (by kernel_rfl)
def E_spec_l06Tiny:Ent Tryz.prog:= .of0 Tb355 B355 zbv (r_spec_l06Tiny.trans u_spec_l06Tiny)
def B299:Bod Tryz.prog:=⟨299,Tryz.f299,Tryz.f299.body.getD .skip,Tryz.func299,by kernel_rfl,by kernel_rfl,zK.no _ _⟩
def Tb299:Tb Tryz.prog:= {T:= [Y2,Y30],mix:=mix,Es:= [zcJ,zcn,zeH,zcs,E_spec_l06Ring,E_spec_InsideI,E_spec_l06Series,E_spec_l06Tiny],Bs:= [],d:=1}
def zdU (a0:Iv):Tr (Iv):=
 .br (!(zaC a0 zw)) (.leaf zaK) (.leaf (zk (zf a0 (zaP (zao a0) ⟨0,rfl⟩)) zbv))
theorem r_spec_SinSeries (a0:Iv):Tb299.run B299 [enc a0] (Iv)=(zdU a0).opt:=by kernel_rfl
def zaz:Iv->Iv:=fun a0=>(zdU a0).get
theorem u_spec_SinSeries (a0:Iv):(zdU a0).opt=some (zaz a0):=Tr.zz (by kernel_rfl)
def E_spec_SinSeries:Ent Tryz.prog:= .of1 Tb299 B299 (fun _=>true) zaz fun a0 _=>(r_spec_SinSeries a0).trans (u_spec_SinSeries a0)
def B300:Bod Tryz.prog:=⟨300,Tryz.f300,Tryz.f300.body.getD .skip,Tryz.func300,by kernel_rfl,by kernel_rfl,zK.no _ _⟩
def Tb300:Tb Tryz.prog:= {T:= [Y2,Y30],mix:=mix,Es:= [zcn,zeH,zcs,E_spec_l06Ring,E_spec_InsideI,E_spec_l06Series,E_spec_l06Tiny],Bs:= [],d:=1}
def zdV (a0:Iv):Tr (Iv):=
 .br (!(zaC a0 zw)) (.leaf zaK) (.leaf (zk (zaP (zao a0) ⟨(-1),rfl⟩) zbv))
theorem r_spec_CosSeries (a0:Iv):Tb300.run B300 [enc a0] (Iv)=(zdV a0).opt:=by kernel_rfl
def zaD:Iv->Iv:=fun a0=>(zdV a0).get
theorem u_spec_CosSeries (a0:Iv):(zdV a0).opt=some (zaD a0):=Tr.zz (by kernel_rfl)
def E_spec_CosSeries:Ent Tryz.prog:= .of1 Tb300 B300 (fun _=>true) zaD fun a0 _=>(r_spec_CosSeries a0).trans (u_spec_CosSeries a0)
def B298:Bod Tryz.prog:=⟨298,Tryz.f298,Tryz.f298.body.getD .skip,Tryz.func298,by kernel_rfl,by kernel_rfl,zK.no _ _⟩
def Tb298:Tb Tryz.prog:= {T:= [Y2,Y30],mix:=mix,Es:= [E_spec_MeetI,E_spec_l06Ring],Bs:= [],d:=1}
def t_spec_l06Meet (a0:Iv):Tr (Iv):=
 let c2:=zas a0 zw;.br (!c2.b) (.leaf zw) (.leaf c2.a)
theorem r_spec_l06Meet (a0:Iv):Tb298.run B298 [enc a0] (Iv)=(t_spec_l06Meet a0).opt:=by kernel_rfl
def za4:Iv->Iv:=fun a0=>(t_spec_l06Meet a0).get
theorem u_spec_l06Meet (a0:Iv):(t_spec_l06Meet a0).opt=some (za4 a0):=Tr.zz (by kernel_rfl)
def E_spec_l06Meet:Ent Tryz.prog:= .of1 Tb298 B298 (fun _=>true) za4 fun a0 _=>(r_spec_l06Meet a0).trans (u_spec_l06Meet a0)
def B25:Bod Tryz.prog:=⟨25,Tryz.f25,Tryz.f25.body.getD .skip,Tryz.func25,by kernel_rfl,by kernel_rfl,zK.no _ _⟩
def Tb25:Tb Tryz.prog:= {T:= [Y30],mix:=mix,Es:= [zaA],Bs:= [],d:=1}
def zdZ (a0:Iv):Tr (Bool):=
 .leaf (za a0)
theorem r_spec_ValidInterval (a0:Iv):Tb25.run B25 [enc a0] (Bool)=(zdZ a0).opt:=by kernel_rfl
def zdj:Iv->Bool:=fun a0=>(zdZ a0).get
theorem u_spec_ValidInterval (a0:Iv):(zdZ a0).opt=some (zdj a0):=Tr.zz (by kernel_rfl)
def E_spec_ValidInterval:Ent Tryz.prog:= .of1 Tb25 B25 (fun _=>true) zdj fun a0 _=>(r_spec_ValidInterval a0).trans (u_spec_ValidInterval a0)
def B196:Bod Tryz.prog:=⟨196,Tryz.f196,Tryz.f196.body.getD .skip,Tryz.func196,by kernel_rfl,by kernel_rfl,zK.no _ _⟩
def Tb196:Tb Tryz.prog:= {T:= [Y2,Y30],mix:=mix,Es:= [E_spec_ValidInterval,E_spec_l06Angle],Bs:= [],d:=1}
def t_spec_l06Fits (a0:Iv):Tr (Bool):=
 .br (zdj a0) (.br (zbh a0.lo) (.leaf (zbh a0.hi)) (.leaf false)) (.leaf false)
theorem r_spec_l06Fits (a0:Iv):Tb196.run B196 [enc a0] (Bool)=(t_spec_l06Fits a0).opt:=by kernel_rfl
def zbW:Iv->Bool:=fun a0=>(t_spec_l06Fits a0).get
theorem u_spec_l06Fits (a0:Iv):(t_spec_l06Fits a0).opt=some (zbW a0):=Tr.zz (by kernel_rfl)
def E_spec_l06Fits:Ent Tryz.prog:= .of1 Tb196 B196 (fun _=>true) zbW fun a0 _=>(r_spec_l06Fits a0).trans (u_spec_l06Fits a0)
def B170:Bod Tryz.prog:=⟨170,Tryz.f170,Tryz.f170.body.getD .skip,Tryz.func170,by kernel_rfl,by kernel_rfl,zK.no _ _⟩
def Tb170:Tb Tryz.prog:= {T:= [Y2,Y30],mix:=mix,Es:= [],Bs:= [],d:=1}
def t_impl_ring:Tr (Iv):=
 .leaf ⟨⟨(-4294967296),rfl⟩,⟨4294967296,rfl⟩⟩
theorem r_impl_ring:Tb170.run B170 [] (Iv)=(t_impl_ring).opt:=by kernel_rfl
def zeF:Iv:=(t_impl_ring).get
theorem u_impl_ring:(t_impl_ring).opt=some (zeF):=Tr.zz (by kernel_rfl)
def E_impl_ring:Ent Tryz.prog:= .of0 Tb170 B170 zeF (r_impl_ring.trans u_impl_ring)
def B74:Bod Tryz.prog:=⟨74,Tryz.f74,Tryz.f74.body.getD .skip,Tryz.func74,by kernel_rfl,by kernel_rfl,zK.no _ _⟩
def Tb74:Tb Tryz.prog:= {T:= [Y2,Y30],mix:=mix,Es:= [za8,zaa,zbm],Bs:= [],d:=1}
def t_impl_Integer (a0:I64):Tr (Iv):=
 .br (!(zan a0 ⟨(-268435456),rfl⟩ ⟨268435456,rfl⟩)) (.leaf zq) (.leaf (zaE (Rng.w .i64 (a0.val*4294967296)) (Rng.w .i64 (a0.val*4294967296)) true))
theorem r_impl_Integer (a0:I64):Tb74.run B74 [enc a0] (Iv)=(t_impl_Integer a0).opt:=by kernel_rfl
def zl:I64->Iv:=fun a0=>(t_impl_Integer a0).get
theorem u_impl_Integer (a0:I64):(t_impl_Integer a0).opt=some (zl a0):=Tr.zz (by kernel_rfl)
def za7:Ent Tryz.prog:= .of1 Tb74 B74 (fun _=>true) zl fun a0 _=>(r_impl_Integer a0).trans (u_impl_Integer a0)
def B382:Bod Tryz.prog:=⟨382,Tryz.f382,Tryz.f382.body.getD .skip,Tryz.func382,by kernel_rfl,by kernel_rfl,zK.no _ _⟩
def Tb382:Tb Tryz.prog:= {T:= [Y2,Y30],mix:=mix,Es:= [za7,zbG,zcK,zb9],Bs:= [],d:=1}
def t_impl_series (a0:Iv) (a1:I64):Tr (Iv):=
 let c2:=(Rng.w .i64 (a1.val+14));let c10:=(Rng.w .i64 (a1.val+12));let c18:=(Rng.w .i64 (a1.val+10));let c26:=(Rng.w .i64 (a1.val+8));let c34:=(Rng.w .i64 (a1.val+6));let c42:=(Rng.w .i64 (a1.val+4));let c50:=(Rng.w .i64 (a1.val+2));let c58:=(Rng.w .i64 (a1.val+0));.leaf (zaq (zl ⟨1,rfl⟩) (zt (zY a0 (zl (Rng.w .i64 (c58.val*(Rng.w .i64 (c58.val+1)).val)))) (zaq (zl ⟨1,rfl⟩) (zt (zY a0 (zl (Rng.w .i64 (c50.val*(Rng.w .i64 (c50.val+1)).val)))) (zaq (zl ⟨1,rfl⟩) (zt (zY a0 (zl (Rng.w .i64 (c42.val*(Rng.w .i64 (c42.val+1)).val)))) (zaq (zl ⟨1,rfl⟩) (zt (zY a0 (zl (Rng.w .i64 (c34.val*(Rng.w .i64 (c34.val+1)).val)))) (zaq (zl ⟨1,rfl⟩) (zt (zY a0 (zl (Rng.w .i64 (c26.val*(Rng.w .i64 (c26.val+1)).val)))) (zaq (zl ⟨1,rfl⟩) (zt (zY a0 (zl (Rng.w .i64 (c18.val*(Rng.w .i64 (c18.val+1)).val)))) (zaq (zl ⟨1,rfl⟩) (zt (zY a0 (zl (Rng.w .i64 (c10.val*(Rng.w .i64 (c10.val+1)).val)))) (zaq (zl ⟨1,rfl⟩) (zt (zY a0 (zl (Rng.w .i64 (c2.val*(Rng.w .i64 (c2.val+1)).val)))) (zl ⟨1,rfl⟩)))))))))))))))))
theorem r_impl_series (a0:Iv) (a1:I64):Tb382.run B382 [enc a0,enc a1] (Iv)=(t_impl_series a0 a1).opt:=by kernel_rfl
def F_impl_series:Iv->I64->Iv:=fun a0 a1=>(t_impl_series a0 a1).get
theorem u_impl_series (a0:Iv) (a1:I64):(t_impl_series a0 a1).opt=some (F_impl_series a0 a1):=Tr.zz (by kernel_rfl)
def E_impl_series:Ent Tryz.prog:= .of2 Tb382 B382 (fun _ _=>true) F_impl_series fun a0 a1 _=>(r_impl_series a0 a1).trans (u_impl_series a0 a1)
def B383:Bod Tryz.prog:=⟨383,Tryz.f383,Tryz.f383.body.getD .skip,Tryz.func383,by kernel_rfl,by kernel_rfl,zK.no _ _⟩
def Tb383:Tb Tryz.prog:= {T:= [Y2,Y30],mix:=mix,Es:= [],Bs:= [],d:=1}
def t_impl_tiny:Tr (Iv):=
 .leaf ⟨⟨(-1),rfl⟩,⟨1,rfl⟩⟩
theorem r_impl_tiny:Tb383.run B383 [] (Iv)=(t_impl_tiny).opt:=by kernel_rfl
def F_impl_tiny:Iv:=(t_impl_tiny).get
theorem u_impl_tiny:(t_impl_tiny).opt=some (F_impl_tiny):=Tr.zz (by kernel_rfl)
def E_impl_tiny:Ent Tryz.prog:= .of0 Tb383 B383 F_impl_tiny (r_impl_tiny.trans u_impl_tiny)
def B358:Bod Tryz.prog:=⟨358,Tryz.f358,Tryz.f358.body.getD .skip,Tryz.func358,by kernel_rfl,by kernel_rfl,zK.no _ _⟩
def Tb358:Tb Tryz.prog:= {T:= [Y2,Y30],mix:=mix,Es:= [zca,zbG,zel,E_impl_ring,zaa,E_impl_InsideI,E_impl_series,E_impl_tiny],Bs:= [],d:=1}
def t_impl_SinSeries (a0:Iv):Tr (Iv):=
 .br (!(zfo a0 zeF)) (.leaf zq) (.leaf (zL (zt a0 (F_impl_series (zcI a0) ⟨2,rfl⟩)) F_impl_tiny))
theorem r_impl_SinSeries (a0:Iv):Tb358.run B358 [enc a0] (Iv)=(t_impl_SinSeries a0).opt:=by kernel_rfl
def zeV:Iv->Iv:=fun a0=>(t_impl_SinSeries a0).get
theorem u_impl_SinSeries (a0:Iv):(t_impl_SinSeries a0).opt=some (zeV a0):=Tr.zz (by kernel_rfl)
def E_impl_SinSeries:Ent Tryz.prog:= .of1 Tb358 B358 (fun _=>true) zeV fun a0 _=>(r_impl_SinSeries a0).trans (u_impl_SinSeries a0)
def B359:Bod Tryz.prog:=⟨359,Tryz.f359,Tryz.f359.body.getD .skip,Tryz.func359,by kernel_rfl,by kernel_rfl,zK.no _ _⟩
def Tb359:Tb Tryz.prog:= {T:= [Y2,Y30],mix:=mix,Es:= [zca,zel,E_impl_ring,zaa,E_impl_InsideI,E_impl_series,E_impl_tiny],Bs:= [],d:=1}
def t_impl_CosSeries (a0:Iv):Tr (Iv):=
 .br (!(zfo a0 zeF)) (.leaf zq) (.leaf (zL (F_impl_series (zcI a0) ⟨1,rfl⟩) F_impl_tiny))
theorem r_impl_CosSeries (a0:Iv):Tb359.run B359 [enc a0] (Iv)=(t_impl_CosSeries a0).opt:=by kernel_rfl
def zeX:Iv->Iv:=fun a0=>(t_impl_CosSeries a0).get
theorem u_impl_CosSeries (a0:Iv):(t_impl_CosSeries a0).opt=some (zeX a0):=Tr.zz (by kernel_rfl)
def E_impl_CosSeries:Ent Tryz.prog:= .of1 Tb359 B359 (fun _=>true) zeX fun a0 _=>(r_impl_CosSeries a0).trans (u_impl_CosSeries a0)
def B357:Bod Tryz.prog:=⟨357,Tryz.f357,Tryz.f357.body.getD .skip,Tryz.func357,by kernel_rfl,by kernel_rfl,zK.no _ _⟩
def Tb357:Tb Tryz.prog:= {T:= [Y2,Y30],mix:=mix,Es:= [E_impl_ring,E_impl_MeetI],Bs:= [],d:=1}
def t_impl_inRing (a0:Iv):Tr (Iv):=
 .leaf (zcU a0 zeF).a
theorem r_impl_inRing (a0:Iv):Tb357.run B357 [enc a0] (Iv)=(t_impl_inRing a0).opt:=by kernel_rfl
def zcB:Iv->Iv:=fun a0=>(t_impl_inRing a0).get
theorem u_impl_inRing (a0:Iv):(t_impl_inRing a0).opt=some (zcB a0):=Tr.zz (by kernel_rfl)
def E_impl_inRing:Ent Tryz.prog:= .of1 Tb357 B357 (fun _=>true) zcB fun a0 _=>(r_impl_inRing a0).trans (u_impl_inRing a0)
def B262:Bod Tryz.prog:=⟨262,Tryz.f262,Tryz.f262.body.getD .skip,Tryz.func262,by kernel_rfl,by kernel_rfl,zK.no _ _⟩
def Tb262:Tb Tryz.prog:= {T:= [Y2,Y30],mix:=mix,Es:= [zd4,E_impl_isAngle],Bs:= [],d:=1}
def t_impl_areAngles (a0:Iv):Tr (Bool):=
 .br (zby a0) (.br (zeh a0.lo) (.leaf (zeh a0.hi)) (.leaf false)) (.leaf false)
theorem r_impl_areAngles (a0:Iv):Tb262.run B262 [enc a0] (Bool)=(t_impl_areAngles a0).opt:=by kernel_rfl
def zbU:Iv->Bool:=fun a0=>(t_impl_areAngles a0).get
theorem u_impl_areAngles (a0:Iv):(t_impl_areAngles a0).opt=some (zbU a0):=Tr.zz (by kernel_rfl)
def E_impl_areAngles:Ent Tryz.prog:= .of1 Tb262 B262 (fun _=>true) zbU fun a0 _=>(r_impl_areAngles a0).trans (u_impl_areAngles a0)
end
end Go.Proofs.YtkenfaengphiiaaGreat.Ev
namespace Go.Proofs.YtkenfaengphiiaaGreat.Ev
open Go
theorem zaN (a:Iv):za a=true↔(-1152921504606846976<a.lo.val/\a.lo.val<=a.hi.val/\a.hi.val<1152921504606846976):=by
 simp only [za,t_spec_l04Ok,Tr.get]
 by_cases h1:(-1152921504606846976:Int)<a.lo.val<;>by_cases h2:a.lo.val<=a.hi.val<;>simp [h1,h2]
theorem okno (a:Iv):za a=false↔¬(-1152921504606846976<a.lo.val/\a.lo.val<=a.hi.val/\a.hi.val<1152921504606846976):=by
 rw [<- zaN];cases za a<;>simp
theorem zbI {lo hi:I64} (h: -1152921504606846976<lo.val/\lo.val<=hi.val/\hi.val<1152921504606846976):zR lo hi=⟨lo,hi⟩:=by
 have:za ⟨lo,hi⟩=true:=(zaN _).2 h
 simp only [zR,zfe,Tr.get,this,Bool.not_true,cond_false]
theorem make_no {lo hi:I64} (h:¬(-1152921504606846976<lo.val/\lo.val<=hi.val/\hi.val<1152921504606846976)):zR lo hi=ze:=by
 have:za ⟨lo,hi⟩=false:=(okno _).2 h
 simp only [zR,zfe,Tr.get,this,Bool.not_false,cond_true]
theorem make_ext {a b c d:I64} (h1:a.val=c.val) (h2:b.val=d.val):zR a b=zR c d:=by rw [rext h1,rext h2]
theorem zcv:za ze=false:=by decide +kernel
theorem isw_eq (a:Iv):zX a= !(za a):=by
 simp only [zX,zd9,Tr.get,valid_eq]
theorem zc5:zaK=ze:=rfl
theorem mn_val (a b:I64):(mn a b).val=if b.val<a.val then b.val else a.val:=by unfold mn;by_cases hb:b.val<a.val<;>simp [hb]
theorem mx_val (a b:I64):(mx a b).val=if b.val>a.val then b.val else a.val:=by unfold mx;by_cases hb:b.val>a.val<;>simp [hb]
theorem add_eq (a b:Iv):zL a b=zk a b:=by
 simp only [zL,t_impl_AddI,zk,zc2,Tr.get,areb_eq,zaS,zcN,cond_true]
 cases za a<;>cases za b<;>rfl
theorem neg_ok_val {a:Iv} (h:za a=true):zaO a=⟨.w .i64 (0-a.hi.val),.w .i64 (0-a.lo.val)⟩:=by
 have:=(zaN a).1 h
 simp only [zaO,t_spec_NegI,Tr.get,h,Bool.not_true,cond_false]
 refine zbI ?_
 rw [wi (by omega) (by omega),wi (by omega) (by omega)]
 omega
theorem neg_no {a:Iv} (h:za a=false):zaO a=ze:=by
 simp only [zaO,t_spec_NegI,Tr.get,h,Bool.not_false,cond_true]
theorem neg_isok (a:Iv):za (zaO a)=za a:=by
 cases h:za a
 ·rw [neg_no h];exact zcv
 ·have:=(zaN a).1 h
  rw [neg_ok_val h]
  refine (zaN _).2 ?_
  simp only
  rw [wi (by omega) (by omega),wi (by omega) (by omega)]
  omega
theorem sub_eq (a b:Iv):zaq a b=zF a b:=by
 simp only [zaq,t_impl_SubI,Tr.get,add_eq,neg_eq,zk,zc2,zF,t_spec_SubI,neg_isok]
 cases ha:za a
 ·rfl
 cases hb:za b
 ·rfl
 have h1:=(zaN a).1 ha
 have h2:=(zaN b).1 hb
 simp only [Bool.not_true,cond_false,neg_ok_val hb]
 refine make_ext ?_ ?_
 ·rw [wi (n:=0-b.hi.val) (by omega) (by omega)];congr 1;congr 1;omega
 ·rw [wi (n:=0-b.lo.val) (by omega) (by omega)];congr 1;congr 1;omega
theorem zbH (n:I64):zl n=zb n:=by
 simp only [zl,t_impl_Integer,zb,t_spec_Integer,Tr.get,zb0,zft,zcN,zaS,cond_true]
 by_cases h: -268435455<=n.val/\n.val<=268435455
 ·have h': -268435456<=n.val/\n.val<=268435456:=by omega
  simp only [h,h',and_self,decide_true,Bool.not_true,cond_false]
 ·by_cases h': -268435456<=n.val/\n.val<=268435456
  ·simp only [h,h',and_self,decide_true,decide_false,Bool.not_true,Bool.not_false,cond_false,cond_true]
   refine make_no ?_
   rw [wi (by omega) (by omega)]
   omega
  ·simp only [h,h',decide_false,Bool.not_false,cond_true]
theorem hull_eq (a b:Iv):zay a b=zT a b:=by
 simp only [zay,t_impl_HullI,zT,t_spec_HullI,Tr.get,areb_eq,zaS]
 cases ha:za a
 ·rfl
 cases hb:za b
 ·rfl
 have h1:=(zaN a).1 ha
 have h2:=(zaN b).1 hb
 simp only [Bool.and_self,Bool.not_true,cond_false,<- min_eq,<- max_eq]
 refine (zbI ?_).symm
 rw [mn_val,mx_val]
 split<;>split<;>omega
theorem meet_eq (a b:Iv):zcU a b=zas a b:=by
 simp only [zcU,t_impl_MeetI,zas,zcM,Tr.get,isw_eq,zaS,min_eq,max_eq]
theorem overlap_eq (a b:Iv):zdQ a b=zb4 a b:=by
 simp only [zdQ,t_impl_OverlapI,zb4,t_spec_OverlapI,Tr.get,meet_eq]
theorem inside_eq (a b:Iv):zfo a b=zaC a b:=by
 simp only [zfo,t_impl_InsideI,zaC,zfg,Tr.get,isw_eq]
 cases za a<;>cases za b<;>rfl
theorem ring_eq:zeF=zw:=rfl
theorem tiny_eq:F_impl_tiny=zbv:=rfl
theorem angle_eq (n:I64):zeh n=zbh n:=by
 simp only [zeh,t_impl_isAngle,zbh,t_spec_l06Angle,Tr.get,zb0,zft]
theorem angle_iff (n:I64):zbh n=true↔(-1099511627776<=n.val/\n.val<=1099511627776):=by
 simp only [zbh,t_spec_l06Angle,Tr.get,zft,decide_eq_true_eq]
theorem fits_eq (a:Iv):zbU a=zbW a:=by
 simp only [zbU,t_impl_areAngles,zbW,t_spec_l06Fits,Tr.get,angle_eq,valid_eq]
 rfl
theorem ediv_bd1 {x d:Int} (hd:0<d) (h: -9223372036854775808<=x/\x<=9223372036854775807): -9223372036854775808<=x/d/\x/d<=9223372036854775807:=by
 have:=ediv_bd (M:=9223372036854775808) hd h.1 (by omega)
 refine ⟨this.1,?_⟩
 by_cases h0:0<=x
 ·have:=Int.ediv_le_self d h0;omega
 ·have:=Int.ediv_neg_of_neg_of_pos (a:=x) (by omega) hd;omega
theorem or_comm' (a b:Int):zbJ .or .u64 a b=zbJ .or .u64 b a:=by
 show ((BitVec.ofInt 64 a ||| BitVec.ofInt 64 b).toNat:Int)=((BitVec.ofInt 64 b ||| BitVec.ofInt 64 a).toNat:Int)
 rw [BitVec.or_comm]
theorem shift_val (w:Wide) (n:I64) (k:Nat) (hn:n.val=k) (h1:1<=k) (h2:k<=63):wv (zdN w n)=wv w/2^k:=by
 have e0:(n.val==0)=false:=by simp;omega
 have e1:decide (n.val<64)=true:=by simp;omega
 have e2:(Rng.w .u64 n.val).val=k:=by rw [wu (by omega) (by omega),hn]
 have e3:(Rng.w .u64 ((Rng.w .i64 (64-n.val)).val)).val=((64-k:Nat):Int):=by rw [wi (by omega) (by omega),wu (by omega) (by omega)];omega
 simp only [zdN,t_spec_l02Shift,Tr.get,e0,e1,cond_true,cond_false,e2,e3,Int.toNat_natCast,Nat.min_eq_left (show k<=64 by omega),Nat.min_eq_left (show 64-k<=64 by omega),fdpow]
 have bh:=w.hi.bd
 have bl:=w.lo.ubd
 have hp:(2:Int)^k*2^(64-k)=18446744073709551616:=by
  rw [<- Int.pow_add,show k+(64-k)=64 by omega];rfl
 have hp0:(0:Int)<2^k:=Int.pow_pos (by decide)
 have hq0:(0:Int)<2^(64-k):=Int.pow_pos (by decide)
 generalize hP:(2:Int)^k=P at hp hp0
 generalize hQ:(2:Int)^(64-k)=Q at hp hq0
 have l1:0<=w.lo.val/P:=Int.ediv_nonneg bl.1 (by omega)
 have l2:w.lo.val/P<Q:=by
  refine Int.ediv_lt_of_lt_mul hp0 ?_
  rw [Int.mul_comm,hp];omega
 have hhb: -9223372036854775808<=w.hi.val/P/\w.hi.val/P<=9223372036854775807:=ediv_bd1 hp0 bh
 have hQle:Q<=18446744073709551616:=by
  have:Q*1<=Q*P:=Int.mul_le_mul_of_nonneg_left (by omega) (by omega)
  rw [Int.mul_comm Q P,hp] at this;omega
 have wlo:(Rng.w .u64 (w.lo.val/P)).val=w.lo.val/P:=wu l1 (by omega)
 have whi:(Rng.w .u64 ((Rng.w .u64 w.hi.val).val*Q)).val=(w.hi.val%P)*Q:=by
  rw [zbn,zbn]
  have:(18446744073709551616:Int)=P*Q:=hp.symm
  rw [this]
  have e:w.hi.val%(P*Q)*Q%(P*Q)=w.hi.val*Q%(P*Q):=by
   rw [Int.mul_emod,Int.emod_emod_of_dvd _ (Int.dvd_refl _),<- Int.mul_emod]
  rw [e,Int.mul_comm w.hi.val Q,Int.mul_comm P Q,Int.mul_emod_mul_of_pos _ _ hq0,Int.mul_comm]
 have hm0:0<=w.hi.val%P:=Int.emod_nonneg _ (by omega)
 have hm1:w.hi.val%P<P:=Int.emod_lt_of_pos _ hp0
 have hmq:(w.hi.val%P)*Q<=(P-1)*Q:=Int.mul_le_mul_of_nonneg_right (by omega) (by omega)
 have hsum:(w.hi.val%P)*Q+w.lo.val/P<=18446744073709551615:=by
  have:(P-1)*Q=18446744073709551616-Q:=by rw [Int.sub_mul,hp,Int.one_mul]
  omega
 have hor:zbJ .or .u64 (w.lo.val/P) (w.hi.val%P*Q)=w.hi.val%P*Q+w.lo.val/P:=by
  rw [or_comm',or_add (64-k) (w.hi.val%P).toNat (by rw [hQ,Int.toNat_of_nonneg hm0,Int.mul_comm]) l1 (by rw [hQ];exact l2) hsum]
 simp only [wv]
 rw [wi hhb.1 hhb.2,wlo,whi,hor,wu (by have:=Int.mul_nonneg hm0 (show (0:Int)<=Q by omega);omega) hsum]
 have hdm:w.hi.val=P*(w.hi.val/P)+w.hi.val%P:=(Int.mul_ediv_add_emod _ _).symm
 have key:w.hi.val*18446744073709551616+w.lo.val=(w.hi.val/P*18446744073709551616+w.hi.val%P*Q)*P+w.lo.val:=by
  rw [Int.add_mul]
  have e1:w.hi.val%P*Q*P=w.hi.val%P*18446744073709551616:=by rw [Int.mul_assoc,Int.mul_comm Q P,hp]
  have e2:w.hi.val/P*18446744073709551616*P=P*(w.hi.val/P)*18446744073709551616:=by rw [Int.mul_comm _ P,Int.mul_assoc]
  rw [e1,e2,<- Int.add_mul,<- hdm]
 rw [key,Int.add_comm _ w.lo.val,Int.add_mul_ediv_right _ _ (by omega)]
 omega
theorem mf_val (a b n:I64) (k:Nat) (hn:n.val=k) (h1:1<=k) (h2:k<=63):zav a b n=narrow (a.val*b.val/2^k):=by
 have hin:zaj n ⟨0,rfl⟩ ⟨126,rfl⟩=true:=by rw [zft];simp;omega
 have hb:=mul_bd a.bd b.bd
 simp only [zav,t_spec_MulFloor,Tr.get,hin,Bool.not_true,cond_false,mul_spec,int_spec,shift_val _ n k hn h1 h2]
 rw [wv_mkW (by omega) (by omega)]
theorem mf32 (a b:I64):zav a b ⟨32,rfl⟩=narrow (a.val*b.val/4294967296):=mf_val a b _ 32 rfl (by decide) (by decide)
theorem mf30 (a b:I64):zav a b ⟨30,rfl⟩=narrow (a.val*b.val/1073741824):=mf_val a b _ 30 rfl (by decide) (by decide)
theorem mf29 (a b:I64):zav a b ⟨29,rfl⟩=narrow (a.val*b.val/536870912):=mf_val a b _ 29 rfl (by decide) (by decide)
theorem narrow_ok {v:Int} (h: -9223372036854775808<=v) (h':v<=9223372036854775807):narrow v=⟨.w .i64 v,true⟩:=by unfold narrow;rw [if_pos ⟨h,h'⟩]
theorem turn_lo {k:I64} (h:0<k.val) (h':k.val<=4096):zav k ⟨7244019458077122842,rfl⟩ ⟨30,rfl⟩=⟨.w .i64 (k.val*7244019458077122842/1073741824),true⟩ /\
  0<=k.val*7244019458077122842/1073741824/\k.val*7244019458077122842/1073741824<=27633759721874:=by
 have:0<=k.val*7244019458077122842/1073741824/\k.val*7244019458077122842/1073741824<=27633759721874:=by omega
 exact ⟨by rw [mf30];exact narrow_ok (v:=k.val*7244019458077122842/1073741824) (by omega) (by omega),this⟩
theorem turn_p (k:I64) (h:0<=k.val) (h':k.val<=4096):∃x:Iv,(zeL k).opt=some x/\(t_impl_TurnI_p k).opt=some x/\za x=true:=by
 have hw:zan k ⟨(-4096),rfl⟩ ⟨4096,rfl⟩=true:=by rw [zb0];simp;omega
 have hn:decide (k.val<0)=false:=by simp;omega
 simp only [zeL,t_impl_TurnI_p,Tr.opt,hw,hn,Bool.not_true,cond_false,mulfloor_F]
 by_cases h0:k.val=0
 ·have e0:(k.val==0)=true:=by simp [h0]
  simp only [e0,cond_true]
  exact ⟨_,rfl,rfl,by decide +kernel⟩
 ·have e0:(k.val==0)=false:=by simp [h0]
  obtain ⟨e,b1,b2⟩:=turn_lo (k:=k) (by omega) h'
  simp only [e0,cond_false,e]
  refine ⟨_,rfl,rfl,(zaN _).2 ?_⟩
  simp only
  rw [wi (n:=k.val*7244019458077122842/1073741824) (by omega) (by omega),wi (by omega) (by omega)]
  omega
theorem turn_ok (k:I64) (h: -4096<=k.val) (h':k.val<=4096):∃x:Iv,(t_spec_l05Turn k).opt=some x/\(t_impl_TurnI k).opt=some x/\za x=true:=by
 have hw:zan k ⟨(-4096),rfl⟩ ⟨4096,rfl⟩=true:=by rw [zb0];simp;omega
 by_cases hn:k.val<0
 ·have e1:(Rng.w .i64 (0-k.val)).val=0-k.val:=wi (by omega) (by omega)
  obtain ⟨x,h1,h2,h3⟩:=turn_p (.w .i64 (0-k.val)) (by omega) (by omega)
  have g1:G_spec_l05Turn_p (.w .i64 (0-k.val))=true:=by unfold G_spec_l05Turn_p;rw [h1];rfl
  have g2:G_impl_TurnI_p (.w .i64 (0-k.val))=true:=by unfold G_impl_TurnI_p;rw [h2];rfl
  have f1:F_spec_l05Turn_p (.w .i64 (0-k.val))=x:=Tr.zae h1
  have f2:F_impl_TurnI_p (.w .i64 (0-k.val))=x:=Tr.zae h2
  have e0:(k.val==0)=false:=by simp;omega
  have hd:decide (k.val<0)=true:=by simpa using hn
  refine ⟨zaO x,?_,?_,by rw [neg_isok,h3]⟩
  ·simp only [t_spec_l05Turn,Tr.opt,e0,hd,g1,f1,cond_true,cond_false,neg_ok_val h3]
  ·simp only [t_impl_TurnI,Tr.opt,hw,hd,g2,f2,cond_true,cond_false,Bool.not_true,neg_eq]
 ·obtain ⟨x,h1,h2,h3⟩:=turn_p k (by omega) h'
  have hd:decide (k.val<0)=false:=by simpa using hn
  refine ⟨x,?_,?_,h3⟩
  ·simp only [zeL,Tr.opt,hd] at h1
   simp only [t_spec_l05Turn,Tr.opt,hd]
   exact h1
  ·simp only [t_impl_TurnI_p,Tr.opt,hd,hw] at h2
   simp only [t_impl_TurnI,Tr.opt,hd,hw]
   exact h2
theorem turnI_ok (k:I64):∃x:Iv,(t_spec_TurnI k).opt=some x/\(t_impl_TurnI k).opt=some x:=by
 by_cases h: -4096<=k.val/\k.val<=4096
 ·obtain ⟨x,h1,h2,h3⟩:=turn_ok k h.1 h.2
  have hi:zaj k ⟨(-4096),rfl⟩ ⟨4096,rfl⟩=true:=by rw [zft];simpa using h
  have g:zcu k=true:=by unfold zcu;rw [h1];rfl
  have f:zbw k=x:=Tr.zae h1
  exact ⟨x,by simp only [t_spec_TurnI,Tr.opt,hi,g,f,Bool.not_true,cond_false,cond_true],h2⟩
 ·have hi:zaj k ⟨(-4096),rfl⟩ ⟨4096,rfl⟩=false:=by rw [zft];simpa using h
  have hw:zan k ⟨(-4096),rfl⟩ ⟨4096,rfl⟩=false:=by rw [zb0];simpa using h
  exact ⟨ze,by simp only [t_spec_TurnI,Tr.opt,hi,Bool.not_false,cond_true,zc5],by simp only [t_impl_TurnI,Tr.opt,hw,Bool.not_false,cond_true,zaS]⟩
theorem tt_turnI_spec (k:I64):(t_spec_TurnI k).opt=some (zW k):=by
 obtain ⟨x,h1,_⟩:=turnI_ok k;exact zc6 h1
theorem tt_turnI_impl (k:I64):(t_impl_TurnI k).opt=some (zaV k):=by
 obtain ⟨x,_,h1⟩:=turnI_ok k;exact zc6 h1
theorem turnI_eq (k:I64):zaV k=zW k:=by
 obtain ⟨x,h1,h2⟩:=turnI_ok k
 exact (Tr.zae h2).trans (Tr.zae h1).symm
theorem quarter_ok (n:I64):(t_spec_QuarterOf n).opt=some (zcf n):=by
 simp only [t_spec_QuarterOf,Tr.opt,zcf,zeP,Tr.get,angle_eq]
 cases ha:zbh n
 ·rfl
 have hb:=(angle_iff n).1 ha
 have e1:(Rng.w .i64 (n.val+3373259426)).val=n.val+3373259426:=wi (by omega) (by omega)
 have hs:Int.sign 6746518852=1:=rfl
 have q1:(Rng.w .i64 ((n.val+3373259426).tdiv 6746518852)).val=(n.val+3373259426).tdiv 6746518852:=by
  refine wi ?_ ?_
  ·have:=Int.tdiv_eq_ediv (a:=n.val+3373259426) (b:=6746518852);split at this<;>omega
  ·have:=Int.tdiv_eq_ediv (a:=n.val+3373259426) (b:=6746518852);split at this<;>omega
 have hm:=Int.mul_tdiv_add_tmod (n.val+3373259426) 6746518852
 have m1:(Rng.w .i64 ((n.val+3373259426).tmod 6746518852)).val=(n.val+3373259426).tmod 6746518852:=by
  refine wi ?_ ?_
  ·have:=Int.tdiv_eq_ediv (a:=n.val+3373259426) (b:=6746518852);split at this<;>omega
  ·have:=Int.tdiv_eq_ediv (a:=n.val+3373259426) (b:=6746518852);split at this<;>omega
 have q2:(Rng.w .i64 ((n.val+3373259426).tdiv 6746518852*6746518852)).val=(n.val+3373259426).tdiv 6746518852*6746518852:=by
  refine wi ?_ ?_
  ·have:=Int.tdiv_eq_ediv (a:=n.val+3373259426) (b:=6746518852);split at this<;>omega
  ·have:=Int.tdiv_eq_ediv (a:=n.val+3373259426) (b:=6746518852);split at this<;>omega
 have z:((6746518852:Int)==0)=false:=rfl
 simp only [Bool.not_true,cond_false,G_spec_l06Floor,F_spec_l06Floor,t_spec_l06Floor,Tr.opt,Tr.get,e1,q1,m1,q2,z,cond_false]
 by_cases hc:(n.val+3373259426).tmod 6746518852<0
 ·have hc':(n.val+3373259426).tdiv 6746518852*6746518852>n.val+3373259426:=by omega
  simp only [hc,hc',decide_true,cond_true,Option.isSome_some]
 ·have hc':¬(n.val+3373259426).tdiv 6746518852*6746518852>n.val+3373259426:=by omega
  simp only [hc,hc',decide_false,cond_false,cond_true,Option.isSome_some]
theorem quarter_eq (n:I64):zcf n=zau n:=(Tr.zae (quarter_ok n)).symm
theorem tt_quarter_spec (n:I64):(t_spec_QuarterOf n).opt=some (zau n):=zc6 (quarter_ok n)
theorem quarter_bd (n:I64): -200<=(zau n).val/\(zau n).val<=200:=by
 rw [<- quarter_eq]
 simp only [zcf,zeP,Tr.get,angle_eq]
 cases ha:zbh n
 ·simp only [Bool.not_false,cond_true];omega
 have hb:=(angle_iff n).1 ha
 have e1:(Rng.w .i64 (n.val+3373259426)).val=n.val+3373259426:=wi (by omega) (by omega)
 have hs:Int.sign 6746518852=1:=rfl
 have hq: -170<=(n.val+3373259426).tdiv 6746518852/\(n.val+3373259426).tdiv 6746518852<=170:=by
  have:=Int.tdiv_eq_ediv (a:=n.val+3373259426) (b:=6746518852);split at this<;>omega
 have q1:(Rng.w .i64 ((n.val+3373259426).tdiv 6746518852)).val=(n.val+3373259426).tdiv 6746518852:=wi (by omega) (by omega)
 simp only [Bool.not_true,cond_false,e1,q1]
 cases decide ((Rng.w .i64 ((n.val+3373259426).tdiv 6746518852*6746518852)).val>n.val+3373259426)
 ·simp only [cond_false,q1];omega
 ·simp only [cond_true];rw [wi (by omega) (by omega)];omega
end Go.Proofs.YtkenfaengphiiaaGreat.Ev
namespace Go.Proofs.YtkenfaengphiiaaGreat.Ev
open Go Go.RowKit
set_option maxRecDepth 100000
section
variable [Amb]
def ET_spec_TurnI:Ent Tryz.prog:= .of1 Tb200 B200 (fun _=>true) zW fun a0 _=>(r_spec_TurnI a0).trans (tt_turnI_spec a0)
def zd7:Ent Tryz.prog:= .of1 Tb277 B277 (fun _=>true) zaV fun a0 _=>(r_impl_TurnI a0).trans (tt_turnI_impl a0)
def ET_spec_QuarterOf:Ent Tryz.prog:= .of1 Tb199 B199 (fun _=>true) zau fun a0 _=>(r_spec_QuarterOf a0).trans (tt_quarter_spec a0)
def B297:Bod Tryz.prog:=⟨297,Tryz.f297,Tryz.f297.body.getD .skip,Tryz.func297,by kernel_rfl,by kernel_rfl,zK.no _ _⟩
def Tb297:Tb Tryz.prog:= {T:= [Y2,Y30],mix:=mix,Es:= [],Bs:= [],d:=1}
def t_spec_l05At (a0:I64):Tr (Iv):=
 .leaf ⟨a0,a0⟩
theorem r_spec_l05At (a0:I64):Tb297.run B297 [enc a0] (Iv)=(t_spec_l05At a0).opt:=by kernel_rfl
def zA:I64->Iv:=fun a0=>(t_spec_l05At a0).get
theorem u_spec_l05At (a0:I64):(t_spec_l05At a0).opt=some (zA a0):=Tr.zz (by kernel_rfl)
def E_spec_l05At:Ent Tryz.prog:= .of1 Tb297 B297 (fun _=>true) zA fun a0 _=>(r_spec_l05At a0).trans (u_spec_l05At a0)
def B198:Bod Tryz.prog:=⟨198,Tryz.f198,Tryz.f198.body.getD .skip,Tryz.func198,by kernel_rfl,by kernel_rfl,zK.no _ _⟩
def Tb198:Tb Tryz.prog:= {T:= [Y2,Y30],mix:=mix,Es:= [zbZ,E_spec_l06Ring,ET_spec_QuarterOf,ET_spec_TurnI,E_spec_NegI,E_spec_l06Angle,E_spec_l05At,E_spec_l06Meet,E_spec_SinSeries,E_spec_CosSeries],Bs:= [],d:=1}
def t_spec_l06At (a0:I64) (a1:I64):Tr (Iv):=
 .br (!(zbh a0)) (.leaf zw) (let c3:=zau a0;let c6:=zF (zA a0) (zW c3);let c8:=(Rng.w .i64 (zbJ .and .i64 (Rng.w .i64 (c3.val+a1.val)).val 3));.br (c8.val==0) (.leaf (za4 (zaz c6))) (.br (c8.val==1) (.leaf (za4 (zaD c6))) (.br (c8.val==2) (.leaf (za4 (zaO (zaz c6)))) (.leaf (za4 (zaO (zaD c6)))))))
theorem r_spec_l06At (a0:I64) (a1:I64):Tb198.run B198 [enc a0,enc a1] (Iv)=(t_spec_l06At a0 a1).opt:=by kernel_rfl
def zai:I64->I64->Iv:=fun a0 a1=>(t_spec_l06At a0 a1).get
theorem u_spec_l06At (a0:I64) (a1:I64):(t_spec_l06At a0 a1).opt=some (zai a0 a1):=Tr.zz (by kernel_rfl)
def E_spec_l06At:Ent Tryz.prog:= .of2 Tb198 B198 (fun _ _=>true) zai fun a0 a1 _=>(r_spec_l06At a0 a1).trans (u_spec_l06At a0 a1)
def B259:Bod Tryz.prog:=⟨259,Tryz.f259,Tryz.f259.body.getD .skip,Tryz.func259,by kernel_rfl,by kernel_rfl,zK.no _ _⟩
def Tb259:Tb Tryz.prog:= {T:= [Y2,Y30],mix:=mix,Es:= [],Bs:= [],d:=1}
def t_impl_at (a0:I64):Tr (Iv):=
 .leaf ⟨a0,a0⟩
theorem r_impl_at (a0:I64):Tb259.run B259 [enc a0] (Iv)=(t_impl_at a0).opt:=by kernel_rfl
def zbc:I64->Iv:=fun a0=>(t_impl_at a0).get
theorem u_impl_at (a0:I64):(t_impl_at a0).opt=some (zbc a0):=Tr.zz (by kernel_rfl)
def zfY:Ent Tryz.prog:= .of1 Tb259 B259 (fun _=>true) zbc fun a0 _=>(r_impl_at a0).trans (u_impl_at a0)
def B303:Bod Tryz.prog:=⟨303,Tryz.f303,Tryz.f303.body.getD .skip,Tryz.func303,by kernel_rfl,by kernel_rfl,zK.no _ _⟩
def Tb303:Tb Tryz.prog:= {T:= [Y2,Y30],mix:=mix,Es:= [zcK,E_impl_ring,E_impl_NegI,zfY,zd7,E_impl_isAngle,E_impl_QuarterOf,E_impl_inRing,E_impl_SinSeries,E_impl_CosSeries],Bs:= [],d:=1}
def t_impl_circleValue (a0:I64) (a1:I64):Tr (Iv):=
 .br (!(zeh a0)) (.leaf zeF) (let c3:=zcf a0;let c6:=zaq (zbc a0) (zaV c3);let c8:=(Rng.w .i64 (zbJ .and .i64 (Rng.w .i64 (c3.val+a1.val)).val 3));.br (c8.val==0) (.leaf (zcB (zeV c6))) (.br (c8.val==1) (.leaf (zcB (zeX c6))) (.br (c8.val==2) (.leaf (zcB (zdv (zeV c6)))) (.leaf (zcB (zdv (zeX c6)))))))
theorem r_impl_circleValue (a0:I64) (a1:I64):Tb303.run B303 [enc a0,enc a1] (Iv)=(t_impl_circleValue a0 a1).opt:=by kernel_rfl
def zcr:I64->I64->Iv:=fun a0 a1=>(t_impl_circleValue a0 a1).get
theorem u_impl_circleValue (a0:I64) (a1:I64):(t_impl_circleValue a0 a1).opt=some (zcr a0 a1):=Tr.zz (by kernel_rfl)
def E_impl_circleValue:Ent Tryz.prog:= .of2 Tb303 B303 (fun _ _=>true) zcr fun a0 a1 _=>(r_impl_circleValue a0 a1).trans (u_impl_circleValue a0 a1)
structure zdl where
 x0:I64
 x1:I64
 x2:I64
 x3:I64
 x4:I64
 x5:I64
 x6:I64
 x7:I64
instance:Inhabited zdl:=⟨⟨default,default,default,default,default,default,default,default⟩⟩
def st_spec_l06Over_5 (x:zdl):St:=⟨[(1,.i64 x.x0),(2,.ptr 0 0),(4,.ptr 1 0),(5,.ptr 2 0),(6,.i64 x.x1)],52,⟨[(0,[.i64 x.x2,.i64 x.x3]),(1,[.i64 x.x4,.i64 x.x5]),(2,[.i64 x.x6,.i64 x.x7])],3,0⟩⟩
def rd_spec_l06Over_5:St->Option zdl:=fun s=>match s with
 | ⟨[(1,.i64 x0),(2,.ptr 0 0),(4,.ptr 1 0),(5,.ptr 2 0),(6,.i64 x1)],52,⟨[(0,[.i64 x2,.i64 x3]),(1,[.i64 x4,.i64 x5]),(2,[.i64 x6,.i64 x7])],3,0⟩⟩=>some ⟨x0,x1,x2,x3,x4,x5,x6,x7⟩
 | _=>none
def zeR (x:zdl):Tr (Lp zdl):=
 .br (decide (x.x1.val<=(Rng.w .i64 ((zau x.x3).val+1)).val)) (.br (!(zb4 (zW x.x1) ⟨x.x2,x.x3⟩)) (.leaf (.again ⟨x.x0,(Rng.w .i64 (x.x1.val+1)),x.x2,x.x3,x.x4,x.x5,x.x6,x.x7⟩)) (let c15:=(Rng.w .i64 (zbJ .and .i64 (Rng.w .i64 (x.x1.val+x.x0.val)).val 3));.br (c15.val==1) (let c17:=zT ⟨x.x6,x.x7⟩ (zb ⟨1,rfl⟩);.leaf (.again ⟨x.x0,(Rng.w .i64 (x.x1.val+1)),x.x2,x.x3,x.x4,x.x5,c17.lo,c17.hi⟩)) (.br (c15.val==3) (let c20:=zT ⟨x.x6,x.x7⟩ (zb ⟨(-1),rfl⟩);.leaf (.again ⟨x.x0,(Rng.w .i64 (x.x1.val+1)),x.x2,x.x3,x.x4,x.x5,c20.lo,c20.hi⟩)) (.leaf (.again ⟨x.x0,(Rng.w .i64 (x.x1.val+1)),x.x2,x.x3,x.x4,x.x5,x.x6,x.x7⟩))))) (.leaf (.out ⟨x.x0,x.x1,x.x2,x.x3,x.x4,x.x5,x.x6,x.x7⟩))
def G_spec_l06Over_5 (x:zdl):Bool:=(Lf zeR 1000 x).opt.isSome
def L_spec_l06Over_5 (x:zdl):zdl:=(Lf zeR 1000 x).get
def TbL_spec_l06Over_5:Tb Tryz.prog:= {T:= [Y2,Y30],mix:=mix,Es:= [zbl,E_spec_OverlapI,E_spec_HullI,ET_spec_QuarterOf,ET_spec_TurnI],Bs:= [],d:=1}
def P_spec_l06Over_5:LpF:=loopF [1,2,4,5,6] [0,1,2] 3 rd_spec_l06Over_5 st_spec_l06Over_5 (.exit 0) G_spec_l06Over_5 L_spec_l06Over_5
theorem lok_spec_l06Over_5:LoopOk Tryz.prog (loopAt (Tryz.f97.body.getD .skip) 0) P_spec_l06Over_5:=zfw (t:=TbL_spec_l06Over_5) (lt:=fun _=>none) (body:=zeR) (n:=1000) (by intro h;cases h) (fun _ _ _ h=>by cases h)
 (by intro s x h;unfold rd_spec_l06Over_5 at h;split at h<;>cases h;rfl) (fun x b cs h=>lk_lt (l:=(st_spec_l06Over_5 x).mm.blks) (by kernel_rfl) h) (by intro x;kernel_rfl) (fun x h=>Tr.get_some h)
def B97:Bod Tryz.prog:=⟨97,Tryz.f97,Tryz.f97.body.getD .skip,Tryz.func97,by kernel_rfl,by kernel_rfl,⟨ltOf [(5,P_spec_l06Over_5)],zK.of (ks:= [5]) (by kernel_rfl) (by
 intro i k h f hf
 match i,h with
 | 0,h=>cases h;obtain rfl:P_spec_l06Over_5=f:=Option.some.inj hf;exact lok_spec_l06Over_5
 | n+1,h=>simp at h)⟩⟩
def Tb97:Tb Tryz.prog:= {T:= [Y2,Y30],mix:=mix,Es:= [E_spec_l06Ring,E_spec_l06Fits,E_spec_HullI,E_spec_l06At,ET_spec_QuarterOf],Bs:= [],d:=1}
def t_spec_l06Over (a0:Iv) (a1:I64):Tr (Iv):=
 .br (!(zbW a0)) (.leaf zw) (let c5:=zT (zai a0.lo a1) (zai a0.hi a1);let c7:=(Rng.w .i64 ((zau a0.lo).val-1));.br (G_spec_l06Over_5 ⟨a1,c7,a0.lo,a0.hi,⟨0,rfl⟩,⟨0,rfl⟩,c5.lo,c5.hi⟩) (let c23:=L_spec_l06Over_5 ⟨a1,c7,a0.lo,a0.hi,⟨0,rfl⟩,⟨0,rfl⟩,c5.lo,c5.hi⟩;.leaf ⟨c23.x6,c23.x7⟩) (.bad))
theorem r_spec_l06Over (a0:Iv) (a1:I64):Tb97.run B97 [enc a0,enc a1] (Iv)=(t_spec_l06Over a0 a1).opt:=by kernel_rfl
def zfl:Iv->I64->Iv:=fun a0 a1=>(t_spec_l06Over a0 a1).get
end
end Go.Proofs.YtkenfaengphiiaaGreat.Ev
