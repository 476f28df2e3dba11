/- The law FnSphere gives true, whatever bytes come in. No conditions. (One of the texts of its proof, put together by a program of this session.) -/
import Derived.Test.YtfcjhkkpbnobhaaGreatZW1
import Derived.Test.YtfcjhkkpbnobhaaGreatZPA
set_option linter.unusedSimpArgs false
set_option linter.unusedVariables false
noncomputable section
namespace Go.Proofs.YtfcjhkkpbnobhaaGreat.Ev
open Go Go.RowKit
set_option maxRecDepth 100000
section
def ET_spec_MulDivFloor:Ent Tryz.prog:= .of3 Tb143 B143 (fun _ _ _=>true) zaQ fun a0 a1 a2 _=>(r_spec_MulDivFloor a0 a1 a2).trans (tt_md_spec a0 a1 a2)
def ET_impl_MulDivFloor:Ent Tryz.prog:= .of3 Tb285 B285 (fun _ _ _=>true) zbh fun a0 a1 a2 _=>(r_impl_MulDivFloor a0 a1 a2).trans (tt_md_impl a0 a1 a2)
def ET_spec_Quotient:Ent Tryz.prog:= .of2 Tb134 B134 (fun _ _=>true) zaO fun a0 a1 _=>(r_spec_Quotient a0 a1).trans (tt_q_spec a0 a1)
def ET_impl_Quotient:Ent Tryz.prog:= .of2 Tb203 B203 (fun _ _=>true) zbc fun a0 a1 _=>(r_impl_Quotient a0 a1).trans (tt_q_impl a0 a1)
def ET_spec_RadiansOf:Ent Tryz.prog:= .of1 Tb45 B45 (fun _=>true) zaF fun a0 _=>(r_spec_RadiansOf a0).trans (tt_rad_spec a0)
def ET_impl_RadiansOf:Ent Tryz.prog:= .of1 Tb217 B217 (fun _=>true) zeE fun a0 _=>(r_impl_RadiansOf a0).trans (tt_rad_impl a0)
def B259:Bod Tryz.prog:=⟨259,Tryz.f259,Tryz.f259.body.getD .skip,Tryz.func259,by kernel_rfl,by kernel_rfl,zam.no _ _⟩
def Tb259:Tb Tryz.prog:= {T:= [Y2,Y132,Y140,Y148],mix:=mix,Es:= [],Bs:= [],d:=1}
def zeZ (a0:Wide) (a1:I64):Tr (Wide):=
 .br (a1.val==0) (.leaf a0) (.br (decide (a1.val<64)) (.leaf ⟨(Rng.w .i64 (a0.hi.val.fdiv (2^min ((Rng.w .u64 (a1.val)).val).toNat 64))),(Rng.w .u64 (zbe .or .u64 (Rng.w .u64 (a0.lo.val.fdiv (2^min ((Rng.w .u64 (a1.val)).val).toNat 64))).val (Rng.w .u64 ((Rng.w .u64 (a0.hi.val)).val*(2^min ((Rng.w .u64 ((Rng.w .i64 (64-a1.val)).val)).val).toNat 64))).val))⟩) (.leaf ⟨(Rng.w .i64 (a0.hi.val.fdiv 9223372036854775808)),(Rng.w .u64 ((Rng.w .i64 (a0.hi.val.fdiv (2^min ((Rng.w .u64 ((Rng.w .i64 (a1.val-64)).val)).val).toNat 64))).val))⟩))
theorem r_spec_l02Shift (a0:Wide) (a1:I64):Tb259.run B259 [enc a0,enc a1] (Wide)=(zeZ a0 a1).opt:=by kernel_rfl
def zcI:Wide->I64->Wide:=fun a0 a1=>(zeZ a0 a1).get
theorem u_spec_l02Shift (a0:Wide) (a1:I64):(zeZ a0 a1).opt=some (zcI a0 a1):=Tr.zR (by kernel_rfl)
def E_spec_l02Shift:Ent Tryz.prog:= .of2 Tb259 B259 (fun _ _=>true) zcI fun a0 a1 _=>(r_spec_l02Shift a0 a1).trans (u_spec_l02Shift a0 a1)
def B179:Bod Tryz.prog:=⟨179,Tryz.f179,Tryz.f179.body.getD .skip,Tryz.func179,by kernel_rfl,by kernel_rfl,zam.no _ _⟩
def Tb179:Tb Tryz.prog:= {T:= [],mix:=mix,Es:= [zda,E_spec_l02Mul,E_spec_l02Int,E_spec_l02Shift],Bs:= [],d:=1}
def ze3 (a0:I64) (a1:I64) (a2:I64):Tr (T2 I64 Bool):=
 .br (!(zaJ a2 ⟨0,rfl⟩ ⟨126,rfl⟩)) (.leaf ⟨⟨0,rfl⟩,false⟩) (let c4:=F_spec_l02Int (zcI (zck a0 a1) a2);.leaf ⟨c4.a,c4.b⟩)
theorem r_spec_MulFloor (a0:I64) (a1:I64) (a2:I64):Tb179.run B179 [enc a0,enc a1,enc a2] (T2 I64 Bool)=(ze3 a0 a1 a2).opt:=by kernel_rfl
def zaL:I64->I64->I64->T2 I64 Bool:=fun a0 a1 a2=>(ze3 a0 a1 a2).get
theorem u_spec_MulFloor (a0:I64) (a1:I64) (a2:I64):(ze3 a0 a1 a2).opt=some (zaL a0 a1 a2):=Tr.zR (by kernel_rfl)
def E_spec_MulFloor:Ent Tryz.prog:= .of3 Tb179 B179 (fun _ _ _=>true) zaL fun a0 a1 a2 _=>(r_spec_MulFloor a0 a1 a2).trans (u_spec_MulFloor a0 a1 a2)
def B97:Bod Tryz.prog:=⟨97,Tryz.f97,Tryz.f97.body.getD .skip,Tryz.func97,by kernel_rfl,by kernel_rfl,zam.no _ _⟩
def Tb97:Tb Tryz.prog:= {T:= [],mix:=mix,Es:= [E_spec_l03Ok,E_spec_MulFloor,E_spec_l03End],Bs:= [],d:=1}
def zbr (a0:I64) (a1:I64):Tr (T2 I64 Bool):=
 .br (!(zK a0)) (.leaf ⟨⟨0,rfl⟩,false⟩) (.br (!(zK a1)) (.leaf ⟨⟨0,rfl⟩,false⟩) (let c3:=zaL a0 a1 ⟨32,rfl⟩;let c4:=zat c3.a c3.b;.leaf ⟨c4.a,c4.b⟩))
theorem r_spec_l03MulDown (a0:I64) (a1:I64):Tb97.run B97 [enc a0,enc a1] (T2 I64 Bool)=(zbr a0 a1).opt:=by kernel_rfl
def zJ:I64->I64->T2 I64 Bool:=fun a0 a1=>(zbr a0 a1).get
theorem u_spec_l03MulDown (a0:I64) (a1:I64):(zbr a0 a1).opt=some (zJ a0 a1):=Tr.zR (by kernel_rfl)
def E_spec_l03MulDown:Ent Tryz.prog:= .of2 Tb97 B97 (fun _ _=>true) zJ fun a0 a1 _=>(r_spec_l03MulDown a0 a1).trans (u_spec_l03MulDown a0 a1)
def B98:Bod Tryz.prog:=⟨98,Tryz.f98,Tryz.f98.body.getD .skip,Tryz.func98,by kernel_rfl,by kernel_rfl,zam.no _ _⟩
def Tb98:Tb Tryz.prog:= {T:= [],mix:=mix,Es:= [E_spec_l03MulDown,E_spec_l03Ok],Bs:= [],d:=1}
def zcD (a0:I64) (a1:I64):Tr (T2 I64 Bool):=
 let c2:=zJ (Rng.w .i64 (0-a0.val)) a1;.br (!(zK a0)) (.leaf ⟨⟨0,rfl⟩,false⟩) (.br (!c2.b) (.leaf ⟨⟨0,rfl⟩,false⟩) (.leaf ⟨(Rng.w .i64 (0-c2.a.val)),true⟩))
theorem r_spec_l03MulUp (a0:I64) (a1:I64):Tb98.run B98 [enc a0,enc a1] (T2 I64 Bool)=(zcD a0 a1).opt:=by kernel_rfl
def zW:I64->I64->T2 I64 Bool:=fun a0 a1=>(zcD a0 a1).get
theorem u_spec_l03MulUp (a0:I64) (a1:I64):(zcD a0 a1).opt=some (zW a0 a1):=Tr.zR (by kernel_rfl)
def E_spec_l03MulUp:Ent Tryz.prog:= .of2 Tb98 B98 (fun _ _=>true) zW fun a0 a1 _=>(r_spec_l03MulUp a0 a1).trans (u_spec_l03MulUp a0 a1)
def B99:Bod Tryz.prog:=⟨99,Tryz.f99,Tryz.f99.body.getD .skip,Tryz.func99,by kernel_rfl,by kernel_rfl,zam.no _ _⟩
def Tb99:Tb Tryz.prog:= {T:= [],mix:=mix,Es:= [],Bs:= [],d:=1}
def zfp (a0:I64) (a1:I64):Tr (I64):=
 .br (decide (a0.val<a1.val)) (.leaf a0) (.leaf a1)
theorem r_spec_l00Min (a0:I64) (a1:I64):Tb99.run B99 [enc a0,enc a1] (I64)=(zfp a0 a1).opt:=by kernel_rfl
def zC:I64->I64->I64:=fun a0 a1=>(zfp a0 a1).get
theorem u_spec_l00Min (a0:I64) (a1:I64):(zfp a0 a1).opt=some (zC a0 a1):=Tr.zR (by kernel_rfl)
def E_spec_l00Min:Ent Tryz.prog:= .of2 Tb99 B99 (fun _ _=>true) zC fun a0 a1 _=>(r_spec_l00Min a0 a1).trans (u_spec_l00Min a0 a1)
def B100:Bod Tryz.prog:=⟨100,Tryz.f100,Tryz.f100.body.getD .skip,Tryz.func100,by kernel_rfl,by kernel_rfl,zam.no _ _⟩
def Tb100:Tb Tryz.prog:= {T:= [],mix:=mix,Es:= [],Bs:= [],d:=1}
def zfq (a0:I64) (a1:I64):Tr (I64):=
 .br (decide (a0.val>a1.val)) (.leaf a0) (.leaf a1)
theorem r_spec_l00Max (a0:I64) (a1:I64):Tb100.run B100 [enc a0,enc a1] (I64)=(zfq a0 a1).opt:=by kernel_rfl
def zz:I64->I64->I64:=fun a0 a1=>(zfq a0 a1).get
theorem u_spec_l00Max (a0:I64) (a1:I64):(zfq a0 a1).opt=some (zz a0 a1):=Tr.zR (by kernel_rfl)
def E_spec_l00Max:Ent Tryz.prog:= .of2 Tb100 B100 (fun _ _=>true) zz fun a0 a1 _=>(r_spec_l00Max a0 a1).trans (u_spec_l00Max a0 a1)
def Y99:TyE Tryz.prog:=⟨99,1,(.slice 2 1),[.nils],false,by kernel_rfl,by kernel_rfl,by kernel_rfl,by kernel_rfl,by kernel_rfl,by kernel_rfl⟩
def B25:Bod Tryz.prog:=⟨25,Tryz.f25,Tryz.f25.body.getD .skip,Tryz.func25,by kernel_rfl,by kernel_rfl,zam.no _ _⟩
def Tb25:Tb Tryz.prog:= {T:= [Y2,Y30,Y99],mix:=mix,Es:= [zbd,zbL,zbo,E_spec_l03MulDown,E_spec_l03MulUp,E_spec_l00Min,E_spec_l00Max],Bs:= [],d:=1}
def t_spec_MulI (a0:Iv) (a1:Iv):Tr (Iv):=
 .br (!(zn a0)) (.leaf zA) (.br (!(zn a1)) (.leaf zA) (let c5:=zJ a0.lo a1.lo;let c6:=zW a0.lo a1.lo;.br (!c5.b) (.leaf zA) (.br (!c6.b) (.leaf zA) (let c11:=zJ a0.lo a1.hi;let c12:=zW a0.lo a1.hi;.br (!c11.b) (.leaf zA) (.br (!c12.b) (.leaf zA) (let c17:=zJ a0.hi a1.lo;let c18:=zW a0.hi a1.lo;.br (!c17.b) (.leaf zA) (.br (!c18.b) (.leaf zA) (let c23:=zJ a0.hi a1.hi;let c24:=zW a0.hi a1.hi;.br (!c23.b) (.leaf zA) (.br (!c24.b) (.leaf zA) (.leaf (zav (zC (zC (zC (zC ⟨1152921504606846976,rfl⟩ c5.a) c11.a) c17.a) c23.a) (zz (zz (zz (zz ⟨(-1152921504606846976),rfl⟩ c6.a) c12.a) c18.a) c24.a))))))))))))
theorem r_spec_MulI (a0:Iv) (a1:Iv):Tb25.run B25 [enc a0,enc a1] (Iv)=(t_spec_MulI a0 a1).opt:=by kernel_rfl
def zS:Iv->Iv->Iv:=fun a0 a1=>(t_spec_MulI a0 a1).get
theorem u_spec_MulI (a0:Iv) (a1:Iv):(t_spec_MulI a0 a1).opt=some (zS a0 a1):=Tr.zR (by kernel_rfl)
def E_spec_MulI:Ent Tryz.prog:= .of2 Tb25 B25 (fun _ _=>true) zS fun a0 a1 _=>(r_spec_MulI a0 a1).trans (u_spec_MulI a0 a1)
def B140:Bod Tryz.prog:=⟨140,Tryz.f140,Tryz.f140.body.getD .skip,Tryz.func140,by kernel_rfl,by kernel_rfl,zam.no _ _⟩
def Tb140:Tb Tryz.prog:= {T:= [Y30],mix:=mix,Es:= [zdZ],Bs:= [],d:=1}
def zfu (a0:Iv) (a1:Iv):Tr (Bool):=
 .br (zbw a0) (.leaf (zbw a1)) (.leaf false)
theorem r_impl_areBounded (a0:Iv) (a1:Iv):Tb140.run B140 [enc a0,enc a1] (Bool)=(zfu a0 a1).opt:=by kernel_rfl
def zbu:Iv->Iv->Bool:=fun a0 a1=>(zfu a0 a1).get
theorem u_impl_areBounded (a0:Iv) (a1:Iv):(zfu a0 a1).opt=some (zbu a0 a1):=Tr.zR (by kernel_rfl)
def zdg:Ent Tryz.prog:= .of2 Tb140 B140 (fun _ _=>true) zbu fun a0 a1 _=>(r_impl_areBounded a0 a1).trans (u_impl_areBounded a0 a1)
def B324:Bod Tryz.prog:=⟨324,Tryz.f324,Tryz.f324.body.getD .skip,Tryz.func324,by kernel_rfl,by kernel_rfl,zam.no _ _⟩
def Tb324:Tb Tryz.prog:= {T:= [Y2,Y132,Y148],mix:=mix,Es:= [zco],Bs:= [],d:=1}
def zex (a0:Wide) (a1:I64):Tr (Wide):=
 .br (!(za3 a1 ⟨0,rfl⟩ ⟨127,rfl⟩)) (.leaf ⟨⟨0,rfl⟩,⟨0,rfl⟩⟩) (.br (decide (a1.val>=64)) (let c3:=(Rng.w .i64 (a1.val-64));.br (decide (c3.val<0)) (.bad) (.leaf ⟨(Rng.w .i64 (a0.hi.val.fdiv 9223372036854775808)),(Rng.w .u64 ((Rng.w .i64 (a0.hi.val.fdiv (2^min (c3.val).toNat 64))).val))⟩)) (.br (decide (a1.val<0)) (.bad) (.br (decide (a1.val<0)) (.bad) (let c7:=(Rng.w .i64 (64-a1.val));.br (decide (c7.val<0)) (.bad) (.leaf ⟨(Rng.w .i64 (a0.hi.val.fdiv (2^min (a1.val).toNat 64))),(Rng.w .u64 (zbe .or .u64 (Rng.w .u64 (a0.lo.val.fdiv (2^min (a1.val).toNat 64))).val (Rng.w .u64 ((Rng.w .u64 (a0.hi.val)).val*(2^min (c7.val).toNat 64))).val))⟩)))))
theorem r_impl_WideShift (a0:Wide) (a1:I64):Tb324.run B324 [enc a0,enc a1] (Wide)=(zex a0 a1).opt:=by kernel_rfl
def F_impl_WideShift:Wide->I64->Wide:=fun a0 a1=>(zex a0 a1).get
def G_impl_WideShift:Wide->I64->Bool:=fun a0 a1=>(zex a0 a1).opt.isSome
def E_impl_WideShift:Ent Tryz.prog:= .of2 Tb324 B324 G_impl_WideShift F_impl_WideShift fun a0 a1 h=>(r_impl_WideShift a0 a1).trans (Tr.get_some h)
def B275:Bod Tryz.prog:=⟨275,Tryz.f275,Tryz.f275.body.getD .skip,Tryz.func275,by kernel_rfl,by kernel_rfl,zam.no _ _⟩
def Tb275:Tb Tryz.prog:= {T:= [],mix:=mix,Es:= [zco,zeP,E_impl_WideInt,E_impl_WideShift],Bs:= [],d:=1}
def zd8 (a0:I64) (a1:I64) (a2:I64):Tr (T2 I64 Bool):=
 .br (!(za3 a2 ⟨0,rfl⟩ ⟨126,rfl⟩)) (.leaf ⟨⟨0,rfl⟩,false⟩) (let c2:=zbn a0 a1;.br (G_impl_WideShift c2 a2) (let c4:=zeM (F_impl_WideShift c2 a2);.leaf ⟨c4.a,c4.b⟩) (.bad))
theorem r_impl_MulFloor (a0:I64) (a1:I64) (a2:I64):Tb275.run B275 [enc a0,enc a1,enc a2] (T2 I64 Bool)=(zd8 a0 a1 a2).opt:=by kernel_rfl
def zdm:I64->I64->I64->T2 I64 Bool:=fun a0 a1 a2=>(zd8 a0 a1 a2).get
def G_impl_MulFloor:I64->I64->I64->Bool:=fun a0 a1 a2=>(zd8 a0 a1 a2).opt.isSome
def E_impl_MulFloor:Ent Tryz.prog:= .of3 Tb275 B275 G_impl_MulFloor zdm fun a0 a1 a2 h=>(r_impl_MulFloor a0 a1 a2).trans (Tr.get_some h)
def B198:Bod Tryz.prog:=⟨198,Tryz.f198,Tryz.f198.body.getD .skip,Tryz.func198,by kernel_rfl,by kernel_rfl,zam.no _ _⟩
def Tb198:Tb Tryz.prog:= {T:= [],mix:=mix,Es:= [zee,E_impl_fixed,E_impl_MulFloor],Bs:= [],d:=1}
def t_impl_MulDown (a0:I64) (a1:I64):Tr (T2 I64 Bool):=
 .br (!(za2 a0)) (.leaf ⟨⟨0,rfl⟩,false⟩) (.br (!(za2 a1)) (.leaf ⟨⟨0,rfl⟩,false⟩) (.br (G_impl_MulFloor a0 a1 ⟨32,rfl⟩) (let c3:=zdm a0 a1 ⟨32,rfl⟩;let c4:=zca c3.a c3.b;.leaf ⟨c4.a,c4.b⟩) (.bad)))
theorem r_impl_MulDown (a0:I64) (a1:I64):Tb198.run B198 [enc a0,enc a1] (T2 I64 Bool)=(t_impl_MulDown a0 a1).opt:=by kernel_rfl
def zc9:I64->I64->T2 I64 Bool:=fun a0 a1=>(t_impl_MulDown a0 a1).get
def zcA:I64->I64->Bool:=fun a0 a1=>(t_impl_MulDown a0 a1).opt.isSome
def E_impl_MulDown:Ent Tryz.prog:= .of2 Tb198 B198 zcA zc9 fun a0 a1 h=>(r_impl_MulDown a0 a1).trans (Tr.get_some h)
def B199:Bod Tryz.prog:=⟨199,Tryz.f199,Tryz.f199.body.getD .skip,Tryz.func199,by kernel_rfl,by kernel_rfl,zam.no _ _⟩
def Tb199:Tb Tryz.prog:= {T:= [],mix:=mix,Es:= [E_impl_MulDown,zee],Bs:= [],d:=1}
def t_impl_MulUp (a0:I64) (a1:I64):Tr (T2 I64 Bool):=
 .br (!(za2 a0)) (.leaf ⟨⟨0,rfl⟩,false⟩) (.br (!(za2 a1)) (.leaf ⟨⟨0,rfl⟩,false⟩) (let c3:=(Rng.w .i64 (0-a0.val));.br (zcA c3 a1) (let c4:=zc9 c3 a1;.leaf ⟨(Rng.w .i64 (0-c4.a.val)),c4.b⟩) (.bad)))
theorem r_impl_MulUp (a0:I64) (a1:I64):Tb199.run B199 [enc a0,enc a1] (T2 I64 Bool)=(t_impl_MulUp a0 a1).opt:=by kernel_rfl
def zfl:I64->I64->T2 I64 Bool:=fun a0 a1=>(t_impl_MulUp a0 a1).get
def zei:I64->I64->Bool:=fun a0 a1=>(t_impl_MulUp a0 a1).opt.isSome
def E_impl_MulUp:Ent Tryz.prog:= .of2 Tb199 B199 zei zfl fun a0 a1 h=>(r_impl_MulUp a0 a1).trans (Tr.get_some h)
def Y165:TyE Tryz.prog:=⟨165,2,(.array 2 2 1),[.i64 ⟨0,rfl⟩,.i64 ⟨0,rfl⟩],false,by kernel_rfl,by kernel_rfl,by kernel_rfl,by kernel_rfl,by kernel_rfl,by kernel_rfl⟩
def B197:Bod Tryz.prog:=⟨197,Tryz.f197,Tryz.f197.body.getD .skip,Tryz.func197,by kernel_rfl,by kernel_rfl,zam.no _ _⟩
def B116:Bod Tryz.prog:=⟨116,Tryz.f116,Tryz.f116.body.getD .skip,Tryz.func116,by kernel_rfl,by kernel_rfl,zam.no _ _⟩
def Tb116:Tb Tryz.prog:= {T:= [Y2,Y30,Y165],mix:=mix,Es:= [zdg,zaR,zdb,E_impl_MulDown,E_impl_MulUp],Bs:= [B197],d:=8}
def t_impl_MulI (a0:Iv) (a1:Iv):Tr (Iv):=
 .br (!(zbu a0 a1)) (.leaf zT) (.br (zcA a0.lo a1.lo) (let c3:=zc9 a0.lo a1.lo;.br (zei a0.lo a1.lo) (let c4:=zfl a0.lo a1.lo;.br (!c3.b) (.leaf zT) (.br (!c4.b) (.leaf zT) (.br (zcA a0.lo a1.hi) (let c7:=zc9 a0.lo a1.hi;.br (zei a0.lo a1.hi) (let c8:=zfl a0.lo a1.hi;.br (!c7.b) (.leaf zT) (.br (!c8.b) (.leaf zT) (.br (zcA a0.hi a1.lo) (let c11:=zc9 a0.hi a1.lo;.br (zei a0.hi a1.lo) (let c12:=zfl a0.hi a1.lo;.br (!c11.b) (.leaf zT) (.br (!c12.b) (.leaf zT) (.br (zcA a0.hi a1.hi) (let c17:=zc9 a0.hi a1.hi;.br (zei a0.hi a1.hi) (let c18:=zfl a0.hi a1.hi;.br (!c17.b) (.leaf zT) (.br (!c18.b) (.leaf zT) (.leaf (za4 (mn (mn (mn (mn c3.a c3.a) c7.a) c11.a) c17.a) (mx (mx (mx (mx c4.a c4.a) c8.a) c12.a) c18.a) true)))) (.bad)) (.bad)))) (.bad)) (.bad)))) (.bad)) (.bad)))) (.bad)) (.bad))
theorem r_impl_MulI (a0:Iv) (a1:Iv):Tb116.run B116 [enc a0,enc a1] (Iv)=(t_impl_MulI a0 a1).opt:=by kernel_rfl
def zaz:Iv->Iv->Iv:=fun a0 a1=>(t_impl_MulI a0 a1).get
def B92:Bod Tryz.prog:=⟨92,Tryz.f92,Tryz.f92.body.getD .skip,Tryz.func92,by kernel_rfl,by kernel_rfl,zam.no _ _⟩
def Tb92:Tb Tryz.prog:= {T:= [Y2,Y30],mix:=mix,Es:= [zda],Bs:= [],d:=1}
def zcf (a0:Iv) (a1:I64):Tr (Bool):=
 .leaf (zaJ a1 a0.lo a0.hi)
theorem r_spec_l04Has (a0:Iv) (a1:I64):Tb92.run B92 [enc a0,enc a1] (Bool)=(zcf a0 a1).opt:=by kernel_rfl
def zaM:Iv->I64->Bool:=fun a0 a1=>(zcf a0 a1).get
theorem u_spec_l04Has (a0:Iv) (a1:I64):(zcf a0 a1).opt=some (zaM a0 a1):=Tr.zR (by kernel_rfl)
def E_spec_l04Has:Ent Tryz.prog:= .of2 Tb92 B92 (fun _ _=>true) zaM fun a0 a1 _=>(r_spec_l04Has a0 a1).trans (u_spec_l04Has a0 a1)
def B227:Bod Tryz.prog:=⟨227,Tryz.f227,Tryz.f227.body.getD .skip,Tryz.func227,by kernel_rfl,by kernel_rfl,zam.no _ _⟩
def Tb227:Tb Tryz.prog:= {T:= [],mix:=mix,Es:= [ET_spec_MulDivFloor,E_spec_l03Ok,E_spec_l03End],Bs:= [],d:=1}
def zbs (a0:I64) (a1:I64):Tr (T2 I64 Bool):=
 .br (!(zK a0)) (.leaf ⟨⟨0,rfl⟩,false⟩) (.br (!(zK a1)) (.leaf ⟨⟨0,rfl⟩,false⟩) (.br (a1.val==0) (.leaf ⟨⟨0,rfl⟩,false⟩) (.br (decide (a1.val<0)) (let c5:=zaQ (Rng.w .i64 (0-a0.val)) ⟨4294967296,rfl⟩ (Rng.w .i64 (0-a1.val));let c6:=zat c5.a c5.b;.leaf ⟨c6.a,c6.b⟩) (let c7:=zaQ a0 ⟨4294967296,rfl⟩ a1;let c8:=zat c7.a c7.b;.leaf ⟨c8.a,c8.b⟩))))
theorem r_spec_l03DivDown (a0:I64) (a1:I64):Tb227.run B227 [enc a0,enc a1] (T2 I64 Bool)=(zbs a0 a1).opt:=by kernel_rfl
def zM:I64->I64->T2 I64 Bool:=fun a0 a1=>(zbs a0 a1).get
theorem u_spec_l03DivDown (a0:I64) (a1:I64):(zbs a0 a1).opt=some (zM a0 a1):=Tr.zR (by kernel_rfl)
def E_spec_l03DivDown:Ent Tryz.prog:= .of2 Tb227 B227 (fun _ _=>true) zM fun a0 a1 _=>(r_spec_l03DivDown a0 a1).trans (u_spec_l03DivDown a0 a1)
def B228:Bod Tryz.prog:=⟨228,Tryz.f228,Tryz.f228.body.getD .skip,Tryz.func228,by kernel_rfl,by kernel_rfl,zam.no _ _⟩
def Tb228:Tb Tryz.prog:= {T:= [],mix:=mix,Es:= [E_spec_l03Ok,E_spec_l03DivDown],Bs:= [],d:=1}
def zcE (a0:I64) (a1:I64):Tr (T2 I64 Bool):=
 .br (!(zK a0)) (.leaf ⟨⟨0,rfl⟩,false⟩) (let c3:=zM (Rng.w .i64 (0-a0.val)) a1;.leaf ⟨(Rng.w .i64 (0-c3.a.val)),c3.b⟩)
theorem r_spec_l03DivUp (a0:I64) (a1:I64):Tb228.run B228 [enc a0,enc a1] (T2 I64 Bool)=(zcE a0 a1).opt:=by kernel_rfl
def zad:I64->I64->T2 I64 Bool:=fun a0 a1=>(zcE a0 a1).get
theorem u_spec_l03DivUp (a0:I64) (a1:I64):(zcE a0 a1).opt=some (zad a0 a1):=Tr.zR (by kernel_rfl)
def E_spec_l03DivUp:Ent Tryz.prog:= .of2 Tb228 B228 (fun _ _=>true) zad fun a0 a1 _=>(r_spec_l03DivUp a0 a1).trans (u_spec_l03DivUp a0 a1)
def B142:Bod Tryz.prog:=⟨142,Tryz.f142,Tryz.f142.body.getD .skip,Tryz.func142,by kernel_rfl,by kernel_rfl,zam.no _ _⟩
def Tb142:Tb Tryz.prog:= {T:= [Y2,Y30,Y99],mix:=mix,Es:= [zbd,zbL,zbo,E_spec_l04Has,E_spec_l00Min,E_spec_l00Max,E_spec_l03DivDown,E_spec_l03DivUp],Bs:= [],d:=1}
def ze4 (a0:Iv) (a1:Iv):Tr (Iv):=
 .br (!(zn a0)) (.leaf zA) (.br (!(zn a1)) (.leaf zA) (.br (zaM a1 ⟨0,rfl⟩) (.leaf zA) (let c7:=zM a0.lo a1.lo;let c8:=zad a0.lo a1.lo;.br (!c7.b) (.leaf zA) (.br (!c8.b) (.leaf zA) (let c13:=zM a0.lo a1.hi;let c14:=zad a0.lo a1.hi;.br (!c13.b) (.leaf zA) (.br (!c14.b) (.leaf zA) (let c19:=zM a0.hi a1.lo;let c20:=zad a0.hi a1.lo;.br (!c19.b) (.leaf zA) (.br (!c20.b) (.leaf zA) (let c25:=zM a0.hi a1.hi;let c26:=zad a0.hi a1.hi;.br (!c25.b) (.leaf zA) (.br (!c26.b) (.leaf zA) (.leaf (zav (zC (zC (zC (zC ⟨1152921504606846976,rfl⟩ c7.a) c13.a) c19.a) c25.a) (zz (zz (zz (zz ⟨(-1152921504606846976),rfl⟩ c8.a) c14.a) c20.a) c26.a)))))))))))))
theorem r_spec_DivI (a0:Iv) (a1:Iv):Tb142.run B142 [enc a0,enc a1] (Iv)=(ze4 a0 a1).opt:=by kernel_rfl
def zL:Iv->Iv->Iv:=fun a0 a1=>(ze4 a0 a1).get
theorem u_spec_DivI (a0:Iv) (a1:Iv):(ze4 a0 a1).opt=some (zL a0 a1):=Tr.zR (by kernel_rfl)
def E_spec_DivI:Ent Tryz.prog:= .of2 Tb142 B142 (fun _ _=>true) zL fun a0 a1 _=>(r_spec_DivI a0 a1).trans (u_spec_DivI a0 a1)
def B174:Bod Tryz.prog:=⟨174,Tryz.f174,Tryz.f174.body.getD .skip,Tryz.func174,by kernel_rfl,by kernel_rfl,zam.no _ _⟩
def Tb174:Tb Tryz.prog:= {T:= [Y2,Y30],mix:=mix,Es:= [zce,zco],Bs:= [],d:=1}
def t_impl_HasI (a0:Iv) (a1:I64):Tr (Bool):=
 .br (zau a0) (.leaf true) (.leaf (za3 a1 a0.lo a0.hi))
theorem r_impl_HasI (a0:Iv) (a1:I64):Tb174.run B174 [enc a0,enc a1] (Bool)=(t_impl_HasI a0 a1).opt:=by kernel_rfl
def zdT:Iv->I64->Bool:=fun a0 a1=>(t_impl_HasI a0 a1).get
theorem u_impl_HasI (a0:Iv) (a1:I64):(t_impl_HasI a0 a1).opt=some (zdT a0 a1):=Tr.zR (by kernel_rfl)
def E_impl_HasI:Ent Tryz.prog:= .of2 Tb174 B174 (fun _ _=>true) zdT fun a0 a1 _=>(r_impl_HasI a0 a1).trans (u_impl_HasI a0 a1)
def B224:Bod Tryz.prog:=⟨224,Tryz.f224,Tryz.f224.body.getD .skip,Tryz.func224,by kernel_rfl,by kernel_rfl,zam.no _ _⟩
def Tb224:Tb Tryz.prog:= {T:= [],mix:=mix,Es:= [zee,E_impl_fixed,ET_impl_MulDivFloor],Bs:= [],d:=1}
def t_impl_DivDown (a0:I64) (a1:I64):Tr (T2 I64 Bool):=
 .br (!(za2 a0)) (.leaf ⟨⟨0,rfl⟩,false⟩) (.br (!(za2 a1)) (.leaf ⟨⟨0,rfl⟩,false⟩) (.br (decide (a1.val<0)) (let c5:=zbh (Rng.w .i64 (0-a0.val)) ⟨4294967296,rfl⟩ (Rng.w .i64 (0-a1.val));let c6:=zca c5.a c5.b;.leaf ⟨c6.a,c6.b⟩) (let c7:=zbh a0 ⟨4294967296,rfl⟩ a1;let c8:=zca c7.a c7.b;.leaf ⟨c8.a,c8.b⟩)))
theorem r_impl_DivDown (a0:I64) (a1:I64):Tb224.run B224 [enc a0,enc a1] (T2 I64 Bool)=(t_impl_DivDown a0 a1).opt:=by kernel_rfl
def zcC:I64->I64->T2 I64 Bool:=fun a0 a1=>(t_impl_DivDown a0 a1).get
theorem u_impl_DivDown (a0:I64) (a1:I64):(t_impl_DivDown a0 a1).opt=some (zcC a0 a1):=Tr.zR (by kernel_rfl)
def E_impl_DivDown:Ent Tryz.prog:= .of2 Tb224 B224 (fun _ _=>true) zcC fun a0 a1 _=>(r_impl_DivDown a0 a1).trans (u_impl_DivDown a0 a1)
def B225:Bod Tryz.prog:=⟨225,Tryz.f225,Tryz.f225.body.getD .skip,Tryz.func225,by kernel_rfl,by kernel_rfl,zam.no _ _⟩
def Tb225:Tb Tryz.prog:= {T:= [],mix:=mix,Es:= [E_impl_DivDown,zee],Bs:= [],d:=1}
def t_impl_DivUp (a0:I64) (a1:I64):Tr (T2 I64 Bool):=
 .br (!(za2 a0)) (.leaf ⟨⟨0,rfl⟩,false⟩) (.br (!(za2 a1)) (.leaf ⟨⟨0,rfl⟩,false⟩) (let c4:=zcC (Rng.w .i64 (0-a0.val)) a1;.leaf ⟨(Rng.w .i64 (0-c4.a.val)),c4.b⟩))
theorem r_impl_DivUp (a0:I64) (a1:I64):Tb225.run B225 [enc a0,enc a1] (T2 I64 Bool)=(t_impl_DivUp a0 a1).opt:=by kernel_rfl
def zej:I64->I64->T2 I64 Bool:=fun a0 a1=>(t_impl_DivUp a0 a1).get
theorem u_impl_DivUp (a0:I64) (a1:I64):(t_impl_DivUp a0 a1).opt=some (zej a0 a1):=Tr.zR (by kernel_rfl)
def E_impl_DivUp:Ent Tryz.prog:= .of2 Tb225 B225 (fun _ _=>true) zej fun a0 a1 _=>(r_impl_DivUp a0 a1).trans (u_impl_DivUp a0 a1)
def B139:Bod Tryz.prog:=⟨139,Tryz.f139,Tryz.f139.body.getD .skip,Tryz.func139,by kernel_rfl,by kernel_rfl,zam.no _ _⟩
def Tb139:Tb Tryz.prog:= {T:= [Y2,Y30,Y165],mix:=mix,Es:= [zdg,zaR,zdb,E_impl_HasI,E_impl_DivDown,E_impl_DivUp],Bs:= [B197],d:=8}
def t_impl_DivI (a0:Iv) (a1:Iv):Tr (Iv):=
 .br (!(zbu a0 a1)) (.leaf zT) (.br (zdT a1 ⟨0,rfl⟩) (.leaf zT) (let c5:=zcC a0.lo a1.lo;let c6:=zej a0.lo a1.lo;.br (!c5.b) (.leaf zT) (.br (!c6.b) (.leaf zT) (let c9:=zcC a0.lo a1.hi;let c10:=zej a0.lo a1.hi;.br (!c9.b) (.leaf zT) (.br (!c10.b) (.leaf zT) (let c14:=zcC a0.hi a1.lo;let c15:=zej a0.hi a1.lo;.br (!c14.b) (.leaf zT) (.br (!c15.b) (.leaf zT) (let c19:=zcC a0.hi a1.hi;let c20:=zej a0.hi a1.hi;.br (!c19.b) (.leaf zT) (.br (!c20.b) (.leaf zT) (.leaf (za4 (mn (mn (mn (mn c5.a c5.a) c9.a) c14.a) c19.a) (mx (mx (mx (mx c6.a c6.a) c10.a) c15.a) c20.a) true)))))))))))
theorem r_impl_DivI (a0:Iv) (a1:Iv):Tb139.run B139 [enc a0,enc a1] (Iv)=(t_impl_DivI a0 a1).opt:=by kernel_rfl
def zbi:Iv->Iv->Iv:=fun a0 a1=>(t_impl_DivI a0 a1).get
theorem u_impl_DivI (a0:Iv) (a1:Iv):(t_impl_DivI a0 a1).opt=some (zbi a0 a1):=Tr.zR (by kernel_rfl)
def E_impl_DivI:Ent Tryz.prog:= .of2 Tb139 B139 (fun _ _=>true) zbi fun a0 a1 _=>(r_impl_DivI a0 a1).trans (u_impl_DivI a0 a1)
def B155:Bod Tryz.prog:=⟨155,Tryz.f155,Tryz.f155.body.getD .skip,Tryz.func155,by kernel_rfl,by kernel_rfl,zam.no _ _⟩
def Tb155:Tb Tryz.prog:= {T:= [Y2,Y30],mix:=mix,Es:= [E_spec_l04Has,E_spec_l00Min,E_spec_l00Max],Bs:= [],d:=1}
def zc2 (a0:Iv):Tr (T2 I64 I64):=
 let c2:=zz a0.lo (Rng.w .i64 (0-a0.lo.val));let c4:=zz a0.hi (Rng.w .i64 (0-a0.hi.val));.br (zaM a0 ⟨0,rfl⟩) (.leaf ⟨⟨0,rfl⟩,(zz c2 c4)⟩) (.leaf ⟨(zC c2 c4),(zz c2 c4)⟩)
theorem r_spec_l04Ends (a0:Iv):Tb155.run B155 [enc a0] (T2 I64 I64)=(zc2 a0).opt:=by kernel_rfl
def zN:Iv->T2 I64 I64:=fun a0=>(zc2 a0).get
theorem u_spec_l04Ends (a0:Iv):(zc2 a0).opt=some (zN a0):=Tr.zR (by kernel_rfl)
def E_spec_l04Ends:Ent Tryz.prog:= .of1 Tb155 B155 (fun _=>true) zN fun a0 _=>(r_spec_l04Ends a0).trans (u_spec_l04Ends a0)
def B128:Bod Tryz.prog:=⟨128,Tryz.f128,Tryz.f128.body.getD .skip,Tryz.func128,by kernel_rfl,by kernel_rfl,zam.no _ _⟩
def Tb128:Tb Tryz.prog:= {T:= [Y2,Y30],mix:=mix,Es:= [zbd,zbL,zbo,E_spec_l03MulDown,E_spec_l03MulUp,E_spec_l04Ends],Bs:= [],d:=1}
def t_spec_SqrI (a0:Iv):Tr (Iv):=
 .br (!(zn a0)) (.leaf zA) (let c3:=zN a0;let c4:=zJ c3.a c3.a;let c5:=zW c3.b c3.b;.br (!c4.b) (.leaf zA) (.br (!c5.b) (.leaf zA) (.leaf (zav c4.a c5.a))))
theorem r_spec_SqrI (a0:Iv):Tb128.run B128 [enc a0] (Iv)=(t_spec_SqrI a0).opt:=by kernel_rfl
def zby:Iv->Iv:=fun a0=>(t_spec_SqrI a0).get
theorem u_spec_SqrI (a0:Iv):(t_spec_SqrI a0).opt=some (zby a0):=Tr.zR (by kernel_rfl)
def E_spec_SqrI:Ent Tryz.prog:= .of1 Tb128 B128 (fun _=>true) zby fun a0 _=>(r_spec_SqrI a0).trans (u_spec_SqrI a0)
def B137:Bod Tryz.prog:=⟨137,Tryz.f137,Tryz.f137.body.getD .skip,Tryz.func137,by kernel_rfl,by kernel_rfl,zam.no _ _⟩
def Tb137:Tb Tryz.prog:= {T:= [Y2,Y30],mix:=mix,Es:= [zce,zaR,E_impl_HasI,E_impl_abs],Bs:= [],d:=1}
def t_impl_AbsI (a0:Iv):Tr (Iv):=
 .br (zau a0) (.leaf zT) (let c5:=zbp a0.lo;let c6:=zbp a0.hi;.br (zdT a0 ⟨0,rfl⟩) (.leaf ⟨⟨0,rfl⟩,(mx c5 c6)⟩) (.leaf ⟨(mn (zbp a0.lo) (zbp a0.hi)),(mx c5 c6)⟩))
theorem r_impl_AbsI (a0:Iv):Tb137.run B137 [enc a0] (Iv)=(t_impl_AbsI a0).opt:=by kernel_rfl
def zdU:Iv->Iv:=fun a0=>(t_impl_AbsI a0).get
theorem u_impl_AbsI (a0:Iv):(t_impl_AbsI a0).opt=some (zdU a0):=Tr.zR (by kernel_rfl)
def E_impl_AbsI:Ent Tryz.prog:= .of1 Tb137 B137 (fun _=>true) zdU fun a0 _=>(r_impl_AbsI a0).trans (u_impl_AbsI a0)
def B206:Bod Tryz.prog:=⟨206,Tryz.f206,Tryz.f206.body.getD .skip,Tryz.func206,by kernel_rfl,by kernel_rfl,zam.no _ _⟩
def Tb206:Tb Tryz.prog:= {T:= [Y2,Y30],mix:=mix,Es:= [zce,E_impl_AbsI,zaR,zdb,E_impl_MulDown,E_impl_MulUp],Bs:= [],d:=1}
def t_impl_SqrI (a0:Iv):Tr (Iv):=
 .br (zau a0) (.leaf zT) (let c3:=zdU a0;.br (zcA c3.lo c3.lo) (let c4:=zc9 c3.lo c3.lo;.br (zei c3.hi c3.hi) (let c5:=zfl c3.hi c3.hi;.br c4.b (.leaf (za4 c4.a c5.a c5.b)) (.leaf (za4 c4.a c5.a false))) (.bad)) (.bad))
theorem r_impl_SqrI (a0:Iv):Tb206.run B206 [enc a0] (Iv)=(t_impl_SqrI a0).opt:=by kernel_rfl
def F_impl_SqrI:Iv->Iv:=fun a0=>(t_impl_SqrI a0).get
structure zct where
 x0:U64
 x1:I64
 x2:I64
 x3:U64
instance:Inhabited zct:=⟨⟨default,default,default,default⟩⟩
def st_spec_l02Root_3 (x:zct):St:=⟨[(1,.ptr 0 0),(3,.u64 x.x0),(4,.i64 x.x1)],43,⟨[(0,[.i64 x.x2,.u64 x.x3])],1,0⟩⟩
def rd_spec_l02Root_3:St->Option zct:=fun s=>match s with
 | ⟨[(1,.ptr 0 0),(3,.u64 x0),(4,.i64 x1)],43,⟨[(0,[.i64 x2,.u64 x3])],1,0⟩⟩=>some ⟨x0,x1,x2,x3⟩
 | _=>none
def zbH (x:zct):Tr (Lp zct):=
 .br (decide (x.x1.val>=0)) (let c2:=(Rng.w .u64 (zbe .or .u64 x.x0.val (Rng.w .u64 (1*(2^min ((Rng.w .u64 (x.x1.val)).val).toNat 64))).val));let c3:=zea c2 c2;.br (decide (c3.a.val<(Rng.w .u64 (x.x2.val)).val)) (.leaf (.again ⟨c2,(Rng.w .i64 (x.x1.val-1)),x.x2,x.x3⟩)) (.br (c3.a.val==(Rng.w .u64 (x.x2.val)).val) (.br (decide (c3.b.val<=x.x3.val)) (.leaf (.again ⟨c2,(Rng.w .i64 (x.x1.val-1)),x.x2,x.x3⟩)) (.leaf (.again ⟨x.x0,(Rng.w .i64 (x.x1.val-1)),x.x2,x.x3⟩))) (.leaf (.again ⟨x.x0,(Rng.w .i64 (x.x1.val-1)),x.x2,x.x3⟩)))) (.leaf (.out ⟨x.x0,x.x1,x.x2,x.x3⟩))
def zdx (x:zct):Bool:=(Lf zbH 66 x).opt.isSome
def L_spec_l02Root_3 (x:zct):zct:=(Lf zbH 66 x).get
def TbL_spec_l02Root_3:Tb Tryz.prog:= {T:= [Y2,Y3,Y132,Y140,Y148],mix:=mix,Es:= [E_spec_l02Times],Bs:= [],d:=1}
def P_spec_l02Root_3:LpF:=loopF [1,3,4] [0] 1 rd_spec_l02Root_3 st_spec_l02Root_3 (.exit 0) zdx L_spec_l02Root_3
theorem lok_spec_l02Root_3:LoopOk Tryz.prog (loopAt (Tryz.f267.body.getD .skip) 0) P_spec_l02Root_3:=loopF_ok (t:=TbL_spec_l02Root_3) (lt:=fun _=>none) (body:=zbH) (n:=66) (by intro h;cases h) (fun _ _ _ h=>by cases h)
 (by intro s x h;unfold rd_spec_l02Root_3 at h;split at h<;>cases h;rfl) (fun x b cs h=>lk_lt (l:=(st_spec_l02Root_3 x).mm.blks) (by kernel_rfl) h) (by intro x;kernel_rfl) (fun x h=>Tr.get_some h)
def B267:Bod Tryz.prog:=⟨267,Tryz.f267,Tryz.f267.body.getD .skip,Tryz.func267,by kernel_rfl,by kernel_rfl,⟨ltOf [(3,P_spec_l02Root_3)],zam.of (ks:= [3]) (by kernel_rfl) (by
 intro i k h f hf
 match i,h with
 | 0,h=>cases h;obtain rfl:P_spec_l02Root_3=f:=Option.some.inj hf;exact lok_spec_l02Root_3
 | n+1,h=>simp at h)⟩⟩
def Tb267:Tb Tryz.prog:= {T:= [Y2,Y3,Y132,Y140,Y148],mix:=mix,Es:= [],Bs:= [],d:=1}
def zcy (a0:Wide):Tr (U64):=
 .br (zdx ⟨⟨0,rfl⟩,⟨63,rfl⟩,a0.hi,a0.lo⟩) (.leaf (L_spec_l02Root_3 ⟨⟨0,rfl⟩,⟨63,rfl⟩,a0.hi,a0.lo⟩).x0) (.bad)
theorem r_spec_l02Root (a0:Wide):Tb267.run B267 [enc a0] (U64)=(zcy a0).opt:=by kernel_rfl
def zF:Wide->U64:=fun a0=>(zcy a0).get
def G_spec_l02Root:Wide->Bool:=fun a0=>(zcy a0).opt.isSome
def E_spec_l02Root:Ent Tryz.prog:= .of1 Tb267 B267 G_spec_l02Root zF fun a0 h=>(r_spec_l02Root a0).trans (Tr.get_some h)
def B282:Bod Tryz.prog:=⟨282,Tryz.f282,Tryz.f282.body.getD .skip,Tryz.func282,by kernel_rfl,by kernel_rfl,zam.no _ _⟩
def Tb282:Tb Tryz.prog:= {T:= [Y2,Y132],mix:=mix,Es:= [E_spec_l02Mul,E_spec_l02Root],Bs:= [],d:=1}
def zdq (a0:I64) (a1:I64):Tr (T2 I64 Bool):=
 .br (decide (a0.val<0)) (.leaf ⟨⟨0,rfl⟩,false⟩) (.br (decide (a1.val<0)) (.leaf ⟨⟨0,rfl⟩,false⟩) (let c1:=zck a0 a1;.br (G_spec_l02Root c1) (.leaf ⟨(Rng.w .i64 ((zF c1).val)),true⟩) (.bad)))
theorem r_spec_SqrtFloor (a0:I64) (a1:I64):Tb282.run B282 [enc a0,enc a1] (T2 I64 Bool)=(zdq a0 a1).opt:=by kernel_rfl
def zeC:I64->I64->T2 I64 Bool:=fun a0 a1=>(zdq a0 a1).get
def G_spec_SqrtFloor:I64->I64->Bool:=fun a0 a1=>(zdq a0 a1).opt.isSome
def E_spec_SqrtFloor:Ent Tryz.prog:= .of2 Tb282 B282 G_spec_SqrtFloor zeC fun a0 a1 h=>(r_spec_SqrtFloor a0 a1).trans (Tr.get_some h)
def B211:Bod Tryz.prog:=⟨211,Tryz.f211,Tryz.f211.body.getD .skip,Tryz.func211,by kernel_rfl,by kernel_rfl,zam.no _ _⟩
def Tb211:Tb Tryz.prog:= {T:= [],mix:=mix,Es:= [zda,E_spec_SqrtFloor],Bs:= [],d:=1}
def zcP (a0:I64):Tr (T2 I64 Bool):=
 .br (!(zaJ a0 ⟨0,rfl⟩ ⟨1152921504606846976,rfl⟩)) (.leaf ⟨⟨0,rfl⟩,false⟩) (.br (G_spec_SqrtFloor a0 ⟨4294967296,rfl⟩) (let c2:=zeC a0 ⟨4294967296,rfl⟩;.leaf ⟨c2.a,c2.b⟩) (.bad))
theorem r_spec_l03SqrtDown (a0:I64):Tb211.run B211 [enc a0] (T2 I64 Bool)=(zcP a0).opt:=by kernel_rfl
def zbV:I64->T2 I64 Bool:=fun a0=>(zcP a0).get
def zdE:I64->Bool:=fun a0=>(zcP a0).opt.isSome
def E_spec_l03SqrtDown:Ent Tryz.prog:= .of1 Tb211 B211 zdE zbV fun a0 h=>(r_spec_l03SqrtDown a0).trans (Tr.get_some h)
def B212:Bod Tryz.prog:=⟨212,Tryz.f212,Tryz.f212.body.getD .skip,Tryz.func212,by kernel_rfl,by kernel_rfl,zam.no _ _⟩
def Tb212:Tb Tryz.prog:= {T:= [],mix:=mix,Es:= [E_spec_MulFloor,E_spec_l03SqrtDown],Bs:= [],d:=1}
def zbZ (a0:I64):Tr (T2 I64 Bool):=
 .br (zdE a0) (let c1:=zbV a0;.br (!c1.b) (.leaf ⟨⟨0,rfl⟩,false⟩) (.br ((zaL c1.a c1.a ⟨32,rfl⟩).a.val != a0.val) (.leaf ⟨(Rng.w .i64 (c1.a.val+1)),true⟩) (.br ((Rng.w .i64 (zbe .and .i64 (Rng.w .i64 (c1.a.val*c1.a.val)).val 4294967295)).val != 0) (.leaf ⟨(Rng.w .i64 (c1.a.val+1)),true⟩) (.leaf ⟨c1.a,true⟩)))) (.bad)
theorem r_spec_l03SqrtUp (a0:I64):Tb212.run B212 [enc a0] (T2 I64 Bool)=(zbZ a0).opt:=by kernel_rfl
def zbJ:I64->T2 I64 Bool:=fun a0=>(zbZ a0).get
def G_spec_l03SqrtUp:I64->Bool:=fun a0=>(zbZ a0).opt.isSome
def E_spec_l03SqrtUp:Ent Tryz.prog:= .of1 Tb212 B212 G_spec_l03SqrtUp zbJ fun a0 h=>(r_spec_l03SqrtUp a0).trans (Tr.get_some h)
def B126:Bod Tryz.prog:=⟨126,Tryz.f126,Tryz.f126.body.getD .skip,Tryz.func126,by kernel_rfl,by kernel_rfl,zam.no _ _⟩
def Tb126:Tb Tryz.prog:= {T:= [Y2,Y30],mix:=mix,Es:= [zbd,zbL,zbo,E_spec_l03SqrtDown,E_spec_l03SqrtUp],Bs:= [],d:=1}
def ze1 (a0:Iv):Tr (Iv):=
 .br (!(zn a0)) (.leaf zA) (.br (decide (a0.lo.val<0)) (.leaf zA) (.br (zdE a0.lo) (.br (G_spec_l03SqrtUp a0.hi) (.leaf (zav (zbV a0.lo).a (zbJ a0.hi).a)) (.bad)) (.bad)))
theorem r_spec_SqrtI (a0:Iv):Tb126.run B126 [enc a0] (Iv)=(ze1 a0).opt:=by kernel_rfl
def zb7:Iv->Iv:=fun a0=>(ze1 a0).get
structure zb6 where
 x0:U64
 x1:I64
 x2:I64
 x3:U64
instance:Inhabited zb6:=⟨⟨default,default,default,default⟩⟩
def st_impl_WideSqrt_5 (x:zb6):St:=⟨[(1,.ptr 0 0),(4,.u64 x.x0),(5,.i64 x.x1)],46,⟨[(0,[.i64 x.x2,.u64 x.x3])],1,0⟩⟩
def rd_impl_WideSqrt_5:St->Option zb6:=fun s=>match s with
 | ⟨[(1,.ptr 0 0),(4,.u64 x0),(5,.i64 x1)],46,⟨[(0,[.i64 x2,.u64 x3])],1,0⟩⟩=>some ⟨x0,x1,x2,x3⟩
 | _=>none
def zdd (x:zb6):Tr (Lp zb6):=
 .br (decide (x.x1.val>=0)) (.br (decide (x.x1.val<0)) (.bad) (let c2:=(Rng.w .u64 (zbe .or .u64 x.x0.val (Rng.w .u64 (1*(2^min (x.x1.val).toNat 64))).val));let c3:=zdf c2 c2;.br (decide (c3.a.val<(Rng.w .u64 (x.x2.val)).val)) (.leaf (.again ⟨c2,(Rng.w .i64 (x.x1.val-1)),x.x2,x.x3⟩)) (.br (c3.a.val==(Rng.w .u64 (x.x2.val)).val) (.br (decide (c3.b.val<=x.x3.val)) (.leaf (.again ⟨c2,(Rng.w .i64 (x.x1.val-1)),x.x2,x.x3⟩)) (.leaf (.again ⟨x.x0,(Rng.w .i64 (x.x1.val-1)),x.x2,x.x3⟩))) (.leaf (.again ⟨x.x0,(Rng.w .i64 (x.x1.val-1)),x.x2,x.x3⟩))))) (.leaf (.out ⟨x.x0,x.x1,x.x2,x.x3⟩))
def zfC (x:zb6):Bool:=(Lf zdd 66 x).opt.isSome
def L_impl_WideSqrt_5 (x:zb6):zb6:=(Lf zdd 66 x).get
def TbL_impl_WideSqrt_5:Tb Tryz.prog:= {T:= [Y2,Y132,Y148],mix:=mix,Es:= [E_math_bits_Mul64],Bs:= [],d:=1}
def P_impl_WideSqrt_5:LpF:=loopF [1,4,5] [0] 1 rd_impl_WideSqrt_5 st_impl_WideSqrt_5 (.exit 0) zfC L_impl_WideSqrt_5
theorem lok_impl_WideSqrt_5:LoopOk Tryz.prog (loopAt (Tryz.f258.body.getD .skip) 0) P_impl_WideSqrt_5:=loopF_ok (t:=TbL_impl_WideSqrt_5) (lt:=fun _=>none) (body:=zdd) (n:=66) (by intro h;cases h) (fun _ _ _ h=>by cases h)
 (by intro s x h;unfold rd_impl_WideSqrt_5 at h;split at h<;>cases h;rfl) (fun x b cs h=>lk_lt (l:=(st_impl_WideSqrt_5 x).mm.blks) (by kernel_rfl) h) (by intro x;kernel_rfl) (fun x h=>Tr.get_some h)
def B258:Bod Tryz.prog:=⟨258,Tryz.f258,Tryz.f258.body.getD .skip,Tryz.func258,by kernel_rfl,by kernel_rfl,⟨ltOf [(5,P_impl_WideSqrt_5)],zam.of (ks:= [5]) (by kernel_rfl) (by
 intro i k h f hf
 match i,h with
 | 0,h=>cases h;obtain rfl:P_impl_WideSqrt_5=f:=Option.some.inj hf;exact lok_impl_WideSqrt_5
 | n+1,h=>simp at h)⟩⟩
def Tb258:Tb Tryz.prog:= {T:= [Y2,Y132,Y148],mix:=mix,Es:= [],Bs:= [],d:=1}
def zd6 (a0:Wide):Tr (T2 U64 Bool):=
 .br (decide (a0.hi.val<0)) (.leaf ⟨⟨0,rfl⟩,false⟩) (.br (zfC ⟨⟨0,rfl⟩,⟨63,rfl⟩,a0.hi,a0.lo⟩) (.leaf ⟨(L_impl_WideSqrt_5 ⟨⟨0,rfl⟩,⟨63,rfl⟩,a0.hi,a0.lo⟩).x0,true⟩) (.bad))
theorem r_impl_WideSqrt (a0:Wide):Tb258.run B258 [enc a0] (T2 U64 Bool)=(zd6 a0).opt:=by kernel_rfl
def zcM:Wide->T2 U64 Bool:=fun a0=>(zd6 a0).get
def G_impl_WideSqrt:Wide->Bool:=fun a0=>(zd6 a0).opt.isSome
def E_impl_WideSqrt:Ent Tryz.prog:= .of1 Tb258 B258 G_impl_WideSqrt zcM fun a0 h=>(r_impl_WideSqrt a0).trans (Tr.get_some h)
def B278:Bod Tryz.prog:=⟨278,Tryz.f278,Tryz.f278.body.getD .skip,Tryz.func278,by kernel_rfl,by kernel_rfl,zam.no _ _⟩
def Tb278:Tb Tryz.prog:= {T:= [Y2,Y132],mix:=mix,Es:= [zeP,E_impl_WideSqrt],Bs:= [],d:=1}
def zdu (a0:I64) (a1:I64):Tr (T2 I64 Bool):=
 .br (decide (a0.val<0)) (.leaf ⟨⟨0,rfl⟩,false⟩) (.br (decide (a1.val<0)) (.leaf ⟨⟨0,rfl⟩,false⟩) (let c1:=zbn a0 a1;.br (G_impl_WideSqrt c1) (let c2:=zcM c1;.leaf ⟨(Rng.w .i64 (c2.a.val)),c2.b⟩) (.bad)))
theorem r_impl_SqrtFloor (a0:I64) (a1:I64):Tb278.run B278 [enc a0,enc a1] (T2 I64 Bool)=(zdu a0 a1).opt:=by kernel_rfl
def zeD:I64->I64->T2 I64 Bool:=fun a0 a1=>(zdu a0 a1).get
def G_impl_SqrtFloor:I64->I64->Bool:=fun a0 a1=>(zdu a0 a1).opt.isSome
def E_impl_SqrtFloor:Ent Tryz.prog:= .of2 Tb278 B278 G_impl_SqrtFloor zeD fun a0 a1 h=>(r_impl_SqrtFloor a0 a1).trans (Tr.get_some h)
def B204:Bod Tryz.prog:=⟨204,Tryz.f204,Tryz.f204.body.getD .skip,Tryz.func204,by kernel_rfl,by kernel_rfl,zam.no _ _⟩
def Tb204:Tb Tryz.prog:= {T:= [],mix:=mix,Es:= [zee,E_impl_fixed,E_impl_SqrtFloor],Bs:= [],d:=1}
def zd7 (a0:I64):Tr (T2 I64 Bool):=
 .br (!(za2 a0)) (.leaf ⟨⟨0,rfl⟩,false⟩) (.br (G_impl_SqrtFloor a0 ⟨4294967296,rfl⟩) (let c2:=zeD a0 ⟨4294967296,rfl⟩;let c3:=zca c2.a c2.b;.leaf ⟨c3.a,c3.b⟩) (.bad))
theorem r_impl_SqrtDown (a0:I64):Tb204.run B204 [enc a0] (T2 I64 Bool)=(zd7 a0).opt:=by kernel_rfl
def zec:I64->T2 I64 Bool:=fun a0=>(zd7 a0).get
def zff:I64->Bool:=fun a0=>(zd7 a0).opt.isSome
def E_impl_SqrtDown:Ent Tryz.prog:= .of1 Tb204 B204 zff zec fun a0 h=>(r_impl_SqrtDown a0).trans (Tr.get_some h)
def B205:Bod Tryz.prog:=⟨205,Tryz.f205,Tryz.f205.body.getD .skip,Tryz.func205,by kernel_rfl,by kernel_rfl,zam.no _ _⟩
def Tb205:Tb Tryz.prog:= {T:= [Y2,Y132,Y148],mix:=mix,Es:= [E_impl_SqrtDown,zeP,E_impl_fixed],Bs:= [],d:=1}
def zen (a0:I64):Tr (T2 I64 Bool):=
 .br (zff a0) (let c1:=zec a0;.br c1.b (let c2:=zbn c1.a c1.a;let c3:=zbn a0 ⟨4294967296,rfl⟩;.br (!((c2.hi.val==c3.hi.val)&&((c2.lo.val==c3.lo.val)&&true))) (let c6:=zca (Rng.w .i64 (c1.a.val+1)) c1.b;.leaf ⟨c6.a,c6.b⟩) (let c7:=zca c1.a c1.b;.leaf ⟨c7.a,c7.b⟩)) (let c8:=zca c1.a c1.b;.leaf ⟨c8.a,c8.b⟩)) (.bad)
theorem r_impl_SqrtUp (a0:I64):Tb205.run B205 [enc a0] (T2 I64 Bool)=(zen a0).opt:=by kernel_rfl
def zfJ:I64->T2 I64 Bool:=fun a0=>(zen a0).get
def G_impl_SqrtUp:I64->Bool:=fun a0=>(zen a0).opt.isSome
def E_impl_SqrtUp:Ent Tryz.prog:= .of1 Tb205 B205 G_impl_SqrtUp zfJ fun a0 h=>(r_impl_SqrtUp a0).trans (Tr.get_some h)
def B121:Bod Tryz.prog:=⟨121,Tryz.f121,Tryz.f121.body.getD .skip,Tryz.func121,by kernel_rfl,by kernel_rfl,zam.no _ _⟩
def Tb121:Tb Tryz.prog:= {T:= [Y2,Y30],mix:=mix,Es:= [zce,zaR,zdb,E_impl_SqrtDown,E_impl_SqrtUp],Bs:= [],d:=1}
def t_impl_SqrtI (a0:Iv):Tr (Iv):=
 .br (zau a0) (.leaf zT) (.br (decide (a0.lo.val<0)) (.leaf zT) (.br (zff a0.lo) (let c4:=zec a0.lo;.br (G_impl_SqrtUp a0.hi) (let c5:=zfJ a0.hi;.br c4.b (.leaf (za4 c4.a c5.a c5.b)) (.leaf (za4 c4.a c5.a false))) (.bad)) (.bad)))
theorem r_impl_SqrtI (a0:Iv):Tb121.run B121 [enc a0] (Iv)=(t_impl_SqrtI a0).opt:=by kernel_rfl
def F_impl_SqrtI:Iv->Iv:=fun a0=>(t_impl_SqrtI a0).get
end
end Go.Proofs.YtfcjhkkpbnobhaaGreat.Ev
namespace Go.Proofs.YtfcjhkkpbnobhaaGreat.Ev
open Go
theorem or_zero (x:U64):(Rng.w .u64 (zbe .or .u64 x.val 0)).val=x.val:=by
 have b:=x.ubd
 rw [or_add 0 x.val.toNat (by simp;omega) (by omega) (by decide) (by omega)]
 rw [wu (by omega) (by omega)];omega
theorem shift_ok (w:Wide) (n:I64) (h:0<=n.val/\n.val<=127):(zex w n).opt=some (zcI w n):=by
 have hw:za3 n ⟨0,rfl⟩ ⟨127,rfl⟩=true:=by rw [zdA];simpa using h
 have en:(Rng.w .u64 n.val).val=n.val:=wu (by omega) (by omega)
 simp only [zex,Tr.opt,hw,Bool.not_true,cond_false,zcI,zeZ,Tr.get,en]
 by_cases h64:n.val>=64
 ·have e0:(n.val==0)=false:=by simp;omega
  have e1:decide (n.val<64)=false:=by simp;omega
  have e2:(Rng.w .i64 (n.val-64)).val=n.val-64:=wi (by omega) (by omega)
  have e3:decide ((Rng.w .i64 (n.val-64)).val<0)=false:=by rw [e2];simp;omega
  have e4:(Rng.w .u64 (Rng.w .i64 (n.val-64)).val).val=(Rng.w .i64 (n.val-64)).val:=by rw [e2];exact wu (by omega) (by omega)
  simp only [h64,decide_true,cond_true,e0,e1,e3,cond_false,e4]
 ·have e1:decide (n.val<64)=true:=by simp;omega
  have e2:decide (n.val<0)=false:=by simp;omega
  have e3:(Rng.w .i64 (64-n.val)).val=64-n.val:=wi (by omega) (by omega)
  have e4:decide ((Rng.w .i64 (64-n.val)).val<0)=false:=by rw [e3];simp;omega
  have e5:(Rng.w .u64 (Rng.w .i64 (64-n.val)).val).val=(Rng.w .i64 (64-n.val)).val:=by rw [e3];exact wu (by omega) (by omega)
  simp only [h64,decide_false,cond_false,e1,e2,e4,e5,cond_true]
  by_cases h0:n.val=0
  ·have e0:(n.val==0)=true:=by simp [h0]
   simp only [e0,cond_true]
   rw [h0]
   congr 1
   apply wide_ext
   have bl:=w.lo.ubd
   have k1:min (Int.toNat 0) 64=0:=by rfl
   have k2:min (Rng.w .i64 (64-0)).val.toNat 64=64:=by rfl
   have k3:(2:Int)^64=18446744073709551616:=by decide
   have k4:(Rng.w .u64 (w.lo.val.fdiv (2^0)))=w.lo:=by rw [show (2:Int)^0=1 by rfl,Int.fdiv_one];exact Rng.w_val _
   have k5:(Rng.w .u64 ((Rng.w .u64 w.hi.val).val*18446744073709551616)).val=0:=by rw [zba];omega
   have k6:Rng.w .i64 (w.hi.val.fdiv (2^0))=w.hi:=by rw [show (2:Int)^0=1 by rfl,Int.fdiv_one];exact Rng.w_val _
   simp only [k1,k2,k3,k4,k5,k6,wv,or_zero]
  ·have e0:(n.val==0)=false:=by simp [h0]
   simp only [e0,cond_false]
theorem shift_F (w:Wide) (n:I64) (h:0<=n.val/\n.val<=127):F_impl_WideShift w n=zcI w n:=Tr.zaY (shift_ok w n h)
theorem shift_G (w:Wide) (n:I64) (h:0<=n.val/\n.val<=127):G_impl_WideShift w n=true:=by unfold G_impl_WideShift;rw [shift_ok w n h];rfl
theorem mulfloor_ok (a b n:I64):(zd8 a b n).opt=some (zaL a b n):=by
 simp only [zd8,Tr.opt,zaL,ze3,Tr.get,zdA,zfQ,mul_impl,mul_spec,int_impl,int_spec]
 by_cases h:0<=n.val/\n.val<=126
 ·have h':0<=n.val/\n.val<=127:=by omega
  simp only [h,and_self,decide_true,Bool.not_true,cond_false,shift_F _ _ h',shift_G _ _ h',cond_true]
 ·simp only [h,decide_false,Bool.not_false,cond_true]
theorem mulfloor_F (a b n:I64):zdm a b n=zaL a b n:=Tr.zaY (mulfloor_ok a b n)
theorem mulfloor_G (a b n:I64):G_impl_MulFloor a b n=true:=by unfold G_impl_MulFloor;rw [mulfloor_ok];rfl
theorem okfix_eq (a:I64):za2 a=zK a:=by
 simp only [za2,ze7,zK,zdB,Tr.get,zdA,zfQ]
theorem muldown_ok (a b:I64):(t_impl_MulDown a b).opt=some (zJ a b):=by
 simp only [t_impl_MulDown,Tr.opt,zJ,zbr,Tr.get,okfix_eq,mulfloor_F,mulfloor_G,end_eq,cond_true]
 cases zK a<;>cases zK b<;>rfl
theorem muldown_F (a b:I64):zc9 a b=zJ a b:=Tr.zaY (muldown_ok a b)
theorem muldown_G (a b:I64):zcA a b=true:=by unfold zcA;rw [muldown_ok];rfl
theorem end_cases (a:I64) (b:Bool):zat a b=⟨⟨0,rfl⟩,false⟩\/(zat a b=⟨a,true⟩/\zK a=true):=by
 simp only [zat,zcg,Tr.get]
 cases b
 ·left;rfl
 ·cases h:zK a
  ·left;rfl
  ·right;exact ⟨rfl,rfl⟩
theorem zeq (a b:I64):zJ a b=⟨⟨0,rfl⟩,false⟩\/∃c,zJ a b=⟨c,true⟩/\zK c=true:=by
 simp only [zJ,zbr,Tr.get]
 cases zK a
 ·left;rfl
 ·cases zK b
  ·left;rfl
  ·simp only [Bool.not_true,cond_false]
   rcases end_cases (zaL a b ⟨32,rfl⟩).a (zaL a b ⟨32,rfl⟩).b with h|⟨h,k⟩
   ·left;rw [h]
   ·right;exact ⟨_,h,k⟩
theorem muldown_bad (a b:I64) (h:zK b=false):zJ a b=⟨⟨0,rfl⟩,false⟩:=by
 simp only [zJ,zbr,Tr.get,h]
 cases zK a<;>rfl
theorem mulup_ok (a b:I64):(t_impl_MulUp a b).opt=some (zW a b):=by
 simp only [t_impl_MulUp,Tr.opt,zW,zcD,Tr.get,okfix_eq,muldown_F,muldown_G,cond_true]
 cases zK a
 ·rfl
 ·simp only [Bool.not_true,cond_false]
  cases hb:zK b
  ·rw [muldown_bad _ _ hb];rfl
  ·simp only [Bool.not_true,cond_false]
   rcases zeq (.w .i64 (0-a.val)) b with h|⟨c,h,_⟩<;>rw [h]<;>rfl
theorem mulup_F (a b:I64):zfl a b=zW a b:=Tr.zaY (mulup_ok a b)
theorem mulup_G (a b:I64):zei a b=true:=by unfold zei;rw [mulup_ok];rfl
theorem divdown_F (a b:I64):zcC a b=zM a b:=by
 simp only [zcC,t_impl_DivDown,zM,zbs,Tr.get,okfix_eq,md_F_impl,zeA,end_eq]
 cases zK a
 ·rfl
 ·cases zK b
  ·rfl
  ·simp only [Bool.not_true,cond_false]
   by_cases h0:b.val=0
   ·have e0:(b.val==0)=true:=by simp [h0]
    have e1:decide (b.val<0)=false:=by simp [h0]
    simp only [e0,e1,cond_true,cond_false,MD]
    rw [if_neg (by omega)]
    simp only [end_no]
   ·have e0:(b.val==0)=false:=by simp [h0]
    simp only [e0,cond_false]
theorem zes (a b:I64):zM a b=⟨⟨0,rfl⟩,false⟩\/∃c,zM a b=⟨c,true⟩/\zK c=true:=by
 simp only [zM,zbs,Tr.get,zeA]
 cases zK a
 ·left;rfl
 ·cases zK b
  ·left;rfl
  ·simp only [Bool.not_true,cond_false]
   cases (b.val==0)
   ·simp only [cond_false]
    cases decide (b.val<0)
    ·simp only [cond_false]
     rcases end_cases (MD a ⟨4294967296,rfl⟩ b).a (MD a ⟨4294967296,rfl⟩ b).b with h|⟨h,k⟩
     ·left;rw [h]
     ·right;exact ⟨_,h,k⟩
    ·simp only [cond_true]
     rcases end_cases (MD (.w .i64 (0-a.val)) ⟨4294967296,rfl⟩ (.w .i64 (0-b.val))).a (MD (.w .i64 (0-a.val)) ⟨4294967296,rfl⟩ (.w .i64 (0-b.val))).b with h|⟨h,k⟩
     ·left;rw [h]
     ·right;exact ⟨_,h,k⟩
   ·left;rfl
theorem divdown_bad (a b:I64) (h:zK b=false):zM a b=⟨⟨0,rfl⟩,false⟩:=by
 simp only [zM,zbs,Tr.get,h]
 cases zK a<;>rfl
theorem divup_F (a b:I64):zej a b=zad a b:=by
 simp only [zej,t_impl_DivUp,zad,zcE,Tr.get,okfix_eq,divdown_F]
 cases zK a
 ·rfl
 ·simp only [Bool.not_true,cond_false]
  cases hb:zK b
  ·rw [divdown_bad _ _ hb];rfl
  ·rfl
theorem min_eq (a b:I64):mn a b=zC a b:=by
 simp only [mn,zC,zfp,Tr.get]
 by_cases h:b.val<a.val
 ·have:decide (a.val<b.val)=false:=by simp;omega
  simp only [h,decide_true,cond_true,this,cond_false]
 ·by_cases h':a.val<b.val
  ·simp only [h,h',decide_true,decide_false,cond_true,cond_false]
  ·simp only [h,h',decide_false,cond_false];exact rext (by omega)
theorem max_eq (a b:I64):mx a b=zz a b:=by
 simp only [mx,zz,zfq,Tr.get]
 by_cases h:b.val>a.val
 ·have:decide (a.val>b.val)=false:=by simp;omega
  simp only [h,decide_true,cond_true,this,cond_false]
 ·by_cases h':a.val>b.val
  ·simp only [h,h',decide_true,decide_false,cond_true,cond_false]
  ·simp only [h,h',decide_false,cond_false];exact rext (by omega)
theorem ok_bd {a:I64} (h:zK a=true): -1152921504606846976<=a.val/\a.val<=1152921504606846976:=by
 simpa [zK,zdB,Tr.get,zfQ] using h
theorem min_top {a:I64} (h:zK a=true):zC ⟨1152921504606846976,rfl⟩ a=a:=by
 have:=ok_bd h
 simp only [zC,zfp,Tr.get]
 by_cases h:(1152921504606846976:Int)<a.val
 ·omega
 ·simp only [h,decide_false,cond_false]
theorem max_top {a:I64} (h:zK a=true):zz ⟨-1152921504606846976,rfl⟩ a=a:=by
 have:=ok_bd h
 simp only [zz,zfq,Tr.get]
 by_cases h:(-1152921504606846976:Int)>a.val
 ·omega
 ·simp only [h,decide_false,cond_false]
theorem min_self (a:I64):zC a a=a:=by
 simp only [zC,zfp,Tr.get];cases decide (a.val<a.val)<;>rfl
theorem max_self (a:I64):zz a a=a:=by
 simp only [zz,zfq,Tr.get];cases decide (a.val>a.val)<;>rfl
theorem areb_eq (a b:Iv):zbu a b=(zn a&&zn b):=by
 simp only [zbu,zfu,Tr.get,valid_eq]
 cases zn a<;>rfl
theorem ok_neg {c:I64} (h:zK c=true):zK (.w .i64 (0-c.val))=true:=by
 have:=ok_bd h
 simp only [zK,zdB,Tr.get,zfQ]
 rw [wi (by omega) (by omega)]
 simp;omega
theorem mulup_cases (a b:I64):(zW a b).b=false\/∃c,zW a b=⟨c,true⟩/\zK c=true:=by
 simp only [zW,zcD,Tr.get]
 cases zK a
 ·left;rfl
 ·rcases zeq (.w .i64 (0-a.val)) b with h|⟨c,h,k⟩
  ·left;rw [h];rfl
  ·right;rw [h];exact ⟨_,rfl,ok_neg k⟩
theorem divup_cases (a b:I64):(zad a b).b=false\/∃c,zad a b=⟨c,true⟩/\zK c=true:=by
 simp only [zad,zcE,Tr.get]
 cases zK a
 ·left;rfl
 ·rcases zes (.w .i64 (0-a.val)) b with h|⟨c,h,k⟩
  ·left;rw [h];rfl
  ·right;rw [h];exact ⟨_,rfl,ok_neg k⟩
theorem mulI_ok (a b:Iv):(t_impl_MulI a b).opt=some (zS a b):=by
 simp only [t_impl_MulI,Tr.opt,zS,t_spec_MulI,Tr.get,areb_eq,muldown_F,muldown_G,mulup_F,mulup_G,cond_true,zcw,bounded_eq,min_eq,max_eq]
 cases zn a
 ·rfl
 cases zn b
 ·rfl
 simp only [Bool.and_self,Bool.not_true,cond_false]
 rcases zeq a.lo b.lo with h|⟨c1,h,k1⟩
 ·rw [h];rfl
 rw [h]
 rcases mulup_cases a.lo b.lo with h|⟨d1,h,l1⟩
 ·simp only [h,Bool.not_true,Bool.not_false,cond_true,cond_false]
 rw [h]
 rcases zeq a.lo b.hi with h|⟨c2,h,k2⟩
 ·rw [h];rfl
 rw [h]
 rcases mulup_cases a.lo b.hi with h|⟨d2,h,l2⟩
 ·simp only [h,Bool.not_true,Bool.not_false,cond_true,cond_false]
 rw [h]
 rcases zeq a.hi b.lo with h|⟨c3,h,k3⟩
 ·rw [h];rfl
 rw [h]
 rcases mulup_cases a.hi b.lo with h|⟨d3,h,l3⟩
 ·simp only [h,Bool.not_true,Bool.not_false,cond_true,cond_false]
 rw [h]
 rcases zeq a.hi b.hi with h|⟨c4,h,k4⟩
 ·rw [h];rfl
 rw [h]
 rcases mulup_cases a.hi b.hi with h|⟨d4,h,l4⟩
 ·simp only [h,Bool.not_true,Bool.not_false,cond_true,cond_false]
 rw [h]
 simp only [Bool.not_true,cond_false,min_self,max_self,min_top k1,max_top l1]
theorem mulI_F (a b:Iv):zaz a b=zS a b:=Tr.zaY (mulI_ok a b)
theorem has_eq (a:Iv) (n:I64) (h:zn a=true):zdT a n=zaM a n:=by
 simp only [zdT,t_impl_HasI,zaM,zcf,Tr.get,zau,zc3,valid_eq,h,Bool.not_true,cond_false,zdA,zfQ]
theorem divI_F (a b:Iv):zbi a b=zL a b:=by
 simp only [zbi,t_impl_DivI,zL,ze4,Tr.get,areb_eq,divdown_F,divup_F,zcw,bounded_eq,min_eq,max_eq]
 cases ha:zn a
 ·rfl
 cases hb:zn b
 ·rfl
 simp only [Bool.and_self,Bool.not_true,cond_false,has_eq b _ hb]
 cases zaM b ⟨0,rfl⟩
 case true=>rfl
 simp only [cond_false]
 rcases zes a.lo b.lo with h|⟨c1,h,k1⟩
 ·rw [h];rfl
 rw [h]
 rcases divup_cases a.lo b.lo with h|⟨d1,h,l1⟩
 ·simp only [h,Bool.not_true,Bool.not_false,cond_true,cond_false]
 rw [h]
 rcases zes a.lo b.hi with h|⟨c2,h,k2⟩
 ·rw [h];rfl
 rw [h]
 rcases divup_cases a.lo b.hi with h|⟨d2,h,l2⟩
 ·simp only [h,Bool.not_true,Bool.not_false,cond_true,cond_false]
 rw [h]
 rcases zes a.hi b.lo with h|⟨c3,h,k3⟩
 ·rw [h];rfl
 rw [h]
 rcases divup_cases a.hi b.lo with h|⟨d3,h,l3⟩
 ·simp only [h,Bool.not_true,Bool.not_false,cond_true,cond_false]
 rw [h]
 rcases zes a.hi b.hi with h|⟨c4,h,k4⟩
 ·rw [h];rfl
 rw [h]
 rcases divup_cases a.hi b.hi with h|⟨d4,h,l4⟩
 ·simp only [h,Bool.not_true,Bool.not_false,cond_true,cond_false]
 rw [h]
 simp only [Bool.not_true,cond_false,cond_true,min_self,max_self,min_top k1,max_top l1]
theorem sqrI_ok (a:Iv):(t_impl_SqrI a).opt=some (zby a):=by
 simp only [t_impl_SqrI,Tr.opt,zby,t_spec_SqrI,Tr.get,muldown_F,muldown_G,mulup_F,mulup_G,cond_true,zcw,bounded_eq,zau,zc3,valid_eq]
 cases h:zn a
 ·rfl
 simp only [Bool.not_true,cond_false]
 have e:zdU a=⟨(zN a).a,(zN a).b⟩:=by
  simp only [zdU,t_impl_AbsI,zN,zc2,Tr.get,zau,zc3,valid_eq,h,Bool.not_true,cond_false,has_eq a _ h,max_eq,min_eq,zbp,t_impl_abs]
  cases zaM a ⟨0,rfl⟩<;>rfl
 rw [e]
 cases (zJ (zN a).a (zN a).a).b<;>cases (zW (zN a).b (zN a).b).b<;>rfl
theorem sqrI_F (a:Iv):F_impl_SqrI a=zby a:=Tr.zaY (sqrI_ok a)
theorem tt_mulfloor (a b n:I64):(zd8 a b n).opt=some (zdm a b n):=zep (mulfloor_ok a b n)
theorem tt_mulI (a b:Iv):(t_impl_MulI a b).opt=some (zaz a b):=zep (mulI_ok a b)
theorem tt_sqrI (a:Iv):(t_impl_SqrI a).opt=some (F_impl_SqrI a):=zep (sqrI_ok a)
end Go.Proofs.YtfcjhkkpbnobhaaGreat.Ev
namespace Go.Proofs.YtfcjhkkpbnobhaaGreat.Ev
open Go
theorem root_loop (hi:I64) (lo:U64):∀(k m:Nat) (r:U64) (i:I64),k<=64->i.val=(k:Int)-1->
  ∃q:U64,(Lf zbH (k+1+m) ⟨r,i,hi,lo⟩).opt=some ⟨q,.w .i64 (-1),hi,lo⟩/\(Lf zdd (k+1+m) ⟨r,i,hi,lo⟩).opt=some ⟨q,.w .i64 (-1),hi,lo⟩:=by
 intro k
 induction k with
 | zero=>
  intro m r i _ hi'
  have h0:decide (i.val>=0)=false:=by simp;omega
  have e:i= .w .i64 (-1):=rext (by rw [wi (by omega) (by omega)];omega)
  refine ⟨r,?_,?_⟩
  ·simp only [Lf,zbH,h0,Tr.bind,Tr.opt,cond_false,Nat.zero_add,Nat.add_comm 1 m,<- e]
  ·simp only [Lf,zdd,h0,Tr.bind,Tr.opt,cond_false,Nat.zero_add,Nat.add_comm 1 m,<- e]
 | succ k ih=>
  intro m r i hk hi'
  have h0:decide (i.val>=0)=true:=by simp;omega
  have h1:decide (i.val<0)=false:=by simp;omega
  have en:(Rng.w .u64 i.val).val=i.val:=wu (by omega) (by omega)
  have e1:(Rng.w .i64 (i.val-1)).val=(k:Int)-1:=by rw [wi (by omega) (by omega)];omega
  have hfuel:k+1+1+m=(k+1+m)+1:=by omega
  obtain ⟨q1,a1,b1⟩:=ih m (Rng.w .u64 (zbe .or .u64 r.val (Rng.w .u64 (1*(2^min (i.val).toNat 64))).val)) (.w .i64 (i.val-1)) (by omega) e1
  obtain ⟨q2,a2,b2⟩:=ih m r (.w .i64 (i.val-1)) (by omega) e1
  rw [hfuel]
  simp only [Lf,zbH,zdd,h0,h1,en,times_spec,times_impl,Tr.bind,Tr.opt,cond_true,cond_false,a1,b1,a2,b2]
  generalize decide ((Rng.w .u64 _).val<_)=c1
  generalize ((Rng.w .u64 _).val==_)=c2
  generalize decide ((Rng.w .u64 _).val<=_)=c3
  cases c1
  ·cases c2
   ·exact ⟨q2,rfl,rfl⟩
   ·cases c3
    ·exact ⟨q2,rfl,rfl⟩
    ·exact ⟨q1,rfl,rfl⟩
  ·exact ⟨q1,rfl,rfl⟩
theorem root_ok (w:Wide):(zcy w).opt=some (zF w)/\(zd6 w).opt=some (bif decide (w.hi.val<0) then ⟨⟨0,rfl⟩,false⟩ else ⟨zF w,true⟩):=by
 obtain ⟨q,h1,h2⟩:=root_loop w.hi w.lo 64 1 ⟨0,rfl⟩ ⟨63,rfl⟩ (by omega) (by rfl)
 have hf:(64+1+1:Nat)=66:=rfl
 rw [hf] at h1 h2
 have g1:zdx ⟨⟨0,rfl⟩,⟨63,rfl⟩,w.hi,w.lo⟩=true:=by unfold zdx;rw [h1];rfl
 have g2:zfC ⟨⟨0,rfl⟩,⟨63,rfl⟩,w.hi,w.lo⟩=true:=by unfold zfC;rw [h2];rfl
 have l1:L_spec_l02Root_3 ⟨⟨0,rfl⟩,⟨63,rfl⟩,w.hi,w.lo⟩=_:=Tr.zaY h1
 have l2:L_impl_WideSqrt_5 ⟨⟨0,rfl⟩,⟨63,rfl⟩,w.hi,w.lo⟩=_:=Tr.zaY h2
 have k1:(zcy w).opt=some q:=by simp only [zcy,Tr.opt,g1,l1,cond_true]
 have k2:zF w=q:=Tr.zaY k1
 refine ⟨by rw [k1,k2],?_⟩
 simp only [zd6,Tr.opt,g2,l2,cond_true,k2]
 cases decide (w.hi.val<0)<;>rfl
theorem root_G (w:Wide):G_spec_l02Root w=true:=by unfold G_spec_l02Root;rw [(root_ok w).1];rfl
theorem wsqrt_G (w:Wide):G_impl_WideSqrt w=true:=by unfold G_impl_WideSqrt;rw [(root_ok w).2];rfl
theorem tt_root_spec (w:Wide):(zcy w).opt=some (zF w):=(root_ok w).1
theorem tt_wsqrt_impl (w:Wide):(zd6 w).opt=some (zcM w):=zep (root_ok w).2
theorem tt_sf_spec (a b:I64):(zdq a b).opt=some (zeC a b):=opt_self2 (by
 simp only [zdq,Tr.opt,root_G,cond_true]
 cases decide (a.val<0)<;>cases decide (b.val<0)<;>rfl)
theorem tt_sf_impl (a b:I64):(zdu a b).opt=some (zeD a b):=opt_self2 (by
 simp only [zdu,Tr.opt,wsqrt_G,cond_true]
 cases decide (a.val<0)<;>cases decide (b.val<0)<;>rfl)
theorem sf_G_spec (a b:I64):G_spec_SqrtFloor a b=true:=by unfold G_spec_SqrtFloor;rw [tt_sf_spec];rfl
theorem sf_G_impl (a b:I64):G_impl_SqrtFloor a b=true:=by unfold G_impl_SqrtFloor;rw [tt_sf_impl];rfl
theorem tt_sd_spec (a:I64):(zcP a).opt=some (zbV a):=opt_self2 (by
 simp only [zcP,Tr.opt,sf_G_spec,cond_true]
 cases zaJ a ⟨0,rfl⟩ ⟨1152921504606846976,rfl⟩<;>rfl)
theorem tt_sd_impl (a:I64):(zd7 a).opt=some (zec a):=opt_self2 (by
 simp only [zd7,Tr.opt,sf_G_impl,cond_true]
 cases za2 a<;>rfl)
theorem sd_G_spec (a:I64):zdE a=true:=by unfold zdE;rw [tt_sd_spec];rfl
theorem sd_G_impl (a:I64):zff a=true:=by unfold zff;rw [tt_sd_impl];rfl
theorem cond_some {γ:Type} (c:Bool) (x y:Option γ) (hx:x.isSome=true) (hy:y.isSome=true):(bif c then x else y).isSome=true:=by cases c<;>assumption
theorem tt_su_spec (a:I64):(zbZ a).opt=some (zbJ a):=opt_self2 (by
 simp only [zbZ,Tr.opt,sd_G_spec,cond_true]
 repeat' (first|apply cond_some|rfl))
theorem tt_su_impl (a:I64):(zen a).opt=some (zfJ a):=opt_self2 (by
 simp only [zen,Tr.opt,sd_G_impl,cond_true]
 repeat' (first|apply cond_some|rfl))
theorem su_G_spec (a:I64):G_spec_l03SqrtUp a=true:=by unfold G_spec_l03SqrtUp;rw [tt_su_spec];rfl
theorem su_G_impl (a:I64):G_impl_SqrtUp a=true:=by unfold G_impl_SqrtUp;rw [tt_su_impl];rfl
theorem tt_sqrtI_spec (a:Iv):(ze1 a).opt=some (zb7 a):=opt_self2 (by
 simp only [ze1,Tr.opt,sd_G_spec,su_G_spec,cond_true]
 repeat' (first|apply cond_some|rfl))
theorem tt_sqrtI_impl (a:Iv):(t_impl_SqrtI a).opt=some (F_impl_SqrtI a):=opt_self2 (by
 simp only [t_impl_SqrtI,Tr.opt,sd_G_impl,su_G_impl,cond_true]
 repeat' (first|apply cond_some|rfl))
end Go.Proofs.YtfcjhkkpbnobhaaGreat.Ev
namespace Go.Proofs.YtfcjhkkpbnobhaaGreat.Ev
open Go Go.RowKit
set_option maxRecDepth 100000
section
def ET_spec_l02Root:Ent Tryz.prog:= .of1 Tb267 B267 (fun _=>true) zF fun a0 _=>(r_spec_l02Root a0).trans (tt_root_spec a0)
def ET_impl_WideSqrt:Ent Tryz.prog:= .of1 Tb258 B258 (fun _=>true) zcM fun a0 _=>(r_impl_WideSqrt a0).trans (tt_wsqrt_impl a0)
def ET_spec_SqrtI:Ent Tryz.prog:= .of1 Tb126 B126 (fun _=>true) zb7 fun a0 _=>(r_spec_SqrtI a0).trans (tt_sqrtI_spec a0)
def ET_impl_SqrtI:Ent Tryz.prog:= .of1 Tb121 B121 (fun _=>true) F_impl_SqrtI fun a0 _=>(r_impl_SqrtI a0).trans (tt_sqrtI_impl a0)
def ET_impl_MulFloor:Ent Tryz.prog:= .of3 Tb275 B275 (fun _ _ _=>true) zdm fun a0 a1 a2 _=>(r_impl_MulFloor a0 a1 a2).trans (tt_mulfloor a0 a1 a2)
def ET_impl_MulI:Ent Tryz.prog:= .of2 Tb116 B116 (fun _ _=>true) zaz fun a0 a1 _=>(r_impl_MulI a0 a1).trans (tt_mulI a0 a1)
def ET_impl_SqrI:Ent Tryz.prog:= .of1 Tb206 B206 (fun _=>true) F_impl_SqrI fun a0 _=>(r_impl_SqrI a0).trans (tt_sqrI a0)
def B107:Bod Tryz.prog:=⟨107,Tryz.f107,Tryz.f107.body.getD .skip,Tryz.func107,by kernel_rfl,by kernel_rfl,zam.no _ _⟩
def Tb107_p:Tb Tryz.prog:= {T:= [Y2,Y30],mix:=mix,Es:= [E_spec_MulFloor],Bs:= [],d:=1}
def zcR (a0:I64):Tr (Iv):=
 .br (a0.val==0) (.leaf ⟨⟨0,rfl⟩,⟨0,rfl⟩⟩) (.br (decide (a0.val<0)) (.bad) (let c2:=zaL a0 ⟨7244019458077122842,rfl⟩ ⟨30,rfl⟩;.leaf ⟨c2.a,(Rng.w .i64 (c2.a.val+1))⟩))
theorem r_spec_l05Turn_p (a0:I64):Tb107_p.run B107 [enc a0] (Iv)=(zcR a0).opt:=by kernel_rfl
def zbI:I64->Iv:=fun a0=>(zcR a0).get
def zdw:I64->Bool:=fun a0=>(zcR a0).opt.isSome
def E_spec_l05Turn_p:Ent Tryz.prog:= .of1 Tb107_p B107 zdw zbI fun a0 h=>(r_spec_l05Turn_p a0).trans (Tr.get_some h)
def Tb107:Tb Tryz.prog:= {T:= [Y2,Y30],mix:=mix,Es:= [E_spec_l05Turn_p,E_spec_MulFloor],Bs:= [],d:=1}
def zcx (a0:I64):Tr (Iv):=
 .br (a0.val==0) (.leaf ⟨⟨0,rfl⟩,⟨0,rfl⟩⟩) (.br (decide (a0.val<0)) (let c1:=(Rng.w .i64 (0-a0.val));.br (zdw c1) (let c2:=zbI c1;.leaf ⟨(Rng.w .i64 (0-c2.hi.val)),(Rng.w .i64 (0-c2.lo.val))⟩) (.bad)) (let c5:=zaL a0 ⟨7244019458077122842,rfl⟩ ⟨30,rfl⟩;.leaf ⟨c5.a,(Rng.w .i64 (c5.a.val+1))⟩))
theorem r_spec_l05Turn (a0:I64):Tb107.run B107 [enc a0] (Iv)=(zcx a0).opt:=by kernel_rfl
def zbk:I64->Iv:=fun a0=>(zcx a0).get
def zcd:I64->Bool:=fun a0=>(zcx a0).opt.isSome
def E_spec_l05Turn:Ent Tryz.prog:= .of1 Tb107 B107 zcd zbk fun a0 h=>(r_spec_l05Turn a0).trans (Tr.get_some h)
def B51:Bod Tryz.prog:=⟨51,Tryz.f51,Tryz.f51.body.getD .skip,Tryz.func51,by kernel_rfl,by kernel_rfl,zam.no _ _⟩
def Tb51:Tb Tryz.prog:= {T:= [Y2,Y30],mix:=mix,Es:= [zda,E_spec_l05Turn,zdH],Bs:= [],d:=1}
def ze0 (a0:I64):Tr (Iv):=
 .br (!(zaJ a0 ⟨(-4096),rfl⟩ ⟨4096,rfl⟩)) (.leaf zaP) (.br (zcd a0) (.leaf (zbk a0)) (.bad))
theorem r_spec_TurnI (a0:I64):Tb51.run B51 [enc a0] (Iv)=(ze0 a0).opt:=by kernel_rfl
def zY:I64->Iv:=fun a0=>(ze0 a0).get
def B240:Bod Tryz.prog:=⟨240,Tryz.f240,Tryz.f240.body.getD .skip,Tryz.func240,by kernel_rfl,by kernel_rfl,zam.no _ _⟩
def Tb240_p:Tb Tryz.prog:= {T:= [Y2,Y30],mix:=mix,Es:= [zaR,zco,ET_impl_MulFloor],Bs:= [],d:=1}
def zeI (a0:I64):Tr (Iv):=
 .br (!(za3 a0 ⟨(-4096),rfl⟩ ⟨4096,rfl⟩)) (.leaf zT) (.br (decide (a0.val<0)) (.bad) (.br (a0.val==0) (.leaf ⟨⟨0,rfl⟩,⟨0,rfl⟩⟩) (let c4:=zdm a0 ⟨7244019458077122842,rfl⟩ ⟨30,rfl⟩;.leaf ⟨c4.a,(Rng.w .i64 (c4.a.val+1))⟩)))
theorem r_impl_TurnI_p (a0:I64):Tb240_p.run B240 [enc a0] (Iv)=(zeI a0).opt:=by kernel_rfl
def F_impl_TurnI_p:I64->Iv:=fun a0=>(zeI a0).get
def G_impl_TurnI_p:I64->Bool:=fun a0=>(zeI a0).opt.isSome
def E_impl_TurnI_p:Ent Tryz.prog:= .of1 Tb240_p B240 G_impl_TurnI_p F_impl_TurnI_p fun a0 h=>(r_impl_TurnI_p a0).trans (Tr.get_some h)
def Tb240:Tb Tryz.prog:= {T:= [Y2,Y30],mix:=mix,Es:= [zaR,zco,E_impl_NegI,E_impl_TurnI_p,ET_impl_MulFloor],Bs:= [],d:=1}
def zeg (a0:I64):Tr (Iv):=
 .br (!(za3 a0 ⟨(-4096),rfl⟩ ⟨4096,rfl⟩)) (.leaf zT) (.br (decide (a0.val<0)) (let c3:=(Rng.w .i64 (0-a0.val));.br (G_impl_TurnI_p c3) (.leaf (zdR (F_impl_TurnI_p c3))) (.bad)) (.br (a0.val==0) (.leaf ⟨⟨0,rfl⟩,⟨0,rfl⟩⟩) (let c6:=zdm a0 ⟨7244019458077122842,rfl⟩ ⟨30,rfl⟩;.leaf ⟨c6.a,(Rng.w .i64 (c6.a.val+1))⟩)))
theorem r_impl_TurnI (a0:I64):Tb240.run B240 [enc a0] (Iv)=(zeg a0).opt:=by kernel_rfl
def za5:I64->Iv:=fun a0=>(zeg a0).get
def B260:Bod Tryz.prog:=⟨260,Tryz.f260,Tryz.f260.body.getD .skip,Tryz.func260,by kernel_rfl,by kernel_rfl,zam.no _ _⟩
def Tb260:Tb Tryz.prog:= {T:= [],mix:=mix,Es:= [zda],Bs:= [],d:=1}
def zdh (a0:I64):Tr (Bool):=
 .leaf (zaJ a0 ⟨(-1099511627776),rfl⟩ ⟨1099511627776,rfl⟩)
theorem r_spec_l06Angle (a0:I64):Tb260.run B260 [enc a0] (Bool)=(zdh a0).opt:=by kernel_rfl
def za0:I64->Bool:=fun a0=>(zdh a0).get
theorem u_spec_l06Angle (a0:I64):(zdh a0).opt=some (za0 a0):=Tr.zR (by kernel_rfl)
def E_spec_l06Angle:Ent Tryz.prog:= .of1 Tb260 B260 (fun _=>true) za0 fun a0 _=>(r_spec_l06Angle a0).trans (u_spec_l06Angle a0)
def B265:Bod Tryz.prog:=⟨265,Tryz.f265,Tryz.f265.body.getD .skip,Tryz.func265,by kernel_rfl,by kernel_rfl,zam.no _ _⟩
def Tb265:Tb Tryz.prog:= {T:= [],mix:=mix,Es:= [],Bs:= [],d:=1}
def zeY (a0:I64) (a1:I64):Tr (I64):=
 .br (a1.val==0) (.bad) (let c1:=(Rng.w .i64 (a0.val.tdiv a1.val));.br (a1.val==0) (.bad) (.br (decide ((Rng.w .i64 (a0.val.tmod a1.val)).val<0)) (.leaf (Rng.w .i64 (c1.val-1))) (.leaf c1)))
theorem r_spec_l06Floor (a0:I64) (a1:I64):Tb265.run B265 [enc a0,enc a1] (I64)=(zeY a0 a1).opt:=by kernel_rfl
def F_spec_l06Floor:I64->I64->I64:=fun a0 a1=>(zeY a0 a1).get
def G_spec_l06Floor:I64->I64->Bool:=fun a0 a1=>(zeY a0 a1).opt.isSome
def E_spec_l06Floor:Ent Tryz.prog:= .of2 Tb265 B265 G_spec_l06Floor F_spec_l06Floor fun a0 a1 h=>(r_spec_l06Floor a0 a1).trans (Tr.get_some h)
def B185:Bod Tryz.prog:=⟨185,Tryz.f185,Tryz.f185.body.getD .skip,Tryz.func185,by kernel_rfl,by kernel_rfl,zam.no _ _⟩
def Tb185:Tb Tryz.prog:= {T:= [],mix:=mix,Es:= [E_spec_l06Angle,E_spec_l06Floor],Bs:= [],d:=1}
def zds (a0:I64):Tr (I64):=
 .br (!(za0 a0)) (.leaf ⟨0,rfl⟩) (let c2:=(Rng.w .i64 (a0.val+3373259426));.br (G_spec_l06Floor c2 ⟨6746518852,rfl⟩) (.leaf (F_spec_l06Floor c2 ⟨6746518852,rfl⟩)) (.bad))
theorem r_spec_QuarterOf (a0:I64):Tb185.run B185 [enc a0] (I64)=(zds a0).opt:=by kernel_rfl
def zar:I64->I64:=fun a0=>(zds a0).get
def B317:Bod Tryz.prog:=⟨317,Tryz.f317,Tryz.f317.body.getD .skip,Tryz.func317,by kernel_rfl,by kernel_rfl,zam.no _ _⟩
def Tb317:Tb Tryz.prog:= {T:= [],mix:=mix,Es:= [zco],Bs:= [],d:=1}
def t_impl_isAngle (a0:I64):Tr (Bool):=
 .leaf (za3 a0 ⟨(-1099511627776),rfl⟩ ⟨1099511627776,rfl⟩)
theorem r_impl_isAngle (a0:I64):Tb317.run B317 [enc a0] (Bool)=(t_impl_isAngle a0).opt:=by kernel_rfl
def zc8:I64->Bool:=fun a0=>(t_impl_isAngle a0).get
theorem u_impl_isAngle (a0:I64):(t_impl_isAngle a0).opt=some (zc8 a0):=Tr.zR (by kernel_rfl)
def E_impl_isAngle:Ent Tryz.prog:= .of1 Tb317 B317 (fun _=>true) zc8 fun a0 _=>(r_impl_isAngle a0).trans (u_impl_isAngle a0)
def B318:Bod Tryz.prog:=⟨318,Tryz.f318,Tryz.f318.body.getD .skip,Tryz.func318,by kernel_rfl,by kernel_rfl,zam.no _ _⟩
def Tb318:Tb Tryz.prog:= {T:= [],mix:=mix,Es:= [E_impl_isAngle],Bs:= [],d:=1}
def zez (a0:I64):Tr (I64):=
 .br (!(zc8 a0)) (.leaf ⟨0,rfl⟩) (let c3:=(Rng.w .i64 ((Rng.w .i64 (a0.val+3373259426)).val.tdiv 6746518852));.br (decide ((Rng.w .i64 (c3.val*6746518852)).val>(Rng.w .i64 (a0.val+3373259426)).val)) (.leaf (Rng.w .i64 (c3.val-1))) (.leaf c3))
theorem r_impl_QuarterOf (a0:I64):Tb318.run B318 [enc a0] (I64)=(zez a0).opt:=by kernel_rfl
def zb2:I64->I64:=fun a0=>(zez a0).get
theorem u_impl_QuarterOf (a0:I64):(zez a0).opt=some (zb2 a0):=Tr.zR (by kernel_rfl)
def E_impl_QuarterOf:Ent Tryz.prog:= .of1 Tb318 B318 (fun _=>true) zb2 fun a0 _=>(r_impl_QuarterOf a0).trans (u_impl_QuarterOf a0)
def B102:Bod Tryz.prog:=⟨102,Tryz.f102,Tryz.f102.body.getD .skip,Tryz.func102,by kernel_rfl,by kernel_rfl,zam.no _ _⟩
def Tb102:Tb Tryz.prog:= {T:= [Y2,Y30],mix:=mix,Es:= [zbd,zbo,E_spec_l00Min,E_spec_l00Max],Bs:= [],d:=1}
def zef (a0:Iv) (a1:Iv):Tr (T2 Iv Bool):=
 .br (!(zn a0)) (.br (!(zn a1)) (.leaf ⟨zA,true⟩) (.br (!(zn a0)) (.leaf ⟨a1,true⟩) (.br (!(zn a1)) (.leaf ⟨a0,true⟩) (let c6:=zz a0.lo a1.lo;let c7:=zC a0.hi a1.hi;.br (decide (c6.val>c7.val)) (.leaf ⟨⟨⟨0,rfl⟩,⟨0,rfl⟩⟩,false⟩) (.leaf ⟨⟨c6,c7⟩,true⟩))))) (.br (!(zn a0)) (.leaf ⟨a1,true⟩) (.br (!(zn a1)) (.leaf ⟨a0,true⟩) (let c11:=zz a0.lo a1.lo;let c12:=zC a0.hi a1.hi;.br (decide (c11.val>c12.val)) (.leaf ⟨⟨⟨0,rfl⟩,⟨0,rfl⟩⟩,false⟩) (.leaf ⟨⟨c11,c12⟩,true⟩))))
theorem r_spec_MeetI (a0:Iv) (a1:Iv):Tb102.run B102 [enc a0,enc a1] (T2 Iv Bool)=(zef a0 a1).opt:=by kernel_rfl
def zcJ:Iv->Iv->T2 Iv Bool:=fun a0 a1=>(zef a0 a1).get
theorem u_spec_MeetI (a0:Iv) (a1:Iv):(zef a0 a1).opt=some (zcJ a0 a1):=Tr.zR (by kernel_rfl)
def E_spec_MeetI:Ent Tryz.prog:= .of2 Tb102 B102 (fun _ _=>true) zcJ fun a0 a1 _=>(r_spec_MeetI a0 a1).trans (u_spec_MeetI a0 a1)
def B29:Bod Tryz.prog:=⟨29,Tryz.f29,Tryz.f29.body.getD .skip,Tryz.func29,by kernel_rfl,by kernel_rfl,zam.no _ _⟩
def Tb29:Tb Tryz.prog:= {T:= [Y2,Y30],mix:=mix,Es:= [E_spec_MeetI],Bs:= [],d:=1}
def zd2 (a0:Iv) (a1:Iv):Tr (Bool):=
 .leaf (zcJ a0 a1).b
theorem r_spec_OverlapI (a0:Iv) (a1:Iv):Tb29.run B29 [enc a0,enc a1] (Bool)=(zd2 a0 a1).opt:=by kernel_rfl
def zaK:Iv->Iv->Bool:=fun a0 a1=>(zd2 a0 a1).get
theorem u_spec_OverlapI (a0:Iv) (a1:Iv):(zd2 a0 a1).opt=some (zaK a0 a1):=Tr.zR (by kernel_rfl)
def E_spec_OverlapI:Ent Tryz.prog:= .of2 Tb29 B29 (fun _ _=>true) zaK fun a0 a1 _=>(r_spec_OverlapI a0 a1).trans (u_spec_OverlapI a0 a1)
def B242:Bod Tryz.prog:=⟨242,Tryz.f242,Tryz.f242.body.getD .skip,Tryz.func242,by kernel_rfl,by kernel_rfl,zam.no _ _⟩
def Tb242:Tb Tryz.prog:= {T:= [Y2,Y30],mix:=mix,Es:= [zce,zaR],Bs:= [],d:=1}
def t_impl_MeetI (a0:Iv) (a1:Iv):Tr (T2 Iv Bool):=
 .br (zau a0) (.br (zau a1) (.leaf ⟨zT,true⟩) (.br (zau a0) (.leaf ⟨a1,true⟩) (.br (zau a1) (.leaf ⟨a0,true⟩) (.br (decide ((mx a0.lo a1.lo).val>(mn a0.hi a1.hi).val)) (.leaf ⟨⟨⟨0,rfl⟩,⟨0,rfl⟩⟩,false⟩) (.leaf ⟨⟨(mx a0.lo a1.lo),(mn a0.hi a1.hi)⟩,true⟩))))) (.br (zau a0) (.leaf ⟨a1,true⟩) (.br (zau a1) (.leaf ⟨a0,true⟩) (.br (decide ((mx a0.lo a1.lo).val>(mn a0.hi a1.hi).val)) (.leaf ⟨⟨⟨0,rfl⟩,⟨0,rfl⟩⟩,false⟩) (.leaf ⟨⟨(mx a0.lo a1.lo),(mn a0.hi a1.hi)⟩,true⟩))))
theorem r_impl_MeetI (a0:Iv) (a1:Iv):Tb242.run B242 [enc a0,enc a1] (T2 Iv Bool)=(t_impl_MeetI a0 a1).opt:=by kernel_rfl
def F_impl_MeetI:Iv->Iv->T2 Iv Bool:=fun a0 a1=>(t_impl_MeetI a0 a1).get
theorem u_impl_MeetI (a0:Iv) (a1:Iv):(t_impl_MeetI a0 a1).opt=some (F_impl_MeetI a0 a1):=Tr.zR (by kernel_rfl)
def E_impl_MeetI:Ent Tryz.prog:= .of2 Tb242 B242 (fun _ _=>true) F_impl_MeetI fun a0 a1 _=>(r_impl_MeetI a0 a1).trans (u_impl_MeetI a0 a1)
def B322:Bod Tryz.prog:=⟨322,Tryz.f322,Tryz.f322.body.getD .skip,Tryz.func322,by kernel_rfl,by kernel_rfl,zam.no _ _⟩
def Tb322:Tb Tryz.prog:= {T:= [Y2,Y30],mix:=mix,Es:= [E_impl_MeetI],Bs:= [],d:=1}
def t_impl_OverlapI (a0:Iv) (a1:Iv):Tr (Bool):=
 .leaf (F_impl_MeetI a0 a1).b
theorem r_impl_OverlapI (a0:Iv) (a1:Iv):Tb322.run B322 [enc a0,enc a1] (Bool)=(t_impl_OverlapI a0 a1).opt:=by kernel_rfl
def zcN:Iv->Iv->Bool:=fun a0 a1=>(t_impl_OverlapI a0 a1).get
theorem u_impl_OverlapI (a0:Iv) (a1:Iv):(t_impl_OverlapI a0 a1).opt=some (zcN a0 a1):=Tr.zR (by kernel_rfl)
def E_impl_OverlapI:Ent Tryz.prog:= .of2 Tb322 B322 (fun _ _=>true) zcN fun a0 a1 _=>(r_impl_OverlapI a0 a1).trans (u_impl_OverlapI a0 a1)
def B56:Bod Tryz.prog:=⟨56,Tryz.f56,Tryz.f56.body.getD .skip,Tryz.func56,by kernel_rfl,by kernel_rfl,zam.no _ _⟩
def Tb56:Tb Tryz.prog:= {T:= [Y2,Y30],mix:=mix,Es:= [zbo],Bs:= [],d:=1}
def zdJ (a0:Iv) (a1:Iv):Tr (Bool):=
 .br (!(zn a1)) (.leaf true) (.br (zn a0) (.br (decide (a1.lo.val<=a0.lo.val)) (.leaf (decide (a0.hi.val<=a1.hi.val))) (.leaf false)) (.leaf false))
theorem r_spec_InsideI (a0:Iv) (a1:Iv):Tb56.run B56 [enc a0,enc a1] (Bool)=(zdJ a0 a1).opt:=by kernel_rfl
def zaZ:Iv->Iv->Bool:=fun a0 a1=>(zdJ a0 a1).get
theorem u_spec_InsideI (a0:Iv) (a1:Iv):(zdJ a0 a1).opt=some (zaZ a0 a1):=Tr.zR (by kernel_rfl)
def E_spec_InsideI:Ent Tryz.prog:= .of2 Tb56 B56 (fun _ _=>true) zaZ fun a0 a1 _=>(r_spec_InsideI a0 a1).trans (u_spec_InsideI a0 a1)
def B345:Bod Tryz.prog:=⟨345,Tryz.f345,Tryz.f345.body.getD .skip,Tryz.func345,by kernel_rfl,by kernel_rfl,zam.no _ _⟩
def Tb345:Tb Tryz.prog:= {T:= [Y2,Y30],mix:=mix,Es:= [zce],Bs:= [],d:=1}
def t_impl_InsideI (a0:Iv) (a1:Iv):Tr (Bool):=
 .br (zau a0) (.leaf (zau a1)) (.br (zau a1) (.leaf (zau a1)) (.br (decide (a1.lo.val<=a0.lo.val)) (.leaf (decide (a0.hi.val<=a1.hi.val))) (.leaf false)))
theorem r_impl_InsideI (a0:Iv) (a1:Iv):Tb345.run B345 [enc a0,enc a1] (Bool)=(t_impl_InsideI a0 a1).opt:=by kernel_rfl
def zdS:Iv->Iv->Bool:=fun a0 a1=>(t_impl_InsideI a0 a1).get
theorem u_impl_InsideI (a0:Iv) (a1:Iv):(t_impl_InsideI a0 a1).opt=some (zdS a0 a1):=Tr.zR (by kernel_rfl)
def E_impl_InsideI:Ent Tryz.prog:= .of2 Tb345 B345 (fun _ _=>true) zdS fun a0 a1 _=>(r_impl_InsideI a0 a1).trans (u_impl_InsideI a0 a1)
def B183:Bod Tryz.prog:=⟨183,Tryz.f183,Tryz.f183.body.getD .skip,Tryz.func183,by kernel_rfl,by kernel_rfl,zam.no _ _⟩
def Tb183:Tb Tryz.prog:= {T:= [Y2,Y30],mix:=mix,Es:= [zbd,zbL,zbo,E_spec_l00Min,E_spec_l00Max],Bs:= [],d:=1}
def t_spec_HullI (a0:Iv) (a1:Iv):Tr (Iv):=
 .br (!(zn a0)) (.leaf zA) (.br (!(zn a1)) (.leaf zA) (.leaf (zav (zC a0.lo a1.lo) (zz a0.hi a1.hi))))
theorem r_spec_HullI (a0:Iv) (a1:Iv):Tb183.run B183 [enc a0,enc a1] (Iv)=(t_spec_HullI a0 a1).opt:=by kernel_rfl
def zZ:Iv->Iv->Iv:=fun a0 a1=>(t_spec_HullI a0 a1).get
theorem u_spec_HullI (a0:Iv) (a1:Iv):(t_spec_HullI a0 a1).opt=some (zZ a0 a1):=Tr.zR (by kernel_rfl)
def E_spec_HullI:Ent Tryz.prog:= .of2 Tb183 B183 (fun _ _=>true) zZ fun a0 a1 _=>(r_spec_HullI a0 a1).trans (u_spec_HullI a0 a1)
def B175:Bod Tryz.prog:=⟨175,Tryz.f175,Tryz.f175.body.getD .skip,Tryz.func175,by kernel_rfl,by kernel_rfl,zam.no _ _⟩
def Tb175:Tb Tryz.prog:= {T:= [Y2,Y30],mix:=mix,Es:= [zdg,zaR],Bs:= [],d:=1}
def t_impl_HullI (a0:Iv) (a1:Iv):Tr (Iv):=
 .br (!(zbu a0 a1)) (.leaf zT) (.leaf ⟨(mn a0.lo a1.lo),(mx a0.hi a1.hi)⟩)
theorem r_impl_HullI (a0:Iv) (a1:Iv):Tb175.run B175 [enc a0,enc a1] (Iv)=(t_impl_HullI a0 a1).opt:=by kernel_rfl
def zay:Iv->Iv->Iv:=fun a0 a1=>(t_impl_HullI a0 a1).get
theorem u_impl_HullI (a0:Iv) (a1:Iv):(t_impl_HullI a0 a1).opt=some (zay a0 a1):=Tr.zR (by kernel_rfl)
def E_impl_HullI:Ent Tryz.prog:= .of2 Tb175 B175 (fun _ _=>true) zay fun a0 a1 _=>(r_impl_HullI a0 a1).trans (u_impl_HullI a0 a1)
def B34:Bod Tryz.prog:=⟨34,Tryz.f34,Tryz.f34.body.getD .skip,Tryz.func34,by kernel_rfl,by kernel_rfl,zam.no _ _⟩
def Tb34:Tb Tryz.prog:= {T:= [Y2,Y30],mix:=mix,Es:= [zbd,zbL,zbo],Bs:= [],d:=1}
def ze5 (a0:Iv) (a1:Iv):Tr (Iv):=
 .br (!(zn a0)) (.leaf zA) (.br (!(zn a1)) (.leaf zA) (.leaf (zav (Rng.w .i64 (a0.lo.val+a1.lo.val)) (Rng.w .i64 (a0.hi.val+a1.hi.val)))))
theorem r_spec_AddI (a0:Iv) (a1:Iv):Tb34.run B34 [enc a0,enc a1] (Iv)=(ze5 a0 a1).opt:=by kernel_rfl
def zan:Iv->Iv->Iv:=fun a0 a1=>(ze5 a0 a1).get
theorem u_spec_AddI (a0:Iv) (a1:Iv):(ze5 a0 a1).opt=some (zan a0 a1):=Tr.zR (by kernel_rfl)
def E_spec_AddI:Ent Tryz.prog:= .of2 Tb34 B34 (fun _ _=>true) zan fun a0 a1 _=>(r_spec_AddI a0 a1).trans (u_spec_AddI a0 a1)
def B86:Bod Tryz.prog:=⟨86,Tryz.f86,Tryz.f86.body.getD .skip,Tryz.func86,by kernel_rfl,by kernel_rfl,zam.no _ _⟩
def Tb86:Tb Tryz.prog:= {T:= [Y2,Y30],mix:=mix,Es:= [zdg,zaR,zdb],Bs:= [],d:=1}
def t_impl_AddI (a0:Iv) (a1:Iv):Tr (Iv):=
 .br (!(zbu a0 a1)) (.leaf zT) (.leaf (za4 (Rng.w .i64 (a0.lo.val+a1.lo.val)) (Rng.w .i64 (a0.hi.val+a1.hi.val)) true))
theorem r_impl_AddI (a0:Iv) (a1:Iv):Tb86.run B86 [enc a0,enc a1] (Iv)=(t_impl_AddI a0 a1).opt:=by kernel_rfl
def zbF:Iv->Iv->Iv:=fun a0 a1=>(t_impl_AddI a0 a1).get
theorem u_impl_AddI (a0:Iv) (a1:Iv):(t_impl_AddI a0 a1).opt=some (zbF a0 a1):=Tr.zR (by kernel_rfl)
def zfm:Ent Tryz.prog:= .of2 Tb86 B86 (fun _ _=>true) zbF fun a0 a1 _=>(r_impl_AddI a0 a1).trans (u_impl_AddI a0 a1)
def B65:Bod Tryz.prog:=⟨65,Tryz.f65,Tryz.f65.body.getD .skip,Tryz.func65,by kernel_rfl,by kernel_rfl,zam.no _ _⟩
def Tb65:Tb Tryz.prog:= {T:= [Y2,Y30],mix:=mix,Es:= [zbd,zbL,zbo],Bs:= [],d:=1}
def zek (a0:Iv) (a1:Iv):Tr (Iv):=
 .br (!(zn a0)) (.leaf zA) (.br (!(zn a1)) (.leaf zA) (.leaf (zav (Rng.w .i64 (a0.lo.val-a1.hi.val)) (Rng.w .i64 (a0.hi.val-a1.lo.val)))))
theorem r_spec_SubI (a0:Iv) (a1:Iv):Tb65.run B65 [enc a0,enc a1] (Iv)=(zek a0 a1).opt:=by kernel_rfl
def zac:Iv->Iv->Iv:=fun a0 a1=>(zek a0 a1).get
theorem u_spec_SubI (a0:Iv) (a1:Iv):(zek a0 a1).opt=some (zac a0 a1):=Tr.zR (by kernel_rfl)
def E_spec_SubI:Ent Tryz.prog:= .of2 Tb65 B65 (fun _ _=>true) zac fun a0 a1 _=>(r_spec_SubI a0 a1).trans (u_spec_SubI a0 a1)
def B119:Bod Tryz.prog:=⟨119,Tryz.f119,Tryz.f119.body.getD .skip,Tryz.func119,by kernel_rfl,by kernel_rfl,zam.no _ _⟩
def Tb119:Tb Tryz.prog:= {T:= [Y2,Y30],mix:=mix,Es:= [zfm,E_impl_NegI],Bs:= [],d:=1}
def t_impl_SubI (a0:Iv) (a1:Iv):Tr (Iv):=
 .leaf (zbF a0 (zdR a1))
theorem r_impl_SubI (a0:Iv) (a1:Iv):Tb119.run B119 [enc a0,enc a1] (Iv)=(t_impl_SubI a0 a1).opt:=by kernel_rfl
def zaE:Iv->Iv->Iv:=fun a0 a1=>(t_impl_SubI a0 a1).get
theorem u_impl_SubI (a0:Iv) (a1:Iv):(t_impl_SubI a0 a1).opt=some (zaE a0 a1):=Tr.zR (by kernel_rfl)
def E_impl_SubI:Ent Tryz.prog:= .of2 Tb119 B119 (fun _ _=>true) zaE fun a0 a1 _=>(r_impl_SubI a0 a1).trans (u_impl_SubI a0 a1)
def B182:Bod Tryz.prog:=⟨182,Tryz.f182,Tryz.f182.body.getD .skip,Tryz.func182,by kernel_rfl,by kernel_rfl,zam.no _ _⟩
def Tb182:Tb Tryz.prog:= {T:= [Y2,Y30],mix:=mix,Es:= [],Bs:= [],d:=1}
def t_spec_l06Ring:Tr (Iv):=
 .leaf ⟨⟨(-4294967296),rfl⟩,⟨4294967296,rfl⟩⟩
theorem r_spec_l06Ring:Tb182.run B182 [] (Iv)=(t_spec_l06Ring).opt:=by kernel_rfl
def zU:Iv:=(t_spec_l06Ring).get
theorem u_spec_l06Ring:(t_spec_l06Ring).opt=some (zU):=Tr.zR (by kernel_rfl)
def E_spec_l06Ring:Ent Tryz.prog:= .of0 Tb182 B182 zU (r_spec_l06Ring.trans u_spec_l06Ring)
def B16:Bod Tryz.prog:=⟨16,Tryz.f16,Tryz.f16.body.getD .skip,Tryz.func16,by kernel_rfl,by kernel_rfl,zam.no _ _⟩
def Tb16:Tb Tryz.prog:= {T:= [Y2,Y30],mix:=mix,Es:= [zda,zbd,zbL],Bs:= [],d:=1}
def t_spec_Integer (a0:I64):Tr (Iv):=
 .br (!(zaJ a0 ⟨(-268435455),rfl⟩ ⟨268435455,rfl⟩)) (.leaf zA) (.leaf (zav (Rng.w .i64 (a0.val*4294967296)) (Rng.w .i64 (a0.val*4294967296))))
theorem r_spec_Integer (a0:I64):Tb16.run B16 [enc a0] (Iv)=(t_spec_Integer a0).opt:=by kernel_rfl
def zO:I64->Iv:=fun a0=>(t_spec_Integer a0).get
theorem u_spec_Integer (a0:I64):(t_spec_Integer a0).opt=some (zO a0):=Tr.zR (by kernel_rfl)
def E_spec_Integer:Ent Tryz.prog:= .of1 Tb16 B16 (fun _=>true) zO fun a0 _=>(r_spec_Integer a0).trans (u_spec_Integer a0)
def B315:Bod Tryz.prog:=⟨315,Tryz.f315,Tryz.f315.body.getD .skip,Tryz.func315,by kernel_rfl,by kernel_rfl,zam.no _ _⟩
def Tb315:Tb Tryz.prog:= {T:= [Y2,Y30],mix:=mix,Es:= [E_spec_Integer,E_spec_MulI,E_spec_SubI,E_spec_DivI],Bs:= [],d:=1}
def zcq (a0:Iv) (a1:I64):Tr (Iv):=
 let c2:=(Rng.w .i64 (16+a1.val));let c10:=(Rng.w .i64 (14+a1.val));let c18:=(Rng.w .i64 (12+a1.val));let c26:=(Rng.w .i64 (10+a1.val));let c34:=(Rng.w .i64 (8+a1.val));let c42:=(Rng.w .i64 (6+a1.val));let c50:=(Rng.w .i64 (4+a1.val));let c58:=(Rng.w .i64 (2+a1.val));.leaf (zac (zO ⟨1,rfl⟩) (zS (zL a0 (zO (Rng.w .i64 (c58.val*(Rng.w .i64 (c58.val+1)).val)))) (zac (zO ⟨1,rfl⟩) (zS (zL a0 (zO (Rng.w .i64 (c50.val*(Rng.w .i64 (c50.val+1)).val)))) (zac (zO ⟨1,rfl⟩) (zS (zL a0 (zO (Rng.w .i64 (c42.val*(Rng.w .i64 (c42.val+1)).val)))) (zac (zO ⟨1,rfl⟩) (zS (zL a0 (zO (Rng.w .i64 (c34.val*(Rng.w .i64 (c34.val+1)).val)))) (zac (zO ⟨1,rfl⟩) (zS (zL a0 (zO (Rng.w .i64 (c26.val*(Rng.w .i64 (c26.val+1)).val)))) (zac (zO ⟨1,rfl⟩) (zS (zL a0 (zO (Rng.w .i64 (c18.val*(Rng.w .i64 (c18.val+1)).val)))) (zac (zO ⟨1,rfl⟩) (zS (zL a0 (zO (Rng.w .i64 (c10.val*(Rng.w .i64 (c10.val+1)).val)))) (zac (zO ⟨1,rfl⟩) (zS (zL a0 (zO (Rng.w .i64 (c2.val*(Rng.w .i64 (c2.val+1)).val)))) (zO ⟨1,rfl⟩)))))))))))))))))
theorem r_spec_l06Series (a0:Iv) (a1:I64):Tb315.run B315 [enc a0,enc a1] (Iv)=(zcq a0 a1).opt:=by kernel_rfl
def zaX:Iv->I64->Iv:=fun a0 a1=>(zcq a0 a1).get
theorem u_spec_l06Series (a0:Iv) (a1:I64):(zcq a0 a1).opt=some (zaX a0 a1):=Tr.zR (by kernel_rfl)
def E_spec_l06Series:Ent Tryz.prog:= .of2 Tb315 B315 (fun _ _=>true) zaX fun a0 a1 _=>(r_spec_l06Series a0 a1).trans (u_spec_l06Series a0 a1)
def B316:Bod Tryz.prog:=⟨316,Tryz.f316,Tryz.f316.body.getD .skip,Tryz.func316,by kernel_rfl,by kernel_rfl,zam.no _ _⟩
def Tb316:Tb Tryz.prog:= {T:= [Y2,Y30],mix:=mix,Es:= [],Bs:= [],d:=1}
def t_spec_l06Tiny:Tr (Iv):=
 .leaf ⟨⟨(-1),rfl⟩,⟨1,rfl⟩⟩
theorem r_spec_l06Tiny:Tb316.run B316 [] (Iv)=(t_spec_l06Tiny).opt:=by kernel_rfl
def zbt:Iv:=(t_spec_l06Tiny).get
theorem u_spec_l06Tiny:(t_spec_l06Tiny).opt=some (zbt):=Tr.zR (by kernel_rfl)
def E_spec_l06Tiny:Ent Tryz.prog:= .of0 Tb316 B316 zbt (r_spec_l06Tiny.trans u_spec_l06Tiny)
def B263:Bod Tryz.prog:=⟨263,Tryz.f263,Tryz.f263.body.getD .skip,Tryz.func263,by kernel_rfl,by kernel_rfl,zam.no _ _⟩
def Tb263:Tb Tryz.prog:= {T:= [Y2,Y30],mix:=mix,Es:= [E_spec_MulI,E_spec_AddI,E_spec_InsideI,E_spec_SqrI,zdH,E_spec_l06Ring,E_spec_l06Series,E_spec_l06Tiny],Bs:= [],d:=1}
def zdr (a0:Iv):Tr (Iv):=
 .br (!(zaZ a0 zU)) (.leaf zaP) (.leaf (zan (zS a0 (zaX (zby a0) ⟨0,rfl⟩)) zbt))
theorem r_spec_SinSeries (a0:Iv):Tb263.run B263 [enc a0] (Iv)=(zdr a0).opt:=by kernel_rfl
def za8:Iv->Iv:=fun a0=>(zdr a0).get
theorem u_spec_SinSeries (a0:Iv):(zdr a0).opt=some (za8 a0):=Tr.zR (by kernel_rfl)
def E_spec_SinSeries:Ent Tryz.prog:= .of1 Tb263 B263 (fun _=>true) za8 fun a0 _=>(r_spec_SinSeries a0).trans (u_spec_SinSeries a0)
def B264:Bod Tryz.prog:=⟨264,Tryz.f264,Tryz.f264.body.getD .skip,Tryz.func264,by kernel_rfl,by kernel_rfl,zam.no _ _⟩
def Tb264:Tb Tryz.prog:= {T:= [Y2,Y30],mix:=mix,Es:= [E_spec_AddI,E_spec_InsideI,E_spec_SqrI,zdH,E_spec_l06Ring,E_spec_l06Series,E_spec_l06Tiny],Bs:= [],d:=1}
def zdt (a0:Iv):Tr (Iv):=
 .br (!(zaZ a0 zU)) (.leaf zaP) (.leaf (zan (zaX (zby a0) ⟨(-1),rfl⟩) zbt))
theorem r_spec_CosSeries (a0:Iv):Tb264.run B264 [enc a0] (Iv)=(zdt a0).opt:=by kernel_rfl
def za9:Iv->Iv:=fun a0=>(zdt a0).get
theorem u_spec_CosSeries (a0:Iv):(zdt a0).opt=some (za9 a0):=Tr.zR (by kernel_rfl)
def E_spec_CosSeries:Ent Tryz.prog:= .of1 Tb264 B264 (fun _=>true) za9 fun a0 _=>(r_spec_CosSeries a0).trans (u_spec_CosSeries a0)
def B262:Bod Tryz.prog:=⟨262,Tryz.f262,Tryz.f262.body.getD .skip,Tryz.func262,by kernel_rfl,by kernel_rfl,zam.no _ _⟩
def Tb262:Tb Tryz.prog:= {T:= [Y2,Y30],mix:=mix,Es:= [E_spec_MeetI,E_spec_l06Ring],Bs:= [],d:=1}
def t_spec_l06Meet (a0:Iv):Tr (Iv):=
 let c2:=zcJ a0 zU;.br (!c2.b) (.leaf zU) (.leaf c2.a)
theorem r_spec_l06Meet (a0:Iv):Tb262.run B262 [enc a0] (Iv)=(t_spec_l06Meet a0).opt:=by kernel_rfl
def zaB:Iv->Iv:=fun a0=>(t_spec_l06Meet a0).get
theorem u_spec_l06Meet (a0:Iv):(t_spec_l06Meet a0).opt=some (zaB a0):=Tr.zR (by kernel_rfl)
def E_spec_l06Meet:Ent Tryz.prog:= .of1 Tb262 B262 (fun _=>true) zaB fun a0 _=>(r_spec_l06Meet a0).trans (u_spec_l06Meet a0)
def B24:Bod Tryz.prog:=⟨24,Tryz.f24,Tryz.f24.body.getD .skip,Tryz.func24,by kernel_rfl,by kernel_rfl,zam.no _ _⟩
def Tb24:Tb Tryz.prog:= {T:= [Y30],mix:=mix,Es:= [zbo],Bs:= [],d:=1}
def zdV (a0:Iv):Tr (Bool):=
 .leaf (zn a0)
theorem r_spec_ValidInterval (a0:Iv):Tb24.run B24 [enc a0] (Bool)=(zdV a0).opt:=by kernel_rfl
def zdY:Iv->Bool:=fun a0=>(zdV a0).get
theorem u_spec_ValidInterval (a0:Iv):(zdV a0).opt=some (zdY a0):=Tr.zR (by kernel_rfl)
def E_spec_ValidInterval:Ent Tryz.prog:= .of1 Tb24 B24 (fun _=>true) zdY fun a0 _=>(r_spec_ValidInterval a0).trans (u_spec_ValidInterval a0)
def B181:Bod Tryz.prog:=⟨181,Tryz.f181,Tryz.f181.body.getD .skip,Tryz.func181,by kernel_rfl,by kernel_rfl,zam.no _ _⟩
def Tb181:Tb Tryz.prog:= {T:= [Y2,Y30],mix:=mix,Es:= [E_spec_ValidInterval,E_spec_l06Angle],Bs:= [],d:=1}
def t_spec_l06Fits (a0:Iv):Tr (Bool):=
 .br (zdY a0) (.br (za0 a0.lo) (.leaf (za0 a0.hi)) (.leaf false)) (.leaf false)
theorem r_spec_l06Fits (a0:Iv):Tb181.run B181 [enc a0] (Bool)=(t_spec_l06Fits a0).opt:=by kernel_rfl
def zc6:Iv->Bool:=fun a0=>(t_spec_l06Fits a0).get
theorem u_spec_l06Fits (a0:Iv):(t_spec_l06Fits a0).opt=some (zc6 a0):=Tr.zR (by kernel_rfl)
def E_spec_l06Fits:Ent Tryz.prog:= .of1 Tb181 B181 (fun _=>true) zc6 fun a0 _=>(r_spec_l06Fits a0).trans (u_spec_l06Fits a0)
def B270:Bod Tryz.prog:=⟨270,Tryz.f270,Tryz.f270.body.getD .skip,Tryz.func270,by kernel_rfl,by kernel_rfl,zam.no _ _⟩
def Tb270:Tb Tryz.prog:= {T:= [Y2,Y30],mix:=mix,Es:= [],Bs:= [],d:=1}
def t_impl_ring:Tr (Iv):=
 .leaf ⟨⟨(-4294967296),rfl⟩,⟨4294967296,rfl⟩⟩
theorem r_impl_ring:Tb270.run B270 [] (Iv)=(t_impl_ring).opt:=by kernel_rfl
def zdQ:Iv:=(t_impl_ring).get
theorem u_impl_ring:(t_impl_ring).opt=some (zdQ):=Tr.zR (by kernel_rfl)
def E_impl_ring:Ent Tryz.prog:= .of0 Tb270 B270 zdQ (r_impl_ring.trans u_impl_ring)
def B79:Bod Tryz.prog:=⟨79,Tryz.f79,Tryz.f79.body.getD .skip,Tryz.func79,by kernel_rfl,by kernel_rfl,zam.no _ _⟩
def Tb79:Tb Tryz.prog:= {T:= [Y2,Y30],mix:=mix,Es:= [zaR,zco,zdb],Bs:= [],d:=1}
def t_impl_Integer (a0:I64):Tr (Iv):=
 .br (!(za3 a0 ⟨(-268435456),rfl⟩ ⟨268435456,rfl⟩)) (.leaf zT) (.leaf (za4 (Rng.w .i64 (a0.val*4294967296)) (Rng.w .i64 (a0.val*4294967296)) true))
theorem r_impl_Integer (a0:I64):Tb79.run B79 [enc a0] (Iv)=(t_impl_Integer a0).opt:=by kernel_rfl
def zao:I64->Iv:=fun a0=>(t_impl_Integer a0).get
theorem u_impl_Integer (a0:I64):(t_impl_Integer a0).opt=some (zao a0):=Tr.zR (by kernel_rfl)
def E_impl_Integer:Ent Tryz.prog:= .of1 Tb79 B79 (fun _=>true) zao fun a0 _=>(r_impl_Integer a0).trans (u_impl_Integer a0)
def B346:Bod Tryz.prog:=⟨346,Tryz.f346,Tryz.f346.body.getD .skip,Tryz.func346,by kernel_rfl,by kernel_rfl,zam.no _ _⟩
def Tb346:Tb Tryz.prog:= {T:= [Y2,Y30],mix:=mix,Es:= [E_impl_Integer,ET_impl_MulI,E_impl_SubI,E_impl_DivI],Bs:= [],d:=1}
def t_impl_series (a0:Iv) (a1:I64):Tr (Iv):=
 let c2:=(Rng.w .i64 (a1.val+14));let c10:=(Rng.w .i64 (a1.val+12));let c18:=(Rng.w .i64 (a1.val+10));let c26:=(Rng.w .i64 (a1.val+8));let c34:=(Rng.w .i64 (a1.val+6));let c42:=(Rng.w .i64 (a1.val+4));let c50:=(Rng.w .i64 (a1.val+2));let c58:=(Rng.w .i64 (a1.val+0));.leaf (zaE (zao ⟨1,rfl⟩) (zaz (zbi a0 (zao (Rng.w .i64 (c58.val*(Rng.w .i64 (c58.val+1)).val)))) (zaE (zao ⟨1,rfl⟩) (zaz (zbi a0 (zao (Rng.w .i64 (c50.val*(Rng.w .i64 (c50.val+1)).val)))) (zaE (zao ⟨1,rfl⟩) (zaz (zbi a0 (zao (Rng.w .i64 (c42.val*(Rng.w .i64 (c42.val+1)).val)))) (zaE (zao ⟨1,rfl⟩) (zaz (zbi a0 (zao (Rng.w .i64 (c34.val*(Rng.w .i64 (c34.val+1)).val)))) (zaE (zao ⟨1,rfl⟩) (zaz (zbi a0 (zao (Rng.w .i64 (c26.val*(Rng.w .i64 (c26.val+1)).val)))) (zaE (zao ⟨1,rfl⟩) (zaz (zbi a0 (zao (Rng.w .i64 (c18.val*(Rng.w .i64 (c18.val+1)).val)))) (zaE (zao ⟨1,rfl⟩) (zaz (zbi a0 (zao (Rng.w .i64 (c10.val*(Rng.w .i64 (c10.val+1)).val)))) (zaE (zao ⟨1,rfl⟩) (zaz (zbi a0 (zao (Rng.w .i64 (c2.val*(Rng.w .i64 (c2.val+1)).val)))) (zao ⟨1,rfl⟩)))))))))))))))))
theorem r_impl_series (a0:Iv) (a1:I64):Tb346.run B346 [enc a0,enc a1] (Iv)=(t_impl_series a0 a1).opt:=by kernel_rfl
def zfF:Iv->I64->Iv:=fun a0 a1=>(t_impl_series a0 a1).get
theorem u_impl_series (a0:Iv) (a1:I64):(t_impl_series a0 a1).opt=some (zfF a0 a1):=Tr.zR (by kernel_rfl)
def E_impl_series:Ent Tryz.prog:= .of2 Tb346 B346 (fun _ _=>true) zfF fun a0 a1 _=>(r_impl_series a0 a1).trans (u_impl_series a0 a1)
def B347:Bod Tryz.prog:=⟨347,Tryz.f347,Tryz.f347.body.getD .skip,Tryz.func347,by kernel_rfl,by kernel_rfl,zam.no _ _⟩
def Tb347:Tb Tryz.prog:= {T:= [Y2,Y30],mix:=mix,Es:= [],Bs:= [],d:=1}
def t_impl_tiny:Tr (Iv):=
 .leaf ⟨⟨(-1),rfl⟩,⟨1,rfl⟩⟩
theorem r_impl_tiny:Tb347.run B347 [] (Iv)=(t_impl_tiny).opt:=by kernel_rfl
def F_impl_tiny:Iv:=(t_impl_tiny).get
theorem u_impl_tiny:(t_impl_tiny).opt=some (F_impl_tiny):=Tr.zR (by kernel_rfl)
def E_impl_tiny:Ent Tryz.prog:= .of0 Tb347 B347 F_impl_tiny (r_impl_tiny.trans u_impl_tiny)
def B320:Bod Tryz.prog:=⟨320,Tryz.f320,Tryz.f320.body.getD .skip,Tryz.func320,by kernel_rfl,by kernel_rfl,zam.no _ _⟩
def Tb320:Tb Tryz.prog:= {T:= [Y2,Y30],mix:=mix,Es:= [zfm,ET_impl_MulI,zaR,ET_impl_SqrI,E_impl_ring,E_impl_InsideI,E_impl_series,E_impl_tiny],Bs:= [],d:=1}
def t_impl_SinSeries (a0:Iv):Tr (Iv):=
 .br (!(zdS a0 zdQ)) (.leaf zT) (.leaf (zbF (zaz a0 (zfF (F_impl_SqrI a0) ⟨2,rfl⟩)) F_impl_tiny))
theorem r_impl_SinSeries (a0:Iv):Tb320.run B320 [enc a0] (Iv)=(t_impl_SinSeries a0).opt:=by kernel_rfl
def zdy:Iv->Iv:=fun a0=>(t_impl_SinSeries a0).get
theorem u_impl_SinSeries (a0:Iv):(t_impl_SinSeries a0).opt=some (zdy a0):=Tr.zR (by kernel_rfl)
def E_impl_SinSeries:Ent Tryz.prog:= .of1 Tb320 B320 (fun _=>true) zdy fun a0 _=>(r_impl_SinSeries a0).trans (u_impl_SinSeries a0)
def B321:Bod Tryz.prog:=⟨321,Tryz.f321,Tryz.f321.body.getD .skip,Tryz.func321,by kernel_rfl,by kernel_rfl,zam.no _ _⟩
def Tb321:Tb Tryz.prog:= {T:= [Y2,Y30],mix:=mix,Es:= [zfm,zaR,ET_impl_SqrI,E_impl_ring,E_impl_InsideI,E_impl_series,E_impl_tiny],Bs:= [],d:=1}
def t_impl_CosSeries (a0:Iv):Tr (Iv):=
 .br (!(zdS a0 zdQ)) (.leaf zT) (.leaf (zbF (zfF (F_impl_SqrI a0) ⟨1,rfl⟩) F_impl_tiny))
theorem r_impl_CosSeries (a0:Iv):Tb321.run B321 [enc a0] (Iv)=(t_impl_CosSeries a0).opt:=by kernel_rfl
def zdz:Iv->Iv:=fun a0=>(t_impl_CosSeries a0).get
theorem u_impl_CosSeries (a0:Iv):(t_impl_CosSeries a0).opt=some (zdz a0):=Tr.zR (by kernel_rfl)
def E_impl_CosSeries:Ent Tryz.prog:= .of1 Tb321 B321 (fun _=>true) zdz fun a0 _=>(r_impl_CosSeries a0).trans (u_impl_CosSeries a0)
def B319:Bod Tryz.prog:=⟨319,Tryz.f319,Tryz.f319.body.getD .skip,Tryz.func319,by kernel_rfl,by kernel_rfl,zam.no _ _⟩
def Tb319:Tb Tryz.prog:= {T:= [Y2,Y30],mix:=mix,Es:= [E_impl_MeetI,E_impl_ring],Bs:= [],d:=1}
def t_impl_inRing (a0:Iv):Tr (Iv):=
 .leaf (F_impl_MeetI a0 zdQ).a
theorem r_impl_inRing (a0:Iv):Tb319.run B319 [enc a0] (Iv)=(t_impl_inRing a0).opt:=by kernel_rfl
def zb1:Iv->Iv:=fun a0=>(t_impl_inRing a0).get
theorem u_impl_inRing (a0:Iv):(t_impl_inRing a0).opt=some (zb1 a0):=Tr.zR (by kernel_rfl)
def E_impl_inRing:Ent Tryz.prog:= .of1 Tb319 B319 (fun _=>true) zb1 fun a0 _=>(r_impl_inRing a0).trans (u_impl_inRing a0)
def B269:Bod Tryz.prog:=⟨269,Tryz.f269,Tryz.f269.body.getD .skip,Tryz.func269,by kernel_rfl,by kernel_rfl,zam.no _ _⟩
def Tb269:Tb Tryz.prog:= {T:= [Y2,Y30],mix:=mix,Es:= [zdZ,E_impl_isAngle],Bs:= [],d:=1}
def t_impl_areAngles (a0:Iv):Tr (Bool):=
 .br (zbw a0) (.br (zc8 a0.lo) (.leaf (zc8 a0.hi)) (.leaf false)) (.leaf false)
theorem r_impl_areAngles (a0:Iv):Tb269.run B269 [enc a0] (Bool)=(t_impl_areAngles a0).opt:=by kernel_rfl
def zcT:Iv->Bool:=fun a0=>(t_impl_areAngles a0).get
theorem u_impl_areAngles (a0:Iv):(t_impl_areAngles a0).opt=some (zcT a0):=Tr.zR (by kernel_rfl)
def E_impl_areAngles:Ent Tryz.prog:= .of1 Tb269 B269 (fun _=>true) zcT fun a0 _=>(r_impl_areAngles a0).trans (u_impl_areAngles a0)
end
end Go.Proofs.YtfcjhkkpbnobhaaGreat.Ev
namespace Go.Proofs.YtfcjhkkpbnobhaaGreat.Ev
open Go
theorem zb5 (a:Iv):zn a=true↔(-1152921504606846976<a.lo.val/\a.lo.val<=a.hi.val/\a.hi.val<1152921504606846976):=by
 simp only [zn,t_spec_l04Ok,Tr.get]
 by_cases h1:(-1152921504606846976:Int)<a.lo.val<;>by_cases h2:a.lo.val<=a.hi.val<;>simp [h1,h2]
theorem okno (a:Iv):zn a=false↔¬(-1152921504606846976<a.lo.val/\a.lo.val<=a.hi.val/\a.hi.val<1152921504606846976):=by
 rw [<- zb5];cases zn a<;>simp
theorem zc0 {lo hi:I64} (h: -1152921504606846976<lo.val/\lo.val<=hi.val/\hi.val<1152921504606846976):zav lo hi=⟨lo,hi⟩:=by
 have:zn ⟨lo,hi⟩=true:=(zb5 _).2 h
 simp only [zav,zdI,Tr.get,this,Bool.not_true,cond_false]
theorem make_no {lo hi:I64} (h:¬(-1152921504606846976<lo.val/\lo.val<=hi.val/\hi.val<1152921504606846976)):zav lo hi=zA:=by
 have:zn ⟨lo,hi⟩=false:=(okno _).2 h
 simp only [zav,zdI,Tr.get,this,Bool.not_false,cond_true]
theorem make_ext {a b c d:I64} (h1:a.val=c.val) (h2:b.val=d.val):zav a b=zav c d:=by rw [rext h1,rext h2]
theorem zbY:zn zA=false:=by decide +kernel
theorem isw_eq (a:Iv):zau a= !(zn a):=by
 simp only [zau,zc3,Tr.get,valid_eq]
theorem zcW:zaP=zA:=rfl
theorem mn_val (a b:I64):(mn a b).val=if b.val<a.val then b.val else a.val:=by unfold mn;by_cases hb:b.val<a.val<;>simp [hb]
theorem mx_val (a b:I64):(mx a b).val=if b.val>a.val then b.val else a.val:=by unfold mx;by_cases hb:b.val>a.val<;>simp [hb]
theorem add_eq (a b:Iv):zbF a b=zan a b:=by
 simp only [zbF,t_impl_AddI,zan,ze5,Tr.get,areb_eq,zcw,bounded_eq,cond_true]
 cases zn a<;>cases zn b<;>rfl
theorem neg_ok_val {a:Iv} (h:zn a=true):zaD a=⟨.w .i64 (0-a.hi.val),.w .i64 (0-a.lo.val)⟩:=by
 have:=(zb5 a).1 h
 simp only [zaD,t_spec_NegI,Tr.get,h,Bool.not_true,cond_false]
 refine zc0 ?_
 rw [wi (by omega) (by omega),wi (by omega) (by omega)]
 omega
theorem neg_no {a:Iv} (h:zn a=false):zaD a=zA:=by
 simp only [zaD,t_spec_NegI,Tr.get,h,Bool.not_false,cond_true]
theorem neg_isok (a:Iv):zn (zaD a)=zn a:=by
 cases h:zn a
 ·rw [neg_no h];exact zbY
 ·have:=(zb5 a).1 h
  rw [neg_ok_val h]
  refine (zb5 _).2 ?_
  simp only
  rw [wi (by omega) (by omega),wi (by omega) (by omega)]
  omega
theorem sub_eq (a b:Iv):zaE a b=zac a b:=by
 simp only [zaE,t_impl_SubI,Tr.get,add_eq,neg_eq,zan,ze5,zac,zek,neg_isok]
 cases ha:zn a
 ·rfl
 cases hb:zn b
 ·rfl
 have h1:=(zb5 a).1 ha
 have h2:=(zb5 b).1 hb
 simp only [Bool.not_true,cond_false,neg_ok_val hb]
 refine make_ext ?_ ?_
 ·rw [wi (n:=0-b.hi.val) (by omega) (by omega)];congr 1;congr 1;omega
 ·rw [wi (n:=0-b.lo.val) (by omega) (by omega)];congr 1;congr 1;omega
theorem integer_eq (n:I64):zao n=zO n:=by
 simp only [zao,t_impl_Integer,zO,t_spec_Integer,Tr.get,zdA,zfQ,bounded_eq,zcw,cond_true]
 by_cases h: -268435455<=n.val/\n.val<=268435455
 ·have h': -268435456<=n.val/\n.val<=268435456:=by omega
  simp only [h,h',and_self,decide_true,Bool.not_true,cond_false]
 ·by_cases h': -268435456<=n.val/\n.val<=268435456
  ·simp only [h,h',and_self,decide_true,decide_false,Bool.not_true,Bool.not_false,cond_false,cond_true]
   refine make_no ?_
   rw [wi (by omega) (by omega)]
   omega
  ·simp only [h,h',decide_false,Bool.not_false,cond_true]
theorem hull_eq (a b:Iv):zay a b=zZ a b:=by
 simp only [zay,t_impl_HullI,zZ,t_spec_HullI,Tr.get,areb_eq,zcw]
 cases ha:zn a
 ·rfl
 cases hb:zn b
 ·rfl
 have h1:=(zb5 a).1 ha
 have h2:=(zb5 b).1 hb
 simp only [Bool.and_self,Bool.not_true,cond_false,<- min_eq,<- max_eq]
 refine (zc0 ?_).symm
 rw [mn_val,mx_val]
 split<;>split<;>omega
theorem meet_eq (a b:Iv):F_impl_MeetI a b=zcJ a b:=by
 simp only [F_impl_MeetI,t_impl_MeetI,zcJ,zef,Tr.get,isw_eq,zcw,min_eq,max_eq]
theorem overlap_eq (a b:Iv):zcN a b=zaK a b:=by
 simp only [zcN,t_impl_OverlapI,zaK,zd2,Tr.get,meet_eq]
theorem inside_eq (a b:Iv):zdS a b=zaZ a b:=by
 simp only [zdS,t_impl_InsideI,zaZ,zdJ,Tr.get,isw_eq]
 cases zn a<;>cases zn b<;>rfl
theorem ring_eq:zdQ=zU:=rfl
theorem tiny_eq:F_impl_tiny=zbt:=rfl
theorem angle_eq (n:I64):zc8 n=za0 n:=by
 simp only [zc8,t_impl_isAngle,za0,zdh,Tr.get,zdA,zfQ]
theorem angle_iff (n:I64):za0 n=true↔(-1099511627776<=n.val/\n.val<=1099511627776):=by
 simp only [za0,zdh,Tr.get,zfQ,decide_eq_true_eq]
theorem fits_eq (a:Iv):zcT a=zc6 a:=by
 simp only [zcT,t_impl_areAngles,zc6,t_spec_l06Fits,Tr.get,angle_eq,valid_eq]
 rfl
theorem ediv_bd1 {x d:Int} (hd:0<d) (h: -9223372036854775808<=x/\x<=9223372036854775807): -9223372036854775808<=x/d/\x/d<=9223372036854775807:=by
 have:=ediv_bd (M:=9223372036854775808) hd h.1 (by omega)
 refine ⟨this.1,?_⟩
 by_cases h0:0<=x
 ·have:=Int.ediv_le_self d h0;omega
 ·have:=Int.ediv_neg_of_neg_of_pos (a:=x) (by omega) hd;omega
theorem or_comm' (a b:Int):zbe .or .u64 a b=zbe .or .u64 b a:=by
 show ((BitVec.ofInt 64 a ||| BitVec.ofInt 64 b).toNat:Int)=((BitVec.ofInt 64 b ||| BitVec.ofInt 64 a).toNat:Int)
 rw [BitVec.or_comm]
theorem shift_val (w:Wide) (n:I64) (k:Nat) (hn:n.val=k) (h1:1<=k) (h2:k<=63):wv (zcI w n)=wv w/2^k:=by
 have e0:(n.val==0)=false:=by simp;omega
 have e1:decide (n.val<64)=true:=by simp;omega
 have e2:(Rng.w .u64 n.val).val=k:=by rw [wu (by omega) (by omega),hn]
 have e3:(Rng.w .u64 ((Rng.w .i64 (64-n.val)).val)).val=((64-k:Nat):Int):=by rw [wi (by omega) (by omega),wu (by omega) (by omega)];omega
 simp only [zcI,zeZ,Tr.get,e0,e1,cond_true,cond_false,e2,e3,Int.toNat_natCast,Nat.min_eq_left (show k<=64 by omega),Nat.min_eq_left (show 64-k<=64 by omega),fdpow]
 have bh:=w.hi.bd
 have bl:=w.lo.ubd
 have hp:(2:Int)^k*2^(64-k)=18446744073709551616:=by
  rw [<- Int.pow_add,show k+(64-k)=64 by omega];rfl
 have hp0:(0:Int)<2^k:=Int.pow_pos (by decide)
 have hq0:(0:Int)<2^(64-k):=Int.pow_pos (by decide)
 generalize hP:(2:Int)^k=P at hp hp0
 generalize hQ:(2:Int)^(64-k)=Q at hp hq0
 have l1:0<=w.lo.val/P:=Int.ediv_nonneg bl.1 (by omega)
 have l2:w.lo.val/P<Q:=by
  refine Int.ediv_lt_of_lt_mul hp0 ?_
  rw [Int.mul_comm,hp];omega
 have hhb: -9223372036854775808<=w.hi.val/P/\w.hi.val/P<=9223372036854775807:=ediv_bd1 hp0 bh
 have hQle:Q<=18446744073709551616:=by
  have:Q*1<=Q*P:=Int.mul_le_mul_of_nonneg_left (by omega) (by omega)
  rw [Int.mul_comm Q P,hp] at this;omega
 have wlo:(Rng.w .u64 (w.lo.val/P)).val=w.lo.val/P:=wu l1 (by omega)
 have whi:(Rng.w .u64 ((Rng.w .u64 w.hi.val).val*Q)).val=(w.hi.val%P)*Q:=by
  rw [zba,zba]
  have:(18446744073709551616:Int)=P*Q:=hp.symm
  rw [this]
  have e:w.hi.val%(P*Q)*Q%(P*Q)=w.hi.val*Q%(P*Q):=by
   rw [Int.mul_emod,Int.emod_emod_of_dvd _ (Int.dvd_refl _),<- Int.mul_emod]
  rw [e,Int.mul_comm w.hi.val Q,Int.mul_comm P Q,Int.mul_emod_mul_of_pos _ _ hq0,Int.mul_comm]
 have hm0:0<=w.hi.val%P:=Int.emod_nonneg _ (by omega)
 have hm1:w.hi.val%P<P:=Int.emod_lt_of_pos _ hp0
 have hmq:(w.hi.val%P)*Q<=(P-1)*Q:=Int.mul_le_mul_of_nonneg_right (by omega) (by omega)
 have hsum:(w.hi.val%P)*Q+w.lo.val/P<=18446744073709551615:=by
  have:(P-1)*Q=18446744073709551616-Q:=by rw [Int.sub_mul,hp,Int.one_mul]
  omega
 have hor:zbe .or .u64 (w.lo.val/P) (w.hi.val%P*Q)=w.hi.val%P*Q+w.lo.val/P:=by
  rw [or_comm',or_add (64-k) (w.hi.val%P).toNat (by rw [hQ,Int.toNat_of_nonneg hm0,Int.mul_comm]) l1 (by rw [hQ];exact l2) hsum]
 simp only [wv]
 rw [wi hhb.1 hhb.2,wlo,whi,hor,wu (by have:=Int.mul_nonneg hm0 (show (0:Int)<=Q by omega);omega) hsum]
 have hdm:w.hi.val=P*(w.hi.val/P)+w.hi.val%P:=(Int.mul_ediv_add_emod _ _).symm
 have key:w.hi.val*18446744073709551616+w.lo.val=(w.hi.val/P*18446744073709551616+w.hi.val%P*Q)*P+w.lo.val:=by
  rw [Int.add_mul]
  have e1:w.hi.val%P*Q*P=w.hi.val%P*18446744073709551616:=by rw [Int.mul_assoc,Int.mul_comm Q P,hp]
  have e2:w.hi.val/P*18446744073709551616*P=P*(w.hi.val/P)*18446744073709551616:=by rw [Int.mul_comm _ P,Int.mul_assoc]
  rw [e1,e2,<- Int.add_mul,<- hdm]
 rw [key,Int.add_comm _ w.lo.val,Int.add_mul_ediv_right _ _ (by omega)]
 omega
theorem mf_val (a b n:I64) (k:Nat) (hn:n.val=k) (h1:1<=k) (h2:k<=63):zaL a b n=narrow (a.val*b.val/2^k):=by
 have hin:zaJ n ⟨0,rfl⟩ ⟨126,rfl⟩=true:=by rw [zfQ];simp;omega
 have hb:=mul_bd a.bd b.bd
 simp only [zaL,ze3,Tr.get,hin,Bool.not_true,cond_false,mul_spec,int_spec,shift_val _ n k hn h1 h2]
 rw [wv_mkW (by omega) (by omega)]
theorem mf32 (a b:I64):zaL a b ⟨32,rfl⟩=narrow (a.val*b.val/4294967296):=mf_val a b _ 32 rfl (by decide) (by decide)
theorem mf30 (a b:I64):zaL a b ⟨30,rfl⟩=narrow (a.val*b.val/1073741824):=mf_val a b _ 30 rfl (by decide) (by decide)
theorem narrow_ok {v:Int} (h: -9223372036854775808<=v) (h':v<=9223372036854775807):narrow v=⟨.w .i64 v,true⟩:=by unfold narrow;rw [if_pos ⟨h,h'⟩]
theorem turn_lo {k:I64} (h:0<k.val) (h':k.val<=4096):zaL k ⟨7244019458077122842,rfl⟩ ⟨30,rfl⟩=⟨.w .i64 (k.val*7244019458077122842/1073741824),true⟩ /\
  0<=k.val*7244019458077122842/1073741824/\k.val*7244019458077122842/1073741824<=27633759721874:=by
 have:0<=k.val*7244019458077122842/1073741824/\k.val*7244019458077122842/1073741824<=27633759721874:=by omega
 exact ⟨by rw [mf30];exact narrow_ok (v:=k.val*7244019458077122842/1073741824) (by omega) (by omega),this⟩
theorem turn_p (k:I64) (h:0<=k.val) (h':k.val<=4096):∃x:Iv,(zcR k).opt=some x/\(zeI k).opt=some x/\zn x=true:=by
 have hw:za3 k ⟨(-4096),rfl⟩ ⟨4096,rfl⟩=true:=by rw [zdA];simp;omega
 have hn:decide (k.val<0)=false:=by simp;omega
 simp only [zcR,zeI,Tr.opt,hw,hn,Bool.not_true,cond_false,mulfloor_F]
 by_cases h0:k.val=0
 ·have e0:(k.val==0)=true:=by simp [h0]
  simp only [e0,cond_true]
  exact ⟨_,rfl,rfl,by decide +kernel⟩
 ·have e0:(k.val==0)=false:=by simp [h0]
  obtain ⟨e,b1,b2⟩:=turn_lo (k:=k) (by omega) h'
  simp only [e0,cond_false,e]
  refine ⟨_,rfl,rfl,(zb5 _).2 ?_⟩
  simp only
  rw [wi (n:=k.val*7244019458077122842/1073741824) (by omega) (by omega),wi (by omega) (by omega)]
  omega
theorem turn_ok (k:I64) (h: -4096<=k.val) (h':k.val<=4096):∃x:Iv,(zcx k).opt=some x/\(zeg k).opt=some x/\zn x=true:=by
 have hw:za3 k ⟨(-4096),rfl⟩ ⟨4096,rfl⟩=true:=by rw [zdA];simp;omega
 by_cases hn:k.val<0
 ·have e1:(Rng.w .i64 (0-k.val)).val=0-k.val:=wi (by omega) (by omega)
  obtain ⟨x,h1,h2,h3⟩:=turn_p (.w .i64 (0-k.val)) (by omega) (by omega)
  have g1:zdw (.w .i64 (0-k.val))=true:=by unfold zdw;rw [h1];rfl
  have g2:G_impl_TurnI_p (.w .i64 (0-k.val))=true:=by unfold G_impl_TurnI_p;rw [h2];rfl
  have f1:zbI (.w .i64 (0-k.val))=x:=Tr.zaY h1
  have f2:F_impl_TurnI_p (.w .i64 (0-k.val))=x:=Tr.zaY h2
  have e0:(k.val==0)=false:=by simp;omega
  have hd:decide (k.val<0)=true:=by simpa using hn
  refine ⟨zaD x,?_,?_,by rw [neg_isok,h3]⟩
  ·simp only [zcx,Tr.opt,e0,hd,g1,f1,cond_true,cond_false,neg_ok_val h3]
  ·simp only [zeg,Tr.opt,hw,hd,g2,f2,cond_true,cond_false,Bool.not_true,neg_eq]
 ·obtain ⟨x,h1,h2,h3⟩:=turn_p k (by omega) h'
  have hd:decide (k.val<0)=false:=by simpa using hn
  refine ⟨x,?_,?_,h3⟩
  ·simp only [zcR,Tr.opt,hd] at h1
   simp only [zcx,Tr.opt,hd]
   exact h1
  ·simp only [zeI,Tr.opt,hd,hw] at h2
   simp only [zeg,Tr.opt,hd,hw]
   exact h2
theorem turnI_ok (k:I64):∃x:Iv,(ze0 k).opt=some x/\(zeg k).opt=some x:=by
 by_cases h: -4096<=k.val/\k.val<=4096
 ·obtain ⟨x,h1,h2,h3⟩:=turn_ok k h.1 h.2
  have hi:zaJ k ⟨(-4096),rfl⟩ ⟨4096,rfl⟩=true:=by rw [zfQ];simpa using h
  have g:zcd k=true:=by unfold zcd;rw [h1];rfl
  have f:zbk k=x:=Tr.zaY h1
  exact ⟨x,by simp only [ze0,Tr.opt,hi,g,f,Bool.not_true,cond_false,cond_true],h2⟩
 ·have hi:zaJ k ⟨(-4096),rfl⟩ ⟨4096,rfl⟩=false:=by rw [zfQ];simpa using h
  have hw:za3 k ⟨(-4096),rfl⟩ ⟨4096,rfl⟩=false:=by rw [zdA];simpa using h
  exact ⟨zA,by simp only [ze0,Tr.opt,hi,Bool.not_false,cond_true,zcW],by simp only [zeg,Tr.opt,hw,Bool.not_false,cond_true,zcw]⟩
theorem tt_turnI_spec (k:I64):(ze0 k).opt=some (zY k):=by
 obtain ⟨x,h1,_⟩:=turnI_ok k;exact zep h1
theorem tt_turnI_impl (k:I64):(zeg k).opt=some (za5 k):=by
 obtain ⟨x,_,h1⟩:=turnI_ok k;exact zep h1
theorem turnI_eq (k:I64):za5 k=zY k:=by
 obtain ⟨x,h1,h2⟩:=turnI_ok k
 exact (Tr.zaY h2).trans (Tr.zaY h1).symm
theorem quarter_ok (n:I64):(zds n).opt=some (zb2 n):=by
 simp only [zds,Tr.opt,zb2,zez,Tr.get,angle_eq]
 cases ha:za0 n
 ·rfl
 have hb:=(angle_iff n).1 ha
 have e1:(Rng.w .i64 (n.val+3373259426)).val=n.val+3373259426:=wi (by omega) (by omega)
 have hs:Int.sign 6746518852=1:=rfl
 have q1:(Rng.w .i64 ((n.val+3373259426).tdiv 6746518852)).val=(n.val+3373259426).tdiv 6746518852:=by
  refine wi ?_ ?_
  ·have:=Int.tdiv_eq_ediv (a:=n.val+3373259426) (b:=6746518852);split at this<;>omega
  ·have:=Int.tdiv_eq_ediv (a:=n.val+3373259426) (b:=6746518852);split at this<;>omega
 have hm:=Int.mul_tdiv_add_tmod (n.val+3373259426) 6746518852
 have m1:(Rng.w .i64 ((n.val+3373259426).tmod 6746518852)).val=(n.val+3373259426).tmod 6746518852:=by
  refine wi ?_ ?_
  ·have:=Int.tdiv_eq_ediv (a:=n.val+3373259426) (b:=6746518852);split at this<;>omega
  ·have:=Int.tdiv_eq_ediv (a:=n.val+3373259426) (b:=6746518852);split at this<;>omega
 have q2:(Rng.w .i64 ((n.val+3373259426).tdiv 6746518852*6746518852)).val=(n.val+3373259426).tdiv 6746518852*6746518852:=by
  refine wi ?_ ?_
  ·have:=Int.tdiv_eq_ediv (a:=n.val+3373259426) (b:=6746518852);split at this<;>omega
  ·have:=Int.tdiv_eq_ediv (a:=n.val+3373259426) (b:=6746518852);split at this<;>omega
 have z:((6746518852:Int)==0)=false:=rfl
 simp only [Bool.not_true,cond_false,G_spec_l06Floor,F_spec_l06Floor,zeY,Tr.opt,Tr.get,e1,q1,m1,q2,z,cond_false]
 by_cases hc:(n.val+3373259426).tmod 6746518852<0
 ·have hc':(n.val+3373259426).tdiv 6746518852*6746518852>n.val+3373259426:=by omega
  simp only [hc,hc',decide_true,cond_true,Option.isSome_some]
 ·have hc':¬(n.val+3373259426).tdiv 6746518852*6746518852>n.val+3373259426:=by omega
  simp only [hc,hc',decide_false,cond_false,cond_true,Option.isSome_some]
theorem quarter_eq (n:I64):zb2 n=zar n:=(Tr.zaY (quarter_ok n)).symm
theorem tt_quarter_spec (n:I64):(zds n).opt=some (zar n):=zep (quarter_ok n)
theorem quarter_bd (n:I64): -200<=(zar n).val/\(zar n).val<=200:=by
 rw [<- quarter_eq]
 simp only [zb2,zez,Tr.get,angle_eq]
 cases ha:za0 n
 ·simp only [Bool.not_false,cond_true];omega
 have hb:=(angle_iff n).1 ha
 have e1:(Rng.w .i64 (n.val+3373259426)).val=n.val+3373259426:=wi (by omega) (by omega)
 have hs:Int.sign 6746518852=1:=rfl
 have hq: -170<=(n.val+3373259426).tdiv 6746518852/\(n.val+3373259426).tdiv 6746518852<=170:=by
  have:=Int.tdiv_eq_ediv (a:=n.val+3373259426) (b:=6746518852);split at this<;>omega
 have q1:(Rng.w .i64 ((n.val+3373259426).tdiv 6746518852)).val=(n.val+3373259426).tdiv 6746518852:=wi (by omega) (by omega)
 simp only [Bool.not_true,cond_false,e1,q1]
 cases decide ((Rng.w .i64 ((n.val+3373259426).tdiv 6746518852*6746518852)).val>n.val+3373259426)
 ·simp only [cond_false,q1];omega
 ·simp only [cond_true];rw [wi (by omega) (by omega)];omega
end Go.Proofs.YtfcjhkkpbnobhaaGreat.Ev
namespace Go.Proofs.YtfcjhkkpbnobhaaGreat.Ev
open Go Go.RowKit
set_option maxRecDepth 100000
section
def ET_spec_TurnI:Ent Tryz.prog:= .of1 Tb51 B51 (fun _=>true) zY fun a0 _=>(r_spec_TurnI a0).trans (tt_turnI_spec a0)
def zfK:Ent Tryz.prog:= .of1 Tb240 B240 (fun _=>true) za5 fun a0 _=>(r_impl_TurnI a0).trans (tt_turnI_impl a0)
def ET_spec_QuarterOf:Ent Tryz.prog:= .of1 Tb185 B185 (fun _=>true) zar fun a0 _=>(r_spec_QuarterOf a0).trans (tt_quarter_spec a0)
def B261:Bod Tryz.prog:=⟨261,Tryz.f261,Tryz.f261.body.getD .skip,Tryz.func261,by kernel_rfl,by kernel_rfl,zam.no _ _⟩
def Tb261:Tb Tryz.prog:= {T:= [Y2,Y30],mix:=mix,Es:= [],Bs:= [],d:=1}
def t_spec_l05At (a0:I64):Tr (Iv):=
 .leaf ⟨a0,a0⟩
theorem r_spec_l05At (a0:I64):Tb261.run B261 [enc a0] (Iv)=(t_spec_l05At a0).opt:=by kernel_rfl
def zB:I64->Iv:=fun a0=>(t_spec_l05At a0).get
theorem u_spec_l05At (a0:I64):(t_spec_l05At a0).opt=some (zB a0):=Tr.zR (by kernel_rfl)
def E_spec_l05At:Ent Tryz.prog:= .of1 Tb261 B261 (fun _=>true) zB fun a0 _=>(r_spec_l05At a0).trans (u_spec_l05At a0)
def B184:Bod Tryz.prog:=⟨184,Tryz.f184,Tryz.f184.body.getD .skip,Tryz.func184,by kernel_rfl,by kernel_rfl,zam.no _ _⟩
def Tb184:Tb Tryz.prog:= {T:= [Y2,Y30],mix:=mix,Es:= [ET_spec_TurnI,E_spec_NegI,E_spec_SubI,E_spec_l06Ring,ET_spec_QuarterOf,E_spec_l06Angle,E_spec_l05At,E_spec_l06Meet,E_spec_SinSeries,E_spec_CosSeries],Bs:= [],d:=1}
def t_spec_l06At (a0:I64) (a1:I64):Tr (Iv):=
 .br (!(za0 a0)) (.leaf zU) (let c3:=zar a0;let c6:=zac (zB a0) (zY c3);let c8:=(Rng.w .i64 (zbe .and .i64 (Rng.w .i64 (c3.val+a1.val)).val 3));.br (c8.val==0) (.leaf (zaB (za8 c6))) (.br (c8.val==1) (.leaf (zaB (za9 c6))) (.br (c8.val==2) (.leaf (zaB (zaD (za8 c6)))) (.leaf (zaB (zaD (za9 c6)))))))
theorem r_spec_l06At (a0:I64) (a1:I64):Tb184.run B184 [enc a0,enc a1] (Iv)=(t_spec_l06At a0 a1).opt:=by kernel_rfl
def zbv:I64->I64->Iv:=fun a0 a1=>(t_spec_l06At a0 a1).get
theorem u_spec_l06At (a0:I64) (a1:I64):(t_spec_l06At a0 a1).opt=some (zbv a0 a1):=Tr.zR (by kernel_rfl)
def E_spec_l06At:Ent Tryz.prog:= .of2 Tb184 B184 (fun _ _=>true) zbv fun a0 a1 _=>(r_spec_l06At a0 a1).trans (u_spec_l06At a0 a1)
def B223:Bod Tryz.prog:=⟨223,Tryz.f223,Tryz.f223.body.getD .skip,Tryz.func223,by kernel_rfl,by kernel_rfl,zam.no _ _⟩
def Tb223:Tb Tryz.prog:= {T:= [Y2,Y30],mix:=mix,Es:= [],Bs:= [],d:=1}
def t_impl_at (a0:I64):Tr (Iv):=
 .leaf ⟨a0,a0⟩
theorem r_impl_at (a0:I64):Tb223.run B223 [enc a0] (Iv)=(t_impl_at a0).opt:=by kernel_rfl
def zcb:I64->Iv:=fun a0=>(t_impl_at a0).get
theorem u_impl_at (a0:I64):(t_impl_at a0).opt=some (zcb a0):=Tr.zR (by kernel_rfl)
def E_impl_at:Ent Tryz.prog:= .of1 Tb223 B223 (fun _=>true) zcb fun a0 _=>(r_impl_at a0).trans (u_impl_at a0)
def B271:Bod Tryz.prog:=⟨271,Tryz.f271,Tryz.f271.body.getD .skip,Tryz.func271,by kernel_rfl,by kernel_rfl,zam.no _ _⟩
def Tb271:Tb Tryz.prog:= {T:= [Y2,Y30],mix:=mix,Es:= [E_impl_SubI,E_impl_NegI,E_impl_at,zfK,E_impl_ring,E_impl_isAngle,E_impl_QuarterOf,E_impl_inRing,E_impl_SinSeries,E_impl_CosSeries],Bs:= [],d:=1}
def zeS (a0:I64) (a1:I64):Tr (Iv):=
 .br (!(zc8 a0)) (.leaf zdQ) (let c3:=zb2 a0;let c6:=zaE (zcb a0) (za5 c3);let c8:=(Rng.w .i64 (zbe .and .i64 (Rng.w .i64 (c3.val+a1.val)).val 3));.br (c8.val==0) (.leaf (zb1 (zdy c6))) (.br (c8.val==1) (.leaf (zb1 (zdz c6))) (.br (c8.val==2) (.leaf (zb1 (zdR (zdy c6)))) (.leaf (zb1 (zdR (zdz c6)))))))
theorem r_impl_circleValue (a0:I64) (a1:I64):Tb271.run B271 [enc a0,enc a1] (Iv)=(zeS a0 a1).opt:=by kernel_rfl
def zcQ:I64->I64->Iv:=fun a0 a1=>(zeS a0 a1).get
theorem u_impl_circleValue (a0:I64) (a1:I64):(zeS a0 a1).opt=some (zcQ a0 a1):=Tr.zR (by kernel_rfl)
def E_impl_circleValue:Ent Tryz.prog:= .of2 Tb271 B271 (fun _ _=>true) zcQ fun a0 a1 _=>(r_impl_circleValue a0 a1).trans (u_impl_circleValue a0 a1)
structure zcs where
 x0:I64
 x1:I64
 x2:I64
 x3:I64
 x4:I64
 x5:I64
 x6:I64
 x7:I64
instance:Inhabited zcs:=⟨⟨default,default,default,default,default,default,default,default⟩⟩
def st_spec_l06Over_5 (x:zcs):St:=⟨[(1,.i64 x.x0),(2,.ptr 0 0),(4,.ptr 1 0),(5,.ptr 2 0),(6,.i64 x.x1)],52,⟨[(0,[.i64 x.x2,.i64 x.x3]),(1,[.i64 x.x4,.i64 x.x5]),(2,[.i64 x.x6,.i64 x.x7])],3,0⟩⟩
def rd_spec_l06Over_5:St->Option zcs:=fun s=>match s with
 | ⟨[(1,.i64 x0),(2,.ptr 0 0),(4,.ptr 1 0),(5,.ptr 2 0),(6,.i64 x1)],52,⟨[(0,[.i64 x2,.i64 x3]),(1,[.i64 x4,.i64 x5]),(2,[.i64 x6,.i64 x7])],3,0⟩⟩=>some ⟨x0,x1,x2,x3,x4,x5,x6,x7⟩
 | _=>none
def zdv (x:zcs):Tr (Lp zcs):=
 .br (decide (x.x1.val<=(Rng.w .i64 ((zar x.x3).val+1)).val)) (.br (!(zaK (zY x.x1) ⟨x.x2,x.x3⟩)) (.leaf (.again ⟨x.x0,(Rng.w .i64 (x.x1.val+1)),x.x2,x.x3,x.x4,x.x5,x.x6,x.x7⟩)) (let c15:=(Rng.w .i64 (zbe .and .i64 (Rng.w .i64 (x.x1.val+x.x0.val)).val 3));.br (c15.val==1) (let c17:=zZ ⟨x.x6,x.x7⟩ (zO ⟨1,rfl⟩);.leaf (.again ⟨x.x0,(Rng.w .i64 (x.x1.val+1)),x.x2,x.x3,x.x4,x.x5,c17.lo,c17.hi⟩)) (.br (c15.val==3) (let c20:=zZ ⟨x.x6,x.x7⟩ (zO ⟨(-1),rfl⟩);.leaf (.again ⟨x.x0,(Rng.w .i64 (x.x1.val+1)),x.x2,x.x3,x.x4,x.x5,c20.lo,c20.hi⟩)) (.leaf (.again ⟨x.x0,(Rng.w .i64 (x.x1.val+1)),x.x2,x.x3,x.x4,x.x5,x.x6,x.x7⟩))))) (.leaf (.out ⟨x.x0,x.x1,x.x2,x.x3,x.x4,x.x5,x.x6,x.x7⟩))
def G_spec_l06Over_5 (x:zcs):Bool:=(Lf zdv 1000 x).opt.isSome
def L_spec_l06Over_5 (x:zcs):zcs:=(Lf zdv 1000 x).get
def TbL_spec_l06Over_5:Tb Tryz.prog:= {T:= [Y2,Y30],mix:=mix,Es:= [E_spec_Integer,E_spec_OverlapI,ET_spec_TurnI,E_spec_HullI,ET_spec_QuarterOf],Bs:= [],d:=1}
def P_spec_l06Over_5:LpF:=loopF [1,2,4,5,6] [0,1,2] 3 rd_spec_l06Over_5 st_spec_l06Over_5 (.exit 0) G_spec_l06Over_5 L_spec_l06Over_5
theorem lok_spec_l06Over_5:LoopOk Tryz.prog (loopAt (Tryz.f101.body.getD .skip) 0) P_spec_l06Over_5:=loopF_ok (t:=TbL_spec_l06Over_5) (lt:=fun _=>none) (body:=zdv) (n:=1000) (by intro h;cases h) (fun _ _ _ h=>by cases h)
 (by intro s x h;unfold rd_spec_l06Over_5 at h;split at h<;>cases h;rfl) (fun x b cs h=>lk_lt (l:=(st_spec_l06Over_5 x).mm.blks) (by kernel_rfl) h) (by intro x;kernel_rfl) (fun x h=>Tr.get_some h)
def B101:Bod Tryz.prog:=⟨101,Tryz.f101,Tryz.f101.body.getD .skip,Tryz.func101,by kernel_rfl,by kernel_rfl,⟨ltOf [(5,P_spec_l06Over_5)],zam.of (ks:= [5]) (by kernel_rfl) (by
 intro i k h f hf
 match i,h with
 | 0,h=>cases h;obtain rfl:P_spec_l06Over_5=f:=Option.some.inj hf;exact lok_spec_l06Over_5
 | n+1,h=>simp at h)⟩⟩
def Tb101:Tb Tryz.prog:= {T:= [Y2,Y30],mix:=mix,Es:= [E_spec_l06Fits,E_spec_l06Ring,E_spec_HullI,E_spec_l06At,ET_spec_QuarterOf],Bs:= [],d:=1}
def zfZ (a0:Iv) (a1:I64):Tr (Iv):=
 .br (!(zc6 a0)) (.leaf zU) (let c5:=zZ (zbv a0.lo a1) (zbv a0.hi a1);let c7:=(Rng.w .i64 ((zar a0.lo).val-1));.br (G_spec_l06Over_5 ⟨a1,c7,a0.lo,a0.hi,⟨0,rfl⟩,⟨0,rfl⟩,c5.lo,c5.hi⟩) (let c23:=L_spec_l06Over_5 ⟨a1,c7,a0.lo,a0.hi,⟨0,rfl⟩,⟨0,rfl⟩,c5.lo,c5.hi⟩;.leaf ⟨c23.x6,c23.x7⟩) (.bad))
theorem r_spec_l06Over (a0:Iv) (a1:I64):Tb101.run B101 [enc a0,enc a1] (Iv)=(zfZ a0 a1).opt:=by kernel_rfl
def zeL:Iv->I64->Iv:=fun a0 a1=>(zfZ a0 a1).get
end
end Go.Proofs.YtfcjhkkpbnobhaaGreat.Ev
