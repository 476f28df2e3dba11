/- The law FnCylinders gives true, whatever bytes come in, where the listed tables hold what the program's text lays. The card: the tables tied to the text. No other conditions. (One of the texts of its proof, put together by a program of this session.) -/
import Derived.Test.YtkenfaengphiiaaGreatDoorZW1
import Derived.Test.YtkenfaengphiiaaGreatDoorZPA
set_option linter.unusedSectionVars false
set_option linter.unusedSimpArgs false
set_option linter.unusedVariables false
noncomputable section
namespace Go.Proofs.YtkenfaengphiiaaGreatDoor.Ev
open Go Go.RowKit
set_option maxRecDepth 100000
section
variable [Amb]
def zn0:Ent Tryz.prog:= .of3 Tb84 B84 (fun _ _ _=>true) zbm fun a0 a1 a2 _=>(zkQ a0 a1 a2).trans (zA2 a0 a1 a2)
def zha:Ent Tryz.prog:= .of2 Tb39 B39 (fun _ _=>true) zaj fun a0 a1 _=>(zrv a0 a1).trans (zBU a0 a1)
def zly:Ent Tryz.prog:= .of1 Tb51 B51 (fun _=>true) zD fun a0 _=>(zqk a0).trans (zq8 a0)
def zeN:Ent Tryz.prog:= .of1 Tb34 B34 (fun _=>true) zcH fun a0 _=>(zqo a0).trans (zq9 a0)
def B164:Bod Tryz.prog:=⟨164,Tryz.f164,Tryz.f164.body.getD .skip,Tryz.func164,by kernel_rfl,by kernel_rfl,zav.no _ _⟩
def zJS:Tb Tryz.prog:= {T:= [Y2,Y76,Y102,Y115],mix:=mix,Es:= [],Bs:= [],d:=1}
def zfK (a0:Wide) (a1:I64):Tr (Wide):=
 .br (a1.val==0) (.leaf a0) (.br (decide (a1.val<64)) (.leaf ⟨(Rng.w .i64 (a0.hi.val.fdiv (2^min ((Rng.w .u64 (a1.val)).val).toNat 64))),(Rng.w .u64 (zbv .or .u64 (Rng.w .u64 (a0.lo.val.fdiv (2^min ((Rng.w .u64 (a1.val)).val).toNat 64))).val (Rng.w .u64 ((Rng.w .u64 (a0.hi.val)).val*(2^min ((Rng.w .u64 ((Rng.w .i64 (64-a1.val)).val)).val).toNat 64))).val))⟩) (.leaf ⟨(Rng.w .i64 (a0.hi.val.fdiv 9223372036854775808)),(Rng.w .u64 ((Rng.w .i64 (a0.hi.val.fdiv (2^min ((Rng.w .u64 ((Rng.w .i64 (a1.val-64)).val)).val).toNat 64))).val))⟩))
theorem zrn (a0:Wide) (a1:I64):zJS.run B164 [enc a0,enc a1] (Wide)=(zfK a0 a1).opt:=by kernel_rfl
def zc3:Wide->I64->Wide:=fun a0 a1=>(zfK a0 a1).get
theorem zqY (a0:Wide) (a1:I64):(zfK a0 a1).opt=some (zc3 a0 a1):=Tr.z8 (by kernel_rfl)
def zsk:Ent Tryz.prog:= .of2 zJS B164 (fun _ _=>true) zc3 fun a0 a1 _=>(zrn a0 a1).trans (zqY a0 a1)
def B127:Bod Tryz.prog:=⟨127,Tryz.f127,Tryz.f127.body.getD .skip,Tryz.func127,by kernel_rfl,by kernel_rfl,zav.no _ _⟩
def zKh:Tb Tryz.prog:= {T:= [],mix:=mix,Es:= [zhy,zoN,zoO,zsk],Bs:= [],d:=1}
def zfL (a0:I64) (a1:I64) (a2:I64):Tr (T2 I64 Bool):=
 .br (!(zX a2 ⟨0,rfl⟩ ⟨126,rfl⟩)) (.leaf ⟨⟨0,rfl⟩,false⟩) (let c4:=zh0 (zc3 (zeb a0 a1) a2);.leaf ⟨c4.a,c4.b⟩)
theorem zrq (a0:I64) (a1:I64) (a2:I64):zKh.run B127 [enc a0,enc a1,enc a2] (T2 I64 Bool)=(zfL a0 a1 a2).opt:=by kernel_rfl
def zaz:I64->I64->I64->T2 I64 Bool:=fun a0 a1 a2=>(zfL a0 a1 a2).get
theorem zq1 (a0:I64) (a1:I64) (a2:I64):(zfL a0 a1 a2).opt=some (zaz a0 a1 a2):=Tr.z8 (by kernel_rfl)
def zsm:Ent Tryz.prog:= .of3 zKh B127 (fun _ _ _=>true) zaz fun a0 a1 a2 _=>(zrq a0 a1 a2).trans (zq1 a0 a1 a2)
def B56:Bod Tryz.prog:=⟨56,Tryz.f56,Tryz.f56.body.getD .skip,Tryz.func56,by kernel_rfl,by kernel_rfl,zav.no _ _⟩
def Tb56:Tb Tryz.prog:= {T:= [],mix:=mix,Es:= [zm0,zsm,zvX],Bs:= [],d:=1}
def zcq (a0:I64) (a1:I64):Tr (T2 I64 Bool):=
 .br (!(zG a0)) (.leaf ⟨⟨0,rfl⟩,false⟩) (.br (!(zG a1)) (.leaf ⟨⟨0,rfl⟩,false⟩) (let c3:=zaz a0 a1 ⟨32,rfl⟩;let c4:=zaB c3.a c3.b;.leaf ⟨c4.a,c4.b⟩))
theorem zpc (a0:I64) (a1:I64):Tb56.run B56 [enc a0,enc a1] (T2 I64 Bool)=(zcq a0 a1).opt:=by kernel_rfl
def zT:I64->I64->T2 I64 Bool:=fun a0 a1=>(zcq a0 a1).get
theorem zoZ (a0:I64) (a1:I64):(zcq a0 a1).opt=some (zT a0 a1):=Tr.z8 (by kernel_rfl)
def zlv:Ent Tryz.prog:= .of2 Tb56 B56 (fun _ _=>true) zT fun a0 a1 _=>(zpc a0 a1).trans (zoZ a0 a1)
def B57:Bod Tryz.prog:=⟨57,Tryz.f57,Tryz.f57.body.getD .skip,Tryz.func57,by kernel_rfl,by kernel_rfl,zav.no _ _⟩
def Tb57:Tb Tryz.prog:= {T:= [],mix:=mix,Es:= [zlv,zm0],Bs:= [],d:=1}
def zdI (a0:I64) (a1:I64):Tr (T2 I64 Bool):=
 let c2:=zT (Rng.w .i64 (0-a0.val)) a1;.br (!(zG a0)) (.leaf ⟨⟨0,rfl⟩,false⟩) (.br (!c2.b) (.leaf ⟨⟨0,rfl⟩,false⟩) (.leaf ⟨(Rng.w .i64 (0-c2.a.val)),true⟩))
theorem zrl (a0:I64) (a1:I64):Tb57.run B57 [enc a0,enc a1] (T2 I64 Bool)=(zdI a0 a1).opt:=by kernel_rfl
def zaf:I64->I64->T2 I64 Bool:=fun a0 a1=>(zdI a0 a1).get
theorem zqW (a0:I64) (a1:I64):(zdI a0 a1).opt=some (zaf a0 a1):=Tr.z8 (by kernel_rfl)
def zsi:Ent Tryz.prog:= .of2 Tb57 B57 (fun _ _=>true) zaf fun a0 a1 _=>(zrl a0 a1).trans (zqW a0 a1)
def B58:Bod Tryz.prog:=⟨58,Tryz.f58,Tryz.f58.body.getD .skip,Tryz.func58,by kernel_rfl,by kernel_rfl,zav.no _ _⟩
def Tb58:Tb Tryz.prog:= {T:= [],mix:=mix,Es:= [],Bs:= [],d:=1}
def zf9 (a0:I64) (a1:I64):Tr (I64):=
 .br (decide (a0.val<a1.val)) (.leaf a0) (.leaf a1)
theorem zvd (a0:I64) (a1:I64):Tb58.run B58 [enc a0,enc a1] (I64)=(zf9 a0 a1).opt:=by kernel_rfl
def zC:I64->I64->I64:=fun a0 a1=>(zf9 a0 a1).get
theorem zuJ (a0:I64) (a1:I64):(zf9 a0 a1).opt=some (zC a0 a1):=Tr.z8 (by kernel_rfl)
def zoP:Ent Tryz.prog:= .of2 Tb58 B58 (fun _ _=>true) zC fun a0 a1 _=>(zvd a0 a1).trans (zuJ a0 a1)
def B59:Bod Tryz.prog:=⟨59,Tryz.f59,Tryz.f59.body.getD .skip,Tryz.func59,by kernel_rfl,by kernel_rfl,zav.no _ _⟩
def Tb59:Tb Tryz.prog:= {T:= [],mix:=mix,Es:= [],Bs:= [],d:=1}
def zga (a0:I64) (a1:I64):Tr (I64):=
 .br (decide (a0.val>a1.val)) (.leaf a0) (.leaf a1)
theorem zve (a0:I64) (a1:I64):Tb59.run B59 [enc a0,enc a1] (I64)=(zga a0 a1).opt:=by kernel_rfl
def zA:I64->I64->I64:=fun a0 a1=>(zga a0 a1).get
theorem zuK (a0:I64) (a1:I64):(zga a0 a1).opt=some (zA a0 a1):=Tr.z8 (by kernel_rfl)
def zoQ:Ent Tryz.prog:= .of2 Tb59 B59 (fun _ _=>true) zA fun a0 a1 _=>(zve a0 a1).trans (zuK a0 a1)
def Y72:TyE Tryz.prog:=⟨72,1,(.slice 2 1),[.nils],false,by kernel_rfl,by kernel_rfl,by kernel_rfl,by kernel_rfl,by kernel_rfl,by kernel_rfl⟩
def B14:Bod Tryz.prog:=⟨14,Tryz.f14,Tryz.f14.body.getD .skip,Tryz.func14,by kernel_rfl,by kernel_rfl,zav.no _ _⟩
def Tb14:Tb Tryz.prog:= {T:= [Y2,Y34,Y72],mix:=mix,Es:= [zkT,zeM,zlv,zsi,zoP,zoQ,zlb],Bs:= [],d:=1}
def zid (a0:Iv) (a1:Iv):Tr (Iv):=
 .br (!(ze a0)) (.leaf zt) (.br (!(ze a1)) (.leaf zt) (let c5:=zT a0.lo a1.lo;let c6:=zaf a0.lo a1.lo;.br (!c5.b) (.leaf zt) (.br (!c6.b) (.leaf zt) (let c11:=zT a0.lo a1.hi;let c12:=zaf a0.lo a1.hi;.br (!c11.b) (.leaf zt) (.br (!c12.b) (.leaf zt) (let c17:=zT a0.hi a1.lo;let c18:=zaf a0.hi a1.lo;.br (!c17.b) (.leaf zt) (.br (!c18.b) (.leaf zt) (let c23:=zT a0.hi a1.hi;let c24:=zaf a0.hi a1.hi;.br (!c23.b) (.leaf zt) (.br (!c24.b) (.leaf zt) (.leaf (zab (zC (zC (zC (zC ⟨1152921504606846976,rfl⟩ c5.a) c11.a) c17.a) c23.a) (zA (zA (zA (zA ⟨(-1152921504606846976),rfl⟩ c6.a) c12.a) c18.a) c24.a))))))))))))
theorem zyy (a0:Iv) (a1:Iv):Tb14.run B14 [enc a0,enc a1] (Iv)=(zid a0 a1).opt:=by kernel_rfl
def zz:Iv->Iv->Iv:=fun a0 a1=>(zid a0 a1).get
theorem zx1 (a0:Iv) (a1:Iv):(zid a0 a1).opt=some (zz a0 a1):=Tr.z8 (by kernel_rfl)
def zzu:Ent Tryz.prog:= .of2 Tb14 B14 (fun _ _=>true) zz fun a0 a1 _=>(zyy a0 a1).trans (zx1 a0 a1)
def B85:Bod Tryz.prog:=⟨85,Tryz.f85,Tryz.f85.body.getD .skip,Tryz.func85,by kernel_rfl,by kernel_rfl,zav.no _ _⟩
def Tb85:Tb Tryz.prog:= {T:= [Y34],mix:=mix,Es:= [zdk],Bs:= [],d:=1}
def zge (a0:Iv) (a1:Iv):Tr (Bool):=
 .br (zbs a0) (.leaf (zbs a1)) (.leaf false)
theorem zpk (a0:Iv) (a1:Iv):Tb85.run B85 [enc a0,enc a1] (Bool)=(zge a0 a1).opt:=by kernel_rfl
def za8:Iv->Iv->Bool:=fun a0 a1=>(zge a0 a1).get
theorem zo4 (a0:Iv) (a1:Iv):(zge a0 a1).opt=some (za8 a0 a1):=Tr.z8 (by kernel_rfl)
def zb0:Ent Tryz.prog:= .of2 Tb85 B85 (fun _ _=>true) za8 fun a0 a1 _=>(zpk a0 a1).trans (zo4 a0 a1)
def B186:Bod Tryz.prog:=⟨186,Tryz.f186,Tryz.f186.body.getD .skip,Tryz.func186,by kernel_rfl,by kernel_rfl,zav.no _ _⟩
def zJK:Tb Tryz.prog:= {T:= [Y2,Y76,Y115],mix:=mix,Es:= [za1],Bs:= [],d:=1}
def zfa (a0:Wide) (a1:I64):Tr (Wide):=
 .br (!(zaw a1 ⟨0,rfl⟩ ⟨127,rfl⟩)) (.leaf ⟨⟨0,rfl⟩,⟨0,rfl⟩⟩) (.br (decide (a1.val>=64)) (let c3:=(Rng.w .i64 (a1.val-64));.br (decide (c3.val<0)) (.bad) (.leaf ⟨(Rng.w .i64 (a0.hi.val.fdiv 9223372036854775808)),(Rng.w .u64 ((Rng.w .i64 (a0.hi.val.fdiv (2^min (c3.val).toNat 64))).val))⟩)) (.br (decide (a1.val<0)) (.bad) (.br (decide (a1.val<0)) (.bad) (let c7:=(Rng.w .i64 (64-a1.val));.br (decide (c7.val<0)) (.bad) (.leaf ⟨(Rng.w .i64 (a0.hi.val.fdiv (2^min (a1.val).toNat 64))),(Rng.w .u64 (zbv .or .u64 (Rng.w .u64 (a0.lo.val.fdiv (2^min (a1.val).toNat 64))).val (Rng.w .u64 ((Rng.w .u64 (a0.hi.val)).val*(2^min (c7.val).toNat 64))).val))⟩)))))
theorem zqm (a0:Wide) (a1:I64):zJK.run B186 [enc a0,enc a1] (Wide)=(zfa a0 a1).opt:=by kernel_rfl
def zjn:Wide->I64->Wide:=fun a0 a1=>(zfa a0 a1).get
def zg6:Wide->I64->Bool:=fun a0 a1=>(zfa a0 a1).opt.isSome
def zqw:Ent Tryz.prog:= .of2 zJK B186 zg6 zjn fun a0 a1 h=>(zqm a0 a1).trans (Tr.get_some h)
def B146:Bod Tryz.prog:=⟨146,Tryz.f146,Tryz.f146.body.getD .skip,Tryz.func146,by kernel_rfl,by kernel_rfl,zav.no _ _⟩
def zIh:Tb Tryz.prog:= {T:= [],mix:=mix,Es:= [za1,zfv,zld,zqw],Bs:= [],d:=1}
def zez (a0:I64) (a1:I64) (a2:I64):Tr (T2 I64 Bool):=
 .br (!(zaw a2 ⟨0,rfl⟩ ⟨126,rfl⟩)) (.leaf ⟨⟨0,rfl⟩,false⟩) (let c2:=zbV a0 a1;.br (zg6 c2 a2) (let c4:=zft (zjn c2 a2);.leaf ⟨c4.a,c4.b⟩) (.bad))
theorem zmM (a0:I64) (a1:I64) (a2:I64):zIh.run B146 [enc a0,enc a1,enc a2] (T2 I64 Bool)=(zez a0 a1 a2).opt:=by kernel_rfl
def zbR:I64->I64->I64->T2 I64 Bool:=fun a0 a1 a2=>(zez a0 a1 a2).get
def zhY:I64->I64->I64->Bool:=fun a0 a1 a2=>(zez a0 a1 a2).opt.isSome
def zso:Ent Tryz.prog:= .of3 zIh B146 zhY zbR fun a0 a1 a2 h=>(zmM a0 a1 a2).trans (Tr.get_some h)
def B87:Bod Tryz.prog:=⟨87,Tryz.f87,Tryz.f87.body.getD .skip,Tryz.func87,by kernel_rfl,by kernel_rfl,zav.no _ _⟩
def Tb87:Tb Tryz.prog:= {T:= [],mix:=mix,Es:= [zc7,zhz,zso],Bs:= [],d:=1}
def zgL (a0:I64) (a1:I64):Tr (T2 I64 Bool):=
 .br (!(zaO a0)) (.leaf ⟨⟨0,rfl⟩,false⟩) (.br (!(zaO a1)) (.leaf ⟨⟨0,rfl⟩,false⟩) (.br (zhY a0 a1 ⟨32,rfl⟩) (let c3:=zbR a0 a1 ⟨32,rfl⟩;let c4:=zcu c3.a c3.b;.leaf ⟨c4.a,c4.b⟩) (.bad)))
theorem ztn (a0:I64) (a1:I64):Tb87.run B87 [enc a0,enc a1] (T2 I64 Bool)=(zgL a0 a1).opt:=by kernel_rfl
def zdz:I64->I64->T2 I64 Bool:=fun a0 a1=>(zgL a0 a1).get
def zcS:I64->I64->Bool:=fun a0 a1=>(zgL a0 a1).opt.isSome
def zle:Ent Tryz.prog:= .of2 Tb87 B87 zcS zdz fun a0 a1 h=>(ztn a0 a1).trans (Tr.get_some h)
def B88:Bod Tryz.prog:=⟨88,Tryz.f88,Tryz.f88.body.getD .skip,Tryz.func88,by kernel_rfl,by kernel_rfl,zav.no _ _⟩
def Tb88:Tb Tryz.prog:= {T:= [],mix:=mix,Es:= [zle,zc7],Bs:= [],d:=1}
def ziY (a0:I64) (a1:I64):Tr (T2 I64 Bool):=
 .br (!(zaO a0)) (.leaf ⟨⟨0,rfl⟩,false⟩) (.br (!(zaO a1)) (.leaf ⟨⟨0,rfl⟩,false⟩) (let c3:=(Rng.w .i64 (0-a0.val));.br (zcS c3 a1) (let c4:=zdz c3 a1;.leaf ⟨(Rng.w .i64 (0-c4.a.val)),c4.b⟩) (.bad)))
theorem zwW (a0:I64) (a1:I64):Tb88.run B88 [enc a0,enc a1] (T2 I64 Bool)=(ziY a0 a1).opt:=by kernel_rfl
def zf4:I64->I64->T2 I64 Bool:=fun a0 a1=>(ziY a0 a1).get
def zeU:I64->I64->Bool:=fun a0 a1=>(ziY a0 a1).opt.isSome
def zqc:Ent Tryz.prog:= .of2 Tb88 B88 zeU zf4 fun a0 a1 h=>(zwW a0 a1).trans (Tr.get_some h)
def Y120:TyE Tryz.prog:=⟨120,2,(.array 2 2 1),[.i64 ⟨0,rfl⟩,.i64 ⟨0,rfl⟩],false,by kernel_rfl,by kernel_rfl,by kernel_rfl,by kernel_rfl,by kernel_rfl,by kernel_rfl⟩
def B86:Bod Tryz.prog:=⟨86,Tryz.f86,Tryz.f86.body.getD .skip,Tryz.func86,by kernel_rfl,by kernel_rfl,zav.no _ _⟩
def B36:Bod Tryz.prog:=⟨36,Tryz.f36,Tryz.f36.body.getD .skip,Tryz.func36,by kernel_rfl,by kernel_rfl,zav.no _ _⟩
def Tb36:Tb Tryz.prog:= {T:= [Y2,Y34,Y120],mix:=mix,Es:= [zaA,zb0,zle,zqc,zcg],Bs:= [B86],d:=8}
def zjU (a0:Iv) (a1:Iv):Tr (Iv):=
 .br (!(za8 a0 a1)) (.leaf zL) (.br (zcS a0.lo a1.lo) (let c3:=zdz a0.lo a1.lo;.br (zeU a0.lo a1.lo) (let c4:=zf4 a0.lo a1.lo;.br (!c3.b) (.leaf zL) (.br (!c4.b) (.leaf zL) (.br (zcS a0.lo a1.hi) (let c7:=zdz a0.lo a1.hi;.br (zeU a0.lo a1.hi) (let c8:=zf4 a0.lo a1.hi;.br (!c7.b) (.leaf zL) (.br (!c8.b) (.leaf zL) (.br (zcS a0.hi a1.lo) (let c11:=zdz a0.hi a1.lo;.br (zeU a0.hi a1.lo) (let c12:=zf4 a0.hi a1.lo;.br (!c11.b) (.leaf zL) (.br (!c12.b) (.leaf zL) (.br (zcS a0.hi a1.hi) (let c17:=zdz a0.hi a1.hi;.br (zeU a0.hi a1.hi) (let c18:=zf4 a0.hi a1.hi;.br (!c17.b) (.leaf zL) (.br (!c18.b) (.leaf zL) (.leaf (zaR (mn (mn (mn (mn c3.a c3.a) c7.a) c11.a) c17.a) (mx (mx (mx (mx c4.a c4.a) c8.a) c12.a) c18.a) true)))) (.bad)) (.bad)))) (.bad)) (.bad)))) (.bad)) (.bad)))) (.bad)) (.bad))
theorem zyG (a0:Iv) (a1:Iv):Tb36.run B36 [enc a0,enc a1] (Iv)=(zjU a0 a1).opt:=by kernel_rfl
def zV:Iv->Iv->Iv:=fun a0 a1=>(zjU a0 a1).get
def B89:Bod Tryz.prog:=⟨89,Tryz.f89,Tryz.f89.body.getD .skip,Tryz.func89,by kernel_rfl,by kernel_rfl,zav.no _ _⟩
def Tb89:Tb Tryz.prog:= {T:= [Y2,Y34],mix:=mix,Es:= [za1,zbI],Bs:= [],d:=1}
def zlL (a0:Iv) (a1:I64):Tr (Bool):=
 .br (zas a0) (.leaf true) (.leaf (zaw a1 a0.lo a0.hi))
theorem zyI (a0:Iv) (a1:I64):Tb89.run B89 [enc a0,enc a1] (Bool)=(zlL a0 a1).opt:=by kernel_rfl
def zis:Iv->I64->Bool:=fun a0 a1=>(zlL a0 a1).get
theorem zx9 (a0:Iv) (a1:I64):(zlL a0 a1).opt=some (zis a0 a1):=Tr.z8 (by kernel_rfl)
def zsp:Ent Tryz.prog:= .of2 Tb89 B89 (fun _ _=>true) zis fun a0 a1 _=>(zyI a0 a1).trans (zx9 a0 a1)
def B90:Bod Tryz.prog:=⟨90,Tryz.f90,Tryz.f90.body.getD .skip,Tryz.func90,by kernel_rfl,by kernel_rfl,zav.no _ _⟩
def Tb90:Tb Tryz.prog:= {T:= [],mix:=mix,Es:= [zn0,zc7,zhz],Bs:= [],d:=1}
def ziN (a0:I64) (a1:I64):Tr (T2 I64 Bool):=
 .br (!(zaO a0)) (.leaf ⟨⟨0,rfl⟩,false⟩) (.br (!(zaO a1)) (.leaf ⟨⟨0,rfl⟩,false⟩) (.br (decide (a1.val<0)) (let c5:=zbm (Rng.w .i64 (0-a0.val)) ⟨4294967296,rfl⟩ (Rng.w .i64 (0-a1.val));let c6:=zcu c5.a c5.b;.leaf ⟨c6.a,c6.b⟩) (let c7:=zbm a0 ⟨4294967296,rfl⟩ a1;let c8:=zcu c7.a c7.b;.leaf ⟨c8.a,c8.b⟩)))
theorem ztv (a0:I64) (a1:I64):Tb90.run B90 [enc a0,enc a1] (T2 I64 Bool)=(ziN a0 a1).opt:=by kernel_rfl
def zcV:I64->I64->T2 I64 Bool:=fun a0 a1=>(ziN a0 a1).get
theorem zsX (a0:I64) (a1:I64):(ziN a0 a1).opt=some (zcV a0 a1):=Tr.z8 (by kernel_rfl)
def znC:Ent Tryz.prog:= .of2 Tb90 B90 (fun _ _=>true) zcV fun a0 a1 _=>(ztv a0 a1).trans (zsX a0 a1)
def B91:Bod Tryz.prog:=⟨91,Tryz.f91,Tryz.f91.body.getD .skip,Tryz.func91,by kernel_rfl,by kernel_rfl,zav.no _ _⟩
def Tb91:Tb Tryz.prog:= {T:= [],mix:=mix,Es:= [znC,zc7],Bs:= [],d:=1}
def zkI (a0:I64) (a1:I64):Tr (T2 I64 Bool):=
 .br (!(zaO a0)) (.leaf ⟨⟨0,rfl⟩,false⟩) (.br (!(zaO a1)) (.leaf ⟨⟨0,rfl⟩,false⟩) (let c4:=zcV (Rng.w .i64 (0-a0.val)) a1;.leaf ⟨(Rng.w .i64 (0-c4.a.val)),c4.b⟩))
theorem zw3 (a0:I64) (a1:I64):Tb91.run B91 [enc a0,enc a1] (T2 I64 Bool)=(zkI a0 a1).opt:=by kernel_rfl
def zeX:I64->I64->T2 I64 Bool:=fun a0 a1=>(zkI a0 a1).get
theorem zws (a0:I64) (a1:I64):(zkI a0 a1).opt=some (zeX a0 a1):=Tr.z8 (by kernel_rfl)
def zxV:Ent Tryz.prog:= .of2 Tb91 B91 (fun _ _=>true) zeX fun a0 a1 _=>(zw3 a0 a1).trans (zws a0 a1)
def B37:Bod Tryz.prog:=⟨37,Tryz.f37,Tryz.f37.body.getD .skip,Tryz.func37,by kernel_rfl,by kernel_rfl,zav.no _ _⟩
def Tb37:Tb Tryz.prog:= {T:= [Y2,Y34,Y120],mix:=mix,Es:= [zaA,zb0,zsp,znC,zxV,zcg],Bs:= [B86],d:=8}
def zlM (a0:Iv) (a1:Iv):Tr (Iv):=
 .br (!(za8 a0 a1)) (.leaf zL) (.br (zis a1 ⟨0,rfl⟩) (.leaf zL) (let c5:=zcV a0.lo a1.lo;let c6:=zeX a0.lo a1.lo;.br (!c5.b) (.leaf zL) (.br (!c6.b) (.leaf zL) (let c9:=zcV a0.lo a1.hi;let c10:=zeX a0.lo a1.hi;.br (!c9.b) (.leaf zL) (.br (!c10.b) (.leaf zL) (let c14:=zcV a0.hi a1.lo;let c15:=zeX a0.hi a1.lo;.br (!c14.b) (.leaf zL) (.br (!c15.b) (.leaf zL) (let c19:=zcV a0.hi a1.hi;let c20:=zeX a0.hi a1.hi;.br (!c19.b) (.leaf zL) (.br (!c20.b) (.leaf zL) (.leaf (zaR (mn (mn (mn (mn c5.a c5.a) c9.a) c14.a) c19.a) (mx (mx (mx (mx c6.a c6.a) c10.a) c15.a) c20.a) true)))))))))))
theorem zyJ (a0:Iv) (a1:Iv):Tb37.run B37 [enc a0,enc a1] (Iv)=(zlM a0 a1).opt:=by kernel_rfl
def zat:Iv->Iv->Iv:=fun a0 a1=>(zlM a0 a1).get
theorem zya (a0:Iv) (a1:Iv):(zlM a0 a1).opt=some (zat a0 a1):=Tr.z8 (by kernel_rfl)
def zeq:Ent Tryz.prog:= .of2 Tb37 B37 (fun _ _=>true) zat fun a0 a1 _=>(zyJ a0 a1).trans (zya a0 a1)
def B151:Bod Tryz.prog:=⟨151,Tryz.f151,Tryz.f151.body.getD .skip,Tryz.func151,by kernel_rfl,by kernel_rfl,zav.no _ _⟩
def zJ5:Tb Tryz.prog:= {T:= [Y2,Y34],mix:=mix,Es:= [zpS,zaA,zsp,zbI],Bs:= [],d:=1}
def zlP (a0:Iv):Tr (Iv):=
 .br (zas a0) (.leaf zL) (let c5:=zaD a0.lo;let c6:=zaD a0.hi;.br (zis a0 ⟨0,rfl⟩) (.leaf ⟨⟨0,rfl⟩,(mx c5 c6)⟩) (.leaf ⟨(mn (zaD a0.lo) (zaD a0.hi)),(mx c5 c6)⟩))
theorem zyM (a0:Iv):zJ5.run B151 [enc a0] (Iv)=(zlP a0).opt:=by kernel_rfl
def zkn:Iv->Iv:=fun a0=>(zlP a0).get
theorem zyd (a0:Iv):(zlP a0).opt=some (zkn a0):=Tr.z8 (by kernel_rfl)
def zzz:Ent Tryz.prog:= .of1 zJ5 B151 (fun _=>true) zkn fun a0 _=>(zyM a0).trans (zyd a0)
def B102:Bod Tryz.prog:=⟨102,Tryz.f102,Tryz.f102.body.getD .skip,Tryz.func102,by kernel_rfl,by kernel_rfl,zav.no _ _⟩
def zKF:Tb Tryz.prog:= {T:= [Y2,Y34],mix:=mix,Es:= [zaA,zle,zqc,zcg,zbI,zzz],Bs:= [],d:=1}
def zjT (a0:Iv):Tr (Iv):=
 .br (zas a0) (.leaf zL) (let c3:=zkn a0;.br (zcS c3.lo c3.lo) (let c4:=zdz c3.lo c3.lo;.br (zeU c3.hi c3.hi) (let c5:=zf4 c3.hi c3.hi;.br c4.b (.leaf (zaR c4.a c5.a c5.b)) (.leaf (zaR c4.a c5.a false))) (.bad)) (.bad))
theorem zyD (a0:Iv):zKF.run B102 [enc a0] (Iv)=(zjT a0).opt:=by kernel_rfl
def zeo:Iv->Iv:=fun a0=>(zjT a0).get
structure zcr where
 x0:U64
 x1:I64
 x2:I64
 x3:U64
instance:Inhabited zcr:=⟨⟨default,default,default,default⟩⟩
def zkM (x:zcr):St:=⟨[(1,.ptr 0 0),(4,.u64 x.x0),(5,.i64 x.x1)],46,⟨[(0,[.i64 x.x2,.u64 x.x3])],1,0⟩⟩
def zkO:St->Option zcr:=fun s=>match s with
 | ⟨[(1,.ptr 0 0),(4,.u64 x0),(5,.i64 x1)],46,⟨[(0,[.i64 x2,.u64 x3])],1,0⟩⟩=>some ⟨x0,x1,x2,x3⟩
 | _=>none
def zdD (x:zcr):Tr (Lp zcr):=
 .br (decide (x.x1.val>=0)) (.br (decide (x.x1.val<0)) (.bad) (let c2:=(Rng.w .u64 (zbv .or .u64 x.x0.val (Rng.w .u64 (1*(2^min (x.x1.val).toNat 64))).val));let c3:=zdF c2 c2;.br (decide (c3.a.val<(Rng.w .u64 (x.x2.val)).val)) (.leaf (.again ⟨c2,(Rng.w .i64 (x.x1.val-1)),x.x2,x.x3⟩)) (.br (c3.a.val==(Rng.w .u64 (x.x2.val)).val) (.br (decide (c3.b.val<=x.x3.val)) (.leaf (.again ⟨c2,(Rng.w .i64 (x.x1.val-1)),x.x2,x.x3⟩)) (.leaf (.again ⟨x.x0,(Rng.w .i64 (x.x1.val-1)),x.x2,x.x3⟩))) (.leaf (.again ⟨x.x0,(Rng.w .i64 (x.x1.val-1)),x.x2,x.x3⟩))))) (.leaf (.out ⟨x.x0,x.x1,x.x2,x.x3⟩))
def zgn (x:zcr):Bool:=(Lf zdD 66 x).opt.isSome
def zil (x:zcr):zcr:=(Lf zdD 66 x).get
def znW:Tb Tryz.prog:= {T:= [Y2,Y76,Y115],mix:=mix,Es:= [zlw],Bs:= [],d:=1}
def zik:LpF:=zvA [1,4,5] [0] 1 zkO zkM (.exit 0) zgn zil
theorem znR:zlt Tryz.prog (zox (Tryz.f217.body.getD .skip) 0) zik:=zlV (t:=znW) (lt:=fun _=>none) (body:=zdD) (n:=66) (by intro h;cases h) (fun _ _ _ h=>by cases h)
 (by intro s x h;unfold zkO at h;split at h<;>cases h;rfl) (fun x b cs h=>zxp (l:=(zkM x).mm.blks) (by kernel_rfl) h) (by intro x;kernel_rfl) (fun x h=>Tr.get_some h)
def B217:Bod Tryz.prog:=⟨217,Tryz.f217,Tryz.f217.body.getD .skip,Tryz.func217,by kernel_rfl,by kernel_rfl,⟨ltOf [(5,zik)],zav.of (ks:= [5]) (by kernel_rfl) (by
 intro i k h f hf
 match i,h with
 | 0,h=>cases h;obtain rfl:zik=f:=Option.some.inj hf;exact znR
 | n+1,h=>simp at h)⟩⟩
def zJx:Tb Tryz.prog:= {T:= [Y2,Y76,Y115],mix:=mix,Es:= [],Bs:= [],d:=1}
def zfN (a0:Wide):Tr (T2 U64 Bool):=
 .br (decide (a0.hi.val<0)) (.leaf ⟨⟨0,rfl⟩,false⟩) (.br (zgn ⟨⟨0,rfl⟩,⟨63,rfl⟩,a0.hi,a0.lo⟩) (.leaf ⟨(zil ⟨⟨0,rfl⟩,⟨63,rfl⟩,a0.hi,a0.lo⟩).x0,true⟩) (.bad))
theorem zrs (a0:Wide):zJx.run B217 [enc a0] (T2 U64 Bool)=(zfN a0).opt:=by kernel_rfl
def zh4:Wide->T2 U64 Bool:=fun a0=>(zfN a0).get
def zhX:Wide->Bool:=fun a0=>(zfN a0).opt.isSome
def zsn:Ent Tryz.prog:= .of1 zJx B217 zhX zh4 fun a0 h=>(zrs a0).trans (Tr.get_some h)
def B187:Bod Tryz.prog:=⟨187,Tryz.f187,Tryz.f187.body.getD .skip,Tryz.func187,by kernel_rfl,by kernel_rfl,zav.no _ _⟩
def zIg:Tb Tryz.prog:= {T:= [Y2,Y76],mix:=mix,Es:= [zfv,zsn],Bs:= [],d:=1}
def zdX (a0:I64) (a1:I64):Tr (T2 I64 Bool):=
 .br (decide (a0.val<0)) (.leaf ⟨⟨0,rfl⟩,false⟩) (.br (decide (a1.val<0)) (.leaf ⟨⟨0,rfl⟩,false⟩) (let c1:=zbV a0 a1;.br (zhX c1) (let c2:=zh4 c1;.leaf ⟨(Rng.w .i64 (c2.a.val)),c2.b⟩) (.bad)))
theorem zmg (a0:I64) (a1:I64):zIg.run B187 [enc a0,enc a1] (T2 I64 Bool)=(zdX a0 a1).opt:=by kernel_rfl
def zde:I64->I64->T2 I64 Bool:=fun a0 a1=>(zdX a0 a1).get
def zg7:I64->I64->Bool:=fun a0 a1=>(zdX a0 a1).opt.isSome
def zqx:Ent Tryz.prog:= .of2 zIg B187 zg7 zde fun a0 a1 h=>(zmg a0 a1).trans (Tr.get_some h)
def B149:Bod Tryz.prog:=⟨149,Tryz.f149,Tryz.f149.body.getD .skip,Tryz.func149,by kernel_rfl,by kernel_rfl,zav.no _ _⟩
def zJ7:Tb Tryz.prog:= {T:= [],mix:=mix,Es:= [zc7,zhz,zqx],Bs:= [],d:=1}
def zey (a0:I64):Tr (T2 I64 Bool):=
 .br (!(zaO a0)) (.leaf ⟨⟨0,rfl⟩,false⟩) (.br (zg7 a0 ⟨4294967296,rfl⟩) (let c2:=zde a0 ⟨4294967296,rfl⟩;let c3:=zcu c2.a c2.b;.leaf ⟨c3.a,c3.b⟩) (.bad))
theorem zru (a0:I64):zJ7.run B149 [enc a0] (T2 I64 Bool)=(zey a0).opt:=by kernel_rfl
def zeL:I64->T2 I64 Bool:=fun a0=>(zey a0).get
def zfY:I64->Bool:=fun a0=>(zey a0).opt.isSome
def zm5:Ent Tryz.prog:= .of1 zJ7 B149 zfY zeL fun a0 h=>(zru a0).trans (Tr.get_some h)
def B150:Bod Tryz.prog:=⟨150,Tryz.f150,Tryz.f150.body.getD .skip,Tryz.func150,by kernel_rfl,by kernel_rfl,zav.no _ _⟩
def zJ6:Tb Tryz.prog:= {T:= [Y2,Y76,Y115],mix:=mix,Es:= [zfv,zhz,zm5],Bs:= [],d:=1}
def ze2 (a0:I64):Tr (T2 I64 Bool):=
 .br (zfY a0) (let c1:=zeL a0;.br c1.b (let c2:=zbV c1.a c1.a;let c3:=zbV a0 ⟨4294967296,rfl⟩;.br (!((c2.hi.val==c3.hi.val)&&((c2.lo.val==c3.lo.val)&&true))) (let c6:=zcu (Rng.w .i64 (c1.a.val+1)) c1.b;.leaf ⟨c6.a,c6.b⟩) (let c7:=zcu c1.a c1.b;.leaf ⟨c7.a,c7.b⟩)) (let c8:=zcu c1.a c1.b;.leaf ⟨c8.a,c8.b⟩)) (.bad)
theorem zvp (a0:I64):zJ6.run B150 [enc a0] (T2 I64 Bool)=(ze2 a0).opt:=by kernel_rfl
def zgs:I64->T2 I64 Bool:=fun a0=>(ze2 a0).get
def zjK:I64->Bool:=fun a0=>(ze2 a0).opt.isSome
def zv6:Ent Tryz.prog:= .of1 zJ6 B150 zjK zgs fun a0 h=>(zvp a0).trans (Tr.get_some h)
def B101:Bod Tryz.prog:=⟨101,Tryz.f101,Tryz.f101.body.getD .skip,Tryz.func101,by kernel_rfl,by kernel_rfl,zav.no _ _⟩
def zKG:Tb Tryz.prog:= {T:= [Y2,Y34],mix:=mix,Es:= [zaA,zcg,zbI,zm5,zv6],Bs:= [],d:=1}
def ziX (a0:Iv):Tr (Iv):=
 .br (zas a0) (.leaf zL) (.br (decide (a0.lo.val<0)) (.leaf zL) (.br (zfY a0.lo) (let c4:=zeL a0.lo;.br (zjK a0.hi) (let c5:=zgs a0.hi;.br c4.b (.leaf (zaR c4.a c5.a c5.b)) (.leaf (zaR c4.a c5.a false))) (.bad)) (.bad)))
theorem zwT (a0:Iv):zKG.run B101 [enc a0] (Iv)=(ziX a0).opt:=by kernel_rfl
def zht:Iv->Iv:=fun a0=>(ziX a0).get
def zeZ (a0:Iv) (a1:I64):Tr (Bool):=
 .leaf (zX a1 a0.lo a0.hi)
def zbr:Iv->I64->Bool:=fun a0 a1=>(zeZ a0 a1).get
def zbF (a0:I64) (a1:I64):Tr (T2 I64 Bool):=
 .br (!(zG a0)) (.leaf ⟨⟨0,rfl⟩,false⟩) (.br (!(zG a1)) (.leaf ⟨⟨0,rfl⟩,false⟩) (.br (a1.val==0) (.leaf ⟨⟨0,rfl⟩,false⟩) (.br (decide (a1.val<0)) (let c5:=zbb (Rng.w .i64 (0-a0.val)) ⟨4294967296,rfl⟩ (Rng.w .i64 (0-a1.val));let c6:=zaB c5.a c5.b;.leaf ⟨c6.a,c6.b⟩) (let c7:=zbb a0 ⟨4294967296,rfl⟩ a1;let c8:=zaB c7.a c7.b;.leaf ⟨c8.a,c8.b⟩))))
def zM:I64->I64->T2 I64 Bool:=fun a0 a1=>(zbF a0 a1).get
def zdJ (a0:I64) (a1:I64):Tr (T2 I64 Bool):=
 .br (!(zG a0)) (.leaf ⟨⟨0,rfl⟩,false⟩) (let c3:=zM (Rng.w .i64 (0-a0.val)) a1;.leaf ⟨(Rng.w .i64 (0-c3.a.val)),c3.b⟩)
def zY:I64->I64->T2 I64 Bool:=fun a0 a1=>(zdJ a0 a1).get
def zie (a0:Iv) (a1:Iv):Tr (Iv):=
 .br (!(ze a0)) (.leaf zt) (.br (!(ze a1)) (.leaf zt) (.br (zbr a1 ⟨0,rfl⟩) (.leaf zt) (let c7:=zM a0.lo a1.lo;let c8:=zY a0.lo a1.lo;.br (!c7.b) (.leaf zt) (.br (!c8.b) (.leaf zt) (let c13:=zM a0.lo a1.hi;let c14:=zY a0.lo a1.hi;.br (!c13.b) (.leaf zt) (.br (!c14.b) (.leaf zt) (let c19:=zM a0.hi a1.lo;let c20:=zY a0.hi a1.lo;.br (!c19.b) (.leaf zt) (.br (!c20.b) (.leaf zt) (let c25:=zM a0.hi a1.hi;let c26:=zY a0.hi a1.hi;.br (!c25.b) (.leaf zt) (.br (!c26.b) (.leaf zt) (.leaf (zab (zC (zC (zC (zC ⟨1152921504606846976,rfl⟩ c7.a) c13.a) c19.a) c25.a) (zA (zA (zA (zA ⟨(-1152921504606846976),rfl⟩ c8.a) c14.a) c20.a) c26.a)))))))))))))
def zO:Iv->Iv->Iv:=fun a0 a1=>(zie a0 a1).get
def ziw (a0:Iv):Tr (T2 I64 I64):=
 let c2:=zA a0.lo (Rng.w .i64 (0-a0.lo.val));let c4:=zA a0.hi (Rng.w .i64 (0-a0.hi.val));.br (zbr a0 ⟨0,rfl⟩) (.leaf ⟨⟨0,rfl⟩,(zA c2 c4)⟩) (.leaf ⟨(zC c2 c4),(zA c2 c4)⟩)
def zai:Iv->T2 I64 I64:=fun a0=>(ziw a0).get
def zlD (a0:Iv):Tr (Iv):=
 .br (!(ze a0)) (.leaf zt) (let c3:=zai a0;let c4:=zT c3.a c3.a;let c5:=zaf c3.b c3.b;.br (!c4.b) (.leaf zt) (.br (!c5.b) (.leaf zt) (.leaf (zab c4.a c5.a))))
def zbg:Iv->Iv:=fun a0=>(zlD a0).get
structure zd1 where
 x0:U64
 x1:I64
 x2:I64
 x3:U64
instance:Inhabited zd1:=⟨⟨default,default,default,default⟩⟩
def zci (x:zd1):Tr (Lp zd1):=
 .br (decide (x.x1.val>=0)) (let c2:=(Rng.w .u64 (zbv .or .u64 x.x0.val (Rng.w .u64 (1*(2^min ((Rng.w .u64 (x.x1.val)).val).toNat 64))).val));let c3:=zeI c2 c2;.br (decide (c3.a.val<(Rng.w .u64 (x.x2.val)).val)) (.leaf (.again ⟨c2,(Rng.w .i64 (x.x1.val-1)),x.x2,x.x3⟩)) (.br (c3.a.val==(Rng.w .u64 (x.x2.val)).val) (.br (decide (c3.b.val<=x.x3.val)) (.leaf (.again ⟨c2,(Rng.w .i64 (x.x1.val-1)),x.x2,x.x3⟩)) (.leaf (.again ⟨x.x0,(Rng.w .i64 (x.x1.val-1)),x.x2,x.x3⟩))) (.leaf (.again ⟨x.x0,(Rng.w .i64 (x.x1.val-1)),x.x2,x.x3⟩)))) (.leaf (.out ⟨x.x0,x.x1,x.x2,x.x3⟩))
def zfg (x:zd1):Bool:=(Lf zci 66 x).opt.isSome
def zjj (x:zd1):zd1:=(Lf zci 66 x).get
def zej (a0:Wide):Tr (U64):=
 .br (zfg ⟨⟨0,rfl⟩,⟨63,rfl⟩,a0.hi,a0.lo⟩) (.leaf (zjj ⟨⟨0,rfl⟩,⟨63,rfl⟩,a0.hi,a0.lo⟩).x0) (.bad)
def zbo:Wide->U64:=fun a0=>(zej a0).get
def zk7:Wide->Bool:=fun a0=>(zej a0).opt.isSome
def ze9 (a0:I64) (a1:I64):Tr (T2 I64 Bool):=
 .br (decide (a0.val<0)) (.leaf ⟨⟨0,rfl⟩,false⟩) (.br (decide (a1.val<0)) (.leaf ⟨⟨0,rfl⟩,false⟩) (let c1:=zeb a0 a1;.br (zk7 c1) (.leaf ⟨(Rng.w .i64 ((zbo c1).val)),true⟩) (.bad)))
def zfi:I64->I64->T2 I64 Bool:=fun a0 a1=>(ze9 a0 a1).get
def zjm:I64->I64->Bool:=fun a0 a1=>(ze9 a0 a1).opt.isSome
def zd5 (a0:I64):Tr (T2 I64 Bool):=
 .br (!(zX a0 ⟨0,rfl⟩ ⟨1152921504606846976,rfl⟩)) (.leaf ⟨⟨0,rfl⟩,false⟩) (.br (zjm a0 ⟨4294967296,rfl⟩) (let c2:=zfi a0 ⟨4294967296,rfl⟩;.leaf ⟨c2.a,c2.b⟩) (.bad))
def zcC:I64->T2 I64 Bool:=fun a0=>(zd5 a0).get
def zfD:I64->Bool:=fun a0=>(zd5 a0).opt.isSome
def zcG (a0:I64):Tr (T2 I64 Bool):=
 .br (zfD a0) (let c1:=zcC a0;.br (!c1.b) (.leaf ⟨⟨0,rfl⟩,false⟩) (.br ((zaz c1.a c1.a ⟨32,rfl⟩).a.val != a0.val) (.leaf ⟨(Rng.w .i64 (c1.a.val+1)),true⟩) (.br ((Rng.w .i64 (zbv .and .i64 (Rng.w .i64 (c1.a.val*c1.a.val)).val 4294967295)).val != 0) (.leaf ⟨(Rng.w .i64 (c1.a.val+1)),true⟩) (.leaf ⟨c1.a,true⟩)))) (.bad)
def zck:I64->T2 I64 Bool:=fun a0=>(zcG a0).get
def zjl:I64->Bool:=fun a0=>(zcG a0).opt.isSome
def zky (a0:Iv):Tr (Iv):=
 .br (!(ze a0)) (.leaf zt) (.br (decide (a0.lo.val<0)) (.leaf zt) (.br (zfD a0.lo) (.br (zjl a0.hi) (.leaf (zab (zcC a0.lo).a (zck a0.hi).a)) (.bad)) (.bad)))
def zcs:Iv->Iv:=fun a0=>(zky a0).get
end
end Go.Proofs.YtkenfaengphiiaaGreatDoor.Ev
namespace Go.Proofs.YtkenfaengphiiaaGreatDoor.Ev
open Go
theorem or_zero (x:U64):(Rng.w .u64 (zbv .or .u64 x.val 0)).val=x.val:=by
 have b:=x.ubd
 rw [zt8 0 x.val.toNat (by simp;omega) (by omega) (by decide) (by omega)]
 rw [wu (by omega) (by omega)];omega
theorem zzP (w:Wide) (n:I64) (h:0<=n.val/\n.val<=127):(zfa w n).opt=some (zc3 w n):=by
 have hw:zaw n ⟨0,rfl⟩ ⟨127,rfl⟩=true:=by rw [zbO];simpa using h
 have en:(Rng.w .u64 n.val).val=n.val:=wu (by omega) (by omega)
 simp only [zfa,Tr.opt,hw,Bool.not_true,cond_false,zc3,zfK,Tr.get,en]
 by_cases h64:n.val>=64
 ·have e0:(n.val==0)=false:=by simp;omega
  have e1:decide (n.val<64)=false:=by simp;omega
  have e2:(Rng.w .i64 (n.val-64)).val=n.val-64:=wi (by omega) (by omega)
  have e3:decide ((Rng.w .i64 (n.val-64)).val<0)=false:=by rw [e2];simp;omega
  have e4:(Rng.w .u64 (Rng.w .i64 (n.val-64)).val).val=(Rng.w .i64 (n.val-64)).val:=by rw [e2];exact wu (by omega) (by omega)
  simp only [h64,decide_true,cond_true,e0,e1,e3,cond_false,e4]
 ·have e1:decide (n.val<64)=true:=by simp;omega
  have e2:decide (n.val<0)=false:=by simp;omega
  have e3:(Rng.w .i64 (64-n.val)).val=64-n.val:=wi (by omega) (by omega)
  have e4:decide ((Rng.w .i64 (64-n.val)).val<0)=false:=by rw [e3];simp;omega
  have e5:(Rng.w .u64 (Rng.w .i64 (64-n.val)).val).val=(Rng.w .i64 (64-n.val)).val:=by rw [e3];exact wu (by omega) (by omega)
  simp only [h64,decide_false,cond_false,e1,e2,e4,e5,cond_true]
  by_cases h0:n.val=0
  ·have e0:(n.val==0)=true:=by simp [h0]
   simp only [e0,cond_true]
   rw [h0]
   congr 1
   apply zzD
   have bl:=w.lo.ubd
   have k1:min (Int.toNat 0) 64=0:=by rfl
   have k2:min (Rng.w .i64 (64-0)).val.toNat 64=64:=by rfl
   have k3:(2:Int)^64=18446744073709551616:=by decide
   have k4:(Rng.w .u64 (w.lo.val.fdiv (2^0)))=w.lo:=by rw [show (2:Int)^0=1 by rfl,Int.fdiv_one];exact Rng.w_val _
   have k5:(Rng.w .u64 ((Rng.w .u64 w.hi.val).val*18446744073709551616)).val=0:=by rw [zbf];omega
   have k6:Rng.w .i64 (w.hi.val.fdiv (2^0))=w.hi:=by rw [show (2:Int)^0=1 by rfl,Int.fdiv_one];exact Rng.w_val _
   simp only [k1,k2,k3,k4,k5,k6,wv,or_zero]
  ·have e0:(n.val==0)=false:=by simp [h0]
   simp only [e0,cond_false]
theorem zGP (w:Wide) (n:I64) (h:0<=n.val/\n.val<=127):zjn w n=zc3 w n:=Tr.zao (zzP w n h)
theorem zGO (w:Wide) (n:I64) (h:0<=n.val/\n.val<=127):zg6 w n=true:=by unfold zg6;rw [zzP w n h];rfl
theorem znQ (a b n:I64):(zez a b n).opt=some (zaz a b n):=by
 simp only [zez,Tr.opt,zaz,zfL,Tr.get,zbO,zcO,zjE,zot,zvF,zvE]
 by_cases h:0<=n.val/\n.val<=126
 ·have h':0<=n.val/\n.val<=127:=by omega
  simp only [h,and_self,decide_true,Bool.not_true,cond_false,zGP _ _ h',zGO _ _ h',cond_true]
 ·simp only [h,decide_false,Bool.not_false,cond_true]
theorem zps (a b n:I64):zbR a b n=zaz a b n:=Tr.zao (znQ a b n)
theorem zBl (a b n:I64):zhY a b n=true:=by unfold zhY;rw [znQ];rfl
theorem zkR (a:I64):zaO a=zG a:=by
 simp only [zaO,zfO,zG,zd6,Tr.get,zbO,zcO]
theorem zue (a b:I64):(zgL a b).opt=some (zT a b):=by
 simp only [zgL,Tr.opt,zT,zcq,Tr.get,zkR,zps,zBl,zp7,cond_true]
 cases zG a<;>cases zG b<;>rfl
theorem zrH (a b:I64):zdz a b=zT a b:=Tr.zao (zue a b)
theorem zrG (a b:I64):zcS a b=true:=by unfold zcS;rw [zue];rfl
theorem zi5 (a:I64) (b:Bool):zaB a b=⟨⟨0,rfl⟩,false⟩\/(zaB a b=⟨a,true⟩/\zG a=true):=by
 simp only [zaB,zcy,Tr.get]
 cases b
 ·left;rfl
 ·cases h:zG a
  ·left;rfl
  ·right;exact ⟨rfl,rfl⟩
theorem ze3 (a b:I64):zT a b=⟨⟨0,rfl⟩,false⟩\/∃c,zT a b=⟨c,true⟩/\zG c=true:=by
 simp only [zT,zcq,Tr.get]
 cases zG a
 ·left;rfl
 ·cases zG b
  ·left;rfl
  ·simp only [Bool.not_true,cond_false]
   rcases zi5 (zaz a b ⟨32,rfl⟩).a (zaz a b ⟨32,rfl⟩).b with h|⟨h,k⟩
   ·left;rw [h]
   ·right;exact ⟨_,h,k⟩
theorem zyR (a b:I64) (h:zG b=false):zT a b=⟨⟨0,rfl⟩,false⟩:=by
 simp only [zT,zcq,Tr.get,h]
 cases zG a<;>rfl
theorem zAa (a b:I64):(ziY a b).opt=some (zaf a b):=by
 simp only [ziY,Tr.opt,zaf,zdI,Tr.get,zkR,zrH,zrG,cond_true]
 cases zG a
 ·rfl
 ·simp only [Bool.not_true,cond_false]
  cases hb:zG b
  ·rw [zyR _ _ hb];rfl
  ·simp only [Bool.not_true,cond_false]
   rcases ze3 (.w .i64 (0-a.val)) b with h|⟨c,h,_⟩<;>rw [h]<;>rfl
theorem zCI (a b:I64):zf4 a b=zaf a b:=Tr.zao (zAa a b)
theorem zCH (a b:I64):zeU a b=true:=by unfold zeU;rw [zAa];rfl
theorem zxG (a b:I64):zcV a b=zM a b:=by
 simp only [zcV,ziN,zM,zbF,Tr.get,zkR,zov,zd9,zp7]
 cases zG a
 ·rfl
 ·cases zG b
  ·rfl
  ·simp only [Bool.not_true,cond_false]
   by_cases h0:b.val=0
   ·have e0:(b.val==0)=true:=by simp [h0]
    have e1:decide (b.val<0)=false:=by simp [h0]
    simp only [e0,e1,cond_true,cond_false,MD]
    rw [if_neg (by omega)]
    simp only [zum]
   ·have e0:(b.val==0)=false:=by simp [h0]
    simp only [e0,cond_false]
theorem ze4 (a b:I64):zM a b=⟨⟨0,rfl⟩,false⟩\/∃c,zM a b=⟨c,true⟩/\zG c=true:=by
 simp only [zM,zbF,Tr.get,zd9]
 cases zG a
 ·left;rfl
 ·cases zG b
  ·left;rfl
  ·simp only [Bool.not_true,cond_false]
   cases (b.val==0)
   ·simp only [cond_false]
    cases decide (b.val<0)
    ·simp only [cond_false]
     rcases zi5 (MD a ⟨4294967296,rfl⟩ b).a (MD a ⟨4294967296,rfl⟩ b).b with h|⟨h,k⟩
     ·left;rw [h]
     ·right;exact ⟨_,h,k⟩
    ·simp only [cond_true]
     rcases zi5 (MD (.w .i64 (0-a.val)) ⟨4294967296,rfl⟩ (.w .i64 (0-b.val))).a (MD (.w .i64 (0-a.val)) ⟨4294967296,rfl⟩ (.w .i64 (0-b.val))).b with h|⟨h,k⟩
     ·left;rw [h]
     ·right;exact ⟨_,h,k⟩
   ·left;rfl
theorem zzd (a b:I64) (h:zG b=false):zM a b=⟨⟨0,rfl⟩,false⟩:=by
 simp only [zM,zbF,Tr.get,h]
 cases zG a<;>rfl
theorem zHT (a b:I64):zeX a b=zY a b:=by
 simp only [zeX,zkI,zY,zdJ,Tr.get,zkR,zxG]
 cases zG a
 ·rfl
 ·simp only [Bool.not_true,cond_false]
  cases hb:zG b
  ·rw [zzd _ _ hb];rfl
  ·rfl
theorem min_eq (a b:I64):mn a b=zC a b:=by
 simp only [mn,zC,zf9,Tr.get]
 by_cases h:b.val<a.val
 ·have:decide (a.val<b.val)=false:=by simp;omega
  simp only [h,decide_true,cond_true,this,cond_false]
 ·by_cases h':a.val<b.val
  ·simp only [h,h',decide_true,decide_false,cond_true,cond_false]
  ·simp only [h,h',decide_false,cond_false];exact rext (by omega)
theorem max_eq (a b:I64):mx a b=zA a b:=by
 simp only [mx,zA,zga,Tr.get]
 by_cases h:b.val>a.val
 ·have:decide (a.val>b.val)=false:=by simp;omega
  simp only [h,decide_true,cond_true,this,cond_false]
 ·by_cases h':a.val>b.val
  ·simp only [h,h',decide_true,decide_false,cond_true,cond_false]
  ·simp only [h,h',decide_false,cond_false];exact rext (by omega)
theorem zno {a:I64} (h:zG a=true): -1152921504606846976<=a.val/\a.val<=1152921504606846976:=by
 simpa [zG,zd6,Tr.get,zcO] using h
theorem zCO {a:I64} (h:zG a=true):zC ⟨1152921504606846976,rfl⟩ a=a:=by
 have:=zno h
 simp only [zC,zf9,Tr.get]
 by_cases h:(1152921504606846976:Int)<a.val
 ·omega
 ·simp only [h,decide_false,cond_false]
theorem zCT {a:I64} (h:zG a=true):zA ⟨-1152921504606846976,rfl⟩ a=a:=by
 have:=zno h
 simp only [zA,zga,Tr.get]
 by_cases h:(-1152921504606846976:Int)>a.val
 ·omega
 ·simp only [h,decide_false,cond_false]
theorem min_self (a:I64):zC a a=a:=by
 simp only [zC,zf9,Tr.get];cases decide (a.val<a.val)<;>rfl
theorem max_self (a:I64):zA a a=a:=by
 simp only [zA,zga,Tr.get];cases decide (a.val>a.val)<;>rfl
theorem zl3 (a b:Iv):za8 a b=(ze a&&ze b):=by
 simp only [za8,zge,Tr.get,valid_eq]
 cases ze a<;>rfl
theorem zCz {c:I64} (h:zG c=true):zG (.w .i64 (0-c.val))=true:=by
 have:=zno h
 simp only [zG,zd6,Tr.get,zcO]
 rw [wi (by omega) (by omega)]
 simp;omega
theorem zlU (a b:I64):(zaf a b).b=false\/∃c,zaf a b=⟨c,true⟩/\zG c=true:=by
 simp only [zaf,zdI,Tr.get]
 cases zG a
 ·left;rfl
 ·rcases ze3 (.w .i64 (0-a.val)) b with h|⟨c,h,k⟩
  ·left;rw [h];rfl
  ·right;rw [h];exact ⟨_,rfl,zCz k⟩
theorem zlZ (a b:I64):(zY a b).b=false\/∃c,zY a b=⟨c,true⟩/\zG c=true:=by
 simp only [zY,zdJ,Tr.get]
 cases zG a
 ·left;rfl
 ·rcases ze4 (.w .i64 (0-a.val)) b with h|⟨c,h,k⟩
  ·left;rw [h];rfl
  ·right;rw [h];exact ⟨_,rfl,zCz k⟩
theorem zCK (a b:Iv):(zjU a b).opt=some (zz a b):=by
 simp only [zjU,Tr.opt,zz,zid,Tr.get,zl3,zrH,zrG,zCI,zCH,cond_true,zbB,zeC,min_eq,max_eq]
 cases ze a
 ·rfl
 cases ze b
 ·rfl
 simp only [Bool.and_self,Bool.not_true,cond_false]
 rcases ze3 a.lo b.lo with h|⟨c1,h,k1⟩
 ·rw [h];rfl
 rw [h]
 rcases zlU a.lo b.lo with h|⟨d1,h,l1⟩
 ·simp only [h,Bool.not_true,Bool.not_false,cond_true,cond_false]
 rw [h]
 rcases ze3 a.lo b.hi with h|⟨c2,h,k2⟩
 ·rw [h];rfl
 rw [h]
 rcases zlU a.lo b.hi with h|⟨d2,h,l2⟩
 ·simp only [h,Bool.not_true,Bool.not_false,cond_true,cond_false]
 rw [h]
 rcases ze3 a.hi b.lo with h|⟨c3,h,k3⟩
 ·rw [h];rfl
 rw [h]
 rcases zlU a.hi b.lo with h|⟨d3,h,l3⟩
 ·simp only [h,Bool.not_true,Bool.not_false,cond_true,cond_false]
 rw [h]
 rcases ze3 a.hi b.hi with h|⟨c4,h,k4⟩
 ·rw [h];rfl
 rw [h]
 rcases zlU a.hi b.hi with h|⟨d4,h,l4⟩
 ·simp only [h,Bool.not_true,Bool.not_false,cond_true,cond_false]
 rw [h]
 simp only [Bool.not_true,cond_false,min_self,max_self,zCO k1,zCT l1]
theorem zp3 (a b:Iv):zV a b=zz a b:=Tr.zao (zCK a b)
theorem has_eq (a:Iv) (n:I64) (h:ze a=true):zis a n=zbr a n:=by
 simp only [zis,zlL,zbr,zeZ,Tr.get,zas,zdq,valid_eq,h,Bool.not_true,cond_false,zbO,zcO]
theorem zmi (a b:Iv):zat a b=zO a b:=by
 simp only [zat,zlM,zO,zie,Tr.get,zl3,zxG,zHT,zbB,zeC,min_eq,max_eq]
 cases ha:ze a
 ·rfl
 cases hb:ze b
 ·rfl
 simp only [Bool.and_self,Bool.not_true,cond_false,has_eq b _ hb]
 cases zbr b ⟨0,rfl⟩
 case true=>rfl
 simp only [cond_false]
 rcases ze4 a.lo b.lo with h|⟨c1,h,k1⟩
 ·rw [h];rfl
 rw [h]
 rcases zlZ a.lo b.lo with h|⟨d1,h,l1⟩
 ·simp only [h,Bool.not_true,Bool.not_false,cond_true,cond_false]
 rw [h]
 rcases ze4 a.lo b.hi with h|⟨c2,h,k2⟩
 ·rw [h];rfl
 rw [h]
 rcases zlZ a.lo b.hi with h|⟨d2,h,l2⟩
 ·simp only [h,Bool.not_true,Bool.not_false,cond_true,cond_false]
 rw [h]
 rcases ze4 a.hi b.lo with h|⟨c3,h,k3⟩
 ·rw [h];rfl
 rw [h]
 rcases zlZ a.hi b.lo with h|⟨d3,h,l3⟩
 ·simp only [h,Bool.not_true,Bool.not_false,cond_true,cond_false]
 rw [h]
 rcases ze4 a.hi b.hi with h|⟨c4,h,k4⟩
 ·rw [h];rfl
 rw [h]
 rcases zlZ a.hi b.hi with h|⟨d4,h,l4⟩
 ·simp only [h,Bool.not_true,Bool.not_false,cond_true,cond_false]
 rw [h]
 simp only [Bool.not_true,cond_false,cond_true,min_self,max_self,zCO k1,zCT l1]
theorem zB0 (a:Iv):(zjT a).opt=some (zbg a):=by
 simp only [zjT,Tr.opt,zbg,zlD,Tr.get,zrH,zrG,zCI,zCH,cond_true,zbB,zeC,zas,zdq,valid_eq]
 cases h:ze a
 ·rfl
 simp only [Bool.not_true,cond_false]
 have e:zkn a=⟨(zai a).a,(zai a).b⟩:=by
  simp only [zkn,zlP,zai,ziw,Tr.get,zas,zdq,valid_eq,h,Bool.not_true,cond_false,has_eq a _ h,max_eq,min_eq,zaD,zlj]
  cases zbr a ⟨0,rfl⟩<;>rfl
 rw [e]
 cases (zT (zai a).a (zai a).a).b<;>cases (zaf (zai a).b (zai a).b).b<;>rfl
theorem zpZ (a:Iv):zeo a=zbg a:=Tr.zao (zB0 a)
theorem zyf (a b n:I64):(zez a b n).opt=some (zbR a b n):=zhN (znQ a b n)
theorem zGG (a b:Iv):(zjU a b).opt=some (zV a b):=zhN (zCK a b)
theorem zGF (a:Iv):(zjT a).opt=some (zeo a):=zhN (zB0 a)
end Go.Proofs.YtkenfaengphiiaaGreatDoor.Ev
namespace Go.Proofs.YtkenfaengphiiaaGreatDoor.Ev
open Go
theorem zCi (hi:I64) (lo:U64):∀(k m:Nat) (r:U64) (i:I64),k<=64->i.val=(k:Int)-1->
  ∃q:U64,(Lf zci (k+1+m) ⟨r,i,hi,lo⟩).opt=some ⟨q,.w .i64 (-1),hi,lo⟩/\(Lf zdD (k+1+m) ⟨r,i,hi,lo⟩).opt=some ⟨q,.w .i64 (-1),hi,lo⟩:=by
 intro k
 induction k with
 | zero=>
  intro m r i _ hi'
  have h0:decide (i.val>=0)=false:=by simp;omega
  have e:i= .w .i64 (-1):=rext (by rw [wi (by omega) (by omega)];omega)
  refine ⟨r,?_,?_⟩
  ·simp only [Lf,zci,h0,Tr.bind,Tr.opt,cond_false,Nat.zero_add,Nat.add_comm 1 m,<- e]
  ·simp only [Lf,zdD,h0,Tr.bind,Tr.opt,cond_false,Nat.zero_add,Nat.add_comm 1 m,<- e]
 | succ k ih=>
  intro m r i hk hi'
  have h0:decide (i.val>=0)=true:=by simp;omega
  have h1:decide (i.val<0)=false:=by simp;omega
  have en:(Rng.w .u64 i.val).val=i.val:=wu (by omega) (by omega)
  have e1:(Rng.w .i64 (i.val-1)).val=(k:Int)-1:=by rw [wi (by omega) (by omega)];omega
  have hfuel:k+1+1+m=(k+1+m)+1:=by omega
  obtain ⟨q1,a1,b1⟩:=ih m (Rng.w .u64 (zbv .or .u64 r.val (Rng.w .u64 (1*(2^min (i.val).toNat 64))).val)) (.w .i64 (i.val-1)) (by omega) e1
  obtain ⟨q2,a2,b2⟩:=ih m r (.w .i64 (i.val-1)) (by omega) e1
  rw [hfuel]
  simp only [Lf,zci,zdD,h0,h1,en,zm9,ztX,Tr.bind,Tr.opt,cond_true,cond_false,a1,b1,a2,b2]
  generalize decide ((Rng.w .u64 _).val<_)=c1
  generalize ((Rng.w .u64 _).val==_)=c2
  generalize decide ((Rng.w .u64 _).val<=_)=c3
  cases c1
  ·cases c2
   ·exact ⟨q2,rfl,rfl⟩
   ·cases c3
    ·exact ⟨q2,rfl,rfl⟩
    ·exact ⟨q1,rfl,rfl⟩
  ·exact ⟨q1,rfl,rfl⟩
theorem zyt (w:Wide):(zej w).opt=some (zbo w)/\(zfN w).opt=some (bif decide (w.hi.val<0) then ⟨⟨0,rfl⟩,false⟩ else ⟨zbo w,true⟩):=by
 obtain ⟨q,h1,h2⟩:=zCi w.hi w.lo 64 1 ⟨0,rfl⟩ ⟨63,rfl⟩ (by omega) (by rfl)
 have hf:(64+1+1:Nat)=66:=rfl
 rw [hf] at h1 h2
 have g1:zfg ⟨⟨0,rfl⟩,⟨63,rfl⟩,w.hi,w.lo⟩=true:=by unfold zfg;rw [h1];rfl
 have g2:zgn ⟨⟨0,rfl⟩,⟨63,rfl⟩,w.hi,w.lo⟩=true:=by unfold zgn;rw [h2];rfl
 have l1:zjj ⟨⟨0,rfl⟩,⟨63,rfl⟩,w.hi,w.lo⟩=_:=Tr.zao h1
 have l2:zil ⟨⟨0,rfl⟩,⟨63,rfl⟩,w.hi,w.lo⟩=_:=Tr.zao h2
 have k1:(zej w).opt=some q:=by simp only [zej,Tr.opt,g1,l1,cond_true]
 have k2:zbo w=q:=Tr.zao k1
 refine ⟨by rw [k1,k2],?_⟩
 simp only [zfN,Tr.opt,g2,l2,cond_true,k2]
 cases decide (w.hi.val<0)<;>rfl
theorem zF0 (w:Wide):zk7 w=true:=by unfold zk7;rw [(zyt w).1];rfl
theorem zBG (w:Wide):zhX w=true:=by unfold zhX;rw [(zyt w).2];rfl
theorem zAZ (a b:I64):(ze9 a b).opt=some (zfi a b):=zhM (by
 simp only [ze9,Tr.opt,zF0,cond_true]
 cases decide (a.val<0)<;>cases decide (b.val<0)<;>rfl)
theorem ztW (a b:I64):(zdX a b).opt=some (zde a b):=zhM (by
 simp only [zdX,Tr.opt,zBG,cond_true]
 cases decide (a.val<0)<;>cases decide (b.val<0)<;>rfl)
theorem zrf (a b:I64):zjm a b=true:=by unfold zjm;rw [zAZ];rfl
theorem zrg (a b:I64):zg7 a b=true:=by unfold zg7;rw [ztW];rfl
theorem zA0 (a:I64):(zd5 a).opt=some (zcC a):=zhM (by
 simp only [zd5,Tr.opt,zrf,cond_true]
 cases zX a ⟨0,rfl⟩ ⟨1152921504606846976,rfl⟩<;>rfl)
theorem zA1 (a:I64):(zey a).opt=some (zeL a):=zhM (by
 simp only [zey,Tr.opt,zrg,cond_true]
 cases zaO a<;>rfl)
theorem zjY (a:I64):zfD a=true:=by unfold zfD;rw [zA0];rfl
theorem zmL (a:I64):zfY a=true:=by unfold zfY;rw [zA1];rfl
theorem zmU {γ:Type} (c:Bool) (x y:Option γ) (hx:x.isSome=true) (hy:y.isSome=true):(bif c then x else y).isSome=true:=by cases c<;>assumption
theorem zAX (a:I64):(zcG a).opt=some (zck a):=zhM (by
 simp only [zcG,Tr.opt,zjY,cond_true]
 repeat' (first|apply zmU|rfl))
theorem zAY (a:I64):(ze2 a).opt=some (zgs a):=zhM (by
 simp only [ze2,Tr.opt,zmL,cond_true]
 repeat' (first|apply zmU|rfl))
theorem zwy (a:I64):zjl a=true:=by unfold zjl;rw [zAX];rfl
theorem zwz (a:I64):zjK a=true:=by unfold zjK;rw [zAY];rfl
theorem zuX (a:Iv):(ziX a).opt=some (zht a):=zhM (by
 simp only [ziX,Tr.opt,zmL,zwz,cond_true]
 repeat' (first|apply zmU|rfl))
end Go.Proofs.YtkenfaengphiiaaGreatDoor.Ev
namespace Go.Proofs.YtkenfaengphiiaaGreatDoor.Ev
open Go Go.RowKit
set_option maxRecDepth 100000
section
variable [Amb]
def zpT:Ent Tryz.prog:= .of2 zIg B187 (fun _ _=>true) zde fun a0 a1 _=>(zmg a0 a1).trans (ztW a0 a1)
def zoX:Ent Tryz.prog:= .of1 zKG B101 (fun _=>true) zht fun a0 _=>(zwT a0).trans (zuX a0)
def zhb:Ent Tryz.prog:= .of3 zIh B146 (fun _ _ _=>true) zbR fun a0 a1 a2 _=>(zmM a0 a1 a2).trans (zyf a0 a1 a2)
def zf7:Ent Tryz.prog:= .of2 Tb36 B36 (fun _ _=>true) zV fun a0 a1 _=>(zyG a0 a1).trans (zGG a0 a1)
def zhA:Ent Tryz.prog:= .of1 zKF B102 (fun _=>true) zeo fun a0 _=>(zyD a0).trans (zGF a0)
def B122:Bod Tryz.prog:=⟨122,Tryz.f122,Tryz.f122.body.getD .skip,Tryz.func122,by kernel_rfl,by kernel_rfl,zav.no _ _⟩
def zEe:Tb Tryz.prog:= {T:= [Y2,Y34],mix:=mix,Es:= [za1,zaA,zhb],Bs:= [],d:=1}
def zfm (a0:I64):Tr (Iv):=
 .br (!(zaw a0 ⟨(-4096),rfl⟩ ⟨4096,rfl⟩)) (.leaf zL) (.br (decide (a0.val<0)) (.bad) (.br (a0.val==0) (.leaf ⟨⟨0,rfl⟩,⟨0,rfl⟩⟩) (let c4:=zbR a0 ⟨7244019458077122842,rfl⟩ ⟨30,rfl⟩;.leaf ⟨c4.a,(Rng.w .i64 (c4.a.val+1))⟩)))
theorem ztl (a0:I64):zEe.run B122 [enc a0] (Iv)=(zfm a0).opt:=by kernel_rfl
def zla:I64->Iv:=fun a0=>(zfm a0).get
def ziQ:I64->Bool:=fun a0=>(zfm a0).opt.isSome
def ztN:Ent Tryz.prog:= .of1 zEe B122 ziQ zla fun a0 h=>(ztl a0).trans (Tr.get_some h)
def zKm:Tb Tryz.prog:= {T:= [Y2,Y34],mix:=mix,Es:= [za1,zaA,zhj,ztN,zhb],Bs:= [],d:=1}
def zeO (a0:I64):Tr (Iv):=
 .br (!(zaw a0 ⟨(-4096),rfl⟩ ⟨4096,rfl⟩)) (.leaf zL) (.br (decide (a0.val<0)) (let c3:=(Rng.w .i64 (0-a0.val));.br (ziQ c3) (.leaf (zdf (zla c3))) (.bad)) (.br (a0.val==0) (.leaf ⟨⟨0,rfl⟩,⟨0,rfl⟩⟩) (let c6:=zbR a0 ⟨7244019458077122842,rfl⟩ ⟨30,rfl⟩;.leaf ⟨c6.a,(Rng.w .i64 (c6.a.val+1))⟩)))
theorem zwS (a0:I64):zKm.run B122 [enc a0] (Iv)=(zeO a0).opt:=by kernel_rfl
def zca:I64->Iv:=fun a0=>(zeO a0).get
def B154:Bod Tryz.prog:=⟨154,Tryz.f154,Tryz.f154.body.getD .skip,Tryz.func154,by kernel_rfl,by kernel_rfl,zav.no _ _⟩
def zJ2:Tb Tryz.prog:= {T:= [],mix:=mix,Es:= [za1],Bs:= [],d:=1}
def ziE (a0:I64):Tr (Bool):=
 .leaf (zaw a0 ⟨(-1099511627776),rfl⟩ ⟨1099511627776,rfl⟩)
theorem zte (a0:I64):zJ2.run B154 [enc a0] (Bool)=(ziE a0).opt:=by kernel_rfl
def zdy:I64->Bool:=fun a0=>(ziE a0).get
theorem zsL (a0:I64):(ziE a0).opt=some (zdy a0):=Tr.z8 (by kernel_rfl)
def zlc:Ent Tryz.prog:= .of1 zJ2 B154 (fun _=>true) zdy fun a0 _=>(zte a0).trans (zsL a0)
def B155:Bod Tryz.prog:=⟨155,Tryz.f155,Tryz.f155.body.getD .skip,Tryz.func155,by kernel_rfl,by kernel_rfl,zav.no _ _⟩
def zJ1:Tb Tryz.prog:= {T:= [],mix:=mix,Es:= [zlc],Bs:= [],d:=1}
def zfc (a0:I64):Tr (I64):=
 .br (!(zdy a0)) (.leaf ⟨0,rfl⟩) (let c3:=(Rng.w .i64 ((Rng.w .i64 (a0.val+3373259426)).val.tdiv 6746518852));.br (decide ((Rng.w .i64 (c3.val*6746518852)).val>(Rng.w .i64 (a0.val+3373259426)).val)) (.leaf (Rng.w .i64 (c3.val-1))) (.leaf c3))
theorem zqp (a0:I64):zJ1.run B155 [enc a0] (I64)=(zfc a0).opt:=by kernel_rfl
def zcn:I64->I64:=fun a0=>(zfc a0).get
theorem zqg (a0:I64):(zfc a0).opt=some (zcn a0):=Tr.z8 (by kernel_rfl)
def zmm:Ent Tryz.prog:= .of1 zJ1 B155 (fun _=>true) zcn fun a0 _=>(zqp a0).trans (zqg a0)
def B53:Bod Tryz.prog:=⟨53,Tryz.f53,Tryz.f53.body.getD .skip,Tryz.func53,by kernel_rfl,by kernel_rfl,zav.no _ _⟩
def Tb53:Tb Tryz.prog:= {T:= [Y2,Y34],mix:=mix,Es:= [zkT,zeM,zoP,zoQ],Bs:= [],d:=1}
def zdp (a0:Iv) (a1:Iv):Tr (T2 Iv Bool):=
 .br (!(ze a0)) (.br (!(ze a1)) (.leaf ⟨zt,true⟩) (.br (!(ze a0)) (.leaf ⟨a1,true⟩) (.br (!(ze a1)) (.leaf ⟨a0,true⟩) (let c6:=zA a0.lo a1.lo;let c7:=zC a0.hi a1.hi;.br (decide (c6.val>c7.val)) (.leaf ⟨⟨⟨0,rfl⟩,⟨0,rfl⟩⟩,false⟩) (.leaf ⟨⟨c6,c7⟩,true⟩))))) (.br (!(ze a0)) (.leaf ⟨a1,true⟩) (.br (!(ze a1)) (.leaf ⟨a0,true⟩) (let c11:=zA a0.lo a1.lo;let c12:=zC a0.hi a1.hi;.br (decide (c11.val>c12.val)) (.leaf ⟨⟨⟨0,rfl⟩,⟨0,rfl⟩⟩,false⟩) (.leaf ⟨⟨c11,c12⟩,true⟩))))
theorem zwO (a0:Iv) (a1:Iv):Tb53.run B53 [enc a0,enc a1] (T2 Iv Bool)=(zdp a0 a1).opt:=by kernel_rfl
def za4:Iv->Iv->T2 Iv Bool:=fun a0 a1=>(zdp a0 a1).get
theorem zwi (a0:Iv) (a1:Iv):(zdp a0 a1).opt=some (za4 a0 a1):=Tr.z8 (by kernel_rfl)
def zxP:Ent Tryz.prog:= .of2 Tb53 B53 (fun _ _=>true) za4 fun a0 a1 _=>(zwO a0 a1).trans (zwi a0 a1)
def B13:Bod Tryz.prog:=⟨13,Tryz.f13,Tryz.f13.body.getD .skip,Tryz.func13,by kernel_rfl,by kernel_rfl,zav.no _ _⟩
def Tb13:Tb Tryz.prog:= {T:= [Y2,Y34],mix:=mix,Es:= [zxP],Bs:= [],d:=1}
def zdL (a0:Iv) (a1:Iv):Tr (Bool):=
 .leaf (za4 a0 a1).b
theorem zrp (a0:Iv) (a1:Iv):Tb13.run B13 [enc a0,enc a1] (Bool)=(zdL a0 a1).opt:=by kernel_rfl
def zo:Iv->Iv->Bool:=fun a0 a1=>(zdL a0 a1).get
theorem zq0 (a0:Iv) (a1:Iv):(zdL a0 a1).opt=some (zo a0 a1):=Tr.z8 (by kernel_rfl)
def zm3:Ent Tryz.prog:= .of2 Tb13 B13 (fun _ _=>true) zo fun a0 a1 _=>(zrp a0 a1).trans (zq0 a0 a1)
def B118:Bod Tryz.prog:=⟨118,Tryz.f118,Tryz.f118.body.getD .skip,Tryz.func118,by kernel_rfl,by kernel_rfl,zav.no _ _⟩
def zKq:Tb Tryz.prog:= {T:= [Y2,Y34],mix:=mix,Es:= [zaA,zbI],Bs:= [],d:=1}
def zkE (a0:Iv) (a1:Iv):Tr (T2 Iv Bool):=
 .br (zas a0) (.br (zas a1) (.leaf ⟨zL,true⟩) (.br (zas a0) (.leaf ⟨a1,true⟩) (.br (zas a1) (.leaf ⟨a0,true⟩) (.br (decide ((mx a0.lo a1.lo).val>(mn a0.hi a1.hi).val)) (.leaf ⟨⟨⟨0,rfl⟩,⟨0,rfl⟩⟩,false⟩) (.leaf ⟨⟨(mx a0.lo a1.lo),(mn a0.hi a1.hi)⟩,true⟩))))) (.br (zas a0) (.leaf ⟨a1,true⟩) (.br (zas a1) (.leaf ⟨a0,true⟩) (.br (decide ((mx a0.lo a1.lo).val>(mn a0.hi a1.hi).val)) (.leaf ⟨⟨⟨0,rfl⟩,⟨0,rfl⟩⟩,false⟩) (.leaf ⟨⟨(mx a0.lo a1.lo),(mn a0.hi a1.hi)⟩,true⟩))))
theorem zwX (a0:Iv) (a1:Iv):zKq.run B118 [enc a0,enc a1] (T2 Iv Bool)=(zkE a0 a1).opt:=by kernel_rfl
def zeW:Iv->Iv->T2 Iv Bool:=fun a0 a1=>(zkE a0 a1).get
theorem zwo (a0:Iv) (a1:Iv):(zkE a0 a1).opt=some (zeW a0 a1):=Tr.z8 (by kernel_rfl)
def zkV:Ent Tryz.prog:= .of2 zKq B118 (fun _ _=>true) zeW fun a0 a1 _=>(zwX a0 a1).trans (zwo a0 a1)
def B45:Bod Tryz.prog:=⟨45,Tryz.f45,Tryz.f45.body.getD .skip,Tryz.func45,by kernel_rfl,by kernel_rfl,zav.no _ _⟩
def Tb45:Tb Tryz.prog:= {T:= [Y2,Y34],mix:=mix,Es:= [zkV],Bs:= [],d:=1}
def zhI (a0:Iv) (a1:Iv):Tr (Bool):=
 .leaf (zeW a0 a1).b
theorem zrw (a0:Iv) (a1:Iv):Tb45.run B45 [enc a0,enc a1] (Bool)=(zhI a0 a1).opt:=by kernel_rfl
def zcf:Iv->Iv->Bool:=fun a0 a1=>(zhI a0 a1).get
theorem zq4 (a0:Iv) (a1:Iv):(zhI a0 a1).opt=some (zcf a0 a1):=Tr.z8 (by kernel_rfl)
def zko:Ent Tryz.prog:= .of2 Tb45 B45 (fun _ _=>true) zcf fun a0 a1 _=>(zrw a0 a1).trans (zq4 a0 a1)
def B212:Bod Tryz.prog:=⟨212,Tryz.f212,Tryz.f212.body.getD .skip,Tryz.func212,by kernel_rfl,by kernel_rfl,zav.no _ _⟩
def zJB:Tb Tryz.prog:= {T:= [Y2,Y34],mix:=mix,Es:= [zbI],Bs:= [],d:=1}
def ziL (a0:Iv) (a1:Iv):Tr (Bool):=
 .br (zas a0) (.leaf (zas a1)) (.br (zas a1) (.leaf (zas a1)) (.br (decide (a1.lo.val<=a0.lo.val)) (.leaf (decide (a0.hi.val<=a1.hi.val))) (.leaf false)))
theorem zts (a0:Iv) (a1:Iv):zJB.run B212 [enc a0,enc a1] (Bool)=(ziL a0 a1).opt:=by kernel_rfl
def zep:Iv->Iv->Bool:=fun a0 a1=>(ziL a0 a1).get
theorem zsV (a0:Iv) (a1:Iv):(ziL a0 a1).opt=some (zep a0 a1):=Tr.z8 (by kernel_rfl)
def zlf:Ent Tryz.prog:= .of2 zJB B212 (fun _ _=>true) zep fun a0 a1 _=>(zts a0 a1).trans (zsV a0 a1)
def B108:Bod Tryz.prog:=⟨108,Tryz.f108,Tryz.f108.body.getD .skip,Tryz.func108,by kernel_rfl,by kernel_rfl,zav.no _ _⟩
def zKA:Tb Tryz.prog:= {T:= [Y2,Y34],mix:=mix,Es:= [zaA,zb0],Bs:= [],d:=1}
def zkG (a0:Iv) (a1:Iv):Tr (Iv):=
 .br (!(za8 a0 a1)) (.leaf zL) (.leaf ⟨(mn a0.lo a1.lo),(mx a0.hi a1.hi)⟩)
theorem zw0 (a0:Iv) (a1:Iv):zKA.run B108 [enc a0,enc a1] (Iv)=(zkG a0 a1).opt:=by kernel_rfl
def zbS:Iv->Iv->Iv:=fun a0 a1=>(zkG a0 a1).get
theorem zwq (a0:Iv) (a1:Iv):(zkG a0 a1).opt=some (zbS a0 a1):=Tr.z8 (by kernel_rfl)
def zkW:Ent Tryz.prog:= .of2 zKA B108 (fun _ _=>true) zbS fun a0 a1 _=>(zw0 a0 a1).trans (zwq a0 a1)
def B99:Bod Tryz.prog:=⟨99,Tryz.f99,Tryz.f99.body.getD .skip,Tryz.func99,by kernel_rfl,by kernel_rfl,zav.no _ _⟩
def Tb99:Tb Tryz.prog:= {T:= [Y2,Y34],mix:=mix,Es:= [zaA,zb0,zcg],Bs:= [],d:=1}
def zlO (a0:Iv) (a1:Iv):Tr (Iv):=
 .br (!(za8 a0 a1)) (.leaf zL) (.leaf (zaR (Rng.w .i64 (a0.lo.val+a1.lo.val)) (Rng.w .i64 (a0.hi.val+a1.hi.val)) true))
theorem zyL (a0:Iv) (a1:Iv):Tb99.run B99 [enc a0,enc a1] (Iv)=(zlO a0 a1).opt:=by kernel_rfl
def zae:Iv->Iv->Iv:=fun a0 a1=>(zlO a0 a1).get
theorem zyc (a0:Iv) (a1:Iv):(zlO a0 a1).opt=some (zae a0 a1):=Tr.z8 (by kernel_rfl)
def zdP:Ent Tryz.prog:= .of2 Tb99 B99 (fun _ _=>true) zae fun a0 a1 _=>(zyL a0 a1).trans (zyc a0 a1)
def B116:Bod Tryz.prog:=⟨116,Tryz.f116,Tryz.f116.body.getD .skip,Tryz.func116,by kernel_rfl,by kernel_rfl,zav.no _ _⟩
def zKs:Tb Tryz.prog:= {T:= [Y2,Y34],mix:=mix,Es:= [zhj,zdP],Bs:= [],d:=1}
def zlH (a0:Iv) (a1:Iv):Tr (Iv):=
 .leaf (zae a0 (zdf a1))
theorem zyC (a0:Iv) (a1:Iv):zKs.run B116 [enc a0,enc a1] (Iv)=(zlH a0 a1).opt:=by kernel_rfl
def zaJ:Iv->Iv->Iv:=fun a0 a1=>(zlH a0 a1).get
theorem zx5 (a0:Iv) (a1:Iv):(zlH a0 a1).opt=some (zaJ a0 a1):=Tr.z8 (by kernel_rfl)
def zf6:Ent Tryz.prog:= .of2 zKs B116 (fun _ _=>true) zaJ fun a0 a1 _=>(zyC a0 a1).trans (zx5 a0 a1)
def B46:Bod Tryz.prog:=⟨46,Tryz.f46,Tryz.f46.body.getD .skip,Tryz.func46,by kernel_rfl,by kernel_rfl,zav.no _ _⟩
def Tb46:Tb Tryz.prog:= {T:= [Y2,Y34],mix:=mix,Es:= [],Bs:= [],d:=1}
def znL:Tr (Iv):=
 .leaf ⟨⟨(-4294967296),rfl⟩,⟨4294967296,rfl⟩⟩
theorem zyA:Tb46.run B46 [] (Iv)=(znL).opt:=by kernel_rfl
def zdd:Iv:=(znL).get
theorem zx3:(znL).opt=some (zdd):=Tr.z8 (by kernel_rfl)
def zhi:Ent Tryz.prog:= .of0 Tb46 B46 zdd (zyA.trans zx3)
def B103:Bod Tryz.prog:=⟨103,Tryz.f103,Tryz.f103.body.getD .skip,Tryz.func103,by kernel_rfl,by kernel_rfl,zav.no _ _⟩
def zKE:Tb Tryz.prog:= {T:= [Y2,Y34],mix:=mix,Es:= [za1,zaA,zcg],Bs:= [],d:=1}
def ziK (a0:I64):Tr (Iv):=
 .br (!(zaw a0 ⟨(-268435456),rfl⟩ ⟨268435456,rfl⟩)) (.leaf zL) (.leaf (zaR (Rng.w .i64 (a0.val*4294967296)) (Rng.w .i64 (a0.val*4294967296)) true))
theorem ztr (a0:I64):zKE.run B103 [enc a0] (Iv)=(ziK a0).opt:=by kernel_rfl
def zB:I64->Iv:=fun a0=>(ziK a0).get
theorem zsU (a0:I64):(ziK a0).opt=some (zB a0):=Tr.z8 (by kernel_rfl)
def zcW:Ent Tryz.prog:= .of1 zKE B103 (fun _=>true) zB fun a0 _=>(ztr a0).trans (zsU a0)
def B213:Bod Tryz.prog:=⟨213,Tryz.f213,Tryz.f213.body.getD .skip,Tryz.func213,by kernel_rfl,by kernel_rfl,zav.no _ _⟩
def zJA:Tb Tryz.prog:= {T:= [Y2,Y34],mix:=mix,Es:= [zf7,zeq,zcW,zf6],Bs:= [],d:=1}
def zjw (a0:Iv) (a1:I64):Tr (Iv):=
 let c2:=(Rng.w .i64 (a1.val+14));let c10:=(Rng.w .i64 (a1.val+12));let c18:=(Rng.w .i64 (a1.val+10));let c26:=(Rng.w .i64 (a1.val+8));let c34:=(Rng.w .i64 (a1.val+6));let c42:=(Rng.w .i64 (a1.val+4));let c50:=(Rng.w .i64 (a1.val+2));let c58:=(Rng.w .i64 (a1.val+0));.leaf (zaJ (zB ⟨1,rfl⟩) (zV (zat a0 (zB (Rng.w .i64 (c58.val*(Rng.w .i64 (c58.val+1)).val)))) (zaJ (zB ⟨1,rfl⟩) (zV (zat a0 (zB (Rng.w .i64 (c50.val*(Rng.w .i64 (c50.val+1)).val)))) (zaJ (zB ⟨1,rfl⟩) (zV (zat a0 (zB (Rng.w .i64 (c42.val*(Rng.w .i64 (c42.val+1)).val)))) (zaJ (zB ⟨1,rfl⟩) (zV (zat a0 (zB (Rng.w .i64 (c34.val*(Rng.w .i64 (c34.val+1)).val)))) (zaJ (zB ⟨1,rfl⟩) (zV (zat a0 (zB (Rng.w .i64 (c26.val*(Rng.w .i64 (c26.val+1)).val)))) (zaJ (zB ⟨1,rfl⟩) (zV (zat a0 (zB (Rng.w .i64 (c18.val*(Rng.w .i64 (c18.val+1)).val)))) (zaJ (zB ⟨1,rfl⟩) (zV (zat a0 (zB (Rng.w .i64 (c10.val*(Rng.w .i64 (c10.val+1)).val)))) (zaJ (zB ⟨1,rfl⟩) (zV (zat a0 (zB (Rng.w .i64 (c2.val*(Rng.w .i64 (c2.val+1)).val)))) (zB ⟨1,rfl⟩)))))))))))))))))
theorem zvh (a0:Iv) (a1:I64):zJA.run B213 [enc a0,enc a1] (Iv)=(zjw a0 a1).opt:=by kernel_rfl
def zgo:Iv->I64->Iv:=fun a0 a1=>(zjw a0 a1).get
theorem zuM (a0:Iv) (a1:I64):(zjw a0 a1).opt=some (zgo a0 a1):=Tr.z8 (by kernel_rfl)
def zoS:Ent Tryz.prog:= .of2 zJA B213 (fun _ _=>true) zgo fun a0 a1 _=>(zvh a0 a1).trans (zuM a0 a1)
def B214:Bod Tryz.prog:=⟨214,Tryz.f214,Tryz.f214.body.getD .skip,Tryz.func214,by kernel_rfl,by kernel_rfl,zav.no _ _⟩
def zJz:Tb Tryz.prog:= {T:= [Y2,Y34],mix:=mix,Es:= [],Bs:= [],d:=1}
def znK:Tr (Iv):=
 .leaf ⟨⟨(-1),rfl⟩,⟨1,rfl⟩⟩
theorem zyz:zJz.run B214 [] (Iv)=(znK).opt:=by kernel_rfl
def zir:Iv:=(znK).get
theorem zx2:(znK).opt=some (zir):=Tr.z8 (by kernel_rfl)
def znY:Ent Tryz.prog:= .of0 zJz B214 zir (zyz.trans zx2)
def B179:Bod Tryz.prog:=⟨179,Tryz.f179,Tryz.f179.body.getD .skip,Tryz.func179,by kernel_rfl,by kernel_rfl,zav.no _ _⟩
def zJQ:Tb Tryz.prog:= {T:= [Y2,Y34],mix:=mix,Es:= [zf7,zhi,zaA,zdP,zhA,zlf,zoS,znY],Bs:= [],d:=1}
def zg2 (a0:Iv):Tr (Iv):=
 .br (!(zep a0 zdd)) (.leaf zL) (.leaf (zae (zV a0 (zgo (zeo a0) ⟨2,rfl⟩)) zir))
theorem zqn (a0:Iv):zJQ.run B179 [enc a0] (Iv)=(zg2 a0).opt:=by kernel_rfl
def zd2:Iv->Iv:=fun a0=>(zg2 a0).get
theorem zqf (a0:Iv):(zg2 a0).opt=some (zd2 a0):=Tr.z8 (by kernel_rfl)
def zqy:Ent Tryz.prog:= .of1 zJQ B179 (fun _=>true) zd2 fun a0 _=>(zqn a0).trans (zqf a0)
def B180:Bod Tryz.prog:=⟨180,Tryz.f180,Tryz.f180.body.getD .skip,Tryz.func180,by kernel_rfl,by kernel_rfl,zav.no _ _⟩
def zJP:Tb Tryz.prog:= {T:= [Y2,Y34],mix:=mix,Es:= [zhi,zaA,zdP,zhA,zlf,zoS,znY],Bs:= [],d:=1}
def zg3 (a0:Iv):Tr (Iv):=
 .br (!(zep a0 zdd)) (.leaf zL) (.leaf (zae (zgo (zeo a0) ⟨1,rfl⟩) zir))
theorem zqr (a0:Iv):zJP.run B180 [enc a0] (Iv)=(zg3 a0).opt:=by kernel_rfl
def zd3:Iv->Iv:=fun a0=>(zg3 a0).get
theorem zqh (a0:Iv):(zg3 a0).opt=some (zd3 a0):=Tr.z8 (by kernel_rfl)
def zqA:Ent Tryz.prog:= .of1 zJP B180 (fun _=>true) zd3 fun a0 _=>(zqr a0).trans (zqh a0)
def B178:Bod Tryz.prog:=⟨178,Tryz.f178,Tryz.f178.body.getD .skip,Tryz.func178,by kernel_rfl,by kernel_rfl,zav.no _ _⟩
def zJR:Tb Tryz.prog:= {T:= [Y2,Y34],mix:=mix,Es:= [zhi,zkV],Bs:= [],d:=1}
def zjz (a0:Iv):Tr (Iv):=
 .leaf (zeW a0 zdd).a
theorem zvm (a0:Iv):zJR.run B178 [enc a0] (Iv)=(zjz a0).opt:=by kernel_rfl
def zcm:Iv->Iv:=fun a0=>(zjz a0).get
theorem zuQ (a0:Iv):(zjz a0).opt=some (zcm a0):=Tr.z8 (by kernel_rfl)
def zv3:Ent Tryz.prog:= .of1 zJR B178 (fun _=>true) zcm fun a0 _=>(zvm a0).trans (zuQ a0)
def B106:Bod Tryz.prog:=⟨106,Tryz.f106,Tryz.f106.body.getD .skip,Tryz.func106,by kernel_rfl,by kernel_rfl,zav.no _ _⟩
def zKB:Tb Tryz.prog:= {T:= [Y2,Y34],mix:=mix,Es:= [zdk,zlc],Bs:= [],d:=1}
def zg1 (a0:Iv):Tr (Bool):=
 .br (zbs a0) (.br (zdy a0.lo) (.leaf (zdy a0.hi)) (.leaf false)) (.leaf false)
theorem zql (a0:Iv):zKB.run B106 [enc a0] (Bool)=(zg1 a0).opt:=by kernel_rfl
def zbU:Iv->Bool:=fun a0=>(zg1 a0).get
theorem zqe (a0:Iv):(zg1 a0).opt=some (zbU a0):=Tr.z8 (by kernel_rfl)
def zml:Ent Tryz.prog:= .of1 zKB B106 (fun _=>true) zbU fun a0 _=>(zql a0).trans (zqe a0)
def B15:Bod Tryz.prog:=⟨15,Tryz.f15,Tryz.f15.body.getD .skip,Tryz.func15,by kernel_rfl,by kernel_rfl,zav.no _ _⟩
def Tb15:Tb Tryz.prog:= {T:= [Y2,Y34],mix:=mix,Es:= [zeM,zlb,zhy],Bs:= [],d:=1}
def zgH (a0:I64):Tr (Iv):=
 .br (!(zX a0 ⟨(-268435455),rfl⟩ ⟨268435455,rfl⟩)) (.leaf zt) (.leaf (zab (Rng.w .i64 (a0.val*4294967296)) (Rng.w .i64 (a0.val*4294967296))))
theorem zs8 (a0:I64):Tb15.run B15 [enc a0] (Iv)=(zgH a0).opt:=by kernel_rfl
def zy:I64->Iv:=fun a0=>(zgH a0).get
theorem zsF (a0:I64):(zgH a0).opt=some (zy a0):=Tr.z8 (by kernel_rfl)
def ztG:Ent Tryz.prog:= .of1 Tb15 B15 (fun _=>true) zy fun a0 _=>(zs8 a0).trans (zsF a0)
def zdW (a0:I64):Tr (Iv):=
 .br (a0.val==0) (.leaf ⟨⟨0,rfl⟩,⟨0,rfl⟩⟩) (.br (decide (a0.val<0)) (.bad) (let c2:=zaz a0 ⟨7244019458077122842,rfl⟩ ⟨30,rfl⟩;.leaf ⟨c2.a,(Rng.w .i64 (c2.a.val+1))⟩))
def zcj:I64->Iv:=fun a0=>(zdW a0).get
def zff:I64->Bool:=fun a0=>(zdW a0).opt.isSome
def zdo (a0:I64):Tr (Iv):=
 .br (a0.val==0) (.leaf ⟨⟨0,rfl⟩,⟨0,rfl⟩⟩) (.br (decide (a0.val<0)) (let c1:=(Rng.w .i64 (0-a0.val));.br (zff c1) (let c2:=zcj c1;.leaf ⟨(Rng.w .i64 (0-c2.hi.val)),(Rng.w .i64 (0-c2.lo.val))⟩) (.bad)) (let c5:=zaz a0 ⟨7244019458077122842,rfl⟩ ⟨30,rfl⟩;.leaf ⟨c5.a,(Rng.w .i64 (c5.a.val+1))⟩))
def zaQ:I64->Iv:=fun a0=>(zdo a0).get
def zcw:I64->Bool:=fun a0=>(zdo a0).opt.isSome
def ziW (a0:I64):Tr (Iv):=
 .br (!(zX a0 ⟨(-4096),rfl⟩ ⟨4096,rfl⟩)) (.leaf zbe) (.br (zcw a0) (.leaf (zaQ a0)) (.bad))
def za3:I64->Iv:=fun a0=>(ziW a0).get
def zev (a0:I64):Tr (Bool):=
 .leaf (zX a0 ⟨(-1099511627776),rfl⟩ ⟨1099511627776,rfl⟩)
def za5:I64->Bool:=fun a0=>(zev a0).get
def zhD (a0:I64) (a1:I64):Tr (I64):=
 .br (a1.val==0) (.bad) (let c1:=(Rng.w .i64 (a0.val.tdiv a1.val));.br (a1.val==0) (.bad) (.br (decide ((Rng.w .i64 (a0.val.tmod a1.val)).val<0)) (.leaf (Rng.w .i64 (c1.val-1))) (.leaf c1)))
def zki:I64->I64->I64:=fun a0 a1=>(zhD a0 a1).get
def zkh:I64->I64->Bool:=fun a0 a1=>(zhD a0 a1).opt.isSome
def zgZ (a0:I64):Tr (I64):=
 .br (!(za5 a0)) (.leaf ⟨0,rfl⟩) (let c2:=(Rng.w .i64 (a0.val+3373259426));.br (zkh c2 ⟨6746518852,rfl⟩) (.leaf (zki c2 ⟨6746518852,rfl⟩)) (.bad))
def zan:I64->I64:=fun a0=>(zgZ a0).get
def zgI (a0:Iv) (a1:Iv):Tr (Bool):=
 .br (!(ze a1)) (.leaf true) (.br (ze a0) (.br (decide (a1.lo.val<=a0.lo.val)) (.leaf (decide (a0.hi.val<=a1.hi.val))) (.leaf false)) (.leaf false))
def za7:Iv->Iv->Bool:=fun a0 a1=>(zgI a0 a1).get
def zkA (a0:Iv) (a1:Iv):Tr (Iv):=
 .br (!(ze a0)) (.leaf zt) (.br (!(ze a1)) (.leaf zt) (.leaf (zab (zC a0.lo a1.lo) (zA a0.hi a1.hi))))
def zaM:Iv->Iv->Iv:=fun a0 a1=>(zkA a0 a1).get
def ze0 (a0:Iv) (a1:Iv):Tr (Iv):=
 .br (!(ze a0)) (.leaf zt) (.br (!(ze a1)) (.leaf zt) (.leaf (zab (Rng.w .i64 (a0.lo.val+a1.lo.val)) (Rng.w .i64 (a0.hi.val+a1.hi.val)))))
def zH:Iv->Iv->Iv:=fun a0 a1=>(ze0 a0 a1).get
def zjQ (a0:Iv) (a1:Iv):Tr (Iv):=
 .br (!(ze a0)) (.leaf zt) (.br (!(ze a1)) (.leaf zt) (.leaf (zab (Rng.w .i64 (a0.lo.val-a1.hi.val)) (Rng.w .i64 (a0.hi.val-a1.lo.val)))))
def zac:Iv->Iv->Iv:=fun a0 a1=>(zjQ a0 a1).get
def zsZ:Tr (Iv):=
 .leaf ⟨⟨(-4294967296),rfl⟩,⟨4294967296,rfl⟩⟩
def zR:Iv:=(zsZ).get
def zdV (a0:Iv) (a1:I64):Tr (Iv):=
 let c2:=(Rng.w .i64 (16+a1.val));let c10:=(Rng.w .i64 (14+a1.val));let c18:=(Rng.w .i64 (12+a1.val));let c26:=(Rng.w .i64 (10+a1.val));let c34:=(Rng.w .i64 (8+a1.val));let c42:=(Rng.w .i64 (6+a1.val));let c50:=(Rng.w .i64 (4+a1.val));let c58:=(Rng.w .i64 (2+a1.val));.leaf (zac (zy ⟨1,rfl⟩) (zz (zO a0 (zy (Rng.w .i64 (c58.val*(Rng.w .i64 (c58.val+1)).val)))) (zac (zy ⟨1,rfl⟩) (zz (zO a0 (zy (Rng.w .i64 (c50.val*(Rng.w .i64 (c50.val+1)).val)))) (zac (zy ⟨1,rfl⟩) (zz (zO a0 (zy (Rng.w .i64 (c42.val*(Rng.w .i64 (c42.val+1)).val)))) (zac (zy ⟨1,rfl⟩) (zz (zO a0 (zy (Rng.w .i64 (c34.val*(Rng.w .i64 (c34.val+1)).val)))) (zac (zy ⟨1,rfl⟩) (zz (zO a0 (zy (Rng.w .i64 (c26.val*(Rng.w .i64 (c26.val+1)).val)))) (zac (zy ⟨1,rfl⟩) (zz (zO a0 (zy (Rng.w .i64 (c18.val*(Rng.w .i64 (c18.val+1)).val)))) (zac (zy ⟨1,rfl⟩) (zz (zO a0 (zy (Rng.w .i64 (c10.val*(Rng.w .i64 (c10.val+1)).val)))) (zac (zy ⟨1,rfl⟩) (zz (zO a0 (zy (Rng.w .i64 (c2.val*(Rng.w .i64 (c2.val+1)).val)))) (zy ⟨1,rfl⟩)))))))))))))))))
def zba:Iv->I64->Iv:=fun a0 a1=>(zdV a0 a1).get
def zsY:Tr (Iv):=
 .leaf ⟨⟨(-1),rfl⟩,⟨1,rfl⟩⟩
def zce:Iv:=(zsY).get
def zgY (a0:Iv):Tr (Iv):=
 .br (!(za7 a0 zR)) (.leaf zbe) (.leaf (zH (zz a0 (zba (zbg a0) ⟨0,rfl⟩)) zce))
def zbt:Iv->Iv:=fun a0=>(zgY a0).get
def zg0 (a0:Iv):Tr (Iv):=
 .br (!(za7 a0 zR)) (.leaf zbe) (.leaf (zH (zba (zbg a0) ⟨(-1),rfl⟩) zce))
def zbu:Iv->Iv:=fun a0=>(zg0 a0).get
def ziu (a0:Iv):Tr (Iv):=
 let c2:=za4 a0 zR;.br (!c2.b) (.leaf zR) (.leaf c2.a)
def zaG:Iv->Iv:=fun a0=>(ziu a0).get
def zgx (a0:Iv):Tr (Bool):=
 .leaf (ze a0)
def zgD:Iv->Bool:=fun a0=>(zgx a0).get
def ziv (a0:Iv):Tr (Bool):=
 .br (zgD a0) (.br (za5 a0.lo) (.leaf (za5 a0.hi)) (.leaf false)) (.leaf false)
def zcx:Iv->Bool:=fun a0=>(ziv a0).get
end
end Go.Proofs.YtkenfaengphiiaaGreatDoor.Ev
namespace Go.Proofs.YtkenfaengphiiaaGreatDoor.Ev
open Go
theorem zbC (a:Iv):ze a=true↔(-1152921504606846976<a.lo.val/\a.lo.val<=a.hi.val/\a.hi.val<1152921504606846976):=by
 simp only [ze,zhl,Tr.get]
 by_cases h1:(-1152921504606846976:Int)<a.lo.val<;>by_cases h2:a.lo.val<=a.hi.val<;>simp [h1,h2]
theorem okno (a:Iv):ze a=false↔¬(-1152921504606846976<a.lo.val/\a.lo.val<=a.hi.val/\a.hi.val<1152921504606846976):=by
 rw [<- zbC];cases ze a<;>simp
theorem zb3 {lo hi:I64} (h: -1152921504606846976<lo.val/\lo.val<=hi.val/\hi.val<1152921504606846976):zab lo hi=⟨lo,hi⟩:=by
 have:ze ⟨lo,hi⟩=true:=(zbC _).2 h
 simp only [zab,zei,Tr.get,this,Bool.not_true,cond_false]
theorem zii {lo hi:I64} (h:¬(-1152921504606846976<lo.val/\lo.val<=hi.val/\hi.val<1152921504606846976)):zab lo hi=zt:=by
 have:ze ⟨lo,hi⟩=false:=(okno _).2 h
 simp only [zab,zei,Tr.get,this,Bool.not_false,cond_true]
theorem zE4 {a b c d:I64} (h1:a.val=c.val) (h2:b.val=d.val):zab a b=zab c d:=by rw [rext h1,rext h2]
theorem zch:ze zt=false:=by decide +kernel
theorem znw (a:Iv):zas a= !(ze a):=by
 simp only [zas,zdq,Tr.get,valid_eq]
theorem zdi:zbe=zt:=rfl
theorem zGa (a b:I64):(mn a b).val=if b.val<a.val then b.val else a.val:=by unfold mn;by_cases hb:b.val<a.val<;>simp [hb]
theorem zF9 (a b:I64):(mx a b).val=if b.val>a.val then b.val else a.val:=by unfold mx;by_cases hb:b.val>a.val<;>simp [hb]
theorem add_eq (a b:Iv):zae a b=zH a b:=by
 simp only [zae,zlO,zH,ze0,Tr.get,zl3,zbB,zeC,cond_true]
 cases ze a<;>cases ze b<;>rfl
theorem zln {a:Iv} (h:ze a=true):zW a=⟨.w .i64 (0-a.hi.val),.w .i64 (0-a.lo.val)⟩:=by
 have:=(zbC a).1 h
 simp only [zW,zhe,Tr.get,h,Bool.not_true,cond_false]
 refine zb3 ?_
 rw [wi (by omega) (by omega),wi (by omega) (by omega)]
 omega
theorem zIN {a:Iv} (h:ze a=false):zW a=zt:=by
 simp only [zW,zhe,Tr.get,h,Bool.not_false,cond_true]
theorem zvw (a:Iv):ze (zW a)=ze a:=by
 cases h:ze a
 ·rw [zIN h];exact zch
 ·have:=(zbC a).1 h
  rw [zln h]
  refine (zbC _).2 ?_
  simp only
  rw [wi (by omega) (by omega),wi (by omega) (by omega)]
  omega
theorem sub_eq (a b:Iv):zaJ a b=zac a b:=by
 simp only [zaJ,zlH,Tr.get,add_eq,neg_eq,zH,ze0,zac,zjQ,zvw]
 cases ha:ze a
 ·rfl
 cases hb:ze b
 ·rfl
 have h1:=(zbC a).1 ha
 have h2:=(zbC b).1 hb
 simp only [Bool.not_true,cond_false,zln hb]
 refine zE4 ?_ ?_
 ·rw [wi (n:=0-b.hi.val) (by omega) (by omega)];congr 1;congr 1;omega
 ·rw [wi (n:=0-b.lo.val) (by omega) (by omega)];congr 1;congr 1;omega
theorem zdZ (n:I64):zB n=zy n:=by
 simp only [zB,ziK,zy,zgH,Tr.get,zbO,zcO,zeC,zbB,cond_true]
 by_cases h: -268435455<=n.val/\n.val<=268435455
 ·have h': -268435456<=n.val/\n.val<=268435456:=by omega
  simp only [h,h',and_self,decide_true,Bool.not_true,cond_false]
 ·by_cases h': -268435456<=n.val/\n.val<=268435456
  ·simp only [h,h',and_self,decide_true,decide_false,Bool.not_true,Bool.not_false,cond_false,cond_true]
   refine zii ?_
   rw [wi (by omega) (by omega)]
   omega
  ·simp only [h,h',decide_false,Bool.not_false,cond_true]
theorem zmS (a b:Iv):zbS a b=zaM a b:=by
 simp only [zbS,zkG,zaM,zkA,Tr.get,zl3,zbB]
 cases ha:ze a
 ·rfl
 cases hb:ze b
 ·rfl
 have h1:=(zbC a).1 ha
 have h2:=(zbC b).1 hb
 simp only [Bool.and_self,Bool.not_true,cond_false,<- min_eq,<- max_eq]
 refine (zb3 ?_).symm
 rw [zGa,zF9]
 split<;>split<;>omega
theorem zvz (a b:Iv):zeW a b=za4 a b:=by
 simp only [zeW,zkE,za4,zdp,Tr.get,znw,zbB,min_eq,max_eq]
theorem zll (a b:Iv):zcf a b=zo a b:=by
 simp only [zcf,zhI,zo,zdL,Tr.get,zvz]
theorem zrV (a b:Iv):zep a b=za7 a b:=by
 simp only [zep,ziL,za7,zgI,Tr.get,znw]
 cases ze a<;>cases ze b<;>rfl
theorem znO:zdd=zR:=rfl
theorem zyh:zir=zce:=rfl
theorem zqR (n:I64):zdy n=za5 n:=by
 simp only [zdy,ziE,za5,zev,Tr.get,zbO,zcO]
theorem zxO (n:I64):za5 n=true↔(-1099511627776<=n.val/\n.val<=1099511627776):=by
 simp only [za5,zev,Tr.get,zcO,decide_eq_true_eq]
theorem zvJ (a:Iv):zbU a=zcx a:=by
 simp only [zbU,zg1,zcx,ziv,Tr.get,zqR,valid_eq]
 rfl
theorem zAC {x d:Int} (hd:0<d) (h: -9223372036854775808<=x/\x<=9223372036854775807): -9223372036854775808<=x/d/\x/d<=9223372036854775807:=by
 have:=zlX (M:=9223372036854775808) hd h.1 (by omega)
 refine ⟨this.1,?_⟩
 by_cases h0:0<=x
 ·have:=Int.ediv_le_self d h0;omega
 ·have:=Int.ediv_neg_of_neg_of_pos (a:=x) (by omega) hd;omega
theorem zET (a b:Int):zbv .or .u64 a b=zbv .or .u64 b a:=by
 show ((BitVec.ofInt 64 a ||| BitVec.ofInt 64 b).toNat:Int)=((BitVec.ofInt 64 b ||| BitVec.ofInt 64 a).toNat:Int)
 rw [BitVec.or_comm]
theorem zCc (w:Wide) (n:I64) (k:Nat) (hn:n.val=k) (h1:1<=k) (h2:k<=63):wv (zc3 w n)=wv w/2^k:=by
 have e0:(n.val==0)=false:=by simp;omega
 have e1:decide (n.val<64)=true:=by simp;omega
 have e2:(Rng.w .u64 n.val).val=k:=by rw [wu (by omega) (by omega),hn]
 have e3:(Rng.w .u64 ((Rng.w .i64 (64-n.val)).val)).val=((64-k:Nat):Int):=by rw [wi (by omega) (by omega),wu (by omega) (by omega)];omega
 simp only [zc3,zfK,Tr.get,e0,e1,cond_true,cond_false,e2,e3,Int.toNat_natCast,Nat.min_eq_left (show k<=64 by omega),Nat.min_eq_left (show 64-k<=64 by omega),zHG]
 have bh:=w.hi.bd
 have bl:=w.lo.ubd
 have hp:(2:Int)^k*2^(64-k)=18446744073709551616:=by
  rw [<- Int.pow_add,show k+(64-k)=64 by omega];rfl
 have hp0:(0:Int)<2^k:=Int.pow_pos (by decide)
 have hq0:(0:Int)<2^(64-k):=Int.pow_pos (by decide)
 generalize hP:(2:Int)^k=P at hp hp0
 generalize hQ:(2:Int)^(64-k)=Q at hp hq0
 have l1:0<=w.lo.val/P:=Int.ediv_nonneg bl.1 (by omega)
 have l2:w.lo.val/P<Q:=by
  refine Int.ediv_lt_of_lt_mul hp0 ?_
  rw [Int.mul_comm,hp];omega
 have hhb: -9223372036854775808<=w.hi.val/P/\w.hi.val/P<=9223372036854775807:=zAC hp0 bh
 have hQle:Q<=18446744073709551616:=by
  have:Q*1<=Q*P:=Int.mul_le_mul_of_nonneg_left (by omega) (by omega)
  rw [Int.mul_comm Q P,hp] at this;omega
 have wlo:(Rng.w .u64 (w.lo.val/P)).val=w.lo.val/P:=wu l1 (by omega)
 have whi:(Rng.w .u64 ((Rng.w .u64 w.hi.val).val*Q)).val=(w.hi.val%P)*Q:=by
  rw [zbf,zbf]
  have:(18446744073709551616:Int)=P*Q:=hp.symm
  rw [this]
  have e:w.hi.val%(P*Q)*Q%(P*Q)=w.hi.val*Q%(P*Q):=by
   rw [Int.mul_emod,Int.emod_emod_of_dvd _ (Int.dvd_refl _),<- Int.mul_emod]
  rw [e,Int.mul_comm w.hi.val Q,Int.mul_comm P Q,Int.mul_emod_mul_of_pos _ _ hq0,Int.mul_comm]
 have hm0:0<=w.hi.val%P:=Int.emod_nonneg _ (by omega)
 have hm1:w.hi.val%P<P:=Int.emod_lt_of_pos _ hp0
 have hmq:(w.hi.val%P)*Q<=(P-1)*Q:=Int.mul_le_mul_of_nonneg_right (by omega) (by omega)
 have hsum:(w.hi.val%P)*Q+w.lo.val/P<=18446744073709551615:=by
  have:(P-1)*Q=18446744073709551616-Q:=by rw [Int.sub_mul,hp,Int.one_mul]
  omega
 have hor:zbv .or .u64 (w.lo.val/P) (w.hi.val%P*Q)=w.hi.val%P*Q+w.lo.val/P:=by
  rw [zET,zt8 (64-k) (w.hi.val%P).toNat (by rw [hQ,Int.toNat_of_nonneg hm0,Int.mul_comm]) l1 (by rw [hQ];exact l2) hsum]
 simp only [wv]
 rw [wi hhb.1 hhb.2,wlo,whi,hor,wu (by have:=Int.mul_nonneg hm0 (show (0:Int)<=Q by omega);omega) hsum]
 have hdm:w.hi.val=P*(w.hi.val/P)+w.hi.val%P:=(Int.mul_ediv_add_emod _ _).symm
 have key:w.hi.val*18446744073709551616+w.lo.val=(w.hi.val/P*18446744073709551616+w.hi.val%P*Q)*P+w.lo.val:=by
  rw [Int.add_mul]
  have e1:w.hi.val%P*Q*P=w.hi.val%P*18446744073709551616:=by rw [Int.mul_assoc,Int.mul_comm Q P,hp]
  have e2:w.hi.val/P*18446744073709551616*P=P*(w.hi.val/P)*18446744073709551616:=by rw [Int.mul_comm _ P,Int.mul_assoc]
  rw [e1,e2,<- Int.add_mul,<- hdm]
 rw [key,Int.add_comm _ w.lo.val,Int.add_mul_ediv_right _ _ (by omega)]
 omega
theorem zCP (a b n:I64) (k:Nat) (hn:n.val=k) (h1:1<=k) (h2:k<=63):zaz a b n=narrow (a.val*b.val/2^k):=by
 have hin:zX n ⟨0,rfl⟩ ⟨126,rfl⟩=true:=by rw [zcO];simp;omega
 have hb:=zfC a.bd b.bd
 simp only [zaz,zfL,Tr.get,hin,Bool.not_true,cond_false,zot,zvE,zCc _ n k hn h1 h2]
 rw [zjN (by omega) (by omega)]
theorem mf32 (a b:I64):zaz a b ⟨32,rfl⟩=narrow (a.val*b.val/4294967296):=zCP a b _ 32 rfl (by decide) (by decide)
theorem mf30 (a b:I64):zaz a b ⟨30,rfl⟩=narrow (a.val*b.val/1073741824):=zCP a b _ 30 rfl (by decide) (by decide)
theorem mf29 (a b:I64):zaz a b ⟨29,rfl⟩=narrow (a.val*b.val/536870912):=zCP a b _ 29 rfl (by decide) (by decide)
theorem zfd {v:Int} (h: -9223372036854775808<=v) (h':v<=9223372036854775807):narrow v=⟨.w .i64 v,true⟩:=by unfold narrow;rw [if_pos ⟨h,h'⟩]
theorem zBT {k:I64} (h:0<k.val) (h':k.val<=4096):zaz k ⟨7244019458077122842,rfl⟩ ⟨30,rfl⟩=⟨.w .i64 (k.val*7244019458077122842/1073741824),true⟩ /\
  0<=k.val*7244019458077122842/1073741824/\k.val*7244019458077122842/1073741824<=27633759721874:=by
 have:0<=k.val*7244019458077122842/1073741824/\k.val*7244019458077122842/1073741824<=27633759721874:=by omega
 exact ⟨by rw [mf30];exact zfd (v:=k.val*7244019458077122842/1073741824) (by omega) (by omega),this⟩
theorem zBR (k:I64) (h:0<=k.val) (h':k.val<=4096):∃x:Iv,(zdW k).opt=some x/\(zfm k).opt=some x/\ze x=true:=by
 have hw:zaw k ⟨(-4096),rfl⟩ ⟨4096,rfl⟩=true:=by rw [zbO];simp;omega
 have hn:decide (k.val<0)=false:=by simp;omega
 simp only [zdW,zfm,Tr.opt,hw,hn,Bool.not_true,cond_false,zps]
 by_cases h0:k.val=0
 ·have e0:(k.val==0)=true:=by simp [h0]
  simp only [e0,cond_true]
  exact ⟨_,rfl,rfl,by decide +kernel⟩
 ·have e0:(k.val==0)=false:=by simp [h0]
  obtain ⟨e,b1,b2⟩:=zBT (k:=k) (by omega) h'
  simp only [e0,cond_false,e]
  refine ⟨_,rfl,rfl,(zbC _).2 ?_⟩
  simp only
  rw [wi (n:=k.val*7244019458077122842/1073741824) (by omega) (by omega),wi (by omega) (by omega)]
  omega
theorem zBS (k:I64) (h: -4096<=k.val) (h':k.val<=4096):∃x:Iv,(zdo k).opt=some x/\(zeO k).opt=some x/\ze x=true:=by
 have hw:zaw k ⟨(-4096),rfl⟩ ⟨4096,rfl⟩=true:=by rw [zbO];simp;omega
 by_cases hn:k.val<0
 ·have e1:(Rng.w .i64 (0-k.val)).val=0-k.val:=wi (by omega) (by omega)
  obtain ⟨x,h1,h2,h3⟩:=zBR (.w .i64 (0-k.val)) (by omega) (by omega)
  have g1:zff (.w .i64 (0-k.val))=true:=by unfold zff;rw [h1];rfl
  have g2:ziQ (.w .i64 (0-k.val))=true:=by unfold ziQ;rw [h2];rfl
  have f1:zcj (.w .i64 (0-k.val))=x:=Tr.zao h1
  have f2:zla (.w .i64 (0-k.val))=x:=Tr.zao h2
  have e0:(k.val==0)=false:=by simp;omega
  have hd:decide (k.val<0)=true:=by simpa using hn
  refine ⟨zW x,?_,?_,by rw [zvw,h3]⟩
  ·simp only [zdo,Tr.opt,e0,hd,g1,f1,cond_true,cond_false,zln h3]
  ·simp only [zeO,Tr.opt,hw,hd,g2,f2,cond_true,cond_false,Bool.not_true,neg_eq]
 ·obtain ⟨x,h1,h2,h3⟩:=zBR k (by omega) h'
  have hd:decide (k.val<0)=false:=by simpa using hn
  refine ⟨x,?_,?_,h3⟩
  ·simp only [zdW,Tr.opt,hd] at h1
   simp only [zdo,Tr.opt,hd]
   exact h1
  ·simp only [zfm,Tr.opt,hd,hw] at h2
   simp only [zeO,Tr.opt,hd,hw]
   exact h2
theorem zzJ (k:I64):∃x:Iv,(ziW k).opt=some x/\(zeO k).opt=some x:=by
 by_cases h: -4096<=k.val/\k.val<=4096
 ·obtain ⟨x,h1,h2,h3⟩:=zBS k h.1 h.2
  have hi:zX k ⟨(-4096),rfl⟩ ⟨4096,rfl⟩=true:=by rw [zcO];simpa using h
  have g:zcw k=true:=by unfold zcw;rw [h1];rfl
  have f:zaQ k=x:=Tr.zao h1
  exact ⟨x,by simp only [ziW,Tr.opt,hi,g,f,Bool.not_true,cond_false,cond_true],h2⟩
 ·have hi:zX k ⟨(-4096),rfl⟩ ⟨4096,rfl⟩=false:=by rw [zcO];simpa using h
  have hw:zaw k ⟨(-4096),rfl⟩ ⟨4096,rfl⟩=false:=by rw [zbO];simpa using h
  exact ⟨zt,by simp only [ziW,Tr.opt,hi,Bool.not_false,cond_true,zdi],by simp only [zeO,Tr.opt,hw,Bool.not_false,cond_true,zbB]⟩
theorem zuW (k:I64):(zeO k).opt=some (zca k):=by
 obtain ⟨x,_,h1⟩:=zzJ k;exact zhN h1
theorem zjs (k:I64):zca k=za3 k:=by
 obtain ⟨x,h1,h2⟩:=zzJ k
 exact (Tr.zao h2).trans (Tr.zao h1).symm
theorem zBe (n:I64):(zgZ n).opt=some (zcn n):=by
 simp only [zgZ,Tr.opt,zcn,zfc,Tr.get,zqR]
 cases ha:za5 n
 ·rfl
 have hb:=(zxO n).1 ha
 have e1:(Rng.w .i64 (n.val+3373259426)).val=n.val+3373259426:=wi (by omega) (by omega)
 have hs:Int.sign 6746518852=1:=rfl
 have q1:(Rng.w .i64 ((n.val+3373259426).tdiv 6746518852)).val=(n.val+3373259426).tdiv 6746518852:=by
  refine wi ?_ ?_
  ·have:=Int.tdiv_eq_ediv (a:=n.val+3373259426) (b:=6746518852);split at this<;>omega
  ·have:=Int.tdiv_eq_ediv (a:=n.val+3373259426) (b:=6746518852);split at this<;>omega
 have hm:=Int.mul_tdiv_add_tmod (n.val+3373259426) 6746518852
 have m1:(Rng.w .i64 ((n.val+3373259426).tmod 6746518852)).val=(n.val+3373259426).tmod 6746518852:=by
  refine wi ?_ ?_
  ·have:=Int.tdiv_eq_ediv (a:=n.val+3373259426) (b:=6746518852);split at this<;>omega
  ·have:=Int.tdiv_eq_ediv (a:=n.val+3373259426) (b:=6746518852);split at this<;>omega
 have q2:(Rng.w .i64 ((n.val+3373259426).tdiv 6746518852*6746518852)).val=(n.val+3373259426).tdiv 6746518852*6746518852:=by
  refine wi ?_ ?_
  ·have:=Int.tdiv_eq_ediv (a:=n.val+3373259426) (b:=6746518852);split at this<;>omega
  ·have:=Int.tdiv_eq_ediv (a:=n.val+3373259426) (b:=6746518852);split at this<;>omega
 have z:((6746518852:Int)==0)=false:=rfl
 simp only [Bool.not_true,cond_false,zkh,zki,zhD,Tr.opt,Tr.get,e1,q1,m1,q2,z,cond_false]
 by_cases hc:(n.val+3373259426).tmod 6746518852<0
 ·have hc':(n.val+3373259426).tdiv 6746518852*6746518852>n.val+3373259426:=by omega
  simp only [hc,hc',decide_true,cond_true,Option.isSome_some]
 ·have hc':¬(n.val+3373259426).tdiv 6746518852*6746518852>n.val+3373259426:=by omega
  simp only [hc,hc',decide_false,cond_false,cond_true,Option.isSome_some]
theorem zeB (n:I64):zcn n=zan n:=(Tr.zao (zBe n)).symm
theorem zif (n:I64): -200<=(zan n).val/\(zan n).val<=200:=by
 rw [<- zeB]
 simp only [zcn,zfc,Tr.get,zqR]
 cases ha:za5 n
 ·simp only [Bool.not_false,cond_true];omega
 have hb:=(zxO n).1 ha
 have e1:(Rng.w .i64 (n.val+3373259426)).val=n.val+3373259426:=wi (by omega) (by omega)
 have hs:Int.sign 6746518852=1:=rfl
 have hq: -170<=(n.val+3373259426).tdiv 6746518852/\(n.val+3373259426).tdiv 6746518852<=170:=by
  have:=Int.tdiv_eq_ediv (a:=n.val+3373259426) (b:=6746518852);split at this<;>omega
 have q1:(Rng.w .i64 ((n.val+3373259426).tdiv 6746518852)).val=(n.val+3373259426).tdiv 6746518852:=wi (by omega) (by omega)
 simp only [Bool.not_true,cond_false,e1,q1]
 cases decide ((Rng.w .i64 ((n.val+3373259426).tdiv 6746518852*6746518852)).val>n.val+3373259426)
 ·simp only [cond_false,q1];omega
 ·simp only [cond_true];rw [wi (by omega) (by omega)];omega
end Go.Proofs.YtkenfaengphiiaaGreatDoor.Ev
namespace Go.Proofs.YtkenfaengphiiaaGreatDoor.Ev
open Go Go.RowKit
set_option maxRecDepth 100000
section
variable [Amb]
def ze7:Ent Tryz.prog:= .of1 zKm B122 (fun _=>true) zca fun a0 _=>(zwS a0).trans (zuW a0)
def B100:Bod Tryz.prog:=⟨100,Tryz.f100,Tryz.f100.body.getD .skip,Tryz.func100,by kernel_rfl,by kernel_rfl,zav.no _ _⟩
def zKH:Tb Tryz.prog:= {T:= [Y2,Y34],mix:=mix,Es:= [],Bs:= [],d:=1}
def zra (a0:I64):Tr (Iv):=
 .leaf ⟨a0,a0⟩
theorem zCm (a0:I64):zKH.run B100 [enc a0] (Iv)=(zra a0).opt:=by kernel_rfl
def zc6:I64->Iv:=fun a0=>(zra a0).get
theorem zBO (a0:I64):(zra a0).opt=some (zc6 a0):=Tr.z8 (by kernel_rfl)
def zjd:Ent Tryz.prog:= .of1 zKH B100 (fun _=>true) zc6 fun a0 _=>(zCm a0).trans (zBO a0)
def B139:Bod Tryz.prog:=⟨139,Tryz.f139,Tryz.f139.body.getD .skip,Tryz.func139,by kernel_rfl,by kernel_rfl,zav.no _ _⟩
def zKf:Tb Tryz.prog:= {T:= [Y2,Y34],mix:=mix,Es:= [zhi,zhj,zjd,zf6,ze7,zlc,zmm,zv3,zqy,zqA],Bs:= [],d:=1}
def zfB (a0:I64) (a1:I64):Tr (Iv):=
 .br (!(zdy a0)) (.leaf zdd) (let c3:=zcn a0;let c6:=zaJ (zc6 a0) (zca c3);let c8:=(Rng.w .i64 (zbv .and .i64 (Rng.w .i64 (c3.val+a1.val)).val 3));.br (c8.val==0) (.leaf (zcm (zd2 c6))) (.br (c8.val==1) (.leaf (zcm (zd3 c6))) (.br (c8.val==2) (.leaf (zcm (zdf (zd2 c6)))) (.leaf (zcm (zdf (zd3 c6)))))))
theorem zok (a0:I64) (a1:I64):zKf.run B139 [enc a0,enc a1] (Iv)=(zfB a0 a1).opt:=by kernel_rfl
def zb9:I64->I64->Iv:=fun a0 a1=>(zfB a0 a1).get
theorem zn6 (a0:I64) (a1:I64):(zfB a0 a1).opt=some (zb9 a0 a1):=Tr.z8 (by kernel_rfl)
def zh8:Ent Tryz.prog:= .of2 zKf B139 (fun _ _=>true) zb9 fun a0 a1 _=>(zok a0 a1).trans (zn6 a0 a1)
def zhk (a0:I64):Tr (Iv):=
 .leaf ⟨a0,a0⟩
def zbq:I64->Iv:=fun a0=>(zhk a0).get
def zkv (a0:I64) (a1:I64):Tr (Iv):=
 .br (!(za5 a0)) (.leaf zR) (let c3:=zan a0;let c6:=zac (zbq a0) (za3 c3);let c8:=(Rng.w .i64 (zbv .and .i64 (Rng.w .i64 (c3.val+a1.val)).val 3));.br (c8.val==0) (.leaf (zaG (zbt c6))) (.br (c8.val==1) (.leaf (zaG (zbu c6))) (.br (c8.val==2) (.leaf (zaG (zW (zbt c6)))) (.leaf (zaG (zW (zbu c6)))))))
def zbJ:I64->I64->Iv:=fun a0 a1=>(zkv a0 a1).get
structure zd0 where
 x0:I64
 x1:I64
 x2:I64
 x3:I64
 x4:I64
 x5:I64
 x6:I64
 x7:I64
instance:Inhabited zd0:=⟨⟨default,default,default,default,default,default,default,default⟩⟩
def zfe (x:zd0):Tr (Lp zd0):=
 .br (decide (x.x1.val<=(Rng.w .i64 ((zan x.x3).val+1)).val)) (.br (!(zo (za3 x.x1) ⟨x.x2,x.x3⟩)) (.leaf (.again ⟨x.x0,(Rng.w .i64 (x.x1.val+1)),x.x2,x.x3,x.x4,x.x5,x.x6,x.x7⟩)) (let c15:=(Rng.w .i64 (zbv .and .i64 (Rng.w .i64 (x.x1.val+x.x0.val)).val 3));.br (c15.val==1) (let c17:=zaM ⟨x.x6,x.x7⟩ (zy ⟨1,rfl⟩);.leaf (.again ⟨x.x0,(Rng.w .i64 (x.x1.val+1)),x.x2,x.x3,x.x4,x.x5,c17.lo,c17.hi⟩)) (.br (c15.val==3) (let c20:=zaM ⟨x.x6,x.x7⟩ (zy ⟨(-1),rfl⟩);.leaf (.again ⟨x.x0,(Rng.w .i64 (x.x1.val+1)),x.x2,x.x3,x.x4,x.x5,c20.lo,c20.hi⟩)) (.leaf (.again ⟨x.x0,(Rng.w .i64 (x.x1.val+1)),x.x2,x.x3,x.x4,x.x5,x.x6,x.x7⟩))))) (.leaf (.out ⟨x.x0,x.x1,x.x2,x.x3,x.x4,x.x5,x.x6,x.x7⟩))
def zjk (x:zd0):Bool:=(Lf zfe 1000 x).opt.isSome
def zmj (x:zd0):zd0:=(Lf zfe 1000 x).get
def zk0 (a0:Iv) (a1:I64):Tr (Iv):=
 .br (!(zcx a0)) (.leaf zR) (let c5:=zaM (zbJ a0.lo a1) (zbJ a0.hi a1);let c7:=(Rng.w .i64 ((zan a0.lo).val-1));.br (zjk ⟨a1,c7,a0.lo,a0.hi,⟨0,rfl⟩,⟨0,rfl⟩,c5.lo,c5.hi⟩) (let c23:=zmj ⟨a1,c7,a0.lo,a0.hi,⟨0,rfl⟩,⟨0,rfl⟩,c5.lo,c5.hi⟩;.leaf ⟨c23.x6,c23.x7⟩) (.bad))
def ziR:Iv->I64->Iv:=fun a0 a1=>(zk0 a0 a1).get
end
end Go.Proofs.YtkenfaengphiiaaGreatDoor.Ev
