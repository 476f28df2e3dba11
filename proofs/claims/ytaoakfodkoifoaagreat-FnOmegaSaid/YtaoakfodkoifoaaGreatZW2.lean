/- The law FnOmega gives true, whatever comes in; each argument reads behind the call as it read before. No conditions. (One of the texts of its proof, put together by a program of this session.) -/
import Derived.Test.YtaoakfodkoifoaaGreatZW1
import Derived.Test.YtaoakfodkoifoaaGreatZPA
set_option linter.unusedSectionVars false
set_option linter.unusedSimpArgs false
set_option linter.unusedVariables false
noncomputable section
namespace Go.Proofs.YtaoakfodkoifoaaGreat.Ev
open Go Go.RowKit
set_option maxRecDepth 100000
section
variable [Amb]
def zrh:Ent Tryz.prog:= .of3 zM1 B183 (fun _ _ _=>true) zbG fun a0 a1 a2 _=>(znn a0 a1 a2).trans (zFn a0 a1 a2)
def zcU:Ent Tryz.prog:= .of2 zPV B134 (fun _ _=>true) zaa fun a0 a1 _=>(zvn a0 a1).trans (zGo a0 a1)
def ztj:Ent Tryz.prog:= .of1 Tb19 B19 (fun _=>true) zaq fun a0 _=>(ztP a0).trans (zuS a0)
def zeH:Ent Tryz.prog:= .of1 zQd B116 (fun _=>true) zcp fun a0 _=>(ztV a0).trans (zuT a0)
def B196:Bod Tryz.prog:=⟨196,Tryz.f196,Tryz.f196.body.getD .skip,Tryz.func196,by kernel_rfl,by kernel_rfl,zar.no _ _⟩
def zPu:Tb Tryz.prog:= {T:= [Y2,Y109,Y118,Y130],mix:=mix,Es:= [],Bs:= [],d:=1}
def zhj (a0:Wide) (a1:I64):Tr (Wide):=
 .br (a1.val==0) (.leaf a0) (.br (decide (a1.val<64)) (.leaf ⟨(Rng.w .i64 (a0.hi.val.fdiv (2^min ((Rng.w .u64 (a1.val)).val).toNat 64))),(Rng.w .u64 (zbI .or .u64 (Rng.w .u64 (a0.lo.val.fdiv (2^min ((Rng.w .u64 (a1.val)).val).toNat 64))).val (Rng.w .u64 ((Rng.w .u64 (a0.hi.val)).val*(2^min ((Rng.w .u64 ((Rng.w .i64 (64-a1.val)).val)).val).toNat 64))).val))⟩) (.leaf ⟨(Rng.w .i64 (a0.hi.val.fdiv 9223372036854775808)),(Rng.w .u64 ((Rng.w .i64 (a0.hi.val.fdiv (2^min ((Rng.w .u64 ((Rng.w .i64 (a1.val-64)).val)).val).toNat 64))).val))⟩))
theorem zvd (a0:Wide) (a1:I64):zPu.run B196 [enc a0,enc a1] (Wide)=(zhj a0 a1).opt:=by kernel_rfl
def zdU:Wide->I64->Wide:=fun a0 a1=>(zhj a0 a1).get
theorem zuE (a0:Wide) (a1:I64):(zhj a0 a1).opt=some (zdU a0 a1):=Tr.zX (by kernel_rfl)
def zwn:Ent Tryz.prog:= .of2 zPu B196 (fun _ _=>true) zdU fun a0 a1 _=>(zvd a0 a1).trans (zuE a0 a1)
def B127:Bod Tryz.prog:=⟨127,Tryz.f127,Tryz.f127.body.getD .skip,Tryz.func127,by kernel_rfl,by kernel_rfl,zar.no _ _⟩
def zP2:Tb Tryz.prog:= {T:= [],mix:=mix,Es:= [zjr,zr6,zr7,zwn],Bs:= [],d:=1}
def zhm (a0:I64) (a1:I64) (a2:I64):Tr (T2 I64 Bool):=
 .br (!(zaf a2 ⟨0,rfl⟩ ⟨126,rfl⟩)) (.leaf ⟨⟨0,rfl⟩,false⟩) (let c4:=zj7 (zdU (zfm a0 a1) a2);.leaf ⟨c4.a,c4.b⟩)
theorem zvg (a0:I64) (a1:I64) (a2:I64):zP2.run B127 [enc a0,enc a1,enc a2] (T2 I64 Bool)=(zhm a0 a1 a2).opt:=by kernel_rfl
def zaE:I64->I64->I64->T2 I64 Bool:=fun a0 a1 a2=>(zhm a0 a1 a2).get
theorem zuH (a0:I64) (a1:I64) (a2:I64):(zhm a0 a1 a2).opt=some (zaE a0 a1 a2):=Tr.zX (by kernel_rfl)
def zpS:Ent Tryz.prog:= .of3 zP2 B127 (fun _ _ _=>true) zaE fun a0 a1 a2 _=>(zvg a0 a1 a2).trans (zuH a0 a1 a2)
def zez (a0:I64) (a1:I64):Tr (T2 I64 Bool):=
 .br (!(zJ a0)) (.leaf ⟨⟨0,rfl⟩,false⟩) (.br (!(zJ a1)) (.leaf ⟨⟨0,rfl⟩,false⟩) (let c3:=zaE a0 a1 ⟨32,rfl⟩;let c4:=zaJ c3.a c3.b;.leaf ⟨c4.a,c4.b⟩))
def zW:I64->I64->T2 I64 Bool:=fun a0 a1=>(zez a0 a1).get
def zhh (a0:I64) (a1:I64):Tr (T2 I64 Bool):=
 let c2:=zW (Rng.w .i64 (0-a0.val)) a1;.br (!(zJ a0)) (.leaf ⟨⟨0,rfl⟩,false⟩) (.br (!c2.b) (.leaf ⟨⟨0,rfl⟩,false⟩) (.leaf ⟨(Rng.w .i64 (0-c2.a.val)),true⟩))
def zau:I64->I64->T2 I64 Bool:=fun a0 a1=>(zhh a0 a1).get
def B89:Bod Tryz.prog:=⟨89,Tryz.f89,Tryz.f89.body.getD .skip,Tryz.func89,by kernel_rfl,by kernel_rfl,zar.no _ _⟩
def Tb89:Tb Tryz.prog:= {T:= [],mix:=mix,Es:= [],Bs:= [],d:=1}
def zhP (a0:I64) (a1:I64):Tr (I64):=
 .br (decide (a0.val<a1.val)) (.leaf a0) (.leaf a1)
theorem zzf (a0:I64) (a1:I64):Tb89.run B89 [enc a0,enc a1] (I64)=(zhP a0 a1).opt:=by kernel_rfl
def zC:I64->I64->I64:=fun a0 a1=>(zhP a0 a1).get
theorem zyB (a0:I64) (a1:I64):(zhP a0 a1).opt=some (zC a0 a1):=Tr.zX (by kernel_rfl)
def zr8:Ent Tryz.prog:= .of2 Tb89 B89 (fun _ _=>true) zC fun a0 a1 _=>(zzf a0 a1).trans (zyB a0 a1)
def B90:Bod Tryz.prog:=⟨90,Tryz.f90,Tryz.f90.body.getD .skip,Tryz.func90,by kernel_rfl,by kernel_rfl,zar.no _ _⟩
def Tb90:Tb Tryz.prog:= {T:= [],mix:=mix,Es:= [],Bs:= [],d:=1}
def zhQ (a0:I64) (a1:I64):Tr (I64):=
 .br (decide (a0.val>a1.val)) (.leaf a0) (.leaf a1)
theorem zzg (a0:I64) (a1:I64):Tb90.run B90 [enc a0,enc a1] (I64)=(zhQ a0 a1).opt:=by kernel_rfl
def zt:I64->I64->I64:=fun a0 a1=>(zhQ a0 a1).get
theorem zyC (a0:I64) (a1:I64):(zhQ a0 a1).opt=some (zt a0 a1):=Tr.zX (by kernel_rfl)
def zr9:Ent Tryz.prog:= .of2 Tb90 B90 (fun _ _=>true) zt fun a0 a1 _=>(zzg a0 a1).trans (zyC a0 a1)
def zkr (a0:Iv) (a1:Iv):Tr (Iv):=
 .br (!(za a0)) (.leaf zh) (.br (!(za a1)) (.leaf zh) (let c5:=zW a0.lo a1.lo;let c6:=zau a0.lo a1.lo;.br (!c5.b) (.leaf zh) (.br (!c6.b) (.leaf zh) (let c11:=zW a0.lo a1.hi;let c12:=zau a0.lo a1.hi;.br (!c11.b) (.leaf zh) (.br (!c12.b) (.leaf zh) (let c17:=zW a0.hi a1.lo;let c18:=zau a0.hi a1.lo;.br (!c17.b) (.leaf zh) (.br (!c18.b) (.leaf zh) (let c23:=zW a0.hi a1.hi;let c24:=zau a0.hi a1.hi;.br (!c23.b) (.leaf zh) (.br (!c24.b) (.leaf zh) (.leaf (zU (zC (zC (zC (zC ⟨1152921504606846976,rfl⟩ c5.a) c11.a) c17.a) c23.a) (zt (zt (zt (zt ⟨(-1152921504606846976),rfl⟩ c6.a) c12.a) c18.a) c24.a))))))))))))
def zk:Iv->Iv->Iv:=fun a0 a1=>(zkr a0 a1).get
def B144:Bod Tryz.prog:=⟨144,Tryz.f144,Tryz.f144.body.getD .skip,Tryz.func144,by kernel_rfl,by kernel_rfl,zar.no _ _⟩
def zPL:Tb Tryz.prog:= {T:= [Y32],mix:=mix,Es:= [zeh],Bs:= [],d:=1}
def zhX (a0:Iv) (a1:Iv):Tr (Bool):=
 .br (zbL a0) (.leaf (zbL a1)) (.leaf false)
theorem zsA (a0:Iv) (a1:Iv):zPL.run B144 [enc a0,enc a1] (Bool)=(zhX a0 a1).opt:=by kernel_rfl
def zaU:Iv->Iv->Bool:=fun a0 a1=>(zhX a0 a1).get
theorem zsl (a0:Iv) (a1:Iv):(zhX a0 a1).opt=some (zaU a0 a1):=Tr.zX (by kernel_rfl)
def zbl:Ent Tryz.prog:= .of2 zPL B144 (fun _ _=>true) zaU fun a0 a1 _=>(zsA a0 a1).trans (zsl a0 a1)
def B250:Bod Tryz.prog:=⟨250,Tryz.f250,Tryz.f250.body.getD .skip,Tryz.func250,by kernel_rfl,by kernel_rfl,zar.no _ _⟩
def zOX:Tb Tryz.prog:= {T:= [Y2,Y109,Y118],mix:=mix,Es:= [za3],Bs:= [],d:=1}
def zgw (a0:Wide) (a1:I64):Tr (Wide):=
 .br (!(zas a1 ⟨0,rfl⟩ ⟨127,rfl⟩)) (.leaf ⟨⟨0,rfl⟩,⟨0,rfl⟩⟩) (.br (decide (a1.val>=64)) (let c3:=(Rng.w .i64 (a1.val-64));.br (decide (c3.val<0)) (.bad) (.leaf ⟨(Rng.w .i64 (a0.hi.val.fdiv 9223372036854775808)),(Rng.w .u64 ((Rng.w .i64 (a0.hi.val.fdiv (2^min (c3.val).toNat 64))).val))⟩)) (.br (decide (a1.val<0)) (.bad) (.br (decide (a1.val<0)) (.bad) (let c7:=(Rng.w .i64 (64-a1.val));.br (decide (c7.val<0)) (.bad) (.leaf ⟨(Rng.w .i64 (a0.hi.val.fdiv (2^min (a1.val).toNat 64))),(Rng.w .u64 (zbI .or .u64 (Rng.w .u64 (a0.lo.val.fdiv (2^min (a1.val).toNat 64))).val (Rng.w .u64 ((Rng.w .u64 (a0.hi.val)).val*(2^min (c7.val).toNat 64))).val))⟩)))))
theorem ztT (a0:Wide) (a1:I64):zOX.run B250 [enc a0,enc a1] (Wide)=(zgw a0 a1).opt:=by kernel_rfl
def zlI:Wide->I64->Wide:=fun a0 a1=>(zgw a0 a1).get
def zi1:Wide->I64->Bool:=fun a0 a1=>(zgw a0 a1).opt.isSome
def zt6:Ent Tryz.prog:= .of2 zOX B250 zi1 zlI fun a0 a1 h=>(ztT a0 a1).trans (Tr.get_some h)
def B209:Bod Tryz.prog:=⟨209,Tryz.f209,Tryz.f209.body.getD .skip,Tryz.func209,by kernel_rfl,by kernel_rfl,zar.no _ _⟩
def zM0:Tb Tryz.prog:= {T:= [],mix:=mix,Es:= [za3,zgW,znO,zt6],Bs:= [],d:=1}
def zfP (a0:I64) (a1:I64) (a2:I64):Tr (T2 I64 Bool):=
 .br (!(zas a2 ⟨0,rfl⟩ ⟨126,rfl⟩)) (.leaf ⟨⟨0,rfl⟩,false⟩) (let c2:=zco a0 a1;.br (zi1 c2 a2) (let c4:=zgT (zlI c2 a2);.leaf ⟨c4.a,c4.b⟩) (.bad))
theorem zpy (a0:I64) (a1:I64) (a2:I64):zM0.run B209 [enc a0,enc a1,enc a2] (T2 I64 Bool)=(zfP a0 a1 a2).opt:=by kernel_rfl
def zci:I64->I64->I64->T2 I64 Bool:=fun a0 a1 a2=>(zfP a0 a1 a2).get
def zj2:I64->I64->I64->Bool:=fun a0 a1 a2=>(zfP a0 a1 a2).opt.isSome
def zwt:Ent Tryz.prog:= .of3 zM0 B209 zj2 zci fun a0 a1 a2 h=>(zpy a0 a1 a2).trans (Tr.get_some h)
def B202:Bod Tryz.prog:=⟨202,Tryz.f202,Tryz.f202.body.getD .skip,Tryz.func202,by kernel_rfl,by kernel_rfl,zar.no _ _⟩
def zPp:Tb Tryz.prog:= {T:= [],mix:=mix,Es:= [zwt,zd0,zjs],Bs:= [],d:=1}
def ziE (a0:I64) (a1:I64):Tr (T2 I64 Bool):=
 .br (!(za2 a0)) (.leaf ⟨⟨0,rfl⟩,false⟩) (.br (!(za2 a1)) (.leaf ⟨⟨0,rfl⟩,false⟩) (.br (zj2 a0 a1 ⟨32,rfl⟩) (let c3:=zci a0 a1 ⟨32,rfl⟩;let c4:=zc8 c3.a c3.b;.leaf ⟨c4.a,c4.b⟩) (.bad)))
theorem zxl (a0:I64) (a1:I64):zPp.run B202 [enc a0,enc a1] (T2 I64 Bool)=(ziE a0 a1).opt:=by kernel_rfl
def zew:I64->I64->T2 I64 Bool:=fun a0 a1=>(ziE a0 a1).get
def zdH:I64->I64->Bool:=fun a0 a1=>(ziE a0 a1).opt.isSome
def znP:Ent Tryz.prog:= .of2 zPp B202 zdH zew fun a0 a1 h=>(zxl a0 a1).trans (Tr.get_some h)
def B203:Bod Tryz.prog:=⟨203,Tryz.f203,Tryz.f203.body.getD .skip,Tryz.func203,by kernel_rfl,by kernel_rfl,zar.no _ _⟩
def zPo:Tb Tryz.prog:= {T:= [],mix:=mix,Es:= [znP,zd0],Bs:= [],d:=1}
def zlg (a0:I64) (a1:I64):Tr (T2 I64 Bool):=
 .br (!(za2 a0)) (.leaf ⟨⟨0,rfl⟩,false⟩) (.br (!(za2 a1)) (.leaf ⟨⟨0,rfl⟩,false⟩) (let c3:=(Rng.w .i64 (0-a0.val));.br (zdH c3 a1) (let c4:=zew c3 a1;.leaf ⟨(Rng.w .i64 (0-c4.a.val)),c4.b⟩) (.bad)))
theorem zBa (a0:I64) (a1:I64):zPo.run B203 [enc a0,enc a1] (T2 I64 Bool)=(zlg a0 a1).opt:=by kernel_rfl
def zhF:I64->I64->T2 I64 Bool:=fun a0 a1=>(zlg a0 a1).get
def zgc:I64->I64->Bool:=fun a0 a1=>(zlg a0 a1).opt.isSome
def ztC:Ent Tryz.prog:= .of2 zPo B203 zgc zhF fun a0 a1 h=>(zBa a0 a1).trans (Tr.get_some h)
def Y154:TyE Tryz.prog:=⟨154,2,(.array 2 2 1),[.i64 ⟨0,rfl⟩,.i64 ⟨0,rfl⟩],false,by kernel_rfl,by kernel_rfl,by kernel_rfl,by kernel_rfl,by kernel_rfl,by kernel_rfl⟩
def B185:Bod Tryz.prog:=⟨185,Tryz.f185,Tryz.f185.body.getD .skip,Tryz.func185,by kernel_rfl,by kernel_rfl,zar.no _ _⟩
def B131:Bod Tryz.prog:=⟨131,Tryz.f131,Tryz.f131.body.getD .skip,Tryz.func131,by kernel_rfl,by kernel_rfl,zar.no _ _⟩
def zPY:Tb Tryz.prog:= {T:= [Y2,Y32,Y154],mix:=mix,Es:= [zah,zbB,zbl,znP,ztC],Bs:= [B185],d:=8}
def zmq (a0:Iv) (a1:Iv):Tr (Iv):=
 .br (!(zaU a0 a1)) (.leaf zD) (.br (zdH a0.lo a1.lo) (let c3:=zew a0.lo a1.lo;.br (zgc a0.lo a1.lo) (let c4:=zhF a0.lo a1.lo;.br (!c3.b) (.leaf zD) (.br (!c4.b) (.leaf zD) (.br (zdH a0.lo a1.hi) (let c7:=zew a0.lo a1.hi;.br (zgc a0.lo a1.hi) (let c8:=zhF a0.lo a1.hi;.br (!c7.b) (.leaf zD) (.br (!c8.b) (.leaf zD) (.br (zdH a0.hi a1.lo) (let c11:=zew a0.hi a1.lo;.br (zgc a0.hi a1.lo) (let c12:=zhF a0.hi a1.lo;.br (!c11.b) (.leaf zD) (.br (!c12.b) (.leaf zD) (.br (zdH a0.hi a1.hi) (let c17:=zew a0.hi a1.hi;.br (zgc a0.hi a1.hi) (let c18:=zhF a0.hi a1.hi;.br (!c17.b) (.leaf zD) (.br (!c18.b) (.leaf zD) (.leaf (zaN (mn (mn (mn (mn c3.a c3.a) c7.a) c11.a) c17.a) (mx (mx (mx (mx c4.a c4.a) c8.a) c12.a) c18.a) true)))) (.bad)) (.bad)))) (.bad)) (.bad)))) (.bad)) (.bad)))) (.bad)) (.bad))
theorem zCK (a0:Iv) (a1:Iv):zPY.run B131 [enc a0,enc a1] (Iv)=(zmq a0 a1).opt:=by kernel_rfl
def zF:Iv->Iv->Iv:=fun a0 a1=>(zmq a0 a1).get
def B123:Bod Tryz.prog:=⟨123,Tryz.f123,Tryz.f123.body.getD .skip,Tryz.func123,by kernel_rfl,by kernel_rfl,zar.no _ _⟩
def zP6:Tb Tryz.prog:= {T:= [Y2,Y32],mix:=mix,Es:= [zjr],Bs:= [],d:=1}
def zcc (a0:Iv) (a1:I64):Tr (Bool):=
 .leaf (zaf a1 a0.lo a0.hi)
theorem zzb (a0:Iv) (a1:I64):zP6.run B123 [enc a0,enc a1] (Bool)=(zcc a0 a1).opt:=by kernel_rfl
def zaO:Iv->I64->Bool:=fun a0 a1=>(zcc a0 a1).get
theorem zyy (a0:Iv) (a1:I64):(zcc a0 a1).opt=some (zaO a0 a1):=Tr.zX (by kernel_rfl)
def zz5:Ent Tryz.prog:= .of2 zP6 B123 (fun _ _=>true) zaO fun a0 a1 _=>(zzb a0 a1).trans (zyy a0 a1)
def zbO (a0:I64) (a1:I64):Tr (T2 I64 Bool):=
 .br (!(zJ a0)) (.leaf ⟨⟨0,rfl⟩,false⟩) (.br (!(zJ a1)) (.leaf ⟨⟨0,rfl⟩,false⟩) (.br (a1.val==0) (.leaf ⟨⟨0,rfl⟩,false⟩) (.br (decide (a1.val<0)) (let c5:=zbv (Rng.w .i64 (0-a0.val)) ⟨4294967296,rfl⟩ (Rng.w .i64 (0-a1.val));let c6:=zaJ c5.a c5.b;.leaf ⟨c6.a,c6.b⟩) (let c7:=zbv a0 ⟨4294967296,rfl⟩ a1;let c8:=zaJ c7.a c7.b;.leaf ⟨c8.a,c8.b⟩))))
def zO:I64->I64->T2 I64 Bool:=fun a0 a1=>(zbO a0 a1).get
def zdK (a0:I64) (a1:I64):Tr (T2 I64 Bool):=
 .br (!(zJ a0)) (.leaf ⟨⟨0,rfl⟩,false⟩) (let c3:=zO (Rng.w .i64 (0-a0.val)) a1;.leaf ⟨(Rng.w .i64 (0-c3.a.val)),c3.b⟩)
def z8:I64->I64->T2 I64 Bool:=fun a0 a1=>(zdK a0 a1).get
def zho (a0:Iv) (a1:Iv):Tr (Iv):=
 .br (!(za a0)) (.leaf zh) (.br (!(za a1)) (.leaf zh) (.br (zaO a1 ⟨0,rfl⟩) (.leaf zh) (let c7:=zO a0.lo a1.lo;let c8:=z8 a0.lo a1.lo;.br (!c7.b) (.leaf zh) (.br (!c8.b) (.leaf zh) (let c13:=zO a0.lo a1.hi;let c14:=z8 a0.lo a1.hi;.br (!c13.b) (.leaf zh) (.br (!c14.b) (.leaf zh) (let c19:=zO a0.hi a1.lo;let c20:=z8 a0.hi a1.lo;.br (!c19.b) (.leaf zh) (.br (!c20.b) (.leaf zh) (let c25:=zO a0.hi a1.hi;let c26:=z8 a0.hi a1.hi;.br (!c25.b) (.leaf zh) (.br (!c26.b) (.leaf zh) (.leaf (zU (zC (zC (zC (zC ⟨1152921504606846976,rfl⟩ c7.a) c13.a) c19.a) c25.a) (zt (zt (zt (zt ⟨(-1152921504606846976),rfl⟩ c8.a) c14.a) c20.a) c26.a)))))))))))))
def zo:Iv->Iv->Iv:=fun a0 a1=>(zho a0 a1).get
def B174:Bod Tryz.prog:=⟨174,Tryz.f174,Tryz.f174.body.getD .skip,Tryz.func174,by kernel_rfl,by kernel_rfl,zar.no _ _⟩
def zPI:Tb Tryz.prog:= {T:= [Y2,Y32],mix:=mix,Es:= [za3,za6],Bs:= [],d:=1}
def zmr (a0:Iv) (a1:I64):Tr (Bool):=
 .br (zab a0) (.leaf true) (.leaf (zas a1 a0.lo a0.hi))
theorem zCO (a0:Iv) (a1:I64):zPI.run B174 [enc a0,enc a1] (Bool)=(zmr a0 a1).opt:=by kernel_rfl
def zfz:Iv->I64->Bool:=fun a0 a1=>(zmr a0 a1).get
theorem zCk (a0:Iv) (a1:I64):(zmr a0 a1).opt=some (zfz a0 a1):=Tr.zX (by kernel_rfl)
def zrf:Ent Tryz.prog:= .of2 zPI B174 (fun _ _=>true) zfz fun a0 a1 _=>(zCO a0 a1).trans (zCk a0 a1)
def B186:Bod Tryz.prog:=⟨186,Tryz.f186,Tryz.f186.body.getD .skip,Tryz.func186,by kernel_rfl,by kernel_rfl,zar.no _ _⟩
def zPC:Tb Tryz.prog:= {T:= [],mix:=mix,Es:= [zrh,zd0,zjs],Bs:= [],d:=1}
def zk3 (a0:I64) (a1:I64):Tr (T2 I64 Bool):=
 .br (!(za2 a0)) (.leaf ⟨⟨0,rfl⟩,false⟩) (.br (!(za2 a1)) (.leaf ⟨⟨0,rfl⟩,false⟩) (.br (decide (a1.val<0)) (let c5:=zbG (Rng.w .i64 (0-a0.val)) ⟨4294967296,rfl⟩ (Rng.w .i64 (0-a1.val));let c6:=zc8 c5.a c5.b;.leaf ⟨c6.a,c6.b⟩) (let c7:=zbG a0 ⟨4294967296,rfl⟩ a1;let c8:=zc8 c7.a c7.b;.leaf ⟨c8.a,c8.b⟩)))
theorem zxs (a0:I64) (a1:I64):zPC.run B186 [enc a0,enc a1] (T2 I64 Bool)=(zk3 a0 a1).opt:=by kernel_rfl
def zdJ:I64->I64->T2 I64 Bool:=fun a0 a1=>(zk3 a0 a1).get
theorem zwY (a0:I64) (a1:I64):(zk3 a0 a1).opt=some (zdJ a0 a1):=Tr.zX (by kernel_rfl)
def zqH:Ent Tryz.prog:= .of2 zPC B186 (fun _ _=>true) zdJ fun a0 a1 _=>(zxs a0 a1).trans (zwY a0 a1)
def B187:Bod Tryz.prog:=⟨187,Tryz.f187,Tryz.f187.body.getD .skip,Tryz.func187,by kernel_rfl,by kernel_rfl,zar.no _ _⟩
def zPB:Tb Tryz.prog:= {T:= [],mix:=mix,Es:= [zqH,zd0],Bs:= [],d:=1}
def zne (a0:I64) (a1:I64):Tr (T2 I64 Bool):=
 .br (!(za2 a0)) (.leaf ⟨⟨0,rfl⟩,false⟩) (.br (!(za2 a1)) (.leaf ⟨⟨0,rfl⟩,false⟩) (let c4:=zdJ (Rng.w .i64 (0-a0.val)) a1;.leaf ⟨(Rng.w .i64 (0-c4.a.val)),c4.b⟩))
theorem zBh (a0:I64) (a1:I64):zPB.run B187 [enc a0,enc a1] (T2 I64 Bool)=(zne a0 a1).opt:=by kernel_rfl
def zgg:I64->I64->T2 I64 Bool:=fun a0 a1=>(zne a0 a1).get
theorem zAD (a0:I64) (a1:I64):(zne a0 a1).opt=some (zgg a0 a1):=Tr.zX (by kernel_rfl)
def zB1:Ent Tryz.prog:= .of2 zPB B187 (fun _ _=>true) zgg fun a0 a1 _=>(zBh a0 a1).trans (zAD a0 a1)
def B119:Bod Tryz.prog:=⟨119,Tryz.f119,Tryz.f119.body.getD .skip,Tryz.func119,by kernel_rfl,by kernel_rfl,zar.no _ _⟩
def zQa:Tb Tryz.prog:= {T:= [Y2,Y32,Y154],mix:=mix,Es:= [zah,zbB,zbl,zrf,zqH,zB1],Bs:= [B185],d:=8}
def zor (a0:Iv) (a1:Iv):Tr (Iv):=
 .br (!(zaU a0 a1)) (.leaf zD) (.br (zfz a1 ⟨0,rfl⟩) (.leaf zD) (let c5:=zdJ a0.lo a1.lo;let c6:=zgg a0.lo a1.lo;.br (!c5.b) (.leaf zD) (.br (!c6.b) (.leaf zD) (let c9:=zdJ a0.lo a1.hi;let c10:=zgg a0.lo a1.hi;.br (!c9.b) (.leaf zD) (.br (!c10.b) (.leaf zD) (let c14:=zdJ a0.hi a1.lo;let c15:=zgg a0.hi a1.lo;.br (!c14.b) (.leaf zD) (.br (!c15.b) (.leaf zD) (let c19:=zdJ a0.hi a1.hi;let c20:=zgg a0.hi a1.hi;.br (!c19.b) (.leaf zD) (.br (!c20.b) (.leaf zD) (.leaf (zaN (mn (mn (mn (mn c5.a c5.a) c9.a) c14.a) c19.a) (mx (mx (mx (mx c6.a c6.a) c10.a) c15.a) c20.a) true)))))))))))
theorem zCQ (a0:Iv) (a1:Iv):zQa.run B119 [enc a0,enc a1] (Iv)=(zor a0 a1).opt:=by kernel_rfl
def zad:Iv->Iv->Iv:=fun a0 a1=>(zor a0 a1).get
theorem zCm (a0:Iv) (a1:Iv):(zor a0 a1).opt=some (zad a0 a1):=Tr.zX (by kernel_rfl)
def zcj:Ent Tryz.prog:= .of2 zQa B119 (fun _ _=>true) zad fun a0 a1 _=>(zCQ a0 a1).trans (zCm a0 a1)
def B64:Bod Tryz.prog:=⟨64,Tryz.f64,Tryz.f64.body.getD .skip,Tryz.func64,by kernel_rfl,by kernel_rfl,zar.no _ _⟩
def Tb64:Tb Tryz.prog:= {T:= [Y2,Y32],mix:=mix,Es:= [zr8,zr9,zz5],Bs:= [],d:=1}
def zen (a0:Iv):Tr (T2 I64 I64):=
 let c2:=zt a0.lo (Rng.w .i64 (0-a0.lo.val));let c4:=zt a0.hi (Rng.w .i64 (0-a0.hi.val));.br (zaO a0 ⟨0,rfl⟩) (.leaf ⟨⟨0,rfl⟩,(zt c2 c4)⟩) (.leaf ⟨(zC c2 c4),(zt c2 c4)⟩)
theorem zw4 (a0:Iv):Tb64.run B64 [enc a0] (T2 I64 I64)=(zen a0).opt:=by kernel_rfl
def zK:Iv->T2 I64 I64:=fun a0=>(zen a0).get
theorem zwH (a0:Iv):(zen a0).opt=some (zK a0):=Tr.zX (by kernel_rfl)
def zxD:Ent Tryz.prog:= .of1 Tb64 B64 (fun _=>true) zK fun a0 _=>(zw4 a0).trans (zwH a0)
def zkq (a0:Iv):Tr (Iv):=
 .br (!(za a0)) (.leaf zh) (let c3:=zK a0;let c4:=zW c3.a c3.a;let c5:=zau c3.b c3.b;.br (!c4.b) (.leaf zh) (.br (!c5.b) (.leaf zh) (.leaf (zU c4.a c5.a))))
def zay:Iv->Iv:=fun a0=>(zkq a0).get
def B115:Bod Tryz.prog:=⟨115,Tryz.f115,Tryz.f115.body.getD .skip,Tryz.func115,by kernel_rfl,by kernel_rfl,zar.no _ _⟩
def zQe:Tb Tryz.prog:= {T:= [Y2,Y32],mix:=mix,Es:= [za6,zah,zrf,zyo],Bs:= [],d:=1}
def zku (a0:Iv):Tr (Iv):=
 .br (zab a0) (.leaf zD) (let c5:=zbX a0.lo;let c6:=zbX a0.hi;.br (zfz a0 ⟨0,rfl⟩) (.leaf ⟨⟨0,rfl⟩,(mx c5 c6)⟩) (.leaf ⟨(mn (zbX a0.lo) (zbX a0.hi)),(mx c5 c6)⟩))
theorem zCU (a0:Iv):zQe.run B115 [enc a0] (Iv)=(zku a0).opt:=by kernel_rfl
def zcY:Iv->Iv:=fun a0=>(zku a0).get
theorem zCq (a0:Iv):(zku a0).opt=some (zcY a0):=Tr.zX (by kernel_rfl)
def zkP:Ent Tryz.prog:= .of1 zQe B115 (fun _=>true) zcY fun a0 _=>(zCU a0).trans (zCq a0)
def B137:Bod Tryz.prog:=⟨137,Tryz.f137,Tryz.f137.body.getD .skip,Tryz.func137,by kernel_rfl,by kernel_rfl,zar.no _ _⟩
def zPS:Tb Tryz.prog:= {T:= [Y2,Y32],mix:=mix,Es:= [zkP,za6,zah,zbB,znP,ztC],Bs:= [],d:=1}
def zmp (a0:Iv):Tr (Iv):=
 .br (zab a0) (.leaf zD) (let c3:=zcY a0;.br (zdH c3.lo c3.lo) (let c4:=zew c3.lo c3.lo;.br (zgc c3.hi c3.hi) (let c5:=zhF c3.hi c3.hi;.br c4.b (.leaf (zaN c4.a c5.a c5.b)) (.leaf (zaN c4.a c5.a false))) (.bad)) (.bad))
theorem zCH (a0:Iv):zPS.run B137 [enc a0] (Iv)=(zmp a0).opt:=by kernel_rfl
def zcX:Iv->Iv:=fun a0=>(zmp a0).get
structure zd4 where
 x0:U64
 x1:I64
 x2:I64
 x3:U64
instance:Inhabited zd4:=⟨⟨default,default,default,default⟩⟩
def zFw:St->Option zd4:=fun s=>match s with
 | ⟨[(1,.ptr 0 0),(3,.u64 x0),(4,.i64 x1)],43,⟨[(0,[.i64 x2,.u64 x3])],1,0⟩⟩=>some ⟨x0,x1,x2,x3⟩
 | _=>none
def zcO (x:zd4):Tr (Lp zd4):=
 .br (decide (x.x1.val>=0)) (let c2:=(Rng.w .u64 (zbI .or .u64 x.x0.val (Rng.w .u64 (1*(2^min ((Rng.w .u64 (x.x1.val)).val).toNat 64))).val));let c3:=zfX c2 c2;.br (decide (c3.a.val<(Rng.w .u64 (x.x2.val)).val)) (.leaf (.again ⟨c2,(Rng.w .i64 (x.x1.val-1)),x.x2,x.x3⟩)) (.br (c3.a.val==(Rng.w .u64 (x.x2.val)).val) (.br (decide (c3.b.val<=x.x3.val)) (.leaf (.again ⟨c2,(Rng.w .i64 (x.x1.val-1)),x.x2,x.x3⟩)) (.leaf (.again ⟨x.x0,(Rng.w .i64 (x.x1.val-1)),x.x2,x.x3⟩))) (.leaf (.again ⟨x.x0,(Rng.w .i64 (x.x1.val-1)),x.x2,x.x3⟩)))) (.leaf (.out ⟨x.x0,x.x1,x.x2,x.x3⟩))
def zgC (x:zd4):Bool:=(Lf zcO 66 x).opt.isSome
def zlD (x:zd4):zd4:=(Lf zcO 66 x).get
def zfp (a0:Wide):Tr (U64):=
 .br (zgC ⟨⟨0,rfl⟩,⟨63,rfl⟩,a0.hi,a0.lo⟩) (.leaf (zlD ⟨⟨0,rfl⟩,⟨63,rfl⟩,a0.hi,a0.lo⟩).x0) (.bad)
def zbH:Wide->U64:=fun a0=>(zfp a0).get
def znH:Wide->Bool:=fun a0=>(zfp a0).opt.isSome
def zgu (a0:I64) (a1:I64):Tr (T2 I64 Bool):=
 .br (decide (a0.val<0)) (.leaf ⟨⟨0,rfl⟩,false⟩) (.br (decide (a1.val<0)) (.leaf ⟨⟨0,rfl⟩,false⟩) (let c1:=zfm a0 a1;.br (znH c1) (.leaf ⟨(Rng.w .i64 ((zbH c1).val)),true⟩) (.bad)))
def zgF:I64->I64->T2 I64 Bool:=fun a0 a1=>(zgu a0 a1).get
def zlG:I64->I64->Bool:=fun a0 a1=>(zgu a0 a1).opt.isSome
def zfa (a0:I64):Tr (T2 I64 Bool):=
 .br (!(zaf a0 ⟨0,rfl⟩ ⟨1152921504606846976,rfl⟩)) (.leaf ⟨⟨0,rfl⟩,false⟩) (.br (zlG a0 ⟨4294967296,rfl⟩) (let c2:=zgF a0 ⟨4294967296,rfl⟩;.leaf ⟨c2.a,c2.b⟩) (.bad))
def zdj:I64->T2 I64 Bool:=fun a0=>(zfa a0).get
def zg6:I64->Bool:=fun a0=>(zfa a0).opt.isSome
def zdr (a0:I64):Tr (T2 I64 Bool):=
 .br (zg6 a0) (let c1:=zdj a0;.br (!c1.b) (.leaf ⟨⟨0,rfl⟩,false⟩) (.br ((zaE c1.a c1.a ⟨32,rfl⟩).a.val != a0.val) (.leaf ⟨(Rng.w .i64 (c1.a.val+1)),true⟩) (.br ((Rng.w .i64 (zbI .and .i64 (Rng.w .i64 (c1.a.val*c1.a.val)).val 4294967295)).val != 0) (.leaf ⟨(Rng.w .i64 (c1.a.val+1)),true⟩) (.leaf ⟨c1.a,true⟩)))) (.bad)
def zcP:I64->T2 I64 Bool:=fun a0=>(zdr a0).get
def zlF:I64->Bool:=fun a0=>(zdr a0).opt.isSome
def zld (a0:Iv):Tr (Iv):=
 .br (!(za a0)) (.leaf zh) (.br (decide (a0.lo.val<0)) (.leaf zh) (.br (zg6 a0.lo) (.br (zlF a0.hi) (.leaf (zU (zdj a0.lo).a (zcP a0.hi).a)) (.bad)) (.bad)))
def zaD:Iv->Iv:=fun a0=>(zld a0).get
structure zc4 where
 x0:U64
 x1:I64
 x2:I64
 x3:U64
instance:Inhabited zc4:=⟨⟨default,default,default,default⟩⟩
def zni (x:zc4):St:=⟨[(1,.ptr 0 0),(4,.u64 x.x0),(5,.i64 x.x1)],46,⟨[(0,[.i64 x.x2,.u64 x.x3])],1,0⟩⟩
def znm:St->Option zc4:=fun s=>match s with
 | ⟨[(1,.ptr 0 0),(4,.u64 x0),(5,.i64 x1)],46,⟨[(0,[.i64 x2,.u64 x3])],1,0⟩⟩=>some ⟨x0,x1,x2,x3⟩
 | _=>none
def zeC (x:zc4):Tr (Lp zc4):=
 .br (decide (x.x1.val>=0)) (.br (decide (x.x1.val<0)) (.bad) (let c2:=(Rng.w .u64 (zbI .or .u64 x.x0.val (Rng.w .u64 (1*(2^min (x.x1.val).toNat 64))).val));let c3:=zeE c2 c2;.br (decide (c3.a.val<(Rng.w .u64 (x.x2.val)).val)) (.leaf (.again ⟨c2,(Rng.w .i64 (x.x1.val-1)),x.x2,x.x3⟩)) (.br (c3.a.val==(Rng.w .u64 (x.x2.val)).val) (.br (decide (c3.b.val<=x.x3.val)) (.leaf (.again ⟨c2,(Rng.w .i64 (x.x1.val-1)),x.x2,x.x3⟩)) (.leaf (.again ⟨x.x0,(Rng.w .i64 (x.x1.val-1)),x.x2,x.x3⟩))) (.leaf (.again ⟨x.x0,(Rng.w .i64 (x.x1.val-1)),x.x2,x.x3⟩))))) (.leaf (.out ⟨x.x0,x.x1,x.x2,x.x3⟩))
def zid (x:zc4):Bool:=(Lf zeC 66 x).opt.isSome
def zkA (x:zc4):zc4:=(Lf zeC 66 x).get
def zra:Tb Tryz.prog:= {T:= [Y2,Y109,Y118],mix:=mix,Es:= [zoa],Bs:= [],d:=1}
def zkz:LpF:=zvO [1,4,5] [0] 1 znm zni (.exit 0) zid zkA
theorem zq1:zkp Tryz.prog (zo2 (Tryz.f230.body.getD .skip) 0) zkz:=zl4 (t:=zra) (lt:=fun _=>none) (body:=zeC) (n:=66) (by intro h;cases h) (fun _ _ _ h=>by cases h)
 (by intro s x h;unfold znm at h;split at h<;>cases h;rfl) (fun x b cs h=>zvP (l:=(zni x).mm.blks) (by kernel_rfl) h) (by intro x;kernel_rfl) (fun x h=>Tr.get_some h)
def B230:Bod Tryz.prog:=⟨230,Tryz.f230,Tryz.f230.body.getD .skip,Tryz.func230,by kernel_rfl,by kernel_rfl,⟨ltOf [(5,zkz)],zar.of (ks:= [5]) (by kernel_rfl) (by
 intro i k h f hf
 match i,h with
 | 0,h=>cases h;obtain rfl:zkz=f:=Option.some.inj hf;exact zq1
 | n+1,h=>simp at h)⟩⟩
def zPf:Tb Tryz.prog:= {T:= [Y2,Y109,Y118],mix:=mix,Es:= [],Bs:= [],d:=1}
def zhq (a0:Wide):Tr (T2 U64 Bool):=
 .br (decide (a0.hi.val<0)) (.leaf ⟨⟨0,rfl⟩,false⟩) (.br (zid ⟨⟨0,rfl⟩,⟨63,rfl⟩,a0.hi,a0.lo⟩) (.leaf ⟨(zkA ⟨⟨0,rfl⟩,⟨63,rfl⟩,a0.hi,a0.lo⟩).x0,true⟩) (.bad))
theorem zvk (a0:Wide):zPf.run B230 [enc a0] (T2 U64 Bool)=(zhq a0).opt:=by kernel_rfl
def zj9:Wide->T2 U64 Bool:=fun a0=>(zhq a0).get
def zj1:Wide->Bool:=fun a0=>(zhq a0).opt.isSome
def zwr:Ent Tryz.prog:= .of1 zPf B230 zj1 zj9 fun a0 h=>(zvk a0).trans (Tr.get_some h)
def B249:Bod Tryz.prog:=⟨249,Tryz.f249,Tryz.f249.body.getD .skip,Tryz.func249,by kernel_rfl,by kernel_rfl,zar.no _ _⟩
def zMZ:Tb Tryz.prog:= {T:= [Y2,Y109],mix:=mix,Es:= [zgW,zwr],Bs:= [],d:=1}
def zeZ (a0:I64) (a1:I64):Tr (T2 I64 Bool):=
 .br (decide (a0.val<0)) (.leaf ⟨⟨0,rfl⟩,false⟩) (.br (decide (a1.val<0)) (.leaf ⟨⟨0,rfl⟩,false⟩) (let c1:=zco a0 a1;.br (zj1 c1) (let c2:=zj9 c1;.leaf ⟨(Rng.w .i64 (c2.a.val)),c2.b⟩) (.bad)))
theorem zo0 (a0:I64) (a1:I64):zMZ.run B249 [enc a0,enc a1] (T2 I64 Bool)=(zeZ a0 a1).opt:=by kernel_rfl
def zd6:I64->I64->T2 I64 Bool:=fun a0 a1=>(zeZ a0 a1).get
def zi2:I64->I64->Bool:=fun a0 a1=>(zeZ a0 a1).opt.isSome
def zt7:Ent Tryz.prog:= .of2 zMZ B249 zi2 zd6 fun a0 a1 h=>(zo0 a0 a1).trans (Tr.get_some h)
def B206:Bod Tryz.prog:=⟨206,Tryz.f206,Tryz.f206.body.getD .skip,Tryz.func206,by kernel_rfl,by kernel_rfl,zar.no _ _⟩
def zPl:Tb Tryz.prog:= {T:= [],mix:=mix,Es:= [zd0,zjs,zt7],Bs:= [],d:=1}
def zfN (a0:I64):Tr (T2 I64 Bool):=
 .br (!(za2 a0)) (.leaf ⟨⟨0,rfl⟩,false⟩) (.br (zi2 a0 ⟨4294967296,rfl⟩) (let c2:=zd6 a0 ⟨4294967296,rfl⟩;let c3:=zc8 c2.a c2.b;.leaf ⟨c3.a,c3.b⟩) (.bad))
theorem zvm (a0:I64):zPl.run B206 [enc a0] (T2 I64 Bool)=(zfN a0).opt:=by kernel_rfl
def zf1:I64->T2 I64 Bool:=fun a0=>(zfN a0).get
def zhB:I64->Bool:=fun a0=>(zfN a0).opt.isSome
def zpV:Ent Tryz.prog:= .of1 zPl B206 zhB zf1 fun a0 h=>(zvm a0).trans (Tr.get_some h)
def B207:Bod Tryz.prog:=⟨207,Tryz.f207,Tryz.f207.body.getD .skip,Tryz.func207,by kernel_rfl,by kernel_rfl,zar.no _ _⟩
def zPk:Tb Tryz.prog:= {T:= [Y2,Y109,Y118],mix:=mix,Es:= [zpV,zgW,zjs],Bs:= [],d:=1}
def zgi (a0:I64):Tr (T2 I64 Bool):=
 .br (zhB a0) (let c1:=zf1 a0;.br c1.b (let c2:=zco c1.a c1.a;let c3:=zco a0 ⟨4294967296,rfl⟩;.br (!((c2.hi.val==c3.hi.val)&&((c2.lo.val==c3.lo.val)&&true))) (let c6:=zc8 (Rng.w .i64 (c1.a.val+1)) c1.b;.leaf ⟨c6.a,c6.b⟩) (let c7:=zc8 c1.a c1.b;.leaf ⟨c7.a,c7.b⟩)) (let c8:=zc8 c1.a c1.b;.leaf ⟨c8.a,c8.b⟩)) (.bad)
theorem zzr (a0:I64):zPk.run B207 [enc a0] (T2 I64 Bool)=(zgi a0).opt:=by kernel_rfl
def zik:I64->T2 I64 Bool:=fun a0=>(zgi a0).get
def zl7:I64->Bool:=fun a0=>(zgi a0).opt.isSome
def zAd:Ent Tryz.prog:= .of1 zPk B207 zl7 zik fun a0 h=>(zzr a0).trans (Tr.get_some h)
def B135:Bod Tryz.prog:=⟨135,Tryz.f135,Tryz.f135.body.getD .skip,Tryz.func135,by kernel_rfl,by kernel_rfl,zar.no _ _⟩
def zPU:Tb Tryz.prog:= {T:= [Y2,Y32],mix:=mix,Es:= [za6,zah,zbB,zpV,zAd],Bs:= [],d:=1}
def zlf (a0:Iv):Tr (Iv):=
 .br (zab a0) (.leaf zD) (.br (decide (a0.lo.val<0)) (.leaf zD) (.br (zhB a0.lo) (let c4:=zf1 a0.lo;.br (zl7 a0.hi) (let c5:=zik a0.hi;.br c4.b (.leaf (zaN c4.a c5.a c5.b)) (.leaf (zaN c4.a c5.a false))) (.bad)) (.bad)))
theorem zA7 (a0:Iv):zPU.run B135 [enc a0] (Iv)=(zlf a0).opt:=by kernel_rfl
def zev:Iv->Iv:=fun a0=>(zlf a0).get
end
end Go.Proofs.YtaoakfodkoifoaaGreat.Ev
namespace Go.Proofs.YtaoakfodkoifoaaGreat.Ev
open Go
theorem or_zero (x:U64):(Rng.w .u64 (zbI .or .u64 x.val 0)).val=x.val:=by
 have b:=x.ubd
 rw [zx1 0 x.val.toNat (by simp;omega) (by omega) (by decide) (by omega)]
 rw [wu (by omega) (by omega)];omega
theorem zDY (w:Wide) (n:I64) (h:0<=n.val/\n.val<=127):(zgw w n).opt=some (zdU w n):=by
 have hw:zas n ⟨0,rfl⟩ ⟨127,rfl⟩=true:=by rw [zbN];simpa using h
 have en:(Rng.w .u64 n.val).val=n.val:=wu (by omega) (by omega)
 simp only [zgw,Tr.opt,hw,Bool.not_true,cond_false,zdU,zhj,Tr.get,en]
 by_cases h64:n.val>=64
 ·have e0:(n.val==0)=false:=by simp;omega
  have e1:decide (n.val<64)=false:=by simp;omega
  have e2:(Rng.w .i64 (n.val-64)).val=n.val-64:=wi (by omega) (by omega)
  have e3:decide ((Rng.w .i64 (n.val-64)).val<0)=false:=by rw [e2];simp;omega
  have e4:(Rng.w .u64 (Rng.w .i64 (n.val-64)).val).val=(Rng.w .i64 (n.val-64)).val:=by rw [e2];exact wu (by omega) (by omega)
  simp only [h64,decide_true,cond_true,e0,e1,e3,cond_false,e4]
 ·have e1:decide (n.val<64)=true:=by simp;omega
  have e2:decide (n.val<0)=false:=by simp;omega
  have e3:(Rng.w .i64 (64-n.val)).val=64-n.val:=wi (by omega) (by omega)
  have e4:decide ((Rng.w .i64 (64-n.val)).val<0)=false:=by rw [e3];simp;omega
  have e5:(Rng.w .u64 (Rng.w .i64 (64-n.val)).val).val=(Rng.w .i64 (64-n.val)).val:=by rw [e3];exact wu (by omega) (by omega)
  simp only [h64,decide_false,cond_false,e1,e2,e4,e5,cond_true]
  by_cases h0:n.val=0
  ·have e0:(n.val==0)=true:=by simp [h0]
   simp only [e0,cond_true]
   rw [h0]
   congr 1
   apply zDR
   have bl:=w.lo.ubd
   have k1:min (Int.toNat 0) 64=0:=by rfl
   have k2:min (Rng.w .i64 (64-0)).val.toNat 64=64:=by rfl
   have k3:(2:Int)^64=18446744073709551616:=by decide
   have k4:(Rng.w .u64 (w.lo.val.fdiv (2^0)))=w.lo:=by rw [show (2:Int)^0=1 by rfl,Int.fdiv_one];exact Rng.w_val _
   have k5:(Rng.w .u64 ((Rng.w .u64 w.hi.val).val*18446744073709551616)).val=0:=by rw [zbC];omega
   have k6:Rng.w .i64 (w.hi.val.fdiv (2^0))=w.hi:=by rw [show (2:Int)^0=1 by rfl,Int.fdiv_one];exact Rng.w_val _
   simp only [k1,k2,k3,k4,k5,k6,wv,or_zero]
  ·have e0:(n.val==0)=false:=by simp [h0]
   simp only [e0,cond_false]
theorem zLy (w:Wide) (n:I64) (h:0<=n.val/\n.val<=127):zlI w n=zdU w n:=Tr.zai (zDY w n h)
theorem zLx (w:Wide) (n:I64) (h:0<=n.val/\n.val<=127):zi1 w n=true:=by unfold zi1;rw [zDY w n h];rfl
theorem zqZ (a b n:I64):(zfP a b n).opt=some (zaE a b n):=by
 simp only [zfP,Tr.opt,zaE,zhm,Tr.get,zbN,zdp,zl3,zrL,zzK,zzJ]
 by_cases h:0<=n.val/\n.val<=126
 ·have h':0<=n.val/\n.val<=127:=by omega
  simp only [h,and_self,decide_true,Bool.not_true,cond_false,zLy _ _ h',zLx _ _ h',cond_true]
 ·simp only [h,decide_false,Bool.not_false,cond_true]
theorem zsO (a b n:I64):zci a b n=zaE a b n:=Tr.zai (zqZ a b n)
theorem zFI (a b n:I64):zj2 a b n=true:=by unfold zj2;rw [zqZ];rfl
theorem znp (a:I64):za2 a=zJ a:=by
 simp only [za2,zhr,zJ,zhg,Tr.get,zbN,zdp]
theorem zx5 (a b:I64):(ziE a b).opt=some (zW a b):=by
 simp only [ziE,Tr.opt,zW,zez,Tr.get,znp,zsO,zFI,ztw,cond_true]
 cases zJ a<;>cases zJ b<;>rfl
theorem zvF (a b:I64):zew a b=zW a b:=Tr.zai (zx5 a b)
theorem zvE (a b:I64):zdH a b=true:=by unfold zdH;rw [zx5];rfl
theorem zlp (a:I64) (b:Bool):zaJ a b=⟨⟨0,rfl⟩,false⟩\/(zaJ a b=⟨a,true⟩/\zJ a=true):=by
 simp only [zaJ,zei,Tr.get]
 cases b
 ·left;rfl
 ·cases h:zJ a
  ·left;rfl
  ·right;exact ⟨rfl,rfl⟩
theorem zgl (a b:I64):zW a b=⟨⟨0,rfl⟩,false⟩\/∃c,zW a b=⟨c,true⟩/\zJ c=true:=by
 simp only [zW,zez,Tr.get]
 cases zJ a
 ·left;rfl
 ·cases zJ b
  ·left;rfl
  ·simp only [Bool.not_true,cond_false]
   rcases zlp (zaE a b ⟨32,rfl⟩).a (zaE a b ⟨32,rfl⟩).b with h|⟨h,k⟩
   ·left;rw [h]
   ·right;exact ⟨_,h,k⟩
theorem zCY (a b:I64) (h:zJ b=false):zW a b=⟨⟨0,rfl⟩,false⟩:=by
 simp only [zW,zez,Tr.get,h]
 cases zJ a<;>rfl
theorem zEl (a b:I64):(zlg a b).opt=some (zau a b):=by
 simp only [zlg,Tr.opt,zau,zhh,Tr.get,znp,zvF,zvE,cond_true]
 cases zJ a
 ·rfl
 ·simp only [Bool.not_true,cond_false]
  cases hb:zJ b
  ·rw [zCY _ _ hb];rfl
  ·simp only [Bool.not_true,cond_false]
   rcases zgl (.w .i64 (0-a.val)) b with h|⟨c,h,_⟩<;>rw [h]<;>rfl
theorem zHf (a b:I64):zhF a b=zau a b:=Tr.zai (zEl a b)
theorem zHe (a b:I64):zgc a b=true:=by unfold zgc;rw [zEl];rfl
theorem zBK (a b:I64):zdJ a b=zO a b:=by
 simp only [zdJ,zk3,zO,zbO,Tr.get,znp,zrN,zeL,ztw]
 cases zJ a
 ·rfl
 ·cases zJ b
  ·rfl
  ·simp only [Bool.not_true,cond_false]
   by_cases h0:b.val=0
   ·have e0:(b.val==0)=true:=by simp [h0]
    have e1:decide (b.val<0)=false:=by simp [h0]
    simp only [e0,e1,cond_true,cond_false,MD]
    rw [if_neg (by omega)]
    simp only [zye]
   ·have e0:(b.val==0)=false:=by simp [h0]
    simp only [e0,cond_false]
theorem zgm (a b:I64):zO a b=⟨⟨0,rfl⟩,false⟩\/∃c,zO a b=⟨c,true⟩/\zJ c=true:=by
 simp only [zO,zbO,Tr.get,zeL]
 cases zJ a
 ·left;rfl
 ·cases zJ b
  ·left;rfl
  ·simp only [Bool.not_true,cond_false]
   cases (b.val==0)
   ·simp only [cond_false]
    cases decide (b.val<0)
    ·simp only [cond_false]
     rcases zlp (MD a ⟨4294967296,rfl⟩ b).a (MD a ⟨4294967296,rfl⟩ b).b with h|⟨h,k⟩
     ·left;rw [h]
     ·right;exact ⟨_,h,k⟩
    ·simp only [cond_true]
     rcases zlp (MD (.w .i64 (0-a.val)) ⟨4294967296,rfl⟩ (.w .i64 (0-b.val))).a (MD (.w .i64 (0-a.val)) ⟨4294967296,rfl⟩ (.w .i64 (0-b.val))).b with h|⟨h,k⟩
     ·left;rw [h]
     ·right;exact ⟨_,h,k⟩
   ·left;rfl
theorem zDw (a b:I64) (h:zJ b=false):zO a b=⟨⟨0,rfl⟩,false⟩:=by
 simp only [zO,zbO,Tr.get,h]
 cases zJ a<;>rfl
theorem zMF (a b:I64):zgg a b=z8 a b:=by
 simp only [zgg,zne,z8,zdK,Tr.get,znp,zBK]
 cases zJ a
 ·rfl
 ·simp only [Bool.not_true,cond_false]
  cases hb:zJ b
  ·rw [zDw _ _ hb];rfl
  ·rfl
theorem min_eq (a b:I64):mn a b=zC a b:=by
 simp only [mn,zC,zhP,Tr.get]
 by_cases h:b.val<a.val
 ·have:decide (a.val<b.val)=false:=by simp;omega
  simp only [h,decide_true,cond_true,this,cond_false]
 ·by_cases h':a.val<b.val
  ·simp only [h,h',decide_true,decide_false,cond_true,cond_false]
  ·simp only [h,h',decide_false,cond_false];exact rext (by omega)
theorem max_eq (a b:I64):mx a b=zt a b:=by
 simp only [mx,zt,zhQ,Tr.get]
 by_cases h:b.val>a.val
 ·have:decide (a.val>b.val)=false:=by simp;omega
  simp only [h,decide_true,cond_true,this,cond_false]
 ·by_cases h':a.val>b.val
  ·simp only [h,h',decide_true,decide_false,cond_true,cond_false]
  ·simp only [h,h',decide_false,cond_false];exact rext (by omega)
theorem zqY {a:I64} (h:zJ a=true): -1152921504606846976<=a.val/\a.val<=1152921504606846976:=by
 simpa [zJ,zhg,Tr.get,zdp] using h
theorem zHk {a:I64} (h:zJ a=true):zC ⟨1152921504606846976,rfl⟩ a=a:=by
 have:=zqY h
 simp only [zC,zhP,Tr.get]
 by_cases h:(1152921504606846976:Int)<a.val
 ·omega
 ·simp only [h,decide_false,cond_false]
theorem zHq {a:I64} (h:zJ a=true):zt ⟨-1152921504606846976,rfl⟩ a=a:=by
 have:=zqY h
 simp only [zt,zhQ,Tr.get]
 by_cases h:(-1152921504606846976:Int)>a.val
 ·omega
 ·simp only [h,decide_false,cond_false]
theorem min_self (a:I64):zC a a=a:=by
 simp only [zC,zhP,Tr.get];cases decide (a.val<a.val)<;>rfl
theorem max_self (a:I64):zt a a=a:=by
 simp only [zt,zhQ,Tr.get];cases decide (a.val>a.val)<;>rfl
theorem zjS (a b:Iv):zaU a b=(za a&&za b):=by
 simp only [zaU,zhX,Tr.get,valid_eq]
 cases za a<;>rfl
theorem zG5 {c:I64} (h:zJ c=true):zJ (.w .i64 (0-c.val))=true:=by
 have:=zqY h
 simp only [zJ,zhg,Tr.get,zdp]
 rw [wi (by omega) (by omega)]
 simp;omega
theorem zoz (a b:I64):(zau a b).b=false\/∃c,zau a b=⟨c,true⟩/\zJ c=true:=by
 simp only [zau,zhh,Tr.get]
 cases zJ a
 ·left;rfl
 ·rcases zgl (.w .i64 (0-a.val)) b with h|⟨c,h,k⟩
  ·left;rw [h];rfl
  ·right;rw [h];exact ⟨_,rfl,zG5 k⟩
theorem zoE (a b:I64):(z8 a b).b=false\/∃c,z8 a b=⟨c,true⟩/\zJ c=true:=by
 simp only [z8,zdK,Tr.get]
 cases zJ a
 ·left;rfl
 ·rcases zgm (.w .i64 (0-a.val)) b with h|⟨c,h,k⟩
  ·left;rw [h];rfl
  ·right;rw [h];exact ⟨_,rfl,zG5 k⟩
theorem zHh (a b:Iv):(zmq a b).opt=some (zk a b):=by
 simp only [zmq,Tr.opt,zk,zkr,Tr.get,zjS,zvF,zvE,zHf,zHe,cond_true,za1,zc2,min_eq,max_eq]
 cases za a
 ·rfl
 cases za b
 ·rfl
 simp only [Bool.and_self,Bool.not_true,cond_false]
 rcases zgl a.lo b.lo with h|⟨c1,h,k1⟩
 ·rw [h];rfl
 rw [h]
 rcases zoz a.lo b.lo with h|⟨d1,h,l1⟩
 ·simp only [h,Bool.not_true,Bool.not_false,cond_true,cond_false]
 rw [h]
 rcases zgl a.lo b.hi with h|⟨c2,h,k2⟩
 ·rw [h];rfl
 rw [h]
 rcases zoz a.lo b.hi with h|⟨d2,h,l2⟩
 ·simp only [h,Bool.not_true,Bool.not_false,cond_true,cond_false]
 rw [h]
 rcases zgl a.hi b.lo with h|⟨c3,h,k3⟩
 ·rw [h];rfl
 rw [h]
 rcases zoz a.hi b.lo with h|⟨d3,h,l3⟩
 ·simp only [h,Bool.not_true,Bool.not_false,cond_true,cond_false]
 rw [h]
 rcases zgl a.hi b.hi with h|⟨c4,h,k4⟩
 ·rw [h];rfl
 rw [h]
 rcases zoz a.hi b.hi with h|⟨d4,h,l4⟩
 ·simp only [h,Bool.not_true,Bool.not_false,cond_true,cond_false]
 rw [h]
 simp only [Bool.not_true,cond_false,min_self,max_self,zHk k1,zHq l1]
theorem zjm (a b:Iv):zF a b=zk a b:=Tr.zai (zHh a b)
theorem has_eq (a:Iv) (n:I64) (h:za a=true):zfz a n=zaO a n:=by
 simp only [zfz,zmr,zaO,zcc,Tr.get,zab,zeo,valid_eq,h,Bool.not_true,cond_false,zbN,zdp]
theorem zjQ (a b:Iv):zad a b=zo a b:=by
 simp only [zad,zor,zo,zho,Tr.get,zjS,zBK,zMF,za1,zc2,min_eq,max_eq]
 cases ha:za a
 ·rfl
 cases hb:za b
 ·rfl
 simp only [Bool.and_self,Bool.not_true,cond_false,has_eq b _ hb]
 cases zaO b ⟨0,rfl⟩
 case true=>rfl
 simp only [cond_false]
 rcases zgm a.lo b.lo with h|⟨c1,h,k1⟩
 ·rw [h];rfl
 rw [h]
 rcases zoE a.lo b.lo with h|⟨d1,h,l1⟩
 ·simp only [h,Bool.not_true,Bool.not_false,cond_true,cond_false]
 rw [h]
 rcases zgm a.lo b.hi with h|⟨c2,h,k2⟩
 ·rw [h];rfl
 rw [h]
 rcases zoE a.lo b.hi with h|⟨d2,h,l2⟩
 ·simp only [h,Bool.not_true,Bool.not_false,cond_true,cond_false]
 rw [h]
 rcases zgm a.hi b.lo with h|⟨c3,h,k3⟩
 ·rw [h];rfl
 rw [h]
 rcases zoE a.hi b.lo with h|⟨d3,h,l3⟩
 ·simp only [h,Bool.not_true,Bool.not_false,cond_true,cond_false]
 rw [h]
 rcases zgm a.hi b.hi with h|⟨c4,h,k4⟩
 ·rw [h];rfl
 rw [h]
 rcases zoE a.hi b.hi with h|⟨d4,h,l4⟩
 ·simp only [h,Bool.not_true,Bool.not_false,cond_true,cond_false]
 rw [h]
 simp only [Bool.not_true,cond_false,cond_true,min_self,max_self,zHk k1,zHq l1]
theorem zGu (a:Iv):(zmp a).opt=some (zay a):=by
 simp only [zmp,Tr.opt,zay,zkq,Tr.get,zvF,zvE,zHf,zHe,cond_true,za1,zc2,zab,zeo,valid_eq]
 cases h:za a
 ·rfl
 simp only [Bool.not_true,cond_false]
 have e:zcY a=⟨(zK a).a,(zK a).b⟩:=by
  simp only [zcY,zku,zK,zen,Tr.get,zab,zeo,valid_eq,h,Bool.not_true,cond_false,has_eq a _ h,max_eq,min_eq,zbX,zmf]
  cases zaO a ⟨0,rfl⟩<;>rfl
 rw [e]
 cases (zW (zK a).a (zK a).a).b<;>cases (zau (zK a).b (zK a).b).b<;>rfl
theorem zpn (a:Iv):zcX a=zay a:=Tr.zai (zGu a)
theorem zCs (a b n:I64):(zfP a b n).opt=some (zci a b n):=zh4 (zqZ a b n)
theorem zLk (a b:Iv):(zmq a b).opt=some (zF a b):=zh4 (zHh a b)
theorem zLj (a:Iv):(zmp a).opt=some (zcX a):=zh4 (zGu a)
end Go.Proofs.YtaoakfodkoifoaaGreat.Ev
namespace Go.Proofs.YtaoakfodkoifoaaGreat.Ev
open Go
theorem zGH (hi:I64) (lo:U64):∀(k m:Nat) (r:U64) (i:I64),k<=64->i.val=(k:Int)-1->
  ∃q:U64,(Lf zcO (k+1+m) ⟨r,i,hi,lo⟩).opt=some ⟨q,.w .i64 (-1),hi,lo⟩/\(Lf zeC (k+1+m) ⟨r,i,hi,lo⟩).opt=some ⟨q,.w .i64 (-1),hi,lo⟩:=by
 intro k
 induction k with
 | zero=>
  intro m r i _ hi'
  have h0:decide (i.val>=0)=false:=by simp;omega
  have e:i= .w .i64 (-1):=rext (by rw [wi (by omega) (by omega)];omega)
  refine ⟨r,?_,?_⟩
  ·simp only [Lf,zcO,h0,Tr.bind,Tr.opt,cond_false,Nat.zero_add,Nat.add_comm 1 m,<- e]
  ·simp only [Lf,zeC,h0,Tr.bind,Tr.opt,cond_false,Nat.zero_add,Nat.add_comm 1 m,<- e]
 | succ k ih=>
  intro m r i hk hi'
  have h0:decide (i.val>=0)=true:=by simp;omega
  have h1:decide (i.val<0)=false:=by simp;omega
  have en:(Rng.w .u64 i.val).val=i.val:=wu (by omega) (by omega)
  have e1:(Rng.w .i64 (i.val-1)).val=(k:Int)-1:=by rw [wi (by omega) (by omega)];omega
  have hfuel:k+1+1+m=(k+1+m)+1:=by omega
  obtain ⟨q1,a1,b1⟩:=ih m (Rng.w .u64 (zbI .or .u64 r.val (Rng.w .u64 (1*(2^min (i.val).toNat 64))).val)) (.w .i64 (i.val-1)) (by omega) e1
  obtain ⟨q2,a2,b2⟩:=ih m r (.w .i64 (i.val-1)) (by omega) e1
  rw [hfuel]
  simp only [Lf,zcO,zeC,h0,h1,en,zp1,zxS,Tr.bind,Tr.opt,cond_true,cond_false,a1,b1,a2,b2]
  generalize decide ((Rng.w .u64 _).val<_)=c1
  generalize ((Rng.w .u64 _).val==_)=c2
  generalize decide ((Rng.w .u64 _).val<=_)=c3
  cases c1
  ·cases c2
   ·exact ⟨q2,rfl,rfl⟩
   ·cases c3
    ·exact ⟨q2,rfl,rfl⟩
    ·exact ⟨q1,rfl,rfl⟩
  ·exact ⟨q1,rfl,rfl⟩
theorem zCx (w:Wide):(zfp w).opt=some (zbH w)/\(zhq w).opt=some (bif decide (w.hi.val<0) then ⟨⟨0,rfl⟩,false⟩ else ⟨zbH w,true⟩):=by
 obtain ⟨q,h1,h2⟩:=zGH w.hi w.lo 64 1 ⟨0,rfl⟩ ⟨63,rfl⟩ (by omega) (by rfl)
 have hf:(64+1+1:Nat)=66:=rfl
 rw [hf] at h1 h2
 have g1:zgC ⟨⟨0,rfl⟩,⟨63,rfl⟩,w.hi,w.lo⟩=true:=by unfold zgC;rw [h1];rfl
 have g2:zid ⟨⟨0,rfl⟩,⟨63,rfl⟩,w.hi,w.lo⟩=true:=by unfold zid;rw [h2];rfl
 have l1:zlD ⟨⟨0,rfl⟩,⟨63,rfl⟩,w.hi,w.lo⟩=_:=Tr.zai h1
 have l2:zkA ⟨⟨0,rfl⟩,⟨63,rfl⟩,w.hi,w.lo⟩=_:=Tr.zai h2
 have k1:(zfp w).opt=some q:=by simp only [zfp,Tr.opt,g1,l1,cond_true]
 have k2:zbH w=q:=Tr.zai k1
 refine ⟨by rw [k1,k2],?_⟩
 simp only [zhq,Tr.opt,g2,l2,cond_true,k2]
 cases decide (w.hi.val<0)<;>rfl
theorem zKC (w:Wide):znH w=true:=by unfold znH;rw [(zCx w).1];rfl
theorem zGa (w:Wide):zj1 w=true:=by unfold zj1;rw [(zCx w).2];rfl
theorem zFk (a b:I64):(zgu a b).opt=some (zgF a b):=zjO (by
 simp only [zgu,Tr.opt,zKC,cond_true]
 cases decide (a.val<0)<;>cases decide (b.val<0)<;>rfl)
theorem zxR (a b:I64):(zeZ a b).opt=some (zd6 a b):=zjO (by
 simp only [zeZ,Tr.opt,zGa,cond_true]
 cases decide (a.val<0)<;>cases decide (b.val<0)<;>rfl)
theorem zu4 (a b:I64):zlG a b=true:=by unfold zlG;rw [zFk];rfl
theorem zu5 (a b:I64):zi2 a b=true:=by unfold zi2;rw [zxR];rfl
theorem zFl (a:I64):(zfa a).opt=some (zdj a):=zjO (by
 simp only [zfa,Tr.opt,zu4,cond_true]
 cases zaf a ⟨0,rfl⟩ ⟨1152921504606846976,rfl⟩<;>rfl)
theorem zFm (a:I64):(zfN a).opt=some (zf1 a):=zjO (by
 simp only [zfN,Tr.opt,zu5,cond_true]
 cases za2 a<;>rfl)
theorem zmw (a:I64):zg6 a=true:=by unfold zg6;rw [zFl];rfl
theorem zpq (a:I64):zhB a=true:=by unfold zhB;rw [zFm];rfl
theorem zwf {γ:Type} (c:Bool) (x y:Option γ) (hx:x.isSome=true) (hy:y.isSome=true):(bif c then x else y).isSome=true:=by cases c<;>assumption
theorem zFi (a:I64):(zdr a).opt=some (zcP a):=zjO (by
 simp only [zdr,Tr.opt,zmw,cond_true]
 repeat' (first|apply zwf|rfl))
theorem zFj (a:I64):(zgi a).opt=some (zik a):=zjO (by
 simp only [zgi,Tr.opt,zpq,cond_true]
 repeat' (first|apply zwf|rfl))
theorem zAJ (a:I64):zlF a=true:=by unfold zlF;rw [zFi];rfl
theorem zAK (a:I64):zl7 a=true:=by unfold zl7;rw [zFj];rfl
theorem zyS (a:Iv):(zlf a).opt=some (zev a):=zjO (by
 simp only [zlf,Tr.opt,zpq,zAK,cond_true]
 repeat' (first|apply zwf|rfl))
end Go.Proofs.YtaoakfodkoifoaaGreat.Ev
namespace Go.Proofs.YtaoakfodkoifoaaGreat.Ev
open Go Go.RowKit
set_option maxRecDepth 100000
section
variable [Amb]
def ztk:Ent Tryz.prog:= .of2 zMZ B249 (fun _ _=>true) zd6 fun a0 a1 _=>(zo0 a0 a1).trans (zxR a0 a1)
def zin:Ent Tryz.prog:= .of1 zPU B135 (fun _=>true) zev fun a0 _=>(zA7 a0).trans (zyS a0)
def zi4:Ent Tryz.prog:= .of3 zM0 B209 (fun _ _ _=>true) zci fun a0 a1 a2 _=>(zpy a0 a1 a2).trans (zCs a0 a1 a2)
def zbW:Ent Tryz.prog:= .of2 zPY B131 (fun _ _=>true) zF fun a0 a1 _=>(zCK a0 a1).trans (zLk a0 a1)
def zey:Ent Tryz.prog:= .of1 zPS B137 (fun _=>true) zcX fun a0 _=>(zCH a0).trans (zLj a0)
def B70:Bod Tryz.prog:=⟨70,Tryz.f70,Tryz.f70.body.getD .skip,Tryz.func70,by kernel_rfl,by kernel_rfl,zar.no _ _⟩
def zK9:Tb Tryz.prog:= {T:= [Y2,Y32],mix:=mix,Es:= [zpS],Bs:= [],d:=1}
def zd2 (a0:I64):Tr (Iv):=
 .br (a0.val==0) (.leaf ⟨⟨0,rfl⟩,⟨0,rfl⟩⟩) (.br (decide (a0.val<0)) (.bad) (let c2:=zaE a0 ⟨7244019458077122842,rfl⟩ ⟨30,rfl⟩;.leaf ⟨c2.a,(Rng.w .i64 (c2.a.val+1))⟩))
theorem ztN (a0:I64):zK9.run B70 [enc a0] (Iv)=(zd2 a0).opt:=by kernel_rfl
def zcm:I64->Iv:=fun a0=>(zd2 a0).get
def ze3:I64->Bool:=fun a0=>(zd2 a0).opt.isSome
def zt3:Ent Tryz.prog:= .of1 zK9 B70 ze3 zcm fun a0 h=>(ztN a0).trans (Tr.get_some h)
def Tb70:Tb Tryz.prog:= {T:= [Y2,Y32],mix:=mix,Es:= [zt3,zpS],Bs:= [],d:=1}
def zdD (a0:I64):Tr (Iv):=
 .br (a0.val==0) (.leaf ⟨⟨0,rfl⟩,⟨0,rfl⟩⟩) (.br (decide (a0.val<0)) (let c1:=(Rng.w .i64 (0-a0.val));.br (ze3 c1) (let c2:=zcm c1;.leaf ⟨(Rng.w .i64 (0-c2.hi.val)),(Rng.w .i64 (0-c2.lo.val))⟩) (.bad)) (let c5:=zaE a0 ⟨7244019458077122842,rfl⟩ ⟨30,rfl⟩;.leaf ⟨c5.a,(Rng.w .i64 (c5.a.val+1))⟩))
theorem zw2 (a0:I64):Tb70.run B70 [enc a0] (Iv)=(zdD a0).opt:=by kernel_rfl
def zaS:I64->Iv:=fun a0=>(zdD a0).get
def zcl:I64->Bool:=fun a0=>(zdD a0).opt.isSome
def zxC:Ent Tryz.prog:= .of1 Tb70 B70 zcl zaS fun a0 h=>(zw2 a0).trans (Tr.get_some h)
def B20:Bod Tryz.prog:=⟨20,Tryz.f20,Tryz.f20.body.getD .skip,Tryz.func20,by kernel_rfl,by kernel_rfl,zar.no _ _⟩
def Tb20:Tb Tryz.prog:= {T:= [Y2,Y32],mix:=mix,Es:= [zjr,zpR,zxC],Bs:= [],d:=1}
def zhk (a0:I64):Tr (Iv):=
 .br (!(zaf a0 ⟨(-4096),rfl⟩ ⟨4096,rfl⟩)) (.leaf zaW) (.br (zcl a0) (.leaf (zaS a0)) (.bad))
theorem zAZ (a0:I64):Tb20.run B20 [enc a0] (Iv)=(zhk a0).opt:=by kernel_rfl
def zP:I64->Iv:=fun a0=>(zhk a0).get
def B145:Bod Tryz.prog:=⟨145,Tryz.f145,Tryz.f145.body.getD .skip,Tryz.func145,by kernel_rfl,by kernel_rfl,zar.no _ _⟩
def zIO:Tb Tryz.prog:= {T:= [Y2,Y32],mix:=mix,Es:= [za3,zah,zi4],Bs:= [],d:=1}
def zgK (a0:I64):Tr (Iv):=
 .br (!(zas a0 ⟨(-4096),rfl⟩ ⟨4096,rfl⟩)) (.leaf zD) (.br (decide (a0.val<0)) (.bad) (.br (a0.val==0) (.leaf ⟨⟨0,rfl⟩,⟨0,rfl⟩⟩) (let c4:=zci a0 ⟨7244019458077122842,rfl⟩ ⟨30,rfl⟩;.leaf ⟨c4.a,(Rng.w .i64 (c4.a.val+1))⟩)))
theorem zxj (a0:I64):zIO.run B145 [enc a0] (Iv)=(zgK a0).opt:=by kernel_rfl
def znM:I64->Iv:=fun a0=>(zgK a0).get
def zk9:I64->Bool:=fun a0=>(zgK a0).opt.isSome
def zxJ:Ent Tryz.prog:= .of1 zIO B145 zk9 znM fun a0 h=>(zxj a0).trans (Tr.get_some h)
def zPK:Tb Tryz.prog:= {T:= [Y2,Y32],mix:=mix,Es:= [za3,zah,zxJ,zhM,zi4],Bs:= [],d:=1}
def zf8 (a0:I64):Tr (Iv):=
 .br (!(zas a0 ⟨(-4096),rfl⟩ ⟨4096,rfl⟩)) (.leaf zD) (.br (decide (a0.val<0)) (let c3:=(Rng.w .i64 (0-a0.val));.br (zk9 c3) (.leaf (zdB (znM c3))) (.bad)) (.br (a0.val==0) (.leaf ⟨⟨0,rfl⟩,⟨0,rfl⟩⟩) (let c6:=zci a0 ⟨7244019458077122842,rfl⟩ ⟨30,rfl⟩;.leaf ⟨c6.a,(Rng.w .i64 (c6.a.val+1))⟩)))
theorem zA6 (a0:I64):zPK.run B145 [enc a0] (Iv)=(zf8 a0).opt:=by kernel_rfl
def za4:I64->Iv:=fun a0=>(zf8 a0).get
def zhe (a0:I64):Tr (Bool):=
 .leaf (zaf a0 ⟨(-1099511627776),rfl⟩ ⟨1099511627776,rfl⟩)
def za9:I64->Bool:=fun a0=>(zhe a0).get
def zjA (a0:I64) (a1:I64):Tr (I64):=
 .br (a1.val==0) (.bad) (let c1:=(Rng.w .i64 (a0.val.tdiv a1.val));.br (a1.val==0) (.bad) (.br (decide ((Rng.w .i64 (a0.val.tmod a1.val)).val<0)) (.leaf (Rng.w .i64 (c1.val-1))) (.leaf c1)))
def zmO:I64->I64->I64:=fun a0 a1=>(zjA a0 a1).get
def zmN:I64->I64->Bool:=fun a0 a1=>(zjA a0 a1).opt.isSome
def ziR (a0:I64):Tr (I64):=
 .br (!(za9 a0)) (.leaf ⟨0,rfl⟩) (let c2:=(Rng.w .i64 (a0.val+3373259426));.br (zmN c2 ⟨6746518852,rfl⟩) (.leaf (zmO c2 ⟨6746518852,rfl⟩)) (.bad))
def zY:I64->I64:=fun a0=>(ziR a0).get
def B280:Bod Tryz.prog:=⟨280,Tryz.f280,Tryz.f280.body.getD .skip,Tryz.func280,by kernel_rfl,by kernel_rfl,zar.no _ _⟩
def zOK:Tb Tryz.prog:= {T:= [],mix:=mix,Es:= [za3],Bs:= [],d:=1}
def zkV (a0:I64):Tr (Bool):=
 .leaf (zas a0 ⟨(-1099511627776),rfl⟩ ⟨1099511627776,rfl⟩)
theorem zxc (a0:I64):zOK.run B280 [enc a0] (Bool)=(zkV a0).opt:=by kernel_rfl
def zeu:I64->Bool:=fun a0=>(zkV a0).get
theorem zwO (a0:I64):(zkV a0).opt=some (zeu a0):=Tr.zX (by kernel_rfl)
def znN:Ent Tryz.prog:= .of1 zOK B280 (fun _=>true) zeu fun a0 _=>(zxc a0).trans (zwO a0)
def B281:Bod Tryz.prog:=⟨281,Tryz.f281,Tryz.f281.body.getD .skip,Tryz.func281,by kernel_rfl,by kernel_rfl,zar.no _ _⟩
def zOJ:Tb Tryz.prog:= {T:= [],mix:=mix,Es:= [znN],Bs:= [],d:=1}
def ze0 (a0:I64):Tr (I64):=
 .br (!(zeu a0)) (.leaf ⟨0,rfl⟩) (let c3:=(Rng.w .i64 ((Rng.w .i64 (a0.val+3373259426)).val.tdiv 6746518852));.br (decide ((Rng.w .i64 (c3.val*6746518852)).val>(Rng.w .i64 (a0.val+3373259426)).val)) (.leaf (Rng.w .i64 (c3.val-1))) (.leaf c3))
theorem ztW (a0:I64):zOJ.run B281 [enc a0] (I64)=(ze0 a0).opt:=by kernel_rfl
def zcq:I64->I64:=fun a0=>(ze0 a0).get
theorem ztJ (a0:I64):(ze0 a0).opt=some (zcq a0):=Tr.zX (by kernel_rfl)
def zo6:Ent Tryz.prog:= .of1 zOJ B281 (fun _=>true) zcq fun a0 _=>(ztW a0).trans (ztJ a0)
def B71:Bod Tryz.prog:=⟨71,Tryz.f71,Tryz.f71.body.getD .skip,Tryz.func71,by kernel_rfl,by kernel_rfl,zar.no _ _⟩
def Tb71:Tb Tryz.prog:= {T:= [Y2,Y32],mix:=mix,Es:= [zjq,zhJ,zr8,zr9],Bs:= [],d:=1}
def zbJ (a0:Iv) (a1:Iv):Tr (T2 Iv Bool):=
 .br (!(za a0)) (.br (!(za a1)) (.leaf ⟨zh,true⟩) (.br (!(za a0)) (.leaf ⟨a1,true⟩) (.br (!(za a1)) (.leaf ⟨a0,true⟩) (let c6:=zt a0.lo a1.lo;let c7:=zC a0.hi a1.hi;.br (decide (c6.val>c7.val)) (.leaf ⟨⟨⟨0,rfl⟩,⟨0,rfl⟩⟩,false⟩) (.leaf ⟨⟨c6,c7⟩,true⟩))))) (.br (!(za a0)) (.leaf ⟨a1,true⟩) (.br (!(za a1)) (.leaf ⟨a0,true⟩) (let c11:=zt a0.lo a1.lo;let c12:=zC a0.hi a1.hi;.br (decide (c11.val>c12.val)) (.leaf ⟨⟨⟨0,rfl⟩,⟨0,rfl⟩⟩,false⟩) (.leaf ⟨⟨c11,c12⟩,true⟩))))
theorem zA0 (a0:Iv) (a1:Iv):Tb71.run B71 [enc a0,enc a1] (T2 Iv Bool)=(zbJ a0 a1).opt:=by kernel_rfl
def zZ:Iv->Iv->T2 Iv Bool:=fun a0 a1=>(zbJ a0 a1).get
theorem zAr (a0:Iv) (a1:Iv):(zbJ a0 a1).opt=some (zZ a0 a1):=Tr.zX (by kernel_rfl)
def zBX:Ent Tryz.prog:= .of2 Tb71 B71 (fun _ _=>true) zZ fun a0 a1 _=>(zA0 a0 a1).trans (zAr a0 a1)
def B22:Bod Tryz.prog:=⟨22,Tryz.f22,Tryz.f22.body.getD .skip,Tryz.func22,by kernel_rfl,by kernel_rfl,zar.no _ _⟩
def Tb22:Tb Tryz.prog:= {T:= [Y2,Y32],mix:=mix,Es:= [zBX],Bs:= [],d:=1}
def zfL (a0:Iv) (a1:Iv):Tr (Bool):=
 .leaf (zZ a0 a1).b
theorem zvf (a0:Iv) (a1:Iv):Tb22.run B22 [enc a0,enc a1] (Bool)=(zfL a0 a1).opt:=by kernel_rfl
def zaR:Iv->Iv->Bool:=fun a0 a1=>(zfL a0 a1).get
theorem zuG (a0:Iv) (a1:Iv):(zfL a0 a1).opt=some (zaR a0 a1):=Tr.zX (by kernel_rfl)
def zwo:Ent Tryz.prog:= .of2 Tb22 B22 (fun _ _=>true) zaR fun a0 a1 _=>(zvf a0 a1).trans (zuG a0 a1)
def B122:Bod Tryz.prog:=⟨122,Tryz.f122,Tryz.f122.body.getD .skip,Tryz.func122,by kernel_rfl,by kernel_rfl,zar.no _ _⟩
def zP7:Tb Tryz.prog:= {T:= [Y2,Y32],mix:=mix,Es:= [za6,zah],Bs:= [],d:=1}
def zna (a0:Iv) (a1:Iv):Tr (T2 Iv Bool):=
 .br (zab a0) (.br (zab a1) (.leaf ⟨zD,true⟩) (.br (zab a0) (.leaf ⟨a1,true⟩) (.br (zab a1) (.leaf ⟨a0,true⟩) (.br (decide ((mx a0.lo a1.lo).val>(mn a0.hi a1.hi).val)) (.leaf ⟨⟨⟨0,rfl⟩,⟨0,rfl⟩⟩,false⟩) (.leaf ⟨⟨(mx a0.lo a1.lo),(mn a0.hi a1.hi)⟩,true⟩))))) (.br (zab a0) (.leaf ⟨a1,true⟩) (.br (zab a1) (.leaf ⟨a0,true⟩) (.br (decide ((mx a0.lo a1.lo).val>(mn a0.hi a1.hi).val)) (.leaf ⟨⟨⟨0,rfl⟩,⟨0,rfl⟩⟩,false⟩) (.leaf ⟨⟨(mx a0.lo a1.lo),(mn a0.hi a1.hi)⟩,true⟩))))
theorem zBb (a0:Iv) (a1:Iv):zP7.run B122 [enc a0,enc a1] (T2 Iv Bool)=(zna a0 a1).opt:=by kernel_rfl
def zda:Iv->Iv->T2 Iv Bool:=fun a0 a1=>(zna a0 a1).get
theorem zAz (a0:Iv) (a1:Iv):(zna a0 a1).opt=some (zda a0 a1):=Tr.zX (by kernel_rfl)
def zjt:Ent Tryz.prog:= .of2 zP7 B122 (fun _ _=>true) zda fun a0 a1 _=>(zBb a0 a1).trans (zAz a0 a1)
def B285:Bod Tryz.prog:=⟨285,Tryz.f285,Tryz.f285.body.getD .skip,Tryz.func285,by kernel_rfl,by kernel_rfl,zar.no _ _⟩
def zOF:Tb Tryz.prog:= {T:= [Y2,Y32],mix:=mix,Es:= [zjt],Bs:= [],d:=1}
def zjG (a0:Iv) (a1:Iv):Tr (Bool):=
 .leaf (zda a0 a1).b
theorem zvo (a0:Iv) (a1:Iv):zOF.run B285 [enc a0,enc a1] (Bool)=(zjG a0 a1).opt:=by kernel_rfl
def zdZ:Iv->Iv->Bool:=fun a0 a1=>(zjG a0 a1).get
theorem zuM (a0:Iv) (a1:Iv):(zjG a0 a1).opt=some (zdZ a0 a1):=Tr.zX (by kernel_rfl)
def zws:Ent Tryz.prog:= .of2 zOF B285 (fun _ _=>true) zdZ fun a0 a1 _=>(zvo a0 a1).trans (zuM a0 a1)
def B16:Bod Tryz.prog:=⟨16,Tryz.f16,Tryz.f16.body.getD .skip,Tryz.func16,by kernel_rfl,by kernel_rfl,zar.no _ _⟩
def Tb16:Tb Tryz.prog:= {T:= [Y2,Y32],mix:=mix,Es:= [zjq],Bs:= [],d:=1}
def zde (a0:Iv) (a1:Iv):Tr (Bool):=
 .br (!(za a1)) (.leaf true) (.br (za a0) (.br (decide (a1.lo.val<=a0.lo.val)) (.leaf (decide (a0.hi.val<=a1.hi.val))) (.leaf false)) (.leaf false))
theorem zw7 (a0:Iv) (a1:Iv):Tb16.run B16 [enc a0,enc a1] (Bool)=(zde a0 a1).opt:=by kernel_rfl
def zal:Iv->Iv->Bool:=fun a0 a1=>(zde a0 a1).get
theorem zwK (a0:Iv) (a1:Iv):(zde a0 a1).opt=some (zal a0 a1):=Tr.zX (by kernel_rfl)
def zxG:Ent Tryz.prog:= .of2 Tb16 B16 (fun _ _=>true) zal fun a0 a1 _=>(zw7 a0 a1).trans (zwK a0 a1)
def B313:Bod Tryz.prog:=⟨313,Tryz.f313,Tryz.f313.body.getD .skip,Tryz.func313,by kernel_rfl,by kernel_rfl,zar.no _ _⟩
def zOu:Tb Tryz.prog:= {T:= [Y2,Y32],mix:=mix,Es:= [za6],Bs:= [],d:=1}
def zk1 (a0:Iv) (a1:Iv):Tr (Bool):=
 .br (zab a0) (.leaf (zab a1)) (.br (zab a1) (.leaf (zab a1)) (.br (decide (a1.lo.val<=a0.lo.val)) (.leaf (decide (a0.hi.val<=a1.hi.val))) (.leaf false)))
theorem zxp (a0:Iv) (a1:Iv):zOu.run B313 [enc a0,enc a1] (Bool)=(zk1 a0 a1).opt:=by kernel_rfl
def zfy:Iv->Iv->Bool:=fun a0 a1=>(zk1 a0 a1).get
theorem zwW (a0:Iv) (a1:Iv):(zk1 a0 a1).opt=some (zfy a0 a1):=Tr.zX (by kernel_rfl)
def znQ:Ent Tryz.prog:= .of2 zOu B313 (fun _ _=>true) zfy fun a0 a1 _=>(zxp a0 a1).trans (zwW a0 a1)
def zhn (a0:Iv) (a1:Iv):Tr (Iv):=
 .br (!(za a0)) (.leaf zh) (.br (!(za a1)) (.leaf zh) (.leaf (zU (zC a0.lo a1.lo) (zt a0.hi a1.hi))))
def zN:Iv->Iv->Iv:=fun a0 a1=>(zhn a0 a1).get
def B118:Bod Tryz.prog:=⟨118,Tryz.f118,Tryz.f118.body.getD .skip,Tryz.func118,by kernel_rfl,by kernel_rfl,zar.no _ _⟩
def zQb:Tb Tryz.prog:= {T:= [Y2,Y32],mix:=mix,Es:= [zah,zbl],Bs:= [],d:=1}
def znc (a0:Iv) (a1:Iv):Tr (Iv):=
 .br (!(zaU a0 a1)) (.leaf zD) (.leaf ⟨(mn a0.lo a1.lo),(mx a0.hi a1.hi)⟩)
theorem zBe (a0:Iv) (a1:Iv):zQb.run B118 [enc a0,enc a1] (Iv)=(znc a0 a1).opt:=by kernel_rfl
def zaG:Iv->Iv->Iv:=fun a0 a1=>(znc a0 a1).get
theorem zAB (a0:Iv) (a1:Iv):(znc a0 a1).opt=some (zaG a0 a1):=Tr.zX (by kernel_rfl)
def zju:Ent Tryz.prog:= .of2 zQb B118 (fun _ _=>true) zaG fun a0 a1 _=>(zBe a0 a1).trans (zAB a0 a1)
def zd3 (a0:Iv) (a1:Iv):Tr (Iv):=
 .br (!(za a0)) (.leaf zh) (.br (!(za a1)) (.leaf zh) (.leaf (zU (Rng.w .i64 (a0.lo.val+a1.lo.val)) (Rng.w .i64 (a0.hi.val+a1.hi.val)))))
def zq:Iv->Iv->Iv:=fun a0 a1=>(zd3 a0 a1).get
def B79:Bod Tryz.prog:=⟨79,Tryz.f79,Tryz.f79.body.getD .skip,Tryz.func79,by kernel_rfl,by kernel_rfl,zar.no _ _⟩
def Tb79:Tb Tryz.prog:= {T:= [Y2,Y32],mix:=mix,Es:= [zah,zbB,zbl],Bs:= [],d:=1}
def zou (a0:Iv) (a1:Iv):Tr (Iv):=
 .br (!(zaU a0 a1)) (.leaf zD) (.leaf (zaN (Rng.w .i64 (a0.lo.val+a1.lo.val)) (Rng.w .i64 (a0.hi.val+a1.hi.val)) true))
theorem zCT (a0:Iv) (a1:Iv):Tb79.run B79 [enc a0,enc a1] (Iv)=(zou a0 a1).opt:=by kernel_rfl
def zR:Iv->Iv->Iv:=fun a0 a1=>(zou a0 a1).get
theorem zCp (a0:Iv) (a1:Iv):(zou a0 a1).opt=some (zR a0 a1):=Tr.zX (by kernel_rfl)
def zck:Ent Tryz.prog:= .of2 Tb79 B79 (fun _ _=>true) zR fun a0 a1 _=>(zCT a0 a1).trans (zCp a0 a1)
def zi6 (a0:Iv) (a1:Iv):Tr (Iv):=
 .br (!(za a0)) (.leaf zh) (.br (!(za a1)) (.leaf zh) (.leaf (zU (Rng.w .i64 (a0.lo.val-a1.hi.val)) (Rng.w .i64 (a0.hi.val-a1.lo.val)))))
def zG:Iv->Iv->Iv:=fun a0 a1=>(zi6 a0 a1).get
def B133:Bod Tryz.prog:=⟨133,Tryz.f133,Tryz.f133.body.getD .skip,Tryz.func133,by kernel_rfl,by kernel_rfl,zar.no _ _⟩
def zPW:Tb Tryz.prog:= {T:= [Y2,Y32],mix:=mix,Es:= [zck,zhM],Bs:= [],d:=1}
def zok (a0:Iv) (a1:Iv):Tr (Iv):=
 .leaf (zR a0 (zdB a1))
theorem zCG (a0:Iv) (a1:Iv):zPW.run B133 [enc a0,enc a1] (Iv)=(zok a0 a1).opt:=by kernel_rfl
def zaz:Iv->Iv->Iv:=fun a0 a1=>(zok a0 a1).get
theorem zCe (a0:Iv) (a1:Iv):(zok a0 a1).opt=some (zaz a0 a1):=Tr.zX (by kernel_rfl)
def zcZ:Ent Tryz.prog:= .of2 zPW B133 (fun _ _=>true) zaz fun a0 a1 _=>(zCG a0 a1).trans (zCe a0 a1)
def zw0:Tr (Iv):=
 .leaf ⟨⟨(-4294967296),rfl⟩,⟨4294967296,rfl⟩⟩
def zu:Iv:=(zw0).get
def znx (a0:I64):Tr (Iv):=
 .br (!(zaf a0 ⟨(-268435455),rfl⟩ ⟨268435455,rfl⟩)) (.leaf zh) (.leaf (zU (Rng.w .i64 (a0.val*4294967296)) (Rng.w .i64 (a0.val*4294967296))))
def zf:I64->Iv:=fun a0=>(znx a0).get
def zdq (a0:Iv) (a1:I64):Tr (Iv):=
 let c2:=(Rng.w .i64 (16+a1.val));let c10:=(Rng.w .i64 (14+a1.val));let c18:=(Rng.w .i64 (12+a1.val));let c26:=(Rng.w .i64 (10+a1.val));let c34:=(Rng.w .i64 (8+a1.val));let c42:=(Rng.w .i64 (6+a1.val));let c50:=(Rng.w .i64 (4+a1.val));let c58:=(Rng.w .i64 (2+a1.val));.leaf (zG (zf ⟨1,rfl⟩) (zk (zo a0 (zf (Rng.w .i64 (c58.val*(Rng.w .i64 (c58.val+1)).val)))) (zG (zf ⟨1,rfl⟩) (zk (zo a0 (zf (Rng.w .i64 (c50.val*(Rng.w .i64 (c50.val+1)).val)))) (zG (zf ⟨1,rfl⟩) (zk (zo a0 (zf (Rng.w .i64 (c42.val*(Rng.w .i64 (c42.val+1)).val)))) (zG (zf ⟨1,rfl⟩) (zk (zo a0 (zf (Rng.w .i64 (c34.val*(Rng.w .i64 (c34.val+1)).val)))) (zG (zf ⟨1,rfl⟩) (zk (zo a0 (zf (Rng.w .i64 (c26.val*(Rng.w .i64 (c26.val+1)).val)))) (zG (zf ⟨1,rfl⟩) (zk (zo a0 (zf (Rng.w .i64 (c18.val*(Rng.w .i64 (c18.val+1)).val)))) (zG (zf ⟨1,rfl⟩) (zk (zo a0 (zf (Rng.w .i64 (c10.val*(Rng.w .i64 (c10.val+1)).val)))) (zG (zf ⟨1,rfl⟩) (zk (zo a0 (zf (Rng.w .i64 (c2.val*(Rng.w .i64 (c2.val+1)).val)))) (zf ⟨1,rfl⟩)))))))))))))))))
def zaT:Iv->I64->Iv:=fun a0 a1=>(zdq a0 a1).get
def zwZ:Tr (Iv):=
 .leaf ⟨⟨(-1),rfl⟩,⟨1,rfl⟩⟩
def zbA:Iv:=(zwZ).get
def zeX (a0:Iv):Tr (Iv):=
 .br (!(zal a0 zu)) (.leaf zaW) (.leaf (zq (zk a0 (zaT (zay a0) ⟨0,rfl⟩)) zbA))
def zaH:Iv->Iv:=fun a0=>(zeX a0).get
def zeY (a0:Iv):Tr (Iv):=
 .br (!(zal a0 zu)) (.leaf zaW) (.leaf (zq (zaT (zay a0) ⟨(-1),rfl⟩) zbA))
def zaM:Iv->Iv:=fun a0=>(zeY a0).get
def zgJ (a0:Iv):Tr (Iv):=
 let c2:=zZ a0 zu;.br (!c2.b) (.leaf zu) (.leaf c2.a)
def zav:Iv->Iv:=fun a0=>(zgJ a0).get
def zfD (a0:Iv):Tr (Bool):=
 .leaf (za a0)
def zed:Iv->Bool:=fun a0=>(zfD a0).get
def ziA (a0:Iv):Tr (Bool):=
 .br (zed a0) (.br (za9 a0.lo) (.leaf (za9 a0.hi)) (.leaf false)) (.leaf false)
def zb7:Iv->Bool:=fun a0=>(ziA a0).get
def B243:Bod Tryz.prog:=⟨243,Tryz.f243,Tryz.f243.body.getD .skip,Tryz.func243,by kernel_rfl,by kernel_rfl,zar.no _ _⟩
def zO2:Tb Tryz.prog:= {T:= [Y2,Y32],mix:=mix,Es:= [],Bs:= [],d:=1}
def zqR:Tr (Iv):=
 .leaf ⟨⟨(-4294967296),rfl⟩,⟨4294967296,rfl⟩⟩
theorem zCE:zO2.run B243 [] (Iv)=(zqR).opt:=by kernel_rfl
def zeR:Iv:=(zqR).get
theorem zCc:(zqR).opt=some (zeR):=Tr.zX (by kernel_rfl)
def zkN:Ent Tryz.prog:= .of0 zO2 B243 zeR (zCE.trans zCc)
def B78:Bod Tryz.prog:=⟨78,Tryz.f78,Tryz.f78.body.getD .skip,Tryz.func78,by kernel_rfl,by kernel_rfl,zar.no _ _⟩
def Tb78:Tb Tryz.prog:= {T:= [Y2,Y32],mix:=mix,Es:= [za3,zah,zbB],Bs:= [],d:=1}
def zk0 (a0:I64):Tr (Iv):=
 .br (!(zas a0 ⟨(-268435456),rfl⟩ ⟨268435456,rfl⟩)) (.leaf zD) (.leaf (zaN (Rng.w .i64 (a0.val*4294967296)) (Rng.w .i64 (a0.val*4294967296)) true))
theorem zxo (a0:I64):Tb78.run B78 [enc a0] (Iv)=(zk0 a0).opt:=by kernel_rfl
def zw:I64->Iv:=fun a0=>(zk0 a0).get
theorem zwV (a0:I64):(zk0 a0).opt=some (zw a0):=Tr.zX (by kernel_rfl)
def zbi:Ent Tryz.prog:= .of1 Tb78 B78 (fun _=>true) zw fun a0 _=>(zxo a0).trans (zwV a0)
def B314:Bod Tryz.prog:=⟨314,Tryz.f314,Tryz.f314.body.getD .skip,Tryz.func314,by kernel_rfl,by kernel_rfl,zar.no _ _⟩
def zOt:Tb Tryz.prog:= {T:= [Y2,Y32],mix:=mix,Es:= [zbi,zcj,zbW,zcZ],Bs:= [],d:=1}
def zlR (a0:Iv) (a1:I64):Tr (Iv):=
 let c2:=(Rng.w .i64 (a1.val+14));let c10:=(Rng.w .i64 (a1.val+12));let c18:=(Rng.w .i64 (a1.val+10));let c26:=(Rng.w .i64 (a1.val+8));let c34:=(Rng.w .i64 (a1.val+6));let c42:=(Rng.w .i64 (a1.val+4));let c50:=(Rng.w .i64 (a1.val+2));let c58:=(Rng.w .i64 (a1.val+0));.leaf (zaz (zw ⟨1,rfl⟩) (zF (zad a0 (zw (Rng.w .i64 (c58.val*(Rng.w .i64 (c58.val+1)).val)))) (zaz (zw ⟨1,rfl⟩) (zF (zad a0 (zw (Rng.w .i64 (c50.val*(Rng.w .i64 (c50.val+1)).val)))) (zaz (zw ⟨1,rfl⟩) (zF (zad a0 (zw (Rng.w .i64 (c42.val*(Rng.w .i64 (c42.val+1)).val)))) (zaz (zw ⟨1,rfl⟩) (zF (zad a0 (zw (Rng.w .i64 (c34.val*(Rng.w .i64 (c34.val+1)).val)))) (zaz (zw ⟨1,rfl⟩) (zF (zad a0 (zw (Rng.w .i64 (c26.val*(Rng.w .i64 (c26.val+1)).val)))) (zaz (zw ⟨1,rfl⟩) (zF (zad a0 (zw (Rng.w .i64 (c18.val*(Rng.w .i64 (c18.val+1)).val)))) (zaz (zw ⟨1,rfl⟩) (zF (zad a0 (zw (Rng.w .i64 (c10.val*(Rng.w .i64 (c10.val+1)).val)))) (zaz (zw ⟨1,rfl⟩) (zF (zad a0 (zw (Rng.w .i64 (c2.val*(Rng.w .i64 (c2.val+1)).val)))) (zw ⟨1,rfl⟩)))))))))))))))))
theorem zzj (a0:Iv) (a1:I64):zOt.run B314 [enc a0,enc a1] (Iv)=(zlR a0 a1).opt:=by kernel_rfl
def zif:Iv->I64->Iv:=fun a0 a1=>(zlR a0 a1).get
theorem zyE (a0:Iv) (a1:I64):(zlR a0 a1).opt=some (zif a0 a1):=Tr.zX (by kernel_rfl)
def zsb:Ent Tryz.prog:= .of2 zOt B314 (fun _ _=>true) zif fun a0 a1 _=>(zzj a0 a1).trans (zyE a0 a1)
def B315:Bod Tryz.prog:=⟨315,Tryz.f315,Tryz.f315.body.getD .skip,Tryz.func315,by kernel_rfl,by kernel_rfl,zar.no _ _⟩
def zOs:Tb Tryz.prog:= {T:= [Y2,Y32],mix:=mix,Es:= [],Bs:= [],d:=1}
def zqQ:Tr (Iv):=
 .leaf ⟨⟨(-1),rfl⟩,⟨1,rfl⟩⟩
theorem zCD:zOs.run B315 [] (Iv)=(zqQ).opt:=by kernel_rfl
def zkK:Iv:=(zqQ).get
theorem zCb:(zqQ).opt=some (zkK):=Tr.zX (by kernel_rfl)
def zrc:Ent Tryz.prog:= .of0 zOs B315 zkK (zCD.trans zCb)
def B283:Bod Tryz.prog:=⟨283,Tryz.f283,Tryz.f283.body.getD .skip,Tryz.func283,by kernel_rfl,by kernel_rfl,zar.no _ _⟩
def zOH:Tb Tryz.prog:= {T:= [Y2,Y32],mix:=mix,Es:= [zck,zbW,zey,zah,zkN,znQ,zsb,zrc],Bs:= [],d:=1}
def ziV (a0:Iv):Tr (Iv):=
 .br (!(zfy a0 zeR)) (.leaf zD) (.leaf (zR (zF a0 (zif (zcX a0) ⟨2,rfl⟩)) zkK))
theorem ztU (a0:Iv):zOH.run B283 [enc a0] (Iv)=(ziV a0).opt:=by kernel_rfl
def ze7:Iv->Iv:=fun a0=>(ziV a0).get
theorem ztI (a0:Iv):(ziV a0).opt=some (ze7 a0):=Tr.zX (by kernel_rfl)
def zt8:Ent Tryz.prog:= .of1 zOH B283 (fun _=>true) ze7 fun a0 _=>(ztU a0).trans (ztI a0)
def B284:Bod Tryz.prog:=⟨284,Tryz.f284,Tryz.f284.body.getD .skip,Tryz.func284,by kernel_rfl,by kernel_rfl,zar.no _ _⟩
def zOG:Tb Tryz.prog:= {T:= [Y2,Y32],mix:=mix,Es:= [zck,zey,zah,zkN,znQ,zsb,zrc],Bs:= [],d:=1}
def ziX (a0:Iv):Tr (Iv):=
 .br (!(zfy a0 zeR)) (.leaf zD) (.leaf (zR (zif (zcX a0) ⟨1,rfl⟩) zkK))
theorem zt0 (a0:Iv):zOG.run B284 [enc a0] (Iv)=(ziX a0).opt:=by kernel_rfl
def ze8:Iv->Iv:=fun a0=>(ziX a0).get
theorem ztL (a0:Iv):(ziX a0).opt=some (ze8 a0):=Tr.zX (by kernel_rfl)
def zue:Ent Tryz.prog:= .of1 zOG B284 (fun _=>true) ze8 fun a0 _=>(zt0 a0).trans (ztL a0)
def B282:Bod Tryz.prog:=⟨282,Tryz.f282,Tryz.f282.body.getD .skip,Tryz.func282,by kernel_rfl,by kernel_rfl,zar.no _ _⟩
def zOI:Tb Tryz.prog:= {T:= [Y2,Y32],mix:=mix,Es:= [zjt,zkN],Bs:= [],d:=1}
def zlT (a0:Iv):Tr (Iv):=
 .leaf (zda a0 zeR).a
theorem zzn (a0:Iv):zOI.run B282 [enc a0] (Iv)=(zlT a0).opt:=by kernel_rfl
def zcT:Iv->Iv:=fun a0=>(zlT a0).get
theorem zyH (a0:Iv):(zlT a0).opt=some (zcT a0):=Tr.zX (by kernel_rfl)
def zz9:Ent Tryz.prog:= .of1 zOI B282 (fun _=>true) zcT fun a0 _=>(zzn a0).trans (zyH a0)
def B245:Bod Tryz.prog:=⟨245,Tryz.f245,Tryz.f245.body.getD .skip,Tryz.func245,by kernel_rfl,by kernel_rfl,zar.no _ _⟩
def zO0:Tb Tryz.prog:= {T:= [Y2,Y32],mix:=mix,Es:= [zeh,znN],Bs:= [],d:=1}
def ziU (a0:Iv):Tr (Bool):=
 .br (zbL a0) (.br (zeu a0.lo) (.leaf (zeu a0.hi)) (.leaf false)) (.leaf false)
theorem ztS (a0:Iv):zO0.run B245 [enc a0] (Bool)=(ziU a0).opt:=by kernel_rfl
def zb5:Iv->Bool:=fun a0=>(ziU a0).get
theorem ztH (a0:Iv):(ziU a0).opt=some (zb5 a0):=Tr.zX (by kernel_rfl)
def zo5:Ent Tryz.prog:= .of1 zO0 B245 (fun _=>true) zb5 fun a0 _=>(ztS a0).trans (ztH a0)
end
end Go.Proofs.YtaoakfodkoifoaaGreat.Ev
namespace Go.Proofs.YtaoakfodkoifoaaGreat.Ev
open Go
theorem zaB (a:Iv):za a=true↔(-1152921504606846976<a.lo.val/\a.lo.val<=a.hi.val/\a.hi.val<1152921504606846976):=by
 simp only [za,zjf,Tr.get]
 by_cases h1:(-1152921504606846976:Int)<a.lo.val<;>by_cases h2:a.lo.val<=a.hi.val<;>simp [h1,h2]
theorem okno (a:Iv):za a=false↔¬(-1152921504606846976<a.lo.val/\a.lo.val<=a.hi.val/\a.hi.val<1152921504606846976):=by
 rw [<- zaB];cases za a<;>simp
theorem zbq {lo hi:I64} (h: -1152921504606846976<lo.val/\lo.val<=hi.val/\hi.val<1152921504606846976):zU lo hi=⟨lo,hi⟩:=by
 have:za ⟨lo,hi⟩=true:=(zaB _).2 h
 simp only [zU,zfo,Tr.get,this,Bool.not_true,cond_false]
theorem zi9 {lo hi:I64} (h:¬(-1152921504606846976<lo.val/\lo.val<=hi.val/\hi.val<1152921504606846976)):zU lo hi=zh:=by
 have:za ⟨lo,hi⟩=false:=(okno _).2 h
 simp only [zU,zfo,Tr.get,this,Bool.not_false,cond_true]
theorem zJF {a b c d:I64} (h1:a.val=c.val) (h2:b.val=d.val):zU a b=zU c d:=by rw [rext h1,rext h2]
theorem zbD:za zh=false:=by decide +kernel
theorem ziH (a:Iv):zab a= !(za a):=by
 simp only [zab,zeo,Tr.get,valid_eq]
theorem zbU:zaW=zh:=rfl
theorem zEp (a b:I64):(mn a b).val=if b.val<a.val then b.val else a.val:=by unfold mn;by_cases hb:b.val<a.val<;>simp [hb]
theorem zEk (a b:I64):(mx a b).val=if b.val>a.val then b.val else a.val:=by unfold mx;by_cases hb:b.val>a.val<;>simp [hb]
theorem add_eq (a b:Iv):zR a b=zq a b:=by
 simp only [zR,zou,zq,zd3,Tr.get,zjS,za1,zc2,cond_true]
 cases za a<;>cases za b<;>rfl
theorem zjj {a:Iv} (h:za a=true):zaK a=⟨.w .i64 (0-a.hi.val),.w .i64 (0-a.lo.val)⟩:=by
 have:=(zaB a).1 h
 simp only [zaK,zhl,Tr.get,h,Bool.not_true,cond_false]
 refine zbq ?_
 rw [wi (by omega) (by omega),wi (by omega) (by omega)]
 omega
theorem zND {a:Iv} (h:za a=false):zaK a=zh:=by
 simp only [zaK,zhl,Tr.get,h,Bool.not_false,cond_true]
theorem zp5 (a:Iv):za (zaK a)=za a:=by
 cases h:za a
 ·rw [zND h];exact zbD
 ·have:=(zaB a).1 h
  rw [zjj h]
  refine (zaB _).2 ?_
  simp only
  rw [wi (by omega) (by omega),wi (by omega) (by omega)]
  omega
theorem sub_eq (a b:Iv):zaz a b=zG a b:=by
 simp only [zaz,zok,Tr.get,add_eq,neg_eq,zq,zd3,zG,zi6,zp5]
 cases ha:za a
 ·rfl
 cases hb:za b
 ·rfl
 have h1:=(zaB a).1 ha
 have h2:=(zaB b).1 hb
 simp only [Bool.not_true,cond_false,zjj hb]
 refine zJF ?_ ?_
 ·rw [wi (n:=0-b.hi.val) (by omega) (by omega)];congr 1;congr 1;omega
 ·rw [wi (n:=0-b.lo.val) (by omega) (by omega)];congr 1;congr 1;omega
theorem zbP (n:I64):zw n=zf n:=by
 simp only [zw,zk0,zf,znx,Tr.get,zbN,zdp,zc2,za1,cond_true]
 by_cases h: -268435455<=n.val/\n.val<=268435455
 ·have h': -268435456<=n.val/\n.val<=268435456:=by omega
  simp only [h,h',and_self,decide_true,Bool.not_true,cond_false]
 ·by_cases h': -268435456<=n.val/\n.val<=268435456
  ·simp only [h,h',and_self,decide_true,decide_false,Bool.not_true,Bool.not_false,cond_false,cond_true]
   refine zi9 ?_
   rw [wi (by omega) (by omega)]
   omega
  ·simp only [h,h',decide_false,Bool.not_false,cond_true]
theorem zlC (a b:Iv):zaG a b=zN a b:=by
 simp only [zaG,znc,zN,zhn,Tr.get,zjS,za1]
 cases ha:za a
 ·rfl
 cases hb:za b
 ·rfl
 have h1:=(zaB a).1 ha
 have h2:=(zaB b).1 hb
 simp only [Bool.and_self,Bool.not_true,cond_false,<- min_eq,<- max_eq]
 refine (zbq ?_).symm
 rw [zEp,zEk]
 split<;>split<;>omega
theorem zsP (a b:Iv):zda a b=zZ a b:=by
 simp only [zda,zna,zZ,zbJ,Tr.get,ziH,za1,min_eq,max_eq]
theorem zsJ (a b:Iv):zdZ a b=zaR a b:=by
 simp only [zdZ,zjG,zaR,zfL,Tr.get,zsP]
theorem zvU (a b:Iv):zfy a b=zal a b:=by
 simp only [zfy,zk1,zal,zde,Tr.get,ziH]
 cases za a<;>cases za b<;>rfl
theorem zpr:zeR=zu:=rfl
theorem zCu:zkK=zbA:=rfl
theorem zrZ (n:I64):zeu n=za9 n:=by
 simp only [zeu,zkV,za9,zhe,Tr.get,zbN,zdp]
theorem zn6 (n:I64):za9 n=true↔(-1099511627776<=n.val/\n.val<=1099511627776):=by
 simp only [za9,zhe,Tr.get,zdp,decide_eq_true_eq]
theorem zv0 (a:Iv):zb5 a=zb7 a:=by
 simp only [zb5,ziU,zb7,ziA,Tr.get,zrZ,valid_eq]
 rfl
theorem zEO {x d:Int} (hd:0<d) (h: -9223372036854775808<=x/\x<=9223372036854775807): -9223372036854775808<=x/d/\x/d<=9223372036854775807:=by
 have:=zq4 (M:=9223372036854775808) hd h.1 (by omega)
 refine ⟨this.1,?_⟩
 by_cases h0:0<=x
 ·have:=Int.ediv_le_self d h0;omega
 ·have:=Int.ediv_neg_of_neg_of_pos (a:=x) (by omega) hd;omega
theorem zJr (a b:Int):zbI .or .u64 a b=zbI .or .u64 b a:=by
 show ((BitVec.ofInt 64 a ||| BitVec.ofInt 64 b).toNat:Int)=((BitVec.ofInt 64 b ||| BitVec.ofInt 64 a).toNat:Int)
 rw [BitVec.or_comm]
theorem zGC (w:Wide) (n:I64) (k:Nat) (hn:n.val=k) (h1:1<=k) (h2:k<=63):wv (zdU w n)=wv w/2^k:=by
 have e0:(n.val==0)=false:=by simp;omega
 have e1:decide (n.val<64)=true:=by simp;omega
 have e2:(Rng.w .u64 n.val).val=k:=by rw [wu (by omega) (by omega),hn]
 have e3:(Rng.w .u64 ((Rng.w .i64 (64-n.val)).val)).val=((64-k:Nat):Int):=by rw [wi (by omega) (by omega),wu (by omega) (by omega)];omega
 simp only [zdU,zhj,Tr.get,e0,e1,cond_true,cond_false,e2,e3,Int.toNat_natCast,Nat.min_eq_left (show k<=64 by omega),Nat.min_eq_left (show 64-k<=64 by omega),zMv]
 have bh:=w.hi.bd
 have bl:=w.lo.ubd
 have hp:(2:Int)^k*2^(64-k)=18446744073709551616:=by
  rw [<- Int.pow_add,show k+(64-k)=64 by omega];rfl
 have hp0:(0:Int)<2^k:=Int.pow_pos (by decide)
 have hq0:(0:Int)<2^(64-k):=Int.pow_pos (by decide)
 generalize hP:(2:Int)^k=P at hp hp0
 generalize hQ:(2:Int)^(64-k)=Q at hp hq0
 have l1:0<=w.lo.val/P:=Int.ediv_nonneg bl.1 (by omega)
 have l2:w.lo.val/P<Q:=by
  refine Int.ediv_lt_of_lt_mul hp0 ?_
  rw [Int.mul_comm,hp];omega
 have hhb: -9223372036854775808<=w.hi.val/P/\w.hi.val/P<=9223372036854775807:=zEO hp0 bh
 have hQle:Q<=18446744073709551616:=by
  have:Q*1<=Q*P:=Int.mul_le_mul_of_nonneg_left (by omega) (by omega)
  rw [Int.mul_comm Q P,hp] at this;omega
 have wlo:(Rng.w .u64 (w.lo.val/P)).val=w.lo.val/P:=wu l1 (by omega)
 have whi:(Rng.w .u64 ((Rng.w .u64 w.hi.val).val*Q)).val=(w.hi.val%P)*Q:=by
  rw [zbC,zbC]
  have:(18446744073709551616:Int)=P*Q:=hp.symm
  rw [this]
  have e:w.hi.val%(P*Q)*Q%(P*Q)=w.hi.val*Q%(P*Q):=by
   rw [Int.mul_emod,Int.emod_emod_of_dvd _ (Int.dvd_refl _),<- Int.mul_emod]
  rw [e,Int.mul_comm w.hi.val Q,Int.mul_comm P Q,Int.mul_emod_mul_of_pos _ _ hq0,Int.mul_comm]
 have hm0:0<=w.hi.val%P:=Int.emod_nonneg _ (by omega)
 have hm1:w.hi.val%P<P:=Int.emod_lt_of_pos _ hp0
 have hmq:(w.hi.val%P)*Q<=(P-1)*Q:=Int.mul_le_mul_of_nonneg_right (by omega) (by omega)
 have hsum:(w.hi.val%P)*Q+w.lo.val/P<=18446744073709551615:=by
  have:(P-1)*Q=18446744073709551616-Q:=by rw [Int.sub_mul,hp,Int.one_mul]
  omega
 have hor:zbI .or .u64 (w.lo.val/P) (w.hi.val%P*Q)=w.hi.val%P*Q+w.lo.val/P:=by
  rw [zJr,zx1 (64-k) (w.hi.val%P).toNat (by rw [hQ,Int.toNat_of_nonneg hm0,Int.mul_comm]) l1 (by rw [hQ];exact l2) hsum]
 simp only [wv]
 rw [wi hhb.1 hhb.2,wlo,whi,hor,wu (by have:=Int.mul_nonneg hm0 (show (0:Int)<=Q by omega);omega) hsum]
 have hdm:w.hi.val=P*(w.hi.val/P)+w.hi.val%P:=(Int.mul_ediv_add_emod _ _).symm
 have key:w.hi.val*18446744073709551616+w.lo.val=(w.hi.val/P*18446744073709551616+w.hi.val%P*Q)*P+w.lo.val:=by
  rw [Int.add_mul]
  have e1:w.hi.val%P*Q*P=w.hi.val%P*18446744073709551616:=by rw [Int.mul_assoc,Int.mul_comm Q P,hp]
  have e2:w.hi.val/P*18446744073709551616*P=P*(w.hi.val/P)*18446744073709551616:=by rw [Int.mul_comm _ P,Int.mul_assoc]
  rw [e1,e2,<- Int.add_mul,<- hdm]
 rw [key,Int.add_comm _ w.lo.val,Int.add_mul_ediv_right _ _ (by omega)]
 omega
theorem zHl (a b n:I64) (k:Nat) (hn:n.val=k) (h1:1<=k) (h2:k<=63):zaE a b n=narrow (a.val*b.val/2^k):=by
 have hin:zaf n ⟨0,rfl⟩ ⟨126,rfl⟩=true:=by rw [zdp];simp;omega
 have hb:=zgA a.bd b.bd
 simp only [zaE,zhm,Tr.get,hin,Bool.not_true,cond_false,zrL,zzJ,zGC _ n k hn h1 h2]
 rw [zmj (by omega) (by omega)]
theorem mf32 (a b:I64):zaE a b ⟨32,rfl⟩=narrow (a.val*b.val/4294967296):=zHl a b _ 32 rfl (by decide) (by decide)
theorem mf30 (a b:I64):zaE a b ⟨30,rfl⟩=narrow (a.val*b.val/1073741824):=zHl a b _ 30 rfl (by decide) (by decide)
theorem mf29 (a b:I64):zaE a b ⟨29,rfl⟩=narrow (a.val*b.val/536870912):=zHl a b _ 29 rfl (by decide) (by decide)
theorem zfj {v:Int} (h: -9223372036854775808<=v) (h':v<=9223372036854775807):narrow v=⟨.w .i64 v,true⟩:=by unfold narrow;rw [if_pos ⟨h,h'⟩]
theorem zGn {k:I64} (h:0<k.val) (h':k.val<=4096):zaE k ⟨7244019458077122842,rfl⟩ ⟨30,rfl⟩=⟨.w .i64 (k.val*7244019458077122842/1073741824),true⟩ /\
  0<=k.val*7244019458077122842/1073741824/\k.val*7244019458077122842/1073741824<=27633759721874:=by
 have:0<=k.val*7244019458077122842/1073741824/\k.val*7244019458077122842/1073741824<=27633759721874:=by omega
 exact ⟨by rw [mf30];exact zfj (v:=k.val*7244019458077122842/1073741824) (by omega) (by omega),this⟩
theorem zGl (k:I64) (h:0<=k.val) (h':k.val<=4096):∃x:Iv,(zd2 k).opt=some x/\(zgK k).opt=some x/\za x=true:=by
 have hw:zas k ⟨(-4096),rfl⟩ ⟨4096,rfl⟩=true:=by rw [zbN];simp;omega
 have hn:decide (k.val<0)=false:=by simp;omega
 simp only [zd2,zgK,Tr.opt,hw,hn,Bool.not_true,cond_false,zsO]
 by_cases h0:k.val=0
 ·have e0:(k.val==0)=true:=by simp [h0]
  simp only [e0,cond_true]
  exact ⟨_,rfl,rfl,by decide +kernel⟩
 ·have e0:(k.val==0)=false:=by simp [h0]
  obtain ⟨e,b1,b2⟩:=zGn (k:=k) (by omega) h'
  simp only [e0,cond_false,e]
  refine ⟨_,rfl,rfl,(zaB _).2 ?_⟩
  simp only
  rw [wi (n:=k.val*7244019458077122842/1073741824) (by omega) (by omega),wi (by omega) (by omega)]
  omega
theorem zGm (k:I64) (h: -4096<=k.val) (h':k.val<=4096):∃x:Iv,(zdD k).opt=some x/\(zf8 k).opt=some x/\za x=true:=by
 have hw:zas k ⟨(-4096),rfl⟩ ⟨4096,rfl⟩=true:=by rw [zbN];simp;omega
 by_cases hn:k.val<0
 ·have e1:(Rng.w .i64 (0-k.val)).val=0-k.val:=wi (by omega) (by omega)
  obtain ⟨x,h1,h2,h3⟩:=zGl (.w .i64 (0-k.val)) (by omega) (by omega)
  have g1:ze3 (.w .i64 (0-k.val))=true:=by unfold ze3;rw [h1];rfl
  have g2:zk9 (.w .i64 (0-k.val))=true:=by unfold zk9;rw [h2];rfl
  have f1:zcm (.w .i64 (0-k.val))=x:=Tr.zai h1
  have f2:znM (.w .i64 (0-k.val))=x:=Tr.zai h2
  have e0:(k.val==0)=false:=by simp;omega
  have hd:decide (k.val<0)=true:=by simpa using hn
  refine ⟨zaK x,?_,?_,by rw [zp5,h3]⟩
  ·simp only [zdD,Tr.opt,e0,hd,g1,f1,cond_true,cond_false,zjj h3]
  ·simp only [zf8,Tr.opt,hw,hd,g2,f2,cond_true,cond_false,Bool.not_true,neg_eq]
 ·obtain ⟨x,h1,h2,h3⟩:=zGl k (by omega) h'
  have hd:decide (k.val<0)=false:=by simpa using hn
  refine ⟨x,?_,?_,h3⟩
  ·simp only [zd2,Tr.opt,hd] at h1
   simp only [zdD,Tr.opt,hd]
   exact h1
  ·simp only [zgK,Tr.opt,hd,hw] at h2
   simp only [zf8,Tr.opt,hd,hw]
   exact h2
theorem zyP (k:I64):∃x:Iv,(zhk k).opt=some x/\(zf8 k).opt=some x:=by
 by_cases h: -4096<=k.val/\k.val<=4096
 ·obtain ⟨x,h1,h2,h3⟩:=zGm k h.1 h.2
  have hi:zaf k ⟨(-4096),rfl⟩ ⟨4096,rfl⟩=true:=by rw [zdp];simpa using h
  have g:zcl k=true:=by unfold zcl;rw [h1];rfl
  have f:zaS k=x:=Tr.zai h1
  exact ⟨x,by simp only [zhk,Tr.opt,hi,g,f,Bool.not_true,cond_false,cond_true],h2⟩
 ·have hi:zaf k ⟨(-4096),rfl⟩ ⟨4096,rfl⟩=false:=by rw [zdp];simpa using h
  have hw:zas k ⟨(-4096),rfl⟩ ⟨4096,rfl⟩=false:=by rw [zbN];simpa using h
  exact ⟨zh,by simp only [zhk,Tr.opt,hi,Bool.not_false,cond_true,zbU],by simp only [zf8,Tr.opt,hw,Bool.not_false,cond_true,za1]⟩
theorem zyQ (k:I64):(zhk k).opt=some (zP k):=by
 obtain ⟨x,h1,_⟩:=zyP k;exact zh4 h1
theorem zyR (k:I64):(zf8 k).opt=some (za4 k):=by
 obtain ⟨x,_,h1⟩:=zyP k;exact zh4 h1
theorem ziP (k:I64):za4 k=zP k:=by
 obtain ⟨x,h1,h2⟩:=zyP k
 exact (Tr.zai h2).trans (Tr.zai h1).symm
theorem zFy (n:I64):(ziR n).opt=some (zcq n):=by
 simp only [ziR,Tr.opt,zcq,ze0,Tr.get,zrZ]
 cases ha:za9 n
 ·rfl
 have hb:=(zn6 n).1 ha
 have e1:(Rng.w .i64 (n.val+3373259426)).val=n.val+3373259426:=wi (by omega) (by omega)
 have hs:Int.sign 6746518852=1:=rfl
 have q1:(Rng.w .i64 ((n.val+3373259426).tdiv 6746518852)).val=(n.val+3373259426).tdiv 6746518852:=by
  refine wi ?_ ?_
  ·have:=Int.tdiv_eq_ediv (a:=n.val+3373259426) (b:=6746518852);split at this<;>omega
  ·have:=Int.tdiv_eq_ediv (a:=n.val+3373259426) (b:=6746518852);split at this<;>omega
 have hm:=Int.mul_tdiv_add_tmod (n.val+3373259426) 6746518852
 have m1:(Rng.w .i64 ((n.val+3373259426).tmod 6746518852)).val=(n.val+3373259426).tmod 6746518852:=by
  refine wi ?_ ?_
  ·have:=Int.tdiv_eq_ediv (a:=n.val+3373259426) (b:=6746518852);split at this<;>omega
  ·have:=Int.tdiv_eq_ediv (a:=n.val+3373259426) (b:=6746518852);split at this<;>omega
 have q2:(Rng.w .i64 ((n.val+3373259426).tdiv 6746518852*6746518852)).val=(n.val+3373259426).tdiv 6746518852*6746518852:=by
  refine wi ?_ ?_
  ·have:=Int.tdiv_eq_ediv (a:=n.val+3373259426) (b:=6746518852);split at this<;>omega
  ·have:=Int.tdiv_eq_ediv (a:=n.val+3373259426) (b:=6746518852);split at this<;>omega
 have z:((6746518852:Int)==0)=false:=rfl
 simp only [Bool.not_true,cond_false,zmN,zmO,zjA,Tr.opt,Tr.get,e1,q1,m1,q2,z,cond_false]
 by_cases hc:(n.val+3373259426).tmod 6746518852<0
 ·have hc':(n.val+3373259426).tdiv 6746518852*6746518852>n.val+3373259426:=by omega
  simp only [hc,hc',decide_true,cond_true,Option.isSome_some]
 ·have hc':¬(n.val+3373259426).tdiv 6746518852*6746518852>n.val+3373259426:=by omega
  simp only [hc,hc',decide_false,cond_false,cond_true,Option.isSome_some]
theorem zgM (n:I64):zcq n=zY n:=(Tr.zai (zFy n)).symm
theorem znY (n:I64): -200<=(zY n).val/\(zY n).val<=200:=by
 rw [<- zgM]
 simp only [zcq,ze0,Tr.get,zrZ]
 cases ha:za9 n
 ·simp only [Bool.not_false,cond_true];omega
 have hb:=(zn6 n).1 ha
 have e1:(Rng.w .i64 (n.val+3373259426)).val=n.val+3373259426:=wi (by omega) (by omega)
 have hs:Int.sign 6746518852=1:=rfl
 have hq: -170<=(n.val+3373259426).tdiv 6746518852/\(n.val+3373259426).tdiv 6746518852<=170:=by
  have:=Int.tdiv_eq_ediv (a:=n.val+3373259426) (b:=6746518852);split at this<;>omega
 have q1:(Rng.w .i64 ((n.val+3373259426).tdiv 6746518852)).val=(n.val+3373259426).tdiv 6746518852:=wi (by omega) (by omega)
 simp only [Bool.not_true,cond_false,e1,q1]
 cases decide ((Rng.w .i64 ((n.val+3373259426).tdiv 6746518852*6746518852)).val>n.val+3373259426)
 ·simp only [cond_false,q1];omega
 ·simp only [cond_true];rw [wi (by omega) (by omega)];omega
end Go.Proofs.YtaoakfodkoifoaaGreat.Ev
namespace Go.Proofs.YtaoakfodkoifoaaGreat.Ev
open Go Go.RowKit
set_option maxRecDepth 100000
section
variable [Amb]
def zAg:Ent Tryz.prog:= .of1 Tb20 B20 (fun _=>true) zP fun a0 _=>(zAZ a0).trans (zyQ a0)
def zem:Ent Tryz.prog:= .of1 zPK B145 (fun _=>true) za4 fun a0 _=>(zA6 a0).trans (zyR a0)
def zhf (a0:I64):Tr (Iv):=
 .leaf ⟨a0,a0⟩
def zB:I64->Iv:=fun a0=>(zhf a0).get
def zje (a0:I64) (a1:I64):Tr (Iv):=
 .br (!(za9 a0)) (.leaf zu) (let c3:=zY a0;let c6:=zG (zB a0) (zP c3);let c8:=(Rng.w .i64 (zbI .and .i64 (Rng.w .i64 (c3.val+a1.val)).val 3));.br (c8.val==0) (.leaf (zav (zaH c6))) (.br (c8.val==1) (.leaf (zav (zaM c6))) (.br (c8.val==2) (.leaf (zav (zaK (zaH c6)))) (.leaf (zav (zaK (zaM c6)))))))
def zaj:I64->I64->Iv:=fun a0 a1=>(zje a0 a1).get
def B227:Bod Tryz.prog:=⟨227,Tryz.f227,Tryz.f227.body.getD .skip,Tryz.func227,by kernel_rfl,by kernel_rfl,zar.no _ _⟩
def zPh:Tb Tryz.prog:= {T:= [Y2,Y32],mix:=mix,Es:= [],Bs:= [],d:=1}
def zuX (a0:I64):Tr (Iv):=
 .leaf ⟨a0,a0⟩
theorem zGN (a0:I64):zPh.run B227 [enc a0] (Iv)=(zuX a0).opt:=by kernel_rfl
def zbo:I64->Iv:=fun a0=>(zuX a0).get
theorem zGi (a0:I64):(zuX a0).opt=some (zbo a0):=Tr.zX (by kernel_rfl)
def zf6:Ent Tryz.prog:= .of1 zPh B227 (fun _=>true) zbo fun a0 _=>(zGN a0).trans (zGi a0)
def B246:Bod Tryz.prog:=⟨246,Tryz.f246,Tryz.f246.body.getD .skip,Tryz.func246,by kernel_rfl,by kernel_rfl,zar.no _ _⟩
def zOZ:Tb Tryz.prog:= {T:= [Y2,Y32],mix:=mix,Es:= [zcZ,zem,zhM,zf6,zkN,znN,zo6,zz9,zt8,zue],Bs:= [],d:=1}
def zg3 (a0:I64) (a1:I64):Tr (Iv):=
 .br (!(zeu a0)) (.leaf zeR) (let c3:=zcq a0;let c6:=zaz (zbo a0) (za4 c3);let c8:=(Rng.w .i64 (zbI .and .i64 (Rng.w .i64 (c3.val+a1.val)).val 3));.br (c8.val==0) (.leaf (zcT (ze7 c6))) (.br (c8.val==1) (.leaf (zcT (ze8 c6))) (.br (c8.val==2) (.leaf (zcT (zdB (ze7 c6)))) (.leaf (zcT (zdB (ze8 c6)))))))
theorem zrD (a0:I64) (a1:I64):zOZ.run B246 [enc a0,enc a1] (Iv)=(zg3 a0 a1).opt:=by kernel_rfl
def zcJ:I64->I64->Iv:=fun a0 a1=>(zg3 a0 a1).get
theorem zrk (a0:I64) (a1:I64):(zg3 a0 a1).opt=some (zcJ a0 a1):=Tr.zX (by kernel_rfl)
def zkh:Ent Tryz.prog:= .of2 zOZ B246 (fun _ _=>true) zcJ fun a0 a1 _=>(zrD a0 a1).trans (zrk a0 a1)
structure ze2 where
 x0:I64
 x1:I64
 x2:I64
 x3:I64
 x4:I64
 x5:I64
 x6:I64
 x7:I64
instance:Inhabited ze2:=⟨⟨default,default,default,default,default,default,default,default⟩⟩
def zgB (x:ze2):Tr (Lp ze2):=
 .br (decide (x.x1.val<=(Rng.w .i64 ((zY x.x3).val+1)).val)) (.br (!(zaR (zP x.x1) ⟨x.x2,x.x3⟩)) (.leaf (.again ⟨x.x0,(Rng.w .i64 (x.x1.val+1)),x.x2,x.x3,x.x4,x.x5,x.x6,x.x7⟩)) (let c15:=(Rng.w .i64 (zbI .and .i64 (Rng.w .i64 (x.x1.val+x.x0.val)).val 3));.br (c15.val==1) (let c17:=zN ⟨x.x6,x.x7⟩ (zf ⟨1,rfl⟩);.leaf (.again ⟨x.x0,(Rng.w .i64 (x.x1.val+1)),x.x2,x.x3,x.x4,x.x5,c17.lo,c17.hi⟩)) (.br (c15.val==3) (let c20:=zN ⟨x.x6,x.x7⟩ (zf ⟨(-1),rfl⟩);.leaf (.again ⟨x.x0,(Rng.w .i64 (x.x1.val+1)),x.x2,x.x3,x.x4,x.x5,c20.lo,c20.hi⟩)) (.leaf (.again ⟨x.x0,(Rng.w .i64 (x.x1.val+1)),x.x2,x.x3,x.x4,x.x5,x.x6,x.x7⟩))))) (.leaf (.out ⟨x.x0,x.x1,x.x2,x.x3,x.x4,x.x5,x.x6,x.x7⟩))
def zlE (x:ze2):Bool:=(Lf zgB 1000 x).opt.isSome
def zo3 (x:ze2):ze2:=(Lf zgB 1000 x).get
def znw (a0:Iv) (a1:I64):Tr (Iv):=
 .br (!(zb7 a0)) (.leaf zu) (let c5:=zN (zaj a0.lo a1) (zaj a0.hi a1);let c7:=(Rng.w .i64 ((zY a0.lo).val-1));.br (zlE ⟨a1,c7,a0.lo,a0.hi,⟨0,rfl⟩,⟨0,rfl⟩,c5.lo,c5.hi⟩) (let c23:=zo3 ⟨a1,c7,a0.lo,a0.hi,⟨0,rfl⟩,⟨0,rfl⟩,c5.lo,c5.hi⟩;.leaf ⟨c23.x6,c23.x7⟩) (.bad))
def zgP:Iv->I64->Iv:=fun a0 a1=>(znw a0 a1).get
end
end Go.Proofs.YtaoakfodkoifoaaGreat.Ev
