/- The law FnOmega gives true, whatever comes in; each argument reads behind the call as it read before. No conditions. (One of the texts of its proof, put together by a program of this session.) -/
import Derived.Test.YtaoakfodkoifoaaGreatZEC
import Derived.Test.YtaoakfodkoifoaaGreatChecked
import Derived.KernelRfl
set_option linter.unusedSectionVars false
set_option linter.unusedSimpArgs false
set_option linter.unusedVariables false
noncomputable section
namespace Go.Proofs.YtaoakfodkoifoaaGreat.Ev
open Go Go.RowKit
set_option maxRecDepth 100000
section
variable [Amb]
theorem mix:Tryz.prog.follows .mixedOrders=true:=by kernel_rfl
def Y2:TyE Tryz.prog:=⟨2,1,(.int .i64),[.i64 ⟨0,rfl⟩],false,by kernel_rfl,by kernel_rfl,by kernel_rfl,by kernel_rfl,by kernel_rfl,by kernel_rfl⟩
def Y28:TyE Tryz.prog:=⟨28,2,(.struct [(0,2,1),(1,2,1)]),[.i64 ⟨0,rfl⟩,.i64 ⟨0,rfl⟩],true,by kernel_rfl,by kernel_rfl,by kernel_rfl,by kernel_rfl,by kernel_rfl,by kernel_rfl⟩
def B66:Bod Tryz.prog:=⟨66,Tryz.f66,Tryz.f66.body.getD .skip,Tryz.func66,by kernel_rfl,by kernel_rfl,zar.no _ _⟩
def Tb66:Tb Tryz.prog:= {T:= [],mix:=mix,Es:= [],Bs:= [],d:=1}
def zm2 (a0:I64) (a1:I64) (a2:I64):Tr (Bool):=
 .br (decide (a0.val>=a1.val)) (.leaf (decide (a0.val<=a2.val))) (.leaf false)
theorem zAX (a0:I64) (a1:I64) (a2:I64):Tb66.run B66 [enc a0,enc a1,enc a2] (Bool)=(zm2 a0 a1 a2).opt:=by kernel_rfl
def zaf:I64->I64->I64->Bool:=fun a0 a1 a2=>(zm2 a0 a1 a2).get
theorem zAp (a0:I64) (a1:I64) (a2:I64):(zm2 a0 a1 a2).opt=some (zaf a0 a1 a2):=Tr.zX (by kernel_rfl)
def zjr:Ent Tryz.prog:= .of3 Tb66 B66 (fun _ _ _=>true) zaf fun a0 a1 a2 _=>(zAX a0 a1 a2).trans (zAp a0 a1 a2)
def B61:Bod Tryz.prog:=⟨61,Tryz.f61,Tryz.f61.body.getD .skip,Tryz.func61,by kernel_rfl,by kernel_rfl,zar.no _ _⟩
def Tb61:Tb Tryz.prog:= {T:= [Y2,Y28],mix:=mix,Es:= [zjr],Bs:= [],d:=1}
def zlc (a0:zaA):Tr (Bool):=
 .br (zaf a0.lat ⟨(-900000000),rfl⟩ ⟨900000000,rfl⟩) (.leaf (zaf a0.lon ⟨(-1799999999),rfl⟩ ⟨1800000000,rfl⟩)) (.leaf false)
theorem zAU (a0:zaA):Tb61.run B61 [enc a0] (Bool)=(zlc a0).opt:=by kernel_rfl
def zT:zaA->Bool:=fun a0=>(zlc a0).get
theorem zAm (a0:zaA):(zlc a0).opt=some (zT a0):=Tr.zX (by kernel_rfl)
def zBW:Ent Tryz.prog:= .of1 Tb61 B61 (fun _=>true) zT fun a0 _=>(zAU a0).trans (zAm a0)
def B77:Bod Tryz.prog:=⟨77,Tryz.f77,Tryz.f77.body.getD .skip,Tryz.func77,by kernel_rfl,by kernel_rfl,zar.no _ _⟩
def Tb77:Tb Tryz.prog:= {T:= [],mix:=mix,Es:= [],Bs:= [],d:=1}
def zlQ (a0:I64) (a1:I64) (a2:I64):Tr (Bool):=
 .br (decide (a0.val>=a1.val)) (.leaf (decide (a0.val<=a2.val))) (.leaf false)
theorem zzh (a0:I64) (a1:I64) (a2:I64):Tb77.run B77 [enc a0,enc a1,enc a2] (Bool)=(zlQ a0 a1 a2).opt:=by kernel_rfl
def zas:I64->I64->I64->Bool:=fun a0 a1 a2=>(zlQ a0 a1 a2).get
theorem zyD (a0:I64) (a1:I64) (a2:I64):(zlQ a0 a1 a2).opt=some (zas a0 a1 a2):=Tr.zX (by kernel_rfl)
def za3:Ent Tryz.prog:= .of3 Tb77 B77 (fun _ _ _=>true) zas fun a0 a1 a2 _=>(zzh a0 a1 a2).trans (zyD a0 a1 a2)
def B76:Bod Tryz.prog:=⟨76,Tryz.f76,Tryz.f76.body.getD .skip,Tryz.func76,by kernel_rfl,by kernel_rfl,zar.no _ _⟩
def Tb76:Tb Tryz.prog:= {T:= [Y2,Y28],mix:=mix,Es:= [za3],Bs:= [],d:=1}
def zhY (a0:zaA):Tr (Bool):=
 .br (zas a0.lat ⟨(-900000000),rfl⟩ ⟨900000000,rfl⟩) (.br (decide (a0.lon.val>(-1800000000))) (.leaf (decide (a0.lon.val<=1800000000))) (.leaf false)) (.leaf false)
theorem zsB (a0:zaA):Tb76.run B76 [enc a0] (Bool)=(zhY a0).opt:=by kernel_rfl
def zc9:zaA->Bool:=fun a0=>(zhY a0).get
theorem zsm (a0:zaA):(zhY a0).opt=some (zc9 a0):=Tr.zX (by kernel_rfl)
def zkO:Ent Tryz.prog:= .of1 Tb76 B76 (fun _=>true) zc9 fun a0 _=>(zsB a0).trans (zsm a0)
def B181:Bod Tryz.prog:=⟨181,Tryz.f181,Tryz.f181.body.getD .skip,Tryz.func181,by kernel_rfl,by kernel_rfl,zar.no _ _⟩
def zPF:Tb Tryz.prog:= {T:= [],mix:=mix,Es:= [],Bs:= [],d:=1}
def zmf (a0:I64):Tr (I64):=
 .leaf (mx a0 (Rng.w .i64 (0-a0.val)))
theorem zFx (a0:I64):zPF.run B181 [enc a0] (I64)=(zmf a0).opt:=by kernel_rfl
def zbX:I64->I64:=fun a0=>(zmf a0).get
theorem zFh (a0:I64):(zmf a0).opt=some (zbX a0):=Tr.zX (by kernel_rfl)
def zyo:Ent Tryz.prog:= .of1 zPF B181 (fun _=>true) zbX fun a0 _=>(zFx a0).trans (zFh a0)
end
end Go.Proofs.YtaoakfodkoifoaaGreat.Ev
namespace Go.Proofs.YtaoakfodkoifoaaGreat.Ev
open Go Go.RowKit
set_option maxRecDepth 100000
section
variable [Amb]
def ztd:Ent Tryz.prog:= .add64 Tryz.func265 (by kernel_rfl) (by kernel_rfl) (by kernel_rfl) (by kernel_rfl)
def zta:Ent Tryz.prog:= .sub64 Tryz.func312 (by kernel_rfl) (by kernel_rfl) (by kernel_rfl) (by kernel_rfl)
def Y32:TyE Tryz.prog:=⟨32,2,(.struct [(0,2,1),(1,2,1)]),[.i64 ⟨0,rfl⟩,.i64 ⟨0,rfl⟩],true,by kernel_rfl,by kernel_rfl,by kernel_rfl,by kernel_rfl,by kernel_rfl,by kernel_rfl⟩
def B112:Bod Tryz.prog:=⟨112,Tryz.f112,Tryz.f112.body.getD .skip,Tryz.func112,by kernel_rfl,by kernel_rfl,zar.no _ _⟩
def zQh:Tb Tryz.prog:= {T:= [],mix:=mix,Es:= [],Bs:= [],d:=1}
def zkX (a0:I64):Tr (I64):=
 let c1:=(Rng.w .i64 (a0.val.tmod 3600000000));.br (decide (c1.val>1800000000)) (.leaf (Rng.w .i64 (c1.val-3600000000))) (.br (decide (c1.val<=(-1800000000))) (.leaf (Rng.w .i64 (c1.val+3600000000))) (.leaf c1))
theorem zxf (a0:I64):zQh.run B112 [enc a0] (I64)=(zkX a0).opt:=by kernel_rfl
def zcN:I64->I64:=fun a0=>(zkX a0).get
theorem zwQ (a0:I64):(zkX a0).opt=some (zcN a0):=Tr.zX (by kernel_rfl)
def ziO:Ent Tryz.prog:= .of1 zQh B112 (fun _=>true) zcN fun a0 _=>(zxf a0).trans (zwQ a0)
def B62:Bod Tryz.prog:=⟨62,Tryz.f62,Tryz.f62.body.getD .skip,Tryz.func62,by kernel_rfl,by kernel_rfl,zar.no _ _⟩
def Tb62:Tb Tryz.prog:= {T:= [],mix:=mix,Es:= [],Bs:= [],d:=1}
def ziy (a0:I64):Tr (I64):=
 let c1:=(Rng.w .i64 (a0.val.tmod 3600000000));.br (decide (c1.val>1800000000)) (let c3:=(Rng.w .i64 (c1.val-3600000000));.br (decide (c3.val<=(-1800000000))) (.leaf (Rng.w .i64 (c3.val+3600000000))) (.leaf c3)) (.br (decide (c1.val<=(-1800000000))) (.leaf (Rng.w .i64 (c1.val+3600000000))) (.leaf c1))
theorem zw1 (a0:I64):Tb62.run B62 [enc a0] (I64)=(ziy a0).opt:=by kernel_rfl
def zcK:I64->I64:=fun a0=>(ziy a0).get
theorem zwF (a0:I64):(ziy a0).opt=some (zcK a0):=Tr.zX (by kernel_rfl)
def zxB:Ent Tryz.prog:= .of1 Tb62 B62 (fun _=>true) zcK fun a0 _=>(zw1 a0).trans (zwF a0)
def B63:Bod Tryz.prog:=⟨63,Tryz.f63,Tryz.f63.body.getD .skip,Tryz.func63,by kernel_rfl,by kernel_rfl,zar.no _ _⟩
def Tb63:Tb Tryz.prog:= {T:= [Y2,Y32],mix:=mix,Es:= [],Bs:= [],d:=1}
def zmm:Tr (Iv):=
 .leaf ⟨⟨(-1152921504606846976),rfl⟩,⟨1152921504606846976,rfl⟩⟩
theorem zvb:Tb63.run B63 [] (Iv)=(zmm).opt:=by kernel_rfl
def zh:Iv:=(zmm).get
theorem zuC:(zmm).opt=some (zh):=Tr.zX (by kernel_rfl)
def zhJ:Ent Tryz.prog:= .of0 Tb63 B63 zh (zvb.trans zuC)
def Y109:TyE Tryz.prog:=⟨109,1,(.int .u64),[.u64 ⟨0,rfl⟩],false,by kernel_rfl,by kernel_rfl,by kernel_rfl,by kernel_rfl,by kernel_rfl,by kernel_rfl⟩
def B195:Bod Tryz.prog:=⟨195,Tryz.f195,Tryz.f195.body.getD .skip,Tryz.func195,by kernel_rfl,by kernel_rfl,zar.no _ _⟩
def zPv:Tb Tryz.prog:= {T:= [Y2,Y109],mix:=mix,Es:= [],Bs:= [],d:=1}
def zkR (a0:I64):Tr (U64):=
 .br (decide (a0.val<0)) (.leaf (Rng.w .u64 (0-(Rng.w .u64 (a0.val)).val))) (.leaf (Rng.w .u64 (a0.val)))
theorem zw5 (a0:I64):zPv.run B195 [enc a0] (U64)=(zkR a0).opt:=by kernel_rfl
def zbS:I64->U64:=fun a0=>(zkR a0).get
theorem zwI (a0:I64):(zkR a0).opt=some (zbS a0):=Tr.zX (by kernel_rfl)
def zxE:Ent Tryz.prog:= .of1 zPv B195 (fun _=>true) zbS fun a0 _=>(zw5 a0).trans (zwI a0)
def B194:Bod Tryz.prog:=⟨194,Tryz.f194,Tryz.f194.body.getD .skip,Tryz.func194,by kernel_rfl,by kernel_rfl,zar.no _ _⟩
def zPw:Tb Tryz.prog:= {T:= [],mix:=mix,Es:= [],Bs:= [],d:=1}
def zjB (a0:U64) (a1:U64):Tr (T2 U64 U64):=
 let c8:=(Rng.w .u64 ((Rng.w .u64 ((Rng.w .u64 (a0.val.fdiv 4294967296)).val*(Rng.w .u64 (zbI .and .u64 a1.val 4294967295)).val)).val+(Rng.w .u64 ((Rng.w .u64 ((Rng.w .u64 (zbI .and .u64 a0.val 4294967295)).val*(Rng.w .u64 (zbI .and .u64 a1.val 4294967295)).val)).val.fdiv 4294967296)).val));.leaf ⟨(Rng.w .u64 ((Rng.w .u64 ((Rng.w .u64 ((Rng.w .u64 (a0.val.fdiv 4294967296)).val*(Rng.w .u64 (a1.val.fdiv 4294967296)).val)).val+(Rng.w .u64 (c8.val.fdiv 4294967296)).val)).val+(Rng.w .u64 ((Rng.w .u64 ((Rng.w .u64 ((Rng.w .u64 (zbI .and .u64 a0.val 4294967295)).val*(Rng.w .u64 (a1.val.fdiv 4294967296)).val)).val+(Rng.w .u64 (zbI .and .u64 c8.val 4294967295)).val)).val.fdiv 4294967296)).val)),(Rng.w .u64 (a0.val*a1.val))⟩
theorem zvc (a0:U64) (a1:U64):zPw.run B194 [enc a0,enc a1] (T2 U64 U64)=(zjB a0 a1).opt:=by kernel_rfl
def zfX:U64->U64->T2 U64 U64:=fun a0 a1=>(zjB a0 a1).get
theorem zuD (a0:U64) (a1:U64):(zjB a0 a1).opt=some (zfX a0 a1):=Tr.zX (by kernel_rfl)
def zwm:Ent Tryz.prog:= .of2 zPw B194 (fun _ _=>true) zfX fun a0 a1 _=>(zvc a0 a1).trans (zuD a0 a1)
def Y118:TyE Tryz.prog:=⟨118,2,(.struct [(0,2,1),(1,109,1)]),[.i64 ⟨0,rfl⟩,.u64 ⟨0,rfl⟩],true,by kernel_rfl,by kernel_rfl,by kernel_rfl,by kernel_rfl,by kernel_rfl,by kernel_rfl⟩
def B191:Bod Tryz.prog:=⟨191,Tryz.f191,Tryz.f191.body.getD .skip,Tryz.func191,by kernel_rfl,by kernel_rfl,zar.no _ _⟩
def zPz:Tb Tryz.prog:= {T:= [Y2,Y109,Y118],mix:=mix,Es:= [],Bs:= [],d:=1}
def zeI (a0:Wide):Tr (Wide):=
 let c2:=(Rng.w .u64 (0-a0.lo.val));.br (a0.lo.val==0) (.leaf ⟨(Rng.w .i64 (0-a0.hi.val)),c2⟩) (.leaf ⟨(Rng.w .i64 (zbI .xor .i64 (-1) a0.hi.val)),c2⟩)
theorem zve (a0:Wide):zPz.run B191 [enc a0] (Wide)=(zeI a0).opt:=by kernel_rfl
def zba:Wide->Wide:=fun a0=>(zeI a0).get
theorem zuF (a0:Wide):(zeI a0).opt=some (zba a0):=Tr.zX (by kernel_rfl)
def zpQ:Ent Tryz.prog:= .of1 zPz B191 (fun _=>true) zba fun a0 _=>(zve a0).trans (zuF a0)
def Y4:TyE Tryz.prog:=⟨4,1,.bool,[.bool false],false,by kernel_rfl,by kernel_rfl,by kernel_rfl,by kernel_rfl,by kernel_rfl,by kernel_rfl⟩
def B125:Bod Tryz.prog:=⟨125,Tryz.f125,Tryz.f125.body.getD .skip,Tryz.func125,by kernel_rfl,by kernel_rfl,zar.no _ _⟩
def zP4:Tb Tryz.prog:= {T:= [Y2,Y4,Y109,Y118],mix:=mix,Es:= [zpQ,zwm,zxE],Bs:= [],d:=1}
def zlO (a0:I64) (a1:I64):Tr (Wide):=
 let c3:=zfX (zbS a0) (zbS a1);.br (!((decide (a0.val<0))==(decide (a1.val<0)))) (.leaf (zba ⟨(Rng.w .i64 (c3.a.val)),c3.b⟩)) (.leaf ⟨(Rng.w .i64 (c3.a.val)),c3.b⟩)
theorem zzc (a0:I64) (a1:I64):zP4.run B125 [enc a0,enc a1] (Wide)=(zlO a0 a1).opt:=by kernel_rfl
def zfm:I64->I64->Wide:=fun a0 a1=>(zlO a0 a1).get
theorem zyz (a0:I64) (a1:I64):(zlO a0 a1).opt=some (zfm a0 a1):=Tr.zX (by kernel_rfl)
def zr6:Ent Tryz.prog:= .of2 zP4 B125 (fun _ _=>true) zfm fun a0 a1 _=>(zzc a0 a1).trans (zyz a0 a1)
def Y3:TyE Tryz.prog:=⟨3,1,(.int .i64),[.i64 ⟨0,rfl⟩],false,by kernel_rfl,by kernel_rfl,by kernel_rfl,by kernel_rfl,by kernel_rfl,by kernel_rfl⟩
def Y130:TyE Tryz.prog:=⟨130,1,(.int .u64),[.u64 ⟨0,rfl⟩],false,by kernel_rfl,by kernel_rfl,by kernel_rfl,by kernel_rfl,by kernel_rfl,by kernel_rfl⟩
structure zcF where
 x0:U64
 x1:U64
 x2:U64
 x3:U64
 x4:U64
 x5:I64
instance:Inhabited zcF:=⟨⟨default,default,default,default,default,default⟩⟩
def zmu (x:zcF):St:=⟨[(1,.u64 x.x0),(2,.u64 x.x1),(9,.u64 x.x2),(10,.u64 x.x3),(11,.u64 x.x4),(12,.i64 x.x5)],51,⟨[],0,0⟩⟩
def zmy:St->Option zcF:=fun s=>match s with
 | ⟨[(1,.u64 x0),(2,.u64 x1),(9,.u64 x2),(10,.u64 x3),(11,.u64 x4),(12,.i64 x5)],51,⟨[],0,0⟩⟩=>some ⟨x0,x1,x2,x3,x4,x5⟩
 | _=>none
def zdg (x:zcF):Tr (Lp zcF):=
 .br (decide (x.x5.val>=0)) (let c7:=(Rng.w .u64 (zbI .or .u64 (Rng.w .u64 (x.x3.val*2)).val (Rng.w .u64 (zbI .and .u64 (Rng.w .u64 (x.x0.val.fdiv (2^min ((Rng.w .u64 (x.x5.val)).val).toNat 64))).val 1)).val));let c8:=(Rng.w .u64 (x.x4.val*2));.br ((Rng.w .u64 (x.x3.val.fdiv 9223372036854775808)).val==1) (.leaf (.again ⟨x.x0,x.x1,x.x2,(Rng.w .u64 (c7.val-x.x1.val)),(Rng.w .u64 (zbI .or .u64 c8.val 1)),(Rng.w .i64 (x.x5.val-1))⟩)) (.br (decide (c7.val>=x.x1.val)) (.leaf (.again ⟨x.x0,x.x1,x.x2,(Rng.w .u64 (c7.val-x.x1.val)),(Rng.w .u64 (zbI .or .u64 c8.val 1)),(Rng.w .i64 (x.x5.val-1))⟩)) (.leaf (.again ⟨x.x0,x.x1,x.x2,c7,c8,(Rng.w .i64 (x.x5.val-1))⟩)))) (.leaf (.out ⟨x.x0,x.x1,x.x2,x.x3,x.x4,x.x5⟩))
def zg7 (x:zcF):Bool:=(Lf zdg 66 x).opt.isSome
def zjU (x:zcF):zcF:=(Lf zdg 66 x).get
def zqo:Tb Tryz.prog:= {T:= [Y3,Y130],mix:=mix,Es:= [],Bs:= [],d:=1}
def zjT:LpF:=zvO [1,2,9,10,11,12] [] 0 zmy zmu (.exit 0) zg7 zjU
theorem zqn:zkp Tryz.prog (zo2 (Tryz.f190.body.getD .skip) 0) zjT:=zl4 (t:=zqo) (lt:=fun _=>none) (body:=zdg) (n:=66) (by intro h;cases h) (fun _ _ _ h=>by cases h)
 (by intro s x h;unfold zmy at h;split at h<;>cases h;rfl) (fun x b cs h=>zvP (l:=(zmu x).mm.blks) (by kernel_rfl) h) (by intro x;kernel_rfl) (fun x h=>Tr.get_some h)
def B190:Bod Tryz.prog:=⟨190,Tryz.f190,Tryz.f190.body.getD .skip,Tryz.func190,by kernel_rfl,by kernel_rfl,⟨ltOf [(5,zjT)],zar.of (ks:= [5]) (by kernel_rfl) (by
 intro i k h f hf
 match i,h with
 | 0,h=>cases h;obtain rfl:zjT=f:=Option.some.inj hf;exact zqn
 | n+1,h=>simp at h)⟩⟩
def zPA:Tb Tryz.prog:= {T:= [Y3,Y130],mix:=mix,Es:= [],Bs:= [],d:=1}
def zgt (a0:U64) (a1:U64) (a2:U64):Tr (T3 U64 U64 U64):=
 .br (a2.val==0) (.bad) (let c1:=(Rng.w .u64 (a0.val.tdiv a2.val));.br (a2.val==0) (.bad) (let c2:=(Rng.w .u64 (a0.val.tmod a2.val));.br (zg7 ⟨a1,a2,c1,c2,⟨0,rfl⟩,⟨63,rfl⟩⟩) (let c17:=zjU ⟨a1,a2,c1,c2,⟨0,rfl⟩,⟨63,rfl⟩⟩;.leaf ⟨c17.x2,c17.x4,c17.x3⟩) (.bad)))
theorem ztO (a0:U64) (a1:U64) (a2:U64):zPA.run B190 [enc a0,enc a1,enc a2] (T3 U64 U64 U64)=(zgt a0 a1 a2).opt:=by kernel_rfl
def zcQ:U64->U64->U64->T3 U64 U64 U64:=fun a0 a1 a2=>(zgt a0 a1 a2).get
def zgD:U64->U64->U64->Bool:=fun a0 a1 a2=>(zgt a0 a1 a2).opt.isSome
def zt4:Ent Tryz.prog:= .of3 zPA B190 zgD zcQ fun a0 a1 a2 h=>(ztO a0 a1 a2).trans (Tr.get_some h)
def B193:Bod Tryz.prog:=⟨193,Tryz.f193,Tryz.f193.body.getD .skip,Tryz.func193,by kernel_rfl,by kernel_rfl,zar.no _ _⟩
def zPx:Tb Tryz.prog:= {T:= [Y2,Y109,Y118],mix:=mix,Es:= [],Bs:= [],d:=1}
def zm1 (a0:I64):Tr (Wide):=
 .br (decide (a0.val<0)) (.leaf ⟨⟨(-1),rfl⟩,(Rng.w .u64 (a0.val))⟩) (.leaf ⟨⟨0,rfl⟩,(Rng.w .u64 (a0.val))⟩)
theorem zAW (a0:I64):zPx.run B193 [enc a0] (Wide)=(zm1 a0).opt:=by kernel_rfl
def zer:I64->Wide:=fun a0=>(zm1 a0).get
theorem zAo (a0:I64):(zm1 a0).opt=some (zer a0):=Tr.zX (by kernel_rfl)
def ztB:Ent Tryz.prog:= .of1 zPx B193 (fun _=>true) zer fun a0 _=>(zAW a0).trans (zAo a0)
def B192:Bod Tryz.prog:=⟨192,Tryz.f192,Tryz.f192.body.getD .skip,Tryz.func192,by kernel_rfl,by kernel_rfl,zar.no _ _⟩
def zPy:Tb Tryz.prog:= {T:= [Y2,Y109,Y118],mix:=mix,Es:= [],Bs:= [],d:=1}
def ziC (a0:Wide) (a1:Wide):Tr (Wide):=
 let c1:=(Rng.w .i64 (a0.hi.val+a1.hi.val));let c2:=(Rng.w .u64 (a0.lo.val+a1.lo.val));.br (decide (c2.val<a0.lo.val)) (.leaf ⟨(Rng.w .i64 (c1.val+1)),c2⟩) (.leaf ⟨c1,c2⟩)
theorem zw6 (a0:Wide) (a1:Wide):zPy.run B192 [enc a0,enc a1] (Wide)=(ziC a0 a1).opt:=by kernel_rfl
def zgQ:Wide->Wide->Wide:=fun a0 a1=>(ziC a0 a1).get
theorem zwJ (a0:Wide) (a1:Wide):(ziC a0 a1).opt=some (zgQ a0 a1):=Tr.zX (by kernel_rfl)
def zxF:Ent Tryz.prog:= .of2 zPy B192 (fun _ _=>true) zgQ fun a0 a1 _=>(zw6 a0 a1).trans (zwJ a0 a1)
def B124:Bod Tryz.prog:=⟨124,Tryz.f124,Tryz.f124.body.getD .skip,Tryz.func124,by kernel_rfl,by kernel_rfl,zar.no _ _⟩
def zP5:Tb Tryz.prog:= {T:= [Y2,Y109,Y118],mix:=mix,Es:= [zt4,zpQ,zxF,ztB],Bs:= [],d:=1}
def zhO (a0:Wide) (a1:I64):Tr (T2 Wide I64):=
 .br (decide (a0.hi.val>=0)) (.br (zgD (Rng.w .u64 (a0.hi.val)) a0.lo (Rng.w .u64 (a1.val))) (let c1:=zcQ (Rng.w .u64 (a0.hi.val)) a0.lo (Rng.w .u64 (a1.val));.leaf ⟨⟨(Rng.w .i64 (c1.a.val)),c1.b⟩,(Rng.w .i64 (c1.c.val))⟩) (.bad)) (let c2:=zba a0;.br (zgD (Rng.w .u64 (c2.hi.val)) c2.lo (Rng.w .u64 (a1.val))) (let c3:=zcQ (Rng.w .u64 (c2.hi.val)) c2.lo (Rng.w .u64 (a1.val));let c4:=zba ⟨(Rng.w .i64 (c3.a.val)),c3.b⟩;.br (c3.c.val==0) (.leaf ⟨c4,⟨0,rfl⟩⟩) (.leaf ⟨(zgQ c4 (zer ⟨(-1),rfl⟩)),(Rng.w .i64 (a1.val-(Rng.w .i64 (c3.c.val)).val))⟩)) (.bad))
theorem zze (a0:Wide) (a1:I64):zP5.run B124 [enc a0,enc a1] (T2 Wide I64)=(zhO a0 a1).opt:=by kernel_rfl
def zoO:Wide->I64->T2 Wide I64:=fun a0 a1=>(zhO a0 a1).get
def zl6:Wide->I64->Bool:=fun a0 a1=>(zhO a0 a1).opt.isSome
def zz6:Ent Tryz.prog:= .of2 zP5 B124 zl6 zoO fun a0 a1 h=>(zze a0 a1).trans (Tr.get_some h)
def B126:Bod Tryz.prog:=⟨126,Tryz.f126,Tryz.f126.body.getD .skip,Tryz.func126,by kernel_rfl,by kernel_rfl,zar.no _ _⟩
def zP3:Tb Tryz.prog:= {T:= [Y2,Y109,Y118],mix:=mix,Es:= [ztB],Bs:= [],d:=1}
def zod (a0:Wide):Tr (T2 I64 Bool):=
 let c1:=zer (Rng.w .i64 (a0.lo.val));.br (!((c1.hi.val==a0.hi.val)&&((c1.lo.val==a0.lo.val)&&true))) (.leaf ⟨⟨0,rfl⟩,false⟩) (.leaf ⟨(Rng.w .i64 (a0.lo.val)),true⟩)
theorem zzd (a0:Wide):zP3.run B126 [enc a0] (T2 I64 Bool)=(zod a0).opt:=by kernel_rfl
def zj7:Wide->T2 I64 Bool:=fun a0=>(zod a0).get
theorem zyA (a0:Wide):(zod a0).opt=some (zj7 a0):=Tr.zX (by kernel_rfl)
def zr7:Ent Tryz.prog:= .of1 zP3 B126 (fun _=>true) zj7 fun a0 _=>(zzd a0).trans (zyA a0)
def B69:Bod Tryz.prog:=⟨69,Tryz.f69,Tryz.f69.body.getD .skip,Tryz.func69,by kernel_rfl,by kernel_rfl,zar.no _ _⟩
def Tb69:Tb Tryz.prog:= {T:= [Y2,Y109,Y118],mix:=mix,Es:= [zz6,zr6,zr7],Bs:= [],d:=1}
def zd1 (a0:I64) (a1:I64) (a2:I64):Tr (T2 I64 Bool):=
 .br (decide (a2.val<=0)) (.leaf ⟨⟨0,rfl⟩,false⟩) (let c1:=zfm a0 a1;.br (zl6 c1 a2) (let c3:=zj7 (zoO c1 a2).a;.leaf ⟨c3.a,c3.b⟩) (.bad))
theorem zrB (a0:I64) (a1:I64) (a2:I64):Tb69.run B69 [enc a0,enc a1,enc a2] (T2 I64 Bool)=(zd1 a0 a1 a2).opt:=by kernel_rfl
def zbv:I64->I64->I64->T2 I64 Bool:=fun a0 a1 a2=>(zd1 a0 a1 a2).get
def zcd:I64->I64->I64->Bool:=fun a0 a1 a2=>(zd1 a0 a1 a2).opt.isSome
def znt:Ent Tryz.prog:= .of3 Tb69 B69 zcd zbv fun a0 a1 a2 h=>(zrB a0 a1 a2).trans (Tr.get_some h)
def zhg (a0:I64):Tr (Bool):=
 .leaf (zaf a0 ⟨(-1152921504606846976),rfl⟩ ⟨1152921504606846976,rfl⟩)
def zJ:I64->Bool:=fun a0=>(zhg a0).get
def zei (a0:I64) (a1:Bool):Tr (T2 I64 Bool):=
 .br (!a1) (.leaf ⟨⟨0,rfl⟩,false⟩) (.br (!(zJ a0)) (.leaf ⟨⟨0,rfl⟩,false⟩) (.leaf ⟨a0,true⟩))
def zaJ:I64->Bool->T2 I64 Bool:=fun a0 a1=>(zei a0 a1).get
def zhi (a0:I64) (a1:I64):Tr (T2 I64 Bool):=
 .br (decide (a1.val<=0)) (.leaf ⟨⟨0,rfl⟩,false⟩) (.br (zcd a0 ⟨4294967296,rfl⟩ a1) (let c1:=zbv a0 ⟨4294967296,rfl⟩ a1;let c2:=zaJ c1.a c1.b;.leaf ⟨c2.a,c2.b⟩) (.bad))
def zmP:I64->I64->T2 I64 Bool:=fun a0 a1=>(zhi a0 a1).get
def zjY:I64->I64->Bool:=fun a0 a1=>(zhi a0 a1).opt.isSome
def ziB (a0:I64) (a1:I64):Tr (T2 I64 Bool):=
 .br (decide (a1.val<=0)) (.leaf ⟨⟨0,rfl⟩,false⟩) (.br (zcd a0 ⟨4294967296,rfl⟩ a1) (let c1:=zbv a0 ⟨4294967296,rfl⟩ a1;.br (!c1.b) (.leaf ⟨⟨0,rfl⟩,false⟩) (.br ((Rng.w .i64 (c1.a.val*a1.val)).val != (Rng.w .i64 (a0.val*4294967296)).val) (let c5:=zaJ (Rng.w .i64 (c1.a.val+1)) true;.leaf ⟨c5.a,c5.b⟩) (let c6:=zaJ c1.a true;.leaf ⟨c6.a,c6.b⟩))) (.bad))
def znL:I64->I64->T2 I64 Bool:=fun a0 a1=>(ziB a0 a1).get
def zk8:I64->I64->Bool:=fun a0 a1=>(ziB a0 a1).opt.isSome
def B60:Bod Tryz.prog:=⟨60,Tryz.f60,Tryz.f60.body.getD .skip,Tryz.func60,by kernel_rfl,by kernel_rfl,zar.no _ _⟩
def Tb60:Tb Tryz.prog:= {T:= [Y2,Y32],mix:=mix,Es:= [],Bs:= [],d:=1}
def zjf (a0:Iv):Tr (Bool):=
 .br (decide ((-1152921504606846976)<a0.lo.val)) (.br (decide (a0.lo.val<=a0.hi.val)) (.leaf (decide (a0.hi.val<1152921504606846976))) (.leaf false)) (.leaf false)
theorem zAV (a0:Iv):Tb60.run B60 [enc a0] (Bool)=(zjf a0).opt:=by kernel_rfl
def za:Iv->Bool:=fun a0=>(zjf a0).get
theorem zAn (a0:Iv):(zjf a0).opt=some (za a0):=Tr.zX (by kernel_rfl)
def zjq:Ent Tryz.prog:= .of1 Tb60 B60 (fun _=>true) za fun a0 _=>(zAV a0).trans (zAn a0)
def B65:Bod Tryz.prog:=⟨65,Tryz.f65,Tryz.f65.body.getD .skip,Tryz.func65,by kernel_rfl,by kernel_rfl,zar.no _ _⟩
def Tb65:Tb Tryz.prog:= {T:= [Y2,Y32],mix:=mix,Es:= [zjq,zhJ],Bs:= [],d:=1}
def zfo (a0:I64) (a1:I64):Tr (Iv):=
 .br (!(za ⟨a0,a1⟩)) (.leaf zh) (.leaf ⟨a0,a1⟩)
theorem zw3 (a0:I64) (a1:I64):Tb65.run B65 [enc a0,enc a1] (Iv)=(zfo a0 a1).opt:=by kernel_rfl
def zU:I64->I64->Iv:=fun a0 a1=>(zfo a0 a1).get
theorem zwG (a0:I64) (a1:I64):(zfo a0 a1).opt=some (zU a0 a1):=Tr.zX (by kernel_rfl)
def zqE:Ent Tryz.prog:= .of2 Tb65 B65 (fun _ _=>true) zU fun a0 a1 _=>(zw3 a0 a1).trans (zwG a0 a1)
def zmn (a0:I64) (a1:I64):Tr (Iv):=
 .br (decide (a1.val<0)) (.br (a0.val==(-9223372036854775808)) (.leaf zh) (.br (a1.val==(-9223372036854775808)) (.leaf zh) (let c5:=(Rng.w .i64 (0-a0.val));let c6:=(Rng.w .i64 (0-a1.val));.br (zjY c5 c6) (let c7:=zmP c5 c6;.br (zk8 c5 c6) (let c8:=znL c5 c6;.br (!c7.b) (.leaf zh) (.br (!c8.b) (.leaf zh) (.leaf (zU c7.a c8.a)))) (.bad)) (.bad)))) (.br (zjY a0 a1) (let c12:=zmP a0 a1;.br (zk8 a0 a1) (let c13:=znL a0 a1;.br (!c12.b) (.leaf zh) (.br (!c13.b) (.leaf zh) (.leaf (zU c12.a c13.a)))) (.bad)) (.bad))
def zQ:I64->I64->Iv:=fun a0 a1=>(zmn a0 a1).get
def B142:Bod Tryz.prog:=⟨142,Tryz.f142,Tryz.f142.body.getD .skip,Tryz.func142,by kernel_rfl,by kernel_rfl,zar.no _ _⟩
def zPN:Tb Tryz.prog:= {T:= [Y2,Y32],mix:=mix,Es:= [],Bs:= [],d:=1}
def zpm:Tr (Iv):=
 .leaf ⟨⟨(-1152921504606846976),rfl⟩,⟨1152921504606846976,rfl⟩⟩
theorem zA5:zPN.run B142 [] (Iv)=(zpm).opt:=by kernel_rfl
def zD:Iv:=(zpm).get
theorem zAw:(zpm).opt=some (zD):=Tr.zX (by kernel_rfl)
def zah:Ent Tryz.prog:= .of0 zPN B142 zD (zA5.trans zAw)
def B266:Bod Tryz.prog:=⟨266,Tryz.f266,Tryz.f266.body.getD .skip,Tryz.func266,by kernel_rfl,by kernel_rfl,zar.no _ _⟩
def zOU:Tb Tryz.prog:= {T:= [],mix:=mix,Es:= [],Bs:= [],d:=1}
def zhU (a0:U64) (a1:U64):Tr (T2 U64 U64):=
 let c1:=(Rng.w .u64 (zbI .and .u64 a0.val 4294967295));let c2:=(Rng.w .u64 (a0.val.fdiv 4294967296));let c3:=(Rng.w .u64 (zbI .and .u64 a1.val 4294967295));let c4:=(Rng.w .u64 (a1.val.fdiv 4294967296));let c8:=(Rng.w .u64 ((Rng.w .u64 (c2.val*c3.val)).val+(Rng.w .u64 ((Rng.w .u64 (c1.val*c3.val)).val.fdiv 4294967296)).val));.leaf ⟨(Rng.w .u64 ((Rng.w .u64 ((Rng.w .u64 (c2.val*c4.val)).val+(Rng.w .u64 (c8.val.fdiv 4294967296)).val)).val+(Rng.w .u64 ((Rng.w .u64 ((Rng.w .u64 (zbI .and .u64 c8.val 4294967295)).val+(Rng.w .u64 (c1.val*c4.val)).val)).val.fdiv 4294967296)).val)),(Rng.w .u64 (a0.val*a1.val))⟩
theorem zsu (a0:U64) (a1:U64):zOU.run B266 [enc a0,enc a1] (T2 U64 U64)=(zhU a0 a1).opt:=by kernel_rfl
def zeE:U64->U64->T2 U64 U64:=fun a0 a1=>(zhU a0 a1).get
theorem zsi (a0:U64) (a1:U64):(zhU a0 a1).opt=some (zeE a0 a1):=Tr.zX (by kernel_rfl)
def zoa:Ent Tryz.prog:= .of2 zOU B266 (fun _ _=>true) zeE fun a0 a1 _=>(zsu a0 a1).trans (zsi a0 a1)
def B229:Bod Tryz.prog:=⟨229,Tryz.f229,Tryz.f229.body.getD .skip,Tryz.func229,by kernel_rfl,by kernel_rfl,zar.no _ _⟩
def zPg:Tb Tryz.prog:= {T:= [Y2,Y109,Y118],mix:=mix,Es:= [zoa],Bs:= [],d:=1}
def zkY (a0:I64) (a1:I64):Tr (Wide):=
 let c1:=zeE (Rng.w .u64 (a0.val)) (Rng.w .u64 (a1.val));.br (decide (a0.val<0)) (let c2:=(Rng.w .u64 (c1.a.val-(Rng.w .u64 (a1.val)).val));.br (decide (a1.val<0)) (.leaf ⟨(Rng.w .i64 ((Rng.w .u64 (c2.val-(Rng.w .u64 (a0.val)).val)).val)),c1.b⟩) (.leaf ⟨(Rng.w .i64 (c2.val)),c1.b⟩)) (.br (decide (a1.val<0)) (.leaf ⟨(Rng.w .i64 ((Rng.w .u64 (c1.a.val-(Rng.w .u64 (a0.val)).val)).val)),c1.b⟩) (.leaf ⟨(Rng.w .i64 (c1.a.val)),c1.b⟩))
theorem zxg (a0:I64) (a1:I64):zPg.run B229 [enc a0,enc a1] (Wide)=(zkY a0 a1).opt:=by kernel_rfl
def zco:I64->I64->Wide:=fun a0 a1=>(zkY a0 a1).get
theorem zwR (a0:I64) (a1:I64):(zkY a0 a1).opt=some (zco a0 a1):=Tr.zX (by kernel_rfl)
def zgW:Ent Tryz.prog:= .of2 zPg B229 (fun _ _=>true) zco fun a0 a1 _=>(zxg a0 a1).trans (zwR a0 a1)
def Y5:TyE Tryz.prog:=⟨5,1,(.int .u8),[.u8 ⟨0,rfl⟩],false,by kernel_rfl,by kernel_rfl,by kernel_rfl,by kernel_rfl,by kernel_rfl,by kernel_rfl⟩
def Y9:TyE Tryz.prog:=⟨9,1,.str,[.str ByteArray.empty],false,by kernel_rfl,by kernel_rfl,by kernel_rfl,by kernel_rfl,by kernel_rfl,by kernel_rfl⟩
def zjv (i:Nat):ByteArray:=(zoG (Tryz.f335.body.getD .skip)).getD i ByteArray.empty
def B335:Bod Tryz.prog:=⟨335,Tryz.f335,Tryz.f335.body.getD .skip,Tryz.func335,by kernel_rfl,by kernel_rfl,zar.no _ _⟩
def zOn:Tb Tryz.prog:= {T:= [Y3,Y5,Y9,Y109],mix:=mix,Es:= [],Bs:= [],d:=1}
def zfM (a0:U64):Tr (I64):=
 .br (decide (a0.val>=4294967296)) (let c2:=(Rng.w .u64 (a0.val.fdiv 4294967296));.br (decide (c2.val>=65536)) (let c4:=(Rng.w .u64 (c2.val.fdiv 65536));.br (decide (c4.val>=256)) (let c5:=(Rng.w .u64 (c4.val.fdiv 256));.br (Nat.blt ((Rng.w .u8 (c5.val)).val.toNat) (zjv 0).size) (.leaf (Rng.w .i64 (56+(Rng.w .i64 ((zmt (zjv 0) ((Rng.w .u8 (c5.val)).val.toNat)).val)).val))) (.bad)) (.br (Nat.blt ((Rng.w .u8 (c4.val)).val.toNat) (zjv 0).size) (.leaf (Rng.w .i64 (48+(Rng.w .i64 ((zmt (zjv 0) ((Rng.w .u8 (c4.val)).val.toNat)).val)).val))) (.bad))) (.br (decide (c2.val>=256)) (let c10:=(Rng.w .u64 (c2.val.fdiv 256));.br (Nat.blt ((Rng.w .u8 (c10.val)).val.toNat) (zjv 0).size) (.leaf (Rng.w .i64 (40+(Rng.w .i64 ((zmt (zjv 0) ((Rng.w .u8 (c10.val)).val.toNat)).val)).val))) (.bad)) (.br (Nat.blt ((Rng.w .u8 (c2.val)).val.toNat) (zjv 0).size) (.leaf (Rng.w .i64 (32+(Rng.w .i64 ((zmt (zjv 0) ((Rng.w .u8 (c2.val)).val.toNat)).val)).val))) (.bad)))) (.br (decide (a0.val>=65536)) (let c16:=(Rng.w .u64 (a0.val.fdiv 65536));.br (decide (c16.val>=256)) (let c17:=(Rng.w .u64 (c16.val.fdiv 256));.br (Nat.blt ((Rng.w .u8 (c17.val)).val.toNat) (zjv 0).size) (.leaf (Rng.w .i64 (24+(Rng.w .i64 ((zmt (zjv 0) ((Rng.w .u8 (c17.val)).val.toNat)).val)).val))) (.bad)) (.br (Nat.blt ((Rng.w .u8 (c16.val)).val.toNat) (zjv 0).size) (.leaf (Rng.w .i64 (16+(Rng.w .i64 ((zmt (zjv 0) ((Rng.w .u8 (c16.val)).val.toNat)).val)).val))) (.bad))) (.br (decide (a0.val>=256)) (let c22:=(Rng.w .u64 (a0.val.fdiv 256));.br (Nat.blt ((Rng.w .u8 (c22.val)).val.toNat) (zjv 0).size) (.leaf (Rng.w .i64 (8+(Rng.w .i64 ((zmt (zjv 0) ((Rng.w .u8 (c22.val)).val.toNat)).val)).val))) (.bad)) (.br (Nat.blt ((Rng.w .u8 (a0.val)).val.toNat) (zjv 0).size) (.leaf (Rng.w .i64 (0+(Rng.w .i64 ((zmt (zjv 0) ((Rng.w .u8 (a0.val)).val.toNat)).val)).val))) (.bad))))
theorem zsv (a0:U64):zOn.run B335 [enc a0] (I64)=(zfM a0).opt:=by kernel_rfl
def zkH:U64->I64:=fun a0=>(zfM a0).get
def zia:U64->Bool:=fun a0=>(zfM a0).opt.isSome
def ztb:Ent Tryz.prog:= .of1 zOn B335 zia zkH fun a0 h=>(zsv a0).trans (Tr.get_some h)
def B329:Bod Tryz.prog:=⟨329,Tryz.f329,Tryz.f329.body.getD .skip,Tryz.func329,by kernel_rfl,by kernel_rfl,zar.no _ _⟩
def zOo:Tb Tryz.prog:= {T:= [],mix:=mix,Es:= [ztb],Bs:= [],d:=1}
def zcx (a0:U64):Tr (I64):=
 .br (zia a0) (.leaf (Rng.w .i64 (64-(zkH a0).val))) (.bad)
theorem zmV (a0:U64):zOo.run B329 [enc a0] (I64)=(zcx a0).opt:=by kernel_rfl
def zeW:U64->I64:=fun a0=>(zcx a0).get
def zdu:U64->Bool:=fun a0=>(zcx a0).opt.isSome
def zmW:Ent Tryz.prog:= .of1 zOo B329 zdu zeW fun a0 h=>(zmV a0).trans (Tr.get_some h)
structure zbf where
 x0:U64
 x1:U64
 x2:U64
 x3:U64
 x4:U64
 x5:U64
 x6:U64
 x7:U64
 x8:U64
instance:Inhabited zbf:=⟨⟨default,default,default,default,default,default,default,default,default⟩⟩
def zlj (x:zbf):St:=⟨[(2,.u64 x.x0),(8,.u64 x.x1),(9,.u64 x.x2),(10,.u64 x.x3),(11,.u64 x.x4),(13,.u64 x.x5),(14,.u64 x.x6),(15,.u64 x.x7),(16,.u64 x.x8)],135,⟨[],0,0⟩⟩
def zll:St->Option zbf:=fun s=>match s with
 | ⟨[(2,.u64 x0),(8,.u64 x1),(9,.u64 x2),(10,.u64 x3),(11,.u64 x4),(13,.u64 x5),(14,.u64 x6),(15,.u64 x7),(16,.u64 x8)],135,⟨[],0,0⟩⟩=>some ⟨x0,x1,x2,x3,x4,x5,x6,x7,x8⟩
 | _=>none
def zbd (x:zbf):Tr (Lp zbf):=
 .br (decide (x.x7.val>=4294967296)) (let c19:=(Rng.w .u64 (x.x7.val-1));let c20:=(Rng.w .u64 (x.x8.val+x.x2.val));.br (decide (c20.val>=4294967296)) (.leaf (.out ⟨x.x0,x.x1,x.x2,x.x3,x.x4,x.x5,x.x6,c19,c20⟩)) (.leaf (.again ⟨x.x0,x.x1,x.x2,x.x3,x.x4,x.x5,x.x6,c19,c20⟩))) (.br (decide ((Rng.w .u64 (x.x7.val*x.x3.val)).val>(Rng.w .u64 ((Rng.w .u64 (4294967296*x.x8.val)).val+x.x5.val)).val)) (let c26:=(Rng.w .u64 (x.x7.val-1));let c27:=(Rng.w .u64 (x.x8.val+x.x2.val));.br (decide (c27.val>=4294967296)) (.leaf (.out ⟨x.x0,x.x1,x.x2,x.x3,x.x4,x.x5,x.x6,c26,c27⟩)) (.leaf (.again ⟨x.x0,x.x1,x.x2,x.x3,x.x4,x.x5,x.x6,c26,c27⟩))) (.leaf (.out ⟨x.x0,x.x1,x.x2,x.x3,x.x4,x.x5,x.x6,x.x7,x.x8⟩)))
def zfG (x:zbf):Bool:=(Lf zbd 4 x).opt.isSome
def ziw (x:zbf):zbf:=(Lf zbd 4 x).get
def zpd:Tb Tryz.prog:= {T:= [],mix:=mix,Es:= [],Bs:= [],d:=1}
def zit:LpF:=zvO [2,8,9,10,11,13,14,15,16] [] 0 zll zlj (.exit 0) zfG ziw
theorem zpa:zkp Tryz.prog (zo2 (Tryz.f311.body.getD .skip) 0) zit:=zl4 (t:=zpd) (lt:=fun _=>none) (body:=zbd) (n:=4) (by intro h;cases h) (fun _ _ _ h=>by cases h)
 (by intro s x h;unfold zll at h;split at h<;>cases h;rfl) (fun x b cs h=>zvP (l:=(zlj x).mm.blks) (by kernel_rfl) h) (by intro x;kernel_rfl) (fun x h=>Tr.get_some h)
structure zbe where
 x0:U64
 x1:U64
 x2:U64
 x3:U64
 x4:U64
 x5:U64
 x6:U64
 x7:U64
 x8:U64
instance:Inhabited zbe:=⟨⟨default,default,default,default,default,default,default,default,default⟩⟩
def zli (x:zbe):St:=⟨[(2,.u64 x.x0),(8,.u64 x.x1),(9,.u64 x.x2),(10,.u64 x.x3),(14,.u64 x.x4),(15,.u64 x.x5),(16,.u64 x.x6),(17,.u64 x.x7),(18,.u64 x.x8)],135,⟨[],0,0⟩⟩
def zlk:St->Option zbe:=fun s=>match s with
 | ⟨[(2,.u64 x0),(8,.u64 x1),(9,.u64 x2),(10,.u64 x3),(14,.u64 x4),(15,.u64 x5),(16,.u64 x6),(17,.u64 x7),(18,.u64 x8)],135,⟨[],0,0⟩⟩=>some ⟨x0,x1,x2,x3,x4,x5,x6,x7,x8⟩
 | _=>none
def zbc (x:zbe):Tr (Lp zbe):=
 .br (decide (x.x8.val>=4294967296)) (let c38:=(Rng.w .u64 (x.x8.val-1));let c39:=(Rng.w .u64 (x.x6.val+x.x2.val));.br (decide (c39.val>=4294967296)) (.leaf (.out ⟨x.x0,x.x1,x.x2,x.x3,x.x4,x.x5,c39,x.x7,c38⟩)) (.leaf (.again ⟨x.x0,x.x1,x.x2,x.x3,x.x4,x.x5,c39,x.x7,c38⟩))) (.br (decide ((Rng.w .u64 (x.x8.val*x.x3.val)).val>(Rng.w .u64 ((Rng.w .u64 (4294967296*x.x6.val)).val+x.x4.val)).val)) (let c45:=(Rng.w .u64 (x.x8.val-1));let c46:=(Rng.w .u64 (x.x6.val+x.x2.val));.br (decide (c46.val>=4294967296)) (.leaf (.out ⟨x.x0,x.x1,x.x2,x.x3,x.x4,x.x5,c46,x.x7,c45⟩)) (.leaf (.again ⟨x.x0,x.x1,x.x2,x.x3,x.x4,x.x5,c46,x.x7,c45⟩))) (.leaf (.out ⟨x.x0,x.x1,x.x2,x.x3,x.x4,x.x5,x.x6,x.x7,x.x8⟩)))
def zfF (x:zbe):Bool:=(Lf zbc 4 x).opt.isSome
def ziv (x:zbe):zbe:=(Lf zbc 4 x).get
def zpc:Tb Tryz.prog:= {T:= [],mix:=mix,Es:= [],Bs:= [],d:=1}
def zis:LpF:=zvO [2,8,9,10,14,15,16,17,18] [] 0 zlk zli (.exit 2) zfF ziv
theorem zo9:zkp Tryz.prog (zo2 (Tryz.f311.body.getD .skip) 1) zis:=zl4 (t:=zpc) (lt:=fun _=>none) (body:=zbc) (n:=4) (by intro h;cases h) (fun _ _ _ h=>by cases h)
 (by intro s x h;unfold zlk at h;split at h<;>cases h;rfl) (fun x b cs h=>zvP (l:=(zli x).mm.blks) (by kernel_rfl) h) (by intro x;kernel_rfl) (fun x h=>Tr.get_some h)
def B311:Bod Tryz.prog:=⟨311,Tryz.f311,Tryz.f311.body.getD .skip,Tryz.func311,by kernel_rfl,by kernel_rfl,⟨ltOf [(17,zit),(24,zis)],zar.of (ks:= [17,24]) (by kernel_rfl) (by
 intro i k h f hf
 match i,h with
 | 0,h=>cases h;obtain rfl:zit=f:=Option.some.inj hf;exact zpa
 | 1,h=>cases h;obtain rfl:zis=f:=Option.some.inj hf;exact zo9
 | n+2,h=>simp at h)⟩⟩
def zOv:Tb Tryz.prog:= {T:= [Y3,Y130],mix:=mix,Es:= [zmW],Bs:= [],d:=1}
def zeA (a0:U64) (a1:U64) (a2:U64):Tr (T2 U64 U64):=
 .br (a2.val==0) (.bad) (.br (decide (a2.val<=a0.val)) (.bad) (.br (a0.val==0) (.br (a2.val==0) (.bad) (.br (a2.val==0) (.bad) (.leaf ⟨(Rng.w .u64 (a1.val.tdiv a2.val)),(Rng.w .u64 (a1.val.tmod a2.val))⟩))) (.br (zdu a2) (let c4:=zeW a2;let c5:=(Rng.w .u64 (a2.val*(2^min ((Rng.w .u64 (c4.val)).val).toNat 64)));let c6:=(Rng.w .u64 (c5.val.fdiv 4294967296));let c7:=(Rng.w .u64 (zbI .and .u64 c5.val 4294967295));let c11:=(Rng.w .u64 (zbI .or .u64 (Rng.w .u64 (a0.val*(2^min ((Rng.w .u64 (c4.val)).val).toNat 64))).val (Rng.w .u64 (a1.val.fdiv (2^min ((Rng.w .u64 (64-(Rng.w .u64 (c4.val)).val)).val).toNat 64))).val));let c12:=(Rng.w .u64 (a1.val*(2^min ((Rng.w .u64 (c4.val)).val).toNat 64)));let c13:=(Rng.w .u64 (c12.val.fdiv 4294967296));let c14:=(Rng.w .u64 (zbI .and .u64 c12.val 4294967295));.br (c6.val==0) (.bad) (let c15:=(Rng.w .u64 (c11.val.tdiv c6.val));let c17:=(Rng.w .u64 (c11.val-(Rng.w .u64 (c15.val*c6.val)).val));.br (zfG ⟨c5,(Rng.w .u64 (c4.val)),c6,c7,c11,c13,c14,c15,c17⟩) (let c29:=ziw ⟨c5,(Rng.w .u64 (c4.val)),c6,c7,c11,c13,c14,c15,c17⟩;let c33:=(Rng.w .u64 ((Rng.w .u64 ((Rng.w .u64 (c29.x4.val*4294967296)).val+c29.x5.val)).val-(Rng.w .u64 (c29.x7.val*c29.x0.val)).val));.br (c29.x2.val==0) (.bad) (let c34:=(Rng.w .u64 (c33.val.tdiv c29.x2.val));let c36:=(Rng.w .u64 (c33.val-(Rng.w .u64 (c34.val*c29.x2.val)).val));.br (zfF ⟨c29.x0,c29.x1,c29.x2,c29.x3,c29.x6,c29.x7,c36,c33,c34⟩) (let c48:=ziv ⟨c29.x0,c29.x1,c29.x2,c29.x3,c29.x6,c29.x7,c36,c33,c34⟩;.leaf ⟨(Rng.w .u64 ((Rng.w .u64 (c48.x5.val*4294967296)).val+c48.x8.val)),(Rng.w .u64 ((Rng.w .u64 ((Rng.w .u64 ((Rng.w .u64 (c48.x7.val*4294967296)).val+c48.x4.val)).val-(Rng.w .u64 (c48.x8.val*c48.x0.val)).val)).val.fdiv (2^min (c48.x1.val).toNat 64)))⟩) (.bad))) (.bad))) (.bad))))
theorem zsw (a0:U64) (a1:U64) (a2:U64):zOv.run B311 [enc a0,enc a1,enc a2] (T2 U64 U64)=(zeA a0 a1 a2).opt:=by kernel_rfl
def zkI:U64->U64->U64->T2 U64 U64:=fun a0 a1 a2=>(zeA a0 a1 a2).get
def zib:U64->U64->U64->Bool:=fun a0 a1 a2=>(zeA a0 a1 a2).opt.isSome
def ztc:Ent Tryz.prog:= .of3 zOv B311 zib zkI fun a0 a1 a2 h=>(zsw a0 a1 a2).trans (Tr.get_some h)
def B275:Bod Tryz.prog:=⟨275,Tryz.f275,Tryz.f275.body.getD .skip,Tryz.func275,by kernel_rfl,by kernel_rfl,zar.no _ _⟩
def zOP:Tb Tryz.prog:= {T:= [],mix:=mix,Es:= [ztc],Bs:= [],d:=1}
def ziD (a0:U64) (a1:U64) (a2:U64):Tr (T3 U64 U64 U64):=
 .br (a2.val==0) (.bad) (.br (a2.val==0) (.bad) (let c2:=(Rng.w .u64 (a0.val.tmod a2.val));.br (zib c2 a1 a2) (let c3:=zkI c2 a1 a2;.leaf ⟨(Rng.w .u64 (a0.val.tdiv a2.val)),c3.a,c3.b⟩) (.bad)))
theorem zxd (a0:U64) (a1:U64) (a2:U64):zOP.run B275 [enc a0,enc a1,enc a2] (T3 U64 U64 U64)=(ziD a0 a1 a2).opt:=by kernel_rfl
def zla:U64->U64->U64->T3 U64 U64 U64:=fun a0 a1 a2=>(ziD a0 a1 a2).get
def ziK:U64->U64->U64->Bool:=fun a0 a1 a2=>(ziD a0 a1 a2).opt.isSome
def zxI:Ent Tryz.prog:= .of3 zOP B275 ziK zla fun a0 a1 a2 h=>(zxd a0 a1 a2).trans (Tr.get_some h)
def B276:Bod Tryz.prog:=⟨276,Tryz.f276,Tryz.f276.body.getD .skip,Tryz.func276,by kernel_rfl,by kernel_rfl,zar.no _ _⟩
def zOO:Tb Tryz.prog:= {T:= [Y2,Y109,Y118],mix:=mix,Es:= [zta],Bs:= [],d:=1}
def zd8 (a0:Wide):Tr (Wide):=
 let c1:=zfZ ⟨0,rfl⟩ a0.lo ⟨0,rfl⟩;.br (zs8 ⟨0,rfl⟩ (Rng.w .u64 (a0.hi.val)) c1.b) (.leaf ⟨(Rng.w .i64 ((zfZ ⟨0,rfl⟩ (Rng.w .u64 (a0.hi.val)) c1.b).a.val)),c1.a⟩) (.bad)
theorem zqj (a0:Wide):zOO.run B276 [enc a0] (Wide)=(zd8 a0).opt:=by kernel_rfl
def zee:Wide->Wide:=fun a0=>(zd8 a0).get
def zdn:Wide->Bool:=fun a0=>(zd8 a0).opt.isSome
def zqp:Ent Tryz.prog:= .of1 zOO B276 zdn zee fun a0 h=>(zqj a0).trans (Tr.get_some h)
def B239:Bod Tryz.prog:=⟨239,Tryz.f239,Tryz.f239.body.getD .skip,Tryz.func239,by kernel_rfl,by kernel_rfl,zar.no _ _⟩
def zO6:Tb Tryz.prog:= {T:= [Y2,Y109,Y118],mix:=mix,Es:= [ztd,zxI,zqp],Bs:= [],d:=1}
def zfs (a0:Wide) (a1:I64):Tr (T3 Wide I64 Bool):=
 .br (decide (a1.val<=0)) (.leaf ⟨⟨⟨0,rfl⟩,⟨0,rfl⟩⟩,⟨0,rfl⟩,false⟩) (.br (decide (a0.hi.val>=0)) (.br (ziK (Rng.w .u64 (a0.hi.val)) a0.lo (Rng.w .u64 (a1.val))) (let c1:=zla (Rng.w .u64 (a0.hi.val)) a0.lo (Rng.w .u64 (a1.val));.leaf ⟨⟨(Rng.w .i64 (c1.a.val)),c1.b⟩,(Rng.w .i64 (c1.c.val)),true⟩) (.bad)) (.br (zdn a0) (let c2:=zee a0;.br (ziK (Rng.w .u64 (c2.hi.val)) c2.lo (Rng.w .u64 (a1.val))) (let c3:=zla (Rng.w .u64 (c2.hi.val)) c2.lo (Rng.w .u64 (a1.val));.br (c3.c.val==0) (.br (zdn ⟨(Rng.w .i64 (c3.a.val)),c3.b⟩) (.leaf ⟨(zee ⟨(Rng.w .i64 (c3.a.val)),c3.b⟩),⟨0,rfl⟩,true⟩) (.bad)) (let c5:=zeF c3.b ⟨1,rfl⟩ ⟨0,rfl⟩;let c6:=(Rng.w .u64 (c3.a.val+c5.b.val));.br (zdn ⟨(Rng.w .i64 (c6.val)),c5.a⟩) (.leaf ⟨(zee ⟨(Rng.w .i64 (c6.val)),c5.a⟩),(Rng.w .i64 (a1.val-(Rng.w .i64 (c3.c.val)).val)),true⟩) (.bad))) (.bad)) (.bad)))
theorem zxi (a0:Wide) (a1:I64):zO6.run B239 [enc a0,enc a1] (T3 Wide I64 Bool)=(zfs a0 a1).opt:=by kernel_rfl
def zgU:Wide->I64->T3 Wide I64 Bool:=fun a0 a1=>(zfs a0 a1).get
def zdG:Wide->I64->Bool:=fun a0 a1=>(zfs a0 a1).opt.isSome
def zqG:Ent Tryz.prog:= .of2 zO6 B239 zdG zgU fun a0 a1 h=>(zxi a0 a1).trans (Tr.get_some h)
def B277:Bod Tryz.prog:=⟨277,Tryz.f277,Tryz.f277.body.getD .skip,Tryz.func277,by kernel_rfl,by kernel_rfl,zar.no _ _⟩
def zON:Tb Tryz.prog:= {T:= [Y2,Y109,Y118],mix:=mix,Es:= [],Bs:= [],d:=1}
def zlV (a0:I64):Tr (Wide):=
 .leaf ⟨(Rng.w .i64 (a0.val.fdiv 9223372036854775808)),(Rng.w .u64 (a0.val))⟩
theorem zzp (a0:I64):zON.run B277 [enc a0] (Wide)=(zlV a0).opt:=by kernel_rfl
def zij:I64->Wide:=fun a0=>(zlV a0).get
theorem zyJ (a0:I64):(zlV a0).opt=some (zij a0):=Tr.zX (by kernel_rfl)
def zAb:Ent Tryz.prog:= .of1 zON B277 (fun _=>true) zij fun a0 _=>(zzp a0).trans (zyJ a0)
def B240:Bod Tryz.prog:=⟨240,Tryz.f240,Tryz.f240.body.getD .skip,Tryz.func240,by kernel_rfl,by kernel_rfl,zar.no _ _⟩
def zO5:Tb Tryz.prog:= {T:= [Y2,Y109,Y118],mix:=mix,Es:= [zAb],Bs:= [],d:=1}
def znz (a0:Wide):Tr (T2 I64 Bool):=
 let c1:=zij (Rng.w .i64 (a0.lo.val));.br (!((c1.hi.val==a0.hi.val)&&((c1.lo.val==a0.lo.val)&&true))) (.leaf ⟨⟨0,rfl⟩,false⟩) (.leaf ⟨(Rng.w .i64 (a0.lo.val)),true⟩)
theorem zxh (a0:Wide):zO5.run B240 [enc a0] (T2 I64 Bool)=(znz a0).opt:=by kernel_rfl
def zgT:Wide->T2 I64 Bool:=fun a0=>(znz a0).get
theorem zwS (a0:Wide):(znz a0).opt=some (zgT a0):=Tr.zX (by kernel_rfl)
def znO:Ent Tryz.prog:= .of1 zO5 B240 (fun _=>true) zgT fun a0 _=>(zxh a0).trans (zwS a0)
def B183:Bod Tryz.prog:=⟨183,Tryz.f183,Tryz.f183.body.getD .skip,Tryz.func183,by kernel_rfl,by kernel_rfl,zar.no _ _⟩
def zM1:Tb Tryz.prog:= {T:= [Y2,Y109,Y118],mix:=mix,Es:= [zgW,zqG,znO],Bs:= [],d:=1}
def zdf (a0:I64) (a1:I64) (a2:I64):Tr (T2 I64 Bool):=
 let c1:=zco a0 a1;.br (zdG c1 a2) (let c2:=zgU c1 a2;.br (!c2.c) (.leaf ⟨⟨0,rfl⟩,false⟩) (let c3:=zgT c2.a;.leaf ⟨c3.a,c3.b⟩)) (.bad)
theorem znn (a0:I64) (a1:I64) (a2:I64):zM1.run B183 [enc a0,enc a1,enc a2] (T2 I64 Bool)=(zdf a0 a1 a2).opt:=by kernel_rfl
def zbG:I64->I64->I64->T2 I64 Bool:=fun a0 a1 a2=>(zdf a0 a1 a2).get
def zcG:I64->I64->I64->Bool:=fun a0 a1 a2=>(zdf a0 a1 a2).opt.isSome
def zki:Ent Tryz.prog:= .of3 zM1 B183 zcG zbG fun a0 a1 a2 h=>(znn a0 a1 a2).trans (Tr.get_some h)
def B241:Bod Tryz.prog:=⟨241,Tryz.f241,Tryz.f241.body.getD .skip,Tryz.func241,by kernel_rfl,by kernel_rfl,zar.no _ _⟩
def zO4:Tb Tryz.prog:= {T:= [],mix:=mix,Es:= [za3],Bs:= [],d:=1}
def zhr (a0:I64):Tr (Bool):=
 .leaf (zas a0 ⟨(-1152921504606846976),rfl⟩ ⟨1152921504606846976,rfl⟩)
theorem zvl (a0:I64):zO4.run B241 [enc a0] (Bool)=(zhr a0).opt:=by kernel_rfl
def za2:I64->Bool:=fun a0=>(zhr a0).get
theorem zuL (a0:I64):(zhr a0).opt=some (za2 a0):=Tr.zX (by kernel_rfl)
def zd0:Ent Tryz.prog:= .of1 zO4 B241 (fun _=>true) za2 fun a0 _=>(zvl a0).trans (zuL a0)
def B242:Bod Tryz.prog:=⟨242,Tryz.f242,Tryz.f242.body.getD .skip,Tryz.func242,by kernel_rfl,by kernel_rfl,zar.no _ _⟩
def zO3:Tb Tryz.prog:= {T:= [],mix:=mix,Es:= [zd0],Bs:= [],d:=1}
def zm6 (a0:I64) (a1:Bool):Tr (T2 I64 Bool):=
 .br (!a1) (.leaf ⟨⟨0,rfl⟩,false⟩) (.br (!(za2 a0)) (.leaf ⟨⟨0,rfl⟩,false⟩) (.leaf ⟨a0,true⟩))
theorem zA3 (a0:I64) (a1:Bool):zO3.run B242 [enc a0,enc a1] (T2 I64 Bool)=(zm6 a0 a1).opt:=by kernel_rfl
def zc8:I64->Bool->T2 I64 Bool:=fun a0 a1=>(zm6 a0 a1).get
theorem zAu (a0:I64) (a1:Bool):(zm6 a0 a1).opt=some (zc8 a0 a1):=Tr.zX (by kernel_rfl)
def zjs:Ent Tryz.prog:= .of2 zO3 B242 (fun _ _=>true) zc8 fun a0 a1 _=>(zA3 a0 a1).trans (zAu a0 a1)
def B204:Bod Tryz.prog:=⟨204,Tryz.f204,Tryz.f204.body.getD .skip,Tryz.func204,by kernel_rfl,by kernel_rfl,zar.no _ _⟩
def zPn:Tb Tryz.prog:= {T:= [],mix:=mix,Es:= [zki,zjs],Bs:= [],d:=1}
def zht (a0:I64) (a1:I64):Tr (T2 I64 Bool):=
 .br (zcG a0 ⟨4294967296,rfl⟩ a1) (let c1:=zbG a0 ⟨4294967296,rfl⟩ a1;let c2:=zc8 c1.a c1.b;.leaf ⟨c2.a,c2.b⟩) (.bad)
theorem zvp (a0:I64) (a1:I64):zPn.run B204 [enc a0,enc a1] (T2 I64 Bool)=(zht a0 a1).opt:=by kernel_rfl
def zkd:I64->I64->T2 I64 Bool:=fun a0 a1=>(zht a0 a1).get
def zhC:I64->I64->Bool:=fun a0 a1=>(zht a0 a1).opt.isSome
def zwv:Ent Tryz.prog:= .of2 zPn B204 zhC zkd fun a0 a1 h=>(zvp a0 a1).trans (Tr.get_some h)
def B248:Bod Tryz.prog:=⟨248,Tryz.f248,Tryz.f248.body.getD .skip,Tryz.func248,by kernel_rfl,by kernel_rfl,zar.no _ _⟩
def zOY:Tb Tryz.prog:= {T:= [Y2,Y109,Y118],mix:=mix,Es:= [zgW,zqG,znO],Bs:= [],d:=1}
def zdw (a0:I64) (a1:I64) (a2:I64):Tr (T2 I64 Bool):=
 let c1:=zco a0 a1;.br (zdG c1 a2) (let c2:=zgU c1 a2;.br (!c2.c) (.leaf ⟨⟨0,rfl⟩,false⟩) (let c3:=zgT c2.a;.br (!c3.b) (.leaf ⟨⟨0,rfl⟩,false⟩) (.br (decide (c2.b.val>0)) (.br (c3.a.val==9223372036854775807) (.leaf ⟨⟨0,rfl⟩,false⟩) (.br (decide (c2.b.val>0)) (.leaf ⟨(Rng.w .i64 (c3.a.val+1)),true⟩) (.leaf ⟨c3.a,true⟩))) (.br (decide (c2.b.val>0)) (.leaf ⟨(Rng.w .i64 (c3.a.val+1)),true⟩) (.leaf ⟨c3.a,true⟩))))) (.bad)
theorem zsx (a0:I64) (a1:I64) (a2:I64):zOY.run B248 [enc a0,enc a1,enc a2] (T2 I64 Bool)=(zdw a0 a1 a2).opt:=by kernel_rfl
def zih:I64->I64->I64->T2 I64 Bool:=fun a0 a1 a2=>(zdw a0 a1 a2).get
def zeD:I64->I64->I64->Bool:=fun a0 a1 a2=>(zdw a0 a1 a2).opt.isSome
def zte:Ent Tryz.prog:= .of3 zOY B248 zeD zih fun a0 a1 a2 h=>(zsx a0 a1 a2).trans (Tr.get_some h)
def B205:Bod Tryz.prog:=⟨205,Tryz.f205,Tryz.f205.body.getD .skip,Tryz.func205,by kernel_rfl,by kernel_rfl,zar.no _ _⟩
def zPm:Tb Tryz.prog:= {T:= [],mix:=mix,Es:= [zjs,zte],Bs:= [],d:=1}
def zgL (a0:I64) (a1:I64):Tr (T2 I64 Bool):=
 .br (zeD a0 ⟨4294967296,rfl⟩ a1) (let c1:=zih a0 ⟨4294967296,rfl⟩ a1;let c2:=zc8 c1.a c1.b;.leaf ⟨c2.a,c2.b⟩) (.bad)
theorem zxq (a0:I64) (a1:I64):zPm.run B205 [enc a0,enc a1] (T2 I64 Bool)=(zgL a0 a1).opt:=by kernel_rfl
def zlb:I64->I64->T2 I64 Bool:=fun a0 a1=>(zgL a0 a1).get
def ziL:I64->I64->Bool:=fun a0 a1=>(zgL a0 a1).opt.isSome
def zxL:Ent Tryz.prog:= .of2 zPm B205 ziL zlb fun a0 a1 h=>(zxq a0 a1).trans (Tr.get_some h)
def B184:Bod Tryz.prog:=⟨184,Tryz.f184,Tryz.f184.body.getD .skip,Tryz.func184,by kernel_rfl,by kernel_rfl,zar.no _ _⟩
def zPD:Tb Tryz.prog:= {T:= [Y2,Y32],mix:=mix,Es:= [],Bs:= [],d:=1}
def ziq (a0:Iv):Tr (Bool):=
 .br (decide ((-1152921504606846976)<a0.lo.val)) (.br (decide (a0.lo.val<=a0.hi.val)) (.leaf (decide (a0.hi.val<1152921504606846976))) (.leaf false)) (.leaf false)
theorem zqk (a0:Iv):zPD.run B184 [enc a0] (Bool)=(ziq a0).opt:=by kernel_rfl
def zbL:Iv->Bool:=fun a0=>(ziq a0).get
theorem zqg (a0:Iv):(ziq a0).opt=some (zbL a0):=Tr.zX (by kernel_rfl)
def zeh:Ent Tryz.prog:= .of1 zPD B184 (fun _=>true) zbL fun a0 _=>(zqk a0).trans (zqg a0)
def B143:Bod Tryz.prog:=⟨143,Tryz.f143,Tryz.f143.body.getD .skip,Tryz.func143,by kernel_rfl,by kernel_rfl,zar.no _ _⟩
def zPM:Tb Tryz.prog:= {T:= [Y2,Y32],mix:=mix,Es:= [zah,zeh],Bs:= [],d:=1}
def zkW (a0:I64) (a1:I64) (a2:Bool):Tr (Iv):=
 .br a2 (.br (zbL ⟨a0,a1⟩) (.leaf ⟨a0,a1⟩) (.leaf zD)) (.leaf zD)
theorem zxe (a0:I64) (a1:I64) (a2:Bool):zPM.run B143 [enc a0,enc a1,enc a2] (Iv)=(zkW a0 a1 a2).opt:=by kernel_rfl
def zaN:I64->I64->Bool->Iv:=fun a0 a1 a2=>(zkW a0 a1 a2).get
theorem zwP (a0:I64) (a1:I64) (a2:Bool):(zkW a0 a1 a2).opt=some (zaN a0 a1 a2):=Tr.zX (by kernel_rfl)
def zbB:Ent Tryz.prog:= .of3 zPM B143 (fun _ _ _=>true) zaN fun a0 a1 a2 _=>(zxe a0 a1 a2).trans (zwP a0 a1 a2)
def B134:Bod Tryz.prog:=⟨134,Tryz.f134,Tryz.f134.body.getD .skip,Tryz.func134,by kernel_rfl,by kernel_rfl,zar.no _ _⟩
def zPV:Tb Tryz.prog:= {T:= [Y2,Y32],mix:=mix,Es:= [zah,zbB,zwv,zxL],Bs:= [],d:=1}
def zhs (a0:I64) (a1:I64):Tr (Iv):=
 .br (decide (a1.val<0)) (let c1:=(Rng.w .i64 (0-a0.val));let c2:=(Rng.w .i64 (0-a1.val));.br (decide (c2.val<0)) (.leaf zD) (.br (c1.val==(-9223372036854775808)) (.leaf zD) (.br (zhC c1 c2) (let c6:=zkd c1 c2;.br (ziL c1 c2) (let c7:=zlb c1 c2;.br c6.b (.leaf (zaN c6.a c7.a c7.b)) (.leaf (zaN c6.a c7.a false))) (.bad)) (.bad)))) (.br (zhC a0 a1) (let c10:=zkd a0 a1;.br (ziL a0 a1) (let c11:=zlb a0 a1;.br c10.b (.leaf (zaN c10.a c11.a c11.b)) (.leaf (zaN c10.a c11.a false))) (.bad)) (.bad))
theorem zvn (a0:I64) (a1:I64):zPV.run B134 [enc a0,enc a1] (Iv)=(zhs a0 a1).opt:=by kernel_rfl
def zaa:I64->I64->Iv:=fun a0 a1=>(zhs a0 a1).get
def B67:Bod Tryz.prog:=⟨67,Tryz.f67,Tryz.f67.body.getD .skip,Tryz.func67,by kernel_rfl,by kernel_rfl,zar.no _ _⟩
def Tb67:Tb Tryz.prog:= {T:= [Y2,Y32],mix:=mix,Es:= [zhJ],Bs:= [],d:=1}
def zpi:Tr (Iv):=
 .leaf zh
theorem zAY:Tb67.run B67 [] (Iv)=(zpi).opt:=by kernel_rfl
def zaW:Iv:=(zpi).get
theorem zAq:(zpi).opt=some (zaW):=Tr.zX (by kernel_rfl)
def zpR:Ent Tryz.prog:= .of0 Tb67 B67 zaW (zAY.trans zAq)
def B68:Bod Tryz.prog:=⟨68,Tryz.f68,Tryz.f68.body.getD .skip,Tryz.func68,by kernel_rfl,by kernel_rfl,zar.no _ _⟩
def Tb68:Tb Tryz.prog:= {T:= [Y2,Y32],mix:=mix,Es:= [zjq,zhJ,zqE],Bs:= [],d:=1}
def zhl (a0:Iv):Tr (Iv):=
 .br (!(za a0)) (.leaf zh) (.leaf (zU (Rng.w .i64 (0-a0.hi.val)) (Rng.w .i64 (0-a0.lo.val))))
theorem zCA (a0:Iv):Tb68.run B68 [enc a0] (Iv)=(zhl a0).opt:=by kernel_rfl
def zaK:Iv->Iv:=fun a0=>(zhl a0).get
theorem zB8 (a0:Iv):(zhl a0).opt=some (zaK a0):=Tr.zX (by kernel_rfl)
def zDJ:Ent Tryz.prog:= .of1 Tb68 B68 (fun _=>true) zaK fun a0 _=>(zCA a0).trans (zB8 a0)
def B19:Bod Tryz.prog:=⟨19,Tryz.f19,Tryz.f19.body.getD .skip,Tryz.func19,by kernel_rfl,by kernel_rfl,zar.no _ _⟩
def zLa:Tb Tryz.prog:= {T:= [Y2,Y32],mix:=mix,Es:= [zjr,zpR,znt],Bs:= [],d:=1}
def zcE (a0:I64):Tr (Iv):=
 .br (!(zaf a0 ⟨(-36000000000),rfl⟩ ⟨36000000000,rfl⟩)) (.leaf zaW) (.br (a0.val==0) (.leaf ⟨⟨0,rfl⟩,⟨0,rfl⟩⟩) (.br (decide (a0.val<0)) (.bad) (.br (zcd a0 ⟨7244019458077122842,rfl⟩ ⟨966367641600000000,rfl⟩) (.br (zcd a0 ⟨7244019458077122843,rfl⟩ ⟨966367641600000000,rfl⟩) (.leaf ⟨(zbv a0 ⟨7244019458077122842,rfl⟩ ⟨966367641600000000,rfl⟩).a,(Rng.w .i64 ((zbv a0 ⟨7244019458077122843,rfl⟩ ⟨966367641600000000,rfl⟩).a.val+1))⟩) (.bad)) (.bad))))
theorem zrA (a0:I64):zLa.run B19 [enc a0] (Iv)=(zcE a0).opt:=by kernel_rfl
def zcI:I64->Iv:=fun a0=>(zcE a0).get
def zfl:I64->Bool:=fun a0=>(zcE a0).opt.isSome
def zsa:Ent Tryz.prog:= .of1 zLa B19 zfl zcI fun a0 h=>(zrA a0).trans (Tr.get_some h)
def Tb19:Tb Tryz.prog:= {T:= [Y2,Y32],mix:=mix,Es:= [zsa,zjr,zpR,zDJ,znt],Bs:= [],d:=1}
def zbM (a0:I64):Tr (Iv):=
 .br (!(zaf a0 ⟨(-36000000000),rfl⟩ ⟨36000000000,rfl⟩)) (.leaf zaW) (.br (a0.val==0) (.leaf ⟨⟨0,rfl⟩,⟨0,rfl⟩⟩) (.br (decide (a0.val<0)) (let c3:=(Rng.w .i64 (0-a0.val));.br (zfl c3) (.leaf (zaK (zcI c3))) (.bad)) (.br (zcd a0 ⟨7244019458077122842,rfl⟩ ⟨966367641600000000,rfl⟩) (.br (zcd a0 ⟨7244019458077122843,rfl⟩ ⟨966367641600000000,rfl⟩) (.leaf ⟨(zbv a0 ⟨7244019458077122842,rfl⟩ ⟨966367641600000000,rfl⟩).a,(Rng.w .i64 ((zbv a0 ⟨7244019458077122843,rfl⟩ ⟨966367641600000000,rfl⟩).a.val+1))⟩) (.bad)) (.bad))))
theorem ztP (a0:I64):Tb19.run B19 [enc a0] (Iv)=(zbM a0).opt:=by kernel_rfl
def zaq:I64->Iv:=fun a0=>(zbM a0).get
def B117:Bod Tryz.prog:=⟨117,Tryz.f117,Tryz.f117.body.getD .skip,Tryz.func117,by kernel_rfl,by kernel_rfl,zar.no _ _⟩
def zQc:Tb Tryz.prog:= {T:= [Y32],mix:=mix,Es:= [zeh],Bs:= [],d:=1}
def zeo (a0:Iv):Tr (Bool):=
 .leaf (!(zbL a0))
theorem zxn (a0:Iv):zQc.run B117 [enc a0] (Bool)=(zeo a0).opt:=by kernel_rfl
def zab:Iv->Bool:=fun a0=>(zeo a0).get
theorem zwU (a0:Iv):(zeo a0).opt=some (zab a0):=Tr.zX (by kernel_rfl)
def za6:Ent Tryz.prog:= .of1 zQc B117 (fun _=>true) zab fun a0 _=>(zxn a0).trans (zwU a0)
def B182:Bod Tryz.prog:=⟨182,Tryz.f182,Tryz.f182.body.getD .skip,Tryz.func182,by kernel_rfl,by kernel_rfl,zar.no _ _⟩
def zPE:Tb Tryz.prog:= {T:= [Y2,Y32],mix:=mix,Es:= [za6,zah],Bs:= [],d:=1}
def zom (a0:Iv):Tr (Iv):=
 .br (zab a0) (.leaf zD) (.leaf ⟨(Rng.w .i64 (0-a0.hi.val)),(Rng.w .i64 (0-a0.lo.val))⟩)
theorem zCJ (a0:Iv):zPE.run B182 [enc a0] (Iv)=(zom a0).opt:=by kernel_rfl
def zdB:Iv->Iv:=fun a0=>(zom a0).get
theorem zCg (a0:Iv):(zom a0).opt=some (zdB a0):=Tr.zX (by kernel_rfl)
def zhM:Ent Tryz.prog:= .of1 zPE B182 (fun _=>true) zdB fun a0 _=>(zCJ a0).trans (zCg a0)
def B116:Bod Tryz.prog:=⟨116,Tryz.f116,Tryz.f116.body.getD .skip,Tryz.func116,by kernel_rfl,by kernel_rfl,zar.no _ _⟩
def zIP:Tb Tryz.prog:= {T:= [Y2,Y32],mix:=mix,Es:= [za3,zah,zki],Bs:= [],d:=1}
def zfe (a0:I64):Tr (Iv):=
 .br (!(zas a0 ⟨(-36000000000),rfl⟩ ⟨36000000000,rfl⟩)) (.leaf zD) (.br (decide (a0.val<0)) (.bad) (.br (a0.val==0) (.leaf ⟨⟨0,rfl⟩,⟨0,rfl⟩⟩) (.br (zcG a0 ⟨7244019458077122842,rfl⟩ ⟨966367641600000000,rfl⟩) (.br (zcG a0 ⟨7244019458077122843,rfl⟩ ⟨966367641600000000,rfl⟩) (.leaf ⟨(zbG a0 ⟨7244019458077122842,rfl⟩ ⟨966367641600000000,rfl⟩).a,(Rng.w .i64 ((zbG a0 ⟨7244019458077122843,rfl⟩ ⟨966367641600000000,rfl⟩).a.val+1))⟩) (.bad)) (.bad))))
theorem zrE (a0:I64):zIP.run B116 [enc a0] (Iv)=(zfe a0).opt:=by kernel_rfl
def zkb:I64->Iv:=fun a0=>(zfe a0).get
def zg9:I64->Bool:=fun a0=>(zfe a0).opt.isSome
def zsd:Ent Tryz.prog:= .of1 zIP B116 zg9 zkb fun a0 h=>(zrE a0).trans (Tr.get_some h)
def zQd:Tb Tryz.prog:= {T:= [Y2,Y32],mix:=mix,Es:= [za3,zsd,zah,zhM,zki],Bs:= [],d:=1}
def zgx (a0:I64):Tr (Iv):=
 .br (!(zas a0 ⟨(-36000000000),rfl⟩ ⟨36000000000,rfl⟩)) (.leaf zD) (.br (decide (a0.val<0)) (let c3:=(Rng.w .i64 (0-a0.val));.br (zg9 c3) (.leaf (zdB (zkb c3))) (.bad)) (.br (a0.val==0) (.leaf ⟨⟨0,rfl⟩,⟨0,rfl⟩⟩) (.br (zcG a0 ⟨7244019458077122842,rfl⟩ ⟨966367641600000000,rfl⟩) (.br (zcG a0 ⟨7244019458077122843,rfl⟩ ⟨966367641600000000,rfl⟩) (.leaf ⟨(zbG a0 ⟨7244019458077122842,rfl⟩ ⟨966367641600000000,rfl⟩).a,(Rng.w .i64 ((zbG a0 ⟨7244019458077122843,rfl⟩ ⟨966367641600000000,rfl⟩).a.val+1))⟩) (.bad)) (.bad))))
theorem ztV (a0:I64):zQd.run B116 [enc a0] (Iv)=(zgx a0).opt:=by kernel_rfl
def zcp:I64->Iv:=fun a0=>(zgx a0).get
end
end Go.Proofs.YtaoakfodkoifoaaGreat.Ev
namespace Go.Proofs.YtaoakfodkoifoaaGreat.Ev
open Go
theorem wi {n:Int} (h: -9223372036854775808<=n) (h':n<=9223372036854775807):(Rng.w .i64 n).val=n:=ze9 (k:= .i64) (by simp [inB,h,h'])
theorem wu {n:Int} (h:0<=n) (h':n<=18446744073709551615):(Rng.w .u64 n).val=n:=ze9 (k:= .u64) (by simp [inB,h,h'])
theorem zbC (n:Int):(Rng.w .u64 n).val=n%18446744073709551616:=by
 show IntKind.u64.wrap n=_
 simp [IntKind.wrap,IntKind.bits,IntKind.signed]
theorem zbN (a b c:I64):zas a b c=decide (b.val<=a.val/\a.val<=c.val):=by
 simp only [zas,zlQ,Tr.get,ge_iff_le]
 by_cases h:b.val<=a.val<;>simp [h]
theorem zdp (a b c:I64):zaf a b c=decide (b.val<=a.val/\a.val<=c.val):=by
 simp only [zaf,zm2,Tr.get,ge_iff_le]
 by_cases h:b.val<=a.val<;>simp [h]
theorem zum (p:zaA):zc9 p=zT p:=by
 simp only [zc9,zT,zhY,zlc,Tr.get,zbN,zdp]
 rw [Bool.eq_iff_iff]
 simp [Bool.cond_eq_ite]
 grind
theorem zz2 (n:I64) (h: -9223372036854775807<=n.val):(zbX n).val=if n.val<0 then -n.val else n.val:=by
 have b:=n.bd
 simp only [zbX,zmf,Tr.get,mx]
 rw [wi (by omega) (by omega)]
 by_cases h0:n.val<0
 ·have e:decide (0-n.val>n.val)=true:=by simp;omega
  rw [e,cond_true,wi (by omega) (by omega)];simp [h0]
 ·have e:decide (0-n.val>n.val)=false:=by simp;omega
  rw [e,cond_false];simp [h0]
end Go.Proofs.YtaoakfodkoifoaaGreat.Ev
