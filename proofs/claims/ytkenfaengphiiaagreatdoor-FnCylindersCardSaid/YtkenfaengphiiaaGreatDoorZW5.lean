/- The law FnCylinders gives true, whatever bytes come in, where the listed tables hold what the program's text lays. The card: the tables tied to the text. No other conditions. (One of the texts of its proof, put together by a program of this session.) -/
import Derived.Test.YtkenfaengphiiaaGreatDoorZW2
import Derived.Test.YtkenfaengphiiaaGreatDoorZPT
set_option linter.unusedSectionVars false
set_option linter.unusedSimpArgs false
set_option linter.unusedVariables false
noncomputable section
namespace Go.Proofs.YtkenfaengphiiaaGreatDoor.Ev
open Go Go.RowKit
set_option maxRecDepth 100000
section
variable [Amb]
def B33:Bod Tryz.prog:=⟨33,Tryz.f33,Tryz.f33.body.getD .skip,Tryz.func33,by kernel_rfl,by kernel_rfl,zav.no _ _⟩
def Tb33:Tb Tryz.prog:= {T:= [Y2,Y34],mix:=mix,Es:= [zlx],Bs:= [],d:=1}
def zlN (a0:Iv):Tr (Iv):=
 .leaf (za0 a0 ⟨1,rfl⟩)
theorem zyK (a0:Iv):Tb33.run B33 [enc a0] (Iv)=(zlN a0).opt:=by kernel_rfl
def zit:Iv->Iv:=fun a0=>(zlN a0).get
theorem zyb (a0:Iv):(zlN a0).opt=some (zit a0):=Tr.z8 (by kernel_rfl)
def zsr:Ent Tryz.prog:= .of1 Tb33 B33 (fun _=>true) zit fun a0 _=>(zyK a0).trans (zyb a0)
def B38:Bod Tryz.prog:=⟨38,Tryz.f38,Tryz.f38.body.getD .skip,Tryz.func38,by kernel_rfl,by kernel_rfl,zav.no _ _⟩
def Tb38:Tb Tryz.prog:= {T:= [Y2,Y34],mix:=mix,Es:= [zlx],Bs:= [],d:=1}
def zlI (a0:Iv):Tr (Iv):=
 .leaf (za0 a0 ⟨0,rfl⟩)
theorem zyE (a0:Iv):Tb38.run B38 [enc a0] (Iv)=(zlI a0).opt:=by kernel_rfl
def zkk:Iv->Iv:=fun a0=>(zlI a0).get
theorem zx6 (a0:Iv):(zlI a0).opt=some (zkk a0):=Tr.z8 (by kernel_rfl)
def zzx:Ent Tryz.prog:= .of1 Tb38 B38 (fun _=>true) zkk fun a0 _=>(zyE a0).trans (zx6 a0)
def B156:Bod Tryz.prog:=⟨156,Tryz.f156,Tryz.f156.body.getD .skip,Tryz.func156,by kernel_rfl,by kernel_rfl,zav.no _ _⟩
def zJ0:Tb Tryz.prog:= {T:= [],mix:=mix,Es:= [],Bs:= [],d:=1}
def zlG (a0:I64):Tr (Bool):=
 .br (decide ((-1152921504606846976)<a0.val)) (.leaf (decide (a0.val<1152921504606846976))) (.leaf false)
theorem zvl (a0:I64):zJ0.run B156 [enc a0] (Bool)=(zlG a0).opt:=by kernel_rfl
def zh3:I64->Bool:=fun a0=>(zlG a0).get
theorem zuP (a0:I64):(zlG a0).opt=some (zh3 a0):=Tr.z8 (by kernel_rfl)
def zoU:Ent Tryz.prog:= .of1 zJ0 B156 (fun _=>true) zh3 fun a0 _=>(zvl a0).trans (zuP a0)
def B112:Bod Tryz.prog:=⟨112,Tryz.f112,Tryz.f112.body.getD .skip,Tryz.func112,by kernel_rfl,by kernel_rfl,zav.no _ _⟩
def zKw:Tb Tryz.prog:= {T:= [Y2,Y34],mix:=mix,Es:= [ze7],Bs:= [],d:=1}
def zgd:Tr (Iv):=
 .leaf ⟨(Rng.w .i64 (0-(zca ⟨1,rfl⟩).hi.val)),(zca ⟨1,rfl⟩).hi⟩
theorem zpj:zKw.run B112 [] (Iv)=(zgd).opt:=by kernel_rfl
def zbZ:Iv:=(zgd).get
theorem zo3:(zgd).opt=some (zbZ):=Tr.z8 (by kernel_rfl)
def zgu:Ent Tryz.prog:= .of0 zKw B112 zbZ (zpj.trans zo3)
def B189:Bod Tryz.prog:=⟨189,Tryz.f189,Tryz.f189.body.getD .skip,Tryz.func189,by kernel_rfl,by kernel_rfl,zav.no _ _⟩
def zJI:Tb Tryz.prog:= {T:= [Y2,Y34],mix:=mix,Es:= [zeq,zdP,zoX,zhA,zcW],Bs:= [],d:=1}
def zjA (a0:Iv):Tr (Iv):=
 .leaf (zat a0 (zae (zB ⟨1,rfl⟩) (zht (zae (zB ⟨1,rfl⟩) (zeo a0)))))
theorem zvn (a0:Iv):zJI.run B189 [enc a0] (Iv)=(zjA a0).opt:=by kernel_rfl
def zgq:Iv->Iv:=fun a0=>(zjA a0).get
theorem zuR (a0:Iv):(zjA a0).opt=some (zgq a0):=Tr.z8 (by kernel_rfl)
def zv4:Ent Tryz.prog:= .of1 zJI B189 (fun _=>true) zgq fun a0 _=>(zvn a0).trans (zuR a0)
def B188:Bod Tryz.prog:=⟨188,Tryz.f188,Tryz.f188.body.getD .skip,Tryz.func188,by kernel_rfl,by kernel_rfl,zav.no _ _⟩
def zJJ:Tb Tryz.prog:= {T:= [Y2,Y34],mix:=mix,Es:= [zf7,zha,zaA,zdP,zhA,zf6,zlf,znY],Bs:= [],d:=1}
def zg4 (a0:Iv):Tr (Iv):=
 .br (!(zep a0 ⟨⟨(-1073741824),rfl⟩,⟨1073741824,rfl⟩⟩)) (.leaf zL) (let c3:=zeo a0;.leaf (zae (zV a0 (zaJ (zaj ⟨1,rfl⟩ ⟨1,rfl⟩) (zV c3 (zaJ (zaj ⟨1,rfl⟩ ⟨3,rfl⟩) (zV c3 (zaJ (zaj ⟨1,rfl⟩ ⟨5,rfl⟩) (zV c3 (zaJ (zaj ⟨1,rfl⟩ ⟨7,rfl⟩) (zV c3 (zaJ (zaj ⟨1,rfl⟩ ⟨9,rfl⟩) (zV c3 (zaJ (zaj ⟨1,rfl⟩ ⟨11,rfl⟩) (zV c3 (zaJ (zaj ⟨1,rfl⟩ ⟨13,rfl⟩) (zV c3 (zaJ (zaj ⟨1,rfl⟩ ⟨15,rfl⟩) (zV c3 (zaJ (zaj ⟨1,rfl⟩ ⟨17,rfl⟩) (zV c3 (zaJ (zaj ⟨1,rfl⟩ ⟨19,rfl⟩) (zV c3 (zaj ⟨1,rfl⟩ ⟨21,rfl⟩)))))))))))))))))))))) zir))
theorem zqs (a0:Iv):zJJ.run B188 [enc a0] (Iv)=(zg4 a0).opt:=by kernel_rfl
def zfk:Iv->Iv:=fun a0=>(zg4 a0).get
theorem zqi (a0:Iv):(zg4 a0).opt=some (zfk a0):=Tr.z8 (by kernel_rfl)
def zqB:Ent Tryz.prog:= .of1 zJJ B188 (fun _=>true) zfk fun a0 _=>(zqs a0).trans (zqi a0)
def B159:Bod Tryz.prog:=⟨159,Tryz.f159,Tryz.f159.body.getD .skip,Tryz.func159,by kernel_rfl,by kernel_rfl,zav.no _ _⟩
def zJX:Tb Tryz.prog:= {T:= [Y2,Y34],mix:=mix,Es:= [zdP],Bs:= [],d:=1}
def ziM (a0:Iv):Tr (Iv):=
 .leaf (zae a0 a0)
theorem ztu (a0:Iv):zJX.run B159 [enc a0] (Iv)=(ziM a0).opt:=by kernel_rfl
def zbW:Iv->Iv:=fun a0=>(ziM a0).get
theorem zsW (a0:Iv):(ziM a0).opt=some (zbW a0):=Tr.z8 (by kernel_rfl)
def zlg:Ent Tryz.prog:= .of1 zJX B159 (fun _=>true) zbW fun a0 _=>(ztu a0).trans (zsW a0)
def B157:Bod Tryz.prog:=⟨157,Tryz.f157,Tryz.f157.body.getD .skip,Tryz.func157,by kernel_rfl,by kernel_rfl,zav.no _ _⟩
def zJZ:Tb Tryz.prog:= {T:= [Y2,Y34],mix:=mix,Es:= [zlg,zqB,zv4],Bs:= [],d:=1}
def zhH (a0:Iv):Tr (Iv):=
 .leaf (zbW (zbW (zfk (zgq (zgq a0)))))
theorem zrr (a0:Iv):zJZ.run B157 [enc a0] (Iv)=(zhH a0).opt:=by kernel_rfl
def zc5:Iv->Iv:=fun a0=>(zhH a0).get
theorem zq2 (a0:Iv):(zhH a0).opt=some (zc5 a0):=Tr.z8 (by kernel_rfl)
def zm4:Ent Tryz.prog:= .of1 zJZ B157 (fun _=>true) zc5 fun a0 _=>(zrr a0).trans (zq2 a0)
def B113:Bod Tryz.prog:=⟨113,Tryz.f113,Tryz.f113.body.getD .skip,Tryz.func113,by kernel_rfl,by kernel_rfl,zav.no _ _⟩
def zEf:Tb Tryz.prog:= {T:= [Y2,Y34],mix:=mix,Es:= [zeq,zjd,zcW,zgu,zf6,ze7,zoU,zm4],Bs:= [],d:=1}
def zfR (a0:I64):Tr (Iv):=
 .br (!(zh3 a0)) (.leaf zbZ) (.br (decide (a0.val<0)) (.bad) (.br (decide (a0.val>4294967296)) (.leaf (zaJ (zca ⟨1,rfl⟩) (zc5 (zat (zB ⟨1,rfl⟩) (zc6 a0))))) (.leaf (zc5 (zc6 a0)))))
theorem zrz (a0:I64):zEf.run B113 [enc a0] (Iv)=(zfR a0).opt:=by kernel_rfl
def zkm:I64->Iv:=fun a0=>(zfR a0).get
def zhZ:I64->Bool:=fun a0=>(zfR a0).opt.isSome
def zst:Ent Tryz.prog:= .of1 zEf B113 zhZ zkm fun a0 h=>(zrz a0).trans (Tr.get_some h)
def zKv:Tb Tryz.prog:= {T:= [Y2,Y34],mix:=mix,Es:= [zeq,zhj,zjd,zcW,zgu,zst,zf6,ze7,zoU,zm4],Bs:= [],d:=1}
def zhK (a0:I64):Tr (Iv):=
 .br (!(zh3 a0)) (.leaf zbZ) (.br (decide (a0.val<0)) (let c3:=(Rng.w .i64 (0-a0.val));.br (zhZ c3) (.leaf (zdf (zkm c3))) (.bad)) (.br (decide (a0.val>4294967296)) (.leaf (zaJ (zca ⟨1,rfl⟩) (zc5 (zat (zB ⟨1,rfl⟩) (zc6 a0))))) (.leaf (zc5 (zc6 a0)))))
theorem zvq (a0:I64):zKv.run B113 [enc a0] (Iv)=(zhK a0).opt:=by kernel_rfl
def ze6:I64->Iv:=fun a0=>(zhK a0).get
def B104:Bod Tryz.prog:=⟨104,Tryz.f104,Tryz.f104.body.getD .skip,Tryz.func104,by kernel_rfl,by kernel_rfl,zav.no _ _⟩
def zEg:Tb Tryz.prog:= {T:= [Y2,Y34],mix:=mix,Es:= [za1,zaA,zhb],Bs:= [],d:=1}
def zdY (a0:I64):Tr (Iv):=
 .br (!(zaw a0 ⟨(-64),rfl⟩ ⟨64,rfl⟩)) (.leaf zL) (.br (decide (a0.val<0)) (.bad) (.leaf ⟨(zbR a0 ⟨1598288580650331957,rfl⟩ ⟨29,rfl⟩).a,(Rng.w .i64 (0-(zbR (Rng.w .i64 (0-a0.val)) ⟨1598288580650331958,rfl⟩ ⟨29,rfl⟩).a.val))⟩))
theorem zqq (a0:I64):zEg.run B104 [enc a0] (Iv)=(zdY a0).opt:=by kernel_rfl
def zjo:I64->Iv:=fun a0=>(zdY a0).get
def zg8:I64->Bool:=fun a0=>(zdY a0).opt.isSome
def zqz:Ent Tryz.prog:= .of1 zEg B104 zg8 zjo fun a0 h=>(zqq a0).trans (Tr.get_some h)
def zKD:Tb Tryz.prog:= {T:= [Y2,Y34],mix:=mix,Es:= [za1,zaA,zhj,zqz,zhb],Bs:= [],d:=1}
def zel (a0:I64):Tr (Iv):=
 .br (!(zaw a0 ⟨(-64),rfl⟩ ⟨64,rfl⟩)) (.leaf zL) (.br (decide (a0.val<0)) (let c3:=(Rng.w .i64 (0-a0.val));.br (zg8 c3) (.leaf (zdf (zjo c3))) (.bad)) (.leaf ⟨(zbR a0 ⟨1598288580650331957,rfl⟩ ⟨29,rfl⟩).a,(Rng.w .i64 (0-(zbR (Rng.w .i64 (0-a0.val)) ⟨1598288580650331958,rfl⟩ ⟨29,rfl⟩).a.val))⟩))
theorem ztp (a0:I64):zKD.run B104 [enc a0] (Iv)=(zel a0).opt:=by kernel_rfl
def zdA:I64->Iv:=fun a0=>(zel a0).get
def B160:Bod Tryz.prog:=⟨160,Tryz.f160,Tryz.f160.body.getD .skip,Tryz.func160,by kernel_rfl,by kernel_rfl,zav.no _ _⟩
def zJW:Tb Tryz.prog:= {T:= [Y2,Y34,Y76,Y115],mix:=mix,Es:= [za1,zaA,zjd,zfv,zpT],Bs:= [],d:=1}
def zhJ (a0:I64):Tr (Iv):=
 .br (!(zaw a0 ⟨(-4294967296),rfl⟩ ⟨4294967296,rfl⟩)) (.leaf zL) (let c5:=zde (Rng.w .i64 (4294967296-a0.val)) (Rng.w .i64 (4294967296+a0.val));let c6:=zbV c5.a c5.a;let c9:=zbV (Rng.w .i64 (4294967296-a0.val)) (Rng.w .i64 (4294967296+a0.val));.br ((c6.hi.val==c9.hi.val)&&((c6.lo.val==c9.lo.val)&&true)) (.leaf (zc6 c5.a)) (.leaf ⟨c5.a,(Rng.w .i64 (c5.a.val+1))⟩))
theorem zry (a0:I64):zJW.run B160 [enc a0] (Iv)=(zhJ a0).opt:=by kernel_rfl
def zf5:I64->Iv:=fun a0=>(zhJ a0).get
theorem zq5 (a0:I64):(zhJ a0).opt=some (zf5 a0):=Tr.z8 (by kernel_rfl)
def zss:Ent Tryz.prog:= .of1 zJW B160 (fun _=>true) zf5 fun a0 _=>(zry a0).trans (zq5 a0)
def znJ (a0:Iv):Tr (Iv):=
 .leaf (ziR a0 ⟨1,rfl⟩)
def zbN:Iv->Iv:=fun a0=>(znJ a0).get
def znH (a0:Iv):Tr (Iv):=
 .leaf (ziR a0 ⟨0,rfl⟩)
def ze5:Iv->Iv:=fun a0=>(znH a0).get
def zn9 (a0:I64):Tr (Bool):=
 .br (decide ((-1152921504606846976)<a0.val)) (.leaf (decide (a0.val<1152921504606846976))) (.leaf false)
def zdm:I64->Bool:=fun a0=>(zn9 a0).get
def zli:Tr (Iv):=
 .br (zcw ⟨1,rfl⟩) (.br (zcw ⟨1,rfl⟩) (.leaf ⟨(Rng.w .i64 (0-(zaQ ⟨1,rfl⟩).hi.val)),(zaQ ⟨1,rfl⟩).hi⟩) (.bad)) (.bad)
def zbh:Iv:=(zli).get
def zjO (a0:Iv):Tr (Iv):=
 .leaf (zO a0 (zH (zy ⟨1,rfl⟩) (zcs (zH (zy ⟨1,rfl⟩) (zbg a0)))))
def zeH:Iv->Iv:=fun a0=>(zjO a0).get
def zjg (a0:Iv):Tr (Iv):=
 .br (!(za7 a0 ⟨⟨(-1073741824),rfl⟩,⟨1073741824,rfl⟩⟩)) (.leaf zbe) (let c3:=zbg a0;.leaf (zH (zz a0 (zac (zK ⟨1,rfl⟩ ⟨1,rfl⟩) (zz c3 (zac (zK ⟨1,rfl⟩ ⟨3,rfl⟩) (zz c3 (zac (zK ⟨1,rfl⟩ ⟨5,rfl⟩) (zz c3 (zac (zK ⟨1,rfl⟩ ⟨7,rfl⟩) (zz c3 (zac (zK ⟨1,rfl⟩ ⟨9,rfl⟩) (zz c3 (zac (zK ⟨1,rfl⟩ ⟨11,rfl⟩) (zz c3 (zac (zK ⟨1,rfl⟩ ⟨13,rfl⟩) (zz c3 (zac (zK ⟨1,rfl⟩ ⟨15,rfl⟩) (zz c3 (zac (zK ⟨1,rfl⟩ ⟨17,rfl⟩) (zz c3 (zac (zK ⟨1,rfl⟩ ⟨19,rfl⟩) (zz c3 (zK ⟨1,rfl⟩ ⟨21,rfl⟩)))))))))))))))))))))) zce))
def zfj:Iv->Iv:=fun a0=>(zjg a0).get
def zgJ (a0:Iv):Tr (Iv):=
 .br (!(ze a0)) (.leaf zt) (.leaf (zab (Rng.w .i64 (2*a0.lo.val)) (Rng.w .i64 (2*a0.hi.val))))
def zbG:Iv->Iv:=fun a0=>(zgJ a0).get
def zkZ (a0:Iv):Tr (Iv):=
 .leaf (zbG (zbG (zfj (zeH (zeH a0)))))
def zcT:Iv->Iv:=fun a0=>(zkZ a0).get
def zfM (a0:I64):Tr (Iv):=
 .br (!(zdm a0)) (.leaf zbh) (.br (decide (a0.val<0)) (.bad) (.br (decide (a0.val>4294967296)) (.leaf (zac (za3 ⟨1,rfl⟩) (zcT (zO (zy ⟨1,rfl⟩) (zbq a0))))) (.leaf (zcT (zbq a0)))))
def zdO:I64->Iv:=fun a0=>(zfM a0).get
def zfX:I64->Bool:=fun a0=>(zfM a0).opt.isSome
def zhF (a0:I64):Tr (Iv):=
 .br (!(zdm a0)) (.leaf zbh) (.br (decide (a0.val<0)) (let c3:=(Rng.w .i64 (0-a0.val));.br (zfX c3) (.leaf (zW (zdO c3))) (.bad)) (.br (decide (a0.val>4294967296)) (.leaf (zac (za3 ⟨1,rfl⟩) (zcT (zO (zy ⟨1,rfl⟩) (zbq a0))))) (.leaf (zcT (zbq a0)))))
def zdn:I64->Iv:=fun a0=>(zhF a0).get
def zbD (a0:I64):Tr (Iv):=
 .br (!(zX a0 ⟨(-64),rfl⟩ ⟨64,rfl⟩)) (.leaf zt) (.br (decide (a0.val<0)) (.bad) (.leaf (zab (zaz a0 ⟨1598288580650331957,rfl⟩ ⟨29,rfl⟩).a (Rng.w .i64 (0-(zaz (Rng.w .i64 (0-a0.val)) ⟨1598288580650331958,rfl⟩ ⟨29,rfl⟩).a.val)))))
def zg9:I64->Iv:=fun a0=>(zbD a0).get
def zdb:I64->Bool:=fun a0=>(zbD a0).opt.isSome
def zcN (a0:I64):Tr (Iv):=
 .br (!(zX a0 ⟨(-64),rfl⟩ ⟨64,rfl⟩)) (.leaf zt) (.br (decide (a0.val<0)) (let c3:=(Rng.w .i64 (0-a0.val));.br (zdb c3) (.leaf (zW (zg9 c3))) (.bad)) (.leaf (zab (zaz a0 ⟨1598288580650331957,rfl⟩ ⟨29,rfl⟩).a (Rng.w .i64 (0-(zaz (Rng.w .i64 (0-a0.val)) ⟨1598288580650331958,rfl⟩ ⟨29,rfl⟩).a.val)))))
def zar:I64->Iv:=fun a0=>(zcN a0).get
def zns (a0:I64) (a1:I64):Tr (Wide):=
 .leaf (zeb a0 a1)
def zdv:I64->I64->Wide:=fun a0 a1=>(zns a0 a1).get
def zjS (a0:I64):Tr (Iv):=
 .br (!(zX a0 ⟨(-4294967296),rfl⟩ ⟨4294967296,rfl⟩)) (.leaf zbe) (let c3:=(Rng.w .i64 (4294967296-a0.val));let c4:=(Rng.w .i64 (4294967296+a0.val));let c5:=zfi c3 c4;let c6:=zdv c5.a c5.a;let c7:=zdv c3 c4;.br (!((c6.hi.val==c7.hi.val)&&((c6.lo.val==c7.lo.val)&&true))) (.leaf ⟨c5.a,(Rng.w .i64 (c5.a.val+1))⟩) (.leaf ⟨c5.a,c5.a⟩))
def zeJ:I64->Iv:=fun a0=>(zjS a0).get
end
end Go.Proofs.YtkenfaengphiiaaGreatDoor.Ev
namespace Go.Proofs.YtkenfaengphiiaaGreatDoor.Ev
open Go
theorem zrB (a b:I64):zaj a b=zK a b:=(zEK a b).trans (zzV a b).symm
theorem zlk (n:I64):zcH n=zD n:=by
 have h:=zCk n
 have h2:=zq8 n
 have h1:=zq9 n
 rw [h.1,h2] at h1
 exact (Option.some.inj h1).symm
theorem zDN (x:Iv):zit x=zbN x:=by simp only [zit,zlN,zbN,znJ,Tr.get,zyO]
theorem zGN (x:Iv):zkk x=ze5 x:=by simp only [zkk,zlI,ze5,znH,Tr.get,zyO]
theorem zr5 (a:Iv):zbW a=zbG a:=by
 simp only [zbW,ziM,zbG,zgJ,Tr.get,add_eq,zH,ze0]
 cases ze a
 ·rfl
 simp only [Bool.not_true,cond_false]
 have e1:a.lo.val+a.lo.val=2*a.lo.val:=by omega
 have e2:a.hi.val+a.hi.val=2*a.hi.val:=by omega
 rw [e1,e2]
theorem zFd (a:Iv):zgq a=zeH a:=by
 simp only [zgq,zjA,zeH,zjO,Tr.get,add_eq,zmi,zdZ,zu1,zpZ]
theorem zIc (a:Iv):zfk a=zfj a:=by
 simp only [zfk,zg4,zfj,zjg,Tr.get,add_eq,sub_eq,zp3,zpZ,zrB,zyh,zrV,zbB,zdi]
theorem zDO (a:Iv):zc5 a=zcT a:=by
 simp only [zc5,zhH,zcT,zkZ,Tr.get,zr5,zIc,zFd]
theorem fix_eq (n:I64):zh3 n=zdm n:=rfl
theorem zDh (n:I64):zdm n=true↔(-1152921504606846976<n.val/\n.val<1152921504606846976):=by
 simp only [zdm,zn9,Tr.get]
 by_cases h1:(-1152921504606846976:Int)<n.val<;>simp [h1]
theorem zjf {k:I64} (h: -4096<=k.val) (h':k.val<=4096):zcw k=true/\za3 k=zaQ k:=by
 obtain ⟨x,h1,h2,h3⟩:=zBS k h h'
 have g:zcw k=true:=by unfold zcw;rw [h1];rfl
 have hi:zX k ⟨(-4096),rfl⟩ ⟨4096,rfl⟩=true:=by rw [zcO];simpa using ⟨h,h'⟩
 exact ⟨g,by simp only [za3,ziW,Tr.get,hi,g,Bool.not_true,cond_false,cond_true]⟩
theorem zvI:zbZ=zbh:=by
 obtain ⟨g,e⟩:=zjf (k:=⟨1,rfl⟩) (by decide) (by decide)
 simp only [zbZ,zgd,zbh,zli,Tr.get,zjs,e,g,cond_true]
theorem zFF (n:I64) (h:¬n.val<0):(zfM n).opt=some (zdO n)/\(zfR n).opt=some (zdO n):=by
 have hn:decide (n.val<0)=false:=by simpa using h
 simp only [zfM,zfR,zdO,Tr.opt,Tr.get,hn,cond_false,fix_eq,zvI,sub_eq,zjs,zDO,zmi,zdZ,at_eq]
 cases zdm n<;>cases decide (n.val>4294967296)<;>exact ⟨rfl,rfl⟩
theorem zDZ (n:I64):∃x,(zhF n).opt=some x/\(zhK n).opt=some x:=by
 simp only [zhF,zhK,Tr.opt,fix_eq,zvI,sub_eq,zjs,zDO,zmi,zdZ,at_eq]
 cases hf:zdm n
 ·exact ⟨_,rfl,rfl⟩
 have hb:=(zDh n).1 hf
 by_cases hn:n.val<0
 ·have e1:(Rng.w .i64 (0-n.val)).val=0-n.val:=wi (by omega) (by omega)
  obtain ⟨a1,a2⟩:=zFF (.w .i64 (0-n.val)) (by omega)
  have g1:zfX (.w .i64 (0-n.val))=true:=by unfold zfX;rw [a1];rfl
  have g2:zhZ (.w .i64 (0-n.val))=true:=by unfold zhZ;rw [a2];rfl
  have f2:zkm (.w .i64 (0-n.val))=zdO (.w .i64 (0-n.val)):=Tr.zao a2
  simp only [hn,decide_true,cond_true,g1,g2,f2,neg_eq,Bool.not_true,cond_false]
  exact ⟨_,rfl,rfl⟩
 ·simp only [hn,decide_false,cond_false,Bool.not_true]
  cases decide (n.val>4294967296)<;>exact ⟨_,rfl,rfl⟩
theorem zD1 (n:I64):ze6 n=zdn n:=by
 obtain ⟨x,h1,h2⟩:=zDZ n
 exact (Tr.zao h2).trans (Tr.zao h1).symm
theorem zwx (n:I64):(zhK n).opt=some (ze6 n):=by obtain ⟨x,_,h1⟩:=zDZ n;exact zhN h1
theorem zCW {k:I64} (h:0<=k.val) (h':k.val<=64):zaz k ⟨1598288580650331957,rfl⟩ ⟨29,rfl⟩=⟨.w .i64 (k.val*1598288580650331957/536870912),true⟩ /\
  zaz (.w .i64 (0-k.val)) ⟨1598288580650331958,rfl⟩ ⟨29,rfl⟩=⟨.w .i64 ((0-k.val)*1598288580650331958/536870912),true⟩ /\
  0<=k.val*1598288580650331957/536870912/\k.val*1598288580650331957/536870912 <= -((0-k.val)*1598288580650331958/536870912) /\ -((0-k.val)*1598288580650331958/536870912)<=200000000000:=by
 have hb:0<=k.val*1598288580650331957/536870912/\k.val*1598288580650331957/536870912 <= -((0-k.val)*1598288580650331958/536870912) /\ -((0-k.val)*1598288580650331958/536870912)<=200000000000:=by omega
 have en:(Rng.w .i64 (0-k.val)).val=0-k.val:=wi (by omega) (by omega)
 refine ⟨?_,?_,hb⟩
 ·rw [mf29];exact zfd (v:=k.val*1598288580650331957/536870912) (by omega) (by omega)
 ·rw [mf29,en];exact zfd (v:=(0-k.val)*1598288580650331958/536870912) (by omega) (by omega)
theorem logp (k:I64) (h:0<=k.val) (h':k.val<=64):∃x:Iv,(zbD k).opt=some x/\(zdY k).opt=some x/\ze x=true:=by
 have hw:zaw k ⟨(-64),rfl⟩ ⟨64,rfl⟩=true:=by rw [zbO];simp;omega
 have hi:zX k ⟨(-64),rfl⟩ ⟨64,rfl⟩=true:=by rw [zcO];simp;omega
 have hn:decide (k.val<0)=false:=by simp;omega
 obtain ⟨e1,e2,b1,b2,b3⟩:=zCW h h'
 have v1:(Rng.w .i64 (k.val*1598288580650331957/536870912)).val=k.val*1598288580650331957/536870912:=wi (by omega) (by omega)
 have v2:(Rng.w .i64 ((0-k.val)*1598288580650331958/536870912)).val=(0-k.val)*1598288580650331958/536870912:=wi (by omega) (by omega)
 have v3:(Rng.w .i64 (0-(0-k.val)*1598288580650331958/536870912)).val=0-(0-k.val)*1598288580650331958/536870912:=wi (by omega) (by omega)
 have hok: -1152921504606846976<(Rng.w .i64 (k.val*1598288580650331957/536870912)).val/\(Rng.w .i64 (k.val*1598288580650331957/536870912)).val<=(Rng.w .i64 (0-(Rng.w .i64 ((0-k.val)*1598288580650331958/536870912)).val)).val/\(Rng.w .i64 (0-(Rng.w .i64 ((0-k.val)*1598288580650331958/536870912)).val)).val<1152921504606846976:=by
  rw [v1,v2,v3];omega
 refine ⟨⟨.w .i64 (k.val*1598288580650331957/536870912),.w .i64 (0-(Rng.w .i64 ((0-k.val)*1598288580650331958/536870912)).val)⟩,?_,?_,(zbC _).2 hok⟩
 ·simp only [zbD,Tr.opt,hi,hn,Bool.not_true,cond_false,e1,e2]
  rw [zb3 hok]
 ·simp only [zdY,Tr.opt,hw,hn,Bool.not_true,cond_false,zps,e1,e2]
theorem zxo (k:I64):∃x:Iv,(zcN k).opt=some x/\(zel k).opt=some x:=by
 by_cases h: -64<=k.val/\k.val<=64
 ·have hw:zaw k ⟨(-64),rfl⟩ ⟨64,rfl⟩=true:=by rw [zbO];simpa using h
  have hi:zX k ⟨(-64),rfl⟩ ⟨64,rfl⟩=true:=by rw [zcO];simpa using h
  by_cases hn:k.val<0
  ·have e1:(Rng.w .i64 (0-k.val)).val=0-k.val:=wi (by omega) (by omega)
   obtain ⟨x,h1,h2,h3⟩:=logp (.w .i64 (0-k.val)) (by omega) (by omega)
   have g1:zdb (.w .i64 (0-k.val))=true:=by unfold zdb;rw [h1];rfl
   have g2:zg8 (.w .i64 (0-k.val))=true:=by unfold zg8;rw [h2];rfl
   have f1:zg9 (.w .i64 (0-k.val))=x:=Tr.zao h1
   have f2:zjo (.w .i64 (0-k.val))=x:=Tr.zao h2
   have hd:decide (k.val<0)=true:=by simpa using hn
   exact ⟨zW x,by simp only [zcN,Tr.opt,hi,hd,g1,f1,cond_true,cond_false,Bool.not_true],by simp only [zel,Tr.opt,hw,hd,g2,f2,cond_true,cond_false,Bool.not_true,neg_eq]⟩
  ·obtain ⟨x,h1,h2,h3⟩:=logp k (by omega) (by omega)
   have hd:decide (k.val<0)=false:=by simpa using hn
   refine ⟨x,?_,?_⟩
   ·simp only [zbD,Tr.opt,hd] at h1
    simp only [zcN,Tr.opt,hd]
    exact h1
   ·simp only [zdY,Tr.opt,hd,hw] at h2
    simp only [zel,Tr.opt,hd,hw]
    exact h2
 ·have hi:zX k ⟨(-64),rfl⟩ ⟨64,rfl⟩=false:=by rw [zcO];simpa using h
  have hw:zaw k ⟨(-64),rfl⟩ ⟨64,rfl⟩=false:=by rw [zbO];simpa using h
  exact ⟨zt,by simp only [zcN,Tr.opt,hi,Bool.not_false,cond_true],by simp only [zel,Tr.opt,hw,Bool.not_false,cond_true,zbB]⟩
theorem zww (k:I64):(zel k).opt=some (zdA k):=by obtain ⟨x,_,h1⟩:=zxo k;exact zhN h1
theorem zrQ (k:I64):zdA k=zar k:=by
 obtain ⟨x,h1,h2⟩:=zxo k
 exact (Tr.zao h2).trans (Tr.zao h1).symm
end Go.Proofs.YtkenfaengphiiaaGreatDoor.Ev
namespace Go.Proofs.YtkenfaengphiiaaGreatDoor.Ev
open Go Go.RowKit
set_option maxRecDepth 100000
section
variable [Amb]
def ztR:Ent Tryz.prog:= .of1 zKv B113 (fun _=>true) ze6 fun a0 _=>(zvq a0).trans (zwx a0)
def zkp:Ent Tryz.prog:= .of1 zKD B104 (fun _=>true) zdA fun a0 _=>(ztp a0).trans (zww a0)
def B43:Bod Tryz.prog:=⟨43,Tryz.f43,Tryz.f43.body.getD .skip,Tryz.func43,by kernel_rfl,by kernel_rfl,zav.no _ _⟩
def Tb43:Tb Tryz.prog:= {T:= [Y2,Y34],mix:=mix,Es:= [zkW,zbI,zgu,ztR],Bs:= [],d:=1}
def zkK (a0:Iv):Tr (Iv):=
 .br (zas a0) (.leaf zbZ) (.leaf (zbS (ze6 a0.lo) (ze6 a0.hi)))
theorem zw5 (a0:Iv):Tb43.run B43 [enc a0] (Iv)=(zkK a0).opt:=by kernel_rfl
def zeY:Iv->Iv:=fun a0=>(zkK a0).get
theorem zwu (a0:Iv):(zkK a0).opt=some (zeY a0):=Tr.z8 (by kernel_rfl)
def zqd:Ent Tryz.prog:= .of1 Tb43 B43 (fun _=>true) zeY fun a0 _=>(zw5 a0).trans (zwu a0)
structure zc1 where
 x0:I64
 x1:I64
instance:Inhabited zc1:=⟨⟨default,default⟩⟩
def zmb (x:zc1):St:=⟨[(0,.i64 x.x0),(3,.i64 x.x1)],22,⟨[],0,0⟩⟩
def zme:St->Option zc1:=fun s=>match s with
 | ⟨[(0,.i64 x0),(3,.i64 x1)],22,⟨[],0,0⟩⟩=>some ⟨x0,x1⟩
 | _=>none
def zdN (x:zc1):Tr (Lp zc1):=
 .br (decide (x.x1.val<0)) (.bad) (.br (decide ((Rng.w .i64 (x.x0.val.fdiv (2^min (x.x1.val).toNat 64))).val>=6442450944)) (.leaf (.again ⟨x.x0,(Rng.w .i64 (x.x1.val+1))⟩)) (.leaf (.out ⟨x.x0,x.x1⟩)))
def zhV (x:zc1):Bool:=(Lf zdN 70 x).opt.isSome
def zkg (x:zc1):zc1:=(Lf zdN 70 x).get
def zpH:Tb Tryz.prog:= {T:= [],mix:=mix,Es:= [],Bs:= [],d:=1}
def zke:LpF:=zvA [0,3] [] 0 zme zmb (.exit 0) zhV zkg
theorem zpv:zlt Tryz.prog (zox (Tryz.f152.body.getD .skip) 0) zke:=zlV (t:=zpH) (lt:=fun _=>none) (body:=zdN) (n:=70) (by intro h;cases h) (fun _ _ _ h=>by cases h)
 (by intro s x h;unfold zme at h;split at h<;>cases h;rfl) (fun x b cs h=>zxp (l:=(zmb x).mm.blks) (by kernel_rfl) h) (by intro x;kernel_rfl) (fun x h=>Tr.get_some h)
structure zc0 where
 x0:I64
 x1:I64
instance:Inhabited zc0:=⟨⟨default,default⟩⟩
def zma (x:zc0):St:=⟨[(0,.i64 x.x0),(3,.i64 x.x1)],22,⟨[],0,0⟩⟩
def zmd:St->Option zc0:=fun s=>match s with
 | ⟨[(0,.i64 x0),(3,.i64 x1)],22,⟨[],0,0⟩⟩=>some ⟨x0,x1⟩
 | _=>none
def zcB (x:zc0):Tr (Lp zc0):=
 .br (decide (x.x1.val<=0)) (let c5:=(Rng.w .i64 (0-x.x1.val));.br (decide (c5.val<0)) (.bad) (.br (decide ((Rng.w .i64 (x.x0.val*(2^min (c5.val).toNat 64))).val<3221225472)) (.leaf (.again ⟨x.x0,(Rng.w .i64 (x.x1.val-1))⟩)) (.leaf (.out ⟨x.x0,x.x1⟩)))) (.leaf (.out ⟨x.x0,x.x1⟩))
def zeE (x:zc0):Bool:=(Lf zcB 70 x).opt.isSome
def zhS (x:zc0):zc0:=(Lf zcB 70 x).get
def zpG:Tb Tryz.prog:= {T:= [],mix:=mix,Es:= [],Bs:= [],d:=1}
def zkd:LpF:=zvA [0,3] [] 0 zmd zma (.exit 2) zeE zhS
theorem zpu:zlt Tryz.prog (zox (Tryz.f152.body.getD .skip) 1) zkd:=zlV (t:=zpG) (lt:=fun _=>none) (body:=zcB) (n:=70) (by intro h;cases h) (fun _ _ _ h=>by cases h)
 (by intro s x h;unfold zmd at h;split at h<;>cases h;rfl) (fun x b cs h=>zxp (l:=(zma x).mm.blks) (by kernel_rfl) h) (by intro x;kernel_rfl) (fun x h=>Tr.get_some h)
def B152:Bod Tryz.prog:=⟨152,Tryz.f152,Tryz.f152.body.getD .skip,Tryz.func152,by kernel_rfl,by kernel_rfl,⟨ltOf [(2,zke),(4,zkd)],zav.of (ks:= [2,4]) (by kernel_rfl) (by
 intro i k h f hf
 match i,h with
 | 0,h=>cases h;obtain rfl:zke=f:=Option.some.inj hf;exact zpv
 | 1,h=>cases h;obtain rfl:zkd=f:=Option.some.inj hf;exact zpu
 | n+2,h=>simp at h)⟩⟩
def zJ4:Tb Tryz.prog:= {T:= [],mix:=mix,Es:= [],Bs:= [],d:=1}
def ze1 (a0:I64):Tr (I64):=
 .br (zhV ⟨a0,⟨0,rfl⟩⟩) (let c4:=zkg ⟨a0,⟨0,rfl⟩⟩;.br (zeE ⟨c4.x0,c4.x1⟩) (.leaf (zhS ⟨c4.x0,c4.x1⟩).x1) (.bad)) (.bad)
theorem zvg (a0:I64):zJ4.run B152 [enc a0] (I64)=(ze1 a0).opt:=by kernel_rfl
def zjL:I64->I64:=fun a0=>(ze1 a0).get
def zgm:I64->Bool:=fun a0=>(ze1 a0).opt.isSome
def zvZ:Ent Tryz.prog:= .of1 zJ4 B152 zgm zjL fun a0 h=>(zvg a0).trans (Tr.get_some h)
def B153:Bod Tryz.prog:=⟨153,Tryz.f153,Tryz.f153.body.getD .skip,Tryz.func153,by kernel_rfl,by kernel_rfl,zav.no _ _⟩
def zJ3:Tb Tryz.prog:= {T:= [Y2,Y34],mix:=mix,Es:= [zcg,zdk],Bs:= [],d:=1}
def ziA (a0:Iv) (a1:I64):Tr (Iv):=
 .leaf (zaR (Rng.w .i64 (a0.lo.val-a1.val)) (Rng.w .i64 (a0.hi.val+a1.val)) (zbs a0))
theorem zta (a0:Iv) (a1:I64):zJ3.run B153 [enc a0,enc a1] (Iv)=(ziA a0 a1).opt:=by kernel_rfl
def zdw:Iv->I64->Iv:=fun a0 a1=>(ziA a0 a1).get
theorem zsH (a0:Iv) (a1:I64):(ziA a0 a1).opt=some (zdw a0 a1):=Tr.z8 (by kernel_rfl)
def znA:Ent Tryz.prog:= .of2 zJ3 B153 (fun _ _=>true) zdw fun a0 a1 _=>(zta a0 a1).trans (zsH a0 a1)
def B105:Bod Tryz.prog:=⟨105,Tryz.f105,Tryz.f105.body.getD .skip,Tryz.func105,by kernel_rfl,by kernel_rfl,zav.no _ _⟩
def zKC:Tb Tryz.prog:= {T:= [Y2,Y34],mix:=mix,Es:= [zf7,zeq,zha,zaA,zdP,zjd,zhA,zcW,zkp,zf6,zc7,zvZ,znA],Bs:= [],d:=1}
def zeP (a0:I64):Tr (Iv):=
 .br (!(zaO a0)) (.leaf zL) (.br (decide (a0.val<=0)) (.leaf zL) (.br (zgm a0) (let c4:=zjL a0;.br (decide (c4.val>0)) (.br (decide (c4.val<0)) (.bad) (let c6:=(Rng.w .i64 (a0.val.fdiv (2^min (c4.val).toNat 64)));.br (decide (c4.val<0)) (.bad) (let c9:=(Rng.w .i64 (0-(Rng.w .i64 ((Rng.w .i64 (0-a0.val)).val.fdiv (2^min (c4.val).toNat 64))).val));let c14:=zat (zaJ ⟨c6,c9⟩ (zB ⟨1,rfl⟩)) (zae ⟨c6,c9⟩ (zB ⟨1,rfl⟩));let c15:=zeo c14;.leaf (zae (zdA c4) (zdw (zV (zV (zB ⟨2,rfl⟩) c14) (zae (zaj ⟨1,rfl⟩ ⟨1,rfl⟩) (zV c15 (zae (zaj ⟨1,rfl⟩ ⟨3,rfl⟩) (zV c15 (zae (zaj ⟨1,rfl⟩ ⟨5,rfl⟩) (zV c15 (zae (zaj ⟨1,rfl⟩ ⟨7,rfl⟩) (zV c15 (zae (zaj ⟨1,rfl⟩ ⟨9,rfl⟩) (zV c15 (zaj ⟨1,rfl⟩ ⟨11,rfl⟩)))))))))))) ⟨1,rfl⟩))))) (let c38:=(Rng.w .i64 (0-c4.val));.br (decide (c38.val<0)) (.bad) (let c40:=zc6 (Rng.w .i64 (a0.val*(2^min (c38.val).toNat 64)));let c45:=zat (zaJ c40 (zB ⟨1,rfl⟩)) (zae c40 (zB ⟨1,rfl⟩));let c46:=zeo c45;.leaf (zae (zdA c4) (zdw (zV (zV (zB ⟨2,rfl⟩) c45) (zae (zaj ⟨1,rfl⟩ ⟨1,rfl⟩) (zV c46 (zae (zaj ⟨1,rfl⟩ ⟨3,rfl⟩) (zV c46 (zae (zaj ⟨1,rfl⟩ ⟨5,rfl⟩) (zV c46 (zae (zaj ⟨1,rfl⟩ ⟨7,rfl⟩) (zV c46 (zae (zaj ⟨1,rfl⟩ ⟨9,rfl⟩) (zV c46 (zaj ⟨1,rfl⟩ ⟨11,rfl⟩)))))))))))) ⟨1,rfl⟩))))) (.bad)))
theorem zwY (a0:I64):zKC.run B105 [enc a0] (Iv)=(zeP a0).opt:=by kernel_rfl
def zhw:I64->Iv:=fun a0=>(zeP a0).get
def znt (a0:Iv):Tr (Bool):=
 .leaf (!(ze a0))
def ziS:Iv->Bool:=fun a0=>(znt a0).get
def zpY (a0:Iv):Tr (Iv):=
 .br (ziS a0) (.leaf zbh) (.leaf (zaM (zdn a0.lo) (zdn a0.hi)))
def zeV:Iv->Iv:=fun a0=>(zpY a0).get
def zku (a0:I64):Tr (Iv):=
 .leaf (zab a0 a0)
def za2:I64->Iv:=fun a0=>(zku a0).get
def zn8:Tr (Iv):=
 .leaf (za2 ⟨4294967296,rfl⟩)
def zaa:Iv:=(zn8).get
def zhC (a0:Iv) (a1:I64):Tr (Iv):=
 .br (!(ze a0)) (.leaf zt) (.leaf (zab (Rng.w .i64 (a0.lo.val-a1.val)) (Rng.w .i64 (a0.hi.val+a1.val))))
def zaT:Iv->I64->Iv:=fun a0 a1=>(zhC a0 a1).get
structure zfr where
 x0:I64
 x1:I64
 x2:I64
 x3:I64
 x4:I64
 x5:I64
instance:Inhabited zfr:=⟨⟨default,default,default,default,default,default⟩⟩
def zfp (x:zfr):Tr (Lp zfr):=
 .br (decide (x.x4.val>=6442450944)) (let c4:=(Rng.w .i64 (x.x1.val+1));.leaf (.again ⟨x.x0,c4,x.x2,x.x3,(Rng.w .i64 (x.x0.val.fdiv (2^min ((Rng.w .u64 (c4.val)).val).toNat 64))),(Rng.w .i64 (0-(Rng.w .i64 ((Rng.w .i64 (0-x.x0.val)).val.fdiv (2^min ((Rng.w .u64 (c4.val)).val).toNat 64))).val))⟩)) (.leaf (.out ⟨x.x0,x.x1,x.x2,x.x3,x.x4,x.x5⟩))
def zk8 (x:zfr):Bool:=(Lf zfp 70 x).opt.isSome
def zny (x:zfr):zfr:=(Lf zfp 70 x).get
structure zfq where
 x0:I64
 x1:I64
 x2:I64
 x3:I64
 x4:I64
 x5:I64
instance:Inhabited zfq:=⟨⟨default,default,default,default,default,default⟩⟩
def zdr (x:zfq):Tr (Lp zfq):=
 .br (decide (x.x4.val<3221225472)) (let c11:=(Rng.w .i64 (x.x1.val-1));.leaf (.again ⟨x.x0,c11,x.x2,x.x3,(Rng.w .i64 (x.x0.val*(2^min ((Rng.w .u64 ((Rng.w .i64 (0-c11.val)).val)).val).toNat 64))),(Rng.w .i64 (x.x0.val*(2^min ((Rng.w .u64 ((Rng.w .i64 (0-c11.val)).val)).val).toNat 64)))⟩)) (.leaf (.out ⟨x.x0,x.x1,x.x2,x.x3,x.x4,x.x5⟩))
def zgP (x:zfq):Bool:=(Lf zdr 70 x).opt.isSome
def zk6 (x:zfq):zfq:=(Lf zdr 70 x).get
def zhm (a0:I64):Tr (Iv):=
 .br (!(zX a0 ⟨1,rfl⟩ ⟨1152921504606846976,rfl⟩)) (.leaf zt) (.br (zk8 ⟨a0,⟨0,rfl⟩,⟨0,rfl⟩,⟨0,rfl⟩,a0,a0⟩) (let c9:=zny ⟨a0,⟨0,rfl⟩,⟨0,rfl⟩,⟨0,rfl⟩,a0,a0⟩;.br (zgP ⟨c9.x0,c9.x1,c9.x2,c9.x3,c9.x4,c9.x5⟩) (let c16:=zk6 ⟨c9.x0,c9.x1,c9.x2,c9.x3,c9.x4,c9.x5⟩;let c21:=zO (zac ⟨c16.x4,c16.x5⟩ zaa) (zH ⟨c16.x4,c16.x5⟩ zaa);let c22:=zbg c21;.leaf (zH (zar c16.x1) (zaT (zz (zz (zy ⟨2,rfl⟩) c21) (zH (zK ⟨1,rfl⟩ ⟨1,rfl⟩) (zz c22 (zH (zK ⟨1,rfl⟩ ⟨3,rfl⟩) (zz c22 (zH (zK ⟨1,rfl⟩ ⟨5,rfl⟩) (zz c22 (zH (zK ⟨1,rfl⟩ ⟨7,rfl⟩) (zz c22 (zH (zK ⟨1,rfl⟩ ⟨9,rfl⟩) (zz c22 (zK ⟨1,rfl⟩ ⟨11,rfl⟩)))))))))))) ⟨1,rfl⟩))) (.bad)) (.bad))
def zec:I64->Iv:=fun a0=>(zhm a0).get
end
end Go.Proofs.YtkenfaengphiiaaGreatDoor.Ev
namespace Go.Proofs.YtkenfaengphiiaaGreatDoor.Ev
open Go
theorem ctr {α:Type} (a b:α):(bif true then a else b)=a:=by simp
theorem cfl {α:Type} (a b:α):(bif false then a else b)=b:=by simp
theorem zFV (a:Iv):ziS a= !(ze a):=by simp only [ziS,znt,Tr.get]
theorem zBA (a:Iv):zeY a=bif zas a then zbZ else zbS (ze6 a.lo) (ze6 a.hi):=by
 simp only [zeY,zkK,Tr.get]
theorem zuv (a:Iv):zeV a=bif ziS a then zbh else zaM (zdn a.lo) (zdn a.hi):=by
 simp only [zeV,zpY,Tr.get]
theorem zAO (a:Iv):zeY a=zeV a:=by
 rw [zBA,zuv,znw,zFV,zvI,zD1,zD1,zmS]
end Go.Proofs.YtkenfaengphiiaaGreatDoor.Ev
namespace Go.Proofs.YtkenfaengphiiaaGreatDoor.Ev
open Go
def shr (n e:I64):I64:= .w .i64 (n.val.fdiv (2^min e.val.toNat 64))
def shl (n e:I64):I64:= .w .i64 (n.val*(2^min e.val.toNat 64))
theorem zow {n e:I64} (h:0<=e.val) (h':e.val<=40):(shr n e).val=n.val/2^e.val.toNat:=by
 unfold shr
 rw [Nat.min_eq_left (by omega),zHG]
 have hp:(0:Int)<2^e.val.toNat:=Int.pow_pos (by decide)
 have:=zAC hp n.bd
 exact wi this.1 this.2
theorem zxn (n:I64) (hn:1<=n.val/\n.val<=1152921504606846976) (x2 x3:I64):∀(j:Nat) (m:Nat) (e:I64),e.val=32-(j:Int)->j<=32->
  ∃E:I64,e.val<=E.val/\E.val<=32/\(Lf zfp (j+1+m) ⟨n,e,x2,x3,shr n e,.w .i64 (0-(shr (.w .i64 (0-n.val)) e).val)⟩).opt=some ⟨n,E,x2,x3,shr n E,.w .i64 (0-(shr (.w .i64 (0-n.val)) E).val)⟩ /\
   (Lf zdN (j+1+m) ⟨n,e⟩).opt=some ⟨n,E⟩/\(shr n E).val<6442450944/\(E=e\/3221225472<=(shr n E).val):=by
 intro j
 induction j with
 | zero=>
  intro m e he _
  have hv:=zow (n:=n) (e:=e) (by omega) (by omega)
  have hp:(2:Int)^e.val.toNat=4294967296:=by rw [show e.val.toNat=32 by omega];rfl
  have hlt:¬(shr n e).val>=6442450944:=by rw [hv,hp];omega
  have hlt':¬(Rng.w .i64 (n.val.fdiv (2^min e.val.toNat 64))).val>=6442450944:=hlt
  have hneg:decide (e.val<0)=false:=by simp;omega
  refine ⟨e,by omega,by omega,?_,?_,by omega,.inl rfl⟩
  ·simp only [Lf,zfp,hlt,decide_false,Tr.bind,Tr.opt,cond_false,Nat.zero_add,Nat.add_comm 1 m]
  ·simp only [Lf,zdN,hneg,hlt',decide_false,Tr.bind,Tr.opt,cond_false,Nat.zero_add,Nat.add_comm 1 m]
 | succ j ih=>
  intro m e he hj
  have hv:=zow (n:=n) (e:=e) (by omega) (by omega)
  have hneg:decide (e.val<0)=false:=by simp;omega
  have ev:(Rng.w .i64 (e.val+1)).val=e.val+1:=wi (by omega) (by omega)
  have hfuel:j+1+1+m=(j+1+m)+1:=by omega
  by_cases hc:(shr n e).val>=6442450944
  ·have hc':(Rng.w .i64 (n.val.fdiv (2^min e.val.toNat 64))).val>=6442450944:=hc
   obtain ⟨E,h1,h2,h3,h4,h5,h6⟩:=ih m (.w .i64 (e.val+1)) (by rw [ev];omega) (by omega)
   have en:(Rng.w .u64 (Rng.w .i64 (e.val+1)).val).val=(Rng.w .i64 (e.val+1)).val:=by rw [ev];exact wu (by omega) (by omega)
   refine ⟨E,by omega,h2,?_,?_,h5,.inr ?_⟩
   ·rw [hfuel]
    simp only [Lf,zfp,hc,decide_true,Tr.bind,Tr.opt,cond_true,en]
    exact h3
   ·rw [hfuel]
    simp only [Lf,zdN,hneg,hc',decide_true,Tr.bind,Tr.opt,cond_true,cond_false]
    exact h4
   ·rcases h6 with h6|h6
    ·have hv2:=zow (n:=n) (e:= .w .i64 (e.val+1)) (by rw [ev];omega) (by rw [ev];omega)
     rw [h6,hv2,ev,show (e.val+1).toNat=e.val.toNat+1 by omega,Int.pow_succ,<- Int.ediv_ediv_of_nonneg (Int.pow_nonneg (by decide)),<- hv]
     omega
    ·exact h6
  ·have hc':¬(Rng.w .i64 (n.val.fdiv (2^min e.val.toNat 64))).val>=6442450944:=hc
   refine ⟨e,by omega,by omega,?_,?_,by omega,.inl rfl⟩
   ·rw [hfuel]
    simp only [Lf,zfp,hc,decide_false,Tr.bind,Tr.opt,cond_false]
   ·rw [hfuel]
    simp only [Lf,zdN,hneg,hc',decide_false,Tr.bind,Tr.opt,cond_false]
def sl (n e:I64):I64:=shl n (.w .i64 (0-e.val))
theorem zIT (n:I64) (hn:1<=n.val) (x2 x3:I64):∀(j:Nat) (m:Nat) (e:I64),e.val=(j:Int)-32->j<=32->n.val*2^(32-j)<6442450944->
  ∃E:I64,E.val<=e.val /\ -32<=E.val/\(Lf zdr (j+1+m) ⟨n,e,x2,x3,sl n e,sl n e⟩).opt=some ⟨n,E,x2,x3,sl n E,sl n E⟩ /\
   (Lf zcB (j+1+m) ⟨n,e⟩).opt=some ⟨n,E⟩/\3221225472<=(sl n E).val/\(sl n E).val<6442450944/\∃k:Nat,E.val= -(k:Int)/\(sl n E).val=n.val*2^k:=by
 have slv:∀(k:Nat) (e:I64),e.val= -(k:Int)->k<=32->n.val*2^k<6442450944->(sl n e).val=n.val*2^k:=fun k e he hk hlt=>by
  have e1:(Rng.w .i64 (0-e.val)).val=(k:Int):=by rw [wi (by omega) (by omega)];omega
  have hnn:0<=n.val*2^k:=Int.mul_nonneg (by omega) (Int.pow_nonneg (by decide))
  unfold sl shl
  rw [e1,Int.toNat_natCast,Nat.min_eq_left (by omega)]
  exact wi (by omega) (by omega)
 intro j
 induction j with
 | zero=>
  intro m e he _ hb
  have hv:=slv 32 e (by omega) (by omega) hb
  have hp:(2:Int)^32=4294967296:=rfl
  have hge:¬(sl n e).val<3221225472:=by rw [hv,hp];omega
  have hge':¬(Rng.w .i64 (n.val*(2^min (Rng.w .i64 (0-e.val)).val.toNat 64))).val<3221225472:=hge
  have e1:(Rng.w .i64 (0-e.val)).val=0-e.val:=wi (by omega) (by omega)
  have hneg:decide ((Rng.w .i64 (0-e.val)).val<0)=false:=by rw [e1];simp;omega
  have hle:decide (e.val<=0)=true:=by simp;omega
  refine ⟨e,by omega,by omega,?_,?_,by omega,by omega,32,by omega,hv⟩
  ·simp only [Lf,zdr,hge,decide_false,Tr.bind,Tr.opt,cond_false,Nat.zero_add,Nat.add_comm 1 m]
  ·simp only [Lf,zcB,hle,hneg,hge',decide_false,Tr.bind,Tr.opt,cond_true,cond_false,Nat.zero_add,Nat.add_comm 1 m]
 | succ j ih=>
  intro m e he hj hb
  have hk:32-(j+1)+1=32-j:=by omega
  have hv:=slv (32-(j+1)) e (by omega) (by omega) hb
  have e1:(Rng.w .i64 (0-e.val)).val=0-e.val:=wi (by omega) (by omega)
  have hneg:decide ((Rng.w .i64 (0-e.val)).val<0)=false:=by rw [e1];simp;omega
  have hle:decide (e.val<=0)=true:=by simp;omega
  have ev:(Rng.w .i64 (e.val-1)).val=e.val-1:=wi (by omega) (by omega)
  have hfuel:j+1+1+m=(j+1+m)+1:=by omega
  by_cases hc:(sl n e).val<3221225472
  ·have hc':(Rng.w .i64 (n.val*(2^min (Rng.w .i64 (0-e.val)).val.toNat 64))).val<3221225472:=hc
   have e2:(Rng.w .i64 (0-(Rng.w .i64 (e.val-1)).val)).val=0-(e.val-1):=by rw [ev];exact wi (by omega) (by omega)
   have en:(Rng.w .u64 (Rng.w .i64 (0-(Rng.w .i64 (e.val-1)).val)).val).val=(Rng.w .i64 (0-(Rng.w .i64 (e.val-1)).val)).val:=by rw [e2];exact wu (by omega) (by omega)
   obtain ⟨E,h1,h2,h3,h4,h5⟩:=ih m (.w .i64 (e.val-1)) (by rw [ev];omega) (by omega) (by rw [<- hk,Int.pow_succ,<- Int.mul_assoc,<- hv];omega)
   refine ⟨E,by omega,h2,?_,?_,h5⟩
   ·rw [hfuel]
    simp only [Lf,zdr,hc,decide_true,Tr.bind,Tr.opt,cond_true,en]
    exact h3
   ·rw [hfuel]
    simp only [Lf,zcB,hle,hneg,hc',decide_true,Tr.bind,Tr.opt,cond_true,cond_false]
    exact h4
  ·have hc':¬(Rng.w .i64 (n.val*(2^min (Rng.w .i64 (0-e.val)).val.toNat 64))).val<3221225472:=hc
   refine ⟨e,by omega,by omega,?_,?_,by omega,by rw [hv];exact hb,32-(j+1),by omega,hv⟩
   ·rw [hfuel]
    simp only [Lf,zdr,hc,decide_false,Tr.bind,Tr.opt,cond_false]
   ·rw [hfuel]
    simp only [Lf,zcB,hle,hneg,hc',decide_false,Tr.bind,Tr.opt,cond_true,cond_false]
def zij (m:Iv) (e:I64):Iv:=
 let z:=zO (zac m zaa) (zH m zaa)
 let q:=zbg z
 zH (zar e) (zaT (zz (zz (zy ⟨2,rfl⟩) z) (zH (zK ⟨1,rfl⟩ ⟨1,rfl⟩) (zz q (zH (zK ⟨1,rfl⟩ ⟨3,rfl⟩) (zz q (zH (zK ⟨1,rfl⟩ ⟨5,rfl⟩) (zz q (zH (zK ⟨1,rfl⟩ ⟨7,rfl⟩) (zz q (zH (zK ⟨1,rfl⟩ ⟨9,rfl⟩) (zz q (zK ⟨1,rfl⟩ ⟨11,rfl⟩)))))))))))) ⟨1,rfl⟩)
theorem zp2:zy ⟨1,rfl⟩=zaa:=by
 rw [zmR (by decide)]
 simp only [zaa,zn8,za2,zku,Tr.get]
 exact (zb3 (by decide)).symm
theorem zuE (a:Iv) (n:I64):zdw a n=zaT a n:=by
 simp only [zdw,ziA,zaT,zhC,Tr.get,zeC,valid_eq]
 cases ze a<;>simp [ctr,cfl]
theorem ediv_neg {a p:Int} (hp:0<p) (ha:a<=0):a<=a/p/\a/p<=0:=by
 constructor
 ·rw [Int.le_ediv_iff_mul_le hp]
  have h:=Int.mul_nonneg (show 0 <= -a by omega) (show 0<=p-1 by omega)
  rw [Int.neg_mul,Int.mul_sub] at h
  omega
 ·have:a/p<1:=(Int.ediv_lt_iff_lt_mul hp).2 (by omega)
  omega
def LogM (n:I64) (m:Iv) (E:I64):Prop:=
 ∃k:Nat,k<=32/\((E.val=(k:Int)/\m.lo.val=n.val/2^k/\m.hi.val= -(-n.val/2^k))\/(E.val= -(k:Int)/\m.lo=m.hi/\m.lo.val=n.val*2^k))/\3221225472<=m.lo.val/\m.lo.val<6442450944
theorem zrP (n:I64):∃y,(zhm n).opt=some y/\(zeP n).opt=some y/\((1<=n.val/\n.val<=1152921504606846976/\∃m E,LogM n m E/\y=zij m E)\/(¬(1<=n.val/\n.val<=1152921504606846976)/\y=zt)):=by
 by_cases hn:1<=n.val/\n.val<=1152921504606846976
 ·have hi:zX n ⟨1,rfl⟩ ⟨1152921504606846976,rfl⟩=true:=by rw [zcO];simpa using hn
  have hv:zaO n=true:=by rw [zkR];exact ok3 (by omega)
  have hp:decide (n.val<=0)=false:=by simp;omega
  obtain ⟨E,a1,a2,a3,a4,a5,a6⟩:=zxn n hn ⟨0,rfl⟩ ⟨0,rfl⟩ 32 37 ⟨0,rfl⟩ rfl (by decide)
  have z1:shr n ⟨0,rfl⟩=n:=by
   unfold shr
   show Rng.w .i64 (n.val.fdiv (2^0))=n
   rw [show (2:Int)^0=1 by rfl,Int.fdiv_one];exact Rng.w_val _
  have z2:Rng.w .i64 (0-(shr (.w .i64 (0-n.val)) ⟨0,rfl⟩).val)=n:=by
   have:shr (.w .i64 (0-n.val)) ⟨0,rfl⟩= .w .i64 (0-n.val):=by
    unfold shr
    show Rng.w .i64 ((Rng.w .i64 (0-n.val)).val.fdiv (2^0))=_
    rw [show (2:Int)^0=1 by rfl,Int.fdiv_one];exact Rng.w_val _
   rw [this]
   exact rext (by rw [wi (n:=0-n.val) (by omega) (by omega),wi (by omega) (by omega)];omega)
  have hf:(32+1+37:Nat)=70:=rfl
  rw [hf,z1,z2] at a3
  rw [hf] at a4
  have g5:zk8 ⟨n,⟨0,rfl⟩,⟨0,rfl⟩,⟨0,rfl⟩,n,n⟩=true:=by unfold zk8;rw [a3];rfl
  have l5:zny ⟨n,⟨0,rfl⟩,⟨0,rfl⟩,⟨0,rfl⟩,n,n⟩=_:=Tr.zao a3
  have g2:zhV ⟨n,⟨0,rfl⟩⟩=true:=by unfold zhV;rw [a4];rfl
  have l2:zkg ⟨n,⟨0,rfl⟩⟩=_:=Tr.zao a4
  by_cases hE:E.val>0
  ·have hge:3221225472<=(shr n E).val:=by
    rcases a6 with h|h
    ·rw [h] at hE;exact absurd hE (by decide)
    ·exact h
   have hd:decide ((shr n E).val<3221225472)=false:=by simp;omega
   have hd2:decide (E.val<=0)=false:=by simp;omega
   have b3':∀k,(Lf zdr (k+1) ⟨n,E,⟨0,rfl⟩,⟨0,rfl⟩,shr n E,.w .i64 (0-(shr (.w .i64 (0-n.val)) E).val)⟩).opt=some ⟨n,E,⟨0,rfl⟩,⟨0,rfl⟩,shr n E,.w .i64 (0-(shr (.w .i64 (0-n.val)) E).val)⟩:=by
    intro k;simp only [Lf,zdr,hd,Tr.bind,Tr.opt,cond_false]
   have b4':∀k,(Lf zcB (k+1) ⟨n,E⟩).opt=some ⟨n,E⟩:=by intro k;simp only [Lf,zcB,hd2,Tr.bind,Tr.opt,cond_false]
   have b3:=b3' 69
   have b4:=b4' 69
   have g8:zgP ⟨n,E,⟨0,rfl⟩,⟨0,rfl⟩,shr n E,.w .i64 (0-(shr (.w .i64 (0-n.val)) E).val)⟩=true:=by unfold zgP;rw [b3];rfl
   have l8:zk6 ⟨n,E,⟨0,rfl⟩,⟨0,rfl⟩,shr n E,.w .i64 (0-(shr (.w .i64 (0-n.val)) E).val)⟩=_:=Tr.zao b3
   have g4:zeE ⟨n,E⟩=true:=by unfold zeE;rw [b4];rfl
   have l4:zhS ⟨n,E⟩=_:=Tr.zao b4
   have tw:(ze1 n).opt=some E:=by simp only [ze1,Tr.opt,g2,l2,g4,l4,cond_true]
   have gt:zgm n=true:=by unfold zgm;rw [tw];rfl
   have ft:zjL n=E:=Tr.zao tw
   have hpos:decide (E.val>0)=true:=by simpa using hE
   have hng:decide (E.val<0)=false:=by simp;omega
   have hb1:=zow (n:=n) (e:=E) (by omega) (by omega)
   have hb2:=zow (n:= .w .i64 (0-n.val)) (e:=E) (by omega) (by omega)
   rw [show (Rng.w .i64 (0-n.val)).val= -n.val from by rw [wi (by omega) (by omega)];omega] at hb2
   have hb3:=ediv_neg (a:= -n.val) (p:=2^E.val.toNat) (Int.pow_pos (by decide)) (by omega)
   refine ⟨zij ⟨shr n E,.w .i64 (0-(shr (.w .i64 (0-n.val)) E).val)⟩ E,?_,?_,.inl ⟨hn.1,hn.2,_,_,⟨E.val.toNat,by omega,.inl ⟨by omega,hb1,?_⟩,hge,a5⟩,rfl⟩⟩
   ·simp only [zhm,Tr.opt,hi,g5,l5,g8,l8,Bool.not_true,cond_false,cond_true,zij]
   ·simp only [zeP,Tr.opt,hv,hp,gt,ft,hpos,hng,Bool.not_true,cond_false,cond_true,zmi,sub_eq,add_eq,zdZ,zp2,zpZ,zp3,zrB,zuE,zrQ,zij]
    rfl
   ·show (Rng.w .i64 (0-(shr (.w .i64 (0-n.val)) E).val)).val=_
    rw [hb2,wi (by omega) (by omega)];omega
  ·have hE0:E=⟨0,rfl⟩:=rext (by show E.val=0;have:(0:Int)<=E.val:=a1;omega)
   subst hE0
   rw [z1] at a5
   obtain ⟨E,b1,b2,b3,b4,b5,b6,k,b7,b8⟩:=zIT n hn.1 ⟨0,rfl⟩ ⟨0,rfl⟩ 32 37 ⟨0,rfl⟩ rfl (by decide) (by show n.val*2^0<_;rw [show (2:Int)^0=1 by rfl,Int.mul_one];exact a5)
   have z3:sl n ⟨0,rfl⟩=n:=by
    unfold sl shl
    show Rng.w .i64 (n.val*2^0)=n
    rw [show (2:Int)^0=1 by rfl,Int.mul_one];exact Rng.w_val _
   rw [hf,z3] at b3
   rw [hf] at b4
   rw [z1,z2] at l5
   have g8:zgP ⟨n,⟨0,rfl⟩,⟨0,rfl⟩,⟨0,rfl⟩,n,n⟩=true:=by unfold zgP;rw [b3];rfl
   have l8:zk6 ⟨n,⟨0,rfl⟩,⟨0,rfl⟩,⟨0,rfl⟩,n,n⟩=_:=Tr.zao b3
   have g4:zeE ⟨n,⟨0,rfl⟩⟩=true:=by unfold zeE;rw [b4];rfl
   have l4:zhS ⟨n,⟨0,rfl⟩⟩=_:=Tr.zao b4
   have tw:(ze1 n).opt=some E:=by simp only [ze1,Tr.opt,g2,l2,g4,l4,cond_true]
   have gt:zgm n=true:=by unfold zgm;rw [tw];rfl
   have ft:zjL n=E:=Tr.zao tw
   have hb1:E.val<=0:=b1
   have hpos:decide (E.val>0)=false:=by simp;omega
   have e1:(Rng.w .i64 (0-E.val)).val=0-E.val:=wi (by omega) (by omega)
   have hng:decide ((Rng.w .i64 (0-E.val)).val<0)=false:=by rw [e1];simp;omega
   refine ⟨zij ⟨sl n E,sl n E⟩ E,?_,?_,.inl ⟨hn.1,hn.2,_,_,⟨k,by omega,.inr ⟨b7,rfl,b8⟩,b5,b6⟩,rfl⟩⟩
   ·simp only [zhm,Tr.opt,hi,g5,l5,g8,l8,Bool.not_true,cond_false,cond_true,zij]
   ·simp only [zeP,Tr.opt,hv,hp,gt,ft,hpos,hng,Bool.not_true,cond_false,cond_true,zmi,sub_eq,add_eq,zdZ,zp2,zpZ,zp3,zrB,zuE,zrQ,zij]
    rfl
 ·have hi:zX n ⟨1,rfl⟩ ⟨1152921504606846976,rfl⟩=false:=by rw [zcO];simpa using hn
  refine ⟨zt,by simp only [zhm,Tr.opt,hi,Bool.not_false,cond_true],?_,.inr ⟨hn,rfl⟩⟩
  simp only [zeP,Tr.opt,zkR,zbB]
  cases hv:zG n
  ·simp only [Bool.not_false,cond_true]
  ·have:=zno hv
   have hp:decide (n.val<=0)=true:=by simp;omega
   simp only [Bool.not_true,cond_false,hp,cond_true]
theorem zAj (n:I64):∃y,(zhm n).opt=some y/\(zeP n).opt=some y:=by
 obtain ⟨y,h1,h2,_⟩:=zrP n;exact ⟨y,h1,h2⟩
theorem zCZ {n:I64} (hn:1<=n.val/\n.val<=1152921504606846976):∃m E,LogM n m E/\zec n=zij m E:=by
 obtain ⟨y,h1,_,h|h⟩:=zrP n
 ·obtain ⟨_,_,m,E,h3,h4⟩:=h
  exact ⟨m,E,h3,(Tr.zao h1).trans h4⟩
 ·exact absurd hn h.1
theorem zrO {n:I64} (hn:¬(1<=n.val/\n.val<=1152921504606846976)):zec n=zt:=by
 obtain ⟨y,h1,_,h|h⟩:=zrP n
 ·exact absurd ⟨h.1,h.2.1⟩ hn
 ·exact (Tr.zao h1).trans h.2
theorem zuY (n:I64):(zeP n).opt=some (zhw n):=by obtain ⟨x,_,h1⟩:=zAj n;exact zhN h1
theorem zvB (n:I64):zhw n=zec n:=by
 obtain ⟨x,h1,h2⟩:=zAj n
 exact (Tr.zao h2).trans (Tr.zao h1).symm
end Go.Proofs.YtkenfaengphiiaaGreatDoor.Ev
namespace Go.Proofs.YtkenfaengphiiaaGreatDoor.Ev
open Go Go.RowKit
set_option maxRecDepth 100000
section
variable [Amb]
def zoY:Ent Tryz.prog:= .of1 zKC B105 (fun _=>true) zhw fun a0 _=>(zwY a0).trans (zuY a0)
def B121:Bod Tryz.prog:=⟨121,Tryz.f121,Tryz.f121.body.getD .skip,Tryz.func121,by kernel_rfl,by kernel_rfl,zav.no _ _⟩
def zKn:Tb Tryz.prog:= {T:= [Y2,Y34],mix:=mix,Es:= [ze7],Bs:= [],d:=1}
def ziB:Tr (I64):=
 .leaf (zca ⟨1,rfl⟩).hi
theorem ztb:zKn.run B121 [] (I64)=(ziB).opt:=by kernel_rfl
def zgT:I64:=(ziB).get
theorem zsI:(ziB).opt=some (zgT):=Tr.z8 (by kernel_rfl)
def ztI:Ent Tryz.prog:= .of0 zKn B121 zgT (ztb.trans zsI)
def B49:Bod Tryz.prog:=⟨49,Tryz.f49,Tryz.f49.body.getD .skip,Tryz.func49,by kernel_rfl,by kernel_rfl,zav.no _ _⟩
def Tb49:Tb Tryz.prog:= {T:= [Y2,Y27,Y34],mix:=mix,Es:= [zmZ,zly,zm2],Bs:= [],d:=1}
def zkz (a0:zbk):Tr (Iv):=
 .br (!(zay a0)) (.leaf zbe) (.leaf (zD a0.lat))
theorem zwP (a0:zbk):Tb49.run B49 [enc a0] (Iv)=(zkz a0).opt:=by kernel_rfl
def zbA:zbk->Iv:=fun a0=>(zkz a0).get
theorem zwj (a0:zbk):(zkz a0).opt=some (zbA a0):=Tr.z8 (by kernel_rfl)
def zxQ:Ent Tryz.prog:= .of1 Tb49 B49 (fun _=>true) zbA fun a0 _=>(zwP a0).trans (zwj a0)
def B50:Bod Tryz.prog:=⟨50,Tryz.f50,Tryz.f50.body.getD .skip,Tryz.func50,by kernel_rfl,by kernel_rfl,zav.no _ _⟩
def Tb50:Tb Tryz.prog:= {T:= [Y2,Y27],mix:=mix,Es:= [],Bs:= [],d:=1}
def zeh (a0:zbk):Tr (Bool):=
 .br (a0.lat.val==900000000) (.leaf true) (.leaf (a0.lat.val==(-900000000)))
theorem zs3 (a0:zbk):Tb50.run B50 [enc a0] (Bool)=(zeh a0).opt:=by kernel_rfl
def zaI:zbk->Bool:=fun a0=>(zeh a0).get
theorem zsA (a0:zbk):(zeh a0).opt=some (zaI a0):=Tr.z8 (by kernel_rfl)
def ztC:Ent Tryz.prog:= .of1 Tb50 B50 (fun _=>true) zaI fun a0 _=>(zs3 a0).trans (zsA a0)
def B10:Bod Tryz.prog:=⟨10,Tryz.f10,Tryz.f10.body.getD .skip,Tryz.func10,by kernel_rfl,by kernel_rfl,zav.no _ _⟩
def Tb10:Tb Tryz.prog:= {T:= [Y2,Y27,Y34],mix:=mix,Es:= [zm3,zmZ,zxQ,ztC,zly],Bs:= [],d:=1}
def ziz (a0:Iv) (a1:Iv) (a2:zbk):Tr (Bool):=
 .br (!(zay a2)) (.leaf false) (.br (!(zo a0 (zbA a2))) (.leaf false) (.br (zaI a2) (.leaf true) (.br (zo a1 (zD (Rng.w .i64 (a2.lon.val+(-32400000000))))) (.leaf true) (.br (zo a1 (zD (Rng.w .i64 (a2.lon.val+(-28800000000))))) (.leaf true) (.br (zo a1 (zD (Rng.w .i64 (a2.lon.val+(-25200000000))))) (.leaf true) (.br (zo a1 (zD (Rng.w .i64 (a2.lon.val+(-21600000000))))) (.leaf true) (.br (zo a1 (zD (Rng.w .i64 (a2.lon.val+(-18000000000))))) (.leaf true) (.br (zo a1 (zD (Rng.w .i64 (a2.lon.val+(-14400000000))))) (.leaf true) (.br (zo a1 (zD (Rng.w .i64 (a2.lon.val+(-10800000000))))) (.leaf true) (.br (zo a1 (zD (Rng.w .i64 (a2.lon.val+(-7200000000))))) (.leaf true) (.br (zo a1 (zD (Rng.w .i64 (a2.lon.val+(-3600000000))))) (.leaf true) (.br (zo a1 (zD (Rng.w .i64 (a2.lon.val+0)))) (.leaf true) (.br (zo a1 (zD (Rng.w .i64 (a2.lon.val+3600000000)))) (.leaf true) (.br (zo a1 (zD (Rng.w .i64 (a2.lon.val+7200000000)))) (.leaf true) (.br (zo a1 (zD (Rng.w .i64 (a2.lon.val+10800000000)))) (.leaf true) (.br (zo a1 (zD (Rng.w .i64 (a2.lon.val+14400000000)))) (.leaf true) (.br (zo a1 (zD (Rng.w .i64 (a2.lon.val+18000000000)))) (.leaf true) (.br (zo a1 (zD (Rng.w .i64 (a2.lon.val+21600000000)))) (.leaf true) (.br (zo a1 (zD (Rng.w .i64 (a2.lon.val+25200000000)))) (.leaf true) (.br (zo a1 (zD (Rng.w .i64 (a2.lon.val+28800000000)))) (.leaf true) (.br (zo a1 (zD (Rng.w .i64 (a2.lon.val+32400000000)))) (.leaf true) (.leaf false))))))))))))))))))))))
theorem zs9 (a0:Iv) (a1:Iv) (a2:zbk):Tb10.run B10 [enc a0,enc a1,enc a2] (Bool)=(ziz a0 a1 a2).opt:=by kernel_rfl
def zcU:Iv->Iv->zbk->Bool:=fun a0 a1 a2=>(ziz a0 a1 a2).get
theorem zsG (a0:Iv) (a1:Iv) (a2:zbk):(ziz a0 a1 a2).opt=some (zcU a0 a1 a2):=Tr.z8 (by kernel_rfl)
def ztH:Ent Tryz.prog:= .of3 Tb10 B10 (fun _ _ _=>true) zcU fun a0 a1 a2 _=>(zs9 a0 a1 a2).trans (zsG a0 a1 a2)
def B12:Bod Tryz.prog:=⟨12,Tryz.f12,Tryz.f12.body.getD .skip,Tryz.func12,by kernel_rfl,by kernel_rfl,zav.no _ _⟩
def Tb12:Tb Tryz.prog:= {T:= [Y2,Y27],mix:=mix,Es:= [zmZ,znz],Bs:= [],d:=1}
def zgb (a0:zbk) (a1:zbk):Tr (T2 I64 I64):=
 .br (!(zay a0)) (.leaf ⟨⟨0,rfl⟩,⟨1,rfl⟩⟩) (.br (!(zay a1)) (.leaf ⟨⟨0,rfl⟩,⟨1,rfl⟩⟩) (.leaf ⟨(zbn (Rng.w .i64 (a1.lon.val-a0.lon.val))),⟨0,rfl⟩⟩))
theorem zpd (a0:zbk) (a1:zbk):Tb12.run B12 [enc a0,enc a1] (T2 I64 I64)=(zgb a0 a1).opt:=by kernel_rfl
def zct:zbk->zbk->T2 I64 I64:=fun a0 a1=>(zgb a0 a1).get
theorem zo0 (a0:zbk) (a1:zbk):(zgb a0 a1).opt=some (zct a0 a1):=Tr.z8 (by kernel_rfl)
def zpL:Ent Tryz.prog:= .of2 Tb12 B12 (fun _ _=>true) zct fun a0 a1 _=>(zpd a0 a1).trans (zo0 a0 a1)
def B119:Bod Tryz.prog:=⟨119,Tryz.f119,Tryz.f119.body.getD .skip,Tryz.func119,by kernel_rfl,by kernel_rfl,zav.no _ _⟩
def zKp:Tb Tryz.prog:= {T:= [Y2,Y34],mix:=mix,Es:= [zeq,zqd,za1,zaA,zdP,zjd,zcW,zgu,zkV,zlg,zss],Bs:= [],d:=1}
def zjC (a0:I64):Tr (Iv):=
 .br (!(zaw a0 ⟨(-4294967296),rfl⟩ ⟨4294967296,rfl⟩)) (.leaf zL) (.leaf (zeW (zbW (zeY (zat (zc6 a0) (zae (zB ⟨1,rfl⟩) (zf5 a0))))) zbZ).a)
theorem zvr (a0:I64):zKp.run B119 [enc a0] (Iv)=(zjC a0).opt:=by kernel_rfl
def zgt:I64->Iv:=fun a0=>(zjC a0).get
theorem zuT (a0:I64):(zjC a0).opt=some (zgt a0):=Tr.z8 (by kernel_rfl)
def zv7:Ent Tryz.prog:= .of1 zKp B119 (fun _=>true) zgt fun a0 _=>(zvr a0).trans (zuT a0)
def B47:Bod Tryz.prog:=⟨47,Tryz.f47,Tryz.f47.body.getD .skip,Tryz.func47,by kernel_rfl,by kernel_rfl,zav.no _ _⟩
def Tb47:Tb Tryz.prog:= {T:= [Y2,Y34],mix:=mix,Es:= [zhi,zaA,zkW,zkV,zv7],Bs:= [],d:=1}
def zkL (a0:Iv):Tr (Iv):=
 let c2:=zeW a0 zdd;.br (!c2.b) (.leaf zL) (.leaf (zbS (zgt c2.a.lo) (zgt c2.a.hi)))
theorem zw6 (a0:Iv):Tb47.run B47 [enc a0] (Iv)=(zkL a0).opt:=by kernel_rfl
def zjc:Iv->Iv:=fun a0=>(zkL a0).get
theorem zwv (a0:Iv):(zkL a0).opt=some (zjc a0):=Tr.z8 (by kernel_rfl)
def zxX:Ent Tryz.prog:= .of1 Tb47 B47 (fun _=>true) zjc fun a0 _=>(zw6 a0).trans (zwv a0)
def B115:Bod Tryz.prog:=⟨115,Tryz.f115,Tryz.f115.body.getD .skip,Tryz.func115,by kernel_rfl,by kernel_rfl,zav.no _ _⟩
def zKt:Tb Tryz.prog:= {T:= [Y2,Y34],mix:=mix,Es:= [zaA,zbI],Bs:= [],d:=1}
def zkH (a0:Iv):Tr (Iv):=
 .br (zas a0) (.leaf zL) (.leaf ⟨(Rng.w .i64 (a0.lo.val.fdiv 2)),(Rng.w .i64 ((Rng.w .i64 (a0.hi.val+1)).val.fdiv 2))⟩)
theorem zw1 (a0:Iv):zKt.run B115 [enc a0] (Iv)=(zkH a0).opt:=by kernel_rfl
def zja:Iv->Iv:=fun a0=>(zkH a0).get
theorem zwr (a0:Iv):(zkH a0).opt=some (zja a0):=Tr.z8 (by kernel_rfl)
def zxU:Ent Tryz.prog:= .of1 zKt B115 (fun _=>true) zja fun a0 _=>(zw1 a0).trans (zwr a0)
def B109:Bod Tryz.prog:=⟨109,Tryz.f109,Tryz.f109.body.getD .skip,Tryz.func109,by kernel_rfl,by kernel_rfl,zav.no _ _⟩
def zKz:Tb Tryz.prog:= {T:= [Y2,Y34],mix:=mix,Es:= [zh8],Bs:= [],d:=1}
def zkD (a0:I64):Tr (Iv):=
 .leaf (zb9 a0 ⟨0,rfl⟩)
theorem zwV (a0:I64):zKz.run B109 [enc a0] (Iv)=(zkD a0).opt:=by kernel_rfl
def zhv:I64->Iv:=fun a0=>(zkD a0).get
theorem zwn (a0:I64):(zkD a0).opt=some (zhv a0):=Tr.z8 (by kernel_rfl)
def zxS:Ent Tryz.prog:= .of1 zKz B109 (fun _=>true) zhv fun a0 _=>(zwV a0).trans (zwn a0)
def B110:Bod Tryz.prog:=⟨110,Tryz.f110,Tryz.f110.body.getD .skip,Tryz.func110,by kernel_rfl,by kernel_rfl,zav.no _ _⟩
def zKy:Tb Tryz.prog:= {T:= [Y2,Y34],mix:=mix,Es:= [zh8],Bs:= [],d:=1}
def zkJ (a0:I64):Tr (Iv):=
 .leaf (zb9 a0 ⟨1,rfl⟩)
theorem zw4 (a0:I64):zKy.run B110 [enc a0] (Iv)=(zkJ a0).opt:=by kernel_rfl
def zhx:I64->Iv:=fun a0=>(zkJ a0).get
theorem zwt (a0:I64):(zkJ a0).opt=some (zhx a0):=Tr.z8 (by kernel_rfl)
def zxW:Ent Tryz.prog:= .of1 zKy B110 (fun _=>true) zhx fun a0 _=>(zw4 a0).trans (zwt a0)
def B32:Bod Tryz.prog:=⟨32,Tryz.f32,Tryz.f32.body.getD .skip,Tryz.func32,by kernel_rfl,by kernel_rfl,zav.no _ _⟩
def Tb32:Tb Tryz.prog:= {T:= [Y2,Y27,Y34],mix:=mix,Es:= [zgv,zeN,zaA],Bs:= [],d:=1}
def zkF (a0:zbk):Tr (Iv):=
 .br (!(zbH a0)) (.leaf zL) (.leaf (zcH a0.lat))
theorem zwZ (a0:zbk):Tb32.run B32 [enc a0] (Iv)=(zkF a0).opt:=by kernel_rfl
def zi9:zbk->Iv:=fun a0=>(zkF a0).get
theorem zwp (a0:zbk):(zkF a0).opt=some (zi9 a0):=Tr.z8 (by kernel_rfl)
def zxT:Ent Tryz.prog:= .of1 Tb32 B32 (fun _=>true) zi9 fun a0 _=>(zwZ a0).trans (zwp a0)
def B42:Bod Tryz.prog:=⟨42,Tryz.f42,Tryz.f42.body.getD .skip,Tryz.func42,by kernel_rfl,by kernel_rfl,zav.no _ _⟩
def Tb42:Tb Tryz.prog:= {T:= [Y2,Y27],mix:=mix,Es:= [zpS],Bs:= [],d:=1}
def zjy (a0:zbk):Tr (Bool):=
 .leaf ((zaD a0.lat).val==900000000)
theorem zvk (a0:zbk):Tb42.run B42 [enc a0] (Bool)=(zjy a0).opt:=by kernel_rfl
def zh2:zbk->Bool:=fun a0=>(zjy a0).get
theorem zuO (a0:zbk):(zjy a0).opt=some (zh2 a0):=Tr.z8 (by kernel_rfl)
def zv2:Ent Tryz.prog:= .of1 Tb42 B42 (fun _=>true) zh2 fun a0 _=>(zvk a0).trans (zuO a0)
def B95:Bod Tryz.prog:=⟨95,Tryz.f95,Tryz.f95.body.getD .skip,Tryz.func95,by kernel_rfl,by kernel_rfl,zav.no _ _⟩
def B98:Bod Tryz.prog:=⟨98,Tryz.f98,Tryz.f98.body.getD .skip,Tryz.func98,by kernel_rfl,by kernel_rfl,zav.no _ _⟩
def Tb98:Tb Tryz.prog:= {T:= [Y2,Y34],mix:=mix,Es:= [zaA,zb0,zcg,zoY,zbI],Bs:= [B95],d:=8}
def zlK (a0:Iv):Tr (Iv):=
 .br (zas a0) (.leaf zL) (let c3:=zhw a0.lo;let c4:=zhw a0.hi;.br (!(za8 c3 c4)) (.leaf zL) (.leaf (zaR c3.lo c4.hi true)))
theorem zyH (a0:Iv):Tb98.run B98 [enc a0] (Iv)=(zlK a0).opt:=by kernel_rfl
def zkl:Iv->Iv:=fun a0=>(zlK a0).get
theorem zx8 (a0:Iv):(zlK a0).opt=some (zkl a0):=Tr.z8 (by kernel_rfl)
def zzy:Ent Tryz.prog:= .of1 Tb98 B98 (fun _=>true) zkl fun a0 _=>(zyH a0).trans (zx8 a0)
def B31:Bod Tryz.prog:=⟨31,Tryz.f31,Tryz.f31.body.getD .skip,Tryz.func31,by kernel_rfl,by kernel_rfl,zav.no _ _⟩
def Tb31:Tb Tryz.prog:= {T:= [Y2,Y25,Y27,Y34],mix:=mix,Es:= [zcK,zgv,zeN,zaA,ztM],Bs:= [],d:=1}
def ziJ (a0:Proj) (a1:zbk):Tr (Iv):=
 .br (!(zZ a0)) (.leaf zL) (.br (!(zbH a1)) (.leaf zL) (.leaf (zcH (zgU (Rng.w .i64 (a1.lon.val-a0.lon0.val))))))
theorem zto (a0:Proj) (a1:zbk):Tb31.run B31 [enc a0,enc a1] (Iv)=(ziJ a0 a1).opt:=by kernel_rfl
def zgW:Proj->zbk->Iv:=fun a0 a1=>(ziJ a0 a1).get
theorem zsR (a0:Proj) (a1:zbk):(ziJ a0 a1).opt=some (zgW a0 a1):=Tr.z8 (by kernel_rfl)
def ztP:Ent Tryz.prog:= .of2 Tb31 B31 (fun _ _=>true) zgW fun a0 a1 _=>(zto a0 a1).trans (zsR a0 a1)
def zd4 (a0:I64):Tr (Bool):=
 .leaf (zX a0 ⟨(-890000000),rfl⟩ ⟨890000000,rfl⟩)
def zb7:I64->Bool:=fun a0=>(zd4 a0).get
def zkt (a0:Proj):Tr (Bool):=
 .br (!(zay ⟨a0.lat0,a0.lon0⟩)) (.leaf false) (.br (!(zb7 a0.lat1)) (.leaf false) (.br (!(zb7 a0.lat2)) (.leaf false) (.br (a0.kind.val==1) (.br (a0.lat0.val==0) (.leaf (a0.lat2.val==0)) (.leaf false)) (.br (a0.kind.val==3) (.br (a0.lat0.val==0) (.leaf (a0.lat2.val==0)) (.leaf false)) (.br (a0.kind.val==2) (.br (a0.lat0.val==0) (.br (a0.lat1.val==0) (.leaf (a0.lat2.val==0)) (.leaf false)) (.leaf false)) (.br (a0.kind.val==4) (.br (a0.lat0.val==0) (.br (a0.lat1.val==0) (.leaf (a0.lat2.val==0)) (.leaf false)) (.leaf false)) (.br (a0.kind.val==13) (.br (a0.lat0.val==0) (.br (a0.lat1.val==0) (.leaf (a0.lat2.val==0)) (.leaf false)) (.leaf false)) (.br (a0.kind.val==14) (.br (a0.lat0.val==0) (.br (a0.lat1.val==0) (.leaf (a0.lat2.val==0)) (.leaf false)) (.leaf false)) (.br (a0.kind.val==15) (.br (a0.lat0.val==0) (.br (a0.lat1.val==0) (.leaf (a0.lat2.val==0)) (.leaf false)) (.leaf false)) (.br (a0.kind.val==5) (.br (a0.lat1.val==0) (.leaf (a0.lat2.val==0)) (.leaf false)) (.br (a0.kind.val==6) (.br (a0.lat1.val==0) (.leaf (a0.lat2.val==0)) (.leaf false)) (.br (a0.kind.val==7) (.br (a0.lat1.val==0) (.leaf (a0.lat2.val==0)) (.leaf false)) (.br (a0.kind.val==8) (.br (a0.lat1.val==0) (.leaf (a0.lat2.val==0)) (.leaf false)) (.br (a0.kind.val==9) (.br (a0.lat1.val==0) (.leaf (a0.lat2.val==0)) (.leaf false)) (.br (a0.kind.val==16) (.br (a0.lat1.val==0) (.leaf (a0.lat2.val==0)) (.leaf false)) (.br (a0.kind.val==10) (let c4:=(Rng.w .i64 (a0.lat1.val+a0.lat2.val));.br (decide (c4.val>=10000000)) (.leaf true) (.leaf (decide (c4.val<=(-10000000))))) (.br (a0.kind.val==11) (let c7:=(Rng.w .i64 (a0.lat1.val+a0.lat2.val));.br (decide (c7.val>=10000000)) (.leaf true) (.leaf (decide (c7.val<=(-10000000))))) (.br (a0.kind.val==12) (let c10:=(Rng.w .i64 (a0.lat1.val+a0.lat2.val));.br (decide (c10.val>=10000000)) (.leaf true) (.leaf (decide (c10.val<=(-10000000))))) (.leaf false)))))))))))))))))))
def zb8:Proj->Bool:=fun a0=>(zkt a0).get
def zmE (a0:I64):Tr (Iv):=
 .leaf (zbJ a0 ⟨0,rfl⟩)
def zhr:I64->Iv:=fun a0=>(zmE a0).get
def zmG (a0:I64):Tr (Iv):=
 .leaf (zbJ a0 ⟨1,rfl⟩)
def zhs:I64->Iv:=fun a0=>(zmG a0).get
def zlE (a0:I64):Tr (Iv):=
 .br (!(zX a0 ⟨(-4294967296),rfl⟩ ⟨4294967296,rfl⟩)) (.leaf zbe) (.leaf (za4 (zbG (zeV (zO (zbq a0) (zH (zy ⟨1,rfl⟩) (zeJ a0))))) zbh).a)
def zed:I64->Iv:=fun a0=>(zlE a0).get
def zmH (a0:Iv):Tr (Iv):=
 let c2:=za4 a0 zR;.br (!c2.b) (.leaf zbe) (.leaf (zaM (zed c2.a.lo) (zed c2.a.hi)))
def zf2:Iv->Iv:=fun a0=>(zmH a0).get
def zmF (a0:Iv):Tr (Iv):=
 .br (!(ze a0)) (.leaf zt) (.leaf (zab (Rng.w .i64 (a0.lo.val.fdiv 2)) (Rng.w .i64 ((Rng.w .i64 (a0.hi.val+1)).val.fdiv 2))))
def zi8:Iv->Iv:=fun a0=>(zmF a0).get
def zkY (a0:Iv) (a1:Iv):Tr (Iv):=
 .br (!(ze a0)) (.leaf zt) (.br (!(ze a1)) (.leaf zt) (.leaf (zab a0.lo a1.hi)))
def zds:Iv->Iv->Iv:=fun a0 a1=>(zkY a0 a1).get
def znI (a0:Iv):Tr (Iv):=
 .br (!(ze a0)) (.leaf zt) (.leaf (zds (zec a0.lo) (zec a0.hi)))
def zin:Iv->Iv:=fun a0=>(znI a0).get
end
end Go.Proofs.YtkenfaengphiiaaGreatDoor.Ev
namespace Go.Proofs.YtkenfaengphiiaaGreatDoor.Ev
open Go
theorem zIY {p:zbk} (h:zay p=true):zi9 p=zD p.lat:=by
 simp only [zi9,zkF,Tr.get,zon,h,Bool.not_true,cfl,zlk]
end Go.Proofs.YtkenfaengphiiaaGreatDoor.Ev
namespace Go.Proofs.YtkenfaengphiiaaGreatDoor.Ev
open Go
theorem zzN (n:I64):zhv n=zhr n:=by
 simp only [zhv,zkD,zhr,zmE,Tr.get,zls]
theorem zAI (n:I64):zhx n=zhs n:=by
 simp only [zhx,zkJ,zhs,zmG,Tr.get,zls]
theorem zFe (a:Iv):zja a=zi8 a:=by
 simp only [zja,zkH,zi8,zmF,Tr.get,znw,zbB]
 cases h:ze a
 ·rfl
 have hb:=(zbC a).1 h
 simp only [Bool.not_true,cfl]
 have e1:(Rng.w .i64 (a.hi.val+1)).val=a.hi.val+1:=wi (by omega) (by omega)
 have d1:a.lo.val.fdiv 2=a.lo.val/2:=Int.fdiv_eq_ediv_of_nonneg _ (by decide)
 have d2:(a.hi.val+1).fdiv 2=(a.hi.val+1)/2:=Int.fdiv_eq_ediv_of_nonneg _ (by decide)
 refine (zb3 ?_).symm
 rw [e1,d1,d2,wi (by omega) (by omega),wi (by omega) (by omega)]
 omega
theorem zBY (a b:I64):zdv a b=mkW (a.val*b.val):=by simp only [zdv,zns,Tr.get,zot]
theorem zzk (n:I64):zf5 n=zeJ n:=by
 simp only [zf5,zhJ,zeJ,zjS,Tr.get,zbO,zcO,zbB,zdi,zjE,zBY,zrg,zrf,ctr]
 by_cases h: -4294967296<=n.val/\n.val<=4294967296
 ·have e1:(Rng.w .i64 (4294967296-n.val)).val=4294967296-n.val:=wi (by omega) (by omega)
  have e2:(Rng.w .i64 (4294967296+n.val)).val=4294967296+n.val:=wi (by omega) (by omega)
  obtain ⟨q,h1,h2,h3⟩:=zCd (.w .i64 (4294967296-n.val)) (.w .i64 (4294967296+n.val)) (by omega) (by omega)
  have hd:decide (-4294967296<=n.val/\n.val<=4294967296)=true:=by simpa using h
  simp only [h1,h2,at_eq,hd,Bool.not_true,cfl]
  generalize ((mkW (q.val*q.val)).hi.val==(mkW ((Rng.w .i64 (4294967296-n.val)).val*(Rng.w .i64 (4294967296+n.val)).val)).hi.val&&((mkW (q.val*q.val)).lo.val==(mkW ((Rng.w .i64 (4294967296-n.val)).val*(Rng.w .i64 (4294967296+n.val)).val)).lo.val&&true))=c
  cases c<;>simp [zbq,zhk,Tr.get]
 ·have hd:decide (-4294967296<=n.val/\n.val<=4294967296)=false:=by simpa using h
  simp only [hd,Bool.not_false,ctr]
theorem zD8 (n:I64):zgt n=zed n:=by
 simp only [zgt,zjC,zed,zlE,Tr.get,zbO,zcO,zbB,zdi]
 rw [zAO,zr5,zvz,zvI,zmi,add_eq,zdZ,zzk,at_eq]
theorem zFI (x:Iv):zjc x=zf2 x:=by
 simp only [zjc,zkL,zf2,zmH,Tr.get,zvz,znO,zbB,zdi,zD8,zmS]
theorem zG8 {p:zbk} (h:zay p=true):zh2 p=zaI p:=by
 have hb: -9223372036854775807<=p.lat.val:=by
  have:=p.lat.bd
  by_cases hm:p.lat.val= -9223372036854775808
  ·rw [<- zon] at h
   simp only [zbH,zdC,Tr.get,zbO,hm] at h
   simp at h
  ·omega
 simp only [zh2,zjy,zaI,zeh,Tr.get,zEb _ hb]
 by_cases h1:p.lat.val=900000000
 ·simp [h1,ctr]
 ·by_cases h2:p.lat.val= -900000000
  ·simp [h2,cfl]
  ·simp only [show (p.lat.val==900000000)=false by simpa using h1,show (p.lat.val==(-900000000))=false by simpa using h2,cfl]
   split<;>simp<;>omega
theorem zyn {p:zbk} (h:zay p=true):zbA p=zD p.lat:=by
 simp only [zbA,zkz,Tr.get,h,Bool.not_true,cfl]
end Go.Proofs.YtkenfaengphiiaaGreatDoor.Ev
namespace Go.Proofs.YtkenfaengphiiaaGreatDoor.Ev
open Go
def Sub (a b:Iv):Prop:=ze b=true->ze a=true/\b.lo.val<=a.lo.val/\a.hi.val<=b.hi.val
theorem zhp {x y:I64} (h:(zT x y).b=true):(zT x y).a.val=x.val*y.val/4294967296:=by
 simp only [zT,zcq,Tr.get,mf32] at h ⊢
 cases h1:zG x
 ·rw [h1] at h;simp [ctr] at h
 cases h2:zG y
 ·rw [h1,h2] at h;simp [ctr,cfl] at h
 rw [h1,h2] at h
 simp only [Bool.not_true,cfl] at h ⊢
 unfold narrow at h ⊢
 split at h
 ·rename_i hr
  rw [if_pos hr]
  rcases zi5 (.w .i64 (x.val*y.val/4294967296)) true with e|⟨e,_⟩
  ·rw [e] at h;cases h
  ·rw [e];exact wi hr.1 hr.2
 ·rename_i hr
  rcases zi5 (.w .i64 0) false with e|⟨e,_⟩
  ·rw [e] at h;cases h
  ·have:(zaB (.w .i64 0) false).b=false:=by simp only [zaB,zcy,Tr.get,Bool.not_false,ctr]
   rw [this] at h;cases h
theorem zlo {x y:I64} (h:(zaf x y).b=true):(zaf x y).a.val= -(-(x.val*y.val)/4294967296):=by
 simp only [zaf,zdI,Tr.get] at h ⊢
 cases h1:zG x
 ·rw [h1] at h;simp [ctr] at h
 rw [h1] at h
 simp only [Bool.not_true,cfl] at h ⊢
 have hb:=zno h1
 cases hd:(zT (.w .i64 (0-x.val)) y).b
 ·rw [hd] at h;simp [ctr] at h
 simp only [hd,Bool.not_true,cfl]
 have e:=zhp hd
 have en:(Rng.w .i64 (0-x.val)).val= -x.val:=by rw [wi (by omega) (by omega)];omega
 rw [en,Int.neg_mul] at e
 rcases ze3 (.w .i64 (0-x.val)) y with k|⟨c,k,kc⟩
 ·rw [k] at hd;cases hd
 ·have kb:=zno kc
  rw [k] at e ⊢
  simp only at e ⊢
  rw [wi (by omega) (by omega)]
  omega
theorem zyT {a b:Iv} (h:ze (zz a b)=true):ze a=true/\ze b=true /\
  ∀x y:I64,(x=a.lo\/x=a.hi)->(y=b.lo\/y=b.hi)->(zz a b).lo.val<=x.val*y.val/4294967296 /\ -(-(x.val*y.val)/4294967296)<=(zz a b).hi.val:=by
 have nw:∀ {P:Prop},ze zt=true->P:=fun h=>by rw [zch] at h;cases h
 simp only [zz,zid,Tr.get] at h ⊢
 cases ha:ze a
 ·rw [ha] at h;exact nw h
 cases hb:ze b
 ·rw [ha,hb] at h;exact nw h
 simp only [ha,hb,Bool.not_true,cfl] at h ⊢
 cases h1:(zT a.lo b.lo).b
 ·rw [h1] at h;exact nw h
 cases h2:(zaf a.lo b.lo).b
 ·rw [h1,h2] at h;exact nw h
 cases h3:(zT a.lo b.hi).b
 ·rw [h1,h2,h3] at h;exact nw h
 cases h4:(zaf a.lo b.hi).b
 ·rw [h1,h2,h3,h4] at h;exact nw h
 cases h5:(zT a.hi b.lo).b
 ·rw [h1,h2,h3,h4,h5] at h;exact nw h
 cases h6:(zaf a.hi b.lo).b
 ·rw [h1,h2,h3,h4,h5,h6] at h;exact nw h
 cases h7:(zT a.hi b.hi).b
 ·rw [h1,h2,h3,h4,h5,h6,h7] at h;exact nw h
 cases h8:(zaf a.hi b.hi).b
 ·rw [h1,h2,h3,h4,h5,h6,h7,h8] at h;exact nw h
 simp only [h1,h2,h3,h4,h5,h6,h7,h8,Bool.not_true,cfl] at h ⊢
 refine ⟨trivial,trivial,?_⟩
 have v1:=zhp h1
 have v2:=zlo h2
 have v3:=zhp h3
 have v4:=zlo h4
 have v5:=zhp h5
 have v6:=zlo h6
 have v7:=zhp h7
 have v8:=zlo h8
 generalize (zT a.lo b.lo).a=d1 at *
 generalize (zT a.lo b.hi).a=d2 at *
 generalize (zT a.hi b.lo).a=d3 at *
 generalize (zT a.hi b.hi).a=d4 at *
 generalize (zaf a.lo b.lo).a=u1 at *
 generalize (zaf a.lo b.hi).a=u2 at *
 generalize (zaf a.hi b.lo).a=u3 at *
 generalize (zaf a.hi b.hi).a=u4 at *
 have m1:=zia ⟨1152921504606846976,rfl⟩ d1
 have m2:=zia (zC ⟨1152921504606846976,rfl⟩ d1) d2
 have m3:=zia (zC (zC ⟨1152921504606846976,rfl⟩ d1) d2) d3
 have m4:=zia (zC (zC (zC ⟨1152921504606846976,rfl⟩ d1) d2) d3) d4
 have n1:=zgM ⟨-1152921504606846976,rfl⟩ u1
 have n2:=zgM (zA ⟨-1152921504606846976,rfl⟩ u1) u2
 have n3:=zgM (zA (zA ⟨-1152921504606846976,rfl⟩ u1) u2) u3
 have n4:=zgM (zA (zA (zA ⟨-1152921504606846976,rfl⟩ u1) u2) u3) u4
 generalize zC (zC (zC (zC ⟨1152921504606846976,rfl⟩ d1) d2) d3) d4=lo at *
 generalize zA (zA (zA (zA ⟨-1152921504606846976,rfl⟩ u1) u2) u3) u4=hi at *
 by_cases hm: -1152921504606846976<lo.val/\lo.val<=hi.val/\hi.val<1152921504606846976
 ·rw [zb3 hm]
  simp only
  rintro x y (rfl|rfl) (rfl|rfl)
  ·omega
  ·omega
  ·omega
  ·omega
 ·rw [zii hm] at h;exact nw h
theorem zFN {a b:Iv} (h:ze (zH a b)=true):ze a=true/\ze b=true/\(zH a b).lo.val=a.lo.val+b.lo.val/\(zH a b).hi.val=a.hi.val+b.hi.val:=by
 simp only [zH,ze0,Tr.get] at h ⊢
 cases ha:ze a
 ·rw [ha] at h;simp only [Bool.not_false,ctr,zch] at h;cases h
 cases hb:ze b
 ·rw [ha,hb] at h;simp only [Bool.not_false,Bool.not_true,ctr,cfl,zch] at h;cases h
 simp only [ha,hb,Bool.not_true,cfl] at h ⊢
 have ba:=(zbC _).1 ha
 have bb:=(zbC _).1 hb
 have k1:(Rng.w .i64 (a.lo.val+b.lo.val)).val=a.lo.val+b.lo.val:=wi (by omega) (by omega)
 have k2:(Rng.w .i64 (a.hi.val+b.hi.val)).val=a.hi.val+b.hi.val:=wi (by omega) (by omega)
 by_cases hm: -1152921504606846976<(Rng.w .i64 (a.lo.val+b.lo.val)).val/\(Rng.w .i64 (a.lo.val+b.lo.val)).val<=(Rng.w .i64 (a.hi.val+b.hi.val)).val/\(Rng.w .i64 (a.hi.val+b.hi.val)).val<1152921504606846976
 ·rw [zb3 hm];exact ⟨trivial,trivial,k1,k2⟩
 ·rw [zii hm,zch] at h;cases h
theorem zEw {a b:Iv} (h:ze (zac a b)=true):ze a=true/\ze b=true/\(zac a b).lo.val=a.lo.val-b.hi.val/\(zac a b).hi.val=a.hi.val-b.lo.val:=by
 simp only [zac,zjQ,Tr.get] at h ⊢
 cases ha:ze a
 ·rw [ha] at h;simp only [Bool.not_false,ctr,zch] at h;cases h
 cases hb:ze b
 ·rw [ha,hb] at h;simp only [Bool.not_false,Bool.not_true,ctr,cfl,zch] at h;cases h
 simp only [ha,hb,Bool.not_true,cfl] at h ⊢
 have ba:=(zbC _).1 ha
 have bb:=(zbC _).1 hb
 have k1:(Rng.w .i64 (a.lo.val-b.hi.val)).val=a.lo.val-b.hi.val:=wi (by omega) (by omega)
 have k2:(Rng.w .i64 (a.hi.val-b.lo.val)).val=a.hi.val-b.lo.val:=wi (by omega) (by omega)
 by_cases hm: -1152921504606846976<(Rng.w .i64 (a.lo.val-b.hi.val)).val/\(Rng.w .i64 (a.lo.val-b.hi.val)).val<=(Rng.w .i64 (a.hi.val-b.lo.val)).val/\(Rng.w .i64 (a.hi.val-b.lo.val)).val<1152921504606846976
 ·rw [zb3 hm];exact ⟨trivial,trivial,k1,k2⟩
 ·rw [zii hm,zch] at h;cases h
theorem zFw {a:Iv} (h:ze (zbG a)=true):ze a=true/\(zbG a).lo.val=2*a.lo.val/\(zbG a).hi.val=2*a.hi.val:=by
 simp only [zbG,zgJ,Tr.get] at h ⊢
 cases ha:ze a
 ·rw [ha] at h;simp only [Bool.not_false,ctr,zch] at h;cases h
 simp only [ha,Bool.not_true,cfl] at h ⊢
 have ba:=(zbC _).1 ha
 have k1:(Rng.w .i64 (2*a.lo.val)).val=2*a.lo.val:=wi (by omega) (by omega)
 have k2:(Rng.w .i64 (2*a.hi.val)).val=2*a.hi.val:=wi (by omega) (by omega)
 by_cases hm: -1152921504606846976<(Rng.w .i64 (2*a.lo.val)).val/\(Rng.w .i64 (2*a.lo.val)).val<=(Rng.w .i64 (2*a.hi.val)).val/\(Rng.w .i64 (2*a.hi.val)).val<1152921504606846976
 ·rw [zb3 hm];exact ⟨trivial,k1,k2⟩
 ·rw [zii hm,zch] at h;cases h
end Go.Proofs.YtkenfaengphiiaaGreatDoor.Ev
namespace Go.Proofs.YtkenfaengphiiaaGreatDoor.Ev
open Go
theorem zEz {a:Iv} (h:ze (zbg a)=true):ze a=true/\(zbg a).lo.val=(zai a).a.val*(zai a).a.val/4294967296/\(zbg a).hi.val= -(-((zai a).b.val*(zai a).b.val)/4294967296):=by
 have nw:∀ {P:Prop},ze zt=true->P:=fun h=>by rw [zch] at h;cases h
 simp only [zbg,zlD,Tr.get] at h ⊢
 cases ha:ze a
 ·rw [ha] at h;exact nw h
 simp only [ha,Bool.not_true,cfl] at h ⊢
 cases h1:(zT (zai a).a (zai a).a).b
 ·rw [h1] at h;exact nw h
 cases h2:(zaf (zai a).b (zai a).b).b
 ·rw [h1,h2] at h;exact nw h
 simp only [h1,h2,Bool.not_true,cfl] at h ⊢
 have v1:=zhp h1
 have v2:=zlo h2
 generalize (zT (zai a).a (zai a).a).a=lo at *
 generalize (zaf (zai a).b (zai a).b).a=hi at *
 by_cases hm: -1152921504606846976<lo.val/\lo.val<=hi.val/\hi.val<1152921504606846976
 ·rw [zb3 hm];exact ⟨trivial,v1,v2⟩
 ·rw [zii hm] at h;exact nw h
theorem zuZ (a:I64) (ha:0<=a.val/\a.val<=1152921504606846976):∃q p:I64,zcC a=⟨q,true⟩/\zck a=⟨p,true⟩/\0<=q.val/\q.val<=70368744177664/\q.val*q.val<=a.val*4294967296/\a.val*4294967296<(q.val+1)*(q.val+1)/\q.val<=p.val/\p.val<=q.val+1/\a.val*4294967296<=p.val*p.val/\(q.val<p.val->q.val*q.val<a.val*4294967296):=by
 obtain ⟨q,h1,h2,h3,h4,h5,h6⟩:=zCf a ha
 have e1:(Rng.w .i64 (q.val+1)).val=q.val+1:=wi (by omega) (by omega)
 have hqq:=Int.mul_nonneg h3 h3
 have hmf:zaz q q ⟨32,rfl⟩=⟨.w .i64 (q.val*q.val/4294967296),true⟩:=by rw [mf32];exact zfd (by omega) (by omega)
 have hmv:(Rng.w .i64 (q.val*q.val/4294967296)).val=q.val*q.val/4294967296:=wi (by omega) (by omega)
 have hmask:(Rng.w .i64 (zbv .and .i64 (Rng.w .i64 (q.val*q.val)).val 4294967295)).val=q.val*q.val%4294967296:=by rw [zuw,zfy];omega
 by_cases hx:q.val*q.val=a.val*4294967296
 ·refine ⟨q,q,h1,?_,h3,h4,h5,h6,Int.le_refl _,by omega,by omega,fun h=>by omega⟩
  have k1:(q.val*q.val/4294967296 != a.val)=false:=by simp;omega
  have k2:(q.val*q.val%4294967296 != 0)=false:=by simp;omega
  simp only [zck,zcG,Tr.get,zjY,h1,hmf,hmv,hmask,k1,k2,Bool.not_true,cond_false,cond_true]
 ·refine ⟨q,.w .i64 (q.val+1),h1,?_,h3,h4,h5,h6,by omega,by omega,by rw [e1];omega,fun h=>by omega⟩
  simp only [zck,zcG,Tr.get,zjY,h1,hmf,hmv,hmask,Bool.not_true,cond_false,cond_true]
  by_cases k1:q.val*q.val/4294967296=a.val
  ·have k2:(q.val*q.val%4294967296 != 0)=true:=by simp;omega
   have k3:(q.val*q.val/4294967296 != a.val)=false:=by simp [k1]
   simp only [k2,k3,cond_true,cond_false]
  ·have k3:(q.val*q.val/4294967296 != a.val)=true:=by simp [k1]
   simp only [k3,cond_true]
theorem zEy {a:Iv} (ha:ze a=true) (h0:0<=a.lo.val):ze (zcs a)=true/\(zcs a).lo=(zcC a.lo).a/\(zcs a).hi=(zck a.hi).a:=by
 have hb:=(zbC _).1 ha
 obtain ⟨q,p,e1,e2,h1,h2,h3,h4,h5,h6,h7,h8⟩:=zuZ a.lo (by omega)
 obtain ⟨q',p',e1',e2',h1',h2',h3',h4',h5',h6',h7',h8'⟩:=zuZ a.hi (by omega)
 have hle:q.val<=p'.val:=by
  refine zmJ h1 (by omega) ?_
  omega
 have hd:decide (a.lo.val<0)=false:=by simp;omega
 have e:zcs a=⟨q,p'⟩:=by
  simp only [zcs,zky,Tr.get,ha,hd,zjY,zwy,e1,e2',Bool.not_true,cfl,ctr]
  exact zb3 (by omega)
 rw [e,e1,e2']
 exact ⟨(zbC _).2 (by simp only;omega),rfl,rfl⟩
theorem zEx {a:Iv} (h:ze (zcs a)=true):ze a=true/\0<=a.lo.val:=by
 have nw:∀ {P:Prop},ze zt=true->P:=fun h=>by rw [zch] at h;cases h
 simp only [zcs,zky,Tr.get] at h
 cases ha:ze a
 ·rw [ha] at h;exact nw h
 by_cases h0:a.lo.val<0
 ·rw [ha,show decide (a.lo.val<0)=true by simpa using h0] at h;exact nw h
 ·exact ⟨rfl,by omega⟩
theorem zi6 {x y:I64} (hy:0<y.val) (h:(zM x y).b=true):(zM x y).a.val=x.val*4294967296/y.val:=by
 have z0:(y.val==0)=false:=by simp;omega
 have z1:decide (y.val<0)=false:=by simp;omega
 simp only [zM,zbF,Tr.get,zd9,z0,z1,cfl] at h ⊢
 cases h1:zG x
 ·rw [h1] at h;simp [ctr] at h
 cases h2:zG y
 ·rw [h1,h2] at h;simp [ctr,cfl] at h
 rw [h1,h2] at h
 simp only [Bool.not_true,cfl,MD,hy,if_true] at h ⊢
 unfold narrow at h ⊢
 split at h
 ·rename_i hr
  rw [if_pos hr]
  rcases zi5 (.w .i64 (x.val*4294967296/y.val)) true with e|⟨e,_⟩
  ·rw [e] at h;cases h
  ·rw [e];exact wi hr.1 hr.2
 ·have:(zaB (.w .i64 0) false).b=false:=by simp only [zaB,zcy,Tr.get,Bool.not_false,ctr]
  rw [this] at h;cases h
theorem znf {x y:I64} (hy:0<y.val) (h:(zY x y).b=true):(zY x y).a.val= -(-x.val*4294967296/y.val):=by
 simp only [zY,zdJ,Tr.get] at h ⊢
 cases h1:zG x
 ·rw [h1] at h;simp [ctr] at h
 rw [h1] at h
 simp only [Bool.not_true,cfl] at h ⊢
 have hb:=zno h1
 have e:=zi6 hy h
 have en:(Rng.w .i64 (0-x.val)).val= -x.val:=by rw [wi (by omega) (by omega)];omega
 rw [en] at e
 rcases ze4 (.w .i64 (0-x.val)) y with k|⟨c,k,kc⟩
 ·rw [k] at h;cases h
 ·have kb:=zno kc
  rw [k] at e ⊢
  simp only at e ⊢
  rw [wi (by omega) (by omega)]
  omega
theorem zze {a b:Iv} (h0:0<b.lo.val) (h:ze (zO a b)=true):ze a=true/\ze b=true /\
  ∀x y:I64,(x=a.lo\/x=a.hi)->(y=b.lo\/y=b.hi)->(zO a b).lo.val<=x.val*4294967296/y.val /\ -(-x.val*4294967296/y.val)<=(zO a b).hi.val:=by
 have nw:∀ {P:Prop},ze zt=true->P:=fun h=>by rw [zch] at h;cases h
 simp only [zO,zie,Tr.get] at h ⊢
 cases ha:ze a
 ·rw [ha] at h;exact nw h
 cases hb:ze b
 ·rw [ha,hb] at h;exact nw h
 have bb:=(zbC _).1 hb
 have h0':0<b.hi.val:=by omega
 cases hz:zbr b ⟨0,rfl⟩
 case true=>rw [ha,hb,hz] at h;exact nw h
 simp only [ha,hb,hz,Bool.not_true,cfl] at h ⊢
 cases h1:(zM a.lo b.lo).b
 ·rw [h1] at h;exact nw h
 cases h2:(zY a.lo b.lo).b
 ·rw [h1,h2] at h;exact nw h
 cases h3:(zM a.lo b.hi).b
 ·rw [h1,h2,h3] at h;exact nw h
 cases h4:(zY a.lo b.hi).b
 ·rw [h1,h2,h3,h4] at h;exact nw h
 cases h5:(zM a.hi b.lo).b
 ·rw [h1,h2,h3,h4,h5] at h;exact nw h
 cases h6:(zY a.hi b.lo).b
 ·rw [h1,h2,h3,h4,h5,h6] at h;exact nw h
 cases h7:(zM a.hi b.hi).b
 ·rw [h1,h2,h3,h4,h5,h6,h7] at h;exact nw h
 cases h8:(zY a.hi b.hi).b
 ·rw [h1,h2,h3,h4,h5,h6,h7,h8] at h;exact nw h
 simp only [h1,h2,h3,h4,h5,h6,h7,h8,Bool.not_true,cfl] at h ⊢
 refine ⟨trivial,trivial,?_⟩
 have v1:=zi6 h0 h1
 have v2:=znf h0 h2
 have v3:=zi6 h0' h3
 have v4:=znf h0' h4
 have v5:=zi6 h0 h5
 have v6:=znf h0 h6
 have v7:=zi6 h0' h7
 have v8:=znf h0' h8
 generalize (zM a.lo b.lo).a=d1 at *
 generalize (zM a.lo b.hi).a=d2 at *
 generalize (zM a.hi b.lo).a=d3 at *
 generalize (zM a.hi b.hi).a=d4 at *
 generalize (zY a.lo b.lo).a=u1 at *
 generalize (zY a.lo b.hi).a=u2 at *
 generalize (zY a.hi b.lo).a=u3 at *
 generalize (zY a.hi b.hi).a=u4 at *
 have m1:=zia ⟨1152921504606846976,rfl⟩ d1
 have m2:=zia (zC ⟨1152921504606846976,rfl⟩ d1) d2
 have m3:=zia (zC (zC ⟨1152921504606846976,rfl⟩ d1) d2) d3
 have m4:=zia (zC (zC (zC ⟨1152921504606846976,rfl⟩ d1) d2) d3) d4
 have n1:=zgM ⟨-1152921504606846976,rfl⟩ u1
 have n2:=zgM (zA ⟨-1152921504606846976,rfl⟩ u1) u2
 have n3:=zgM (zA (zA ⟨-1152921504606846976,rfl⟩ u1) u2) u3
 have n4:=zgM (zA (zA (zA ⟨-1152921504606846976,rfl⟩ u1) u2) u3) u4
 generalize zC (zC (zC (zC ⟨1152921504606846976,rfl⟩ d1) d2) d3) d4=lo at *
 generalize zA (zA (zA (zA ⟨-1152921504606846976,rfl⟩ u1) u2) u3) u4=hi at *
 by_cases hm: -1152921504606846976<lo.val/\lo.val<=hi.val/\hi.val<1152921504606846976
 ·rw [zb3 hm]
  simp only
  rintro x y (rfl|rfl) (rfl|rfl)
  ·omega
  ·omega
  ·omega
  ·omega
 ·rw [zii hm] at h;exact nw h
end Go.Proofs.YtkenfaengphiiaaGreatDoor.Ev
