/- The law FnOmega gives true, whatever comes in; each argument reads behind the call as it read before. No conditions. (One of the texts of its proof, put together by a program of this session.) -/
import Derived.Test.YtaoakfodkoifoaaGreatZW2
import Derived.Test.YtaoakfodkoifoaaGreatZPT
set_option linter.unusedSectionVars false
set_option linter.unusedSimpArgs false
set_option linter.unusedVariables false
noncomputable section
namespace Go.Proofs.YtaoakfodkoifoaaGreat.Ev
open Go Go.RowKit
set_option maxRecDepth 100000
section
variable [Amb]
def zmo (a0:Iv):Tr (Iv):=
 .leaf (zgP a0 ⟨1,rfl⟩)
def zbR:Iv->Iv:=fun a0=>(zmo a0).get
def B132:Bod Tryz.prog:=⟨132,Tryz.f132,Tryz.f132.body.getD .skip,Tryz.func132,by kernel_rfl,by kernel_rfl,zar.no _ _⟩
def zPX:Tb Tryz.prog:= {T:= [Y2,Y32],mix:=mix,Es:= [zob],Bs:= [],d:=1}
def zos (a0:Iv):Tr (Iv):=
 .leaf (zaZ a0 ⟨1,rfl⟩)
theorem zCR (a0:Iv):zPX.run B132 [enc a0] (Iv)=(zos a0).opt:=by kernel_rfl
def zfB:Iv->Iv:=fun a0=>(zos a0).get
theorem zCn (a0:Iv):(zos a0).opt=some (zfB a0):=Tr.zX (by kernel_rfl)
def zrg:Ent Tryz.prog:= .of1 zPX B132 (fun _=>true) zfB fun a0 _=>(zCR a0).trans (zCn a0)
def zi7 (a0:Iv):Tr (Iv):=
 .leaf (zgP a0 ⟨0,rfl⟩)
def zan:Iv->Iv:=fun a0=>(zi7 a0).get
def B129:Bod Tryz.prog:=⟨129,Tryz.f129,Tryz.f129.body.getD .skip,Tryz.func129,by kernel_rfl,by kernel_rfl,zar.no _ _⟩
def zP0:Tb Tryz.prog:= {T:= [Y2,Y32],mix:=mix,Es:= [zob],Bs:= [],d:=1}
def zol (a0:Iv):Tr (Iv):=
 .leaf (zaZ a0 ⟨0,rfl⟩)
theorem zCI (a0:Iv):zP0.run B129 [enc a0] (Iv)=(zol a0).opt:=by kernel_rfl
def zcD:Iv->Iv:=fun a0=>(zol a0).get
theorem zCf (a0:Iv):(zol a0).opt=some (zcD a0):=Tr.zX (by kernel_rfl)
def zoT:Ent Tryz.prog:= .of1 zP0 B129 (fun _=>true) zcD fun a0 _=>(zCI a0).trans (zCf a0)
def zrt (a0:I64):Tr (Bool):=
 .br (decide ((-1152921504606846976)<a0.val)) (.leaf (decide (a0.val<1152921504606846976))) (.leaf false)
def zbK:I64->Bool:=fun a0=>(zrt a0).get
def znT:Tr (Iv):=
 .br (zcl ⟨1,rfl⟩) (.br (zcl ⟨1,rfl⟩) (.leaf ⟨(Rng.w .i64 (0-(zaS ⟨1,rfl⟩).hi.val)),(zaS ⟨1,rfl⟩).hi⟩) (.bad)) (.bad)
def zbt:Iv:=(znT).get
def zjz (a0:Iv):Tr (Iv):=
 .leaf (zo a0 (zq (zf ⟨1,rfl⟩) (zaD (zq (zf ⟨1,rfl⟩) (zay a0)))))
def zdi:Iv->Iv:=fun a0=>(zjz a0).get
def ziS (a0:Iv):Tr (Iv):=
 .br (!(zal a0 ⟨⟨(-1073741824),rfl⟩,⟨1073741824,rfl⟩⟩)) (.leaf zaW) (let c3:=zay a0;.leaf (zq (zk a0 (zG (zQ ⟨1,rfl⟩ ⟨1,rfl⟩) (zk c3 (zG (zQ ⟨1,rfl⟩ ⟨3,rfl⟩) (zk c3 (zG (zQ ⟨1,rfl⟩ ⟨5,rfl⟩) (zk c3 (zG (zQ ⟨1,rfl⟩ ⟨7,rfl⟩) (zk c3 (zG (zQ ⟨1,rfl⟩ ⟨9,rfl⟩) (zk c3 (zG (zQ ⟨1,rfl⟩ ⟨11,rfl⟩) (zk c3 (zG (zQ ⟨1,rfl⟩ ⟨13,rfl⟩) (zk c3 (zG (zQ ⟨1,rfl⟩ ⟨15,rfl⟩) (zk c3 (zG (zQ ⟨1,rfl⟩ ⟨17,rfl⟩) (zk c3 (zG (zQ ⟨1,rfl⟩ ⟨19,rfl⟩) (zk c3 (zQ ⟨1,rfl⟩ ⟨21,rfl⟩)))))))))))))))))))))) zbA))
def zdt:Iv->Iv:=fun a0=>(ziS a0).get
def zfr (a0:Iv):Tr (Iv):=
 .br (!(za a0)) (.leaf zh) (.leaf (zU (Rng.w .i64 (2*a0.lo.val)) (Rng.w .i64 (2*a0.hi.val))))
def zbh:Iv->Iv:=fun a0=>(zfr a0).get
def zkQ (a0:Iv):Tr (Iv):=
 .leaf (zbh (zbh (zdt (zdi (zdi a0)))))
def zaC:Iv->Iv:=fun a0=>(zkQ a0).get
def zhp (a0:I64):Tr (Iv):=
 .br (!(zbK a0)) (.leaf zbt) (.br (decide (a0.val<0)) (.bad) (.br (decide (a0.val>4294967296)) (.leaf (zG (zP ⟨1,rfl⟩) (zaC (zo (zf ⟨1,rfl⟩) (zB a0))))) (.leaf (zaC (zB a0)))))
def zeQ:I64->Iv:=fun a0=>(zhp a0).get
def zhA:I64->Bool:=fun a0=>(zhp a0).opt.isSome
def zhT (a0:I64):Tr (Iv):=
 .br (!(zbK a0)) (.leaf zbt) (.br (decide (a0.val<0)) (let c3:=(Rng.w .i64 (0-a0.val));.br (zhA c3) (.leaf (zaK (zeQ c3))) (.bad)) (.br (decide (a0.val>4294967296)) (.leaf (zG (zP ⟨1,rfl⟩) (zaC (zo (zf ⟨1,rfl⟩) (zB a0))))) (.leaf (zaC (zB a0)))))
def zcR:I64->Iv:=fun a0=>(zhT a0).get
def B225:Bod Tryz.prog:=⟨225,Tryz.f225,Tryz.f225.body.getD .skip,Tryz.func225,by kernel_rfl,by kernel_rfl,zar.no _ _⟩
def zPj:Tb Tryz.prog:= {T:= [],mix:=mix,Es:= [],Bs:= [],d:=1}
def zoj (a0:I64):Tr (Bool):=
 .br (decide ((-1152921504606846976)<a0.val)) (.leaf (decide (a0.val<1152921504606846976))) (.leaf false)
theorem zzm (a0:I64):zPj.run B225 [enc a0] (Bool)=(zoj a0).opt:=by kernel_rfl
def zgr:I64->Bool:=fun a0=>(zoj a0).get
theorem zyG (a0:I64):(zoj a0).opt=some (zgr a0):=Tr.zX (by kernel_rfl)
def zoS:Ent Tryz.prog:= .of1 zPj B225 (fun _=>true) zgr fun a0 _=>(zzm a0).trans (zyG a0)
def B263:Bod Tryz.prog:=⟨263,Tryz.f263,Tryz.f263.body.getD .skip,Tryz.func263,by kernel_rfl,by kernel_rfl,zar.no _ _⟩
def zOW:Tb Tryz.prog:= {T:= [Y2,Y32],mix:=mix,Es:= [zem],Bs:= [],d:=1}
def zhW:Tr (Iv):=
 .leaf ⟨(Rng.w .i64 (0-(za4 ⟨1,rfl⟩).hi.val)),(za4 ⟨1,rfl⟩).hi⟩
theorem zsz:zOW.run B263 [] (Iv)=(zhW).opt:=by kernel_rfl
def zcv:Iv:=(zhW).get
theorem zsk:(zhW).opt=some (zcv):=Tr.zX (by kernel_rfl)
def zim:Ent Tryz.prog:= .of0 zOW B263 zcv (zsz.trans zsk)
def B325:Bod Tryz.prog:=⟨325,Tryz.f325,Tryz.f325.body.getD .skip,Tryz.func325,by kernel_rfl,by kernel_rfl,zar.no _ _⟩
def zOq:Tb Tryz.prog:= {T:= [Y2,Y32],mix:=mix,Es:= [zbi,zck,zcj,zin,zey],Bs:= [],d:=1}
def zlU (a0:Iv):Tr (Iv):=
 .leaf (zad a0 (zR (zw ⟨1,rfl⟩) (zev (zR (zw ⟨1,rfl⟩) (zcX a0)))))
theorem zzo (a0:Iv):zOq.run B325 [enc a0] (Iv)=(zlU a0).opt:=by kernel_rfl
def zii:Iv->Iv:=fun a0=>(zlU a0).get
theorem zyI (a0:Iv):(zlU a0).opt=some (zii a0):=Tr.zX (by kernel_rfl)
def zAa:Ent Tryz.prog:= .of1 zOq B325 (fun _=>true) zii fun a0 _=>(zzo a0).trans (zyI a0)
def B324:Bod Tryz.prog:=⟨324,Tryz.f324,Tryz.f324.body.getD .skip,Tryz.func324,by kernel_rfl,by kernel_rfl,zar.no _ _⟩
def zOr:Tb Tryz.prog:= {T:= [Y2,Y32],mix:=mix,Es:= [zck,zbW,zcZ,zcU,zey,zah,znQ,zrc],Bs:= [],d:=1}
def ziY (a0:Iv):Tr (Iv):=
 .br (!(zfy a0 ⟨⟨(-1073741824),rfl⟩,⟨1073741824,rfl⟩⟩)) (.leaf zD) (let c3:=zcX a0;.leaf (zR (zF a0 (zaz (zaa ⟨1,rfl⟩ ⟨1,rfl⟩) (zF c3 (zaz (zaa ⟨1,rfl⟩ ⟨3,rfl⟩) (zF c3 (zaz (zaa ⟨1,rfl⟩ ⟨5,rfl⟩) (zF c3 (zaz (zaa ⟨1,rfl⟩ ⟨7,rfl⟩) (zF c3 (zaz (zaa ⟨1,rfl⟩ ⟨9,rfl⟩) (zF c3 (zaz (zaa ⟨1,rfl⟩ ⟨11,rfl⟩) (zF c3 (zaz (zaa ⟨1,rfl⟩ ⟨13,rfl⟩) (zF c3 (zaz (zaa ⟨1,rfl⟩ ⟨15,rfl⟩) (zF c3 (zaz (zaa ⟨1,rfl⟩ ⟨17,rfl⟩) (zF c3 (zaz (zaa ⟨1,rfl⟩ ⟨19,rfl⟩) (zF c3 (zaa ⟨1,rfl⟩ ⟨21,rfl⟩)))))))))))))))))))))) zkK))
theorem zt1 (a0:Iv):zOr.run B324 [enc a0] (Iv)=(ziY a0).opt:=by kernel_rfl
def zgH:Iv->Iv:=fun a0=>(ziY a0).get
theorem ztM (a0:Iv):(ziY a0).opt=some (zgH a0):=Tr.zX (by kernel_rfl)
def zuf:Ent Tryz.prog:= .of1 zOr B324 (fun _=>true) zgH fun a0 _=>(zt1 a0).trans (ztM a0)
def B278:Bod Tryz.prog:=⟨278,Tryz.f278,Tryz.f278.body.getD .skip,Tryz.func278,by kernel_rfl,by kernel_rfl,zar.no _ _⟩
def zOM:Tb Tryz.prog:= {T:= [Y2,Y32],mix:=mix,Es:= [zck],Bs:= [],d:=1}
def zk2 (a0:Iv):Tr (Iv):=
 .leaf (zR a0 a0)
theorem zxr (a0:Iv):zOM.run B278 [enc a0] (Iv)=(zk2 a0).opt:=by kernel_rfl
def zcr:Iv->Iv:=fun a0=>(zk2 a0).get
theorem zwX (a0:Iv):(zk2 a0).opt=some (zcr a0):=Tr.zX (by kernel_rfl)
def znR:Ent Tryz.prog:= .of1 zOM B278 (fun _=>true) zcr fun a0 _=>(zxr a0).trans (zwX a0)
def B301:Bod Tryz.prog:=⟨301,Tryz.f301,Tryz.f301.body.getD .skip,Tryz.func301,by kernel_rfl,by kernel_rfl,zar.no _ _⟩
def zOE:Tb Tryz.prog:= {T:= [Y2,Y32],mix:=mix,Es:= [znR,zuf,zAa],Bs:= [],d:=1}
def zjE (a0:Iv):Tr (Iv):=
 .leaf (zcr (zcr (zgH (zii (zii a0)))))
theorem zvi (a0:Iv):zOE.run B301 [enc a0] (Iv)=(zjE a0).opt:=by kernel_rfl
def zdY:Iv->Iv:=fun a0=>(zjE a0).get
theorem zuJ (a0:Iv):(zjE a0).opt=some (zdY a0):=Tr.zX (by kernel_rfl)
def zpU:Ent Tryz.prog:= .of1 zOE B301 (fun _=>true) zdY fun a0 _=>(zvi a0).trans (zuJ a0)
def B264:Bod Tryz.prog:=⟨264,Tryz.f264,Tryz.f264.body.getD .skip,Tryz.func264,by kernel_rfl,by kernel_rfl,zar.no _ _⟩
def zIM:Tb Tryz.prog:= {T:= [Y2,Y32],mix:=mix,Es:= [zbi,zcj,zcZ,zem,zoS,zf6,zim,zpU],Bs:= [],d:=1}
def zhu (a0:I64):Tr (Iv):=
 .br (!(zgr a0)) (.leaf zcv) (.br (decide (a0.val<0)) (.bad) (.br (decide (a0.val>4294967296)) (.leaf (zaz (za4 ⟨1,rfl⟩) (zdY (zad (zw ⟨1,rfl⟩) (zbo a0))))) (.leaf (zdY (zbo a0)))))
theorem zvs (a0:I64):zIM.run B264 [enc a0] (Iv)=(zhu a0).opt:=by kernel_rfl
def zmS:I64->Iv:=fun a0=>(zhu a0).get
def zj3:I64->Bool:=fun a0=>(zhu a0).opt.isSome
def zwy:Ent Tryz.prog:= .of1 zIM B264 zj3 zmS fun a0 h=>(zvs a0).trans (Tr.get_some h)
def zOV:Tb Tryz.prog:= {T:= [Y2,Y32],mix:=mix,Es:= [zbi,zcj,zcZ,zem,zhM,zoS,zf6,zim,zwy,zpU],Bs:= [],d:=1}
def zjJ (a0:I64):Tr (Iv):=
 .br (!(zgr a0)) (.leaf zcv) (.br (decide (a0.val<0)) (let c3:=(Rng.w .i64 (0-a0.val));.br (zj3 c3) (.leaf (zdB (zmS c3))) (.bad)) (.br (decide (a0.val>4294967296)) (.leaf (zaz (za4 ⟨1,rfl⟩) (zdY (zad (zw ⟨1,rfl⟩) (zbo a0))))) (.leaf (zdY (zbo a0)))))
theorem zzu (a0:I64):zOV.run B264 [enc a0] (Iv)=(zjJ a0).opt:=by kernel_rfl
def zgs:I64->Iv:=fun a0=>(zjJ a0).get
def zds (a0:I64):Tr (Iv):=
 .br (!(zaf a0 ⟨(-64),rfl⟩ ⟨64,rfl⟩)) (.leaf zh) (.br (decide (a0.val<0)) (.bad) (.leaf (zU (zaE a0 ⟨1598288580650331957,rfl⟩ ⟨29,rfl⟩).a (Rng.w .i64 (0-(zaE (Rng.w .i64 (0-a0.val)) ⟨1598288580650331958,rfl⟩ ⟨29,rfl⟩).a.val)))))
def zlH:I64->Iv:=fun a0=>(zds a0).get
def zgE:I64->Bool:=fun a0=>(zds a0).opt.isSome
def zfq (a0:I64):Tr (Iv):=
 .br (!(zaf a0 ⟨(-64),rfl⟩ ⟨64,rfl⟩)) (.leaf zh) (.br (decide (a0.val<0)) (let c3:=(Rng.w .i64 (0-a0.val));.br (zgE c3) (.leaf (zaK (zlH c3))) (.bad)) (.leaf (zU (zaE a0 ⟨1598288580650331957,rfl⟩ ⟨29,rfl⟩).a (Rng.w .i64 (0-(zaE (Rng.w .i64 (0-a0.val)) ⟨1598288580650331958,rfl⟩ ⟨29,rfl⟩).a.val)))))
def za0:I64->Iv:=fun a0=>(zfq a0).get
def B302:Bod Tryz.prog:=⟨302,Tryz.f302,Tryz.f302.body.getD .skip,Tryz.func302,by kernel_rfl,by kernel_rfl,zar.no _ _⟩
def zIK:Tb Tryz.prog:= {T:= [Y2,Y32],mix:=mix,Es:= [za3,zah,zi4],Bs:= [],d:=1}
def ze1 (a0:I64):Tr (Iv):=
 .br (!(zas a0 ⟨(-64),rfl⟩ ⟨64,rfl⟩)) (.leaf zD) (.br (decide (a0.val<0)) (.bad) (.leaf ⟨(zci a0 ⟨1598288580650331957,rfl⟩ ⟨29,rfl⟩).a,(Rng.w .i64 (0-(zci (Rng.w .i64 (0-a0.val)) ⟨1598288580650331958,rfl⟩ ⟨29,rfl⟩).a.val))⟩))
theorem ztY (a0:I64):zIK.run B302 [enc a0] (Iv)=(ze1 a0).opt:=by kernel_rfl
def zlJ:I64->Iv:=fun a0=>(ze1 a0).get
def zi3:I64->Bool:=fun a0=>(ze1 a0).opt.isSome
def zua:Ent Tryz.prog:= .of1 zIK B302 zi3 zlJ fun a0 h=>(ztY a0).trans (Tr.get_some h)
def zOD:Tb Tryz.prog:= {T:= [Y2,Y32],mix:=mix,Es:= [za3,zah,zhM,zi4,zua],Bs:= [],d:=1}
def zft (a0:I64):Tr (Iv):=
 .br (!(zas a0 ⟨(-64),rfl⟩ ⟨64,rfl⟩)) (.leaf zD) (.br (decide (a0.val<0)) (let c3:=(Rng.w .i64 (0-a0.val));.br (zi3 c3) (.leaf (zdB (zlJ c3))) (.bad)) (.leaf ⟨(zci a0 ⟨1598288580650331957,rfl⟩ ⟨29,rfl⟩).a,(Rng.w .i64 (0-(zci (Rng.w .i64 (0-a0.val)) ⟨1598288580650331958,rfl⟩ ⟨29,rfl⟩).a.val))⟩))
theorem zxm (a0:I64):zOD.run B302 [enc a0] (Iv)=(zft a0).opt:=by kernel_rfl
def zex:I64->Iv:=fun a0=>(zft a0).get
def zqv (a0:I64) (a1:I64):Tr (Wide):=
 .leaf (zfm a0 a1)
def zcn:I64->I64->Wide:=fun a0 a1=>(zqv a0 a1).get
def zjC (a0:I64):Tr (Iv):=
 .br (!(zaf a0 ⟨(-4294967296),rfl⟩ ⟨4294967296,rfl⟩)) (.leaf zaW) (let c3:=(Rng.w .i64 (4294967296-a0.val));let c4:=(Rng.w .i64 (4294967296+a0.val));let c5:=zgF c3 c4;let c6:=zcn c5.a c5.a;let c7:=zcn c3 c4;.br (!((c6.hi.val==c7.hi.val)&&((c6.lo.val==c7.lo.val)&&true))) (.leaf ⟨c5.a,(Rng.w .i64 (c5.a.val+1))⟩) (.leaf ⟨c5.a,c5.a⟩))
def zcM:I64->Iv:=fun a0=>(zjC a0).get
def B279:Bod Tryz.prog:=⟨279,Tryz.f279,Tryz.f279.body.getD .skip,Tryz.func279,by kernel_rfl,by kernel_rfl,zar.no _ _⟩
def zOL:Tb Tryz.prog:= {T:= [Y2,Y32,Y109,Y118],mix:=mix,Es:= [za3,zah,zf6,zgW,ztk],Bs:= [],d:=1}
def zjH (a0:I64):Tr (Iv):=
 .br (!(zas a0 ⟨(-4294967296),rfl⟩ ⟨4294967296,rfl⟩)) (.leaf zD) (let c5:=zd6 (Rng.w .i64 (4294967296-a0.val)) (Rng.w .i64 (4294967296+a0.val));let c6:=zco c5.a c5.a;let c9:=zco (Rng.w .i64 (4294967296-a0.val)) (Rng.w .i64 (4294967296+a0.val));.br ((c6.hi.val==c9.hi.val)&&((c6.lo.val==c9.lo.val)&&true)) (.leaf (zbo c5.a)) (.leaf ⟨c5.a,(Rng.w .i64 (c5.a.val+1))⟩))
theorem zvq (a0:I64):zOL.run B279 [enc a0] (Iv)=(zjH a0).opt:=by kernel_rfl
def zhH:I64->Iv:=fun a0=>(zjH a0).get
theorem zuN (a0:I64):(zjH a0).opt=some (zhH a0):=Tr.zX (by kernel_rfl)
def zww:Ent Tryz.prog:= .of1 zOL B279 (fun _=>true) zhH fun a0 _=>(zvq a0).trans (zuN a0)
end
end Go.Proofs.YtaoakfodkoifoaaGreat.Ev
namespace Go.Proofs.YtaoakfodkoifoaaGreat.Ev
open Go
theorem znB (a b:I64):zaa a b=zQ a b:=(zJi a b).trans (zzw a b).symm
theorem zxZ (n:I64):zcp n=zaq n:=by
 have h:=zGM n
 have h2:=zuS n
 have h1:=zuT n
 rw [h.1,h2] at h1
 exact (Option.some.inj h1).symm
theorem zDA (x:Iv):zfB x=zbR x:=by simp only [zfB,zos,zbR,zmo,Tr.get,zsK]
theorem zy5 (x:Iv):zcD x=zan x:=by simp only [zcD,zol,zan,zi7,Tr.get,zsK]
theorem zv5 (a:Iv):zcr a=zbh a:=by
 simp only [zcr,zk2,zbh,zfr,Tr.get,add_eq,zq,zd3]
 cases za a
 ·rfl
 simp only [Bool.not_true,cond_false]
 have e1:a.lo.val+a.lo.val=2*a.lo.val:=by omega
 have e2:a.hi.val+a.hi.val=2*a.hi.val:=by omega
 rw [e1,e2]
theorem zJY (a:Iv):zii a=zdi a:=by
 simp only [zii,zlU,zdi,zjz,Tr.get,add_eq,zjQ,zbP,zp2,zpn]
theorem zMQ (a:Iv):zgH a=zdt a:=by
 simp only [zgH,ziY,zdt,ziS,Tr.get,add_eq,sub_eq,zjm,zpn,znB,zCu,zvU,za1,zbU]
theorem zIk (a:Iv):zdY a=zaC a:=by
 simp only [zdY,zjE,zaC,zkQ,Tr.get,zv5,zMQ,zJY]
theorem fix_eq (n:I64):zgr n=zbK n:=rfl
theorem zq3 (n:I64):zbK n=true↔(-1152921504606846976<n.val/\n.val<1152921504606846976):=by
 simp only [zbK,zrt,Tr.get]
 by_cases h1:(-1152921504606846976:Int)<n.val<;>simp [h1]
theorem zsr {k:I64} (h: -4096<=k.val) (h':k.val<=4096):zcl k=true/\zP k=zaS k:=by
 obtain ⟨x,h1,h2,h3⟩:=zGm k h h'
 have g:zcl k=true:=by unfold zcl;rw [h1];rfl
 have hi:zaf k ⟨(-4096),rfl⟩ ⟨4096,rfl⟩=true:=by rw [zdp];simpa using ⟨h,h'⟩
 exact ⟨g,by simp only [zP,zhk,Tr.get,hi,g,Bool.not_true,cond_false,cond_true]⟩
theorem zzM:zcv=zbt:=by
 obtain ⟨g,e⟩:=zsr (k:=⟨1,rfl⟩) (by decide) (by decide)
 simp only [zcv,zhW,zbt,znT,Tr.get,ziP,e,g,cond_true]
theorem zKl (n:I64) (h:¬n.val<0):(zhp n).opt=some (zeQ n)/\(zhu n).opt=some (zeQ n):=by
 have hn:decide (n.val<0)=false:=by simpa using h
 simp only [zhp,zhu,zeQ,Tr.opt,Tr.get,hn,cond_false,fix_eq,zzM,sub_eq,ziP,zIk,zjQ,zbP,at_eq]
 cases zbK n<;>cases decide (n.val>4294967296)<;>exact ⟨rfl,rfl⟩
theorem zIv (n:I64):∃x,(zhT n).opt=some x/\(zjJ n).opt=some x:=by
 simp only [zhT,zjJ,Tr.opt,fix_eq,zzM,sub_eq,ziP,zIk,zjQ,zbP,at_eq]
 cases hf:zbK n
 ·exact ⟨_,rfl,rfl⟩
 have hb:=(zq3 n).1 hf
 by_cases hn:n.val<0
 ·have e1:(Rng.w .i64 (0-n.val)).val=0-n.val:=wi (by omega) (by omega)
  obtain ⟨a1,a2⟩:=zKl (.w .i64 (0-n.val)) (by omega)
  have g1:zhA (.w .i64 (0-n.val))=true:=by unfold zhA;rw [a1];rfl
  have g2:zj3 (.w .i64 (0-n.val))=true:=by unfold zj3;rw [a2];rfl
  have f2:zmS (.w .i64 (0-n.val))=zeQ (.w .i64 (0-n.val)):=Tr.zai a2
  simp only [hn,decide_true,cond_true,g1,g2,f2,neg_eq,Bool.not_true,cond_false]
  exact ⟨_,rfl,rfl⟩
 ·simp only [hn,decide_false,cond_false,Bool.not_true]
  cases decide (n.val>4294967296)<;>exact ⟨_,rfl,rfl⟩
theorem zIx (n:I64):zgs n=zcR n:=by
 obtain ⟨x,h1,h2⟩:=zIv n
 exact (Tr.zai h2).trans (Tr.zai h1).symm
theorem zAI (n:I64):(zjJ n).opt=some (zgs n):=by obtain ⟨x,_,h1⟩:=zIv n;exact zh4 h1
theorem zKO {k:I64} (h:0<=k.val) (h':k.val<=64):zaE k ⟨1598288580650331957,rfl⟩ ⟨29,rfl⟩=⟨.w .i64 (k.val*1598288580650331957/536870912),true⟩ /\
  zaE (.w .i64 (0-k.val)) ⟨1598288580650331958,rfl⟩ ⟨29,rfl⟩=⟨.w .i64 ((0-k.val)*1598288580650331958/536870912),true⟩ /\
  0<=k.val*1598288580650331957/536870912/\k.val*1598288580650331957/536870912 <= -((0-k.val)*1598288580650331958/536870912) /\ -((0-k.val)*1598288580650331958/536870912)<=200000000000:=by
 have hb:0<=k.val*1598288580650331957/536870912/\k.val*1598288580650331957/536870912 <= -((0-k.val)*1598288580650331958/536870912) /\ -((0-k.val)*1598288580650331958/536870912)<=200000000000:=by omega
 have en:(Rng.w .i64 (0-k.val)).val=0-k.val:=wi (by omega) (by omega)
 refine ⟨?_,?_,hb⟩
 ·rw [mf29];exact zfj (v:=k.val*1598288580650331957/536870912) (by omega) (by omega)
 ·rw [mf29,en];exact zfj (v:=(0-k.val)*1598288580650331958/536870912) (by omega) (by omega)
theorem logp (k:I64) (h:0<=k.val) (h':k.val<=64):∃x:Iv,(zds k).opt=some x/\(ze1 k).opt=some x/\za x=true:=by
 have hw:zas k ⟨(-64),rfl⟩ ⟨64,rfl⟩=true:=by rw [zbN];simp;omega
 have hi:zaf k ⟨(-64),rfl⟩ ⟨64,rfl⟩=true:=by rw [zdp];simp;omega
 have hn:decide (k.val<0)=false:=by simp;omega
 obtain ⟨e1,e2,b1,b2,b3⟩:=zKO h h'
 have v1:(Rng.w .i64 (k.val*1598288580650331957/536870912)).val=k.val*1598288580650331957/536870912:=wi (by omega) (by omega)
 have v2:(Rng.w .i64 ((0-k.val)*1598288580650331958/536870912)).val=(0-k.val)*1598288580650331958/536870912:=wi (by omega) (by omega)
 have v3:(Rng.w .i64 (0-(0-k.val)*1598288580650331958/536870912)).val=0-(0-k.val)*1598288580650331958/536870912:=wi (by omega) (by omega)
 have hok: -1152921504606846976<(Rng.w .i64 (k.val*1598288580650331957/536870912)).val/\(Rng.w .i64 (k.val*1598288580650331957/536870912)).val<=(Rng.w .i64 (0-(Rng.w .i64 ((0-k.val)*1598288580650331958/536870912)).val)).val/\(Rng.w .i64 (0-(Rng.w .i64 ((0-k.val)*1598288580650331958/536870912)).val)).val<1152921504606846976:=by
  rw [v1,v2,v3];omega
 refine ⟨⟨.w .i64 (k.val*1598288580650331957/536870912),.w .i64 (0-(Rng.w .i64 ((0-k.val)*1598288580650331958/536870912)).val)⟩,?_,?_,(zaB _).2 hok⟩
 ·simp only [zds,Tr.opt,hi,hn,Bool.not_true,cond_false,e1,e2]
  rw [zbq hok]
 ·simp only [ze1,Tr.opt,hw,hn,Bool.not_true,cond_false,zsO,e1,e2]
theorem zBv (k:I64):∃x:Iv,(zfq k).opt=some x/\(zft k).opt=some x:=by
 by_cases h: -64<=k.val/\k.val<=64
 ·have hw:zas k ⟨(-64),rfl⟩ ⟨64,rfl⟩=true:=by rw [zbN];simpa using h
  have hi:zaf k ⟨(-64),rfl⟩ ⟨64,rfl⟩=true:=by rw [zdp];simpa using h
  by_cases hn:k.val<0
  ·have e1:(Rng.w .i64 (0-k.val)).val=0-k.val:=wi (by omega) (by omega)
   obtain ⟨x,h1,h2,h3⟩:=logp (.w .i64 (0-k.val)) (by omega) (by omega)
   have g1:zgE (.w .i64 (0-k.val))=true:=by unfold zgE;rw [h1];rfl
   have g2:zi3 (.w .i64 (0-k.val))=true:=by unfold zi3;rw [h2];rfl
   have f1:zlH (.w .i64 (0-k.val))=x:=Tr.zai h1
   have f2:zlJ (.w .i64 (0-k.val))=x:=Tr.zai h2
   have hd:decide (k.val<0)=true:=by simpa using hn
   exact ⟨zaK x,by simp only [zfq,Tr.opt,hi,hd,g1,f1,cond_true,cond_false,Bool.not_true],by simp only [zft,Tr.opt,hw,hd,g2,f2,cond_true,cond_false,Bool.not_true,neg_eq]⟩
  ·obtain ⟨x,h1,h2,h3⟩:=logp k (by omega) (by omega)
   have hd:decide (k.val<0)=false:=by simpa using hn
   refine ⟨x,?_,?_⟩
   ·simp only [zds,Tr.opt,hd] at h1
    simp only [zfq,Tr.opt,hd]
    exact h1
   ·simp only [ze1,Tr.opt,hd,hw] at h2
    simp only [zft,Tr.opt,hd,hw]
    exact h2
 ·have hi:zaf k ⟨(-64),rfl⟩ ⟨64,rfl⟩=false:=by rw [zdp];simpa using h
  have hw:zas k ⟨(-64),rfl⟩ ⟨64,rfl⟩=false:=by rw [zbN];simpa using h
  exact ⟨zh,by simp only [zfq,Tr.opt,hi,Bool.not_false,cond_true],by simp only [zft,Tr.opt,hw,Bool.not_false,cond_true,za1]⟩
theorem zAH (k:I64):(zft k).opt=some (zex k):=by obtain ⟨x,_,h1⟩:=zBv k;exact zh4 h1
theorem zzF (k:I64):zex k=za0 k:=by
 obtain ⟨x,h1,h2⟩:=zBv k
 exact (Tr.zai h2).trans (Tr.zai h1).symm
end Go.Proofs.YtaoakfodkoifoaaGreat.Ev
namespace Go.Proofs.YtaoakfodkoifoaaGreat.Ev
open Go Go.RowKit
set_option maxRecDepth 100000
section
variable [Amb]
def zxM:Ent Tryz.prog:= .of1 zOV B264 (fun _=>true) zgs fun a0 _=>(zzu a0).trans (zAI a0)
def zmU:Ent Tryz.prog:= .of1 zOD B302 (fun _=>true) zex fun a0 _=>(zxm a0).trans (zAH a0)
def B18:Bod Tryz.prog:=⟨18,Tryz.f18,Tryz.f18.body.getD .skip,Tryz.func18,by kernel_rfl,by kernel_rfl,zar.no _ _⟩
def Tb18:Tb Tryz.prog:= {T:= [Y2,Y32],mix:=mix,Es:= [zjq,zhJ,zxD,zqE],Bs:= [],d:=1}
def zi8 (a0:Iv):Tr (Iv):=
 .br (!(za a0)) (.leaf zh) (let c3:=zK a0;.leaf (zU c3.a c3.b))
theorem zCB (a0:Iv):Tb18.run B18 [enc a0] (Iv)=(zi8 a0).opt:=by kernel_rfl
def zcC:Iv->Iv:=fun a0=>(zi8 a0).get
theorem zB9 (a0:Iv):(zi8 a0).opt=some (zcC a0):=Tr.zX (by kernel_rfl)
def zDK:Ent Tryz.prog:= .of1 Tb18 B18 (fun _=>true) zcC fun a0 _=>(zCB a0).trans (zB9 a0)
def zqw (a0:Iv):Tr (Bool):=
 .leaf (!(za a0))
def zgR:Iv->Bool:=fun a0=>(zqw a0).get
def ztr (a0:Iv):Tr (Iv):=
 .br (zgR a0) (.leaf zbt) (.leaf (zN (zcR a0.lo) (zcR a0.hi)))
def zak:Iv->Iv:=fun a0=>(ztr a0).get
def B226:Bod Tryz.prog:=⟨226,Tryz.f226,Tryz.f226.body.getD .skip,Tryz.func226,by kernel_rfl,by kernel_rfl,zar.no _ _⟩
def zPi:Tb Tryz.prog:= {T:= [Y2,Y32],mix:=mix,Es:= [za6,zju,zim,zxM],Bs:= [],d:=1}
def zng (a0:Iv):Tr (Iv):=
 .br (zab a0) (.leaf zcv) (.leaf (zaG (zgs a0.lo) (zgs a0.hi)))
theorem zBj (a0:Iv):zPi.run B226 [enc a0] (Iv)=(zng a0).opt:=by kernel_rfl
def zdb:Iv->Iv:=fun a0=>(zng a0).get
theorem zAF (a0:Iv):(zng a0).opt=some (zdb a0):=Tr.zX (by kernel_rfl)
def zpZ:Ent Tryz.prog:= .of1 zPi B226 (fun _=>true) zdb fun a0 _=>(zBj a0).trans (zAF a0)
def zqO (a0:Iv) (a1:I64):Tr (Bool):=
 .br (!(za a0)) (.leaf true) (.leaf (zaO a0 a1))
def zkG:Iv->I64->Bool:=fun a0 a1=>(zqO a0 a1).get
def zm4 (a0:I64) (a1:I64):Tr (Iv):=
 .br (!(zbK a0)) (.leaf zaW) (.br (!(zbK a1)) (.leaf zaW) (.br (a1.val==0) (.br (a0.val==0) (.leaf zaW) (.br (decide (a0.val<0)) (let c6:=(Rng.w .i64 (0-a0.val));.br (decide (c6.val>a1.val)) (.br (decide (c6.val>(Rng.w .i64 (0-a1.val)).val)) (.br (decide (a0.val<0)) (.leaf (zG (zP ⟨(-1),rfl⟩) (zak (zo (zB a1) (zB a0))))) (.leaf (zG (zP ⟨1,rfl⟩) (zak (zo (zB a1) (zB a0)))))) (.br (decide (a1.val>0)) (.leaf (zak (zo (zB a0) (zB a1)))) (.br (decide (a0.val<0)) (.leaf (zq (zak (zo (zB a0) (zB a1))) (zP ⟨(-2),rfl⟩))) (.leaf (zq (zak (zo (zB a0) (zB a1))) (zP ⟨2,rfl⟩)))))) (.br (decide (a1.val>0)) (.leaf (zak (zo (zB a0) (zB a1)))) (.br (decide (a0.val<0)) (.leaf (zq (zak (zo (zB a0) (zB a1))) (zP ⟨(-2),rfl⟩))) (.leaf (zq (zak (zo (zB a0) (zB a1))) (zP ⟨2,rfl⟩)))))) (.br (decide (a0.val>a1.val)) (.br (decide (a0.val>(Rng.w .i64 (0-a1.val)).val)) (.br (decide (a0.val<0)) (.leaf (zG (zP ⟨(-1),rfl⟩) (zak (zo (zB a1) (zB a0))))) (.leaf (zG (zP ⟨1,rfl⟩) (zak (zo (zB a1) (zB a0)))))) (.br (decide (a1.val>0)) (.leaf (zak (zo (zB a0) (zB a1)))) (.br (decide (a0.val<0)) (.leaf (zq (zak (zo (zB a0) (zB a1))) (zP ⟨(-2),rfl⟩))) (.leaf (zq (zak (zo (zB a0) (zB a1))) (zP ⟨2,rfl⟩)))))) (.br (decide (a1.val>0)) (.leaf (zak (zo (zB a0) (zB a1)))) (.br (decide (a0.val<0)) (.leaf (zq (zak (zo (zB a0) (zB a1))) (zP ⟨(-2),rfl⟩))) (.leaf (zq (zak (zo (zB a0) (zB a1))) (zP ⟨2,rfl⟩)))))))) (.br (decide (a0.val<0)) (let c101:=(Rng.w .i64 (0-a0.val));.br (decide (c101.val>a1.val)) (.br (decide (c101.val>(Rng.w .i64 (0-a1.val)).val)) (.br (decide (a0.val<0)) (.leaf (zG (zP ⟨(-1),rfl⟩) (zak (zo (zB a1) (zB a0))))) (.leaf (zG (zP ⟨1,rfl⟩) (zak (zo (zB a1) (zB a0)))))) (.br (decide (a1.val>0)) (.leaf (zak (zo (zB a0) (zB a1)))) (.br (decide (a0.val<0)) (.leaf (zq (zak (zo (zB a0) (zB a1))) (zP ⟨(-2),rfl⟩))) (.leaf (zq (zak (zo (zB a0) (zB a1))) (zP ⟨2,rfl⟩)))))) (.br (decide (a1.val>0)) (.leaf (zak (zo (zB a0) (zB a1)))) (.br (decide (a0.val<0)) (.leaf (zq (zak (zo (zB a0) (zB a1))) (zP ⟨(-2),rfl⟩))) (.leaf (zq (zak (zo (zB a0) (zB a1))) (zP ⟨2,rfl⟩)))))) (.br (decide (a0.val>a1.val)) (.br (decide (a0.val>(Rng.w .i64 (0-a1.val)).val)) (.br (decide (a0.val<0)) (.leaf (zG (zP ⟨(-1),rfl⟩) (zak (zo (zB a1) (zB a0))))) (.leaf (zG (zP ⟨1,rfl⟩) (zak (zo (zB a1) (zB a0)))))) (.br (decide (a1.val>0)) (.leaf (zak (zo (zB a0) (zB a1)))) (.br (decide (a0.val<0)) (.leaf (zq (zak (zo (zB a0) (zB a1))) (zP ⟨(-2),rfl⟩))) (.leaf (zq (zak (zo (zB a0) (zB a1))) (zP ⟨2,rfl⟩)))))) (.br (decide (a1.val>0)) (.leaf (zak (zo (zB a0) (zB a1)))) (.br (decide (a0.val<0)) (.leaf (zq (zak (zo (zB a0) (zB a1))) (zP ⟨(-2),rfl⟩))) (.leaf (zq (zak (zo (zB a0) (zB a1))) (zP ⟨2,rfl⟩)))))))))
def zS:I64->I64->Iv:=fun a0 a1=>(zm4 a0 a1).get
def zkt (a0:Iv) (a1:Iv):Tr (Iv):=
 .br (zgR a0) (.leaf zaW) (.br (zgR a1) (.leaf zaW) (.br (zkG a0 ⟨0,rfl⟩) (.br (zkG a1 ⟨0,rfl⟩) (.leaf zaW) (.br (decide (a1.lo.val<0)) (.br (decide (a0.lo.val<0)) (.br (decide (a0.hi.val>=0)) (.leaf zaW) (.leaf (zN (zN (zS a0.lo a1.lo) (zS a0.lo a1.hi)) (zN (zS a0.hi a1.lo) (zS a0.hi a1.hi))))) (.leaf (zN (zN (zS a0.lo a1.lo) (zS a0.lo a1.hi)) (zN (zS a0.hi a1.lo) (zS a0.hi a1.hi))))) (.leaf (zN (zN (zS a0.lo a1.lo) (zS a0.lo a1.hi)) (zN (zS a0.hi a1.lo) (zS a0.hi a1.hi)))))) (.br (decide (a1.lo.val<0)) (.br (decide (a0.lo.val<0)) (.br (decide (a0.hi.val>=0)) (.leaf zaW) (.leaf (zN (zN (zS a0.lo a1.lo) (zS a0.lo a1.hi)) (zN (zS a0.hi a1.lo) (zS a0.hi a1.hi))))) (.leaf (zN (zN (zS a0.lo a1.lo) (zS a0.lo a1.hi)) (zN (zS a0.hi a1.lo) (zS a0.hi a1.hi))))) (.leaf (zN (zN (zS a0.lo a1.lo) (zS a0.lo a1.hi)) (zN (zS a0.hi a1.lo) (zS a0.hi a1.hi)))))))
def zcu:Iv->Iv->Iv:=fun a0 a1=>(zkt a0 a1).get
def B175:Bod Tryz.prog:=⟨175,Tryz.f175,Tryz.f175.body.getD .skip,Tryz.func175,by kernel_rfl,by kernel_rfl,zar.no _ _⟩
def zPH:Tb Tryz.prog:= {T:= [Y2,Y32],mix:=mix,Es:= [zck,zcj,zcZ,zah,zem,zyo,zoS,zpZ,zf6],Bs:= [],d:=1}
def zff (a0:I64) (a1:I64):Tr (Iv):=
 .br (!(zgr a0)) (.leaf zD) (.br (!(zgr a1)) (.leaf zD) (.br (a0.val==0) (.br (a1.val==0) (.leaf zD) (.br (decide ((zbX a0).val>(zbX a1).val)) (.br (decide (a0.val<0)) (.leaf (zaz (za4 ⟨(-1),rfl⟩) (zdb (zad (zbo a1) (zbo a0))))) (.leaf (zaz (za4 ⟨1,rfl⟩) (zdb (zad (zbo a1) (zbo a0)))))) (let c24:=zdb (zad (zbo a0) (zbo a1));.br (decide (a1.val>0)) (.leaf c24) (.br (decide (a0.val<0)) (.leaf (zR c24 (za4 ⟨(-2),rfl⟩))) (.leaf (zR c24 (za4 ⟨2,rfl⟩))))))) (.br (decide ((zbX a0).val>(zbX a1).val)) (.br (decide (a0.val<0)) (.leaf (zaz (za4 ⟨(-1),rfl⟩) (zdb (zad (zbo a1) (zbo a0))))) (.leaf (zaz (za4 ⟨1,rfl⟩) (zdb (zad (zbo a1) (zbo a0)))))) (let c47:=zdb (zad (zbo a0) (zbo a1));.br (decide (a1.val>0)) (.leaf c47) (.br (decide (a0.val<0)) (.leaf (zR c47 (za4 ⟨(-2),rfl⟩))) (.leaf (zR c47 (za4 ⟨2,rfl⟩))))))))
theorem zrG (a0:I64) (a1:I64):zPH.run B175 [enc a0,enc a1] (Iv)=(zff a0 a1).opt:=by kernel_rfl
def zac:I64->I64->Iv:=fun a0 a1=>(zff a0 a1).get
theorem zrm (a0:I64) (a1:I64):(zff a0 a1).opt=some (zac a0 a1):=Tr.zX (by kernel_rfl)
def zse:Ent Tryz.prog:= .of2 zPH B175 (fun _ _=>true) zac fun a0 a1 _=>(zrG a0 a1).trans (zrm a0 a1)
def B105:Bod Tryz.prog:=⟨105,Tryz.f105,Tryz.f105.body.getD .skip,Tryz.func105,by kernel_rfl,by kernel_rfl,zar.no _ _⟩
def zQi:Tb Tryz.prog:= {T:= [Y2,Y32],mix:=mix,Es:= [zju,zah,zbl,zrf,zse],Bs:= [],d:=1}
def zh1 (a0:Iv) (a1:Iv):Tr (Iv):=
 .br (!(zaU a0 a1)) (.leaf zD) (.br (zfz a0 ⟨0,rfl⟩) (.br (zfz a1 ⟨0,rfl⟩) (.leaf zD) (.br (decide (a1.lo.val<0)) (.br (decide (a0.lo.val<0)) (.br (decide (a0.hi.val>=0)) (.leaf zD) (.leaf (zaG (zaG (zac a0.lo a1.lo) (zac a0.lo a1.hi)) (zaG (zac a0.hi a1.lo) (zac a0.hi a1.hi))))) (.leaf (zaG (zaG (zac a0.lo a1.lo) (zac a0.lo a1.hi)) (zaG (zac a0.hi a1.lo) (zac a0.hi a1.hi))))) (.leaf (zaG (zaG (zac a0.lo a1.lo) (zac a0.lo a1.hi)) (zaG (zac a0.hi a1.lo) (zac a0.hi a1.hi)))))) (.br (decide (a1.lo.val<0)) (.br (decide (a0.lo.val<0)) (.br (decide (a0.hi.val>=0)) (.leaf zD) (.leaf (zaG (zaG (zac a0.lo a1.lo) (zac a0.lo a1.hi)) (zaG (zac a0.hi a1.lo) (zac a0.hi a1.hi))))) (.leaf (zaG (zaG (zac a0.lo a1.lo) (zac a0.lo a1.hi)) (zaG (zac a0.hi a1.lo) (zac a0.hi a1.hi))))) (.leaf (zaG (zaG (zac a0.lo a1.lo) (zac a0.lo a1.hi)) (zaG (zac a0.hi a1.lo) (zac a0.hi a1.hi))))))
theorem zsF (a0:Iv) (a1:Iv):zQi.run B105 [enc a0,enc a1] (Iv)=(zh1 a0 a1).opt:=by kernel_rfl
def zeG:Iv->Iv->Iv:=fun a0 a1=>(zh1 a0 a1).get
theorem zsp (a0:Iv) (a1:Iv):(zh1 a0 a1).opt=some (zeG a0 a1):=Tr.zX (by kernel_rfl)
def zti:Ent Tryz.prog:= .of2 zQi B105 (fun _ _=>true) zeG fun a0 a1 _=>(zsF a0 a1).trans (zsp a0 a1)
def B21:Bod Tryz.prog:=⟨21,Tryz.f21,Tryz.f21.body.getD .skip,Tryz.func21,by kernel_rfl,by kernel_rfl,zar.no _ _⟩
def Tb21:Tb Tryz.prog:= {T:= [Y2,Y32],mix:=mix,Es:= [zjq],Bs:= [],d:=1}
def zm3 (a0:Iv) (a1:Iv):Tr (I64):=
 .br (!(za a0)) (.leaf ⟨2,rfl⟩) (.br (!(za a1)) (.leaf ⟨2,rfl⟩) (.br (decide (a0.hi.val<a1.lo.val)) (.leaf ⟨1,rfl⟩) (.br (decide (a0.lo.val>=a1.hi.val)) (.leaf ⟨0,rfl⟩) (.leaf ⟨2,rfl⟩))))
theorem zA1 (a0:Iv) (a1:Iv):Tb21.run B21 [enc a0,enc a1] (I64)=(zm3 a0 a1).opt:=by kernel_rfl
def zgd:Iv->Iv->I64:=fun a0 a1=>(zm3 a0 a1).get
theorem zAs (a0:Iv) (a1:Iv):(zm3 a0 a1).opt=some (zgd a0 a1):=Tr.zX (by kernel_rfl)
def zBY:Ent Tryz.prog:= .of2 Tb21 B21 (fun _ _=>true) zgd fun a0 a1 _=>(zA1 a0 a1).trans (zAs a0 a1)
def zm0 (a0:I64):Tr (Iv):=
 .leaf (zU a0 a0)
def zbk:I64->Iv:=fun a0=>(zm0 a0).get
def zrs:Tr (Iv):=
 .leaf (zbk ⟨4294967296,rfl⟩)
def zaw:Iv:=(zrs).get
def zmk (a0:Iv) (a1:I64):Tr (Iv):=
 .br (!(za a0)) (.leaf zh) (.leaf (zU (Rng.w .i64 (a0.lo.val-a1.val)) (Rng.w .i64 (a0.hi.val+a1.val))))
def zcL:Iv->I64->Iv:=fun a0 a1=>(zmk a0 a1).get
structure zfw where
 x0:I64
 x1:I64
 x2:I64
 x3:I64
 x4:I64
 x5:I64
instance:Inhabited zfw:=⟨⟨default,default,default,default,default,default⟩⟩
def zGK:St->Option zfw:=fun s=>match s with
 | ⟨[(0,.i64 x0),(2,.ptr 0 0),(3,.i64 x1),(4,.ptr 1 0)],79,⟨[(0,[.i64 x2,.i64 x3]),(1,[.i64 x4,.i64 x5])],2,0⟩⟩=>some ⟨x0,x1,x2,x3,x4,x5⟩
 | _=>none
def zgN (x:zfw):Tr (Lp zfw):=
 .br (decide (x.x4.val>=6442450944)) (let c4:=(Rng.w .i64 (x.x1.val+1));.leaf (.again ⟨x.x0,c4,x.x2,x.x3,(Rng.w .i64 (x.x0.val.fdiv (2^min ((Rng.w .u64 (c4.val)).val).toNat 64))),(Rng.w .i64 (0-(Rng.w .i64 ((Rng.w .i64 (0-x.x0.val)).val.fdiv (2^min ((Rng.w .u64 (c4.val)).val).toNat 64))).val))⟩)) (.leaf (.out ⟨x.x0,x.x1,x.x2,x.x3,x.x4,x.x5⟩))
def znI (x:zfw):Bool:=(Lf zgN 70 x).opt.isSome
def zqD (x:zfw):zfw:=(Lf zgN 70 x).get
structure zgO where
 x0:I64
 x1:I64
 x2:I64
 x3:I64
 x4:I64
 x5:I64
instance:Inhabited zgO:=⟨⟨default,default,default,default,default,default⟩⟩
def zep (x:zgO):Tr (Lp zgO):=
 .br (decide (x.x4.val<3221225472)) (let c11:=(Rng.w .i64 (x.x1.val-1));.leaf (.again ⟨x.x0,c11,x.x2,x.x3,(Rng.w .i64 (x.x0.val*(2^min ((Rng.w .u64 ((Rng.w .i64 (0-c11.val)).val)).val).toNat 64))),(Rng.w .i64 (x.x0.val*(2^min ((Rng.w .u64 ((Rng.w .i64 (0-c11.val)).val)).val).toNat 64)))⟩)) (.leaf (.out ⟨x.x0,x.x1,x.x2,x.x3,x.x4,x.x5⟩))
def ziJ (x:zgO):Bool:=(Lf zep 70 x).opt.isSome
def znG (x:zgO):zgO:=(Lf zep 70 x).get
def zjg (a0:I64):Tr (Iv):=
 .br (!(zaf a0 ⟨1,rfl⟩ ⟨1152921504606846976,rfl⟩)) (.leaf zh) (.br (znI ⟨a0,⟨0,rfl⟩,⟨0,rfl⟩,⟨0,rfl⟩,a0,a0⟩) (let c9:=zqD ⟨a0,⟨0,rfl⟩,⟨0,rfl⟩,⟨0,rfl⟩,a0,a0⟩;.br (ziJ ⟨c9.x0,c9.x1,c9.x2,c9.x3,c9.x4,c9.x5⟩) (let c16:=znG ⟨c9.x0,c9.x1,c9.x2,c9.x3,c9.x4,c9.x5⟩;let c21:=zo (zG ⟨c16.x4,c16.x5⟩ zaw) (zq ⟨c16.x4,c16.x5⟩ zaw);let c22:=zay c21;.leaf (zq (za0 c16.x1) (zcL (zk (zk (zf ⟨2,rfl⟩) c21) (zq (zQ ⟨1,rfl⟩ ⟨1,rfl⟩) (zk c22 (zq (zQ ⟨1,rfl⟩ ⟨3,rfl⟩) (zk c22 (zq (zQ ⟨1,rfl⟩ ⟨5,rfl⟩) (zk c22 (zq (zQ ⟨1,rfl⟩ ⟨7,rfl⟩) (zk c22 (zq (zQ ⟨1,rfl⟩ ⟨9,rfl⟩) (zk c22 (zQ ⟨1,rfl⟩ ⟨11,rfl⟩)))))))))))) ⟨1,rfl⟩))) (.bad)) (.bad))
def zls:I64->Iv:=fun a0=>(zjg a0).get
structure zdR where
 x0:I64
 x1:I64
instance:Inhabited zdR:=⟨⟨default,default⟩⟩
def zoV (x:zdR):St:=⟨[(0,.i64 x.x0),(3,.i64 x.x1)],22,⟨[],0,0⟩⟩
def zoY:St->Option zdR:=fun s=>match s with
 | ⟨[(0,.i64 x0),(3,.i64 x1)],22,⟨[],0,0⟩⟩=>some ⟨x0,x1⟩
 | _=>none
def zeN (x:zdR):Tr (Lp zdR):=
 .br (decide (x.x1.val<0)) (.bad) (.br (decide ((Rng.w .i64 (x.x0.val.fdiv (2^min (x.x1.val).toNat 64))).val>=6442450944)) (.leaf (.again ⟨x.x0,(Rng.w .i64 (x.x1.val+1))⟩)) (.leaf (.out ⟨x.x0,x.x1⟩)))
def zjZ (x:zdR):Bool:=(Lf zeN 70 x).opt.isSome
def zmK (x:zdR):zdR:=(Lf zeN 70 x).get
def zs5:Tb Tryz.prog:= {T:= [],mix:=mix,Es:= [],Bs:= [],d:=1}
def zmH:LpF:=zvO [0,3] [] 0 zoY zoV (.exit 0) zjZ zmK
theorem zsR:zkp Tryz.prog (zo2 (Tryz.f327.body.getD .skip) 0) zmH:=zl4 (t:=zs5) (lt:=fun _=>none) (body:=zeN) (n:=70) (by intro h;cases h) (fun _ _ _ h=>by cases h)
 (by intro s x h;unfold zoY at h;split at h<;>cases h;rfl) (fun x b cs h=>zvP (l:=(zoV x).mm.blks) (by kernel_rfl) h) (by intro x;kernel_rfl) (fun x h=>Tr.get_some h)
structure zdQ where
 x0:I64
 x1:I64
instance:Inhabited zdQ:=⟨⟨default,default⟩⟩
def zoU (x:zdQ):St:=⟨[(0,.i64 x.x0),(3,.i64 x.x1)],22,⟨[],0,0⟩⟩
def zoX:St->Option zdQ:=fun s=>match s with
 | ⟨[(0,.i64 x0),(3,.i64 x1)],22,⟨[],0,0⟩⟩=>some ⟨x0,x1⟩
 | _=>none
def zdh (x:zdQ):Tr (Lp zdQ):=
 .br (decide (x.x1.val<=0)) (let c5:=(Rng.w .i64 (0-x.x1.val));.br (decide (c5.val<0)) (.bad) (.br (decide ((Rng.w .i64 (x.x0.val*(2^min (c5.val).toNat 64))).val<3221225472)) (.leaf (.again ⟨x.x0,(Rng.w .i64 (x.x1.val-1))⟩)) (.leaf (.out ⟨x.x0,x.x1⟩)))) (.leaf (.out ⟨x.x0,x.x1⟩))
def zfV (x:zdQ):Bool:=(Lf zdh 70 x).opt.isSome
def zjV (x:zdQ):zdQ:=(Lf zdh 70 x).get
def zs4:Tb Tryz.prog:= {T:= [],mix:=mix,Es:= [],Bs:= [],d:=1}
def zmG:LpF:=zvO [0,3] [] 0 zoX zoU (.exit 2) zfV zjV
theorem zsQ:zkp Tryz.prog (zo2 (Tryz.f327.body.getD .skip) 1) zmG:=zl4 (t:=zs4) (lt:=fun _=>none) (body:=zdh) (n:=70) (by intro h;cases h) (fun _ _ _ h=>by cases h)
 (by intro s x h;unfold zoX at h;split at h<;>cases h;rfl) (fun x b cs h=>zvP (l:=(zoU x).mm.blks) (by kernel_rfl) h) (by intro x;kernel_rfl) (fun x h=>Tr.get_some h)
def B327:Bod Tryz.prog:=⟨327,Tryz.f327,Tryz.f327.body.getD .skip,Tryz.func327,by kernel_rfl,by kernel_rfl,⟨ltOf [(2,zmH),(4,zmG)],zar.of (ks:= [2,4]) (by kernel_rfl) (by
 intro i k h f hf
 match i,h with
 | 0,h=>cases h;obtain rfl:zmH=f:=Option.some.inj hf;exact zsR
 | 1,h=>cases h;obtain rfl:zmG=f:=Option.some.inj hf;exact zsQ
 | n+2,h=>simp at h)⟩⟩
def zOp:Tb Tryz.prog:= {T:= [],mix:=mix,Es:= [],Bs:= [],d:=1}
def zgh (a0:I64):Tr (I64):=
 .br (zjZ ⟨a0,⟨0,rfl⟩⟩) (let c4:=zmK ⟨a0,⟨0,rfl⟩⟩;.br (zfV ⟨c4.x0,c4.x1⟩) (.leaf (zjV ⟨c4.x0,c4.x1⟩).x1) (.bad)) (.bad)
theorem zzi (a0:I64):zOp.run B327 [enc a0] (I64)=(zgh a0).opt:=by kernel_rfl
def zmc:I64->I64:=fun a0=>(zgh a0).get
def zic:I64->Bool:=fun a0=>(zgh a0).opt.isSome
def zz7:Ent Tryz.prog:= .of1 zOp B327 zic zmc fun a0 h=>(zzi a0).trans (Tr.get_some h)
def B304:Bod Tryz.prog:=⟨304,Tryz.f304,Tryz.f304.body.getD .skip,Tryz.func304,by kernel_rfl,by kernel_rfl,zar.no _ _⟩
def zOB:Tb Tryz.prog:= {T:= [Y2,Y32],mix:=mix,Es:= [zbB,zeh],Bs:= [],d:=1}
def zkS (a0:Iv) (a1:I64):Tr (Iv):=
 .leaf (zaN (Rng.w .i64 (a0.lo.val-a1.val)) (Rng.w .i64 (a0.hi.val+a1.val)) (zbL a0))
theorem zw9 (a0:Iv) (a1:I64):zOB.run B304 [enc a0,enc a1] (Iv)=(zkS a0 a1).opt:=by kernel_rfl
def zet:Iv->I64->Iv:=fun a0 a1=>(zkS a0 a1).get
theorem zwL (a0:Iv) (a1:I64):(zkS a0 a1).opt=some (zet a0 a1):=Tr.zX (by kernel_rfl)
def zqF:Ent Tryz.prog:= .of2 zOB B304 (fun _ _=>true) zet fun a0 a1 _=>(zw9 a0 a1).trans (zwL a0 a1)
def B308:Bod Tryz.prog:=⟨308,Tryz.f308,Tryz.f308.body.getD .skip,Tryz.func308,by kernel_rfl,by kernel_rfl,zar.no _ _⟩
def zOy:Tb Tryz.prog:= {T:= [Y2,Y32],mix:=mix,Es:= [zbi,zck,zcj,zbW,zcZ,zcU,zey,zah,zf6,zd0,zmU,zqF,zz7],Bs:= [],d:=1}
def zf9 (a0:I64):Tr (Iv):=
 .br (!(za2 a0)) (.leaf zD) (.br (decide (a0.val<=0)) (.leaf zD) (.br (zic a0) (let c4:=zmc a0;.br (decide (c4.val>0)) (.br (decide (c4.val<0)) (.bad) (let c6:=(Rng.w .i64 (a0.val.fdiv (2^min (c4.val).toNat 64)));.br (decide (c4.val<0)) (.bad) (let c9:=(Rng.w .i64 (0-(Rng.w .i64 ((Rng.w .i64 (0-a0.val)).val.fdiv (2^min (c4.val).toNat 64))).val));let c14:=zad (zaz ⟨c6,c9⟩ (zw ⟨1,rfl⟩)) (zR ⟨c6,c9⟩ (zw ⟨1,rfl⟩));let c15:=zcX c14;.leaf (zR (zex c4) (zet (zF (zF (zw ⟨2,rfl⟩) c14) (zR (zaa ⟨1,rfl⟩ ⟨1,rfl⟩) (zF c15 (zR (zaa ⟨1,rfl⟩ ⟨3,rfl⟩) (zF c15 (zR (zaa ⟨1,rfl⟩ ⟨5,rfl⟩) (zF c15 (zR (zaa ⟨1,rfl⟩ ⟨7,rfl⟩) (zF c15 (zR (zaa ⟨1,rfl⟩ ⟨9,rfl⟩) (zF c15 (zaa ⟨1,rfl⟩ ⟨11,rfl⟩)))))))))))) ⟨1,rfl⟩))))) (let c38:=(Rng.w .i64 (0-c4.val));.br (decide (c38.val<0)) (.bad) (let c40:=zbo (Rng.w .i64 (a0.val*(2^min (c38.val).toNat 64)));let c45:=zad (zaz c40 (zw ⟨1,rfl⟩)) (zR c40 (zw ⟨1,rfl⟩));let c46:=zcX c45;.leaf (zR (zex c4) (zet (zF (zF (zw ⟨2,rfl⟩) c45) (zR (zaa ⟨1,rfl⟩ ⟨1,rfl⟩) (zF c46 (zR (zaa ⟨1,rfl⟩ ⟨3,rfl⟩) (zF c46 (zR (zaa ⟨1,rfl⟩ ⟨5,rfl⟩) (zF c46 (zR (zaa ⟨1,rfl⟩ ⟨7,rfl⟩) (zF c46 (zR (zaa ⟨1,rfl⟩ ⟨9,rfl⟩) (zF c46 (zaa ⟨1,rfl⟩ ⟨11,rfl⟩)))))))))))) ⟨1,rfl⟩))))) (.bad)))
theorem zBc (a0:I64):zOy.run B308 [enc a0] (Iv)=(zf9 a0).opt:=by kernel_rfl
def zjn:I64->Iv:=fun a0=>(zf9 a0).get
end
end Go.Proofs.YtaoakfodkoifoaaGreat.Ev
namespace Go.Proofs.YtaoakfodkoifoaaGreat.Ev
open Go
theorem ctr {α:Type} (a b:α):(bif true then a else b)=a:=by simp
theorem cfl {α:Type} (a b:α):(bif false then a else b)=b:=by simp
theorem zAN (a:Iv):zgR a= !(za a):=by simp only [zgR,zqw,Tr.get]
theorem zMt (a:Iv) (n:I64):zfz a n=zkG a n:=by
 simp only [zfz,zmr,zkG,zqO,zaO,zcc,Tr.get,ziH,zbN,zdp]
theorem zF3 (a:Iv):zdb a=bif zab a then zcv else zaG (zgs a.lo) (zgs a.hi):=by
 simp only [zdb,zng,Tr.get]
theorem zsZ (a:Iv):zak a=bif zgR a then zbt else zN (zcR a.lo) (zcR a.hi):=by
 simp only [zak,ztr,Tr.get]
theorem zux (a:Iv):zdb a=zak a:=by
 rw [zF3,zsZ,ziH,zAN,zzM,zIx,zIx,zlC]
theorem zEU (y x:I64):zac y x=zS y x:=by
 simp only [zac,zff,zS,zm4,Tr.get]
 simp only [fix_eq,zux,zjQ,at_eq,sub_eq,add_eq,ziP,za1,zbU]
 cases hy:zbK y
 ·rfl
 cases hx:zbK x
 ·rfl
 have by':=(zq3 y).1 hy
 have bx:=(zq3 x).1 hx
 have ey:(Rng.w .i64 (0-y.val)).val= -y.val:=by rw [wi (by omega) (by omega)];omega
 have ex:(Rng.w .i64 (0-x.val)).val= -x.val:=by rw [wi (by omega) (by omega)];omega
 have ay:=zz2 y (by omega)
 have ax:=zz2 x (by omega)
 simp only [Bool.not_true,cond_false,ey,ex]
 by_cases hn:y.val<0
 ·have hA:decide ((zbX y).val>(zbX x).val)=(decide (-y.val>x.val)&&decide (-y.val > -x.val)):=by
   rw [ay,ax,if_pos hn,<- Bool.decide_and,decide_eq_decide]
   split<;>omega
  simp only [hn,decide_true,cond_true,hA]
  generalize decide (-y.val>x.val)=b1
  generalize decide (-y.val > -x.val)=b2
  generalize decide (x.val>0)=b3
  generalize (x.val==0)=b4
  generalize (y.val==0)=b5
  cases b1<;>cases b2<;>cases b3<;>cases b4<;>cases b5<;>simp only [ctr,cfl,Bool.and_self,Bool.and_false,Bool.and_true,Bool.false_and,Bool.true_and]
 ·have hA:decide ((zbX y).val>(zbX x).val)=(decide (y.val>x.val)&&decide (y.val > -x.val)):=by
   rw [ay,ax,if_neg hn,<- Bool.decide_and,decide_eq_decide]
   split<;>omega
  simp only [hn,decide_false,cond_false,hA]
  generalize decide (y.val>x.val)=b1
  generalize decide (y.val > -x.val)=b2
  generalize decide (x.val>0)=b3
  generalize (x.val==0)=b4
  generalize (y.val==0)=b5
  cases b1<;>cases b2<;>cases b3<;>cases b4<;>cases b5<;>simp only [ctr,cfl,Bool.and_self,Bool.and_false,Bool.and_true,Bool.false_and,Bool.true_and]
theorem zMH (y x:Iv):zeG y x=zcu y x:=by
 simp only [zeG,zh1,zcu,zkt,Tr.get]
 simp only [zjS,zAN,zMt,zEU,zlC,za1,zbU]
 cases za y<;>cases za x<;>simp only [ctr,cfl,Bool.and_self,Bool.and_false,Bool.and_true,Bool.false_and,Bool.true_and,Bool.not_true,Bool.not_false]
theorem zKt {a:Iv} (h:za a=true):zcY a=⟨(zK a).a,(zK a).b⟩:=by
 simp only [zcY,zku,zK,zen,Tr.get,ziH,h,Bool.not_true,cond_false,has_eq a _ h,max_eq,min_eq,zbX,zmf]
 cases zaO a ⟨0,rfl⟩<;>rfl
theorem zKs {a:Iv} (h:za a=true):zcC a=⟨(zK a).a,(zK a).b⟩:=by
 simp only [zcC,zi8,Tr.get,h,Bool.not_true,cond_false]
 obtain ⟨p,q,e,h1,h2,h3⟩:=zl5 h
 have:=(zaB a).1 h
 rw [e]
 exact zbq (by simp only;omega)
theorem abs_eq (a:Iv):zcY a=zcC a:=by
 cases h:za a
 ·simp only [zcY,zku,zcC,zi8,Tr.get,ziH,h,Bool.not_false,cond_true,za1]
 ·rw [zKt h,zKs h]
end Go.Proofs.YtaoakfodkoifoaaGreat.Ev
namespace Go.Proofs.YtaoakfodkoifoaaGreat.Ev
open Go
def shr (n e:I64):I64:= .w .i64 (n.val.fdiv (2^min e.val.toNat 64))
def shl (n e:I64):I64:= .w .i64 (n.val*(2^min e.val.toNat 64))
theorem zrO {n e:I64} (h:0<=e.val) (h':e.val<=40):(shr n e).val=n.val/2^e.val.toNat:=by
 unfold shr
 rw [Nat.min_eq_left (by omega),zMv]
 have hp:(0:Int)<2^e.val.toNat:=Int.pow_pos (by decide)
 have:=zEO hp n.bd
 exact wi this.1 this.2
theorem zKN (n:I64) (hn:1<=n.val/\n.val<=1152921504606846976) (x2 x3:I64):∀(j:Nat) (m:Nat) (e:I64),e.val=32-(j:Int)->j<=32->
  ∃E:I64,e.val<=E.val/\E.val<=32/\(Lf zgN (j+1+m) ⟨n,e,x2,x3,shr n e,.w .i64 (0-(shr (.w .i64 (0-n.val)) e).val)⟩).opt=some ⟨n,E,x2,x3,shr n E,.w .i64 (0-(shr (.w .i64 (0-n.val)) E).val)⟩ /\
   (Lf zeN (j+1+m) ⟨n,e⟩).opt=some ⟨n,E⟩/\(shr n E).val<6442450944/\(E=e\/3221225472<=(shr n E).val):=by
 intro j
 induction j with
 | zero=>
  intro m e he _
  have hv:=zrO (n:=n) (e:=e) (by omega) (by omega)
  have hp:(2:Int)^e.val.toNat=4294967296:=by rw [show e.val.toNat=32 by omega];rfl
  have hlt:¬(shr n e).val>=6442450944:=by rw [hv,hp];omega
  have hlt':¬(Rng.w .i64 (n.val.fdiv (2^min e.val.toNat 64))).val>=6442450944:=hlt
  have hneg:decide (e.val<0)=false:=by simp;omega
  refine ⟨e,by omega,by omega,?_,?_,by omega,.inl rfl⟩
  ·simp only [Lf,zgN,hlt,decide_false,Tr.bind,Tr.opt,cond_false,Nat.zero_add,Nat.add_comm 1 m]
  ·simp only [Lf,zeN,hneg,hlt',decide_false,Tr.bind,Tr.opt,cond_false,Nat.zero_add,Nat.add_comm 1 m]
 | succ j ih=>
  intro m e he hj
  have hv:=zrO (n:=n) (e:=e) (by omega) (by omega)
  have hneg:decide (e.val<0)=false:=by simp;omega
  have ev:(Rng.w .i64 (e.val+1)).val=e.val+1:=wi (by omega) (by omega)
  have hfuel:j+1+1+m=(j+1+m)+1:=by omega
  by_cases hc:(shr n e).val>=6442450944
  ·have hc':(Rng.w .i64 (n.val.fdiv (2^min e.val.toNat 64))).val>=6442450944:=hc
   obtain ⟨E,h1,h2,h3,h4,h5,h6⟩:=ih m (.w .i64 (e.val+1)) (by rw [ev];omega) (by omega)
   have en:(Rng.w .u64 (Rng.w .i64 (e.val+1)).val).val=(Rng.w .i64 (e.val+1)).val:=by rw [ev];exact wu (by omega) (by omega)
   refine ⟨E,by omega,h2,?_,?_,h5,.inr ?_⟩
   ·rw [hfuel]
    simp only [Lf,zgN,hc,decide_true,Tr.bind,Tr.opt,cond_true,en]
    exact h3
   ·rw [hfuel]
    simp only [Lf,zeN,hneg,hc',decide_true,Tr.bind,Tr.opt,cond_true,cond_false]
    exact h4
   ·rcases h6 with h6|h6
    ·have hv2:=zrO (n:=n) (e:= .w .i64 (e.val+1)) (by rw [ev];omega) (by rw [ev];omega)
     rw [h6,hv2,ev,show (e.val+1).toNat=e.val.toNat+1 by omega,Int.pow_succ,<- Int.ediv_ediv_of_nonneg (Int.pow_nonneg (by decide)),<- hv]
     omega
    ·exact h6
  ·have hc':¬(Rng.w .i64 (n.val.fdiv (2^min e.val.toNat 64))).val>=6442450944:=hc
   refine ⟨e,by omega,by omega,?_,?_,by omega,.inl rfl⟩
   ·rw [hfuel]
    simp only [Lf,zgN,hc,decide_false,Tr.bind,Tr.opt,cond_false]
   ·rw [hfuel]
    simp only [Lf,zeN,hneg,hc',decide_false,Tr.bind,Tr.opt,cond_false]
def sl (n e:I64):I64:=shl n (.w .i64 (0-e.val))
theorem zNM (n:I64) (hn:1<=n.val) (x2 x3:I64):∀(j:Nat) (m:Nat) (e:I64),e.val=(j:Int)-32->j<=32->n.val*2^(32-j)<6442450944->
  ∃E:I64,E.val<=e.val /\ -32<=E.val/\(Lf zep (j+1+m) ⟨n,e,x2,x3,sl n e,sl n e⟩).opt=some ⟨n,E,x2,x3,sl n E,sl n E⟩ /\
   (Lf zdh (j+1+m) ⟨n,e⟩).opt=some ⟨n,E⟩/\3221225472<=(sl n E).val/\(sl n E).val<6442450944/\∃k:Nat,E.val= -(k:Int)/\(sl n E).val=n.val*2^k:=by
 have slv:∀(k:Nat) (e:I64),e.val= -(k:Int)->k<=32->n.val*2^k<6442450944->(sl n e).val=n.val*2^k:=fun k e he hk hlt=>by
  have e1:(Rng.w .i64 (0-e.val)).val=(k:Int):=by rw [wi (by omega) (by omega)];omega
  have hnn:0<=n.val*2^k:=Int.mul_nonneg (by omega) (Int.pow_nonneg (by decide))
  unfold sl shl
  rw [e1,Int.toNat_natCast,Nat.min_eq_left (by omega)]
  exact wi (by omega) (by omega)
 intro j
 induction j with
 | zero=>
  intro m e he _ hb
  have hv:=slv 32 e (by omega) (by omega) hb
  have hp:(2:Int)^32=4294967296:=rfl
  have hge:¬(sl n e).val<3221225472:=by rw [hv,hp];omega
  have hge':¬(Rng.w .i64 (n.val*(2^min (Rng.w .i64 (0-e.val)).val.toNat 64))).val<3221225472:=hge
  have e1:(Rng.w .i64 (0-e.val)).val=0-e.val:=wi (by omega) (by omega)
  have hneg:decide ((Rng.w .i64 (0-e.val)).val<0)=false:=by rw [e1];simp;omega
  have hle:decide (e.val<=0)=true:=by simp;omega
  refine ⟨e,by omega,by omega,?_,?_,by omega,by omega,32,by omega,hv⟩
  ·simp only [Lf,zep,hge,decide_false,Tr.bind,Tr.opt,cond_false,Nat.zero_add,Nat.add_comm 1 m]
  ·simp only [Lf,zdh,hle,hneg,hge',decide_false,Tr.bind,Tr.opt,cond_true,cond_false,Nat.zero_add,Nat.add_comm 1 m]
 | succ j ih=>
  intro m e he hj hb
  have hk:32-(j+1)+1=32-j:=by omega
  have hv:=slv (32-(j+1)) e (by omega) (by omega) hb
  have e1:(Rng.w .i64 (0-e.val)).val=0-e.val:=wi (by omega) (by omega)
  have hneg:decide ((Rng.w .i64 (0-e.val)).val<0)=false:=by rw [e1];simp;omega
  have hle:decide (e.val<=0)=true:=by simp;omega
  have ev:(Rng.w .i64 (e.val-1)).val=e.val-1:=wi (by omega) (by omega)
  have hfuel:j+1+1+m=(j+1+m)+1:=by omega
  by_cases hc:(sl n e).val<3221225472
  ·have hc':(Rng.w .i64 (n.val*(2^min (Rng.w .i64 (0-e.val)).val.toNat 64))).val<3221225472:=hc
   have e2:(Rng.w .i64 (0-(Rng.w .i64 (e.val-1)).val)).val=0-(e.val-1):=by rw [ev];exact wi (by omega) (by omega)
   have en:(Rng.w .u64 (Rng.w .i64 (0-(Rng.w .i64 (e.val-1)).val)).val).val=(Rng.w .i64 (0-(Rng.w .i64 (e.val-1)).val)).val:=by rw [e2];exact wu (by omega) (by omega)
   obtain ⟨E,h1,h2,h3,h4,h5⟩:=ih m (.w .i64 (e.val-1)) (by rw [ev];omega) (by omega) (by rw [<- hk,Int.pow_succ,<- Int.mul_assoc,<- hv];omega)
   refine ⟨E,by omega,h2,?_,?_,h5⟩
   ·rw [hfuel]
    simp only [Lf,zep,hc,decide_true,Tr.bind,Tr.opt,cond_true,en]
    exact h3
   ·rw [hfuel]
    simp only [Lf,zdh,hle,hneg,hc',decide_true,Tr.bind,Tr.opt,cond_true,cond_false]
    exact h4
  ·have hc':¬(Rng.w .i64 (n.val*(2^min (Rng.w .i64 (0-e.val)).val.toNat 64))).val<3221225472:=hc
   refine ⟨e,by omega,by omega,?_,?_,by omega,by rw [hv];exact hb,32-(j+1),by omega,hv⟩
   ·rw [hfuel]
    simp only [Lf,zep,hc,decide_false,Tr.bind,Tr.opt,cond_false]
   ·rw [hfuel]
    simp only [Lf,zdh,hle,hneg,hc',decide_false,Tr.bind,Tr.opt,cond_true,cond_false]
def zq2 (m:Iv) (e:I64):Iv:=
 let z:=zo (zG m zaw) (zq m zaw)
 let q:=zay z
 zq (za0 e) (zcL (zk (zk (zf ⟨2,rfl⟩) z) (zq (zQ ⟨1,rfl⟩ ⟨1,rfl⟩) (zk q (zq (zQ ⟨1,rfl⟩ ⟨3,rfl⟩) (zk q (zq (zQ ⟨1,rfl⟩ ⟨5,rfl⟩) (zk q (zq (zQ ⟨1,rfl⟩ ⟨7,rfl⟩) (zk q (zq (zQ ⟨1,rfl⟩ ⟨9,rfl⟩) (zk q (zQ ⟨1,rfl⟩ ⟨11,rfl⟩)))))))))))) ⟨1,rfl⟩)
theorem zvy:zf ⟨1,rfl⟩=zaw:=by
 rw [zjP (by decide)]
 simp only [zaw,zrs,zbk,zm0,Tr.get]
 exact (zbq (by decide)).symm
theorem zyx (a:Iv) (n:I64):zet a n=zcL a n:=by
 simp only [zet,zkS,zcL,zmk,Tr.get,zc2,valid_eq]
 cases za a<;>simp [ctr,cfl]
theorem ediv_neg {a p:Int} (hp:0<p) (ha:a<=0):a<=a/p/\a/p<=0:=by
 constructor
 ·rw [Int.le_ediv_iff_mul_le hp]
  have h:=Int.mul_nonneg (show 0 <= -a by omega) (show 0<=p-1 by omega)
  rw [Int.neg_mul,Int.mul_sub] at h
  omega
 ·have:a/p<1:=(Int.ediv_lt_iff_lt_mul hp).2 (by omega)
  omega
def LogM (n:I64) (m:Iv) (E:I64):Prop:=
 ∃k:Nat,k<=32/\((E.val=(k:Int)/\m.lo.val=n.val/2^k/\m.hi.val= -(-n.val/2^k))\/(E.val= -(k:Int)/\m.lo=m.hi/\m.lo.val=n.val*2^k))/\3221225472<=m.lo.val/\m.lo.val<6442450944
theorem zHv (n:I64):∃y,(zjg n).opt=some y/\(zf9 n).opt=some y/\((1<=n.val/\n.val<=1152921504606846976/\∃m E,LogM n m E/\y=zq2 m E)\/(¬(1<=n.val/\n.val<=1152921504606846976)/\y=zh)):=by
 by_cases hn:1<=n.val/\n.val<=1152921504606846976
 ·have hi:zaf n ⟨1,rfl⟩ ⟨1152921504606846976,rfl⟩=true:=by rw [zdp];simpa using hn
  have hv:za2 n=true:=by rw [znp];exact ok3 (by omega)
  have hp:decide (n.val<=0)=false:=by simp;omega
  obtain ⟨E,a1,a2,a3,a4,a5,a6⟩:=zKN n hn ⟨0,rfl⟩ ⟨0,rfl⟩ 32 37 ⟨0,rfl⟩ rfl (by decide)
  have z1:shr n ⟨0,rfl⟩=n:=by
   unfold shr
   show Rng.w .i64 (n.val.fdiv (2^0))=n
   rw [show (2:Int)^0=1 by rfl,Int.fdiv_one];exact Rng.w_val _
  have z2:Rng.w .i64 (0-(shr (.w .i64 (0-n.val)) ⟨0,rfl⟩).val)=n:=by
   have:shr (.w .i64 (0-n.val)) ⟨0,rfl⟩= .w .i64 (0-n.val):=by
    unfold shr
    show Rng.w .i64 ((Rng.w .i64 (0-n.val)).val.fdiv (2^0))=_
    rw [show (2:Int)^0=1 by rfl,Int.fdiv_one];exact Rng.w_val _
   rw [this]
   exact rext (by rw [wi (n:=0-n.val) (by omega) (by omega),wi (by omega) (by omega)];omega)
  have hf:(32+1+37:Nat)=70:=rfl
  rw [hf,z1,z2] at a3
  rw [hf] at a4
  have g5:znI ⟨n,⟨0,rfl⟩,⟨0,rfl⟩,⟨0,rfl⟩,n,n⟩=true:=by unfold znI;rw [a3];rfl
  have l5:zqD ⟨n,⟨0,rfl⟩,⟨0,rfl⟩,⟨0,rfl⟩,n,n⟩=_:=Tr.zai a3
  have g2:zjZ ⟨n,⟨0,rfl⟩⟩=true:=by unfold zjZ;rw [a4];rfl
  have l2:zmK ⟨n,⟨0,rfl⟩⟩=_:=Tr.zai a4
  by_cases hE:E.val>0
  ·have hge:3221225472<=(shr n E).val:=by
    rcases a6 with h|h
    ·rw [h] at hE;exact absurd hE (by decide)
    ·exact h
   have hd:decide ((shr n E).val<3221225472)=false:=by simp;omega
   have hd2:decide (E.val<=0)=false:=by simp;omega
   have b3':∀k,(Lf zep (k+1) ⟨n,E,⟨0,rfl⟩,⟨0,rfl⟩,shr n E,.w .i64 (0-(shr (.w .i64 (0-n.val)) E).val)⟩).opt=some ⟨n,E,⟨0,rfl⟩,⟨0,rfl⟩,shr n E,.w .i64 (0-(shr (.w .i64 (0-n.val)) E).val)⟩:=by
    intro k;simp only [Lf,zep,hd,Tr.bind,Tr.opt,cond_false]
   have b4':∀k,(Lf zdh (k+1) ⟨n,E⟩).opt=some ⟨n,E⟩:=by intro k;simp only [Lf,zdh,hd2,Tr.bind,Tr.opt,cond_false]
   have b3:=b3' 69
   have b4:=b4' 69
   have g8:ziJ ⟨n,E,⟨0,rfl⟩,⟨0,rfl⟩,shr n E,.w .i64 (0-(shr (.w .i64 (0-n.val)) E).val)⟩=true:=by unfold ziJ;rw [b3];rfl
   have l8:znG ⟨n,E,⟨0,rfl⟩,⟨0,rfl⟩,shr n E,.w .i64 (0-(shr (.w .i64 (0-n.val)) E).val)⟩=_:=Tr.zai b3
   have g4:zfV ⟨n,E⟩=true:=by unfold zfV;rw [b4];rfl
   have l4:zjV ⟨n,E⟩=_:=Tr.zai b4
   have tw:(zgh n).opt=some E:=by simp only [zgh,Tr.opt,g2,l2,g4,l4,cond_true]
   have gt:zic n=true:=by unfold zic;rw [tw];rfl
   have ft:zmc n=E:=Tr.zai tw
   have hpos:decide (E.val>0)=true:=by simpa using hE
   have hng:decide (E.val<0)=false:=by simp;omega
   have hb1:=zrO (n:=n) (e:=E) (by omega) (by omega)
   have hb2:=zrO (n:= .w .i64 (0-n.val)) (e:=E) (by omega) (by omega)
   rw [show (Rng.w .i64 (0-n.val)).val= -n.val from by rw [wi (by omega) (by omega)];omega] at hb2
   have hb3:=ediv_neg (a:= -n.val) (p:=2^E.val.toNat) (Int.pow_pos (by decide)) (by omega)
   refine ⟨zq2 ⟨shr n E,.w .i64 (0-(shr (.w .i64 (0-n.val)) E).val)⟩ E,?_,?_,.inl ⟨hn.1,hn.2,_,_,⟨E.val.toNat,by omega,.inl ⟨by omega,hb1,?_⟩,hge,a5⟩,rfl⟩⟩
   ·simp only [zjg,Tr.opt,hi,g5,l5,g8,l8,Bool.not_true,cond_false,cond_true,zq2]
   ·simp only [zf9,Tr.opt,hv,hp,gt,ft,hpos,hng,Bool.not_true,cond_false,cond_true,zjQ,sub_eq,add_eq,zbP,zvy,zpn,zjm,znB,zyx,zzF,zq2]
    rfl
   ·show (Rng.w .i64 (0-(shr (.w .i64 (0-n.val)) E).val)).val=_
    rw [hb2,wi (by omega) (by omega)];omega
  ·have hE0:E=⟨0,rfl⟩:=rext (by show E.val=0;have:(0:Int)<=E.val:=a1;omega)
   subst hE0
   rw [z1] at a5
   obtain ⟨E,b1,b2,b3,b4,b5,b6,k,b7,b8⟩:=zNM n hn.1 ⟨0,rfl⟩ ⟨0,rfl⟩ 32 37 ⟨0,rfl⟩ rfl (by decide) (by show n.val*2^0<_;rw [show (2:Int)^0=1 by rfl,Int.mul_one];exact a5)
   have z3:sl n ⟨0,rfl⟩=n:=by
    unfold sl shl
    show Rng.w .i64 (n.val*2^0)=n
    rw [show (2:Int)^0=1 by rfl,Int.mul_one];exact Rng.w_val _
   rw [hf,z3] at b3
   rw [hf] at b4
   rw [z1,z2] at l5
   have g8:ziJ ⟨n,⟨0,rfl⟩,⟨0,rfl⟩,⟨0,rfl⟩,n,n⟩=true:=by unfold ziJ;rw [b3];rfl
   have l8:znG ⟨n,⟨0,rfl⟩,⟨0,rfl⟩,⟨0,rfl⟩,n,n⟩=_:=Tr.zai b3
   have g4:zfV ⟨n,⟨0,rfl⟩⟩=true:=by unfold zfV;rw [b4];rfl
   have l4:zjV ⟨n,⟨0,rfl⟩⟩=_:=Tr.zai b4
   have tw:(zgh n).opt=some E:=by simp only [zgh,Tr.opt,g2,l2,g4,l4,cond_true]
   have gt:zic n=true:=by unfold zic;rw [tw];rfl
   have ft:zmc n=E:=Tr.zai tw
   have hb1:E.val<=0:=b1
   have hpos:decide (E.val>0)=false:=by simp;omega
   have e1:(Rng.w .i64 (0-E.val)).val=0-E.val:=wi (by omega) (by omega)
   have hng:decide ((Rng.w .i64 (0-E.val)).val<0)=false:=by rw [e1];simp;omega
   refine ⟨zq2 ⟨sl n E,sl n E⟩ E,?_,?_,.inl ⟨hn.1,hn.2,_,_,⟨k,by omega,.inr ⟨b7,rfl,b8⟩,b5,b6⟩,rfl⟩⟩
   ·simp only [zjg,Tr.opt,hi,g5,l5,g8,l8,Bool.not_true,cond_false,cond_true,zq2]
   ·simp only [zf9,Tr.opt,hv,hp,gt,ft,hpos,hng,Bool.not_true,cond_false,cond_true,zjQ,sub_eq,add_eq,zbP,zvy,zpn,zjm,znB,zyx,zzF,zq2]
    rfl
 ·have hi:zaf n ⟨1,rfl⟩ ⟨1152921504606846976,rfl⟩=false:=by rw [zdp];simpa using hn
  refine ⟨zh,by simp only [zjg,Tr.opt,hi,Bool.not_false,cond_true],?_,.inr ⟨hn,rfl⟩⟩
  simp only [zf9,Tr.opt,znp,za1]
  cases hv:zJ n
  ·simp only [Bool.not_false,cond_true]
  ·have:=zqY hv
   have hp:decide (n.val<=0)=true:=by simp;omega
   simp only [Bool.not_true,cond_false,hp,cond_true]
theorem zEv (n:I64):∃y,(zjg n).opt=some y/\(zf9 n).opt=some y:=by
 obtain ⟨y,h1,h2,_⟩:=zHv n;exact ⟨y,h1,h2⟩
theorem zyT (n:I64):(zf9 n).opt=some (zjn n):=by obtain ⟨x,_,h1⟩:=zEv n;exact zh4 h1
theorem zEw (n:I64):zjn n=zls n:=by
 obtain ⟨x,h1,h2⟩:=zEv n
 exact (Tr.zai h2).trans (Tr.zai h1).symm
end Go.Proofs.YtaoakfodkoifoaaGreat.Ev
namespace Go.Proofs.YtaoakfodkoifoaaGreat.Ev
open Go Go.RowKit
set_option maxRecDepth 100000
section
variable [Amb]
def zsf:Ent Tryz.prog:= .of1 zOy B308 (fun _=>true) zjn fun a0 _=>(zBc a0).trans (zyT a0)
def zjx (a0:Iv):Tr (T2 Iv I64):=
 .br (!(za a0)) (.leaf ⟨⟨⟨0,rfl⟩,⟨0,rfl⟩⟩,⟨9,rfl⟩⟩) (.leaf ⟨a0,⟨0,rfl⟩⟩)
def zbn:Iv->T2 Iv I64:=fun a0=>(zjx a0).get
def B56:Bod Tryz.prog:=⟨56,Tryz.f56,Tryz.f56.body.getD .skip,Tryz.func56,by kernel_rfl,by kernel_rfl,zar.no _ _⟩
def Tb56:Tb Tryz.prog:= {T:= [Y2,Y32],mix:=mix,Es:= [za6],Bs:= [],d:=1}
def zlS (a0:Iv):Tr (T2 Iv I64):=
 .br (zab a0) (.leaf ⟨⟨⟨0,rfl⟩,⟨0,rfl⟩⟩,⟨9,rfl⟩⟩) (.leaf ⟨a0,⟨0,rfl⟩⟩)
theorem zzl (a0:Iv):Tb56.run B56 [enc a0] (T2 Iv I64)=(zlS a0).opt:=by kernel_rfl
def zel:Iv->T2 Iv I64:=fun a0=>(zlS a0).get
theorem zyF (a0:Iv):(zlS a0).opt=some (zel a0):=Tr.zX (by kernel_rfl)
def zkf:Ent Tryz.prog:= .of1 Tb56 B56 (fun _=>true) zel fun a0 _=>(zzl a0).trans (zyF a0)
def B232:Bod Tryz.prog:=⟨232,Tryz.f232,Tryz.f232.body.getD .skip,Tryz.func232,by kernel_rfl,by kernel_rfl,zar.no _ _⟩
def zPd:Tb Tryz.prog:= {T:= [Y2,Y32],mix:=mix,Es:= [zem],Bs:= [],d:=1}
def zkT:Tr (I64):=
 .leaf (za4 ⟨1,rfl⟩).hi
theorem zxa:zPd.run B232 [] (I64)=(zkT).opt:=by kernel_rfl
def zgS:I64:=(zkT).get
theorem zwM:(zkT).opt=some (zgS):=Tr.zX (by kernel_rfl)
def zxH:Ent Tryz.prog:= .of0 zPd B232 zgS (zxa.trans zwM)
def B103:Bod Tryz.prog:=⟨103,Tryz.f103,Tryz.f103.body.getD .skip,Tryz.func103,by kernel_rfl,by kernel_rfl,zar.no _ _⟩
def zQj:Tb Tryz.prog:= {T:= [Y28],mix:=mix,Es:= [zkO],Bs:= [],d:=1}
def zjF (a0:zaA) (a1:zaA):Tr (Bool):=
 .br (zc9 a0) (.leaf (zc9 a1)) (.leaf false)
theorem zvj (a0:zaA) (a1:zaA):zQj.run B103 [enc a0,enc a1] (Bool)=(zjF a0 a1).opt:=by kernel_rfl
def zdk:zaA->zaA->Bool:=fun a0 a1=>(zjF a0 a1).get
theorem zuK (a0:zaA) (a1:zaA):(zjF a0 a1).opt=some (zdk a0 a1):=Tr.zX (by kernel_rfl)
def zhL:Ent Tryz.prog:= .of2 zQj B103 (fun _ _=>true) zdk fun a0 a1 _=>(zvj a0 a1).trans (zuK a0 a1)
def B114:Bod Tryz.prog:=⟨114,Tryz.f114,Tryz.f114.body.getD .skip,Tryz.func114,by kernel_rfl,by kernel_rfl,zar.no _ _⟩
def zQf:Tb Tryz.prog:= {T:= [Y2,Y28,Y32],mix:=mix,Es:= [zkO,zeH,zah],Bs:= [],d:=1}
def znb (a0:zaA):Tr (Iv):=
 .br (!(zc9 a0)) (.leaf zD) (.leaf (zcp a0.lat))
theorem zBd (a0:zaA):zQf.run B114 [enc a0] (Iv)=(znb a0).opt:=by kernel_rfl
def zb9:zaA->Iv:=fun a0=>(znb a0).get
theorem zAA (a0:zaA):(znb a0).opt=some (zb9 a0):=Tr.zX (by kernel_rfl)
def zlz:Ent Tryz.prog:= .of1 zQf B114 (fun _=>true) zb9 fun a0 _=>(zBd a0).trans (zAA a0)
def zM5:Tr (Iv):=
 .br (zcl ⟨2,rfl⟩) (.leaf (zaS ⟨2,rfl⟩)) (.bad)
def B17:Bod Tryz.prog:=⟨17,Tryz.f17,Tryz.f17.body.getD .skip,Tryz.func17,by kernel_rfl,by kernel_rfl,zar.no _ _⟩
def Tb17:Tb Tryz.prog:= {T:= [Y2,Y28],mix:=mix,Es:= [zBW,zxB],Bs:= [],d:=1}
def zhS (a0:zaA) (a1:zaA):Tr (T2 I64 I64):=
 .br (!(zT a0)) (.leaf ⟨⟨0,rfl⟩,⟨1,rfl⟩⟩) (.br (!(zT a1)) (.leaf ⟨⟨0,rfl⟩,⟨1,rfl⟩⟩) (.leaf ⟨(zcK (Rng.w .i64 (a1.lon.val-a0.lon.val))),⟨0,rfl⟩⟩))
theorem zst (a0:zaA) (a1:zaA):Tb17.run B17 [enc a0,enc a1] (T2 I64 I64)=(zhS a0 a1).opt:=by kernel_rfl
def zfY:zaA->zaA->T2 I64 I64:=fun a0 a1=>(zhS a0 a1).get
theorem zsh (a0:zaA) (a1:zaA):(zhS a0 a1).opt=some (zfY a0 a1):=Tr.zX (by kernel_rfl)
def zs9:Ent Tryz.prog:= .of2 Tb17 B17 (fun _ _=>true) zfY fun a0 a1 _=>(zst a0 a1).trans (zsh a0 a1)
def zlP (a0:I64):Tr (Iv):=
 .br (!(zaf a0 ⟨(-4294967296),rfl⟩ ⟨4294967296,rfl⟩)) (.leaf zaW) (.leaf (zZ (zbh (zak (zo (zB a0) (zq (zf ⟨1,rfl⟩) (zcM a0))))) zbt).a)
def zaP:I64->Iv:=fun a0=>(zlP a0).get
def B244:Bod Tryz.prog:=⟨244,Tryz.f244,Tryz.f244.body.getD .skip,Tryz.func244,by kernel_rfl,by kernel_rfl,zar.no _ _⟩
def zO1:Tb Tryz.prog:= {T:= [Y2,Y32],mix:=mix,Es:= [za3,zbi,zck,zcj,zjt,zah,zpZ,zf6,zim,znR,zww],Bs:= [],d:=1}
def zlZ (a0:I64):Tr (Iv):=
 .br (!(zas a0 ⟨(-4294967296),rfl⟩ ⟨4294967296,rfl⟩)) (.leaf zD) (.leaf (zda (zcr (zdb (zad (zbo a0) (zR (zw ⟨1,rfl⟩) (zhH a0))))) zcv).a)
theorem zzv (a0:I64):zO1.run B244 [enc a0] (Iv)=(zlZ a0).opt:=by kernel_rfl
def zil:I64->Iv:=fun a0=>(zlZ a0).get
theorem zyN (a0:I64):(zlZ a0).opt=some (zil a0):=Tr.zX (by kernel_rfl)
def zAf:Ent Tryz.prog:= .of1 zO1 B244 (fun _=>true) zil fun a0 _=>(zzv a0).trans (zyN a0)
def zm5 (a0:Iv):Tr (Iv):=
 let c2:=zZ a0 zu;.br (!c2.b) (.leaf zaW) (.leaf (zN (zaP c2.a.lo) (zaP c2.a.hi)))
def zc6:Iv->Iv:=fun a0=>(zm5 a0).get
def B199:Bod Tryz.prog:=⟨199,Tryz.f199,Tryz.f199.body.getD .skip,Tryz.func199,by kernel_rfl,by kernel_rfl,zar.no _ _⟩
def zPr:Tb Tryz.prog:= {T:= [Y2,Y32],mix:=mix,Es:= [zju,zjt,zah,zkN,zAf],Bs:= [],d:=1}
def znh (a0:Iv):Tr (Iv):=
 let c2:=zda a0 zeR;.br (!c2.b) (.leaf zD) (.leaf (zaG (zil c2.a.lo) (zil c2.a.hi)))
theorem zBk (a0:Iv):zPr.run B199 [enc a0] (Iv)=(znh a0).opt:=by kernel_rfl
def zjo:Iv->Iv:=fun a0=>(znh a0).get
theorem zAG (a0:Iv):(znh a0).opt=some (zjo a0):=Tr.zX (by kernel_rfl)
def ztE:Ent Tryz.prog:= .of1 zPr B199 (fun _=>true) zjo fun a0 _=>(zBk a0).trans (zAG a0)
def B198:Bod Tryz.prog:=⟨198,Tryz.f198,Tryz.f198.body.getD .skip,Tryz.func198,by kernel_rfl,by kernel_rfl,zar.no _ _⟩
def zPs:Tb Tryz.prog:= {T:= [Y2,Y32],mix:=mix,Es:= [zbi,zbW],Bs:= [],d:=1}
def zle (a0:I64) (a1:Iv):Tr (Iv):=
 .leaf (zF (zw a0) a1)
theorem zA2 (a0:I64) (a1:Iv):zPs.run B198 [enc a0,enc a1] (Iv)=(zle a0 a1).opt:=by kernel_rfl
def zc7:I64->Iv->Iv:=fun a0 a1=>(zle a0 a1).get
theorem zAt (a0:I64) (a1:Iv):(zle a0 a1).opt=some (zc7 a0 a1):=Tr.zX (by kernel_rfl)
def zpT:Ent Tryz.prog:= .of2 zPs B198 (fun _ _=>true) zc7 fun a0 a1 _=>(zA2 a0 a1).trans (zAt a0 a1)
def B138:Bod Tryz.prog:=⟨138,Tryz.f138,Tryz.f138.body.getD .skip,Tryz.func138,by kernel_rfl,by kernel_rfl,zar.no _ _⟩
def zPR:Tb Tryz.prog:= {T:= [Y2,Y32],mix:=mix,Es:= [zbi,zcj],Bs:= [],d:=1}
def zoi (a0:Iv) (a1:I64):Tr (Iv):=
 .leaf (zad a0 (zw a1))
theorem zCF (a0:Iv) (a1:I64):zPR.run B138 [enc a0,enc a1] (Iv)=(zoi a0 a1).opt:=by kernel_rfl
def zfx:Iv->I64->Iv:=fun a0 a1=>(zoi a0 a1).get
theorem zCd (a0:Iv) (a1:I64):(zoi a0 a1).opt=some (zfx a0 a1):=Tr.zX (by kernel_rfl)
def zwq:Ent Tryz.prog:= .of2 zPR B138 (fun _ _=>true) zfx fun a0 a1 _=>(zCF a0 a1).trans (zCd a0 a1)
def zpk (a0:Iv):Tr (Iv):=
 .br (!(za a0)) (.leaf zh) (.leaf (zU (Rng.w .i64 (a0.lo.val.fdiv 2)) (Rng.w .i64 ((Rng.w .i64 (a0.hi.val+1)).val.fdiv 2))))
def zdW:Iv->Iv:=fun a0=>(zpk a0).get
def B197:Bod Tryz.prog:=⟨197,Tryz.f197,Tryz.f197.body.getD .skip,Tryz.func197,by kernel_rfl,by kernel_rfl,zar.no _ _⟩
def zPt:Tb Tryz.prog:= {T:= [Y2,Y32],mix:=mix,Es:= [za6,zah],Bs:= [],d:=1}
def znd (a0:Iv):Tr (Iv):=
 .br (zab a0) (.leaf zD) (.leaf ⟨(Rng.w .i64 (a0.lo.val.fdiv 2)),(Rng.w .i64 ((Rng.w .i64 (a0.hi.val+1)).val.fdiv 2))⟩)
theorem zBf (a0:Iv):zPt.run B197 [enc a0] (Iv)=(znd a0).opt:=by kernel_rfl
def zgf:Iv->Iv:=fun a0=>(znd a0).get
theorem zAC (a0:Iv):(znd a0).opt=some (zgf a0):=Tr.zX (by kernel_rfl)
def zpX:Ent Tryz.prog:= .of1 zPt B197 (fun _=>true) zgf fun a0 _=>(zBf a0).trans (zAC a0)
def B233:Bod Tryz.prog:=⟨233,Tryz.f233,Tryz.f233.body.getD .skip,Tryz.func233,by kernel_rfl,by kernel_rfl,zar.no _ _⟩
def zPc:Tb Tryz.prog:= {T:= [Y2,Y32],mix:=mix,Es:= [zkh],Bs:= [],d:=1}
def zm9 (a0:I64):Tr (Iv):=
 .leaf (zcJ a0 ⟨0,rfl⟩)
theorem zA9 (a0:I64):zPc.run B233 [enc a0] (Iv)=(zm9 a0).opt:=by kernel_rfl
def zge:I64->Iv:=fun a0=>(zm9 a0).get
theorem zAy (a0:I64):(zm9 a0).opt=some (zge a0):=Tr.zX (by kernel_rfl)
def zpW:Ent Tryz.prog:= .of1 zPc B233 (fun _=>true) zge fun a0 _=>(zA9 a0).trans (zAy a0)
def B234:Bod Tryz.prog:=⟨234,Tryz.f234,Tryz.f234.body.getD .skip,Tryz.func234,by kernel_rfl,by kernel_rfl,zar.no _ _⟩
def zPb:Tb Tryz.prog:= {T:= [Y2,Y32],mix:=mix,Es:= [zkh],Bs:= [],d:=1}
def znf (a0:I64):Tr (Iv):=
 .leaf (zcJ a0 ⟨1,rfl⟩)
theorem zBi (a0:I64):zPb.run B234 [enc a0] (Iv)=(znf a0).opt:=by kernel_rfl
def zhG:I64->Iv:=fun a0=>(znf a0).get
theorem zAE (a0:I64):(znf a0).opt=some (zhG a0):=Tr.zX (by kernel_rfl)
def ztD:Ent Tryz.prog:= .of1 zPb B234 (fun _=>true) zhG fun a0 _=>(zBi a0).trans (zAE a0)
def zpj (a0:I64):Tr (Iv):=
 .leaf (zaj a0 ⟨0,rfl⟩)
def zdV:I64->Iv:=fun a0=>(zpj a0).get
def zpl (a0:I64):Tr (Iv):=
 .leaf (zaj a0 ⟨1,rfl⟩)
def zes:I64->Iv:=fun a0=>(zpl a0).get
def Y25:TyE Tryz.prog:=⟨25,3,(.struct [(0,2,1),(1,2,1),(2,2,1)]),[.i64 ⟨0,rfl⟩,.i64 ⟨0,rfl⟩,.i64 ⟨0,rfl⟩],true,by kernel_rfl,by kernel_rfl,by kernel_rfl,by kernel_rfl,by kernel_rfl,by kernel_rfl⟩
def B73:Bod Tryz.prog:=⟨73,Tryz.f73,Tryz.f73.body.getD .skip,Tryz.func73,by kernel_rfl,by kernel_rfl,zar.no _ _⟩
def Tb73:Tb Tryz.prog:= {T:= [Y2,Y25],mix:=mix,Es:= [za3],Bs:= [],d:=1}
def zfd (a0:Ell):Tr (Bool):=
 .br (zas a0.a ⟨1000,rfl⟩ ⟨100000000000,rfl⟩) (.br (zas a0.den ⟨1,rfl⟩ ⟨1000000000000,rfl⟩) (.leaf (zas a0.num ⟨0,rfl⟩ (Rng.w .i64 (a0.den.val.tdiv 100)))) (.leaf false)) (.leaf false)
theorem zpx (a0:Ell):Tb73.run B73 [enc a0] (Bool)=(zfd a0).opt:=by kernel_rfl
def zaI:Ell->Bool:=fun a0=>(zfd a0).get
theorem zpg (a0:Ell):(zfd a0).opt=some (zaI a0):=Tr.zX (by kernel_rfl)
def za5:Ent Tryz.prog:= .of1 Tb73 B73 (fun _=>true) zaI fun a0 _=>(zpx a0).trans (zpg a0)
def B188:Bod Tryz.prog:=⟨188,Tryz.f188,Tryz.f188.body.getD .skip,Tryz.func188,by kernel_rfl,by kernel_rfl,zar.no _ _⟩
def B189:Bod Tryz.prog:=⟨189,Tryz.f189,Tryz.f189.body.getD .skip,Tryz.func189,by kernel_rfl,by kernel_rfl,zar.no _ _⟩
def B121:Bod Tryz.prog:=⟨121,Tryz.f121,Tryz.f121.body.getD .skip,Tryz.func121,by kernel_rfl,by kernel_rfl,zar.no _ _⟩
def zP8:Tb Tryz.prog:= {T:= [Y2,Y25,Y32],mix:=mix,Es:= [za5,zcU,zah],Bs:= [B188,B189],d:=8}
def zg4 (a0:Ell):Tr (Iv):=
 .br (!(zaI a0)) (.leaf zD) (.leaf (zaa a0.num a0.den))
theorem zrF (a0:Ell):zP8.run B121 [enc a0] (Iv)=(zg4 a0).opt:=by kernel_rfl
def zdl:Ell->Iv:=fun a0=>(zg4 a0).get
theorem zrl (a0:Ell):(zg4 a0).opt=some (zdl a0):=Tr.zX (by kernel_rfl)
def zkj:Ent Tryz.prog:= .of1 zP8 B121 (fun _=>true) zdl fun a0 _=>(zrF a0).trans (zrl a0)
def B130:Bod Tryz.prog:=⟨130,Tryz.f130,Tryz.f130.body.getD .skip,Tryz.func130,by kernel_rfl,by kernel_rfl,zar.no _ _⟩
def zPZ:Tb Tryz.prog:= {T:= [Y2,Y25,Y32],mix:=mix,Es:= [zbi,zkj,zbW,zcZ],Bs:= [],d:=1}
def zoq (a0:Ell):Tr (Iv):=
 let c1:=zdl a0;.leaf (zF c1 (zaz (zw ⟨2,rfl⟩) c1))
theorem zCP (a0:Ell):zPZ.run B130 [enc a0] (Iv)=(zoq a0).opt:=by kernel_rfl
def zfA:Ell->Iv:=fun a0=>(zoq a0).get
theorem zCl (a0:Ell):(zoq a0).opt=some (zfA a0):=Tr.zX (by kernel_rfl)
def zmT:Ent Tryz.prog:= .of1 zPZ B130 (fun _=>true) zfA fun a0 _=>(zCP a0).trans (zCl a0)
def B120:Bod Tryz.prog:=⟨120,Tryz.f120,Tryz.f120.body.getD .skip,Tryz.func120,by kernel_rfl,by kernel_rfl,zar.no _ _⟩
def zP9:Tb Tryz.prog:= {T:= [Y2,Y32],mix:=mix,Es:= [zbi,zcZ],Bs:= [],d:=1}
def zkU (a0:Iv):Tr (Iv):=
 .leaf (zaz (zw ⟨1,rfl⟩) a0)
theorem zxb (a0:Iv):zP9.run B120 [enc a0] (Iv)=(zkU a0).opt:=by kernel_rfl
def zb8:Iv->Iv:=fun a0=>(zkU a0).get
theorem zwN (a0:Iv):(zkU a0).opt=some (zb8 a0):=Tr.zX (by kernel_rfl)
def zgV:Ent Tryz.prog:= .of1 zP9 B120 (fun _=>true) zb8 fun a0 _=>(zxb a0).trans (zwN a0)
def B272:Bod Tryz.prog:=⟨272,Tryz.f272,Tryz.f272.body.getD .skip,Tryz.func272,by kernel_rfl,by kernel_rfl,zar.no _ _⟩
def zOR:Tb Tryz.prog:= {T:= [Y2,Y25,Y32],mix:=mix,Es:= [zgV,zmT,zbW,zey],Bs:= [],d:=1}
def zjD (a0:Ell) (a1:Iv):Tr (Iv):=
 .leaf (zb8 (zF (zfA a0) (zcX a1)))
theorem zvh (a0:Ell) (a1:Iv):zOR.run B272 [enc a0,enc a1] (Iv)=(zjD a0 a1).opt:=by kernel_rfl
def zhE:Ell->Iv->Iv:=fun a0 a1=>(zjD a0 a1).get
theorem zuI (a0:Ell) (a1:Iv):(zjD a0 a1).opt=some (zhE a0 a1):=Tr.zX (by kernel_rfl)
def zwp:Ent Tryz.prog:= .of2 zOR B272 (fun _ _=>true) zhE fun a0 a1 _=>(zvh a0 a1).trans (zuI a0 a1)
def zmZ (a0:Ell):Tr (Bool):=
 .br (zaf a0.a ⟨1000,rfl⟩ ⟨100000000000,rfl⟩) (.br (zaf a0.den ⟨1,rfl⟩ ⟨1000000000000,rfl⟩) (.br (decide (a0.num.val>=0)) (.leaf (decide (a0.num.val<=(Rng.w .i64 (a0.den.val.tdiv 100)).val))) (.leaf false)) (.leaf false)) (.leaf false)
def zae:Ell->Bool:=fun a0=>(zmZ a0).get
def zrw (a0:Ell):Tr (Iv):=
 .br (!(zae a0)) (.leaf zh) (.leaf (zQ a0.a ⟨1000,rfl⟩))
def zdI:Ell->Iv:=fun a0=>(zrw a0).get
def B208:Bod Tryz.prog:=⟨208,Tryz.f208,Tryz.f208.body.getD .skip,Tryz.func208,by kernel_rfl,by kernel_rfl,zar.no _ _⟩
def B140:Bod Tryz.prog:=⟨140,Tryz.f140,Tryz.f140.body.getD .skip,Tryz.func140,by kernel_rfl,by kernel_rfl,zar.no _ _⟩
def zPP:Tb Tryz.prog:= {T:= [Y2,Y25,Y32],mix:=mix,Es:= [za5,zcU,zah],Bs:= [B188,B208],d:=8}
def zlY (a0:Ell):Tr (Iv):=
 .br (!(zaI a0)) (.leaf zD) (.leaf (zaa a0.a ⟨1000,rfl⟩))
theorem zzt (a0:Ell):zPP.run B140 [enc a0] (Iv)=(zlY a0).opt:=by kernel_rfl
def zfn:Ell->Iv:=fun a0=>(zlY a0).get
theorem zyM (a0:Ell):(zlY a0).opt=some (zfn a0):=Tr.zX (by kernel_rfl)
def zme:Ent Tryz.prog:= .of1 zPP B140 (fun _=>true) zfn fun a0 _=>(zzt a0).trans (zyM a0)
def zrv (a0:Ell):Tr (Iv):=
 .br (!(zae a0)) (.leaf zh) (.leaf (zk (zdI a0) (zQ (Rng.w .i64 (a0.den.val-a0.num.val)) a0.den)))
def zmb:Ell->Iv:=fun a0=>(zrv a0).get
def B210:Bod Tryz.prog:=⟨210,Tryz.f210,Tryz.f210.body.getD .skip,Tryz.func210,by kernel_rfl,by kernel_rfl,zar.no _ _⟩
def B146:Bod Tryz.prog:=⟨146,Tryz.f146,Tryz.f146.body.getD .skip,Tryz.func146,by kernel_rfl,by kernel_rfl,zar.no _ _⟩
def zPJ:Tb Tryz.prog:= {T:= [Y2,Y25,Y32],mix:=mix,Es:= [za5,zbW,zcU,zme,zah],Bs:= [B188,B210],d:=8}
def zlX (a0:Ell):Tr (Iv):=
 .br (!(zaI a0)) (.leaf zD) (.leaf (zF (zfn a0) (zaa (Rng.w .i64 (a0.den.val-a0.num.val)) a0.den)))
theorem zzs (a0:Ell):zPJ.run B146 [enc a0] (Iv)=(zlX a0).opt:=by kernel_rfl
def zkc:Ell->Iv:=fun a0=>(zlX a0).get
theorem zyL (a0:Ell):(zlX a0).opt=some (zkc a0):=Tr.zX (by kernel_rfl)
def zAe:Ent Tryz.prog:= .of1 zPJ B146 (fun _=>true) zkc fun a0 _=>(zzs a0).trans (zyL a0)
def zg2 (a0:Ell):Tr (Iv):=
 .br (!(zae a0)) (.leaf zh) (.leaf (zQ a0.num a0.den))
def zbw:Ell->Iv:=fun a0=>(zg2 a0).get
def zqP (a0:Ell):Tr (Iv):=
 let c1:=zbw a0;.leaf (zk c1 (zG (zf ⟨2,rfl⟩) c1))
def zcg:Ell->Iv:=fun a0=>(zqP a0).get
def ztp (a0:zaA):Tr (Iv):=
 .br (!(zT a0)) (.leaf zaW) (.leaf (zaq a0.lat))
def zns:zaA->Iv:=fun a0=>(ztp a0).get
def ziz (a0:Iv) (a1:Iv):Tr (Iv):=
 .br (!(za a0)) (.leaf zh) (.br (!(za a1)) (.leaf zh) (.leaf (zU a0.lo a1.hi)))
def zb6:Iv->Iv->Iv:=fun a0 a1=>(ziz a0 a1).get
def zuV (a0:Iv):Tr (Iv):=
 .br (!(za a0)) (.leaf zh) (.leaf (zb6 (zls a0.lo) (zls a0.hi)))
def zkF:Iv->Iv:=fun a0=>(zuV a0).get
def B178:Bod Tryz.prog:=⟨178,Tryz.f178,Tryz.f178.body.getD .skip,Tryz.func178,by kernel_rfl,by kernel_rfl,zar.no _ _⟩
def B307:Bod Tryz.prog:=⟨307,Tryz.f307,Tryz.f307.body.getD .skip,Tryz.func307,by kernel_rfl,by kernel_rfl,zar.no _ _⟩
def zOz:Tb Tryz.prog:= {T:= [Y2,Y32],mix:=mix,Es:= [za6,zah,zbB,zbl,zsf],Bs:= [B178],d:=8}
def zop (a0:Iv):Tr (Iv):=
 .br (zab a0) (.leaf zD) (let c3:=zjn a0.lo;let c4:=zjn a0.hi;.br (!(zaU c3 c4)) (.leaf zD) (.leaf (zaN c3.lo c4.hi true)))
theorem zCN (a0:Iv):zOz.run B307 [enc a0] (Iv)=(zop a0).opt:=by kernel_rfl
def zkL:Iv->Iv:=fun a0=>(zop a0).get
theorem zCj (a0:Iv):(zop a0).opt=some (zkL a0):=Tr.zX (by kernel_rfl)
def zwu:Ent Tryz.prog:= .of1 zOz B307 (fun _=>true) zkL fun a0 _=>(zCN a0).trans (zCj a0)
end
end Go.Proofs.YtaoakfodkoifoaaGreat.Ev
namespace Go.Proofs.YtaoakfodkoifoaaGreat.Ev
open Go
theorem zKR {p:zaA} (h:zT p=true):zb9 p=zaq p.lat:=by
 simp only [zb9,znb,Tr.get,zum,h,Bool.not_true,cfl,zxZ]
theorem zIZ (n:I64) (x:Iv):zc7 n x=zk (zf n) x:=by
 simp only [zc7,zle,Tr.get,zjm,zbP]
end Go.Proofs.YtaoakfodkoifoaaGreat.Ev
namespace Go.Proofs.YtaoakfodkoifoaaGreat.Ev
open Go
theorem zn4 (e:Ell):zaI e=zae e:=by
 simp only [zaI,zfd,zae,zmZ,Tr.get,zbN,zdp]
 cases decide (1000<=e.a.val/\e.a.val<=100000000000)
 ·simp [ctr,cfl]
 cases decide (1<=e.den.val/\e.den.val<=1000000000000)
 ·simp [ctr,cfl]
 simp only [ctr]
 by_cases h:e.num.val>=0
 ·by_cases h2:e.num.val<=(Rng.w .i64 (e.den.val.tdiv 100)).val<;>simp [h,h2]
 ·simp [h]
theorem zzP (e:Ell):zdl e=zbw e:=by
 simp only [zdl,zg4,zbw,zg2,Tr.get,zn4,znB,za1]
theorem zuq (e:Ell):zfn e=zdI e:=by
 simp only [zfn,zlY,zdI,zrw,Tr.get,zn4,znB,za1]
theorem zJC (e:Ell):zkc e=zmb e:=by
 simp only [zkc,zlX,zmb,zrv,Tr.get,zn4,znB,za1,zjm,zuq]
theorem zBG (e:Ell):zfA e=zcg e:=by
 simp only [zfA,zoq,zcg,zqP,Tr.get,zzP,zjm,sub_eq,zbP]
theorem zmg (x:Iv):zb8 x=zG (zf ⟨1,rfl⟩) x:=by
 simp only [zb8,zkU,Tr.get,sub_eq,zbP]
theorem zGb (e:Ell) (s:Iv):zhE e s=zG (zf ⟨1,rfl⟩) (zk (zcg e) (zay s)):=by
 simp only [zhE,zjD,Tr.get,zmg,zBG,zjm,zpn]
theorem zy6 (n:I64):zge n=zdV n:=by
 simp only [zge,zm9,zdV,zpj,Tr.get,ziI]
theorem zEX (n:I64):zhG n=zes n:=by
 simp only [zhG,znf,zes,zpl,Tr.get,ziI]
theorem zzN (a:Iv):zgf a=zdW a:=by
 simp only [zgf,znd,zdW,zpk,Tr.get,ziH,za1]
 cases h:za a
 ·rfl
 have hb:=(zaB a).1 h
 simp only [Bool.not_true,cfl]
 have e1:(Rng.w .i64 (a.hi.val+1)).val=a.hi.val+1:=wi (by omega) (by omega)
 have d1:a.lo.val.fdiv 2=a.lo.val/2:=Int.fdiv_eq_ediv_of_nonneg _ (by decide)
 have d2:(a.hi.val+1).fdiv 2=(a.hi.val+1)/2:=Int.fdiv_eq_ediv_of_nonneg _ (by decide)
 refine (zbq ?_).symm
 rw [e1,d1,d2,wi (by omega) (by omega),wi (by omega) (by omega)]
 omega
theorem zGr (a b:I64):zcn a b=mkW (a.val*b.val):=by simp only [zcn,zqv,Tr.get,zrL]
theorem zDC (n:I64):zhH n=zcM n:=by
 simp only [zhH,zjH,zcM,zjC,Tr.get,zbN,zdp,za1,zbU,zl3,zGr,zu5,zu4,ctr]
 by_cases h: -4294967296<=n.val/\n.val<=4294967296
 ·have e1:(Rng.w .i64 (4294967296-n.val)).val=4294967296-n.val:=wi (by omega) (by omega)
  have e2:(Rng.w .i64 (4294967296+n.val)).val=4294967296+n.val:=wi (by omega) (by omega)
  obtain ⟨q,h1,h2,h3⟩:=zDZ (.w .i64 (4294967296-n.val)) (.w .i64 (4294967296+n.val)) (by omega) (by omega)
  have hd:decide (-4294967296<=n.val/\n.val<=4294967296)=true:=by simpa using h
  simp only [h1,h2,at_eq,hd,Bool.not_true,cfl]
  generalize ((mkW (q.val*q.val)).hi.val==(mkW ((Rng.w .i64 (4294967296-n.val)).val*(Rng.w .i64 (4294967296+n.val)).val)).hi.val&&((mkW (q.val*q.val)).lo.val==(mkW ((Rng.w .i64 (4294967296-n.val)).val*(Rng.w .i64 (4294967296+n.val)).val)).lo.val&&true))=c
  cases c<;>simp [zB,zhf,Tr.get]
 ·have hd:decide (-4294967296<=n.val/\n.val<=4294967296)=false:=by simpa using h
  simp only [hd,Bool.not_false,ctr]
theorem zIG (n:I64):zil n=zaP n:=by
 simp only [zil,zlZ,zaP,zlP,Tr.get,zbN,zdp,za1,zbU]
 rw [zux,zv5,zsP,zzM,zjQ,add_eq,zbP,zDC,at_eq]
theorem zE7 (x:Iv):zjo x=zc6 x:=by
 simp only [zjo,znh,zc6,zm5,Tr.get,zsP,zpr,za1,zbU,zIG,zlC]
theorem zGv {p:zaA} (h:zT p=true):zns p=zaq p.lat:=by
 simp only [zns,ztp,Tr.get,h,Bool.not_true,cfl]
end Go.Proofs.YtaoakfodkoifoaaGreat.Ev
namespace Go.Proofs.YtaoakfodkoifoaaGreat.Ev
open Go
def Sub (a b:Iv):Prop:=za b=true->za a=true/\b.lo.val<=a.lo.val/\a.hi.val<=b.hi.val
theorem Sub.refl (a:Iv):Sub a a:=fun h=>⟨h,Int.le_refl _,Int.le_refl _⟩
theorem zuY (a:Iv):Sub a zh:=fun h=>by rw [zbD] at h;cases h
theorem zI3 {a b:Iv} (h:za b=false):Sub a b:=fun k=>by rw [h] at k;cases k
theorem zGQ {p q r s x y:Int} (hx:p<=x/\x<=q) (hy:r<=y/\y<=s):p*r<=x*y\/p*s<=x*y\/q*r<=x*y\/q*s<=x*y:=by
 by_cases h:0<=y
 ·have h1:=Int.mul_le_mul_of_nonneg_right hx.1 h
  by_cases hp:0<=p
  ·have:=Int.mul_le_mul_of_nonneg_left hy.1 hp;left;omega
  ·have:=Int.mul_le_mul_of_nonpos_left (show p<=0 by omega) hy.2;right;left;omega
 ·have h1:=Int.mul_le_mul_of_nonpos_right hx.2 (show y<=0 by omega)
  by_cases hq:0<=q
  ·have:=Int.mul_le_mul_of_nonneg_left hy.1 hq;right;right;left;omega
  ·have:=Int.mul_le_mul_of_nonpos_left (show q<=0 by omega) hy.2;right;right;right;omega
theorem zLO {p q r s x y:Int} (hx:p<=x/\x<=q) (hy:r<=y/\y<=s):x*y<=p*r\/x*y<=p*s\/x*y<=q*r\/x*y<=q*s:=by
 have:=zGQ (p:= -q) (q:= -p) (x:= -x) (r:=r) (s:=s) (y:=y) (by omega) hy
 simp only [Int.neg_mul] at this
 omega
theorem zjl {x y:I64} (h:(zW x y).b=true):(zW x y).a.val=x.val*y.val/4294967296:=by
 simp only [zW,zez,Tr.get,mf32] at h ⊢
 cases h1:zJ x
 ·rw [h1] at h;simp [ctr] at h
 cases h2:zJ y
 ·rw [h1,h2] at h;simp [ctr,cfl] at h
 rw [h1,h2] at h
 simp only [Bool.not_true,cfl] at h ⊢
 unfold narrow at h ⊢
 split at h
 ·rename_i hr
  rw [if_pos hr]
  rcases zlp (.w .i64 (x.val*y.val/4294967296)) true with e|⟨e,_⟩
  ·rw [e] at h;cases h
  ·rw [e];exact wi hr.1 hr.2
 ·rename_i hr
  rcases zlp (.w .i64 0) false with e|⟨e,_⟩
  ·rw [e] at h;cases h
  ·have:(zaJ (.w .i64 0) false).b=false:=by simp only [zaJ,zei,Tr.get,Bool.not_false,ctr]
   rw [this] at h;cases h
theorem zn0 {x y:I64} (h:(zau x y).b=true):(zau x y).a.val= -(-(x.val*y.val)/4294967296):=by
 simp only [zau,zhh,Tr.get] at h ⊢
 cases h1:zJ x
 ·rw [h1] at h;simp [ctr] at h
 rw [h1] at h
 simp only [Bool.not_true,cfl] at h ⊢
 have hb:=zqY h1
 cases hd:(zW (.w .i64 (0-x.val)) y).b
 ·rw [hd] at h;simp [ctr] at h
 simp only [hd,Bool.not_true,cfl]
 have e:=zjl hd
 have en:(Rng.w .i64 (0-x.val)).val= -x.val:=by rw [wi (by omega) (by omega)];omega
 rw [en,Int.neg_mul] at e
 rcases zgl (.w .i64 (0-x.val)) y with k|⟨c,k,kc⟩
 ·rw [k] at hd;cases hd
 ·have kb:=zqY kc
  rw [k] at e ⊢
  simp only at e ⊢
  rw [wi (by omega) (by omega)]
  omega
theorem zq0 {a b:Iv} (h:za (zk a b)=true):za a=true/\za b=true /\
  ∀x y:I64,(x=a.lo\/x=a.hi)->(y=b.lo\/y=b.hi)->(zk a b).lo.val<=x.val*y.val/4294967296 /\ -(-(x.val*y.val)/4294967296)<=(zk a b).hi.val:=by
 have nw:∀ {P:Prop},za zh=true->P:=fun h=>by rw [zbD] at h;cases h
 simp only [zk,zkr,Tr.get] at h ⊢
 cases ha:za a
 ·rw [ha] at h;exact nw h
 cases hb:za b
 ·rw [ha,hb] at h;exact nw h
 simp only [ha,hb,Bool.not_true,cfl] at h ⊢
 cases h1:(zW a.lo b.lo).b
 ·rw [h1] at h;exact nw h
 cases h2:(zau a.lo b.lo).b
 ·rw [h1,h2] at h;exact nw h
 cases h3:(zW a.lo b.hi).b
 ·rw [h1,h2,h3] at h;exact nw h
 cases h4:(zau a.lo b.hi).b
 ·rw [h1,h2,h3,h4] at h;exact nw h
 cases h5:(zW a.hi b.lo).b
 ·rw [h1,h2,h3,h4,h5] at h;exact nw h
 cases h6:(zau a.hi b.lo).b
 ·rw [h1,h2,h3,h4,h5,h6] at h;exact nw h
 cases h7:(zW a.hi b.hi).b
 ·rw [h1,h2,h3,h4,h5,h6,h7] at h;exact nw h
 cases h8:(zau a.hi b.hi).b
 ·rw [h1,h2,h3,h4,h5,h6,h7,h8] at h;exact nw h
 simp only [h1,h2,h3,h4,h5,h6,h7,h8,Bool.not_true,cfl] at h ⊢
 refine ⟨trivial,trivial,?_⟩
 have v1:=zjl h1
 have v2:=zn0 h2
 have v3:=zjl h3
 have v4:=zn0 h4
 have v5:=zjl h5
 have v6:=zn0 h6
 have v7:=zjl h7
 have v8:=zn0 h8
 generalize (zW a.lo b.lo).a=d1 at *
 generalize (zW a.lo b.hi).a=d2 at *
 generalize (zW a.hi b.lo).a=d3 at *
 generalize (zW a.hi b.hi).a=d4 at *
 generalize (zau a.lo b.lo).a=u1 at *
 generalize (zau a.lo b.hi).a=u2 at *
 generalize (zau a.hi b.lo).a=u3 at *
 generalize (zau a.hi b.hi).a=u4 at *
 have m1:=zf7 ⟨1152921504606846976,rfl⟩ d1
 have m2:=zf7 (zC ⟨1152921504606846976,rfl⟩ d1) d2
 have m3:=zf7 (zC (zC ⟨1152921504606846976,rfl⟩ d1) d2) d3
 have m4:=zf7 (zC (zC (zC ⟨1152921504606846976,rfl⟩ d1) d2) d3) d4
 have n1:=zeB ⟨-1152921504606846976,rfl⟩ u1
 have n2:=zeB (zt ⟨-1152921504606846976,rfl⟩ u1) u2
 have n3:=zeB (zt (zt ⟨-1152921504606846976,rfl⟩ u1) u2) u3
 have n4:=zeB (zt (zt (zt ⟨-1152921504606846976,rfl⟩ u1) u2) u3) u4
 generalize zC (zC (zC (zC ⟨1152921504606846976,rfl⟩ d1) d2) d3) d4=lo at *
 generalize zt (zt (zt (zt ⟨-1152921504606846976,rfl⟩ u1) u2) u3) u4=hi at *
 by_cases hm: -1152921504606846976<lo.val/\lo.val<=hi.val/\hi.val<1152921504606846976
 ·rw [zbq hm]
  simp only
  rintro x y (rfl|rfl) (rfl|rfl)
  ·omega
  ·omega
  ·omega
  ·omega
 ·rw [zi9 hm] at h;exact nw h
theorem Sub.mul {a a' b b':Iv} (ha:Sub a a') (hb:Sub b b'):Sub (zk a b) (zk a' b'):=fun h=>by
 obtain ⟨oa',ob',hc⟩:=zq0 h
 obtain ⟨oa,a1,a2⟩:=ha oa'
 obtain ⟨ob,b1,b2⟩:=hb ob'
 have hM:=(zaB _).1 h
 have ba:=(zaB _).1 oa
 have bb:=(zaB _).1 ob
 have c1:=hc a'.lo b'.lo (.inl rfl) (.inl rfl)
 have c2:=hc a'.lo b'.hi (.inl rfl) (.inr rfl)
 have c3:=hc a'.hi b'.lo (.inr rfl) (.inl rfl)
 have c4:=hc a'.hi b'.hi (.inr rfl) (.inr rfl)
 generalize zk a' b'=M at *
 obtain ⟨lo,hi,e,k1,k2,k3⟩:=zvH (L:=M.lo.val) (H:=M.hi.val) oa ob (by omega) (by omega) (fun x y hx hy=>by
  have hx':a'.lo.val<=x.val/\x.val<=a'.hi.val:=by rcases hx with rfl|rfl<;>omega
  have hy':b'.lo.val<=y.val/\y.val<=b'.hi.val:=by rcases hy with rfl|rfl<;>omega
  have ox:zJ x=true:=ok3 (by rcases hx with rfl|rfl<;>omega)
  have oy:zJ y=true:=ok3 (by rcases hy with rfl|rfl<;>omega)
  have fl:M.lo.val<=x.val*y.val/4294967296:=by
   rcases zGQ hx' hy' with h|h|h|h<;>(have:=Int.ediv_le_ediv (c:=4294967296) (by decide) h;omega)
  have fh: -(-(x.val*y.val)/4294967296)<=M.hi.val:=by
   rcases zLO hx' hy' with h|h|h|h<;>(have:=Int.ediv_le_ediv (c:=4294967296) (by decide) (Int.neg_le_neg h);omega)
  have e1:=zhv (a:=x) (b:=y) ox oy (by omega)
  have e2:=zpC (a:=x) (b:=y) ox oy (by omega)
  refine ⟨_,_,e1,e2,?_,?_,?_⟩
  ·rw [wi (by omega) (by omega)];omega
  ·rw [wi (by omega) (by omega),wi (by omega) (by omega)];omega
  ·rw [wi (by omega) (by omega)];omega)
 rw [e]
 exact ⟨(zaB _).2 (by simp only;omega),k1,k3⟩
theorem zr1 {a b:Iv} (h:za (zq a b)=true):za a=true/\za b=true/\(zq a b).lo.val=a.lo.val+b.lo.val/\(zq a b).hi.val=a.hi.val+b.hi.val:=by
 simp only [zq,zd3,Tr.get] at h ⊢
 cases ha:za a
 ·rw [ha] at h;simp only [Bool.not_false,ctr,zbD] at h;cases h
 cases hb:za b
 ·rw [ha,hb] at h;simp only [Bool.not_false,Bool.not_true,ctr,cfl,zbD] at h;cases h
 simp only [ha,hb,Bool.not_true,cfl] at h ⊢
 have ba:=(zaB _).1 ha
 have bb:=(zaB _).1 hb
 have k1:(Rng.w .i64 (a.lo.val+b.lo.val)).val=a.lo.val+b.lo.val:=wi (by omega) (by omega)
 have k2:(Rng.w .i64 (a.hi.val+b.hi.val)).val=a.hi.val+b.hi.val:=wi (by omega) (by omega)
 by_cases hm: -1152921504606846976<(Rng.w .i64 (a.lo.val+b.lo.val)).val/\(Rng.w .i64 (a.lo.val+b.lo.val)).val<=(Rng.w .i64 (a.hi.val+b.hi.val)).val/\(Rng.w .i64 (a.hi.val+b.hi.val)).val<1152921504606846976
 ·rw [zbq hm];exact ⟨trivial,trivial,k1,k2⟩
 ·rw [zi9 hm,zbD] at h;cases h
theorem zII {a b:Iv} (ha:za a=true) (hb:za b=true) (h: -1152921504606846976<a.lo.val+b.lo.val/\a.hi.val+b.hi.val<1152921504606846976):zq a b=⟨.w .i64 (a.lo.val+b.lo.val),.w .i64 (a.hi.val+b.hi.val)⟩/\za (zq a b)=true:=by
 have ba:=(zaB _).1 ha
 have bb:=(zaB _).1 hb
 have k1:(Rng.w .i64 (a.lo.val+b.lo.val)).val=a.lo.val+b.lo.val:=wi (by omega) (by omega)
 have k2:(Rng.w .i64 (a.hi.val+b.hi.val)).val=a.hi.val+b.hi.val:=wi (by omega) (by omega)
 have e:zq a b=⟨.w .i64 (a.lo.val+b.lo.val),.w .i64 (a.hi.val+b.hi.val)⟩:=by
  simp only [zq,zd3,Tr.get,ha,hb,Bool.not_true,cfl]
  exact zbq (by rw [k1,k2];omega)
 exact ⟨e,by rw [e];exact (zaB _).2 (by simp only [k1,k2];omega)⟩
theorem Sub.add {a a' b b':Iv} (ha:Sub a a') (hb:Sub b b'):Sub (zq a b) (zq a' b'):=fun h=>by
 obtain ⟨oa',ob',e1,e2⟩:=zr1 h
 obtain ⟨oa,a1,a2⟩:=ha oa'
 obtain ⟨ob,b1,b2⟩:=hb ob'
 have hM:=(zaB _).1 h
 obtain ⟨_,k⟩:=zII oa ob (by omega)
 obtain ⟨_,_,v1,v2⟩:=zr1 k
 exact ⟨k,by omega,by omega⟩
theorem zyU {a b:Iv} (h:za (zG a b)=true):za a=true/\za b=true/\(zG a b).lo.val=a.lo.val-b.hi.val/\(zG a b).hi.val=a.hi.val-b.lo.val:=by
 simp only [zG,zi6,Tr.get] at h ⊢
 cases ha:za a
 ·rw [ha] at h;simp only [Bool.not_false,ctr,zbD] at h;cases h
 cases hb:za b
 ·rw [ha,hb] at h;simp only [Bool.not_false,Bool.not_true,ctr,cfl,zbD] at h;cases h
 simp only [ha,hb,Bool.not_true,cfl] at h ⊢
 have ba:=(zaB _).1 ha
 have bb:=(zaB _).1 hb
 have k1:(Rng.w .i64 (a.lo.val-b.hi.val)).val=a.lo.val-b.hi.val:=wi (by omega) (by omega)
 have k2:(Rng.w .i64 (a.hi.val-b.lo.val)).val=a.hi.val-b.lo.val:=wi (by omega) (by omega)
 by_cases hm: -1152921504606846976<(Rng.w .i64 (a.lo.val-b.hi.val)).val/\(Rng.w .i64 (a.lo.val-b.hi.val)).val<=(Rng.w .i64 (a.hi.val-b.lo.val)).val/\(Rng.w .i64 (a.hi.val-b.lo.val)).val<1152921504606846976
 ·rw [zbq hm];exact ⟨trivial,trivial,k1,k2⟩
 ·rw [zi9 hm,zbD] at h;cases h
theorem zLp {a b:Iv} (ha:za a=true) (hb:za b=true) (h: -1152921504606846976<a.lo.val-b.hi.val/\a.hi.val-b.lo.val<1152921504606846976):za (zG a b)=true:=by
 have ba:=(zaB _).1 ha
 have bb:=(zaB _).1 hb
 have k1:(Rng.w .i64 (a.lo.val-b.hi.val)).val=a.lo.val-b.hi.val:=wi (by omega) (by omega)
 have k2:(Rng.w .i64 (a.hi.val-b.lo.val)).val=a.hi.val-b.lo.val:=wi (by omega) (by omega)
 simp only [zG,zi6,Tr.get,ha,hb,Bool.not_true,cfl]
 rw [zbq (by rw [k1,k2];omega)]
 exact (zaB _).2 (by simp only [k1,k2];omega)
theorem Sub.sub {a a' b b':Iv} (ha:Sub a a') (hb:Sub b b'):Sub (zG a b) (zG a' b'):=fun h=>by
 obtain ⟨oa',ob',e1,e2⟩:=zyU h
 obtain ⟨oa,a1,a2⟩:=ha oa'
 obtain ⟨ob,b1,b2⟩:=hb ob'
 have hM:=(zaB _).1 h
 have k:=zLp oa ob (by omega)
 obtain ⟨_,_,v1,v2⟩:=zyU k
 exact ⟨k,by omega,by omega⟩
theorem zzU {a:Iv} (h:za (zbh a)=true):za a=true/\(zbh a).lo.val=2*a.lo.val/\(zbh a).hi.val=2*a.hi.val:=by
 simp only [zbh,zfr,Tr.get] at h ⊢
 cases ha:za a
 ·rw [ha] at h;simp only [Bool.not_false,ctr,zbD] at h;cases h
 simp only [ha,Bool.not_true,cfl] at h ⊢
 have ba:=(zaB _).1 ha
 have k1:(Rng.w .i64 (2*a.lo.val)).val=2*a.lo.val:=wi (by omega) (by omega)
 have k2:(Rng.w .i64 (2*a.hi.val)).val=2*a.hi.val:=wi (by omega) (by omega)
 by_cases hm: -1152921504606846976<(Rng.w .i64 (2*a.lo.val)).val/\(Rng.w .i64 (2*a.lo.val)).val<=(Rng.w .i64 (2*a.hi.val)).val/\(Rng.w .i64 (2*a.hi.val)).val<1152921504606846976
 ·rw [zbq hm];exact ⟨trivial,k1,k2⟩
 ·rw [zi9 hm,zbD] at h;cases h
theorem Sub.dbl {a a':Iv} (ha:Sub a a'):Sub (zbh a) (zbh a'):=fun h=>by
 obtain ⟨oa',e1,e2⟩:=zzU h
 obtain ⟨oa,a1,a2⟩:=ha oa'
 have hM:=(zaB _).1 h
 have ba:=(zaB _).1 oa
 have k1:(Rng.w .i64 (2*a.lo.val)).val=2*a.lo.val:=wi (by omega) (by omega)
 have k2:(Rng.w .i64 (2*a.hi.val)).val=2*a.hi.val:=wi (by omega) (by omega)
 have k:za (zbh a)=true:=by
  simp only [zbh,zfr,Tr.get,oa,Bool.not_true,cfl]
  rw [zbq (by rw [k1,k2];omega)]
  exact (zaB _).2 (by simp only [k1,k2];omega)
 obtain ⟨_,v1,v2⟩:=zzU k
 exact ⟨k,by omega,by omega⟩
theorem zEL {x x':Iv} (h:za x=true) (h':za x'=true) (h1:x'.lo.val<=x.lo.val) (h2:x.hi.val<=x'.hi.val):
  0<=(zK x').a.val/\(zK x').a.val<=(zK x).a.val/\(zK x).a.val<=(zK x).b.val/\(zK x).b.val<=(zK x').b.val:=by
 have hb:=(zaB x).1 h
 have hb':=(zaB x').1 h'
 have e1:(Rng.w .i64 (0-x.lo.val)).val=0-x.lo.val:=wi (by omega) (by omega)
 have e2:(Rng.w .i64 (0-x.hi.val)).val=0-x.hi.val:=wi (by omega) (by omega)
 have e1':(Rng.w .i64 (0-x'.lo.val)).val=0-x'.lo.val:=wi (by omega) (by omega)
 have e2':(Rng.w .i64 (0-x'.hi.val)).val=0-x'.hi.val:=wi (by omega) (by omega)
 have m1:=zeB x.lo (.w .i64 (0-x.lo.val))
 have m2:=zeB x.hi (.w .i64 (0-x.hi.val))
 have m3:=zeB (zt x.lo (.w .i64 (0-x.lo.val))) (zt x.hi (.w .i64 (0-x.hi.val)))
 have m4:=zf7 (zt x.lo (.w .i64 (0-x.lo.val))) (zt x.hi (.w .i64 (0-x.hi.val)))
 have m1':=zeB x'.lo (.w .i64 (0-x'.lo.val))
 have m2':=zeB x'.hi (.w .i64 (0-x'.hi.val))
 have m3':=zeB (zt x'.lo (.w .i64 (0-x'.lo.val))) (zt x'.hi (.w .i64 (0-x'.hi.val)))
 have m4':=zf7 (zt x'.lo (.w .i64 (0-x'.lo.val))) (zt x'.hi (.w .i64 (0-x'.hi.val)))
 rw [e1] at m1
 rw [e2] at m2
 rw [e1'] at m1'
 rw [e2'] at m2'
 simp only [zK,zen,Tr.get,zaO,zcc,zdp]
 by_cases h0:x.lo.val<=0/\0<=x.hi.val
 ·have h0':x'.lo.val<=0/\0<=x'.hi.val:=by omega
  simp only [h0,h0',and_self,decide_true,cond_true]
  exact ⟨by simp,by simp,by omega,by omega⟩
 ·by_cases h0':x'.lo.val<=0/\0<=x'.hi.val
  ·simp only [h0,h0',and_self,decide_true,decide_false,cond_true,cond_false]
   exact ⟨by simp,by omega,by omega,by omega⟩
  ·simp only [h0,h0',decide_false,cond_false]
   exact ⟨by omega,by omega,by omega,by omega⟩
end Go.Proofs.YtaoakfodkoifoaaGreat.Ev
namespace Go.Proofs.YtaoakfodkoifoaaGreat.Ev
open Go
theorem zy0 {a:Iv} (h:za (zay a)=true):za a=true/\(zay a).lo.val=(zK a).a.val*(zK a).a.val/4294967296/\(zay a).hi.val= -(-((zK a).b.val*(zK a).b.val)/4294967296):=by
 have nw:∀ {P:Prop},za zh=true->P:=fun h=>by rw [zbD] at h;cases h
 simp only [zay,zkq,Tr.get] at h ⊢
 cases ha:za a
 ·rw [ha] at h;exact nw h
 simp only [ha,Bool.not_true,cfl] at h ⊢
 cases h1:(zW (zK a).a (zK a).a).b
 ·rw [h1] at h;exact nw h
 cases h2:(zau (zK a).b (zK a).b).b
 ·rw [h1,h2] at h;exact nw h
 simp only [h1,h2,Bool.not_true,cfl] at h ⊢
 have v1:=zjl h1
 have v2:=zn0 h2
 generalize (zW (zK a).a (zK a).a).a=lo at *
 generalize (zau (zK a).b (zK a).b).a=hi at *
 by_cases hm: -1152921504606846976<lo.val/\lo.val<=hi.val/\hi.val<1152921504606846976
 ·rw [zbq hm];exact ⟨trivial,v1,v2⟩
 ·rw [zi9 hm] at h;exact nw h
theorem zLr {a:Iv} {H:Int} (ha:za a=true) (hH:H<1152921504606846976) (h: -(-((zK a).b.val*(zK a).b.val)/4294967296)<=H):za (zay a)=true:=by
 have hl:=zEL ha ha (Int.le_refl _) (Int.le_refl _)
 have hba:=(zaB _).1 ha
 obtain ⟨p,q,e,h1,h2,h3⟩:=zl5 ha
 rw [e] at h hl
 simp only at h hl
 have hpq:p.val*p.val<=q.val*q.val:=Int.mul_le_mul h2 h2 h1 (by omega)
 have hpp:=Int.mul_nonneg h1 h1
 have c1:=zhv (a:=p) (b:=p) (ok3 (by omega)) (ok3 (by omega)) (by omega)
 have c2:=zpC (a:=q) (b:=q) (ok3 (by omega)) (ok3 (by omega)) (by omega)
 have w1:(Rng.w .i64 (p.val*p.val/4294967296)).val=p.val*p.val/4294967296:=wi (by omega) (by omega)
 have w2:(Rng.w .i64 (0 - -(q.val*q.val)/4294967296)).val=0 - -(q.val*q.val)/4294967296:=wi (by omega) (by omega)
 simp only [zay,zkq,Tr.get,ha,e,c1,c2,Bool.not_true,cfl]
 rw [zbq (by rw [w1,w2];omega)]
 exact (zaB _).2 (by simp only [w1,w2];omega)
theorem Sub.sqr {a a':Iv} (ha:Sub a a'):Sub (zay a) (zay a'):=fun h=>by
 obtain ⟨oa',e1,e2⟩:=zy0 h
 obtain ⟨oa,a1,a2⟩:=ha oa'
 have hM:=(zaB _).1 h
 have hl:=zEL oa oa' a1 a2
 have s1:(zK a').a.val*(zK a').a.val<=(zK a).a.val*(zK a).a.val:=Int.mul_le_mul hl.2.1 hl.2.1 hl.1 (by omega)
 have s2:(zK a).b.val*(zK a).b.val<=(zK a').b.val*(zK a').b.val:=Int.mul_le_mul hl.2.2.2 hl.2.2.2 (by omega) (by omega)
 have k:=zLr (H:=(zay a').hi.val) oa (by omega) (by omega)
 obtain ⟨_,v1,v2⟩:=zy0 k
 exact ⟨k,by omega,by omega⟩
theorem zms (a:I64) (ha:0<=a.val/\a.val<=1152921504606846976):∃q p:I64,zdj a=⟨q,true⟩/\zcP a=⟨p,true⟩/\0<=q.val/\q.val<=70368744177664/\q.val*q.val<=a.val*4294967296/\a.val*4294967296<(q.val+1)*(q.val+1)/\q.val<=p.val/\p.val<=q.val+1/\a.val*4294967296<=p.val*p.val/\(q.val<p.val->q.val*q.val<a.val*4294967296):=by
 obtain ⟨q,h1,h2,h3,h4,h5,h6⟩:=zGD a ha
 have e1:(Rng.w .i64 (q.val+1)).val=q.val+1:=wi (by omega) (by omega)
 have hqq:=Int.mul_nonneg h3 h3
 have hmf:zaE q q ⟨32,rfl⟩=⟨.w .i64 (q.val*q.val/4294967296),true⟩:=by rw [mf32];exact zfj (by omega) (by omega)
 have hmv:(Rng.w .i64 (q.val*q.val/4294967296)).val=q.val*q.val/4294967296:=wi (by omega) (by omega)
 have hmask:(Rng.w .i64 (zbI .and .i64 (Rng.w .i64 (q.val*q.val)).val 4294967295)).val=q.val*q.val%4294967296:=by rw [zyn,zg0];omega
 by_cases hx:q.val*q.val=a.val*4294967296
 ·refine ⟨q,q,h1,?_,h3,h4,h5,h6,Int.le_refl _,by omega,by omega,fun h=>by omega⟩
  have k1:(q.val*q.val/4294967296 != a.val)=false:=by simp;omega
  have k2:(q.val*q.val%4294967296 != 0)=false:=by simp;omega
  simp only [zcP,zdr,Tr.get,zmw,h1,hmf,hmv,hmask,k1,k2,Bool.not_true,cond_false,cond_true]
 ·refine ⟨q,.w .i64 (q.val+1),h1,?_,h3,h4,h5,h6,by omega,by omega,by rw [e1];omega,fun h=>by omega⟩
  simp only [zcP,zdr,Tr.get,zmw,h1,hmf,hmv,hmask,Bool.not_true,cond_false,cond_true]
  by_cases k1:q.val*q.val/4294967296=a.val
  ·have k2:(q.val*q.val%4294967296 != 0)=true:=by simp;omega
   have k3:(q.val*q.val/4294967296 != a.val)=false:=by simp [k1]
   simp only [k2,k3,cond_true,cond_false]
  ·have k3:(q.val*q.val/4294967296 != a.val)=true:=by simp [k1]
   simp only [k3,cond_true]
theorem zry {a:Iv} (ha:za a=true) (h0:0<=a.lo.val):za (zaD a)=true/\(zaD a).lo=(zdj a.lo).a/\(zaD a).hi=(zcP a.hi).a:=by
 have hb:=(zaB _).1 ha
 obtain ⟨q,p,e1,e2,h1,h2,h3,h4,h5,h6,h7,h8⟩:=zms a.lo (by omega)
 obtain ⟨q',p',e1',e2',h1',h2',h3',h4',h5',h6',h7',h8'⟩:=zms a.hi (by omega)
 have hle:q.val<=p'.val:=by
  refine znV h1 (by omega) ?_
  omega
 have hd:decide (a.lo.val<0)=false:=by simp;omega
 have e:zaD a=⟨q,p'⟩:=by
  simp only [zaD,zld,Tr.get,ha,hd,zmw,zAJ,e1,e2',Bool.not_true,cfl,ctr]
  exact zbq (by omega)
 rw [e,e1,e2']
 exact ⟨(zaB _).2 (by simp only;omega),rfl,rfl⟩
theorem zui {a:Iv} (h:za (zaD a)=true):za a=true/\0<=a.lo.val:=by
 have nw:∀ {P:Prop},za zh=true->P:=fun h=>by rw [zbD] at h;cases h
 simp only [zaD,zld,Tr.get] at h
 cases ha:za a
 ·rw [ha] at h;exact nw h
 by_cases h0:a.lo.val<0
 ·rw [ha,show decide (a.lo.val<0)=true by simpa using h0] at h;exact nw h
 ·exact ⟨rfl,by omega⟩
theorem Sub.sqrt {a a':Iv} (ha:Sub a a'):Sub (zaD a) (zaD a'):=fun h=>by
 obtain ⟨oa',n'⟩:=zui h
 obtain ⟨oa,a1,a2⟩:=ha oa'
 have hb:=(zaB _).1 oa
 have hb':=(zaB _).1 oa'
 obtain ⟨_,v1',v2'⟩:=zry oa' n'
 obtain ⟨k,v1,v2⟩:=zry oa (by omega)
 rw [v1',v2',v1,v2]
 obtain ⟨q,p,e1,e2,h1,h2,h3,h4,h5,h6,h7,h8⟩:=zms a.lo (by omega)
 obtain ⟨q',p',e1',e2',h1',h2',h3',h4',h5',h6',h7',h8'⟩:=zms a'.lo (by omega)
 obtain ⟨r,s,f1,f2,g1,g2,g3,g4,g5,g6,g7,g8⟩:=zms a.hi (by omega)
 obtain ⟨r',s',f1',f2',g1',g2',g3',g4',g5',g6',g7',g8'⟩:=zms a'.hi (by omega)
 rw [e1,e1',f2,f2']
 refine ⟨k,?_,?_⟩
 ·-- q' <= q
  simp only
  by_cases hlt:q'.val<=q.val
  ·exact hlt
  ·have:(q.val+1)*(q.val+1)<=q'.val*q'.val:=Int.mul_le_mul (by omega) (by omega) (by omega) (by omega)
   omega
 ·simp only
  by_cases hlt:s.val<=s'.val
  ·exact hlt
  ·have hs:s'.val*s'.val<=r.val*r.val:=by
    by_cases hr:s'.val<=r.val
    ·exact Int.mul_le_mul hr hr (by omega) (by omega)
    ·omega
   by_cases hrs:r.val<s.val
   ·have:=g8 hrs;omega
   ·have:s=r:=Rng.ext (by omega)
    subst this
    have h9:(s'.val+1)*(s'.val+1)<=s.val*s.val:=Int.mul_le_mul (by omega) (by omega) (by omega) (by omega)
    have h10:(s'.val+1)*(s'.val+1)=s'.val*s'.val+2*s'.val+1:=by rw [Int.add_mul,Int.mul_add,Int.one_mul,Int.mul_one];omega
    omega
theorem zKf {n y s:Int} (hn:0<=n) (hy:0<y) (h:y<=s):n/s<=n/y:=by
 rw [Int.le_ediv_iff_mul_le hy]
 have h1:=Int.ediv_nonneg hn (show 0<=s by omega)
 have h2:=Int.mul_le_mul_of_nonneg_left h h1
 have h3:=Int.ediv_mul_le n (show s≠0 by omega)
 omega
theorem zBL {n r y:Int} (hn:n<0) (hr:0<r) (h:r<=y):n/r<=n/y:=by
 rw [Int.le_ediv_iff_mul_le (show 0<y by omega)]
 have h1:n/r<=0:=by have:=Int.ediv_neg_of_neg_of_pos hn hr;omega
 have h2:=Int.mul_le_mul_of_nonpos_left h1 h
 have h3:=Int.ediv_mul_le n (show r≠0 by omega)
 omega
theorem zKE {p q r s x y:Int} (hx:p<=x/\x<=q) (hy:r<=y/\y<=s) (hr:0<r):p*4294967296/r<=x*4294967296/y\/p*4294967296/s<=x*4294967296/y:=by
 have h1:p*4294967296/y<=x*4294967296/y:=Int.ediv_le_ediv (by omega) (by omega)
 by_cases hp:0<=p
 ·have:=zKf (n:=p*4294967296) (y:=y) (s:=s) (by omega) (by omega) hy.2;right;omega
 ·have:=zBL (n:=p*4294967296) (r:=r) (y:=y) (by omega) hr hy.1;left;omega
theorem zlq {x y:I64} (hy:0<y.val) (h:(zO x y).b=true):(zO x y).a.val=x.val*4294967296/y.val:=by
 have z0:(y.val==0)=false:=by simp;omega
 have z1:decide (y.val<0)=false:=by simp;omega
 simp only [zO,zbO,Tr.get,zeL,z0,z1,cfl] at h ⊢
 cases h1:zJ x
 ·rw [h1] at h;simp [ctr] at h
 cases h2:zJ y
 ·rw [h1,h2] at h;simp [ctr,cfl] at h
 rw [h1,h2] at h
 simp only [Bool.not_true,cfl,MD,hy,if_true] at h ⊢
 unfold narrow at h ⊢
 split at h
 ·rename_i hr
  rw [if_pos hr]
  rcases zlp (.w .i64 (x.val*4294967296/y.val)) true with e|⟨e,_⟩
  ·rw [e] at h;cases h
  ·rw [e];exact wi hr.1 hr.2
 ·have:(zaJ (.w .i64 0) false).b=false:=by simp only [zaJ,zei,Tr.get,Bool.not_false,ctr]
  rw [this] at h;cases h
theorem zp8 {x y:I64} (hy:0<y.val) (h:(z8 x y).b=true):(z8 x y).a.val= -(-x.val*4294967296/y.val):=by
 simp only [z8,zdK,Tr.get] at h ⊢
 cases h1:zJ x
 ·rw [h1] at h;simp [ctr] at h
 rw [h1] at h
 simp only [Bool.not_true,cfl] at h ⊢
 have hb:=zqY h1
 have e:=zlq hy h
 have en:(Rng.w .i64 (0-x.val)).val= -x.val:=by rw [wi (by omega) (by omega)];omega
 rw [en] at e
 rcases zgm (.w .i64 (0-x.val)) y with k|⟨c,k,kc⟩
 ·rw [k] at h;cases h
 ·have kb:=zqY kc
  rw [k] at e ⊢
  simp only at e ⊢
  rw [wi (by omega) (by omega)]
  omega
theorem zv6 {x y:I64} (hx:zJ x=true) (hy:zJ y=true) (h0:0<y.val) (h: -1152921504606846976<=x.val*4294967296/y.val/\x.val*4294967296/y.val<=1152921504606846976):
  zO x y=⟨.w .i64 (x.val*4294967296/y.val),true⟩:=by
 have z0:(y.val==0)=false:=by simp;omega
 have z1:decide (y.val<0)=false:=by simp;omega
 have m:narrow (x.val*4294967296/y.val)=⟨.w .i64 (x.val*4294967296/y.val),true⟩:=zfj (by omega) (by omega)
 simp only [zO,zbO,Tr.get,zeL,hx,hy,z0,z1,Bool.not_true,cfl,MD,h0,if_true,m]
 rw [zpI (by rw [wi (by omega) (by omega)];exact h)]
theorem zId {x y:I64} (hx:zJ x=true) (hy:zJ y=true) (h0:0<y.val) (h: -1152921504606846976 <= -x.val*4294967296/y.val /\ -x.val*4294967296/y.val<=1152921504606846976):
  z8 x y=⟨.w .i64 (0 - -x.val*4294967296/y.val),true⟩:=by
 have hb:=zqY hx
 have en:(Rng.w .i64 (0-x.val)).val= -x.val:=by rw [wi (by omega) (by omega)];omega
 have e:=zv6 (x:= .w .i64 (0-x.val)) (ok3 (by rw [en];omega)) hy h0 (by rw [en];exact h)
 rw [en] at e
 simp only [z8,zdK,Tr.get,hx,e,Bool.not_true,cfl]
 rw [wi (n:= -x.val*4294967296/y.val) (by omega) (by omega)]
theorem zwc {a b:Iv} (h0:0<b.lo.val) (h:za (zo a b)=true):za a=true/\za b=true /\
  ∀x y:I64,(x=a.lo\/x=a.hi)->(y=b.lo\/y=b.hi)->(zo a b).lo.val<=x.val*4294967296/y.val /\ -(-x.val*4294967296/y.val)<=(zo a b).hi.val:=by
 have nw:∀ {P:Prop},za zh=true->P:=fun h=>by rw [zbD] at h;cases h
 simp only [zo,zho,Tr.get] at h ⊢
 cases ha:za a
 ·rw [ha] at h;exact nw h
 cases hb:za b
 ·rw [ha,hb] at h;exact nw h
 have bb:=(zaB _).1 hb
 have h0':0<b.hi.val:=by omega
 cases hz:zaO b ⟨0,rfl⟩
 case true=>rw [ha,hb,hz] at h;exact nw h
 simp only [ha,hb,hz,Bool.not_true,cfl] at h ⊢
 cases h1:(zO a.lo b.lo).b
 ·rw [h1] at h;exact nw h
 cases h2:(z8 a.lo b.lo).b
 ·rw [h1,h2] at h;exact nw h
 cases h3:(zO a.lo b.hi).b
 ·rw [h1,h2,h3] at h;exact nw h
 cases h4:(z8 a.lo b.hi).b
 ·rw [h1,h2,h3,h4] at h;exact nw h
 cases h5:(zO a.hi b.lo).b
 ·rw [h1,h2,h3,h4,h5] at h;exact nw h
 cases h6:(z8 a.hi b.lo).b
 ·rw [h1,h2,h3,h4,h5,h6] at h;exact nw h
 cases h7:(zO a.hi b.hi).b
 ·rw [h1,h2,h3,h4,h5,h6,h7] at h;exact nw h
 cases h8:(z8 a.hi b.hi).b
 ·rw [h1,h2,h3,h4,h5,h6,h7,h8] at h;exact nw h
 simp only [h1,h2,h3,h4,h5,h6,h7,h8,Bool.not_true,cfl] at h ⊢
 refine ⟨trivial,trivial,?_⟩
 have v1:=zlq h0 h1
 have v2:=zp8 h0 h2
 have v3:=zlq h0' h3
 have v4:=zp8 h0' h4
 have v5:=zlq h0 h5
 have v6:=zp8 h0 h6
 have v7:=zlq h0' h7
 have v8:=zp8 h0' h8
 generalize (zO a.lo b.lo).a=d1 at *
 generalize (zO a.lo b.hi).a=d2 at *
 generalize (zO a.hi b.lo).a=d3 at *
 generalize (zO a.hi b.hi).a=d4 at *
 generalize (z8 a.lo b.lo).a=u1 at *
 generalize (z8 a.lo b.hi).a=u2 at *
 generalize (z8 a.hi b.lo).a=u3 at *
 generalize (z8 a.hi b.hi).a=u4 at *
 have m1:=zf7 ⟨1152921504606846976,rfl⟩ d1
 have m2:=zf7 (zC ⟨1152921504606846976,rfl⟩ d1) d2
 have m3:=zf7 (zC (zC ⟨1152921504606846976,rfl⟩ d1) d2) d3
 have m4:=zf7 (zC (zC (zC ⟨1152921504606846976,rfl⟩ d1) d2) d3) d4
 have n1:=zeB ⟨-1152921504606846976,rfl⟩ u1
 have n2:=zeB (zt ⟨-1152921504606846976,rfl⟩ u1) u2
 have n3:=zeB (zt (zt ⟨-1152921504606846976,rfl⟩ u1) u2) u3
 have n4:=zeB (zt (zt (zt ⟨-1152921504606846976,rfl⟩ u1) u2) u3) u4
 generalize zC (zC (zC (zC ⟨1152921504606846976,rfl⟩ d1) d2) d3) d4=lo at *
 generalize zt (zt (zt (zt ⟨-1152921504606846976,rfl⟩ u1) u2) u3) u4=hi at *
 by_cases hm: -1152921504606846976<lo.val/\lo.val<=hi.val/\hi.val<1152921504606846976
 ·rw [zbq hm]
  simp only
  rintro x y (rfl|rfl) (rfl|rfl)
  ·omega
  ·omega
  ·omega
  ·omega
 ·rw [zi9 hm] at h;exact nw h
theorem Sub.div {a a' b b':Iv} (ha:Sub a a') (hb:Sub b b') (h0:0<b'.lo.val):Sub (zo a b) (zo a' b'):=fun h=>by
 obtain ⟨oa',ob',hc⟩:=zwc h0 h
 obtain ⟨oa,a1,a2⟩:=ha oa'
 obtain ⟨ob,b1,b2⟩:=hb ob'
 have hM:=(zaB _).1 h
 have ba:=(zaB _).1 oa
 have bb:=(zaB _).1 ob
 have c1:=hc a'.lo b'.lo (.inl rfl) (.inl rfl)
 have c2:=hc a'.lo b'.hi (.inl rfl) (.inr rfl)
 have c3:=hc a'.hi b'.lo (.inr rfl) (.inl rfl)
 have c4:=hc a'.hi b'.hi (.inr rfl) (.inr rfl)
 generalize zo a' b'=M at *
 have hz:zaO b ⟨0,rfl⟩=false:=by
  simp only [zaO,zcc,Tr.get,zdp];simp;omega
 obtain ⟨lo,hi,e,k1,k2,k3⟩:=zDy (L:=M.lo.val) (H:=M.hi.val) oa ob hz (by omega) (by omega) (fun x y hx hy=>by
  have hx':a'.lo.val<=x.val/\x.val<=a'.hi.val:=by rcases hx with rfl|rfl<;>omega
  have hy':b'.lo.val<=y.val/\y.val<=b'.hi.val:=by rcases hy with rfl|rfl<;>omega
  have ox:zJ x=true:=ok3 (by rcases hx with rfl|rfl<;>omega)
  have oy:zJ y=true:=ok3 (by rcases hy with rfl|rfl<;>omega)
  have fl:M.lo.val<=x.val*4294967296/y.val:=by
   rcases zKE hx' hy' h0 with h|h<;>omega
  have fh: -(-x.val*4294967296/y.val)<=M.hi.val:=by
   rcases zKE (p:= -a'.hi.val) (q:= -a'.lo.val) (x:= -x.val) (by omega) hy' h0 with h|h<;>omega
  have fm:x.val*4294967296/y.val <= -(-x.val*4294967296/y.val):=by
   have e1:=Int.ediv_mul_le (x.val*4294967296) (show y.val≠0 by omega)
   have e2:=Int.ediv_mul_le (-x.val*4294967296) (show y.val≠0 by omega)
   have e3:(x.val*4294967296/y.val + -x.val*4294967296/y.val)*y.val<=0:=by rw [Int.add_mul];omega
   by_cases hh:x.val*4294967296/y.val + -x.val*4294967296/y.val<=0
   ·omega
   ·have:=Int.mul_pos (show 0<x.val*4294967296/y.val + -x.val*4294967296/y.val by omega) (show 0<y.val by omega)
    omega
  have e1:=zv6 (x:=x) (y:=y) ox oy (by omega) (by omega)
  have e2:=zId (x:=x) (y:=y) ox oy (by omega) (by omega)
  refine ⟨_,_,e1,e2,?_,?_,?_⟩
  ·rw [wi (by omega) (by omega)];omega
  ·rw [wi (by omega) (by omega),wi (by omega) (by omega)];omega
  ·rw [wi (by omega) (by omega)];omega)
 rw [e]
 exact ⟨(zaB _).2 (by simp only;omega),k1,k3⟩
end Go.Proofs.YtaoakfodkoifoaaGreat.Ev
