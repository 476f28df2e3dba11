/- The law FnCartesian gives true, whatever bytes come in. No conditions. (One of the texts of its proof, put together by a program of this session.) -/
import Derived.Test.YtfcjhkkpbnobhaaGreatZW2
import Derived.Test.YtfcjhkkpbnobhaaGreatZPT
import Derived.Test.YtfcjhkkpbnobhaaGreatZEC
set_option linter.unusedSectionVars false
set_option linter.unusedSimpArgs false
set_option linter.unusedVariables false
noncomputable section
namespace Go.Proofs.YtfcjhkkpbnobhaaGreat.Ev
open Go Go.RowKit
set_option maxRecDepth 100000
section
variable [Amb]
def ET_spec_l06Over:Ent Tryz.prog:= .of2 Tb101 B101 (fun _ _=>true) zfi fun a0 a1 _=>(r_spec_l06Over a0 a1).trans (tt_over_spec a0 a1)
def B26:Bod Tryz.prog:=⟨26,Tryz.f26,Tryz.f26.body.getD .skip,Tryz.func26,by kernel_rfl,by kernel_rfl,z8.no _ _⟩
def Tb26:Tb Tryz.prog:= {T:= [Y2,Y30],mix:=mix,Es:= [ET_spec_l06Over],Bs:= [],d:=1}
def t_spec_CosI (a0:Iv):Tr (Iv):=
 .leaf (zfi a0 ⟨1,rfl⟩)
theorem r_spec_CosI (a0:Iv):Tb26.run B26 [enc a0] (Iv)=(t_spec_CosI a0).opt:=by kernel_rfl
def zd3:Iv->Iv:=fun a0=>(t_spec_CosI a0).get
theorem u_spec_CosI (a0:Iv):(t_spec_CosI a0).opt=some (zd3 a0):=Tr.zD (by kernel_rfl)
def E_spec_CosI:Ent Tryz.prog:= .of1 Tb26 B26 (fun _=>true) zd3 fun a0 _=>(r_spec_CosI a0).trans (u_spec_CosI a0)
def B118:Bod Tryz.prog:=⟨118,Tryz.f118,Tryz.f118.body.getD .skip,Tryz.func118,by kernel_rfl,by kernel_rfl,z8.no _ _⟩
def Tb118:Tb Tryz.prog:= {T:= [Y2,Y30],mix:=mix,Es:= [E_impl_circleHull],Bs:= [],d:=1}
def t_impl_CosI (a0:Iv):Tr (Iv):=
 .leaf (zaX a0 ⟨1,rfl⟩)
theorem r_impl_CosI (a0:Iv):Tb118.run B118 [enc a0] (Iv)=(t_impl_CosI a0).opt:=by kernel_rfl
def F_impl_CosI:Iv->Iv:=fun a0=>(t_impl_CosI a0).get
theorem u_impl_CosI (a0:Iv):(t_impl_CosI a0).opt=some (F_impl_CosI a0):=Tr.zD (by kernel_rfl)
def E_impl_CosI:Ent Tryz.prog:= .of1 Tb118 B118 (fun _=>true) F_impl_CosI fun a0 _=>(r_impl_CosI a0).trans (u_impl_CosI a0)
def B27:Bod Tryz.prog:=⟨27,Tryz.f27,Tryz.f27.body.getD .skip,Tryz.func27,by kernel_rfl,by kernel_rfl,z8.no _ _⟩
def Tb27:Tb Tryz.prog:= {T:= [Y2,Y30],mix:=mix,Es:= [ET_spec_l06Over],Bs:= [],d:=1}
def t_spec_SinI (a0:Iv):Tr (Iv):=
 .leaf (zfi a0 ⟨0,rfl⟩)
theorem r_spec_SinI (a0:Iv):Tb27.run B27 [enc a0] (Iv)=(t_spec_SinI a0).opt:=by kernel_rfl
def zct:Iv->Iv:=fun a0=>(t_spec_SinI a0).get
theorem u_spec_SinI (a0:Iv):(t_spec_SinI a0).opt=some (zct a0):=Tr.zD (by kernel_rfl)
def E_spec_SinI:Ent Tryz.prog:= .of1 Tb27 B27 (fun _=>true) zct fun a0 _=>(r_spec_SinI a0).trans (u_spec_SinI a0)
def B115:Bod Tryz.prog:=⟨115,Tryz.f115,Tryz.f115.body.getD .skip,Tryz.func115,by kernel_rfl,by kernel_rfl,z8.no _ _⟩
def Tb115:Tb Tryz.prog:= {T:= [Y2,Y30],mix:=mix,Es:= [E_impl_circleHull],Bs:= [],d:=1}
def t_impl_SinI (a0:Iv):Tr (Iv):=
 .leaf (zaX a0 ⟨0,rfl⟩)
theorem r_impl_SinI (a0:Iv):Tb115.run B115 [enc a0] (Iv)=(t_impl_SinI a0).opt:=by kernel_rfl
def zfZ:Iv->Iv:=fun a0=>(t_impl_SinI a0).get
theorem u_impl_SinI (a0:Iv):(t_impl_SinI a0).opt=some (zfZ a0):=Tr.zD (by kernel_rfl)
def E_impl_SinI:Ent Tryz.prog:= .of1 Tb115 B115 (fun _=>true) zfZ fun a0 _=>(r_impl_SinI a0).trans (u_impl_SinI a0)
def B283:Bod Tryz.prog:=⟨283,Tryz.f283,Tryz.f283.body.getD .skip,Tryz.func283,by kernel_rfl,by kernel_rfl,z8.no _ _⟩
def Tb283:Tb Tryz.prog:= {T:= [],mix:=mix,Es:= [],Bs:= [],d:=1}
def t_spec_l07Fix (a0:I64):Tr (Bool):=
 .br (decide ((-1152921504606846976)<a0.val)) (.leaf (decide (a0.val<1152921504606846976))) (.leaf false)
theorem r_spec_l07Fix (a0:I64):Tb283.run B283 [enc a0] (Bool)=(t_spec_l07Fix a0).opt:=by kernel_rfl
def zbb:I64->Bool:=fun a0=>(t_spec_l07Fix a0).get
theorem u_spec_l07Fix (a0:I64):(t_spec_l07Fix a0).opt=some (zbb a0):=Tr.zD (by kernel_rfl)
def E_spec_l07Fix:Ent Tryz.prog:= .of1 Tb283 B283 (fun _=>true) zbb fun a0 _=>(r_spec_l07Fix a0).trans (u_spec_l07Fix a0)
def B327:Bod Tryz.prog:=⟨327,Tryz.f327,Tryz.f327.body.getD .skip,Tryz.func327,by kernel_rfl,by kernel_rfl,z8.no _ _⟩
def Tb327:Tb Tryz.prog:= {T:= [Y2,Y30],mix:=mix,Es:= [E_spec_l05Turn],Bs:= [],d:=1}
def t_spec_l07Quarter:Tr (Iv):=
 .br (zbB ⟨1,rfl⟩) (.br (zbB ⟨1,rfl⟩) (.leaf ⟨(Rng.w .i64 (0-(zH ⟨1,rfl⟩).hi.val)),(zH ⟨1,rfl⟩).hi⟩) (.bad)) (.bad)
theorem r_spec_l07Quarter:Tb327.run B327 [] (Iv)=(t_spec_l07Quarter).opt:=by kernel_rfl
def za2:Iv:=(t_spec_l07Quarter).get
theorem u_spec_l07Quarter:(t_spec_l07Quarter).opt=some (za2):=Tr.get_some (by kernel_rfl)
def E_spec_l07Quarter:Ent Tryz.prog:= .of0 Tb327 B327 za2 (r_spec_l07Quarter.trans u_spec_l07Quarter)
def B362:Bod Tryz.prog:=⟨362,Tryz.f362,Tryz.f362.body.getD .skip,Tryz.func362,by kernel_rfl,by kernel_rfl,z8.no _ _⟩
def Tb362:Tb Tryz.prog:= {T:= [Y2,Y30],mix:=mix,Es:= [zdj,E_spec_AddI,ET_spec_SqrtI,E_spec_SqrI,E_spec_DivI],Bs:= [],d:=1}
def zfC (a0:Iv):Tr (Iv):=
 .leaf (zC a0 (zak (zB ⟨1,rfl⟩) (zbl (zak (zB ⟨1,rfl⟩) (za7 a0)))))
theorem r_spec_l07Halve (a0:Iv):Tb362.run B362 [enc a0] (Iv)=(zfC a0).opt:=by kernel_rfl
def zcM:Iv->Iv:=fun a0=>(zfC a0).get
theorem u_spec_l07Halve (a0:Iv):(zfC a0).opt=some (zcM a0):=Tr.zD (by kernel_rfl)
def E_spec_l07Halve:Ent Tryz.prog:= .of1 Tb362 B362 (fun _=>true) zcM fun a0 _=>(r_spec_l07Halve a0).trans (u_spec_l07Halve a0)
def B361:Bod Tryz.prog:=⟨361,Tryz.f361,Tryz.f361.body.getD .skip,Tryz.func361,by kernel_rfl,by kernel_rfl,z8.no _ _⟩
def Tb361:Tb Tryz.prog:= {T:= [Y2,Y30],mix:=mix,Es:= [E_spec_MulI,E_spec_AddI,E_spec_InsideI,zd9,E_spec_SqrI,zcV,ET_spec_Quotient,E_spec_l06Tiny],Bs:= [],d:=1}
def zeY (a0:Iv):Tr (Iv):=
 .br (!(zaU a0 ⟨⟨(-1073741824),rfl⟩,⟨1073741824,rfl⟩⟩)) (.leaf zaD) (let c3:=za7 a0;.leaf (zak (zS a0 (zO (zau ⟨1,rfl⟩ ⟨1,rfl⟩) (zS c3 (zO (zau ⟨1,rfl⟩ ⟨3,rfl⟩) (zS c3 (zO (zau ⟨1,rfl⟩ ⟨5,rfl⟩) (zS c3 (zO (zau ⟨1,rfl⟩ ⟨7,rfl⟩) (zS c3 (zO (zau ⟨1,rfl⟩ ⟨9,rfl⟩) (zS c3 (zO (zau ⟨1,rfl⟩ ⟨11,rfl⟩) (zS c3 (zO (zau ⟨1,rfl⟩ ⟨13,rfl⟩) (zS c3 (zO (zau ⟨1,rfl⟩ ⟨15,rfl⟩) (zS c3 (zO (zau ⟨1,rfl⟩ ⟨17,rfl⟩) (zS c3 (zO (zau ⟨1,rfl⟩ ⟨19,rfl⟩) (zS c3 (zau ⟨1,rfl⟩ ⟨21,rfl⟩)))))))))))))))))))))) zbp))
theorem r_spec_ArcSeries (a0:Iv):Tb361.run B361 [enc a0] (Iv)=(zeY a0).opt:=by kernel_rfl
def zc0:Iv->Iv:=fun a0=>(zeY a0).get
theorem u_spec_ArcSeries (a0:Iv):(zeY a0).opt=some (zc0 a0):=Tr.zD (by kernel_rfl)
def E_spec_ArcSeries:Ent Tryz.prog:= .of1 Tb361 B361 (fun _=>true) zc0 fun a0 _=>(r_spec_ArcSeries a0).trans (u_spec_ArcSeries a0)
def B360:Bod Tryz.prog:=⟨360,Tryz.f360,Tryz.f360.body.getD .skip,Tryz.func360,by kernel_rfl,by kernel_rfl,z8.no _ _⟩
def Tb360:Tb Tryz.prog:= {T:= [Y2,Y30],mix:=mix,Es:= [zaK,zbq,zbg],Bs:= [],d:=1}
def t_spec_DoubleI (a0:Iv):Tr (Iv):=
 .br (!(ze a0)) (.leaf zm) (.leaf (zav (Rng.w .i64 (2*a0.lo.val)) (Rng.w .i64 (2*a0.hi.val))))
theorem r_spec_DoubleI (a0:Iv):Tb360.run B360 [enc a0] (Iv)=(t_spec_DoubleI a0).opt:=by kernel_rfl
def zbV:Iv->Iv:=fun a0=>(t_spec_DoubleI a0).get
theorem u_spec_DoubleI (a0:Iv):(t_spec_DoubleI a0).opt=some (zbV a0):=Tr.zD (by kernel_rfl)
def E_spec_DoubleI:Ent Tryz.prog:= .of1 Tb360 B360 (fun _=>true) zbV fun a0 _=>(r_spec_DoubleI a0).trans (u_spec_DoubleI a0)
def B349:Bod Tryz.prog:=⟨349,Tryz.f349,Tryz.f349.body.getD .skip,Tryz.func349,by kernel_rfl,by kernel_rfl,z8.no _ _⟩
def Tb349:Tb Tryz.prog:= {T:= [Y2,Y30],mix:=mix,Es:= [E_spec_DoubleI,E_spec_ArcSeries,E_spec_l07Halve],Bs:= [],d:=1}
def t_spec_l07Core (a0:Iv):Tr (Iv):=
 .leaf (zbV (zbV (zc0 (zcM (zcM a0)))))
theorem r_spec_l07Core (a0:Iv):Tb349.run B349 [enc a0] (Iv)=(t_spec_l07Core a0).opt:=by kernel_rfl
def zbU:Iv->Iv:=fun a0=>(t_spec_l07Core a0).get
theorem u_spec_l07Core (a0:Iv):(t_spec_l07Core a0).opt=some (zbU a0):=Tr.zD (by kernel_rfl)
def E_spec_l07Core:Ent Tryz.prog:= .of1 Tb349 B349 (fun _=>true) zbU fun a0 _=>(r_spec_l07Core a0).trans (u_spec_l07Core a0)
def B328:Bod Tryz.prog:=⟨328,Tryz.f328,Tryz.f328.body.getD .skip,Tryz.func328,by kernel_rfl,by kernel_rfl,z8.no _ _⟩
def Tb328_p:Tb Tryz.prog:= {T:= [Y2,Y30],mix:=mix,Es:= [zdj,ET_spec_TurnI,zd9,E_spec_DivI,E_spec_l05At,E_spec_l07Fix,E_spec_l07Quarter,E_spec_l07Core],Bs:= [],d:=1}
def zen (a0:I64):Tr (Iv):=
 .br (!(zbb a0)) (.leaf za2) (.br (decide (a0.val<0)) (.bad) (.br (decide (a0.val>4294967296)) (.leaf (zO (zU ⟨1,rfl⟩) (zbU (zC (zB ⟨1,rfl⟩) (zo a0))))) (.leaf (zbU (zo a0)))))
theorem r_spec_AtanAt_p (a0:I64):Tb328_p.run B328 [enc a0] (Iv)=(zen a0).opt:=by kernel_rfl
def zcQ:I64->Iv:=fun a0=>(zen a0).get
def zev:I64->Bool:=fun a0=>(zen a0).opt.isSome
def E_spec_AtanAt_p:Ent Tryz.prog:= .of1 Tb328_p B328 zev zcQ fun a0 h=>(r_spec_AtanAt_p a0).trans (Tr.get_some h)
def Tb328:Tb Tryz.prog:= {T:= [Y2,Y30],mix:=mix,Es:= [zdj,ET_spec_TurnI,E_spec_NegI,zd9,E_spec_DivI,E_spec_l05At,E_spec_l07Fix,E_spec_l07Quarter,E_spec_AtanAt_p,E_spec_l07Core],Bs:= [],d:=1}
def zeL (a0:I64):Tr (Iv):=
 .br (!(zbb a0)) (.leaf za2) (.br (decide (a0.val<0)) (let c3:=(Rng.w .i64 (0-a0.val));.br (zev c3) (.leaf (zaZ (zcQ c3))) (.bad)) (.br (decide (a0.val>4294967296)) (.leaf (zO (zU ⟨1,rfl⟩) (zbU (zC (zB ⟨1,rfl⟩) (zo a0))))) (.leaf (zbU (zo a0)))))
theorem r_spec_AtanAt (a0:I64):Tb328.run B328 [enc a0] (Iv)=(zeL a0).opt:=by kernel_rfl
def zcj:I64->Iv:=fun a0=>(zeL a0).get
def B255:Bod Tryz.prog:=⟨255,Tryz.f255,Tryz.f255.body.getD .skip,Tryz.func255,by kernel_rfl,by kernel_rfl,z8.no _ _⟩
def Tb255:Tb Tryz.prog:= {T:= [],mix:=mix,Es:= [],Bs:= [],d:=1}
def t_impl_isOpen (a0:I64):Tr (Bool):=
 .br (decide ((-1152921504606846976)<a0.val)) (.leaf (decide (a0.val<1152921504606846976))) (.leaf false)
theorem r_impl_isOpen (a0:I64):Tb255.run B255 [enc a0] (Bool)=(t_impl_isOpen a0).opt:=by kernel_rfl
def zeS:I64->Bool:=fun a0=>(t_impl_isOpen a0).get
theorem u_impl_isOpen (a0:I64):(t_impl_isOpen a0).opt=some (zeS a0):=Tr.zD (by kernel_rfl)
def E_impl_isOpen:Ent Tryz.prog:= .of1 Tb255 B255 (fun _=>true) zeS fun a0 _=>(r_impl_isOpen a0).trans (u_impl_isOpen a0)
def B296:Bod Tryz.prog:=⟨296,Tryz.f296,Tryz.f296.body.getD .skip,Tryz.func296,by kernel_rfl,by kernel_rfl,z8.no _ _⟩
def Tb296:Tb Tryz.prog:= {T:= [Y2,Y30],mix:=mix,Es:= [zeW],Bs:= [],d:=1}
def t_impl_halfCircle:Tr (Iv):=
 .leaf ⟨(Rng.w .i64 (0-(za1 ⟨1,rfl⟩).hi.val)),(za1 ⟨1,rfl⟩).hi⟩
theorem r_impl_halfCircle:Tb296.run B296 [] (Iv)=(t_impl_halfCircle).opt:=by kernel_rfl
def zb8:Iv:=(t_impl_halfCircle).get
theorem u_impl_halfCircle:(t_impl_halfCircle).opt=some (zb8):=Tr.zD (by kernel_rfl)
def E_impl_halfCircle:Ent Tryz.prog:= .of0 Tb296 B296 zb8 (r_impl_halfCircle.trans u_impl_halfCircle)
def B354:Bod Tryz.prog:=⟨354,Tryz.f354,Tryz.f354.body.getD .skip,Tryz.func354,by kernel_rfl,by kernel_rfl,z8.no _ _⟩
def Tb354:Tb Tryz.prog:= {T:= [Y2,Y30],mix:=mix,Es:= [zeb,zeV,ET_impl_SqrtI,E_impl_DivI,ET_impl_SqrI],Bs:= [],d:=1}
def t_impl_halved (a0:Iv):Tr (Iv):=
 .leaf (za9 a0 (zbt (zaj ⟨1,rfl⟩) (zfX (zbt (zaj ⟨1,rfl⟩) (zfY a0)))))
theorem r_impl_halved (a0:Iv):Tb354.run B354 [enc a0] (Iv)=(t_impl_halved a0).opt:=by kernel_rfl
def F_impl_halved:Iv->Iv:=fun a0=>(t_impl_halved a0).get
theorem u_impl_halved (a0:Iv):(t_impl_halved a0).opt=some (F_impl_halved a0):=Tr.zD (by kernel_rfl)
def E_impl_halved:Ent Tryz.prog:= .of1 Tb354 B354 (fun _=>true) F_impl_halved fun a0 _=>(r_impl_halved a0).trans (u_impl_halved a0)
def B353:Bod Tryz.prog:=⟨353,Tryz.f353,Tryz.f353.body.getD .skip,Tryz.func353,by kernel_rfl,by kernel_rfl,z8.no _ _⟩
def Tb353:Tb Tryz.prog:= {T:= [Y2,Y30],mix:=mix,Es:= [zeV,zeK,zea,zaz,ET_impl_Quotient,ET_impl_SqrI,E_impl_InsideI,E_impl_tiny],Bs:= [],d:=1}
def t_impl_ArcSeries (a0:Iv):Tr (Iv):=
 .br (!(zd6 a0 ⟨⟨(-1073741824),rfl⟩,⟨1073741824,rfl⟩⟩)) (.leaf zM) (let c3:=zfY a0;.leaf (zbt (zas a0 (zax (zaI ⟨1,rfl⟩ ⟨1,rfl⟩) (zas c3 (zax (zaI ⟨1,rfl⟩ ⟨3,rfl⟩) (zas c3 (zax (zaI ⟨1,rfl⟩ ⟨5,rfl⟩) (zas c3 (zax (zaI ⟨1,rfl⟩ ⟨7,rfl⟩) (zas c3 (zax (zaI ⟨1,rfl⟩ ⟨9,rfl⟩) (zas c3 (zax (zaI ⟨1,rfl⟩ ⟨11,rfl⟩) (zas c3 (zax (zaI ⟨1,rfl⟩ ⟨13,rfl⟩) (zas c3 (zax (zaI ⟨1,rfl⟩ ⟨15,rfl⟩) (zas c3 (zax (zaI ⟨1,rfl⟩ ⟨17,rfl⟩) (zas c3 (zax (zaI ⟨1,rfl⟩ ⟨19,rfl⟩) (zas c3 (zaI ⟨1,rfl⟩ ⟨21,rfl⟩)))))))))))))))))))))) F_impl_tiny))
theorem r_impl_ArcSeries (a0:Iv):Tb353.run B353 [enc a0] (Iv)=(t_impl_ArcSeries a0).opt:=by kernel_rfl
def zfb:Iv->Iv:=fun a0=>(t_impl_ArcSeries a0).get
theorem u_impl_ArcSeries (a0:Iv):(t_impl_ArcSeries a0).opt=some (zfb a0):=Tr.zD (by kernel_rfl)
def E_impl_ArcSeries:Ent Tryz.prog:= .of1 Tb353 B353 (fun _=>true) zfb fun a0 _=>(r_impl_ArcSeries a0).trans (u_impl_ArcSeries a0)
def B337:Bod Tryz.prog:=⟨337,Tryz.f337,Tryz.f337.body.getD .skip,Tryz.func337,by kernel_rfl,by kernel_rfl,z8.no _ _⟩
def Tb337:Tb Tryz.prog:= {T:= [Y2,Y30],mix:=mix,Es:= [zeV],Bs:= [],d:=1}
def t_impl_DoubleI (a0:Iv):Tr (Iv):=
 .leaf (zbt a0 a0)
theorem r_impl_DoubleI (a0:Iv):Tb337.run B337 [enc a0] (Iv)=(t_impl_DoubleI a0).opt:=by kernel_rfl
def zfo:Iv->Iv:=fun a0=>(t_impl_DoubleI a0).get
theorem u_impl_DoubleI (a0:Iv):(t_impl_DoubleI a0).opt=some (zfo a0):=Tr.zD (by kernel_rfl)
def E_impl_DoubleI:Ent Tryz.prog:= .of1 Tb337 B337 (fun _=>true) zfo fun a0 _=>(r_impl_DoubleI a0).trans (u_impl_DoubleI a0)
def B334:Bod Tryz.prog:=⟨334,Tryz.f334,Tryz.f334.body.getD .skip,Tryz.func334,by kernel_rfl,by kernel_rfl,z8.no _ _⟩
def Tb334:Tb Tryz.prog:= {T:= [Y2,Y30],mix:=mix,Es:= [E_impl_DoubleI,E_impl_ArcSeries,E_impl_halved],Bs:= [],d:=1}
def t_impl_fourfold (a0:Iv):Tr (Iv):=
 .leaf (zfo (zfo (zfb (F_impl_halved (F_impl_halved a0)))))
theorem r_impl_fourfold (a0:Iv):Tb334.run B334 [enc a0] (Iv)=(t_impl_fourfold a0).opt:=by kernel_rfl
def zcR:Iv->Iv:=fun a0=>(t_impl_fourfold a0).get
theorem u_impl_fourfold (a0:Iv):(t_impl_fourfold a0).opt=some (zcR a0):=Tr.zD (by kernel_rfl)
def E_impl_fourfold:Ent Tryz.prog:= .of1 Tb334 B334 (fun _=>true) zcR fun a0 _=>(r_impl_fourfold a0).trans (u_impl_fourfold a0)
def B297:Bod Tryz.prog:=⟨297,Tryz.f297,Tryz.f297.body.getD .skip,Tryz.func297,by kernel_rfl,by kernel_rfl,z8.no _ _⟩
def Tb297_p:Tb Tryz.prog:= {T:= [Y2,Y30],mix:=mix,Es:= [zeb,zea,E_impl_DivI,E_impl_at,zeW,E_impl_isOpen,E_impl_halfCircle,E_impl_fourfold],Bs:= [],d:=1}
def zfO (a0:I64):Tr (Iv):=
 .br (!(zeS a0)) (.leaf zb8) (.br (decide (a0.val<0)) (.bad) (.br (decide (a0.val>4294967296)) (.leaf (zax (za1 ⟨1,rfl⟩) (zcR (za9 (zaj ⟨1,rfl⟩) (zbK a0))))) (.leaf (zcR (zbK a0)))))
theorem r_impl_AtanAt_p (a0:I64):Tb297_p.run B297 [enc a0] (Iv)=(zfO a0).opt:=by kernel_rfl
def F_impl_AtanAt_p:I64->Iv:=fun a0=>(zfO a0).get
def G_impl_AtanAt_p:I64->Bool:=fun a0=>(zfO a0).opt.isSome
def E_impl_AtanAt_p:Ent Tryz.prog:= .of1 Tb297_p B297 G_impl_AtanAt_p F_impl_AtanAt_p fun a0 h=>(r_impl_AtanAt_p a0).trans (Tr.get_some h)
def Tb297:Tb Tryz.prog:= {T:= [Y2,Y30],mix:=mix,Es:= [zeb,zea,E_impl_DivI,E_impl_NegI,E_impl_at,zeW,E_impl_isOpen,E_impl_halfCircle,E_impl_AtanAt_p,E_impl_fourfold],Bs:= [],d:=1}
def t_impl_AtanAt (a0:I64):Tr (Iv):=
 .br (!(zeS a0)) (.leaf zb8) (.br (decide (a0.val<0)) (let c3:=(Rng.w .i64 (0-a0.val));.br (G_impl_AtanAt_p c3) (.leaf (zd5 (F_impl_AtanAt_p c3))) (.bad)) (.br (decide (a0.val>4294967296)) (.leaf (zax (za1 ⟨1,rfl⟩) (zcR (za9 (zaj ⟨1,rfl⟩) (zbK a0))))) (.leaf (zcR (zbK a0)))))
theorem r_impl_AtanAt (a0:I64):Tb297.run B297 [enc a0] (Iv)=(t_impl_AtanAt a0).opt:=by kernel_rfl
def zeU:I64->Iv:=fun a0=>(t_impl_AtanAt a0).get
def Y40:TyE Tryz.prog:=⟨40,6,(.struct [(0,30,2),(2,30,2),(4,30,2)]),[.i64 ⟨0,rfl⟩,.i64 ⟨0,rfl⟩,.i64 ⟨0,rfl⟩,.i64 ⟨0,rfl⟩,.i64 ⟨0,rfl⟩,.i64 ⟨0,rfl⟩],false,by kernel_rfl,by kernel_rfl,by kernel_rfl,by kernel_rfl,by kernel_rfl,by kernel_rfl⟩
end
end Go.Proofs.YtfcjhkkpbnobhaaGreat.Ev
namespace Go.Proofs.YtfcjhkkpbnobhaaGreat.Ev
open Go
theorem quot_eq (a b:I64):zaI a b=zau a b:=(q_F_impl a b).trans (q_F_spec a b).symm
theorem radians_eq (n:I64):zfa n=zP n:=by
 have h:=rad_eq n
 have h2:=tt_rad_spec n
 have h1:=tt_rad_impl n
 rw [h.1,h2] at h1
 exact (Option.some.inj h1).symm
theorem cosI_eq (x:Iv):F_impl_CosI x=zd3 x:=by simp only [F_impl_CosI,t_impl_CosI,zd3,t_spec_CosI,Tr.get,over_eq]
theorem sinI_eq (x:Iv):zfZ x=zct x:=by simp only [zfZ,t_impl_SinI,zct,t_spec_SinI,Tr.get,over_eq]
theorem double_eq (a:Iv):zfo a=zbV a:=by
 simp only [zfo,t_impl_DoubleI,zbV,t_spec_DoubleI,Tr.get,add_eq,zak,zfK]
 cases ze a
 ·rfl
 simp only [Bool.not_true,cond_false]
 have e1:a.lo.val+a.lo.val=2*a.lo.val:=by omega
 have e2:a.hi.val+a.hi.val=2*a.hi.val:=by omega
 rw [e1,e2]
theorem halve_eq (a:Iv):F_impl_halved a=zcM a:=by
 simp only [F_impl_halved,t_impl_halved,zcM,zfC,Tr.get,add_eq,divI_F,integer_eq,sqrtI_eq,sqrI_F]
theorem arcs_eq (a:Iv):zfb a=zc0 a:=by
 simp only [zfb,t_impl_ArcSeries,zc0,zeY,Tr.get,add_eq,sub_eq,mulI_F,sqrI_F,quot_eq,tiny_eq,inside_eq,zbX,zc6]
theorem core_eq (a:Iv):zcR a=zbU a:=by
 simp only [zcR,t_impl_fourfold,zbU,t_spec_l07Core,Tr.get,double_eq,arcs_eq,halve_eq]
theorem fix_eq (n:I64):zeS n=zbb n:=rfl
theorem fix_iff (n:I64):zbb n=true↔(-1152921504606846976<n.val/\n.val<1152921504606846976):=by
 simp only [zbb,t_spec_l07Fix,Tr.get]
 by_cases h1:(-1152921504606846976:Int)<n.val<;>simp [h1]
theorem turn_in {k:I64} (h: -4096<=k.val) (h':k.val<=4096):zbB k=true/\zU k=zH k:=by
 obtain ⟨x,h1,h2,h3⟩:=turn_ok k h h'
 have g:zbB k=true:=by unfold zbB;rw [h1];rfl
 have hi:zar k ⟨(-4096),rfl⟩ ⟨4096,rfl⟩=true:=by rw [ze5];simpa using ⟨h,h'⟩
 exact ⟨g,by simp only [zU,zfG,Tr.get,hi,g,Bool.not_true,cond_false,cond_true]⟩
theorem half_eq:zb8=za2:=by
 obtain ⟨g,e⟩:=turn_in (k:=⟨1,rfl⟩) (by decide) (by decide)
 simp only [zb8,t_impl_halfCircle,za2,t_spec_l07Quarter,Tr.get,turnI_eq,e,g,cond_true]
theorem atanp_ok (n:I64) (h:¬n.val<0):(zen n).opt=some (zcQ n)/\(zfO n).opt=some (zcQ n):=by
 have hn:decide (n.val<0)=false:=by simpa using h
 simp only [zen,zfO,zcQ,Tr.opt,Tr.get,hn,cond_false,fix_eq,half_eq,sub_eq,turnI_eq,core_eq,divI_F,integer_eq,at_eq]
 cases zbb n<;>cases decide (n.val>4294967296)<;>exact ⟨rfl,rfl⟩
theorem atan_ok (n:I64):∃x,(zeL n).opt=some x/\(t_impl_AtanAt n).opt=some x:=by
 simp only [zeL,t_impl_AtanAt,Tr.opt,fix_eq,half_eq,sub_eq,turnI_eq,core_eq,divI_F,integer_eq,at_eq]
 cases hf:zbb n
 ·exact ⟨_,rfl,rfl⟩
 have hb:=(fix_iff n).1 hf
 by_cases hn:n.val<0
 ·have e1:(Rng.w .i64 (0-n.val)).val=0-n.val:=wi (by omega) (by omega)
  obtain ⟨a1,a2⟩:=atanp_ok (.w .i64 (0-n.val)) (by omega)
  have g1:zev (.w .i64 (0-n.val))=true:=by unfold zev;rw [a1];rfl
  have g2:G_impl_AtanAt_p (.w .i64 (0-n.val))=true:=by unfold G_impl_AtanAt_p;rw [a2];rfl
  have f2:F_impl_AtanAt_p (.w .i64 (0-n.val))=zcQ (.w .i64 (0-n.val)):=Tr.zaB a2
  simp only [hn,decide_true,cond_true,g1,g2,f2,neg_eq,Bool.not_true,cond_false]
  exact ⟨_,rfl,rfl⟩
 ·simp only [hn,decide_false,cond_false,Bool.not_true]
  cases decide (n.val>4294967296)<;>exact ⟨_,rfl,rfl⟩
theorem atan_eq (n:I64):zeU n=zcj n:=by
 obtain ⟨x,h1,h2⟩:=atan_ok n
 exact (Tr.zaB h2).trans (Tr.zaB h1).symm
theorem tt_atan_spec (n:I64):(zeL n).opt=some (zcj n):=by obtain ⟨x,h1,_⟩:=atan_ok n;exact zdO h1
theorem tt_atan_impl (n:I64):(t_impl_AtanAt n).opt=some (zeU n):=by obtain ⟨x,_,h1⟩:=atan_ok n;exact zdO h1
end Go.Proofs.YtfcjhkkpbnobhaaGreat.Ev
namespace Go.Proofs.YtfcjhkkpbnobhaaGreat.Ev
open Go Go.RowKit
set_option maxRecDepth 100000
section
variable [Amb]
def ET_spec_AtanAt:Ent Tryz.prog:= .of1 Tb328 B328 (fun _=>true) zcj fun a0 _=>(r_spec_AtanAt a0).trans (tt_atan_spec a0)
def ET_impl_AtanAt:Ent Tryz.prog:= .of1 Tb297 B297 (fun _=>true) zeU fun a0 _=>(r_impl_AtanAt a0).trans (tt_atan_impl a0)
def B58:Bod Tryz.prog:=⟨58,Tryz.f58,Tryz.f58.body.getD .skip,Tryz.func58,by kernel_rfl,by kernel_rfl,z8.no _ _⟩
def Tb58:Tb Tryz.prog:= {T:= [Y2,Y30],mix:=mix,Es:= [zaK,zbq,zbg,E_spec_l04Ends],Bs:= [],d:=1}
def t_spec_AbsI (a0:Iv):Tr (Iv):=
 .br (!(ze a0)) (.leaf zm) (let c3:=zL a0;.leaf (zav c3.a c3.b))
theorem r_spec_AbsI (a0:Iv):Tb58.run B58 [enc a0] (Iv)=(t_spec_AbsI a0).opt:=by kernel_rfl
def F_spec_AbsI:Iv->Iv:=fun a0=>(t_spec_AbsI a0).get
theorem u_spec_AbsI (a0:Iv):(t_spec_AbsI a0).opt=some (F_spec_AbsI a0):=Tr.zD (by kernel_rfl)
def E_spec_AbsI:Ent Tryz.prog:= .of1 Tb58 B58 (fun _=>true) F_spec_AbsI fun a0 _=>(r_spec_AbsI a0).trans (u_spec_AbsI a0)
def B130:Bod Tryz.prog:=⟨130,Tryz.f130,Tryz.f130.body.getD .skip,Tryz.func130,by kernel_rfl,by kernel_rfl,z8.no _ _⟩
def Tb130:Tb Tryz.prog:= {T:= [Y30],mix:=mix,Es:= [zbg],Bs:= [],d:=1}
def t_spec_IsWhole (a0:Iv):Tr (Bool):=
 .leaf (!(ze a0))
theorem r_spec_IsWhole (a0:Iv):Tb130.run B130 [enc a0] (Bool)=(t_spec_IsWhole a0).opt:=by kernel_rfl
def zbF:Iv->Bool:=fun a0=>(t_spec_IsWhole a0).get
theorem u_spec_IsWhole (a0:Iv):(t_spec_IsWhole a0).opt=some (zbF a0):=Tr.zD (by kernel_rfl)
def E_spec_IsWhole:Ent Tryz.prog:= .of1 Tb130 B130 (fun _=>true) zbF fun a0 _=>(r_spec_IsWhole a0).trans (u_spec_IsWhole a0)
def B284:Bod Tryz.prog:=⟨284,Tryz.f284,Tryz.f284.body.getD .skip,Tryz.func284,by kernel_rfl,by kernel_rfl,z8.no _ _⟩
def Tb284:Tb Tryz.prog:= {T:= [Y2,Y30],mix:=mix,Es:= [E_spec_IsWhole,E_spec_HullI,E_spec_l07Quarter,ET_spec_AtanAt],Bs:= [],d:=1}
def t_spec_AtanI (a0:Iv):Tr (Iv):=
 .br (zbF a0) (.leaf za2) (.leaf (zV (zcj a0.lo) (zcj a0.hi)))
theorem r_spec_AtanI (a0:Iv):Tb284.run B284 [enc a0] (Iv)=(t_spec_AtanI a0).opt:=by kernel_rfl
def zac:Iv->Iv:=fun a0=>(t_spec_AtanI a0).get
theorem u_spec_AtanI (a0:Iv):(t_spec_AtanI a0).opt=some (zac a0):=Tr.zD (by kernel_rfl)
def E_spec_AtanI:Ent Tryz.prog:= .of1 Tb284 B284 (fun _=>true) zac fun a0 _=>(r_spec_AtanI a0).trans (u_spec_AtanI a0)
def B236:Bod Tryz.prog:=⟨236,Tryz.f236,Tryz.f236.body.getD .skip,Tryz.func236,by kernel_rfl,by kernel_rfl,z8.no _ _⟩
def Tb236:Tb Tryz.prog:= {T:= [Y2,Y30],mix:=mix,Es:= [zbW,E_impl_HullI,E_impl_halfCircle,ET_impl_AtanAt],Bs:= [],d:=1}
def t_impl_AtanI (a0:Iv):Tr (Iv):=
 .br (zan a0) (.leaf zb8) (.leaf (zaw (zeU a0.lo) (zeU a0.hi)))
theorem r_impl_AtanI (a0:Iv):Tb236.run B236 [enc a0] (Iv)=(t_impl_AtanI a0).opt:=by kernel_rfl
def zcU:Iv->Iv:=fun a0=>(t_impl_AtanI a0).get
theorem u_impl_AtanI (a0:Iv):(t_impl_AtanI a0).opt=some (zcU a0):=Tr.zD (by kernel_rfl)
def E_impl_AtanI:Ent Tryz.prog:= .of1 Tb236 B236 (fun _=>true) zcU fun a0 _=>(r_impl_AtanI a0).trans (u_impl_AtanI a0)
def B18:Bod Tryz.prog:=⟨18,Tryz.f18,Tryz.f18.body.getD .skip,Tryz.func18,by kernel_rfl,by kernel_rfl,z8.no _ _⟩
def Tb18:Tb Tryz.prog:= {T:= [Y30],mix:=mix,Es:= [zbg,E_spec_l04Has],Bs:= [],d:=1}
def t_spec_HasI (a0:Iv) (a1:I64):Tr (Bool):=
 .br (!(ze a0)) (.leaf true) (.leaf (zaT a0 a1))
theorem r_spec_HasI (a0:Iv) (a1:I64):Tb18.run B18 [enc a0,enc a1] (Bool)=(t_spec_HasI a0 a1).opt:=by kernel_rfl
def zfV:Iv->I64->Bool:=fun a0 a1=>(t_spec_HasI a0 a1).get
theorem u_spec_HasI (a0:Iv) (a1:I64):(t_spec_HasI a0 a1).opt=some (zfV a0 a1):=Tr.zD (by kernel_rfl)
def E_spec_HasI:Ent Tryz.prog:= .of2 Tb18 B18 (fun _ _=>true) zfV fun a0 a1 _=>(r_spec_HasI a0 a1).trans (u_spec_HasI a0 a1)
def B214:Bod Tryz.prog:=⟨214,Tryz.f214,Tryz.f214.body.getD .skip,Tryz.func214,by kernel_rfl,by kernel_rfl,z8.no _ _⟩
def Tb214:Tb Tryz.prog:= {T:= [Y2,Y30],mix:=mix,Es:= [E_spec_AddI,ET_spec_TurnI,zd9,zcV,E_spec_DivI,E_spec_l05At,E_spec_l07Fix,E_spec_AtanI],Bs:= [],d:=1}
def zfq (a0:I64) (a1:I64):Tr (Iv):=
 .br (!(zbb a0)) (.leaf zaD) (.br (!(zbb a1)) (.leaf zaD) (.br (a1.val==0) (.br (a0.val==0) (.leaf zaD) (.br (decide (a0.val<0)) (let c6:=(Rng.w .i64 (0-a0.val));.br (decide (c6.val>a1.val)) (.br (decide (c6.val>(Rng.w .i64 (0-a1.val)).val)) (.br (decide (a0.val<0)) (.leaf (zO (zU ⟨(-1),rfl⟩) (zac (zC (zo a1) (zo a0))))) (.leaf (zO (zU ⟨1,rfl⟩) (zac (zC (zo a1) (zo a0)))))) (.br (decide (a1.val>0)) (.leaf (zac (zC (zo a0) (zo a1)))) (.br (decide (a0.val<0)) (.leaf (zak (zac (zC (zo a0) (zo a1))) (zU ⟨(-2),rfl⟩))) (.leaf (zak (zac (zC (zo a0) (zo a1))) (zU ⟨2,rfl⟩)))))) (.br (decide (a1.val>0)) (.leaf (zac (zC (zo a0) (zo a1)))) (.br (decide (a0.val<0)) (.leaf (zak (zac (zC (zo a0) (zo a1))) (zU ⟨(-2),rfl⟩))) (.leaf (zak (zac (zC (zo a0) (zo a1))) (zU ⟨2,rfl⟩)))))) (.br (decide (a0.val>a1.val)) (.br (decide (a0.val>(Rng.w .i64 (0-a1.val)).val)) (.br (decide (a0.val<0)) (.leaf (zO (zU ⟨(-1),rfl⟩) (zac (zC (zo a1) (zo a0))))) (.leaf (zO (zU ⟨1,rfl⟩) (zac (zC (zo a1) (zo a0)))))) (.br (decide (a1.val>0)) (.leaf (zac (zC (zo a0) (zo a1)))) (.br (decide (a0.val<0)) (.leaf (zak (zac (zC (zo a0) (zo a1))) (zU ⟨(-2),rfl⟩))) (.leaf (zak (zac (zC (zo a0) (zo a1))) (zU ⟨2,rfl⟩)))))) (.br (decide (a1.val>0)) (.leaf (zac (zC (zo a0) (zo a1)))) (.br (decide (a0.val<0)) (.leaf (zak (zac (zC (zo a0) (zo a1))) (zU ⟨(-2),rfl⟩))) (.leaf (zak (zac (zC (zo a0) (zo a1))) (zU ⟨2,rfl⟩)))))))) (.br (decide (a0.val<0)) (let c101:=(Rng.w .i64 (0-a0.val));.br (decide (c101.val>a1.val)) (.br (decide (c101.val>(Rng.w .i64 (0-a1.val)).val)) (.br (decide (a0.val<0)) (.leaf (zO (zU ⟨(-1),rfl⟩) (zac (zC (zo a1) (zo a0))))) (.leaf (zO (zU ⟨1,rfl⟩) (zac (zC (zo a1) (zo a0)))))) (.br (decide (a1.val>0)) (.leaf (zac (zC (zo a0) (zo a1)))) (.br (decide (a0.val<0)) (.leaf (zak (zac (zC (zo a0) (zo a1))) (zU ⟨(-2),rfl⟩))) (.leaf (zak (zac (zC (zo a0) (zo a1))) (zU ⟨2,rfl⟩)))))) (.br (decide (a1.val>0)) (.leaf (zac (zC (zo a0) (zo a1)))) (.br (decide (a0.val<0)) (.leaf (zak (zac (zC (zo a0) (zo a1))) (zU ⟨(-2),rfl⟩))) (.leaf (zak (zac (zC (zo a0) (zo a1))) (zU ⟨2,rfl⟩)))))) (.br (decide (a0.val>a1.val)) (.br (decide (a0.val>(Rng.w .i64 (0-a1.val)).val)) (.br (decide (a0.val<0)) (.leaf (zO (zU ⟨(-1),rfl⟩) (zac (zC (zo a1) (zo a0))))) (.leaf (zO (zU ⟨1,rfl⟩) (zac (zC (zo a1) (zo a0)))))) (.br (decide (a1.val>0)) (.leaf (zac (zC (zo a0) (zo a1)))) (.br (decide (a0.val<0)) (.leaf (zak (zac (zC (zo a0) (zo a1))) (zU ⟨(-2),rfl⟩))) (.leaf (zak (zac (zC (zo a0) (zo a1))) (zU ⟨2,rfl⟩)))))) (.br (decide (a1.val>0)) (.leaf (zac (zC (zo a0) (zo a1)))) (.br (decide (a0.val<0)) (.leaf (zak (zac (zC (zo a0) (zo a1))) (zU ⟨(-2),rfl⟩))) (.leaf (zak (zac (zC (zo a0) (zo a1))) (zU ⟨2,rfl⟩)))))))))
theorem r_spec_DirectionAt (a0:I64) (a1:I64):Tb214.run B214 [enc a0,enc a1] (Iv)=(zfq a0 a1).opt:=by kernel_rfl
def zJ:I64->I64->Iv:=fun a0 a1=>(zfq a0 a1).get
theorem u_spec_DirectionAt (a0:I64) (a1:I64):(zfq a0 a1).opt=some (zJ a0 a1):=Tr.zD (by kernel_rfl)
def E_spec_DirectionAt:Ent Tryz.prog:= .of2 Tb214 B214 (fun _ _=>true) zJ fun a0 a1 _=>(r_spec_DirectionAt a0 a1).trans (u_spec_DirectionAt a0 a1)
def B131:Bod Tryz.prog:=⟨131,Tryz.f131,Tryz.f131.body.getD .skip,Tryz.func131,by kernel_rfl,by kernel_rfl,z8.no _ _⟩
def Tb131:Tb Tryz.prog:= {T:= [Y2,Y30],mix:=mix,Es:= [E_spec_HasI,E_spec_IsWhole,zcV,E_spec_HullI,E_spec_DirectionAt],Bs:= [],d:=1}
def zem (a0:Iv) (a1:Iv):Tr (Iv):=
 .br (zbF a0) (.leaf zaD) (.br (zbF a1) (.leaf zaD) (.br (zfV a0 ⟨0,rfl⟩) (.br (zfV a1 ⟨0,rfl⟩) (.leaf zaD) (.br (decide (a1.lo.val<0)) (.br (decide (a0.lo.val<0)) (.br (decide (a0.hi.val>=0)) (.leaf zaD) (.leaf (zV (zV (zJ a0.lo a1.lo) (zJ a0.lo a1.hi)) (zV (zJ a0.hi a1.lo) (zJ a0.hi a1.hi))))) (.leaf (zV (zV (zJ a0.lo a1.lo) (zJ a0.lo a1.hi)) (zV (zJ a0.hi a1.lo) (zJ a0.hi a1.hi))))) (.leaf (zV (zV (zJ a0.lo a1.lo) (zJ a0.lo a1.hi)) (zV (zJ a0.hi a1.lo) (zJ a0.hi a1.hi)))))) (.br (decide (a1.lo.val<0)) (.br (decide (a0.lo.val<0)) (.br (decide (a0.hi.val>=0)) (.leaf zaD) (.leaf (zV (zV (zJ a0.lo a1.lo) (zJ a0.lo a1.hi)) (zV (zJ a0.hi a1.lo) (zJ a0.hi a1.hi))))) (.leaf (zV (zV (zJ a0.lo a1.lo) (zJ a0.lo a1.hi)) (zV (zJ a0.hi a1.lo) (zJ a0.hi a1.hi))))) (.leaf (zV (zV (zJ a0.lo a1.lo) (zJ a0.lo a1.hi)) (zV (zJ a0.hi a1.lo) (zJ a0.hi a1.hi)))))))
theorem r_spec_DirectionI (a0:Iv) (a1:Iv):Tb131.run B131 [enc a0,enc a1] (Iv)=(zem a0 a1).opt:=by kernel_rfl
def zcv:Iv->Iv->Iv:=fun a0 a1=>(zem a0 a1).get
theorem u_spec_DirectionI (a0:Iv) (a1:Iv):(zem a0 a1).opt=some (zcv a0 a1):=Tr.zD (by kernel_rfl)
def E_spec_DirectionI:Ent Tryz.prog:= .of2 Tb131 B131 (fun _ _=>true) zcv fun a0 a1 _=>(r_spec_DirectionI a0 a1).trans (u_spec_DirectionI a0 a1)
def B176:Bod Tryz.prog:=⟨176,Tryz.f176,Tryz.f176.body.getD .skip,Tryz.func176,by kernel_rfl,by kernel_rfl,z8.no _ _⟩
def Tb176:Tb Tryz.prog:= {T:= [Y2,Y30],mix:=mix,Es:= [zeV,zea,E_impl_DivI,zaz,E_impl_abs,E_impl_at,E_impl_AtanI,zeW,E_impl_isOpen],Bs:= [],d:=1}
def zdM (a0:I64) (a1:I64):Tr (Iv):=
 .br (!(zeS a0)) (.leaf zM) (.br (!(zeS a1)) (.leaf zM) (.br (a0.val==0) (.br (a1.val==0) (.leaf zM) (.br (decide ((zbm a0).val>(zbm a1).val)) (.br (decide (a0.val<0)) (.leaf (zax (za1 ⟨(-1),rfl⟩) (zcU (za9 (zbK a1) (zbK a0))))) (.leaf (zax (za1 ⟨1,rfl⟩) (zcU (za9 (zbK a1) (zbK a0)))))) (let c24:=zcU (za9 (zbK a0) (zbK a1));.br (decide (a1.val>0)) (.leaf c24) (.br (decide (a0.val<0)) (.leaf (zbt c24 (za1 ⟨(-2),rfl⟩))) (.leaf (zbt c24 (za1 ⟨2,rfl⟩))))))) (.br (decide ((zbm a0).val>(zbm a1).val)) (.br (decide (a0.val<0)) (.leaf (zax (za1 ⟨(-1),rfl⟩) (zcU (za9 (zbK a1) (zbK a0))))) (.leaf (zax (za1 ⟨1,rfl⟩) (zcU (za9 (zbK a1) (zbK a0)))))) (let c47:=zcU (za9 (zbK a0) (zbK a1));.br (decide (a1.val>0)) (.leaf c47) (.br (decide (a0.val<0)) (.leaf (zbt c47 (za1 ⟨(-2),rfl⟩))) (.leaf (zbt c47 (za1 ⟨2,rfl⟩))))))))
theorem r_impl_DirectionAt (a0:I64) (a1:I64):Tb176.run B176 [enc a0,enc a1] (Iv)=(zdM a0 a1).opt:=by kernel_rfl
def zW:I64->I64->Iv:=fun a0 a1=>(zdM a0 a1).get
theorem u_impl_DirectionAt (a0:I64) (a1:I64):(zdM a0 a1).opt=some (zW a0 a1):=Tr.zD (by kernel_rfl)
def E_impl_DirectionAt:Ent Tryz.prog:= .of2 Tb176 B176 (fun _ _=>true) zW fun a0 a1 _=>(r_impl_DirectionAt a0 a1).trans (u_impl_DirectionAt a0 a1)
def B84:Bod Tryz.prog:=⟨84,Tryz.f84,Tryz.f84.body.getD .skip,Tryz.func84,by kernel_rfl,by kernel_rfl,z8.no _ _⟩
def Tb84:Tb Tryz.prog:= {T:= [Y2,Y30],mix:=mix,Es:= [zcx,zaz,E_impl_HasI,E_impl_HullI,E_impl_DirectionAt],Bs:= [],d:=1}
def t_impl_DirectionI (a0:Iv) (a1:Iv):Tr (Iv):=
 .br (!(zbh a0 a1)) (.leaf zM) (.br (zd7 a0 ⟨0,rfl⟩) (.br (zd7 a1 ⟨0,rfl⟩) (.leaf zM) (.br (decide (a1.lo.val<0)) (.br (decide (a0.lo.val<0)) (.br (decide (a0.hi.val>=0)) (.leaf zM) (.leaf (zaw (zaw (zW a0.lo a1.lo) (zW a0.lo a1.hi)) (zaw (zW a0.hi a1.lo) (zW a0.hi a1.hi))))) (.leaf (zaw (zaw (zW a0.lo a1.lo) (zW a0.lo a1.hi)) (zaw (zW a0.hi a1.lo) (zW a0.hi a1.hi))))) (.leaf (zaw (zaw (zW a0.lo a1.lo) (zW a0.lo a1.hi)) (zaw (zW a0.hi a1.lo) (zW a0.hi a1.hi)))))) (.br (decide (a1.lo.val<0)) (.br (decide (a0.lo.val<0)) (.br (decide (a0.hi.val>=0)) (.leaf zM) (.leaf (zaw (zaw (zW a0.lo a1.lo) (zW a0.lo a1.hi)) (zaw (zW a0.hi a1.lo) (zW a0.hi a1.hi))))) (.leaf (zaw (zaw (zW a0.lo a1.lo) (zW a0.lo a1.hi)) (zaw (zW a0.hi a1.lo) (zW a0.hi a1.hi))))) (.leaf (zaw (zaw (zW a0.lo a1.lo) (zW a0.lo a1.hi)) (zaw (zW a0.hi a1.lo) (zW a0.hi a1.hi))))))
theorem r_impl_DirectionI (a0:Iv) (a1:Iv):Tb84.run B84 [enc a0,enc a1] (Iv)=(t_impl_DirectionI a0 a1).opt:=by kernel_rfl
def zeD:Iv->Iv->Iv:=fun a0 a1=>(t_impl_DirectionI a0 a1).get
theorem u_impl_DirectionI (a0:Iv) (a1:Iv):(t_impl_DirectionI a0 a1).opt=some (zeD a0 a1):=Tr.zD (by kernel_rfl)
def E_impl_DirectionI:Ent Tryz.prog:= .of2 Tb84 B84 (fun _ _=>true) zeD fun a0 a1 _=>(r_impl_DirectionI a0 a1).trans (u_impl_DirectionI a0 a1)
def B266:Bod Tryz.prog:=⟨266,Tryz.f266,Tryz.f266.body.getD .skip,Tryz.func266,by kernel_rfl,by kernel_rfl,z8.no _ _⟩
def Tb266:Tb Tryz.prog:= {T:= [Y2,Y30],mix:=mix,Es:= [E_spec_AbsI],Bs:= [],d:=1}
def t_spec_l10Ends (a0:Iv):Tr (T2 I64 I64):=
 let c1:=F_spec_AbsI a0;.leaf ⟨c1.lo,c1.hi⟩
theorem r_spec_l10Ends (a0:Iv):Tb266.run B266 [enc a0] (T2 I64 I64)=(t_spec_l10Ends a0).opt:=by kernel_rfl
def zfh:Iv->T2 I64 I64:=fun a0=>(t_spec_l10Ends a0).get
theorem u_spec_l10Ends (a0:Iv):(t_spec_l10Ends a0).opt=some (zfh a0):=Tr.zD (by kernel_rfl)
def E_spec_l10Ends:Ent Tryz.prog:= .of1 Tb266 B266 (fun _=>true) zfh fun a0 _=>(r_spec_l10Ends a0).trans (u_spec_l10Ends a0)
def B268:Bod Tryz.prog:=⟨268,Tryz.f268,Tryz.f268.body.getD .skip,Tryz.func268,by kernel_rfl,by kernel_rfl,z8.no _ _⟩
def Tb268:Tb Tryz.prog:= {T:= [Y2,Y132,Y148],mix:=mix,Es:= [E_spec_l02Mul,E_spec_l02Plus],Bs:= [],d:=1}
def t_spec_l10Sum (a0:I64) (a1:I64) (a2:I64):Tr (Wide):=
 .leaf (zbE (zbE (zcf a0 a0) (zcf a1 a1)) (zcf a2 a2))
theorem r_spec_l10Sum (a0:I64) (a1:I64) (a2:I64):Tb268.run B268 [enc a0,enc a1,enc a2] (Wide)=(t_spec_l10Sum a0 a1 a2).opt:=by kernel_rfl
def F_spec_l10Sum:I64->I64->I64->Wide:=fun a0 a1 a2=>(t_spec_l10Sum a0 a1 a2).get
theorem u_spec_l10Sum (a0:I64) (a1:I64) (a2:I64):(t_spec_l10Sum a0 a1 a2).opt=some (F_spec_l10Sum a0 a1 a2):=Tr.zD (by kernel_rfl)
def E_spec_l10Sum:Ent Tryz.prog:= .of3 Tb268 B268 (fun _ _ _=>true) F_spec_l10Sum fun a0 a1 a2 _=>(r_spec_l10Sum a0 a1 a2).trans (u_spec_l10Sum a0 a1 a2)
def B186:Bod Tryz.prog:=⟨186,Tryz.f186,Tryz.f186.body.getD .skip,Tryz.func186,by kernel_rfl,by kernel_rfl,z8.no _ _⟩
def Tb186:Tb Tryz.prog:= {T:= [Y2,Y30,Y40,Y132,Y148],mix:=mix,Es:= [E_spec_IsWhole,zcV,E_spec_l02Mul,E_spec_l10Ends,ET_spec_l02Root,E_spec_l10Sum],Bs:= [],d:=1}
def t_spec_NormV (a0:Vec):Tr (Iv):=
 .br (zbF a0.x) (.leaf zaD) (.br (zbF a0.y) (.leaf zaD) (.br (zbF a0.z) (.leaf zaD) (let c7:=zfh a0.x;let c8:=zfh a0.y;let c9:=zfh a0.z;let c11:=zt (F_spec_l10Sum c7.a c8.a c9.a);let c12:=F_spec_l10Sum c7.b c8.b c9.b;let c13:=zt c12;let c14:=zcf (Rng.w .i64 (c13.val)) (Rng.w .i64 (c13.val));.br (!((c14.hi.val==c12.hi.val)&&((c14.lo.val==c12.lo.val)&&true))) (let c16:=(Rng.w .i64 ((Rng.w .i64 (c13.val)).val+1));.br (decide (c16.val>=1152921504606846976)) (.leaf zaD) (.leaf ⟨(Rng.w .i64 (c11.val)),c16⟩)) (.br (decide ((Rng.w .i64 (c13.val)).val>=1152921504606846976)) (.leaf zaD) (.leaf ⟨(Rng.w .i64 (c11.val)),(Rng.w .i64 (c13.val))⟩)))))
theorem r_spec_NormV (a0:Vec):Tb186.run B186 [enc a0] (Iv)=(t_spec_NormV a0).opt:=by kernel_rfl
def zdg:Vec->Iv:=fun a0=>(t_spec_NormV a0).get
theorem u_spec_NormV (a0:Vec):(t_spec_NormV a0).opt=some (zdg a0):=Tr.zD (by kernel_rfl)
def E_spec_NormV:Ent Tryz.prog:= .of1 Tb186 B186 (fun _=>true) zdg fun a0 _=>(r_spec_NormV a0).trans (u_spec_NormV a0)
def B256:Bod Tryz.prog:=⟨256,Tryz.f256,Tryz.f256.body.getD .skip,Tryz.func256,by kernel_rfl,by kernel_rfl,z8.no _ _⟩
def Tb256:Tb Tryz.prog:= {T:= [Y2,Y132,Y148],mix:=mix,Es:= [E_math_bits_Add64],Bs:= [],d:=1}
def zd0 (a0:Wide) (a1:Wide):Tr (T2 Wide Bool):=
 let c1:=zaE a0.lo a1.lo ⟨0,rfl⟩;.br (G_carry (Rng.w .u64 (a0.hi.val)) (Rng.w .u64 (a1.hi.val)) c1.b) (let c2:=zaE (Rng.w .u64 (a0.hi.val)) (Rng.w .u64 (a1.hi.val)) c1.b;.br (decide ((Rng.w .i64 (zba .and .i64 (Rng.w .i64 (zba .xor .i64 a0.hi.val (Rng.w .i64 (c2.a.val)).val)).val (Rng.w .i64 (zba .xor .i64 a1.hi.val (Rng.w .i64 (c2.a.val)).val)).val)).val<0)) (.leaf ⟨⟨⟨0,rfl⟩,⟨0,rfl⟩⟩,false⟩) (.leaf ⟨⟨(Rng.w .i64 (c2.a.val)),c1.a⟩,true⟩)) (.bad)
theorem r_impl_WideAdd (a0:Wide) (a1:Wide):Tb256.run B256 [enc a0,enc a1] (T2 Wide Bool)=(zd0 a0 a1).opt:=by kernel_rfl
def F_impl_WideAdd:Wide->Wide->T2 Wide Bool:=fun a0 a1=>(zd0 a0 a1).get
def zd2:Wide->Wide->Bool:=fun a0 a1=>(zd0 a0 a1).opt.isSome
def E_impl_WideAdd:Ent Tryz.prog:= .of2 Tb256 B256 zd2 F_impl_WideAdd fun a0 a1 h=>(r_impl_WideAdd a0 a1).trans (Tr.get_some h)
def B177:Bod Tryz.prog:=⟨177,Tryz.f177,Tryz.f177.body.getD .skip,Tryz.func177,by kernel_rfl,by kernel_rfl,z8.no _ _⟩
def Tb177:Tb Tryz.prog:= {T:= [Y2,Y132,Y148],mix:=mix,Es:= [E_impl_WideAdd,zfp,ET_impl_WideSqrt],Bs:= [],d:=1}
def zc4 (a0:I64) (a1:I64) (a2:I64):Tr (T2 I64 I64):=
 let c1:=zbj a0 a0;let c2:=zbj a1 a1;.br (zd2 c1 c2) (let c3:=F_impl_WideAdd c1 c2;let c4:=zbj a2 a2;.br (zd2 c3.a c4) (let c5:=F_impl_WideAdd c3.a c4;let c6:=zcS c5.a;let c7:=zbj (Rng.w .i64 (c6.a.val)) (Rng.w .i64 (c6.a.val));.br (!((c7.hi.val==c5.a.hi.val)&&((c7.lo.val==c5.a.lo.val)&&true))) (.leaf ⟨(Rng.w .i64 (c6.a.val)),(Rng.w .i64 ((Rng.w .i64 (c6.a.val)).val+1))⟩) (.leaf ⟨(Rng.w .i64 (c6.a.val)),(Rng.w .i64 (c6.a.val))⟩)) (.bad)) (.bad)
theorem r_impl_rootOfSquares (a0:I64) (a1:I64) (a2:I64):Tb177.run B177 [enc a0,enc a1,enc a2] (T2 I64 I64)=(zc4 a0 a1 a2).opt:=by kernel_rfl
def zc8:I64->I64->I64->T2 I64 I64:=fun a0 a1 a2=>(zc4 a0 a1 a2).get
def zbL:I64->I64->I64->Bool:=fun a0 a1 a2=>(zc4 a0 a1 a2).opt.isSome
def E_impl_rootOfSquares:Ent Tryz.prog:= .of3 Tb177 B177 zbL zc8 fun a0 a1 a2 h=>(r_impl_rootOfSquares a0 a1 a2).trans (Tr.get_some h)
def B85:Bod Tryz.prog:=⟨85,Tryz.f85,Tryz.f85.body.getD .skip,Tryz.func85,by kernel_rfl,by kernel_rfl,z8.no _ _⟩
def Tb85:Tb Tryz.prog:= {T:= [Y2,Y30,Y40],mix:=mix,Es:= [zbW,E_impl_AbsI,zcx,zaz,zdk,E_impl_rootOfSquares],Bs:= [],d:=1}
def t_impl_NormV (a0:Vec):Tr (Iv):=
 .br (!(zbh a0.x a0.y)) (.leaf zM) (.br (zan a0.z) (.leaf zM) (let c5:=zd8 a0.x;let c6:=zd8 a0.y;let c7:=zd8 a0.z;.br (zbL c5.lo c6.lo c7.lo) (.br (zbL c5.hi c6.hi c7.hi) (.leaf (za0 (zc8 c5.lo c6.lo c7.lo).a (zc8 c5.hi c6.hi c7.hi).b true)) (.bad)) (.bad)))
theorem r_impl_NormV (a0:Vec):Tb85.run B85 [enc a0] (Iv)=(t_impl_NormV a0).opt:=by kernel_rfl
def F_impl_NormV:Vec->Iv:=fun a0=>(t_impl_NormV a0).get
def B17:Bod Tryz.prog:=⟨17,Tryz.f17,Tryz.f17.body.getD .skip,Tryz.func17,by kernel_rfl,by kernel_rfl,z8.no _ _⟩
def Tb17:Tb Tryz.prog:= {T:= [Y2,Y30],mix:=mix,Es:= [zbg],Bs:= [],d:=1}
def t_spec_LessI (a0:Iv) (a1:Iv):Tr (I64):=
 .br (!(ze a0)) (.leaf ⟨2,rfl⟩) (.br (!(ze a1)) (.leaf ⟨2,rfl⟩) (.br (decide (a0.hi.val<a1.lo.val)) (.leaf ⟨1,rfl⟩) (.br (decide (a0.lo.val>=a1.hi.val)) (.leaf ⟨0,rfl⟩) (.leaf ⟨2,rfl⟩))))
theorem r_spec_LessI (a0:Iv) (a1:Iv):Tb17.run B17 [enc a0,enc a1] (I64)=(t_spec_LessI a0 a1).opt:=by kernel_rfl
def zdR:Iv->Iv->I64:=fun a0 a1=>(t_spec_LessI a0 a1).get
theorem u_spec_LessI (a0:Iv) (a1:Iv):(t_spec_LessI a0 a1).opt=some (zdR a0 a1):=Tr.zD (by kernel_rfl)
def E_spec_LessI:Ent Tryz.prog:= .of2 Tb17 B17 (fun _ _=>true) zdR fun a0 a1 _=>(r_spec_LessI a0 a1).trans (u_spec_LessI a0 a1)
def B78:Bod Tryz.prog:=⟨78,Tryz.f78,Tryz.f78.body.getD .skip,Tryz.func78,by kernel_rfl,by kernel_rfl,z8.no _ _⟩
def Tb78:Tb Tryz.prog:= {T:= [Y2,Y30],mix:=mix,Es:= [zcx],Bs:= [],d:=1}
def t_impl_LessI (a0:Iv) (a1:Iv):Tr (I64):=
 .br (!(zbh a0 a1)) (.leaf ⟨2,rfl⟩) (.br (decide (a0.hi.val<a1.lo.val)) (.leaf ⟨1,rfl⟩) (.br (decide (a0.lo.val>=a1.hi.val)) (.leaf ⟨0,rfl⟩) (.leaf ⟨2,rfl⟩)))
theorem r_impl_LessI (a0:Iv) (a1:Iv):Tb78.run B78 [enc a0,enc a1] (I64)=(t_impl_LessI a0 a1).opt:=by kernel_rfl
def F_impl_LessI:Iv->Iv->I64:=fun a0 a1=>(t_impl_LessI a0 a1).get
theorem u_impl_LessI (a0:Iv) (a1:Iv):(t_impl_LessI a0 a1).opt=some (F_impl_LessI a0 a1):=Tr.zD (by kernel_rfl)
def E_impl_LessI:Ent Tryz.prog:= .of2 Tb78 B78 (fun _ _=>true) F_impl_LessI fun a0 a1 _=>(r_impl_LessI a0 a1).trans (u_impl_LessI a0 a1)
structure S_spec_LogAt_5 where
 x0:I64
 x1:I64
 x2:I64
 x3:I64
 x4:I64
 x5:I64
instance:Inhabited S_spec_LogAt_5:=⟨⟨default,default,default,default,default,default⟩⟩
structure S_spec_LogAt_8 where
 x0:I64
 x1:I64
 x2:I64
 x3:I64
 x4:I64
 x5:I64
instance:Inhabited S_spec_LogAt_8:=⟨⟨default,default,default,default,default,default⟩⟩
structure S_impl_twosOf_2 where
 x0:I64
 x1:I64
instance:Inhabited S_impl_twosOf_2:=⟨⟨default,default⟩⟩
structure S_impl_twosOf_4 where
 x0:I64
 x1:I64
instance:Inhabited S_impl_twosOf_4:=⟨⟨default,default⟩⟩
end
end Go.Proofs.YtfcjhkkpbnobhaaGreat.Ev
namespace Go.Proofs.YtfcjhkkpbnobhaaGreat.Ev
open Go
theorem ctr {α:Type} (a b:α):(bif true then a else b)=a:=by simp
theorem cfl {α:Type} (a b:α):(bif false then a else b)=b:=by simp
theorem siw_eq (a:Iv):zbF a= !(ze a):=by simp only [zbF,t_spec_IsWhole,Tr.get]
theorem hasI_eq (a:Iv) (n:I64):zd7 a n=zfV a n:=by
 simp only [zd7,t_impl_HasI,zfV,t_spec_HasI,zaT,zcA,Tr.get,isw_eq,zcI,ze5]
theorem atanI_impl (a:Iv):zcU a=bif zan a then zb8 else zaw (zeU a.lo) (zeU a.hi):=by
 simp only [zcU,t_impl_AtanI,Tr.get]
theorem atanI_spec (a:Iv):zac a=bif zbF a then za2 else zV (zcj a.lo) (zcj a.hi):=by
 simp only [zac,t_spec_AtanI,Tr.get]
theorem atanI_eq (a:Iv):zcU a=zac a:=by
 rw [atanI_impl,atanI_spec,isw_eq,siw_eq,half_eq,atan_eq,atan_eq,hull_eq]
theorem dirAt_eq (y x:I64):zW y x=zJ y x:=by
 simp only [zW,zdM,zJ,zfq,Tr.get]
 simp only [fix_eq,atanI_eq,divI_F,at_eq,sub_eq,add_eq,turnI_eq,zbX,zc6]
 cases hy:zbb y
 ·rfl
 cases hx:zbb x
 ·rfl
 have by':=(fix_iff y).1 hy
 have bx:=(fix_iff x).1 hx
 have ey:(Rng.w .i64 (0-y.val)).val= -y.val:=by rw [wi (by omega) (by omega)];omega
 have ex:(Rng.w .i64 (0-x.val)).val= -x.val:=by rw [wi (by omega) (by omega)];omega
 have ay:=abs_val y (by omega)
 have ax:=abs_val x (by omega)
 simp only [Bool.not_true,cond_false,ey,ex]
 by_cases hn:y.val<0
 ·have hA:decide ((zbm y).val>(zbm x).val)=(decide (-y.val>x.val)&&decide (-y.val > -x.val)):=by
   rw [ay,ax,if_pos hn,<- Bool.decide_and,decide_eq_decide]
   split<;>omega
  simp only [hn,decide_true,cond_true,hA]
  generalize decide (-y.val>x.val)=b1
  generalize decide (-y.val > -x.val)=b2
  generalize decide (x.val>0)=b3
  generalize (x.val==0)=b4
  generalize (y.val==0)=b5
  cases b1<;>cases b2<;>cases b3<;>cases b4<;>cases b5<;>simp only [ctr,cfl,Bool.and_self,Bool.and_false,Bool.and_true,Bool.false_and,Bool.true_and]
 ·have hA:decide ((zbm y).val>(zbm x).val)=(decide (y.val>x.val)&&decide (y.val > -x.val)):=by
   rw [ay,ax,if_neg hn,<- Bool.decide_and,decide_eq_decide]
   split<;>omega
  simp only [hn,decide_false,cond_false,hA]
  generalize decide (y.val>x.val)=b1
  generalize decide (y.val > -x.val)=b2
  generalize decide (x.val>0)=b3
  generalize (x.val==0)=b4
  generalize (y.val==0)=b5
  cases b1<;>cases b2<;>cases b3<;>cases b4<;>cases b5<;>simp only [ctr,cfl,Bool.and_self,Bool.and_false,Bool.and_true,Bool.false_and,Bool.true_and]
theorem dirI_eq (y x:Iv):zeD y x=zcv y x:=by
 simp only [zeD,t_impl_DirectionI,zcv,zem,Tr.get]
 simp only [areb_eq,siw_eq,hasI_eq,dirAt_eq,hull_eq,zbX,zc6]
 cases ze y<;>cases ze x<;>simp only [ctr,cfl,Bool.and_self,Bool.and_false,Bool.and_true,Bool.false_and,Bool.true_and,Bool.not_true,Bool.not_false]
theorem less_eq (a b:Iv):F_impl_LessI a b=zdR a b:=by
 simp only [F_impl_LessI,t_impl_LessI,zdR,t_spec_LessI,Tr.get,areb_eq]
 cases ze a<;>cases ze b<;>rfl
theorem abs_ends {a:Iv} (h:ze a=true):zd8 a=⟨(zL a).a,(zL a).b⟩:=by
 simp only [zd8,t_impl_AbsI,zL,zdX,Tr.get,isw_eq,h,Bool.not_true,cond_false,has_eq a _ h,max_eq,min_eq,zbm,t_impl_abs]
 cases zaT a ⟨0,rfl⟩<;>rfl
theorem abs_make {a:Iv} (h:ze a=true):F_spec_AbsI a=⟨(zL a).a,(zL a).b⟩:=by
 simp only [F_spec_AbsI,t_spec_AbsI,Tr.get,h,Bool.not_true,cond_false]
 obtain ⟨p,q,e,h1,h2,h3⟩:=ends_val h
 have:=(zca a).1 h
 rw [e]
 exact zdb (by simp only;omega)
theorem ends_eq (a:Iv):zfh a=⟨(F_spec_AbsI a).lo,(F_spec_AbsI a).hi⟩:=rfl
theorem plus_spec (a b:Wide) (h: -170141183460469231731687303715884105728<=wv a+wv b/\wv a+wv b<170141183460469231731687303715884105728):zbE a b=mkW (wv a+wv b):=by
 have ba:=a.lo.ubd;have bb:=b.lo.ubd
 have ha:=a.hi.bd;have hb:=b.hi.bd
 apply mkW_eq
 simp only [wv] at h
 simp only [zbE,zfd,Tr.get]
 have e2:(Rng.w .u64 (a.lo.val+b.lo.val)).val=(a.lo.val+b.lo.val)%18446744073709551616:=za6 _
 simp only [e2]
 by_cases hc:(a.lo.val+b.lo.val)%18446744073709551616<a.lo.val
 ·simp only [hc,decide_true,cond_true,wv,e2]
  rw [zei,zei]
  omega
 ·simp only [hc,decide_false,cond_false,wv,e2]
  rw [zei]
  omega
theorem xor_pos {a b:Int} (ha:0<=a/\a<=9223372036854775807) (hb:0<=b/\b<=9223372036854775807):0<=(Rng.w .i64 (zba .xor .i64 a b)).val/\(Rng.w .i64 (zba .xor .i64 a b)).val<=9223372036854775807:=by
 have e:zba .xor .i64 a b=((BitVec.ofInt 64 a ^^^ BitVec.ofInt 64 b).toNat:Int):=rfl
 have h1:(BitVec.ofInt 64 a).toNat<2^63:=by rw [bv_toNat ha.1 (by omega)];omega
 have h2:(BitVec.ofInt 64 b).toNat<2^63:=by rw [bv_toNat hb.1 (by omega)];omega
 have h3:(BitVec.ofInt 64 a ^^^ BitVec.ofInt 64 b).toNat<2^63:=by rw [BitVec.toNat_xor];exact Nat.xor_lt_two_pow h1 h2
 rw [e,wi (by omega) (by omega)];omega
theorem and_pos {a b:Int} (ha:0<=a/\a<=9223372036854775807) (hb:0<=b/\b<=9223372036854775807):0<=(Rng.w .i64 (zba .and .i64 a b)).val:=by
 have e:zba .and .i64 a b=((BitVec.ofInt 64 a &&& BitVec.ofInt 64 b).toNat:Int):=rfl
 have h2:(BitVec.ofInt 64 b).toNat<2^63:=by rw [bv_toNat hb.1 (by omega)];omega
 have h3:(BitVec.ofInt 64 a &&& BitVec.ofInt 64 b).toNat<2^63:=by rw [BitVec.toNat_and];exact Nat.lt_of_le_of_lt Nat.and_le_right h2
 rw [e,wi (by omega) (by omega)];omega
theorem add_impl (a b:Wide) (ha:0<=wv a) (hb:0<=wv b) (h:wv a+wv b<170141183460469231731687303715884105728):(zd0 a b).opt=some ⟨mkW (wv a+wv b),true⟩:=by
 have ba:=a.lo.ubd;have bb:=b.lo.ubd
 have ha':=a.hi.bd;have hb':=b.hi.bd
 have hwv:wv a+wv b=(a.hi.val+b.hi.val)*18446744073709551616+(a.lo.val+b.lo.val):=by simp only [wv];omega
 have pa:0<=a.hi.val:=by simp only [wv] at ha;omega
 have pb:0<=b.hi.val:=by simp only [wv] at hb;omega
 have ec:(zaE a.lo b.lo ⟨0,rfl⟩).b.val=(a.lo.val+b.lo.val)/18446744073709551616:=by
  simp only [zaE];rw [wu (by omega) (by omega)];omega
 have hg:G_carry (Rng.w .u64 a.hi.val) (Rng.w .u64 b.hi.val) (zaE a.lo b.lo ⟨0,rfl⟩).b=true:=by simp only [G_carry,ec];simp;omega
 have ea:(Rng.w .u64 a.hi.val).val=a.hi.val:=wu pa (by omega)
 have eb:(Rng.w .u64 b.hi.val).val=b.hi.val:=wu pb (by omega)
 have e2:(zaE (Rng.w .u64 a.hi.val) (Rng.w .u64 b.hi.val) (zaE a.lo b.lo ⟨0,rfl⟩).b).a.val=a.hi.val+b.hi.val+(a.lo.val+b.lo.val)/18446744073709551616:=by
  show (Rng.w .u64 _).val=_
  rw [ea,eb,ec,wu (by omega) (by omega)]
 have hlt:a.hi.val+b.hi.val+(a.lo.val+b.lo.val)/18446744073709551616<=9223372036854775807:=by omega
 have e3:(Rng.w .i64 (zaE (Rng.w .u64 a.hi.val) (Rng.w .u64 b.hi.val) (zaE a.lo b.lo ⟨0,rfl⟩).b).a.val).val=a.hi.val+b.hi.val+(a.lo.val+b.lo.val)/18446744073709551616:=by
  rw [e2,wi (by omega) hlt]
 have e1:(zaE a.lo b.lo ⟨0,rfl⟩).a.val=(a.lo.val+b.lo.val)%18446744073709551616:=by
  simp only [zaE];rw [za6];omega
 simp only [zd0,Tr.opt,hg,cond_true,e3]
 have x1:=xor_pos (a:=a.hi.val) (b:=a.hi.val+b.hi.val+(a.lo.val+b.lo.val)/18446744073709551616) ⟨pa,by omega⟩ ⟨by omega,hlt⟩
 have x2:=xor_pos (a:=b.hi.val) (b:=a.hi.val+b.hi.val+(a.lo.val+b.lo.val)/18446744073709551616) ⟨pb,by omega⟩ ⟨by omega,hlt⟩
 have x3:=and_pos x1 x2
 rw [show decide ((Rng.w .i64 (zba .and .i64 (Rng.w .i64 (zba .xor .i64 a.hi.val (a.hi.val+b.hi.val+(a.lo.val+b.lo.val)/18446744073709551616))).val (Rng.w .i64 (zba .xor .i64 b.hi.val (a.hi.val+b.hi.val+(a.lo.val+b.lo.val)/18446744073709551616))).val)).val<0)=false by simpa using x3]
 simp only [cond_false]
 congr 2
 apply mkW_eq
 simp only [wv,e3,e1]
 omega
theorem wsqrt_mk {v:Int} (h:0<=v) (h':v<170141183460469231731687303715884105728):zcS (mkW v)=⟨zt (mkW v),true⟩:=by
 refine wsqrt_eq _ ?_
 simp only [mkW];rw [wi (by omega) (by omega)];omega
theorem root_mk {v:Int} (h:0<=v) (h':v<170141183460469231731687303715884105728):0<=(zt (mkW v)).val/\(zt (mkW v)).val*(zt (mkW v)).val<=v/\v<((zt (mkW v)).val+1)*((zt (mkW v)).val+1):=by
 have:=root_val (mkW v) (by simp only [mkW];rw [wi (by omega) (by omega)];omega)
 rwa [wv_mkW (by omega) h'] at this
def sq3 (x y z:I64):Int:=x.val*x.val+y.val*y.val+z.val*z.val
theorem sum_spec {x y z:I64} (hx:0<=x.val/\x.val<=1152921504606846976) (hy:0<=y.val/\y.val<=1152921504606846976) (hz:0<=z.val/\z.val<=1152921504606846976):
  F_spec_l10Sum x y z=mkW (sq3 x y z)/\0<=sq3 x y z/\sq3 x y z<=3987683987354747618711421180841033728 /\
  (zc4 x y z).opt=some ⟨.w .i64 (zt (mkW (sq3 x y z))).val,bif !(((mkW ((Rng.w .i64 (zt (mkW (sq3 x y z))).val).val*(Rng.w .i64 (zt (mkW (sq3 x y z))).val).val)).hi.val==(mkW (sq3 x y z)).hi.val)&&(((mkW ((Rng.w .i64 (zt (mkW (sq3 x y z))).val).val*(Rng.w .i64 (zt (mkW (sq3 x y z))).val).val)).lo.val==(mkW (sq3 x y z)).lo.val)&&true)) then .w .i64 ((Rng.w .i64 (zt (mkW (sq3 x y z))).val).val+1) else .w .i64 (zt (mkW (sq3 x y z))).val⟩:=by
 have px:=Int.mul_nonneg hx.1 hx.1
 have py:=Int.mul_nonneg hy.1 hy.1
 have pz:=Int.mul_nonneg hz.1 hz.1
 have qx:x.val*x.val<=1152921504606846976*1152921504606846976:=Int.mul_le_mul hx.2 hx.2 hx.1 (by decide)
 have qy:y.val*y.val<=1152921504606846976*1152921504606846976:=Int.mul_le_mul hy.2 hy.2 hy.1 (by decide)
 have qz:z.val*z.val<=1152921504606846976*1152921504606846976:=Int.mul_le_mul hz.2 hz.2 hz.1 (by decide)
 have wx:=wv_mkW (v:=x.val*x.val) (by omega) (by omega)
 have wy:=wv_mkW (v:=y.val*y.val) (by omega) (by omega)
 have wz:=wv_mkW (v:=z.val*z.val) (by omega) (by omega)
 have wxy:=wv_mkW (v:=x.val*x.val+y.val*y.val) (by omega) (by omega)
 have s1:zbE (mkW (x.val*x.val)) (mkW (y.val*y.val))=mkW (x.val*x.val+y.val*y.val):=by rw [plus_spec _ _ (by rw [wx,wy];omega),wx,wy]
 have s2:zbE (mkW (x.val*x.val+y.val*y.val)) (mkW (z.val*z.val))=mkW (sq3 x y z):=by rw [plus_spec _ _ (by rw [wxy,wz];omega),wxy,wz];rfl
 have i1:(zd0 (mkW (x.val*x.val)) (mkW (y.val*y.val))).opt=some ⟨mkW (x.val*x.val+y.val*y.val),true⟩:=by rw [add_impl _ _ (by omega) (by omega) (by rw [wx,wy];omega),wx,wy]
 have i2:(zd0 (mkW (x.val*x.val+y.val*y.val)) (mkW (z.val*z.val))).opt=some ⟨mkW (sq3 x y z),true⟩:=by rw [add_impl _ _ (by omega) (by omega) (by rw [wxy,wz];omega),wxy,wz];rfl
 have g1:zd2 (mkW (x.val*x.val)) (mkW (y.val*y.val))=true:=by unfold zd2;rw [i1];rfl
 have g2:zd2 (mkW (x.val*x.val+y.val*y.val)) (mkW (z.val*z.val))=true:=by unfold zd2;rw [i2];rfl
 have f1:F_impl_WideAdd (mkW (x.val*x.val)) (mkW (y.val*y.val))=_:=Tr.zaB i1
 have f2:F_impl_WideAdd (mkW (x.val*x.val+y.val*y.val)) (mkW (z.val*z.val))=_:=Tr.zaB i2
 have hs:sq3 x y z=x.val*x.val+y.val*y.val+z.val*z.val:=rfl
 have h0:0<=sq3 x y z:=by omega
 have h1:sq3 x y z<=3987683987354747618711421180841033728:=by omega
 refine ⟨?_,h0,h1,?_⟩
 ·simp only [F_spec_l10Sum,t_spec_l10Sum,Tr.get,mul_spec,s1,s2]
 ·simp only [zc4,Tr.opt,mul_impl,g1,f1,g2,f2,cond_true,wsqrt_mk h0 (by omega)]
  cases (!(((mkW ((Rng.w .i64 (zt (mkW (sq3 x y z))).val).val*(Rng.w .i64 (zt (mkW (sq3 x y z))).val).val)).hi.val==(mkW (sq3 x y z)).hi.val)&&(((mkW ((Rng.w .i64 (zt (mkW (sq3 x y z))).val).val*(Rng.w .i64 (zt (mkW (sq3 x y z))).val).val)).lo.val==(mkW (sq3 x y z)).lo.val)&&true)))<;>rfl
theorem sq_mono {a b:Int} (h:0<=a) (h':a<=b):a*a<=b*b:=Int.mul_le_mul h' h' h (by omega)
theorem norm_ok (v:Vec):(t_impl_NormV v).opt=some (zdg v):=by
 simp only [t_impl_NormV,Tr.opt,zdg,t_spec_NormV,Tr.get,areb_eq,isw_eq,siw_eq,zbX,zc6,ends_eq]
 cases hx:ze v.x
 ·rfl
 cases hy:ze v.y
 ·rfl
 cases hz:ze v.z
 ·rfl
 simp only [Bool.and_self,Bool.not_true,cond_false,abs_ends hx,abs_ends hy,abs_ends hz,abs_make hx,abs_make hy,abs_make hz]
 have bx:=(zca v.x).1 hx
 have by':=(zca v.y).1 hy
 have bz:=(zca v.z).1 hz
 obtain ⟨x1,x2,ex,x3,x4,x5⟩:=ends_val hx
 obtain ⟨y1,y2,ey,y3,y4,y5⟩:=ends_val hy
 obtain ⟨z1,z2,ez,z3,z4,z5⟩:=ends_val hz
 simp only [ex,ey,ez]
 obtain ⟨a1,a2,a3,a4⟩:=sum_spec (x:=x1) (y:=y1) (z:=z1) (by omega) (by omega) (by omega)
 obtain ⟨b1,b2,b3,b4⟩:=sum_spec (x:=x2) (y:=y2) (z:=z2) (by omega) (by omega) (by omega)
 have ga:zbL x1 y1 z1=true:=by unfold zbL;rw [a4];rfl
 have gb:zbL x2 y2 z2=true:=by unfold zbL;rw [b4];rfl
 have fa:zc8 x1 y1 z1=_:=Tr.zaB a4
 have fb:zc8 x2 y2 z2=_:=Tr.zaB b4
 obtain ⟨r0,r1,r2⟩:=root_mk a2 (by omega)
 obtain ⟨q0,q1,q2⟩:=root_mk b2 (by omega)
 have hle:sq3 x1 y1 z1<=sq3 x2 y2 z2:=by
  have k1:=sq_mono x3 x4
  have k2:=sq_mono y3 y4
  have k3:=sq_mono z3 z4
  unfold sq3;omega
 have hR:(zt (mkW (sq3 x1 y1 z1))).val<=(zt (mkW (sq3 x2 y2 z2))).val:=by
  by_cases hh:(zt (mkW (sq3 x1 y1 z1))).val<=(zt (mkW (sq3 x2 y2 z2))).val
  ·exact hh
  ·have:=sq_mono (a:=(zt (mkW (sq3 x2 y2 z2))).val+1) (b:=(zt (mkW (sq3 x1 y1 z1))).val) (by omega) (by omega)
   omega
 have hQ:(zt (mkW (sq3 x2 y2 z2))).val<=2305843009213693952:=sq_lt q0 (by decide) (by omega)
 have w1:(Rng.w .i64 (zt (mkW (sq3 x1 y1 z1))).val).val=(zt (mkW (sq3 x1 y1 z1))).val:=wi (by omega) (by omega)
 have w2:(Rng.w .i64 (zt (mkW (sq3 x2 y2 z2))).val).val=(zt (mkW (sq3 x2 y2 z2))).val:=wi (by omega) (by omega)
 have w3:(Rng.w .i64 ((zt (mkW (sq3 x2 y2 z2))).val+1)).val=(zt (mkW (sq3 x2 y2 z2))).val+1:=wi (by omega) (by omega)
 simp only [ga,gb,fa,fb,cond_true,a1,b1,mul_spec,bounded_eq]
 generalize hc:((mkW ((Rng.w .i64 (zt (mkW (sq3 x2 y2 z2))).val).val*(Rng.w .i64 (zt (mkW (sq3 x2 y2 z2))).val).val)).hi.val==(mkW (sq3 x2 y2 z2)).hi.val&&((mkW ((Rng.w .i64 (zt (mkW (sq3 x2 y2 z2))).val).val*(Rng.w .i64 (zt (mkW (sq3 x2 y2 z2))).val).val)).lo.val==(mkW (sq3 x2 y2 z2)).lo.val&&true))=c
 cases c
 ·simp only [Bool.not_false,cond_true,w2,w3]
  by_cases hm:(zt (mkW (sq3 x2 y2 z2))).val+1>=1152921504606846976
  ·simp only [hm,decide_true,cond_true]
   rw [make_no (by rw [w3];omega)]
  ·simp only [hm,decide_false,cond_false]
   rw [zdb (by rw [w1,w3];omega)]
 ·simp only [Bool.not_true,cond_false,w2]
  by_cases hm:(zt (mkW (sq3 x2 y2 z2))).val>=1152921504606846976
  ·simp only [hm,decide_true,cond_true]
   rw [make_no (by rw [w2];omega)]
  ·simp only [hm,decide_false,cond_false]
   rw [zdb (by rw [w1,w2];omega)]
theorem norm_eq (v:Vec):F_impl_NormV v=zdg v:=Tr.zaB (norm_ok v)
theorem tt_norm_impl (v:Vec):(t_impl_NormV v).opt=some (F_impl_NormV v):=zdO (norm_ok v)
end Go.Proofs.YtfcjhkkpbnobhaaGreat.Ev
namespace Go.Proofs.YtfcjhkkpbnobhaaGreat.Ev
open Go
def shr (n e:I64):I64:= .w .i64 (n.val.fdiv (2^min e.val.toNat 64))
def shl (n e:I64):I64:= .w .i64 (n.val*(2^min e.val.toNat 64))
def sl (n e:I64):I64:=shl n (.w .i64 (0-e.val))
end Go.Proofs.YtfcjhkkpbnobhaaGreat.Ev
namespace Go.Proofs.YtfcjhkkpbnobhaaGreat.Ev
open Go Go.RowKit
set_option maxRecDepth 100000
section
variable [Amb]
def ET_impl_NormV:Ent Tryz.prog:= .of1 Tb85 B85 (fun _=>true) F_impl_NormV fun a0 _=>(r_impl_NormV a0).trans (tt_norm_impl a0)
def t_spec_l19Known (a0:Iv):Tr (T2 Iv I64):=
 .br (!(ze a0)) (.leaf ⟨⟨⟨0,rfl⟩,⟨0,rfl⟩⟩,⟨9,rfl⟩⟩) (.leaf ⟨a0,⟨0,rfl⟩⟩)
def B194:Bod Tryz.prog:=⟨194,Tryz.f194,Tryz.f194.body.getD .skip,Tryz.func194,by kernel_rfl,by kernel_rfl,z8.no _ _⟩
def Tb194:Tb Tryz.prog:= {T:= [Y2,Y30],mix:=mix,Es:= [zeW],Bs:= [],d:=1}
def t_impl_quarter:Tr (I64):=
 .leaf (za1 ⟨1,rfl⟩).hi
theorem r_impl_quarter:Tb194.run B194 [] (I64)=(t_impl_quarter).opt:=by kernel_rfl
def zcG:I64:=(t_impl_quarter).get
theorem u_impl_quarter:(t_impl_quarter).opt=some (zcG):=Tr.zD (by kernel_rfl)
def E_impl_quarter:Ent Tryz.prog:= .of0 Tb194 B194 zcG (r_impl_quarter.trans u_impl_quarter)
def B129:Bod Tryz.prog:=⟨129,Tryz.f129,Tryz.f129.body.getD .skip,Tryz.func129,by kernel_rfl,by kernel_rfl,z8.no _ _⟩
def Tb129:Tb Tryz.prog:= {T:= [Y2,Y30,Y40],mix:=mix,Es:= [E_spec_NormV],Bs:= [],d:=1}
def t_spec_l15Flat (a0:Vec):Tr (Iv):=
 .leaf (zdg ⟨a0.x,a0.y,⟨⟨0,rfl⟩,⟨0,rfl⟩⟩⟩)
theorem r_spec_l15Flat (a0:Vec):Tb129.run B129 [enc a0] (Iv)=(t_spec_l15Flat a0).opt:=by kernel_rfl
def zab:Vec->Iv:=fun a0=>(t_spec_l15Flat a0).get
theorem u_spec_l15Flat (a0:Vec):(t_spec_l15Flat a0).opt=some (zab a0):=Tr.zD (by kernel_rfl)
def E_spec_l15Flat:Ent Tryz.prog:= .of1 Tb129 B129 (fun _=>true) zab fun a0 _=>(r_spec_l15Flat a0).trans (u_spec_l15Flat a0)
def B117:Bod Tryz.prog:=⟨117,Tryz.f117,Tryz.f117.body.getD .skip,Tryz.func117,by kernel_rfl,by kernel_rfl,z8.no _ _⟩
def Tb117:Tb Tryz.prog:= {T:= [Y2,Y30,Y40],mix:=mix,Es:= [ET_impl_NormV],Bs:= [],d:=1}
def t_impl_fromAxis (a0:Vec):Tr (Iv):=
 .leaf (F_impl_NormV ⟨a0.x,a0.y,⟨⟨0,rfl⟩,⟨0,rfl⟩⟩⟩)
theorem r_impl_fromAxis (a0:Vec):Tb117.run B117 [enc a0] (Iv)=(t_impl_fromAxis a0).opt:=by kernel_rfl
def zeA:Vec->Iv:=fun a0=>(t_impl_fromAxis a0).get
theorem u_impl_fromAxis (a0:Vec):(t_impl_fromAxis a0).opt=some (zeA a0):=Tr.zD (by kernel_rfl)
def E_impl_fromAxis:Ent Tryz.prog:= .of1 Tb117 B117 (fun _=>true) zeA fun a0 _=>(r_impl_fromAxis a0).trans (u_impl_fromAxis a0)
def B279:Bod Tryz.prog:=⟨279,Tryz.f279,Tryz.f279.body.getD .skip,Tryz.func279,by kernel_rfl,by kernel_rfl,z8.no _ _⟩
def Tb279:Tb Tryz.prog:= {T:= [Y2,Y30],mix:=mix,Es:= [E_spec_l06At],Bs:= [],d:=1}
def t_spec_SinAt (a0:I64):Tr (Iv):=
 .leaf (zbf a0 ⟨0,rfl⟩)
theorem r_spec_SinAt (a0:I64):Tb279.run B279 [enc a0] (Iv)=(t_spec_SinAt a0).opt:=by kernel_rfl
def zfU:I64->Iv:=fun a0=>(t_spec_SinAt a0).get
theorem u_spec_SinAt (a0:I64):(t_spec_SinAt a0).opt=some (zfU a0):=Tr.zD (by kernel_rfl)
def E_spec_SinAt:Ent Tryz.prog:= .of1 Tb279 B279 (fun _=>true) zfU fun a0 _=>(r_spec_SinAt a0).trans (u_spec_SinAt a0)
def B280:Bod Tryz.prog:=⟨280,Tryz.f280,Tryz.f280.body.getD .skip,Tryz.func280,by kernel_rfl,by kernel_rfl,z8.no _ _⟩
def Tb280:Tb Tryz.prog:= {T:= [Y2,Y30],mix:=mix,Es:= [E_spec_l06At],Bs:= [],d:=1}
def t_spec_CosAt (a0:I64):Tr (Iv):=
 .leaf (zbf a0 ⟨1,rfl⟩)
theorem r_spec_CosAt (a0:I64):Tb280.run B280 [enc a0] (Iv)=(t_spec_CosAt a0).opt:=by kernel_rfl
def zfW:I64->Iv:=fun a0=>(t_spec_CosAt a0).get
theorem u_spec_CosAt (a0:I64):(t_spec_CosAt a0).opt=some (zfW a0):=Tr.zD (by kernel_rfl)
def E_spec_CosAt:Ent Tryz.prog:= .of1 Tb280 B280 (fun _=>true) zfW fun a0 _=>(r_spec_CosAt a0).trans (u_spec_CosAt a0)
def Y57:TyE Tryz.prog:=⟨57,3,(.struct [(0,2,1),(1,2,1),(2,2,1)]),[.i64 ⟨0,rfl⟩,.i64 ⟨0,rfl⟩,.i64 ⟨0,rfl⟩],true,by kernel_rfl,by kernel_rfl,by kernel_rfl,by kernel_rfl,by kernel_rfl,by kernel_rfl⟩
def B162:Bod Tryz.prog:=⟨162,Tryz.f162,Tryz.f162.body.getD .skip,Tryz.func162,by kernel_rfl,by kernel_rfl,z8.no _ _⟩
def Tb162:Tb Tryz.prog:= {T:= [Y2,Y57],mix:=mix,Es:= [zcq],Bs:= [],d:=1}
def t_spec_l12Ok (a0:Ell):Tr (Bool):=
 .br (zar a0.a ⟨1000,rfl⟩ ⟨100000000000,rfl⟩) (.br (zar a0.den ⟨1,rfl⟩ ⟨1000000000000,rfl⟩) (.br (decide (a0.num.val>=0)) (.leaf (decide (a0.num.val<=(Rng.w .i64 (a0.den.val.tdiv 100)).val))) (.leaf false)) (.leaf false)) (.leaf false)
theorem r_spec_l12Ok (a0:Ell):Tb162.run B162 [enc a0] (Bool)=(t_spec_l12Ok a0).opt:=by kernel_rfl
def zah:Ell->Bool:=fun a0=>(t_spec_l12Ok a0).get
theorem u_spec_l12Ok (a0:Ell):(t_spec_l12Ok a0).opt=some (zah a0):=Tr.zD (by kernel_rfl)
def E_spec_l12Ok:Ent Tryz.prog:= .of1 Tb162 B162 (fun _=>true) zah fun a0 _=>(r_spec_l12Ok a0).trans (u_spec_l12Ok a0)
def B64:Bod Tryz.prog:=⟨64,Tryz.f64,Tryz.f64.body.getD .skip,Tryz.func64,by kernel_rfl,by kernel_rfl,z8.no _ _⟩
def Tb64:Tb Tryz.prog:= {T:= [Y2,Y30,Y57],mix:=mix,Es:= [zaK,ET_spec_Quotient,E_spec_l12Ok],Bs:= [],d:=1}
def t_spec_MajorI (a0:Ell):Tr (Iv):=
 .br (!(zah a0)) (.leaf zm) (.leaf (zau a0.a ⟨1000,rfl⟩))
theorem r_spec_MajorI (a0:Ell):Tb64.run B64 [enc a0] (Iv)=(t_spec_MajorI a0).opt:=by kernel_rfl
def zch:Ell->Iv:=fun a0=>(t_spec_MajorI a0).get
theorem u_spec_MajorI (a0:Ell):(t_spec_MajorI a0).opt=some (zch a0):=Tr.zD (by kernel_rfl)
def E_spec_MajorI:Ent Tryz.prog:= .of1 Tb64 B64 (fun _=>true) zch fun a0 _=>(r_spec_MajorI a0).trans (u_spec_MajorI a0)
def B213:Bod Tryz.prog:=⟨213,Tryz.f213,Tryz.f213.body.getD .skip,Tryz.func213,by kernel_rfl,by kernel_rfl,z8.no _ _⟩
def Tb213:Tb Tryz.prog:= {T:= [Y2,Y30,Y57],mix:=mix,Es:= [zaK,ET_spec_Quotient,E_spec_l12Ok],Bs:= [],d:=1}
def zdJ (a0:Ell):Tr (Iv):=
 .br (!(zah a0)) (.leaf zm) (.leaf (zau a0.num a0.den))
theorem r_spec_FlatteningI (a0:Ell):Tb213.run B213 [enc a0] (Iv)=(zdJ a0).opt:=by kernel_rfl
def zci:Ell->Iv:=fun a0=>(zdJ a0).get
theorem u_spec_FlatteningI (a0:Ell):(zdJ a0).opt=some (zci a0):=Tr.zD (by kernel_rfl)
def E_spec_FlatteningI:Ent Tryz.prog:= .of1 Tb213 B213 (fun _=>true) zci fun a0 _=>(r_spec_FlatteningI a0).trans (u_spec_FlatteningI a0)
def B127:Bod Tryz.prog:=⟨127,Tryz.f127,Tryz.f127.body.getD .skip,Tryz.func127,by kernel_rfl,by kernel_rfl,z8.no _ _⟩
def Tb127:Tb Tryz.prog:= {T:= [Y2,Y30,Y57],mix:=mix,Es:= [zdj,E_spec_MulI,zd9,E_spec_FlatteningI],Bs:= [],d:=1}
def t_spec_EccI (a0:Ell):Tr (Iv):=
 let c1:=zci a0;.leaf (zS c1 (zO (zB ⟨2,rfl⟩) c1))
theorem r_spec_EccI (a0:Ell):Tb127.run B127 [enc a0] (Iv)=(t_spec_EccI a0).opt:=by kernel_rfl
def zcu:Ell->Iv:=fun a0=>(t_spec_EccI a0).get
theorem u_spec_EccI (a0:Ell):(t_spec_EccI a0).opt=some (zcu a0):=Tr.zD (by kernel_rfl)
def E_spec_EccI:Ent Tryz.prog:= .of1 Tb127 B127 (fun _=>true) zcu fun a0 _=>(r_spec_EccI a0).trans (u_spec_EccI a0)
def B326:Bod Tryz.prog:=⟨326,Tryz.f326,Tryz.f326.body.getD .skip,Tryz.func326,by kernel_rfl,by kernel_rfl,z8.no _ _⟩
def Tb326:Tb Tryz.prog:= {T:= [Y2,Y30,Y57],mix:=mix,Es:= [zdj,E_spec_MulI,E_spec_SinI,zd9,E_spec_EccI,E_spec_SqrI],Bs:= [],d:=1}
def t_spec_l12W (a0:Ell) (a1:Iv):Tr (Iv):=
 .leaf (zO (zB ⟨1,rfl⟩) (zS (zcu a0) (za7 (zct a1))))
theorem r_spec_l12W (a0:Ell) (a1:Iv):Tb326.run B326 [enc a0,enc a1] (Iv)=(t_spec_l12W a0 a1).opt:=by kernel_rfl
def F_spec_l12W:Ell->Iv->Iv:=fun a0 a1=>(t_spec_l12W a0 a1).get
theorem u_spec_l12W (a0:Ell) (a1:Iv):(t_spec_l12W a0 a1).opt=some (F_spec_l12W a0 a1):=Tr.zD (by kernel_rfl)
def E_spec_l12W:Ent Tryz.prog:= .of2 Tb326 B326 (fun _ _=>true) F_spec_l12W fun a0 a1 _=>(r_spec_l12W a0 a1).trans (u_spec_l12W a0 a1)
def B281:Bod Tryz.prog:=⟨281,Tryz.f281,Tryz.f281.body.getD .skip,Tryz.func281,by kernel_rfl,by kernel_rfl,z8.no _ _⟩
def Tb281:Tb Tryz.prog:= {T:= [Y2,Y30,Y57],mix:=mix,Es:= [E_spec_MajorI,ET_spec_SqrtI,E_spec_DivI,E_spec_l12W],Bs:= [],d:=1}
def t_spec_RadiusN (a0:Ell) (a1:Iv):Tr (Iv):=
 .leaf (zC (zch a0) (zbl (F_spec_l12W a0 a1)))
theorem r_spec_RadiusN (a0:Ell) (a1:Iv):Tb281.run B281 [enc a0,enc a1] (Iv)=(t_spec_RadiusN a0 a1).opt:=by kernel_rfl
def zcF:Ell->Iv->Iv:=fun a0 a1=>(t_spec_RadiusN a0 a1).get
theorem u_spec_RadiusN (a0:Ell) (a1:Iv):(t_spec_RadiusN a0 a1).opt=some (zcF a0 a1):=Tr.zD (by kernel_rfl)
def E_spec_RadiusN:Ent Tryz.prog:= .of2 Tb281 B281 (fun _ _=>true) zcF fun a0 a1 _=>(r_spec_RadiusN a0 a1).trans (u_spec_RadiusN a0 a1)
def B210:Bod Tryz.prog:=⟨210,Tryz.f210,Tryz.f210.body.getD .skip,Tryz.func210,by kernel_rfl,by kernel_rfl,z8.no _ _⟩
def Tb210:Tb Tryz.prog:= {T:= [Y2,Y30,Y57],mix:=mix,Es:= [E_spec_MulI,zd9,E_spec_EccI,E_spec_l05At,E_spec_SinAt,E_spec_CosAt,E_spec_RadiusN],Bs:= [],d:=1}
def zdV (a0:Ell) (a1:Iv) (a2:Iv) (a3:I64):Tr (Iv):=
 let c1:=zfU a3;let c2:=zfW a3;.leaf (zO (zO (zS a1 c1) (zS a2 c2)) (zS (zS (zS (zcu a0) (zcF a0 (zo a3))) c1) c2))
theorem r_spec_l14Side (a0:Ell) (a1:Iv) (a2:Iv) (a3:I64):Tb210.run B210 [enc a0,enc a1,enc a2,enc a3] (Iv)=(zdV a0 a1 a2 a3).opt:=by kernel_rfl
def zaa:Ell->Iv->Iv->I64->Iv:=fun a0 a1 a2 a3=>(zdV a0 a1 a2 a3).get
theorem u_spec_l14Side (a0:Ell) (a1:Iv) (a2:Iv) (a3:I64):(zdV a0 a1 a2 a3).opt=some (zaa a0 a1 a2 a3):=Tr.zD (by kernel_rfl)
def E_spec_l14Side:Ent Tryz.prog:= .of4 Tb210 B210 (fun _ _ _ _=>true) zaa fun a0 a1 a2 a3 _=>(r_spec_l14Side a0 a1 a2 a3).trans (u_spec_l14Side a0 a1 a2 a3)
def B110:Bod Tryz.prog:=⟨110,Tryz.f110,Tryz.f110.body.getD .skip,Tryz.func110,by kernel_rfl,by kernel_rfl,z8.no _ _⟩
def Tb110:Tb Tryz.prog:= {T:= [Y2,Y57],mix:=mix,Es:= [zbI],Bs:= [],d:=1}
def zdK (a0:Ell):Tr (Bool):=
 .br (zaH a0.a ⟨1000,rfl⟩ ⟨100000000000,rfl⟩) (.br (zaH a0.den ⟨1,rfl⟩ ⟨1000000000000,rfl⟩) (.leaf (zaH a0.num ⟨0,rfl⟩ (Rng.w .i64 (a0.den.val.tdiv 100)))) (.leaf false)) (.leaf false)
theorem r_impl_ValidEllipsoid (a0:Ell):Tb110.run B110 [enc a0] (Bool)=(zdK a0).opt:=by kernel_rfl
def zbc:Ell->Bool:=fun a0=>(zdK a0).get
theorem u_impl_ValidEllipsoid (a0:Ell):(zdK a0).opt=some (zbc a0):=Tr.zD (by kernel_rfl)
def zcW:Ent Tryz.prog:= .of1 Tb110 B110 (fun _=>true) zbc fun a0 _=>(r_impl_ValidEllipsoid a0).trans (u_impl_ValidEllipsoid a0)
def B233:Bod Tryz.prog:=⟨233,Tryz.f233,Tryz.f233.body.getD .skip,Tryz.func233,by kernel_rfl,by kernel_rfl,z8.no _ _⟩
def Tb233:Tb Tryz.prog:= {T:= [Y2,Y30],mix:=mix,Es:= [E_impl_circleValue],Bs:= [],d:=1}
def t_impl_SinAt (a0:I64):Tr (Iv):=
 .leaf (zbR a0 ⟨0,rfl⟩)
theorem r_impl_SinAt (a0:I64):Tb233.run B233 [enc a0] (Iv)=(t_impl_SinAt a0).opt:=by kernel_rfl
def F_impl_SinAt:I64->Iv:=fun a0=>(t_impl_SinAt a0).get
theorem u_impl_SinAt (a0:I64):(t_impl_SinAt a0).opt=some (F_impl_SinAt a0):=Tr.zD (by kernel_rfl)
def E_impl_SinAt:Ent Tryz.prog:= .of1 Tb233 B233 (fun _=>true) F_impl_SinAt fun a0 _=>(r_impl_SinAt a0).trans (u_impl_SinAt a0)
def B234:Bod Tryz.prog:=⟨234,Tryz.f234,Tryz.f234.body.getD .skip,Tryz.func234,by kernel_rfl,by kernel_rfl,z8.no _ _⟩
def Tb234:Tb Tryz.prog:= {T:= [Y2,Y30],mix:=mix,Es:= [E_impl_circleValue],Bs:= [],d:=1}
def t_impl_CosAt (a0:I64):Tr (Iv):=
 .leaf (zbR a0 ⟨1,rfl⟩)
theorem r_impl_CosAt (a0:I64):Tb234.run B234 [enc a0] (Iv)=(t_impl_CosAt a0).opt:=by kernel_rfl
def F_impl_CosAt:I64->Iv:=fun a0=>(t_impl_CosAt a0).get
theorem u_impl_CosAt (a0:I64):(t_impl_CosAt a0).opt=some (F_impl_CosAt a0):=Tr.zD (by kernel_rfl)
def E_impl_CosAt:Ent Tryz.prog:= .of1 Tb234 B234 (fun _=>true) F_impl_CosAt fun a0 _=>(r_impl_CosAt a0).trans (u_impl_CosAt a0)
def B201:Bod Tryz.prog:=⟨201,Tryz.f201,Tryz.f201.body.getD .skip,Tryz.func201,by kernel_rfl,by kernel_rfl,z8.no _ _⟩
def B295:Bod Tryz.prog:=⟨295,Tryz.f295,Tryz.f295.body.getD .skip,Tryz.func295,by kernel_rfl,by kernel_rfl,z8.no _ _⟩
def B235:Bod Tryz.prog:=⟨235,Tryz.f235,Tryz.f235.body.getD .skip,Tryz.func235,by kernel_rfl,by kernel_rfl,z8.no _ _⟩
def Tb235:Tb Tryz.prog:= {T:= [Y2,Y30,Y57],mix:=mix,Es:= [zcW,zaz,ET_impl_Quotient],Bs:= [B201,B295],d:=8}
def zfu (a0:Ell):Tr (Iv):=
 .br (!(zbc a0)) (.leaf zM) (.leaf (zaI a0.num a0.den))
theorem r_impl_FlatteningI (a0:Ell):Tb235.run B235 [enc a0] (Iv)=(zfu a0).opt:=by kernel_rfl
def zdU:Ell->Iv:=fun a0=>(zfu a0).get
theorem u_impl_FlatteningI (a0:Ell):(zfu a0).opt=some (zdU a0):=Tr.zD (by kernel_rfl)
def E_impl_FlatteningI:Ent Tryz.prog:= .of1 Tb235 B235 (fun _=>true) zdU fun a0 _=>(r_impl_FlatteningI a0).trans (u_impl_FlatteningI a0)
def B192:Bod Tryz.prog:=⟨192,Tryz.f192,Tryz.f192.body.getD .skip,Tryz.func192,by kernel_rfl,by kernel_rfl,z8.no _ _⟩
def Tb192:Tb Tryz.prog:= {T:= [Y2,Y30,Y57],mix:=mix,Es:= [zeb,zeK,zea,E_impl_FlatteningI],Bs:= [],d:=1}
def t_impl_EccI (a0:Ell):Tr (Iv):=
 let c1:=zdU a0;.leaf (zas c1 (zax (zaj ⟨2,rfl⟩) c1))
theorem r_impl_EccI (a0:Ell):Tb192.run B192 [enc a0] (Iv)=(t_impl_EccI a0).opt:=by kernel_rfl
def F_impl_EccI:Ell->Iv:=fun a0=>(t_impl_EccI a0).get
theorem u_impl_EccI (a0:Ell):(t_impl_EccI a0).opt=some (F_impl_EccI a0):=Tr.zD (by kernel_rfl)
def E_impl_EccI:Ent Tryz.prog:= .of1 Tb192 B192 (fun _=>true) F_impl_EccI fun a0 _=>(r_impl_EccI a0).trans (u_impl_EccI a0)
def B202:Bod Tryz.prog:=⟨202,Tryz.f202,Tryz.f202.body.getD .skip,Tryz.func202,by kernel_rfl,by kernel_rfl,z8.no _ _⟩
def B120:Bod Tryz.prog:=⟨120,Tryz.f120,Tryz.f120.body.getD .skip,Tryz.func120,by kernel_rfl,by kernel_rfl,z8.no _ _⟩
def Tb120:Tb Tryz.prog:= {T:= [Y2,Y30,Y57],mix:=mix,Es:= [zcW,zaz,ET_impl_Quotient],Bs:= [B201,B202],d:=8}
def t_impl_MajorI (a0:Ell):Tr (Iv):=
 .br (!(zbc a0)) (.leaf zM) (.leaf (zaI a0.a ⟨1000,rfl⟩))
theorem r_impl_MajorI (a0:Ell):Tb120.run B120 [enc a0] (Iv)=(t_impl_MajorI a0).opt:=by kernel_rfl
def zeT:Ell->Iv:=fun a0=>(t_impl_MajorI a0).get
theorem u_impl_MajorI (a0:Ell):(t_impl_MajorI a0).opt=some (zeT a0):=Tr.zD (by kernel_rfl)
def E_impl_MajorI:Ent Tryz.prog:= .of1 Tb120 B120 (fun _=>true) zeT fun a0 _=>(r_impl_MajorI a0).trans (u_impl_MajorI a0)
def B191:Bod Tryz.prog:=⟨191,Tryz.f191,Tryz.f191.body.getD .skip,Tryz.func191,by kernel_rfl,by kernel_rfl,z8.no _ _⟩
def Tb191:Tb Tryz.prog:= {T:= [Y2,Y30],mix:=mix,Es:= [zeb,zea],Bs:= [],d:=1}
def t_impl_oneLess (a0:Iv):Tr (Iv):=
 .leaf (zax (zaj ⟨1,rfl⟩) a0)
theorem r_impl_oneLess (a0:Iv):Tb191.run B191 [enc a0] (Iv)=(t_impl_oneLess a0).opt:=by kernel_rfl
def zfk:Iv->Iv:=fun a0=>(t_impl_oneLess a0).get
theorem u_impl_oneLess (a0:Iv):(t_impl_oneLess a0).opt=some (zfk a0):=Tr.zD (by kernel_rfl)
def E_impl_oneLess:Ent Tryz.prog:= .of1 Tb191 B191 (fun _=>true) zfk fun a0 _=>(r_impl_oneLess a0).trans (u_impl_oneLess a0)
def B122:Bod Tryz.prog:=⟨122,Tryz.f122,Tryz.f122.body.getD .skip,Tryz.func122,by kernel_rfl,by kernel_rfl,z8.no _ _⟩
def Tb122:Tb Tryz.prog:= {T:= [Y2,Y30,Y57],mix:=mix,Es:= [zeK,E_impl_oneLess,E_impl_EccI,ET_impl_SqrI],Bs:= [],d:=1}
def t_impl_weightOf (a0:Ell) (a1:Iv):Tr (Iv):=
 .leaf (zfk (zas (F_impl_EccI a0) (zfY a1)))
theorem r_impl_weightOf (a0:Ell) (a1:Iv):Tb122.run B122 [enc a0,enc a1] (Iv)=(t_impl_weightOf a0 a1).opt:=by kernel_rfl
def zey:Ell->Iv->Iv:=fun a0 a1=>(t_impl_weightOf a0 a1).get
theorem u_impl_weightOf (a0:Ell) (a1:Iv):(t_impl_weightOf a0 a1).opt=some (zey a0 a1):=Tr.zD (by kernel_rfl)
def E_impl_weightOf:Ent Tryz.prog:= .of2 Tb122 B122 (fun _ _=>true) zey fun a0 a1 _=>(r_impl_weightOf a0 a1).trans (u_impl_weightOf a0 a1)
def B189:Bod Tryz.prog:=⟨189,Tryz.f189,Tryz.f189.body.getD .skip,Tryz.func189,by kernel_rfl,by kernel_rfl,z8.no _ _⟩
def Tb189:Tb Tryz.prog:= {T:= [Y2,Y30,Y57],mix:=mix,Es:= [E_impl_SinI,E_impl_MajorI,ET_impl_SqrtI,E_impl_weightOf,E_impl_DivI],Bs:= [],d:=1}
def t_impl_RadiusN (a0:Ell) (a1:Iv):Tr (Iv):=
 .leaf (za9 (zeT a0) (zfX (zey a0 (zfZ a1))))
theorem r_impl_RadiusN (a0:Ell) (a1:Iv):Tb189.run B189 [enc a0,enc a1] (Iv)=(t_impl_RadiusN a0 a1).opt:=by kernel_rfl
def zfn:Ell->Iv->Iv:=fun a0 a1=>(t_impl_RadiusN a0 a1).get
theorem u_impl_RadiusN (a0:Ell) (a1:Iv):(t_impl_RadiusN a0 a1).opt=some (zfn a0 a1):=Tr.zD (by kernel_rfl)
def E_impl_RadiusN:Ent Tryz.prog:= .of2 Tb189 B189 (fun _ _=>true) zfn fun a0 a1 _=>(r_impl_RadiusN a0 a1).trans (u_impl_RadiusN a0 a1)
def B195:Bod Tryz.prog:=⟨195,Tryz.f195,Tryz.f195.body.getD .skip,Tryz.func195,by kernel_rfl,by kernel_rfl,z8.no _ _⟩
def Tb195:Tb Tryz.prog:= {T:= [Y2,Y30,Y40,Y57],mix:=mix,Es:= [zcW,zeK,E_impl_fromAxis,zea,zaz,E_impl_RadiusN,E_impl_EccI,E_impl_at,E_impl_SinAt,E_impl_CosAt],Bs:= [],d:=1}
def t_impl_SideAt (a0:Ell) (a1:Vec) (a2:I64):Tr (Iv):=
 .br (!(zbc a0)) (.leaf zM) (let c3:=F_impl_SinAt a2;let c4:=F_impl_CosAt a2;.leaf (zax (zax (zas (zeA a1) c3) (zas a1.z c4)) (zas (zas (zas (F_impl_EccI a0) (zfn a0 (zbK a2))) c3) c4)))
theorem r_impl_SideAt (a0:Ell) (a1:Vec) (a2:I64):Tb195.run B195 [enc a0,enc a1,enc a2] (Iv)=(t_impl_SideAt a0 a1 a2).opt:=by kernel_rfl
def zbd:Ell->Vec->I64->Iv:=fun a0 a1 a2=>(t_impl_SideAt a0 a1 a2).get
theorem u_impl_SideAt (a0:Ell) (a1:Vec) (a2:I64):(t_impl_SideAt a0 a1 a2).opt=some (zbd a0 a1 a2):=Tr.zD (by kernel_rfl)
def E_impl_SideAt:Ent Tryz.prog:= .of3 Tb195 B195 (fun _ _ _=>true) zbd fun a0 a1 a2 _=>(r_impl_SideAt a0 a1 a2).trans (u_impl_SideAt a0 a1 a2)
def B135:Bod Tryz.prog:=⟨135,Tryz.f135,Tryz.f135.body.getD .skip,Tryz.func135,by kernel_rfl,by kernel_rfl,z8.no _ _⟩
def Tb135:Tb Tryz.prog:= {T:= [Y2,Y24,Y30],mix:=mix,Es:= [E_impl_ValidPoint,zaz,ET_impl_RadiansOf],Bs:= [],d:=1}
def t_impl_LatOf (a0:zdn):Tr (Iv):=
 .br (!(zcw a0)) (.leaf zM) (.leaf (zfa a0.lat))
theorem r_impl_LatOf (a0:zdn):Tb135.run B135 [enc a0] (Iv)=(t_impl_LatOf a0).opt:=by kernel_rfl
def F_impl_LatOf:zdn->Iv:=fun a0=>(t_impl_LatOf a0).get
theorem u_impl_LatOf (a0:zdn):(t_impl_LatOf a0).opt=some (F_impl_LatOf a0):=Tr.zD (by kernel_rfl)
def E_impl_LatOf:Ent Tryz.prog:= .of1 Tb135 B135 (fun _=>true) F_impl_LatOf fun a0 _=>(r_impl_LatOf a0).trans (u_impl_LatOf a0)
def B173:Bod Tryz.prog:=⟨173,Tryz.f173,Tryz.f173.body.getD .skip,Tryz.func173,by kernel_rfl,by kernel_rfl,z8.no _ _⟩
def Tb173:Tb Tryz.prog:= {T:= [Y2,Y24,Y30],mix:=mix,Es:= [E_impl_ValidPoint,zaz,ET_impl_RadiansOf],Bs:= [],d:=1}
def t_impl_LonOf (a0:zdn):Tr (Iv):=
 .br (!(zcw a0)) (.leaf zM) (.leaf (zfa a0.lon))
theorem r_impl_LonOf (a0:zdn):Tb173.run B173 [enc a0] (Iv)=(t_impl_LonOf a0).opt:=by kernel_rfl
def F_impl_LonOf:zdn->Iv:=fun a0=>(t_impl_LonOf a0).get
theorem u_impl_LonOf (a0:zdn):(t_impl_LonOf a0).opt=some (F_impl_LonOf a0):=Tr.zD (by kernel_rfl)
def E_impl_LonOf:Ent Tryz.prog:= .of1 Tb173 B173 (fun _=>true) F_impl_LonOf fun a0 _=>(r_impl_LonOf a0).trans (u_impl_LonOf a0)
def B50:Bod Tryz.prog:=⟨50,Tryz.f50,Tryz.f50.body.getD .skip,Tryz.func50,by kernel_rfl,by kernel_rfl,z8.no _ _⟩
def Tb50:Tb Tryz.prog:= {T:= [Y2,Y24,Y30],mix:=mix,Es:= [ET_spec_RadiansOf,E_spec_l11Ok,zcV],Bs:= [],d:=1}
def t_spec_LatOf (a0:zdn):Tr (Iv):=
 .br (!(zaC a0)) (.leaf zaD) (.leaf (zP a0.lat))
theorem r_spec_LatOf (a0:zdn):Tb50.run B50 [enc a0] (Iv)=(t_spec_LatOf a0).opt:=by kernel_rfl
def F_spec_LatOf:zdn->Iv:=fun a0=>(t_spec_LatOf a0).get
theorem u_spec_LatOf (a0:zdn):(t_spec_LatOf a0).opt=some (F_spec_LatOf a0):=Tr.zD (by kernel_rfl)
def E_spec_LatOf:Ent Tryz.prog:= .of1 Tb50 B50 (fun _=>true) F_spec_LatOf fun a0 _=>(r_spec_LatOf a0).trans (u_spec_LatOf a0)
def B132:Bod Tryz.prog:=⟨132,Tryz.f132,Tryz.f132.body.getD .skip,Tryz.func132,by kernel_rfl,by kernel_rfl,z8.no _ _⟩
def Tb132:Tb Tryz.prog:= {T:= [Y2,Y24],mix:=mix,Es:= [],Bs:= [],d:=1}
def t_spec_l11Pole (a0:zdn):Tr (Bool):=
 .br (a0.lat.val==900000000) (.leaf true) (.leaf (a0.lat.val==(-900000000)))
theorem r_spec_l11Pole (a0:zdn):Tb132.run B132 [enc a0] (Bool)=(t_spec_l11Pole a0).opt:=by kernel_rfl
def F_spec_l11Pole:zdn->Bool:=fun a0=>(t_spec_l11Pole a0).get
theorem u_spec_l11Pole (a0:zdn):(t_spec_l11Pole a0).opt=some (F_spec_l11Pole a0):=Tr.zD (by kernel_rfl)
def E_spec_l11Pole:Ent Tryz.prog:= .of1 Tb132 B132 (fun _=>true) F_spec_l11Pole fun a0 _=>(r_spec_l11Pole a0).trans (u_spec_l11Pole a0)
def B41:Bod Tryz.prog:=⟨41,Tryz.f41,Tryz.f41.body.getD .skip,Tryz.func41,by kernel_rfl,by kernel_rfl,z8.no _ _⟩
def Tb41:Tb Tryz.prog:= {T:= [Y2,Y24,Y30],mix:=mix,Es:= [E_spec_OverlapI,ET_spec_RadiansOf,E_spec_LatOf,E_spec_l11Ok,E_spec_l11Pole],Bs:= [],d:=1}
def t_spec_AtPoint (a0:Iv) (a1:Iv) (a2:zdn):Tr (Bool):=
 .br (!(zaC a2)) (.leaf false) (.br (!(zT a0 (F_spec_LatOf a2))) (.leaf false) (.br (F_spec_l11Pole a2) (.leaf true) (.br (zT a1 (zP (Rng.w .i64 (a2.lon.val+(-32400000000))))) (.leaf true) (.br (zT a1 (zP (Rng.w .i64 (a2.lon.val+(-28800000000))))) (.leaf true) (.br (zT a1 (zP (Rng.w .i64 (a2.lon.val+(-25200000000))))) (.leaf true) (.br (zT a1 (zP (Rng.w .i64 (a2.lon.val+(-21600000000))))) (.leaf true) (.br (zT a1 (zP (Rng.w .i64 (a2.lon.val+(-18000000000))))) (.leaf true) (.br (zT a1 (zP (Rng.w .i64 (a2.lon.val+(-14400000000))))) (.leaf true) (.br (zT a1 (zP (Rng.w .i64 (a2.lon.val+(-10800000000))))) (.leaf true) (.br (zT a1 (zP (Rng.w .i64 (a2.lon.val+(-7200000000))))) (.leaf true) (.br (zT a1 (zP (Rng.w .i64 (a2.lon.val+(-3600000000))))) (.leaf true) (.br (zT a1 (zP (Rng.w .i64 (a2.lon.val+0)))) (.leaf true) (.br (zT a1 (zP (Rng.w .i64 (a2.lon.val+3600000000)))) (.leaf true) (.br (zT a1 (zP (Rng.w .i64 (a2.lon.val+7200000000)))) (.leaf true) (.br (zT a1 (zP (Rng.w .i64 (a2.lon.val+10800000000)))) (.leaf true) (.br (zT a1 (zP (Rng.w .i64 (a2.lon.val+14400000000)))) (.leaf true) (.br (zT a1 (zP (Rng.w .i64 (a2.lon.val+18000000000)))) (.leaf true) (.br (zT a1 (zP (Rng.w .i64 (a2.lon.val+21600000000)))) (.leaf true) (.br (zT a1 (zP (Rng.w .i64 (a2.lon.val+25200000000)))) (.leaf true) (.br (zT a1 (zP (Rng.w .i64 (a2.lon.val+28800000000)))) (.leaf true) (.br (zT a1 (zP (Rng.w .i64 (a2.lon.val+32400000000)))) (.leaf true) (.leaf false))))))))))))))))))))))
theorem r_spec_AtPoint (a0:Iv) (a1:Iv) (a2:zdn):Tb41.run B41 [enc a0,enc a1,enc a2] (Bool)=(t_spec_AtPoint a0 a1 a2).opt:=by kernel_rfl
def zfj:Iv->Iv->zdn->Bool:=fun a0 a1 a2=>(t_spec_AtPoint a0 a1 a2).get
theorem u_spec_AtPoint (a0:Iv) (a1:Iv) (a2:zdn):(t_spec_AtPoint a0 a1 a2).opt=some (zfj a0 a1 a2):=Tr.zD (by kernel_rfl)
def E_spec_AtPoint:Ent Tryz.prog:= .of3 Tb41 B41 (fun _ _ _=>true) zfj fun a0 a1 a2 _=>(r_spec_AtPoint a0 a1 a2).trans (u_spec_AtPoint a0 a1 a2)
def B112:Bod Tryz.prog:=⟨112,Tryz.f112,Tryz.f112.body.getD .skip,Tryz.func112,by kernel_rfl,by kernel_rfl,z8.no _ _⟩
def Tb112:Tb Tryz.prog:= {T:= [Y2,Y24,Y30,Y40,Y57,Y60],mix:=mix,Es:= [zeV,E_impl_SinI,zeK,E_impl_CosI,E_impl_LatOf,E_impl_LonOf,E_impl_RadiusN,ET_impl_HeightI,E_impl_oneLess,E_impl_EccI],Bs:= [],d:=1}
def zfr (a0:Ell) (a1:Place):Tr (Vec):=
 let c1:=F_impl_LatOf a1.pt;let c2:=F_impl_LonOf a1.pt;let c3:=zfn a0 c1;let c4:=F_impl_HeightI a1.h;let c7:=zas (zbt c3 c4) (F_impl_CosI c1);.leaf ⟨(zas c7 (F_impl_CosI c2)),(zas c7 (zfZ c2)),(zas (zbt (zas c3 (zfk (F_impl_EccI a0))) c4) (zfZ c1))⟩
theorem r_impl_toCartesian (a0:Ell) (a1:Place):Tb112.run B112 [enc a0,enc a1] (Vec)=(zfr a0 a1).opt:=by kernel_rfl
def zdS:Ell->Place->Vec:=fun a0 a1=>(zfr a0 a1).get
theorem u_impl_toCartesian (a0:Ell) (a1:Place):(zfr a0 a1).opt=some (zdS a0 a1):=Tr.zD (by kernel_rfl)
def E_impl_toCartesian:Ent Tryz.prog:= .of2 Tb112 B112 (fun _ _=>true) zdS fun a0 a1 _=>(r_impl_toCartesian a0 a1).trans (u_impl_toCartesian a0 a1)
def B38:Bod Tryz.prog:=⟨38,Tryz.f38,Tryz.f38.body.getD .skip,Tryz.func38,by kernel_rfl,by kernel_rfl,z8.no _ _⟩
def Tb38:Tb Tryz.prog:= {T:= [Y2,Y30,Y40,Y57,Y60],mix:=mix,Es:= [zcW,E_impl_ValidPlace,E_impl_toCartesian],Bs:= [],d:=1}
def zft (a0:Ell) (a1:Place):Tr (T2 Vec I64):=
 .br (!(zbc a0)) (.leaf ⟨⟨⟨⟨0,rfl⟩,⟨0,rfl⟩⟩,⟨⟨0,rfl⟩,⟨0,rfl⟩⟩,⟨⟨0,rfl⟩,⟨0,rfl⟩⟩⟩,⟨1,rfl⟩⟩) (.br (!(zdq a1)) (.leaf ⟨⟨⟨⟨0,rfl⟩,⟨0,rfl⟩⟩,⟨⟨0,rfl⟩,⟨0,rfl⟩⟩,⟨⟨0,rfl⟩,⟨0,rfl⟩⟩⟩,⟨1,rfl⟩⟩) (.leaf ⟨(zdS a0 a1),⟨0,rfl⟩⟩))
theorem r_impl_ToCartesian (a0:Ell) (a1:Place):Tb38.run B38 [enc a0,enc a1] (T2 Vec I64)=(zft a0 a1).opt:=by kernel_rfl
def zdT:Ell->Place->T2 Vec I64:=fun a0 a1=>(zft a0 a1).get
theorem u_impl_ToCartesian (a0:Ell) (a1:Place):(zft a0 a1).opt=some (zdT a0 a1):=Tr.zD (by kernel_rfl)
def E_impl_ToCartesian:Ent Tryz.prog:= .of2 Tb38 B38 (fun _ _=>true) zdT fun a0 a1 _=>(r_impl_ToCartesian a0 a1).trans (u_impl_ToCartesian a0 a1)
def B209:Bod Tryz.prog:=⟨209,Tryz.f209,Tryz.f209.body.getD .skip,Tryz.func209,by kernel_rfl,by kernel_rfl,z8.no _ _⟩
def Tb209:Tb Tryz.prog:= {T:= [Y2,Y30],mix:=mix,Es:= [zaK,zbq,zbg],Bs:= [],d:=1}
def t_spec_HalfI (a0:Iv):Tr (Iv):=
 .br (!(ze a0)) (.leaf zm) (.leaf (zav (Rng.w .i64 (a0.lo.val.fdiv 2)) (Rng.w .i64 ((Rng.w .i64 (a0.hi.val+1)).val.fdiv 2))))
theorem r_spec_HalfI (a0:Iv):Tb209.run B209 [enc a0] (Iv)=(t_spec_HalfI a0).opt:=by kernel_rfl
def F_spec_HalfI:Iv->Iv:=fun a0=>(t_spec_HalfI a0).get
theorem u_spec_HalfI (a0:Iv):(t_spec_HalfI a0).opt=some (F_spec_HalfI a0):=Tr.zD (by kernel_rfl)
def E_spec_HalfI:Ent Tryz.prog:= .of1 Tb209 B209 (fun _=>true) F_spec_HalfI fun a0 _=>(r_spec_HalfI a0).trans (u_spec_HalfI a0)
def B193:Bod Tryz.prog:=⟨193,Tryz.f193,Tryz.f193.body.getD .skip,Tryz.func193,by kernel_rfl,by kernel_rfl,z8.no _ _⟩
def Tb193:Tb Tryz.prog:= {T:= [Y2,Y30],mix:=mix,Es:= [zbW,zaz],Bs:= [],d:=1}
def t_impl_HalfI (a0:Iv):Tr (Iv):=
 .br (zan a0) (.leaf zM) (.leaf ⟨(Rng.w .i64 (a0.lo.val.fdiv 2)),(Rng.w .i64 ((Rng.w .i64 (a0.hi.val+1)).val.fdiv 2))⟩)
theorem r_impl_HalfI (a0:Iv):Tb193.run B193 [enc a0] (Iv)=(t_impl_HalfI a0).opt:=by kernel_rfl
def F_impl_HalfI:Iv->Iv:=fun a0=>(t_impl_HalfI a0).get
theorem u_impl_HalfI (a0:Iv):(t_impl_HalfI a0).opt=some (F_impl_HalfI a0):=Tr.zD (by kernel_rfl)
def E_impl_HalfI:Ent Tryz.prog:= .of1 Tb193 B193 (fun _=>true) F_impl_HalfI fun a0 _=>(r_impl_HalfI a0).trans (u_impl_HalfI a0)
def B208:Bod Tryz.prog:=⟨208,Tryz.f208,Tryz.f208.body.getD .skip,Tryz.func208,by kernel_rfl,by kernel_rfl,z8.no _ _⟩
def Tb208:Tb Tryz.prog:= {T:= [Y57],mix:=mix,Es:= [E_spec_l12Ok],Bs:= [],d:=1}
def zdI (a0:Ell):Tr (Bool):=
 .leaf (zah a0)
theorem r_spec_ValidEllipsoid (a0:Ell):Tb208.run B208 [enc a0] (Bool)=(zdI a0).opt:=by kernel_rfl
def zcO:Ell->Bool:=fun a0=>(zdI a0).get
theorem u_spec_ValidEllipsoid (a0:Ell):(zdI a0).opt=some (zcO a0):=Tr.zD (by kernel_rfl)
def E_spec_ValidEllipsoid:Ent Tryz.prog:= .of1 Tb208 B208 (fun _=>true) zcO fun a0 _=>(r_spec_ValidEllipsoid a0).trans (u_spec_ValidEllipsoid a0)
end
end Go.Proofs.YtfcjhkkpbnobhaaGreat.Ev
namespace Go.Proofs.YtfcjhkkpbnobhaaGreat.Ev
open Go
theorem lat_eq {p:zdn} (h:zaC p=true):F_impl_LatOf p=zP p.lat:=by
 simp only [F_impl_LatOf,t_impl_LatOf,Tr.get,point_eq,h,Bool.not_true,cfl,radians_eq]
theorem lon_eq {p:zdn} (h:zaC p=true):F_impl_LonOf p=zP p.lon:=by
 simp only [F_impl_LonOf,t_impl_LonOf,Tr.get,point_eq,h,Bool.not_true,cfl,radians_eq]
theorem flat_eq (v:Vec):zeA v=zab v:=by
 simp only [zeA,t_impl_fromAxis,zab,t_spec_l15Flat,Tr.get,norm_eq]
end Go.Proofs.YtfcjhkkpbnobhaaGreat.Ev
namespace Go.Proofs.YtfcjhkkpbnobhaaGreat.Ev
open Go
theorem ell_eq (e:Ell):zbc e=zah e:=by
 simp only [zbc,zdK,zah,t_spec_l12Ok,Tr.get,zcI,ze5]
 cases decide (1000<=e.a.val/\e.a.val<=100000000000)
 ·simp [ctr,cfl]
 cases decide (1<=e.den.val/\e.den.val<=1000000000000)
 ·simp [ctr,cfl]
 simp only [ctr]
 by_cases h:e.num.val>=0
 ·by_cases h2:e.num.val<=(Rng.w .i64 (e.den.val.tdiv 100)).val<;>simp [h,h2]
 ·simp [h]
theorem sell_eq (e:Ell):zcO e=zah e:=by simp only [zcO,zdI,Tr.get]
theorem flatI_eq (e:Ell):zdU e=zci e:=by
 simp only [zdU,zfu,zci,zdJ,Tr.get,ell_eq,quot_eq,zbX]
theorem major_eq (e:Ell):zeT e=zch e:=by
 simp only [zeT,t_impl_MajorI,zch,t_spec_MajorI,Tr.get,ell_eq,quot_eq,zbX]
theorem ecc_eq (e:Ell):F_impl_EccI e=zcu e:=by
 simp only [F_impl_EccI,t_impl_EccI,zcu,t_spec_EccI,Tr.get,flatI_eq,mulI_F,sub_eq,integer_eq]
theorem oneLess_eq (x:Iv):zfk x=zO (zB ⟨1,rfl⟩) x:=by
 simp only [zfk,t_impl_oneLess,Tr.get,sub_eq,integer_eq]
theorem weight_eq (e:Ell) (s:Iv):zey e s=zO (zB ⟨1,rfl⟩) (zS (zcu e) (za7 s)):=by
 simp only [zey,t_impl_weightOf,Tr.get,oneLess_eq,ecc_eq,mulI_F,sqrI_F]
theorem radN_eq (e:Ell) (x:Iv):zfn e x=zcF e x:=by
 simp only [zfn,t_impl_RadiusN,zcF,t_spec_RadiusN,F_spec_l12W,t_spec_l12W,Tr.get,weight_eq,major_eq,divI_F,sqrtI_eq,sinI_eq]
theorem sinAt_eq (n:I64):F_impl_SinAt n=zfU n:=by
 simp only [F_impl_SinAt,t_impl_SinAt,zfU,t_spec_SinAt,Tr.get,circle_eq]
theorem cosAt_eq (n:I64):F_impl_CosAt n=zfW n:=by
 simp only [F_impl_CosAt,t_impl_CosAt,zfW,t_spec_CosAt,Tr.get,circle_eq]
theorem halfI_eq (a:Iv):F_impl_HalfI a=F_spec_HalfI a:=by
 simp only [F_impl_HalfI,t_impl_HalfI,F_spec_HalfI,t_spec_HalfI,Tr.get,isw_eq,zbX]
 cases h:ze a
 ·rfl
 have hb:=(zca a).1 h
 simp only [Bool.not_true,cfl]
 have e1:(Rng.w .i64 (a.hi.val+1)).val=a.hi.val+1:=wi (by omega) (by omega)
 have d1:a.lo.val.fdiv 2=a.lo.val/2:=Int.fdiv_eq_ediv_of_nonneg _ (by decide)
 have d2:(a.hi.val+1).fdiv 2=(a.hi.val+1)/2:=Int.fdiv_eq_ediv_of_nonneg _ (by decide)
 refine (zdb ?_).symm
 rw [e1,d1,d2,wi (by omega) (by omega),wi (by omega) (by omega)]
 omega
theorem hgt_eq {h:I64} (hh:zck h=true):F_impl_HeightI h=zau h ⟨1000,rfl⟩:=by
 simp only [F_impl_HeightI,zd1,Tr.get,hh,q_G_impl,ctr,Bool.not_true,cfl,quot_eq]
def toC (e:Ell) (p:Place):Vec:=
 let c4:=zP p.pt.lat;let c5:=zP p.pt.lon;let c6:=zcF e c4;let c7:=zau p.h ⟨1000,rfl⟩;let c10:=zS (zak c6 c7) (zd3 c4)
 ⟨zS c10 (zd3 c5),zS c10 (zct c5),zS (zak (zS c6 (zO (zB ⟨1,rfl⟩) (zcu e))) c7) (zct c4)⟩
theorem hgt_ok (h:I64):zck h=zar h ⟨-20000000,rfl⟩ ⟨20000000000,rfl⟩:=by
 simp only [zck,zfL,Tr.get,zcI,ze5]
theorem plc_eq (p:Place):zdq p=(zaC p.pt&&zar p.h ⟨-20000000,rfl⟩ ⟨20000000000,rfl⟩):=by
 simp only [zdq,t_impl_ValidPlace,Tr.get,point_eq,hgt_ok]
 cases zaC p.pt<;>simp only [ctr,cfl,Bool.true_and,Bool.false_and]
theorem toC_eq {e:Ell} {p:Place} (h1:zaC p.pt=true) (h2:zar p.h ⟨-20000000,rfl⟩ ⟨20000000000,rfl⟩=true):zdS e p=toC e p:=by
 have h3:=hgt_eq (h:=p.h) (by rw [hgt_ok];exact h2)
 simp only [zdS,zfr,Tr.get,toC,lat_eq h1,lon_eq h1,h3,radN_eq,cosI_eq,sinI_eq,mulI_F,add_eq,ecc_eq,oneLess_eq]
theorem slat_eq {p:zdn} (h:zaC p=true):F_spec_LatOf p=zP p.lat:=by
 simp only [F_spec_LatOf,t_spec_LatOf,Tr.get,h,Bool.not_true,cfl]
end Go.Proofs.YtfcjhkkpbnobhaaGreat.Ev
namespace Go.Proofs.YtfcjhkkpbnobhaaGreat.Ev
open Go
def Sub (a b:Iv):Prop:=ze b=true->ze a=true/\b.lo.val<=a.lo.val/\a.hi.val<=b.hi.val
theorem muldown_true {x y:I64} (h:(zN x y).b=true):(zN x y).a.val=x.val*y.val/4294967296:=by
 simp only [zN,zb5,Tr.get,mf32] at h ⊢
 cases h1:zG x
 ·rw [h1] at h;simp [ctr] at h
 cases h2:zG y
 ·rw [h1,h2] at h;simp [ctr,cfl] at h
 rw [h1,h2] at h
 simp only [Bool.not_true,cfl] at h ⊢
 unfold narrow at h ⊢
 split at h
 ·rename_i hr
  rw [if_pos hr]
  rcases end_cases (.w .i64 (x.val*y.val/4294967296)) true with e|⟨e,_⟩
  ·rw [e] at h;cases h
  ·rw [e];exact wi hr.1 hr.2
 ·rename_i hr
  rcases end_cases (.w .i64 0) false with e|⟨e,_⟩
  ·rw [e] at h;cases h
  ·have:(zat (.w .i64 0) false).b=false:=by simp only [zat,zcb,Tr.get,Bool.not_false,ctr]
   rw [this] at h;cases h
theorem mulup_true {x y:I64} (h:(zae x y).b=true):(zae x y).a.val= -(-(x.val*y.val)/4294967296):=by
 simp only [zae,zds,Tr.get] at h ⊢
 cases h1:zG x
 ·rw [h1] at h;simp [ctr] at h
 rw [h1] at h
 simp only [Bool.not_true,cfl] at h ⊢
 have hb:=ok_bd h1
 cases hd:(zN (.w .i64 (0-x.val)) y).b
 ·rw [hd] at h;simp [ctr] at h
 simp only [hd,Bool.not_true,cfl]
 have e:=muldown_true hd
 have en:(Rng.w .i64 (0-x.val)).val= -x.val:=by rw [wi (by omega) (by omega)];omega
 rw [en,Int.neg_mul] at e
 rcases zeN (.w .i64 (0-x.val)) y with k|⟨c,k,kc⟩
 ·rw [k] at hd;cases hd
 ·have kb:=ok_bd kc
  rw [k] at e ⊢
  simp only at e ⊢
  rw [wi (by omega) (by omega)]
  omega
theorem mulI_corner {a b:Iv} (h:ze (zS a b)=true):ze a=true/\ze b=true /\
  ∀x y:I64,(x=a.lo\/x=a.hi)->(y=b.lo\/y=b.hi)->(zS a b).lo.val<=x.val*y.val/4294967296 /\ -(-(x.val*y.val)/4294967296)<=(zS a b).hi.val:=by
 have nw:∀ {P:Prop},ze zm=true->P:=fun h=>by rw [zcy] at h;cases h
 simp only [zS,t_spec_MulI,Tr.get] at h ⊢
 cases ha:ze a
 ·rw [ha] at h;exact nw h
 cases hb:ze b
 ·rw [ha,hb] at h;exact nw h
 simp only [ha,hb,Bool.not_true,cfl] at h ⊢
 cases h1:(zN a.lo b.lo).b
 ·rw [h1] at h;exact nw h
 cases h2:(zae a.lo b.lo).b
 ·rw [h1,h2] at h;exact nw h
 cases h3:(zN a.lo b.hi).b
 ·rw [h1,h2,h3] at h;exact nw h
 cases h4:(zae a.lo b.hi).b
 ·rw [h1,h2,h3,h4] at h;exact nw h
 cases h5:(zN a.hi b.lo).b
 ·rw [h1,h2,h3,h4,h5] at h;exact nw h
 cases h6:(zae a.hi b.lo).b
 ·rw [h1,h2,h3,h4,h5,h6] at h;exact nw h
 cases h7:(zN a.hi b.hi).b
 ·rw [h1,h2,h3,h4,h5,h6,h7] at h;exact nw h
 cases h8:(zae a.hi b.hi).b
 ·rw [h1,h2,h3,h4,h5,h6,h7,h8] at h;exact nw h
 simp only [h1,h2,h3,h4,h5,h6,h7,h8,Bool.not_true,cfl] at h ⊢
 refine ⟨trivial,trivial,?_⟩
 have v1:=muldown_true h1
 have v2:=mulup_true h2
 have v3:=muldown_true h3
 have v4:=mulup_true h4
 have v5:=muldown_true h5
 have v6:=mulup_true h6
 have v7:=muldown_true h7
 have v8:=mulup_true h8
 generalize (zN a.lo b.lo).a=d1 at *
 generalize (zN a.lo b.hi).a=d2 at *
 generalize (zN a.hi b.lo).a=d3 at *
 generalize (zN a.hi b.hi).a=d4 at *
 generalize (zae a.lo b.lo).a=u1 at *
 generalize (zae a.lo b.hi).a=u2 at *
 generalize (zae a.hi b.lo).a=u3 at *
 generalize (zae a.hi b.hi).a=u4 at *
 have m1:=min_l ⟨1152921504606846976,rfl⟩ d1
 have m2:=min_l (zu ⟨1152921504606846976,rfl⟩ d1) d2
 have m3:=min_l (zu (zu ⟨1152921504606846976,rfl⟩ d1) d2) d3
 have m4:=min_l (zu (zu (zu ⟨1152921504606846976,rfl⟩ d1) d2) d3) d4
 have n1:=max_l ⟨-1152921504606846976,rfl⟩ u1
 have n2:=max_l (zq ⟨-1152921504606846976,rfl⟩ u1) u2
 have n3:=max_l (zq (zq ⟨-1152921504606846976,rfl⟩ u1) u2) u3
 have n4:=max_l (zq (zq (zq ⟨-1152921504606846976,rfl⟩ u1) u2) u3) u4
 generalize zu (zu (zu (zu ⟨1152921504606846976,rfl⟩ d1) d2) d3) d4=lo at *
 generalize zq (zq (zq (zq ⟨-1152921504606846976,rfl⟩ u1) u2) u3) u4=hi at *
 by_cases hm: -1152921504606846976<lo.val/\lo.val<=hi.val/\hi.val<1152921504606846976
 ·rw [zdb hm]
  simp only
  rintro x y (rfl|rfl) (rfl|rfl)
  ·omega
  ·omega
  ·omega
  ·omega
 ·rw [make_no hm] at h;exact nw h
theorem addI_val {a b:Iv} (h:ze (zak a b)=true):ze a=true/\ze b=true/\(zak a b).lo.val=a.lo.val+b.lo.val/\(zak a b).hi.val=a.hi.val+b.hi.val:=by
 simp only [zak,zfK,Tr.get] at h ⊢
 cases ha:ze a
 ·rw [ha] at h;simp only [Bool.not_false,ctr,zcy] at h;cases h
 cases hb:ze b
 ·rw [ha,hb] at h;simp only [Bool.not_false,Bool.not_true,ctr,cfl,zcy] at h;cases h
 simp only [ha,hb,Bool.not_true,cfl] at h ⊢
 have ba:=(zca _).1 ha
 have bb:=(zca _).1 hb
 have k1:(Rng.w .i64 (a.lo.val+b.lo.val)).val=a.lo.val+b.lo.val:=wi (by omega) (by omega)
 have k2:(Rng.w .i64 (a.hi.val+b.hi.val)).val=a.hi.val+b.hi.val:=wi (by omega) (by omega)
 by_cases hm: -1152921504606846976<(Rng.w .i64 (a.lo.val+b.lo.val)).val/\(Rng.w .i64 (a.lo.val+b.lo.val)).val<=(Rng.w .i64 (a.hi.val+b.hi.val)).val/\(Rng.w .i64 (a.hi.val+b.hi.val)).val<1152921504606846976
 ·rw [zdb hm];exact ⟨trivial,trivial,k1,k2⟩
 ·rw [make_no hm,zcy] at h;cases h
theorem subI_val {a b:Iv} (h:ze (zO a b)=true):ze a=true/\ze b=true/\(zO a b).lo.val=a.lo.val-b.hi.val/\(zO a b).hi.val=a.hi.val-b.lo.val:=by
 simp only [zO,t_spec_SubI,Tr.get] at h ⊢
 cases ha:ze a
 ·rw [ha] at h;simp only [Bool.not_false,ctr,zcy] at h;cases h
 cases hb:ze b
 ·rw [ha,hb] at h;simp only [Bool.not_false,Bool.not_true,ctr,cfl,zcy] at h;cases h
 simp only [ha,hb,Bool.not_true,cfl] at h ⊢
 have ba:=(zca _).1 ha
 have bb:=(zca _).1 hb
 have k1:(Rng.w .i64 (a.lo.val-b.hi.val)).val=a.lo.val-b.hi.val:=wi (by omega) (by omega)
 have k2:(Rng.w .i64 (a.hi.val-b.lo.val)).val=a.hi.val-b.lo.val:=wi (by omega) (by omega)
 by_cases hm: -1152921504606846976<(Rng.w .i64 (a.lo.val-b.hi.val)).val/\(Rng.w .i64 (a.lo.val-b.hi.val)).val<=(Rng.w .i64 (a.hi.val-b.lo.val)).val/\(Rng.w .i64 (a.hi.val-b.lo.val)).val<1152921504606846976
 ·rw [zdb hm];exact ⟨trivial,trivial,k1,k2⟩
 ·rw [make_no hm,zcy] at h;cases h
theorem dblI_val {a:Iv} (h:ze (zbV a)=true):ze a=true/\(zbV a).lo.val=2*a.lo.val/\(zbV a).hi.val=2*a.hi.val:=by
 simp only [zbV,t_spec_DoubleI,Tr.get] at h ⊢
 cases ha:ze a
 ·rw [ha] at h;simp only [Bool.not_false,ctr,zcy] at h;cases h
 simp only [ha,Bool.not_true,cfl] at h ⊢
 have ba:=(zca _).1 ha
 have k1:(Rng.w .i64 (2*a.lo.val)).val=2*a.lo.val:=wi (by omega) (by omega)
 have k2:(Rng.w .i64 (2*a.hi.val)).val=2*a.hi.val:=wi (by omega) (by omega)
 by_cases hm: -1152921504606846976<(Rng.w .i64 (2*a.lo.val)).val/\(Rng.w .i64 (2*a.lo.val)).val<=(Rng.w .i64 (2*a.hi.val)).val/\(Rng.w .i64 (2*a.hi.val)).val<1152921504606846976
 ·rw [zdb hm];exact ⟨trivial,k1,k2⟩
 ·rw [make_no hm,zcy] at h;cases h
end Go.Proofs.YtfcjhkkpbnobhaaGreat.Ev
namespace Go.Proofs.YtfcjhkkpbnobhaaGreat.Ev
open Go
theorem sqrI_val {a:Iv} (h:ze (za7 a)=true):ze a=true/\(za7 a).lo.val=(zL a).a.val*(zL a).a.val/4294967296/\(za7 a).hi.val= -(-((zL a).b.val*(zL a).b.val)/4294967296):=by
 have nw:∀ {P:Prop},ze zm=true->P:=fun h=>by rw [zcy] at h;cases h
 simp only [za7,t_spec_SqrI,Tr.get] at h ⊢
 cases ha:ze a
 ·rw [ha] at h;exact nw h
 simp only [ha,Bool.not_true,cfl] at h ⊢
 cases h1:(zN (zL a).a (zL a).a).b
 ·rw [h1] at h;exact nw h
 cases h2:(zae (zL a).b (zL a).b).b
 ·rw [h1,h2] at h;exact nw h
 simp only [h1,h2,Bool.not_true,cfl] at h ⊢
 have v1:=muldown_true h1
 have v2:=mulup_true h2
 generalize (zN (zL a).a (zL a).a).a=lo at *
 generalize (zae (zL a).b (zL a).b).a=hi at *
 by_cases hm: -1152921504606846976<lo.val/\lo.val<=hi.val/\hi.val<1152921504606846976
 ·rw [zdb hm];exact ⟨trivial,v1,v2⟩
 ·rw [make_no hm] at h;exact nw h
theorem su_val2 (a:I64) (ha:0<=a.val/\a.val<=1152921504606846976):∃q p:I64,zbQ a=⟨q,true⟩/\zbD a=⟨p,true⟩/\0<=q.val/\q.val<=70368744177664/\q.val*q.val<=a.val*4294967296/\a.val*4294967296<(q.val+1)*(q.val+1)/\q.val<=p.val/\p.val<=q.val+1/\a.val*4294967296<=p.val*p.val/\(q.val<p.val->q.val*q.val<a.val*4294967296):=by
 obtain ⟨q,h1,h2,h3,h4,h5,h6⟩:=sd_val a ha
 have e1:(Rng.w .i64 (q.val+1)).val=q.val+1:=wi (by omega) (by omega)
 have hqq:=Int.mul_nonneg h3 h3
 have hmf:zaG q q ⟨32,rfl⟩=⟨.w .i64 (q.val*q.val/4294967296),true⟩:=by rw [mf32];exact narrow_ok (by omega) (by omega)
 have hmv:(Rng.w .i64 (q.val*q.val/4294967296)).val=q.val*q.val/4294967296:=wi (by omega) (by omega)
 have hmask:(Rng.w .i64 (zba .and .i64 (Rng.w .i64 (q.val*q.val)).val 4294967295)).val=q.val*q.val%4294967296:=by rw [and_mask_i,zei];omega
 by_cases hx:q.val*q.val=a.val*4294967296
 ·refine ⟨q,q,h1,?_,h3,h4,h5,h6,Int.le_refl _,by omega,by omega,fun h=>by omega⟩
  have k1:(q.val*q.val/4294967296 != a.val)=false:=by simp;omega
  have k2:(q.val*q.val%4294967296 != 0)=false:=by simp;omega
  simp only [zbD,zbY,Tr.get,sd_G_spec,h1,hmf,hmv,hmask,k1,k2,Bool.not_true,cond_false,cond_true]
 ·refine ⟨q,.w .i64 (q.val+1),h1,?_,h3,h4,h5,h6,by omega,by omega,by rw [e1];omega,fun h=>by omega⟩
  simp only [zbD,zbY,Tr.get,sd_G_spec,h1,hmf,hmv,hmask,Bool.not_true,cond_false,cond_true]
  by_cases k1:q.val*q.val/4294967296=a.val
  ·have k2:(q.val*q.val%4294967296 != 0)=true:=by simp;omega
   have k3:(q.val*q.val/4294967296 != a.val)=false:=by simp [k1]
   simp only [k2,k3,cond_true,cond_false]
  ·have k3:(q.val*q.val/4294967296 != a.val)=true:=by simp [k1]
   simp only [k3,cond_true]
theorem sqrtI_mk {a:Iv} (ha:ze a=true) (h0:0<=a.lo.val):ze (zbl a)=true/\(zbl a).lo=(zbQ a.lo).a/\(zbl a).hi=(zbD a.hi).a:=by
 have hb:=(zca _).1 ha
 obtain ⟨q,p,e1,e2,h1,h2,h3,h4,h5,h6,h7,h8⟩:=su_val2 a.lo (by omega)
 obtain ⟨q',p',e1',e2',h1',h2',h3',h4',h5',h6',h7',h8'⟩:=su_val2 a.hi (by omega)
 have hle:q.val<=p'.val:=by
  refine sq_lt h1 (by omega) ?_
  omega
 have hd:decide (a.lo.val<0)=false:=by simp;omega
 have e:zbl a=⟨q,p'⟩:=by
  simp only [zbl,zfH,Tr.get,ha,hd,sd_G_spec,su_G_spec,e1,e2',Bool.not_true,cfl,ctr]
  exact zdb (by omega)
 rw [e,e1,e2']
 exact ⟨(zca _).2 (by simp only;omega),rfl,rfl⟩
theorem sqrtI_nn {a:Iv} (h:ze (zbl a)=true):ze a=true/\0<=a.lo.val:=by
 have nw:∀ {P:Prop},ze zm=true->P:=fun h=>by rw [zcy] at h;cases h
 simp only [zbl,zfH,Tr.get] at h
 cases ha:ze a
 ·rw [ha] at h;exact nw h
 by_cases h0:a.lo.val<0
 ·rw [ha,show decide (a.lo.val<0)=true by simpa using h0] at h;exact nw h
 ·exact ⟨rfl,by omega⟩
theorem divdown_true {x y:I64} (hy:0<y.val) (h:(zF x y).b=true):(zF x y).a.val=x.val*4294967296/y.val:=by
 have z0:(y.val==0)=false:=by simp;omega
 have z1:decide (y.val<0)=false:=by simp;omega
 simp only [zF,zbo,Tr.get,ze3,z0,z1,cfl] at h ⊢
 cases h1:zG x
 ·rw [h1] at h;simp [ctr] at h
 cases h2:zG y
 ·rw [h1,h2] at h;simp [ctr,cfl] at h
 rw [h1,h2] at h
 simp only [Bool.not_true,cfl,MD,hy,if_true] at h ⊢
 unfold narrow at h ⊢
 split at h
 ·rename_i hr
  rw [if_pos hr]
  rcases end_cases (.w .i64 (x.val*4294967296/y.val)) true with e|⟨e,_⟩
  ·rw [e] at h;cases h
  ·rw [e];exact wi hr.1 hr.2
 ·have:(zat (.w .i64 0) false).b=false:=by simp only [zat,zcb,Tr.get,Bool.not_false,ctr]
  rw [this] at h;cases h
theorem divup_true {x y:I64} (hy:0<y.val) (h:(zZ x y).b=true):(zZ x y).a.val= -(-x.val*4294967296/y.val):=by
 simp only [zZ,zcJ,Tr.get] at h ⊢
 cases h1:zG x
 ·rw [h1] at h;simp [ctr] at h
 rw [h1] at h
 simp only [Bool.not_true,cfl] at h ⊢
 have hb:=ok_bd h1
 have e:=divdown_true hy h
 have en:(Rng.w .i64 (0-x.val)).val= -x.val:=by rw [wi (by omega) (by omega)];omega
 rw [en] at e
 rcases zeP (.w .i64 (0-x.val)) y with k|⟨c,k,kc⟩
 ·rw [k] at h;cases h
 ·have kb:=ok_bd kc
  rw [k] at e ⊢
  simp only at e ⊢
  rw [wi (by omega) (by omega)]
  omega
theorem divI_corner {a b:Iv} (h0:0<b.lo.val) (h:ze (zC a b)=true):ze a=true/\ze b=true /\
  ∀x y:I64,(x=a.lo\/x=a.hi)->(y=b.lo\/y=b.hi)->(zC a b).lo.val<=x.val*4294967296/y.val /\ -(-x.val*4294967296/y.val)<=(zC a b).hi.val:=by
 have nw:∀ {P:Prop},ze zm=true->P:=fun h=>by rw [zcy] at h;cases h
 simp only [zC,zfJ,Tr.get] at h ⊢
 cases ha:ze a
 ·rw [ha] at h;exact nw h
 cases hb:ze b
 ·rw [ha,hb] at h;exact nw h
 have bb:=(zca _).1 hb
 have h0':0<b.hi.val:=by omega
 cases hz:zaT b ⟨0,rfl⟩
 case true=>rw [ha,hb,hz] at h;exact nw h
 simp only [ha,hb,hz,Bool.not_true,cfl] at h ⊢
 cases h1:(zF a.lo b.lo).b
 ·rw [h1] at h;exact nw h
 cases h2:(zZ a.lo b.lo).b
 ·rw [h1,h2] at h;exact nw h
 cases h3:(zF a.lo b.hi).b
 ·rw [h1,h2,h3] at h;exact nw h
 cases h4:(zZ a.lo b.hi).b
 ·rw [h1,h2,h3,h4] at h;exact nw h
 cases h5:(zF a.hi b.lo).b
 ·rw [h1,h2,h3,h4,h5] at h;exact nw h
 cases h6:(zZ a.hi b.lo).b
 ·rw [h1,h2,h3,h4,h5,h6] at h;exact nw h
 cases h7:(zF a.hi b.hi).b
 ·rw [h1,h2,h3,h4,h5,h6,h7] at h;exact nw h
 cases h8:(zZ a.hi b.hi).b
 ·rw [h1,h2,h3,h4,h5,h6,h7,h8] at h;exact nw h
 simp only [h1,h2,h3,h4,h5,h6,h7,h8,Bool.not_true,cfl] at h ⊢
 refine ⟨trivial,trivial,?_⟩
 have v1:=divdown_true h0 h1
 have v2:=divup_true h0 h2
 have v3:=divdown_true h0' h3
 have v4:=divup_true h0' h4
 have v5:=divdown_true h0 h5
 have v6:=divup_true h0 h6
 have v7:=divdown_true h0' h7
 have v8:=divup_true h0' h8
 generalize (zF a.lo b.lo).a=d1 at *
 generalize (zF a.lo b.hi).a=d2 at *
 generalize (zF a.hi b.lo).a=d3 at *
 generalize (zF a.hi b.hi).a=d4 at *
 generalize (zZ a.lo b.lo).a=u1 at *
 generalize (zZ a.lo b.hi).a=u2 at *
 generalize (zZ a.hi b.lo).a=u3 at *
 generalize (zZ a.hi b.hi).a=u4 at *
 have m1:=min_l ⟨1152921504606846976,rfl⟩ d1
 have m2:=min_l (zu ⟨1152921504606846976,rfl⟩ d1) d2
 have m3:=min_l (zu (zu ⟨1152921504606846976,rfl⟩ d1) d2) d3
 have m4:=min_l (zu (zu (zu ⟨1152921504606846976,rfl⟩ d1) d2) d3) d4
 have n1:=max_l ⟨-1152921504606846976,rfl⟩ u1
 have n2:=max_l (zq ⟨-1152921504606846976,rfl⟩ u1) u2
 have n3:=max_l (zq (zq ⟨-1152921504606846976,rfl⟩ u1) u2) u3
 have n4:=max_l (zq (zq (zq ⟨-1152921504606846976,rfl⟩ u1) u2) u3) u4
 generalize zu (zu (zu (zu ⟨1152921504606846976,rfl⟩ d1) d2) d3) d4=lo at *
 generalize zq (zq (zq (zq ⟨-1152921504606846976,rfl⟩ u1) u2) u3) u4=hi at *
 by_cases hm: -1152921504606846976<lo.val/\lo.val<=hi.val/\hi.val<1152921504606846976
 ·rw [zdb hm]
  simp only
  rintro x y (rfl|rfl) (rfl|rfl)
  ·omega
  ·omega
  ·omega
  ·omega
 ·rw [make_no hm] at h;exact nw h
end Go.Proofs.YtfcjhkkpbnobhaaGreat.Ev
namespace Go.Proofs.YtfcjhkkpbnobhaaGreat.Ev
open Go Go.RowKit
set_option maxRecDepth 100000
section
variable [Amb]
structure zcL where
 x0:I64
 x1:I64
 x2:I64
 x3:I64
 x4:I64
 x5:I64
 x6:I64
 x7:I64
 x8:I64
 x9:I64
 x10:I64
 x11:I64
 x12:I64
 x13:I64
 x14:I64
instance:Inhabited zcL:=⟨⟨default,default,default,default,default,default,default,default,default,default,default,default,default,default,default⟩⟩
def st_spec_l14Lat_4 (x:zcL):St:=⟨[(2,.ptr 0 0),(3,.ptr 1 0),(4,.ptr 2 0),(5,.ptr 3 0),(6,.i64 x.x0),(7,.i64 x.x1)],60,⟨[(0,[.i64 x.x2,.i64 x.x3,.i64 x.x4]),(1,[.i64 x.x5,.i64 x.x6,.i64 x.x7,.i64 x.x8,.i64 x.x9,.i64 x.x10]),(2,[.i64 x.x11,.i64 x.x12]),(3,[.i64 x.x13,.i64 x.x14])],4,0⟩⟩
def rd_spec_l14Lat_4:St->Option zcL:=fun s=>match s with
 | ⟨[(2,.ptr 0 0),(3,.ptr 1 0),(4,.ptr 2 0),(5,.ptr 3 0),(6,.i64 x0),(7,.i64 x1)],60,⟨[(0,[.i64 x2,.i64 x3,.i64 x4]),(1,[.i64 x5,.i64 x6,.i64 x7,.i64 x8,.i64 x9,.i64 x10]),(2,[.i64 x11,.i64 x12]),(3,[.i64 x13,.i64 x14])],4,0⟩⟩=>some ⟨x0,x1,x2,x3,x4,x5,x6,x7,x8,x9,x10,x11,x12,x13,x14⟩
 | _=>none
def zdu (x:zcL):Tr (Lp zcL):=
 .br (decide ((Rng.w .i64 (x.x1.val-x.x0.val)).val>1)) (let c7:=(Rng.w .i64 ((Rng.w .i64 (x.x0.val+x.x1.val)).val.fdiv 2));.br (decide ((zaa ⟨x.x2,x.x3,x.x4⟩ ⟨x.x13,x.x14⟩ ⟨x.x9,x.x10⟩ c7).hi.val<0)) (.leaf (.again ⟨c7,x.x1,x.x2,x.x3,x.x4,x.x5,x.x6,x.x7,x.x8,x.x9,x.x10,x.x11,x.x12,x.x13,x.x14⟩)) (.leaf (.again ⟨x.x0,c7,x.x2,x.x3,x.x4,x.x5,x.x6,x.x7,x.x8,x.x9,x.x10,x.x11,x.x12,x.x13,x.x14⟩))) (.leaf (.out ⟨x.x0,x.x1,x.x2,x.x3,x.x4,x.x5,x.x6,x.x7,x.x8,x.x9,x.x10,x.x11,x.x12,x.x13,x.x14⟩))
def G_spec_l14Lat_4 (x:zcL):Bool:=(Lf zdu 70 x).opt.isSome
def L_spec_l14Lat_4 (x:zcL):zcL:=(Lf zdu 70 x).get
def TbL_spec_l14Lat_4:Tb Tryz.prog:= {T:= [Y2,Y30,Y40,Y57],mix:=mix,Es:= [E_spec_l14Side],Bs:= [],d:=1}
def P_spec_l14Lat_4:LpF:=loopF [2,3,4,5,6,7] [0,1,2,3] 4 rd_spec_l14Lat_4 st_spec_l14Lat_4 (.exit 0) G_spec_l14Lat_4 L_spec_l14Lat_4
theorem lok_spec_l14Lat_4:LoopOk Tryz.prog (loopAt (Tryz.f125.body.getD .skip) 0) P_spec_l14Lat_4:=loopF_ok (t:=TbL_spec_l14Lat_4) (lt:=fun _=>none) (body:=zdu) (n:=70) (by intro h;cases h) (fun _ _ _ h=>by cases h)
 (by intro s x h;unfold rd_spec_l14Lat_4 at h;split at h<;>cases h;rfl) (fun x b cs h=>lk_lt (l:=(st_spec_l14Lat_4 x).mm.blks) (by kernel_rfl) h) (by intro x;kernel_rfl) (fun x h=>Tr.get_some h)
structure zcn where
 x0:I64
 x1:I64
 x2:I64
 x3:I64
 x4:I64
 x5:I64
 x6:I64
 x7:I64
 x8:I64
 x9:I64
 x10:I64
 x11:I64
 x12:I64
 x13:I64
 x14:I64
 x15:I64
instance:Inhabited zcn:=⟨⟨default,default,default,default,default,default,default,default,default,default,default,default,default,default,default,default⟩⟩
def st_spec_l14Lat_11 (x:zcn):St:=⟨[(2,.ptr 0 0),(3,.ptr 1 0),(4,.ptr 2 0),(5,.ptr 3 0),(6,.i64 x.x0),(7,.i64 x.x1),(9,.i64 x.x2)],60,⟨[(0,[.i64 x.x3,.i64 x.x4,.i64 x.x5]),(1,[.i64 x.x6,.i64 x.x7,.i64 x.x8,.i64 x.x9,.i64 x.x10,.i64 x.x11]),(2,[.i64 x.x12,.i64 x.x13]),(3,[.i64 x.x14,.i64 x.x15])],4,0⟩⟩
def rd_spec_l14Lat_11:St->Option zcn:=fun s=>match s with
 | ⟨[(2,.ptr 0 0),(3,.ptr 1 0),(4,.ptr 2 0),(5,.ptr 3 0),(6,.i64 x0),(7,.i64 x1),(9,.i64 x2)],60,⟨[(0,[.i64 x3,.i64 x4,.i64 x5]),(1,[.i64 x6,.i64 x7,.i64 x8,.i64 x9,.i64 x10,.i64 x11]),(2,[.i64 x12,.i64 x13]),(3,[.i64 x14,.i64 x15])],4,0⟩⟩=>some ⟨x0,x1,x2,x3,x4,x5,x6,x7,x8,x9,x10,x11,x12,x13,x14,x15⟩
 | _=>none
def zcZ (x:zcn):Tr (Lp zcn):=
 .br (decide ((Rng.w .i64 (x.x1.val-x.x0.val)).val>1)) (let c13:=(Rng.w .i64 ((Rng.w .i64 (x.x0.val+x.x1.val)).val.fdiv 2));.br (decide ((zaa ⟨x.x3,x.x4,x.x5⟩ ⟨x.x14,x.x15⟩ ⟨x.x10,x.x11⟩ c13).lo.val>0)) (.leaf (.again ⟨x.x0,c13,x.x2,x.x3,x.x4,x.x5,x.x6,x.x7,x.x8,x.x9,x.x10,x.x11,x.x12,x.x13,x.x14,x.x15⟩)) (.leaf (.again ⟨c13,x.x1,x.x2,x.x3,x.x4,x.x5,x.x6,x.x7,x.x8,x.x9,x.x10,x.x11,x.x12,x.x13,x.x14,x.x15⟩))) (.leaf (.out ⟨x.x0,x.x1,x.x2,x.x3,x.x4,x.x5,x.x6,x.x7,x.x8,x.x9,x.x10,x.x11,x.x12,x.x13,x.x14,x.x15⟩))
def G_spec_l14Lat_11 (x:zcn):Bool:=(Lf zcZ 70 x).opt.isSome
def L_spec_l14Lat_11 (x:zcn):zcn:=(Lf zcZ 70 x).get
def TbL_spec_l14Lat_11:Tb Tryz.prog:= {T:= [Y2,Y30,Y40,Y57],mix:=mix,Es:= [E_spec_l14Side],Bs:= [],d:=1}
def P_spec_l14Lat_11:LpF:=loopF [2,3,4,5,6,7,9] [0,1,2,3] 4 rd_spec_l14Lat_11 st_spec_l14Lat_11 (.exit 2) G_spec_l14Lat_11 L_spec_l14Lat_11
theorem lok_spec_l14Lat_11:LoopOk Tryz.prog (loopAt (Tryz.f125.body.getD .skip) 1) P_spec_l14Lat_11:=loopF_ok (t:=TbL_spec_l14Lat_11) (lt:=fun _=>none) (body:=zcZ) (n:=70) (by intro h;cases h) (fun _ _ _ h=>by cases h)
 (by intro s x h;unfold rd_spec_l14Lat_11 at h;split at h<;>cases h;rfl) (fun x b cs h=>lk_lt (l:=(st_spec_l14Lat_11 x).mm.blks) (by kernel_rfl) h) (by intro x;kernel_rfl) (fun x h=>Tr.get_some h)
def B125:Bod Tryz.prog:=⟨125,Tryz.f125,Tryz.f125.body.getD .skip,Tryz.func125,by kernel_rfl,by kernel_rfl,⟨ltOf [(4,P_spec_l14Lat_4),(11,P_spec_l14Lat_11)],z8.of (ks:= [4,11]) (by kernel_rfl) (by
 intro i k h f hf
 match i,h with
 | 0,h=>cases h;obtain rfl:P_spec_l14Lat_4=f:=Option.some.inj hf;exact lok_spec_l14Lat_4
 | 1,h=>cases h;obtain rfl:P_spec_l14Lat_11=f:=Option.some.inj hf;exact lok_spec_l14Lat_11
 | n+2,h=>simp at h)⟩⟩
def Tb125:Tb Tryz.prog:= {T:= [Y2,Y30,Y40,Y57],mix:=mix,Es:= [E_spec_l05Turn,E_spec_l15Flat],Bs:= [],d:=1}
def t_spec_l14Lat (a0:Ell) (a1:Vec):Tr (Iv):=
 let c1:=zab a1;.br (zbB ⟨1,rfl⟩) (let c3:=(Rng.w .i64 (0-(zH ⟨1,rfl⟩).hi.val));.br (zbB ⟨1,rfl⟩) (let c4:=zH ⟨1,rfl⟩;.br (G_spec_l14Lat_4 ⟨c3,c4.hi,a0.a,a0.num,a0.den,a1.x.lo,a1.x.hi,a1.y.lo,a1.y.hi,a1.z.lo,a1.z.hi,⟨0,rfl⟩,⟨0,rfl⟩,c1.lo,c1.hi⟩) (let c9:=L_spec_l14Lat_4 ⟨c3,c4.hi,a0.a,a0.num,a0.den,a1.x.lo,a1.x.hi,a1.y.lo,a1.y.hi,a1.z.lo,a1.z.hi,⟨0,rfl⟩,⟨0,rfl⟩,c1.lo,c1.hi⟩;.br (zbB ⟨1,rfl⟩) (let c10:=zH ⟨1,rfl⟩;.br (G_spec_l14Lat_11 ⟨c9.x0,c10.hi,c9.x0,c9.x2,c9.x3,c9.x4,c9.x5,c9.x6,c9.x7,c9.x8,c9.x9,c9.x10,c9.x11,c9.x12,c9.x13,c9.x14⟩) (let c16:=L_spec_l14Lat_11 ⟨c9.x0,c10.hi,c9.x0,c9.x2,c9.x3,c9.x4,c9.x5,c9.x6,c9.x7,c9.x8,c9.x9,c9.x10,c9.x11,c9.x12,c9.x13,c9.x14⟩;.leaf ⟨c16.x2,c16.x1⟩) (.bad)) (.bad)) (.bad)) (.bad)) (.bad)
theorem r_spec_l14Lat (a0:Ell) (a1:Vec):Tb125.run B125 [enc a0,enc a1] (Iv)=(t_spec_l14Lat a0 a1).opt:=by kernel_rfl
def zaW:Ell->Vec->Iv:=fun a0 a1=>(t_spec_l14Lat a0 a1).get
structure zby where
 x0:I64
 x1:I64
 x2:I64
 x3:I64
 x4:I64
 x5:I64
 x6:I64
 x7:I64
 x8:I64
 x9:I64
 x10:I64
 x11:I64
 x12:I64
instance:Inhabited zby:=⟨⟨default,default,default,default,default,default,default,default,default,default,default,default,default⟩⟩
def st_impl_latitudeOf_2 (x:zby):St:=⟨[(2,.ptr 0 0),(3,.ptr 1 0),(4,.ptr 2 0),(5,.i64 x.x0),(6,.i64 x.x1)],51,⟨[(0,[.i64 x.x2,.i64 x.x3,.i64 x.x4]),(1,[.i64 x.x5,.i64 x.x6,.i64 x.x7,.i64 x.x8,.i64 x.x9,.i64 x.x10]),(2,[.i64 x.x11,.i64 x.x12])],3,0⟩⟩
def rd_impl_latitudeOf_2:St->Option zby:=fun s=>match s with
 | ⟨[(2,.ptr 0 0),(3,.ptr 1 0),(4,.ptr 2 0),(5,.i64 x0),(6,.i64 x1)],51,⟨[(0,[.i64 x2,.i64 x3,.i64 x4]),(1,[.i64 x5,.i64 x6,.i64 x7,.i64 x8,.i64 x9,.i64 x10]),(2,[.i64 x11,.i64 x12])],3,0⟩⟩=>some ⟨x0,x1,x2,x3,x4,x5,x6,x7,x8,x9,x10,x11,x12⟩
 | _=>none
def zb4 (x:zby):Tr (Lp zby):=
 .br (decide ((Rng.w .i64 (x.x1.val-x.x0.val)).val>1)) (let c6:=(Rng.w .i64 ((Rng.w .i64 (x.x0.val+x.x1.val)).val.fdiv 2));.br (decide ((zbd ⟨x.x2,x.x3,x.x4⟩ ⟨⟨x.x5,x.x6⟩,⟨x.x7,x.x8⟩,⟨x.x9,x.x10⟩⟩ c6).hi.val<0)) (.leaf (.again ⟨c6,x.x1,x.x2,x.x3,x.x4,x.x5,x.x6,x.x7,x.x8,x.x9,x.x10,x.x11,x.x12⟩)) (.leaf (.again ⟨x.x0,c6,x.x2,x.x3,x.x4,x.x5,x.x6,x.x7,x.x8,x.x9,x.x10,x.x11,x.x12⟩))) (.leaf (.out ⟨x.x0,x.x1,x.x2,x.x3,x.x4,x.x5,x.x6,x.x7,x.x8,x.x9,x.x10,x.x11,x.x12⟩))
def zeR (x:zby):Bool:=(Lf zb4 70 x).opt.isSome
def L_impl_latitudeOf_2 (x:zby):zby:=(Lf zb4 70 x).get
def TbL_impl_latitudeOf_2:Tb Tryz.prog:= {T:= [Y2,Y30,Y40,Y57],mix:=mix,Es:= [E_impl_SideAt],Bs:= [],d:=1}
def P_impl_latitudeOf_2:LpF:=loopF [2,3,4,5,6] [0,1,2] 3 rd_impl_latitudeOf_2 st_impl_latitudeOf_2 (.exit 0) zeR L_impl_latitudeOf_2
theorem lok_impl_latitudeOf_2:LoopOk Tryz.prog (loopAt (Tryz.f114.body.getD .skip) 0) P_impl_latitudeOf_2:=loopF_ok (t:=TbL_impl_latitudeOf_2) (lt:=fun _=>none) (body:=zb4) (n:=70) (by intro h;cases h) (fun _ _ _ h=>by cases h)
 (by intro s x h;unfold rd_impl_latitudeOf_2 at h;split at h<;>cases h;rfl) (fun x b cs h=>lk_lt (l:=(st_impl_latitudeOf_2 x).mm.blks) (by kernel_rfl) h) (by intro x;kernel_rfl) (fun x h=>Tr.get_some h)
structure zbx where
 x0:I64
 x1:I64
 x2:I64
 x3:I64
 x4:I64
 x5:I64
 x6:I64
 x7:I64
 x8:I64
 x9:I64
 x10:I64
 x11:I64
 x12:I64
 x13:I64
 x14:I64
instance:Inhabited zbx:=⟨⟨default,default,default,default,default,default,default,default,default,default,default,default,default,default,default⟩⟩
def st_impl_latitudeOf_9 (x:zbx):St:=⟨[(2,.ptr 0 0),(3,.ptr 1 0),(4,.ptr 2 0),(5,.i64 x.x0),(6,.i64 x.x1),(8,.ptr 3 0)],51,⟨[(0,[.i64 x.x2,.i64 x.x3,.i64 x.x4]),(1,[.i64 x.x5,.i64 x.x6,.i64 x.x7,.i64 x.x8,.i64 x.x9,.i64 x.x10]),(2,[.i64 x.x11,.i64 x.x12]),(3,[.i64 x.x13,.i64 x.x14])],4,0⟩⟩
def rd_impl_latitudeOf_9:St->Option zbx:=fun s=>match s with
 | ⟨[(2,.ptr 0 0),(3,.ptr 1 0),(4,.ptr 2 0),(5,.i64 x0),(6,.i64 x1),(8,.ptr 3 0)],51,⟨[(0,[.i64 x2,.i64 x3,.i64 x4]),(1,[.i64 x5,.i64 x6,.i64 x7,.i64 x8,.i64 x9,.i64 x10]),(2,[.i64 x11,.i64 x12]),(3,[.i64 x13,.i64 x14])],4,0⟩⟩=>some ⟨x0,x1,x2,x3,x4,x5,x6,x7,x8,x9,x10,x11,x12,x13,x14⟩
 | _=>none
def zb3 (x:zbx):Tr (Lp zbx):=
 .br (decide ((Rng.w .i64 (x.x1.val-x.x0.val)).val>1)) (let c12:=(Rng.w .i64 ((Rng.w .i64 (x.x0.val+x.x1.val)).val.fdiv 2));.br (decide ((zbd ⟨x.x2,x.x3,x.x4⟩ ⟨⟨x.x5,x.x6⟩,⟨x.x7,x.x8⟩,⟨x.x9,x.x10⟩⟩ c12).lo.val>0)) (.leaf (.again ⟨x.x0,c12,x.x2,x.x3,x.x4,x.x5,x.x6,x.x7,x.x8,x.x9,x.x10,x.x11,x.x12,x.x13,x.x14⟩)) (.leaf (.again ⟨c12,x.x1,x.x2,x.x3,x.x4,x.x5,x.x6,x.x7,x.x8,x.x9,x.x10,x.x11,x.x12,x.x13,x.x14⟩))) (.leaf (.out ⟨x.x0,x.x1,x.x2,x.x3,x.x4,x.x5,x.x6,x.x7,x.x8,x.x9,x.x10,x.x11,x.x12,x.x13,x.x14⟩))
def zeQ (x:zbx):Bool:=(Lf zb3 70 x).opt.isSome
def L_impl_latitudeOf_9 (x:zbx):zbx:=(Lf zb3 70 x).get
def TbL_impl_latitudeOf_9:Tb Tryz.prog:= {T:= [Y2,Y30,Y40,Y57],mix:=mix,Es:= [E_impl_SideAt],Bs:= [],d:=1}
def P_impl_latitudeOf_9:LpF:=loopF [2,3,4,5,6,8] [0,1,2,3] 4 rd_impl_latitudeOf_9 st_impl_latitudeOf_9 (.exit 2) zeQ L_impl_latitudeOf_9
theorem lok_impl_latitudeOf_9:LoopOk Tryz.prog (loopAt (Tryz.f114.body.getD .skip) 1) P_impl_latitudeOf_9:=loopF_ok (t:=TbL_impl_latitudeOf_9) (lt:=fun _=>none) (body:=zb3) (n:=70) (by intro h;cases h) (fun _ _ _ h=>by cases h)
 (by intro s x h;unfold rd_impl_latitudeOf_9 at h;split at h<;>cases h;rfl) (fun x b cs h=>lk_lt (l:=(st_impl_latitudeOf_9 x).mm.blks) (by kernel_rfl) h) (by intro x;kernel_rfl) (fun x h=>Tr.get_some h)
def B114:Bod Tryz.prog:=⟨114,Tryz.f114,Tryz.f114.body.getD .skip,Tryz.func114,by kernel_rfl,by kernel_rfl,⟨ltOf [(2,P_impl_latitudeOf_2),(9,P_impl_latitudeOf_9)],z8.of (ks:= [2,9]) (by kernel_rfl) (by
 intro i k h f hf
 match i,h with
 | 0,h=>cases h;obtain rfl:P_impl_latitudeOf_2=f:=Option.some.inj hf;exact lok_impl_latitudeOf_2
 | 1,h=>cases h;obtain rfl:P_impl_latitudeOf_9=f:=Option.some.inj hf;exact lok_impl_latitudeOf_9
 | n+2,h=>simp at h)⟩⟩
def Tb114:Tb Tryz.prog:= {T:= [Y2,Y30,Y40,Y57],mix:=mix,Es:= [E_impl_quarter],Bs:= [],d:=1}
def zep (a0:Ell) (a1:Vec):Tr (Iv):=
 let c2:=(Rng.w .i64 (0-zcG.val));.br (zeR ⟨c2,zcG,a0.a,a0.num,a0.den,a1.x.lo,a1.x.hi,a1.y.lo,a1.y.hi,a1.z.lo,a1.z.hi,⟨0,rfl⟩,⟨0,rfl⟩⟩) (let c8:=L_impl_latitudeOf_2 ⟨c2,zcG,a0.a,a0.num,a0.den,a1.x.lo,a1.x.hi,a1.y.lo,a1.y.hi,a1.z.lo,a1.z.hi,⟨0,rfl⟩,⟨0,rfl⟩⟩;.br (zeQ ⟨c8.x0,zcG,c8.x2,c8.x3,c8.x4,c8.x5,c8.x6,c8.x7,c8.x8,c8.x9,c8.x10,c8.x11,c8.x12,c8.x0,⟨0,rfl⟩⟩) (let c15:=L_impl_latitudeOf_9 ⟨c8.x0,zcG,c8.x2,c8.x3,c8.x4,c8.x5,c8.x6,c8.x7,c8.x8,c8.x9,c8.x10,c8.x11,c8.x12,c8.x0,⟨0,rfl⟩⟩;.leaf ⟨c15.x13,c15.x1⟩) (.bad)) (.bad)
theorem r_impl_latitudeOf (a0:Ell) (a1:Vec):Tb114.run B114 [enc a0,enc a1] (Iv)=(zep a0 a1).opt:=by kernel_rfl
def zez:Ell->Vec->Iv:=fun a0 a1=>(zep a0 a1).get
end
end Go.Proofs.YtfcjhkkpbnobhaaGreat.Ev
namespace Go.Proofs.YtfcjhkkpbnobhaaGreat.Ev
open Go
def mid (lo hi:I64):I64:= .w .i64 ((Rng.w .i64 (lo.val+hi.val)).val.fdiv 2)
def bisU (f:I64->Bool):Nat->I64->I64->I64×I64
 | 0,lo,hi=>(lo,hi)
 | n+1,lo,hi=>bif decide ((Rng.w .i64 (hi.val-lo.val)).val>1) then (bif f (mid lo hi) then bisU f n (mid lo hi) hi else bisU f n lo (mid lo hi)) else (lo,hi)
theorem bisU_bd (f:I64->Bool):∀(n:Nat) (lo hi:I64),-1099511627776<=lo.val->lo.val<=1099511627776-> -1099511627776<=hi.val->hi.val<=1099511627776-> -1099511627776<=(bisU f n lo hi).1.val/\(bisU f n lo hi).1.val<=1099511627776
 | 0,lo,hi,h1,h2,h3,h4=>⟨h1,h2⟩
 | n+1,lo,hi,h1,h2,h3,h4=>by
  have es:(Rng.w .i64 (lo.val+hi.val)).val=lo.val+hi.val:=wi (by omega) (by omega)
  have dv:(lo.val+hi.val).fdiv 2=(lo.val+hi.val)/2:=Int.fdiv_eq_ediv_of_nonneg _ (by decide)
  have em:(mid lo hi).val=(lo.val+hi.val)/2:=by unfold mid;rw [es,dv];exact wi (by omega) (by omega)
  simp only [bisU]
  cases decide ((Rng.w .i64 (hi.val-lo.val)).val>1)
  ·exact ⟨h1,h2⟩
  ·cases f (mid lo hi)
   ·exact bisU_bd f n lo (mid lo hi) h1 h2 (by omega) (by omega)
   ·exact bisU_bd f n (mid lo hi) hi (by omega) (by omega) h3 h4
theorem latWs4 (e:Ell) (v:Vec) (f:Iv) (p q r:I64):∀(k m:Nat) (lo hi:I64),-1099511627776<=lo.val->lo.val<=1099511627776-> -1099511627776<=hi.val->hi.val<=1099511627776->hi.val-lo.val<=2^k->
  (Lf zdu (k+1+m) ⟨lo,hi,e.a,e.num,e.den,v.x.lo,v.x.hi,v.y.lo,v.y.hi,v.z.lo,v.z.hi,p,q,f.lo,f.hi⟩).opt=some ⟨(bisU (fun c=>decide ((zaa ⟨e.a,e.num,e.den⟩ ⟨f.lo,f.hi⟩ ⟨v.z.lo,v.z.hi⟩ c).hi.val<0)) (k+1+m) lo hi).1,(bisU (fun c=>decide ((zaa ⟨e.a,e.num,e.den⟩ ⟨f.lo,f.hi⟩ ⟨v.z.lo,v.z.hi⟩ c).hi.val<0)) (k+1+m) lo hi).2,e.a,e.num,e.den,v.x.lo,v.x.hi,v.y.lo,v.y.hi,v.z.lo,v.z.hi,p,q,f.lo,f.hi⟩:=by
 intro k
 induction k with
 | zero=>
  intro m lo hi h1 h2 h3 h4 h5
  have ed:(Rng.w .i64 (hi.val-lo.val)).val=hi.val-lo.val:=wi (by omega) (by omega)
  have hd:decide ((Rng.w .i64 (hi.val-lo.val)).val>1)=false:=by rw [ed];simp;omega
  simp only [Lf,zdu,hd,Tr.bind,Tr.opt,cond_false,Nat.zero_add,Nat.add_comm 1 m,bisU]
 | succ k ih=>
  intro m lo hi h1 h2 h3 h4 h5
  have ed:(Rng.w .i64 (hi.val-lo.val)).val=hi.val-lo.val:=wi (by omega) (by omega)
  have hp:(2:Int)^(k+1)=2^k*2:=Int.pow_succ ..
  have hfuel:k+1+1+m=(k+1+m)+1:=by omega
  rw [hfuel]
  by_cases hc:hi.val-lo.val>1
  ·have hd:decide ((Rng.w .i64 (hi.val-lo.val)).val>1)=true:=by rw [ed];simpa using hc
   have es:(Rng.w .i64 (lo.val+hi.val)).val=lo.val+hi.val:=wi (by omega) (by omega)
   have dv:(lo.val+hi.val).fdiv 2=(lo.val+hi.val)/2:=Int.fdiv_eq_ediv_of_nonneg _ (by decide)
   have em:(mid lo hi).val=(lo.val+hi.val)/2:=by unfold mid;rw [es,dv];exact wi (by omega) (by omega)
   have i1:=ih m (mid lo hi) hi (by omega) (by omega) h3 h4 (by omega)
   have i2:=ih m lo (mid lo hi) h1 h2 (by omega) (by omega) (by omega)
   simp only [Lf,zdu,hd,Tr.bind,Tr.opt,cond_true,bisU]
   simp only [show Rng.w .i64 ((Rng.w .i64 (lo.val+hi.val)).val.fdiv 2)=mid lo hi from rfl]
   cases decide ((zaa ⟨e.a,e.num,e.den⟩ ⟨f.lo,f.hi⟩ ⟨v.z.lo,v.z.hi⟩ (mid lo hi)).hi.val<0)
   ·simp only [cond_false,cond_true,Bool.not_false,Bool.not_true]
    exact i2
   ·simp only [cond_false,cond_true,Bool.not_false,Bool.not_true]
    exact i1
  ·have hd:decide ((Rng.w .i64 (hi.val-lo.val)).val>1)=false:=by rw [ed];simp;omega
   simp only [Lf,zdu,hd,Tr.bind,Tr.opt,cond_false,bisU]
theorem latWs11 (e:Ell) (v:Vec) (f:Iv) (p q r:I64):∀(k m:Nat) (lo hi:I64),-1099511627776<=lo.val->lo.val<=1099511627776-> -1099511627776<=hi.val->hi.val<=1099511627776->hi.val-lo.val<=2^k->
  (Lf zcZ (k+1+m) ⟨lo,hi,r,e.a,e.num,e.den,v.x.lo,v.x.hi,v.y.lo,v.y.hi,v.z.lo,v.z.hi,p,q,f.lo,f.hi⟩).opt=some ⟨(bisU (fun c=> !(decide ((zaa ⟨e.a,e.num,e.den⟩ ⟨f.lo,f.hi⟩ ⟨v.z.lo,v.z.hi⟩ c).lo.val>0))) (k+1+m) lo hi).1,(bisU (fun c=> !(decide ((zaa ⟨e.a,e.num,e.den⟩ ⟨f.lo,f.hi⟩ ⟨v.z.lo,v.z.hi⟩ c).lo.val>0))) (k+1+m) lo hi).2,r,e.a,e.num,e.den,v.x.lo,v.x.hi,v.y.lo,v.y.hi,v.z.lo,v.z.hi,p,q,f.lo,f.hi⟩:=by
 intro k
 induction k with
 | zero=>
  intro m lo hi h1 h2 h3 h4 h5
  have ed:(Rng.w .i64 (hi.val-lo.val)).val=hi.val-lo.val:=wi (by omega) (by omega)
  have hd:decide ((Rng.w .i64 (hi.val-lo.val)).val>1)=false:=by rw [ed];simp;omega
  simp only [Lf,zcZ,hd,Tr.bind,Tr.opt,cond_false,Nat.zero_add,Nat.add_comm 1 m,bisU]
 | succ k ih=>
  intro m lo hi h1 h2 h3 h4 h5
  have ed:(Rng.w .i64 (hi.val-lo.val)).val=hi.val-lo.val:=wi (by omega) (by omega)
  have hp:(2:Int)^(k+1)=2^k*2:=Int.pow_succ ..
  have hfuel:k+1+1+m=(k+1+m)+1:=by omega
  rw [hfuel]
  by_cases hc:hi.val-lo.val>1
  ·have hd:decide ((Rng.w .i64 (hi.val-lo.val)).val>1)=true:=by rw [ed];simpa using hc
   have es:(Rng.w .i64 (lo.val+hi.val)).val=lo.val+hi.val:=wi (by omega) (by omega)
   have dv:(lo.val+hi.val).fdiv 2=(lo.val+hi.val)/2:=Int.fdiv_eq_ediv_of_nonneg _ (by decide)
   have em:(mid lo hi).val=(lo.val+hi.val)/2:=by unfold mid;rw [es,dv];exact wi (by omega) (by omega)
   have i1:=ih m (mid lo hi) hi (by omega) (by omega) h3 h4 (by omega)
   have i2:=ih m lo (mid lo hi) h1 h2 (by omega) (by omega) (by omega)
   simp only [Lf,zcZ,hd,Tr.bind,Tr.opt,cond_true,bisU]
   simp only [show Rng.w .i64 ((Rng.w .i64 (lo.val+hi.val)).val.fdiv 2)=mid lo hi from rfl]
   cases decide ((zaa ⟨e.a,e.num,e.den⟩ ⟨f.lo,f.hi⟩ ⟨v.z.lo,v.z.hi⟩ (mid lo hi)).lo.val>0)
   ·simp only [cond_false,cond_true,Bool.not_false,Bool.not_true]
    exact i1
   ·simp only [cond_false,cond_true,Bool.not_false,Bool.not_true]
    exact i2
  ·have hd:decide ((Rng.w .i64 (hi.val-lo.val)).val>1)=false:=by rw [ed];simp;omega
   simp only [Lf,zcZ,hd,Tr.bind,Tr.opt,cond_false,bisU]
theorem latWi2 (e:Ell) (v:Vec) (f:Iv) (p q r:I64):∀(k m:Nat) (lo hi:I64),-1099511627776<=lo.val->lo.val<=1099511627776-> -1099511627776<=hi.val->hi.val<=1099511627776->hi.val-lo.val<=2^k->
  (Lf zb4 (k+1+m) ⟨lo,hi,e.a,e.num,e.den,v.x.lo,v.x.hi,v.y.lo,v.y.hi,v.z.lo,v.z.hi,p,q⟩).opt=some ⟨(bisU (fun c=>decide ((zbd ⟨e.a,e.num,e.den⟩ ⟨⟨v.x.lo,v.x.hi⟩,⟨v.y.lo,v.y.hi⟩,⟨v.z.lo,v.z.hi⟩⟩ c).hi.val<0)) (k+1+m) lo hi).1,(bisU (fun c=>decide ((zbd ⟨e.a,e.num,e.den⟩ ⟨⟨v.x.lo,v.x.hi⟩,⟨v.y.lo,v.y.hi⟩,⟨v.z.lo,v.z.hi⟩⟩ c).hi.val<0)) (k+1+m) lo hi).2,e.a,e.num,e.den,v.x.lo,v.x.hi,v.y.lo,v.y.hi,v.z.lo,v.z.hi,p,q⟩:=by
 intro k
 induction k with
 | zero=>
  intro m lo hi h1 h2 h3 h4 h5
  have ed:(Rng.w .i64 (hi.val-lo.val)).val=hi.val-lo.val:=wi (by omega) (by omega)
  have hd:decide ((Rng.w .i64 (hi.val-lo.val)).val>1)=false:=by rw [ed];simp;omega
  simp only [Lf,zb4,hd,Tr.bind,Tr.opt,cond_false,Nat.zero_add,Nat.add_comm 1 m,bisU]
 | succ k ih=>
  intro m lo hi h1 h2 h3 h4 h5
  have ed:(Rng.w .i64 (hi.val-lo.val)).val=hi.val-lo.val:=wi (by omega) (by omega)
  have hp:(2:Int)^(k+1)=2^k*2:=Int.pow_succ ..
  have hfuel:k+1+1+m=(k+1+m)+1:=by omega
  rw [hfuel]
  by_cases hc:hi.val-lo.val>1
  ·have hd:decide ((Rng.w .i64 (hi.val-lo.val)).val>1)=true:=by rw [ed];simpa using hc
   have es:(Rng.w .i64 (lo.val+hi.val)).val=lo.val+hi.val:=wi (by omega) (by omega)
   have dv:(lo.val+hi.val).fdiv 2=(lo.val+hi.val)/2:=Int.fdiv_eq_ediv_of_nonneg _ (by decide)
   have em:(mid lo hi).val=(lo.val+hi.val)/2:=by unfold mid;rw [es,dv];exact wi (by omega) (by omega)
   have i1:=ih m (mid lo hi) hi (by omega) (by omega) h3 h4 (by omega)
   have i2:=ih m lo (mid lo hi) h1 h2 (by omega) (by omega) (by omega)
   simp only [Lf,zb4,hd,Tr.bind,Tr.opt,cond_true,bisU]
   simp only [show Rng.w .i64 ((Rng.w .i64 (lo.val+hi.val)).val.fdiv 2)=mid lo hi from rfl]
   cases decide ((zbd ⟨e.a,e.num,e.den⟩ ⟨⟨v.x.lo,v.x.hi⟩,⟨v.y.lo,v.y.hi⟩,⟨v.z.lo,v.z.hi⟩⟩ (mid lo hi)).hi.val<0)
   ·simp only [cond_false,cond_true,Bool.not_false,Bool.not_true]
    exact i2
   ·simp only [cond_false,cond_true,Bool.not_false,Bool.not_true]
    exact i1
  ·have hd:decide ((Rng.w .i64 (hi.val-lo.val)).val>1)=false:=by rw [ed];simp;omega
   simp only [Lf,zb4,hd,Tr.bind,Tr.opt,cond_false,bisU]
theorem latWi9 (e:Ell) (v:Vec) (f:Iv) (p q r:I64) (r2:I64):∀(k m:Nat) (lo hi:I64),-1099511627776<=lo.val->lo.val<=1099511627776-> -1099511627776<=hi.val->hi.val<=1099511627776->hi.val-lo.val<=2^k->
  (Lf zb3 (k+1+m) ⟨lo,hi,e.a,e.num,e.den,v.x.lo,v.x.hi,v.y.lo,v.y.hi,v.z.lo,v.z.hi,p,q,r,r2⟩).opt=some ⟨(bisU (fun c=> !(decide ((zbd ⟨e.a,e.num,e.den⟩ ⟨⟨v.x.lo,v.x.hi⟩,⟨v.y.lo,v.y.hi⟩,⟨v.z.lo,v.z.hi⟩⟩ c).lo.val>0))) (k+1+m) lo hi).1,(bisU (fun c=> !(decide ((zbd ⟨e.a,e.num,e.den⟩ ⟨⟨v.x.lo,v.x.hi⟩,⟨v.y.lo,v.y.hi⟩,⟨v.z.lo,v.z.hi⟩⟩ c).lo.val>0))) (k+1+m) lo hi).2,e.a,e.num,e.den,v.x.lo,v.x.hi,v.y.lo,v.y.hi,v.z.lo,v.z.hi,p,q,r,r2⟩:=by
 intro k
 induction k with
 | zero=>
  intro m lo hi h1 h2 h3 h4 h5
  have ed:(Rng.w .i64 (hi.val-lo.val)).val=hi.val-lo.val:=wi (by omega) (by omega)
  have hd:decide ((Rng.w .i64 (hi.val-lo.val)).val>1)=false:=by rw [ed];simp;omega
  simp only [Lf,zb3,hd,Tr.bind,Tr.opt,cond_false,Nat.zero_add,Nat.add_comm 1 m,bisU]
 | succ k ih=>
  intro m lo hi h1 h2 h3 h4 h5
  have ed:(Rng.w .i64 (hi.val-lo.val)).val=hi.val-lo.val:=wi (by omega) (by omega)
  have hp:(2:Int)^(k+1)=2^k*2:=Int.pow_succ ..
  have hfuel:k+1+1+m=(k+1+m)+1:=by omega
  rw [hfuel]
  by_cases hc:hi.val-lo.val>1
  ·have hd:decide ((Rng.w .i64 (hi.val-lo.val)).val>1)=true:=by rw [ed];simpa using hc
   have es:(Rng.w .i64 (lo.val+hi.val)).val=lo.val+hi.val:=wi (by omega) (by omega)
   have dv:(lo.val+hi.val).fdiv 2=(lo.val+hi.val)/2:=Int.fdiv_eq_ediv_of_nonneg _ (by decide)
   have em:(mid lo hi).val=(lo.val+hi.val)/2:=by unfold mid;rw [es,dv];exact wi (by omega) (by omega)
   have i1:=ih m (mid lo hi) hi (by omega) (by omega) h3 h4 (by omega)
   have i2:=ih m lo (mid lo hi) h1 h2 (by omega) (by omega) (by omega)
   simp only [Lf,zb3,hd,Tr.bind,Tr.opt,cond_true,bisU]
   simp only [show Rng.w .i64 ((Rng.w .i64 (lo.val+hi.val)).val.fdiv 2)=mid lo hi from rfl]
   cases decide ((zbd ⟨e.a,e.num,e.den⟩ ⟨⟨v.x.lo,v.x.hi⟩,⟨v.y.lo,v.y.hi⟩,⟨v.z.lo,v.z.hi⟩⟩ (mid lo hi)).lo.val>0)
   ·simp only [cond_false,cond_true,Bool.not_false,Bool.not_true]
    exact i1
   ·simp only [cond_false,cond_true,Bool.not_false,Bool.not_true]
    exact i2
  ·have hd:decide ((Rng.w .i64 (hi.val-lo.val)).val>1)=false:=by rw [ed];simp;omega
   simp only [Lf,zb3,hd,Tr.bind,Tr.opt,cond_false,bisU]
def latF (g h:I64->Bool) (q:I64):Iv:=let a:=(bisU g 70 (.w .i64 (0-q.val)) q).1;⟨a,(bisU h 70 a q).2⟩
theorem q_val:(zH ⟨1,rfl⟩).hi.val=6746518853:=by kernel_rfl
theorem lat_spec (e:Ell) (v:Vec):(t_spec_l14Lat e v).opt=some (latF (fun c=>decide ((zaa e (zab v) v.z c).hi.val<0)) (fun c=> !(decide ((zaa e (zab v) v.z c).lo.val>0))) (zH ⟨1,rfl⟩).hi):=by
 obtain ⟨g,_⟩:=turn_in (k:=⟨1,rfl⟩) (by decide) (by decide)
 have hq:=q_val
 have p40:(2:Int)^40=1099511627776:=rfl
 have p41:(2:Int)^41=2199023255552:=rfl
 have en:(Rng.w .i64 (0-(zH ⟨1,rfl⟩).hi.val)).val= -6746518853:=by rw [hq];exact wi (by omega) (by omega)
 have a1:=latWs4 e v (zab v) ⟨0,rfl⟩ ⟨0,rfl⟩ ⟨0,rfl⟩ 40 29 (.w .i64 (0-(zH ⟨1,rfl⟩).hi.val)) (zH ⟨1,rfl⟩).hi (by omega) (by omega) (by omega) (by omega) (by omega)
 have bd:=bisU_bd (fun c=>decide ((zaa ⟨e.a,e.num,e.den⟩ ⟨(zab v).lo,(zab v).hi⟩ ⟨v.z.lo,v.z.hi⟩ c).hi.val<0)) (40+1+29) (.w .i64 (0-(zH ⟨1,rfl⟩).hi.val)) (zH ⟨1,rfl⟩).hi (by omega) (by omega) (by omega) (by omega)
 have a2:=latWs11 e v (zab v) ⟨0,rfl⟩ ⟨0,rfl⟩ (bisU (fun c=>decide ((zaa ⟨e.a,e.num,e.den⟩ ⟨(zab v).lo,(zab v).hi⟩ ⟨v.z.lo,v.z.hi⟩ c).hi.val<0)) (40+1+29) (.w .i64 (0-(zH ⟨1,rfl⟩).hi.val)) (zH ⟨1,rfl⟩).hi).1 41 28
  (bisU (fun c=>decide ((zaa ⟨e.a,e.num,e.den⟩ ⟨(zab v).lo,(zab v).hi⟩ ⟨v.z.lo,v.z.hi⟩ c).hi.val<0)) (40+1+29) (.w .i64 (0-(zH ⟨1,rfl⟩).hi.val)) (zH ⟨1,rfl⟩).hi).1 (zH ⟨1,rfl⟩).hi bd.1 bd.2 (by omega) (by omega) (by omega)
 have hf1:(40+1+29:Nat)=70:=rfl
 rw [hf1] at a1 a2
 have g4:G_spec_l14Lat_4 ⟨.w .i64 (0-(zH ⟨1,rfl⟩).hi.val),(zH ⟨1,rfl⟩).hi,e.a,e.num,e.den,v.x.lo,v.x.hi,v.y.lo,v.y.hi,v.z.lo,v.z.hi,⟨0,rfl⟩,⟨0,rfl⟩,(zab v).lo,(zab v).hi⟩=true:=by unfold G_spec_l14Lat_4;rw [a1];rfl
 have l4:L_spec_l14Lat_4 ⟨.w .i64 (0-(zH ⟨1,rfl⟩).hi.val),(zH ⟨1,rfl⟩).hi,e.a,e.num,e.den,v.x.lo,v.x.hi,v.y.lo,v.y.hi,v.z.lo,v.z.hi,⟨0,rfl⟩,⟨0,rfl⟩,(zab v).lo,(zab v).hi⟩=_:=Tr.zaB a1
 simp only [t_spec_l14Lat,Tr.opt,g,g4,l4,cond_true]
 have g11:∀x,x=_->G_spec_l14Lat_11 x=true:=fun x hx=>by rw [hx];unfold G_spec_l14Lat_11;rw [a2];rfl
 have l11:=Tr.zaB a2
 rw [g11 _ rfl]
 simp only [cond_true]
 unfold L_spec_l14Lat_11
 rw [l11]
 rfl
theorem lat_impl (e:Ell) (v:Vec):(zep e v).opt=some (latF (fun c=>decide ((zbd e v c).hi.val<0)) (fun c=> !(decide ((zbd e v c).lo.val>0))) (zH ⟨1,rfl⟩).hi):=by
 obtain ⟨g,e1⟩:=turn_in (k:=⟨1,rfl⟩) (by decide) (by decide)
 have hqq:zcG=(zH ⟨1,rfl⟩).hi:=by simp only [zcG,t_impl_quarter,Tr.get,turnI_eq,e1]
 have hq:=q_val
 have p40:(2:Int)^40=1099511627776:=rfl
 have p41:(2:Int)^41=2199023255552:=rfl
 have en:(Rng.w .i64 (0-(zH ⟨1,rfl⟩).hi.val)).val= -6746518853:=by rw [hq];exact wi (by omega) (by omega)
 have a1:=latWi2 e v ⟨⟨0,rfl⟩,⟨0,rfl⟩⟩ ⟨0,rfl⟩ ⟨0,rfl⟩ ⟨0,rfl⟩ 40 29 (.w .i64 (0-(zH ⟨1,rfl⟩).hi.val)) (zH ⟨1,rfl⟩).hi (by omega) (by omega) (by omega) (by omega) (by omega)
 have bd:=bisU_bd (fun c=>decide ((zbd ⟨e.a,e.num,e.den⟩ ⟨⟨v.x.lo,v.x.hi⟩,⟨v.y.lo,v.y.hi⟩,⟨v.z.lo,v.z.hi⟩⟩ c).hi.val<0)) (40+1+29) (.w .i64 (0-(zH ⟨1,rfl⟩).hi.val)) (zH ⟨1,rfl⟩).hi (by omega) (by omega) (by omega) (by omega)
 have a2:=latWi9 e v ⟨⟨0,rfl⟩,⟨0,rfl⟩⟩ ⟨0,rfl⟩ ⟨0,rfl⟩ (bisU (fun c=>decide ((zbd ⟨e.a,e.num,e.den⟩ ⟨⟨v.x.lo,v.x.hi⟩,⟨v.y.lo,v.y.hi⟩,⟨v.z.lo,v.z.hi⟩⟩ c).hi.val<0)) (40+1+29) (.w .i64 (0-(zH ⟨1,rfl⟩).hi.val)) (zH ⟨1,rfl⟩).hi).1 ⟨0,rfl⟩ 41 28
  (bisU (fun c=>decide ((zbd ⟨e.a,e.num,e.den⟩ ⟨⟨v.x.lo,v.x.hi⟩,⟨v.y.lo,v.y.hi⟩,⟨v.z.lo,v.z.hi⟩⟩ c).hi.val<0)) (40+1+29) (.w .i64 (0-(zH ⟨1,rfl⟩).hi.val)) (zH ⟨1,rfl⟩).hi).1 (zH ⟨1,rfl⟩).hi bd.1 bd.2 (by omega) (by omega) (by omega)
 have hf1:(40+1+29:Nat)=70:=rfl
 rw [hf1] at a1 a2
 have g2:zeR ⟨.w .i64 (0-(zH ⟨1,rfl⟩).hi.val),(zH ⟨1,rfl⟩).hi,e.a,e.num,e.den,v.x.lo,v.x.hi,v.y.lo,v.y.hi,v.z.lo,v.z.hi,⟨0,rfl⟩,⟨0,rfl⟩⟩=true:=by unfold zeR;rw [a1];rfl
 have l2:L_impl_latitudeOf_2 ⟨.w .i64 (0-(zH ⟨1,rfl⟩).hi.val),(zH ⟨1,rfl⟩).hi,e.a,e.num,e.den,v.x.lo,v.x.hi,v.y.lo,v.y.hi,v.z.lo,v.z.hi,⟨0,rfl⟩,⟨0,rfl⟩⟩=_:=Tr.zaB a1
 simp only [zep,Tr.opt,hqq,g2,l2,cond_true]
 have g9:∀x,x=_->zeQ x=true:=fun x hx=>by rw [hx];unfold zeQ;rw [a2];rfl
 have l9:=Tr.zaB a2
 rw [g9 _ rfl]
 simp only [cond_true]
 unfold L_impl_latitudeOf_9
 rw [l9]
 rfl
theorem tt_lat_spec (e:Ell) (v:Vec):(t_spec_l14Lat e v).opt=some (zaW e v):=zdO (lat_spec e v)
theorem tt_lat_impl (e:Ell) (v:Vec):(zep e v).opt=some (zez e v):=zdO (lat_impl e v)
end Go.Proofs.YtfcjhkkpbnobhaaGreat.Ev
namespace Go.Proofs.YtfcjhkkpbnobhaaGreat.Ev
open Go Go.RowKit
set_option maxRecDepth 100000
section
variable [Amb]
def ET_spec_l14Lat:Ent Tryz.prog:= .of2 Tb125 B125 (fun _ _=>true) zaW fun a0 a1 _=>(r_spec_l14Lat a0 a1).trans (tt_lat_spec a0 a1)
def ET_impl_latitudeOf:Ent Tryz.prog:= .of2 Tb114 B114 (fun _ _=>true) zez fun a0 a1 _=>(r_impl_latitudeOf a0 a1).trans (tt_lat_impl a0 a1)
def B113:Bod Tryz.prog:=⟨113,Tryz.f113,Tryz.f113.body.getD .skip,Tryz.func113,by kernel_rfl,by kernel_rfl,z8.no _ _⟩
def Tb113:Tb Tryz.prog:= {T:= [Y40,Y57],mix:=mix,Es:= [E_impl_LessI,ET_impl_NormV,zcW,E_impl_MajorI,E_impl_HalfI],Bs:= [],d:=1}
def t_impl_centreCode (a0:Ell) (a1:Vec):Tr (I64):=
 .br (!(zbc a0)) (.leaf ⟨1,rfl⟩) (let c5:=F_impl_LessI (F_impl_NormV a1) (F_impl_HalfI (zeT a0));.br (c5.val==1) (.leaf ⟨8,rfl⟩) (.br (c5.val==2) (.leaf ⟨9,rfl⟩) (.leaf ⟨0,rfl⟩)))
theorem r_impl_centreCode (a0:Ell) (a1:Vec):Tb113.run B113 [enc a0,enc a1] (I64)=(t_impl_centreCode a0 a1).opt:=by kernel_rfl
def zeB:Ell->Vec->I64:=fun a0 a1=>(t_impl_centreCode a0 a1).get
theorem u_impl_centreCode (a0:Ell) (a1:Vec):(t_impl_centreCode a0 a1).opt=some (zeB a0 a1):=Tr.zD (by kernel_rfl)
def E_impl_centreCode:Ent Tryz.prog:= .of2 Tb113 B113 (fun _ _=>true) zeB fun a0 a1 _=>(r_impl_centreCode a0 a1).trans (u_impl_centreCode a0 a1)
def B39:Bod Tryz.prog:=⟨39,Tryz.f39,Tryz.f39.body.getD .skip,Tryz.func39,by kernel_rfl,by kernel_rfl,z8.no _ _⟩
def Tb39:Tb Tryz.prog:= {T:= [Y2,Y30,Y40,Y57],mix:=mix,Es:= [E_impl_DirectionI,zeV,E_impl_centreCode,ET_impl_latitudeOf,E_impl_SinI,zeK,E_impl_fromAxis,E_impl_CosI,zea,E_impl_MajorI,ET_impl_SqrtI,E_impl_weightOf,zbW],Bs:= [],d:=1}
def zed (a0:Ell) (a1:Vec):Tr (T4 Iv Iv Iv I64):=
 let c1:=zeB a0 a1;.br (c1.val != 0) (.leaf ⟨⟨⟨0,rfl⟩,⟨0,rfl⟩⟩,⟨⟨0,rfl⟩,⟨0,rfl⟩⟩,⟨⟨0,rfl⟩,⟨0,rfl⟩⟩,c1⟩) (let c2:=zez a0 a1;let c3:=zfZ c2;let c13:=zax (zbt (zas (zeA a1) (F_impl_CosI c2)) (zas a1.z c3)) (zas (zeT a0) (zfX (zey a0 c3)));.br (zan c13) (.leaf ⟨⟨⟨0,rfl⟩,⟨0,rfl⟩⟩,⟨⟨0,rfl⟩,⟨0,rfl⟩⟩,⟨⟨0,rfl⟩,⟨0,rfl⟩⟩,⟨9,rfl⟩⟩) (.leaf ⟨c2,(zeD a1.y a1.x),c13,⟨0,rfl⟩⟩))
theorem r_impl_FromCartesian (a0:Ell) (a1:Vec):Tb39.run B39 [enc a0,enc a1] (T4 Iv Iv Iv I64)=(zed a0 a1).opt:=by kernel_rfl
def zda:Ell->Vec->T4 Iv Iv Iv I64:=fun a0 a1=>(zed a0 a1).get
theorem u_impl_FromCartesian (a0:Ell) (a1:Vec):(zed a0 a1).opt=some (zda a0 a1):=Tr.zD (by kernel_rfl)
def E_impl_FromCartesian:Ent Tryz.prog:= .of2 Tb39 B39 (fun _ _=>true) zda fun a0 a1 _=>(r_impl_FromCartesian a0 a1).trans (u_impl_FromCartesian a0 a1)
def B124:Bod Tryz.prog:=⟨124,Tryz.f124,Tryz.f124.body.getD .skip,Tryz.func124,by kernel_rfl,by kernel_rfl,z8.no _ _⟩
def Tb124:Tb Tryz.prog:= {T:= [Y40,Y57],mix:=mix,Es:= [E_spec_LessI,E_spec_MajorI,E_spec_NormV,E_spec_ValidEllipsoid,E_spec_HalfI],Bs:= [],d:=1}
def t_spec_l14Far (a0:Ell) (a1:Vec):Tr (I64):=
 .br (!(zcO a0)) (.leaf ⟨1,rfl⟩) (let c5:=zdR (zdg a1) (F_spec_HalfI (zch a0));.br (c5.val==1) (.leaf ⟨8,rfl⟩) (.br (c5.val==0) (.leaf ⟨0,rfl⟩) (.leaf ⟨9,rfl⟩)))
theorem r_spec_l14Far (a0:Ell) (a1:Vec):Tb124.run B124 [enc a0,enc a1] (I64)=(t_spec_l14Far a0 a1).opt:=by kernel_rfl
def zcE:Ell->Vec->I64:=fun a0 a1=>(t_spec_l14Far a0 a1).get
theorem u_spec_l14Far (a0:Ell) (a1:Vec):(t_spec_l14Far a0 a1).opt=some (zcE a0 a1):=Tr.zD (by kernel_rfl)
def E_spec_l14Far:Ent Tryz.prog:= .of2 Tb124 B124 (fun _ _=>true) zcE fun a0 a1 _=>(r_spec_l14Far a0 a1).trans (u_spec_l14Far a0 a1)
def B40:Bod Tryz.prog:=⟨40,Tryz.f40,Tryz.f40.body.getD .skip,Tryz.func40,by kernel_rfl,by kernel_rfl,z8.no _ _⟩
def Tb40:Tb Tryz.prog:= {T:= [Y2,Y30,Y40,Y57],mix:=mix,Es:= [zdj,E_spec_MulI,E_spec_CosI,E_spec_SinI,E_spec_AddI,E_spec_MajorI,zd9,E_spec_l14Far,ET_spec_l14Lat,ET_spec_SqrtI,E_spec_EccI,E_spec_SqrI,E_spec_l15Flat,E_spec_IsWhole,E_spec_DirectionI],Bs:= [],d:=1}
def zc3 (a0:Ell) (a1:Vec):Tr (T4 Iv Iv Iv I64):=
 let c1:=zcE a0 a1;.br (c1.val != 0) (.leaf ⟨⟨⟨0,rfl⟩,⟨0,rfl⟩⟩,⟨⟨0,rfl⟩,⟨0,rfl⟩⟩,⟨⟨0,rfl⟩,⟨0,rfl⟩⟩,c1⟩) (let c2:=zaW a0 a1;let c3:=zct c2;let c17:=zO (zak (zS (zab a1) (zd3 c2)) (zS a1.z c3)) (zS (zch a0) (zbl (zO (zB ⟨1,rfl⟩) (zS (zcu a0) (za7 c3)))));.br (zbF c17) (.leaf ⟨⟨⟨0,rfl⟩,⟨0,rfl⟩⟩,⟨⟨0,rfl⟩,⟨0,rfl⟩⟩,⟨⟨0,rfl⟩,⟨0,rfl⟩⟩,⟨9,rfl⟩⟩) (.leaf ⟨c2,(zcv a1.y a1.x),c17,⟨0,rfl⟩⟩))
theorem r_spec_FromCartesian (a0:Ell) (a1:Vec):Tb40.run B40 [enc a0,enc a1] (T4 Iv Iv Iv I64)=(zc3 a0 a1).opt:=by kernel_rfl
def zaS:Ell->Vec->T4 Iv Iv Iv I64:=fun a0 a1=>(zc3 a0 a1).get
theorem u_spec_FromCartesian (a0:Ell) (a1:Vec):(zc3 a0 a1).opt=some (zaS a0 a1):=Tr.zD (by kernel_rfl)
def E_spec_FromCartesian:Ent Tryz.prog:= .of2 Tb40 B40 (fun _ _=>true) zaS fun a0 a1 _=>(r_spec_FromCartesian a0 a1).trans (u_spec_FromCartesian a0 a1)
end
end Go.Proofs.YtfcjhkkpbnobhaaGreat.Ev
namespace Go.Proofs.YtfcjhkkpbnobhaaGreat.Ev
open Go Go.RowKit
set_option maxRecDepth 100000
section
variable [Amb]
def B6:Bod Tryz.prog:=⟨6,Tryz.f6,Tryz.f6.body.getD .skip,Tryz.func6,by kernel_rfl,by kernel_rfl,z8.no _ _⟩
def Tb6 (o0:Bool) (o1:Ell) (o2:Place) (h0:Orac Tryz.prog 19 [0,1] o0) (h1:Orac Tryz.prog 36 [1] o1) (h2:Orac Tryz.prog 37 [0] o2):Tb Tryz.prog:= {T:= [Y2,Y24,Y30,Y40,Y57,Y60],mix:=mix,Es:= [Ent.orac 37 [0] o2 h2,Ent.orac 36 [1] o1 h1,Ent.orac 19 [0,1] o0 h0,E_spec_ValidInterval,E_spec_OverlapI,E_impl_ToCartesian,E_impl_FromCartesian,E_spec_FromCartesian,E_spec_AtPoint,E_spec_HeightI],Bs:= [],d:=1}
def t_laws_FnCartesian (o0:Bool) (o1:Ell) (o2:Place):Tr Bool:=
 .br o0 (.leaf true) (let c4:=zdT o1 o2;let c5:=zda o1 c4.a;.br (c4.b.val != 0) (.leaf false) (.br (c5.d.val != 0) (.leaf (c5.d.val==(zaS o1 c4.a).d.val)) (.br (zfj c5.a c5.b o2.pt) (.br (G_spec_HeightI o2.h) (.br (zT c5.c (F_spec_HeightI o2.h)) (.leaf (zbM c5.a)) (.leaf false)) (.bad)) (.leaf false))))
theorem r_laws_FnCartesian (o0:Bool) (o1:Ell) (o2:Place) (h0:Orac Tryz.prog 19 [0,1] o0) (h1:Orac Tryz.prog 36 [1] o1) (h2:Orac Tryz.prog 37 [0] o2):(Tb6 o0 o1 o2 h0 h1 h2).run B6 [.arg 0,.arg 1] Bool=(t_laws_FnCartesian o0 o1 o2).opt:=by kernel_rfl
end
end Go.Proofs.YtfcjhkkpbnobhaaGreat.Ev
namespace Go.Proofs.YtfcjhkkpbnobhaaGreat.Ev
open Go
theorem less_vals (a b:Iv):(zdR a b).val=0\/(zdR a b).val=1\/(zdR a b).val=2:=by
 simp only [zdR,t_spec_LessI,Tr.get]
 cases ze a<;>cases ze b<;>cases decide (a.hi.val<b.lo.val)<;>cases decide (a.lo.val>=b.hi.val)<;>simp
theorem far_eq (e:Ell) (v:Vec):zeB e v=zcE e v:=by
 simp only [zeB,t_impl_centreCode,zcE,t_spec_l14Far,Tr.get]
 rw [ell_eq,sell_eq,less_eq,norm_eq,halfI_eq,major_eq]
 rcases less_vals (zdg v) (F_spec_HalfI (zch e)) with h|h|h<;>simp [h]
theorem far_ok {e:Ell} {v:Vec} (h:(zcE e v).val=0):zah e=true:=by
 simp only [zcE,t_spec_l14Far,Tr.get,sell_eq] at h
 cases ho:zah e
 ·rw [ho] at h;simp at h
 ·rfl
end Go.Proofs.YtfcjhkkpbnobhaaGreat.Ev
