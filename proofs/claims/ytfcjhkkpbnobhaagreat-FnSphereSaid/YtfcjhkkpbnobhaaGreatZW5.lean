/- The law FnSphere gives true, whatever bytes come in. No conditions. (One of the texts of its proof, put together by a program of this session.) -/
import Derived.Test.YtfcjhkkpbnobhaaGreatZW2
import Derived.Test.YtfcjhkkpbnobhaaGreatZPT
set_option linter.unusedSimpArgs false
set_option linter.unusedVariables false
noncomputable section
namespace Go.Proofs.YtfcjhkkpbnobhaaGreat.Ev
open Go Go.RowKit
set_option maxRecDepth 100000
section
def ET_spec_l06Over:Ent Tryz.prog:= .of2 Tb101 B101 (fun _ _=>true) zeL fun a0 a1 _=>(r_spec_l06Over a0 a1).trans (tt_over_spec a0 a1)
def B26:Bod Tryz.prog:=⟨26,Tryz.f26,Tryz.f26.body.getD .skip,Tryz.func26,by kernel_rfl,by kernel_rfl,zam.no _ _⟩
def Tb26:Tb Tryz.prog:= {T:= [Y2,Y30],mix:=mix,Es:= [ET_spec_l06Over],Bs:= [],d:=1}
def t_spec_CosI (a0:Iv):Tr (Iv):=
 .leaf (zeL a0 ⟨1,rfl⟩)
theorem r_spec_CosI (a0:Iv):Tb26.run B26 [enc a0] (Iv)=(t_spec_CosI a0).opt:=by kernel_rfl
def zdO:Iv->Iv:=fun a0=>(t_spec_CosI a0).get
theorem u_spec_CosI (a0:Iv):(t_spec_CosI a0).opt=some (zdO a0):=Tr.zR (by kernel_rfl)
def E_spec_CosI:Ent Tryz.prog:= .of1 Tb26 B26 (fun _=>true) zdO fun a0 _=>(r_spec_CosI a0).trans (u_spec_CosI a0)
def B118:Bod Tryz.prog:=⟨118,Tryz.f118,Tryz.f118.body.getD .skip,Tryz.func118,by kernel_rfl,by kernel_rfl,zam.no _ _⟩
def Tb118:Tb Tryz.prog:= {T:= [Y2,Y30],mix:=mix,Es:= [E_impl_circleHull],Bs:= [],d:=1}
def t_impl_CosI (a0:Iv):Tr (Iv):=
 .leaf (za1 a0 ⟨1,rfl⟩)
theorem r_impl_CosI (a0:Iv):Tb118.run B118 [enc a0] (Iv)=(t_impl_CosI a0).opt:=by kernel_rfl
def F_impl_CosI:Iv->Iv:=fun a0=>(t_impl_CosI a0).get
theorem u_impl_CosI (a0:Iv):(t_impl_CosI a0).opt=some (F_impl_CosI a0):=Tr.zR (by kernel_rfl)
def E_impl_CosI:Ent Tryz.prog:= .of1 Tb118 B118 (fun _=>true) F_impl_CosI fun a0 _=>(r_impl_CosI a0).trans (u_impl_CosI a0)
def B27:Bod Tryz.prog:=⟨27,Tryz.f27,Tryz.f27.body.getD .skip,Tryz.func27,by kernel_rfl,by kernel_rfl,zam.no _ _⟩
def Tb27:Tb Tryz.prog:= {T:= [Y2,Y30],mix:=mix,Es:= [ET_spec_l06Over],Bs:= [],d:=1}
def t_spec_SinI (a0:Iv):Tr (Iv):=
 .leaf (zeL a0 ⟨0,rfl⟩)
theorem r_spec_SinI (a0:Iv):Tb27.run B27 [enc a0] (Iv)=(t_spec_SinI a0).opt:=by kernel_rfl
def zdN:Iv->Iv:=fun a0=>(t_spec_SinI a0).get
theorem u_spec_SinI (a0:Iv):(t_spec_SinI a0).opt=some (zdN a0):=Tr.zR (by kernel_rfl)
def E_spec_SinI:Ent Tryz.prog:= .of1 Tb27 B27 (fun _=>true) zdN fun a0 _=>(r_spec_SinI a0).trans (u_spec_SinI a0)
def B115:Bod Tryz.prog:=⟨115,Tryz.f115,Tryz.f115.body.getD .skip,Tryz.func115,by kernel_rfl,by kernel_rfl,zam.no _ _⟩
def Tb115:Tb Tryz.prog:= {T:= [Y2,Y30],mix:=mix,Es:= [E_impl_circleHull],Bs:= [],d:=1}
def t_impl_SinI (a0:Iv):Tr (Iv):=
 .leaf (za1 a0 ⟨0,rfl⟩)
theorem r_impl_SinI (a0:Iv):Tb115.run B115 [enc a0] (Iv)=(t_impl_SinI a0).opt:=by kernel_rfl
def F_impl_SinI:Iv->Iv:=fun a0=>(t_impl_SinI a0).get
theorem u_impl_SinI (a0:Iv):(t_impl_SinI a0).opt=some (F_impl_SinI a0):=Tr.zR (by kernel_rfl)
def E_impl_SinI:Ent Tryz.prog:= .of1 Tb115 B115 (fun _=>true) F_impl_SinI fun a0 _=>(r_impl_SinI a0).trans (u_impl_SinI a0)
def B283:Bod Tryz.prog:=⟨283,Tryz.f283,Tryz.f283.body.getD .skip,Tryz.func283,by kernel_rfl,by kernel_rfl,zam.no _ _⟩
def Tb283:Tb Tryz.prog:= {T:= [],mix:=mix,Es:= [],Bs:= [],d:=1}
def t_spec_l07Fix (a0:I64):Tr (Bool):=
 .br (decide ((-1152921504606846976)<a0.val)) (.leaf (decide (a0.val<1152921504606846976))) (.leaf false)
theorem r_spec_l07Fix (a0:I64):Tb283.run B283 [enc a0] (Bool)=(t_spec_l07Fix a0).opt:=by kernel_rfl
def zbf:I64->Bool:=fun a0=>(t_spec_l07Fix a0).get
theorem u_spec_l07Fix (a0:I64):(t_spec_l07Fix a0).opt=some (zbf a0):=Tr.zR (by kernel_rfl)
def E_spec_l07Fix:Ent Tryz.prog:= .of1 Tb283 B283 (fun _=>true) zbf fun a0 _=>(r_spec_l07Fix a0).trans (u_spec_l07Fix a0)
def B327:Bod Tryz.prog:=⟨327,Tryz.f327,Tryz.f327.body.getD .skip,Tryz.func327,by kernel_rfl,by kernel_rfl,zam.no _ _⟩
def Tb327:Tb Tryz.prog:= {T:= [Y2,Y30],mix:=mix,Es:= [E_spec_l05Turn],Bs:= [],d:=1}
def zfn:Tr (Iv):=
 .br (zcd ⟨1,rfl⟩) (.br (zcd ⟨1,rfl⟩) (.leaf ⟨(Rng.w .i64 (0-(zbk ⟨1,rfl⟩).hi.val)),(zbk ⟨1,rfl⟩).hi⟩) (.bad)) (.bad)
theorem r_spec_l07Quarter:Tb327.run B327 [] (Iv)=(zfn).opt:=by kernel_rfl
def za6:Iv:=(zfn).get
theorem u_spec_l07Quarter:(zfn).opt=some (za6):=Tr.get_some (by kernel_rfl)
def E_spec_l07Quarter:Ent Tryz.prog:= .of0 Tb327 B327 za6 (r_spec_l07Quarter.trans u_spec_l07Quarter)
def B362:Bod Tryz.prog:=⟨362,Tryz.f362,Tryz.f362.body.getD .skip,Tryz.func362,by kernel_rfl,by kernel_rfl,zam.no _ _⟩
def Tb362:Tb Tryz.prog:= {T:= [Y2,Y30],mix:=mix,Es:= [E_spec_Integer,E_spec_AddI,ET_spec_SqrtI,E_spec_SqrI,E_spec_DivI],Bs:= [],d:=1}
def zeX (a0:Iv):Tr (Iv):=
 .leaf (zL a0 (zan (zO ⟨1,rfl⟩) (zb7 (zan (zO ⟨1,rfl⟩) (zby a0)))))
theorem r_spec_l07Halve (a0:Iv):Tb362.run B362 [enc a0] (Iv)=(zeX a0).opt:=by kernel_rfl
def zcH:Iv->Iv:=fun a0=>(zeX a0).get
theorem u_spec_l07Halve (a0:Iv):(zeX a0).opt=some (zcH a0):=Tr.zR (by kernel_rfl)
def E_spec_l07Halve:Ent Tryz.prog:= .of1 Tb362 B362 (fun _=>true) zcH fun a0 _=>(r_spec_l07Halve a0).trans (u_spec_l07Halve a0)
def B361:Bod Tryz.prog:=⟨361,Tryz.f361,Tryz.f361.body.getD .skip,Tryz.func361,by kernel_rfl,by kernel_rfl,zam.no _ _⟩
def Tb361:Tb Tryz.prog:= {T:= [Y2,Y30],mix:=mix,Es:= [E_spec_MulI,E_spec_AddI,E_spec_InsideI,E_spec_SubI,E_spec_SqrI,zdH,ET_spec_Quotient,E_spec_l06Tiny],Bs:= [],d:=1}
def zew (a0:Iv):Tr (Iv):=
 .br (!(zaZ a0 ⟨⟨(-1073741824),rfl⟩,⟨1073741824,rfl⟩⟩)) (.leaf zaP) (let c3:=zby a0;.leaf (zan (zS a0 (zac (zaO ⟨1,rfl⟩ ⟨1,rfl⟩) (zS c3 (zac (zaO ⟨1,rfl⟩ ⟨3,rfl⟩) (zS c3 (zac (zaO ⟨1,rfl⟩ ⟨5,rfl⟩) (zS c3 (zac (zaO ⟨1,rfl⟩ ⟨7,rfl⟩) (zS c3 (zac (zaO ⟨1,rfl⟩ ⟨9,rfl⟩) (zS c3 (zac (zaO ⟨1,rfl⟩ ⟨11,rfl⟩) (zS c3 (zac (zaO ⟨1,rfl⟩ ⟨13,rfl⟩) (zS c3 (zac (zaO ⟨1,rfl⟩ ⟨15,rfl⟩) (zS c3 (zac (zaO ⟨1,rfl⟩ ⟨17,rfl⟩) (zS c3 (zac (zaO ⟨1,rfl⟩ ⟨19,rfl⟩) (zS c3 (zaO ⟨1,rfl⟩ ⟨21,rfl⟩)))))))))))))))))))))) zbt))
theorem r_spec_ArcSeries (a0:Iv):Tb361.run B361 [enc a0] (Iv)=(zew a0).opt:=by kernel_rfl
def zcS:Iv->Iv:=fun a0=>(zew a0).get
theorem u_spec_ArcSeries (a0:Iv):(zew a0).opt=some (zcS a0):=Tr.zR (by kernel_rfl)
def E_spec_ArcSeries:Ent Tryz.prog:= .of1 Tb361 B361 (fun _=>true) zcS fun a0 _=>(r_spec_ArcSeries a0).trans (u_spec_ArcSeries a0)
def B360:Bod Tryz.prog:=⟨360,Tryz.f360,Tryz.f360.body.getD .skip,Tryz.func360,by kernel_rfl,by kernel_rfl,zam.no _ _⟩
def Tb360:Tb Tryz.prog:= {T:= [Y2,Y30],mix:=mix,Es:= [zbd,zbL,zbo],Bs:= [],d:=1}
def t_spec_DoubleI (a0:Iv):Tr (Iv):=
 .br (!(zn a0)) (.leaf zA) (.leaf (zav (Rng.w .i64 (2*a0.lo.val)) (Rng.w .i64 (2*a0.hi.val))))
theorem r_spec_DoubleI (a0:Iv):Tb360.run B360 [enc a0] (Iv)=(t_spec_DoubleI a0).opt:=by kernel_rfl
def zbX:Iv->Iv:=fun a0=>(t_spec_DoubleI a0).get
theorem u_spec_DoubleI (a0:Iv):(t_spec_DoubleI a0).opt=some (zbX a0):=Tr.zR (by kernel_rfl)
def E_spec_DoubleI:Ent Tryz.prog:= .of1 Tb360 B360 (fun _=>true) zbX fun a0 _=>(r_spec_DoubleI a0).trans (u_spec_DoubleI a0)
def B349:Bod Tryz.prog:=⟨349,Tryz.f349,Tryz.f349.body.getD .skip,Tryz.func349,by kernel_rfl,by kernel_rfl,zam.no _ _⟩
def Tb349:Tb Tryz.prog:= {T:= [Y2,Y30],mix:=mix,Es:= [E_spec_DoubleI,E_spec_ArcSeries,E_spec_l07Halve],Bs:= [],d:=1}
def zfY (a0:Iv):Tr (Iv):=
 .leaf (zbX (zbX (zcS (zcH (zcH a0)))))
theorem r_spec_l07Core (a0:Iv):Tb349.run B349 [enc a0] (Iv)=(zfY a0).opt:=by kernel_rfl
def zbW:Iv->Iv:=fun a0=>(zfY a0).get
theorem u_spec_l07Core (a0:Iv):(zfY a0).opt=some (zbW a0):=Tr.zR (by kernel_rfl)
def E_spec_l07Core:Ent Tryz.prog:= .of1 Tb349 B349 (fun _=>true) zbW fun a0 _=>(r_spec_l07Core a0).trans (u_spec_l07Core a0)
def B328:Bod Tryz.prog:=⟨328,Tryz.f328,Tryz.f328.body.getD .skip,Tryz.func328,by kernel_rfl,by kernel_rfl,zam.no _ _⟩
def Tb328_p:Tb Tryz.prog:= {T:= [Y2,Y30],mix:=mix,Es:= [E_spec_Integer,ET_spec_TurnI,E_spec_SubI,E_spec_DivI,E_spec_l05At,E_spec_l07Fix,E_spec_l07Quarter,E_spec_l07Core],Bs:= [],d:=1}
def zd4 (a0:I64):Tr (Iv):=
 .br (!(zbf a0)) (.leaf za6) (.br (decide (a0.val<0)) (.bad) (.br (decide (a0.val>4294967296)) (.leaf (zac (zY ⟨1,rfl⟩) (zbW (zL (zO ⟨1,rfl⟩) (zB a0))))) (.leaf (zbW (zB a0)))))
theorem r_spec_AtanAt_p (a0:I64):Tb328_p.run B328 [enc a0] (Iv)=(zd4 a0).opt:=by kernel_rfl
def zcK:I64->Iv:=fun a0=>(zd4 a0).get
def zd9:I64->Bool:=fun a0=>(zd4 a0).opt.isSome
def E_spec_AtanAt_p:Ent Tryz.prog:= .of1 Tb328_p B328 zd9 zcK fun a0 h=>(r_spec_AtanAt_p a0).trans (Tr.get_some h)
def Tb328:Tb Tryz.prog:= {T:= [Y2,Y30],mix:=mix,Es:= [E_spec_Integer,ET_spec_TurnI,E_spec_NegI,E_spec_SubI,E_spec_DivI,E_spec_l05At,E_spec_l07Fix,E_spec_l07Quarter,E_spec_AtanAt_p,E_spec_l07Core],Bs:= [],d:=1}
def zel (a0:I64):Tr (Iv):=
 .br (!(zbf a0)) (.leaf za6) (.br (decide (a0.val<0)) (let c3:=(Rng.w .i64 (0-a0.val));.br (zd9 c3) (.leaf (zaD (zcK c3))) (.bad)) (.br (decide (a0.val>4294967296)) (.leaf (zac (zY ⟨1,rfl⟩) (zbW (zL (zO ⟨1,rfl⟩) (zB a0))))) (.leaf (zbW (zB a0)))))
theorem r_spec_AtanAt (a0:I64):Tb328.run B328 [enc a0] (Iv)=(zel a0).opt:=by kernel_rfl
def zcn:I64->Iv:=fun a0=>(zel a0).get
def B255:Bod Tryz.prog:=⟨255,Tryz.f255,Tryz.f255.body.getD .skip,Tryz.func255,by kernel_rfl,by kernel_rfl,zam.no _ _⟩
def Tb255:Tb Tryz.prog:= {T:= [],mix:=mix,Es:= [],Bs:= [],d:=1}
def t_impl_isOpen (a0:I64):Tr (Bool):=
 .br (decide ((-1152921504606846976)<a0.val)) (.leaf (decide (a0.val<1152921504606846976))) (.leaf false)
theorem r_impl_isOpen (a0:I64):Tb255.run B255 [enc a0] (Bool)=(t_impl_isOpen a0).opt:=by kernel_rfl
def zet:I64->Bool:=fun a0=>(t_impl_isOpen a0).get
theorem u_impl_isOpen (a0:I64):(t_impl_isOpen a0).opt=some (zet a0):=Tr.zR (by kernel_rfl)
def E_impl_isOpen:Ent Tryz.prog:= .of1 Tb255 B255 (fun _=>true) zet fun a0 _=>(r_impl_isOpen a0).trans (u_impl_isOpen a0)
def B296:Bod Tryz.prog:=⟨296,Tryz.f296,Tryz.f296.body.getD .skip,Tryz.func296,by kernel_rfl,by kernel_rfl,zam.no _ _⟩
def Tb296:Tb Tryz.prog:= {T:= [Y2,Y30],mix:=mix,Es:= [zfK],Bs:= [],d:=1}
def zft:Tr (Iv):=
 .leaf ⟨(Rng.w .i64 (0-(za5 ⟨1,rfl⟩).hi.val)),(za5 ⟨1,rfl⟩).hi⟩
theorem r_impl_halfCircle:Tb296.run B296 [] (Iv)=(zft).opt:=by kernel_rfl
def zb9:Iv:=(zft).get
theorem u_impl_halfCircle:(zft).opt=some (zb9):=Tr.zR (by kernel_rfl)
def E_impl_halfCircle:Ent Tryz.prog:= .of0 Tb296 B296 zb9 (r_impl_halfCircle.trans u_impl_halfCircle)
def B354:Bod Tryz.prog:=⟨354,Tryz.f354,Tryz.f354.body.getD .skip,Tryz.func354,by kernel_rfl,by kernel_rfl,zam.no _ _⟩
def Tb354:Tb Tryz.prog:= {T:= [Y2,Y30],mix:=mix,Es:= [E_impl_Integer,zfm,ET_impl_SqrtI,E_impl_DivI,ET_impl_SqrI],Bs:= [],d:=1}
def t_impl_halved (a0:Iv):Tr (Iv):=
 .leaf (zbi a0 (zbF (zao ⟨1,rfl⟩) (F_impl_SqrtI (zbF (zao ⟨1,rfl⟩) (F_impl_SqrI a0)))))
theorem r_impl_halved (a0:Iv):Tb354.run B354 [enc a0] (Iv)=(t_impl_halved a0).opt:=by kernel_rfl
def zfH:Iv->Iv:=fun a0=>(t_impl_halved a0).get
theorem u_impl_halved (a0:Iv):(t_impl_halved a0).opt=some (zfH a0):=Tr.zR (by kernel_rfl)
def E_impl_halved:Ent Tryz.prog:= .of1 Tb354 B354 (fun _=>true) zfH fun a0 _=>(r_impl_halved a0).trans (u_impl_halved a0)
def B353:Bod Tryz.prog:=⟨353,Tryz.f353,Tryz.f353.body.getD .skip,Tryz.func353,by kernel_rfl,by kernel_rfl,zam.no _ _⟩
def Tb353:Tb Tryz.prog:= {T:= [Y2,Y30],mix:=mix,Es:= [zfm,ET_impl_MulI,E_impl_SubI,zaR,ET_impl_Quotient,ET_impl_SqrI,E_impl_InsideI,E_impl_tiny],Bs:= [],d:=1}
def t_impl_ArcSeries (a0:Iv):Tr (Iv):=
 .br (!(zdS a0 ⟨⟨(-1073741824),rfl⟩,⟨1073741824,rfl⟩⟩)) (.leaf zT) (let c3:=F_impl_SqrI a0;.leaf (zbF (zaz a0 (zaE (zbc ⟨1,rfl⟩ ⟨1,rfl⟩) (zaz c3 (zaE (zbc ⟨1,rfl⟩ ⟨3,rfl⟩) (zaz c3 (zaE (zbc ⟨1,rfl⟩ ⟨5,rfl⟩) (zaz c3 (zaE (zbc ⟨1,rfl⟩ ⟨7,rfl⟩) (zaz c3 (zaE (zbc ⟨1,rfl⟩ ⟨9,rfl⟩) (zaz c3 (zaE (zbc ⟨1,rfl⟩ ⟨11,rfl⟩) (zaz c3 (zaE (zbc ⟨1,rfl⟩ ⟨13,rfl⟩) (zaz c3 (zaE (zbc ⟨1,rfl⟩ ⟨15,rfl⟩) (zaz c3 (zaE (zbc ⟨1,rfl⟩ ⟨17,rfl⟩) (zaz c3 (zaE (zbc ⟨1,rfl⟩ ⟨19,rfl⟩) (zaz c3 (zbc ⟨1,rfl⟩ ⟨21,rfl⟩)))))))))))))))))))))) F_impl_tiny))
theorem r_impl_ArcSeries (a0:Iv):Tb353.run B353 [enc a0] (Iv)=(t_impl_ArcSeries a0).opt:=by kernel_rfl
def zeF:Iv->Iv:=fun a0=>(t_impl_ArcSeries a0).get
theorem u_impl_ArcSeries (a0:Iv):(t_impl_ArcSeries a0).opt=some (zeF a0):=Tr.zR (by kernel_rfl)
def E_impl_ArcSeries:Ent Tryz.prog:= .of1 Tb353 B353 (fun _=>true) zeF fun a0 _=>(r_impl_ArcSeries a0).trans (u_impl_ArcSeries a0)
def B337:Bod Tryz.prog:=⟨337,Tryz.f337,Tryz.f337.body.getD .skip,Tryz.func337,by kernel_rfl,by kernel_rfl,zam.no _ _⟩
def Tb337:Tb Tryz.prog:= {T:= [Y2,Y30],mix:=mix,Es:= [zfm],Bs:= [],d:=1}
def t_impl_DoubleI (a0:Iv):Tr (Iv):=
 .leaf (zbF a0 a0)
theorem r_impl_DoubleI (a0:Iv):Tb337.run B337 [enc a0] (Iv)=(t_impl_DoubleI a0).opt:=by kernel_rfl
def zeO:Iv->Iv:=fun a0=>(t_impl_DoubleI a0).get
theorem u_impl_DoubleI (a0:Iv):(t_impl_DoubleI a0).opt=some (zeO a0):=Tr.zR (by kernel_rfl)
def E_impl_DoubleI:Ent Tryz.prog:= .of1 Tb337 B337 (fun _=>true) zeO fun a0 _=>(r_impl_DoubleI a0).trans (u_impl_DoubleI a0)
def B334:Bod Tryz.prog:=⟨334,Tryz.f334,Tryz.f334.body.getD .skip,Tryz.func334,by kernel_rfl,by kernel_rfl,zam.no _ _⟩
def Tb334:Tb Tryz.prog:= {T:= [Y2,Y30],mix:=mix,Es:= [E_impl_DoubleI,E_impl_ArcSeries,E_impl_halved],Bs:= [],d:=1}
def t_impl_fourfold (a0:Iv):Tr (Iv):=
 .leaf (zeO (zeO (zeF (zfH (zfH a0)))))
theorem r_impl_fourfold (a0:Iv):Tb334.run B334 [enc a0] (Iv)=(t_impl_fourfold a0).opt:=by kernel_rfl
def zcL:Iv->Iv:=fun a0=>(t_impl_fourfold a0).get
theorem u_impl_fourfold (a0:Iv):(t_impl_fourfold a0).opt=some (zcL a0):=Tr.zR (by kernel_rfl)
def E_impl_fourfold:Ent Tryz.prog:= .of1 Tb334 B334 (fun _=>true) zcL fun a0 _=>(r_impl_fourfold a0).trans (u_impl_fourfold a0)
def B297:Bod Tryz.prog:=⟨297,Tryz.f297,Tryz.f297.body.getD .skip,Tryz.func297,by kernel_rfl,by kernel_rfl,zam.no _ _⟩
def Tb297_p:Tb Tryz.prog:= {T:= [Y2,Y30],mix:=mix,Es:= [E_impl_Integer,E_impl_SubI,E_impl_DivI,E_impl_at,zfK,E_impl_isOpen,E_impl_halfCircle,E_impl_fourfold],Bs:= [],d:=1}
def zfa (a0:I64):Tr (Iv):=
 .br (!(zet a0)) (.leaf zb9) (.br (decide (a0.val<0)) (.bad) (.br (decide (a0.val>4294967296)) (.leaf (zaE (za5 ⟨1,rfl⟩) (zcL (zbi (zao ⟨1,rfl⟩) (zcb a0))))) (.leaf (zcL (zcb a0)))))
theorem r_impl_AtanAt_p (a0:I64):Tb297_p.run B297 [enc a0] (Iv)=(zfa a0).opt:=by kernel_rfl
def F_impl_AtanAt_p:I64->Iv:=fun a0=>(zfa a0).get
def G_impl_AtanAt_p:I64->Bool:=fun a0=>(zfa a0).opt.isSome
def E_impl_AtanAt_p:Ent Tryz.prog:= .of1 Tb297_p B297 G_impl_AtanAt_p F_impl_AtanAt_p fun a0 h=>(r_impl_AtanAt_p a0).trans (Tr.get_some h)
def Tb297:Tb Tryz.prog:= {T:= [Y2,Y30],mix:=mix,Es:= [E_impl_Integer,E_impl_SubI,E_impl_DivI,E_impl_NegI,E_impl_at,zfK,E_impl_isOpen,E_impl_halfCircle,E_impl_AtanAt_p,E_impl_fourfold],Bs:= [],d:=1}
def t_impl_AtanAt (a0:I64):Tr (Iv):=
 .br (!(zet a0)) (.leaf zb9) (.br (decide (a0.val<0)) (let c3:=(Rng.w .i64 (0-a0.val));.br (G_impl_AtanAt_p c3) (.leaf (zdR (F_impl_AtanAt_p c3))) (.bad)) (.br (decide (a0.val>4294967296)) (.leaf (zaE (za5 ⟨1,rfl⟩) (zcL (zbi (zao ⟨1,rfl⟩) (zcb a0))))) (.leaf (zcL (zcb a0)))))
theorem r_impl_AtanAt (a0:I64):Tb297.run B297 [enc a0] (Iv)=(t_impl_AtanAt a0).opt:=by kernel_rfl
def zeu:I64->Iv:=fun a0=>(t_impl_AtanAt a0).get
def Y40:TyE Tryz.prog:=⟨40,6,(.struct [(0,30,2),(2,30,2),(4,30,2)]),[.i64 ⟨0,rfl⟩,.i64 ⟨0,rfl⟩,.i64 ⟨0,rfl⟩,.i64 ⟨0,rfl⟩,.i64 ⟨0,rfl⟩,.i64 ⟨0,rfl⟩],false,by kernel_rfl,by kernel_rfl,by kernel_rfl,by kernel_rfl,by kernel_rfl,by kernel_rfl⟩
end
end Go.Proofs.YtfcjhkkpbnobhaaGreat.Ev
namespace Go.Proofs.YtfcjhkkpbnobhaaGreat.Ev
open Go
theorem quot_eq (a b:I64):zbc a b=zaO a b:=(q_F_impl a b).trans (q_F_spec a b).symm
theorem radians_eq (n:I64):zeE n=zaF n:=by
 have h:=rad_eq n
 have h2:=tt_rad_spec n
 have h1:=tt_rad_impl n
 rw [h.1,h2] at h1
 exact (Option.some.inj h1).symm
theorem cosI_eq (x:Iv):F_impl_CosI x=zdO x:=by simp only [F_impl_CosI,t_impl_CosI,zdO,t_spec_CosI,Tr.get,over_eq]
theorem sinI_eq (x:Iv):F_impl_SinI x=zdN x:=by simp only [F_impl_SinI,t_impl_SinI,zdN,t_spec_SinI,Tr.get,over_eq]
theorem double_eq (a:Iv):zeO a=zbX a:=by
 simp only [zeO,t_impl_DoubleI,zbX,t_spec_DoubleI,Tr.get,add_eq,zan,ze5]
 cases zn a
 ·rfl
 simp only [Bool.not_true,cond_false]
 have e1:a.lo.val+a.lo.val=2*a.lo.val:=by omega
 have e2:a.hi.val+a.hi.val=2*a.hi.val:=by omega
 rw [e1,e2]
theorem halve_eq (a:Iv):zfH a=zcH a:=by
 simp only [zfH,t_impl_halved,zcH,zeX,Tr.get,add_eq,divI_F,integer_eq,sqrtI_eq,sqrI_F]
theorem arcs_eq (a:Iv):zeF a=zcS a:=by
 simp only [zeF,t_impl_ArcSeries,zcS,zew,Tr.get,add_eq,sub_eq,mulI_F,sqrI_F,quot_eq,tiny_eq,inside_eq,zcw,zcW]
theorem core_eq (a:Iv):zcL a=zbW a:=by
 simp only [zcL,t_impl_fourfold,zbW,zfY,Tr.get,double_eq,arcs_eq,halve_eq]
theorem fix_eq (n:I64):zet n=zbf n:=rfl
theorem fix_iff (n:I64):zbf n=true↔(-1152921504606846976<n.val/\n.val<1152921504606846976):=by
 simp only [zbf,t_spec_l07Fix,Tr.get]
 by_cases h1:(-1152921504606846976:Int)<n.val<;>simp [h1]
theorem turn_in {k:I64} (h: -4096<=k.val) (h':k.val<=4096):zcd k=true/\zY k=zbk k:=by
 obtain ⟨x,h1,h2,h3⟩:=turn_ok k h h'
 have g:zcd k=true:=by unfold zcd;rw [h1];rfl
 have hi:zaJ k ⟨(-4096),rfl⟩ ⟨4096,rfl⟩=true:=by rw [zfQ];simpa using ⟨h,h'⟩
 exact ⟨g,by simp only [zY,ze0,Tr.get,hi,g,Bool.not_true,cond_false,cond_true]⟩
theorem half_eq:zb9=za6:=by
 obtain ⟨g,e⟩:=turn_in (k:=⟨1,rfl⟩) (by decide) (by decide)
 simp only [zb9,zft,za6,zfn,Tr.get,turnI_eq,e,g,cond_true]
theorem atanp_ok (n:I64) (h:¬n.val<0):(zd4 n).opt=some (zcK n)/\(zfa n).opt=some (zcK n):=by
 have hn:decide (n.val<0)=false:=by simpa using h
 simp only [zd4,zfa,zcK,Tr.opt,Tr.get,hn,cond_false,fix_eq,half_eq,sub_eq,turnI_eq,core_eq,divI_F,integer_eq,at_eq]
 cases zbf n<;>cases decide (n.val>4294967296)<;>exact ⟨rfl,rfl⟩
theorem atan_ok (n:I64):∃x,(zel n).opt=some x/\(t_impl_AtanAt n).opt=some x:=by
 simp only [zel,t_impl_AtanAt,Tr.opt,fix_eq,half_eq,sub_eq,turnI_eq,core_eq,divI_F,integer_eq,at_eq]
 cases hf:zbf n
 ·exact ⟨_,rfl,rfl⟩
 have hb:=(fix_iff n).1 hf
 by_cases hn:n.val<0
 ·have e1:(Rng.w .i64 (0-n.val)).val=0-n.val:=wi (by omega) (by omega)
  obtain ⟨a1,a2⟩:=atanp_ok (.w .i64 (0-n.val)) (by omega)
  have g1:zd9 (.w .i64 (0-n.val))=true:=by unfold zd9;rw [a1];rfl
  have g2:G_impl_AtanAt_p (.w .i64 (0-n.val))=true:=by unfold G_impl_AtanAt_p;rw [a2];rfl
  have f2:F_impl_AtanAt_p (.w .i64 (0-n.val))=zcK (.w .i64 (0-n.val)):=Tr.zaY a2
  simp only [hn,decide_true,cond_true,g1,g2,f2,neg_eq,Bool.not_true,cond_false]
  exact ⟨_,rfl,rfl⟩
 ·simp only [hn,decide_false,cond_false,Bool.not_true]
  cases decide (n.val>4294967296)<;>exact ⟨_,rfl,rfl⟩
theorem atan_eq (n:I64):zeu n=zcn n:=by
 obtain ⟨x,h1,h2⟩:=atan_ok n
 exact (Tr.zaY h2).trans (Tr.zaY h1).symm
theorem tt_atan_spec (n:I64):(zel n).opt=some (zcn n):=by obtain ⟨x,h1,_⟩:=atan_ok n;exact zep h1
theorem tt_atan_impl (n:I64):(t_impl_AtanAt n).opt=some (zeu n):=by obtain ⟨x,_,h1⟩:=atan_ok n;exact zep h1
end Go.Proofs.YtfcjhkkpbnobhaaGreat.Ev
namespace Go.Proofs.YtfcjhkkpbnobhaaGreat.Ev
open Go Go.RowKit
set_option maxRecDepth 100000
section
def ET_spec_AtanAt:Ent Tryz.prog:= .of1 Tb328 B328 (fun _=>true) zcn fun a0 _=>(r_spec_AtanAt a0).trans (tt_atan_spec a0)
def ET_impl_AtanAt:Ent Tryz.prog:= .of1 Tb297 B297 (fun _=>true) zeu fun a0 _=>(r_impl_AtanAt a0).trans (tt_atan_impl a0)
def B58:Bod Tryz.prog:=⟨58,Tryz.f58,Tryz.f58.body.getD .skip,Tryz.func58,by kernel_rfl,by kernel_rfl,zam.no _ _⟩
def Tb58:Tb Tryz.prog:= {T:= [Y2,Y30],mix:=mix,Es:= [zbd,zbL,zbo,E_spec_l04Ends],Bs:= [],d:=1}
def t_spec_AbsI (a0:Iv):Tr (Iv):=
 .br (!(zn a0)) (.leaf zA) (let c3:=zN a0;.leaf (zav c3.a c3.b))
theorem r_spec_AbsI (a0:Iv):Tb58.run B58 [enc a0] (Iv)=(t_spec_AbsI a0).opt:=by kernel_rfl
def zdP:Iv->Iv:=fun a0=>(t_spec_AbsI a0).get
theorem u_spec_AbsI (a0:Iv):(t_spec_AbsI a0).opt=some (zdP a0):=Tr.zR (by kernel_rfl)
def E_spec_AbsI:Ent Tryz.prog:= .of1 Tb58 B58 (fun _=>true) zdP fun a0 _=>(r_spec_AbsI a0).trans (u_spec_AbsI a0)
def B130:Bod Tryz.prog:=⟨130,Tryz.f130,Tryz.f130.body.getD .skip,Tryz.func130,by kernel_rfl,by kernel_rfl,zam.no _ _⟩
def Tb130:Tb Tryz.prog:= {T:= [Y30],mix:=mix,Es:= [zbo],Bs:= [],d:=1}
def t_spec_IsWhole (a0:Iv):Tr (Bool):=
 .leaf (!(zn a0))
theorem r_spec_IsWhole (a0:Iv):Tb130.run B130 [enc a0] (Bool)=(t_spec_IsWhole a0).opt:=by kernel_rfl
def zbm:Iv->Bool:=fun a0=>(t_spec_IsWhole a0).get
theorem u_spec_IsWhole (a0:Iv):(t_spec_IsWhole a0).opt=some (zbm a0):=Tr.zR (by kernel_rfl)
def E_spec_IsWhole:Ent Tryz.prog:= .of1 Tb130 B130 (fun _=>true) zbm fun a0 _=>(r_spec_IsWhole a0).trans (u_spec_IsWhole a0)
def B284:Bod Tryz.prog:=⟨284,Tryz.f284,Tryz.f284.body.getD .skip,Tryz.func284,by kernel_rfl,by kernel_rfl,zam.no _ _⟩
def Tb284:Tb Tryz.prog:= {T:= [Y2,Y30],mix:=mix,Es:= [E_spec_IsWhole,E_spec_HullI,E_spec_l07Quarter,ET_spec_AtanAt],Bs:= [],d:=1}
def t_spec_AtanI (a0:Iv):Tr (Iv):=
 .br (zbm a0) (.leaf za6) (.leaf (zZ (zcn a0.lo) (zcn a0.hi)))
theorem r_spec_AtanI (a0:Iv):Tb284.run B284 [enc a0] (Iv)=(t_spec_AtanI a0).opt:=by kernel_rfl
def zah:Iv->Iv:=fun a0=>(t_spec_AtanI a0).get
theorem u_spec_AtanI (a0:Iv):(t_spec_AtanI a0).opt=some (zah a0):=Tr.zR (by kernel_rfl)
def E_spec_AtanI:Ent Tryz.prog:= .of1 Tb284 B284 (fun _=>true) zah fun a0 _=>(r_spec_AtanI a0).trans (u_spec_AtanI a0)
def B236:Bod Tryz.prog:=⟨236,Tryz.f236,Tryz.f236.body.getD .skip,Tryz.func236,by kernel_rfl,by kernel_rfl,zam.no _ _⟩
def Tb236:Tb Tryz.prog:= {T:= [Y2,Y30],mix:=mix,Es:= [zce,E_impl_HullI,E_impl_halfCircle,ET_impl_AtanAt],Bs:= [],d:=1}
def t_impl_AtanI (a0:Iv):Tr (Iv):=
 .br (zau a0) (.leaf zb9) (.leaf (zay (zeu a0.lo) (zeu a0.hi)))
theorem r_impl_AtanI (a0:Iv):Tb236.run B236 [enc a0] (Iv)=(t_impl_AtanI a0).opt:=by kernel_rfl
def zcO:Iv->Iv:=fun a0=>(t_impl_AtanI a0).get
theorem u_impl_AtanI (a0:Iv):(t_impl_AtanI a0).opt=some (zcO a0):=Tr.zR (by kernel_rfl)
def E_impl_AtanI:Ent Tryz.prog:= .of1 Tb236 B236 (fun _=>true) zcO fun a0 _=>(r_impl_AtanI a0).trans (u_impl_AtanI a0)
def B18:Bod Tryz.prog:=⟨18,Tryz.f18,Tryz.f18.body.getD .skip,Tryz.func18,by kernel_rfl,by kernel_rfl,zam.no _ _⟩
def Tb18:Tb Tryz.prog:= {T:= [Y30],mix:=mix,Es:= [zbo,E_spec_l04Has],Bs:= [],d:=1}
def t_spec_HasI (a0:Iv) (a1:I64):Tr (Bool):=
 .br (!(zn a0)) (.leaf true) (.leaf (zaM a0 a1))
theorem r_spec_HasI (a0:Iv) (a1:I64):Tb18.run B18 [enc a0,enc a1] (Bool)=(t_spec_HasI a0 a1).opt:=by kernel_rfl
def zfi:Iv->I64->Bool:=fun a0 a1=>(t_spec_HasI a0 a1).get
theorem u_spec_HasI (a0:Iv) (a1:I64):(t_spec_HasI a0 a1).opt=some (zfi a0 a1):=Tr.zR (by kernel_rfl)
def E_spec_HasI:Ent Tryz.prog:= .of2 Tb18 B18 (fun _ _=>true) zfi fun a0 a1 _=>(r_spec_HasI a0 a1).trans (u_spec_HasI a0 a1)
def B214:Bod Tryz.prog:=⟨214,Tryz.f214,Tryz.f214.body.getD .skip,Tryz.func214,by kernel_rfl,by kernel_rfl,zam.no _ _⟩
def Tb214:Tb Tryz.prog:= {T:= [Y2,Y30],mix:=mix,Es:= [E_spec_AddI,ET_spec_TurnI,E_spec_SubI,zdH,E_spec_DivI,E_spec_l05At,E_spec_l07Fix,E_spec_AtanI],Bs:= [],d:=1}
def zeR (a0:I64) (a1:I64):Tr (Iv):=
 .br (!(zbf a0)) (.leaf zaP) (.br (!(zbf a1)) (.leaf zaP) (.br (a1.val==0) (.br (a0.val==0) (.leaf zaP) (.br (decide (a0.val<0)) (let c6:=(Rng.w .i64 (0-a0.val));.br (decide (c6.val>a1.val)) (.br (decide (c6.val>(Rng.w .i64 (0-a1.val)).val)) (.br (decide (a0.val<0)) (.leaf (zac (zY ⟨(-1),rfl⟩) (zah (zL (zB a1) (zB a0))))) (.leaf (zac (zY ⟨1,rfl⟩) (zah (zL (zB a1) (zB a0)))))) (.br (decide (a1.val>0)) (.leaf (zah (zL (zB a0) (zB a1)))) (.br (decide (a0.val<0)) (.leaf (zan (zah (zL (zB a0) (zB a1))) (zY ⟨(-2),rfl⟩))) (.leaf (zan (zah (zL (zB a0) (zB a1))) (zY ⟨2,rfl⟩)))))) (.br (decide (a1.val>0)) (.leaf (zah (zL (zB a0) (zB a1)))) (.br (decide (a0.val<0)) (.leaf (zan (zah (zL (zB a0) (zB a1))) (zY ⟨(-2),rfl⟩))) (.leaf (zan (zah (zL (zB a0) (zB a1))) (zY ⟨2,rfl⟩)))))) (.br (decide (a0.val>a1.val)) (.br (decide (a0.val>(Rng.w .i64 (0-a1.val)).val)) (.br (decide (a0.val<0)) (.leaf (zac (zY ⟨(-1),rfl⟩) (zah (zL (zB a1) (zB a0))))) (.leaf (zac (zY ⟨1,rfl⟩) (zah (zL (zB a1) (zB a0)))))) (.br (decide (a1.val>0)) (.leaf (zah (zL (zB a0) (zB a1)))) (.br (decide (a0.val<0)) (.leaf (zan (zah (zL (zB a0) (zB a1))) (zY ⟨(-2),rfl⟩))) (.leaf (zan (zah (zL (zB a0) (zB a1))) (zY ⟨2,rfl⟩)))))) (.br (decide (a1.val>0)) (.leaf (zah (zL (zB a0) (zB a1)))) (.br (decide (a0.val<0)) (.leaf (zan (zah (zL (zB a0) (zB a1))) (zY ⟨(-2),rfl⟩))) (.leaf (zan (zah (zL (zB a0) (zB a1))) (zY ⟨2,rfl⟩)))))))) (.br (decide (a0.val<0)) (let c101:=(Rng.w .i64 (0-a0.val));.br (decide (c101.val>a1.val)) (.br (decide (c101.val>(Rng.w .i64 (0-a1.val)).val)) (.br (decide (a0.val<0)) (.leaf (zac (zY ⟨(-1),rfl⟩) (zah (zL (zB a1) (zB a0))))) (.leaf (zac (zY ⟨1,rfl⟩) (zah (zL (zB a1) (zB a0)))))) (.br (decide (a1.val>0)) (.leaf (zah (zL (zB a0) (zB a1)))) (.br (decide (a0.val<0)) (.leaf (zan (zah (zL (zB a0) (zB a1))) (zY ⟨(-2),rfl⟩))) (.leaf (zan (zah (zL (zB a0) (zB a1))) (zY ⟨2,rfl⟩)))))) (.br (decide (a1.val>0)) (.leaf (zah (zL (zB a0) (zB a1)))) (.br (decide (a0.val<0)) (.leaf (zan (zah (zL (zB a0) (zB a1))) (zY ⟨(-2),rfl⟩))) (.leaf (zan (zah (zL (zB a0) (zB a1))) (zY ⟨2,rfl⟩)))))) (.br (decide (a0.val>a1.val)) (.br (decide (a0.val>(Rng.w .i64 (0-a1.val)).val)) (.br (decide (a0.val<0)) (.leaf (zac (zY ⟨(-1),rfl⟩) (zah (zL (zB a1) (zB a0))))) (.leaf (zac (zY ⟨1,rfl⟩) (zah (zL (zB a1) (zB a0)))))) (.br (decide (a1.val>0)) (.leaf (zah (zL (zB a0) (zB a1)))) (.br (decide (a0.val<0)) (.leaf (zan (zah (zL (zB a0) (zB a1))) (zY ⟨(-2),rfl⟩))) (.leaf (zan (zah (zL (zB a0) (zB a1))) (zY ⟨2,rfl⟩)))))) (.br (decide (a1.val>0)) (.leaf (zah (zL (zB a0) (zB a1)))) (.br (decide (a0.val<0)) (.leaf (zan (zah (zL (zB a0) (zB a1))) (zY ⟨(-2),rfl⟩))) (.leaf (zan (zah (zL (zB a0) (zB a1))) (zY ⟨2,rfl⟩)))))))))
theorem r_spec_DirectionAt (a0:I64) (a1:I64):Tb214.run B214 [enc a0,enc a1] (Iv)=(zeR a0 a1).opt:=by kernel_rfl
def zP:I64->I64->Iv:=fun a0 a1=>(zeR a0 a1).get
theorem u_spec_DirectionAt (a0:I64) (a1:I64):(zeR a0 a1).opt=some (zP a0 a1):=Tr.zR (by kernel_rfl)
def E_spec_DirectionAt:Ent Tryz.prog:= .of2 Tb214 B214 (fun _ _=>true) zP fun a0 a1 _=>(r_spec_DirectionAt a0 a1).trans (u_spec_DirectionAt a0 a1)
def B131:Bod Tryz.prog:=⟨131,Tryz.f131,Tryz.f131.body.getD .skip,Tryz.func131,by kernel_rfl,by kernel_rfl,zam.no _ _⟩
def Tb131:Tb Tryz.prog:= {T:= [Y2,Y30],mix:=mix,Es:= [E_spec_HasI,E_spec_IsWhole,zdH,E_spec_HullI,E_spec_DirectionAt],Bs:= [],d:=1}
def zd3 (a0:Iv) (a1:Iv):Tr (Iv):=
 .br (zbm a0) (.leaf zaP) (.br (zbm a1) (.leaf zaP) (.br (zfi a0 ⟨0,rfl⟩) (.br (zfi a1 ⟨0,rfl⟩) (.leaf zaP) (.br (decide (a1.lo.val<0)) (.br (decide (a0.lo.val<0)) (.br (decide (a0.hi.val>=0)) (.leaf zaP) (.leaf (zZ (zZ (zP a0.lo a1.lo) (zP a0.lo a1.hi)) (zZ (zP a0.hi a1.lo) (zP a0.hi a1.hi))))) (.leaf (zZ (zZ (zP a0.lo a1.lo) (zP a0.lo a1.hi)) (zZ (zP a0.hi a1.lo) (zP a0.hi a1.hi))))) (.leaf (zZ (zZ (zP a0.lo a1.lo) (zP a0.lo a1.hi)) (zZ (zP a0.hi a1.lo) (zP a0.hi a1.hi)))))) (.br (decide (a1.lo.val<0)) (.br (decide (a0.lo.val<0)) (.br (decide (a0.hi.val>=0)) (.leaf zaP) (.leaf (zZ (zZ (zP a0.lo a1.lo) (zP a0.lo a1.hi)) (zZ (zP a0.hi a1.lo) (zP a0.hi a1.hi))))) (.leaf (zZ (zZ (zP a0.lo a1.lo) (zP a0.lo a1.hi)) (zZ (zP a0.hi a1.lo) (zP a0.hi a1.hi))))) (.leaf (zZ (zZ (zP a0.lo a1.lo) (zP a0.lo a1.hi)) (zZ (zP a0.hi a1.lo) (zP a0.hi a1.hi)))))))
theorem r_spec_DirectionI (a0:Iv) (a1:Iv):Tb131.run B131 [enc a0,enc a1] (Iv)=(zd3 a0 a1).opt:=by kernel_rfl
def zb8:Iv->Iv->Iv:=fun a0 a1=>(zd3 a0 a1).get
theorem u_spec_DirectionI (a0:Iv) (a1:Iv):(zd3 a0 a1).opt=some (zb8 a0 a1):=Tr.zR (by kernel_rfl)
def E_spec_DirectionI:Ent Tryz.prog:= .of2 Tb131 B131 (fun _ _=>true) zb8 fun a0 a1 _=>(r_spec_DirectionI a0 a1).trans (u_spec_DirectionI a0 a1)
def B176:Bod Tryz.prog:=⟨176,Tryz.f176,Tryz.f176.body.getD .skip,Tryz.func176,by kernel_rfl,by kernel_rfl,zam.no _ _⟩
def Tb176:Tb Tryz.prog:= {T:= [Y2,Y30],mix:=mix,Es:= [zfm,E_impl_SubI,E_impl_DivI,zaR,E_impl_abs,E_impl_at,E_impl_AtanI,zfK,E_impl_isOpen],Bs:= [],d:=1}
def zdD (a0:I64) (a1:I64):Tr (Iv):=
 .br (!(zet a0)) (.leaf zT) (.br (!(zet a1)) (.leaf zT) (.br (a0.val==0) (.br (a1.val==0) (.leaf zT) (.br (decide ((zbp a0).val>(zbp a1).val)) (.br (decide (a0.val<0)) (.leaf (zaE (za5 ⟨(-1),rfl⟩) (zcO (zbi (zcb a1) (zcb a0))))) (.leaf (zaE (za5 ⟨1,rfl⟩) (zcO (zbi (zcb a1) (zcb a0)))))) (let c24:=zcO (zbi (zcb a0) (zcb a1));.br (decide (a1.val>0)) (.leaf c24) (.br (decide (a0.val<0)) (.leaf (zbF c24 (za5 ⟨(-2),rfl⟩))) (.leaf (zbF c24 (za5 ⟨2,rfl⟩))))))) (.br (decide ((zbp a0).val>(zbp a1).val)) (.br (decide (a0.val<0)) (.leaf (zaE (za5 ⟨(-1),rfl⟩) (zcO (zbi (zcb a1) (zcb a0))))) (.leaf (zaE (za5 ⟨1,rfl⟩) (zcO (zbi (zcb a1) (zcb a0)))))) (let c47:=zcO (zbi (zcb a0) (zcb a1));.br (decide (a1.val>0)) (.leaf c47) (.br (decide (a0.val<0)) (.leaf (zbF c47 (za5 ⟨(-2),rfl⟩))) (.leaf (zbF c47 (za5 ⟨2,rfl⟩))))))))
theorem r_impl_DirectionAt (a0:I64) (a1:I64):Tb176.run B176 [enc a0,enc a1] (Iv)=(zdD a0 a1).opt:=by kernel_rfl
def z8:I64->I64->Iv:=fun a0 a1=>(zdD a0 a1).get
theorem u_impl_DirectionAt (a0:I64) (a1:I64):(zdD a0 a1).opt=some (z8 a0 a1):=Tr.zR (by kernel_rfl)
def E_impl_DirectionAt:Ent Tryz.prog:= .of2 Tb176 B176 (fun _ _=>true) z8 fun a0 a1 _=>(r_impl_DirectionAt a0 a1).trans (u_impl_DirectionAt a0 a1)
def B84:Bod Tryz.prog:=⟨84,Tryz.f84,Tryz.f84.body.getD .skip,Tryz.func84,by kernel_rfl,by kernel_rfl,zam.no _ _⟩
def Tb84:Tb Tryz.prog:= {T:= [Y2,Y30],mix:=mix,Es:= [zdg,zaR,E_impl_HasI,E_impl_HullI,E_impl_DirectionAt],Bs:= [],d:=1}
def zfw (a0:Iv) (a1:Iv):Tr (Iv):=
 .br (!(zbu a0 a1)) (.leaf zT) (.br (zdT a0 ⟨0,rfl⟩) (.br (zdT a1 ⟨0,rfl⟩) (.leaf zT) (.br (decide (a1.lo.val<0)) (.br (decide (a0.lo.val<0)) (.br (decide (a0.hi.val>=0)) (.leaf zT) (.leaf (zay (zay (z8 a0.lo a1.lo) (z8 a0.lo a1.hi)) (zay (z8 a0.hi a1.lo) (z8 a0.hi a1.hi))))) (.leaf (zay (zay (z8 a0.lo a1.lo) (z8 a0.lo a1.hi)) (zay (z8 a0.hi a1.lo) (z8 a0.hi a1.hi))))) (.leaf (zay (zay (z8 a0.lo a1.lo) (z8 a0.lo a1.hi)) (zay (z8 a0.hi a1.lo) (z8 a0.hi a1.hi)))))) (.br (decide (a1.lo.val<0)) (.br (decide (a0.lo.val<0)) (.br (decide (a0.hi.val>=0)) (.leaf zT) (.leaf (zay (zay (z8 a0.lo a1.lo) (z8 a0.lo a1.hi)) (zay (z8 a0.hi a1.lo) (z8 a0.hi a1.hi))))) (.leaf (zay (zay (z8 a0.lo a1.lo) (z8 a0.lo a1.hi)) (zay (z8 a0.hi a1.lo) (z8 a0.hi a1.hi))))) (.leaf (zay (zay (z8 a0.lo a1.lo) (z8 a0.lo a1.hi)) (zay (z8 a0.hi a1.lo) (z8 a0.hi a1.hi))))))
theorem r_impl_DirectionI (a0:Iv) (a1:Iv):Tb84.run B84 [enc a0,enc a1] (Iv)=(zfw a0 a1).opt:=by kernel_rfl
def zed:Iv->Iv->Iv:=fun a0 a1=>(zfw a0 a1).get
theorem u_impl_DirectionI (a0:Iv) (a1:Iv):(zfw a0 a1).opt=some (zed a0 a1):=Tr.zR (by kernel_rfl)
def E_impl_DirectionI:Ent Tryz.prog:= .of2 Tb84 B84 (fun _ _=>true) zed fun a0 a1 _=>(r_impl_DirectionI a0 a1).trans (u_impl_DirectionI a0 a1)
def B266:Bod Tryz.prog:=⟨266,Tryz.f266,Tryz.f266.body.getD .skip,Tryz.func266,by kernel_rfl,by kernel_rfl,zam.no _ _⟩
def Tb266:Tb Tryz.prog:= {T:= [Y2,Y30],mix:=mix,Es:= [E_spec_AbsI],Bs:= [],d:=1}
def t_spec_l10Ends (a0:Iv):Tr (T2 I64 I64):=
 let c1:=zdP a0;.leaf ⟨c1.lo,c1.hi⟩
theorem r_spec_l10Ends (a0:Iv):Tb266.run B266 [enc a0] (T2 I64 I64)=(t_spec_l10Ends a0).opt:=by kernel_rfl
def zc5:Iv->T2 I64 I64:=fun a0=>(t_spec_l10Ends a0).get
theorem u_spec_l10Ends (a0:Iv):(t_spec_l10Ends a0).opt=some (zc5 a0):=Tr.zR (by kernel_rfl)
def E_spec_l10Ends:Ent Tryz.prog:= .of1 Tb266 B266 (fun _=>true) zc5 fun a0 _=>(r_spec_l10Ends a0).trans (u_spec_l10Ends a0)
def B268:Bod Tryz.prog:=⟨268,Tryz.f268,Tryz.f268.body.getD .skip,Tryz.func268,by kernel_rfl,by kernel_rfl,zam.no _ _⟩
def Tb268:Tb Tryz.prog:= {T:= [Y2,Y132,Y148],mix:=mix,Es:= [E_spec_l02Mul,E_spec_l02Plus],Bs:= [],d:=1}
def t_spec_l10Sum (a0:I64) (a1:I64) (a2:I64):Tr (Wide):=
 .leaf (zbK (zbK (zck a0 a0) (zck a1 a1)) (zck a2 a2))
theorem r_spec_l10Sum (a0:I64) (a1:I64) (a2:I64):Tb268.run B268 [enc a0,enc a1,enc a2] (Wide)=(t_spec_l10Sum a0 a1 a2).opt:=by kernel_rfl
def zfE:I64->I64->I64->Wide:=fun a0 a1 a2=>(t_spec_l10Sum a0 a1 a2).get
theorem u_spec_l10Sum (a0:I64) (a1:I64) (a2:I64):(t_spec_l10Sum a0 a1 a2).opt=some (zfE a0 a1 a2):=Tr.zR (by kernel_rfl)
def E_spec_l10Sum:Ent Tryz.prog:= .of3 Tb268 B268 (fun _ _ _=>true) zfE fun a0 a1 a2 _=>(r_spec_l10Sum a0 a1 a2).trans (u_spec_l10Sum a0 a1 a2)
def B186:Bod Tryz.prog:=⟨186,Tryz.f186,Tryz.f186.body.getD .skip,Tryz.func186,by kernel_rfl,by kernel_rfl,zam.no _ _⟩
def Tb186:Tb Tryz.prog:= {T:= [Y2,Y30,Y40,Y132,Y148],mix:=mix,Es:= [E_spec_IsWhole,zdH,E_spec_l02Mul,E_spec_l10Ends,ET_spec_l02Root,E_spec_l10Sum],Bs:= [],d:=1}
def t_spec_NormV (a0:Vec):Tr (Iv):=
 .br (zbm a0.x) (.leaf zaP) (.br (zbm a0.y) (.leaf zaP) (.br (zbm a0.z) (.leaf zaP) (let c7:=zc5 a0.x;let c8:=zc5 a0.y;let c9:=zc5 a0.z;let c11:=zF (zfE c7.a c8.a c9.a);let c12:=zfE c7.b c8.b c9.b;let c13:=zF c12;let c14:=zck (Rng.w .i64 (c13.val)) (Rng.w .i64 (c13.val));.br (!((c14.hi.val==c12.hi.val)&&((c14.lo.val==c12.lo.val)&&true))) (let c16:=(Rng.w .i64 ((Rng.w .i64 (c13.val)).val+1));.br (decide (c16.val>=1152921504606846976)) (.leaf zaP) (.leaf ⟨(Rng.w .i64 (c11.val)),c16⟩)) (.br (decide ((Rng.w .i64 (c13.val)).val>=1152921504606846976)) (.leaf zaP) (.leaf ⟨(Rng.w .i64 (c11.val)),(Rng.w .i64 (c13.val))⟩)))))
theorem r_spec_NormV (a0:Vec):Tb186.run B186 [enc a0] (Iv)=(t_spec_NormV a0).opt:=by kernel_rfl
def zbE:Vec->Iv:=fun a0=>(t_spec_NormV a0).get
theorem u_spec_NormV (a0:Vec):(t_spec_NormV a0).opt=some (zbE a0):=Tr.zR (by kernel_rfl)
def E_spec_NormV:Ent Tryz.prog:= .of1 Tb186 B186 (fun _=>true) zbE fun a0 _=>(r_spec_NormV a0).trans (u_spec_NormV a0)
def B256:Bod Tryz.prog:=⟨256,Tryz.f256,Tryz.f256.body.getD .skip,Tryz.func256,by kernel_rfl,by kernel_rfl,zam.no _ _⟩
def Tb256:Tb Tryz.prog:= {T:= [Y2,Y132,Y148],mix:=mix,Es:= [E_math_bits_Add64],Bs:= [],d:=1}
def zdL (a0:Wide) (a1:Wide):Tr (T2 Wide Bool):=
 let c1:=zaH a0.lo a1.lo ⟨0,rfl⟩;.br (G_carry (Rng.w .u64 (a0.hi.val)) (Rng.w .u64 (a1.hi.val)) c1.b) (let c2:=zaH (Rng.w .u64 (a0.hi.val)) (Rng.w .u64 (a1.hi.val)) c1.b;.br (decide ((Rng.w .i64 (zbe .and .i64 (Rng.w .i64 (zbe .xor .i64 a0.hi.val (Rng.w .i64 (c2.a.val)).val)).val (Rng.w .i64 (zbe .xor .i64 a1.hi.val (Rng.w .i64 (c2.a.val)).val)).val)).val<0)) (.leaf ⟨⟨⟨0,rfl⟩,⟨0,rfl⟩⟩,false⟩) (.leaf ⟨⟨(Rng.w .i64 (c2.a.val)),c1.a⟩,true⟩)) (.bad)
theorem r_impl_WideAdd (a0:Wide) (a1:Wide):Tb256.run B256 [enc a0,enc a1] (T2 Wide Bool)=(zdL a0 a1).opt:=by kernel_rfl
def F_impl_WideAdd:Wide->Wide->T2 Wide Bool:=fun a0 a1=>(zdL a0 a1).get
def zdM:Wide->Wide->Bool:=fun a0 a1=>(zdL a0 a1).opt.isSome
def E_impl_WideAdd:Ent Tryz.prog:= .of2 Tb256 B256 zdM F_impl_WideAdd fun a0 a1 h=>(r_impl_WideAdd a0 a1).trans (Tr.get_some h)
def B177:Bod Tryz.prog:=⟨177,Tryz.f177,Tryz.f177.body.getD .skip,Tryz.func177,by kernel_rfl,by kernel_rfl,zam.no _ _⟩
def Tb177:Tb Tryz.prog:= {T:= [Y2,Y132,Y148],mix:=mix,Es:= [E_impl_WideAdd,zeP,ET_impl_WideSqrt],Bs:= [],d:=1}
def zcU (a0:I64) (a1:I64) (a2:I64):Tr (T2 I64 I64):=
 let c1:=zbn a0 a0;let c2:=zbn a1 a1;.br (zdM c1 c2) (let c3:=F_impl_WideAdd c1 c2;let c4:=zbn a2 a2;.br (zdM c3.a c4) (let c5:=F_impl_WideAdd c3.a c4;let c6:=zcM c5.a;let c7:=zbn (Rng.w .i64 (c6.a.val)) (Rng.w .i64 (c6.a.val));.br (!((c7.hi.val==c5.a.hi.val)&&((c7.lo.val==c5.a.lo.val)&&true))) (.leaf ⟨(Rng.w .i64 (c6.a.val)),(Rng.w .i64 ((Rng.w .i64 (c6.a.val)).val+1))⟩) (.leaf ⟨(Rng.w .i64 (c6.a.val)),(Rng.w .i64 (c6.a.val))⟩)) (.bad)) (.bad)
theorem r_impl_rootOfSquares (a0:I64) (a1:I64) (a2:I64):Tb177.run B177 [enc a0,enc a1,enc a2] (T2 I64 I64)=(zcU a0 a1 a2).opt:=by kernel_rfl
def zcX:I64->I64->I64->T2 I64 I64:=fun a0 a1 a2=>(zcU a0 a1 a2).get
def zbR:I64->I64->I64->Bool:=fun a0 a1 a2=>(zcU a0 a1 a2).opt.isSome
def E_impl_rootOfSquares:Ent Tryz.prog:= .of3 Tb177 B177 zbR zcX fun a0 a1 a2 h=>(r_impl_rootOfSquares a0 a1 a2).trans (Tr.get_some h)
def B85:Bod Tryz.prog:=⟨85,Tryz.f85,Tryz.f85.body.getD .skip,Tryz.func85,by kernel_rfl,by kernel_rfl,zam.no _ _⟩
def Tb85:Tb Tryz.prog:= {T:= [Y2,Y30,Y40],mix:=mix,Es:= [zce,E_impl_AbsI,zdg,zaR,zdb,E_impl_rootOfSquares],Bs:= [],d:=1}
def t_impl_NormV (a0:Vec):Tr (Iv):=
 .br (!(zbu a0.x a0.y)) (.leaf zT) (.br (zau a0.z) (.leaf zT) (let c5:=zdU a0.x;let c6:=zdU a0.y;let c7:=zdU a0.z;.br (zbR c5.lo c6.lo c7.lo) (.br (zbR c5.hi c6.hi c7.hi) (.leaf (za4 (zcX c5.lo c6.lo c7.lo).a (zcX c5.hi c6.hi c7.hi).b true)) (.bad)) (.bad)))
theorem r_impl_NormV (a0:Vec):Tb85.run B85 [enc a0] (Iv)=(t_impl_NormV a0).opt:=by kernel_rfl
def F_impl_NormV:Vec->Iv:=fun a0=>(t_impl_NormV a0).get
def B17:Bod Tryz.prog:=⟨17,Tryz.f17,Tryz.f17.body.getD .skip,Tryz.func17,by kernel_rfl,by kernel_rfl,zam.no _ _⟩
def Tb17:Tb Tryz.prog:= {T:= [Y2,Y30],mix:=mix,Es:= [zbo],Bs:= [],d:=1}
def t_spec_LessI (a0:Iv) (a1:Iv):Tr (I64):=
 .br (!(zn a0)) (.leaf ⟨2,rfl⟩) (.br (!(zn a1)) (.leaf ⟨2,rfl⟩) (.br (decide (a0.hi.val<a1.lo.val)) (.leaf ⟨1,rfl⟩) (.br (decide (a0.lo.val>=a1.hi.val)) (.leaf ⟨0,rfl⟩) (.leaf ⟨2,rfl⟩))))
theorem r_spec_LessI (a0:Iv) (a1:Iv):Tb17.run B17 [enc a0,enc a1] (I64)=(t_spec_LessI a0 a1).opt:=by kernel_rfl
def zdG:Iv->Iv->I64:=fun a0 a1=>(t_spec_LessI a0 a1).get
theorem u_spec_LessI (a0:Iv) (a1:Iv):(t_spec_LessI a0 a1).opt=some (zdG a0 a1):=Tr.zR (by kernel_rfl)
structure S_spec_LogAt_5 where
 x0:I64
 x1:I64
 x2:I64
 x3:I64
 x4:I64
 x5:I64
instance:Inhabited S_spec_LogAt_5:=⟨⟨default,default,default,default,default,default⟩⟩
structure S_spec_LogAt_8 where
 x0:I64
 x1:I64
 x2:I64
 x3:I64
 x4:I64
 x5:I64
instance:Inhabited S_spec_LogAt_8:=⟨⟨default,default,default,default,default,default⟩⟩
structure S_impl_twosOf_2 where
 x0:I64
 x1:I64
instance:Inhabited S_impl_twosOf_2:=⟨⟨default,default⟩⟩
structure S_impl_twosOf_4 where
 x0:I64
 x1:I64
instance:Inhabited S_impl_twosOf_4:=⟨⟨default,default⟩⟩
end
end Go.Proofs.YtfcjhkkpbnobhaaGreat.Ev
namespace Go.Proofs.YtfcjhkkpbnobhaaGreat.Ev
open Go
theorem ctr {α:Type} (a b:α):(bif true then a else b)=a:=by simp
theorem cfl {α:Type} (a b:α):(bif false then a else b)=b:=by simp
theorem siw_eq (a:Iv):zbm a= !(zn a):=by simp only [zbm,t_spec_IsWhole,Tr.get]
theorem hasI_eq (a:Iv) (n:I64):zdT a n=zfi a n:=by
 simp only [zdT,t_impl_HasI,zfi,t_spec_HasI,zaM,zcf,Tr.get,isw_eq,zdA,zfQ]
theorem atanI_impl (a:Iv):zcO a=bif zau a then zb9 else zay (zeu a.lo) (zeu a.hi):=by
 simp only [zcO,t_impl_AtanI,Tr.get]
theorem atanI_spec (a:Iv):zah a=bif zbm a then za6 else zZ (zcn a.lo) (zcn a.hi):=by
 simp only [zah,t_spec_AtanI,Tr.get]
theorem atanI_eq (a:Iv):zcO a=zah a:=by
 rw [atanI_impl,atanI_spec,isw_eq,siw_eq,half_eq,atan_eq,atan_eq,hull_eq]
theorem dirAt_eq (y x:I64):z8 y x=zP y x:=by
 simp only [z8,zdD,zP,zeR,Tr.get]
 simp only [fix_eq,atanI_eq,divI_F,at_eq,sub_eq,add_eq,turnI_eq,zcw,zcW]
 cases hy:zbf y
 ·rfl
 cases hx:zbf x
 ·rfl
 have by':=(fix_iff y).1 hy
 have bx:=(fix_iff x).1 hx
 have ey:(Rng.w .i64 (0-y.val)).val= -y.val:=by rw [wi (by omega) (by omega)];omega
 have ex:(Rng.w .i64 (0-x.val)).val= -x.val:=by rw [wi (by omega) (by omega)];omega
 have ay:=abs_val y (by omega)
 have ax:=abs_val x (by omega)
 simp only [Bool.not_true,cond_false,ey,ex]
 by_cases hn:y.val<0
 ·have hA:decide ((zbp y).val>(zbp x).val)=(decide (-y.val>x.val)&&decide (-y.val > -x.val)):=by
   rw [ay,ax,if_pos hn,<- Bool.decide_and,decide_eq_decide]
   split<;>omega
  simp only [hn,decide_true,cond_true,hA]
  generalize decide (-y.val>x.val)=b1
  generalize decide (-y.val > -x.val)=b2
  generalize decide (x.val>0)=b3
  generalize (x.val==0)=b4
  generalize (y.val==0)=b5
  cases b1<;>cases b2<;>cases b3<;>cases b4<;>cases b5<;>simp only [ctr,cfl,Bool.and_self,Bool.and_false,Bool.and_true,Bool.false_and,Bool.true_and]
 ·have hA:decide ((zbp y).val>(zbp x).val)=(decide (y.val>x.val)&&decide (y.val > -x.val)):=by
   rw [ay,ax,if_neg hn,<- Bool.decide_and,decide_eq_decide]
   split<;>omega
  simp only [hn,decide_false,cond_false,hA]
  generalize decide (y.val>x.val)=b1
  generalize decide (y.val > -x.val)=b2
  generalize decide (x.val>0)=b3
  generalize (x.val==0)=b4
  generalize (y.val==0)=b5
  cases b1<;>cases b2<;>cases b3<;>cases b4<;>cases b5<;>simp only [ctr,cfl,Bool.and_self,Bool.and_false,Bool.and_true,Bool.false_and,Bool.true_and]
theorem dirI_eq (y x:Iv):zed y x=zb8 y x:=by
 simp only [zed,zfw,zb8,zd3,Tr.get]
 simp only [areb_eq,siw_eq,hasI_eq,dirAt_eq,hull_eq,zcw,zcW]
 cases zn y<;>cases zn x<;>simp only [ctr,cfl,Bool.and_self,Bool.and_false,Bool.and_true,Bool.false_and,Bool.true_and,Bool.not_true,Bool.not_false]
theorem abs_ends {a:Iv} (h:zn a=true):zdU a=⟨(zN a).a,(zN a).b⟩:=by
 simp only [zdU,t_impl_AbsI,zN,zc2,Tr.get,isw_eq,h,Bool.not_true,cond_false,has_eq a _ h,max_eq,min_eq,zbp,t_impl_abs]
 cases zaM a ⟨0,rfl⟩<;>rfl
theorem abs_make {a:Iv} (h:zn a=true):zdP a=⟨(zN a).a,(zN a).b⟩:=by
 simp only [zdP,t_spec_AbsI,Tr.get,h,Bool.not_true,cond_false]
 obtain ⟨p,q,e,h1,h2,h3⟩:=ends_val h
 have:=(zb5 a).1 h
 rw [e]
 exact zc0 (by simp only;omega)
theorem ends_eq (a:Iv):zc5 a=⟨(zdP a).lo,(zdP a).hi⟩:=rfl
theorem plus_spec (a b:Wide) (h: -170141183460469231731687303715884105728<=wv a+wv b/\wv a+wv b<170141183460469231731687303715884105728):zbK a b=mkW (wv a+wv b):=by
 have ba:=a.lo.ubd;have bb:=b.lo.ubd
 have ha:=a.hi.bd;have hb:=b.hi.bd
 apply mkW_eq
 simp only [wv] at h
 simp only [zbK,zeH,Tr.get]
 have e2:(Rng.w .u64 (a.lo.val+b.lo.val)).val=(a.lo.val+b.lo.val)%18446744073709551616:=zba _
 simp only [e2]
 by_cases hc:(a.lo.val+b.lo.val)%18446744073709551616<a.lo.val
 ·simp only [hc,decide_true,cond_true,wv,e2]
  rw [zd0,zd0]
  omega
 ·simp only [hc,decide_false,cond_false,wv,e2]
  rw [zd0]
  omega
theorem xor_pos {a b:Int} (ha:0<=a/\a<=9223372036854775807) (hb:0<=b/\b<=9223372036854775807):0<=(Rng.w .i64 (zbe .xor .i64 a b)).val/\(Rng.w .i64 (zbe .xor .i64 a b)).val<=9223372036854775807:=by
 have e:zbe .xor .i64 a b=((BitVec.ofInt 64 a ^^^ BitVec.ofInt 64 b).toNat:Int):=rfl
 have h1:(BitVec.ofInt 64 a).toNat<2^63:=by rw [bv_toNat ha.1 (by omega)];omega
 have h2:(BitVec.ofInt 64 b).toNat<2^63:=by rw [bv_toNat hb.1 (by omega)];omega
 have h3:(BitVec.ofInt 64 a ^^^ BitVec.ofInt 64 b).toNat<2^63:=by rw [BitVec.toNat_xor];exact Nat.xor_lt_two_pow h1 h2
 rw [e,wi (by omega) (by omega)];omega
theorem and_pos {a b:Int} (ha:0<=a/\a<=9223372036854775807) (hb:0<=b/\b<=9223372036854775807):0<=(Rng.w .i64 (zbe .and .i64 a b)).val:=by
 have e:zbe .and .i64 a b=((BitVec.ofInt 64 a &&& BitVec.ofInt 64 b).toNat:Int):=rfl
 have h2:(BitVec.ofInt 64 b).toNat<2^63:=by rw [bv_toNat hb.1 (by omega)];omega
 have h3:(BitVec.ofInt 64 a &&& BitVec.ofInt 64 b).toNat<2^63:=by rw [BitVec.toNat_and];exact Nat.lt_of_le_of_lt Nat.and_le_right h2
 rw [e,wi (by omega) (by omega)];omega
theorem add_impl (a b:Wide) (ha:0<=wv a) (hb:0<=wv b) (h:wv a+wv b<170141183460469231731687303715884105728):(zdL a b).opt=some ⟨mkW (wv a+wv b),true⟩:=by
 have ba:=a.lo.ubd;have bb:=b.lo.ubd
 have ha':=a.hi.bd;have hb':=b.hi.bd
 have hwv:wv a+wv b=(a.hi.val+b.hi.val)*18446744073709551616+(a.lo.val+b.lo.val):=by simp only [wv];omega
 have pa:0<=a.hi.val:=by simp only [wv] at ha;omega
 have pb:0<=b.hi.val:=by simp only [wv] at hb;omega
 have ec:(zaH a.lo b.lo ⟨0,rfl⟩).b.val=(a.lo.val+b.lo.val)/18446744073709551616:=by
  simp only [zaH];rw [wu (by omega) (by omega)];omega
 have hg:G_carry (Rng.w .u64 a.hi.val) (Rng.w .u64 b.hi.val) (zaH a.lo b.lo ⟨0,rfl⟩).b=true:=by simp only [G_carry,ec];simp;omega
 have ea:(Rng.w .u64 a.hi.val).val=a.hi.val:=wu pa (by omega)
 have eb:(Rng.w .u64 b.hi.val).val=b.hi.val:=wu pb (by omega)
 have e2:(zaH (Rng.w .u64 a.hi.val) (Rng.w .u64 b.hi.val) (zaH a.lo b.lo ⟨0,rfl⟩).b).a.val=a.hi.val+b.hi.val+(a.lo.val+b.lo.val)/18446744073709551616:=by
  show (Rng.w .u64 _).val=_
  rw [ea,eb,ec,wu (by omega) (by omega)]
 have hlt:a.hi.val+b.hi.val+(a.lo.val+b.lo.val)/18446744073709551616<=9223372036854775807:=by omega
 have e3:(Rng.w .i64 (zaH (Rng.w .u64 a.hi.val) (Rng.w .u64 b.hi.val) (zaH a.lo b.lo ⟨0,rfl⟩).b).a.val).val=a.hi.val+b.hi.val+(a.lo.val+b.lo.val)/18446744073709551616:=by
  rw [e2,wi (by omega) hlt]
 have e1:(zaH a.lo b.lo ⟨0,rfl⟩).a.val=(a.lo.val+b.lo.val)%18446744073709551616:=by
  simp only [zaH];rw [zba];omega
 simp only [zdL,Tr.opt,hg,cond_true,e3]
 have x1:=xor_pos (a:=a.hi.val) (b:=a.hi.val+b.hi.val+(a.lo.val+b.lo.val)/18446744073709551616) ⟨pa,by omega⟩ ⟨by omega,hlt⟩
 have x2:=xor_pos (a:=b.hi.val) (b:=a.hi.val+b.hi.val+(a.lo.val+b.lo.val)/18446744073709551616) ⟨pb,by omega⟩ ⟨by omega,hlt⟩
 have x3:=and_pos x1 x2
 rw [show decide ((Rng.w .i64 (zbe .and .i64 (Rng.w .i64 (zbe .xor .i64 a.hi.val (a.hi.val+b.hi.val+(a.lo.val+b.lo.val)/18446744073709551616))).val (Rng.w .i64 (zbe .xor .i64 b.hi.val (a.hi.val+b.hi.val+(a.lo.val+b.lo.val)/18446744073709551616))).val)).val<0)=false by simpa using x3]
 simp only [cond_false]
 congr 2
 apply mkW_eq
 simp only [wv,e3,e1]
 omega
theorem wsqrt_mk {v:Int} (h:0<=v) (h':v<170141183460469231731687303715884105728):zcM (mkW v)=⟨zF (mkW v),true⟩:=by
 refine wsqrt_eq _ ?_
 simp only [mkW];rw [wi (by omega) (by omega)];omega
theorem root_mk {v:Int} (h:0<=v) (h':v<170141183460469231731687303715884105728):0<=(zF (mkW v)).val/\(zF (mkW v)).val*(zF (mkW v)).val<=v/\v<((zF (mkW v)).val+1)*((zF (mkW v)).val+1):=by
 have:=root_val (mkW v) (by simp only [mkW];rw [wi (by omega) (by omega)];omega)
 rwa [wv_mkW (by omega) h'] at this
def sq3 (x y z:I64):Int:=x.val*x.val+y.val*y.val+z.val*z.val
theorem sum_spec {x y z:I64} (hx:0<=x.val/\x.val<=1152921504606846976) (hy:0<=y.val/\y.val<=1152921504606846976) (hz:0<=z.val/\z.val<=1152921504606846976):
  zfE x y z=mkW (sq3 x y z)/\0<=sq3 x y z/\sq3 x y z<=3987683987354747618711421180841033728 /\
  (zcU x y z).opt=some ⟨.w .i64 (zF (mkW (sq3 x y z))).val,bif !(((mkW ((Rng.w .i64 (zF (mkW (sq3 x y z))).val).val*(Rng.w .i64 (zF (mkW (sq3 x y z))).val).val)).hi.val==(mkW (sq3 x y z)).hi.val)&&(((mkW ((Rng.w .i64 (zF (mkW (sq3 x y z))).val).val*(Rng.w .i64 (zF (mkW (sq3 x y z))).val).val)).lo.val==(mkW (sq3 x y z)).lo.val)&&true)) then .w .i64 ((Rng.w .i64 (zF (mkW (sq3 x y z))).val).val+1) else .w .i64 (zF (mkW (sq3 x y z))).val⟩:=by
 have px:=Int.mul_nonneg hx.1 hx.1
 have py:=Int.mul_nonneg hy.1 hy.1
 have pz:=Int.mul_nonneg hz.1 hz.1
 have qx:x.val*x.val<=1152921504606846976*1152921504606846976:=Int.mul_le_mul hx.2 hx.2 hx.1 (by decide)
 have qy:y.val*y.val<=1152921504606846976*1152921504606846976:=Int.mul_le_mul hy.2 hy.2 hy.1 (by decide)
 have qz:z.val*z.val<=1152921504606846976*1152921504606846976:=Int.mul_le_mul hz.2 hz.2 hz.1 (by decide)
 have wx:=wv_mkW (v:=x.val*x.val) (by omega) (by omega)
 have wy:=wv_mkW (v:=y.val*y.val) (by omega) (by omega)
 have wz:=wv_mkW (v:=z.val*z.val) (by omega) (by omega)
 have wxy:=wv_mkW (v:=x.val*x.val+y.val*y.val) (by omega) (by omega)
 have s1:zbK (mkW (x.val*x.val)) (mkW (y.val*y.val))=mkW (x.val*x.val+y.val*y.val):=by rw [plus_spec _ _ (by rw [wx,wy];omega),wx,wy]
 have s2:zbK (mkW (x.val*x.val+y.val*y.val)) (mkW (z.val*z.val))=mkW (sq3 x y z):=by rw [plus_spec _ _ (by rw [wxy,wz];omega),wxy,wz];rfl
 have i1:(zdL (mkW (x.val*x.val)) (mkW (y.val*y.val))).opt=some ⟨mkW (x.val*x.val+y.val*y.val),true⟩:=by rw [add_impl _ _ (by omega) (by omega) (by rw [wx,wy];omega),wx,wy]
 have i2:(zdL (mkW (x.val*x.val+y.val*y.val)) (mkW (z.val*z.val))).opt=some ⟨mkW (sq3 x y z),true⟩:=by rw [add_impl _ _ (by omega) (by omega) (by rw [wxy,wz];omega),wxy,wz];rfl
 have g1:zdM (mkW (x.val*x.val)) (mkW (y.val*y.val))=true:=by unfold zdM;rw [i1];rfl
 have g2:zdM (mkW (x.val*x.val+y.val*y.val)) (mkW (z.val*z.val))=true:=by unfold zdM;rw [i2];rfl
 have f1:F_impl_WideAdd (mkW (x.val*x.val)) (mkW (y.val*y.val))=_:=Tr.zaY i1
 have f2:F_impl_WideAdd (mkW (x.val*x.val+y.val*y.val)) (mkW (z.val*z.val))=_:=Tr.zaY i2
 have hs:sq3 x y z=x.val*x.val+y.val*y.val+z.val*z.val:=rfl
 have h0:0<=sq3 x y z:=by omega
 have h1:sq3 x y z<=3987683987354747618711421180841033728:=by omega
 refine ⟨?_,h0,h1,?_⟩
 ·simp only [zfE,t_spec_l10Sum,Tr.get,mul_spec,s1,s2]
 ·simp only [zcU,Tr.opt,mul_impl,g1,f1,g2,f2,cond_true,wsqrt_mk h0 (by omega)]
  cases (!(((mkW ((Rng.w .i64 (zF (mkW (sq3 x y z))).val).val*(Rng.w .i64 (zF (mkW (sq3 x y z))).val).val)).hi.val==(mkW (sq3 x y z)).hi.val)&&(((mkW ((Rng.w .i64 (zF (mkW (sq3 x y z))).val).val*(Rng.w .i64 (zF (mkW (sq3 x y z))).val).val)).lo.val==(mkW (sq3 x y z)).lo.val)&&true)))<;>rfl
theorem sq_mono {a b:Int} (h:0<=a) (h':a<=b):a*a<=b*b:=Int.mul_le_mul h' h' h (by omega)
theorem norm_ok (v:Vec):(t_impl_NormV v).opt=some (zbE v):=by
 simp only [t_impl_NormV,Tr.opt,zbE,t_spec_NormV,Tr.get,areb_eq,isw_eq,siw_eq,zcw,zcW,ends_eq]
 cases hx:zn v.x
 ·rfl
 cases hy:zn v.y
 ·rfl
 cases hz:zn v.z
 ·rfl
 simp only [Bool.and_self,Bool.not_true,cond_false,abs_ends hx,abs_ends hy,abs_ends hz,abs_make hx,abs_make hy,abs_make hz]
 have bx:=(zb5 v.x).1 hx
 have by':=(zb5 v.y).1 hy
 have bz:=(zb5 v.z).1 hz
 obtain ⟨x1,x2,ex,x3,x4,x5⟩:=ends_val hx
 obtain ⟨y1,y2,ey,y3,y4,y5⟩:=ends_val hy
 obtain ⟨z1,z2,ez,z3,z4,z5⟩:=ends_val hz
 simp only [ex,ey,ez]
 obtain ⟨a1,a2,a3,a4⟩:=sum_spec (x:=x1) (y:=y1) (z:=z1) (by omega) (by omega) (by omega)
 obtain ⟨b1,b2,b3,b4⟩:=sum_spec (x:=x2) (y:=y2) (z:=z2) (by omega) (by omega) (by omega)
 have ga:zbR x1 y1 z1=true:=by unfold zbR;rw [a4];rfl
 have gb:zbR x2 y2 z2=true:=by unfold zbR;rw [b4];rfl
 have fa:zcX x1 y1 z1=_:=Tr.zaY a4
 have fb:zcX x2 y2 z2=_:=Tr.zaY b4
 obtain ⟨r0,r1,r2⟩:=root_mk a2 (by omega)
 obtain ⟨q0,q1,q2⟩:=root_mk b2 (by omega)
 have hle:sq3 x1 y1 z1<=sq3 x2 y2 z2:=by
  have k1:=sq_mono x3 x4
  have k2:=sq_mono y3 y4
  have k3:=sq_mono z3 z4
  unfold sq3;omega
 have hR:(zF (mkW (sq3 x1 y1 z1))).val<=(zF (mkW (sq3 x2 y2 z2))).val:=by
  by_cases hh:(zF (mkW (sq3 x1 y1 z1))).val<=(zF (mkW (sq3 x2 y2 z2))).val
  ·exact hh
  ·have:=sq_mono (a:=(zF (mkW (sq3 x2 y2 z2))).val+1) (b:=(zF (mkW (sq3 x1 y1 z1))).val) (by omega) (by omega)
   omega
 have hQ:(zF (mkW (sq3 x2 y2 z2))).val<=2305843009213693952:=sq_lt q0 (by decide) (by omega)
 have w1:(Rng.w .i64 (zF (mkW (sq3 x1 y1 z1))).val).val=(zF (mkW (sq3 x1 y1 z1))).val:=wi (by omega) (by omega)
 have w2:(Rng.w .i64 (zF (mkW (sq3 x2 y2 z2))).val).val=(zF (mkW (sq3 x2 y2 z2))).val:=wi (by omega) (by omega)
 have w3:(Rng.w .i64 ((zF (mkW (sq3 x2 y2 z2))).val+1)).val=(zF (mkW (sq3 x2 y2 z2))).val+1:=wi (by omega) (by omega)
 simp only [ga,gb,fa,fb,cond_true,a1,b1,mul_spec,bounded_eq]
 generalize hc:((mkW ((Rng.w .i64 (zF (mkW (sq3 x2 y2 z2))).val).val*(Rng.w .i64 (zF (mkW (sq3 x2 y2 z2))).val).val)).hi.val==(mkW (sq3 x2 y2 z2)).hi.val&&((mkW ((Rng.w .i64 (zF (mkW (sq3 x2 y2 z2))).val).val*(Rng.w .i64 (zF (mkW (sq3 x2 y2 z2))).val).val)).lo.val==(mkW (sq3 x2 y2 z2)).lo.val&&true))=c
 cases c
 ·simp only [Bool.not_false,cond_true,w2,w3]
  by_cases hm:(zF (mkW (sq3 x2 y2 z2))).val+1>=1152921504606846976
  ·simp only [hm,decide_true,cond_true]
   rw [make_no (by rw [w3];omega)]
  ·simp only [hm,decide_false,cond_false]
   rw [zc0 (by rw [w1,w3];omega)]
 ·simp only [Bool.not_true,cond_false,w2]
  by_cases hm:(zF (mkW (sq3 x2 y2 z2))).val>=1152921504606846976
  ·simp only [hm,decide_true,cond_true]
   rw [make_no (by rw [w2];omega)]
  ·simp only [hm,decide_false,cond_false]
   rw [zc0 (by rw [w1,w2];omega)]
theorem norm_eq (v:Vec):F_impl_NormV v=zbE v:=Tr.zaY (norm_ok v)
theorem tt_norm_impl (v:Vec):(t_impl_NormV v).opt=some (F_impl_NormV v):=zep (norm_ok v)
end Go.Proofs.YtfcjhkkpbnobhaaGreat.Ev
namespace Go.Proofs.YtfcjhkkpbnobhaaGreat.Ev
open Go
def shr (n e:I64):I64:= .w .i64 (n.val.fdiv (2^min e.val.toNat 64))
def shl (n e:I64):I64:= .w .i64 (n.val*(2^min e.val.toNat 64))
def sl (n e:I64):I64:=shl n (.w .i64 (0-e.val))
end Go.Proofs.YtfcjhkkpbnobhaaGreat.Ev
namespace Go.Proofs.YtfcjhkkpbnobhaaGreat.Ev
open Go Go.RowKit
set_option maxRecDepth 100000
section
def ET_impl_NormV:Ent Tryz.prog:= .of1 Tb85 B85 (fun _=>true) F_impl_NormV fun a0 _=>(r_impl_NormV a0).trans (tt_norm_impl a0)
def t_spec_l19Known (a0:Iv):Tr (T2 Iv I64):=
 .br (!(zn a0)) (.leaf ⟨⟨⟨0,rfl⟩,⟨0,rfl⟩⟩,⟨9,rfl⟩⟩) (.leaf ⟨a0,⟨0,rfl⟩⟩)
def B83:Bod Tryz.prog:=⟨83,Tryz.f83,Tryz.f83.body.getD .skip,Tryz.func83,by kernel_rfl,by kernel_rfl,zam.no _ _⟩
def Tb83:Tb Tryz.prog:= {T:= [Y2,Y30],mix:=mix,Es:= [zce],Bs:= [],d:=1}
def t_impl_knownI (a0:Iv):Tr (T2 Iv I64):=
 .br (zau a0) (.leaf ⟨⟨⟨0,rfl⟩,⟨0,rfl⟩⟩,⟨9,rfl⟩⟩) (.leaf ⟨a0,⟨0,rfl⟩⟩)
theorem r_impl_knownI (a0:Iv):Tb83.run B83 [enc a0] (T2 Iv I64)=(t_impl_knownI a0).opt:=by kernel_rfl
def zc1:Iv->T2 Iv I64:=fun a0=>(t_impl_knownI a0).get
theorem u_impl_knownI (a0:Iv):(t_impl_knownI a0).opt=some (zc1 a0):=Tr.zR (by kernel_rfl)
def E_impl_knownI:Ent Tryz.prog:= .of1 Tb83 B83 (fun _=>true) zc1 fun a0 _=>(r_impl_knownI a0).trans (u_impl_knownI a0)
def t_impl_quarter:Tr (I64):=
 .leaf (za5 ⟨1,rfl⟩).hi
def t_spec_l12Ok (a0:Ell):Tr (Bool):=
 .br (zaJ a0.a ⟨1000,rfl⟩ ⟨100000000000,rfl⟩) (.br (zaJ a0.den ⟨1,rfl⟩ ⟨1000000000000,rfl⟩) (.br (decide (a0.num.val>=0)) (.leaf (decide (a0.num.val<=(Rng.w .i64 (a0.den.val.tdiv 100)).val))) (.leaf false)) (.leaf false)) (.leaf false)
def F_spec_l12Ok:Ell->Bool:=fun a0=>(t_spec_l12Ok a0).get
def t_spec_FlatteningI (a0:Ell):Tr (Iv):=
 .br (!(F_spec_l12Ok a0)) (.leaf zA) (.leaf (zaO a0.num a0.den))
def F_spec_FlatteningI:Ell->Iv:=fun a0=>(t_spec_FlatteningI a0).get
def t_spec_EccI (a0:Ell):Tr (Iv):=
 let c1:=F_spec_FlatteningI a0;.leaf (zS c1 (zac (zO ⟨2,rfl⟩) c1))
def B135:Bod Tryz.prog:=⟨135,Tryz.f135,Tryz.f135.body.getD .skip,Tryz.func135,by kernel_rfl,by kernel_rfl,zam.no _ _⟩
def Tb135:Tb Tryz.prog:= {T:= [Y2,Y24,Y30],mix:=mix,Es:= [E_impl_ValidPoint,zaR,ET_impl_RadiansOf],Bs:= [],d:=1}
def t_impl_LatOf (a0:zbb):Tr (Iv):=
 .br (!(zcc a0)) (.leaf zT) (.leaf (zeE a0.lat))
theorem r_impl_LatOf (a0:zbb):Tb135.run B135 [enc a0] (Iv)=(t_impl_LatOf a0).opt:=by kernel_rfl
def F_impl_LatOf:zbb->Iv:=fun a0=>(t_impl_LatOf a0).get
theorem u_impl_LatOf (a0:zbb):(t_impl_LatOf a0).opt=some (F_impl_LatOf a0):=Tr.zR (by kernel_rfl)
def E_impl_LatOf:Ent Tryz.prog:= .of1 Tb135 B135 (fun _=>true) F_impl_LatOf fun a0 _=>(r_impl_LatOf a0).trans (u_impl_LatOf a0)
def B173:Bod Tryz.prog:=⟨173,Tryz.f173,Tryz.f173.body.getD .skip,Tryz.func173,by kernel_rfl,by kernel_rfl,zam.no _ _⟩
def Tb173:Tb Tryz.prog:= {T:= [Y2,Y24,Y30],mix:=mix,Es:= [E_impl_ValidPoint,zaR,ET_impl_RadiansOf],Bs:= [],d:=1}
def t_impl_LonOf (a0:zbb):Tr (Iv):=
 .br (!(zcc a0)) (.leaf zT) (.leaf (zeE a0.lon))
theorem r_impl_LonOf (a0:zbb):Tb173.run B173 [enc a0] (Iv)=(t_impl_LonOf a0).opt:=by kernel_rfl
def F_impl_LonOf:zbb->Iv:=fun a0=>(t_impl_LonOf a0).get
theorem u_impl_LonOf (a0:zbb):(t_impl_LonOf a0).opt=some (F_impl_LonOf a0):=Tr.zR (by kernel_rfl)
def E_impl_LonOf:Ent Tryz.prog:= .of1 Tb173 B173 (fun _=>true) F_impl_LonOf fun a0 _=>(r_impl_LonOf a0).trans (u_impl_LonOf a0)
def B82:Bod Tryz.prog:=⟨82,Tryz.f82,Tryz.f82.body.getD .skip,Tryz.func82,by kernel_rfl,by kernel_rfl,zam.no _ _⟩
def Tb82:Tb Tryz.prog:= {T:= [Y2,Y24,Y30,Y40],mix:=mix,Es:= [E_impl_SinI,ET_impl_MulI,E_impl_CosI,E_impl_LatOf,E_impl_LonOf],Bs:= [],d:=1}
def ze6 (a0:zbb):Tr (Vec):=
 let c1:=F_impl_LatOf a0;let c2:=F_impl_LonOf a0;.leaf ⟨(zaz (F_impl_CosI c1) (F_impl_CosI c2)),(zaz (F_impl_CosI c1) (F_impl_SinI c2)),(F_impl_SinI c1)⟩
theorem r_impl_vectorOf (a0:zbb):Tb82.run B82 [enc a0] (Vec)=(ze6 a0).opt:=by kernel_rfl
def zbg:zbb->Vec:=fun a0=>(ze6 a0).get
theorem u_impl_vectorOf (a0:zbb):(ze6 a0).opt=some (zbg a0):=Tr.zR (by kernel_rfl)
def E_impl_vectorOf:Ent Tryz.prog:= .of1 Tb82 B82 (fun _=>true) zbg fun a0 _=>(r_impl_vectorOf a0).trans (u_impl_vectorOf a0)
def B81:Bod Tryz.prog:=⟨81,Tryz.f81,Tryz.f81.body.getD .skip,Tryz.func81,by kernel_rfl,by kernel_rfl,zam.no _ _⟩
def Tb81:Tb Tryz.prog:= {T:= [Y2,Y30,Y40],mix:=mix,Es:= [ET_impl_MulI,E_impl_SubI],Bs:= [],d:=1}
def t_impl_CrossV (a0:Vec) (a1:Vec):Tr (Vec):=
 .leaf ⟨(zaE (zaz a0.y a1.z) (zaz a0.z a1.y)),(zaE (zaz a0.z a1.x) (zaz a0.x a1.z)),(zaE (zaz a0.x a1.y) (zaz a0.y a1.x))⟩
theorem r_impl_CrossV (a0:Vec) (a1:Vec):Tb81.run B81 [enc a0,enc a1] (Vec)=(t_impl_CrossV a0 a1).opt:=by kernel_rfl
def F_impl_CrossV:Vec->Vec->Vec:=fun a0 a1=>(t_impl_CrossV a0 a1).get
theorem u_impl_CrossV (a0:Vec) (a1:Vec):(t_impl_CrossV a0 a1).opt=some (F_impl_CrossV a0 a1):=Tr.zR (by kernel_rfl)
def E_impl_CrossV:Ent Tryz.prog:= .of2 Tb81 B81 (fun _ _=>true) F_impl_CrossV fun a0 a1 _=>(r_impl_CrossV a0 a1).trans (u_impl_CrossV a0 a1)
def B80:Bod Tryz.prog:=⟨80,Tryz.f80,Tryz.f80.body.getD .skip,Tryz.func80,by kernel_rfl,by kernel_rfl,zam.no _ _⟩
def Tb80:Tb Tryz.prog:= {T:= [Y2,Y30,Y40],mix:=mix,Es:= [zfm,ET_impl_MulI],Bs:= [],d:=1}
def t_impl_DotV (a0:Vec) (a1:Vec):Tr (Iv):=
 .leaf (zbF (zbF (zaz a0.x a1.x) (zaz a0.y a1.y)) (zaz a0.z a1.z))
theorem r_impl_DotV (a0:Vec) (a1:Vec):Tb80.run B80 [enc a0,enc a1] (Iv)=(t_impl_DotV a0 a1).opt:=by kernel_rfl
def F_impl_DotV:Vec->Vec->Iv:=fun a0 a1=>(t_impl_DotV a0 a1).get
theorem u_impl_DotV (a0:Vec) (a1:Vec):(t_impl_DotV a0 a1).opt=some (F_impl_DotV a0 a1):=Tr.zR (by kernel_rfl)
def E_impl_DotV:Ent Tryz.prog:= .of2 Tb80 B80 (fun _ _=>true) F_impl_DotV fun a0 a1 _=>(r_impl_DotV a0 a1).trans (u_impl_DotV a0 a1)
def B94:Bod Tryz.prog:=⟨94,Tryz.f94,Tryz.f94.body.getD .skip,Tryz.func94,by kernel_rfl,by kernel_rfl,zam.no _ _⟩
def Tb94:Tb Tryz.prog:= {T:= [Y24],mix:=mix,Es:= [E_impl_ValidPoint],Bs:= [],d:=1}
def t_impl_areValid (a0:zbb) (a1:zbb):Tr (Bool):=
 .br (zcc a0) (.leaf (zcc a1)) (.leaf false)
theorem r_impl_areValid (a0:zbb) (a1:zbb):Tb94.run B94 [enc a0,enc a1] (Bool)=(t_impl_areValid a0 a1).opt:=by kernel_rfl
def zfk:zbb->zbb->Bool:=fun a0 a1=>(t_impl_areValid a0 a1).get
theorem u_impl_areValid (a0:zbb) (a1:zbb):(t_impl_areValid a0 a1).opt=some (zfk a0 a1):=Tr.zR (by kernel_rfl)
def E_impl_areValid:Ent Tryz.prog:= .of2 Tb94 B94 (fun _ _=>true) zfk fun a0 a1 _=>(r_impl_areValid a0 a1).trans (u_impl_areValid a0 a1)
def B31:Bod Tryz.prog:=⟨31,Tryz.f31,Tryz.f31.body.getD .skip,Tryz.func31,by kernel_rfl,by kernel_rfl,zam.no _ _⟩
def Tb31:Tb Tryz.prog:= {T:= [Y2,Y24,Y30,Y40],mix:=mix,Es:= [E_impl_DotV,E_impl_CrossV,E_impl_vectorOf,E_impl_knownI,E_impl_DirectionI,ET_impl_NormV,E_impl_areValid],Bs:= [],d:=1}
def zdj (a0:zbb) (a1:zbb):Tr (T2 Iv I64):=
 .br (!(zfk a0 a1)) (.leaf ⟨⟨⟨0,rfl⟩,⟨0,rfl⟩⟩,⟨1,rfl⟩⟩) (let c2:=zbg a0;let c3:=zbg a1;let c8:=zc1 (zed (F_impl_NormV (F_impl_CrossV c2 c3)) (F_impl_DotV c2 c3));.leaf ⟨c8.a,c8.b⟩)
theorem r_impl_AngleBetween (a0:zbb) (a1:zbb):Tb31.run B31 [enc a0,enc a1] (T2 Iv I64)=(zdj a0 a1).opt:=by kernel_rfl
def zD:zbb->zbb->T2 Iv I64:=fun a0 a1=>(zdj a0 a1).get
theorem u_impl_AngleBetween (a0:zbb) (a1:zbb):(zdj a0 a1).opt=some (zD a0 a1):=Tr.zR (by kernel_rfl)
def B106:Bod Tryz.prog:=⟨106,Tryz.f106,Tryz.f106.body.getD .skip,Tryz.func106,by kernel_rfl,by kernel_rfl,zam.no _ _⟩
def Tb106:Tb Tryz.prog:= {T:= [Y2,Y24,Y30,Y40],mix:=mix,Es:= [E_spec_MulI,E_spec_CosI,E_spec_SinI,ET_spec_RadiansOf],Bs:= [],d:=1}
def t_spec_l15Vec (a0:zbb):Tr (Vec):=
 let c1:=zaF a0.lat;let c2:=zaF a0.lon;let c3:=zdO c1;.leaf ⟨(zS c3 (zdO c2)),(zS c3 (zdN c2)),(zdN c1)⟩
theorem r_spec_l15Vec (a0:zbb):Tb106.run B106 [enc a0] (Vec)=(t_spec_l15Vec a0).opt:=by kernel_rfl
def zfD:zbb->Vec:=fun a0=>(t_spec_l15Vec a0).get
theorem u_spec_l15Vec (a0:zbb):(t_spec_l15Vec a0).opt=some (zfD a0):=Tr.zR (by kernel_rfl)
def E_spec_l15Vec:Ent Tryz.prog:= .of1 Tb106 B106 (fun _=>true) zfD fun a0 _=>(r_spec_l15Vec a0).trans (u_spec_l15Vec a0)
def B22:Bod Tryz.prog:=⟨22,Tryz.f22,Tryz.f22.body.getD .skip,Tryz.func22,by kernel_rfl,by kernel_rfl,zam.no _ _⟩
def Tb22:Tb Tryz.prog:= {T:= [Y2,Y30,Y40],mix:=mix,Es:= [E_spec_MulI,E_spec_SubI],Bs:= [],d:=1}
def zfr (a0:Vec) (a1:Vec):Tr (Vec):=
 .leaf ⟨(zac (zS a0.y a1.z) (zS a0.z a1.y)),(zac (zS a0.z a1.x) (zS a0.x a1.z)),(zac (zS a0.x a1.y) (zS a0.y a1.x))⟩
theorem r_spec_CrossV (a0:Vec) (a1:Vec):Tb22.run B22 [enc a0,enc a1] (Vec)=(zfr a0 a1).opt:=by kernel_rfl
def zcm:Vec->Vec->Vec:=fun a0 a1=>(zfr a0 a1).get
theorem u_spec_CrossV (a0:Vec) (a1:Vec):(zfr a0 a1).opt=some (zcm a0 a1):=Tr.zR (by kernel_rfl)
def E_spec_CrossV:Ent Tryz.prog:= .of2 Tb22 B22 (fun _ _=>true) zcm fun a0 a1 _=>(r_spec_CrossV a0 a1).trans (u_spec_CrossV a0 a1)
def B28:Bod Tryz.prog:=⟨28,Tryz.f28,Tryz.f28.body.getD .skip,Tryz.func28,by kernel_rfl,by kernel_rfl,zam.no _ _⟩
def Tb28:Tb Tryz.prog:= {T:= [Y2,Y30,Y40],mix:=mix,Es:= [E_spec_MulI,E_spec_AddI],Bs:= [],d:=1}
def t_spec_DotV (a0:Vec) (a1:Vec):Tr (Iv):=
 .leaf (zan (zan (zS a0.x a1.x) (zS a0.y a1.y)) (zS a0.z a1.z))
theorem r_spec_DotV (a0:Vec) (a1:Vec):Tb28.run B28 [enc a0,enc a1] (Iv)=(t_spec_DotV a0 a1).opt:=by kernel_rfl
def zdk:Vec->Vec->Iv:=fun a0 a1=>(t_spec_DotV a0 a1).get
theorem u_spec_DotV (a0:Vec) (a1:Vec):(t_spec_DotV a0 a1).opt=some (zdk a0 a1):=Tr.zR (by kernel_rfl)
def E_spec_DotV:Ent Tryz.prog:= .of2 Tb28 B28 (fun _ _=>true) zdk fun a0 a1 _=>(r_spec_DotV a0 a1).trans (u_spec_DotV a0 a1)
def B105:Bod Tryz.prog:=⟨105,Tryz.f105,Tryz.f105.body.getD .skip,Tryz.func105,by kernel_rfl,by kernel_rfl,zam.no _ _⟩
def Tb105:Tb Tryz.prog:= {T:= [Y2,Y30,Y40],mix:=mix,Es:= [E_spec_CrossV,E_spec_DotV,E_spec_DirectionI,E_spec_NormV],Bs:= [],d:=1}
def t_spec_l15Angle (a0:Vec) (a1:Vec):Tr (Iv):=
 .leaf (zb8 (zbE (zcm a0 a1)) (zdk a0 a1))
theorem r_spec_l15Angle (a0:Vec) (a1:Vec):Tb105.run B105 [enc a0,enc a1] (Iv)=(t_spec_l15Angle a0 a1).opt:=by kernel_rfl
def F_spec_l15Angle:Vec->Vec->Iv:=fun a0 a1=>(t_spec_l15Angle a0 a1).get
theorem u_spec_l15Angle (a0:Vec) (a1:Vec):(t_spec_l15Angle a0 a1).opt=some (F_spec_l15Angle a0 a1):=Tr.zR (by kernel_rfl)
def E_spec_l15Angle:Ent Tryz.prog:= .of2 Tb105 B105 (fun _ _=>true) F_spec_l15Angle fun a0 a1 _=>(r_spec_l15Angle a0 a1).trans (u_spec_l15Angle a0 a1)
def B104:Bod Tryz.prog:=⟨104,Tryz.f104,Tryz.f104.body.getD .skip,Tryz.func104,by kernel_rfl,by kernel_rfl,zam.no _ _⟩
def Tb104:Tb Tryz.prog:= {T:= [Y2,Y30],mix:=mix,Es:= [E_spec_IsWhole],Bs:= [],d:=1}
def t_spec_l15Known (a0:Iv):Tr (T2 Iv I64):=
 .br (zbm a0) (.leaf ⟨⟨⟨0,rfl⟩,⟨0,rfl⟩⟩,⟨9,rfl⟩⟩) (.leaf ⟨a0,⟨0,rfl⟩⟩)
theorem r_spec_l15Known (a0:Iv):Tb104.run B104 [enc a0] (T2 Iv I64)=(t_spec_l15Known a0).opt:=by kernel_rfl
def zfh:Iv->T2 Iv I64:=fun a0=>(t_spec_l15Known a0).get
theorem u_spec_l15Known (a0:Iv):(t_spec_l15Known a0).opt=some (zfh a0):=Tr.zR (by kernel_rfl)
def E_spec_l15Known:Ent Tryz.prog:= .of1 Tb104 B104 (fun _=>true) zfh fun a0 _=>(r_spec_l15Known a0).trans (u_spec_l15Known a0)
def B32:Bod Tryz.prog:=⟨32,Tryz.f32,Tryz.f32.body.getD .skip,Tryz.func32,by kernel_rfl,by kernel_rfl,zam.no _ _⟩
def Tb32:Tb Tryz.prog:= {T:= [Y2,Y24,Y30],mix:=mix,Es:= [E_spec_l11Ok,E_spec_l15Known,E_spec_l15Angle,E_spec_l15Vec],Bs:= [],d:=1}
def zem (a0:zbb) (a1:zbb):Tr (T2 Iv I64):=
 .br (!(zaf a0)) (.leaf ⟨⟨⟨0,rfl⟩,⟨0,rfl⟩⟩,⟨1,rfl⟩⟩) (.br (!(zaf a1)) (.leaf ⟨⟨⟨0,rfl⟩,⟨0,rfl⟩⟩,⟨1,rfl⟩⟩) (let c6:=zfh (F_spec_l15Angle (zfD a0) (zfD a1));.leaf ⟨c6.a,c6.b⟩))
theorem r_spec_AngleBetween (a0:zbb) (a1:zbb):Tb32.run B32 [enc a0,enc a1] (T2 Iv I64)=(zem a0 a1).opt:=by kernel_rfl
def zdl:zbb->zbb->T2 Iv I64:=fun a0 a1=>(zem a0 a1).get
theorem u_spec_AngleBetween (a0:zbb) (a1:zbb):(zem a0 a1).opt=some (zdl a0 a1):=Tr.zR (by kernel_rfl)
def B33:Bod Tryz.prog:=⟨33,Tryz.f33,Tryz.f33.body.getD .skip,Tryz.func33,by kernel_rfl,by kernel_rfl,zam.no _ _⟩
def Tb33:Tb Tryz.prog:= {T:= [Y2,Y24],mix:=mix,Es:= [E_spec_l11Wrap,E_spec_l11Ok],Bs:= [],d:=1}
def t_spec_Antipode (a0:zbb):Tr (T2 zbb I64):=
 .br (!(zaf a0)) (.leaf ⟨⟨⟨0,rfl⟩,⟨0,rfl⟩⟩,⟨1,rfl⟩⟩) (.leaf ⟨⟨(Rng.w .i64 (0-a0.lat.val)),(zcB (Rng.w .i64 (a0.lon.val+1800000000)))⟩,⟨0,rfl⟩⟩)
theorem r_spec_Antipode (a0:zbb):Tb33.run B33 [enc a0] (T2 zbb I64)=(t_spec_Antipode a0).opt:=by kernel_rfl
def zfj:zbb->T2 zbb I64:=fun a0=>(t_spec_Antipode a0).get
theorem u_spec_Antipode (a0:zbb):(t_spec_Antipode a0).opt=some (zfj a0):=Tr.zR (by kernel_rfl)
def B35:Bod Tryz.prog:=⟨35,Tryz.f35,Tryz.f35.body.getD .skip,Tryz.func35,by kernel_rfl,by kernel_rfl,zam.no _ _⟩
def Tb35:Tb Tryz.prog:= {T:= [Y2,Y30],mix:=mix,Es:= [E_spec_l05Turn],Bs:= [],d:=1}
def t_spec_PiI:Tr (Iv):=
 .br (zcd ⟨2,rfl⟩) (.leaf (zbk ⟨2,rfl⟩)) (.bad)
theorem r_spec_PiI:Tb35.run B35 [] (Iv)=(t_spec_PiI).opt:=by kernel_rfl
def F_spec_PiI:Iv:=(t_spec_PiI).get
theorem u_spec_PiI:(t_spec_PiI).opt=some (F_spec_PiI):=Tr.get_some (by kernel_rfl)
end
end Go.Proofs.YtfcjhkkpbnobhaaGreat.Ev
namespace Go.Proofs.YtfcjhkkpbnobhaaGreat.Ev
open Go
theorem dot_eq (a b:Vec):F_impl_DotV a b=zdk a b:=by
 simp only [F_impl_DotV,t_impl_DotV,zdk,t_spec_DotV,Tr.get,add_eq,mulI_F]
theorem cross_eq (a b:Vec):F_impl_CrossV a b=zcm a b:=by
 simp only [F_impl_CrossV,t_impl_CrossV,zcm,zfr,Tr.get,sub_eq,mulI_F]
theorem lat_eq {p:zbb} (h:zaf p=true):F_impl_LatOf p=zaF p.lat:=by
 simp only [F_impl_LatOf,t_impl_LatOf,Tr.get,point_eq,h,Bool.not_true,cfl,radians_eq]
theorem lon_eq {p:zbb} (h:zaf p=true):F_impl_LonOf p=zaF p.lon:=by
 simp only [F_impl_LonOf,t_impl_LonOf,Tr.get,point_eq,h,Bool.not_true,cfl,radians_eq]
theorem vec_eq {p:zbb} (h:zaf p=true):zbg p=zfD p:=by
 simp only [zbg,ze6,zfD,t_spec_l15Vec,Tr.get,lat_eq h,lon_eq h,cosI_eq,sinI_eq,mulI_F]
theorem known_eq (x:Iv):zc1 x=zfh x:=by
 simp only [zc1,t_impl_knownI,zfh,t_spec_l15Known,Tr.get,isw_eq,siw_eq]
theorem areValid_eq (a b:zbb):zfk a b=(zaf a&&zaf b):=by
 simp only [zfk,t_impl_areValid,Tr.get,point_eq]
 cases zaf a<;>simp only [ctr,cfl,Bool.true_and,Bool.false_and]
theorem angleBetween_eq (p q:zbb):zD p q=zdl p q:=by
 simp only [zD,zdj,zdl,zem,Tr.get,areValid_eq]
 cases h1:zaf p
 ·simp only [ctr,cfl,Bool.not_false,Bool.false_and]
 cases h2:zaf q
 ·simp only [ctr,cfl,Bool.not_false,Bool.not_true,Bool.and_false]
 simp only [ctr,cfl,Bool.not_true,Bool.and_self,vec_eq h1,vec_eq h2,F_spec_l15Angle,t_spec_l15Angle,Tr.get,dot_eq,cross_eq,norm_eq,dirI_eq,known_eq]
end Go.Proofs.YtfcjhkkpbnobhaaGreat.Ev
namespace Go.Proofs.YtfcjhkkpbnobhaaGreat.Ev
open Go
theorem sub_turn (a b:Iv):zac b a=zaD (zac a b):=by
 cases ha:zn a
 ·simp only [zac,zek,Tr.get,ha,Bool.not_false,ctr]
  rw [neg_no zbY]
  cases zn b<;>simp [ctr,cfl]
 cases hb:zn b
 ·simp only [zac,zek,Tr.get,ha,hb,Bool.not_false,Bool.not_true,ctr,cfl]
  rw [neg_no zbY]
 have h1:=(zb5 a).1 ha
 have h2:=(zb5 b).1 hb
 simp only [zac,zek,Tr.get,ha,hb,Bool.not_true,cfl]
 have e1:(Rng.w .i64 (a.lo.val-b.hi.val)).val=a.lo.val-b.hi.val:=wi (by omega) (by omega)
 have e2:(Rng.w .i64 (a.hi.val-b.lo.val)).val=a.hi.val-b.lo.val:=wi (by omega) (by omega)
 have e3:(Rng.w .i64 (b.lo.val-a.hi.val)).val=b.lo.val-a.hi.val:=wi (by omega) (by omega)
 have e4:(Rng.w .i64 (b.hi.val-a.lo.val)).val=b.hi.val-a.lo.val:=wi (by omega) (by omega)
 by_cases hc: -1152921504606846976<a.lo.val-b.hi.val/\a.lo.val-b.hi.val<=a.hi.val-b.lo.val/\a.hi.val-b.lo.val<1152921504606846976
 ·have m1:=zc0 (lo:= .w .i64 (a.lo.val-b.hi.val)) (hi:= .w .i64 (a.hi.val-b.lo.val)) (by rw [e1,e2];exact hc)
  have m2:=zc0 (lo:= .w .i64 (b.lo.val-a.hi.val)) (hi:= .w .i64 (b.hi.val-a.lo.val)) (by rw [e3,e4];omega)
  rw [m1,m2,neg_ok_val ((zb5 _).2 (by simp only [e1,e2];exact hc))]
  simp only [e1,e2]
  rw [show 0-(a.hi.val-b.lo.val)=b.lo.val-a.hi.val by omega,show 0-(a.lo.val-b.hi.val)=b.hi.val-a.lo.val by omega]
 ·rw [make_no (lo:= .w .i64 (b.lo.val-a.hi.val)) (hi:= .w .i64 (b.hi.val-a.lo.val)) (by rw [e3,e4];omega),make_no (lo:= .w .i64 (a.lo.val-b.hi.val)) (hi:= .w .i64 (a.hi.val-b.lo.val)) (by rw [e1,e2];exact hc),neg_no zbY]
theorem ends_turn {a:Iv} (h:zn a=true):zN (zaD a)=zN a:=by
 have hb:=(zb5 a).1 h
 have e1:(Rng.w .i64 (0-a.lo.val)).val=0-a.lo.val:=wi (by omega) (by omega)
 have e2:(Rng.w .i64 (0-a.hi.val)).val=0-a.hi.val:=wi (by omega) (by omega)
 have n1:Rng.w .i64 (0-(0-a.lo.val))=a.lo:=rext (by rw [wi (by omega) (by omega)];omega)
 have n2:Rng.w .i64 (0-(0-a.hi.val))=a.hi:=rext (by rw [wi (by omega) (by omega)];omega)
 have cmx:∀x y:I64,zz x y=zz y x:=fun x y=>by
  have a1:=zeQ x y;have a2:=zeQ y x;exact rext (by omega)
 have cmn:∀x y:I64,zC x y=zC y x:=fun x y=>by
  have a1:=zfP x y;have a2:=zfP y x;exact rext (by omega)
 rw [neg_ok_val h]
 simp only [zN,zc2,Tr.get,zaM,zcf,zfQ,e1,e2,n1,n2]
 rw [cmx (.w .i64 (0-a.hi.val)) a.hi,cmx (.w .i64 (0-a.lo.val)) a.lo,cmx (zz a.hi (.w .i64 (0-a.hi.val))),cmn (zz a.hi (.w .i64 (0-a.hi.val)))]
 by_cases h0:a.lo.val<=0/\0<=a.hi.val
 ·have h1:0-a.hi.val<=0/\0<=0-a.lo.val:=by omega
  simp only [h0,h1,and_self,decide_true]
 ·have h1:¬(0-a.hi.val<=0/\0<=0-a.lo.val):=by omega
  simp only [h0,h1,decide_false]
theorem abs_turn (a:Iv):zdP (zaD a)=zdP a:=by
 cases h:zn a
 ·rw [neg_no h]
  simp only [zdP,t_spec_AbsI,Tr.get,h,zbY,Bool.not_false,ctr]
 ·rw [abs_make h,abs_make (by rw [neg_isok];exact h),ends_turn h]
theorem norm_turn (x y z:Iv):zbE ⟨zaD x,zaD y,zaD z⟩=zbE ⟨x,y,z⟩:=by
 have h1:∀a,zc5 (zaD a)=zc5 a:=fun a=>by rw [ends_eq,ends_eq,abs_turn]
 have h2:∀a,zbm (zaD a)=zbm a:=fun a=>by rw [siw_eq,siw_eq,neg_isok]
 simp only [zbE,t_spec_NormV,Tr.get,h1,h2]
end Go.Proofs.YtfcjhkkpbnobhaaGreat.Ev
namespace Go.Proofs.YtfcjhkkpbnobhaaGreat.Ev
open Go
def Sub (a b:Iv):Prop:=zn b=true->zn a=true/\b.lo.val<=a.lo.val/\a.hi.val<=b.hi.val
theorem muldown_true {x y:I64} (h:(zJ x y).b=true):(zJ x y).a.val=x.val*y.val/4294967296:=by
 simp only [zJ,zbr,Tr.get,mf32] at h ⊢
 cases h1:zK x
 ·rw [h1] at h;simp [ctr] at h
 cases h2:zK y
 ·rw [h1,h2] at h;simp [ctr,cfl] at h
 rw [h1,h2] at h
 simp only [Bool.not_true,cfl] at h ⊢
 unfold narrow at h ⊢
 split at h
 ·rename_i hr
  rw [if_pos hr]
  rcases end_cases (.w .i64 (x.val*y.val/4294967296)) true with e|⟨e,_⟩
  ·rw [e] at h;cases h
  ·rw [e];exact wi hr.1 hr.2
 ·rename_i hr
  rcases end_cases (.w .i64 0) false with e|⟨e,_⟩
  ·rw [e] at h;cases h
  ·have:(zat (.w .i64 0) false).b=false:=by simp only [zat,zcg,Tr.get,Bool.not_false,ctr]
   rw [this] at h;cases h
theorem mulup_true {x y:I64} (h:(zW x y).b=true):(zW x y).a.val= -(-(x.val*y.val)/4294967296):=by
 simp only [zW,zcD,Tr.get] at h ⊢
 cases h1:zK x
 ·rw [h1] at h;simp [ctr] at h
 rw [h1] at h
 simp only [Bool.not_true,cfl] at h ⊢
 have hb:=ok_bd h1
 cases hd:(zJ (.w .i64 (0-x.val)) y).b
 ·rw [hd] at h;simp [ctr] at h
 simp only [hd,Bool.not_true,cfl]
 have e:=muldown_true hd
 have en:(Rng.w .i64 (0-x.val)).val= -x.val:=by rw [wi (by omega) (by omega)];omega
 rw [en,Int.neg_mul] at e
 rcases zeq (.w .i64 (0-x.val)) y with k|⟨c,k,kc⟩
 ·rw [k] at hd;cases hd
 ·have kb:=ok_bd kc
  rw [k] at e ⊢
  simp only at e ⊢
  rw [wi (by omega) (by omega)]
  omega
theorem mulI_corner {a b:Iv} (h:zn (zS a b)=true):zn a=true/\zn b=true /\
  ∀x y:I64,(x=a.lo\/x=a.hi)->(y=b.lo\/y=b.hi)->(zS a b).lo.val<=x.val*y.val/4294967296 /\ -(-(x.val*y.val)/4294967296)<=(zS a b).hi.val:=by
 have nw:∀ {P:Prop},zn zA=true->P:=fun h=>by rw [zbY] at h;cases h
 simp only [zS,t_spec_MulI,Tr.get] at h ⊢
 cases ha:zn a
 ·rw [ha] at h;exact nw h
 cases hb:zn b
 ·rw [ha,hb] at h;exact nw h
 simp only [ha,hb,Bool.not_true,cfl] at h ⊢
 cases h1:(zJ a.lo b.lo).b
 ·rw [h1] at h;exact nw h
 cases h2:(zW a.lo b.lo).b
 ·rw [h1,h2] at h;exact nw h
 cases h3:(zJ a.lo b.hi).b
 ·rw [h1,h2,h3] at h;exact nw h
 cases h4:(zW a.lo b.hi).b
 ·rw [h1,h2,h3,h4] at h;exact nw h
 cases h5:(zJ a.hi b.lo).b
 ·rw [h1,h2,h3,h4,h5] at h;exact nw h
 cases h6:(zW a.hi b.lo).b
 ·rw [h1,h2,h3,h4,h5,h6] at h;exact nw h
 cases h7:(zJ a.hi b.hi).b
 ·rw [h1,h2,h3,h4,h5,h6,h7] at h;exact nw h
 cases h8:(zW a.hi b.hi).b
 ·rw [h1,h2,h3,h4,h5,h6,h7,h8] at h;exact nw h
 simp only [h1,h2,h3,h4,h5,h6,h7,h8,Bool.not_true,cfl] at h ⊢
 refine ⟨trivial,trivial,?_⟩
 have v1:=muldown_true h1
 have v2:=mulup_true h2
 have v3:=muldown_true h3
 have v4:=mulup_true h4
 have v5:=muldown_true h5
 have v6:=mulup_true h6
 have v7:=muldown_true h7
 have v8:=mulup_true h8
 generalize (zJ a.lo b.lo).a=d1 at *
 generalize (zJ a.lo b.hi).a=d2 at *
 generalize (zJ a.hi b.lo).a=d3 at *
 generalize (zJ a.hi b.hi).a=d4 at *
 generalize (zW a.lo b.lo).a=u1 at *
 generalize (zW a.lo b.hi).a=u2 at *
 generalize (zW a.hi b.lo).a=u3 at *
 generalize (zW a.hi b.hi).a=u4 at *
 have m1:=zfP ⟨1152921504606846976,rfl⟩ d1
 have m2:=zfP (zC ⟨1152921504606846976,rfl⟩ d1) d2
 have m3:=zfP (zC (zC ⟨1152921504606846976,rfl⟩ d1) d2) d3
 have m4:=zfP (zC (zC (zC ⟨1152921504606846976,rfl⟩ d1) d2) d3) d4
 have n1:=zeQ ⟨-1152921504606846976,rfl⟩ u1
 have n2:=zeQ (zz ⟨-1152921504606846976,rfl⟩ u1) u2
 have n3:=zeQ (zz (zz ⟨-1152921504606846976,rfl⟩ u1) u2) u3
 have n4:=zeQ (zz (zz (zz ⟨-1152921504606846976,rfl⟩ u1) u2) u3) u4
 generalize zC (zC (zC (zC ⟨1152921504606846976,rfl⟩ d1) d2) d3) d4=lo at *
 generalize zz (zz (zz (zz ⟨-1152921504606846976,rfl⟩ u1) u2) u3) u4=hi at *
 by_cases hm: -1152921504606846976<lo.val/\lo.val<=hi.val/\hi.val<1152921504606846976
 ·rw [zc0 hm]
  simp only
  rintro x y (rfl|rfl) (rfl|rfl)
  ·omega
  ·omega
  ·omega
  ·omega
 ·rw [make_no hm] at h;exact nw h
theorem addI_val {a b:Iv} (h:zn (zan a b)=true):zn a=true/\zn b=true/\(zan a b).lo.val=a.lo.val+b.lo.val/\(zan a b).hi.val=a.hi.val+b.hi.val:=by
 simp only [zan,ze5,Tr.get] at h ⊢
 cases ha:zn a
 ·rw [ha] at h;simp only [Bool.not_false,ctr,zbY] at h;cases h
 cases hb:zn b
 ·rw [ha,hb] at h;simp only [Bool.not_false,Bool.not_true,ctr,cfl,zbY] at h;cases h
 simp only [ha,hb,Bool.not_true,cfl] at h ⊢
 have ba:=(zb5 _).1 ha
 have bb:=(zb5 _).1 hb
 have k1:(Rng.w .i64 (a.lo.val+b.lo.val)).val=a.lo.val+b.lo.val:=wi (by omega) (by omega)
 have k2:(Rng.w .i64 (a.hi.val+b.hi.val)).val=a.hi.val+b.hi.val:=wi (by omega) (by omega)
 by_cases hm: -1152921504606846976<(Rng.w .i64 (a.lo.val+b.lo.val)).val/\(Rng.w .i64 (a.lo.val+b.lo.val)).val<=(Rng.w .i64 (a.hi.val+b.hi.val)).val/\(Rng.w .i64 (a.hi.val+b.hi.val)).val<1152921504606846976
 ·rw [zc0 hm];exact ⟨trivial,trivial,k1,k2⟩
 ·rw [make_no hm,zbY] at h;cases h
theorem subI_val {a b:Iv} (h:zn (zac a b)=true):zn a=true/\zn b=true/\(zac a b).lo.val=a.lo.val-b.hi.val/\(zac a b).hi.val=a.hi.val-b.lo.val:=by
 simp only [zac,zek,Tr.get] at h ⊢
 cases ha:zn a
 ·rw [ha] at h;simp only [Bool.not_false,ctr,zbY] at h;cases h
 cases hb:zn b
 ·rw [ha,hb] at h;simp only [Bool.not_false,Bool.not_true,ctr,cfl,zbY] at h;cases h
 simp only [ha,hb,Bool.not_true,cfl] at h ⊢
 have ba:=(zb5 _).1 ha
 have bb:=(zb5 _).1 hb
 have k1:(Rng.w .i64 (a.lo.val-b.hi.val)).val=a.lo.val-b.hi.val:=wi (by omega) (by omega)
 have k2:(Rng.w .i64 (a.hi.val-b.lo.val)).val=a.hi.val-b.lo.val:=wi (by omega) (by omega)
 by_cases hm: -1152921504606846976<(Rng.w .i64 (a.lo.val-b.hi.val)).val/\(Rng.w .i64 (a.lo.val-b.hi.val)).val<=(Rng.w .i64 (a.hi.val-b.lo.val)).val/\(Rng.w .i64 (a.hi.val-b.lo.val)).val<1152921504606846976
 ·rw [zc0 hm];exact ⟨trivial,trivial,k1,k2⟩
 ·rw [make_no hm,zbY] at h;cases h
theorem dblI_val {a:Iv} (h:zn (zbX a)=true):zn a=true/\(zbX a).lo.val=2*a.lo.val/\(zbX a).hi.val=2*a.hi.val:=by
 simp only [zbX,t_spec_DoubleI,Tr.get] at h ⊢
 cases ha:zn a
 ·rw [ha] at h;simp only [Bool.not_false,ctr,zbY] at h;cases h
 simp only [ha,Bool.not_true,cfl] at h ⊢
 have ba:=(zb5 _).1 ha
 have k1:(Rng.w .i64 (2*a.lo.val)).val=2*a.lo.val:=wi (by omega) (by omega)
 have k2:(Rng.w .i64 (2*a.hi.val)).val=2*a.hi.val:=wi (by omega) (by omega)
 by_cases hm: -1152921504606846976<(Rng.w .i64 (2*a.lo.val)).val/\(Rng.w .i64 (2*a.lo.val)).val<=(Rng.w .i64 (2*a.hi.val)).val/\(Rng.w .i64 (2*a.hi.val)).val<1152921504606846976
 ·rw [zc0 hm];exact ⟨trivial,k1,k2⟩
 ·rw [make_no hm,zbY] at h;cases h
end Go.Proofs.YtfcjhkkpbnobhaaGreat.Ev
namespace Go.Proofs.YtfcjhkkpbnobhaaGreat.Ev
open Go
theorem sqrI_val {a:Iv} (h:zn (zby a)=true):zn a=true/\(zby a).lo.val=(zN a).a.val*(zN a).a.val/4294967296/\(zby a).hi.val= -(-((zN a).b.val*(zN a).b.val)/4294967296):=by
 have nw:∀ {P:Prop},zn zA=true->P:=fun h=>by rw [zbY] at h;cases h
 simp only [zby,t_spec_SqrI,Tr.get] at h ⊢
 cases ha:zn a
 ·rw [ha] at h;exact nw h
 simp only [ha,Bool.not_true,cfl] at h ⊢
 cases h1:(zJ (zN a).a (zN a).a).b
 ·rw [h1] at h;exact nw h
 cases h2:(zW (zN a).b (zN a).b).b
 ·rw [h1,h2] at h;exact nw h
 simp only [h1,h2,Bool.not_true,cfl] at h ⊢
 have v1:=muldown_true h1
 have v2:=mulup_true h2
 generalize (zJ (zN a).a (zN a).a).a=lo at *
 generalize (zW (zN a).b (zN a).b).a=hi at *
 by_cases hm: -1152921504606846976<lo.val/\lo.val<=hi.val/\hi.val<1152921504606846976
 ·rw [zc0 hm];exact ⟨trivial,v1,v2⟩
 ·rw [make_no hm] at h;exact nw h
theorem su_val2 (a:I64) (ha:0<=a.val/\a.val<=1152921504606846976):∃q p:I64,zbV a=⟨q,true⟩/\zbJ a=⟨p,true⟩/\0<=q.val/\q.val<=70368744177664/\q.val*q.val<=a.val*4294967296/\a.val*4294967296<(q.val+1)*(q.val+1)/\q.val<=p.val/\p.val<=q.val+1/\a.val*4294967296<=p.val*p.val/\(q.val<p.val->q.val*q.val<a.val*4294967296):=by
 obtain ⟨q,h1,h2,h3,h4,h5,h6⟩:=sd_val a ha
 have e1:(Rng.w .i64 (q.val+1)).val=q.val+1:=wi (by omega) (by omega)
 have hqq:=Int.mul_nonneg h3 h3
 have hmf:zaL q q ⟨32,rfl⟩=⟨.w .i64 (q.val*q.val/4294967296),true⟩:=by rw [mf32];exact narrow_ok (by omega) (by omega)
 have hmv:(Rng.w .i64 (q.val*q.val/4294967296)).val=q.val*q.val/4294967296:=wi (by omega) (by omega)
 have hmask:(Rng.w .i64 (zbe .and .i64 (Rng.w .i64 (q.val*q.val)).val 4294967295)).val=q.val*q.val%4294967296:=by rw [and_mask_i,zd0];omega
 by_cases hx:q.val*q.val=a.val*4294967296
 ·refine ⟨q,q,h1,?_,h3,h4,h5,h6,Int.le_refl _,by omega,by omega,fun h=>by omega⟩
  have k1:(q.val*q.val/4294967296 != a.val)=false:=by simp;omega
  have k2:(q.val*q.val%4294967296 != 0)=false:=by simp;omega
  simp only [zbJ,zbZ,Tr.get,sd_G_spec,h1,hmf,hmv,hmask,k1,k2,Bool.not_true,cond_false,cond_true]
 ·refine ⟨q,.w .i64 (q.val+1),h1,?_,h3,h4,h5,h6,by omega,by omega,by rw [e1];omega,fun h=>by omega⟩
  simp only [zbJ,zbZ,Tr.get,sd_G_spec,h1,hmf,hmv,hmask,Bool.not_true,cond_false,cond_true]
  by_cases k1:q.val*q.val/4294967296=a.val
  ·have k2:(q.val*q.val%4294967296 != 0)=true:=by simp;omega
   have k3:(q.val*q.val/4294967296 != a.val)=false:=by simp [k1]
   simp only [k2,k3,cond_true,cond_false]
  ·have k3:(q.val*q.val/4294967296 != a.val)=true:=by simp [k1]
   simp only [k3,cond_true]
theorem sqrtI_mk {a:Iv} (ha:zn a=true) (h0:0<=a.lo.val):zn (zb7 a)=true/\(zb7 a).lo=(zbV a.lo).a/\(zb7 a).hi=(zbJ a.hi).a:=by
 have hb:=(zb5 _).1 ha
 obtain ⟨q,p,e1,e2,h1,h2,h3,h4,h5,h6,h7,h8⟩:=su_val2 a.lo (by omega)
 obtain ⟨q',p',e1',e2',h1',h2',h3',h4',h5',h6',h7',h8'⟩:=su_val2 a.hi (by omega)
 have hle:q.val<=p'.val:=by
  refine sq_lt h1 (by omega) ?_
  omega
 have hd:decide (a.lo.val<0)=false:=by simp;omega
 have e:zb7 a=⟨q,p'⟩:=by
  simp only [zb7,ze1,Tr.get,ha,hd,sd_G_spec,su_G_spec,e1,e2',Bool.not_true,cfl,ctr]
  exact zc0 (by omega)
 rw [e,e1,e2']
 exact ⟨(zb5 _).2 (by simp only;omega),rfl,rfl⟩
theorem sqrtI_nn {a:Iv} (h:zn (zb7 a)=true):zn a=true/\0<=a.lo.val:=by
 have nw:∀ {P:Prop},zn zA=true->P:=fun h=>by rw [zbY] at h;cases h
 simp only [zb7,ze1,Tr.get] at h
 cases ha:zn a
 ·rw [ha] at h;exact nw h
 by_cases h0:a.lo.val<0
 ·rw [ha,show decide (a.lo.val<0)=true by simpa using h0] at h;exact nw h
 ·exact ⟨rfl,by omega⟩
theorem divdown_true {x y:I64} (hy:0<y.val) (h:(zM x y).b=true):(zM x y).a.val=x.val*4294967296/y.val:=by
 have z0:(y.val==0)=false:=by simp;omega
 have z1:decide (y.val<0)=false:=by simp;omega
 simp only [zM,zbs,Tr.get,zeA,z0,z1,cfl] at h ⊢
 cases h1:zK x
 ·rw [h1] at h;simp [ctr] at h
 cases h2:zK y
 ·rw [h1,h2] at h;simp [ctr,cfl] at h
 rw [h1,h2] at h
 simp only [Bool.not_true,cfl,MD,hy,if_true] at h ⊢
 unfold narrow at h ⊢
 split at h
 ·rename_i hr
  rw [if_pos hr]
  rcases end_cases (.w .i64 (x.val*4294967296/y.val)) true with e|⟨e,_⟩
  ·rw [e] at h;cases h
  ·rw [e];exact wi hr.1 hr.2
 ·have:(zat (.w .i64 0) false).b=false:=by simp only [zat,zcg,Tr.get,Bool.not_false,ctr]
  rw [this] at h;cases h
theorem divup_true {x y:I64} (hy:0<y.val) (h:(zad x y).b=true):(zad x y).a.val= -(-x.val*4294967296/y.val):=by
 simp only [zad,zcE,Tr.get] at h ⊢
 cases h1:zK x
 ·rw [h1] at h;simp [ctr] at h
 rw [h1] at h
 simp only [Bool.not_true,cfl] at h ⊢
 have hb:=ok_bd h1
 have e:=divdown_true hy h
 have en:(Rng.w .i64 (0-x.val)).val= -x.val:=by rw [wi (by omega) (by omega)];omega
 rw [en] at e
 rcases zes (.w .i64 (0-x.val)) y with k|⟨c,k,kc⟩
 ·rw [k] at h;cases h
 ·have kb:=ok_bd kc
  rw [k] at e ⊢
  simp only at e ⊢
  rw [wi (by omega) (by omega)]
  omega
theorem divI_corner {a b:Iv} (h0:0<b.lo.val) (h:zn (zL a b)=true):zn a=true/\zn b=true /\
  ∀x y:I64,(x=a.lo\/x=a.hi)->(y=b.lo\/y=b.hi)->(zL a b).lo.val<=x.val*4294967296/y.val /\ -(-x.val*4294967296/y.val)<=(zL a b).hi.val:=by
 have nw:∀ {P:Prop},zn zA=true->P:=fun h=>by rw [zbY] at h;cases h
 simp only [zL,ze4,Tr.get] at h ⊢
 cases ha:zn a
 ·rw [ha] at h;exact nw h
 cases hb:zn b
 ·rw [ha,hb] at h;exact nw h
 have bb:=(zb5 _).1 hb
 have h0':0<b.hi.val:=by omega
 cases hz:zaM b ⟨0,rfl⟩
 case true=>rw [ha,hb,hz] at h;exact nw h
 simp only [ha,hb,hz,Bool.not_true,cfl] at h ⊢
 cases h1:(zM a.lo b.lo).b
 ·rw [h1] at h;exact nw h
 cases h2:(zad a.lo b.lo).b
 ·rw [h1,h2] at h;exact nw h
 cases h3:(zM a.lo b.hi).b
 ·rw [h1,h2,h3] at h;exact nw h
 cases h4:(zad a.lo b.hi).b
 ·rw [h1,h2,h3,h4] at h;exact nw h
 cases h5:(zM a.hi b.lo).b
 ·rw [h1,h2,h3,h4,h5] at h;exact nw h
 cases h6:(zad a.hi b.lo).b
 ·rw [h1,h2,h3,h4,h5,h6] at h;exact nw h
 cases h7:(zM a.hi b.hi).b
 ·rw [h1,h2,h3,h4,h5,h6,h7] at h;exact nw h
 cases h8:(zad a.hi b.hi).b
 ·rw [h1,h2,h3,h4,h5,h6,h7,h8] at h;exact nw h
 simp only [h1,h2,h3,h4,h5,h6,h7,h8,Bool.not_true,cfl] at h ⊢
 refine ⟨trivial,trivial,?_⟩
 have v1:=divdown_true h0 h1
 have v2:=divup_true h0 h2
 have v3:=divdown_true h0' h3
 have v4:=divup_true h0' h4
 have v5:=divdown_true h0 h5
 have v6:=divup_true h0 h6
 have v7:=divdown_true h0' h7
 have v8:=divup_true h0' h8
 generalize (zM a.lo b.lo).a=d1 at *
 generalize (zM a.lo b.hi).a=d2 at *
 generalize (zM a.hi b.lo).a=d3 at *
 generalize (zM a.hi b.hi).a=d4 at *
 generalize (zad a.lo b.lo).a=u1 at *
 generalize (zad a.lo b.hi).a=u2 at *
 generalize (zad a.hi b.lo).a=u3 at *
 generalize (zad a.hi b.hi).a=u4 at *
 have m1:=zfP ⟨1152921504606846976,rfl⟩ d1
 have m2:=zfP (zC ⟨1152921504606846976,rfl⟩ d1) d2
 have m3:=zfP (zC (zC ⟨1152921504606846976,rfl⟩ d1) d2) d3
 have m4:=zfP (zC (zC (zC ⟨1152921504606846976,rfl⟩ d1) d2) d3) d4
 have n1:=zeQ ⟨-1152921504606846976,rfl⟩ u1
 have n2:=zeQ (zz ⟨-1152921504606846976,rfl⟩ u1) u2
 have n3:=zeQ (zz (zz ⟨-1152921504606846976,rfl⟩ u1) u2) u3
 have n4:=zeQ (zz (zz (zz ⟨-1152921504606846976,rfl⟩ u1) u2) u3) u4
 generalize zC (zC (zC (zC ⟨1152921504606846976,rfl⟩ d1) d2) d3) d4=lo at *
 generalize zz (zz (zz (zz ⟨-1152921504606846976,rfl⟩ u1) u2) u3) u4=hi at *
 by_cases hm: -1152921504606846976<lo.val/\lo.val<=hi.val/\hi.val<1152921504606846976
 ·rw [zc0 hm]
  simp only
  rintro x y (rfl|rfl) (rfl|rfl)
  ·omega
  ·omega
  ·omega
  ·omega
 ·rw [make_no hm] at h;exact nw h
end Go.Proofs.YtfcjhkkpbnobhaaGreat.Ev
