/- The law FnRhumbs gives true, whatever bytes come in. No conditions. (One of the texts of its proof, put together by a program of this session.) -/
import Derived.Test.YtfcjhkkpbnobhaaGreatQW2
import Derived.Test.YtfcjhkkpbnobhaaGreatQPT
set_option linter.unusedSectionVars false
set_option linter.unusedSimpArgs false
set_option linter.unusedVariables false
noncomputable section
namespace Go.Proofs.YtfcjhkkpbnobhaaGreat.Ev
open Go Go.RowKit
set_option maxRecDepth 100000
section
variable [Amb]
def ET_spec_l06Over:Ent Tryz.prog:= .of2 Tb101 B101 (fun _ _=>true) zfo fun a0 a1 _=>(r_spec_l06Over a0 a1).trans (tt_over_spec a0 a1)
def B26:Bod Tryz.prog:=⟨26,Tryz.f26,Tryz.f26.body.getD .skip,Tryz.func26,by kernel_rfl,by kernel_rfl,zae.no _ _⟩
def Tb26:Tb Tryz.prog:= {T:= [Y2,Y30],mix:=mix,Es:= [ET_spec_l06Over],Bs:= [],d:=1}
def t_spec_CosI (a0:Iv):Tr (Iv):=
 .leaf (zfo a0 ⟨1,rfl⟩)
theorem r_spec_CosI (a0:Iv):Tb26.run B26 [enc a0] (Iv)=(t_spec_CosI a0).opt:=by kernel_rfl
def zbD:Iv->Iv:=fun a0=>(t_spec_CosI a0).get
theorem u_spec_CosI (a0:Iv):(t_spec_CosI a0).opt=some (zbD a0):=Tr.zL (by kernel_rfl)
def E_spec_CosI:Ent Tryz.prog:= .of1 Tb26 B26 (fun _=>true) zbD fun a0 _=>(r_spec_CosI a0).trans (u_spec_CosI a0)
def B118:Bod Tryz.prog:=⟨118,Tryz.f118,Tryz.f118.body.getD .skip,Tryz.func118,by kernel_rfl,by kernel_rfl,zae.no _ _⟩
def Tb118:Tb Tryz.prog:= {T:= [Y2,Y30],mix:=mix,Es:= [E_impl_circleHull],Bs:= [],d:=1}
def t_impl_CosI (a0:Iv):Tr (Iv):=
 .leaf (za1 a0 ⟨1,rfl⟩)
theorem r_impl_CosI (a0:Iv):Tb118.run B118 [enc a0] (Iv)=(t_impl_CosI a0).opt:=by kernel_rfl
def zeY:Iv->Iv:=fun a0=>(t_impl_CosI a0).get
theorem u_impl_CosI (a0:Iv):(t_impl_CosI a0).opt=some (zeY a0):=Tr.zL (by kernel_rfl)
def E_impl_CosI:Ent Tryz.prog:= .of1 Tb118 B118 (fun _=>true) zeY fun a0 _=>(r_impl_CosI a0).trans (u_impl_CosI a0)
def B27:Bod Tryz.prog:=⟨27,Tryz.f27,Tryz.f27.body.getD .skip,Tryz.func27,by kernel_rfl,by kernel_rfl,zae.no _ _⟩
def Tb27:Tb Tryz.prog:= {T:= [Y2,Y30],mix:=mix,Es:= [ET_spec_l06Over],Bs:= [],d:=1}
def t_spec_SinI (a0:Iv):Tr (Iv):=
 .leaf (zfo a0 ⟨0,rfl⟩)
theorem r_spec_SinI (a0:Iv):Tb27.run B27 [enc a0] (Iv)=(t_spec_SinI a0).opt:=by kernel_rfl
def zb5:Iv->Iv:=fun a0=>(t_spec_SinI a0).get
theorem u_spec_SinI (a0:Iv):(t_spec_SinI a0).opt=some (zb5 a0):=Tr.zL (by kernel_rfl)
def E_spec_SinI:Ent Tryz.prog:= .of1 Tb27 B27 (fun _=>true) zb5 fun a0 _=>(r_spec_SinI a0).trans (u_spec_SinI a0)
def B115:Bod Tryz.prog:=⟨115,Tryz.f115,Tryz.f115.body.getD .skip,Tryz.func115,by kernel_rfl,by kernel_rfl,zae.no _ _⟩
def Tb115:Tb Tryz.prog:= {T:= [Y2,Y30],mix:=mix,Es:= [E_impl_circleHull],Bs:= [],d:=1}
def t_impl_SinI (a0:Iv):Tr (Iv):=
 .leaf (za1 a0 ⟨0,rfl⟩)
theorem r_impl_SinI (a0:Iv):Tb115.run B115 [enc a0] (Iv)=(t_impl_SinI a0).opt:=by kernel_rfl
def F_impl_SinI:Iv->Iv:=fun a0=>(t_impl_SinI a0).get
theorem u_impl_SinI (a0:Iv):(t_impl_SinI a0).opt=some (F_impl_SinI a0):=Tr.zL (by kernel_rfl)
def E_impl_SinI:Ent Tryz.prog:= .of1 Tb115 B115 (fun _=>true) F_impl_SinI fun a0 _=>(r_impl_SinI a0).trans (u_impl_SinI a0)
def B283:Bod Tryz.prog:=⟨283,Tryz.f283,Tryz.f283.body.getD .skip,Tryz.func283,by kernel_rfl,by kernel_rfl,zae.no _ _⟩
def Tb283:Tb Tryz.prog:= {T:= [],mix:=mix,Es:= [],Bs:= [],d:=1}
def t_spec_l07Fix (a0:I64):Tr (Bool):=
 .br (decide ((-1152921504606846976)<a0.val)) (.leaf (decide (a0.val<1152921504606846976))) (.leaf false)
theorem r_spec_l07Fix (a0:I64):Tb283.run B283 [enc a0] (Bool)=(t_spec_l07Fix a0).opt:=by kernel_rfl
def zbj:I64->Bool:=fun a0=>(t_spec_l07Fix a0).get
theorem u_spec_l07Fix (a0:I64):(t_spec_l07Fix a0).opt=some (zbj a0):=Tr.zL (by kernel_rfl)
def E_spec_l07Fix:Ent Tryz.prog:= .of1 Tb283 B283 (fun _=>true) zbj fun a0 _=>(r_spec_l07Fix a0).trans (u_spec_l07Fix a0)
def B327:Bod Tryz.prog:=⟨327,Tryz.f327,Tryz.f327.body.getD .skip,Tryz.func327,by kernel_rfl,by kernel_rfl,zae.no _ _⟩
def Tb327:Tb Tryz.prog:= {T:= [Y2,Y30],mix:=mix,Es:= [E_spec_l05Turn],Bs:= [],d:=1}
def t_spec_l07Quarter:Tr (Iv):=
 .br (zcK ⟨1,rfl⟩) (.br (zcK ⟨1,rfl⟩) (.leaf ⟨(Rng.w .i64 (0-(zbA ⟨1,rfl⟩).hi.val)),(zbA ⟨1,rfl⟩).hi⟩) (.bad)) (.bad)
theorem r_spec_l07Quarter:Tb327.run B327 [] (Iv)=(t_spec_l07Quarter).opt:=by kernel_rfl
def za9:Iv:=(t_spec_l07Quarter).get
theorem u_spec_l07Quarter:(t_spec_l07Quarter).opt=some (za9):=Tr.get_some (by kernel_rfl)
def E_spec_l07Quarter:Ent Tryz.prog:= .of0 Tb327 B327 za9 (r_spec_l07Quarter.trans u_spec_l07Quarter)
def B362:Bod Tryz.prog:=⟨362,Tryz.f362,Tryz.f362.body.getD .skip,Tryz.func362,by kernel_rfl,by kernel_rfl,zae.no _ _⟩
def Tb362:Tb Tryz.prog:= {T:= [Y2,Y30],mix:=mix,Es:= [zfs,E_spec_AddI,ET_spec_SqrtI,E_spec_SqrI,ze2],Bs:= [],d:=1}
def zfE (a0:Iv):Tr (Iv):=
 .leaf (zz a0 (zP (zD ⟨1,rfl⟩) (zb8 (zP (zD ⟨1,rfl⟩) (zbe a0)))))
theorem r_spec_l07Halve (a0:Iv):Tb362.run B362 [enc a0] (Iv)=(zfE a0).opt:=by kernel_rfl
def zcV:Iv->Iv:=fun a0=>(zfE a0).get
theorem u_spec_l07Halve (a0:Iv):(zfE a0).opt=some (zcV a0):=Tr.zL (by kernel_rfl)
def E_spec_l07Halve:Ent Tryz.prog:= .of1 Tb362 B362 (fun _=>true) zcV fun a0 _=>(r_spec_l07Halve a0).trans (u_spec_l07Halve a0)
def B361:Bod Tryz.prog:=⟨361,Tryz.f361,Tryz.f361.body.getD .skip,Tryz.func361,by kernel_rfl,by kernel_rfl,zae.no _ _⟩
def Tb361:Tb Tryz.prog:= {T:= [Y2,Y30],mix:=mix,Es:= [ze1,E_spec_AddI,E_spec_InsideI,ze0,E_spec_SqrI,zd4,ET_spec_Quotient,E_spec_l06Tiny],Bs:= [],d:=1}
def ze4 (a0:Iv):Tr (Iv):=
 .br (!(zaZ a0 ⟨⟨(-1073741824),rfl⟩,⟨1073741824,rfl⟩⟩)) (.leaf zaR) (let c3:=zbe a0;.leaf (zP (zC a0 (zQ (zO ⟨1,rfl⟩ ⟨1,rfl⟩) (zC c3 (zQ (zO ⟨1,rfl⟩ ⟨3,rfl⟩) (zC c3 (zQ (zO ⟨1,rfl⟩ ⟨5,rfl⟩) (zC c3 (zQ (zO ⟨1,rfl⟩ ⟨7,rfl⟩) (zC c3 (zQ (zO ⟨1,rfl⟩ ⟨9,rfl⟩) (zC c3 (zQ (zO ⟨1,rfl⟩ ⟨11,rfl⟩) (zC c3 (zQ (zO ⟨1,rfl⟩ ⟨13,rfl⟩) (zC c3 (zQ (zO ⟨1,rfl⟩ ⟨15,rfl⟩) (zC c3 (zQ (zO ⟨1,rfl⟩ ⟨17,rfl⟩) (zC c3 (zQ (zO ⟨1,rfl⟩ ⟨19,rfl⟩) (zC c3 (zO ⟨1,rfl⟩ ⟨21,rfl⟩)))))))))))))))))))))) zbz))
theorem r_spec_ArcSeries (a0:Iv):Tb361.run B361 [enc a0] (Iv)=(ze4 a0).opt:=by kernel_rfl
def zc9:Iv->Iv:=fun a0=>(ze4 a0).get
theorem u_spec_ArcSeries (a0:Iv):(ze4 a0).opt=some (zc9 a0):=Tr.zL (by kernel_rfl)
def E_spec_ArcSeries:Ent Tryz.prog:= .of1 Tb361 B361 (fun _=>true) zc9 fun a0 _=>(r_spec_ArcSeries a0).trans (u_spec_ArcSeries a0)
def B360:Bod Tryz.prog:=⟨360,Tryz.f360,Tryz.f360.body.getD .skip,Tryz.func360,by kernel_rfl,by kernel_rfl,zae.no _ _⟩
def Tb360:Tb Tryz.prog:= {T:= [Y2,Y30],mix:=mix,Es:= [zas,za4,za6],Bs:= [],d:=1}
def t_spec_DoubleI (a0:Iv):Tr (Iv):=
 .br (!(za a0)) (.leaf zo) (.leaf (zai (Rng.w .i64 (2*a0.lo.val)) (Rng.w .i64 (2*a0.hi.val))))
theorem r_spec_DoubleI (a0:Iv):Tb360.run B360 [enc a0] (Iv)=(t_spec_DoubleI a0).opt:=by kernel_rfl
def zbX:Iv->Iv:=fun a0=>(t_spec_DoubleI a0).get
theorem u_spec_DoubleI (a0:Iv):(t_spec_DoubleI a0).opt=some (zbX a0):=Tr.zL (by kernel_rfl)
def E_spec_DoubleI:Ent Tryz.prog:= .of1 Tb360 B360 (fun _=>true) zbX fun a0 _=>(r_spec_DoubleI a0).trans (u_spec_DoubleI a0)
def B349:Bod Tryz.prog:=⟨349,Tryz.f349,Tryz.f349.body.getD .skip,Tryz.func349,by kernel_rfl,by kernel_rfl,zae.no _ _⟩
def Tb349:Tb Tryz.prog:= {T:= [Y2,Y30],mix:=mix,Es:= [E_spec_DoubleI,E_spec_ArcSeries,E_spec_l07Halve],Bs:= [],d:=1}
def t_spec_l07Core (a0:Iv):Tr (Iv):=
 .leaf (zbX (zbX (zc9 (zcV (zcV a0)))))
theorem r_spec_l07Core (a0:Iv):Tb349.run B349 [enc a0] (Iv)=(t_spec_l07Core a0).opt:=by kernel_rfl
def zbW:Iv->Iv:=fun a0=>(t_spec_l07Core a0).get
theorem u_spec_l07Core (a0:Iv):(t_spec_l07Core a0).opt=some (zbW a0):=Tr.zL (by kernel_rfl)
def E_spec_l07Core:Ent Tryz.prog:= .of1 Tb349 B349 (fun _=>true) zbW fun a0 _=>(r_spec_l07Core a0).trans (u_spec_l07Core a0)
def B328:Bod Tryz.prog:=⟨328,Tryz.f328,Tryz.f328.body.getD .skip,Tryz.func328,by kernel_rfl,by kernel_rfl,zae.no _ _⟩
def Tb328_p:Tb Tryz.prog:= {T:= [Y2,Y30],mix:=mix,Es:= [zfs,ET_spec_TurnI,ze0,ze2,E_spec_l05At,E_spec_l07Fix,E_spec_l07Quarter,E_spec_l07Core],Bs:= [],d:=1}
def zet (a0:I64):Tr (Iv):=
 .br (!(zbj a0)) (.leaf za9) (.br (decide (a0.val<0)) (.bad) (.br (decide (a0.val>4294967296)) (.leaf (zQ (zV ⟨1,rfl⟩) (zbW (zz (zD ⟨1,rfl⟩) (zq a0))))) (.leaf (zbW (zq a0)))))
theorem r_spec_AtanAt_p (a0:I64):Tb328_p.run B328 [enc a0] (Iv)=(zet a0).opt:=by kernel_rfl
def zcY:I64->Iv:=fun a0=>(zet a0).get
def zey:I64->Bool:=fun a0=>(zet a0).opt.isSome
def E_spec_AtanAt_p:Ent Tryz.prog:= .of1 Tb328_p B328 zey zcY fun a0 h=>(r_spec_AtanAt_p a0).trans (Tr.get_some h)
def Tb328:Tb Tryz.prog:= {T:= [Y2,Y30],mix:=mix,Es:= [zfs,ET_spec_TurnI,E_spec_NegI,ze0,ze2,E_spec_l05At,E_spec_l07Fix,E_spec_l07Quarter,E_spec_AtanAt_p,E_spec_l07Core],Bs:= [],d:=1}
def zeN (a0:I64):Tr (Iv):=
 .br (!(zbj a0)) (.leaf za9) (.br (decide (a0.val<0)) (let c3:=(Rng.w .i64 (0-a0.val));.br (zey c3) (.leaf (zaM (zcY c3))) (.bad)) (.br (decide (a0.val>4294967296)) (.leaf (zQ (zV ⟨1,rfl⟩) (zbW (zz (zD ⟨1,rfl⟩) (zq a0))))) (.leaf (zbW (zq a0)))))
theorem r_spec_AtanAt (a0:I64):Tb328.run B328 [enc a0] (Iv)=(zeN a0).opt:=by kernel_rfl
def zcp:I64->Iv:=fun a0=>(zeN a0).get
def B255:Bod Tryz.prog:=⟨255,Tryz.f255,Tryz.f255.body.getD .skip,Tryz.func255,by kernel_rfl,by kernel_rfl,zae.no _ _⟩
def Tb255:Tb Tryz.prog:= {T:= [],mix:=mix,Es:= [],Bs:= [],d:=1}
def t_impl_isOpen (a0:I64):Tr (Bool):=
 .br (decide ((-1152921504606846976)<a0.val)) (.leaf (decide (a0.val<1152921504606846976))) (.leaf false)
theorem r_impl_isOpen (a0:I64):Tb255.run B255 [enc a0] (Bool)=(t_impl_isOpen a0).opt:=by kernel_rfl
def zeW:I64->Bool:=fun a0=>(t_impl_isOpen a0).get
theorem u_impl_isOpen (a0:I64):(t_impl_isOpen a0).opt=some (zeW a0):=Tr.zL (by kernel_rfl)
def E_impl_isOpen:Ent Tryz.prog:= .of1 Tb255 B255 (fun _=>true) zeW fun a0 _=>(r_impl_isOpen a0).trans (u_impl_isOpen a0)
def B296:Bod Tryz.prog:=⟨296,Tryz.f296,Tryz.f296.body.getD .skip,Tryz.func296,by kernel_rfl,by kernel_rfl,zae.no _ _⟩
def Tb296:Tb Tryz.prog:= {T:= [Y2,Y30],mix:=mix,Es:= [ET_impl_TurnI],Bs:= [],d:=1}
def t_impl_halfCircle:Tr (Iv):=
 .leaf ⟨(Rng.w .i64 (0-(za8 ⟨1,rfl⟩).hi.val)),(za8 ⟨1,rfl⟩).hi⟩
theorem r_impl_halfCircle:Tb296.run B296 [] (Iv)=(t_impl_halfCircle).opt:=by kernel_rfl
def zb9:Iv:=(t_impl_halfCircle).get
theorem u_impl_halfCircle:(t_impl_halfCircle).opt=some (zb9):=Tr.zL (by kernel_rfl)
def E_impl_halfCircle:Ent Tryz.prog:= .of0 Tb296 B296 zb9 (r_impl_halfCircle.trans u_impl_halfCircle)
def B354:Bod Tryz.prog:=⟨354,Tryz.f354,Tryz.f354.body.getD .skip,Tryz.func354,by kernel_rfl,by kernel_rfl,zae.no _ _⟩
def Tb354:Tb Tryz.prog:= {T:= [Y2,Y30],mix:=mix,Es:= [zeg,E_impl_AddI,ET_impl_SqrtI,E_impl_DivI,ET_impl_SqrI],Bs:= [],d:=1}
def t_impl_halved (a0:Iv):Tr (Iv):=
 .leaf (za5 a0 (zaH (zac ⟨1,rfl⟩) (F_impl_SqrtI (zaH (zac ⟨1,rfl⟩) (zeX a0)))))
theorem r_impl_halved (a0:Iv):Tb354.run B354 [enc a0] (Iv)=(t_impl_halved a0).opt:=by kernel_rfl
def F_impl_halved:Iv->Iv:=fun a0=>(t_impl_halved a0).get
theorem u_impl_halved (a0:Iv):(t_impl_halved a0).opt=some (F_impl_halved a0):=Tr.zL (by kernel_rfl)
def E_impl_halved:Ent Tryz.prog:= .of1 Tb354 B354 (fun _=>true) F_impl_halved fun a0 _=>(r_impl_halved a0).trans (u_impl_halved a0)
def B353:Bod Tryz.prog:=⟨353,Tryz.f353,Tryz.f353.body.getD .skip,Tryz.func353,by kernel_rfl,by kernel_rfl,zae.no _ _⟩
def Tb353:Tb Tryz.prog:= {T:= [Y2,Y30],mix:=mix,Es:= [E_impl_AddI,ET_impl_MulI,E_impl_SubI,zaD,ET_impl_Quotient,ET_impl_SqrI,E_impl_InsideI,E_impl_tiny],Bs:= [],d:=1}
def t_impl_ArcSeries (a0:Iv):Tr (Iv):=
 .br (!(zed a0 ⟨⟨(-1073741824),rfl⟩,⟨1073741824,rfl⟩⟩)) (.leaf zH) (let c3:=zeX a0;.leaf (zaH (zaf a0 (zav (zam ⟨1,rfl⟩ ⟨1,rfl⟩) (zaf c3 (zav (zam ⟨1,rfl⟩ ⟨3,rfl⟩) (zaf c3 (zav (zam ⟨1,rfl⟩ ⟨5,rfl⟩) (zaf c3 (zav (zam ⟨1,rfl⟩ ⟨7,rfl⟩) (zaf c3 (zav (zam ⟨1,rfl⟩ ⟨9,rfl⟩) (zaf c3 (zav (zam ⟨1,rfl⟩ ⟨11,rfl⟩) (zaf c3 (zav (zam ⟨1,rfl⟩ ⟨13,rfl⟩) (zaf c3 (zav (zam ⟨1,rfl⟩ ⟨15,rfl⟩) (zaf c3 (zav (zam ⟨1,rfl⟩ ⟨17,rfl⟩) (zaf c3 (zav (zam ⟨1,rfl⟩ ⟨19,rfl⟩) (zaf c3 (zam ⟨1,rfl⟩ ⟨21,rfl⟩)))))))))))))))))))))) F_impl_tiny))
theorem r_impl_ArcSeries (a0:Iv):Tb353.run B353 [enc a0] (Iv)=(t_impl_ArcSeries a0).opt:=by kernel_rfl
def zfc:Iv->Iv:=fun a0=>(t_impl_ArcSeries a0).get
theorem u_impl_ArcSeries (a0:Iv):(t_impl_ArcSeries a0).opt=some (zfc a0):=Tr.zL (by kernel_rfl)
def E_impl_ArcSeries:Ent Tryz.prog:= .of1 Tb353 B353 (fun _=>true) zfc fun a0 _=>(r_impl_ArcSeries a0).trans (u_impl_ArcSeries a0)
def B337:Bod Tryz.prog:=⟨337,Tryz.f337,Tryz.f337.body.getD .skip,Tryz.func337,by kernel_rfl,by kernel_rfl,zae.no _ _⟩
def Tb337:Tb Tryz.prog:= {T:= [Y2,Y30],mix:=mix,Es:= [E_impl_AddI],Bs:= [],d:=1}
def t_impl_DoubleI (a0:Iv):Tr (Iv):=
 .leaf (zaH a0 a0)
theorem r_impl_DoubleI (a0:Iv):Tb337.run B337 [enc a0] (Iv)=(t_impl_DoubleI a0).opt:=by kernel_rfl
def zef:Iv->Iv:=fun a0=>(t_impl_DoubleI a0).get
theorem u_impl_DoubleI (a0:Iv):(t_impl_DoubleI a0).opt=some (zef a0):=Tr.zL (by kernel_rfl)
def E_impl_DoubleI:Ent Tryz.prog:= .of1 Tb337 B337 (fun _=>true) zef fun a0 _=>(r_impl_DoubleI a0).trans (u_impl_DoubleI a0)
def B334:Bod Tryz.prog:=⟨334,Tryz.f334,Tryz.f334.body.getD .skip,Tryz.func334,by kernel_rfl,by kernel_rfl,zae.no _ _⟩
def Tb334:Tb Tryz.prog:= {T:= [Y2,Y30],mix:=mix,Es:= [E_impl_DoubleI,E_impl_ArcSeries,E_impl_halved],Bs:= [],d:=1}
def t_impl_fourfold (a0:Iv):Tr (Iv):=
 .leaf (zef (zef (zfc (F_impl_halved (F_impl_halved a0)))))
theorem r_impl_fourfold (a0:Iv):Tb334.run B334 [enc a0] (Iv)=(t_impl_fourfold a0).opt:=by kernel_rfl
def zcZ:Iv->Iv:=fun a0=>(t_impl_fourfold a0).get
theorem u_impl_fourfold (a0:Iv):(t_impl_fourfold a0).opt=some (zcZ a0):=Tr.zL (by kernel_rfl)
def E_impl_fourfold:Ent Tryz.prog:= .of1 Tb334 B334 (fun _=>true) zcZ fun a0 _=>(r_impl_fourfold a0).trans (u_impl_fourfold a0)
def B297:Bod Tryz.prog:=⟨297,Tryz.f297,Tryz.f297.body.getD .skip,Tryz.func297,by kernel_rfl,by kernel_rfl,zae.no _ _⟩
def Tb297_p:Tb Tryz.prog:= {T:= [Y2,Y30],mix:=mix,Es:= [zeg,E_impl_SubI,E_impl_DivI,E_impl_at,ET_impl_TurnI,E_impl_isOpen,E_impl_halfCircle,E_impl_fourfold],Bs:= [],d:=1}
def zfT (a0:I64):Tr (Iv):=
 .br (!(zeW a0)) (.leaf zb9) (.br (decide (a0.val<0)) (.bad) (.br (decide (a0.val>4294967296)) (.leaf (zav (za8 ⟨1,rfl⟩) (zcZ (za5 (zac ⟨1,rfl⟩) (zbH a0))))) (.leaf (zcZ (zbH a0)))))
theorem r_impl_AtanAt_p (a0:I64):Tb297_p.run B297 [enc a0] (Iv)=(zfT a0).opt:=by kernel_rfl
def F_impl_AtanAt_p:I64->Iv:=fun a0=>(zfT a0).get
def G_impl_AtanAt_p:I64->Bool:=fun a0=>(zfT a0).opt.isSome
def E_impl_AtanAt_p:Ent Tryz.prog:= .of1 Tb297_p B297 G_impl_AtanAt_p F_impl_AtanAt_p fun a0 h=>(r_impl_AtanAt_p a0).trans (Tr.get_some h)
def Tb297:Tb Tryz.prog:= {T:= [Y2,Y30],mix:=mix,Es:= [zeg,E_impl_SubI,E_impl_DivI,E_impl_NegI,E_impl_at,ET_impl_TurnI,E_impl_isOpen,E_impl_halfCircle,E_impl_AtanAt_p,E_impl_fourfold],Bs:= [],d:=1}
def t_impl_AtanAt (a0:I64):Tr (Iv):=
 .br (!(zeW a0)) (.leaf zb9) (.br (decide (a0.val<0)) (let c3:=(Rng.w .i64 (0-a0.val));.br (G_impl_AtanAt_p c3) (.leaf (zdb (F_impl_AtanAt_p c3))) (.bad)) (.br (decide (a0.val>4294967296)) (.leaf (zav (za8 ⟨1,rfl⟩) (zcZ (za5 (zac ⟨1,rfl⟩) (zbH a0))))) (.leaf (zcZ (zbH a0)))))
theorem r_impl_AtanAt (a0:I64):Tb297.run B297 [enc a0] (Iv)=(t_impl_AtanAt a0).opt:=by kernel_rfl
def zeZ:I64->Iv:=fun a0=>(t_impl_AtanAt a0).get
def B367:Bod Tryz.prog:=⟨367,Tryz.f367,Tryz.f367.body.getD .skip,Tryz.func367,by kernel_rfl,by kernel_rfl,zae.no _ _⟩
def Tb367_p:Tb Tryz.prog:= {T:= [Y2,Y30],mix:=mix,Es:= [zcc,zas,za4,zeE],Bs:= [],d:=1}
def zb0 (a0:I64):Tr (Iv):=
 .br (!(zar a0 ⟨(-64),rfl⟩ ⟨64,rfl⟩)) (.leaf zo) (.br (decide (a0.val<0)) (.bad) (.leaf (zai (zaq a0 ⟨1598288580650331957,rfl⟩ ⟨29,rfl⟩).a (Rng.w .i64 (0-(zaq (Rng.w .i64 (0-a0.val)) ⟨1598288580650331958,rfl⟩ ⟨29,rfl⟩).a.val)))))
theorem r_spec_LogTwoI_p (a0:I64):Tb367_p.run B367 [enc a0] (Iv)=(zb0 a0).opt:=by kernel_rfl
def F_spec_LogTwoI_p:I64->Iv:=fun a0=>(zb0 a0).get
def zdS:I64->Bool:=fun a0=>(zb0 a0).opt.isSome
def E_spec_LogTwoI_p:Ent Tryz.prog:= .of1 Tb367_p B367 zdS F_spec_LogTwoI_p fun a0 h=>(r_spec_LogTwoI_p a0).trans (Tr.get_some h)
def Tb367:Tb Tryz.prog:= {T:= [Y2,Y30],mix:=mix,Es:= [E_spec_NegI,zcc,zas,za4,zeE,E_spec_LogTwoI_p],Bs:= [],d:=1}
def zcI (a0:I64):Tr (Iv):=
 .br (!(zar a0 ⟨(-64),rfl⟩ ⟨64,rfl⟩)) (.leaf zo) (.br (decide (a0.val<0)) (let c3:=(Rng.w .i64 (0-a0.val));.br (zdS c3) (.leaf (zaM (F_spec_LogTwoI_p c3))) (.bad)) (.leaf (zai (zaq a0 ⟨1598288580650331957,rfl⟩ ⟨29,rfl⟩).a (Rng.w .i64 (0-(zaq (Rng.w .i64 (0-a0.val)) ⟨1598288580650331958,rfl⟩ ⟨29,rfl⟩).a.val)))))
theorem r_spec_LogTwoI (a0:I64):Tb367.run B367 [enc a0] (Iv)=(zcI a0).opt:=by kernel_rfl
def zcO:I64->Iv:=fun a0=>(zcI a0).get
def B331:Bod Tryz.prog:=⟨331,Tryz.f331,Tryz.f331.body.getD .skip,Tryz.func331,by kernel_rfl,by kernel_rfl,zae.no _ _⟩
def Tb331_p:Tb Tryz.prog:= {T:= [Y2,Y30],mix:=mix,Es:= [zaD,zbO,ET_impl_MulFloor],Bs:= [],d:=1}
def zdO (a0:I64):Tr (Iv):=
 .br (!(zaK a0 ⟨(-64),rfl⟩ ⟨64,rfl⟩)) (.leaf zH) (.br (decide (a0.val<0)) (.bad) (.leaf ⟨(zbI a0 ⟨1598288580650331957,rfl⟩ ⟨29,rfl⟩).a,(Rng.w .i64 (0-(zbI (Rng.w .i64 (0-a0.val)) ⟨1598288580650331958,rfl⟩ ⟨29,rfl⟩).a.val))⟩))
theorem r_impl_LogTwoI_p (a0:I64):Tb331_p.run B331 [enc a0] (Iv)=(zdO a0).opt:=by kernel_rfl
def F_impl_LogTwoI_p:I64->Iv:=fun a0=>(zdO a0).get
def G_impl_LogTwoI_p:I64->Bool:=fun a0=>(zdO a0).opt.isSome
def E_impl_LogTwoI_p:Ent Tryz.prog:= .of1 Tb331_p B331 G_impl_LogTwoI_p F_impl_LogTwoI_p fun a0 h=>(r_impl_LogTwoI_p a0).trans (Tr.get_some h)
def Tb331:Tb Tryz.prog:= {T:= [Y2,Y30],mix:=mix,Es:= [zaD,zbO,E_impl_NegI,ET_impl_MulFloor,E_impl_LogTwoI_p],Bs:= [],d:=1}
def zd9 (a0:I64):Tr (Iv):=
 .br (!(zaK a0 ⟨(-64),rfl⟩ ⟨64,rfl⟩)) (.leaf zH) (.br (decide (a0.val<0)) (let c3:=(Rng.w .i64 (0-a0.val));.br (G_impl_LogTwoI_p c3) (.leaf (zdb (F_impl_LogTwoI_p c3))) (.bad)) (.leaf ⟨(zbI a0 ⟨1598288580650331957,rfl⟩ ⟨29,rfl⟩).a,(Rng.w .i64 (0-(zbI (Rng.w .i64 (0-a0.val)) ⟨1598288580650331958,rfl⟩ ⟨29,rfl⟩).a.val))⟩))
theorem r_impl_LogTwoI (a0:I64):Tb331.run B331 [enc a0] (Iv)=(zd9 a0).opt:=by kernel_rfl
def F_impl_LogTwoI:I64->Iv:=fun a0=>(zd9 a0).get
def Y40:TyE Tryz.prog:=⟨40,6,(.struct [(0,30,2),(2,30,2),(4,30,2)]),[.i64 ⟨0,rfl⟩,.i64 ⟨0,rfl⟩,.i64 ⟨0,rfl⟩,.i64 ⟨0,rfl⟩,.i64 ⟨0,rfl⟩,.i64 ⟨0,rfl⟩],false,by kernel_rfl,by kernel_rfl,by kernel_rfl,by kernel_rfl,by kernel_rfl,by kernel_rfl⟩
end
end Go.Proofs.YtfcjhkkpbnobhaaGreat.Ev
namespace Go.Proofs.YtfcjhkkpbnobhaaGreat.Ev
open Go
theorem quot_eq (a b:I64):zam a b=zO a b:=(q_F_impl a b).trans (q_F_spec a b).symm
theorem radians_eq (n:I64):zdU n=zaa n:=by
 have h:=rad_eq n
 have h2:=tt_rad_spec n
 have h1:=tt_rad_impl n
 rw [h.1,h2] at h1
 exact (Option.some.inj h1).symm
theorem cosI_eq (x:Iv):zeY x=zbD x:=by simp only [zeY,t_impl_CosI,zbD,t_spec_CosI,Tr.get,over_eq]
theorem sinI_eq (x:Iv):F_impl_SinI x=zb5 x:=by simp only [F_impl_SinI,t_impl_SinI,zb5,t_spec_SinI,Tr.get,over_eq]
theorem double_eq (a:Iv):zef a=zbX a:=by
 simp only [zef,t_impl_DoubleI,zbX,t_spec_DoubleI,Tr.get,add_eq,zP,zfN]
 cases za a
 ·rfl
 simp only [Bool.not_true,cond_false]
 have e1:a.lo.val+a.lo.val=2*a.lo.val:=by omega
 have e2:a.hi.val+a.hi.val=2*a.hi.val:=by omega
 rw [e1,e2]
theorem halve_eq (a:Iv):F_impl_halved a=zcV a:=by
 simp only [F_impl_halved,t_impl_halved,zcV,zfE,Tr.get,add_eq,divI_F,integer_eq,sqrtI_eq,sqrI_F]
theorem arcs_eq (a:Iv):zfc a=zc9 a:=by
 simp only [zfc,t_impl_ArcSeries,zc9,ze4,Tr.get,add_eq,sub_eq,mulI_F,sqrI_F,quot_eq,tiny_eq,inside_eq,zbt,zcz]
theorem core_eq (a:Iv):zcZ a=zbW a:=by
 simp only [zcZ,t_impl_fourfold,zbW,t_spec_l07Core,Tr.get,double_eq,arcs_eq,halve_eq]
theorem fix_eq (n:I64):zeW n=zbj n:=rfl
theorem fix_iff (n:I64):zbj n=true↔(-1152921504606846976<n.val/\n.val<1152921504606846976):=by
 simp only [zbj,t_spec_l07Fix,Tr.get]
 by_cases h1:(-1152921504606846976:Int)<n.val<;>simp [h1]
theorem turn_in {k:I64} (h: -4096<=k.val) (h':k.val<=4096):zcK k=true/\zV k=zbA k:=by
 obtain ⟨x,h1,h2,h3⟩:=turn_ok k h h'
 have g:zcK k=true:=by unfold zcK;rw [h1];rfl
 have hi:zar k ⟨(-4096),rfl⟩ ⟨4096,rfl⟩=true:=by rw [zeF];simpa using ⟨h,h'⟩
 exact ⟨g,by simp only [zV,zfI,Tr.get,hi,g,Bool.not_true,cond_false,cond_true]⟩
theorem half_eq:zb9=za9:=by
 obtain ⟨g,e⟩:=turn_in (k:=⟨1,rfl⟩) (by decide) (by decide)
 simp only [zb9,t_impl_halfCircle,za9,t_spec_l07Quarter,Tr.get,turnI_eq,e,g,cond_true]
theorem atanp_ok (n:I64) (h:¬n.val<0):(zet n).opt=some (zcY n)/\(zfT n).opt=some (zcY n):=by
 have hn:decide (n.val<0)=false:=by simpa using h
 simp only [zet,zfT,zcY,Tr.opt,Tr.get,hn,cond_false,fix_eq,half_eq,sub_eq,turnI_eq,core_eq,divI_F,integer_eq,at_eq]
 cases zbj n<;>cases decide (n.val>4294967296)<;>exact ⟨rfl,rfl⟩
theorem atan_ok (n:I64):∃x,(zeN n).opt=some x/\(t_impl_AtanAt n).opt=some x:=by
 simp only [zeN,t_impl_AtanAt,Tr.opt,fix_eq,half_eq,sub_eq,turnI_eq,core_eq,divI_F,integer_eq,at_eq]
 cases hf:zbj n
 ·exact ⟨_,rfl,rfl⟩
 have hb:=(fix_iff n).1 hf
 by_cases hn:n.val<0
 ·have e1:(Rng.w .i64 (0-n.val)).val=0-n.val:=wi (by omega) (by omega)
  obtain ⟨a1,a2⟩:=atanp_ok (.w .i64 (0-n.val)) (by omega)
  have g1:zey (.w .i64 (0-n.val))=true:=by unfold zey;rw [a1];rfl
  have g2:G_impl_AtanAt_p (.w .i64 (0-n.val))=true:=by unfold G_impl_AtanAt_p;rw [a2];rfl
  have f2:F_impl_AtanAt_p (.w .i64 (0-n.val))=zcY (.w .i64 (0-n.val)):=Tr.zan a2
  simp only [hn,decide_true,cond_true,g1,g2,f2,neg_eq,Bool.not_true,cond_false]
  exact ⟨_,rfl,rfl⟩
 ·simp only [hn,decide_false,cond_false,Bool.not_true]
  cases decide (n.val>4294967296)<;>exact ⟨_,rfl,rfl⟩
theorem atan_eq (n:I64):zeZ n=zcp n:=by
 obtain ⟨x,h1,h2⟩:=atan_ok n
 exact (Tr.zan h2).trans (Tr.zan h1).symm
theorem tt_atan_spec (n:I64):(zeN n).opt=some (zcp n):=by obtain ⟨x,h1,_⟩:=atan_ok n;exact zdi h1
theorem tt_atan_impl (n:I64):(t_impl_AtanAt n).opt=some (zeZ n):=by obtain ⟨x,_,h1⟩:=atan_ok n;exact zdi h1
theorem log_lo {k:I64} (h:0<=k.val) (h':k.val<=64):zaq k ⟨1598288580650331957,rfl⟩ ⟨29,rfl⟩=⟨.w .i64 (k.val*1598288580650331957/536870912),true⟩ /\
  zaq (.w .i64 (0-k.val)) ⟨1598288580650331958,rfl⟩ ⟨29,rfl⟩=⟨.w .i64 ((0-k.val)*1598288580650331958/536870912),true⟩ /\
  0<=k.val*1598288580650331957/536870912/\k.val*1598288580650331957/536870912 <= -((0-k.val)*1598288580650331958/536870912) /\ -((0-k.val)*1598288580650331958/536870912)<=200000000000:=by
 have hb:0<=k.val*1598288580650331957/536870912/\k.val*1598288580650331957/536870912 <= -((0-k.val)*1598288580650331958/536870912) /\ -((0-k.val)*1598288580650331958/536870912)<=200000000000:=by omega
 have en:(Rng.w .i64 (0-k.val)).val=0-k.val:=wi (by omega) (by omega)
 refine ⟨?_,?_,hb⟩
 ·rw [mf29];exact narrow_ok (v:=k.val*1598288580650331957/536870912) (by omega) (by omega)
 ·rw [mf29,en];exact narrow_ok (v:=(0-k.val)*1598288580650331958/536870912) (by omega) (by omega)
theorem logp (k:I64) (h:0<=k.val) (h':k.val<=64):∃x:Iv,(zb0 k).opt=some x/\(zdO k).opt=some x/\za x=true:=by
 have hw:zaK k ⟨(-64),rfl⟩ ⟨64,rfl⟩=true:=by rw [zcQ];simp;omega
 have hi:zar k ⟨(-64),rfl⟩ ⟨64,rfl⟩=true:=by rw [zeF];simp;omega
 have hn:decide (k.val<0)=false:=by simp;omega
 obtain ⟨e1,e2,b1,b2,b3⟩:=log_lo h h'
 have v1:(Rng.w .i64 (k.val*1598288580650331957/536870912)).val=k.val*1598288580650331957/536870912:=wi (by omega) (by omega)
 have v2:(Rng.w .i64 ((0-k.val)*1598288580650331958/536870912)).val=(0-k.val)*1598288580650331958/536870912:=wi (by omega) (by omega)
 have v3:(Rng.w .i64 (0-(0-k.val)*1598288580650331958/536870912)).val=0-(0-k.val)*1598288580650331958/536870912:=wi (by omega) (by omega)
 have hok: -1152921504606846976<(Rng.w .i64 (k.val*1598288580650331957/536870912)).val/\(Rng.w .i64 (k.val*1598288580650331957/536870912)).val<=(Rng.w .i64 (0-(Rng.w .i64 ((0-k.val)*1598288580650331958/536870912)).val)).val/\(Rng.w .i64 (0-(Rng.w .i64 ((0-k.val)*1598288580650331958/536870912)).val)).val<1152921504606846976:=by
  rw [v1,v2,v3];omega
 refine ⟨⟨.w .i64 (k.val*1598288580650331957/536870912),.w .i64 (0-(Rng.w .i64 ((0-k.val)*1598288580650331958/536870912)).val)⟩,?_,?_,(zbR _).2 hok⟩
 ·simp only [zb0,Tr.opt,hi,hn,Bool.not_true,cond_false,e1,e2]
  rw [zcx hok]
 ·simp only [zdO,Tr.opt,hw,hn,Bool.not_true,cond_false,mulfloor_F,e1,e2]
theorem logTwo_ok (k:I64):∃x:Iv,(zcI k).opt=some x/\(zd9 k).opt=some x:=by
 by_cases h: -64<=k.val/\k.val<=64
 ·have hw:zaK k ⟨(-64),rfl⟩ ⟨64,rfl⟩=true:=by rw [zcQ];simpa using h
  have hi:zar k ⟨(-64),rfl⟩ ⟨64,rfl⟩=true:=by rw [zeF];simpa using h
  by_cases hn:k.val<0
  ·have e1:(Rng.w .i64 (0-k.val)).val=0-k.val:=wi (by omega) (by omega)
   obtain ⟨x,h1,h2,h3⟩:=logp (.w .i64 (0-k.val)) (by omega) (by omega)
   have g1:zdS (.w .i64 (0-k.val))=true:=by unfold zdS;rw [h1];rfl
   have g2:G_impl_LogTwoI_p (.w .i64 (0-k.val))=true:=by unfold G_impl_LogTwoI_p;rw [h2];rfl
   have f1:F_spec_LogTwoI_p (.w .i64 (0-k.val))=x:=Tr.zan h1
   have f2:F_impl_LogTwoI_p (.w .i64 (0-k.val))=x:=Tr.zan h2
   have hd:decide (k.val<0)=true:=by simpa using hn
   exact ⟨zaM x,by simp only [zcI,Tr.opt,hi,hd,g1,f1,cond_true,cond_false,Bool.not_true],by simp only [zd9,Tr.opt,hw,hd,g2,f2,cond_true,cond_false,Bool.not_true,neg_eq]⟩
  ·obtain ⟨x,h1,h2,h3⟩:=logp k (by omega) (by omega)
   have hd:decide (k.val<0)=false:=by simpa using hn
   refine ⟨x,?_,?_⟩
   ·simp only [zb0,Tr.opt,hd] at h1
    simp only [zcI,Tr.opt,hd]
    exact h1
   ·simp only [zdO,Tr.opt,hd,hw] at h2
    simp only [zd9,Tr.opt,hd,hw]
    exact h2
 ·have hi:zar k ⟨(-64),rfl⟩ ⟨64,rfl⟩=false:=by rw [zeF];simpa using h
  have hw:zaK k ⟨(-64),rfl⟩ ⟨64,rfl⟩=false:=by rw [zcQ];simpa using h
  exact ⟨zo,by simp only [zcI,Tr.opt,hi,Bool.not_false,cond_true],by simp only [zd9,Tr.opt,hw,Bool.not_false,cond_true,zbt]⟩
theorem tt_log2_spec (k:I64):(zcI k).opt=some (zcO k):=by obtain ⟨x,h1,_⟩:=logTwo_ok k;exact zdi h1
theorem tt_log2_impl (k:I64):(zd9 k).opt=some (F_impl_LogTwoI k):=by obtain ⟨x,_,h1⟩:=logTwo_ok k;exact zdi h1
theorem log2_eq (k:I64):F_impl_LogTwoI k=zcO k:=by
 obtain ⟨x,h1,h2⟩:=logTwo_ok k
 exact (Tr.zan h2).trans (Tr.zan h1).symm
end Go.Proofs.YtfcjhkkpbnobhaaGreat.Ev
namespace Go.Proofs.YtfcjhkkpbnobhaaGreat.Ev
open Go Go.RowKit
set_option maxRecDepth 100000
section
variable [Amb]
def ET_spec_AtanAt:Ent Tryz.prog:= .of1 Tb328 B328 (fun _=>true) zcp fun a0 _=>(r_spec_AtanAt a0).trans (tt_atan_spec a0)
def ET_impl_AtanAt:Ent Tryz.prog:= .of1 Tb297 B297 (fun _=>true) zeZ fun a0 _=>(r_impl_AtanAt a0).trans (tt_atan_impl a0)
def ET_spec_LogTwoI:Ent Tryz.prog:= .of1 Tb367 B367 (fun _=>true) zcO fun a0 _=>(r_spec_LogTwoI a0).trans (tt_log2_spec a0)
def ET_impl_LogTwoI:Ent Tryz.prog:= .of1 Tb331 B331 (fun _=>true) F_impl_LogTwoI fun a0 _=>(r_impl_LogTwoI a0).trans (tt_log2_impl a0)
def B58:Bod Tryz.prog:=⟨58,Tryz.f58,Tryz.f58.body.getD .skip,Tryz.func58,by kernel_rfl,by kernel_rfl,zae.no _ _⟩
def Tb58:Tb Tryz.prog:= {T:= [Y2,Y30],mix:=mix,Es:= [zas,za4,za6,E_spec_l04Ends],Bs:= [],d:=1}
def t_spec_AbsI (a0:Iv):Tr (Iv):=
 .br (!(za a0)) (.leaf zo) (let c3:=zM a0;.leaf (zai c3.a c3.b))
theorem r_spec_AbsI (a0:Iv):Tb58.run B58 [enc a0] (Iv)=(t_spec_AbsI a0).opt:=by kernel_rfl
def zbm:Iv->Iv:=fun a0=>(t_spec_AbsI a0).get
theorem u_spec_AbsI (a0:Iv):(t_spec_AbsI a0).opt=some (zbm a0):=Tr.zL (by kernel_rfl)
def E_spec_AbsI:Ent Tryz.prog:= .of1 Tb58 B58 (fun _=>true) zbm fun a0 _=>(r_spec_AbsI a0).trans (u_spec_AbsI a0)
def B130:Bod Tryz.prog:=⟨130,Tryz.f130,Tryz.f130.body.getD .skip,Tryz.func130,by kernel_rfl,by kernel_rfl,zae.no _ _⟩
def Tb130:Tb Tryz.prog:= {T:= [Y30],mix:=mix,Es:= [za6],Bs:= [],d:=1}
def t_spec_IsWhole (a0:Iv):Tr (Bool):=
 .leaf (!(za a0))
theorem r_spec_IsWhole (a0:Iv):Tb130.run B130 [enc a0] (Bool)=(t_spec_IsWhole a0).opt:=by kernel_rfl
def za3:Iv->Bool:=fun a0=>(t_spec_IsWhole a0).get
theorem u_spec_IsWhole (a0:Iv):(t_spec_IsWhole a0).opt=some (za3 a0):=Tr.zL (by kernel_rfl)
def E_spec_IsWhole:Ent Tryz.prog:= .of1 Tb130 B130 (fun _=>true) za3 fun a0 _=>(r_spec_IsWhole a0).trans (u_spec_IsWhole a0)
def B284:Bod Tryz.prog:=⟨284,Tryz.f284,Tryz.f284.body.getD .skip,Tryz.func284,by kernel_rfl,by kernel_rfl,zae.no _ _⟩
def Tb284:Tb Tryz.prog:= {T:= [Y2,Y30],mix:=mix,Es:= [E_spec_IsWhole,E_spec_HullI,E_spec_l07Quarter,ET_spec_AtanAt],Bs:= [],d:=1}
def t_spec_AtanI (a0:Iv):Tr (Iv):=
 .br (za3 a0) (.leaf za9) (.leaf (zW (zcp a0.lo) (zcp a0.hi)))
theorem r_spec_AtanI (a0:Iv):Tb284.run B284 [enc a0] (Iv)=(t_spec_AtanI a0).opt:=by kernel_rfl
def zah:Iv->Iv:=fun a0=>(t_spec_AtanI a0).get
theorem u_spec_AtanI (a0:Iv):(t_spec_AtanI a0).opt=some (zah a0):=Tr.zL (by kernel_rfl)
def E_spec_AtanI:Ent Tryz.prog:= .of1 Tb284 B284 (fun _=>true) zah fun a0 _=>(r_spec_AtanI a0).trans (u_spec_AtanI a0)
def B236:Bod Tryz.prog:=⟨236,Tryz.f236,Tryz.f236.body.getD .skip,Tryz.func236,by kernel_rfl,by kernel_rfl,zae.no _ _⟩
def Tb236:Tb Tryz.prog:= {T:= [Y2,Y30],mix:=mix,Es:= [zbY,E_impl_HullI,E_impl_halfCircle,ET_impl_AtanAt],Bs:= [],d:=1}
def t_impl_AtanI (a0:Iv):Tr (Iv):=
 .br (zal a0) (.leaf zb9) (.leaf (zaw (zeZ a0.lo) (zeZ a0.hi)))
theorem r_impl_AtanI (a0:Iv):Tb236.run B236 [enc a0] (Iv)=(t_impl_AtanI a0).opt:=by kernel_rfl
def zc2:Iv->Iv:=fun a0=>(t_impl_AtanI a0).get
theorem u_impl_AtanI (a0:Iv):(t_impl_AtanI a0).opt=some (zc2 a0):=Tr.zL (by kernel_rfl)
def E_impl_AtanI:Ent Tryz.prog:= .of1 Tb236 B236 (fun _=>true) zc2 fun a0 _=>(r_impl_AtanI a0).trans (u_impl_AtanI a0)
def B18:Bod Tryz.prog:=⟨18,Tryz.f18,Tryz.f18.body.getD .skip,Tryz.func18,by kernel_rfl,by kernel_rfl,zae.no _ _⟩
def Tb18:Tb Tryz.prog:= {T:= [Y30],mix:=mix,Es:= [za6,E_spec_l04Has],Bs:= [],d:=1}
def t_spec_HasI (a0:Iv) (a1:I64):Tr (Bool):=
 .br (!(za a0)) (.leaf true) (.leaf (zaO a0 a1))
theorem r_spec_HasI (a0:Iv) (a1:I64):Tb18.run B18 [enc a0,enc a1] (Bool)=(t_spec_HasI a0 a1).opt:=by kernel_rfl
def zc8:Iv->I64->Bool:=fun a0 a1=>(t_spec_HasI a0 a1).get
theorem u_spec_HasI (a0:Iv) (a1:I64):(t_spec_HasI a0 a1).opt=some (zc8 a0 a1):=Tr.zL (by kernel_rfl)
def E_spec_HasI:Ent Tryz.prog:= .of2 Tb18 B18 (fun _ _=>true) zc8 fun a0 a1 _=>(r_spec_HasI a0 a1).trans (u_spec_HasI a0 a1)
def B214:Bod Tryz.prog:=⟨214,Tryz.f214,Tryz.f214.body.getD .skip,Tryz.func214,by kernel_rfl,by kernel_rfl,zae.no _ _⟩
def Tb214:Tb Tryz.prog:= {T:= [Y2,Y30],mix:=mix,Es:= [E_spec_AddI,ET_spec_TurnI,ze0,zd4,ze2,E_spec_l05At,E_spec_l07Fix,E_spec_AtanI],Bs:= [],d:=1}
def zfv (a0:I64) (a1:I64):Tr (Iv):=
 .br (!(zbj a0)) (.leaf zaR) (.br (!(zbj a1)) (.leaf zaR) (.br (a1.val==0) (.br (a0.val==0) (.leaf zaR) (.br (decide (a0.val<0)) (let c6:=(Rng.w .i64 (0-a0.val));.br (decide (c6.val>a1.val)) (.br (decide (c6.val>(Rng.w .i64 (0-a1.val)).val)) (.br (decide (a0.val<0)) (.leaf (zQ (zV ⟨(-1),rfl⟩) (zah (zz (zq a1) (zq a0))))) (.leaf (zQ (zV ⟨1,rfl⟩) (zah (zz (zq a1) (zq a0)))))) (.br (decide (a1.val>0)) (.leaf (zah (zz (zq a0) (zq a1)))) (.br (decide (a0.val<0)) (.leaf (zP (zah (zz (zq a0) (zq a1))) (zV ⟨(-2),rfl⟩))) (.leaf (zP (zah (zz (zq a0) (zq a1))) (zV ⟨2,rfl⟩)))))) (.br (decide (a1.val>0)) (.leaf (zah (zz (zq a0) (zq a1)))) (.br (decide (a0.val<0)) (.leaf (zP (zah (zz (zq a0) (zq a1))) (zV ⟨(-2),rfl⟩))) (.leaf (zP (zah (zz (zq a0) (zq a1))) (zV ⟨2,rfl⟩)))))) (.br (decide (a0.val>a1.val)) (.br (decide (a0.val>(Rng.w .i64 (0-a1.val)).val)) (.br (decide (a0.val<0)) (.leaf (zQ (zV ⟨(-1),rfl⟩) (zah (zz (zq a1) (zq a0))))) (.leaf (zQ (zV ⟨1,rfl⟩) (zah (zz (zq a1) (zq a0)))))) (.br (decide (a1.val>0)) (.leaf (zah (zz (zq a0) (zq a1)))) (.br (decide (a0.val<0)) (.leaf (zP (zah (zz (zq a0) (zq a1))) (zV ⟨(-2),rfl⟩))) (.leaf (zP (zah (zz (zq a0) (zq a1))) (zV ⟨2,rfl⟩)))))) (.br (decide (a1.val>0)) (.leaf (zah (zz (zq a0) (zq a1)))) (.br (decide (a0.val<0)) (.leaf (zP (zah (zz (zq a0) (zq a1))) (zV ⟨(-2),rfl⟩))) (.leaf (zP (zah (zz (zq a0) (zq a1))) (zV ⟨2,rfl⟩)))))))) (.br (decide (a0.val<0)) (let c101:=(Rng.w .i64 (0-a0.val));.br (decide (c101.val>a1.val)) (.br (decide (c101.val>(Rng.w .i64 (0-a1.val)).val)) (.br (decide (a0.val<0)) (.leaf (zQ (zV ⟨(-1),rfl⟩) (zah (zz (zq a1) (zq a0))))) (.leaf (zQ (zV ⟨1,rfl⟩) (zah (zz (zq a1) (zq a0)))))) (.br (decide (a1.val>0)) (.leaf (zah (zz (zq a0) (zq a1)))) (.br (decide (a0.val<0)) (.leaf (zP (zah (zz (zq a0) (zq a1))) (zV ⟨(-2),rfl⟩))) (.leaf (zP (zah (zz (zq a0) (zq a1))) (zV ⟨2,rfl⟩)))))) (.br (decide (a1.val>0)) (.leaf (zah (zz (zq a0) (zq a1)))) (.br (decide (a0.val<0)) (.leaf (zP (zah (zz (zq a0) (zq a1))) (zV ⟨(-2),rfl⟩))) (.leaf (zP (zah (zz (zq a0) (zq a1))) (zV ⟨2,rfl⟩)))))) (.br (decide (a0.val>a1.val)) (.br (decide (a0.val>(Rng.w .i64 (0-a1.val)).val)) (.br (decide (a0.val<0)) (.leaf (zQ (zV ⟨(-1),rfl⟩) (zah (zz (zq a1) (zq a0))))) (.leaf (zQ (zV ⟨1,rfl⟩) (zah (zz (zq a1) (zq a0)))))) (.br (decide (a1.val>0)) (.leaf (zah (zz (zq a0) (zq a1)))) (.br (decide (a0.val<0)) (.leaf (zP (zah (zz (zq a0) (zq a1))) (zV ⟨(-2),rfl⟩))) (.leaf (zP (zah (zz (zq a0) (zq a1))) (zV ⟨2,rfl⟩)))))) (.br (decide (a1.val>0)) (.leaf (zah (zz (zq a0) (zq a1)))) (.br (decide (a0.val<0)) (.leaf (zP (zah (zz (zq a0) (zq a1))) (zV ⟨(-2),rfl⟩))) (.leaf (zP (zah (zz (zq a0) (zq a1))) (zV ⟨2,rfl⟩)))))))))
theorem r_spec_DirectionAt (a0:I64) (a1:I64):Tb214.run B214 [enc a0,enc a1] (Iv)=(zfv a0 a1).opt:=by kernel_rfl
def zJ:I64->I64->Iv:=fun a0 a1=>(zfv a0 a1).get
theorem u_spec_DirectionAt (a0:I64) (a1:I64):(zfv a0 a1).opt=some (zJ a0 a1):=Tr.zL (by kernel_rfl)
def E_spec_DirectionAt:Ent Tryz.prog:= .of2 Tb214 B214 (fun _ _=>true) zJ fun a0 a1 _=>(r_spec_DirectionAt a0 a1).trans (u_spec_DirectionAt a0 a1)
def B131:Bod Tryz.prog:=⟨131,Tryz.f131,Tryz.f131.body.getD .skip,Tryz.func131,by kernel_rfl,by kernel_rfl,zae.no _ _⟩
def Tb131:Tb Tryz.prog:= {T:= [Y2,Y30],mix:=mix,Es:= [E_spec_HasI,E_spec_IsWhole,zd4,E_spec_HullI,E_spec_DirectionAt],Bs:= [],d:=1}
def zcB (a0:Iv) (a1:Iv):Tr (Iv):=
 .br (za3 a0) (.leaf zaR) (.br (za3 a1) (.leaf zaR) (.br (zc8 a0 ⟨0,rfl⟩) (.br (zc8 a1 ⟨0,rfl⟩) (.leaf zaR) (.br (decide (a1.lo.val<0)) (.br (decide (a0.lo.val<0)) (.br (decide (a0.hi.val>=0)) (.leaf zaR) (.leaf (zW (zW (zJ a0.lo a1.lo) (zJ a0.lo a1.hi)) (zW (zJ a0.hi a1.lo) (zJ a0.hi a1.hi))))) (.leaf (zW (zW (zJ a0.lo a1.lo) (zJ a0.lo a1.hi)) (zW (zJ a0.hi a1.lo) (zJ a0.hi a1.hi))))) (.leaf (zW (zW (zJ a0.lo a1.lo) (zJ a0.lo a1.hi)) (zW (zJ a0.hi a1.lo) (zJ a0.hi a1.hi)))))) (.br (decide (a1.lo.val<0)) (.br (decide (a0.lo.val<0)) (.br (decide (a0.hi.val>=0)) (.leaf zaR) (.leaf (zW (zW (zJ a0.lo a1.lo) (zJ a0.lo a1.hi)) (zW (zJ a0.hi a1.lo) (zJ a0.hi a1.hi))))) (.leaf (zW (zW (zJ a0.lo a1.lo) (zJ a0.lo a1.hi)) (zW (zJ a0.hi a1.lo) (zJ a0.hi a1.hi))))) (.leaf (zW (zW (zJ a0.lo a1.lo) (zJ a0.lo a1.hi)) (zW (zJ a0.hi a1.lo) (zJ a0.hi a1.hi)))))))
theorem r_spec_DirectionI (a0:Iv) (a1:Iv):Tb131.run B131 [enc a0,enc a1] (Iv)=(zcB a0 a1).opt:=by kernel_rfl
def zaE:Iv->Iv->Iv:=fun a0 a1=>(zcB a0 a1).get
theorem u_spec_DirectionI (a0:Iv) (a1:Iv):(zcB a0 a1).opt=some (zaE a0 a1):=Tr.zL (by kernel_rfl)
def E_spec_DirectionI:Ent Tryz.prog:= .of2 Tb131 B131 (fun _ _=>true) zaE fun a0 a1 _=>(r_spec_DirectionI a0 a1).trans (u_spec_DirectionI a0 a1)
def B176:Bod Tryz.prog:=⟨176,Tryz.f176,Tryz.f176.body.getD .skip,Tryz.func176,by kernel_rfl,by kernel_rfl,zae.no _ _⟩
def Tb176:Tb Tryz.prog:= {T:= [Y2,Y30],mix:=mix,Es:= [E_impl_AddI,E_impl_SubI,E_impl_DivI,zaD,E_impl_abs,E_impl_at,E_impl_AtanI,ET_impl_TurnI,E_impl_isOpen],Bs:= [],d:=1}
def zdY (a0:I64) (a1:I64):Tr (Iv):=
 .br (!(zeW a0)) (.leaf zH) (.br (!(zeW a1)) (.leaf zH) (.br (a0.val==0) (.br (a1.val==0) (.leaf zH) (.br (decide ((zbs a0).val>(zbs a1).val)) (.br (decide (a0.val<0)) (.leaf (zav (za8 ⟨(-1),rfl⟩) (zc2 (za5 (zbH a1) (zbH a0))))) (.leaf (zav (za8 ⟨1,rfl⟩) (zc2 (za5 (zbH a1) (zbH a0)))))) (let c24:=zc2 (za5 (zbH a0) (zbH a1));.br (decide (a1.val>0)) (.leaf c24) (.br (decide (a0.val<0)) (.leaf (zaH c24 (za8 ⟨(-2),rfl⟩))) (.leaf (zaH c24 (za8 ⟨2,rfl⟩))))))) (.br (decide ((zbs a0).val>(zbs a1).val)) (.br (decide (a0.val<0)) (.leaf (zav (za8 ⟨(-1),rfl⟩) (zc2 (za5 (zbH a1) (zbH a0))))) (.leaf (zav (za8 ⟨1,rfl⟩) (zc2 (za5 (zbH a1) (zbH a0)))))) (let c47:=zc2 (za5 (zbH a0) (zbH a1));.br (decide (a1.val>0)) (.leaf c47) (.br (decide (a0.val<0)) (.leaf (zaH c47 (za8 ⟨(-2),rfl⟩))) (.leaf (zaH c47 (za8 ⟨2,rfl⟩))))))))
theorem r_impl_DirectionAt (a0:I64) (a1:I64):Tb176.run B176 [enc a0,enc a1] (Iv)=(zdY a0 a1).opt:=by kernel_rfl
def zX:I64->I64->Iv:=fun a0 a1=>(zdY a0 a1).get
theorem u_impl_DirectionAt (a0:I64) (a1:I64):(zdY a0 a1).opt=some (zX a0 a1):=Tr.zL (by kernel_rfl)
def E_impl_DirectionAt:Ent Tryz.prog:= .of2 Tb176 B176 (fun _ _=>true) zX fun a0 a1 _=>(r_impl_DirectionAt a0 a1).trans (u_impl_DirectionAt a0 a1)
def B84:Bod Tryz.prog:=⟨84,Tryz.f84,Tryz.f84.body.getD .skip,Tryz.func84,by kernel_rfl,by kernel_rfl,zae.no _ _⟩
def Tb84:Tb Tryz.prog:= {T:= [Y2,Y30],mix:=mix,Es:= [zcd,zaD,E_impl_HasI,E_impl_HullI,E_impl_DirectionAt],Bs:= [],d:=1}
def t_impl_DirectionI (a0:Iv) (a1:Iv):Tr (Iv):=
 .br (!(za2 a0 a1)) (.leaf zH) (.br (zee a0 ⟨0,rfl⟩) (.br (zee a1 ⟨0,rfl⟩) (.leaf zH) (.br (decide (a1.lo.val<0)) (.br (decide (a0.lo.val<0)) (.br (decide (a0.hi.val>=0)) (.leaf zH) (.leaf (zaw (zaw (zX a0.lo a1.lo) (zX a0.lo a1.hi)) (zaw (zX a0.hi a1.lo) (zX a0.hi a1.hi))))) (.leaf (zaw (zaw (zX a0.lo a1.lo) (zX a0.lo a1.hi)) (zaw (zX a0.hi a1.lo) (zX a0.hi a1.hi))))) (.leaf (zaw (zaw (zX a0.lo a1.lo) (zX a0.lo a1.hi)) (zaw (zX a0.hi a1.lo) (zX a0.hi a1.hi)))))) (.br (decide (a1.lo.val<0)) (.br (decide (a0.lo.val<0)) (.br (decide (a0.hi.val>=0)) (.leaf zH) (.leaf (zaw (zaw (zX a0.lo a1.lo) (zX a0.lo a1.hi)) (zaw (zX a0.hi a1.lo) (zX a0.hi a1.hi))))) (.leaf (zaw (zaw (zX a0.lo a1.lo) (zX a0.lo a1.hi)) (zaw (zX a0.hi a1.lo) (zX a0.hi a1.hi))))) (.leaf (zaw (zaw (zX a0.lo a1.lo) (zX a0.lo a1.hi)) (zaw (zX a0.hi a1.lo) (zX a0.hi a1.hi))))))
theorem r_impl_DirectionI (a0:Iv) (a1:Iv):Tb84.run B84 [enc a0,enc a1] (Iv)=(t_impl_DirectionI a0 a1).opt:=by kernel_rfl
def zcE:Iv->Iv->Iv:=fun a0 a1=>(t_impl_DirectionI a0 a1).get
theorem u_impl_DirectionI (a0:Iv) (a1:Iv):(t_impl_DirectionI a0 a1).opt=some (zcE a0 a1):=Tr.zL (by kernel_rfl)
def E_impl_DirectionI:Ent Tryz.prog:= .of2 Tb84 B84 (fun _ _=>true) zcE fun a0 a1 _=>(r_impl_DirectionI a0 a1).trans (u_impl_DirectionI a0 a1)
def B266:Bod Tryz.prog:=⟨266,Tryz.f266,Tryz.f266.body.getD .skip,Tryz.func266,by kernel_rfl,by kernel_rfl,zae.no _ _⟩
def Tb266:Tb Tryz.prog:= {T:= [Y2,Y30],mix:=mix,Es:= [E_spec_AbsI],Bs:= [],d:=1}
def t_spec_l10Ends (a0:Iv):Tr (T2 I64 I64):=
 let c1:=zbm a0;.leaf ⟨c1.lo,c1.hi⟩
theorem r_spec_l10Ends (a0:Iv):Tb266.run B266 [enc a0] (T2 I64 I64)=(t_spec_l10Ends a0).opt:=by kernel_rfl
def zfn:Iv->T2 I64 I64:=fun a0=>(t_spec_l10Ends a0).get
theorem u_spec_l10Ends (a0:Iv):(t_spec_l10Ends a0).opt=some (zfn a0):=Tr.zL (by kernel_rfl)
def E_spec_l10Ends:Ent Tryz.prog:= .of1 Tb266 B266 (fun _=>true) zfn fun a0 _=>(r_spec_l10Ends a0).trans (u_spec_l10Ends a0)
def B268:Bod Tryz.prog:=⟨268,Tryz.f268,Tryz.f268.body.getD .skip,Tryz.func268,by kernel_rfl,by kernel_rfl,zae.no _ _⟩
def Tb268:Tb Tryz.prog:= {T:= [Y2,Y132,Y148],mix:=mix,Es:= [E_spec_l02Mul,E_spec_l02Plus],Bs:= [],d:=1}
def t_spec_l10Sum (a0:I64) (a1:I64) (a2:I64):Tr (Wide):=
 .leaf (zbN (zbN (zcn a0 a0) (zcn a1 a1)) (zcn a2 a2))
theorem r_spec_l10Sum (a0:I64) (a1:I64) (a2:I64):Tb268.run B268 [enc a0,enc a1,enc a2] (Wide)=(t_spec_l10Sum a0 a1 a2).opt:=by kernel_rfl
def F_spec_l10Sum:I64->I64->I64->Wide:=fun a0 a1 a2=>(t_spec_l10Sum a0 a1 a2).get
theorem u_spec_l10Sum (a0:I64) (a1:I64) (a2:I64):(t_spec_l10Sum a0 a1 a2).opt=some (F_spec_l10Sum a0 a1 a2):=Tr.zL (by kernel_rfl)
def E_spec_l10Sum:Ent Tryz.prog:= .of3 Tb268 B268 (fun _ _ _=>true) F_spec_l10Sum fun a0 a1 a2 _=>(r_spec_l10Sum a0 a1 a2).trans (u_spec_l10Sum a0 a1 a2)
def B186:Bod Tryz.prog:=⟨186,Tryz.f186,Tryz.f186.body.getD .skip,Tryz.func186,by kernel_rfl,by kernel_rfl,zae.no _ _⟩
def Tb186:Tb Tryz.prog:= {T:= [Y2,Y30,Y40,Y132,Y148],mix:=mix,Es:= [E_spec_IsWhole,zd4,E_spec_l02Mul,E_spec_l10Ends,ET_spec_l02Root,E_spec_l10Sum],Bs:= [],d:=1}
def t_spec_NormV (a0:Vec):Tr (Iv):=
 .br (za3 a0.x) (.leaf zaR) (.br (za3 a0.y) (.leaf zaR) (.br (za3 a0.z) (.leaf zaR) (let c7:=zfn a0.x;let c8:=zfn a0.y;let c9:=zfn a0.z;let c11:=zy (F_spec_l10Sum c7.a c8.a c9.a);let c12:=F_spec_l10Sum c7.b c8.b c9.b;let c13:=zy c12;let c14:=zcn (Rng.w .i64 (c13.val)) (Rng.w .i64 (c13.val));.br (!((c14.hi.val==c12.hi.val)&&((c14.lo.val==c12.lo.val)&&true))) (let c16:=(Rng.w .i64 ((Rng.w .i64 (c13.val)).val+1));.br (decide (c16.val>=1152921504606846976)) (.leaf zaR) (.leaf ⟨(Rng.w .i64 (c11.val)),c16⟩)) (.br (decide ((Rng.w .i64 (c13.val)).val>=1152921504606846976)) (.leaf zaR) (.leaf ⟨(Rng.w .i64 (c11.val)),(Rng.w .i64 (c13.val))⟩)))))
theorem r_spec_NormV (a0:Vec):Tb186.run B186 [enc a0] (Iv)=(t_spec_NormV a0).opt:=by kernel_rfl
def zdr:Vec->Iv:=fun a0=>(t_spec_NormV a0).get
theorem u_spec_NormV (a0:Vec):(t_spec_NormV a0).opt=some (zdr a0):=Tr.zL (by kernel_rfl)
def E_spec_NormV:Ent Tryz.prog:= .of1 Tb186 B186 (fun _=>true) zdr fun a0 _=>(r_spec_NormV a0).trans (u_spec_NormV a0)
def zfg (a0:Wide) (a1:Wide):Tr (T2 Wide Bool):=
 let c1:=zaJ a0.lo a1.lo ⟨0,rfl⟩;.br (G_carry (Rng.w .u64 (a0.hi.val)) (Rng.w .u64 (a1.hi.val)) c1.b) (let c2:=zaJ (Rng.w .u64 (a0.hi.val)) (Rng.w .u64 (a1.hi.val)) c1.b;.br (decide ((Rng.w .i64 (zbf .and .i64 (Rng.w .i64 (zbf .xor .i64 a0.hi.val (Rng.w .i64 (c2.a.val)).val)).val (Rng.w .i64 (zbf .xor .i64 a1.hi.val (Rng.w .i64 (c2.a.val)).val)).val)).val<0)) (.leaf ⟨⟨⟨0,rfl⟩,⟨0,rfl⟩⟩,false⟩) (.leaf ⟨⟨(Rng.w .i64 (c2.a.val)),c1.a⟩,true⟩)) (.bad)
def F_impl_WideAdd:Wide->Wide->T2 Wide Bool:=fun a0 a1=>(zfg a0 a1).get
def zfm:Wide->Wide->Bool:=fun a0 a1=>(zfg a0 a1).opt.isSome
def zej (a0:I64) (a1:I64) (a2:I64):Tr (T2 I64 I64):=
 let c1:=zbr a0 a0;let c2:=zbr a1 a1;.br (zfm c1 c2) (let c3:=F_impl_WideAdd c1 c2;let c4:=zbr a2 a2;.br (zfm c3.a c4) (let c5:=F_impl_WideAdd c3.a c4;let c6:=zeC c5.a;let c7:=zbr (Rng.w .i64 (c6.a.val)) (Rng.w .i64 (c6.a.val));.br (!((c7.hi.val==c5.a.hi.val)&&((c7.lo.val==c5.a.lo.val)&&true))) (.leaf ⟨(Rng.w .i64 (c6.a.val)),(Rng.w .i64 ((Rng.w .i64 (c6.a.val)).val+1))⟩) (.leaf ⟨(Rng.w .i64 (c6.a.val)),(Rng.w .i64 (c6.a.val))⟩)) (.bad)) (.bad)
def zen:I64->I64->I64->T2 I64 I64:=fun a0 a1 a2=>(zej a0 a1 a2).get
def zcr:I64->I64->I64->Bool:=fun a0 a1 a2=>(zej a0 a1 a2).opt.isSome
def t_impl_NormV (a0:Vec):Tr (Iv):=
 .br (!(za2 a0.x a0.y)) (.leaf zH) (.br (zal a0.z) (.leaf zH) (let c5:=zcq a0.x;let c6:=zcq a0.y;let c7:=zcq a0.z;.br (zcr c5.lo c6.lo c7.lo) (.br (zcr c5.hi c6.hi c7.hi) (.leaf (zaN (zen c5.lo c6.lo c7.lo).a (zen c5.hi c6.hi c7.hi).b true)) (.bad)) (.bad)))
def F_impl_NormV:Vec->Iv:=fun a0=>(t_impl_NormV a0).get
def B17:Bod Tryz.prog:=⟨17,Tryz.f17,Tryz.f17.body.getD .skip,Tryz.func17,by kernel_rfl,by kernel_rfl,zae.no _ _⟩
def Tb17:Tb Tryz.prog:= {T:= [Y2,Y30],mix:=mix,Es:= [za6],Bs:= [],d:=1}
def t_spec_LessI (a0:Iv) (a1:Iv):Tr (I64):=
 .br (!(za a0)) (.leaf ⟨2,rfl⟩) (.br (!(za a1)) (.leaf ⟨2,rfl⟩) (.br (decide (a0.hi.val<a1.lo.val)) (.leaf ⟨1,rfl⟩) (.br (decide (a0.lo.val>=a1.hi.val)) (.leaf ⟨0,rfl⟩) (.leaf ⟨2,rfl⟩))))
theorem r_spec_LessI (a0:Iv) (a1:Iv):Tb17.run B17 [enc a0,enc a1] (I64)=(t_spec_LessI a0 a1).opt:=by kernel_rfl
def F_spec_LessI:Iv->Iv->I64:=fun a0 a1=>(t_spec_LessI a0 a1).get
theorem u_spec_LessI (a0:Iv) (a1:Iv):(t_spec_LessI a0 a1).opt=some (F_spec_LessI a0 a1):=Tr.zL (by kernel_rfl)
def E_spec_LessI:Ent Tryz.prog:= .of2 Tb17 B17 (fun _ _=>true) F_spec_LessI fun a0 a1 _=>(r_spec_LessI a0 a1).trans (u_spec_LessI a0 a1)
def B248:Bod Tryz.prog:=⟨248,Tryz.f248,Tryz.f248.body.getD .skip,Tryz.func248,by kernel_rfl,by kernel_rfl,zae.no _ _⟩
def Tb248:Tb Tryz.prog:= {T:= [Y2,Y30],mix:=mix,Es:= [za4],Bs:= [],d:=1}
def t_spec_l08At (a0:I64):Tr (Iv):=
 .leaf (zai a0 a0)
theorem r_spec_l08At (a0:I64):Tb248.run B248 [enc a0] (Iv)=(t_spec_l08At a0).opt:=by kernel_rfl
def zdo:I64->Iv:=fun a0=>(t_spec_l08At a0).get
theorem u_spec_l08At (a0:I64):(t_spec_l08At a0).opt=some (zdo a0):=Tr.zL (by kernel_rfl)
def E_spec_l08At:Ent Tryz.prog:= .of1 Tb248 B248 (fun _=>true) zdo fun a0 _=>(r_spec_l08At a0).trans (u_spec_l08At a0)
def B365:Bod Tryz.prog:=⟨365,Tryz.f365,Tryz.f365.body.getD .skip,Tryz.func365,by kernel_rfl,by kernel_rfl,zae.no _ _⟩
def Tb365:Tb Tryz.prog:= {T:= [Y2,Y30],mix:=mix,Es:= [E_spec_l08At],Bs:= [],d:=1}
def t_spec_l08One:Tr (Iv):=
 .leaf (zdo ⟨4294967296,rfl⟩)
theorem r_spec_l08One:Tb365.run B365 [] (Iv)=(t_spec_l08One).opt:=by kernel_rfl
def zbi:Iv:=(t_spec_l08One).get
theorem u_spec_l08One:(t_spec_l08One).opt=some (zbi):=Tr.zL (by kernel_rfl)
def E_spec_l08One:Ent Tryz.prog:= .of0 Tb365 B365 zbi (r_spec_l08One.trans u_spec_l08One)
def B366:Bod Tryz.prog:=⟨366,Tryz.f366,Tryz.f366.body.getD .skip,Tryz.func366,by kernel_rfl,by kernel_rfl,zae.no _ _⟩
def Tb366:Tb Tryz.prog:= {T:= [Y2,Y30],mix:=mix,Es:= [zas,za4,za6],Bs:= [],d:=1}
def zfD (a0:Iv) (a1:I64):Tr (Iv):=
 .br (!(za a0)) (.leaf zo) (.leaf (zai (Rng.w .i64 (a0.lo.val-a1.val)) (Rng.w .i64 (a0.hi.val+a1.val))))
theorem r_spec_l08Widen (a0:Iv) (a1:I64):Tb366.run B366 [enc a0,enc a1] (Iv)=(zfD a0 a1).opt:=by kernel_rfl
def zcm:Iv->I64->Iv:=fun a0 a1=>(zfD a0 a1).get
theorem u_spec_l08Widen (a0:Iv) (a1:I64):(zfD a0 a1).opt=some (zcm a0 a1):=Tr.zL (by kernel_rfl)
def E_spec_l08Widen:Ent Tryz.prog:= .of2 Tb366 B366 (fun _ _=>true) zcm fun a0 a1 _=>(r_spec_l08Widen a0 a1).trans (u_spec_l08Widen a0 a1)
structure zdn where
 x0:I64
 x1:I64
 x2:I64
 x3:I64
 x4:I64
 x5:I64
instance:Inhabited zdn:=⟨⟨default,default,default,default,default,default⟩⟩
def st_spec_LogAt_5 (x:zdn):St:=⟨[(0,.i64 x.x0),(2,.ptr 0 0),(3,.i64 x.x1),(4,.ptr 1 0)],79,⟨[(0,[.i64 x.x2,.i64 x.x3]),(1,[.i64 x.x4,.i64 x.x5])],2,0⟩⟩
def rd_spec_LogAt_5:St->Option zdn:=fun s=>match s with
 | ⟨[(0,.i64 x0),(2,.ptr 0 0),(3,.i64 x1),(4,.ptr 1 0)],79,⟨[(0,[.i64 x2,.i64 x3]),(1,[.i64 x4,.i64 x5])],2,0⟩⟩=>some ⟨x0,x1,x2,x3,x4,x5⟩
 | _=>none
def zeb (x:zdn):Tr (Lp zdn):=
 .br (decide (x.x4.val>=6442450944)) (let c4:=(Rng.w .i64 (x.x1.val+1));.leaf (.again ⟨x.x0,c4,x.x2,x.x3,(Rng.w .i64 (x.x0.val.fdiv (2^min ((Rng.w .u64 (c4.val)).val).toNat 64))),(Rng.w .i64 (0-(Rng.w .i64 ((Rng.w .i64 (0-x.x0.val)).val.fdiv (2^min ((Rng.w .u64 (c4.val)).val).toNat 64))).val))⟩)) (.leaf (.out ⟨x.x0,x.x1,x.x2,x.x3,x.x4,x.x5⟩))
def G_spec_LogAt_5 (x:zdn):Bool:=(Lf zeb 70 x).opt.isSome
def L_spec_LogAt_5 (x:zdn):zdn:=(Lf zeb 70 x).get
def TbL_spec_LogAt_5:Tb Tryz.prog:= {T:= [Y2,Y30,Y140],mix:=mix,Es:= [],Bs:= [],d:=1}
def P_spec_LogAt_5:LpF:=loopF [0,2,3,4] [0,1] 2 rd_spec_LogAt_5 st_spec_LogAt_5 (.exit 0) G_spec_LogAt_5 L_spec_LogAt_5
theorem lok_spec_LogAt_5:LoopOk Tryz.prog (loopAt (Tryz.f352.body.getD .skip) 0) P_spec_LogAt_5:=loopF_ok (t:=TbL_spec_LogAt_5) (lt:=fun _=>none) (body:=zeb) (n:=70) (by intro h;cases h) (fun _ _ _ h=>by cases h)
 (by intro s x h;unfold rd_spec_LogAt_5 at h;split at h<;>cases h;rfl) (fun x b cs h=>lk_lt (l:=(st_spec_LogAt_5 x).mm.blks) (by kernel_rfl) h) (by intro x;kernel_rfl) (fun x h=>Tr.get_some h)
structure zdm where
 x0:I64
 x1:I64
 x2:I64
 x3:I64
 x4:I64
 x5:I64
instance:Inhabited zdm:=⟨⟨default,default,default,default,default,default⟩⟩
def st_spec_LogAt_8 (x:zdm):St:=⟨[(0,.i64 x.x0),(2,.ptr 0 0),(3,.i64 x.x1),(4,.ptr 1 0)],79,⟨[(0,[.i64 x.x2,.i64 x.x3]),(1,[.i64 x.x4,.i64 x.x5])],2,0⟩⟩
def rd_spec_LogAt_8:St->Option zdm:=fun s=>match s with
 | ⟨[(0,.i64 x0),(2,.ptr 0 0),(3,.i64 x1),(4,.ptr 1 0)],79,⟨[(0,[.i64 x2,.i64 x3]),(1,[.i64 x4,.i64 x5])],2,0⟩⟩=>some ⟨x0,x1,x2,x3,x4,x5⟩
 | _=>none
def zcJ (x:zdm):Tr (Lp zdm):=
 .br (decide (x.x4.val<3221225472)) (let c11:=(Rng.w .i64 (x.x1.val-1));.leaf (.again ⟨x.x0,c11,x.x2,x.x3,(Rng.w .i64 (x.x0.val*(2^min ((Rng.w .u64 ((Rng.w .i64 (0-c11.val)).val)).val).toNat 64))),(Rng.w .i64 (x.x0.val*(2^min ((Rng.w .u64 ((Rng.w .i64 (0-c11.val)).val)).val).toNat 64)))⟩)) (.leaf (.out ⟨x.x0,x.x1,x.x2,x.x3,x.x4,x.x5⟩))
def zfl (x:zdm):Bool:=(Lf zcJ 70 x).opt.isSome
def L_spec_LogAt_8 (x:zdm):zdm:=(Lf zcJ 70 x).get
def TbL_spec_LogAt_8:Tb Tryz.prog:= {T:= [Y2,Y30,Y140],mix:=mix,Es:= [],Bs:= [],d:=1}
def P_spec_LogAt_8:LpF:=loopF [0,2,3,4] [0,1] 2 rd_spec_LogAt_8 st_spec_LogAt_8 (.exit 2) zfl L_spec_LogAt_8
theorem lok_spec_LogAt_8:LoopOk Tryz.prog (loopAt (Tryz.f352.body.getD .skip) 1) P_spec_LogAt_8:=loopF_ok (t:=TbL_spec_LogAt_8) (lt:=fun _=>none) (body:=zcJ) (n:=70) (by intro h;cases h) (fun _ _ _ h=>by cases h)
 (by intro s x h;unfold rd_spec_LogAt_8 at h;split at h<;>cases h;rfl) (fun x b cs h=>lk_lt (l:=(st_spec_LogAt_8 x).mm.blks) (by kernel_rfl) h) (by intro x;kernel_rfl) (fun x h=>Tr.get_some h)
def B352:Bod Tryz.prog:=⟨352,Tryz.f352,Tryz.f352.body.getD .skip,Tryz.func352,by kernel_rfl,by kernel_rfl,⟨ltOf [(5,P_spec_LogAt_5),(8,P_spec_LogAt_8)],zae.of (ks:= [5,8,15]) (by kernel_rfl) (by
 intro i k h f hf
 match i,h with
 | 0,h=>cases h;obtain rfl:P_spec_LogAt_5=f:=Option.some.inj hf;exact lok_spec_LogAt_5
 | 1,h=>cases h;obtain rfl:P_spec_LogAt_8=f:=Option.some.inj hf;exact lok_spec_LogAt_8
 | 2,h=>cases h;cases (show none=some f from hf)
 | n+3,h=>simp at h)⟩⟩
def Tb352:Tb Tryz.prog:= {T:= [Y2,Y30,Y140],mix:=mix,Es:= [zfs,ze1,E_spec_AddI,ze0,zcc,zas,E_spec_SqrI,ET_spec_Quotient,ze2,E_spec_l08One,E_spec_l08Widen,ET_spec_LogTwoI],Bs:= [],d:=1}
def zeH (a0:I64):Tr (Iv):=
 .br (!(zar a0 ⟨1,rfl⟩ ⟨1152921504606846976,rfl⟩)) (.leaf zo) (.br (G_spec_LogAt_5 ⟨a0,⟨0,rfl⟩,⟨0,rfl⟩,⟨0,rfl⟩,a0,a0⟩) (let c9:=L_spec_LogAt_5 ⟨a0,⟨0,rfl⟩,⟨0,rfl⟩,⟨0,rfl⟩,a0,a0⟩;.br (zfl ⟨c9.x0,c9.x1,c9.x2,c9.x3,c9.x4,c9.x5⟩) (let c16:=L_spec_LogAt_8 ⟨c9.x0,c9.x1,c9.x2,c9.x3,c9.x4,c9.x5⟩;let c21:=zz (zQ ⟨c16.x4,c16.x5⟩ zbi) (zP ⟨c16.x4,c16.x5⟩ zbi);let c22:=zbe c21;.leaf (zP (zcO c16.x1) (zcm (zC (zC (zD ⟨2,rfl⟩) c21) (zP (zO ⟨1,rfl⟩ ⟨1,rfl⟩) (zC c22 (zP (zO ⟨1,rfl⟩ ⟨3,rfl⟩) (zC c22 (zP (zO ⟨1,rfl⟩ ⟨5,rfl⟩) (zC c22 (zP (zO ⟨1,rfl⟩ ⟨7,rfl⟩) (zC c22 (zP (zO ⟨1,rfl⟩ ⟨9,rfl⟩) (zC c22 (zO ⟨1,rfl⟩ ⟨11,rfl⟩)))))))))))) ⟨1,rfl⟩))) (.bad)) (.bad))
theorem r_spec_LogAt (a0:I64):Tb352.run B352 [enc a0] (Iv)=(zeH a0).opt:=by kernel_rfl
def zd1:I64->Iv:=fun a0=>(zeH a0).get
structure zcU where
 x0:I64
 x1:I64
instance:Inhabited zcU:=⟨⟨default,default⟩⟩
def st_impl_twosOf_2 (x:zcU):St:=⟨[(0,.i64 x.x0),(3,.i64 x.x1)],22,⟨[],0,0⟩⟩
def rd_impl_twosOf_2:St->Option zcU:=fun s=>match s with
 | ⟨[(0,.i64 x0),(3,.i64 x1)],22,⟨[],0,0⟩⟩=>some ⟨x0,x1⟩
 | _=>none
def zdE (x:zcU):Tr (Lp zcU):=
 .br (decide (x.x1.val<0)) (.bad) (.br (decide ((Rng.w .i64 (x.x0.val.fdiv (2^min (x.x1.val).toNat 64))).val>=6442450944)) (.leaf (.again ⟨x.x0,(Rng.w .i64 (x.x1.val+1))⟩)) (.leaf (.out ⟨x.x0,x.x1⟩)))
def G_impl_twosOf_2 (x:zcU):Bool:=(Lf zdE 70 x).opt.isSome
def L_impl_twosOf_2 (x:zcU):zcU:=(Lf zdE 70 x).get
def TbL_impl_twosOf_2:Tb Tryz.prog:= {T:= [],mix:=mix,Es:= [],Bs:= [],d:=1}
def P_impl_twosOf_2:LpF:=loopF [0,3] [] 0 rd_impl_twosOf_2 st_impl_twosOf_2 (.exit 0) G_impl_twosOf_2 L_impl_twosOf_2
theorem lok_impl_twosOf_2:LoopOk Tryz.prog (loopAt (Tryz.f330.body.getD .skip) 0) P_impl_twosOf_2:=loopF_ok (t:=TbL_impl_twosOf_2) (lt:=fun _=>none) (body:=zdE) (n:=70) (by intro h;cases h) (fun _ _ _ h=>by cases h)
 (by intro s x h;unfold rd_impl_twosOf_2 at h;split at h<;>cases h;rfl) (fun x b cs h=>lk_lt (l:=(st_impl_twosOf_2 x).mm.blks) (by kernel_rfl) h) (by intro x;kernel_rfl) (fun x h=>Tr.get_some h)
structure zcT where
 x0:I64
 x1:I64
instance:Inhabited zcT:=⟨⟨default,default⟩⟩
def st_impl_twosOf_4 (x:zcT):St:=⟨[(0,.i64 x.x0),(3,.i64 x.x1)],22,⟨[],0,0⟩⟩
def rd_impl_twosOf_4:St->Option zcT:=fun s=>match s with
 | ⟨[(0,.i64 x0),(3,.i64 x1)],22,⟨[],0,0⟩⟩=>some ⟨x0,x1⟩
 | _=>none
def zcl (x:zcT):Tr (Lp zcT):=
 .br (decide (x.x1.val<=0)) (let c5:=(Rng.w .i64 (0-x.x1.val));.br (decide (c5.val<0)) (.bad) (.br (decide ((Rng.w .i64 (x.x0.val*(2^min (c5.val).toNat 64))).val<3221225472)) (.leaf (.again ⟨x.x0,(Rng.w .i64 (x.x1.val-1))⟩)) (.leaf (.out ⟨x.x0,x.x1⟩)))) (.leaf (.out ⟨x.x0,x.x1⟩))
def zez (x:zcT):Bool:=(Lf zcl 70 x).opt.isSome
def L_impl_twosOf_4 (x:zcT):zcT:=(Lf zcl 70 x).get
def TbL_impl_twosOf_4:Tb Tryz.prog:= {T:= [],mix:=mix,Es:= [],Bs:= [],d:=1}
def P_impl_twosOf_4:LpF:=loopF [0,3] [] 0 rd_impl_twosOf_4 st_impl_twosOf_4 (.exit 2) zez L_impl_twosOf_4
theorem lok_impl_twosOf_4:LoopOk Tryz.prog (loopAt (Tryz.f330.body.getD .skip) 1) P_impl_twosOf_4:=loopF_ok (t:=TbL_impl_twosOf_4) (lt:=fun _=>none) (body:=zcl) (n:=70) (by intro h;cases h) (fun _ _ _ h=>by cases h)
 (by intro s x h;unfold rd_impl_twosOf_4 at h;split at h<;>cases h;rfl) (fun x b cs h=>lk_lt (l:=(st_impl_twosOf_4 x).mm.blks) (by kernel_rfl) h) (by intro x;kernel_rfl) (fun x h=>Tr.get_some h)
def B330:Bod Tryz.prog:=⟨330,Tryz.f330,Tryz.f330.body.getD .skip,Tryz.func330,by kernel_rfl,by kernel_rfl,⟨ltOf [(2,P_impl_twosOf_2),(4,P_impl_twosOf_4)],zae.of (ks:= [2,4]) (by kernel_rfl) (by
 intro i k h f hf
 match i,h with
 | 0,h=>cases h;obtain rfl:P_impl_twosOf_2=f:=Option.some.inj hf;exact lok_impl_twosOf_2
 | 1,h=>cases h;obtain rfl:P_impl_twosOf_4=f:=Option.some.inj hf;exact lok_impl_twosOf_4
 | n+2,h=>simp at h)⟩⟩
def Tb330:Tb Tryz.prog:= {T:= [],mix:=mix,Es:= [],Bs:= [],d:=1}
def zeP (a0:I64):Tr (I64):=
 .br (G_impl_twosOf_2 ⟨a0,⟨0,rfl⟩⟩) (let c4:=L_impl_twosOf_2 ⟨a0,⟨0,rfl⟩⟩;.br (zez ⟨c4.x0,c4.x1⟩) (.leaf (L_impl_twosOf_4 ⟨c4.x0,c4.x1⟩).x1) (.bad)) (.bad)
theorem r_impl_twosOf (a0:I64):Tb330.run B330 [enc a0] (I64)=(zeP a0).opt:=by kernel_rfl
def F_impl_twosOf:I64->I64:=fun a0=>(zeP a0).get
def G_impl_twosOf:I64->Bool:=fun a0=>(zeP a0).opt.isSome
def E_impl_twosOf:Ent Tryz.prog:= .of1 Tb330 B330 G_impl_twosOf F_impl_twosOf fun a0 h=>(r_impl_twosOf a0).trans (Tr.get_some h)
def B332:Bod Tryz.prog:=⟨332,Tryz.f332,Tryz.f332.body.getD .skip,Tryz.func332,by kernel_rfl,by kernel_rfl,zae.no _ _⟩
def Tb332:Tb Tryz.prog:= {T:= [Y2,Y30],mix:=mix,Es:= [zcf,zdh],Bs:= [],d:=1}
def t_impl_widened (a0:Iv) (a1:I64):Tr (Iv):=
 .leaf (zaN (Rng.w .i64 (a0.lo.val-a1.val)) (Rng.w .i64 (a0.hi.val+a1.val)) (zbp a0))
theorem r_impl_widened (a0:Iv) (a1:I64):Tb332.run B332 [enc a0,enc a1] (Iv)=(t_impl_widened a0 a1).opt:=by kernel_rfl
def zfp:Iv->I64->Iv:=fun a0 a1=>(t_impl_widened a0 a1).get
theorem u_impl_widened (a0:Iv) (a1:I64):(t_impl_widened a0 a1).opt=some (zfp a0 a1):=Tr.zL (by kernel_rfl)
def E_impl_widened:Ent Tryz.prog:= .of2 Tb332 B332 (fun _ _=>true) zfp fun a0 a1 _=>(r_impl_widened a0 a1).trans (u_impl_widened a0 a1)
def B287:Bod Tryz.prog:=⟨287,Tryz.f287,Tryz.f287.body.getD .skip,Tryz.func287,by kernel_rfl,by kernel_rfl,zae.no _ _⟩
def Tb287:Tb Tryz.prog:= {T:= [Y2,Y30],mix:=mix,Es:= [zeg,E_impl_AddI,ET_impl_MulI,E_impl_SubI,E_impl_DivI,zaD,ET_impl_Quotient,ET_impl_SqrI,E_impl_at,zdH,E_impl_twosOf,ET_impl_LogTwoI,E_impl_widened],Bs:= [],d:=1}
def zeJ (a0:I64):Tr (Iv):=
 .br (!(zaQ a0)) (.leaf zH) (.br (decide (a0.val<=0)) (.leaf zH) (.br (G_impl_twosOf a0) (let c4:=F_impl_twosOf a0;.br (decide (c4.val>0)) (.br (decide (c4.val<0)) (.bad) (let c6:=(Rng.w .i64 (a0.val.fdiv (2^min (c4.val).toNat 64)));.br (decide (c4.val<0)) (.bad) (let c9:=(Rng.w .i64 (0-(Rng.w .i64 ((Rng.w .i64 (0-a0.val)).val.fdiv (2^min (c4.val).toNat 64))).val));let c14:=za5 (zav ⟨c6,c9⟩ (zac ⟨1,rfl⟩)) (zaH ⟨c6,c9⟩ (zac ⟨1,rfl⟩));let c15:=zeX c14;.leaf (zaH (F_impl_LogTwoI c4) (zfp (zaf (zaf (zac ⟨2,rfl⟩) c14) (zaH (zam ⟨1,rfl⟩ ⟨1,rfl⟩) (zaf c15 (zaH (zam ⟨1,rfl⟩ ⟨3,rfl⟩) (zaf c15 (zaH (zam ⟨1,rfl⟩ ⟨5,rfl⟩) (zaf c15 (zaH (zam ⟨1,rfl⟩ ⟨7,rfl⟩) (zaf c15 (zaH (zam ⟨1,rfl⟩ ⟨9,rfl⟩) (zaf c15 (zam ⟨1,rfl⟩ ⟨11,rfl⟩)))))))))))) ⟨1,rfl⟩))))) (let c38:=(Rng.w .i64 (0-c4.val));.br (decide (c38.val<0)) (.bad) (let c40:=zbH (Rng.w .i64 (a0.val*(2^min (c38.val).toNat 64)));let c45:=za5 (zav c40 (zac ⟨1,rfl⟩)) (zaH c40 (zac ⟨1,rfl⟩));let c46:=zeX c45;.leaf (zaH (F_impl_LogTwoI c4) (zfp (zaf (zaf (zac ⟨2,rfl⟩) c45) (zaH (zam ⟨1,rfl⟩ ⟨1,rfl⟩) (zaf c46 (zaH (zam ⟨1,rfl⟩ ⟨3,rfl⟩) (zaf c46 (zaH (zam ⟨1,rfl⟩ ⟨5,rfl⟩) (zaf c46 (zaH (zam ⟨1,rfl⟩ ⟨7,rfl⟩) (zaf c46 (zaH (zam ⟨1,rfl⟩ ⟨9,rfl⟩) (zaf c46 (zam ⟨1,rfl⟩ ⟨11,rfl⟩)))))))))))) ⟨1,rfl⟩))))) (.bad)))
theorem r_impl_LogAt (a0:I64):Tb287.run B287 [enc a0] (Iv)=(zeJ a0).opt:=by kernel_rfl
def F_impl_LogAt:I64->Iv:=fun a0=>(zeJ a0).get
end
end Go.Proofs.YtfcjhkkpbnobhaaGreat.Ev
namespace Go.Proofs.YtfcjhkkpbnobhaaGreat.Ev
open Go
theorem ctr {α:Type} (a b:α):(bif true then a else b)=a:=by simp
theorem cfl {α:Type} (a b:α):(bif false then a else b)=b:=by simp
theorem siw_eq (a:Iv):za3 a= !(za a):=by simp only [za3,t_spec_IsWhole,Tr.get]
theorem hasI_eq (a:Iv) (n:I64):zee a n=zc8 a n:=by
 simp only [zee,t_impl_HasI,zc8,t_spec_HasI,zaO,zcg,Tr.get,isw_eq,zcQ,zeF]
theorem atanI_impl (a:Iv):zc2 a=bif zal a then zb9 else zaw (zeZ a.lo) (zeZ a.hi):=by
 simp only [zc2,t_impl_AtanI,Tr.get]
theorem atanI_spec (a:Iv):zah a=bif za3 a then za9 else zW (zcp a.lo) (zcp a.hi):=by
 simp only [zah,t_spec_AtanI,Tr.get]
theorem atanI_eq (a:Iv):zc2 a=zah a:=by
 rw [atanI_impl,atanI_spec,isw_eq,siw_eq,half_eq,atan_eq,atan_eq,hull_eq]
theorem dirAt_eq (y x:I64):zX y x=zJ y x:=by
 simp only [zX,zdY,zJ,zfv,Tr.get]
 simp only [fix_eq,atanI_eq,divI_F,at_eq,sub_eq,add_eq,turnI_eq,zbt,zcz]
 cases hy:zbj y
 ·rfl
 cases hx:zbj x
 ·rfl
 have by':=(fix_iff y).1 hy
 have bx:=(fix_iff x).1 hx
 have ey:(Rng.w .i64 (0-y.val)).val= -y.val:=by rw [wi (by omega) (by omega)];omega
 have ex:(Rng.w .i64 (0-x.val)).val= -x.val:=by rw [wi (by omega) (by omega)];omega
 have ay:=abs_val y (by omega)
 have ax:=abs_val x (by omega)
 simp only [Bool.not_true,cond_false,ey,ex]
 by_cases hn:y.val<0
 ·have hA:decide ((zbs y).val>(zbs x).val)=(decide (-y.val>x.val)&&decide (-y.val > -x.val)):=by
   rw [ay,ax,if_pos hn,<- Bool.decide_and,decide_eq_decide]
   split<;>omega
  simp only [hn,decide_true,cond_true,hA]
  generalize decide (-y.val>x.val)=b1
  generalize decide (-y.val > -x.val)=b2
  generalize decide (x.val>0)=b3
  generalize (x.val==0)=b4
  generalize (y.val==0)=b5
  cases b1<;>cases b2<;>cases b3<;>cases b4<;>cases b5<;>simp only [ctr,cfl,Bool.and_self,Bool.and_false,Bool.and_true,Bool.false_and,Bool.true_and]
 ·have hA:decide ((zbs y).val>(zbs x).val)=(decide (y.val>x.val)&&decide (y.val > -x.val)):=by
   rw [ay,ax,if_neg hn,<- Bool.decide_and,decide_eq_decide]
   split<;>omega
  simp only [hn,decide_false,cond_false,hA]
  generalize decide (y.val>x.val)=b1
  generalize decide (y.val > -x.val)=b2
  generalize decide (x.val>0)=b3
  generalize (x.val==0)=b4
  generalize (y.val==0)=b5
  cases b1<;>cases b2<;>cases b3<;>cases b4<;>cases b5<;>simp only [ctr,cfl,Bool.and_self,Bool.and_false,Bool.and_true,Bool.false_and,Bool.true_and]
theorem dirI_eq (y x:Iv):zcE y x=zaE y x:=by
 simp only [zcE,t_impl_DirectionI,zaE,zcB,Tr.get]
 simp only [areb_eq,siw_eq,hasI_eq,dirAt_eq,hull_eq,zbt,zcz]
 cases za y<;>cases za x<;>simp only [ctr,cfl,Bool.and_self,Bool.and_false,Bool.and_true,Bool.false_and,Bool.true_and,Bool.not_true,Bool.not_false]
theorem abs_ends {a:Iv} (h:za a=true):zcq a=⟨(zM a).a,(zM a).b⟩:=by
 simp only [zcq,t_impl_AbsI,zM,zd6,Tr.get,isw_eq,h,Bool.not_true,cond_false,has_eq a _ h,max_eq,min_eq,zbs,t_impl_abs]
 cases zaO a ⟨0,rfl⟩<;>rfl
theorem abs_make {a:Iv} (h:za a=true):zbm a=⟨(zM a).a,(zM a).b⟩:=by
 simp only [zbm,t_spec_AbsI,Tr.get,h,Bool.not_true,cond_false]
 obtain ⟨p,q,e,h1,h2,h3⟩:=ends_val h
 have:=(zbR a).1 h
 rw [e]
 exact zcx (by simp only;omega)
theorem abs_eq (a:Iv):zcq a=zbm a:=by
 cases h:za a
 ·simp only [zcq,t_impl_AbsI,zbm,t_spec_AbsI,Tr.get,isw_eq,h,Bool.not_false,cond_true,zbt]
 ·rw [abs_ends h,abs_make h]
theorem ends_eq (a:Iv):zfn a=⟨(zbm a).lo,(zbm a).hi⟩:=rfl
theorem plus_spec (a b:Wide) (h: -170141183460469231731687303715884105728<=wv a+wv b/\wv a+wv b<170141183460469231731687303715884105728):zbN a b=mkW (wv a+wv b):=by
 have ba:=a.lo.ubd;have bb:=b.lo.ubd
 have ha:=a.hi.bd;have hb:=b.hi.bd
 apply mkW_eq
 simp only [wv] at h
 simp only [zbN,zfe,Tr.get]
 have e2:(Rng.w .u64 (a.lo.val+b.lo.val)).val=(a.lo.val+b.lo.val)%18446744073709551616:=zbd _
 simp only [e2]
 by_cases hc:(a.lo.val+b.lo.val)%18446744073709551616<a.lo.val
 ·simp only [hc,decide_true,cond_true,wv,e2]
  rw [zep,zep]
  omega
 ·simp only [hc,decide_false,cond_false,wv,e2]
  rw [zep]
  omega
theorem xor_pos {a b:Int} (ha:0<=a/\a<=9223372036854775807) (hb:0<=b/\b<=9223372036854775807):0<=(Rng.w .i64 (zbf .xor .i64 a b)).val/\(Rng.w .i64 (zbf .xor .i64 a b)).val<=9223372036854775807:=by
 have e:zbf .xor .i64 a b=((BitVec.ofInt 64 a ^^^ BitVec.ofInt 64 b).toNat:Int):=rfl
 have h1:(BitVec.ofInt 64 a).toNat<2^63:=by rw [bv_toNat ha.1 (by omega)];omega
 have h2:(BitVec.ofInt 64 b).toNat<2^63:=by rw [bv_toNat hb.1 (by omega)];omega
 have h3:(BitVec.ofInt 64 a ^^^ BitVec.ofInt 64 b).toNat<2^63:=by rw [BitVec.toNat_xor];exact Nat.xor_lt_two_pow h1 h2
 rw [e,wi (by omega) (by omega)];omega
theorem and_pos {a b:Int} (ha:0<=a/\a<=9223372036854775807) (hb:0<=b/\b<=9223372036854775807):0<=(Rng.w .i64 (zbf .and .i64 a b)).val:=by
 have e:zbf .and .i64 a b=((BitVec.ofInt 64 a &&& BitVec.ofInt 64 b).toNat:Int):=rfl
 have h2:(BitVec.ofInt 64 b).toNat<2^63:=by rw [bv_toNat hb.1 (by omega)];omega
 have h3:(BitVec.ofInt 64 a &&& BitVec.ofInt 64 b).toNat<2^63:=by rw [BitVec.toNat_and];exact Nat.lt_of_le_of_lt Nat.and_le_right h2
 rw [e,wi (by omega) (by omega)];omega
theorem add_impl (a b:Wide) (ha:0<=wv a) (hb:0<=wv b) (h:wv a+wv b<170141183460469231731687303715884105728):(zfg a b).opt=some ⟨mkW (wv a+wv b),true⟩:=by
 have ba:=a.lo.ubd;have bb:=b.lo.ubd
 have ha':=a.hi.bd;have hb':=b.hi.bd
 have hwv:wv a+wv b=(a.hi.val+b.hi.val)*18446744073709551616+(a.lo.val+b.lo.val):=by simp only [wv];omega
 have pa:0<=a.hi.val:=by simp only [wv] at ha;omega
 have pb:0<=b.hi.val:=by simp only [wv] at hb;omega
 have ec:(zaJ a.lo b.lo ⟨0,rfl⟩).b.val=(a.lo.val+b.lo.val)/18446744073709551616:=by
  simp only [zaJ];rw [wu (by omega) (by omega)];omega
 have hg:G_carry (Rng.w .u64 a.hi.val) (Rng.w .u64 b.hi.val) (zaJ a.lo b.lo ⟨0,rfl⟩).b=true:=by simp only [G_carry,ec];simp;omega
 have ea:(Rng.w .u64 a.hi.val).val=a.hi.val:=wu pa (by omega)
 have eb:(Rng.w .u64 b.hi.val).val=b.hi.val:=wu pb (by omega)
 have e2:(zaJ (Rng.w .u64 a.hi.val) (Rng.w .u64 b.hi.val) (zaJ a.lo b.lo ⟨0,rfl⟩).b).a.val=a.hi.val+b.hi.val+(a.lo.val+b.lo.val)/18446744073709551616:=by
  show (Rng.w .u64 _).val=_
  rw [ea,eb,ec,wu (by omega) (by omega)]
 have hlt:a.hi.val+b.hi.val+(a.lo.val+b.lo.val)/18446744073709551616<=9223372036854775807:=by omega
 have e3:(Rng.w .i64 (zaJ (Rng.w .u64 a.hi.val) (Rng.w .u64 b.hi.val) (zaJ a.lo b.lo ⟨0,rfl⟩).b).a.val).val=a.hi.val+b.hi.val+(a.lo.val+b.lo.val)/18446744073709551616:=by
  rw [e2,wi (by omega) hlt]
 have e1:(zaJ a.lo b.lo ⟨0,rfl⟩).a.val=(a.lo.val+b.lo.val)%18446744073709551616:=by
  simp only [zaJ];rw [zbd];omega
 simp only [zfg,Tr.opt,hg,cond_true,e3]
 have x1:=xor_pos (a:=a.hi.val) (b:=a.hi.val+b.hi.val+(a.lo.val+b.lo.val)/18446744073709551616) ⟨pa,by omega⟩ ⟨by omega,hlt⟩
 have x2:=xor_pos (a:=b.hi.val) (b:=a.hi.val+b.hi.val+(a.lo.val+b.lo.val)/18446744073709551616) ⟨pb,by omega⟩ ⟨by omega,hlt⟩
 have x3:=and_pos x1 x2
 rw [show decide ((Rng.w .i64 (zbf .and .i64 (Rng.w .i64 (zbf .xor .i64 a.hi.val (a.hi.val+b.hi.val+(a.lo.val+b.lo.val)/18446744073709551616))).val (Rng.w .i64 (zbf .xor .i64 b.hi.val (a.hi.val+b.hi.val+(a.lo.val+b.lo.val)/18446744073709551616))).val)).val<0)=false by simpa using x3]
 simp only [cond_false]
 congr 2
 apply mkW_eq
 simp only [wv,e3,e1]
 omega
theorem wsqrt_mk {v:Int} (h:0<=v) (h':v<170141183460469231731687303715884105728):zeC (mkW v)=⟨zy (mkW v),true⟩:=by
 refine wsqrt_eq _ ?_
 simp only [mkW];rw [wi (by omega) (by omega)];omega
theorem root_mk {v:Int} (h:0<=v) (h':v<170141183460469231731687303715884105728):0<=(zy (mkW v)).val/\(zy (mkW v)).val*(zy (mkW v)).val<=v/\v<((zy (mkW v)).val+1)*((zy (mkW v)).val+1):=by
 have:=root_val (mkW v) (by simp only [mkW];rw [wi (by omega) (by omega)];omega)
 rwa [wv_mkW (by omega) h'] at this
def sq3 (x y z:I64):Int:=x.val*x.val+y.val*y.val+z.val*z.val
theorem sum_spec {x y z:I64} (hx:0<=x.val/\x.val<=1152921504606846976) (hy:0<=y.val/\y.val<=1152921504606846976) (hz:0<=z.val/\z.val<=1152921504606846976):
  F_spec_l10Sum x y z=mkW (sq3 x y z)/\0<=sq3 x y z/\sq3 x y z<=3987683987354747618711421180841033728 /\
  (zej x y z).opt=some ⟨.w .i64 (zy (mkW (sq3 x y z))).val,bif !(((mkW ((Rng.w .i64 (zy (mkW (sq3 x y z))).val).val*(Rng.w .i64 (zy (mkW (sq3 x y z))).val).val)).hi.val==(mkW (sq3 x y z)).hi.val)&&(((mkW ((Rng.w .i64 (zy (mkW (sq3 x y z))).val).val*(Rng.w .i64 (zy (mkW (sq3 x y z))).val).val)).lo.val==(mkW (sq3 x y z)).lo.val)&&true)) then .w .i64 ((Rng.w .i64 (zy (mkW (sq3 x y z))).val).val+1) else .w .i64 (zy (mkW (sq3 x y z))).val⟩:=by
 have px:=Int.mul_nonneg hx.1 hx.1
 have py:=Int.mul_nonneg hy.1 hy.1
 have pz:=Int.mul_nonneg hz.1 hz.1
 have qx:x.val*x.val<=1152921504606846976*1152921504606846976:=Int.mul_le_mul hx.2 hx.2 hx.1 (by decide)
 have qy:y.val*y.val<=1152921504606846976*1152921504606846976:=Int.mul_le_mul hy.2 hy.2 hy.1 (by decide)
 have qz:z.val*z.val<=1152921504606846976*1152921504606846976:=Int.mul_le_mul hz.2 hz.2 hz.1 (by decide)
 have wx:=wv_mkW (v:=x.val*x.val) (by omega) (by omega)
 have wy:=wv_mkW (v:=y.val*y.val) (by omega) (by omega)
 have wz:=wv_mkW (v:=z.val*z.val) (by omega) (by omega)
 have wxy:=wv_mkW (v:=x.val*x.val+y.val*y.val) (by omega) (by omega)
 have s1:zbN (mkW (x.val*x.val)) (mkW (y.val*y.val))=mkW (x.val*x.val+y.val*y.val):=by rw [plus_spec _ _ (by rw [wx,wy];omega),wx,wy]
 have s2:zbN (mkW (x.val*x.val+y.val*y.val)) (mkW (z.val*z.val))=mkW (sq3 x y z):=by rw [plus_spec _ _ (by rw [wxy,wz];omega),wxy,wz];rfl
 have i1:(zfg (mkW (x.val*x.val)) (mkW (y.val*y.val))).opt=some ⟨mkW (x.val*x.val+y.val*y.val),true⟩:=by rw [add_impl _ _ (by omega) (by omega) (by rw [wx,wy];omega),wx,wy]
 have i2:(zfg (mkW (x.val*x.val+y.val*y.val)) (mkW (z.val*z.val))).opt=some ⟨mkW (sq3 x y z),true⟩:=by rw [add_impl _ _ (by omega) (by omega) (by rw [wxy,wz];omega),wxy,wz];rfl
 have g1:zfm (mkW (x.val*x.val)) (mkW (y.val*y.val))=true:=by unfold zfm;rw [i1];rfl
 have g2:zfm (mkW (x.val*x.val+y.val*y.val)) (mkW (z.val*z.val))=true:=by unfold zfm;rw [i2];rfl
 have f1:F_impl_WideAdd (mkW (x.val*x.val)) (mkW (y.val*y.val))=_:=Tr.zan i1
 have f2:F_impl_WideAdd (mkW (x.val*x.val+y.val*y.val)) (mkW (z.val*z.val))=_:=Tr.zan i2
 have hs:sq3 x y z=x.val*x.val+y.val*y.val+z.val*z.val:=rfl
 have h0:0<=sq3 x y z:=by omega
 have h1:sq3 x y z<=3987683987354747618711421180841033728:=by omega
 refine ⟨?_,h0,h1,?_⟩
 ·simp only [F_spec_l10Sum,t_spec_l10Sum,Tr.get,mul_spec,s1,s2]
 ·simp only [zej,Tr.opt,mul_impl,g1,f1,g2,f2,cond_true,wsqrt_mk h0 (by omega)]
  cases (!(((mkW ((Rng.w .i64 (zy (mkW (sq3 x y z))).val).val*(Rng.w .i64 (zy (mkW (sq3 x y z))).val).val)).hi.val==(mkW (sq3 x y z)).hi.val)&&(((mkW ((Rng.w .i64 (zy (mkW (sq3 x y z))).val).val*(Rng.w .i64 (zy (mkW (sq3 x y z))).val).val)).lo.val==(mkW (sq3 x y z)).lo.val)&&true)))<;>rfl
theorem sq_mono {a b:Int} (h:0<=a) (h':a<=b):a*a<=b*b:=Int.mul_le_mul h' h' h (by omega)
theorem norm_ok (v:Vec):(t_impl_NormV v).opt=some (zdr v):=by
 simp only [t_impl_NormV,Tr.opt,zdr,t_spec_NormV,Tr.get,areb_eq,isw_eq,siw_eq,zbt,zcz,ends_eq]
 cases hx:za v.x
 ·rfl
 cases hy:za v.y
 ·rfl
 cases hz:za v.z
 ·rfl
 simp only [Bool.and_self,Bool.not_true,cond_false,abs_ends hx,abs_ends hy,abs_ends hz,abs_make hx,abs_make hy,abs_make hz]
 have bx:=(zbR v.x).1 hx
 have by':=(zbR v.y).1 hy
 have bz:=(zbR v.z).1 hz
 obtain ⟨x1,x2,ex,x3,x4,x5⟩:=ends_val hx
 obtain ⟨y1,y2,ey,y3,y4,y5⟩:=ends_val hy
 obtain ⟨z1,z2,ez,z3,z4,z5⟩:=ends_val hz
 simp only [ex,ey,ez]
 obtain ⟨a1,a2,a3,a4⟩:=sum_spec (x:=x1) (y:=y1) (z:=z1) (by omega) (by omega) (by omega)
 obtain ⟨b1,b2,b3,b4⟩:=sum_spec (x:=x2) (y:=y2) (z:=z2) (by omega) (by omega) (by omega)
 have ga:zcr x1 y1 z1=true:=by unfold zcr;rw [a4];rfl
 have gb:zcr x2 y2 z2=true:=by unfold zcr;rw [b4];rfl
 have fa:zen x1 y1 z1=_:=Tr.zan a4
 have fb:zen x2 y2 z2=_:=Tr.zan b4
 obtain ⟨r0,r1,r2⟩:=root_mk a2 (by omega)
 obtain ⟨q0,q1,q2⟩:=root_mk b2 (by omega)
 have hle:sq3 x1 y1 z1<=sq3 x2 y2 z2:=by
  have k1:=sq_mono x3 x4
  have k2:=sq_mono y3 y4
  have k3:=sq_mono z3 z4
  unfold sq3;omega
 have hR:(zy (mkW (sq3 x1 y1 z1))).val<=(zy (mkW (sq3 x2 y2 z2))).val:=by
  by_cases hh:(zy (mkW (sq3 x1 y1 z1))).val<=(zy (mkW (sq3 x2 y2 z2))).val
  ·exact hh
  ·have:=sq_mono (a:=(zy (mkW (sq3 x2 y2 z2))).val+1) (b:=(zy (mkW (sq3 x1 y1 z1))).val) (by omega) (by omega)
   omega
 have hQ:(zy (mkW (sq3 x2 y2 z2))).val<=2305843009213693952:=sq_lt q0 (by decide) (by omega)
 have w1:(Rng.w .i64 (zy (mkW (sq3 x1 y1 z1))).val).val=(zy (mkW (sq3 x1 y1 z1))).val:=wi (by omega) (by omega)
 have w2:(Rng.w .i64 (zy (mkW (sq3 x2 y2 z2))).val).val=(zy (mkW (sq3 x2 y2 z2))).val:=wi (by omega) (by omega)
 have w3:(Rng.w .i64 ((zy (mkW (sq3 x2 y2 z2))).val+1)).val=(zy (mkW (sq3 x2 y2 z2))).val+1:=wi (by omega) (by omega)
 simp only [ga,gb,fa,fb,cond_true,a1,b1,mul_spec,zex]
 generalize hc:((mkW ((Rng.w .i64 (zy (mkW (sq3 x2 y2 z2))).val).val*(Rng.w .i64 (zy (mkW (sq3 x2 y2 z2))).val).val)).hi.val==(mkW (sq3 x2 y2 z2)).hi.val&&((mkW ((Rng.w .i64 (zy (mkW (sq3 x2 y2 z2))).val).val*(Rng.w .i64 (zy (mkW (sq3 x2 y2 z2))).val).val)).lo.val==(mkW (sq3 x2 y2 z2)).lo.val&&true))=c
 cases c
 ·simp only [Bool.not_false,cond_true,w2,w3]
  by_cases hm:(zy (mkW (sq3 x2 y2 z2))).val+1>=1152921504606846976
  ·simp only [hm,decide_true,cond_true]
   rw [make_no (by rw [w3];omega)]
  ·simp only [hm,decide_false,cond_false]
   rw [zcx (by rw [w1,w3];omega)]
 ·simp only [Bool.not_true,cond_false,w2]
  by_cases hm:(zy (mkW (sq3 x2 y2 z2))).val>=1152921504606846976
  ·simp only [hm,decide_true,cond_true]
   rw [make_no (by rw [w2];omega)]
  ·simp only [hm,decide_false,cond_false]
   rw [zcx (by rw [w1,w2];omega)]
theorem norm_eq (v:Vec):F_impl_NormV v=zdr v:=Tr.zan (norm_ok v)
end Go.Proofs.YtfcjhkkpbnobhaaGreat.Ev
namespace Go.Proofs.YtfcjhkkpbnobhaaGreat.Ev
open Go
def shr (n e:I64):I64:= .w .i64 (n.val.fdiv (2^min e.val.toNat 64))
def shl (n e:I64):I64:= .w .i64 (n.val*(2^min e.val.toNat 64))
theorem lshr_val {n e:I64} (h:0<=e.val) (h':e.val<=40):(shr n e).val=n.val/2^e.val.toNat:=by
 unfold shr
 rw [Nat.min_eq_left (by omega),fdpow]
 have hp:(0:Int)<2^e.val.toNat:=Int.pow_pos (by decide)
 have:=ediv_bd1 hp n.bd
 exact wi this.1 this.2
theorem log_up (n:I64) (hn:1<=n.val/\n.val<=1152921504606846976) (x2 x3:I64):∀(j:Nat) (m:Nat) (e:I64),e.val=32-(j:Int)->j<=32->
  ∃E:I64,e.val<=E.val/\E.val<=32/\(Lf zeb (j+1+m) ⟨n,e,x2,x3,shr n e,.w .i64 (0-(shr (.w .i64 (0-n.val)) e).val)⟩).opt=some ⟨n,E,x2,x3,shr n E,.w .i64 (0-(shr (.w .i64 (0-n.val)) E).val)⟩ /\
   (Lf zdE (j+1+m) ⟨n,e⟩).opt=some ⟨n,E⟩/\(shr n E).val<6442450944/\(E=e\/3221225472<=(shr n E).val):=by
 intro j
 induction j with
 | zero=>
  intro m e he _
  have hv:=lshr_val (n:=n) (e:=e) (by omega) (by omega)
  have hp:(2:Int)^e.val.toNat=4294967296:=by rw [show e.val.toNat=32 by omega];rfl
  have hlt:¬(shr n e).val>=6442450944:=by rw [hv,hp];omega
  have hlt':¬(Rng.w .i64 (n.val.fdiv (2^min e.val.toNat 64))).val>=6442450944:=hlt
  have hneg:decide (e.val<0)=false:=by simp;omega
  refine ⟨e,by omega,by omega,?_,?_,by omega,.inl rfl⟩
  ·simp only [Lf,zeb,hlt,decide_false,Tr.bind,Tr.opt,cond_false,Nat.zero_add,Nat.add_comm 1 m]
  ·simp only [Lf,zdE,hneg,hlt',decide_false,Tr.bind,Tr.opt,cond_false,Nat.zero_add,Nat.add_comm 1 m]
 | succ j ih=>
  intro m e he hj
  have hv:=lshr_val (n:=n) (e:=e) (by omega) (by omega)
  have hneg:decide (e.val<0)=false:=by simp;omega
  have ev:(Rng.w .i64 (e.val+1)).val=e.val+1:=wi (by omega) (by omega)
  have hfuel:j+1+1+m=(j+1+m)+1:=by omega
  by_cases hc:(shr n e).val>=6442450944
  ·have hc':(Rng.w .i64 (n.val.fdiv (2^min e.val.toNat 64))).val>=6442450944:=hc
   obtain ⟨E,h1,h2,h3,h4,h5,h6⟩:=ih m (.w .i64 (e.val+1)) (by rw [ev];omega) (by omega)
   have en:(Rng.w .u64 (Rng.w .i64 (e.val+1)).val).val=(Rng.w .i64 (e.val+1)).val:=by rw [ev];exact wu (by omega) (by omega)
   refine ⟨E,by omega,h2,?_,?_,h5,.inr ?_⟩
   ·rw [hfuel]
    simp only [Lf,zeb,hc,decide_true,Tr.bind,Tr.opt,cond_true,en]
    exact h3
   ·rw [hfuel]
    simp only [Lf,zdE,hneg,hc',decide_true,Tr.bind,Tr.opt,cond_true,cond_false]
    exact h4
   ·rcases h6 with h6|h6
    ·have hv2:=lshr_val (n:=n) (e:= .w .i64 (e.val+1)) (by rw [ev];omega) (by rw [ev];omega)
     rw [h6,hv2,ev,show (e.val+1).toNat=e.val.toNat+1 by omega,Int.pow_succ,<- Int.ediv_ediv_of_nonneg (Int.pow_nonneg (by decide)),<- hv]
     omega
    ·exact h6
  ·have hc':¬(Rng.w .i64 (n.val.fdiv (2^min e.val.toNat 64))).val>=6442450944:=hc
   refine ⟨e,by omega,by omega,?_,?_,by omega,.inl rfl⟩
   ·rw [hfuel]
    simp only [Lf,zeb,hc,decide_false,Tr.bind,Tr.opt,cond_false]
   ·rw [hfuel]
    simp only [Lf,zdE,hneg,hc',decide_false,Tr.bind,Tr.opt,cond_false]
def sl (n e:I64):I64:=shl n (.w .i64 (0-e.val))
theorem log_dn (n:I64) (hn:1<=n.val) (x2 x3:I64):∀(j:Nat) (m:Nat) (e:I64),e.val=(j:Int)-32->j<=32->n.val*2^(32-j)<6442450944->
  ∃E:I64,E.val<=e.val /\ -32<=E.val/\(Lf zcJ (j+1+m) ⟨n,e,x2,x3,sl n e,sl n e⟩).opt=some ⟨n,E,x2,x3,sl n E,sl n E⟩ /\
   (Lf zcl (j+1+m) ⟨n,e⟩).opt=some ⟨n,E⟩/\3221225472<=(sl n E).val/\(sl n E).val<6442450944/\∃k:Nat,E.val= -(k:Int)/\(sl n E).val=n.val*2^k:=by
 have slv:∀(k:Nat) (e:I64),e.val= -(k:Int)->k<=32->n.val*2^k<6442450944->(sl n e).val=n.val*2^k:=fun k e he hk hlt=>by
  have e1:(Rng.w .i64 (0-e.val)).val=(k:Int):=by rw [wi (by omega) (by omega)];omega
  have hnn:0<=n.val*2^k:=Int.mul_nonneg (by omega) (Int.pow_nonneg (by decide))
  unfold sl shl
  rw [e1,Int.toNat_natCast,Nat.min_eq_left (by omega)]
  exact wi (by omega) (by omega)
 intro j
 induction j with
 | zero=>
  intro m e he _ hb
  have hv:=slv 32 e (by omega) (by omega) hb
  have hp:(2:Int)^32=4294967296:=rfl
  have hge:¬(sl n e).val<3221225472:=by rw [hv,hp];omega
  have hge':¬(Rng.w .i64 (n.val*(2^min (Rng.w .i64 (0-e.val)).val.toNat 64))).val<3221225472:=hge
  have e1:(Rng.w .i64 (0-e.val)).val=0-e.val:=wi (by omega) (by omega)
  have hneg:decide ((Rng.w .i64 (0-e.val)).val<0)=false:=by rw [e1];simp;omega
  have hle:decide (e.val<=0)=true:=by simp;omega
  refine ⟨e,by omega,by omega,?_,?_,by omega,by omega,32,by omega,hv⟩
  ·simp only [Lf,zcJ,hge,decide_false,Tr.bind,Tr.opt,cond_false,Nat.zero_add,Nat.add_comm 1 m]
  ·simp only [Lf,zcl,hle,hneg,hge',decide_false,Tr.bind,Tr.opt,cond_true,cond_false,Nat.zero_add,Nat.add_comm 1 m]
 | succ j ih=>
  intro m e he hj hb
  have hk:32-(j+1)+1=32-j:=by omega
  have hv:=slv (32-(j+1)) e (by omega) (by omega) hb
  have e1:(Rng.w .i64 (0-e.val)).val=0-e.val:=wi (by omega) (by omega)
  have hneg:decide ((Rng.w .i64 (0-e.val)).val<0)=false:=by rw [e1];simp;omega
  have hle:decide (e.val<=0)=true:=by simp;omega
  have ev:(Rng.w .i64 (e.val-1)).val=e.val-1:=wi (by omega) (by omega)
  have hfuel:j+1+1+m=(j+1+m)+1:=by omega
  by_cases hc:(sl n e).val<3221225472
  ·have hc':(Rng.w .i64 (n.val*(2^min (Rng.w .i64 (0-e.val)).val.toNat 64))).val<3221225472:=hc
   have e2:(Rng.w .i64 (0-(Rng.w .i64 (e.val-1)).val)).val=0-(e.val-1):=by rw [ev];exact wi (by omega) (by omega)
   have en:(Rng.w .u64 (Rng.w .i64 (0-(Rng.w .i64 (e.val-1)).val)).val).val=(Rng.w .i64 (0-(Rng.w .i64 (e.val-1)).val)).val:=by rw [e2];exact wu (by omega) (by omega)
   obtain ⟨E,h1,h2,h3,h4,h5⟩:=ih m (.w .i64 (e.val-1)) (by rw [ev];omega) (by omega) (by rw [<- hk,Int.pow_succ,<- Int.mul_assoc,<- hv];omega)
   refine ⟨E,by omega,h2,?_,?_,h5⟩
   ·rw [hfuel]
    simp only [Lf,zcJ,hc,decide_true,Tr.bind,Tr.opt,cond_true,en]
    exact h3
   ·rw [hfuel]
    simp only [Lf,zcl,hle,hneg,hc',decide_true,Tr.bind,Tr.opt,cond_true,cond_false]
    exact h4
  ·have hc':¬(Rng.w .i64 (n.val*(2^min (Rng.w .i64 (0-e.val)).val.toNat 64))).val<3221225472:=hc
   refine ⟨e,by omega,by omega,?_,?_,by omega,by rw [hv];exact hb,32-(j+1),by omega,hv⟩
   ·rw [hfuel]
    simp only [Lf,zcJ,hc,decide_false,Tr.bind,Tr.opt,cond_false]
   ·rw [hfuel]
    simp only [Lf,zcl,hle,hneg,hc',decide_false,Tr.bind,Tr.opt,cond_true,cond_false]
def logTail (m:Iv) (e:I64):Iv:=
 let z:=zz (zQ m zbi) (zP m zbi)
 let q:=zbe z
 zP (zcO e) (zcm (zC (zC (zD ⟨2,rfl⟩) z) (zP (zO ⟨1,rfl⟩ ⟨1,rfl⟩) (zC q (zP (zO ⟨1,rfl⟩ ⟨3,rfl⟩) (zC q (zP (zO ⟨1,rfl⟩ ⟨5,rfl⟩) (zC q (zP (zO ⟨1,rfl⟩ ⟨7,rfl⟩) (zC q (zP (zO ⟨1,rfl⟩ ⟨9,rfl⟩) (zC q (zO ⟨1,rfl⟩ ⟨11,rfl⟩)))))))))))) ⟨1,rfl⟩)
theorem one_eq:zD ⟨1,rfl⟩=zbi:=by
 rw [int_val (by decide)]
 simp only [zbi,t_spec_l08One,zdo,t_spec_l08At,Tr.get]
 exact (zcx (by decide)).symm
theorem widen_eq (a:Iv) (n:I64):zfp a n=zcm a n:=by
 simp only [zfp,t_impl_widened,zcm,zfD,Tr.get,zex,valid_eq]
 cases za a<;>simp [ctr,cfl]
theorem ediv_neg {a p:Int} (hp:0<p) (ha:a<=0):a<=a/p/\a/p<=0:=by
 constructor
 ·rw [Int.le_ediv_iff_mul_le hp]
  have h:=Int.mul_nonneg (show 0 <= -a by omega) (show 0<=p-1 by omega)
  rw [Int.neg_mul,Int.mul_sub] at h
  omega
 ·have:a/p<1:=(Int.ediv_lt_iff_lt_mul hp).2 (by omega)
  omega
def LogM (n:I64) (m:Iv) (E:I64):Prop:=
 ∃k:Nat,k<=32/\((E.val=(k:Int)/\m.lo.val=n.val/2^k/\m.hi.val= -(-n.val/2^k))\/(E.val= -(k:Int)/\m.lo=m.hi/\m.lo.val=n.val*2^k))/\3221225472<=m.lo.val/\m.lo.val<6442450944
theorem logAt_two (n:I64):∃y,(zeH n).opt=some y/\(zeJ n).opt=some y/\((1<=n.val/\n.val<=1152921504606846976/\∃m E,LogM n m E/\y=logTail m E)\/(¬(1<=n.val/\n.val<=1152921504606846976)/\y=zo)):=by
 by_cases hn:1<=n.val/\n.val<=1152921504606846976
 ·have hi:zar n ⟨1,rfl⟩ ⟨1152921504606846976,rfl⟩=true:=by rw [zeF];simpa using hn
  have hv:zaQ n=true:=by rw [okfix_eq];exact ok3 (by omega)
  have hp:decide (n.val<=0)=false:=by simp;omega
  obtain ⟨E,a1,a2,a3,a4,a5,a6⟩:=log_up n hn ⟨0,rfl⟩ ⟨0,rfl⟩ 32 37 ⟨0,rfl⟩ rfl (by decide)
  have z1:shr n ⟨0,rfl⟩=n:=by
   unfold shr
   show Rng.w .i64 (n.val.fdiv (2^0))=n
   rw [show (2:Int)^0=1 by rfl,Int.fdiv_one];exact Rng.w_val _
  have z2:Rng.w .i64 (0-(shr (.w .i64 (0-n.val)) ⟨0,rfl⟩).val)=n:=by
   have:shr (.w .i64 (0-n.val)) ⟨0,rfl⟩= .w .i64 (0-n.val):=by
    unfold shr
    show Rng.w .i64 ((Rng.w .i64 (0-n.val)).val.fdiv (2^0))=_
    rw [show (2:Int)^0=1 by rfl,Int.fdiv_one];exact Rng.w_val _
   rw [this]
   exact rext (by rw [wi (n:=0-n.val) (by omega) (by omega),wi (by omega) (by omega)];omega)
  have hf:(32+1+37:Nat)=70:=rfl
  rw [hf,z1,z2] at a3
  rw [hf] at a4
  have g5:G_spec_LogAt_5 ⟨n,⟨0,rfl⟩,⟨0,rfl⟩,⟨0,rfl⟩,n,n⟩=true:=by unfold G_spec_LogAt_5;rw [a3];rfl
  have l5:L_spec_LogAt_5 ⟨n,⟨0,rfl⟩,⟨0,rfl⟩,⟨0,rfl⟩,n,n⟩=_:=Tr.zan a3
  have g2:G_impl_twosOf_2 ⟨n,⟨0,rfl⟩⟩=true:=by unfold G_impl_twosOf_2;rw [a4];rfl
  have l2:L_impl_twosOf_2 ⟨n,⟨0,rfl⟩⟩=_:=Tr.zan a4
  by_cases hE:E.val>0
  ·have hge:3221225472<=(shr n E).val:=by
    rcases a6 with h|h
    ·rw [h] at hE;exact absurd hE (by decide)
    ·exact h
   have hd:decide ((shr n E).val<3221225472)=false:=by simp;omega
   have hd2:decide (E.val<=0)=false:=by simp;omega
   have b3':∀k,(Lf zcJ (k+1) ⟨n,E,⟨0,rfl⟩,⟨0,rfl⟩,shr n E,.w .i64 (0-(shr (.w .i64 (0-n.val)) E).val)⟩).opt=some ⟨n,E,⟨0,rfl⟩,⟨0,rfl⟩,shr n E,.w .i64 (0-(shr (.w .i64 (0-n.val)) E).val)⟩:=by
    intro k;simp only [Lf,zcJ,hd,Tr.bind,Tr.opt,cond_false]
   have b4':∀k,(Lf zcl (k+1) ⟨n,E⟩).opt=some ⟨n,E⟩:=by intro k;simp only [Lf,zcl,hd2,Tr.bind,Tr.opt,cond_false]
   have b3:=b3' 69
   have b4:=b4' 69
   have g8:zfl ⟨n,E,⟨0,rfl⟩,⟨0,rfl⟩,shr n E,.w .i64 (0-(shr (.w .i64 (0-n.val)) E).val)⟩=true:=by unfold zfl;rw [b3];rfl
   have l8:L_spec_LogAt_8 ⟨n,E,⟨0,rfl⟩,⟨0,rfl⟩,shr n E,.w .i64 (0-(shr (.w .i64 (0-n.val)) E).val)⟩=_:=Tr.zan b3
   have g4:zez ⟨n,E⟩=true:=by unfold zez;rw [b4];rfl
   have l4:L_impl_twosOf_4 ⟨n,E⟩=_:=Tr.zan b4
   have tw:(zeP n).opt=some E:=by simp only [zeP,Tr.opt,g2,l2,g4,l4,cond_true]
   have gt:G_impl_twosOf n=true:=by unfold G_impl_twosOf;rw [tw];rfl
   have ft:F_impl_twosOf n=E:=Tr.zan tw
   have hpos:decide (E.val>0)=true:=by simpa using hE
   have hng:decide (E.val<0)=false:=by simp;omega
   have hb1:=lshr_val (n:=n) (e:=E) (by omega) (by omega)
   have hb2:=lshr_val (n:= .w .i64 (0-n.val)) (e:=E) (by omega) (by omega)
   rw [show (Rng.w .i64 (0-n.val)).val= -n.val from by rw [wi (by omega) (by omega)];omega] at hb2
   have hb3:=ediv_neg (a:= -n.val) (p:=2^E.val.toNat) (Int.pow_pos (by decide)) (by omega)
   refine ⟨logTail ⟨shr n E,.w .i64 (0-(shr (.w .i64 (0-n.val)) E).val)⟩ E,?_,?_,.inl ⟨hn.1,hn.2,_,_,⟨E.val.toNat,by omega,.inl ⟨by omega,hb1,?_⟩,hge,a5⟩,rfl⟩⟩
   ·simp only [zeH,Tr.opt,hi,g5,l5,g8,l8,Bool.not_true,cond_false,cond_true,logTail]
   ·simp only [zeJ,Tr.opt,hv,hp,gt,ft,hpos,hng,Bool.not_true,cond_false,cond_true,divI_F,sub_eq,add_eq,integer_eq,one_eq,sqrI_F,mulI_F,quot_eq,widen_eq,log2_eq,logTail]
    rfl
   ·show (Rng.w .i64 (0-(shr (.w .i64 (0-n.val)) E).val)).val=_
    rw [hb2,wi (by omega) (by omega)];omega
  ·have hE0:E=⟨0,rfl⟩:=rext (by show E.val=0;have:(0:Int)<=E.val:=a1;omega)
   subst hE0
   rw [z1] at a5
   obtain ⟨E,b1,b2,b3,b4,b5,b6,k,b7,b8⟩:=log_dn n hn.1 ⟨0,rfl⟩ ⟨0,rfl⟩ 32 37 ⟨0,rfl⟩ rfl (by decide) (by show n.val*2^0<_;rw [show (2:Int)^0=1 by rfl,Int.mul_one];exact a5)
   have z3:sl n ⟨0,rfl⟩=n:=by
    unfold sl shl
    show Rng.w .i64 (n.val*2^0)=n
    rw [show (2:Int)^0=1 by rfl,Int.mul_one];exact Rng.w_val _
   rw [hf,z3] at b3
   rw [hf] at b4
   rw [z1,z2] at l5
   have g8:zfl ⟨n,⟨0,rfl⟩,⟨0,rfl⟩,⟨0,rfl⟩,n,n⟩=true:=by unfold zfl;rw [b3];rfl
   have l8:L_spec_LogAt_8 ⟨n,⟨0,rfl⟩,⟨0,rfl⟩,⟨0,rfl⟩,n,n⟩=_:=Tr.zan b3
   have g4:zez ⟨n,⟨0,rfl⟩⟩=true:=by unfold zez;rw [b4];rfl
   have l4:L_impl_twosOf_4 ⟨n,⟨0,rfl⟩⟩=_:=Tr.zan b4
   have tw:(zeP n).opt=some E:=by simp only [zeP,Tr.opt,g2,l2,g4,l4,cond_true]
   have gt:G_impl_twosOf n=true:=by unfold G_impl_twosOf;rw [tw];rfl
   have ft:F_impl_twosOf n=E:=Tr.zan tw
   have hb1:E.val<=0:=b1
   have hpos:decide (E.val>0)=false:=by simp;omega
   have e1:(Rng.w .i64 (0-E.val)).val=0-E.val:=wi (by omega) (by omega)
   have hng:decide ((Rng.w .i64 (0-E.val)).val<0)=false:=by rw [e1];simp;omega
   refine ⟨logTail ⟨sl n E,sl n E⟩ E,?_,?_,.inl ⟨hn.1,hn.2,_,_,⟨k,by omega,.inr ⟨b7,rfl,b8⟩,b5,b6⟩,rfl⟩⟩
   ·simp only [zeH,Tr.opt,hi,g5,l5,g8,l8,Bool.not_true,cond_false,cond_true,logTail]
   ·simp only [zeJ,Tr.opt,hv,hp,gt,ft,hpos,hng,Bool.not_true,cond_false,cond_true,divI_F,sub_eq,add_eq,integer_eq,one_eq,sqrI_F,mulI_F,quot_eq,widen_eq,log2_eq,logTail]
    rfl
 ·have hi:zar n ⟨1,rfl⟩ ⟨1152921504606846976,rfl⟩=false:=by rw [zeF];simpa using hn
  refine ⟨zo,by simp only [zeH,Tr.opt,hi,Bool.not_false,cond_true],?_,.inr ⟨hn,rfl⟩⟩
  simp only [zeJ,Tr.opt,okfix_eq,zbt]
  cases hv:zF n
  ·simp only [Bool.not_false,cond_true]
  ·have:=ok_bd hv
   have hp:decide (n.val<=0)=true:=by simp;omega
   simp only [Bool.not_true,cond_false,hp,cond_true]
theorem logAt_ok (n:I64):∃y,(zeH n).opt=some y/\(zeJ n).opt=some y:=by
 obtain ⟨y,h1,h2,_⟩:=logAt_two n;exact ⟨y,h1,h2⟩
theorem logAt_val {n:I64} (hn:1<=n.val/\n.val<=1152921504606846976):∃m E,LogM n m E/\zd1 n=logTail m E:=by
 obtain ⟨y,h1,_,h|h⟩:=logAt_two n
 ·obtain ⟨_,_,m,E,h3,h4⟩:=h
  exact ⟨m,E,h3,(Tr.zan h1).trans h4⟩
 ·exact absurd hn h.1
theorem logAt_whole {n:I64} (hn:¬(1<=n.val/\n.val<=1152921504606846976)):zd1 n=zo:=by
 obtain ⟨y,h1,_,h|h⟩:=logAt_two n
 ·exact absurd ⟨h.1,h.2.1⟩ hn
 ·exact (Tr.zan h1).trans h.2
theorem tt_logAt_spec (n:I64):(zeH n).opt=some (zd1 n):=by obtain ⟨x,h1,_⟩:=logAt_ok n;exact zdi h1
theorem tt_logAt_impl (n:I64):(zeJ n).opt=some (F_impl_LogAt n):=by obtain ⟨x,_,h1⟩:=logAt_ok n;exact zdi h1
theorem logAt_eq (n:I64):F_impl_LogAt n=zd1 n:=by
 obtain ⟨x,h1,h2⟩:=logAt_ok n
 exact (Tr.zan h2).trans (Tr.zan h1).symm
end Go.Proofs.YtfcjhkkpbnobhaaGreat.Ev
namespace Go.Proofs.YtfcjhkkpbnobhaaGreat.Ev
open Go Go.RowKit
set_option maxRecDepth 100000
section
variable [Amb]
def ET_spec_LogAt:Ent Tryz.prog:= .of1 Tb352 B352 (fun _=>true) zd1 fun a0 _=>(r_spec_LogAt a0).trans (tt_logAt_spec a0)
def ET_impl_LogAt:Ent Tryz.prog:= .of1 Tb287 B287 (fun _=>true) F_impl_LogAt fun a0 _=>(r_impl_LogAt a0).trans (tt_logAt_impl a0)
def t_spec_l19Known (a0:Iv):Tr (T2 Iv I64):=
 .br (!(za a0)) (.leaf ⟨⟨⟨0,rfl⟩,⟨0,rfl⟩⟩,⟨9,rfl⟩⟩) (.leaf ⟨a0,⟨0,rfl⟩⟩)
def t_impl_knownI (a0:Iv):Tr (T2 Iv I64):=
 .br (zal a0) (.leaf ⟨⟨⟨0,rfl⟩,⟨0,rfl⟩⟩,⟨9,rfl⟩⟩) (.leaf ⟨a0,⟨0,rfl⟩⟩)
def zeV:Iv->T2 Iv I64:=fun a0=>(t_impl_knownI a0).get
def t_impl_quarter:Tr (I64):=
 .leaf (za8 ⟨1,rfl⟩).hi
def B136:Bod Tryz.prog:=⟨136,Tryz.f136,Tryz.f136.body.getD .skip,Tryz.func136,by kernel_rfl,by kernel_rfl,zae.no _ _⟩
def Tb136:Tb Tryz.prog:= {T:= [Y2,Y24,Y30],mix:=mix,Es:= [ET_impl_RadiansOf,E_impl_WrapLon],Bs:= [],d:=1}
def zeQ (a0:zaL) (a1:zaL):Tr (Iv):=
 .leaf (zdU (F_impl_WrapLon (Rng.w .i64 (a1.lon.val-a0.lon.val))))
theorem r_impl_differenceOf (a0:zaL) (a1:zaL):Tb136.run B136 [enc a0,enc a1] (Iv)=(zeQ a0 a1).opt:=by kernel_rfl
def zdG:zaL->zaL->Iv:=fun a0 a1=>(zeQ a0 a1).get
theorem u_impl_differenceOf (a0:zaL) (a1:zaL):(zeQ a0 a1).opt=some (zdG a0 a1):=Tr.zL (by kernel_rfl)
def E_impl_differenceOf:Ent Tryz.prog:= .of2 Tb136 B136 (fun _ _=>true) zdG fun a0 a1 _=>(r_impl_differenceOf a0 a1).trans (u_impl_differenceOf a0 a1)
def B135:Bod Tryz.prog:=⟨135,Tryz.f135,Tryz.f135.body.getD .skip,Tryz.func135,by kernel_rfl,by kernel_rfl,zae.no _ _⟩
def Tb135:Tb Tryz.prog:= {T:= [Y2,Y24,Y30],mix:=mix,Es:= [E_impl_ValidPoint,zaD,ET_impl_RadiansOf],Bs:= [],d:=1}
def t_impl_LatOf (a0:zaL):Tr (Iv):=
 .br (!(zcb a0)) (.leaf zH) (.leaf (zdU a0.lat))
theorem r_impl_LatOf (a0:zaL):Tb135.run B135 [enc a0] (Iv)=(t_impl_LatOf a0).opt:=by kernel_rfl
def F_impl_LatOf:zaL->Iv:=fun a0=>(t_impl_LatOf a0).get
theorem u_impl_LatOf (a0:zaL):(t_impl_LatOf a0).opt=some (F_impl_LatOf a0):=Tr.zL (by kernel_rfl)
def E_impl_LatOf:Ent Tryz.prog:= .of1 Tb135 B135 (fun _=>true) F_impl_LatOf fun a0 _=>(r_impl_LatOf a0).trans (u_impl_LatOf a0)
def t_impl_LonOf (a0:zaL):Tr (Iv):=
 .br (!(zcb a0)) (.leaf zH) (.leaf (zdU a0.lon))
def F_impl_LonOf:zaL->Iv:=fun a0=>(t_impl_LonOf a0).get
def t_impl_vectorOf (a0:zaL):Tr (Vec):=
 let c1:=F_impl_LatOf a0;let c2:=F_impl_LonOf a0;.leaf ⟨(zaf (zeY c1) (zeY c2)),(zaf (zeY c1) (F_impl_SinI c2)),(F_impl_SinI c1)⟩
def zbv:zaL->Vec:=fun a0=>(t_impl_vectorOf a0).get
def t_impl_CrossV (a0:Vec) (a1:Vec):Tr (Vec):=
 .leaf ⟨(zav (zaf a0.y a1.z) (zaf a0.z a1.y)),(zav (zaf a0.z a1.x) (zaf a0.x a1.z)),(zav (zaf a0.x a1.y) (zaf a0.y a1.x))⟩
def F_impl_CrossV:Vec->Vec->Vec:=fun a0 a1=>(t_impl_CrossV a0 a1).get
def t_impl_DotV (a0:Vec) (a1:Vec):Tr (Iv):=
 .leaf (zaH (zaH (zaf a0.x a1.x) (zaf a0.y a1.y)) (zaf a0.z a1.z))
def F_impl_DotV:Vec->Vec->Iv:=fun a0 a1=>(t_impl_DotV a0 a1).get
def B94:Bod Tryz.prog:=⟨94,Tryz.f94,Tryz.f94.body.getD .skip,Tryz.func94,by kernel_rfl,by kernel_rfl,zae.no _ _⟩
def Tb94:Tb Tryz.prog:= {T:= [Y24],mix:=mix,Es:= [E_impl_ValidPoint],Bs:= [],d:=1}
def zfO (a0:zaL) (a1:zaL):Tr (Bool):=
 .br (zcb a0) (.leaf (zcb a1)) (.leaf false)
theorem r_impl_areValid (a0:zaL) (a1:zaL):Tb94.run B94 [enc a0,enc a1] (Bool)=(zfO a0 a1).opt:=by kernel_rfl
def zc0:zaL->zaL->Bool:=fun a0 a1=>(zfO a0 a1).get
theorem u_impl_areValid (a0:zaL) (a1:zaL):(zfO a0 a1).opt=some (zc0 a0 a1):=Tr.zL (by kernel_rfl)
def E_impl_areValid:Ent Tryz.prog:= .of2 Tb94 B94 (fun _ _=>true) zc0 fun a0 a1 _=>(r_impl_areValid a0 a1).trans (u_impl_areValid a0 a1)
def t_impl_AngleBetween (a0:zaL) (a1:zaL):Tr (T2 Iv I64):=
 .br (!(zc0 a0 a1)) (.leaf ⟨⟨⟨0,rfl⟩,⟨0,rfl⟩⟩,⟨1,rfl⟩⟩) (let c2:=zbv a0;let c3:=zbv a1;let c8:=zeV (zcE (F_impl_NormV (F_impl_CrossV c2 c3)) (F_impl_DotV c2 c3));.leaf ⟨c8.a,c8.b⟩)
def zcF:zaL->zaL->T2 Iv I64:=fun a0 a1=>(t_impl_AngleBetween a0 a1).get
def B106:Bod Tryz.prog:=⟨106,Tryz.f106,Tryz.f106.body.getD .skip,Tryz.func106,by kernel_rfl,by kernel_rfl,zae.no _ _⟩
def Tb106:Tb Tryz.prog:= {T:= [Y2,Y24,Y30,Y40],mix:=mix,Es:= [ze1,E_spec_CosI,E_spec_SinI,ET_spec_RadiansOf],Bs:= [],d:=1}
def t_spec_l15Vec (a0:zaL):Tr (Vec):=
 let c1:=zaa a0.lat;let c2:=zaa a0.lon;let c3:=zbD c1;.leaf ⟨(zC c3 (zbD c2)),(zC c3 (zb5 c2)),(zb5 c1)⟩
theorem r_spec_l15Vec (a0:zaL):Tb106.run B106 [enc a0] (Vec)=(t_spec_l15Vec a0).opt:=by kernel_rfl
def F_spec_l15Vec:zaL->Vec:=fun a0=>(t_spec_l15Vec a0).get
theorem u_spec_l15Vec (a0:zaL):(t_spec_l15Vec a0).opt=some (F_spec_l15Vec a0):=Tr.zL (by kernel_rfl)
def E_spec_l15Vec:Ent Tryz.prog:= .of1 Tb106 B106 (fun _=>true) F_spec_l15Vec fun a0 _=>(r_spec_l15Vec a0).trans (u_spec_l15Vec a0)
def B22:Bod Tryz.prog:=⟨22,Tryz.f22,Tryz.f22.body.getD .skip,Tryz.func22,by kernel_rfl,by kernel_rfl,zae.no _ _⟩
def Tb22:Tb Tryz.prog:= {T:= [Y2,Y30,Y40],mix:=mix,Es:= [ze1,ze0],Bs:= [],d:=1}
def t_spec_CrossV (a0:Vec) (a1:Vec):Tr (Vec):=
 .leaf ⟨(zQ (zC a0.y a1.z) (zC a0.z a1.y)),(zQ (zC a0.z a1.x) (zC a0.x a1.z)),(zQ (zC a0.x a1.y) (zC a0.y a1.x))⟩
theorem r_spec_CrossV (a0:Vec) (a1:Vec):Tb22.run B22 [enc a0,enc a1] (Vec)=(t_spec_CrossV a0 a1).opt:=by kernel_rfl
def zd3:Vec->Vec->Vec:=fun a0 a1=>(t_spec_CrossV a0 a1).get
theorem u_spec_CrossV (a0:Vec) (a1:Vec):(t_spec_CrossV a0 a1).opt=some (zd3 a0 a1):=Tr.zL (by kernel_rfl)
def E_spec_CrossV:Ent Tryz.prog:= .of2 Tb22 B22 (fun _ _=>true) zd3 fun a0 a1 _=>(r_spec_CrossV a0 a1).trans (u_spec_CrossV a0 a1)
def B28:Bod Tryz.prog:=⟨28,Tryz.f28,Tryz.f28.body.getD .skip,Tryz.func28,by kernel_rfl,by kernel_rfl,zae.no _ _⟩
def Tb28:Tb Tryz.prog:= {T:= [Y2,Y30,Y40],mix:=mix,Es:= [ze1,E_spec_AddI],Bs:= [],d:=1}
def t_spec_DotV (a0:Vec) (a1:Vec):Tr (Iv):=
 .leaf (zP (zP (zC a0.x a1.x) (zC a0.y a1.y)) (zC a0.z a1.z))
theorem r_spec_DotV (a0:Vec) (a1:Vec):Tb28.run B28 [enc a0,enc a1] (Iv)=(t_spec_DotV a0 a1).opt:=by kernel_rfl
def F_spec_DotV:Vec->Vec->Iv:=fun a0 a1=>(t_spec_DotV a0 a1).get
theorem u_spec_DotV (a0:Vec) (a1:Vec):(t_spec_DotV a0 a1).opt=some (F_spec_DotV a0 a1):=Tr.zL (by kernel_rfl)
def E_spec_DotV:Ent Tryz.prog:= .of2 Tb28 B28 (fun _ _=>true) F_spec_DotV fun a0 a1 _=>(r_spec_DotV a0 a1).trans (u_spec_DotV a0 a1)
def B105:Bod Tryz.prog:=⟨105,Tryz.f105,Tryz.f105.body.getD .skip,Tryz.func105,by kernel_rfl,by kernel_rfl,zae.no _ _⟩
def Tb105:Tb Tryz.prog:= {T:= [Y2,Y30,Y40],mix:=mix,Es:= [E_spec_CrossV,E_spec_DotV,E_spec_DirectionI,E_spec_NormV],Bs:= [],d:=1}
def t_spec_l15Angle (a0:Vec) (a1:Vec):Tr (Iv):=
 .leaf (zaE (zdr (zd3 a0 a1)) (F_spec_DotV a0 a1))
theorem r_spec_l15Angle (a0:Vec) (a1:Vec):Tb105.run B105 [enc a0,enc a1] (Iv)=(t_spec_l15Angle a0 a1).opt:=by kernel_rfl
def F_spec_l15Angle:Vec->Vec->Iv:=fun a0 a1=>(t_spec_l15Angle a0 a1).get
theorem u_spec_l15Angle (a0:Vec) (a1:Vec):(t_spec_l15Angle a0 a1).opt=some (F_spec_l15Angle a0 a1):=Tr.zL (by kernel_rfl)
def E_spec_l15Angle:Ent Tryz.prog:= .of2 Tb105 B105 (fun _ _=>true) F_spec_l15Angle fun a0 a1 _=>(r_spec_l15Angle a0 a1).trans (u_spec_l15Angle a0 a1)
def B104:Bod Tryz.prog:=⟨104,Tryz.f104,Tryz.f104.body.getD .skip,Tryz.func104,by kernel_rfl,by kernel_rfl,zae.no _ _⟩
def Tb104:Tb Tryz.prog:= {T:= [Y2,Y30],mix:=mix,Es:= [E_spec_IsWhole],Bs:= [],d:=1}
def t_spec_l15Known (a0:Iv):Tr (T2 Iv I64):=
 .br (za3 a0) (.leaf ⟨⟨⟨0,rfl⟩,⟨0,rfl⟩⟩,⟨9,rfl⟩⟩) (.leaf ⟨a0,⟨0,rfl⟩⟩)
theorem r_spec_l15Known (a0:Iv):Tb104.run B104 [enc a0] (T2 Iv I64)=(t_spec_l15Known a0).opt:=by kernel_rfl
def F_spec_l15Known:Iv->T2 Iv I64:=fun a0=>(t_spec_l15Known a0).get
theorem u_spec_l15Known (a0:Iv):(t_spec_l15Known a0).opt=some (F_spec_l15Known a0):=Tr.zL (by kernel_rfl)
def E_spec_l15Known:Ent Tryz.prog:= .of1 Tb104 B104 (fun _=>true) F_spec_l15Known fun a0 _=>(r_spec_l15Known a0).trans (u_spec_l15Known a0)
def B32:Bod Tryz.prog:=⟨32,Tryz.f32,Tryz.f32.body.getD .skip,Tryz.func32,by kernel_rfl,by kernel_rfl,zae.no _ _⟩
def Tb32:Tb Tryz.prog:= {T:= [Y2,Y24,Y30],mix:=mix,Es:= [E_spec_l11Ok,E_spec_l15Known,E_spec_l15Angle,E_spec_l15Vec],Bs:= [],d:=1}
def zeO (a0:zaL) (a1:zaL):Tr (T2 Iv I64):=
 .br (!(zab a0)) (.leaf ⟨⟨⟨0,rfl⟩,⟨0,rfl⟩⟩,⟨1,rfl⟩⟩) (.br (!(zab a1)) (.leaf ⟨⟨⟨0,rfl⟩,⟨0,rfl⟩⟩,⟨1,rfl⟩⟩) (let c6:=F_spec_l15Known (F_spec_l15Angle (F_spec_l15Vec a0) (F_spec_l15Vec a1));.leaf ⟨c6.a,c6.b⟩))
theorem r_spec_AngleBetween (a0:zaL) (a1:zaL):Tb32.run B32 [enc a0,enc a1] (T2 Iv I64)=(zeO a0 a1).opt:=by kernel_rfl
def zbl:zaL->zaL->T2 Iv I64:=fun a0 a1=>(zeO a0 a1).get
theorem u_spec_AngleBetween (a0:zaL) (a1:zaL):(zeO a0 a1).opt=some (zbl a0 a1):=Tr.zL (by kernel_rfl)
def E_spec_AngleBetween:Ent Tryz.prog:= .of2 Tb32 B32 (fun _ _=>true) zbl fun a0 a1 _=>(r_spec_AngleBetween a0 a1).trans (u_spec_AngleBetween a0 a1)
def B209:Bod Tryz.prog:=⟨209,Tryz.f209,Tryz.f209.body.getD .skip,Tryz.func209,by kernel_rfl,by kernel_rfl,zae.no _ _⟩
def Tb209:Tb Tryz.prog:= {T:= [Y2,Y30],mix:=mix,Es:= [zas,za4,za6],Bs:= [],d:=1}
def t_spec_HalfI (a0:Iv):Tr (Iv):=
 .br (!(za a0)) (.leaf zo) (.leaf (zai (Rng.w .i64 (a0.lo.val.fdiv 2)) (Rng.w .i64 ((Rng.w .i64 (a0.hi.val+1)).val.fdiv 2))))
theorem r_spec_HalfI (a0:Iv):Tb209.run B209 [enc a0] (Iv)=(t_spec_HalfI a0).opt:=by kernel_rfl
def zd2:Iv->Iv:=fun a0=>(t_spec_HalfI a0).get
theorem u_spec_HalfI (a0:Iv):(t_spec_HalfI a0).opt=some (zd2 a0):=Tr.zL (by kernel_rfl)
def E_spec_HalfI:Ent Tryz.prog:= .of1 Tb209 B209 (fun _=>true) zd2 fun a0 _=>(r_spec_HalfI a0).trans (u_spec_HalfI a0)
def B193:Bod Tryz.prog:=⟨193,Tryz.f193,Tryz.f193.body.getD .skip,Tryz.func193,by kernel_rfl,by kernel_rfl,zae.no _ _⟩
def Tb193:Tb Tryz.prog:= {T:= [Y2,Y30],mix:=mix,Es:= [zbY,zaD],Bs:= [],d:=1}
def t_impl_HalfI (a0:Iv):Tr (Iv):=
 .br (zal a0) (.leaf zH) (.leaf ⟨(Rng.w .i64 (a0.lo.val.fdiv 2)),(Rng.w .i64 ((Rng.w .i64 (a0.hi.val+1)).val.fdiv 2))⟩)
theorem r_impl_HalfI (a0:Iv):Tb193.run B193 [enc a0] (Iv)=(t_impl_HalfI a0).opt:=by kernel_rfl
def F_impl_HalfI:Iv->Iv:=fun a0=>(t_impl_HalfI a0).get
theorem u_impl_HalfI (a0:Iv):(t_impl_HalfI a0).opt=some (F_impl_HalfI a0):=Tr.zL (by kernel_rfl)
def E_impl_HalfI:Ent Tryz.prog:= .of1 Tb193 B193 (fun _=>true) F_impl_HalfI fun a0 _=>(r_impl_HalfI a0).trans (u_impl_HalfI a0)
def B163:Bod Tryz.prog:=⟨163,Tryz.f163,Tryz.f163.body.getD .skip,Tryz.func163,by kernel_rfl,by kernel_rfl,zae.no _ _⟩
def Tb163:Tb Tryz.prog:= {T:= [Y2,Y30],mix:=mix,Es:= [zas,za4,za6],Bs:= [],d:=1}
def t_spec_l08Ends (a0:Iv) (a1:Iv):Tr (Iv):=
 .br (!(za a0)) (.leaf zo) (.br (!(za a1)) (.leaf zo) (.leaf (zai a0.lo a1.hi)))
theorem r_spec_l08Ends (a0:Iv) (a1:Iv):Tb163.run B163 [enc a0,enc a1] (Iv)=(t_spec_l08Ends a0 a1).opt:=by kernel_rfl
def zce:Iv->Iv->Iv:=fun a0 a1=>(t_spec_l08Ends a0 a1).get
theorem u_spec_l08Ends (a0:Iv) (a1:Iv):(t_spec_l08Ends a0 a1).opt=some (zce a0 a1):=Tr.zL (by kernel_rfl)
def E_spec_l08Ends:Ent Tryz.prog:= .of2 Tb163 B163 (fun _ _=>true) zce fun a0 a1 _=>(r_spec_l08Ends a0 a1).trans (u_spec_l08Ends a0 a1)
def B333:Bod Tryz.prog:=⟨333,Tryz.f333,Tryz.f333.body.getD .skip,Tryz.func333,by kernel_rfl,by kernel_rfl,zae.no _ _⟩
def Tb333:Tb Tryz.prog:= {T:= [Y2,Y30],mix:=mix,Es:= [zas,za6,E_spec_l08Ends,ET_spec_LogAt],Bs:= [],d:=1}
def t_spec_LogI (a0:Iv):Tr (Iv):=
 .br (!(za a0)) (.leaf zo) (.leaf (zce (zd1 a0.lo) (zd1 a0.hi)))
theorem r_spec_LogI (a0:Iv):Tb333.run B333 [enc a0] (Iv)=(t_spec_LogI a0).opt:=by kernel_rfl
def zeU:Iv->Iv:=fun a0=>(t_spec_LogI a0).get
theorem u_spec_LogI (a0:Iv):(t_spec_LogI a0).opt=some (zeU a0):=Tr.zL (by kernel_rfl)
def E_spec_LogI:Ent Tryz.prog:= .of1 Tb333 B333 (fun _=>true) zeU fun a0 _=>(r_spec_LogI a0).trans (u_spec_LogI a0)
def B148:Bod Tryz.prog:=⟨148,Tryz.f148,Tryz.f148.body.getD .skip,Tryz.func148,by kernel_rfl,by kernel_rfl,zae.no _ _⟩
def B222:Bod Tryz.prog:=⟨222,Tryz.f222,Tryz.f222.body.getD .skip,Tryz.func222,by kernel_rfl,by kernel_rfl,zae.no _ _⟩
def Tb222:Tb Tryz.prog:= {T:= [Y2,Y30],mix:=mix,Es:= [zbY,zcd,zaD,zcf,ET_impl_LogAt],Bs:= [B148],d:=8}
def t_impl_LogI (a0:Iv):Tr (Iv):=
 .br (zal a0) (.leaf zH) (let c3:=F_impl_LogAt a0.lo;let c4:=F_impl_LogAt a0.hi;.br (!(za2 c3 c4)) (.leaf zH) (.leaf (zaN c3.lo c4.hi true)))
theorem r_impl_LogI (a0:Iv):Tb222.run B222 [enc a0] (Iv)=(t_impl_LogI a0).opt:=by kernel_rfl
def F_impl_LogI:Iv->Iv:=fun a0=>(t_impl_LogI a0).get
theorem u_impl_LogI (a0:Iv):(t_impl_LogI a0).opt=some (F_impl_LogI a0):=Tr.zL (by kernel_rfl)
def E_impl_LogI:Ent Tryz.prog:= .of1 Tb222 B222 (fun _=>true) F_impl_LogI fun a0 _=>(r_impl_LogI a0).trans (u_impl_LogI a0)
end
end Go.Proofs.YtfcjhkkpbnobhaaGreat.Ev
namespace Go.Proofs.YtfcjhkkpbnobhaaGreat.Ev
open Go
theorem dot_eq (a b:Vec):F_impl_DotV a b=F_spec_DotV a b:=by
 simp only [F_impl_DotV,t_impl_DotV,F_spec_DotV,t_spec_DotV,Tr.get,add_eq,mulI_F]
theorem cross_eq (a b:Vec):F_impl_CrossV a b=zd3 a b:=by
 simp only [F_impl_CrossV,t_impl_CrossV,zd3,t_spec_CrossV,Tr.get,sub_eq,mulI_F]
theorem lat_eq {p:zaL} (h:zab p=true):F_impl_LatOf p=zaa p.lat:=by
 simp only [F_impl_LatOf,t_impl_LatOf,Tr.get,point_eq,h,Bool.not_true,cfl,radians_eq]
theorem lon_eq {p:zaL} (h:zab p=true):F_impl_LonOf p=zaa p.lon:=by
 simp only [F_impl_LonOf,t_impl_LonOf,Tr.get,point_eq,h,Bool.not_true,cfl,radians_eq]
theorem vec_eq {p:zaL} (h:zab p=true):zbv p=F_spec_l15Vec p:=by
 simp only [zbv,t_impl_vectorOf,F_spec_l15Vec,t_spec_l15Vec,Tr.get,lat_eq h,lon_eq h,cosI_eq,sinI_eq,mulI_F]
theorem known_eq (x:Iv):zeV x=F_spec_l15Known x:=by
 simp only [zeV,t_impl_knownI,F_spec_l15Known,t_spec_l15Known,Tr.get,isw_eq,siw_eq]
theorem areValid_eq (a b:zaL):zc0 a b=(zab a&&zab b):=by
 simp only [zc0,zfO,Tr.get,point_eq]
 cases zab a<;>simp only [ctr,cfl,Bool.true_and,Bool.false_and]
theorem diff_eq (p q:zaL):zdG p q=zaa (zcN (Rng.w .i64 (q.lon.val-p.lon.val))):=by
 simp only [zdG,zeQ,Tr.get,wrap_eq,radians_eq]
theorem angleBetween_eq (p q:zaL):zcF p q=zbl p q:=by
 simp only [zcF,t_impl_AngleBetween,zbl,zeO,Tr.get,areValid_eq]
 cases h1:zab p
 ·simp only [ctr,cfl,Bool.not_false,Bool.false_and]
 cases h2:zab q
 ·simp only [ctr,cfl,Bool.not_false,Bool.not_true,Bool.and_false]
 simp only [ctr,cfl,Bool.not_true,Bool.and_self,vec_eq h1,vec_eq h2,F_spec_l15Angle,t_spec_l15Angle,Tr.get,dot_eq,cross_eq,norm_eq,dirI_eq,known_eq]
end Go.Proofs.YtfcjhkkpbnobhaaGreat.Ev
namespace Go.Proofs.YtfcjhkkpbnobhaaGreat.Ev
open Go
theorem halfI_eq (a:Iv):F_impl_HalfI a=zd2 a:=by
 simp only [F_impl_HalfI,t_impl_HalfI,zd2,t_spec_HalfI,Tr.get,isw_eq,zbt]
 cases h:za a
 ·rfl
 have hb:=(zbR a).1 h
 simp only [Bool.not_true,cfl]
 have e1:(Rng.w .i64 (a.hi.val+1)).val=a.hi.val+1:=wi (by omega) (by omega)
 have d1:a.lo.val.fdiv 2=a.lo.val/2:=Int.fdiv_eq_ediv_of_nonneg _ (by decide)
 have d2:(a.hi.val+1).fdiv 2=(a.hi.val+1)/2:=Int.fdiv_eq_ediv_of_nonneg _ (by decide)
 refine (zcx ?_).symm
 rw [e1,d1,d2,wi (by omega) (by omega),wi (by omega) (by omega)]
 omega
end Go.Proofs.YtfcjhkkpbnobhaaGreat.Ev
namespace Go.Proofs.YtfcjhkkpbnobhaaGreat.Ev
open Go
def Sub (a b:Iv):Prop:=za b=true->za a=true/\b.lo.val<=a.lo.val/\a.hi.val<=b.hi.val
theorem muldown_true {x y:I64} (h:(zN x y).b=true):(zN x y).a.val=x.val*y.val/4294967296:=by
 simp only [zN,zb6,Tr.get,mf32] at h ⊢
 cases h1:zF x
 ·rw [h1] at h;simp [ctr] at h
 cases h2:zF y
 ·rw [h1,h2] at h;simp [ctr,cfl] at h
 rw [h1,h2] at h
 simp only [Bool.not_true,cfl] at h ⊢
 unfold narrow at h ⊢
 split at h
 ·rename_i hr
  rw [if_pos hr]
  rcases end_cases (.w .i64 (x.val*y.val/4294967296)) true with e|⟨e,_⟩
  ·rw [e] at h;cases h
  ·rw [e];exact wi hr.1 hr.2
 ·rename_i hr
  rcases end_cases (.w .i64 0) false with e|⟨e,_⟩
  ·rw [e] at h;cases h
  ·have:(zat (.w .i64 0) false).b=false:=by simp only [zat,zch,Tr.get,Bool.not_false,ctr]
   rw [this] at h;cases h
theorem mulup_true {x y:I64} (h:(zak x y).b=true):(zak x y).a.val= -(-(x.val*y.val)/4294967296):=by
 simp only [zak,zdB,Tr.get] at h ⊢
 cases h1:zF x
 ·rw [h1] at h;simp [ctr] at h
 rw [h1] at h
 simp only [Bool.not_true,cfl] at h ⊢
 have hb:=ok_bd h1
 cases hd:(zN (.w .i64 (0-x.val)) y).b
 ·rw [hd] at h;simp [ctr] at h
 simp only [hd,Bool.not_true,cfl]
 have e:=muldown_true hd
 have en:(Rng.w .i64 (0-x.val)).val= -x.val:=by rw [wi (by omega) (by omega)];omega
 rw [en,Int.neg_mul] at e
 rcases zeS (.w .i64 (0-x.val)) y with k|⟨c,k,kc⟩
 ·rw [k] at hd;cases hd
 ·have kb:=ok_bd kc
  rw [k] at e ⊢
  simp only at e ⊢
  rw [wi (by omega) (by omega)]
  omega
theorem mulI_corner {a b:Iv} (h:za (zC a b)=true):za a=true/\za b=true /\
  ∀x y:I64,(x=a.lo\/x=a.hi)->(y=b.lo\/y=b.hi)->(zC a b).lo.val<=x.val*y.val/4294967296 /\ -(-(x.val*y.val)/4294967296)<=(zC a b).hi.val:=by
 have nw:∀ {P:Prop},za zo=true->P:=fun h=>by rw [zbn] at h;cases h
 simp only [zC,t_spec_MulI,Tr.get] at h ⊢
 cases ha:za a
 ·rw [ha] at h;exact nw h
 cases hb:za b
 ·rw [ha,hb] at h;exact nw h
 simp only [ha,hb,Bool.not_true,cfl] at h ⊢
 cases h1:(zN a.lo b.lo).b
 ·rw [h1] at h;exact nw h
 cases h2:(zak a.lo b.lo).b
 ·rw [h1,h2] at h;exact nw h
 cases h3:(zN a.lo b.hi).b
 ·rw [h1,h2,h3] at h;exact nw h
 cases h4:(zak a.lo b.hi).b
 ·rw [h1,h2,h3,h4] at h;exact nw h
 cases h5:(zN a.hi b.lo).b
 ·rw [h1,h2,h3,h4,h5] at h;exact nw h
 cases h6:(zak a.hi b.lo).b
 ·rw [h1,h2,h3,h4,h5,h6] at h;exact nw h
 cases h7:(zN a.hi b.hi).b
 ·rw [h1,h2,h3,h4,h5,h6,h7] at h;exact nw h
 cases h8:(zak a.hi b.hi).b
 ·rw [h1,h2,h3,h4,h5,h6,h7,h8] at h;exact nw h
 simp only [h1,h2,h3,h4,h5,h6,h7,h8,Bool.not_true,cfl] at h ⊢
 refine ⟨trivial,trivial,?_⟩
 have v1:=muldown_true h1
 have v2:=mulup_true h2
 have v3:=muldown_true h3
 have v4:=mulup_true h4
 have v5:=muldown_true h5
 have v6:=mulup_true h6
 have v7:=muldown_true h7
 have v8:=mulup_true h8
 generalize (zN a.lo b.lo).a=d1 at *
 generalize (zN a.lo b.hi).a=d2 at *
 generalize (zN a.hi b.lo).a=d3 at *
 generalize (zN a.hi b.hi).a=d4 at *
 generalize (zak a.lo b.lo).a=u1 at *
 generalize (zak a.lo b.hi).a=u2 at *
 generalize (zak a.hi b.lo).a=u3 at *
 generalize (zak a.hi b.hi).a=u4 at *
 have m1:=min_l ⟨1152921504606846976,rfl⟩ d1
 have m2:=min_l (zB ⟨1152921504606846976,rfl⟩ d1) d2
 have m3:=min_l (zB (zB ⟨1152921504606846976,rfl⟩ d1) d2) d3
 have m4:=min_l (zB (zB (zB ⟨1152921504606846976,rfl⟩ d1) d2) d3) d4
 have n1:=max_l ⟨-1152921504606846976,rfl⟩ u1
 have n2:=max_l (zt ⟨-1152921504606846976,rfl⟩ u1) u2
 have n3:=max_l (zt (zt ⟨-1152921504606846976,rfl⟩ u1) u2) u3
 have n4:=max_l (zt (zt (zt ⟨-1152921504606846976,rfl⟩ u1) u2) u3) u4
 generalize zB (zB (zB (zB ⟨1152921504606846976,rfl⟩ d1) d2) d3) d4=lo at *
 generalize zt (zt (zt (zt ⟨-1152921504606846976,rfl⟩ u1) u2) u3) u4=hi at *
 by_cases hm: -1152921504606846976<lo.val/\lo.val<=hi.val/\hi.val<1152921504606846976
 ·rw [zcx hm]
  simp only
  rintro x y (rfl|rfl) (rfl|rfl)
  ·omega
  ·omega
  ·omega
  ·omega
 ·rw [make_no hm] at h;exact nw h
theorem addI_val {a b:Iv} (h:za (zP a b)=true):za a=true/\za b=true/\(zP a b).lo.val=a.lo.val+b.lo.val/\(zP a b).hi.val=a.hi.val+b.hi.val:=by
 simp only [zP,zfN,Tr.get] at h ⊢
 cases ha:za a
 ·rw [ha] at h;simp only [Bool.not_false,ctr,zbn] at h;cases h
 cases hb:za b
 ·rw [ha,hb] at h;simp only [Bool.not_false,Bool.not_true,ctr,cfl,zbn] at h;cases h
 simp only [ha,hb,Bool.not_true,cfl] at h ⊢
 have ba:=(zbR _).1 ha
 have bb:=(zbR _).1 hb
 have k1:(Rng.w .i64 (a.lo.val+b.lo.val)).val=a.lo.val+b.lo.val:=wi (by omega) (by omega)
 have k2:(Rng.w .i64 (a.hi.val+b.hi.val)).val=a.hi.val+b.hi.val:=wi (by omega) (by omega)
 by_cases hm: -1152921504606846976<(Rng.w .i64 (a.lo.val+b.lo.val)).val/\(Rng.w .i64 (a.lo.val+b.lo.val)).val<=(Rng.w .i64 (a.hi.val+b.hi.val)).val/\(Rng.w .i64 (a.hi.val+b.hi.val)).val<1152921504606846976
 ·rw [zcx hm];exact ⟨trivial,trivial,k1,k2⟩
 ·rw [make_no hm,zbn] at h;cases h
theorem subI_val {a b:Iv} (h:za (zQ a b)=true):za a=true/\za b=true/\(zQ a b).lo.val=a.lo.val-b.hi.val/\(zQ a b).hi.val=a.hi.val-b.lo.val:=by
 simp only [zQ,t_spec_SubI,Tr.get] at h ⊢
 cases ha:za a
 ·rw [ha] at h;simp only [Bool.not_false,ctr,zbn] at h;cases h
 cases hb:za b
 ·rw [ha,hb] at h;simp only [Bool.not_false,Bool.not_true,ctr,cfl,zbn] at h;cases h
 simp only [ha,hb,Bool.not_true,cfl] at h ⊢
 have ba:=(zbR _).1 ha
 have bb:=(zbR _).1 hb
 have k1:(Rng.w .i64 (a.lo.val-b.hi.val)).val=a.lo.val-b.hi.val:=wi (by omega) (by omega)
 have k2:(Rng.w .i64 (a.hi.val-b.lo.val)).val=a.hi.val-b.lo.val:=wi (by omega) (by omega)
 by_cases hm: -1152921504606846976<(Rng.w .i64 (a.lo.val-b.hi.val)).val/\(Rng.w .i64 (a.lo.val-b.hi.val)).val<=(Rng.w .i64 (a.hi.val-b.lo.val)).val/\(Rng.w .i64 (a.hi.val-b.lo.val)).val<1152921504606846976
 ·rw [zcx hm];exact ⟨trivial,trivial,k1,k2⟩
 ·rw [make_no hm,zbn] at h;cases h
theorem dblI_val {a:Iv} (h:za (zbX a)=true):za a=true/\(zbX a).lo.val=2*a.lo.val/\(zbX a).hi.val=2*a.hi.val:=by
 simp only [zbX,t_spec_DoubleI,Tr.get] at h ⊢
 cases ha:za a
 ·rw [ha] at h;simp only [Bool.not_false,ctr,zbn] at h;cases h
 simp only [ha,Bool.not_true,cfl] at h ⊢
 have ba:=(zbR _).1 ha
 have k1:(Rng.w .i64 (2*a.lo.val)).val=2*a.lo.val:=wi (by omega) (by omega)
 have k2:(Rng.w .i64 (2*a.hi.val)).val=2*a.hi.val:=wi (by omega) (by omega)
 by_cases hm: -1152921504606846976<(Rng.w .i64 (2*a.lo.val)).val/\(Rng.w .i64 (2*a.lo.val)).val<=(Rng.w .i64 (2*a.hi.val)).val/\(Rng.w .i64 (2*a.hi.val)).val<1152921504606846976
 ·rw [zcx hm];exact ⟨trivial,k1,k2⟩
 ·rw [make_no hm,zbn] at h;cases h
end Go.Proofs.YtfcjhkkpbnobhaaGreat.Ev
namespace Go.Proofs.YtfcjhkkpbnobhaaGreat.Ev
open Go
theorem sqrI_val {a:Iv} (h:za (zbe a)=true):za a=true/\(zbe a).lo.val=(zM a).a.val*(zM a).a.val/4294967296/\(zbe a).hi.val= -(-((zM a).b.val*(zM a).b.val)/4294967296):=by
 have nw:∀ {P:Prop},za zo=true->P:=fun h=>by rw [zbn] at h;cases h
 simp only [zbe,t_spec_SqrI,Tr.get] at h ⊢
 cases ha:za a
 ·rw [ha] at h;exact nw h
 simp only [ha,Bool.not_true,cfl] at h ⊢
 cases h1:(zN (zM a).a (zM a).a).b
 ·rw [h1] at h;exact nw h
 cases h2:(zak (zM a).b (zM a).b).b
 ·rw [h1,h2] at h;exact nw h
 simp only [h1,h2,Bool.not_true,cfl] at h ⊢
 have v1:=muldown_true h1
 have v2:=mulup_true h2
 generalize (zN (zM a).a (zM a).a).a=lo at *
 generalize (zak (zM a).b (zM a).b).a=hi at *
 by_cases hm: -1152921504606846976<lo.val/\lo.val<=hi.val/\hi.val<1152921504606846976
 ·rw [zcx hm];exact ⟨trivial,v1,v2⟩
 ·rw [make_no hm] at h;exact nw h
theorem su_val2 (a:I64) (ha:0<=a.val/\a.val<=1152921504606846976):∃q p:I64,zbV a=⟨q,true⟩/\zbM a=⟨p,true⟩/\0<=q.val/\q.val<=70368744177664/\q.val*q.val<=a.val*4294967296/\a.val*4294967296<(q.val+1)*(q.val+1)/\q.val<=p.val/\p.val<=q.val+1/\a.val*4294967296<=p.val*p.val/\(q.val<p.val->q.val*q.val<a.val*4294967296):=by
 obtain ⟨q,h1,h2,h3,h4,h5,h6⟩:=sd_val a ha
 have e1:(Rng.w .i64 (q.val+1)).val=q.val+1:=wi (by omega) (by omega)
 have hqq:=Int.mul_nonneg h3 h3
 have hmf:zaq q q ⟨32,rfl⟩=⟨.w .i64 (q.val*q.val/4294967296),true⟩:=by rw [mf32];exact narrow_ok (by omega) (by omega)
 have hmv:(Rng.w .i64 (q.val*q.val/4294967296)).val=q.val*q.val/4294967296:=wi (by omega) (by omega)
 have hmask:(Rng.w .i64 (zbf .and .i64 (Rng.w .i64 (q.val*q.val)).val 4294967295)).val=q.val*q.val%4294967296:=by rw [and_mask_i,zep];omega
 by_cases hx:q.val*q.val=a.val*4294967296
 ·refine ⟨q,q,h1,?_,h3,h4,h5,h6,Int.le_refl _,by omega,by omega,fun h=>by omega⟩
  have k1:(q.val*q.val/4294967296 != a.val)=false:=by simp;omega
  have k2:(q.val*q.val%4294967296 != 0)=false:=by simp;omega
  simp only [zbM,zbZ,Tr.get,sd_G_spec,h1,hmf,hmv,hmask,k1,k2,Bool.not_true,cond_false,cond_true]
 ·refine ⟨q,.w .i64 (q.val+1),h1,?_,h3,h4,h5,h6,by omega,by omega,by rw [e1];omega,fun h=>by omega⟩
  simp only [zbM,zbZ,Tr.get,sd_G_spec,h1,hmf,hmv,hmask,Bool.not_true,cond_false,cond_true]
  by_cases k1:q.val*q.val/4294967296=a.val
  ·have k2:(q.val*q.val%4294967296 != 0)=true:=by simp;omega
   have k3:(q.val*q.val/4294967296 != a.val)=false:=by simp [k1]
   simp only [k2,k3,cond_true,cond_false]
  ·have k3:(q.val*q.val/4294967296 != a.val)=true:=by simp [k1]
   simp only [k3,cond_true]
theorem sqrtI_mk {a:Iv} (ha:za a=true) (h0:0<=a.lo.val):za (zb8 a)=true/\(zb8 a).lo=(zbV a.lo).a/\(zb8 a).hi=(zbM a.hi).a:=by
 have hb:=(zbR _).1 ha
 obtain ⟨q,p,e1,e2,h1,h2,h3,h4,h5,h6,h7,h8⟩:=su_val2 a.lo (by omega)
 obtain ⟨q',p',e1',e2',h1',h2',h3',h4',h5',h6',h7',h8'⟩:=su_val2 a.hi (by omega)
 have hle:q.val<=p'.val:=by
  refine sq_lt h1 (by omega) ?_
  omega
 have hd:decide (a.lo.val<0)=false:=by simp;omega
 have e:zb8 a=⟨q,p'⟩:=by
  simp only [zb8,zfJ,Tr.get,ha,hd,sd_G_spec,su_G_spec,e1,e2',Bool.not_true,cfl,ctr]
  exact zcx (by omega)
 rw [e,e1,e2']
 exact ⟨(zbR _).2 (by simp only;omega),rfl,rfl⟩
theorem sqrtI_nn {a:Iv} (h:za (zb8 a)=true):za a=true/\0<=a.lo.val:=by
 have nw:∀ {P:Prop},za zo=true->P:=fun h=>by rw [zbn] at h;cases h
 simp only [zb8,zfJ,Tr.get] at h
 cases ha:za a
 ·rw [ha] at h;exact nw h
 by_cases h0:a.lo.val<0
 ·rw [ha,show decide (a.lo.val<0)=true by simpa using h0] at h;exact nw h
 ·exact ⟨rfl,by omega⟩
theorem divdown_true {x y:I64} (hy:0<y.val) (h:(zG x y).b=true):(zG x y).a.val=x.val*4294967296/y.val:=by
 have z0:(y.val==0)=false:=by simp;omega
 have z1:decide (y.val<0)=false:=by simp;omega
 simp only [zG,zby,Tr.get,ze8,z0,z1,cfl] at h ⊢
 cases h1:zF x
 ·rw [h1] at h;simp [ctr] at h
 cases h2:zF y
 ·rw [h1,h2] at h;simp [ctr,cfl] at h
 rw [h1,h2] at h
 simp only [Bool.not_true,cfl,MD,hy,if_true] at h ⊢
 unfold narrow at h ⊢
 split at h
 ·rename_i hr
  rw [if_pos hr]
  rcases end_cases (.w .i64 (x.val*4294967296/y.val)) true with e|⟨e,_⟩
  ·rw [e] at h;cases h
  ·rw [e];exact wi hr.1 hr.2
 ·have:(zat (.w .i64 0) false).b=false:=by simp only [zat,zch,Tr.get,Bool.not_false,ctr]
  rw [this] at h;cases h
theorem divup_true {x y:I64} (hy:0<y.val) (h:(z8 x y).b=true):(z8 x y).a.val= -(-x.val*4294967296/y.val):=by
 simp only [z8,zcR,Tr.get] at h ⊢
 cases h1:zF x
 ·rw [h1] at h;simp [ctr] at h
 rw [h1] at h
 simp only [Bool.not_true,cfl] at h ⊢
 have hb:=ok_bd h1
 have e:=divdown_true hy h
 have en:(Rng.w .i64 (0-x.val)).val= -x.val:=by rw [wi (by omega) (by omega)];omega
 rw [en] at e
 rcases zeT (.w .i64 (0-x.val)) y with k|⟨c,k,kc⟩
 ·rw [k] at h;cases h
 ·have kb:=ok_bd kc
  rw [k] at e ⊢
  simp only at e ⊢
  rw [wi (by omega) (by omega)]
  omega
theorem divI_corner {a b:Iv} (h0:0<b.lo.val) (h:za (zz a b)=true):za a=true/\za b=true /\
  ∀x y:I64,(x=a.lo\/x=a.hi)->(y=b.lo\/y=b.hi)->(zz a b).lo.val<=x.val*4294967296/y.val /\ -(-x.val*4294967296/y.val)<=(zz a b).hi.val:=by
 have nw:∀ {P:Prop},za zo=true->P:=fun h=>by rw [zbn] at h;cases h
 simp only [zz,zfM,Tr.get] at h ⊢
 cases ha:za a
 ·rw [ha] at h;exact nw h
 cases hb:za b
 ·rw [ha,hb] at h;exact nw h
 have bb:=(zbR _).1 hb
 have h0':0<b.hi.val:=by omega
 cases hz:zaO b ⟨0,rfl⟩
 case true=>rw [ha,hb,hz] at h;exact nw h
 simp only [ha,hb,hz,Bool.not_true,cfl] at h ⊢
 cases h1:(zG a.lo b.lo).b
 ·rw [h1] at h;exact nw h
 cases h2:(z8 a.lo b.lo).b
 ·rw [h1,h2] at h;exact nw h
 cases h3:(zG a.lo b.hi).b
 ·rw [h1,h2,h3] at h;exact nw h
 cases h4:(z8 a.lo b.hi).b
 ·rw [h1,h2,h3,h4] at h;exact nw h
 cases h5:(zG a.hi b.lo).b
 ·rw [h1,h2,h3,h4,h5] at h;exact nw h
 cases h6:(z8 a.hi b.lo).b
 ·rw [h1,h2,h3,h4,h5,h6] at h;exact nw h
 cases h7:(zG a.hi b.hi).b
 ·rw [h1,h2,h3,h4,h5,h6,h7] at h;exact nw h
 cases h8:(z8 a.hi b.hi).b
 ·rw [h1,h2,h3,h4,h5,h6,h7,h8] at h;exact nw h
 simp only [h1,h2,h3,h4,h5,h6,h7,h8,Bool.not_true,cfl] at h ⊢
 refine ⟨trivial,trivial,?_⟩
 have v1:=divdown_true h0 h1
 have v2:=divup_true h0 h2
 have v3:=divdown_true h0' h3
 have v4:=divup_true h0' h4
 have v5:=divdown_true h0 h5
 have v6:=divup_true h0 h6
 have v7:=divdown_true h0' h7
 have v8:=divup_true h0' h8
 generalize (zG a.lo b.lo).a=d1 at *
 generalize (zG a.lo b.hi).a=d2 at *
 generalize (zG a.hi b.lo).a=d3 at *
 generalize (zG a.hi b.hi).a=d4 at *
 generalize (z8 a.lo b.lo).a=u1 at *
 generalize (z8 a.lo b.hi).a=u2 at *
 generalize (z8 a.hi b.lo).a=u3 at *
 generalize (z8 a.hi b.hi).a=u4 at *
 have m1:=min_l ⟨1152921504606846976,rfl⟩ d1
 have m2:=min_l (zB ⟨1152921504606846976,rfl⟩ d1) d2
 have m3:=min_l (zB (zB ⟨1152921504606846976,rfl⟩ d1) d2) d3
 have m4:=min_l (zB (zB (zB ⟨1152921504606846976,rfl⟩ d1) d2) d3) d4
 have n1:=max_l ⟨-1152921504606846976,rfl⟩ u1
 have n2:=max_l (zt ⟨-1152921504606846976,rfl⟩ u1) u2
 have n3:=max_l (zt (zt ⟨-1152921504606846976,rfl⟩ u1) u2) u3
 have n4:=max_l (zt (zt (zt ⟨-1152921504606846976,rfl⟩ u1) u2) u3) u4
 generalize zB (zB (zB (zB ⟨1152921504606846976,rfl⟩ d1) d2) d3) d4=lo at *
 generalize zt (zt (zt (zt ⟨-1152921504606846976,rfl⟩ u1) u2) u3) u4=hi at *
 by_cases hm: -1152921504606846976<lo.val/\lo.val<=hi.val/\hi.val<1152921504606846976
 ·rw [zcx hm]
  simp only
  rintro x y (rfl|rfl) (rfl|rfl)
  ·omega
  ·omega
  ·omega
  ·omega
 ·rw [make_no hm] at h;exact nw h
end Go.Proofs.YtfcjhkkpbnobhaaGreat.Ev
namespace Go.Proofs.YtfcjhkkpbnobhaaGreat.Ev
open Go Go.RowKit
set_option maxRecDepth 100000
section
variable [Amb]
structure S_spec_l14Lat_4 where
 x0:I64
 x1:I64
 x2:I64
 x3:I64
 x4:I64
 x5:I64
 x6:I64
 x7:I64
 x8:I64
 x9:I64
 x10:I64
 x11:I64
 x12:I64
 x13:I64
 x14:I64
instance:Inhabited S_spec_l14Lat_4:=⟨⟨default,default,default,default,default,default,default,default,default,default,default,default,default,default,default⟩⟩
structure S_spec_l14Lat_11 where
 x0:I64
 x1:I64
 x2:I64
 x3:I64
 x4:I64
 x5:I64
 x6:I64
 x7:I64
 x8:I64
 x9:I64
 x10:I64
 x11:I64
 x12:I64
 x13:I64
 x14:I64
 x15:I64
instance:Inhabited S_spec_l14Lat_11:=⟨⟨default,default,default,default,default,default,default,default,default,default,default,default,default,default,default,default⟩⟩
structure S_impl_latitudeOf_2 where
 x0:I64
 x1:I64
 x2:I64
 x3:I64
 x4:I64
 x5:I64
 x6:I64
 x7:I64
 x8:I64
 x9:I64
 x10:I64
 x11:I64
 x12:I64
instance:Inhabited S_impl_latitudeOf_2:=⟨⟨default,default,default,default,default,default,default,default,default,default,default,default,default⟩⟩
structure S_impl_latitudeOf_9 where
 x0:I64
 x1:I64
 x2:I64
 x3:I64
 x4:I64
 x5:I64
 x6:I64
 x7:I64
 x8:I64
 x9:I64
 x10:I64
 x11:I64
 x12:I64
 x13:I64
 x14:I64
instance:Inhabited S_impl_latitudeOf_9:=⟨⟨default,default,default,default,default,default,default,default,default,default,default,default,default,default,default⟩⟩
end
end Go.Proofs.YtfcjhkkpbnobhaaGreat.Ev
namespace Go.Proofs.YtfcjhkkpbnobhaaGreat.Ev
open Go
end Go.Proofs.YtfcjhkkpbnobhaaGreat.Ev
namespace Go.Proofs.YtfcjhkkpbnobhaaGreat.Ev
open Go Go.RowKit
set_option maxRecDepth 100000
section
variable [Amb]
end
end Go.Proofs.YtfcjhkkpbnobhaaGreat.Ev
