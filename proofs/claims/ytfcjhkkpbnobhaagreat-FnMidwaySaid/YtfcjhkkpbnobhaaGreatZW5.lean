/- The law FnMidway gives true, whatever bytes come in. No conditions. (One of the texts of its proof, put together by a program of this session.) -/
import Derived.Test.YtfcjhkkpbnobhaaGreatZW2
import Derived.Test.YtfcjhkkpbnobhaaGreatZPT
import Derived.Test.YtfcjhkkpbnobhaaGreatZEC
set_option linter.unusedSectionVars false
set_option linter.unusedSimpArgs false
set_option linter.unusedVariables false
noncomputable section
namespace Go.Proofs.YtfcjhkkpbnobhaaGreat.Ev
open Go Go.RowKit
set_option maxRecDepth 100000
section
variable [Amb]
def ET_spec_l06Over:Ent Tryz.prog:= .of2 Tb101 B101 (fun _ _=>true) zek fun a0 a1 _=>(r_spec_l06Over a0 a1).trans (tt_over_spec a0 a1)
def B26:Bod Tryz.prog:=⟨26,Tryz.f26,Tryz.f26.body.getD .skip,Tryz.func26,by kernel_rfl,by kernel_rfl,zae.no _ _⟩
def Tb26:Tb Tryz.prog:= {T:= [Y2,Y30],mix:=mix,Es:= [ET_spec_l06Over],Bs:= [],d:=1}
def t_spec_CosI (a0:Iv):Tr (Iv):=
 .leaf (zek a0 ⟨1,rfl⟩)
theorem r_spec_CosI (a0:Iv):Tb26.run B26 [enc a0] (Iv)=(t_spec_CosI a0).opt:=by kernel_rfl
def zbb:Iv->Iv:=fun a0=>(t_spec_CosI a0).get
theorem u_spec_CosI (a0:Iv):(t_spec_CosI a0).opt=some (zbb a0):=Tr.zQ (by kernel_rfl)
def E_spec_CosI:Ent Tryz.prog:= .of1 Tb26 B26 (fun _=>true) zbb fun a0 _=>(r_spec_CosI a0).trans (u_spec_CosI a0)
def B118:Bod Tryz.prog:=⟨118,Tryz.f118,Tryz.f118.body.getD .skip,Tryz.func118,by kernel_rfl,by kernel_rfl,zae.no _ _⟩
def Tb118:Tb Tryz.prog:= {T:= [Y2,Y30],mix:=mix,Es:= [E_impl_circleHull],Bs:= [],d:=1}
def t_impl_CosI (a0:Iv):Tr (Iv):=
 .leaf (zaS a0 ⟨1,rfl⟩)
theorem r_impl_CosI (a0:Iv):Tb118.run B118 [enc a0] (Iv)=(t_impl_CosI a0).opt:=by kernel_rfl
def zfU:Iv->Iv:=fun a0=>(t_impl_CosI a0).get
theorem u_impl_CosI (a0:Iv):(t_impl_CosI a0).opt=some (zfU a0):=Tr.zQ (by kernel_rfl)
def E_impl_CosI:Ent Tryz.prog:= .of1 Tb118 B118 (fun _=>true) zfU fun a0 _=>(r_impl_CosI a0).trans (u_impl_CosI a0)
def B27:Bod Tryz.prog:=⟨27,Tryz.f27,Tryz.f27.body.getD .skip,Tryz.func27,by kernel_rfl,by kernel_rfl,zae.no _ _⟩
def Tb27:Tb Tryz.prog:= {T:= [Y2,Y30],mix:=mix,Es:= [ET_spec_l06Over],Bs:= [],d:=1}
def t_spec_SinI (a0:Iv):Tr (Iv):=
 .leaf (zek a0 ⟨0,rfl⟩)
theorem r_spec_SinI (a0:Iv):Tb27.run B27 [enc a0] (Iv)=(t_spec_SinI a0).opt:=by kernel_rfl
def zbz:Iv->Iv:=fun a0=>(t_spec_SinI a0).get
theorem u_spec_SinI (a0:Iv):(t_spec_SinI a0).opt=some (zbz a0):=Tr.zQ (by kernel_rfl)
def E_spec_SinI:Ent Tryz.prog:= .of1 Tb27 B27 (fun _=>true) zbz fun a0 _=>(r_spec_SinI a0).trans (u_spec_SinI a0)
def B115:Bod Tryz.prog:=⟨115,Tryz.f115,Tryz.f115.body.getD .skip,Tryz.func115,by kernel_rfl,by kernel_rfl,zae.no _ _⟩
def Tb115:Tb Tryz.prog:= {T:= [Y2,Y30],mix:=mix,Es:= [E_impl_circleHull],Bs:= [],d:=1}
def t_impl_SinI (a0:Iv):Tr (Iv):=
 .leaf (zaS a0 ⟨0,rfl⟩)
theorem r_impl_SinI (a0:Iv):Tb115.run B115 [enc a0] (Iv)=(t_impl_SinI a0).opt:=by kernel_rfl
def F_impl_SinI:Iv->Iv:=fun a0=>(t_impl_SinI a0).get
theorem u_impl_SinI (a0:Iv):(t_impl_SinI a0).opt=some (F_impl_SinI a0):=Tr.zQ (by kernel_rfl)
def E_impl_SinI:Ent Tryz.prog:= .of1 Tb115 B115 (fun _=>true) F_impl_SinI fun a0 _=>(r_impl_SinI a0).trans (u_impl_SinI a0)
def t_spec_l07Fix (a0:I64):Tr (Bool):=
 .br (decide ((-1152921504606846976)<a0.val)) (.leaf (decide (a0.val<1152921504606846976))) (.leaf false)
def zbo:I64->Bool:=fun a0=>(t_spec_l07Fix a0).get
def t_spec_l07Quarter:Tr (Iv):=
 .br (zcm ⟨1,rfl⟩) (.br (zcm ⟨1,rfl⟩) (.leaf ⟨(Rng.w .i64 (0-(zbs ⟨1,rfl⟩).hi.val)),(zbs ⟨1,rfl⟩).hi⟩) (.bad)) (.bad)
def zbj:Iv:=(t_spec_l07Quarter).get
def t_spec_l07Halve (a0:Iv):Tr (Iv):=
 .leaf (zB a0 (zaj (zF ⟨1,rfl⟩) (zcy (zaj (zF ⟨1,rfl⟩) (zby a0)))))
def zdL:Iv->Iv:=fun a0=>(t_spec_l07Halve a0).get
def t_spec_ArcSeries (a0:Iv):Tr (Iv):=
 .br (!(zaP a0 ⟨⟨(-1073741824),rfl⟩,⟨1073741824,rfl⟩⟩)) (.leaf zaF) (let c3:=zby a0;.leaf (zaj (zN a0 (zZ (zba ⟨1,rfl⟩ ⟨1,rfl⟩) (zN c3 (zZ (zba ⟨1,rfl⟩ ⟨3,rfl⟩) (zN c3 (zZ (zba ⟨1,rfl⟩ ⟨5,rfl⟩) (zN c3 (zZ (zba ⟨1,rfl⟩ ⟨7,rfl⟩) (zN c3 (zZ (zba ⟨1,rfl⟩ ⟨9,rfl⟩) (zN c3 (zZ (zba ⟨1,rfl⟩ ⟨11,rfl⟩) (zN c3 (zZ (zba ⟨1,rfl⟩ ⟨13,rfl⟩) (zN c3 (zZ (zba ⟨1,rfl⟩ ⟨15,rfl⟩) (zN c3 (zZ (zba ⟨1,rfl⟩ ⟨17,rfl⟩) (zN c3 (zZ (zba ⟨1,rfl⟩ ⟨19,rfl⟩) (zN c3 (zba ⟨1,rfl⟩ ⟨21,rfl⟩)))))))))))))))))))))) zbr))
def zec:Iv->Iv:=fun a0=>(t_spec_ArcSeries a0).get
def t_spec_DoubleI (a0:Iv):Tr (Iv):=
 .br (!(zh a0)) (.leaf zu) (.leaf (zas (Rng.w .i64 (2*a0.lo.val)) (Rng.w .i64 (2*a0.hi.val))))
def zcr:Iv->Iv:=fun a0=>(t_spec_DoubleI a0).get
def t_spec_l07Core (a0:Iv):Tr (Iv):=
 .leaf (zcr (zcr (zec (zdL (zdL a0)))))
def zcp:Iv->Iv:=fun a0=>(t_spec_l07Core a0).get
def zeC (a0:I64):Tr (Iv):=
 .br (!(zbo a0)) (.leaf zbj) (.br (decide (a0.val<0)) (.bad) (.br (decide (a0.val>4294967296)) (.leaf (zZ (zR ⟨1,rfl⟩) (zcp (zB (zF ⟨1,rfl⟩) (zw a0))))) (.leaf (zcp (zw a0)))))
def zc5:I64->Iv:=fun a0=>(zeC a0).get
def zeL:I64->Bool:=fun a0=>(zeC a0).opt.isSome
def t_spec_AtanAt (a0:I64):Tr (Iv):=
 .br (!(zbo a0)) (.leaf zbj) (.br (decide (a0.val<0)) (let c3:=(Rng.w .i64 (0-a0.val));.br (zeL c3) (.leaf (zaY (zc5 c3))) (.bad)) (.br (decide (a0.val>4294967296)) (.leaf (zZ (zR ⟨1,rfl⟩) (zcp (zB (zF ⟨1,rfl⟩) (zw a0))))) (.leaf (zcp (zw a0)))))
def zcN:I64->Iv:=fun a0=>(t_spec_AtanAt a0).get
def B255:Bod Tryz.prog:=⟨255,Tryz.f255,Tryz.f255.body.getD .skip,Tryz.func255,by kernel_rfl,by kernel_rfl,zae.no _ _⟩
def Tb255:Tb Tryz.prog:= {T:= [],mix:=mix,Es:= [],Bs:= [],d:=1}
def t_impl_isOpen (a0:I64):Tr (Bool):=
 .br (decide ((-1152921504606846976)<a0.val)) (.leaf (decide (a0.val<1152921504606846976))) (.leaf false)
theorem r_impl_isOpen (a0:I64):Tb255.run B255 [enc a0] (Bool)=(t_impl_isOpen a0).opt:=by kernel_rfl
def zd1:I64->Bool:=fun a0=>(t_impl_isOpen a0).get
theorem u_impl_isOpen (a0:I64):(t_impl_isOpen a0).opt=some (zd1 a0):=Tr.zQ (by kernel_rfl)
def E_impl_isOpen:Ent Tryz.prog:= .of1 Tb255 B255 (fun _=>true) zd1 fun a0 _=>(r_impl_isOpen a0).trans (u_impl_isOpen a0)
def B296:Bod Tryz.prog:=⟨296,Tryz.f296,Tryz.f296.body.getD .skip,Tryz.func296,by kernel_rfl,by kernel_rfl,zae.no _ _⟩
def Tb296:Tb Tryz.prog:= {T:= [Y2,Y30],mix:=mix,Es:= [zfe],Bs:= [],d:=1}
def zeX:Tr (Iv):=
 .leaf ⟨(Rng.w .i64 (0-(za3 ⟨1,rfl⟩).hi.val)),(za3 ⟨1,rfl⟩).hi⟩
theorem r_impl_halfCircle:Tb296.run B296 [] (Iv)=(zeX).opt:=by kernel_rfl
def zbU:Iv:=(zeX).get
theorem u_impl_halfCircle:(zeX).opt=some (zbU):=Tr.zQ (by kernel_rfl)
def E_impl_halfCircle:Ent Tryz.prog:= .of0 Tb296 B296 zbU (r_impl_halfCircle.trans u_impl_halfCircle)
def B354:Bod Tryz.prog:=⟨354,Tryz.f354,Tryz.f354.body.getD .skip,Tryz.func354,by kernel_rfl,by kernel_rfl,zae.no _ _⟩
def Tb354:Tb Tryz.prog:= {T:= [Y2,Y30],mix:=mix,Es:= [zfF,zeR,ET_impl_SqrtI,E_impl_DivI,ET_impl_SqrI],Bs:= [],d:=1}
def t_impl_halved (a0:Iv):Tr (Iv):=
 .leaf (zbh a0 (zbA (zac ⟨1,rfl⟩) (F_impl_SqrtI (zbA (zac ⟨1,rfl⟩) (zfT a0)))))
theorem r_impl_halved (a0:Iv):Tb354.run B354 [enc a0] (Iv)=(t_impl_halved a0).opt:=by kernel_rfl
def zfb:Iv->Iv:=fun a0=>(t_impl_halved a0).get
theorem u_impl_halved (a0:Iv):(t_impl_halved a0).opt=some (zfb a0):=Tr.zQ (by kernel_rfl)
def E_impl_halved:Ent Tryz.prog:= .of1 Tb354 B354 (fun _=>true) zfb fun a0 _=>(r_impl_halved a0).trans (u_impl_halved a0)
def B353:Bod Tryz.prog:=⟨353,Tryz.f353,Tryz.f353.body.getD .skip,Tryz.func353,by kernel_rfl,by kernel_rfl,zae.no _ _⟩
def Tb353:Tb Tryz.prog:= {T:= [Y2,Y30],mix:=mix,Es:= [zeR,ET_impl_MulI,zfV,zaG,ET_impl_Quotient,ET_impl_SqrI,E_impl_InsideI,E_impl_tiny],Bs:= [],d:=1}
def zfJ (a0:Iv):Tr (Iv):=
 .br (!(zdx a0 ⟨⟨(-1073741824),rfl⟩,⟨1073741824,rfl⟩⟩)) (.leaf zK) (let c3:=zfT a0;.leaf (zbA (zax a0 (zaw (zbc ⟨1,rfl⟩ ⟨1,rfl⟩) (zax c3 (zaw (zbc ⟨1,rfl⟩ ⟨3,rfl⟩) (zax c3 (zaw (zbc ⟨1,rfl⟩ ⟨5,rfl⟩) (zax c3 (zaw (zbc ⟨1,rfl⟩ ⟨7,rfl⟩) (zax c3 (zaw (zbc ⟨1,rfl⟩ ⟨9,rfl⟩) (zax c3 (zaw (zbc ⟨1,rfl⟩ ⟨11,rfl⟩) (zax c3 (zaw (zbc ⟨1,rfl⟩ ⟨13,rfl⟩) (zax c3 (zaw (zbc ⟨1,rfl⟩ ⟨15,rfl⟩) (zax c3 (zaw (zbc ⟨1,rfl⟩ ⟨17,rfl⟩) (zax c3 (zaw (zbc ⟨1,rfl⟩ ⟨19,rfl⟩) (zax c3 (zbc ⟨1,rfl⟩ ⟨21,rfl⟩)))))))))))))))))))))) F_impl_tiny))
theorem r_impl_ArcSeries (a0:Iv):Tb353.run B353 [enc a0] (Iv)=(zfJ a0).opt:=by kernel_rfl
def zef:Iv->Iv:=fun a0=>(zfJ a0).get
theorem u_impl_ArcSeries (a0:Iv):(zfJ a0).opt=some (zef a0):=Tr.zQ (by kernel_rfl)
def E_impl_ArcSeries:Ent Tryz.prog:= .of1 Tb353 B353 (fun _=>true) zef fun a0 _=>(r_impl_ArcSeries a0).trans (u_impl_ArcSeries a0)
def B337:Bod Tryz.prog:=⟨337,Tryz.f337,Tryz.f337.body.getD .skip,Tryz.func337,by kernel_rfl,by kernel_rfl,zae.no _ _⟩
def Tb337:Tb Tryz.prog:= {T:= [Y2,Y30],mix:=mix,Es:= [zeR],Bs:= [],d:=1}
def t_impl_DoubleI (a0:Iv):Tr (Iv):=
 .leaf (zbA a0 a0)
theorem r_impl_DoubleI (a0:Iv):Tb337.run B337 [enc a0] (Iv)=(t_impl_DoubleI a0).opt:=by kernel_rfl
def zen:Iv->Iv:=fun a0=>(t_impl_DoubleI a0).get
theorem u_impl_DoubleI (a0:Iv):(t_impl_DoubleI a0).opt=some (zen a0):=Tr.zQ (by kernel_rfl)
def E_impl_DoubleI:Ent Tryz.prog:= .of1 Tb337 B337 (fun _=>true) zen fun a0 _=>(r_impl_DoubleI a0).trans (u_impl_DoubleI a0)
def B334:Bod Tryz.prog:=⟨334,Tryz.f334,Tryz.f334.body.getD .skip,Tryz.func334,by kernel_rfl,by kernel_rfl,zae.no _ _⟩
def Tb334:Tb Tryz.prog:= {T:= [Y2,Y30],mix:=mix,Es:= [E_impl_DoubleI,E_impl_ArcSeries,E_impl_halved],Bs:= [],d:=1}
def t_impl_fourfold (a0:Iv):Tr (Iv):=
 .leaf (zen (zen (zef (zfb (zfb a0)))))
theorem r_impl_fourfold (a0:Iv):Tb334.run B334 [enc a0] (Iv)=(t_impl_fourfold a0).opt:=by kernel_rfl
def zcA:Iv->Iv:=fun a0=>(t_impl_fourfold a0).get
theorem u_impl_fourfold (a0:Iv):(t_impl_fourfold a0).opt=some (zcA a0):=Tr.zQ (by kernel_rfl)
def E_impl_fourfold:Ent Tryz.prog:= .of1 Tb334 B334 (fun _=>true) zcA fun a0 _=>(r_impl_fourfold a0).trans (u_impl_fourfold a0)
def B297:Bod Tryz.prog:=⟨297,Tryz.f297,Tryz.f297.body.getD .skip,Tryz.func297,by kernel_rfl,by kernel_rfl,zae.no _ _⟩
def Tb297_p:Tb Tryz.prog:= {T:= [Y2,Y30],mix:=mix,Es:= [zfF,zfV,E_impl_DivI,E_impl_at,zfe,E_impl_isOpen,E_impl_halfCircle,E_impl_fourfold],Bs:= [],d:=1}
def zeH (a0:I64):Tr (Iv):=
 .br (!(zd1 a0)) (.leaf zbU) (.br (decide (a0.val<0)) (.bad) (.br (decide (a0.val>4294967296)) (.leaf (zaw (za3 ⟨1,rfl⟩) (zcA (zbh (zac ⟨1,rfl⟩) (zbW a0))))) (.leaf (zcA (zbW a0)))))
theorem r_impl_AtanAt_p (a0:I64):Tb297_p.run B297 [enc a0] (Iv)=(zeH a0).opt:=by kernel_rfl
def F_impl_AtanAt_p:I64->Iv:=fun a0=>(zeH a0).get
def G_impl_AtanAt_p:I64->Bool:=fun a0=>(zeH a0).opt.isSome
def E_impl_AtanAt_p:Ent Tryz.prog:= .of1 Tb297_p B297 G_impl_AtanAt_p F_impl_AtanAt_p fun a0 h=>(r_impl_AtanAt_p a0).trans (Tr.get_some h)
def Tb297:Tb Tryz.prog:= {T:= [Y2,Y30],mix:=mix,Es:= [zfF,zfV,E_impl_DivI,E_impl_NegI,E_impl_at,zfe,E_impl_isOpen,E_impl_halfCircle,E_impl_AtanAt_p,E_impl_fourfold],Bs:= [],d:=1}
def t_impl_AtanAt (a0:I64):Tr (Iv):=
 .br (!(zd1 a0)) (.leaf zbU) (.br (decide (a0.val<0)) (let c3:=(Rng.w .i64 (0-a0.val));.br (G_impl_AtanAt_p c3) (.leaf (zdw (F_impl_AtanAt_p c3))) (.bad)) (.br (decide (a0.val>4294967296)) (.leaf (zaw (za3 ⟨1,rfl⟩) (zcA (zbh (zac ⟨1,rfl⟩) (zbW a0))))) (.leaf (zcA (zbW a0)))))
theorem r_impl_AtanAt (a0:I64):Tb297.run B297 [enc a0] (Iv)=(t_impl_AtanAt a0).opt:=by kernel_rfl
def zd3:I64->Iv:=fun a0=>(t_impl_AtanAt a0).get
def Y40:TyE Tryz.prog:=⟨40,6,(.struct [(0,30,2),(2,30,2),(4,30,2)]),[.i64 ⟨0,rfl⟩,.i64 ⟨0,rfl⟩,.i64 ⟨0,rfl⟩,.i64 ⟨0,rfl⟩,.i64 ⟨0,rfl⟩,.i64 ⟨0,rfl⟩],false,by kernel_rfl,by kernel_rfl,by kernel_rfl,by kernel_rfl,by kernel_rfl,by kernel_rfl⟩
def B96:Bod Tryz.prog:=⟨96,Tryz.f96,Tryz.f96.body.getD .skip,Tryz.func96,by kernel_rfl,by kernel_rfl,zae.no _ _⟩
def Tb96:Tb Tryz.prog:= {T:= [Y2,Y30,Y40],mix:=mix,Es:= [zeR],Bs:= [],d:=1}
def t_impl_AddV (a0:Vec) (a1:Vec):Tr (Vec):=
 .leaf ⟨(zbA a0.x a1.x),(zbA a0.y a1.y),(zbA a0.z a1.z)⟩
theorem r_impl_AddV (a0:Vec) (a1:Vec):Tb96.run B96 [enc a0,enc a1] (Vec)=(t_impl_AddV a0 a1).opt:=by kernel_rfl
def F_impl_AddV:Vec->Vec->Vec:=fun a0 a1=>(t_impl_AddV a0 a1).get
theorem u_impl_AddV (a0:Vec) (a1:Vec):(t_impl_AddV a0 a1).opt=some (F_impl_AddV a0 a1):=Tr.zQ (by kernel_rfl)
def E_impl_AddV:Ent Tryz.prog:= .of2 Tb96 B96 (fun _ _=>true) F_impl_AddV fun a0 a1 _=>(r_impl_AddV a0 a1).trans (u_impl_AddV a0 a1)
end
end Go.Proofs.YtfcjhkkpbnobhaaGreat.Ev
namespace Go.Proofs.YtfcjhkkpbnobhaaGreat.Ev
open Go
theorem quot_eq (a b:I64):zbc a b=zba a b:=(q_F_impl a b).trans (q_F_spec a b).symm
theorem radians_eq (n:I64):zee n=zaN n:=by
 have h:=rad_eq n
 have h2:=tt_rad_spec n
 have h1:=tt_rad_impl n
 rw [h.1,h2] at h1
 exact (Option.some.inj h1).symm
theorem cosI_eq (x:Iv):zfU x=zbb x:=by simp only [zfU,t_impl_CosI,zbb,t_spec_CosI,Tr.get,over_eq]
theorem sinI_eq (x:Iv):F_impl_SinI x=zbz x:=by simp only [F_impl_SinI,t_impl_SinI,zbz,t_spec_SinI,Tr.get,over_eq]
theorem double_eq (a:Iv):zen a=zcr a:=by
 simp only [zen,t_impl_DoubleI,zcr,t_spec_DoubleI,Tr.get,add_eq,zaj,zeD]
 cases zh a
 ·rfl
 simp only [Bool.not_true,cond_false]
 have e1:a.lo.val+a.lo.val=2*a.lo.val:=by omega
 have e2:a.hi.val+a.hi.val=2*a.hi.val:=by omega
 rw [e1,e2]
theorem halve_eq (a:Iv):zfb a=zdL a:=by
 simp only [zfb,t_impl_halved,zdL,t_spec_l07Halve,Tr.get,add_eq,divI_F,integer_eq,sqrtI_eq,sqrI_F]
theorem arcs_eq (a:Iv):zef a=zec a:=by
 simp only [zef,zfJ,zec,t_spec_ArcSeries,Tr.get,add_eq,sub_eq,mulI_F,sqrI_F,quot_eq,tiny_eq,inside_eq,zck,zcu]
theorem core_eq (a:Iv):zcA a=zcp a:=by
 simp only [zcA,t_impl_fourfold,zcp,t_spec_l07Core,Tr.get,double_eq,arcs_eq,halve_eq]
theorem fix_eq (n:I64):zd1 n=zbo n:=rfl
theorem fix_iff (n:I64):zbo n=true↔(-1152921504606846976<n.val/\n.val<1152921504606846976):=by
 simp only [zbo,t_spec_l07Fix,Tr.get]
 by_cases h1:(-1152921504606846976:Int)<n.val<;>simp [h1]
theorem turn_in {k:I64} (h: -4096<=k.val) (h':k.val<=4096):zcm k=true/\zR k=zbs k:=by
 obtain ⟨x,h1,h2,h3⟩:=turn_ok k h h'
 have g:zcm k=true:=by unfold zcm;rw [h1];rfl
 have hi:zaE k ⟨(-4096),rfl⟩ ⟨4096,rfl⟩=true:=by rw [zfi];simpa using ⟨h,h'⟩
 exact ⟨g,by simp only [zR,zez,Tr.get,hi,g,Bool.not_true,cond_false,cond_true]⟩
theorem half_eq:zbU=zbj:=by
 obtain ⟨g,e⟩:=turn_in (k:=⟨1,rfl⟩) (by decide) (by decide)
 simp only [zbU,zeX,zbj,t_spec_l07Quarter,Tr.get,turnI_eq,e,g,cond_true]
theorem atanp_ok (n:I64) (h:¬n.val<0):(zeC n).opt=some (zc5 n)/\(zeH n).opt=some (zc5 n):=by
 have hn:decide (n.val<0)=false:=by simpa using h
 simp only [zeC,zeH,zc5,Tr.opt,Tr.get,hn,cond_false,fix_eq,half_eq,sub_eq,turnI_eq,core_eq,divI_F,integer_eq,at_eq]
 cases zbo n<;>cases decide (n.val>4294967296)<;>exact ⟨rfl,rfl⟩
theorem atan_ok (n:I64):∃x,(t_spec_AtanAt n).opt=some x/\(t_impl_AtanAt n).opt=some x:=by
 simp only [t_spec_AtanAt,t_impl_AtanAt,Tr.opt,fix_eq,half_eq,sub_eq,turnI_eq,core_eq,divI_F,integer_eq,at_eq]
 cases hf:zbo n
 ·exact ⟨_,rfl,rfl⟩
 have hb:=(fix_iff n).1 hf
 by_cases hn:n.val<0
 ·have e1:(Rng.w .i64 (0-n.val)).val=0-n.val:=wi (by omega) (by omega)
  obtain ⟨a1,a2⟩:=atanp_ok (.w .i64 (0-n.val)) (by omega)
  have g1:zeL (.w .i64 (0-n.val))=true:=by unfold zeL;rw [a1];rfl
  have g2:G_impl_AtanAt_p (.w .i64 (0-n.val))=true:=by unfold G_impl_AtanAt_p;rw [a2];rfl
  have f2:F_impl_AtanAt_p (.w .i64 (0-n.val))=zc5 (.w .i64 (0-n.val)):=Tr.zaO a2
  simp only [hn,decide_true,cond_true,g1,g2,f2,neg_eq,Bool.not_true,cond_false]
  exact ⟨_,rfl,rfl⟩
 ·simp only [hn,decide_false,cond_false,Bool.not_true]
  cases decide (n.val>4294967296)<;>exact ⟨_,rfl,rfl⟩
theorem atan_eq (n:I64):zd3 n=zcN n:=by
 obtain ⟨x,h1,h2⟩:=atan_ok n
 exact (Tr.zaO h2).trans (Tr.zaO h1).symm
theorem tt_atan_impl (n:I64):(t_impl_AtanAt n).opt=some (zd3 n):=by obtain ⟨x,_,h1⟩:=atan_ok n;exact ze3 h1
end Go.Proofs.YtfcjhkkpbnobhaaGreat.Ev
namespace Go.Proofs.YtfcjhkkpbnobhaaGreat.Ev
open Go Go.RowKit
set_option maxRecDepth 100000
section
variable [Amb]
def ET_impl_AtanAt:Ent Tryz.prog:= .of1 Tb297 B297 (fun _=>true) zd3 fun a0 _=>(r_impl_AtanAt a0).trans (tt_atan_impl a0)
def t_spec_AbsI (a0:Iv):Tr (Iv):=
 .br (!(zh a0)) (.leaf zu) (let c3:=zH a0;.leaf (zas c3.a c3.b))
def F_spec_AbsI:Iv->Iv:=fun a0=>(t_spec_AbsI a0).get
def t_spec_IsWhole (a0:Iv):Tr (Bool):=
 .leaf (!(zh a0))
def zcq:Iv->Bool:=fun a0=>(t_spec_IsWhole a0).get
def t_spec_AtanI (a0:Iv):Tr (Iv):=
 .br (zcq a0) (.leaf zbj) (.leaf (zS (zcN a0.lo) (zcN a0.hi)))
def zab:Iv->Iv:=fun a0=>(t_spec_AtanI a0).get
def B236:Bod Tryz.prog:=⟨236,Tryz.f236,Tryz.f236.body.getD .skip,Tryz.func236,by kernel_rfl,by kernel_rfl,zae.no _ _⟩
def Tb236:Tb Tryz.prog:= {T:= [Y2,Y30],mix:=mix,Es:= [zbY,E_impl_HullI,E_impl_halfCircle,ET_impl_AtanAt],Bs:= [],d:=1}
def t_impl_AtanI (a0:Iv):Tr (Iv):=
 .br (zal a0) (.leaf zbU) (.leaf (zar (zd3 a0.lo) (zd3 a0.hi)))
theorem r_impl_AtanI (a0:Iv):Tb236.run B236 [enc a0] (Iv)=(t_impl_AtanI a0).opt:=by kernel_rfl
def zcD:Iv->Iv:=fun a0=>(t_impl_AtanI a0).get
theorem u_impl_AtanI (a0:Iv):(t_impl_AtanI a0).opt=some (zcD a0):=Tr.zQ (by kernel_rfl)
def E_impl_AtanI:Ent Tryz.prog:= .of1 Tb236 B236 (fun _=>true) zcD fun a0 _=>(r_impl_AtanI a0).trans (u_impl_AtanI a0)
def B18:Bod Tryz.prog:=⟨18,Tryz.f18,Tryz.f18.body.getD .skip,Tryz.func18,by kernel_rfl,by kernel_rfl,zae.no _ _⟩
def Tb18:Tb Tryz.prog:= {T:= [Y30],mix:=mix,Es:= [zcf,E_spec_l04Has],Bs:= [],d:=1}
def t_spec_HasI (a0:Iv) (a1:I64):Tr (Bool):=
 .br (!(zh a0)) (.leaf true) (.leaf (zaC a0 a1))
theorem r_spec_HasI (a0:Iv) (a1:I64):Tb18.run B18 [enc a0,enc a1] (Bool)=(t_spec_HasI a0 a1).opt:=by kernel_rfl
def zaT:Iv->I64->Bool:=fun a0 a1=>(t_spec_HasI a0 a1).get
theorem u_spec_HasI (a0:Iv) (a1:I64):(t_spec_HasI a0 a1).opt=some (zaT a0 a1):=Tr.zQ (by kernel_rfl)
def E_spec_HasI:Ent Tryz.prog:= .of2 Tb18 B18 (fun _ _=>true) zaT fun a0 a1 _=>(r_spec_HasI a0 a1).trans (u_spec_HasI a0 a1)
def t_spec_DirectionAt (a0:I64) (a1:I64):Tr (Iv):=
 .br (!(zbo a0)) (.leaf zaF) (.br (!(zbo a1)) (.leaf zaF) (.br (a1.val==0) (.br (a0.val==0) (.leaf zaF) (.br (decide (a0.val<0)) (let c6:=(Rng.w .i64 (0-a0.val));.br (decide (c6.val>a1.val)) (.br (decide (c6.val>(Rng.w .i64 (0-a1.val)).val)) (.br (decide (a0.val<0)) (.leaf (zZ (zR ⟨(-1),rfl⟩) (zab (zB (zw a1) (zw a0))))) (.leaf (zZ (zR ⟨1,rfl⟩) (zab (zB (zw a1) (zw a0)))))) (.br (decide (a1.val>0)) (.leaf (zab (zB (zw a0) (zw a1)))) (.br (decide (a0.val<0)) (.leaf (zaj (zab (zB (zw a0) (zw a1))) (zR ⟨(-2),rfl⟩))) (.leaf (zaj (zab (zB (zw a0) (zw a1))) (zR ⟨2,rfl⟩)))))) (.br (decide (a1.val>0)) (.leaf (zab (zB (zw a0) (zw a1)))) (.br (decide (a0.val<0)) (.leaf (zaj (zab (zB (zw a0) (zw a1))) (zR ⟨(-2),rfl⟩))) (.leaf (zaj (zab (zB (zw a0) (zw a1))) (zR ⟨2,rfl⟩)))))) (.br (decide (a0.val>a1.val)) (.br (decide (a0.val>(Rng.w .i64 (0-a1.val)).val)) (.br (decide (a0.val<0)) (.leaf (zZ (zR ⟨(-1),rfl⟩) (zab (zB (zw a1) (zw a0))))) (.leaf (zZ (zR ⟨1,rfl⟩) (zab (zB (zw a1) (zw a0)))))) (.br (decide (a1.val>0)) (.leaf (zab (zB (zw a0) (zw a1)))) (.br (decide (a0.val<0)) (.leaf (zaj (zab (zB (zw a0) (zw a1))) (zR ⟨(-2),rfl⟩))) (.leaf (zaj (zab (zB (zw a0) (zw a1))) (zR ⟨2,rfl⟩)))))) (.br (decide (a1.val>0)) (.leaf (zab (zB (zw a0) (zw a1)))) (.br (decide (a0.val<0)) (.leaf (zaj (zab (zB (zw a0) (zw a1))) (zR ⟨(-2),rfl⟩))) (.leaf (zaj (zab (zB (zw a0) (zw a1))) (zR ⟨2,rfl⟩)))))))) (.br (decide (a0.val<0)) (let c101:=(Rng.w .i64 (0-a0.val));.br (decide (c101.val>a1.val)) (.br (decide (c101.val>(Rng.w .i64 (0-a1.val)).val)) (.br (decide (a0.val<0)) (.leaf (zZ (zR ⟨(-1),rfl⟩) (zab (zB (zw a1) (zw a0))))) (.leaf (zZ (zR ⟨1,rfl⟩) (zab (zB (zw a1) (zw a0)))))) (.br (decide (a1.val>0)) (.leaf (zab (zB (zw a0) (zw a1)))) (.br (decide (a0.val<0)) (.leaf (zaj (zab (zB (zw a0) (zw a1))) (zR ⟨(-2),rfl⟩))) (.leaf (zaj (zab (zB (zw a0) (zw a1))) (zR ⟨2,rfl⟩)))))) (.br (decide (a1.val>0)) (.leaf (zab (zB (zw a0) (zw a1)))) (.br (decide (a0.val<0)) (.leaf (zaj (zab (zB (zw a0) (zw a1))) (zR ⟨(-2),rfl⟩))) (.leaf (zaj (zab (zB (zw a0) (zw a1))) (zR ⟨2,rfl⟩)))))) (.br (decide (a0.val>a1.val)) (.br (decide (a0.val>(Rng.w .i64 (0-a1.val)).val)) (.br (decide (a0.val<0)) (.leaf (zZ (zR ⟨(-1),rfl⟩) (zab (zB (zw a1) (zw a0))))) (.leaf (zZ (zR ⟨1,rfl⟩) (zab (zB (zw a1) (zw a0)))))) (.br (decide (a1.val>0)) (.leaf (zab (zB (zw a0) (zw a1)))) (.br (decide (a0.val<0)) (.leaf (zaj (zab (zB (zw a0) (zw a1))) (zR ⟨(-2),rfl⟩))) (.leaf (zaj (zab (zB (zw a0) (zw a1))) (zR ⟨2,rfl⟩)))))) (.br (decide (a1.val>0)) (.leaf (zab (zB (zw a0) (zw a1)))) (.br (decide (a0.val<0)) (.leaf (zaj (zab (zB (zw a0) (zw a1))) (zR ⟨(-2),rfl⟩))) (.leaf (zaj (zab (zB (zw a0) (zw a1))) (zR ⟨2,rfl⟩)))))))))
def zG:I64->I64->Iv:=fun a0 a1=>(t_spec_DirectionAt a0 a1).get
def zeV (a0:Iv) (a1:Iv):Tr (Iv):=
 .br (zcq a0) (.leaf zaF) (.br (zcq a1) (.leaf zaF) (.br (zaT a0 ⟨0,rfl⟩) (.br (zaT a1 ⟨0,rfl⟩) (.leaf zaF) (.br (decide (a1.lo.val<0)) (.br (decide (a0.lo.val<0)) (.br (decide (a0.hi.val>=0)) (.leaf zaF) (.leaf (zS (zS (zG a0.lo a1.lo) (zG a0.lo a1.hi)) (zS (zG a0.hi a1.lo) (zG a0.hi a1.hi))))) (.leaf (zS (zS (zG a0.lo a1.lo) (zG a0.lo a1.hi)) (zS (zG a0.hi a1.lo) (zG a0.hi a1.hi))))) (.leaf (zS (zS (zG a0.lo a1.lo) (zG a0.lo a1.hi)) (zS (zG a0.hi a1.lo) (zG a0.hi a1.hi)))))) (.br (decide (a1.lo.val<0)) (.br (decide (a0.lo.val<0)) (.br (decide (a0.hi.val>=0)) (.leaf zaF) (.leaf (zS (zS (zG a0.lo a1.lo) (zG a0.lo a1.hi)) (zS (zG a0.hi a1.lo) (zG a0.hi a1.hi))))) (.leaf (zS (zS (zG a0.lo a1.lo) (zG a0.lo a1.hi)) (zS (zG a0.hi a1.lo) (zG a0.hi a1.hi))))) (.leaf (zS (zS (zG a0.lo a1.lo) (zG a0.lo a1.hi)) (zS (zG a0.hi a1.lo) (zG a0.hi a1.hi)))))))
def zbt:Iv->Iv->Iv:=fun a0 a1=>(zeV a0 a1).get
def B176:Bod Tryz.prog:=⟨176,Tryz.f176,Tryz.f176.body.getD .skip,Tryz.func176,by kernel_rfl,by kernel_rfl,zae.no _ _⟩
def Tb176:Tb Tryz.prog:= {T:= [Y2,Y30],mix:=mix,Es:= [zeR,zfV,E_impl_DivI,zaG,E_impl_abs,E_impl_at,E_impl_AtanI,zfe,E_impl_isOpen],Bs:= [],d:=1}
def zdl (a0:I64) (a1:I64):Tr (Iv):=
 .br (!(zd1 a0)) (.leaf zK) (.br (!(zd1 a1)) (.leaf zK) (.br (a0.val==0) (.br (a1.val==0) (.leaf zK) (.br (decide ((zbn a0).val>(zbn a1).val)) (.br (decide (a0.val<0)) (.leaf (zaw (za3 ⟨(-1),rfl⟩) (zcD (zbh (zbW a1) (zbW a0))))) (.leaf (zaw (za3 ⟨1,rfl⟩) (zcD (zbh (zbW a1) (zbW a0)))))) (let c24:=zcD (zbh (zbW a0) (zbW a1));.br (decide (a1.val>0)) (.leaf c24) (.br (decide (a0.val<0)) (.leaf (zbA c24 (za3 ⟨(-2),rfl⟩))) (.leaf (zbA c24 (za3 ⟨2,rfl⟩))))))) (.br (decide ((zbn a0).val>(zbn a1).val)) (.br (decide (a0.val<0)) (.leaf (zaw (za3 ⟨(-1),rfl⟩) (zcD (zbh (zbW a1) (zbW a0))))) (.leaf (zaw (za3 ⟨1,rfl⟩) (zcD (zbh (zbW a1) (zbW a0)))))) (let c47:=zcD (zbh (zbW a0) (zbW a1));.br (decide (a1.val>0)) (.leaf c47) (.br (decide (a0.val<0)) (.leaf (zbA c47 (za3 ⟨(-2),rfl⟩))) (.leaf (zbA c47 (za3 ⟨2,rfl⟩))))))))
theorem r_impl_DirectionAt (a0:I64) (a1:I64):Tb176.run B176 [enc a0,enc a1] (Iv)=(zdl a0 a1).opt:=by kernel_rfl
def zT:I64->I64->Iv:=fun a0 a1=>(zdl a0 a1).get
theorem u_impl_DirectionAt (a0:I64) (a1:I64):(zdl a0 a1).opt=some (zT a0 a1):=Tr.zQ (by kernel_rfl)
def E_impl_DirectionAt:Ent Tryz.prog:= .of2 Tb176 B176 (fun _ _=>true) zT fun a0 a1 _=>(r_impl_DirectionAt a0 a1).trans (u_impl_DirectionAt a0 a1)
def B84:Bod Tryz.prog:=⟨84,Tryz.f84,Tryz.f84.body.getD .skip,Tryz.func84,by kernel_rfl,by kernel_rfl,zae.no _ _⟩
def Tb84:Tb Tryz.prog:= {T:= [Y2,Y30],mix:=mix,Es:= [zc1,zaG,E_impl_HasI,E_impl_HullI,E_impl_DirectionAt],Bs:= [],d:=1}
def ze1 (a0:Iv) (a1:Iv):Tr (Iv):=
 .br (!(zbu a0 a1)) (.leaf zK) (.br (zdy a0 ⟨0,rfl⟩) (.br (zdy a1 ⟨0,rfl⟩) (.leaf zK) (.br (decide (a1.lo.val<0)) (.br (decide (a0.lo.val<0)) (.br (decide (a0.hi.val>=0)) (.leaf zK) (.leaf (zar (zar (zT a0.lo a1.lo) (zT a0.lo a1.hi)) (zar (zT a0.hi a1.lo) (zT a0.hi a1.hi))))) (.leaf (zar (zar (zT a0.lo a1.lo) (zT a0.lo a1.hi)) (zar (zT a0.hi a1.lo) (zT a0.hi a1.hi))))) (.leaf (zar (zar (zT a0.lo a1.lo) (zT a0.lo a1.hi)) (zar (zT a0.hi a1.lo) (zT a0.hi a1.hi)))))) (.br (decide (a1.lo.val<0)) (.br (decide (a0.lo.val<0)) (.br (decide (a0.hi.val>=0)) (.leaf zK) (.leaf (zar (zar (zT a0.lo a1.lo) (zT a0.lo a1.hi)) (zar (zT a0.hi a1.lo) (zT a0.hi a1.hi))))) (.leaf (zar (zar (zT a0.lo a1.lo) (zT a0.lo a1.hi)) (zar (zT a0.hi a1.lo) (zT a0.hi a1.hi))))) (.leaf (zar (zar (zT a0.lo a1.lo) (zT a0.lo a1.hi)) (zar (zT a0.hi a1.lo) (zT a0.hi a1.hi))))))
theorem r_impl_DirectionI (a0:Iv) (a1:Iv):Tb84.run B84 [enc a0,enc a1] (Iv)=(ze1 a0 a1).opt:=by kernel_rfl
def zc0:Iv->Iv->Iv:=fun a0 a1=>(ze1 a0 a1).get
theorem u_impl_DirectionI (a0:Iv) (a1:Iv):(ze1 a0 a1).opt=some (zc0 a0 a1):=Tr.zQ (by kernel_rfl)
def E_impl_DirectionI:Ent Tryz.prog:= .of2 Tb84 B84 (fun _ _=>true) zc0 fun a0 a1 _=>(r_impl_DirectionI a0 a1).trans (u_impl_DirectionI a0 a1)
def t_spec_l10Ends (a0:Iv):Tr (T2 I64 I64):=
 let c1:=F_spec_AbsI a0;.leaf ⟨c1.lo,c1.hi⟩
def F_spec_l10Ends:Iv->T2 I64 I64:=fun a0=>(t_spec_l10Ends a0).get
def t_spec_l10Sum (a0:I64) (a1:I64) (a2:I64):Tr (Wide):=
 .leaf (zbE (zbE (zb6 a0 a0) (zb6 a1 a1)) (zb6 a2 a2))
def F_spec_l10Sum:I64->I64->I64->Wide:=fun a0 a1 a2=>(t_spec_l10Sum a0 a1 a2).get
def t_spec_NormV (a0:Vec):Tr (Iv):=
 .br (zcq a0.x) (.leaf zaF) (.br (zcq a0.y) (.leaf zaF) (.br (zcq a0.z) (.leaf zaF) (let c7:=F_spec_l10Ends a0.x;let c8:=F_spec_l10Ends a0.y;let c9:=F_spec_l10Ends a0.z;let c11:=zA (F_spec_l10Sum c7.a c8.a c9.a);let c12:=F_spec_l10Sum c7.b c8.b c9.b;let c13:=zA c12;let c14:=zb6 (Rng.w .i64 (c13.val)) (Rng.w .i64 (c13.val));.br (!((c14.hi.val==c12.hi.val)&&((c14.lo.val==c12.lo.val)&&true))) (let c16:=(Rng.w .i64 ((Rng.w .i64 (c13.val)).val+1));.br (decide (c16.val>=1152921504606846976)) (.leaf zaF) (.leaf ⟨(Rng.w .i64 (c11.val)),c16⟩)) (.br (decide ((Rng.w .i64 (c13.val)).val>=1152921504606846976)) (.leaf zaF) (.leaf ⟨(Rng.w .i64 (c11.val)),(Rng.w .i64 (c13.val))⟩)))))
def F_spec_NormV:Vec->Iv:=fun a0=>(t_spec_NormV a0).get
def B256:Bod Tryz.prog:=⟨256,Tryz.f256,Tryz.f256.body.getD .skip,Tryz.func256,by kernel_rfl,by kernel_rfl,zae.no _ _⟩
def Tb256:Tb Tryz.prog:= {T:= [Y2,Y132,Y148],mix:=mix,Es:= [E_math_bits_Add64],Bs:= [],d:=1}
def zds (a0:Wide) (a1:Wide):Tr (T2 Wide Bool):=
 let c1:=zaz a0.lo a1.lo ⟨0,rfl⟩;.br (G_carry (Rng.w .u64 (a0.hi.val)) (Rng.w .u64 (a1.hi.val)) c1.b) (let c2:=zaz (Rng.w .u64 (a0.hi.val)) (Rng.w .u64 (a1.hi.val)) c1.b;.br (decide ((Rng.w .i64 (zbf .and .i64 (Rng.w .i64 (zbf .xor .i64 a0.hi.val (Rng.w .i64 (c2.a.val)).val)).val (Rng.w .i64 (zbf .xor .i64 a1.hi.val (Rng.w .i64 (c2.a.val)).val)).val)).val<0)) (.leaf ⟨⟨⟨0,rfl⟩,⟨0,rfl⟩⟩,false⟩) (.leaf ⟨⟨(Rng.w .i64 (c2.a.val)),c1.a⟩,true⟩)) (.bad)
theorem r_impl_WideAdd (a0:Wide) (a1:Wide):Tb256.run B256 [enc a0,enc a1] (T2 Wide Bool)=(zds a0 a1).opt:=by kernel_rfl
def zfD:Wide->Wide->T2 Wide Bool:=fun a0 a1=>(zds a0 a1).get
def zdt:Wide->Wide->Bool:=fun a0 a1=>(zds a0 a1).opt.isSome
def E_impl_WideAdd:Ent Tryz.prog:= .of2 Tb256 B256 zdt zfD fun a0 a1 h=>(r_impl_WideAdd a0 a1).trans (Tr.get_some h)
def B177:Bod Tryz.prog:=⟨177,Tryz.f177,Tryz.f177.body.getD .skip,Tryz.func177,by kernel_rfl,by kernel_rfl,zae.no _ _⟩
def Tb177:Tb Tryz.prog:= {T:= [Y2,Y132,Y148],mix:=mix,Es:= [E_impl_WideAdd,zeo,ET_impl_WideSqrt],Bs:= [],d:=1}
def zcJ (a0:I64) (a1:I64) (a2:I64):Tr (T2 I64 I64):=
 let c1:=zbm a0 a0;let c2:=zbm a1 a1;.br (zdt c1 c2) (let c3:=zfD c1 c2;let c4:=zbm a2 a2;.br (zdt c3.a c4) (let c5:=zfD c3.a c4;let c6:=zcB c5.a;let c7:=zbm (Rng.w .i64 (c6.a.val)) (Rng.w .i64 (c6.a.val));.br (!((c7.hi.val==c5.a.hi.val)&&((c7.lo.val==c5.a.lo.val)&&true))) (.leaf ⟨(Rng.w .i64 (c6.a.val)),(Rng.w .i64 ((Rng.w .i64 (c6.a.val)).val+1))⟩) (.leaf ⟨(Rng.w .i64 (c6.a.val)),(Rng.w .i64 (c6.a.val))⟩)) (.bad)) (.bad)
theorem r_impl_rootOfSquares (a0:I64) (a1:I64) (a2:I64):Tb177.run B177 [enc a0,enc a1,enc a2] (T2 I64 I64)=(zcJ a0 a1 a2).opt:=by kernel_rfl
def zcL:I64->I64->I64->T2 I64 I64:=fun a0 a1 a2=>(zcJ a0 a1 a2).get
def zbG:I64->I64->I64->Bool:=fun a0 a1 a2=>(zcJ a0 a1 a2).opt.isSome
def E_impl_rootOfSquares:Ent Tryz.prog:= .of3 Tb177 B177 zbG zcL fun a0 a1 a2 h=>(r_impl_rootOfSquares a0 a1 a2).trans (Tr.get_some h)
def B85:Bod Tryz.prog:=⟨85,Tryz.f85,Tryz.f85.body.getD .skip,Tryz.func85,by kernel_rfl,by kernel_rfl,zae.no _ _⟩
def Tb85:Tb Tryz.prog:= {T:= [Y2,Y30,Y40],mix:=mix,Es:= [zbY,E_impl_AbsI,zc1,zaG,zcV,E_impl_rootOfSquares],Bs:= [],d:=1}
def t_impl_NormV (a0:Vec):Tr (Iv):=
 .br (!(zbu a0.x a0.y)) (.leaf zK) (.br (zal a0.z) (.leaf zK) (let c5:=zdz a0.x;let c6:=zdz a0.y;let c7:=zdz a0.z;.br (zbG c5.lo c6.lo c7.lo) (.br (zbG c5.hi c6.hi c7.hi) (.leaf (za2 (zcL c5.lo c6.lo c7.lo).a (zcL c5.hi c6.hi c7.hi).b true)) (.bad)) (.bad)))
theorem r_impl_NormV (a0:Vec):Tb85.run B85 [enc a0] (Iv)=(t_impl_NormV a0).opt:=by kernel_rfl
def F_impl_NormV:Vec->Iv:=fun a0=>(t_impl_NormV a0).get
structure S_spec_LogAt_5 where
 x0:I64
 x1:I64
 x2:I64
 x3:I64
 x4:I64
 x5:I64
instance:Inhabited S_spec_LogAt_5:=⟨⟨default,default,default,default,default,default⟩⟩
structure S_spec_LogAt_8 where
 x0:I64
 x1:I64
 x2:I64
 x3:I64
 x4:I64
 x5:I64
instance:Inhabited S_spec_LogAt_8:=⟨⟨default,default,default,default,default,default⟩⟩
structure S_impl_twosOf_2 where
 x0:I64
 x1:I64
instance:Inhabited S_impl_twosOf_2:=⟨⟨default,default⟩⟩
structure S_impl_twosOf_4 where
 x0:I64
 x1:I64
instance:Inhabited S_impl_twosOf_4:=⟨⟨default,default⟩⟩
end
end Go.Proofs.YtfcjhkkpbnobhaaGreat.Ev
namespace Go.Proofs.YtfcjhkkpbnobhaaGreat.Ev
open Go
theorem ctr {α:Type} (a b:α):(bif true then a else b)=a:=by simp
theorem cfl {α:Type} (a b:α):(bif false then a else b)=b:=by simp
theorem siw_eq (a:Iv):zcq a= !(zh a):=by simp only [zcq,t_spec_IsWhole,Tr.get]
theorem hasI_eq (a:Iv) (n:I64):zdy a n=zaT a n:=by
 simp only [zdy,t_impl_HasI,zaT,t_spec_HasI,zaC,zbZ,Tr.get,isw_eq,zdh,zfi]
theorem atanI_impl (a:Iv):zcD a=bif zal a then zbU else zar (zd3 a.lo) (zd3 a.hi):=by
 simp only [zcD,t_impl_AtanI,Tr.get]
theorem atanI_spec (a:Iv):zab a=bif zcq a then zbj else zS (zcN a.lo) (zcN a.hi):=by
 simp only [zab,t_spec_AtanI,Tr.get]
theorem atanI_eq (a:Iv):zcD a=zab a:=by
 rw [atanI_impl,atanI_spec,isw_eq,siw_eq,half_eq,atan_eq,atan_eq,hull_eq]
theorem dirAt_eq (y x:I64):zT y x=zG y x:=by
 simp only [zT,zdl,zG,t_spec_DirectionAt,Tr.get]
 simp only [fix_eq,atanI_eq,divI_F,at_eq,sub_eq,add_eq,turnI_eq,zck,zcu]
 cases hy:zbo y
 ·rfl
 cases hx:zbo x
 ·rfl
 have by':=(fix_iff y).1 hy
 have bx:=(fix_iff x).1 hx
 have ey:(Rng.w .i64 (0-y.val)).val= -y.val:=by rw [wi (by omega) (by omega)];omega
 have ex:(Rng.w .i64 (0-x.val)).val= -x.val:=by rw [wi (by omega) (by omega)];omega
 have ay:=abs_val y (by omega)
 have ax:=abs_val x (by omega)
 simp only [Bool.not_true,cond_false,ey,ex]
 by_cases hn:y.val<0
 ·have hA:decide ((zbn y).val>(zbn x).val)=(decide (-y.val>x.val)&&decide (-y.val > -x.val)):=by
   rw [ay,ax,if_pos hn,<- Bool.decide_and,decide_eq_decide]
   split<;>omega
  simp only [hn,decide_true,cond_true,hA]
  generalize decide (-y.val>x.val)=b1
  generalize decide (-y.val > -x.val)=b2
  generalize decide (x.val>0)=b3
  generalize (x.val==0)=b4
  generalize (y.val==0)=b5
  cases b1<;>cases b2<;>cases b3<;>cases b4<;>cases b5<;>simp only [ctr,cfl,Bool.and_self,Bool.and_false,Bool.and_true,Bool.false_and,Bool.true_and]
 ·have hA:decide ((zbn y).val>(zbn x).val)=(decide (y.val>x.val)&&decide (y.val > -x.val)):=by
   rw [ay,ax,if_neg hn,<- Bool.decide_and,decide_eq_decide]
   split<;>omega
  simp only [hn,decide_false,cond_false,hA]
  generalize decide (y.val>x.val)=b1
  generalize decide (y.val > -x.val)=b2
  generalize decide (x.val>0)=b3
  generalize (x.val==0)=b4
  generalize (y.val==0)=b5
  cases b1<;>cases b2<;>cases b3<;>cases b4<;>cases b5<;>simp only [ctr,cfl,Bool.and_self,Bool.and_false,Bool.and_true,Bool.false_and,Bool.true_and]
theorem dirI_eq (y x:Iv):zc0 y x=zbt y x:=by
 simp only [zc0,ze1,zbt,zeV,Tr.get]
 simp only [areb_eq,siw_eq,hasI_eq,dirAt_eq,hull_eq,zck,zcu]
 cases zh y<;>cases zh x<;>simp only [ctr,cfl,Bool.and_self,Bool.and_false,Bool.and_true,Bool.false_and,Bool.true_and,Bool.not_true,Bool.not_false]
theorem abs_ends {a:Iv} (h:zh a=true):zdz a=⟨(zH a).a,(zH a).b⟩:=by
 simp only [zdz,t_impl_AbsI,zH,zdo,Tr.get,isw_eq,h,Bool.not_true,cond_false,has_eq a _ h,max_eq,min_eq,zbn,t_impl_abs]
 cases zaC a ⟨0,rfl⟩<;>rfl
theorem abs_make {a:Iv} (h:zh a=true):F_spec_AbsI a=⟨(zH a).a,(zH a).b⟩:=by
 simp only [F_spec_AbsI,t_spec_AbsI,Tr.get,h,Bool.not_true,cond_false]
 obtain ⟨p,q,e,h1,h2,h3⟩:=ends_val h
 have:=(zca a).1 h
 rw [e]
 exact zc7 (by simp only;omega)
theorem ends_eq (a:Iv):F_spec_l10Ends a=⟨(F_spec_AbsI a).lo,(F_spec_AbsI a).hi⟩:=rfl
theorem plus_spec (a b:Wide) (h: -170141183460469231731687303715884105728<=wv a+wv b/\wv a+wv b<170141183460469231731687303715884105728):zbE a b=mkW (wv a+wv b):=by
 have ba:=a.lo.ubd;have bb:=b.lo.ubd
 have ha:=a.hi.bd;have hb:=b.hi.bd
 apply mkW_eq
 simp only [wv] at h
 simp only [zbE,zeg,Tr.get]
 have e2:(Rng.w .u64 (a.lo.val+b.lo.val)).val=(a.lo.val+b.lo.val)%18446744073709551616:=za9 _
 simp only [e2]
 by_cases hc:(a.lo.val+b.lo.val)%18446744073709551616<a.lo.val
 ·simp only [hc,decide_true,cond_true,wv,e2]
  rw [zdE,zdE]
  omega
 ·simp only [hc,decide_false,cond_false,wv,e2]
  rw [zdE]
  omega
theorem xor_pos {a b:Int} (ha:0<=a/\a<=9223372036854775807) (hb:0<=b/\b<=9223372036854775807):0<=(Rng.w .i64 (zbf .xor .i64 a b)).val/\(Rng.w .i64 (zbf .xor .i64 a b)).val<=9223372036854775807:=by
 have e:zbf .xor .i64 a b=((BitVec.ofInt 64 a ^^^ BitVec.ofInt 64 b).toNat:Int):=rfl
 have h1:(BitVec.ofInt 64 a).toNat<2^63:=by rw [bv_toNat ha.1 (by omega)];omega
 have h2:(BitVec.ofInt 64 b).toNat<2^63:=by rw [bv_toNat hb.1 (by omega)];omega
 have h3:(BitVec.ofInt 64 a ^^^ BitVec.ofInt 64 b).toNat<2^63:=by rw [BitVec.toNat_xor];exact Nat.xor_lt_two_pow h1 h2
 rw [e,wi (by omega) (by omega)];omega
theorem and_pos {a b:Int} (ha:0<=a/\a<=9223372036854775807) (hb:0<=b/\b<=9223372036854775807):0<=(Rng.w .i64 (zbf .and .i64 a b)).val:=by
 have e:zbf .and .i64 a b=((BitVec.ofInt 64 a &&& BitVec.ofInt 64 b).toNat:Int):=rfl
 have h2:(BitVec.ofInt 64 b).toNat<2^63:=by rw [bv_toNat hb.1 (by omega)];omega
 have h3:(BitVec.ofInt 64 a &&& BitVec.ofInt 64 b).toNat<2^63:=by rw [BitVec.toNat_and];exact Nat.lt_of_le_of_lt Nat.and_le_right h2
 rw [e,wi (by omega) (by omega)];omega
theorem add_impl (a b:Wide) (ha:0<=wv a) (hb:0<=wv b) (h:wv a+wv b<170141183460469231731687303715884105728):(zds a b).opt=some ⟨mkW (wv a+wv b),true⟩:=by
 have ba:=a.lo.ubd;have bb:=b.lo.ubd
 have ha':=a.hi.bd;have hb':=b.hi.bd
 have hwv:wv a+wv b=(a.hi.val+b.hi.val)*18446744073709551616+(a.lo.val+b.lo.val):=by simp only [wv];omega
 have pa:0<=a.hi.val:=by simp only [wv] at ha;omega
 have pb:0<=b.hi.val:=by simp only [wv] at hb;omega
 have ec:(zaz a.lo b.lo ⟨0,rfl⟩).b.val=(a.lo.val+b.lo.val)/18446744073709551616:=by
  simp only [zaz];rw [wu (by omega) (by omega)];omega
 have hg:G_carry (Rng.w .u64 a.hi.val) (Rng.w .u64 b.hi.val) (zaz a.lo b.lo ⟨0,rfl⟩).b=true:=by simp only [G_carry,ec];simp;omega
 have ea:(Rng.w .u64 a.hi.val).val=a.hi.val:=wu pa (by omega)
 have eb:(Rng.w .u64 b.hi.val).val=b.hi.val:=wu pb (by omega)
 have e2:(zaz (Rng.w .u64 a.hi.val) (Rng.w .u64 b.hi.val) (zaz a.lo b.lo ⟨0,rfl⟩).b).a.val=a.hi.val+b.hi.val+(a.lo.val+b.lo.val)/18446744073709551616:=by
  show (Rng.w .u64 _).val=_
  rw [ea,eb,ec,wu (by omega) (by omega)]
 have hlt:a.hi.val+b.hi.val+(a.lo.val+b.lo.val)/18446744073709551616<=9223372036854775807:=by omega
 have e3:(Rng.w .i64 (zaz (Rng.w .u64 a.hi.val) (Rng.w .u64 b.hi.val) (zaz a.lo b.lo ⟨0,rfl⟩).b).a.val).val=a.hi.val+b.hi.val+(a.lo.val+b.lo.val)/18446744073709551616:=by
  rw [e2,wi (by omega) hlt]
 have e1:(zaz a.lo b.lo ⟨0,rfl⟩).a.val=(a.lo.val+b.lo.val)%18446744073709551616:=by
  simp only [zaz];rw [za9];omega
 simp only [zds,Tr.opt,hg,cond_true,e3]
 have x1:=xor_pos (a:=a.hi.val) (b:=a.hi.val+b.hi.val+(a.lo.val+b.lo.val)/18446744073709551616) ⟨pa,by omega⟩ ⟨by omega,hlt⟩
 have x2:=xor_pos (a:=b.hi.val) (b:=a.hi.val+b.hi.val+(a.lo.val+b.lo.val)/18446744073709551616) ⟨pb,by omega⟩ ⟨by omega,hlt⟩
 have x3:=and_pos x1 x2
 rw [show decide ((Rng.w .i64 (zbf .and .i64 (Rng.w .i64 (zbf .xor .i64 a.hi.val (a.hi.val+b.hi.val+(a.lo.val+b.lo.val)/18446744073709551616))).val (Rng.w .i64 (zbf .xor .i64 b.hi.val (a.hi.val+b.hi.val+(a.lo.val+b.lo.val)/18446744073709551616))).val)).val<0)=false by simpa using x3]
 simp only [cond_false]
 congr 2
 apply mkW_eq
 simp only [wv,e3,e1]
 omega
theorem wsqrt_mk {v:Int} (h:0<=v) (h':v<170141183460469231731687303715884105728):zcB (mkW v)=⟨zA (mkW v),true⟩:=by
 refine wsqrt_eq _ ?_
 simp only [mkW];rw [wi (by omega) (by omega)];omega
theorem root_mk {v:Int} (h:0<=v) (h':v<170141183460469231731687303715884105728):0<=(zA (mkW v)).val/\(zA (mkW v)).val*(zA (mkW v)).val<=v/\v<((zA (mkW v)).val+1)*((zA (mkW v)).val+1):=by
 have:=root_val (mkW v) (by simp only [mkW];rw [wi (by omega) (by omega)];omega)
 rwa [zfW (by omega) h'] at this
def sq3 (x y z:I64):Int:=x.val*x.val+y.val*y.val+z.val*z.val
theorem sum_spec {x y z:I64} (hx:0<=x.val/\x.val<=1152921504606846976) (hy:0<=y.val/\y.val<=1152921504606846976) (hz:0<=z.val/\z.val<=1152921504606846976):
  F_spec_l10Sum x y z=mkW (sq3 x y z)/\0<=sq3 x y z/\sq3 x y z<=3987683987354747618711421180841033728 /\
  (zcJ x y z).opt=some ⟨.w .i64 (zA (mkW (sq3 x y z))).val,bif !(((mkW ((Rng.w .i64 (zA (mkW (sq3 x y z))).val).val*(Rng.w .i64 (zA (mkW (sq3 x y z))).val).val)).hi.val==(mkW (sq3 x y z)).hi.val)&&(((mkW ((Rng.w .i64 (zA (mkW (sq3 x y z))).val).val*(Rng.w .i64 (zA (mkW (sq3 x y z))).val).val)).lo.val==(mkW (sq3 x y z)).lo.val)&&true)) then .w .i64 ((Rng.w .i64 (zA (mkW (sq3 x y z))).val).val+1) else .w .i64 (zA (mkW (sq3 x y z))).val⟩:=by
 have px:=Int.mul_nonneg hx.1 hx.1
 have py:=Int.mul_nonneg hy.1 hy.1
 have pz:=Int.mul_nonneg hz.1 hz.1
 have qx:x.val*x.val<=1152921504606846976*1152921504606846976:=Int.mul_le_mul hx.2 hx.2 hx.1 (by decide)
 have qy:y.val*y.val<=1152921504606846976*1152921504606846976:=Int.mul_le_mul hy.2 hy.2 hy.1 (by decide)
 have qz:z.val*z.val<=1152921504606846976*1152921504606846976:=Int.mul_le_mul hz.2 hz.2 hz.1 (by decide)
 have wx:=zfW (v:=x.val*x.val) (by omega) (by omega)
 have wy:=zfW (v:=y.val*y.val) (by omega) (by omega)
 have wz:=zfW (v:=z.val*z.val) (by omega) (by omega)
 have wxy:=zfW (v:=x.val*x.val+y.val*y.val) (by omega) (by omega)
 have s1:zbE (mkW (x.val*x.val)) (mkW (y.val*y.val))=mkW (x.val*x.val+y.val*y.val):=by rw [plus_spec _ _ (by rw [wx,wy];omega),wx,wy]
 have s2:zbE (mkW (x.val*x.val+y.val*y.val)) (mkW (z.val*z.val))=mkW (sq3 x y z):=by rw [plus_spec _ _ (by rw [wxy,wz];omega),wxy,wz];rfl
 have i1:(zds (mkW (x.val*x.val)) (mkW (y.val*y.val))).opt=some ⟨mkW (x.val*x.val+y.val*y.val),true⟩:=by rw [add_impl _ _ (by omega) (by omega) (by rw [wx,wy];omega),wx,wy]
 have i2:(zds (mkW (x.val*x.val+y.val*y.val)) (mkW (z.val*z.val))).opt=some ⟨mkW (sq3 x y z),true⟩:=by rw [add_impl _ _ (by omega) (by omega) (by rw [wxy,wz];omega),wxy,wz];rfl
 have g1:zdt (mkW (x.val*x.val)) (mkW (y.val*y.val))=true:=by unfold zdt;rw [i1];rfl
 have g2:zdt (mkW (x.val*x.val+y.val*y.val)) (mkW (z.val*z.val))=true:=by unfold zdt;rw [i2];rfl
 have f1:zfD (mkW (x.val*x.val)) (mkW (y.val*y.val))=_:=Tr.zaO i1
 have f2:zfD (mkW (x.val*x.val+y.val*y.val)) (mkW (z.val*z.val))=_:=Tr.zaO i2
 have hs:sq3 x y z=x.val*x.val+y.val*y.val+z.val*z.val:=rfl
 have h0:0<=sq3 x y z:=by omega
 have h1:sq3 x y z<=3987683987354747618711421180841033728:=by omega
 refine ⟨?_,h0,h1,?_⟩
 ·simp only [F_spec_l10Sum,t_spec_l10Sum,Tr.get,mul_spec,s1,s2]
 ·simp only [zcJ,Tr.opt,mul_impl,g1,f1,g2,f2,cond_true,wsqrt_mk h0 (by omega)]
  cases (!(((mkW ((Rng.w .i64 (zA (mkW (sq3 x y z))).val).val*(Rng.w .i64 (zA (mkW (sq3 x y z))).val).val)).hi.val==(mkW (sq3 x y z)).hi.val)&&(((mkW ((Rng.w .i64 (zA (mkW (sq3 x y z))).val).val*(Rng.w .i64 (zA (mkW (sq3 x y z))).val).val)).lo.val==(mkW (sq3 x y z)).lo.val)&&true)))<;>rfl
theorem sq_mono {a b:Int} (h:0<=a) (h':a<=b):a*a<=b*b:=Int.mul_le_mul h' h' h (by omega)
theorem norm_ok (v:Vec):(t_impl_NormV v).opt=some (F_spec_NormV v):=by
 simp only [t_impl_NormV,Tr.opt,F_spec_NormV,t_spec_NormV,Tr.get,areb_eq,isw_eq,siw_eq,zck,zcu,ends_eq]
 cases hx:zh v.x
 ·rfl
 cases hy:zh v.y
 ·rfl
 cases hz:zh v.z
 ·rfl
 simp only [Bool.and_self,Bool.not_true,cond_false,abs_ends hx,abs_ends hy,abs_ends hz,abs_make hx,abs_make hy,abs_make hz]
 have bx:=(zca v.x).1 hx
 have by':=(zca v.y).1 hy
 have bz:=(zca v.z).1 hz
 obtain ⟨x1,x2,ex,x3,x4,x5⟩:=ends_val hx
 obtain ⟨y1,y2,ey,y3,y4,y5⟩:=ends_val hy
 obtain ⟨z1,z2,ez,z3,z4,z5⟩:=ends_val hz
 simp only [ex,ey,ez]
 obtain ⟨a1,a2,a3,a4⟩:=sum_spec (x:=x1) (y:=y1) (z:=z1) (by omega) (by omega) (by omega)
 obtain ⟨b1,b2,b3,b4⟩:=sum_spec (x:=x2) (y:=y2) (z:=z2) (by omega) (by omega) (by omega)
 have ga:zbG x1 y1 z1=true:=by unfold zbG;rw [a4];rfl
 have gb:zbG x2 y2 z2=true:=by unfold zbG;rw [b4];rfl
 have fa:zcL x1 y1 z1=_:=Tr.zaO a4
 have fb:zcL x2 y2 z2=_:=Tr.zaO b4
 obtain ⟨r0,r1,r2⟩:=root_mk a2 (by omega)
 obtain ⟨q0,q1,q2⟩:=root_mk b2 (by omega)
 have hle:sq3 x1 y1 z1<=sq3 x2 y2 z2:=by
  have k1:=sq_mono x3 x4
  have k2:=sq_mono y3 y4
  have k3:=sq_mono z3 z4
  unfold sq3;omega
 have hR:(zA (mkW (sq3 x1 y1 z1))).val<=(zA (mkW (sq3 x2 y2 z2))).val:=by
  by_cases hh:(zA (mkW (sq3 x1 y1 z1))).val<=(zA (mkW (sq3 x2 y2 z2))).val
  ·exact hh
  ·have:=sq_mono (a:=(zA (mkW (sq3 x2 y2 z2))).val+1) (b:=(zA (mkW (sq3 x1 y1 z1))).val) (by omega) (by omega)
   omega
 have hQ:(zA (mkW (sq3 x2 y2 z2))).val<=2305843009213693952:=sq_lt q0 (by decide) (by omega)
 have w1:(Rng.w .i64 (zA (mkW (sq3 x1 y1 z1))).val).val=(zA (mkW (sq3 x1 y1 z1))).val:=wi (by omega) (by omega)
 have w2:(Rng.w .i64 (zA (mkW (sq3 x2 y2 z2))).val).val=(zA (mkW (sq3 x2 y2 z2))).val:=wi (by omega) (by omega)
 have w3:(Rng.w .i64 ((zA (mkW (sq3 x2 y2 z2))).val+1)).val=(zA (mkW (sq3 x2 y2 z2))).val+1:=wi (by omega) (by omega)
 simp only [ga,gb,fa,fb,cond_true,a1,b1,mul_spec,bounded_eq]
 generalize hc:((mkW ((Rng.w .i64 (zA (mkW (sq3 x2 y2 z2))).val).val*(Rng.w .i64 (zA (mkW (sq3 x2 y2 z2))).val).val)).hi.val==(mkW (sq3 x2 y2 z2)).hi.val&&((mkW ((Rng.w .i64 (zA (mkW (sq3 x2 y2 z2))).val).val*(Rng.w .i64 (zA (mkW (sq3 x2 y2 z2))).val).val)).lo.val==(mkW (sq3 x2 y2 z2)).lo.val&&true))=c
 cases c
 ·simp only [Bool.not_false,cond_true,w2,w3]
  by_cases hm:(zA (mkW (sq3 x2 y2 z2))).val+1>=1152921504606846976
  ·simp only [hm,decide_true,cond_true]
   rw [make_no (by rw [w3];omega)]
  ·simp only [hm,decide_false,cond_false]
   rw [zc7 (by rw [w1,w3];omega)]
 ·simp only [Bool.not_true,cond_false,w2]
  by_cases hm:(zA (mkW (sq3 x2 y2 z2))).val>=1152921504606846976
  ·simp only [hm,decide_true,cond_true]
   rw [make_no (by rw [w2];omega)]
  ·simp only [hm,decide_false,cond_false]
   rw [zc7 (by rw [w1,w2];omega)]
theorem norm_eq (v:Vec):F_impl_NormV v=F_spec_NormV v:=Tr.zaO (norm_ok v)
theorem tt_norm_impl (v:Vec):(t_impl_NormV v).opt=some (F_impl_NormV v):=ze3 (norm_ok v)
end Go.Proofs.YtfcjhkkpbnobhaaGreat.Ev
namespace Go.Proofs.YtfcjhkkpbnobhaaGreat.Ev
open Go
def shr (n e:I64):I64:= .w .i64 (n.val.fdiv (2^min e.val.toNat 64))
def shl (n e:I64):I64:= .w .i64 (n.val*(2^min e.val.toNat 64))
def sl (n e:I64):I64:=shl n (.w .i64 (0-e.val))
end Go.Proofs.YtfcjhkkpbnobhaaGreat.Ev
namespace Go.Proofs.YtfcjhkkpbnobhaaGreat.Ev
open Go Go.RowKit
set_option maxRecDepth 100000
section
variable [Amb]
def ET_impl_NormV:Ent Tryz.prog:= .of1 Tb85 B85 (fun _=>true) F_impl_NormV fun a0 _=>(r_impl_NormV a0).trans (tt_norm_impl a0)
def t_spec_l19Known (a0:Iv):Tr (T2 Iv I64):=
 .br (!(zh a0)) (.leaf ⟨⟨⟨0,rfl⟩,⟨0,rfl⟩⟩,⟨9,rfl⟩⟩) (.leaf ⟨a0,⟨0,rfl⟩⟩)
def B83:Bod Tryz.prog:=⟨83,Tryz.f83,Tryz.f83.body.getD .skip,Tryz.func83,by kernel_rfl,by kernel_rfl,zae.no _ _⟩
def Tb83:Tb Tryz.prog:= {T:= [Y2,Y30],mix:=mix,Es:= [zbY],Bs:= [],d:=1}
def t_impl_knownI (a0:Iv):Tr (T2 Iv I64):=
 .br (zal a0) (.leaf ⟨⟨⟨0,rfl⟩,⟨0,rfl⟩⟩,⟨9,rfl⟩⟩) (.leaf ⟨a0,⟨0,rfl⟩⟩)
theorem r_impl_knownI (a0:Iv):Tb83.run B83 [enc a0] (T2 Iv I64)=(t_impl_knownI a0).opt:=by kernel_rfl
def zd0:Iv->T2 Iv I64:=fun a0=>(t_impl_knownI a0).get
theorem u_impl_knownI (a0:Iv):(t_impl_knownI a0).opt=some (zd0 a0):=Tr.zQ (by kernel_rfl)
def E_impl_knownI:Ent Tryz.prog:= .of1 Tb83 B83 (fun _=>true) zd0 fun a0 _=>(r_impl_knownI a0).trans (u_impl_knownI a0)
def t_impl_quarter:Tr (I64):=
 .leaf (za3 ⟨1,rfl⟩).hi
def t_spec_l15Flat (a0:Vec):Tr (Iv):=
 .leaf (F_spec_NormV ⟨a0.x,a0.y,⟨⟨0,rfl⟩,⟨0,rfl⟩⟩⟩)
def zdu:Vec->Iv:=fun a0=>(t_spec_l15Flat a0).get
def B117:Bod Tryz.prog:=⟨117,Tryz.f117,Tryz.f117.body.getD .skip,Tryz.func117,by kernel_rfl,by kernel_rfl,zae.no _ _⟩
def Tb117:Tb Tryz.prog:= {T:= [Y2,Y30,Y40],mix:=mix,Es:= [ET_impl_NormV],Bs:= [],d:=1}
def t_impl_fromAxis (a0:Vec):Tr (Iv):=
 .leaf (F_impl_NormV ⟨a0.x,a0.y,⟨⟨0,rfl⟩,⟨0,rfl⟩⟩⟩)
theorem r_impl_fromAxis (a0:Vec):Tb117.run B117 [enc a0] (Iv)=(t_impl_fromAxis a0).opt:=by kernel_rfl
def zeO:Vec->Iv:=fun a0=>(t_impl_fromAxis a0).get
theorem u_impl_fromAxis (a0:Vec):(t_impl_fromAxis a0).opt=some (zeO a0):=Tr.zQ (by kernel_rfl)
def E_impl_fromAxis:Ent Tryz.prog:= .of1 Tb117 B117 (fun _=>true) zeO fun a0 _=>(r_impl_fromAxis a0).trans (u_impl_fromAxis a0)
def B135:Bod Tryz.prog:=⟨135,Tryz.f135,Tryz.f135.body.getD .skip,Tryz.func135,by kernel_rfl,by kernel_rfl,zae.no _ _⟩
def Tb135:Tb Tryz.prog:= {T:= [Y2,Y24,Y30],mix:=mix,Es:= [zdP,zaG,ET_impl_RadiansOf],Bs:= [],d:=1}
def t_impl_LatOf (a0:za1):Tr (Iv):=
 .br (!(za4 a0)) (.leaf zK) (.leaf (zee a0.lat))
theorem r_impl_LatOf (a0:za1):Tb135.run B135 [enc a0] (Iv)=(t_impl_LatOf a0).opt:=by kernel_rfl
def F_impl_LatOf:za1->Iv:=fun a0=>(t_impl_LatOf a0).get
theorem u_impl_LatOf (a0:za1):(t_impl_LatOf a0).opt=some (F_impl_LatOf a0):=Tr.zQ (by kernel_rfl)
def E_impl_LatOf:Ent Tryz.prog:= .of1 Tb135 B135 (fun _=>true) F_impl_LatOf fun a0 _=>(r_impl_LatOf a0).trans (u_impl_LatOf a0)
def B173:Bod Tryz.prog:=⟨173,Tryz.f173,Tryz.f173.body.getD .skip,Tryz.func173,by kernel_rfl,by kernel_rfl,zae.no _ _⟩
def Tb173:Tb Tryz.prog:= {T:= [Y2,Y24,Y30],mix:=mix,Es:= [zdP,zaG,ET_impl_RadiansOf],Bs:= [],d:=1}
def t_impl_LonOf (a0:za1):Tr (Iv):=
 .br (!(za4 a0)) (.leaf zK) (.leaf (zee a0.lon))
theorem r_impl_LonOf (a0:za1):Tb173.run B173 [enc a0] (Iv)=(t_impl_LonOf a0).opt:=by kernel_rfl
def F_impl_LonOf:za1->Iv:=fun a0=>(t_impl_LonOf a0).get
theorem u_impl_LonOf (a0:za1):(t_impl_LonOf a0).opt=some (F_impl_LonOf a0):=Tr.zQ (by kernel_rfl)
def E_impl_LonOf:Ent Tryz.prog:= .of1 Tb173 B173 (fun _=>true) F_impl_LonOf fun a0 _=>(r_impl_LonOf a0).trans (u_impl_LonOf a0)
def B82:Bod Tryz.prog:=⟨82,Tryz.f82,Tryz.f82.body.getD .skip,Tryz.func82,by kernel_rfl,by kernel_rfl,zae.no _ _⟩
def Tb82:Tb Tryz.prog:= {T:= [Y2,Y24,Y30,Y40],mix:=mix,Es:= [E_impl_SinI,ET_impl_MulI,E_impl_CosI,E_impl_LatOf,E_impl_LonOf],Bs:= [],d:=1}
def t_impl_vectorOf (a0:za1):Tr (Vec):=
 let c1:=F_impl_LatOf a0;let c2:=F_impl_LonOf a0;.leaf ⟨(zax (zfU c1) (zfU c2)),(zax (zfU c1) (F_impl_SinI c2)),(F_impl_SinI c1)⟩
theorem r_impl_vectorOf (a0:za1):Tb82.run B82 [enc a0] (Vec)=(t_impl_vectorOf a0).opt:=by kernel_rfl
def zaA:za1->Vec:=fun a0=>(t_impl_vectorOf a0).get
theorem u_impl_vectorOf (a0:za1):(t_impl_vectorOf a0).opt=some (zaA a0):=Tr.zQ (by kernel_rfl)
def E_impl_vectorOf:Ent Tryz.prog:= .of1 Tb82 B82 (fun _=>true) zaA fun a0 _=>(r_impl_vectorOf a0).trans (u_impl_vectorOf a0)
def B21:Bod Tryz.prog:=⟨21,Tryz.f21,Tryz.f21.body.getD .skip,Tryz.func21,by kernel_rfl,by kernel_rfl,zae.no _ _⟩
def Tb21:Tb Tryz.prog:= {T:= [Y2,Y24,Y30,Y40],mix:=mix,Es:= [E_impl_vectorOf,zdP],Bs:= [],d:=1}
def t_impl_VectorOf (a0:za1):Tr (T2 Vec I64):=
 .br (!(za4 a0)) (.leaf ⟨⟨⟨⟨0,rfl⟩,⟨0,rfl⟩⟩,⟨⟨0,rfl⟩,⟨0,rfl⟩⟩,⟨⟨0,rfl⟩,⟨0,rfl⟩⟩⟩,⟨1,rfl⟩⟩) (.leaf ⟨(zaA a0),⟨0,rfl⟩⟩)
theorem r_impl_VectorOf (a0:za1):Tb21.run B21 [enc a0] (T2 Vec I64)=(t_impl_VectorOf a0).opt:=by kernel_rfl
def zam:za1->T2 Vec I64:=fun a0=>(t_impl_VectorOf a0).get
theorem u_impl_VectorOf (a0:za1):(t_impl_VectorOf a0).opt=some (zam a0):=Tr.zQ (by kernel_rfl)
def E_impl_VectorOf:Ent Tryz.prog:= .of1 Tb21 B21 (fun _=>true) zam fun a0 _=>(r_impl_VectorOf a0).trans (u_impl_VectorOf a0)
def B81:Bod Tryz.prog:=⟨81,Tryz.f81,Tryz.f81.body.getD .skip,Tryz.func81,by kernel_rfl,by kernel_rfl,zae.no _ _⟩
def Tb81:Tb Tryz.prog:= {T:= [Y2,Y30,Y40],mix:=mix,Es:= [ET_impl_MulI,zfV],Bs:= [],d:=1}
def t_impl_CrossV (a0:Vec) (a1:Vec):Tr (Vec):=
 .leaf ⟨(zaw (zax a0.y a1.z) (zax a0.z a1.y)),(zaw (zax a0.z a1.x) (zax a0.x a1.z)),(zaw (zax a0.x a1.y) (zax a0.y a1.x))⟩
theorem r_impl_CrossV (a0:Vec) (a1:Vec):Tb81.run B81 [enc a0,enc a1] (Vec)=(t_impl_CrossV a0 a1).opt:=by kernel_rfl
def zd2:Vec->Vec->Vec:=fun a0 a1=>(t_impl_CrossV a0 a1).get
theorem u_impl_CrossV (a0:Vec) (a1:Vec):(t_impl_CrossV a0 a1).opt=some (zd2 a0 a1):=Tr.zQ (by kernel_rfl)
def E_impl_CrossV:Ent Tryz.prog:= .of2 Tb81 B81 (fun _ _=>true) zd2 fun a0 a1 _=>(r_impl_CrossV a0 a1).trans (u_impl_CrossV a0 a1)
def Y74:TyE Tryz.prog:=⟨74,1,(.slice 24 2),[.nils],false,by kernel_rfl,by kernel_rfl,by kernel_rfl,by kernel_rfl,by kernel_rfl,by kernel_rfl⟩
def B77:Bod Tryz.prog:=⟨77,Tryz.f77,Tryz.f77.body.getD .skip,Tryz.func77,by kernel_rfl,by kernel_rfl,zae.no _ _⟩
def B94:Bod Tryz.prog:=⟨94,Tryz.f94,Tryz.f94.body.getD .skip,Tryz.func94,by kernel_rfl,by kernel_rfl,zae.no _ _⟩
def Tb94:Tb Tryz.prog:= {T:= [Y24],mix:=mix,Es:= [zdP],Bs:= [],d:=1}
def t_impl_areValid (a0:za1) (a1:za1):Tr (Bool):=
 .br (za4 a0) (.leaf (za4 a1)) (.leaf false)
theorem r_impl_areValid (a0:za1) (a1:za1):Tb94.run B94 [enc a0,enc a1] (Bool)=(t_impl_areValid a0 a1).opt:=by kernel_rfl
def zeP:za1->za1->Bool:=fun a0 a1=>(t_impl_areValid a0 a1).get
theorem u_impl_areValid (a0:za1) (a1:za1):(t_impl_areValid a0 a1).opt=some (zeP a0 a1):=Tr.zQ (by kernel_rfl)
def E_impl_areValid:Ent Tryz.prog:= .of2 Tb94 B94 (fun _ _=>true) zeP fun a0 a1 _=>(r_impl_areValid a0 a1).trans (u_impl_areValid a0 a1)
def B95:Bod Tryz.prog:=⟨95,Tryz.f95,Tryz.f95.body.getD .skip,Tryz.func95,by kernel_rfl,by kernel_rfl,zae.no _ _⟩
def Tb95:Tb Tryz.prog:= {T:= [Y2,Y30,Y40],mix:=mix,Es:= [E_impl_knownI,E_impl_DirectionI,E_impl_fromAxis],Bs:= [],d:=1}
def ze0 (a0:Vec):Tr (T3 Iv Iv I64):=
 let c3:=zd0 (zc0 a0.z (zeO a0));.br (c3.b.val != 0) (.leaf ⟨⟨⟨0,rfl⟩,⟨0,rfl⟩⟩,⟨⟨0,rfl⟩,⟨0,rfl⟩⟩,c3.b⟩) (.leaf ⟨c3.a,(zc0 a0.y a0.x),⟨0,rfl⟩⟩)
theorem r_impl_PositionOf (a0:Vec):Tb95.run B95 [enc a0] (T3 Iv Iv I64)=(ze0 a0).opt:=by kernel_rfl
def za5:Vec->T3 Iv Iv I64:=fun a0=>(ze0 a0).get
theorem u_impl_PositionOf (a0:Vec):(ze0 a0).opt=some (za5 a0):=Tr.zQ (by kernel_rfl)
def E_impl_PositionOf:Ent Tryz.prog:= .of1 Tb95 B95 (fun _=>true) za5 fun a0 _=>(r_impl_PositionOf a0).trans (u_impl_PositionOf a0)
def B23:Bod Tryz.prog:=⟨23,Tryz.f23,Tryz.f23.body.getD .skip,Tryz.func23,by kernel_rfl,by kernel_rfl,zae.no _ _⟩
def Tb23:Tb Tryz.prog:= {T:= [Y2,Y24,Y30],mix:=mix,Es:= [E_impl_vectorOf,E_impl_areValid,E_impl_PositionOf,E_impl_AddV],Bs:= [],d:=1}
def t_impl_MidwayOf (a0:za1) (a1:za1):Tr (T3 Iv Iv I64):=
 .br (!(zeP a0 a1)) (.leaf ⟨⟨⟨0,rfl⟩,⟨0,rfl⟩⟩,⟨⟨0,rfl⟩,⟨0,rfl⟩⟩,⟨1,rfl⟩⟩) (let c5:=za5 (F_impl_AddV (zaA a0) (zaA a1));.leaf ⟨c5.a,c5.b,c5.c⟩)
theorem r_impl_MidwayOf (a0:za1) (a1:za1):Tb23.run B23 [enc a0,enc a1] (T3 Iv Iv I64)=(t_impl_MidwayOf a0 a1).opt:=by kernel_rfl
def zaX:za1->za1->T3 Iv Iv I64:=fun a0 a1=>(t_impl_MidwayOf a0 a1).get
theorem u_impl_MidwayOf (a0:za1) (a1:za1):(t_impl_MidwayOf a0 a1).opt=some (zaX a0 a1):=Tr.zQ (by kernel_rfl)
def E_impl_MidwayOf:Ent Tryz.prog:= .of2 Tb23 B23 (fun _ _=>true) zaX fun a0 a1 _=>(r_impl_MidwayOf a0 a1).trans (u_impl_MidwayOf a0 a1)
def B30:Bod Tryz.prog:=⟨30,Tryz.f30,Tryz.f30.body.getD .skip,Tryz.func30,by kernel_rfl,by kernel_rfl,zae.no _ _⟩
def Tb30:Tb Tryz.prog:= {T:= [Y2,Y24,Y30,Y74],mix:=mix,Es:= [E_impl_CrossV,E_impl_vectorOf,zdP,E_impl_PositionOf],Bs:= [B77],d:=8}
def ze2 (a0:za1) (a1:za1) (a2:za1) (a3:za1):Tr (T3 Iv Iv I64):=
 .br (!(za4 a0)) (.leaf ⟨⟨⟨0,rfl⟩,⟨0,rfl⟩⟩,⟨⟨0,rfl⟩,⟨0,rfl⟩⟩,⟨1,rfl⟩⟩) (.br (!(za4 a1)) (.leaf ⟨⟨⟨0,rfl⟩,⟨0,rfl⟩⟩,⟨⟨0,rfl⟩,⟨0,rfl⟩⟩,⟨1,rfl⟩⟩) (.br (!(za4 a2)) (.leaf ⟨⟨⟨0,rfl⟩,⟨0,rfl⟩⟩,⟨⟨0,rfl⟩,⟨0,rfl⟩⟩,⟨1,rfl⟩⟩) (.br (!(za4 a3)) (.leaf ⟨⟨⟨0,rfl⟩,⟨0,rfl⟩⟩,⟨⟨0,rfl⟩,⟨0,rfl⟩⟩,⟨1,rfl⟩⟩) (let c12:=za5 (zd2 (zd2 (zaA a0) (zaA a1)) (zd2 (zaA a2) (zaA a3)));.leaf ⟨c12.a,c12.b,c12.c⟩))))
theorem r_impl_CrossingOf (a0:za1) (a1:za1) (a2:za1) (a3:za1):Tb30.run B30 [enc a0,enc a1,enc a2,enc a3] (T3 Iv Iv I64)=(ze2 a0 a1 a2 a3).opt:=by kernel_rfl
def zaf:za1->za1->za1->za1->T3 Iv Iv I64:=fun a0 a1 a2 a3=>(ze2 a0 a1 a2 a3).get
theorem u_impl_CrossingOf (a0:za1) (a1:za1) (a2:za1) (a3:za1):(ze2 a0 a1 a2 a3).opt=some (zaf a0 a1 a2 a3):=Tr.zQ (by kernel_rfl)
def E_impl_CrossingOf:Ent Tryz.prog:= .of4 Tb30 B30 (fun _ _ _ _=>true) zaf fun a0 a1 a2 a3 _=>(r_impl_CrossingOf a0 a1 a2 a3).trans (u_impl_CrossingOf a0 a1 a2 a3)
def B22:Bod Tryz.prog:=⟨22,Tryz.f22,Tryz.f22.body.getD .skip,Tryz.func22,by kernel_rfl,by kernel_rfl,zae.no _ _⟩
def Tb22:Tb Tryz.prog:= {T:= [Y2,Y30,Y40],mix:=mix,Es:= [E_spec_MulI,E_spec_SubI],Bs:= [],d:=1}
def t_spec_CrossV (a0:Vec) (a1:Vec):Tr (Vec):=
 .leaf ⟨(zZ (zN a0.y a1.z) (zN a0.z a1.y)),(zZ (zN a0.z a1.x) (zN a0.x a1.z)),(zZ (zN a0.x a1.y) (zN a0.y a1.x))⟩
theorem r_spec_CrossV (a0:Vec) (a1:Vec):Tb22.run B22 [enc a0,enc a1] (Vec)=(t_spec_CrossV a0 a1).opt:=by kernel_rfl
def zbd:Vec->Vec->Vec:=fun a0 a1=>(t_spec_CrossV a0 a1).get
theorem u_spec_CrossV (a0:Vec) (a1:Vec):(t_spec_CrossV a0 a1).opt=some (zbd a0 a1):=Tr.zQ (by kernel_rfl)
def E_spec_CrossV:Ent Tryz.prog:= .of2 Tb22 B22 (fun _ _=>true) zbd fun a0 a1 _=>(r_spec_CrossV a0 a1).trans (u_spec_CrossV a0 a1)
def B28:Bod Tryz.prog:=⟨28,Tryz.f28,Tryz.f28.body.getD .skip,Tryz.func28,by kernel_rfl,by kernel_rfl,zae.no _ _⟩
def Tb28:Tb Tryz.prog:= {T:= [Y2,Y30,Y40],mix:=mix,Es:= [E_spec_MulI,E_spec_AddI],Bs:= [],d:=1}
def t_spec_DotV (a0:Vec) (a1:Vec):Tr (Iv):=
 .leaf (zaj (zaj (zN a0.x a1.x) (zN a0.y a1.y)) (zN a0.z a1.z))
theorem r_spec_DotV (a0:Vec) (a1:Vec):Tb28.run B28 [enc a0,enc a1] (Iv)=(t_spec_DotV a0 a1).opt:=by kernel_rfl
def zbk:Vec->Vec->Iv:=fun a0 a1=>(t_spec_DotV a0 a1).get
theorem u_spec_DotV (a0:Vec) (a1:Vec):(t_spec_DotV a0 a1).opt=some (zbk a0 a1):=Tr.zQ (by kernel_rfl)
def E_spec_DotV:Ent Tryz.prog:= .of2 Tb28 B28 (fun _ _=>true) zbk fun a0 a1 _=>(r_spec_DotV a0 a1).trans (u_spec_DotV a0 a1)
end
end Go.Proofs.YtfcjhkkpbnobhaaGreat.Ev
namespace Go.Proofs.YtfcjhkkpbnobhaaGreat.Ev
open Go
theorem cross_eq (a b:Vec):zd2 a b=zbd a b:=by
 simp only [zd2,t_impl_CrossV,zbd,t_spec_CrossV,Tr.get,sub_eq,mulI_F]
theorem lat_eq {p:za1} (h:zai p=true):F_impl_LatOf p=zaN p.lat:=by
 simp only [F_impl_LatOf,t_impl_LatOf,Tr.get,point_eq,h,Bool.not_true,cfl,radians_eq]
theorem lon_eq {p:za1} (h:zai p=true):F_impl_LonOf p=zaN p.lon:=by
 simp only [F_impl_LonOf,t_impl_LonOf,Tr.get,point_eq,h,Bool.not_true,cfl,radians_eq]
theorem flat_eq (v:Vec):zeO v=zdu v:=by
 simp only [zeO,t_impl_fromAxis,zdu,t_spec_l15Flat,Tr.get,norm_eq]
theorem areValid_eq (a b:za1):zeP a b=(zai a&&zai b):=by
 simp only [zeP,t_impl_areValid,Tr.get,point_eq]
 cases zai a<;>simp only [ctr,cfl,Bool.true_and,Bool.false_and]
end Go.Proofs.YtfcjhkkpbnobhaaGreat.Ev
namespace Go.Proofs.YtfcjhkkpbnobhaaGreat.Ev
open Go
end Go.Proofs.YtfcjhkkpbnobhaaGreat.Ev
namespace Go.Proofs.YtfcjhkkpbnobhaaGreat.Ev
open Go
def Sub (a b:Iv):Prop:=zh b=true->zh a=true/\b.lo.val<=a.lo.val/\a.hi.val<=b.hi.val
theorem muldown_true {x y:I64} (h:(zJ x y).b=true):(zJ x y).a.val=x.val*y.val/4294967296:=by
 simp only [zJ,zbS,Tr.get,mf32] at h ⊢
 cases h1:zD x
 ·rw [h1] at h;simp [ctr] at h
 cases h2:zD y
 ·rw [h1,h2] at h;simp [ctr,cfl] at h
 rw [h1,h2] at h
 simp only [Bool.not_true,cfl] at h ⊢
 unfold narrow at h ⊢
 split at h
 ·rename_i hr
  rw [if_pos hr]
  rcases end_cases (.w .i64 (x.val*y.val/4294967296)) true with e|⟨e,_⟩
  ·rw [e] at h;cases h
  ·rw [e];exact wi hr.1 hr.2
 ·rename_i hr
  rcases end_cases (.w .i64 0) false with e|⟨e,_⟩
  ·rw [e] at h;cases h
  ·have:(zak (.w .i64 0) false).b=false:=by simp only [zak,zb0,Tr.get,Bool.not_false,ctr]
   rw [this] at h;cases h
theorem mulup_true {x y:I64} (h:(zaa x y).b=true):(zaa x y).a.val= -(-(x.val*y.val)/4294967296):=by
 simp only [zaa,zc3,Tr.get] at h ⊢
 cases h1:zD x
 ·rw [h1] at h;simp [ctr] at h
 rw [h1] at h
 simp only [Bool.not_true,cfl] at h ⊢
 have hb:=ok_bd h1
 cases hd:(zJ (.w .i64 (0-x.val)) y).b
 ·rw [hd] at h;simp [ctr] at h
 simp only [hd,Bool.not_true,cfl]
 have e:=muldown_true hd
 have en:(Rng.w .i64 (0-x.val)).val= -x.val:=by rw [wi (by omega) (by omega)];omega
 rw [en,Int.neg_mul] at e
 rcases zdX (.w .i64 (0-x.val)) y with k|⟨c,k,kc⟩
 ·rw [k] at hd;cases hd
 ·have kb:=ok_bd kc
  rw [k] at e ⊢
  simp only at e ⊢
  rw [wi (by omega) (by omega)]
  omega
theorem mulI_corner {a b:Iv} (h:zh (zN a b)=true):zh a=true/\zh b=true /\
  ∀x y:I64,(x=a.lo\/x=a.hi)->(y=b.lo\/y=b.hi)->(zN a b).lo.val<=x.val*y.val/4294967296 /\ -(-(x.val*y.val)/4294967296)<=(zN a b).hi.val:=by
 have nw:∀ {P:Prop},zh zu=true->P:=fun h=>by rw [zbX] at h;cases h
 simp only [zN,t_spec_MulI,Tr.get] at h ⊢
 cases ha:zh a
 ·rw [ha] at h;exact nw h
 cases hb:zh b
 ·rw [ha,hb] at h;exact nw h
 simp only [ha,hb,Bool.not_true,cfl] at h ⊢
 cases h1:(zJ a.lo b.lo).b
 ·rw [h1] at h;exact nw h
 cases h2:(zaa a.lo b.lo).b
 ·rw [h1,h2] at h;exact nw h
 cases h3:(zJ a.lo b.hi).b
 ·rw [h1,h2,h3] at h;exact nw h
 cases h4:(zaa a.lo b.hi).b
 ·rw [h1,h2,h3,h4] at h;exact nw h
 cases h5:(zJ a.hi b.lo).b
 ·rw [h1,h2,h3,h4,h5] at h;exact nw h
 cases h6:(zaa a.hi b.lo).b
 ·rw [h1,h2,h3,h4,h5,h6] at h;exact nw h
 cases h7:(zJ a.hi b.hi).b
 ·rw [h1,h2,h3,h4,h5,h6,h7] at h;exact nw h
 cases h8:(zaa a.hi b.hi).b
 ·rw [h1,h2,h3,h4,h5,h6,h7,h8] at h;exact nw h
 simp only [h1,h2,h3,h4,h5,h6,h7,h8,Bool.not_true,cfl] at h ⊢
 refine ⟨trivial,trivial,?_⟩
 have v1:=muldown_true h1
 have v2:=mulup_true h2
 have v3:=muldown_true h3
 have v4:=mulup_true h4
 have v5:=muldown_true h5
 have v6:=mulup_true h6
 have v7:=muldown_true h7
 have v8:=mulup_true h8
 generalize (zJ a.lo b.lo).a=d1 at *
 generalize (zJ a.lo b.hi).a=d2 at *
 generalize (zJ a.hi b.lo).a=d3 at *
 generalize (zJ a.hi b.hi).a=d4 at *
 generalize (zaa a.lo b.lo).a=u1 at *
 generalize (zaa a.lo b.hi).a=u2 at *
 generalize (zaa a.hi b.lo).a=u3 at *
 generalize (zaa a.hi b.hi).a=u4 at *
 have m1:=min_l ⟨1152921504606846976,rfl⟩ d1
 have m2:=min_l (zz ⟨1152921504606846976,rfl⟩ d1) d2
 have m3:=min_l (zz (zz ⟨1152921504606846976,rfl⟩ d1) d2) d3
 have m4:=min_l (zz (zz (zz ⟨1152921504606846976,rfl⟩ d1) d2) d3) d4
 have n1:=zfR ⟨-1152921504606846976,rfl⟩ u1
 have n2:=zfR (zt ⟨-1152921504606846976,rfl⟩ u1) u2
 have n3:=zfR (zt (zt ⟨-1152921504606846976,rfl⟩ u1) u2) u3
 have n4:=zfR (zt (zt (zt ⟨-1152921504606846976,rfl⟩ u1) u2) u3) u4
 generalize zz (zz (zz (zz ⟨1152921504606846976,rfl⟩ d1) d2) d3) d4=lo at *
 generalize zt (zt (zt (zt ⟨-1152921504606846976,rfl⟩ u1) u2) u3) u4=hi at *
 by_cases hm: -1152921504606846976<lo.val/\lo.val<=hi.val/\hi.val<1152921504606846976
 ·rw [zc7 hm]
  simp only
  rintro x y (rfl|rfl) (rfl|rfl)
  ·omega
  ·omega
  ·omega
  ·omega
 ·rw [make_no hm] at h;exact nw h
theorem addI_val {a b:Iv} (h:zh (zaj a b)=true):zh a=true/\zh b=true/\(zaj a b).lo.val=a.lo.val+b.lo.val/\(zaj a b).hi.val=a.hi.val+b.hi.val:=by
 simp only [zaj,zeD,Tr.get] at h ⊢
 cases ha:zh a
 ·rw [ha] at h;simp only [Bool.not_false,ctr,zbX] at h;cases h
 cases hb:zh b
 ·rw [ha,hb] at h;simp only [Bool.not_false,Bool.not_true,ctr,cfl,zbX] at h;cases h
 simp only [ha,hb,Bool.not_true,cfl] at h ⊢
 have ba:=(zca _).1 ha
 have bb:=(zca _).1 hb
 have k1:(Rng.w .i64 (a.lo.val+b.lo.val)).val=a.lo.val+b.lo.val:=wi (by omega) (by omega)
 have k2:(Rng.w .i64 (a.hi.val+b.hi.val)).val=a.hi.val+b.hi.val:=wi (by omega) (by omega)
 by_cases hm: -1152921504606846976<(Rng.w .i64 (a.lo.val+b.lo.val)).val/\(Rng.w .i64 (a.lo.val+b.lo.val)).val<=(Rng.w .i64 (a.hi.val+b.hi.val)).val/\(Rng.w .i64 (a.hi.val+b.hi.val)).val<1152921504606846976
 ·rw [zc7 hm];exact ⟨trivial,trivial,k1,k2⟩
 ·rw [make_no hm,zbX] at h;cases h
theorem subI_val {a b:Iv} (h:zh (zZ a b)=true):zh a=true/\zh b=true/\(zZ a b).lo.val=a.lo.val-b.hi.val/\(zZ a b).hi.val=a.hi.val-b.lo.val:=by
 simp only [zZ,t_spec_SubI,Tr.get] at h ⊢
 cases ha:zh a
 ·rw [ha] at h;simp only [Bool.not_false,ctr,zbX] at h;cases h
 cases hb:zh b
 ·rw [ha,hb] at h;simp only [Bool.not_false,Bool.not_true,ctr,cfl,zbX] at h;cases h
 simp only [ha,hb,Bool.not_true,cfl] at h ⊢
 have ba:=(zca _).1 ha
 have bb:=(zca _).1 hb
 have k1:(Rng.w .i64 (a.lo.val-b.hi.val)).val=a.lo.val-b.hi.val:=wi (by omega) (by omega)
 have k2:(Rng.w .i64 (a.hi.val-b.lo.val)).val=a.hi.val-b.lo.val:=wi (by omega) (by omega)
 by_cases hm: -1152921504606846976<(Rng.w .i64 (a.lo.val-b.hi.val)).val/\(Rng.w .i64 (a.lo.val-b.hi.val)).val<=(Rng.w .i64 (a.hi.val-b.lo.val)).val/\(Rng.w .i64 (a.hi.val-b.lo.val)).val<1152921504606846976
 ·rw [zc7 hm];exact ⟨trivial,trivial,k1,k2⟩
 ·rw [make_no hm,zbX] at h;cases h
theorem dblI_val {a:Iv} (h:zh (zcr a)=true):zh a=true/\(zcr a).lo.val=2*a.lo.val/\(zcr a).hi.val=2*a.hi.val:=by
 simp only [zcr,t_spec_DoubleI,Tr.get] at h ⊢
 cases ha:zh a
 ·rw [ha] at h;simp only [Bool.not_false,ctr,zbX] at h;cases h
 simp only [ha,Bool.not_true,cfl] at h ⊢
 have ba:=(zca _).1 ha
 have k1:(Rng.w .i64 (2*a.lo.val)).val=2*a.lo.val:=wi (by omega) (by omega)
 have k2:(Rng.w .i64 (2*a.hi.val)).val=2*a.hi.val:=wi (by omega) (by omega)
 by_cases hm: -1152921504606846976<(Rng.w .i64 (2*a.lo.val)).val/\(Rng.w .i64 (2*a.lo.val)).val<=(Rng.w .i64 (2*a.hi.val)).val/\(Rng.w .i64 (2*a.hi.val)).val<1152921504606846976
 ·rw [zc7 hm];exact ⟨trivial,k1,k2⟩
 ·rw [make_no hm,zbX] at h;cases h
end Go.Proofs.YtfcjhkkpbnobhaaGreat.Ev
namespace Go.Proofs.YtfcjhkkpbnobhaaGreat.Ev
open Go
theorem sqrI_val {a:Iv} (h:zh (zby a)=true):zh a=true/\(zby a).lo.val=(zH a).a.val*(zH a).a.val/4294967296/\(zby a).hi.val= -(-((zH a).b.val*(zH a).b.val)/4294967296):=by
 have nw:∀ {P:Prop},zh zu=true->P:=fun h=>by rw [zbX] at h;cases h
 simp only [zby,t_spec_SqrI,Tr.get] at h ⊢
 cases ha:zh a
 ·rw [ha] at h;exact nw h
 simp only [ha,Bool.not_true,cfl] at h ⊢
 cases h1:(zJ (zH a).a (zH a).a).b
 ·rw [h1] at h;exact nw h
 cases h2:(zaa (zH a).b (zH a).b).b
 ·rw [h1,h2] at h;exact nw h
 simp only [h1,h2,Bool.not_true,cfl] at h ⊢
 have v1:=muldown_true h1
 have v2:=mulup_true h2
 generalize (zJ (zH a).a (zH a).a).a=lo at *
 generalize (zaa (zH a).b (zH a).b).a=hi at *
 by_cases hm: -1152921504606846976<lo.val/\lo.val<=hi.val/\hi.val<1152921504606846976
 ·rw [zc7 hm];exact ⟨trivial,v1,v2⟩
 ·rw [make_no hm] at h;exact nw h
theorem su_val2 (a:I64) (ha:0<=a.val/\a.val<=1152921504606846976):∃q p:I64,zb5 a=⟨q,true⟩/\zbM a=⟨p,true⟩/\0<=q.val/\q.val<=70368744177664/\q.val*q.val<=a.val*4294967296/\a.val*4294967296<(q.val+1)*(q.val+1)/\q.val<=p.val/\p.val<=q.val+1/\a.val*4294967296<=p.val*p.val/\(q.val<p.val->q.val*q.val<a.val*4294967296):=by
 obtain ⟨q,h1,h2,h3,h4,h5,h6⟩:=sd_val a ha
 have e1:(Rng.w .i64 (q.val+1)).val=q.val+1:=wi (by omega) (by omega)
 have hqq:=Int.mul_nonneg h3 h3
 have hmf:zaB q q ⟨32,rfl⟩=⟨.w .i64 (q.val*q.val/4294967296),true⟩:=by rw [mf32];exact narrow_ok (by omega) (by omega)
 have hmv:(Rng.w .i64 (q.val*q.val/4294967296)).val=q.val*q.val/4294967296:=wi (by omega) (by omega)
 have hmask:(Rng.w .i64 (zbf .and .i64 (Rng.w .i64 (q.val*q.val)).val 4294967295)).val=q.val*q.val%4294967296:=by rw [and_mask_i,zdE];omega
 by_cases hx:q.val*q.val=a.val*4294967296
 ·refine ⟨q,q,h1,?_,h3,h4,h5,h6,Int.le_refl _,by omega,by omega,fun h=>by omega⟩
  have k1:(q.val*q.val/4294967296 != a.val)=false:=by simp;omega
  have k2:(q.val*q.val%4294967296 != 0)=false:=by simp;omega
  simp only [zbM,zcc,Tr.get,sd_G_spec,h1,hmf,hmv,hmask,k1,k2,Bool.not_true,cond_false,cond_true]
 ·refine ⟨q,.w .i64 (q.val+1),h1,?_,h3,h4,h5,h6,by omega,by omega,by rw [e1];omega,fun h=>by omega⟩
  simp only [zbM,zcc,Tr.get,sd_G_spec,h1,hmf,hmv,hmask,Bool.not_true,cond_false,cond_true]
  by_cases k1:q.val*q.val/4294967296=a.val
  ·have k2:(q.val*q.val%4294967296 != 0)=true:=by simp;omega
   have k3:(q.val*q.val/4294967296 != a.val)=false:=by simp [k1]
   simp only [k2,k3,cond_true,cond_false]
  ·have k3:(q.val*q.val/4294967296 != a.val)=true:=by simp [k1]
   simp only [k3,cond_true]
theorem sqrtI_mk {a:Iv} (ha:zh a=true) (h0:0<=a.lo.val):zh (zcy a)=true/\(zcy a).lo=(zb5 a.lo).a/\(zcy a).hi=(zbM a.hi).a:=by
 have hb:=(zca _).1 ha
 obtain ⟨q,p,e1,e2,h1,h2,h3,h4,h5,h6,h7,h8⟩:=su_val2 a.lo (by omega)
 obtain ⟨q',p',e1',e2',h1',h2',h3',h4',h5',h6',h7',h8'⟩:=su_val2 a.hi (by omega)
 have hle:q.val<=p'.val:=by
  refine sq_lt h1 (by omega) ?_
  omega
 have hd:decide (a.lo.val<0)=false:=by simp;omega
 have e:zcy a=⟨q,p'⟩:=by
  simp only [zcy,t_spec_SqrtI,Tr.get,ha,hd,sd_G_spec,su_G_spec,e1,e2',Bool.not_true,cfl,ctr]
  exact zc7 (by omega)
 rw [e,e1,e2']
 exact ⟨(zca _).2 (by simp only;omega),rfl,rfl⟩
theorem sqrtI_nn {a:Iv} (h:zh (zcy a)=true):zh a=true/\0<=a.lo.val:=by
 have nw:∀ {P:Prop},zh zu=true->P:=fun h=>by rw [zbX] at h;cases h
 simp only [zcy,t_spec_SqrtI,Tr.get] at h
 cases ha:zh a
 ·rw [ha] at h;exact nw h
 by_cases h0:a.lo.val<0
 ·rw [ha,show decide (a.lo.val<0)=true by simpa using h0] at h;exact nw h
 ·exact ⟨rfl,by omega⟩
theorem divdown_true {x y:I64} (hy:0<y.val) (h:(zC x y).b=true):(zC x y).a.val=x.val*4294967296/y.val:=by
 have z0:(y.val==0)=false:=by simp;omega
 have z1:decide (y.val<0)=false:=by simp;omega
 simp only [zC,zbq,Tr.get,zd9,z0,z1,cfl] at h ⊢
 cases h1:zD x
 ·rw [h1] at h;simp [ctr] at h
 cases h2:zD y
 ·rw [h1,h2] at h;simp [ctr,cfl] at h
 rw [h1,h2] at h
 simp only [Bool.not_true,cfl,MD,hy,if_true] at h ⊢
 unfold narrow at h ⊢
 split at h
 ·rename_i hr
  rw [if_pos hr]
  rcases end_cases (.w .i64 (x.val*4294967296/y.val)) true with e|⟨e,_⟩
  ·rw [e] at h;cases h
  ·rw [e];exact wi hr.1 hr.2
 ·have:(zak (.w .i64 0) false).b=false:=by simp only [zak,zb0,Tr.get,Bool.not_false,ctr]
  rw [this] at h;cases h
theorem divup_true {x y:I64} (hy:0<y.val) (h:(zW x y).b=true):(zW x y).a.val= -(-x.val*4294967296/y.val):=by
 simp only [zW,zct,Tr.get] at h ⊢
 cases h1:zD x
 ·rw [h1] at h;simp [ctr] at h
 rw [h1] at h
 simp only [Bool.not_true,cfl] at h ⊢
 have hb:=ok_bd h1
 have e:=divdown_true hy h
 have en:(Rng.w .i64 (0-x.val)).val= -x.val:=by rw [wi (by omega) (by omega)];omega
 rw [en] at e
 rcases zdZ (.w .i64 (0-x.val)) y with k|⟨c,k,kc⟩
 ·rw [k] at h;cases h
 ·have kb:=ok_bd kc
  rw [k] at e ⊢
  simp only at e ⊢
  rw [wi (by omega) (by omega)]
  omega
theorem divI_corner {a b:Iv} (h0:0<b.lo.val) (h:zh (zB a b)=true):zh a=true/\zh b=true /\
  ∀x y:I64,(x=a.lo\/x=a.hi)->(y=b.lo\/y=b.hi)->(zB a b).lo.val<=x.val*4294967296/y.val /\ -(-x.val*4294967296/y.val)<=(zB a b).hi.val:=by
 have nw:∀ {P:Prop},zh zu=true->P:=fun h=>by rw [zbX] at h;cases h
 simp only [zB,zeB,Tr.get] at h ⊢
 cases ha:zh a
 ·rw [ha] at h;exact nw h
 cases hb:zh b
 ·rw [ha,hb] at h;exact nw h
 have bb:=(zca _).1 hb
 have h0':0<b.hi.val:=by omega
 cases hz:zaC b ⟨0,rfl⟩
 case true=>rw [ha,hb,hz] at h;exact nw h
 simp only [ha,hb,hz,Bool.not_true,cfl] at h ⊢
 cases h1:(zC a.lo b.lo).b
 ·rw [h1] at h;exact nw h
 cases h2:(zW a.lo b.lo).b
 ·rw [h1,h2] at h;exact nw h
 cases h3:(zC a.lo b.hi).b
 ·rw [h1,h2,h3] at h;exact nw h
 cases h4:(zW a.lo b.hi).b
 ·rw [h1,h2,h3,h4] at h;exact nw h
 cases h5:(zC a.hi b.lo).b
 ·rw [h1,h2,h3,h4,h5] at h;exact nw h
 cases h6:(zW a.hi b.lo).b
 ·rw [h1,h2,h3,h4,h5,h6] at h;exact nw h
 cases h7:(zC a.hi b.hi).b
 ·rw [h1,h2,h3,h4,h5,h6,h7] at h;exact nw h
 cases h8:(zW a.hi b.hi).b
 ·rw [h1,h2,h3,h4,h5,h6,h7,h8] at h;exact nw h
 simp only [h1,h2,h3,h4,h5,h6,h7,h8,Bool.not_true,cfl] at h ⊢
 refine ⟨trivial,trivial,?_⟩
 have v1:=divdown_true h0 h1
 have v2:=divup_true h0 h2
 have v3:=divdown_true h0' h3
 have v4:=divup_true h0' h4
 have v5:=divdown_true h0 h5
 have v6:=divup_true h0 h6
 have v7:=divdown_true h0' h7
 have v8:=divup_true h0' h8
 generalize (zC a.lo b.lo).a=d1 at *
 generalize (zC a.lo b.hi).a=d2 at *
 generalize (zC a.hi b.lo).a=d3 at *
 generalize (zC a.hi b.hi).a=d4 at *
 generalize (zW a.lo b.lo).a=u1 at *
 generalize (zW a.lo b.hi).a=u2 at *
 generalize (zW a.hi b.lo).a=u3 at *
 generalize (zW a.hi b.hi).a=u4 at *
 have m1:=min_l ⟨1152921504606846976,rfl⟩ d1
 have m2:=min_l (zz ⟨1152921504606846976,rfl⟩ d1) d2
 have m3:=min_l (zz (zz ⟨1152921504606846976,rfl⟩ d1) d2) d3
 have m4:=min_l (zz (zz (zz ⟨1152921504606846976,rfl⟩ d1) d2) d3) d4
 have n1:=zfR ⟨-1152921504606846976,rfl⟩ u1
 have n2:=zfR (zt ⟨-1152921504606846976,rfl⟩ u1) u2
 have n3:=zfR (zt (zt ⟨-1152921504606846976,rfl⟩ u1) u2) u3
 have n4:=zfR (zt (zt (zt ⟨-1152921504606846976,rfl⟩ u1) u2) u3) u4
 generalize zz (zz (zz (zz ⟨1152921504606846976,rfl⟩ d1) d2) d3) d4=lo at *
 generalize zt (zt (zt (zt ⟨-1152921504606846976,rfl⟩ u1) u2) u3) u4=hi at *
 by_cases hm: -1152921504606846976<lo.val/\lo.val<=hi.val/\hi.val<1152921504606846976
 ·rw [zc7 hm]
  simp only
  rintro x y (rfl|rfl) (rfl|rfl)
  ·omega
  ·omega
  ·omega
  ·omega
 ·rw [make_no hm] at h;exact nw h
end Go.Proofs.YtfcjhkkpbnobhaaGreat.Ev
namespace Go.Proofs.YtfcjhkkpbnobhaaGreat.Ev
open Go Go.RowKit
set_option maxRecDepth 100000
section
variable [Amb]
def B4:Bod Tryz.prog:=⟨4,Tryz.f4,Tryz.f4.body.getD .skip,Tryz.func4,by kernel_rfl,by kernel_rfl,zae.no _ _⟩
def Tb4 (o0:Bool) (o1:T3 za1 za1 za1) (o2:za1) (h0:Orac Tryz.prog 19 [0,1] o0) (h1:Orac Tryz.prog 12 [0] o1) (h2:Orac Tryz.prog 20 [1] o2):Tb Tryz.prog:= {T:= [Y2,Y24,Y30,Y40],mix:=mix,Es:= [Ent.orac 20 [1] o2 h2,Ent.orac 12 [0] o1 h1,Ent.orac 19 [0,1] o0 h0,E_spec_HasI,E_impl_VectorOf,E_spec_CrossV,E_impl_MidwayOf,E_spec_ValidInterval,E_spec_MulI,E_spec_CosI,E_spec_SinI,E_spec_DotV,E_spec_OverlapI,E_impl_CrossingOf],Bs:= [],d:=1}
def t_laws_FnMidway (o0:Bool) (o1:T3 za1 za1 za1) (o2:za1):Tr Bool:=
 .br o0 (.leaf true) (let c4:=zam o1.a;let c5:=zam o1.b;let c6:=zbd c4.a c5.a;let c7:=zaX o1.a o1.b;.br (c7.c.val==0) (.br (zaU c7.b) (let c11:=zN (zbb c7.a) (zbb c7.b);let c14:=zN (zbb c7.a) (zbz c7.b);let c15:=zbz c7.a;.br (!(zaT (zbk c6 ⟨c11,c14,c15⟩) ⟨0,rfl⟩)) (.leaf false) (.br (!(zaV (zbk c4.a ⟨c11,c14,c15⟩) (zbk c5.a ⟨c11,c14,c15⟩))) (.leaf false) (let c21:=zaf o1.a o1.b o1.c o2;.br (c21.c.val==0) (.br (zaU c21.b) (let c25:=zN (zbb c21.a) (zbb c21.b);let c28:=zN (zbb c21.a) (zbz c21.b);let c29:=zbz c21.a;.br (zaT (zbk c6 ⟨c25,c28,c29⟩) ⟨0,rfl⟩) (.leaf (zaT (zbk (zbd (zam o1.c).a (zam o2).a) ⟨c25,c28,c29⟩) ⟨0,rfl⟩)) (.leaf false)) (.leaf true)) (.leaf true)))) (let c37:=zaf o1.a o1.b o1.c o2;.br (c37.c.val==0) (.br (zaU c37.b) (let c41:=zN (zbb c37.a) (zbb c37.b);let c44:=zN (zbb c37.a) (zbz c37.b);let c45:=zbz c37.a;.br (zaT (zbk c6 ⟨c41,c44,c45⟩) ⟨0,rfl⟩) (.leaf (zaT (zbk (zbd (zam o1.c).a (zam o2).a) ⟨c41,c44,c45⟩) ⟨0,rfl⟩)) (.leaf false)) (.leaf true)) (.leaf true))) (let c53:=zaf o1.a o1.b o1.c o2;.br (c53.c.val==0) (.br (zaU c53.b) (let c57:=zN (zbb c53.a) (zbb c53.b);let c60:=zN (zbb c53.a) (zbz c53.b);let c61:=zbz c53.a;.br (zaT (zbk c6 ⟨c57,c60,c61⟩) ⟨0,rfl⟩) (.leaf (zaT (zbk (zbd (zam o1.c).a (zam o2).a) ⟨c57,c60,c61⟩) ⟨0,rfl⟩)) (.leaf false)) (.leaf true)) (.leaf true)))
theorem r_laws_FnMidway (o0:Bool) (o1:T3 za1 za1 za1) (o2:za1) (h0:Orac Tryz.prog 19 [0,1] o0) (h1:Orac Tryz.prog 12 [0] o1) (h2:Orac Tryz.prog 20 [1] o2):(Tb4 o0 o1 o2 h0 h1 h2).run B4 [.arg 0,.arg 1] Bool=(t_laws_FnMidway o0 o1 o2).opt:=by kernel_rfl
end
end Go.Proofs.YtfcjhkkpbnobhaaGreat.Ev
