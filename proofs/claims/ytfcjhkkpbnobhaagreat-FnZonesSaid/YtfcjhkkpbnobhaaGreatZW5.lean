/- The law FnZones gives true, whatever bytes come in. No conditions. (One of the texts of its proof, put together by a program of this session.) -/
import Derived.Test.YtfcjhkkpbnobhaaGreatZW2
import Derived.Test.YtfcjhkkpbnobhaaGreatZPT
set_option linter.unusedSectionVars false
set_option linter.unusedSimpArgs false
set_option linter.unusedVariables false
noncomputable section
namespace Go.Proofs.YtfcjhkkpbnobhaaGreat.Ev
open Go Go.RowKit
set_option maxRecDepth 100000
section
variable [Amb]
def ET_spec_l06Over:Ent Tryz.prog:= .of2 Tb101 B101 (fun _ _=>true) zfz fun a0 a1 _=>(r_spec_l06Over a0 a1).trans (tt_over_spec a0 a1)
def t_spec_CosI (a0:Iv):Tr (Iv):=
 .leaf (zfz a0 ⟨1,rfl⟩)
def B27:Bod Tryz.prog:=⟨27,Tryz.f27,Tryz.f27.body.getD .skip,Tryz.func27,by kernel_rfl,by kernel_rfl,zan.no _ _⟩
def Tb27:Tb Tryz.prog:= {T:= [Y2,Y30],mix:=mix,Es:= [ET_spec_l06Over],Bs:= [],d:=1}
def t_spec_SinI (a0:Iv):Tr (Iv):=
 .leaf (zfz a0 ⟨0,rfl⟩)
theorem r_spec_SinI (a0:Iv):Tb27.run B27 [enc a0] (Iv)=(t_spec_SinI a0).opt:=by kernel_rfl
def zcy:Iv->Iv:=fun a0=>(t_spec_SinI a0).get
theorem u_spec_SinI (a0:Iv):(t_spec_SinI a0).opt=some (zcy a0):=Tr.zT (by kernel_rfl)
def E_spec_SinI:Ent Tryz.prog:= .of1 Tb27 B27 (fun _=>true) zcy fun a0 _=>(r_spec_SinI a0).trans (u_spec_SinI a0)
def B115:Bod Tryz.prog:=⟨115,Tryz.f115,Tryz.f115.body.getD .skip,Tryz.func115,by kernel_rfl,by kernel_rfl,zan.no _ _⟩
def Tb115:Tb Tryz.prog:= {T:= [Y2,Y30],mix:=mix,Es:= [E_impl_circleHull],Bs:= [],d:=1}
def t_impl_SinI (a0:Iv):Tr (Iv):=
 .leaf (zbc a0 ⟨0,rfl⟩)
theorem r_impl_SinI (a0:Iv):Tb115.run B115 [enc a0] (Iv)=(t_impl_SinI a0).opt:=by kernel_rfl
def zfc:Iv->Iv:=fun a0=>(t_impl_SinI a0).get
theorem u_impl_SinI (a0:Iv):(t_impl_SinI a0).opt=some (zfc a0):=Tr.zT (by kernel_rfl)
def E_impl_SinI:Ent Tryz.prog:= .of1 Tb115 B115 (fun _=>true) zfc fun a0 _=>(r_impl_SinI a0).trans (u_impl_SinI a0)
def t_spec_l07Fix (a0:I64):Tr (Bool):=
 .br (decide ((-1152921504606846976)<a0.val)) (.leaf (decide (a0.val<1152921504606846976))) (.leaf false)
def zbV:I64->Bool:=fun a0=>(t_spec_l07Fix a0).get
def t_spec_l07Quarter:Tr (Iv):=
 .br (zcn ⟨1,rfl⟩) (.br (zcn ⟨1,rfl⟩) (.leaf ⟨(Rng.w .i64 (0-(zaQ ⟨1,rfl⟩).hi.val)),(zaQ ⟨1,rfl⟩).hi⟩) (.bad)) (.bad)
def zbk:Iv:=(t_spec_l07Quarter).get
def t_spec_l07Halve (a0:Iv):Tr (Iv):=
 .leaf (zw a0 (zG (zm ⟨1,rfl⟩) (zbK (zG (zm ⟨1,rfl⟩) (zaW a0)))))
def zeK:Iv->Iv:=fun a0=>(t_spec_l07Halve a0).get
def t_spec_ArcSeries (a0:Iv):Tr (Iv):=
 .br (!(zaP a0 ⟨⟨(-1073741824),rfl⟩,⟨1073741824,rfl⟩⟩)) (.leaf zaL) (let c3:=zaW a0;.leaf (zG (zu a0 (zR (zQ ⟨1,rfl⟩ ⟨1,rfl⟩) (zu c3 (zR (zQ ⟨1,rfl⟩ ⟨3,rfl⟩) (zu c3 (zR (zQ ⟨1,rfl⟩ ⟨5,rfl⟩) (zu c3 (zR (zQ ⟨1,rfl⟩ ⟨7,rfl⟩) (zu c3 (zR (zQ ⟨1,rfl⟩ ⟨9,rfl⟩) (zu c3 (zR (zQ ⟨1,rfl⟩ ⟨11,rfl⟩) (zu c3 (zR (zQ ⟨1,rfl⟩ ⟨13,rfl⟩) (zu c3 (zR (zQ ⟨1,rfl⟩ ⟨15,rfl⟩) (zu c3 (zR (zQ ⟨1,rfl⟩ ⟨17,rfl⟩) (zu c3 (zR (zQ ⟨1,rfl⟩ ⟨19,rfl⟩) (zu c3 (zQ ⟨1,rfl⟩ ⟨21,rfl⟩)))))))))))))))))))))) zbC))
def zfp:Iv->Iv:=fun a0=>(t_spec_ArcSeries a0).get
def t_spec_DoubleI (a0:Iv):Tr (Iv):=
 .br (!(zf a0)) (.leaf zk) (.leaf (z8 (Rng.w .i64 (2*a0.lo.val)) (Rng.w .i64 (2*a0.hi.val))))
def zbD:Iv->Iv:=fun a0=>(t_spec_DoubleI a0).get
def t_spec_l07Core (a0:Iv):Tr (Iv):=
 .leaf (zbD (zbD (zfp (zeK (zeK a0)))))
def zcX:Iv->Iv:=fun a0=>(t_spec_l07Core a0).get
def zfZ (a0:I64):Tr (Iv):=
 .br (!(zbV a0)) (.leaf zbk) (.br (decide (a0.val<0)) (.bad) (.br (decide (a0.val>4294967296)) (.leaf (zR (zU ⟨1,rfl⟩) (zcX (zw (zm ⟨1,rfl⟩) (zH a0))))) (.leaf (zcX (zH a0)))))
def zdM:I64->Iv:=fun a0=>(zfZ a0).get
def G_spec_AtanAt_p:I64->Bool:=fun a0=>(zfZ a0).opt.isSome
def t_spec_AtanAt (a0:I64):Tr (Iv):=
 .br (!(zbV a0)) (.leaf zbk) (.br (decide (a0.val<0)) (let c3:=(Rng.w .i64 (0-a0.val));.br (G_spec_AtanAt_p c3) (.leaf (zaE (zdM c3))) (.bad)) (.br (decide (a0.val>4294967296)) (.leaf (zR (zU ⟨1,rfl⟩) (zcX (zw (zm ⟨1,rfl⟩) (zH a0))))) (.leaf (zcX (zH a0)))))
def zdl:I64->Iv:=fun a0=>(t_spec_AtanAt a0).get
def B255:Bod Tryz.prog:=⟨255,Tryz.f255,Tryz.f255.body.getD .skip,Tryz.func255,by kernel_rfl,by kernel_rfl,zan.no _ _⟩
def Tb255:Tb Tryz.prog:= {T:= [],mix:=mix,Es:= [],Bs:= [],d:=1}
def t_impl_isOpen (a0:I64):Tr (Bool):=
 .br (decide ((-1152921504606846976)<a0.val)) (.leaf (decide (a0.val<1152921504606846976))) (.leaf false)
theorem r_impl_isOpen (a0:I64):Tb255.run B255 [enc a0] (Bool)=(t_impl_isOpen a0).opt:=by kernel_rfl
def zfb:I64->Bool:=fun a0=>(t_impl_isOpen a0).get
theorem u_impl_isOpen (a0:I64):(t_impl_isOpen a0).opt=some (zfb a0):=Tr.zT (by kernel_rfl)
def E_impl_isOpen:Ent Tryz.prog:= .of1 Tb255 B255 (fun _=>true) zfb fun a0 _=>(r_impl_isOpen a0).trans (u_impl_isOpen a0)
def B296:Bod Tryz.prog:=⟨296,Tryz.f296,Tryz.f296.body.getD .skip,Tryz.func296,by kernel_rfl,by kernel_rfl,zan.no _ _⟩
def Tb296:Tb Tryz.prog:= {T:= [Y2,Y30],mix:=mix,Es:= [zeh],Bs:= [],d:=1}
def t_impl_halfCircle:Tr (Iv):=
 .leaf ⟨(Rng.w .i64 (0-(za6 ⟨1,rfl⟩).hi.val)),(za6 ⟨1,rfl⟩).hi⟩
theorem r_impl_halfCircle:Tb296.run B296 [] (Iv)=(t_impl_halfCircle).opt:=by kernel_rfl
def zbW:Iv:=(t_impl_halfCircle).get
theorem u_impl_halfCircle:(t_impl_halfCircle).opt=some (zbW):=Tr.zT (by kernel_rfl)
def E_impl_halfCircle:Ent Tryz.prog:= .of0 Tb296 B296 zbW (r_impl_halfCircle.trans u_impl_halfCircle)
def B354:Bod Tryz.prog:=⟨354,Tryz.f354,Tryz.f354.body.getD .skip,Tryz.func354,by kernel_rfl,by kernel_rfl,zan.no _ _⟩
def Tb354:Tb Tryz.prog:= {T:= [Y2,Y30],mix:=mix,Es:= [zbo,zcP,ET_impl_SqrtI,zcA,ze5],Bs:= [],d:=1}
def t_impl_halved (a0:Iv):Tr (Iv):=
 .leaf (zae a0 (zY (zy ⟨1,rfl⟩) (ze1 (zY (zy ⟨1,rfl⟩) (zde a0)))))
theorem r_impl_halved (a0:Iv):Tb354.run B354 [enc a0] (Iv)=(t_impl_halved a0).opt:=by kernel_rfl
def F_impl_halved:Iv->Iv:=fun a0=>(t_impl_halved a0).get
theorem u_impl_halved (a0:Iv):(t_impl_halved a0).opt=some (F_impl_halved a0):=Tr.zT (by kernel_rfl)
def E_impl_halved:Ent Tryz.prog:= .of1 Tb354 B354 (fun _=>true) F_impl_halved fun a0 _=>(r_impl_halved a0).trans (u_impl_halved a0)
def B353:Bod Tryz.prog:=⟨353,Tryz.f353,Tryz.f353.body.getD .skip,Tryz.func353,by kernel_rfl,by kernel_rfl,zan.no _ _⟩
def Tb353:Tb Tryz.prog:= {T:= [Y2,Y30],mix:=mix,Es:= [zcP,zcm,zcO,zal,zd0,ze5,E_impl_InsideI,E_impl_tiny],Bs:= [],d:=1}
def t_impl_ArcSeries (a0:Iv):Tr (Iv):=
 .br (!(zep a0 ⟨⟨(-1073741824),rfl⟩,⟨1073741824,rfl⟩⟩)) (.leaf zF) (let c3:=zde a0;.leaf (zY (zK a0 (zax (zad ⟨1,rfl⟩ ⟨1,rfl⟩) (zK c3 (zax (zad ⟨1,rfl⟩ ⟨3,rfl⟩) (zK c3 (zax (zad ⟨1,rfl⟩ ⟨5,rfl⟩) (zK c3 (zax (zad ⟨1,rfl⟩ ⟨7,rfl⟩) (zK c3 (zax (zad ⟨1,rfl⟩ ⟨9,rfl⟩) (zK c3 (zax (zad ⟨1,rfl⟩ ⟨11,rfl⟩) (zK c3 (zax (zad ⟨1,rfl⟩ ⟨13,rfl⟩) (zK c3 (zax (zad ⟨1,rfl⟩ ⟨15,rfl⟩) (zK c3 (zax (zad ⟨1,rfl⟩ ⟨17,rfl⟩) (zK c3 (zax (zad ⟨1,rfl⟩ ⟨19,rfl⟩) (zK c3 (zad ⟨1,rfl⟩ ⟨21,rfl⟩)))))))))))))))))))))) F_impl_tiny))
theorem r_impl_ArcSeries (a0:Iv):Tb353.run B353 [enc a0] (Iv)=(t_impl_ArcSeries a0).opt:=by kernel_rfl
def zfr:Iv->Iv:=fun a0=>(t_impl_ArcSeries a0).get
theorem u_impl_ArcSeries (a0:Iv):(t_impl_ArcSeries a0).opt=some (zfr a0):=Tr.zT (by kernel_rfl)
def E_impl_ArcSeries:Ent Tryz.prog:= .of1 Tb353 B353 (fun _=>true) zfr fun a0 _=>(r_impl_ArcSeries a0).trans (u_impl_ArcSeries a0)
def B337:Bod Tryz.prog:=⟨337,Tryz.f337,Tryz.f337.body.getD .skip,Tryz.func337,by kernel_rfl,by kernel_rfl,zan.no _ _⟩
def Tb337:Tb Tryz.prog:= {T:= [Y2,Y30],mix:=mix,Es:= [zcP],Bs:= [],d:=1}
def t_impl_DoubleI (a0:Iv):Tr (Iv):=
 .leaf (zY a0 a0)
theorem r_impl_DoubleI (a0:Iv):Tb337.run B337 [enc a0] (Iv)=(t_impl_DoubleI a0).opt:=by kernel_rfl
def zbS:Iv->Iv:=fun a0=>(t_impl_DoubleI a0).get
theorem u_impl_DoubleI (a0:Iv):(t_impl_DoubleI a0).opt=some (zbS a0):=Tr.zT (by kernel_rfl)
def E_impl_DoubleI:Ent Tryz.prog:= .of1 Tb337 B337 (fun _=>true) zbS fun a0 _=>(r_impl_DoubleI a0).trans (u_impl_DoubleI a0)
def B334:Bod Tryz.prog:=⟨334,Tryz.f334,Tryz.f334.body.getD .skip,Tryz.func334,by kernel_rfl,by kernel_rfl,zan.no _ _⟩
def Tb334:Tb Tryz.prog:= {T:= [Y2,Y30],mix:=mix,Es:= [E_impl_DoubleI,E_impl_ArcSeries,E_impl_halved],Bs:= [],d:=1}
def t_impl_fourfold (a0:Iv):Tr (Iv):=
 .leaf (zbS (zbS (zfr (F_impl_halved (F_impl_halved a0)))))
theorem r_impl_fourfold (a0:Iv):Tb334.run B334 [enc a0] (Iv)=(t_impl_fourfold a0).opt:=by kernel_rfl
def zc5:Iv->Iv:=fun a0=>(t_impl_fourfold a0).get
theorem u_impl_fourfold (a0:Iv):(t_impl_fourfold a0).opt=some (zc5 a0):=Tr.zT (by kernel_rfl)
def E_impl_fourfold:Ent Tryz.prog:= .of1 Tb334 B334 (fun _=>true) zc5 fun a0 _=>(r_impl_fourfold a0).trans (u_impl_fourfold a0)
def B297:Bod Tryz.prog:=⟨297,Tryz.f297,Tryz.f297.body.getD .skip,Tryz.func297,by kernel_rfl,by kernel_rfl,zan.no _ _⟩
def Tb297_p:Tb Tryz.prog:= {T:= [Y2,Y30],mix:=mix,Es:= [zbo,zcO,zcA,zeS,zeh,E_impl_isOpen,E_impl_halfCircle,E_impl_fourfold],Bs:= [],d:=1}
def t_impl_AtanAt_p (a0:I64):Tr (Iv):=
 .br (!(zfb a0)) (.leaf zbW) (.br (decide (a0.val<0)) (.bad) (.br (decide (a0.val>4294967296)) (.leaf (zax (za6 ⟨1,rfl⟩) (zc5 (zae (zy ⟨1,rfl⟩) (za8 a0))))) (.leaf (zc5 (za8 a0)))))
theorem r_impl_AtanAt_p (a0:I64):Tb297_p.run B297 [enc a0] (Iv)=(t_impl_AtanAt_p a0).opt:=by kernel_rfl
def F_impl_AtanAt_p:I64->Iv:=fun a0=>(t_impl_AtanAt_p a0).get
def G_impl_AtanAt_p:I64->Bool:=fun a0=>(t_impl_AtanAt_p a0).opt.isSome
def E_impl_AtanAt_p:Ent Tryz.prog:= .of1 Tb297_p B297 G_impl_AtanAt_p F_impl_AtanAt_p fun a0 h=>(r_impl_AtanAt_p a0).trans (Tr.get_some h)
def Tb297:Tb Tryz.prog:= {T:= [Y2,Y30],mix:=mix,Es:= [zbo,zcO,zcA,E_impl_NegI,zeS,zeh,E_impl_isOpen,E_impl_halfCircle,E_impl_AtanAt_p,E_impl_fourfold],Bs:= [],d:=1}
def t_impl_AtanAt (a0:I64):Tr (Iv):=
 .br (!(zfb a0)) (.leaf zbW) (.br (decide (a0.val<0)) (let c3:=(Rng.w .i64 (0-a0.val));.br (G_impl_AtanAt_p c3) (.leaf (zcN (F_impl_AtanAt_p c3))) (.bad)) (.br (decide (a0.val>4294967296)) (.leaf (zax (za6 ⟨1,rfl⟩) (zc5 (zae (zy ⟨1,rfl⟩) (za8 a0))))) (.leaf (zc5 (za8 a0)))))
theorem r_impl_AtanAt (a0:I64):Tb297.run B297 [enc a0] (Iv)=(t_impl_AtanAt a0).opt:=by kernel_rfl
def zfe:I64->Iv:=fun a0=>(t_impl_AtanAt a0).get
def zbA (a0:I64):Tr (Iv):=
 .br (!(zah a0 ⟨(-64),rfl⟩ ⟨64,rfl⟩)) (.leaf zk) (.br (decide (a0.val<0)) (.bad) (.leaf (z8 (zaw a0 ⟨1598288580650331957,rfl⟩ ⟨29,rfl⟩).a (Rng.w .i64 (0-(zaw (Rng.w .i64 (0-a0.val)) ⟨1598288580650331958,rfl⟩ ⟨29,rfl⟩).a.val)))))
def F_spec_LogTwoI_p:I64->Iv:=fun a0=>(zbA a0).get
def zdc:I64->Bool:=fun a0=>(zbA a0).opt.isSome
def zcS (a0:I64):Tr (Iv):=
 .br (!(zah a0 ⟨(-64),rfl⟩ ⟨64,rfl⟩)) (.leaf zk) (.br (decide (a0.val<0)) (let c3:=(Rng.w .i64 (0-a0.val));.br (zdc c3) (.leaf (zaE (F_spec_LogTwoI_p c3))) (.bad)) (.leaf (z8 (zaw a0 ⟨1598288580650331957,rfl⟩ ⟨29,rfl⟩).a (Rng.w .i64 (0-(zaw (Rng.w .i64 (0-a0.val)) ⟨1598288580650331958,rfl⟩ ⟨29,rfl⟩).a.val)))))
def zaG:I64->Iv:=fun a0=>(zcS a0).get
def B331:Bod Tryz.prog:=⟨331,Tryz.f331,Tryz.f331.body.getD .skip,Tryz.func331,by kernel_rfl,by kernel_rfl,zan.no _ _⟩
def Tb331_p:Tb Tryz.prog:= {T:= [Y2,Y30],mix:=mix,Es:= [zal,zbr,ET_impl_MulFloor],Bs:= [],d:=1}
def zdT (a0:I64):Tr (Iv):=
 .br (!(zau a0 ⟨(-64),rfl⟩ ⟨64,rfl⟩)) (.leaf zF) (.br (decide (a0.val<0)) (.bad) (.leaf ⟨(zbL a0 ⟨1598288580650331957,rfl⟩ ⟨29,rfl⟩).a,(Rng.w .i64 (0-(zbL (Rng.w .i64 (0-a0.val)) ⟨1598288580650331958,rfl⟩ ⟨29,rfl⟩).a.val))⟩))
theorem r_impl_LogTwoI_p (a0:I64):Tb331_p.run B331 [enc a0] (Iv)=(zdT a0).opt:=by kernel_rfl
def F_impl_LogTwoI_p:I64->Iv:=fun a0=>(zdT a0).get
def G_impl_LogTwoI_p:I64->Bool:=fun a0=>(zdT a0).opt.isSome
def E_impl_LogTwoI_p:Ent Tryz.prog:= .of1 Tb331_p B331 G_impl_LogTwoI_p F_impl_LogTwoI_p fun a0 h=>(r_impl_LogTwoI_p a0).trans (Tr.get_some h)
def Tb331:Tb Tryz.prog:= {T:= [Y2,Y30],mix:=mix,Es:= [zal,zbr,E_impl_NegI,ET_impl_MulFloor,E_impl_LogTwoI_p],Bs:= [],d:=1}
def zel (a0:I64):Tr (Iv):=
 .br (!(zau a0 ⟨(-64),rfl⟩ ⟨64,rfl⟩)) (.leaf zF) (.br (decide (a0.val<0)) (let c3:=(Rng.w .i64 (0-a0.val));.br (G_impl_LogTwoI_p c3) (.leaf (zcN (F_impl_LogTwoI_p c3))) (.bad)) (.leaf ⟨(zbL a0 ⟨1598288580650331957,rfl⟩ ⟨29,rfl⟩).a,(Rng.w .i64 (0-(zbL (Rng.w .i64 (0-a0.val)) ⟨1598288580650331958,rfl⟩ ⟨29,rfl⟩).a.val))⟩))
theorem r_impl_LogTwoI (a0:I64):Tb331.run B331 [enc a0] (Iv)=(zel a0).opt:=by kernel_rfl
def zdu:I64->Iv:=fun a0=>(zel a0).get
def t_spec_WideMul (a0:I64) (a1:I64):Tr (Wide):=
 .leaf (zec a0 a1)
def zdq:I64->I64->Wide:=fun a0 a1=>(t_spec_WideMul a0 a1).get
def t_spec_CircleAt (a0:I64):Tr (Iv):=
 .br (!(zah a0 ⟨(-4294967296),rfl⟩ ⟨4294967296,rfl⟩)) (.leaf zaL) (let c3:=(Rng.w .i64 (4294967296-a0.val));let c4:=(Rng.w .i64 (4294967296+a0.val));let c5:=zfn c3 c4;let c6:=zdq c5.a c5.a;let c7:=zdq c3 c4;.br (!((c6.hi.val==c7.hi.val)&&((c6.lo.val==c7.lo.val)&&true))) (.leaf ⟨c5.a,(Rng.w .i64 (c5.a.val+1))⟩) (.leaf ⟨c5.a,c5.a⟩))
def zeM:I64->Iv:=fun a0=>(t_spec_CircleAt a0).get
def B338:Bod Tryz.prog:=⟨338,Tryz.f338,Tryz.f338.body.getD .skip,Tryz.func338,by kernel_rfl,by kernel_rfl,zan.no _ _⟩
def Tb338:Tb Tryz.prog:= {T:= [Y2,Y30,Y132,Y148],mix:=mix,Es:= [zal,zbr,zeS,zfF,ET_impl_SqrtFloor],Bs:= [],d:=1}
def t_impl_CircleAt (a0:I64):Tr (Iv):=
 .br (!(zau a0 ⟨(-4294967296),rfl⟩ ⟨4294967296,rfl⟩)) (.leaf zF) (let c5:=zdd (Rng.w .i64 (4294967296-a0.val)) (Rng.w .i64 (4294967296+a0.val));let c6:=zbR c5.a c5.a;let c9:=zbR (Rng.w .i64 (4294967296-a0.val)) (Rng.w .i64 (4294967296+a0.val));.br ((c6.hi.val==c9.hi.val)&&((c6.lo.val==c9.lo.val)&&true)) (.leaf (za8 c5.a)) (.leaf ⟨c5.a,(Rng.w .i64 (c5.a.val+1))⟩))
theorem r_impl_CircleAt (a0:I64):Tb338.run B338 [enc a0] (Iv)=(t_impl_CircleAt a0).opt:=by kernel_rfl
def F_impl_CircleAt:I64->Iv:=fun a0=>(t_impl_CircleAt a0).get
theorem u_impl_CircleAt (a0:I64):(t_impl_CircleAt a0).opt=some (F_impl_CircleAt a0):=Tr.zT (by kernel_rfl)
def E_impl_CircleAt:Ent Tryz.prog:= .of1 Tb338 B338 (fun _=>true) F_impl_CircleAt fun a0 _=>(r_impl_CircleAt a0).trans (u_impl_CircleAt a0)
end
end Go.Proofs.YtfcjhkkpbnobhaaGreat.Ev
namespace Go.Proofs.YtfcjhkkpbnobhaaGreat.Ev
open Go
theorem quot_eq (a b:I64):zad a b=zQ a b:=(q_F_impl a b).trans (q_F_spec a b).symm
theorem sinI_eq (x:Iv):zfc x=zcy x:=by simp only [zfc,t_impl_SinI,zcy,t_spec_SinI,Tr.get,over_eq]
theorem double_eq (a:Iv):zbS a=zbD a:=by
 simp only [zbS,t_impl_DoubleI,zbD,t_spec_DoubleI,Tr.get,add_eq,zG,zdF]
 cases zf a
 ·rfl
 simp only [Bool.not_true,cond_false]
 have e1:a.lo.val+a.lo.val=2*a.lo.val:=by omega
 have e2:a.hi.val+a.hi.val=2*a.hi.val:=by omega
 rw [e1,e2]
theorem halve_eq (a:Iv):F_impl_halved a=zeK a:=by
 simp only [F_impl_halved,t_impl_halved,zeK,t_spec_l07Halve,Tr.get,add_eq,divI_F,zbU,sqrtI_eq,sqrI_F]
theorem arcs_eq (a:Iv):zfr a=zfp a:=by
 simp only [zfr,t_impl_ArcSeries,zfp,t_spec_ArcSeries,Tr.get,add_eq,sub_eq,mulI_F,sqrI_F,quot_eq,tiny_eq,inside_eq,zaU,zcu]
theorem core_eq (a:Iv):zc5 a=zcX a:=by
 simp only [zc5,t_impl_fourfold,zcX,t_spec_l07Core,Tr.get,double_eq,arcs_eq,halve_eq]
theorem fix_eq (n:I64):zfb n=zbV n:=rfl
theorem fix_iff (n:I64):zbV n=true↔(-1152921504606846976<n.val/\n.val<1152921504606846976):=by
 simp only [zbV,t_spec_l07Fix,Tr.get]
 by_cases h1:(-1152921504606846976:Int)<n.val<;>simp [h1]
theorem turn_in {k:I64} (h: -4096<=k.val) (h':k.val<=4096):zcn k=true/\zU k=zaQ k:=by
 obtain ⟨x,h1,h2,h3⟩:=turn_ok k h h'
 have g:zcn k=true:=by unfold zcn;rw [h1];rfl
 have hi:zah k ⟨(-4096),rfl⟩ ⟨4096,rfl⟩=true:=by rw [zdg];simpa using ⟨h,h'⟩
 exact ⟨g,by simp only [zU,zfW,Tr.get,hi,g,Bool.not_true,cond_false,cond_true]⟩
theorem half_eq:zbW=zbk:=by
 obtain ⟨g,e⟩:=turn_in (k:=⟨1,rfl⟩) (by decide) (by decide)
 simp only [zbW,t_impl_halfCircle,zbk,t_spec_l07Quarter,Tr.get,turnI_eq,e,g,cond_true]
theorem atanp_ok (n:I64) (h:¬n.val<0):(zfZ n).opt=some (zdM n)/\(t_impl_AtanAt_p n).opt=some (zdM n):=by
 have hn:decide (n.val<0)=false:=by simpa using h
 simp only [zfZ,t_impl_AtanAt_p,zdM,Tr.opt,Tr.get,hn,cond_false,fix_eq,half_eq,sub_eq,turnI_eq,core_eq,divI_F,zbU,at_eq]
 cases zbV n<;>cases decide (n.val>4294967296)<;>exact ⟨rfl,rfl⟩
theorem atan_ok (n:I64):∃x,(t_spec_AtanAt n).opt=some x/\(t_impl_AtanAt n).opt=some x:=by
 simp only [t_spec_AtanAt,t_impl_AtanAt,Tr.opt,fix_eq,half_eq,sub_eq,turnI_eq,core_eq,divI_F,zbU,at_eq]
 cases hf:zbV n
 ·exact ⟨_,rfl,rfl⟩
 have hb:=(fix_iff n).1 hf
 by_cases hn:n.val<0
 ·have e1:(Rng.w .i64 (0-n.val)).val=0-n.val:=wi (by omega) (by omega)
  obtain ⟨a1,a2⟩:=atanp_ok (.w .i64 (0-n.val)) (by omega)
  have g1:G_spec_AtanAt_p (.w .i64 (0-n.val))=true:=by unfold G_spec_AtanAt_p;rw [a1];rfl
  have g2:G_impl_AtanAt_p (.w .i64 (0-n.val))=true:=by unfold G_impl_AtanAt_p;rw [a2];rfl
  have f2:F_impl_AtanAt_p (.w .i64 (0-n.val))=zdM (.w .i64 (0-n.val)):=Tr.zar a2
  simp only [hn,decide_true,cond_true,g1,g2,f2,neg_eq,Bool.not_true,cond_false]
  exact ⟨_,rfl,rfl⟩
 ·simp only [hn,decide_false,cond_false,Bool.not_true]
  cases decide (n.val>4294967296)<;>exact ⟨_,rfl,rfl⟩
theorem atan_eq (n:I64):zfe n=zdl n:=by
 obtain ⟨x,h1,h2⟩:=atan_ok n
 exact (Tr.zar h2).trans (Tr.zar h1).symm
theorem tt_atan_impl (n:I64):(t_impl_AtanAt n).opt=some (zfe n):=by obtain ⟨x,_,h1⟩:=atan_ok n;exact zeu h1
theorem log_lo {k:I64} (h:0<=k.val) (h':k.val<=64):zaw k ⟨1598288580650331957,rfl⟩ ⟨29,rfl⟩=⟨.w .i64 (k.val*1598288580650331957/536870912),true⟩ /\
  zaw (.w .i64 (0-k.val)) ⟨1598288580650331958,rfl⟩ ⟨29,rfl⟩=⟨.w .i64 ((0-k.val)*1598288580650331958/536870912),true⟩ /\
  0<=k.val*1598288580650331957/536870912/\k.val*1598288580650331957/536870912 <= -((0-k.val)*1598288580650331958/536870912) /\ -((0-k.val)*1598288580650331958/536870912)<=200000000000:=by
 have hb:0<=k.val*1598288580650331957/536870912/\k.val*1598288580650331957/536870912 <= -((0-k.val)*1598288580650331958/536870912) /\ -((0-k.val)*1598288580650331958/536870912)<=200000000000:=by omega
 have en:(Rng.w .i64 (0-k.val)).val=0-k.val:=wi (by omega) (by omega)
 refine ⟨?_,?_,hb⟩
 ·rw [mf29];exact zfk (v:=k.val*1598288580650331957/536870912) (by omega) (by omega)
 ·rw [mf29,en];exact zfk (v:=(0-k.val)*1598288580650331958/536870912) (by omega) (by omega)
theorem logp (k:I64) (h:0<=k.val) (h':k.val<=64):∃x:Iv,(zbA k).opt=some x/\(zdT k).opt=some x/\zf x=true:=by
 have hw:zau k ⟨(-64),rfl⟩ ⟨64,rfl⟩=true:=by rw [zbX];simp;omega
 have hi:zah k ⟨(-64),rfl⟩ ⟨64,rfl⟩=true:=by rw [zdg];simp;omega
 have hn:decide (k.val<0)=false:=by simp;omega
 obtain ⟨e1,e2,b1,b2,b3⟩:=log_lo h h'
 have v1:(Rng.w .i64 (k.val*1598288580650331957/536870912)).val=k.val*1598288580650331957/536870912:=wi (by omega) (by omega)
 have v2:(Rng.w .i64 ((0-k.val)*1598288580650331958/536870912)).val=(0-k.val)*1598288580650331958/536870912:=wi (by omega) (by omega)
 have v3:(Rng.w .i64 (0-(0-k.val)*1598288580650331958/536870912)).val=0-(0-k.val)*1598288580650331958/536870912:=wi (by omega) (by omega)
 have hok: -1152921504606846976<(Rng.w .i64 (k.val*1598288580650331957/536870912)).val/\(Rng.w .i64 (k.val*1598288580650331957/536870912)).val<=(Rng.w .i64 (0-(Rng.w .i64 ((0-k.val)*1598288580650331958/536870912)).val)).val/\(Rng.w .i64 (0-(Rng.w .i64 ((0-k.val)*1598288580650331958/536870912)).val)).val<1152921504606846976:=by
  rw [v1,v2,v3];omega
 refine ⟨⟨.w .i64 (k.val*1598288580650331957/536870912),.w .i64 (0-(Rng.w .i64 ((0-k.val)*1598288580650331958/536870912)).val)⟩,?_,?_,(zbz _).2 hok⟩
 ·simp only [zbA,Tr.opt,hi,hn,Bool.not_true,cond_false,e1,e2]
  rw [zbT hok]
 ·simp only [zdT,Tr.opt,hw,hn,Bool.not_true,cond_false,mulfloor_F,e1,e2]
theorem logTwo_ok (k:I64):∃x:Iv,(zcS k).opt=some x/\(zel k).opt=some x:=by
 by_cases h: -64<=k.val/\k.val<=64
 ·have hw:zau k ⟨(-64),rfl⟩ ⟨64,rfl⟩=true:=by rw [zbX];simpa using h
  have hi:zah k ⟨(-64),rfl⟩ ⟨64,rfl⟩=true:=by rw [zdg];simpa using h
  by_cases hn:k.val<0
  ·have e1:(Rng.w .i64 (0-k.val)).val=0-k.val:=wi (by omega) (by omega)
   obtain ⟨x,h1,h2,h3⟩:=logp (.w .i64 (0-k.val)) (by omega) (by omega)
   have g1:zdc (.w .i64 (0-k.val))=true:=by unfold zdc;rw [h1];rfl
   have g2:G_impl_LogTwoI_p (.w .i64 (0-k.val))=true:=by unfold G_impl_LogTwoI_p;rw [h2];rfl
   have f1:F_spec_LogTwoI_p (.w .i64 (0-k.val))=x:=Tr.zar h1
   have f2:F_impl_LogTwoI_p (.w .i64 (0-k.val))=x:=Tr.zar h2
   have hd:decide (k.val<0)=true:=by simpa using hn
   exact ⟨zaE x,by simp only [zcS,Tr.opt,hi,hd,g1,f1,cond_true,cond_false,Bool.not_true],by simp only [zel,Tr.opt,hw,hd,g2,f2,cond_true,cond_false,Bool.not_true,neg_eq]⟩
  ·obtain ⟨x,h1,h2,h3⟩:=logp k (by omega) (by omega)
   have hd:decide (k.val<0)=false:=by simpa using hn
   refine ⟨x,?_,?_⟩
   ·simp only [zbA,Tr.opt,hd] at h1
    simp only [zcS,Tr.opt,hd]
    exact h1
   ·simp only [zdT,Tr.opt,hd,hw] at h2
    simp only [zel,Tr.opt,hd,hw]
    exact h2
 ·have hi:zah k ⟨(-64),rfl⟩ ⟨64,rfl⟩=false:=by rw [zdg];simpa using h
  have hw:zau k ⟨(-64),rfl⟩ ⟨64,rfl⟩=false:=by rw [zbX];simpa using h
  exact ⟨zk,by simp only [zcS,Tr.opt,hi,Bool.not_false,cond_true],by simp only [zel,Tr.opt,hw,Bool.not_false,cond_true,zaU]⟩
theorem tt_log2_impl (k:I64):(zel k).opt=some (zdu k):=by obtain ⟨x,_,h1⟩:=logTwo_ok k;exact zeu h1
theorem log2_eq (k:I64):zdu k=zaG k:=by
 obtain ⟨x,h1,h2⟩:=logTwo_ok k
 exact (Tr.zar h2).trans (Tr.zar h1).symm
end Go.Proofs.YtfcjhkkpbnobhaaGreat.Ev
namespace Go.Proofs.YtfcjhkkpbnobhaaGreat.Ev
open Go Go.RowKit
set_option maxRecDepth 100000
section
variable [Amb]
def ET_impl_AtanAt:Ent Tryz.prog:= .of1 Tb297 B297 (fun _=>true) zfe fun a0 _=>(r_impl_AtanAt a0).trans (tt_atan_impl a0)
def ET_impl_LogTwoI:Ent Tryz.prog:= .of1 Tb331 B331 (fun _=>true) zdu fun a0 _=>(r_impl_LogTwoI a0).trans (tt_log2_impl a0)
def t_spec_IsWhole (a0:Iv):Tr (Bool):=
 .leaf (!(zf a0))
def zfB:Iv->Bool:=fun a0=>(t_spec_IsWhole a0).get
def t_spec_AtanI (a0:Iv):Tr (Iv):=
 .br (zfB a0) (.leaf zbk) (.leaf (zac (zdl a0.lo) (zdl a0.hi)))
def zas:Iv->Iv:=fun a0=>(t_spec_AtanI a0).get
def B236:Bod Tryz.prog:=⟨236,Tryz.f236,Tryz.f236.body.getD .skip,Tryz.func236,by kernel_rfl,by kernel_rfl,zan.no _ _⟩
def Tb236:Tb Tryz.prog:= {T:= [Y2,Y30],mix:=mix,Es:= [zbb,E_impl_HullI,E_impl_halfCircle,ET_impl_AtanAt],Bs:= [],d:=1}
def t_impl_AtanI (a0:Iv):Tr (Iv):=
 .br (zam a0) (.leaf zbW) (.leaf (zaC (zfe a0.lo) (zfe a0.hi)))
theorem r_impl_AtanI (a0:Iv):Tb236.run B236 [enc a0] (Iv)=(t_impl_AtanI a0).opt:=by kernel_rfl
def zck:Iv->Iv:=fun a0=>(t_impl_AtanI a0).get
theorem u_impl_AtanI (a0:Iv):(t_impl_AtanI a0).opt=some (zck a0):=Tr.zT (by kernel_rfl)
def E_impl_AtanI:Ent Tryz.prog:= .of1 Tb236 B236 (fun _=>true) zck fun a0 _=>(r_impl_AtanI a0).trans (u_impl_AtanI a0)
def t_spec_HasI (a0:Iv) (a1:I64):Tr (Bool):=
 .br (!(zf a0)) (.leaf true) (.leaf (za7 a0 a1))
def F_spec_HasI:Iv->I64->Bool:=fun a0 a1=>(t_spec_HasI a0 a1).get
def t_spec_DirectionAt (a0:I64) (a1:I64):Tr (Iv):=
 .br (!(zbV a0)) (.leaf zaL) (.br (!(zbV a1)) (.leaf zaL) (.br (a1.val==0) (.br (a0.val==0) (.leaf zaL) (.br (decide (a0.val<0)) (let c6:=(Rng.w .i64 (0-a0.val));.br (decide (c6.val>a1.val)) (.br (decide (c6.val>(Rng.w .i64 (0-a1.val)).val)) (.br (decide (a0.val<0)) (.leaf (zR (zU ⟨(-1),rfl⟩) (zas (zw (zH a1) (zH a0))))) (.leaf (zR (zU ⟨1,rfl⟩) (zas (zw (zH a1) (zH a0)))))) (.br (decide (a1.val>0)) (.leaf (zas (zw (zH a0) (zH a1)))) (.br (decide (a0.val<0)) (.leaf (zG (zas (zw (zH a0) (zH a1))) (zU ⟨(-2),rfl⟩))) (.leaf (zG (zas (zw (zH a0) (zH a1))) (zU ⟨2,rfl⟩)))))) (.br (decide (a1.val>0)) (.leaf (zas (zw (zH a0) (zH a1)))) (.br (decide (a0.val<0)) (.leaf (zG (zas (zw (zH a0) (zH a1))) (zU ⟨(-2),rfl⟩))) (.leaf (zG (zas (zw (zH a0) (zH a1))) (zU ⟨2,rfl⟩)))))) (.br (decide (a0.val>a1.val)) (.br (decide (a0.val>(Rng.w .i64 (0-a1.val)).val)) (.br (decide (a0.val<0)) (.leaf (zR (zU ⟨(-1),rfl⟩) (zas (zw (zH a1) (zH a0))))) (.leaf (zR (zU ⟨1,rfl⟩) (zas (zw (zH a1) (zH a0)))))) (.br (decide (a1.val>0)) (.leaf (zas (zw (zH a0) (zH a1)))) (.br (decide (a0.val<0)) (.leaf (zG (zas (zw (zH a0) (zH a1))) (zU ⟨(-2),rfl⟩))) (.leaf (zG (zas (zw (zH a0) (zH a1))) (zU ⟨2,rfl⟩)))))) (.br (decide (a1.val>0)) (.leaf (zas (zw (zH a0) (zH a1)))) (.br (decide (a0.val<0)) (.leaf (zG (zas (zw (zH a0) (zH a1))) (zU ⟨(-2),rfl⟩))) (.leaf (zG (zas (zw (zH a0) (zH a1))) (zU ⟨2,rfl⟩)))))))) (.br (decide (a0.val<0)) (let c101:=(Rng.w .i64 (0-a0.val));.br (decide (c101.val>a1.val)) (.br (decide (c101.val>(Rng.w .i64 (0-a1.val)).val)) (.br (decide (a0.val<0)) (.leaf (zR (zU ⟨(-1),rfl⟩) (zas (zw (zH a1) (zH a0))))) (.leaf (zR (zU ⟨1,rfl⟩) (zas (zw (zH a1) (zH a0)))))) (.br (decide (a1.val>0)) (.leaf (zas (zw (zH a0) (zH a1)))) (.br (decide (a0.val<0)) (.leaf (zG (zas (zw (zH a0) (zH a1))) (zU ⟨(-2),rfl⟩))) (.leaf (zG (zas (zw (zH a0) (zH a1))) (zU ⟨2,rfl⟩)))))) (.br (decide (a1.val>0)) (.leaf (zas (zw (zH a0) (zH a1)))) (.br (decide (a0.val<0)) (.leaf (zG (zas (zw (zH a0) (zH a1))) (zU ⟨(-2),rfl⟩))) (.leaf (zG (zas (zw (zH a0) (zH a1))) (zU ⟨2,rfl⟩)))))) (.br (decide (a0.val>a1.val)) (.br (decide (a0.val>(Rng.w .i64 (0-a1.val)).val)) (.br (decide (a0.val<0)) (.leaf (zR (zU ⟨(-1),rfl⟩) (zas (zw (zH a1) (zH a0))))) (.leaf (zR (zU ⟨1,rfl⟩) (zas (zw (zH a1) (zH a0)))))) (.br (decide (a1.val>0)) (.leaf (zas (zw (zH a0) (zH a1)))) (.br (decide (a0.val<0)) (.leaf (zG (zas (zw (zH a0) (zH a1))) (zU ⟨(-2),rfl⟩))) (.leaf (zG (zas (zw (zH a0) (zH a1))) (zU ⟨2,rfl⟩)))))) (.br (decide (a1.val>0)) (.leaf (zas (zw (zH a0) (zH a1)))) (.br (decide (a0.val<0)) (.leaf (zG (zas (zw (zH a0) (zH a1))) (zU ⟨(-2),rfl⟩))) (.leaf (zG (zas (zw (zH a0) (zH a1))) (zU ⟨2,rfl⟩)))))))))
def zai:I64->I64->Iv:=fun a0 a1=>(t_spec_DirectionAt a0 a1).get
def t_spec_DirectionI (a0:Iv) (a1:Iv):Tr (Iv):=
 .br (zfB a0) (.leaf zaL) (.br (zfB a1) (.leaf zaL) (.br (F_spec_HasI a0 ⟨0,rfl⟩) (.br (F_spec_HasI a1 ⟨0,rfl⟩) (.leaf zaL) (.br (decide (a1.lo.val<0)) (.br (decide (a0.lo.val<0)) (.br (decide (a0.hi.val>=0)) (.leaf zaL) (.leaf (zac (zac (zai a0.lo a1.lo) (zai a0.lo a1.hi)) (zac (zai a0.hi a1.lo) (zai a0.hi a1.hi))))) (.leaf (zac (zac (zai a0.lo a1.lo) (zai a0.lo a1.hi)) (zac (zai a0.hi a1.lo) (zai a0.hi a1.hi))))) (.leaf (zac (zac (zai a0.lo a1.lo) (zai a0.lo a1.hi)) (zac (zai a0.hi a1.lo) (zai a0.hi a1.hi)))))) (.br (decide (a1.lo.val<0)) (.br (decide (a0.lo.val<0)) (.br (decide (a0.hi.val>=0)) (.leaf zaL) (.leaf (zac (zac (zai a0.lo a1.lo) (zai a0.lo a1.hi)) (zac (zai a0.hi a1.lo) (zai a0.hi a1.hi))))) (.leaf (zac (zac (zai a0.lo a1.lo) (zai a0.lo a1.hi)) (zac (zai a0.hi a1.lo) (zai a0.hi a1.hi))))) (.leaf (zac (zac (zai a0.lo a1.lo) (zai a0.lo a1.hi)) (zac (zai a0.hi a1.lo) (zai a0.hi a1.hi)))))))
def F_spec_DirectionI:Iv->Iv->Iv:=fun a0 a1=>(t_spec_DirectionI a0 a1).get
def B176:Bod Tryz.prog:=⟨176,Tryz.f176,Tryz.f176.body.getD .skip,Tryz.func176,by kernel_rfl,by kernel_rfl,zan.no _ _⟩
def Tb176:Tb Tryz.prog:= {T:= [Y2,Y30],mix:=mix,Es:= [zcP,zcO,zcA,zal,E_impl_abs,zeS,E_impl_AtanI,zeh,E_impl_isOpen],Bs:= [],d:=1}
def zfM (a0:I64) (a1:I64):Tr (Iv):=
 .br (!(zfb a0)) (.leaf zF) (.br (!(zfb a1)) (.leaf zF) (.br (a0.val==0) (.br (a1.val==0) (.leaf zF) (.br (decide ((zcj a0).val>(zcj a1).val)) (.br (decide (a0.val<0)) (.leaf (zax (za6 ⟨(-1),rfl⟩) (zck (zae (za8 a1) (za8 a0))))) (.leaf (zax (za6 ⟨1,rfl⟩) (zck (zae (za8 a1) (za8 a0)))))) (let c24:=zck (zae (za8 a0) (za8 a1));.br (decide (a1.val>0)) (.leaf c24) (.br (decide (a0.val<0)) (.leaf (zY c24 (za6 ⟨(-2),rfl⟩))) (.leaf (zY c24 (za6 ⟨2,rfl⟩))))))) (.br (decide ((zcj a0).val>(zcj a1).val)) (.br (decide (a0.val<0)) (.leaf (zax (za6 ⟨(-1),rfl⟩) (zck (zae (za8 a1) (za8 a0))))) (.leaf (zax (za6 ⟨1,rfl⟩) (zck (zae (za8 a1) (za8 a0)))))) (let c47:=zck (zae (za8 a0) (za8 a1));.br (decide (a1.val>0)) (.leaf c47) (.br (decide (a0.val<0)) (.leaf (zY c47 (za6 ⟨(-2),rfl⟩))) (.leaf (zY c47 (za6 ⟨2,rfl⟩))))))))
theorem r_impl_DirectionAt (a0:I64) (a1:I64):Tb176.run B176 [enc a0,enc a1] (Iv)=(zfM a0 a1).opt:=by kernel_rfl
def zaa:I64->I64->Iv:=fun a0 a1=>(zfM a0 a1).get
theorem u_impl_DirectionAt (a0:I64) (a1:I64):(zfM a0 a1).opt=some (zaa a0 a1):=Tr.zT (by kernel_rfl)
def E_impl_DirectionAt:Ent Tryz.prog:= .of2 Tb176 B176 (fun _ _=>true) zaa fun a0 a1 _=>(r_impl_DirectionAt a0 a1).trans (u_impl_DirectionAt a0 a1)
def B84:Bod Tryz.prog:=⟨84,Tryz.f84,Tryz.f84.body.getD .skip,Tryz.func84,by kernel_rfl,by kernel_rfl,zan.no _ _⟩
def Tb84:Tb Tryz.prog:= {T:= [Y2,Y30],mix:=mix,Es:= [zbu,zal,E_impl_HasI,E_impl_HullI,E_impl_DirectionAt],Bs:= [],d:=1}
def t_impl_DirectionI (a0:Iv) (a1:Iv):Tr (Iv):=
 .br (!(zaX a0 a1)) (.leaf zF) (.br (zeq a0 ⟨0,rfl⟩) (.br (zeq a1 ⟨0,rfl⟩) (.leaf zF) (.br (decide (a1.lo.val<0)) (.br (decide (a0.lo.val<0)) (.br (decide (a0.hi.val>=0)) (.leaf zF) (.leaf (zaC (zaC (zaa a0.lo a1.lo) (zaa a0.lo a1.hi)) (zaC (zaa a0.hi a1.lo) (zaa a0.hi a1.hi))))) (.leaf (zaC (zaC (zaa a0.lo a1.lo) (zaa a0.lo a1.hi)) (zaC (zaa a0.hi a1.lo) (zaa a0.hi a1.hi))))) (.leaf (zaC (zaC (zaa a0.lo a1.lo) (zaa a0.lo a1.hi)) (zaC (zaa a0.hi a1.lo) (zaa a0.hi a1.hi)))))) (.br (decide (a1.lo.val<0)) (.br (decide (a0.lo.val<0)) (.br (decide (a0.hi.val>=0)) (.leaf zF) (.leaf (zaC (zaC (zaa a0.lo a1.lo) (zaa a0.lo a1.hi)) (zaC (zaa a0.hi a1.lo) (zaa a0.hi a1.hi))))) (.leaf (zaC (zaC (zaa a0.lo a1.lo) (zaa a0.lo a1.hi)) (zaC (zaa a0.hi a1.lo) (zaa a0.hi a1.hi))))) (.leaf (zaC (zaC (zaa a0.lo a1.lo) (zaa a0.lo a1.hi)) (zaC (zaa a0.hi a1.lo) (zaa a0.hi a1.hi))))))
theorem r_impl_DirectionI (a0:Iv) (a1:Iv):Tb84.run B84 [enc a0,enc a1] (Iv)=(t_impl_DirectionI a0 a1).opt:=by kernel_rfl
def zdB:Iv->Iv->Iv:=fun a0 a1=>(t_impl_DirectionI a0 a1).get
theorem u_impl_DirectionI (a0:Iv) (a1:Iv):(t_impl_DirectionI a0 a1).opt=some (zdB a0 a1):=Tr.zT (by kernel_rfl)
def E_impl_DirectionI:Ent Tryz.prog:= .of2 Tb84 B84 (fun _ _=>true) zdB fun a0 a1 _=>(r_impl_DirectionI a0 a1).trans (u_impl_DirectionI a0 a1)
def B17:Bod Tryz.prog:=⟨17,Tryz.f17,Tryz.f17.body.getD .skip,Tryz.func17,by kernel_rfl,by kernel_rfl,zan.no _ _⟩
def Tb17:Tb Tryz.prog:= {T:= [Y2,Y30],mix:=mix,Es:= [zcI],Bs:= [],d:=1}
def t_spec_LessI (a0:Iv) (a1:Iv):Tr (I64):=
 .br (!(zf a0)) (.leaf ⟨2,rfl⟩) (.br (!(zf a1)) (.leaf ⟨2,rfl⟩) (.br (decide (a0.hi.val<a1.lo.val)) (.leaf ⟨1,rfl⟩) (.br (decide (a0.lo.val>=a1.hi.val)) (.leaf ⟨0,rfl⟩) (.leaf ⟨2,rfl⟩))))
theorem r_spec_LessI (a0:Iv) (a1:Iv):Tb17.run B17 [enc a0,enc a1] (I64)=(t_spec_LessI a0 a1).opt:=by kernel_rfl
def F_spec_LessI:Iv->Iv->I64:=fun a0 a1=>(t_spec_LessI a0 a1).get
theorem u_spec_LessI (a0:Iv) (a1:Iv):(t_spec_LessI a0 a1).opt=some (F_spec_LessI a0 a1):=Tr.zT (by kernel_rfl)
def E_spec_LessI:Ent Tryz.prog:= .of2 Tb17 B17 (fun _ _=>true) F_spec_LessI fun a0 a1 _=>(r_spec_LessI a0 a1).trans (u_spec_LessI a0 a1)
def t_spec_l08At (a0:I64):Tr (Iv):=
 .leaf (z8 a0 a0)
def za3:I64->Iv:=fun a0=>(t_spec_l08At a0).get
def t_spec_l08One:Tr (Iv):=
 .leaf (za3 ⟨4294967296,rfl⟩)
def zab:Iv:=(t_spec_l08One).get
def t_spec_l08Widen (a0:Iv) (a1:I64):Tr (Iv):=
 .br (!(zf a0)) (.leaf zk) (.leaf (z8 (Rng.w .i64 (a0.lo.val-a1.val)) (Rng.w .i64 (a0.hi.val+a1.val))))
def zbt:Iv->I64->Iv:=fun a0 a1=>(t_spec_l08Widen a0 a1).get
structure zen where
 x0:I64
 x1:I64
 x2:I64
 x3:I64
 x4:I64
 x5:I64
instance:Inhabited zen:=⟨⟨default,default,default,default,default,default⟩⟩
def rd_spec_LogAt_5:St->Option zen:=fun s=>match s with
 | ⟨[(0,.i64 x0),(2,.ptr 0 0),(3,.i64 x1),(4,.ptr 1 0)],79,⟨[(0,[.i64 x2,.i64 x3]),(1,[.i64 x4,.i64 x5])],2,0⟩⟩=>some ⟨x0,x1,x2,x3,x4,x5⟩
 | _=>none
def zfx (x:zen):Tr (Lp zen):=
 .br (decide (x.x4.val>=6442450944)) (let c4:=(Rng.w .i64 (x.x1.val+1));.leaf (.again ⟨x.x0,c4,x.x2,x.x3,(Rng.w .i64 (x.x0.val.fdiv (2^min ((Rng.w .u64 (c4.val)).val).toNat 64))),(Rng.w .i64 (0-(Rng.w .i64 ((Rng.w .i64 (0-x.x0.val)).val.fdiv (2^min ((Rng.w .u64 (c4.val)).val).toNat 64))).val))⟩)) (.leaf (.out ⟨x.x0,x.x1,x.x2,x.x3,x.x4,x.x5⟩))
def G_spec_LogAt_5 (x:zen):Bool:=(Lf zfx 70 x).opt.isSome
def L_spec_LogAt_5 (x:zen):zen:=(Lf zfx 70 x).get
structure zfy where
 x0:I64
 x1:I64
 x2:I64
 x3:I64
 x4:I64
 x5:I64
instance:Inhabited zfy:=⟨⟨default,default,default,default,default,default⟩⟩
def zdo (x:zfy):Tr (Lp zfy):=
 .br (decide (x.x4.val<3221225472)) (let c11:=(Rng.w .i64 (x.x1.val-1));.leaf (.again ⟨x.x0,c11,x.x2,x.x3,(Rng.w .i64 (x.x0.val*(2^min ((Rng.w .u64 ((Rng.w .i64 (0-c11.val)).val)).val).toNat 64))),(Rng.w .i64 (x.x0.val*(2^min ((Rng.w .u64 ((Rng.w .i64 (0-c11.val)).val)).val).toNat 64)))⟩)) (.leaf (.out ⟨x.x0,x.x1,x.x2,x.x3,x.x4,x.x5⟩))
def G_spec_LogAt_8 (x:zfy):Bool:=(Lf zdo 70 x).opt.isSome
def L_spec_LogAt_8 (x:zfy):zfy:=(Lf zdo 70 x).get
def t_spec_LogAt (a0:I64):Tr (Iv):=
 .br (!(zah a0 ⟨1,rfl⟩ ⟨1152921504606846976,rfl⟩)) (.leaf zk) (.br (G_spec_LogAt_5 ⟨a0,⟨0,rfl⟩,⟨0,rfl⟩,⟨0,rfl⟩,a0,a0⟩) (let c9:=L_spec_LogAt_5 ⟨a0,⟨0,rfl⟩,⟨0,rfl⟩,⟨0,rfl⟩,a0,a0⟩;.br (G_spec_LogAt_8 ⟨c9.x0,c9.x1,c9.x2,c9.x3,c9.x4,c9.x5⟩) (let c16:=L_spec_LogAt_8 ⟨c9.x0,c9.x1,c9.x2,c9.x3,c9.x4,c9.x5⟩;let c21:=zw (zR ⟨c16.x4,c16.x5⟩ zab) (zG ⟨c16.x4,c16.x5⟩ zab);let c22:=zaW c21;.leaf (zG (zaG c16.x1) (zbt (zu (zu (zm ⟨2,rfl⟩) c21) (zG (zQ ⟨1,rfl⟩ ⟨1,rfl⟩) (zu c22 (zG (zQ ⟨1,rfl⟩ ⟨3,rfl⟩) (zu c22 (zG (zQ ⟨1,rfl⟩ ⟨5,rfl⟩) (zu c22 (zG (zQ ⟨1,rfl⟩ ⟨7,rfl⟩) (zu c22 (zG (zQ ⟨1,rfl⟩ ⟨9,rfl⟩) (zu c22 (zQ ⟨1,rfl⟩ ⟨11,rfl⟩)))))))))))) ⟨1,rfl⟩))) (.bad)) (.bad))
def zed:I64->Iv:=fun a0=>(t_spec_LogAt a0).get
structure zc2 where
 x0:I64
 x1:I64
instance:Inhabited zc2:=⟨⟨default,default⟩⟩
def st_impl_twosOf_2 (x:zc2):St:=⟨[(0,.i64 x.x0),(3,.i64 x.x1)],22,⟨[],0,0⟩⟩
def rd_impl_twosOf_2:St->Option zc2:=fun s=>match s with
 | ⟨[(0,.i64 x0),(3,.i64 x1)],22,⟨[],0,0⟩⟩=>some ⟨x0,x1⟩
 | _=>none
def zdK (x:zc2):Tr (Lp zc2):=
 .br (decide (x.x1.val<0)) (.bad) (.br (decide ((Rng.w .i64 (x.x0.val.fdiv (2^min (x.x1.val).toNat 64))).val>=6442450944)) (.leaf (.again ⟨x.x0,(Rng.w .i64 (x.x1.val+1))⟩)) (.leaf (.out ⟨x.x0,x.x1⟩)))
def G_impl_twosOf_2 (x:zc2):Bool:=(Lf zdK 70 x).opt.isSome
def L_impl_twosOf_2 (x:zc2):zc2:=(Lf zdK 70 x).get
def TbL_impl_twosOf_2:Tb Tryz.prog:= {T:= [],mix:=mix,Es:= [],Bs:= [],d:=1}
def P_impl_twosOf_2:LpF:=loopF [0,3] [] 0 rd_impl_twosOf_2 st_impl_twosOf_2 (.exit 0) G_impl_twosOf_2 L_impl_twosOf_2
theorem lok_impl_twosOf_2:LoopOk Tryz.prog (loopAt (Tryz.f330.body.getD .skip) 0) P_impl_twosOf_2:=loopF_ok (t:=TbL_impl_twosOf_2) (lt:=fun _=>none) (body:=zdK) (n:=70) (by intro h;cases h) (fun _ _ _ h=>by cases h)
 (by intro s x h;unfold rd_impl_twosOf_2 at h;split at h<;>cases h;rfl) (fun x b cs h=>lk_lt (l:=(st_impl_twosOf_2 x).mm.blks) (by kernel_rfl) h) (by intro x;kernel_rfl) (fun x h=>Tr.get_some h)
structure zc1 where
 x0:I64
 x1:I64
instance:Inhabited zc1:=⟨⟨default,default⟩⟩
def st_impl_twosOf_4 (x:zc1):St:=⟨[(0,.i64 x.x0),(3,.i64 x.x1)],22,⟨[],0,0⟩⟩
def rd_impl_twosOf_4:St->Option zc1:=fun s=>match s with
 | ⟨[(0,.i64 x0),(3,.i64 x1)],22,⟨[],0,0⟩⟩=>some ⟨x0,x1⟩
 | _=>none
def zcw (x:zc1):Tr (Lp zc1):=
 .br (decide (x.x1.val<=0)) (let c5:=(Rng.w .i64 (0-x.x1.val));.br (decide (c5.val<0)) (.bad) (.br (decide ((Rng.w .i64 (x.x0.val*(2^min (c5.val).toNat 64))).val<3221225472)) (.leaf (.again ⟨x.x0,(Rng.w .i64 (x.x1.val-1))⟩)) (.leaf (.out ⟨x.x0,x.x1⟩)))) (.leaf (.out ⟨x.x0,x.x1⟩))
def zeH (x:zc1):Bool:=(Lf zcw 70 x).opt.isSome
def L_impl_twosOf_4 (x:zc1):zc1:=(Lf zcw 70 x).get
def TbL_impl_twosOf_4:Tb Tryz.prog:= {T:= [],mix:=mix,Es:= [],Bs:= [],d:=1}
def P_impl_twosOf_4:LpF:=loopF [0,3] [] 0 rd_impl_twosOf_4 st_impl_twosOf_4 (.exit 2) zeH L_impl_twosOf_4
theorem lok_impl_twosOf_4:LoopOk Tryz.prog (loopAt (Tryz.f330.body.getD .skip) 1) P_impl_twosOf_4:=loopF_ok (t:=TbL_impl_twosOf_4) (lt:=fun _=>none) (body:=zcw) (n:=70) (by intro h;cases h) (fun _ _ _ h=>by cases h)
 (by intro s x h;unfold rd_impl_twosOf_4 at h;split at h<;>cases h;rfl) (fun x b cs h=>lk_lt (l:=(st_impl_twosOf_4 x).mm.blks) (by kernel_rfl) h) (by intro x;kernel_rfl) (fun x h=>Tr.get_some h)
def B330:Bod Tryz.prog:=⟨330,Tryz.f330,Tryz.f330.body.getD .skip,Tryz.func330,by kernel_rfl,by kernel_rfl,⟨ltOf [(2,P_impl_twosOf_2),(4,P_impl_twosOf_4)],zan.of (ks:= [2,4]) (by kernel_rfl) (by
 intro i k h f hf
 match i,h with
 | 0,h=>cases h;obtain rfl:P_impl_twosOf_2=f:=Option.some.inj hf;exact lok_impl_twosOf_2
 | 1,h=>cases h;obtain rfl:P_impl_twosOf_4=f:=Option.some.inj hf;exact lok_impl_twosOf_4
 | n+2,h=>simp at h)⟩⟩
def Tb330:Tb Tryz.prog:= {T:= [],mix:=mix,Es:= [],Bs:= [],d:=1}
def ze6 (a0:I64):Tr (I64):=
 .br (G_impl_twosOf_2 ⟨a0,⟨0,rfl⟩⟩) (let c4:=L_impl_twosOf_2 ⟨a0,⟨0,rfl⟩⟩;.br (zeH ⟨c4.x0,c4.x1⟩) (.leaf (L_impl_twosOf_4 ⟨c4.x0,c4.x1⟩).x1) (.bad)) (.bad)
theorem r_impl_twosOf (a0:I64):Tb330.run B330 [enc a0] (I64)=(ze6 a0).opt:=by kernel_rfl
def F_impl_twosOf:I64->I64:=fun a0=>(ze6 a0).get
def G_impl_twosOf:I64->Bool:=fun a0=>(ze6 a0).opt.isSome
def E_impl_twosOf:Ent Tryz.prog:= .of1 Tb330 B330 G_impl_twosOf F_impl_twosOf fun a0 h=>(r_impl_twosOf a0).trans (Tr.get_some h)
def B332:Bod Tryz.prog:=⟨332,Tryz.f332,Tryz.f332.body.getD .skip,Tryz.func332,by kernel_rfl,by kernel_rfl,zan.no _ _⟩
def Tb332:Tb Tryz.prog:= {T:= [Y2,Y30],mix:=mix,Es:= [zbn,zdj],Bs:= [],d:=1}
def t_impl_widened (a0:Iv) (a1:I64):Tr (Iv):=
 .leaf (zaI (Rng.w .i64 (a0.lo.val-a1.val)) (Rng.w .i64 (a0.hi.val+a1.val)) (zbq a0))
theorem r_impl_widened (a0:Iv) (a1:I64):Tb332.run B332 [enc a0,enc a1] (Iv)=(t_impl_widened a0 a1).opt:=by kernel_rfl
def zdr:Iv->I64->Iv:=fun a0 a1=>(t_impl_widened a0 a1).get
theorem u_impl_widened (a0:Iv) (a1:I64):(t_impl_widened a0 a1).opt=some (zdr a0 a1):=Tr.zT (by kernel_rfl)
def E_impl_widened:Ent Tryz.prog:= .of2 Tb332 B332 (fun _ _=>true) zdr fun a0 a1 _=>(r_impl_widened a0 a1).trans (u_impl_widened a0 a1)
def B287:Bod Tryz.prog:=⟨287,Tryz.f287,Tryz.f287.body.getD .skip,Tryz.func287,by kernel_rfl,by kernel_rfl,zan.no _ _⟩
def Tb287:Tb Tryz.prog:= {T:= [Y2,Y30],mix:=mix,Es:= [zbo,zcP,zcm,zcO,zcA,zal,zd0,ze5,zeS,zc7,E_impl_twosOf,ET_impl_LogTwoI,E_impl_widened],Bs:= [],d:=1}
def zeV (a0:I64):Tr (Iv):=
 .br (!(zaR a0)) (.leaf zF) (.br (decide (a0.val<=0)) (.leaf zF) (.br (G_impl_twosOf a0) (let c4:=F_impl_twosOf a0;.br (decide (c4.val>0)) (.br (decide (c4.val<0)) (.bad) (let c6:=(Rng.w .i64 (a0.val.fdiv (2^min (c4.val).toNat 64)));.br (decide (c4.val<0)) (.bad) (let c9:=(Rng.w .i64 (0-(Rng.w .i64 ((Rng.w .i64 (0-a0.val)).val.fdiv (2^min (c4.val).toNat 64))).val));let c14:=zae (zax ⟨c6,c9⟩ (zy ⟨1,rfl⟩)) (zY ⟨c6,c9⟩ (zy ⟨1,rfl⟩));let c15:=zde c14;.leaf (zY (zdu c4) (zdr (zK (zK (zy ⟨2,rfl⟩) c14) (zY (zad ⟨1,rfl⟩ ⟨1,rfl⟩) (zK c15 (zY (zad ⟨1,rfl⟩ ⟨3,rfl⟩) (zK c15 (zY (zad ⟨1,rfl⟩ ⟨5,rfl⟩) (zK c15 (zY (zad ⟨1,rfl⟩ ⟨7,rfl⟩) (zK c15 (zY (zad ⟨1,rfl⟩ ⟨9,rfl⟩) (zK c15 (zad ⟨1,rfl⟩ ⟨11,rfl⟩)))))))))))) ⟨1,rfl⟩))))) (let c38:=(Rng.w .i64 (0-c4.val));.br (decide (c38.val<0)) (.bad) (let c40:=za8 (Rng.w .i64 (a0.val*(2^min (c38.val).toNat 64)));let c45:=zae (zax c40 (zy ⟨1,rfl⟩)) (zY c40 (zy ⟨1,rfl⟩));let c46:=zde c45;.leaf (zY (zdu c4) (zdr (zK (zK (zy ⟨2,rfl⟩) c45) (zY (zad ⟨1,rfl⟩ ⟨1,rfl⟩) (zK c46 (zY (zad ⟨1,rfl⟩ ⟨3,rfl⟩) (zK c46 (zY (zad ⟨1,rfl⟩ ⟨5,rfl⟩) (zK c46 (zY (zad ⟨1,rfl⟩ ⟨7,rfl⟩) (zK c46 (zY (zad ⟨1,rfl⟩ ⟨9,rfl⟩) (zK c46 (zad ⟨1,rfl⟩ ⟨11,rfl⟩)))))))))))) ⟨1,rfl⟩))))) (.bad)))
theorem r_impl_LogAt (a0:I64):Tb287.run B287 [enc a0] (Iv)=(zeV a0).opt:=by kernel_rfl
def F_impl_LogAt:I64->Iv:=fun a0=>(zeV a0).get
end
end Go.Proofs.YtfcjhkkpbnobhaaGreat.Ev
namespace Go.Proofs.YtfcjhkkpbnobhaaGreat.Ev
open Go
theorem ctr {α:Type} (a b:α):(bif true then a else b)=a:=by simp
theorem cfl {α:Type} (a b:α):(bif false then a else b)=b:=by simp
theorem siw_eq (a:Iv):zfB a= !(zf a):=by simp only [zfB,t_spec_IsWhole,Tr.get]
theorem hasI_eq (a:Iv) (n:I64):zeq a n=F_spec_HasI a n:=by
 simp only [zeq,t_impl_HasI,F_spec_HasI,t_spec_HasI,za7,zcR,Tr.get,isw_eq,zbX,zdg]
theorem atanI_impl (a:Iv):zck a=bif zam a then zbW else zaC (zfe a.lo) (zfe a.hi):=by
 simp only [zck,t_impl_AtanI,Tr.get]
theorem atanI_spec (a:Iv):zas a=bif zfB a then zbk else zac (zdl a.lo) (zdl a.hi):=by
 simp only [zas,t_spec_AtanI,Tr.get]
theorem atanI_eq (a:Iv):zck a=zas a:=by
 rw [atanI_impl,atanI_spec,isw_eq,siw_eq,half_eq,atan_eq,atan_eq,hull_eq]
theorem dirAt_eq (y x:I64):zaa y x=zai y x:=by
 simp only [zaa,zfM,zai,t_spec_DirectionAt,Tr.get]
 simp only [fix_eq,atanI_eq,divI_F,at_eq,sub_eq,add_eq,turnI_eq,zaU,zcu]
 cases hy:zbV y
 ·rfl
 cases hx:zbV x
 ·rfl
 have by':=(fix_iff y).1 hy
 have bx:=(fix_iff x).1 hx
 have ey:(Rng.w .i64 (0-y.val)).val= -y.val:=by rw [wi (by omega) (by omega)];omega
 have ex:(Rng.w .i64 (0-x.val)).val= -x.val:=by rw [wi (by omega) (by omega)];omega
 have ay:=abs_val y (by omega)
 have ax:=abs_val x (by omega)
 simp only [Bool.not_true,cond_false,ey,ex]
 by_cases hn:y.val<0
 ·have hA:decide ((zcj y).val>(zcj x).val)=(decide (-y.val>x.val)&&decide (-y.val > -x.val)):=by
   rw [ay,ax,if_pos hn,<- Bool.decide_and,decide_eq_decide]
   split<;>omega
  simp only [hn,decide_true,cond_true,hA]
  generalize decide (-y.val>x.val)=b1
  generalize decide (-y.val > -x.val)=b2
  generalize decide (x.val>0)=b3
  generalize (x.val==0)=b4
  generalize (y.val==0)=b5
  cases b1<;>cases b2<;>cases b3<;>cases b4<;>cases b5<;>simp only [ctr,cfl,Bool.and_self,Bool.and_false,Bool.and_true,Bool.false_and,Bool.true_and]
 ·have hA:decide ((zcj y).val>(zcj x).val)=(decide (y.val>x.val)&&decide (y.val > -x.val)):=by
   rw [ay,ax,if_neg hn,<- Bool.decide_and,decide_eq_decide]
   split<;>omega
  simp only [hn,decide_false,cond_false,hA]
  generalize decide (y.val>x.val)=b1
  generalize decide (y.val > -x.val)=b2
  generalize decide (x.val>0)=b3
  generalize (x.val==0)=b4
  generalize (y.val==0)=b5
  cases b1<;>cases b2<;>cases b3<;>cases b4<;>cases b5<;>simp only [ctr,cfl,Bool.and_self,Bool.and_false,Bool.and_true,Bool.false_and,Bool.true_and]
theorem dirI_eq (y x:Iv):zdB y x=F_spec_DirectionI y x:=by
 simp only [zdB,t_impl_DirectionI,F_spec_DirectionI,t_spec_DirectionI,Tr.get]
 simp only [areb_eq,siw_eq,hasI_eq,dirAt_eq,hull_eq,zaU,zcu]
 cases zf y<;>cases zf x<;>simp only [ctr,cfl,Bool.and_self,Bool.and_false,Bool.and_true,Bool.false_and,Bool.true_and,Bool.not_true,Bool.not_false]
end Go.Proofs.YtfcjhkkpbnobhaaGreat.Ev
namespace Go.Proofs.YtfcjhkkpbnobhaaGreat.Ev
open Go
def shr (n e:I64):I64:= .w .i64 (n.val.fdiv (2^min e.val.toNat 64))
def shl (n e:I64):I64:= .w .i64 (n.val*(2^min e.val.toNat 64))
theorem lshr_val {n e:I64} (h:0<=e.val) (h':e.val<=40):(shr n e).val=n.val/2^e.val.toNat:=by
 unfold shr
 rw [Nat.min_eq_left (by omega),fdpow]
 have hp:(0:Int)<2^e.val.toNat:=Int.pow_pos (by decide)
 have:=ediv_bd1 hp n.bd
 exact wi this.1 this.2
theorem log_up (n:I64) (hn:1<=n.val/\n.val<=1152921504606846976) (x2 x3:I64):∀(j:Nat) (m:Nat) (e:I64),e.val=32-(j:Int)->j<=32->
  ∃E:I64,e.val<=E.val/\E.val<=32/\(Lf zfx (j+1+m) ⟨n,e,x2,x3,shr n e,.w .i64 (0-(shr (.w .i64 (0-n.val)) e).val)⟩).opt=some ⟨n,E,x2,x3,shr n E,.w .i64 (0-(shr (.w .i64 (0-n.val)) E).val)⟩ /\
   (Lf zdK (j+1+m) ⟨n,e⟩).opt=some ⟨n,E⟩/\(shr n E).val<6442450944/\(E=e\/3221225472<=(shr n E).val):=by
 intro j
 induction j with
 | zero=>
  intro m e he _
  have hv:=lshr_val (n:=n) (e:=e) (by omega) (by omega)
  have hp:(2:Int)^e.val.toNat=4294967296:=by rw [show e.val.toNat=32 by omega];rfl
  have hlt:¬(shr n e).val>=6442450944:=by rw [hv,hp];omega
  have hlt':¬(Rng.w .i64 (n.val.fdiv (2^min e.val.toNat 64))).val>=6442450944:=hlt
  have hneg:decide (e.val<0)=false:=by simp;omega
  refine ⟨e,by omega,by omega,?_,?_,by omega,.inl rfl⟩
  ·simp only [Lf,zfx,hlt,decide_false,Tr.bind,Tr.opt,cond_false,Nat.zero_add,Nat.add_comm 1 m]
  ·simp only [Lf,zdK,hneg,hlt',decide_false,Tr.bind,Tr.opt,cond_false,Nat.zero_add,Nat.add_comm 1 m]
 | succ j ih=>
  intro m e he hj
  have hv:=lshr_val (n:=n) (e:=e) (by omega) (by omega)
  have hneg:decide (e.val<0)=false:=by simp;omega
  have ev:(Rng.w .i64 (e.val+1)).val=e.val+1:=wi (by omega) (by omega)
  have hfuel:j+1+1+m=(j+1+m)+1:=by omega
  by_cases hc:(shr n e).val>=6442450944
  ·have hc':(Rng.w .i64 (n.val.fdiv (2^min e.val.toNat 64))).val>=6442450944:=hc
   obtain ⟨E,h1,h2,h3,h4,h5,h6⟩:=ih m (.w .i64 (e.val+1)) (by rw [ev];omega) (by omega)
   have en:(Rng.w .u64 (Rng.w .i64 (e.val+1)).val).val=(Rng.w .i64 (e.val+1)).val:=by rw [ev];exact wu (by omega) (by omega)
   refine ⟨E,by omega,h2,?_,?_,h5,.inr ?_⟩
   ·rw [hfuel]
    simp only [Lf,zfx,hc,decide_true,Tr.bind,Tr.opt,cond_true,en]
    exact h3
   ·rw [hfuel]
    simp only [Lf,zdK,hneg,hc',decide_true,Tr.bind,Tr.opt,cond_true,cond_false]
    exact h4
   ·rcases h6 with h6|h6
    ·have hv2:=lshr_val (n:=n) (e:= .w .i64 (e.val+1)) (by rw [ev];omega) (by rw [ev];omega)
     rw [h6,hv2,ev,show (e.val+1).toNat=e.val.toNat+1 by omega,Int.pow_succ,<- Int.ediv_ediv_of_nonneg (Int.pow_nonneg (by decide)),<- hv]
     omega
    ·exact h6
  ·have hc':¬(Rng.w .i64 (n.val.fdiv (2^min e.val.toNat 64))).val>=6442450944:=hc
   refine ⟨e,by omega,by omega,?_,?_,by omega,.inl rfl⟩
   ·rw [hfuel]
    simp only [Lf,zfx,hc,decide_false,Tr.bind,Tr.opt,cond_false]
   ·rw [hfuel]
    simp only [Lf,zdK,hneg,hc',decide_false,Tr.bind,Tr.opt,cond_false]
def sl (n e:I64):I64:=shl n (.w .i64 (0-e.val))
theorem log_dn (n:I64) (hn:1<=n.val) (x2 x3:I64):∀(j:Nat) (m:Nat) (e:I64),e.val=(j:Int)-32->j<=32->n.val*2^(32-j)<6442450944->
  ∃E:I64,E.val<=e.val /\ -32<=E.val/\(Lf zdo (j+1+m) ⟨n,e,x2,x3,sl n e,sl n e⟩).opt=some ⟨n,E,x2,x3,sl n E,sl n E⟩ /\
   (Lf zcw (j+1+m) ⟨n,e⟩).opt=some ⟨n,E⟩/\3221225472<=(sl n E).val/\(sl n E).val<6442450944/\∃k:Nat,E.val= -(k:Int)/\(sl n E).val=n.val*2^k:=by
 have slv:∀(k:Nat) (e:I64),e.val= -(k:Int)->k<=32->n.val*2^k<6442450944->(sl n e).val=n.val*2^k:=fun k e he hk hlt=>by
  have e1:(Rng.w .i64 (0-e.val)).val=(k:Int):=by rw [wi (by omega) (by omega)];omega
  have hnn:0<=n.val*2^k:=Int.mul_nonneg (by omega) (Int.pow_nonneg (by decide))
  unfold sl shl
  rw [e1,Int.toNat_natCast,Nat.min_eq_left (by omega)]
  exact wi (by omega) (by omega)
 intro j
 induction j with
 | zero=>
  intro m e he _ hb
  have hv:=slv 32 e (by omega) (by omega) hb
  have hp:(2:Int)^32=4294967296:=rfl
  have hge:¬(sl n e).val<3221225472:=by rw [hv,hp];omega
  have hge':¬(Rng.w .i64 (n.val*(2^min (Rng.w .i64 (0-e.val)).val.toNat 64))).val<3221225472:=hge
  have e1:(Rng.w .i64 (0-e.val)).val=0-e.val:=wi (by omega) (by omega)
  have hneg:decide ((Rng.w .i64 (0-e.val)).val<0)=false:=by rw [e1];simp;omega
  have hle:decide (e.val<=0)=true:=by simp;omega
  refine ⟨e,by omega,by omega,?_,?_,by omega,by omega,32,by omega,hv⟩
  ·simp only [Lf,zdo,hge,decide_false,Tr.bind,Tr.opt,cond_false,Nat.zero_add,Nat.add_comm 1 m]
  ·simp only [Lf,zcw,hle,hneg,hge',decide_false,Tr.bind,Tr.opt,cond_true,cond_false,Nat.zero_add,Nat.add_comm 1 m]
 | succ j ih=>
  intro m e he hj hb
  have hk:32-(j+1)+1=32-j:=by omega
  have hv:=slv (32-(j+1)) e (by omega) (by omega) hb
  have e1:(Rng.w .i64 (0-e.val)).val=0-e.val:=wi (by omega) (by omega)
  have hneg:decide ((Rng.w .i64 (0-e.val)).val<0)=false:=by rw [e1];simp;omega
  have hle:decide (e.val<=0)=true:=by simp;omega
  have ev:(Rng.w .i64 (e.val-1)).val=e.val-1:=wi (by omega) (by omega)
  have hfuel:j+1+1+m=(j+1+m)+1:=by omega
  by_cases hc:(sl n e).val<3221225472
  ·have hc':(Rng.w .i64 (n.val*(2^min (Rng.w .i64 (0-e.val)).val.toNat 64))).val<3221225472:=hc
   have e2:(Rng.w .i64 (0-(Rng.w .i64 (e.val-1)).val)).val=0-(e.val-1):=by rw [ev];exact wi (by omega) (by omega)
   have en:(Rng.w .u64 (Rng.w .i64 (0-(Rng.w .i64 (e.val-1)).val)).val).val=(Rng.w .i64 (0-(Rng.w .i64 (e.val-1)).val)).val:=by rw [e2];exact wu (by omega) (by omega)
   obtain ⟨E,h1,h2,h3,h4,h5⟩:=ih m (.w .i64 (e.val-1)) (by rw [ev];omega) (by omega) (by rw [<- hk,Int.pow_succ,<- Int.mul_assoc,<- hv];omega)
   refine ⟨E,by omega,h2,?_,?_,h5⟩
   ·rw [hfuel]
    simp only [Lf,zdo,hc,decide_true,Tr.bind,Tr.opt,cond_true,en]
    exact h3
   ·rw [hfuel]
    simp only [Lf,zcw,hle,hneg,hc',decide_true,Tr.bind,Tr.opt,cond_true,cond_false]
    exact h4
  ·have hc':¬(Rng.w .i64 (n.val*(2^min (Rng.w .i64 (0-e.val)).val.toNat 64))).val<3221225472:=hc
   refine ⟨e,by omega,by omega,?_,?_,by omega,by rw [hv];exact hb,32-(j+1),by omega,hv⟩
   ·rw [hfuel]
    simp only [Lf,zdo,hc,decide_false,Tr.bind,Tr.opt,cond_false]
   ·rw [hfuel]
    simp only [Lf,zcw,hle,hneg,hc',decide_false,Tr.bind,Tr.opt,cond_true,cond_false]
def logTail (m:Iv) (e:I64):Iv:=
 let z:=zw (zR m zab) (zG m zab)
 let q:=zaW z
 zG (zaG e) (zbt (zu (zu (zm ⟨2,rfl⟩) z) (zG (zQ ⟨1,rfl⟩ ⟨1,rfl⟩) (zu q (zG (zQ ⟨1,rfl⟩ ⟨3,rfl⟩) (zu q (zG (zQ ⟨1,rfl⟩ ⟨5,rfl⟩) (zu q (zG (zQ ⟨1,rfl⟩ ⟨7,rfl⟩) (zu q (zG (zQ ⟨1,rfl⟩ ⟨9,rfl⟩) (zu q (zQ ⟨1,rfl⟩ ⟨11,rfl⟩)))))))))))) ⟨1,rfl⟩)
theorem one_eq:zm ⟨1,rfl⟩=zab:=by
 rw [int_val (by decide)]
 simp only [zab,t_spec_l08One,za3,t_spec_l08At,Tr.get]
 exact (zbT (by decide)).symm
theorem widen_eq (a:Iv) (n:I64):zdr a n=zbt a n:=by
 simp only [zdr,t_impl_widened,zbt,t_spec_l08Widen,Tr.get,zcL,valid_eq]
 cases zf a<;>simp [ctr,cfl]
theorem ediv_neg {a p:Int} (hp:0<p) (ha:a<=0):a<=a/p/\a/p<=0:=by
 constructor
 ·rw [Int.le_ediv_iff_mul_le hp]
  have h:=Int.mul_nonneg (show 0 <= -a by omega) (show 0<=p-1 by omega)
  rw [Int.neg_mul,Int.mul_sub] at h
  omega
 ·have:a/p<1:=(Int.ediv_lt_iff_lt_mul hp).2 (by omega)
  omega
def LogM (n:I64) (m:Iv) (E:I64):Prop:=
 ∃k:Nat,k<=32/\((E.val=(k:Int)/\m.lo.val=n.val/2^k/\m.hi.val= -(-n.val/2^k))\/(E.val= -(k:Int)/\m.lo=m.hi/\m.lo.val=n.val*2^k))/\3221225472<=m.lo.val/\m.lo.val<6442450944
theorem logAt_two (n:I64):∃y,(t_spec_LogAt n).opt=some y/\(zeV n).opt=some y/\((1<=n.val/\n.val<=1152921504606846976/\∃m E,LogM n m E/\y=logTail m E)\/(¬(1<=n.val/\n.val<=1152921504606846976)/\y=zk)):=by
 by_cases hn:1<=n.val/\n.val<=1152921504606846976
 ·have hi:zah n ⟨1,rfl⟩ ⟨1152921504606846976,rfl⟩=true:=by rw [zdg];simpa using hn
  have hv:zaR n=true:=by rw [okfix_eq];exact ok3 (by omega)
  have hp:decide (n.val<=0)=false:=by simp;omega
  obtain ⟨E,a1,a2,a3,a4,a5,a6⟩:=log_up n hn ⟨0,rfl⟩ ⟨0,rfl⟩ 32 37 ⟨0,rfl⟩ rfl (by decide)
  have z1:shr n ⟨0,rfl⟩=n:=by
   unfold shr
   show Rng.w .i64 (n.val.fdiv (2^0))=n
   rw [show (2:Int)^0=1 by rfl,Int.fdiv_one];exact Rng.w_val _
  have z2:Rng.w .i64 (0-(shr (.w .i64 (0-n.val)) ⟨0,rfl⟩).val)=n:=by
   have:shr (.w .i64 (0-n.val)) ⟨0,rfl⟩= .w .i64 (0-n.val):=by
    unfold shr
    show Rng.w .i64 ((Rng.w .i64 (0-n.val)).val.fdiv (2^0))=_
    rw [show (2:Int)^0=1 by rfl,Int.fdiv_one];exact Rng.w_val _
   rw [this]
   exact rext (by rw [wi (n:=0-n.val) (by omega) (by omega),wi (by omega) (by omega)];omega)
  have hf:(32+1+37:Nat)=70:=rfl
  rw [hf,z1,z2] at a3
  rw [hf] at a4
  have g5:G_spec_LogAt_5 ⟨n,⟨0,rfl⟩,⟨0,rfl⟩,⟨0,rfl⟩,n,n⟩=true:=by unfold G_spec_LogAt_5;rw [a3];rfl
  have l5:L_spec_LogAt_5 ⟨n,⟨0,rfl⟩,⟨0,rfl⟩,⟨0,rfl⟩,n,n⟩=_:=Tr.zar a3
  have g2:G_impl_twosOf_2 ⟨n,⟨0,rfl⟩⟩=true:=by unfold G_impl_twosOf_2;rw [a4];rfl
  have l2:L_impl_twosOf_2 ⟨n,⟨0,rfl⟩⟩=_:=Tr.zar a4
  by_cases hE:E.val>0
  ·have hge:3221225472<=(shr n E).val:=by
    rcases a6 with h|h
    ·rw [h] at hE;exact absurd hE (by decide)
    ·exact h
   have hd:decide ((shr n E).val<3221225472)=false:=by simp;omega
   have hd2:decide (E.val<=0)=false:=by simp;omega
   have b3':∀k,(Lf zdo (k+1) ⟨n,E,⟨0,rfl⟩,⟨0,rfl⟩,shr n E,.w .i64 (0-(shr (.w .i64 (0-n.val)) E).val)⟩).opt=some ⟨n,E,⟨0,rfl⟩,⟨0,rfl⟩,shr n E,.w .i64 (0-(shr (.w .i64 (0-n.val)) E).val)⟩:=by
    intro k;simp only [Lf,zdo,hd,Tr.bind,Tr.opt,cond_false]
   have b4':∀k,(Lf zcw (k+1) ⟨n,E⟩).opt=some ⟨n,E⟩:=by intro k;simp only [Lf,zcw,hd2,Tr.bind,Tr.opt,cond_false]
   have b3:=b3' 69
   have b4:=b4' 69
   have g8:G_spec_LogAt_8 ⟨n,E,⟨0,rfl⟩,⟨0,rfl⟩,shr n E,.w .i64 (0-(shr (.w .i64 (0-n.val)) E).val)⟩=true:=by unfold G_spec_LogAt_8;rw [b3];rfl
   have l8:L_spec_LogAt_8 ⟨n,E,⟨0,rfl⟩,⟨0,rfl⟩,shr n E,.w .i64 (0-(shr (.w .i64 (0-n.val)) E).val)⟩=_:=Tr.zar b3
   have g4:zeH ⟨n,E⟩=true:=by unfold zeH;rw [b4];rfl
   have l4:L_impl_twosOf_4 ⟨n,E⟩=_:=Tr.zar b4
   have tw:(ze6 n).opt=some E:=by simp only [ze6,Tr.opt,g2,l2,g4,l4,cond_true]
   have gt:G_impl_twosOf n=true:=by unfold G_impl_twosOf;rw [tw];rfl
   have ft:F_impl_twosOf n=E:=Tr.zar tw
   have hpos:decide (E.val>0)=true:=by simpa using hE
   have hng:decide (E.val<0)=false:=by simp;omega
   have hb1:=lshr_val (n:=n) (e:=E) (by omega) (by omega)
   have hb2:=lshr_val (n:= .w .i64 (0-n.val)) (e:=E) (by omega) (by omega)
   rw [show (Rng.w .i64 (0-n.val)).val= -n.val from by rw [wi (by omega) (by omega)];omega] at hb2
   have hb3:=ediv_neg (a:= -n.val) (p:=2^E.val.toNat) (Int.pow_pos (by decide)) (by omega)
   refine ⟨logTail ⟨shr n E,.w .i64 (0-(shr (.w .i64 (0-n.val)) E).val)⟩ E,?_,?_,.inl ⟨hn.1,hn.2,_,_,⟨E.val.toNat,by omega,.inl ⟨by omega,hb1,?_⟩,hge,a5⟩,rfl⟩⟩
   ·simp only [t_spec_LogAt,Tr.opt,hi,g5,l5,g8,l8,Bool.not_true,cond_false,cond_true,logTail]
   ·simp only [zeV,Tr.opt,hv,hp,gt,ft,hpos,hng,Bool.not_true,cond_false,cond_true,divI_F,sub_eq,add_eq,zbU,one_eq,sqrI_F,mulI_F,quot_eq,widen_eq,log2_eq,logTail]
    rfl
   ·show (Rng.w .i64 (0-(shr (.w .i64 (0-n.val)) E).val)).val=_
    rw [hb2,wi (by omega) (by omega)];omega
  ·have hE0:E=⟨0,rfl⟩:=rext (by show E.val=0;have:(0:Int)<=E.val:=a1;omega)
   subst hE0
   rw [z1] at a5
   obtain ⟨E,b1,b2,b3,b4,b5,b6,k,b7,b8⟩:=log_dn n hn.1 ⟨0,rfl⟩ ⟨0,rfl⟩ 32 37 ⟨0,rfl⟩ rfl (by decide) (by show n.val*2^0<_;rw [show (2:Int)^0=1 by rfl,Int.mul_one];exact a5)
   have z3:sl n ⟨0,rfl⟩=n:=by
    unfold sl shl
    show Rng.w .i64 (n.val*2^0)=n
    rw [show (2:Int)^0=1 by rfl,Int.mul_one];exact Rng.w_val _
   rw [hf,z3] at b3
   rw [hf] at b4
   rw [z1,z2] at l5
   have g8:G_spec_LogAt_8 ⟨n,⟨0,rfl⟩,⟨0,rfl⟩,⟨0,rfl⟩,n,n⟩=true:=by unfold G_spec_LogAt_8;rw [b3];rfl
   have l8:L_spec_LogAt_8 ⟨n,⟨0,rfl⟩,⟨0,rfl⟩,⟨0,rfl⟩,n,n⟩=_:=Tr.zar b3
   have g4:zeH ⟨n,⟨0,rfl⟩⟩=true:=by unfold zeH;rw [b4];rfl
   have l4:L_impl_twosOf_4 ⟨n,⟨0,rfl⟩⟩=_:=Tr.zar b4
   have tw:(ze6 n).opt=some E:=by simp only [ze6,Tr.opt,g2,l2,g4,l4,cond_true]
   have gt:G_impl_twosOf n=true:=by unfold G_impl_twosOf;rw [tw];rfl
   have ft:F_impl_twosOf n=E:=Tr.zar tw
   have hb1:E.val<=0:=b1
   have hpos:decide (E.val>0)=false:=by simp;omega
   have e1:(Rng.w .i64 (0-E.val)).val=0-E.val:=wi (by omega) (by omega)
   have hng:decide ((Rng.w .i64 (0-E.val)).val<0)=false:=by rw [e1];simp;omega
   refine ⟨logTail ⟨sl n E,sl n E⟩ E,?_,?_,.inl ⟨hn.1,hn.2,_,_,⟨k,by omega,.inr ⟨b7,rfl,b8⟩,b5,b6⟩,rfl⟩⟩
   ·simp only [t_spec_LogAt,Tr.opt,hi,g5,l5,g8,l8,Bool.not_true,cond_false,cond_true,logTail]
   ·simp only [zeV,Tr.opt,hv,hp,gt,ft,hpos,hng,Bool.not_true,cond_false,cond_true,divI_F,sub_eq,add_eq,zbU,one_eq,sqrI_F,mulI_F,quot_eq,widen_eq,log2_eq,logTail]
    rfl
 ·have hi:zah n ⟨1,rfl⟩ ⟨1152921504606846976,rfl⟩=false:=by rw [zdg];simpa using hn
  refine ⟨zk,by simp only [t_spec_LogAt,Tr.opt,hi,Bool.not_false,cond_true],?_,.inr ⟨hn,rfl⟩⟩
  simp only [zeV,Tr.opt,okfix_eq,zaU]
  cases hv:zO n
  ·simp only [Bool.not_false,cond_true]
  ·have:=ok_bd hv
   have hp:decide (n.val<=0)=true:=by simp;omega
   simp only [Bool.not_true,cond_false,hp,cond_true]
theorem logAt_ok (n:I64):∃y,(t_spec_LogAt n).opt=some y/\(zeV n).opt=some y:=by
 obtain ⟨y,h1,h2,_⟩:=logAt_two n;exact ⟨y,h1,h2⟩
theorem logAt_val {n:I64} (hn:1<=n.val/\n.val<=1152921504606846976):∃m E,LogM n m E/\zed n=logTail m E:=by
 obtain ⟨y,h1,_,h|h⟩:=logAt_two n
 ·obtain ⟨_,_,m,E,h3,h4⟩:=h
  exact ⟨m,E,h3,(Tr.zar h1).trans h4⟩
 ·exact absurd hn h.1
theorem logAt_whole {n:I64} (hn:¬(1<=n.val/\n.val<=1152921504606846976)):zed n=zk:=by
 obtain ⟨y,h1,_,h|h⟩:=logAt_two n
 ·exact absurd ⟨h.1,h.2.1⟩ hn
 ·exact (Tr.zar h1).trans h.2
theorem tt_logAt_impl (n:I64):(zeV n).opt=some (F_impl_LogAt n):=by obtain ⟨x,_,h1⟩:=logAt_ok n;exact zeu h1
theorem logAt_eq (n:I64):F_impl_LogAt n=zed n:=by
 obtain ⟨x,h1,h2⟩:=logAt_ok n
 exact (Tr.zar h2).trans (Tr.zar h1).symm
end Go.Proofs.YtfcjhkkpbnobhaaGreat.Ev
namespace Go.Proofs.YtfcjhkkpbnobhaaGreat.Ev
open Go Go.RowKit
set_option maxRecDepth 100000
section
variable [Amb]
def ET_impl_LogAt:Ent Tryz.prog:= .of1 Tb287 B287 (fun _=>true) F_impl_LogAt fun a0 _=>(r_impl_LogAt a0).trans (tt_logAt_impl a0)
def t_spec_l19Known (a0:Iv):Tr (T2 Iv I64):=
 .br (!(zf a0)) (.leaf ⟨⟨⟨0,rfl⟩,⟨0,rfl⟩⟩,⟨9,rfl⟩⟩) (.leaf ⟨a0,⟨0,rfl⟩⟩)
def B194:Bod Tryz.prog:=⟨194,Tryz.f194,Tryz.f194.body.getD .skip,Tryz.func194,by kernel_rfl,by kernel_rfl,zan.no _ _⟩
def Tb194:Tb Tryz.prog:= {T:= [Y2,Y30],mix:=mix,Es:= [zeh],Bs:= [],d:=1}
def t_impl_quarter:Tr (I64):=
 .leaf (za6 ⟨1,rfl⟩).hi
theorem r_impl_quarter:Tb194.run B194 [] (I64)=(t_impl_quarter).opt:=by kernel_rfl
def zfC:I64:=(t_impl_quarter).get
theorem u_impl_quarter:(t_impl_quarter).opt=some (zfC):=Tr.zT (by kernel_rfl)
def E_impl_quarter:Ent Tryz.prog:= .of0 Tb194 B194 zfC (r_impl_quarter.trans u_impl_quarter)
def t_spec_SinAt (a0:I64):Tr (Iv):=
 .leaf (zbp a0 ⟨0,rfl⟩)
def zb3:I64->Iv:=fun a0=>(t_spec_SinAt a0).get
def t_spec_CosAt (a0:I64):Tr (Iv):=
 .leaf (zbp a0 ⟨1,rfl⟩)
def F_spec_CosAt:I64->Iv:=fun a0=>(t_spec_CosAt a0).get
def Y57:TyE Tryz.prog:=⟨57,3,(.struct [(0,2,1),(1,2,1),(2,2,1)]),[.i64 ⟨0,rfl⟩,.i64 ⟨0,rfl⟩,.i64 ⟨0,rfl⟩],true,by kernel_rfl,by kernel_rfl,by kernel_rfl,by kernel_rfl,by kernel_rfl,by kernel_rfl⟩
def t_spec_l12Ok (a0:Ell):Tr (Bool):=
 .br (zah a0.a ⟨1000,rfl⟩ ⟨100000000000,rfl⟩) (.br (zah a0.den ⟨1,rfl⟩ ⟨1000000000000,rfl⟩) (.br (decide (a0.num.val>=0)) (.leaf (decide (a0.num.val<=(Rng.w .i64 (a0.den.val.tdiv 100)).val))) (.leaf false)) (.leaf false)) (.leaf false)
def zaB:Ell->Bool:=fun a0=>(t_spec_l12Ok a0).get
def t_spec_MajorI (a0:Ell):Tr (Iv):=
 .br (!(zaB a0)) (.leaf zk) (.leaf (zQ a0.a ⟨1000,rfl⟩))
def F_spec_MajorI:Ell->Iv:=fun a0=>(t_spec_MajorI a0).get
def t_spec_FlatteningI (a0:Ell):Tr (Iv):=
 .br (!(zaB a0)) (.leaf zk) (.leaf (zQ a0.num a0.den))
def zc8:Ell->Iv:=fun a0=>(t_spec_FlatteningI a0).get
def t_spec_EccI (a0:Ell):Tr (Iv):=
 let c1:=zc8 a0;.leaf (zu c1 (zR (zm ⟨2,rfl⟩) c1))
def F_spec_EccI:Ell->Iv:=fun a0=>(t_spec_EccI a0).get
def B110:Bod Tryz.prog:=⟨110,Tryz.f110,Tryz.f110.body.getD .skip,Tryz.func110,by kernel_rfl,by kernel_rfl,zan.no _ _⟩
def Tb110:Tb Tryz.prog:= {T:= [Y2,Y57],mix:=mix,Es:= [zbr],Bs:= [],d:=1}
def zd4 (a0:Ell):Tr (Bool):=
 .br (zau a0.a ⟨1000,rfl⟩ ⟨100000000000,rfl⟩) (.br (zau a0.den ⟨1,rfl⟩ ⟨1000000000000,rfl⟩) (.leaf (zau a0.num ⟨0,rfl⟩ (Rng.w .i64 (a0.den.val.tdiv 100)))) (.leaf false)) (.leaf false)
theorem r_impl_ValidEllipsoid (a0:Ell):Tb110.run B110 [enc a0] (Bool)=(zd4 a0).opt:=by kernel_rfl
def zba:Ell->Bool:=fun a0=>(zd4 a0).get
theorem u_impl_ValidEllipsoid (a0:Ell):(zd4 a0).opt=some (zba a0):=Tr.zT (by kernel_rfl)
def zcl:Ent Tryz.prog:= .of1 Tb110 B110 (fun _=>true) zba fun a0 _=>(r_impl_ValidEllipsoid a0).trans (u_impl_ValidEllipsoid a0)
def B233:Bod Tryz.prog:=⟨233,Tryz.f233,Tryz.f233.body.getD .skip,Tryz.func233,by kernel_rfl,by kernel_rfl,zan.no _ _⟩
def Tb233:Tb Tryz.prog:= {T:= [Y2,Y30],mix:=mix,Es:= [E_impl_circleValue],Bs:= [],d:=1}
def t_impl_SinAt (a0:I64):Tr (Iv):=
 .leaf (zb4 a0 ⟨0,rfl⟩)
theorem r_impl_SinAt (a0:I64):Tb233.run B233 [enc a0] (Iv)=(t_impl_SinAt a0).opt:=by kernel_rfl
def ze2:I64->Iv:=fun a0=>(t_impl_SinAt a0).get
theorem u_impl_SinAt (a0:I64):(t_impl_SinAt a0).opt=some (ze2 a0):=Tr.zT (by kernel_rfl)
def E_impl_SinAt:Ent Tryz.prog:= .of1 Tb233 B233 (fun _=>true) ze2 fun a0 _=>(r_impl_SinAt a0).trans (u_impl_SinAt a0)
def B234:Bod Tryz.prog:=⟨234,Tryz.f234,Tryz.f234.body.getD .skip,Tryz.func234,by kernel_rfl,by kernel_rfl,zan.no _ _⟩
def Tb234:Tb Tryz.prog:= {T:= [Y2,Y30],mix:=mix,Es:= [E_impl_circleValue],Bs:= [],d:=1}
def t_impl_CosAt (a0:I64):Tr (Iv):=
 .leaf (zb4 a0 ⟨1,rfl⟩)
theorem r_impl_CosAt (a0:I64):Tb234.run B234 [enc a0] (Iv)=(t_impl_CosAt a0).opt:=by kernel_rfl
def F_impl_CosAt:I64->Iv:=fun a0=>(t_impl_CosAt a0).get
theorem u_impl_CosAt (a0:I64):(t_impl_CosAt a0).opt=some (F_impl_CosAt a0):=Tr.zT (by kernel_rfl)
def E_impl_CosAt:Ent Tryz.prog:= .of1 Tb234 B234 (fun _=>true) F_impl_CosAt fun a0 _=>(r_impl_CosAt a0).trans (u_impl_CosAt a0)
def B201:Bod Tryz.prog:=⟨201,Tryz.f201,Tryz.f201.body.getD .skip,Tryz.func201,by kernel_rfl,by kernel_rfl,zan.no _ _⟩
def B295:Bod Tryz.prog:=⟨295,Tryz.f295,Tryz.f295.body.getD .skip,Tryz.func295,by kernel_rfl,by kernel_rfl,zan.no _ _⟩
def B235:Bod Tryz.prog:=⟨235,Tryz.f235,Tryz.f235.body.getD .skip,Tryz.func235,by kernel_rfl,by kernel_rfl,zan.no _ _⟩
def Tb235:Tb Tryz.prog:= {T:= [Y2,Y30,Y57],mix:=mix,Es:= [zcl,zal,zd0],Bs:= [B201,B295],d:=8}
def zfL (a0:Ell):Tr (Iv):=
 .br (!(zba a0)) (.leaf zF) (.leaf (zad a0.num a0.den))
theorem r_impl_FlatteningI (a0:Ell):Tb235.run B235 [enc a0] (Iv)=(zfL a0).opt:=by kernel_rfl
def zc9:Ell->Iv:=fun a0=>(zfL a0).get
theorem u_impl_FlatteningI (a0:Ell):(zfL a0).opt=some (zc9 a0):=Tr.zT (by kernel_rfl)
def E_impl_FlatteningI:Ent Tryz.prog:= .of1 Tb235 B235 (fun _=>true) zc9 fun a0 _=>(r_impl_FlatteningI a0).trans (u_impl_FlatteningI a0)
def B192:Bod Tryz.prog:=⟨192,Tryz.f192,Tryz.f192.body.getD .skip,Tryz.func192,by kernel_rfl,by kernel_rfl,zan.no _ _⟩
def Tb192:Tb Tryz.prog:= {T:= [Y2,Y30,Y57],mix:=mix,Es:= [zbo,zcm,zcO,E_impl_FlatteningI],Bs:= [],d:=1}
def t_impl_EccI (a0:Ell):Tr (Iv):=
 let c1:=zc9 a0;.leaf (zK c1 (zax (zy ⟨2,rfl⟩) c1))
theorem r_impl_EccI (a0:Ell):Tb192.run B192 [enc a0] (Iv)=(t_impl_EccI a0).opt:=by kernel_rfl
def zfd:Ell->Iv:=fun a0=>(t_impl_EccI a0).get
theorem u_impl_EccI (a0:Ell):(t_impl_EccI a0).opt=some (zfd a0):=Tr.zT (by kernel_rfl)
def E_impl_EccI:Ent Tryz.prog:= .of1 Tb192 B192 (fun _=>true) zfd fun a0 _=>(r_impl_EccI a0).trans (u_impl_EccI a0)
def B202:Bod Tryz.prog:=⟨202,Tryz.f202,Tryz.f202.body.getD .skip,Tryz.func202,by kernel_rfl,by kernel_rfl,zan.no _ _⟩
def B120:Bod Tryz.prog:=⟨120,Tryz.f120,Tryz.f120.body.getD .skip,Tryz.func120,by kernel_rfl,by kernel_rfl,zan.no _ _⟩
def Tb120:Tb Tryz.prog:= {T:= [Y2,Y30,Y57],mix:=mix,Es:= [zcl,zal,zd0],Bs:= [B201,B202],d:=8}
def t_impl_MajorI (a0:Ell):Tr (Iv):=
 .br (!(zba a0)) (.leaf zF) (.leaf (zad a0.a ⟨1000,rfl⟩))
theorem r_impl_MajorI (a0:Ell):Tb120.run B120 [enc a0] (Iv)=(t_impl_MajorI a0).opt:=by kernel_rfl
def F_impl_MajorI:Ell->Iv:=fun a0=>(t_impl_MajorI a0).get
theorem u_impl_MajorI (a0:Ell):(t_impl_MajorI a0).opt=some (F_impl_MajorI a0):=Tr.zT (by kernel_rfl)
def E_impl_MajorI:Ent Tryz.prog:= .of1 Tb120 B120 (fun _=>true) F_impl_MajorI fun a0 _=>(r_impl_MajorI a0).trans (u_impl_MajorI a0)
def B191:Bod Tryz.prog:=⟨191,Tryz.f191,Tryz.f191.body.getD .skip,Tryz.func191,by kernel_rfl,by kernel_rfl,zan.no _ _⟩
def Tb191:Tb Tryz.prog:= {T:= [Y2,Y30],mix:=mix,Es:= [zbo,zcO],Bs:= [],d:=1}
def t_impl_oneLess (a0:Iv):Tr (Iv):=
 .leaf (zax (zy ⟨1,rfl⟩) a0)
theorem r_impl_oneLess (a0:Iv):Tb191.run B191 [enc a0] (Iv)=(t_impl_oneLess a0).opt:=by kernel_rfl
def zcp:Iv->Iv:=fun a0=>(t_impl_oneLess a0).get
theorem u_impl_oneLess (a0:Iv):(t_impl_oneLess a0).opt=some (zcp a0):=Tr.zT (by kernel_rfl)
def E_impl_oneLess:Ent Tryz.prog:= .of1 Tb191 B191 (fun _=>true) zcp fun a0 _=>(r_impl_oneLess a0).trans (u_impl_oneLess a0)
def B122:Bod Tryz.prog:=⟨122,Tryz.f122,Tryz.f122.body.getD .skip,Tryz.func122,by kernel_rfl,by kernel_rfl,zan.no _ _⟩
def Tb122:Tb Tryz.prog:= {T:= [Y2,Y30,Y57],mix:=mix,Es:= [zcm,E_impl_oneLess,E_impl_EccI,ze5],Bs:= [],d:=1}
def t_impl_weightOf (a0:Ell) (a1:Iv):Tr (Iv):=
 .leaf (zcp (zK (zfd a0) (zde a1)))
theorem r_impl_weightOf (a0:Ell) (a1:Iv):Tb122.run B122 [enc a0,enc a1] (Iv)=(t_impl_weightOf a0 a1).opt:=by kernel_rfl
def F_impl_weightOf:Ell->Iv->Iv:=fun a0 a1=>(t_impl_weightOf a0 a1).get
theorem u_impl_weightOf (a0:Ell) (a1:Iv):(t_impl_weightOf a0 a1).opt=some (F_impl_weightOf a0 a1):=Tr.zT (by kernel_rfl)
def E_impl_weightOf:Ent Tryz.prog:= .of2 Tb122 B122 (fun _ _=>true) F_impl_weightOf fun a0 a1 _=>(r_impl_weightOf a0 a1).trans (u_impl_weightOf a0 a1)
def B87:Bod Tryz.prog:=⟨87,Tryz.f87,Tryz.f87.body.getD .skip,Tryz.func87,by kernel_rfl,by kernel_rfl,zan.no _ _⟩
def Tb87:Tb Tryz.prog:= {T:= [Y2,Y30],mix:=mix,Es:= [zbo,zcm],Bs:= [],d:=1}
def t_impl_times (a0:I64) (a1:Iv):Tr (Iv):=
 .leaf (zK (zy a0) a1)
theorem r_impl_times (a0:I64) (a1:Iv):Tb87.run B87 [enc a0,enc a1] (Iv)=(t_impl_times a0 a1).opt:=by kernel_rfl
def zcH:I64->Iv->Iv:=fun a0 a1=>(t_impl_times a0 a1).get
theorem u_impl_times (a0:I64) (a1:Iv):(t_impl_times a0 a1).opt=some (zcH a0 a1):=Tr.zT (by kernel_rfl)
def E_impl_times:Ent Tryz.prog:= .of2 Tb87 B87 (fun _ _=>true) zcH fun a0 a1 _=>(r_impl_times a0 a1).trans (u_impl_times a0 a1)
def B50:Bod Tryz.prog:=⟨50,Tryz.f50,Tryz.f50.body.getD .skip,Tryz.func50,by kernel_rfl,by kernel_rfl,zan.no _ _⟩
def Tb50:Tb Tryz.prog:= {T:= [Y2,Y24,Y30],mix:=mix,Es:= [ET_spec_RadiansOf,E_spec_l11Ok,E_spec_Whole],Bs:= [],d:=1}
def t_spec_LatOf (a0:Point):Tr (Iv):=
 .br (!(zcG a0)) (.leaf zaL) (.leaf (zaJ a0.lat))
theorem r_spec_LatOf (a0:Point):Tb50.run B50 [enc a0] (Iv)=(t_spec_LatOf a0).opt:=by kernel_rfl
def zbE:Point->Iv:=fun a0=>(t_spec_LatOf a0).get
theorem u_spec_LatOf (a0:Point):(t_spec_LatOf a0).opt=some (zbE a0):=Tr.zT (by kernel_rfl)
def E_spec_LatOf:Ent Tryz.prog:= .of1 Tb50 B50 (fun _=>true) zbE fun a0 _=>(r_spec_LatOf a0).trans (u_spec_LatOf a0)
def t_spec_AsinAt (a0:I64):Tr (Iv):=
 .br (!(zah a0 ⟨(-4294967296),rfl⟩ ⟨4294967296,rfl⟩)) (.leaf zaL) (.leaf (za9 (zbD (zas (zw (zH a0) (zG (zm ⟨1,rfl⟩) (zeM a0))))) zbk).a)
def zef:I64->Iv:=fun a0=>(t_spec_AsinAt a0).get
def B302:Bod Tryz.prog:=⟨302,Tryz.f302,Tryz.f302.body.getD .skip,Tryz.func302,by kernel_rfl,by kernel_rfl,zan.no _ _⟩
def Tb302:Tb Tryz.prog:= {T:= [Y2,Y30],mix:=mix,Es:= [zbo,zcP,zcA,zal,zbr,zeS,E_impl_AtanI,E_impl_MeetI,E_impl_halfCircle,E_impl_DoubleI,E_impl_CircleAt],Bs:= [],d:=1}
def t_impl_AsinAt (a0:I64):Tr (Iv):=
 .br (!(zau a0 ⟨(-4294967296),rfl⟩ ⟨4294967296,rfl⟩)) (.leaf zF) (.leaf (ze3 (zbS (zck (zae (za8 a0) (zY (zy ⟨1,rfl⟩) (F_impl_CircleAt a0))))) zbW).a)
theorem r_impl_AsinAt (a0:I64):Tb302.run B302 [enc a0] (Iv)=(t_impl_AsinAt a0).opt:=by kernel_rfl
def F_impl_AsinAt:I64->Iv:=fun a0=>(t_impl_AsinAt a0).get
theorem u_impl_AsinAt (a0:I64):(t_impl_AsinAt a0).opt=some (F_impl_AsinAt a0):=Tr.zT (by kernel_rfl)
def E_impl_AsinAt:Ent Tryz.prog:= .of1 Tb302 B302 (fun _=>true) F_impl_AsinAt fun a0 _=>(r_impl_AsinAt a0).trans (u_impl_AsinAt a0)
def t_spec_AsinI (a0:Iv):Tr (Iv):=
 let c2:=za9 a0 zS;.br (!c2.b) (.leaf zaL) (.leaf (zac (zef c2.a.lo) (zef c2.a.hi)))
def zee:Iv->Iv:=fun a0=>(t_spec_AsinI a0).get
def B239:Bod Tryz.prog:=⟨239,Tryz.f239,Tryz.f239.body.getD .skip,Tryz.func239,by kernel_rfl,by kernel_rfl,zan.no _ _⟩
def Tb239:Tb Tryz.prog:= {T:= [Y2,Y30],mix:=mix,Es:= [zal,E_impl_HullI,E_impl_MeetI,E_impl_ring,E_impl_AsinAt],Bs:= [],d:=1}
def t_impl_AsinI (a0:Iv):Tr (Iv):=
 let c2:=ze3 a0 zdN;.br (!c2.b) (.leaf zF) (.leaf (zaC (F_impl_AsinAt c2.a.lo) (F_impl_AsinAt c2.a.hi)))
theorem r_impl_AsinI (a0:Iv):Tb239.run B239 [enc a0] (Iv)=(t_impl_AsinI a0).opt:=by kernel_rfl
def F_impl_AsinI:Iv->Iv:=fun a0=>(t_impl_AsinI a0).get
theorem u_impl_AsinI (a0:Iv):(t_impl_AsinI a0).opt=some (F_impl_AsinI a0):=Tr.zT (by kernel_rfl)
def E_impl_AsinI:Ent Tryz.prog:= .of1 Tb239 B239 (fun _=>true) F_impl_AsinI fun a0 _=>(r_impl_AsinI a0).trans (u_impl_AsinI a0)
def B146:Bod Tryz.prog:=⟨146,Tryz.f146,Tryz.f146.body.getD .skip,Tryz.func146,by kernel_rfl,by kernel_rfl,zan.no _ _⟩
def Tb146:Tb Tryz.prog:= {T:= [Y2,Y30],mix:=mix,Es:= [zbo,zcA],Bs:= [],d:=1}
def t_impl_over (a0:Iv) (a1:I64):Tr (Iv):=
 .leaf (zae a0 (zy a1))
theorem r_impl_over (a0:Iv) (a1:I64):Tb146.run B146 [enc a0,enc a1] (Iv)=(t_impl_over a0 a1).opt:=by kernel_rfl
def zeo:Iv->I64->Iv:=fun a0 a1=>(t_impl_over a0 a1).get
theorem u_impl_over (a0:Iv) (a1:I64):(t_impl_over a0 a1).opt=some (zeo a0 a1):=Tr.zT (by kernel_rfl)
def E_impl_over:Ent Tryz.prog:= .of2 Tb146 B146 (fun _ _=>true) zeo fun a0 a1 _=>(r_impl_over a0 a1).trans (u_impl_over a0 a1)
def t_spec_HalfI (a0:Iv):Tr (Iv):=
 .br (!(zf a0)) (.leaf zk) (.leaf (z8 (Rng.w .i64 (a0.lo.val.fdiv 2)) (Rng.w .i64 ((Rng.w .i64 (a0.hi.val+1)).val.fdiv 2))))
def ze0:Iv->Iv:=fun a0=>(t_spec_HalfI a0).get
def B193:Bod Tryz.prog:=⟨193,Tryz.f193,Tryz.f193.body.getD .skip,Tryz.func193,by kernel_rfl,by kernel_rfl,zan.no _ _⟩
def Tb193:Tb Tryz.prog:= {T:= [Y2,Y30],mix:=mix,Es:= [zbb,zal],Bs:= [],d:=1}
def t_impl_HalfI (a0:Iv):Tr (Iv):=
 .br (zam a0) (.leaf zF) (.leaf ⟨(Rng.w .i64 (a0.lo.val.fdiv 2)),(Rng.w .i64 ((Rng.w .i64 (a0.hi.val+1)).val.fdiv 2))⟩)
theorem r_impl_HalfI (a0:Iv):Tb193.run B193 [enc a0] (Iv)=(t_impl_HalfI a0).opt:=by kernel_rfl
def F_impl_HalfI:Iv->Iv:=fun a0=>(t_impl_HalfI a0).get
theorem u_impl_HalfI (a0:Iv):(t_impl_HalfI a0).opt=some (F_impl_HalfI a0):=Tr.zT (by kernel_rfl)
def E_impl_HalfI:Ent Tryz.prog:= .of1 Tb193 B193 (fun _=>true) F_impl_HalfI fun a0 _=>(r_impl_HalfI a0).trans (u_impl_HalfI a0)
def t_spec_l08Ends (a0:Iv) (a1:Iv):Tr (Iv):=
 .br (!(zf a0)) (.leaf zk) (.br (!(zf a1)) (.leaf zk) (.leaf (z8 a0.lo a1.hi)))
def zbO:Iv->Iv->Iv:=fun a0 a1=>(t_spec_l08Ends a0 a1).get
def t_spec_LogI (a0:Iv):Tr (Iv):=
 .br (!(zf a0)) (.leaf zk) (.leaf (zbO (zed a0.lo) (zed a0.hi)))
def zfa:Iv->Iv:=fun a0=>(t_spec_LogI a0).get
def B148:Bod Tryz.prog:=⟨148,Tryz.f148,Tryz.f148.body.getD .skip,Tryz.func148,by kernel_rfl,by kernel_rfl,zan.no _ _⟩
def B222:Bod Tryz.prog:=⟨222,Tryz.f222,Tryz.f222.body.getD .skip,Tryz.func222,by kernel_rfl,by kernel_rfl,zan.no _ _⟩
def Tb222:Tb Tryz.prog:= {T:= [Y2,Y30],mix:=mix,Es:= [zbb,zbu,zal,zbn,ET_impl_LogAt],Bs:= [B148],d:=8}
def t_impl_LogI (a0:Iv):Tr (Iv):=
 .br (zam a0) (.leaf zF) (let c3:=F_impl_LogAt a0.lo;let c4:=F_impl_LogAt a0.hi;.br (!(zaX c3 c4)) (.leaf zF) (.leaf (zaI c3.lo c4.hi true)))
theorem r_impl_LogI (a0:Iv):Tb222.run B222 [enc a0] (Iv)=(t_impl_LogI a0).opt:=by kernel_rfl
def F_impl_LogI:Iv->Iv:=fun a0=>(t_impl_LogI a0).get
theorem u_impl_LogI (a0:Iv):(t_impl_LogI a0).opt=some (F_impl_LogI a0):=Tr.zT (by kernel_rfl)
def E_impl_LogI:Ent Tryz.prog:= .of1 Tb222 B222 (fun _=>true) F_impl_LogI fun a0 _=>(r_impl_LogI a0).trans (u_impl_LogI a0)
end
end Go.Proofs.YtfcjhkkpbnobhaaGreat.Ev
namespace Go.Proofs.YtfcjhkkpbnobhaaGreat.Ev
open Go
theorem times_eq (n:I64) (x:Iv):zcH n x=zu (zm n) x:=by
 simp only [zcH,t_impl_times,Tr.get,mulI_F,zbU]
end Go.Proofs.YtfcjhkkpbnobhaaGreat.Ev
namespace Go.Proofs.YtfcjhkkpbnobhaaGreat.Ev
open Go
theorem ell_eq (e:Ell):zba e=zaB e:=by
 simp only [zba,zd4,zaB,t_spec_l12Ok,Tr.get,zbX,zdg]
 cases decide (1000<=e.a.val/\e.a.val<=100000000000)
 ·simp [ctr,cfl]
 cases decide (1<=e.den.val/\e.den.val<=1000000000000)
 ·simp [ctr,cfl]
 simp only [ctr]
 by_cases h:e.num.val>=0
 ·by_cases h2:e.num.val<=(Rng.w .i64 (e.den.val.tdiv 100)).val<;>simp [h,h2]
 ·simp [h]
theorem flatI_eq (e:Ell):zc9 e=zc8 e:=by
 simp only [zc9,zfL,zc8,t_spec_FlatteningI,Tr.get,ell_eq,quot_eq,zaU]
theorem major_eq (e:Ell):F_impl_MajorI e=F_spec_MajorI e:=by
 simp only [F_impl_MajorI,t_impl_MajorI,F_spec_MajorI,t_spec_MajorI,Tr.get,ell_eq,quot_eq,zaU]
theorem ecc_eq (e:Ell):zfd e=F_spec_EccI e:=by
 simp only [zfd,t_impl_EccI,F_spec_EccI,t_spec_EccI,Tr.get,flatI_eq,mulI_F,sub_eq,zbU]
theorem oneLess_eq (x:Iv):zcp x=zR (zm ⟨1,rfl⟩) x:=by
 simp only [zcp,t_impl_oneLess,Tr.get,sub_eq,zbU]
theorem weight_eq (e:Ell) (s:Iv):F_impl_weightOf e s=zR (zm ⟨1,rfl⟩) (zu (F_spec_EccI e) (zaW s)):=by
 simp only [F_impl_weightOf,t_impl_weightOf,Tr.get,oneLess_eq,ecc_eq,mulI_F,sqrI_F]
theorem sinAt_eq (n:I64):ze2 n=zb3 n:=by
 simp only [ze2,t_impl_SinAt,zb3,t_spec_SinAt,Tr.get,circle_eq]
theorem cosAt_eq (n:I64):F_impl_CosAt n=F_spec_CosAt n:=by
 simp only [F_impl_CosAt,t_impl_CosAt,F_spec_CosAt,t_spec_CosAt,Tr.get,circle_eq]
theorem halfI_eq (a:Iv):F_impl_HalfI a=ze0 a:=by
 simp only [F_impl_HalfI,t_impl_HalfI,ze0,t_spec_HalfI,Tr.get,isw_eq,zaU]
 cases h:zf a
 ·rfl
 have hb:=(zbz a).1 h
 simp only [Bool.not_true,cfl]
 have e1:(Rng.w .i64 (a.hi.val+1)).val=a.hi.val+1:=wi (by omega) (by omega)
 have d1:a.lo.val.fdiv 2=a.lo.val/2:=Int.fdiv_eq_ediv_of_nonneg _ (by decide)
 have d2:(a.hi.val+1).fdiv 2=(a.hi.val+1)/2:=Int.fdiv_eq_ediv_of_nonneg _ (by decide)
 refine (zbT ?_).symm
 rw [e1,d1,d2,wi (by omega) (by omega),wi (by omega) (by omega)]
 omega
theorem swm_eq (a b:I64):zdq a b=mkW (a.val*b.val):=by simp only [zdq,t_spec_WideMul,Tr.get,mul_spec]
theorem circleAt_eq (n:I64):F_impl_CircleAt n=zeM n:=by
 simp only [F_impl_CircleAt,t_impl_CircleAt,zeM,t_spec_CircleAt,Tr.get,zbX,zdg,zaU,zcu,mul_impl,swm_eq,sf_G_impl,sf_G_spec,ctr]
 by_cases h: -4294967296<=n.val/\n.val<=4294967296
 ·have e1:(Rng.w .i64 (4294967296-n.val)).val=4294967296-n.val:=wi (by omega) (by omega)
  have e2:(Rng.w .i64 (4294967296+n.val)).val=4294967296+n.val:=wi (by omega) (by omega)
  obtain ⟨q,h1,h2,h3⟩:=sf_val (.w .i64 (4294967296-n.val)) (.w .i64 (4294967296+n.val)) (by omega) (by omega)
  have hd:decide (-4294967296<=n.val/\n.val<=4294967296)=true:=by simpa using h
  simp only [h1,h2,at_eq,hd,Bool.not_true,cfl]
  generalize ((mkW (q.val*q.val)).hi.val==(mkW ((Rng.w .i64 (4294967296-n.val)).val*(Rng.w .i64 (4294967296+n.val)).val)).hi.val&&((mkW (q.val*q.val)).lo.val==(mkW ((Rng.w .i64 (4294967296-n.val)).val*(Rng.w .i64 (4294967296+n.val)).val)).lo.val&&true))=c
  cases c<;>simp [zH,zeT,Tr.get]
 ·have hd:decide (-4294967296<=n.val/\n.val<=4294967296)=false:=by simpa using h
  simp only [hd,Bool.not_false,ctr]
theorem asinAt_eq (n:I64):F_impl_AsinAt n=zef n:=by
 simp only [F_impl_AsinAt,t_impl_AsinAt,zef,t_spec_AsinAt,Tr.get,zbX,zdg,zaU,zcu]
 rw [atanI_eq,double_eq,meet_eq,half_eq,divI_F,add_eq,zbU,circleAt_eq,at_eq]
theorem asinI_eq (x:Iv):F_impl_AsinI x=zee x:=by
 simp only [F_impl_AsinI,t_impl_AsinI,zee,t_spec_AsinI,Tr.get,meet_eq,ring_eq,zaU,zcu,asinAt_eq,hull_eq]
end Go.Proofs.YtfcjhkkpbnobhaaGreat.Ev
namespace Go.Proofs.YtfcjhkkpbnobhaaGreat.Ev
open Go
def Sub (a b:Iv):Prop:=zf b=true->zf a=true/\b.lo.val<=a.lo.val/\a.hi.val<=b.hi.val
theorem muldown_true {x y:I64} (h:(zV x y).b=true):(zV x y).a.val=x.val*y.val/4294967296:=by
 simp only [zV,zcd,Tr.get,mf32] at h ⊢
 cases h1:zO x
 ·rw [h1] at h;simp [ctr] at h
 cases h2:zO y
 ·rw [h1,h2] at h;simp [ctr,cfl] at h
 rw [h1,h2] at h
 simp only [Bool.not_true,cfl] at h ⊢
 unfold narrow at h ⊢
 split at h
 ·rename_i hr
  rw [if_pos hr]
  rcases end_cases (.w .i64 (x.val*y.val/4294967296)) true with e|⟨e,_⟩
  ·rw [e] at h;cases h
  ·rw [e];exact wi hr.1 hr.2
 ·rename_i hr
  rcases end_cases (.w .i64 0) false with e|⟨e,_⟩
  ·rw [e] at h;cases h
  ·have:(zaA (.w .i64 0) false).b=false:=by simp only [zaA,zcq,Tr.get,Bool.not_false,ctr]
   rw [this] at h;cases h
theorem mulup_true {x y:I64} (h:(zaj x y).b=true):(zaj x y).a.val= -(-(x.val*y.val)/4294967296):=by
 simp only [zaj,zdD,Tr.get] at h ⊢
 cases h1:zO x
 ·rw [h1] at h;simp [ctr] at h
 rw [h1] at h
 simp only [Bool.not_true,cfl] at h ⊢
 have hb:=ok_bd h1
 cases hd:(zV (.w .i64 (0-x.val)) y).b
 ·rw [hd] at h;simp [ctr] at h
 simp only [hd,Bool.not_true,cfl]
 have e:=muldown_true hd
 have en:(Rng.w .i64 (0-x.val)).val= -x.val:=by rw [wi (by omega) (by omega)];omega
 rw [en,Int.neg_mul] at e
 rcases ze8 (.w .i64 (0-x.val)) y with k|⟨c,k,kc⟩
 ·rw [k] at hd;cases hd
 ·have kb:=ok_bd kc
  rw [k] at e ⊢
  simp only at e ⊢
  rw [wi (by omega) (by omega)]
  omega
theorem mulI_corner {a b:Iv} (h:zf (zu a b)=true):zf a=true/\zf b=true /\
  ∀x y:I64,(x=a.lo\/x=a.hi)->(y=b.lo\/y=b.hi)->(zu a b).lo.val<=x.val*y.val/4294967296 /\ -(-(x.val*y.val)/4294967296)<=(zu a b).hi.val:=by
 have nw:∀ {P:Prop},zf zk=true->P:=fun h=>by rw [zbI] at h;cases h
 simp only [zu,t_spec_MulI,Tr.get] at h ⊢
 cases ha:zf a
 ·rw [ha] at h;exact nw h
 cases hb:zf b
 ·rw [ha,hb] at h;exact nw h
 simp only [ha,hb,Bool.not_true,cfl] at h ⊢
 cases h1:(zV a.lo b.lo).b
 ·rw [h1] at h;exact nw h
 cases h2:(zaj a.lo b.lo).b
 ·rw [h1,h2] at h;exact nw h
 cases h3:(zV a.lo b.hi).b
 ·rw [h1,h2,h3] at h;exact nw h
 cases h4:(zaj a.lo b.hi).b
 ·rw [h1,h2,h3,h4] at h;exact nw h
 cases h5:(zV a.hi b.lo).b
 ·rw [h1,h2,h3,h4,h5] at h;exact nw h
 cases h6:(zaj a.hi b.lo).b
 ·rw [h1,h2,h3,h4,h5,h6] at h;exact nw h
 cases h7:(zV a.hi b.hi).b
 ·rw [h1,h2,h3,h4,h5,h6,h7] at h;exact nw h
 cases h8:(zaj a.hi b.hi).b
 ·rw [h1,h2,h3,h4,h5,h6,h7,h8] at h;exact nw h
 simp only [h1,h2,h3,h4,h5,h6,h7,h8,Bool.not_true,cfl] at h ⊢
 refine ⟨trivial,trivial,?_⟩
 have v1:=muldown_true h1
 have v2:=mulup_true h2
 have v3:=muldown_true h3
 have v4:=mulup_true h4
 have v5:=muldown_true h5
 have v6:=mulup_true h6
 have v7:=muldown_true h7
 have v8:=mulup_true h8
 generalize (zV a.lo b.lo).a=d1 at *
 generalize (zV a.lo b.hi).a=d2 at *
 generalize (zV a.hi b.lo).a=d3 at *
 generalize (zV a.hi b.hi).a=d4 at *
 generalize (zaj a.lo b.lo).a=u1 at *
 generalize (zaj a.lo b.hi).a=u2 at *
 generalize (zaj a.hi b.lo).a=u3 at *
 generalize (zaj a.hi b.hi).a=u4 at *
 have m1:=min_l ⟨1152921504606846976,rfl⟩ d1
 have m2:=min_l (zJ ⟨1152921504606846976,rfl⟩ d1) d2
 have m3:=min_l (zJ (zJ ⟨1152921504606846976,rfl⟩ d1) d2) d3
 have m4:=min_l (zJ (zJ (zJ ⟨1152921504606846976,rfl⟩ d1) d2) d3) d4
 have n1:=max_l ⟨-1152921504606846976,rfl⟩ u1
 have n2:=max_l (zD ⟨-1152921504606846976,rfl⟩ u1) u2
 have n3:=max_l (zD (zD ⟨-1152921504606846976,rfl⟩ u1) u2) u3
 have n4:=max_l (zD (zD (zD ⟨-1152921504606846976,rfl⟩ u1) u2) u3) u4
 generalize zJ (zJ (zJ (zJ ⟨1152921504606846976,rfl⟩ d1) d2) d3) d4=lo at *
 generalize zD (zD (zD (zD ⟨-1152921504606846976,rfl⟩ u1) u2) u3) u4=hi at *
 by_cases hm: -1152921504606846976<lo.val/\lo.val<=hi.val/\hi.val<1152921504606846976
 ·rw [zbT hm]
  simp only
  rintro x y (rfl|rfl) (rfl|rfl)
  ·omega
  ·omega
  ·omega
  ·omega
 ·rw [make_no hm] at h;exact nw h
theorem addI_val {a b:Iv} (h:zf (zG a b)=true):zf a=true/\zf b=true/\(zG a b).lo.val=a.lo.val+b.lo.val/\(zG a b).hi.val=a.hi.val+b.hi.val:=by
 simp only [zG,zdF,Tr.get] at h ⊢
 cases ha:zf a
 ·rw [ha] at h;simp only [Bool.not_false,ctr,zbI] at h;cases h
 cases hb:zf b
 ·rw [ha,hb] at h;simp only [Bool.not_false,Bool.not_true,ctr,cfl,zbI] at h;cases h
 simp only [ha,hb,Bool.not_true,cfl] at h ⊢
 have ba:=(zbz _).1 ha
 have bb:=(zbz _).1 hb
 have k1:(Rng.w .i64 (a.lo.val+b.lo.val)).val=a.lo.val+b.lo.val:=wi (by omega) (by omega)
 have k2:(Rng.w .i64 (a.hi.val+b.hi.val)).val=a.hi.val+b.hi.val:=wi (by omega) (by omega)
 by_cases hm: -1152921504606846976<(Rng.w .i64 (a.lo.val+b.lo.val)).val/\(Rng.w .i64 (a.lo.val+b.lo.val)).val<=(Rng.w .i64 (a.hi.val+b.hi.val)).val/\(Rng.w .i64 (a.hi.val+b.hi.val)).val<1152921504606846976
 ·rw [zbT hm];exact ⟨trivial,trivial,k1,k2⟩
 ·rw [make_no hm,zbI] at h;cases h
theorem subI_val {a b:Iv} (h:zf (zR a b)=true):zf a=true/\zf b=true/\(zR a b).lo.val=a.lo.val-b.hi.val/\(zR a b).hi.val=a.hi.val-b.lo.val:=by
 simp only [zR,t_spec_SubI,Tr.get] at h ⊢
 cases ha:zf a
 ·rw [ha] at h;simp only [Bool.not_false,ctr,zbI] at h;cases h
 cases hb:zf b
 ·rw [ha,hb] at h;simp only [Bool.not_false,Bool.not_true,ctr,cfl,zbI] at h;cases h
 simp only [ha,hb,Bool.not_true,cfl] at h ⊢
 have ba:=(zbz _).1 ha
 have bb:=(zbz _).1 hb
 have k1:(Rng.w .i64 (a.lo.val-b.hi.val)).val=a.lo.val-b.hi.val:=wi (by omega) (by omega)
 have k2:(Rng.w .i64 (a.hi.val-b.lo.val)).val=a.hi.val-b.lo.val:=wi (by omega) (by omega)
 by_cases hm: -1152921504606846976<(Rng.w .i64 (a.lo.val-b.hi.val)).val/\(Rng.w .i64 (a.lo.val-b.hi.val)).val<=(Rng.w .i64 (a.hi.val-b.lo.val)).val/\(Rng.w .i64 (a.hi.val-b.lo.val)).val<1152921504606846976
 ·rw [zbT hm];exact ⟨trivial,trivial,k1,k2⟩
 ·rw [make_no hm,zbI] at h;cases h
theorem dblI_val {a:Iv} (h:zf (zbD a)=true):zf a=true/\(zbD a).lo.val=2*a.lo.val/\(zbD a).hi.val=2*a.hi.val:=by
 simp only [zbD,t_spec_DoubleI,Tr.get] at h ⊢
 cases ha:zf a
 ·rw [ha] at h;simp only [Bool.not_false,ctr,zbI] at h;cases h
 simp only [ha,Bool.not_true,cfl] at h ⊢
 have ba:=(zbz _).1 ha
 have k1:(Rng.w .i64 (2*a.lo.val)).val=2*a.lo.val:=wi (by omega) (by omega)
 have k2:(Rng.w .i64 (2*a.hi.val)).val=2*a.hi.val:=wi (by omega) (by omega)
 by_cases hm: -1152921504606846976<(Rng.w .i64 (2*a.lo.val)).val/\(Rng.w .i64 (2*a.lo.val)).val<=(Rng.w .i64 (2*a.hi.val)).val/\(Rng.w .i64 (2*a.hi.val)).val<1152921504606846976
 ·rw [zbT hm];exact ⟨trivial,k1,k2⟩
 ·rw [make_no hm,zbI] at h;cases h
end Go.Proofs.YtfcjhkkpbnobhaaGreat.Ev
namespace Go.Proofs.YtfcjhkkpbnobhaaGreat.Ev
open Go
theorem sqrI_val {a:Iv} (h:zf (zaW a)=true):zf a=true/\(zaW a).lo.val=(zaf a).a.val*(zaf a).a.val/4294967296/\(zaW a).hi.val= -(-((zaf a).b.val*(zaf a).b.val)/4294967296):=by
 have nw:∀ {P:Prop},zf zk=true->P:=fun h=>by rw [zbI] at h;cases h
 simp only [zaW,t_spec_SqrI,Tr.get] at h ⊢
 cases ha:zf a
 ·rw [ha] at h;exact nw h
 simp only [ha,Bool.not_true,cfl] at h ⊢
 cases h1:(zV (zaf a).a (zaf a).a).b
 ·rw [h1] at h;exact nw h
 cases h2:(zaj (zaf a).b (zaf a).b).b
 ·rw [h1,h2] at h;exact nw h
 simp only [h1,h2,Bool.not_true,cfl] at h ⊢
 have v1:=muldown_true h1
 have v2:=mulup_true h2
 generalize (zV (zaf a).a (zaf a).a).a=lo at *
 generalize (zaj (zaf a).b (zaf a).b).a=hi at *
 by_cases hm: -1152921504606846976<lo.val/\lo.val<=hi.val/\hi.val<1152921504606846976
 ·rw [zbT hm];exact ⟨trivial,v1,v2⟩
 ·rw [make_no hm] at h;exact nw h
theorem su_val2 (a:I64) (ha:0<=a.val/\a.val<=1152921504606846976):∃q p:I64,zcx a=⟨q,true⟩/\zb7 a=⟨p,true⟩/\0<=q.val/\q.val<=70368744177664/\q.val*q.val<=a.val*4294967296/\a.val*4294967296<(q.val+1)*(q.val+1)/\q.val<=p.val/\p.val<=q.val+1/\a.val*4294967296<=p.val*p.val/\(q.val<p.val->q.val*q.val<a.val*4294967296):=by
 obtain ⟨q,h1,h2,h3,h4,h5,h6⟩:=sd_val a ha
 have e1:(Rng.w .i64 (q.val+1)).val=q.val+1:=wi (by omega) (by omega)
 have hqq:=Int.mul_nonneg h3 h3
 have hmf:zaw q q ⟨32,rfl⟩=⟨.w .i64 (q.val*q.val/4294967296),true⟩:=by rw [mf32];exact zfk (by omega) (by omega)
 have hmv:(Rng.w .i64 (q.val*q.val/4294967296)).val=q.val*q.val/4294967296:=wi (by omega) (by omega)
 have hmask:(Rng.w .i64 (zbv .and .i64 (Rng.w .i64 (q.val*q.val)).val 4294967295)).val=q.val*q.val%4294967296:=by rw [and_mask_i,zfI];omega
 by_cases hx:q.val*q.val=a.val*4294967296
 ·refine ⟨q,q,h1,?_,h3,h4,h5,h6,Int.le_refl _,by omega,by omega,fun h=>by omega⟩
  have k1:(q.val*q.val/4294967296 != a.val)=false:=by simp;omega
  have k2:(q.val*q.val%4294967296 != 0)=false:=by simp;omega
  simp only [zb7,zcE,Tr.get,sd_G_spec,h1,hmf,hmv,hmask,k1,k2,Bool.not_true,cond_false,cond_true]
 ·refine ⟨q,.w .i64 (q.val+1),h1,?_,h3,h4,h5,h6,by omega,by omega,by rw [e1];omega,fun h=>by omega⟩
  simp only [zb7,zcE,Tr.get,sd_G_spec,h1,hmf,hmv,hmask,Bool.not_true,cond_false,cond_true]
  by_cases k1:q.val*q.val/4294967296=a.val
  ·have k2:(q.val*q.val%4294967296 != 0)=true:=by simp;omega
   have k3:(q.val*q.val/4294967296 != a.val)=false:=by simp [k1]
   simp only [k2,k3,cond_true,cond_false]
  ·have k3:(q.val*q.val/4294967296 != a.val)=true:=by simp [k1]
   simp only [k3,cond_true]
theorem sqrtI_mk {a:Iv} (ha:zf a=true) (h0:0<=a.lo.val):zf (zbK a)=true/\(zbK a).lo=(zcx a.lo).a/\(zbK a).hi=(zb7 a.hi).a:=by
 have hb:=(zbz _).1 ha
 obtain ⟨q,p,e1,e2,h1,h2,h3,h4,h5,h6,h7,h8⟩:=su_val2 a.lo (by omega)
 obtain ⟨q',p',e1',e2',h1',h2',h3',h4',h5',h6',h7',h8'⟩:=su_val2 a.hi (by omega)
 have hle:q.val<=p'.val:=by
  refine sq_lt h1 (by omega) ?_
  omega
 have hd:decide (a.lo.val<0)=false:=by simp;omega
 have e:zbK a=⟨q,p'⟩:=by
  simp only [zbK,t_spec_SqrtI,Tr.get,ha,hd,sd_G_spec,su_G_spec,e1,e2',Bool.not_true,cfl,ctr]
  exact zbT (by omega)
 rw [e,e1,e2']
 exact ⟨(zbz _).2 (by simp only;omega),rfl,rfl⟩
theorem sqrtI_nn {a:Iv} (h:zf (zbK a)=true):zf a=true/\0<=a.lo.val:=by
 have nw:∀ {P:Prop},zf zk=true->P:=fun h=>by rw [zbI] at h;cases h
 simp only [zbK,t_spec_SqrtI,Tr.get] at h
 cases ha:zf a
 ·rw [ha] at h;exact nw h
 by_cases h0:a.lo.val<0
 ·rw [ha,show decide (a.lo.val<0)=true by simpa using h0] at h;exact nw h
 ·exact ⟨rfl,by omega⟩
theorem divdown_true {x y:I64} (hy:0<y.val) (h:(zN x y).b=true):(zN x y).a.val=x.val*4294967296/y.val:=by
 have z0:(y.val==0)=false:=by simp;omega
 have z1:decide (y.val<0)=false:=by simp;omega
 simp only [zN,zbj,Tr.get,zd9,z0,z1,cfl] at h ⊢
 cases h1:zO x
 ·rw [h1] at h;simp [ctr] at h
 cases h2:zO y
 ·rw [h1,h2] at h;simp [ctr,cfl] at h
 rw [h1,h2] at h
 simp only [Bool.not_true,cfl,MD,hy,if_true] at h ⊢
 unfold narrow at h ⊢
 split at h
 ·rename_i hr
  rw [if_pos hr]
  rcases end_cases (.w .i64 (x.val*4294967296/y.val)) true with e|⟨e,_⟩
  ·rw [e] at h;cases h
  ·rw [e];exact wi hr.1 hr.2
 ·have:(zaA (.w .i64 0) false).b=false:=by simp only [zaA,zcq,Tr.get,Bool.not_false,ctr]
  rw [this] at h;cases h
theorem divup_true {x y:I64} (hy:0<y.val) (h:(zZ x y).b=true):(zZ x y).a.val= -(-x.val*4294967296/y.val):=by
 simp only [zZ,zcr,Tr.get] at h ⊢
 cases h1:zO x
 ·rw [h1] at h;simp [ctr] at h
 rw [h1] at h
 simp only [Bool.not_true,cfl] at h ⊢
 have hb:=ok_bd h1
 have e:=divdown_true hy h
 have en:(Rng.w .i64 (0-x.val)).val= -x.val:=by rw [wi (by omega) (by omega)];omega
 rw [en] at e
 rcases ze9 (.w .i64 (0-x.val)) y with k|⟨c,k,kc⟩
 ·rw [k] at h;cases h
 ·have kb:=ok_bd kc
  rw [k] at e ⊢
  simp only at e ⊢
  rw [wi (by omega) (by omega)]
  omega
theorem divI_corner {a b:Iv} (h0:0<b.lo.val) (h:zf (zw a b)=true):zf a=true/\zf b=true /\
  ∀x y:I64,(x=a.lo\/x=a.hi)->(y=b.lo\/y=b.hi)->(zw a b).lo.val<=x.val*4294967296/y.val /\ -(-x.val*4294967296/y.val)<=(zw a b).hi.val:=by
 have nw:∀ {P:Prop},zf zk=true->P:=fun h=>by rw [zbI] at h;cases h
 simp only [zw,zfY,Tr.get] at h ⊢
 cases ha:zf a
 ·rw [ha] at h;exact nw h
 cases hb:zf b
 ·rw [ha,hb] at h;exact nw h
 have bb:=(zbz _).1 hb
 have h0':0<b.hi.val:=by omega
 cases hz:za7 b ⟨0,rfl⟩
 case true=>rw [ha,hb,hz] at h;exact nw h
 simp only [ha,hb,hz,Bool.not_true,cfl] at h ⊢
 cases h1:(zN a.lo b.lo).b
 ·rw [h1] at h;exact nw h
 cases h2:(zZ a.lo b.lo).b
 ·rw [h1,h2] at h;exact nw h
 cases h3:(zN a.lo b.hi).b
 ·rw [h1,h2,h3] at h;exact nw h
 cases h4:(zZ a.lo b.hi).b
 ·rw [h1,h2,h3,h4] at h;exact nw h
 cases h5:(zN a.hi b.lo).b
 ·rw [h1,h2,h3,h4,h5] at h;exact nw h
 cases h6:(zZ a.hi b.lo).b
 ·rw [h1,h2,h3,h4,h5,h6] at h;exact nw h
 cases h7:(zN a.hi b.hi).b
 ·rw [h1,h2,h3,h4,h5,h6,h7] at h;exact nw h
 cases h8:(zZ a.hi b.hi).b
 ·rw [h1,h2,h3,h4,h5,h6,h7,h8] at h;exact nw h
 simp only [h1,h2,h3,h4,h5,h6,h7,h8,Bool.not_true,cfl] at h ⊢
 refine ⟨trivial,trivial,?_⟩
 have v1:=divdown_true h0 h1
 have v2:=divup_true h0 h2
 have v3:=divdown_true h0' h3
 have v4:=divup_true h0' h4
 have v5:=divdown_true h0 h5
 have v6:=divup_true h0 h6
 have v7:=divdown_true h0' h7
 have v8:=divup_true h0' h8
 generalize (zN a.lo b.lo).a=d1 at *
 generalize (zN a.lo b.hi).a=d2 at *
 generalize (zN a.hi b.lo).a=d3 at *
 generalize (zN a.hi b.hi).a=d4 at *
 generalize (zZ a.lo b.lo).a=u1 at *
 generalize (zZ a.lo b.hi).a=u2 at *
 generalize (zZ a.hi b.lo).a=u3 at *
 generalize (zZ a.hi b.hi).a=u4 at *
 have m1:=min_l ⟨1152921504606846976,rfl⟩ d1
 have m2:=min_l (zJ ⟨1152921504606846976,rfl⟩ d1) d2
 have m3:=min_l (zJ (zJ ⟨1152921504606846976,rfl⟩ d1) d2) d3
 have m4:=min_l (zJ (zJ (zJ ⟨1152921504606846976,rfl⟩ d1) d2) d3) d4
 have n1:=max_l ⟨-1152921504606846976,rfl⟩ u1
 have n2:=max_l (zD ⟨-1152921504606846976,rfl⟩ u1) u2
 have n3:=max_l (zD (zD ⟨-1152921504606846976,rfl⟩ u1) u2) u3
 have n4:=max_l (zD (zD (zD ⟨-1152921504606846976,rfl⟩ u1) u2) u3) u4
 generalize zJ (zJ (zJ (zJ ⟨1152921504606846976,rfl⟩ d1) d2) d3) d4=lo at *
 generalize zD (zD (zD (zD ⟨-1152921504606846976,rfl⟩ u1) u2) u3) u4=hi at *
 by_cases hm: -1152921504606846976<lo.val/\lo.val<=hi.val/\hi.val<1152921504606846976
 ·rw [zbT hm]
  simp only
  rintro x y (rfl|rfl) (rfl|rfl)
  ·omega
  ·omega
  ·omega
  ·omega
 ·rw [make_no hm] at h;exact nw h
end Go.Proofs.YtfcjhkkpbnobhaaGreat.Ev
namespace Go.Proofs.YtfcjhkkpbnobhaaGreat.Ev
open Go Go.RowKit
set_option maxRecDepth 100000
section
variable [Amb]
structure S_spec_l14Lat_4 where
 x0:I64
 x1:I64
 x2:I64
 x3:I64
 x4:I64
 x5:I64
 x6:I64
 x7:I64
 x8:I64
 x9:I64
 x10:I64
 x11:I64
 x12:I64
 x13:I64
 x14:I64
instance:Inhabited S_spec_l14Lat_4:=⟨⟨default,default,default,default,default,default,default,default,default,default,default,default,default,default,default⟩⟩
structure S_spec_l14Lat_11 where
 x0:I64
 x1:I64
 x2:I64
 x3:I64
 x4:I64
 x5:I64
 x6:I64
 x7:I64
 x8:I64
 x9:I64
 x10:I64
 x11:I64
 x12:I64
 x13:I64
 x14:I64
 x15:I64
instance:Inhabited S_spec_l14Lat_11:=⟨⟨default,default,default,default,default,default,default,default,default,default,default,default,default,default,default,default⟩⟩
structure S_impl_latitudeOf_2 where
 x0:I64
 x1:I64
 x2:I64
 x3:I64
 x4:I64
 x5:I64
 x6:I64
 x7:I64
 x8:I64
 x9:I64
 x10:I64
 x11:I64
 x12:I64
instance:Inhabited S_impl_latitudeOf_2:=⟨⟨default,default,default,default,default,default,default,default,default,default,default,default,default⟩⟩
structure S_impl_latitudeOf_9 where
 x0:I64
 x1:I64
 x2:I64
 x3:I64
 x4:I64
 x5:I64
 x6:I64
 x7:I64
 x8:I64
 x9:I64
 x10:I64
 x11:I64
 x12:I64
 x13:I64
 x14:I64
instance:Inhabited S_impl_latitudeOf_9:=⟨⟨default,default,default,default,default,default,default,default,default,default,default,default,default,default,default⟩⟩
end
end Go.Proofs.YtfcjhkkpbnobhaaGreat.Ev
namespace Go.Proofs.YtfcjhkkpbnobhaaGreat.Ev
open Go
end Go.Proofs.YtfcjhkkpbnobhaaGreat.Ev
namespace Go.Proofs.YtfcjhkkpbnobhaaGreat.Ev
open Go Go.RowKit
set_option maxRecDepth 100000
section
variable [Amb]
end
end Go.Proofs.YtfcjhkkpbnobhaaGreat.Ev
