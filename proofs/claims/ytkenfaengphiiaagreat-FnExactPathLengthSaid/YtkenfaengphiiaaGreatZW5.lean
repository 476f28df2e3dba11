/- The law FnExactPathLength gives true, whatever comes in; each argument reads behind the call as it read before. No conditions. (One of the texts of its proof, put together by a program of this session.) -/
import Derived.Test.YtkenfaengphiiaaGreatZW2
import Derived.Test.YtkenfaengphiiaaGreatZPT
set_option linter.unusedSectionVars false
set_option linter.unusedSimpArgs false
set_option linter.unusedVariables false
noncomputable section
namespace Go.Proofs.YtkenfaengphiiaaGreat.Ev
open Go Go.RowKit
set_option maxRecDepth 100000
section
variable [Amb]
def ET_spec_l06Over:Ent Tryz.prog:= .of2 Tb97 B97 (fun _ _=>true) zfl fun a0 a1 _=>(r_spec_l06Over a0 a1).trans (tt_over_spec a0 a1)
def B27:Bod Tryz.prog:=⟨27,Tryz.f27,Tryz.f27.body.getD .skip,Tryz.func27,by kernel_rfl,by kernel_rfl,zK.no _ _⟩
def Tb27:Tb Tryz.prog:= {T:= [Y2,Y30],mix:=mix,Es:= [ET_spec_l06Over],Bs:= [],d:=1}
def t_spec_CosI (a0:Iv):Tr (Iv):=
 .leaf (zfl a0 ⟨1,rfl⟩)
theorem r_spec_CosI (a0:Iv):Tb27.run B27 [enc a0] (Iv)=(t_spec_CosI a0).opt:=by kernel_rfl
def zbA:Iv->Iv:=fun a0=>(t_spec_CosI a0).get
theorem u_spec_CosI (a0:Iv):(t_spec_CosI a0).opt=some (zbA a0):=Tr.zz (by kernel_rfl)
def E_spec_CosI:Ent Tryz.prog:= .of1 Tb27 B27 (fun _=>true) zbA fun a0 _=>(r_spec_CosI a0).trans (u_spec_CosI a0)
def B114:Bod Tryz.prog:=⟨114,Tryz.f114,Tryz.f114.body.getD .skip,Tryz.func114,by kernel_rfl,by kernel_rfl,zK.no _ _⟩
def Tb114:Tb Tryz.prog:= {T:= [Y2,Y30],mix:=mix,Es:= [E_impl_circleHull],Bs:= [],d:=1}
def t_impl_CosI (a0:Iv):Tr (Iv):=
 .leaf (zaR a0 ⟨1,rfl⟩)
theorem r_impl_CosI (a0:Iv):Tb114.run B114 [enc a0] (Iv)=(t_impl_CosI a0).opt:=by kernel_rfl
def zfr:Iv->Iv:=fun a0=>(t_impl_CosI a0).get
theorem u_impl_CosI (a0:Iv):(t_impl_CosI a0).opt=some (zfr a0):=Tr.zz (by kernel_rfl)
def E_impl_CosI:Ent Tryz.prog:= .of1 Tb114 B114 (fun _=>true) zfr fun a0 _=>(r_impl_CosI a0).trans (u_impl_CosI a0)
def B28:Bod Tryz.prog:=⟨28,Tryz.f28,Tryz.f28.body.getD .skip,Tryz.func28,by kernel_rfl,by kernel_rfl,zK.no _ _⟩
def Tb28:Tb Tryz.prog:= {T:= [Y2,Y30],mix:=mix,Es:= [ET_spec_l06Over],Bs:= [],d:=1}
def t_spec_SinI (a0:Iv):Tr (Iv):=
 .leaf (zfl a0 ⟨0,rfl⟩)
theorem r_spec_SinI (a0:Iv):Tb28.run B28 [enc a0] (Iv)=(t_spec_SinI a0).opt:=by kernel_rfl
def zad:Iv->Iv:=fun a0=>(t_spec_SinI a0).get
theorem u_spec_SinI (a0:Iv):(t_spec_SinI a0).opt=some (zad a0):=Tr.zz (by kernel_rfl)
def E_spec_SinI:Ent Tryz.prog:= .of1 Tb28 B28 (fun _=>true) zad fun a0 _=>(r_spec_SinI a0).trans (u_spec_SinI a0)
def B111:Bod Tryz.prog:=⟨111,Tryz.f111,Tryz.f111.body.getD .skip,Tryz.func111,by kernel_rfl,by kernel_rfl,zK.no _ _⟩
def Tb111:Tb Tryz.prog:= {T:= [Y2,Y30],mix:=mix,Es:= [E_impl_circleHull],Bs:= [],d:=1}
def t_impl_SinI (a0:Iv):Tr (Iv):=
 .leaf (zaR a0 ⟨0,rfl⟩)
theorem r_impl_SinI (a0:Iv):Tb111.run B111 [enc a0] (Iv)=(t_impl_SinI a0).opt:=by kernel_rfl
def zcm:Iv->Iv:=fun a0=>(t_impl_SinI a0).get
theorem u_impl_SinI (a0:Iv):(t_impl_SinI a0).opt=some (zcm a0):=Tr.zz (by kernel_rfl)
def E_impl_SinI:Ent Tryz.prog:= .of1 Tb111 B111 (fun _=>true) zcm fun a0 _=>(r_impl_SinI a0).trans (u_impl_SinI a0)
def B309:Bod Tryz.prog:=⟨309,Tryz.f309,Tryz.f309.body.getD .skip,Tryz.func309,by kernel_rfl,by kernel_rfl,zK.no _ _⟩
def Tb309:Tb Tryz.prog:= {T:= [],mix:=mix,Es:= [],Bs:= [],d:=1}
def t_spec_l07Fix (a0:I64):Tr (Bool):=
 .br (decide ((-1152921504606846976)<a0.val)) (.leaf (decide (a0.val<1152921504606846976))) (.leaf false)
theorem r_spec_l07Fix (a0:I64):Tb309.run B309 [enc a0] (Bool)=(t_spec_l07Fix a0).opt:=by kernel_rfl
def zb2:I64->Bool:=fun a0=>(t_spec_l07Fix a0).get
theorem u_spec_l07Fix (a0:I64):(t_spec_l07Fix a0).opt=some (zb2 a0):=Tr.zz (by kernel_rfl)
def E_spec_l07Fix:Ent Tryz.prog:= .of1 Tb309 B309 (fun _=>true) zb2 fun a0 _=>(r_spec_l07Fix a0).trans (u_spec_l07Fix a0)
def B266:Bod Tryz.prog:=⟨266,Tryz.f266,Tryz.f266.body.getD .skip,Tryz.func266,by kernel_rfl,by kernel_rfl,zK.no _ _⟩
def Tb266:Tb Tryz.prog:= {T:= [Y2,Y30],mix:=mix,Es:= [E_spec_l05Turn],Bs:= [],d:=1}
def t_spec_l07Quarter:Tr (Iv):=
 .br (zcu ⟨1,rfl⟩) (.br (zcu ⟨1,rfl⟩) (.leaf ⟨(Rng.w .i64 (0-(zbw ⟨1,rfl⟩).hi.val)),(zbw ⟨1,rfl⟩).hi⟩) (.bad)) (.bad)
theorem r_spec_l07Quarter:Tb266.run B266 [] (Iv)=(t_spec_l07Quarter).opt:=by kernel_rfl
def zbV:Iv:=(t_spec_l07Quarter).get
theorem u_spec_l07Quarter:(t_spec_l07Quarter).opt=some (zbV):=Tr.get_some (by kernel_rfl)
def E_spec_l07Quarter:Ent Tryz.prog:= .of0 Tb266 B266 zbV (r_spec_l07Quarter.trans u_spec_l07Quarter)
def B367:Bod Tryz.prog:=⟨367,Tryz.f367,Tryz.f367.body.getD .skip,Tryz.func367,by kernel_rfl,by kernel_rfl,zK.no _ _⟩
def Tb367:Tb Tryz.prog:= {T:= [Y2,Y30],mix:=mix,Es:= [zbl,zcn,ET_spec_SqrtI,zeH,zb8],Bs:= [],d:=1}
def t_spec_l07Halve (a0:Iv):Tr (Iv):=
 .leaf (zn a0 (zk (zb ⟨1,rfl⟩) (zar (zk (zb ⟨1,rfl⟩) (zao a0)))))
theorem r_spec_l07Halve (a0:Iv):Tb367.run B367 [enc a0] (Iv)=(t_spec_l07Halve a0).opt:=by kernel_rfl
def zdd:Iv->Iv:=fun a0=>(t_spec_l07Halve a0).get
theorem u_spec_l07Halve (a0:Iv):(t_spec_l07Halve a0).opt=some (zdd a0):=Tr.zz (by kernel_rfl)
def E_spec_l07Halve:Ent Tryz.prog:= .of1 Tb367 B367 (fun _=>true) zdd fun a0 _=>(r_spec_l07Halve a0).trans (u_spec_l07Halve a0)
def B366:Bod Tryz.prog:=⟨366,Tryz.f366,Tryz.f366.body.getD .skip,Tryz.func366,by kernel_rfl,by kernel_rfl,zK.no _ _⟩
def Tb366:Tb Tryz.prog:= {T:= [Y2,Y30],mix:=mix,Es:= [zcJ,zcn,zbZ,zeH,zcs,zcC,E_spec_InsideI,E_spec_l06Tiny],Bs:= [],d:=1}
def t_spec_ArcSeries (a0:Iv):Tr (Iv):=
 .br (!(zaC a0 ⟨⟨(-1073741824),rfl⟩,⟨1073741824,rfl⟩⟩)) (.leaf zaK) (let c3:=zao a0;.leaf (zk (zf a0 (zF (zQ ⟨1,rfl⟩ ⟨1,rfl⟩) (zf c3 (zF (zQ ⟨1,rfl⟩ ⟨3,rfl⟩) (zf c3 (zF (zQ ⟨1,rfl⟩ ⟨5,rfl⟩) (zf c3 (zF (zQ ⟨1,rfl⟩ ⟨7,rfl⟩) (zf c3 (zF (zQ ⟨1,rfl⟩ ⟨9,rfl⟩) (zf c3 (zF (zQ ⟨1,rfl⟩ ⟨11,rfl⟩) (zf c3 (zF (zQ ⟨1,rfl⟩ ⟨13,rfl⟩) (zf c3 (zF (zQ ⟨1,rfl⟩ ⟨15,rfl⟩) (zf c3 (zF (zQ ⟨1,rfl⟩ ⟨17,rfl⟩) (zf c3 (zF (zQ ⟨1,rfl⟩ ⟨19,rfl⟩) (zf c3 (zQ ⟨1,rfl⟩ ⟨21,rfl⟩)))))))))))))))))))))) zbv))
theorem r_spec_ArcSeries (a0:Iv):Tb366.run B366 [enc a0] (Iv)=(t_spec_ArcSeries a0).opt:=by kernel_rfl
def zdp:Iv->Iv:=fun a0=>(t_spec_ArcSeries a0).get
theorem u_spec_ArcSeries (a0:Iv):(t_spec_ArcSeries a0).opt=some (zdp a0):=Tr.zz (by kernel_rfl)
def E_spec_ArcSeries:Ent Tryz.prog:= .of1 Tb366 B366 (fun _=>true) zdp fun a0 _=>(r_spec_ArcSeries a0).trans (u_spec_ArcSeries a0)
def B332:Bod Tryz.prog:=⟨332,Tryz.f332,Tryz.f332.body.getD .skip,Tryz.func332,by kernel_rfl,by kernel_rfl,zK.no _ _⟩
def Tb332:Tb Tryz.prog:= {T:= [Y2,Y30],mix:=mix,Es:= [zS,zaJ,zaA],Bs:= [],d:=1}
def zdA (a0:Iv):Tr (Iv):=
 .br (!(za a0)) (.leaf ze) (.leaf (zR (Rng.w .i64 (2*a0.lo.val)) (Rng.w .i64 (2*a0.hi.val))))
theorem r_spec_DoubleI (a0:Iv):Tb332.run B332 [enc a0] (Iv)=(zdA a0).opt:=by kernel_rfl
def za6:Iv->Iv:=fun a0=>(zdA a0).get
theorem u_spec_DoubleI (a0:Iv):(zdA a0).opt=some (za6 a0):=Tr.zz (by kernel_rfl)
def E_spec_DoubleI:Ent Tryz.prog:= .of1 Tb332 B332 (fun _=>true) za6 fun a0 _=>(r_spec_DoubleI a0).trans (u_spec_DoubleI a0)
def B330:Bod Tryz.prog:=⟨330,Tryz.f330,Tryz.f330.body.getD .skip,Tryz.func330,by kernel_rfl,by kernel_rfl,zK.no _ _⟩
def Tb330:Tb Tryz.prog:= {T:= [Y2,Y30],mix:=mix,Es:= [E_spec_DoubleI,E_spec_ArcSeries,E_spec_l07Halve],Bs:= [],d:=1}
def t_spec_l07Core (a0:Iv):Tr (Iv):=
 .leaf (za6 (za6 (zdp (zdd (zdd a0)))))
theorem r_spec_l07Core (a0:Iv):Tb330.run B330 [enc a0] (Iv)=(t_spec_l07Core a0).opt:=by kernel_rfl
def zax:Iv->Iv:=fun a0=>(t_spec_l07Core a0).get
theorem u_spec_l07Core (a0:Iv):(t_spec_l07Core a0).opt=some (zax a0):=Tr.zz (by kernel_rfl)
def E_spec_l07Core:Ent Tryz.prog:= .of1 Tb330 B330 (fun _=>true) zax fun a0 _=>(r_spec_l07Core a0).trans (u_spec_l07Core a0)
def B267:Bod Tryz.prog:=⟨267,Tryz.f267,Tryz.f267.body.getD .skip,Tryz.func267,by kernel_rfl,by kernel_rfl,zK.no _ _⟩
def Tb267_p:Tb Tryz.prog:= {T:= [Y2,Y30],mix:=mix,Es:= [zbl,zbZ,zb8,ET_spec_TurnI,E_spec_l07Quarter,E_spec_l05At,E_spec_l07Fix,E_spec_l07Core],Bs:= [],d:=1}
def t_spec_AtanAt_p (a0:I64):Tr (Iv):=
 .br (!(zb2 a0)) (.leaf zbV) (.br (decide (a0.val<0)) (.bad) (.br (decide (a0.val>4294967296)) (.leaf (zF (zW ⟨1,rfl⟩) (zax (zn (zb ⟨1,rfl⟩) (zA a0))))) (.leaf (zax (zA a0)))))
theorem r_spec_AtanAt_p (a0:I64):Tb267_p.run B267 [enc a0] (Iv)=(t_spec_AtanAt_p a0).opt:=by kernel_rfl
def zfQ:I64->Iv:=fun a0=>(t_spec_AtanAt_p a0).get
def G_spec_AtanAt_p:I64->Bool:=fun a0=>(t_spec_AtanAt_p a0).opt.isSome
def E_spec_AtanAt_p:Ent Tryz.prog:= .of1 Tb267_p B267 G_spec_AtanAt_p zfQ fun a0 h=>(r_spec_AtanAt_p a0).trans (Tr.get_some h)
def Tb267:Tb Tryz.prog:= {T:= [Y2,Y30],mix:=mix,Es:= [zbl,zbZ,zb8,ET_spec_TurnI,E_spec_NegI,E_spec_l07Quarter,E_spec_AtanAt_p,E_spec_l05At,E_spec_l07Fix,E_spec_l07Core],Bs:= [],d:=1}
def t_spec_AtanAt (a0:I64):Tr (Iv):=
 .br (!(zb2 a0)) (.leaf zbV) (.br (decide (a0.val<0)) (let c3:=(Rng.w .i64 (0-a0.val));.br (G_spec_AtanAt_p c3) (.leaf (zaO (zfQ c3))) (.bad)) (.br (decide (a0.val>4294967296)) (.leaf (zF (zW ⟨1,rfl⟩) (zax (zn (zb ⟨1,rfl⟩) (zA a0))))) (.leaf (zax (zA a0)))))
theorem r_spec_AtanAt (a0:I64):Tb267.run B267 [enc a0] (Iv)=(t_spec_AtanAt a0).opt:=by kernel_rfl
def zdF:I64->Iv:=fun a0=>(t_spec_AtanAt a0).get
def B290:Bod Tryz.prog:=⟨290,Tryz.f290,Tryz.f290.body.getD .skip,Tryz.func290,by kernel_rfl,by kernel_rfl,zK.no _ _⟩
def Tb290:Tb Tryz.prog:= {T:= [],mix:=mix,Es:= [],Bs:= [],d:=1}
def t_impl_isOpen (a0:I64):Tr (Bool):=
 .br (decide ((-1152921504606846976)<a0.val)) (.leaf (decide (a0.val<1152921504606846976))) (.leaf false)
theorem r_impl_isOpen (a0:I64):Tb290.run B290 [enc a0] (Bool)=(t_impl_isOpen a0).opt:=by kernel_rfl
def F_impl_isOpen:I64->Bool:=fun a0=>(t_impl_isOpen a0).get
theorem u_impl_isOpen (a0:I64):(t_impl_isOpen a0).opt=some (F_impl_isOpen a0):=Tr.zz (by kernel_rfl)
def E_impl_isOpen:Ent Tryz.prog:= .of1 Tb290 B290 (fun _=>true) F_impl_isOpen fun a0 _=>(r_impl_isOpen a0).trans (u_impl_isOpen a0)
def B270:Bod Tryz.prog:=⟨270,Tryz.f270,Tryz.f270.body.getD .skip,Tryz.func270,by kernel_rfl,by kernel_rfl,zK.no _ _⟩
def Tb270:Tb Tryz.prog:= {T:= [Y2,Y30],mix:=mix,Es:= [zd7],Bs:= [],d:=1}
def t_impl_halfCircle:Tr (Iv):=
 .leaf ⟨(Rng.w .i64 (0-(zaV ⟨1,rfl⟩).hi.val)),(zaV ⟨1,rfl⟩).hi⟩
theorem r_impl_halfCircle:Tb270.run B270 [] (Iv)=(t_impl_halfCircle).opt:=by kernel_rfl
def zci:Iv:=(t_impl_halfCircle).get
theorem u_impl_halfCircle:(t_impl_halfCircle).opt=some (zci):=Tr.zz (by kernel_rfl)
def E_impl_halfCircle:Ent Tryz.prog:= .of0 Tb270 B270 zci (r_impl_halfCircle.trans u_impl_halfCircle)
def B371:Bod Tryz.prog:=⟨371,Tryz.f371,Tryz.f371.body.getD .skip,Tryz.func371,by kernel_rfl,by kernel_rfl,zK.no _ _⟩
def Tb371:Tb Tryz.prog:= {T:= [Y2,Y30],mix:=mix,Es:= [za7,zca,ET_impl_SqrtI,zb9,zel],Bs:= [],d:=1}
def t_impl_halved (a0:Iv):Tr (Iv):=
 .leaf (zY a0 (zL (zl ⟨1,rfl⟩) (zei (zL (zl ⟨1,rfl⟩) (zcI a0)))))
theorem r_impl_halved (a0:Iv):Tb371.run B371 [enc a0] (Iv)=(t_impl_halved a0).opt:=by kernel_rfl
def F_impl_halved:Iv->Iv:=fun a0=>(t_impl_halved a0).get
theorem u_impl_halved (a0:Iv):(t_impl_halved a0).opt=some (F_impl_halved a0):=Tr.zz (by kernel_rfl)
def E_impl_halved:Ent Tryz.prog:= .of1 Tb371 B371 (fun _=>true) F_impl_halved fun a0 _=>(r_impl_halved a0).trans (u_impl_halved a0)
def B370:Bod Tryz.prog:=⟨370,Tryz.f370,Tryz.f370.body.getD .skip,Tryz.func370,by kernel_rfl,by kernel_rfl,zK.no _ _⟩
def Tb370:Tb Tryz.prog:= {T:= [Y2,Y30],mix:=mix,Es:= [zca,zbG,zcK,zel,zcD,zaa,E_impl_InsideI,E_impl_tiny],Bs:= [],d:=1}
def t_impl_ArcSeries (a0:Iv):Tr (Iv):=
 .br (!(zfo a0 ⟨⟨(-1073741824),rfl⟩,⟨1073741824,rfl⟩⟩)) (.leaf zq) (let c3:=zcI a0;.leaf (zL (zt a0 (zaq (zU ⟨1,rfl⟩ ⟨1,rfl⟩) (zt c3 (zaq (zU ⟨1,rfl⟩ ⟨3,rfl⟩) (zt c3 (zaq (zU ⟨1,rfl⟩ ⟨5,rfl⟩) (zt c3 (zaq (zU ⟨1,rfl⟩ ⟨7,rfl⟩) (zt c3 (zaq (zU ⟨1,rfl⟩ ⟨9,rfl⟩) (zt c3 (zaq (zU ⟨1,rfl⟩ ⟨11,rfl⟩) (zt c3 (zaq (zU ⟨1,rfl⟩ ⟨13,rfl⟩) (zt c3 (zaq (zU ⟨1,rfl⟩ ⟨15,rfl⟩) (zt c3 (zaq (zU ⟨1,rfl⟩ ⟨17,rfl⟩) (zt c3 (zaq (zU ⟨1,rfl⟩ ⟨19,rfl⟩) (zt c3 (zU ⟨1,rfl⟩ ⟨21,rfl⟩)))))))))))))))))))))) F_impl_tiny))
theorem r_impl_ArcSeries (a0:Iv):Tb370.run B370 [enc a0] (Iv)=(t_impl_ArcSeries a0).opt:=by kernel_rfl
def F_impl_ArcSeries:Iv->Iv:=fun a0=>(t_impl_ArcSeries a0).get
theorem u_impl_ArcSeries (a0:Iv):(t_impl_ArcSeries a0).opt=some (F_impl_ArcSeries a0):=Tr.zz (by kernel_rfl)
def E_impl_ArcSeries:Ent Tryz.prog:= .of1 Tb370 B370 (fun _=>true) F_impl_ArcSeries fun a0 _=>(r_impl_ArcSeries a0).trans (u_impl_ArcSeries a0)
def B336:Bod Tryz.prog:=⟨336,Tryz.f336,Tryz.f336.body.getD .skip,Tryz.func336,by kernel_rfl,by kernel_rfl,zK.no _ _⟩
def Tb336:Tb Tryz.prog:= {T:= [Y2,Y30],mix:=mix,Es:= [zca],Bs:= [],d:=1}
def t_impl_DoubleI (a0:Iv):Tr (Iv):=
 .leaf (zL a0 a0)
theorem r_impl_DoubleI (a0:Iv):Tb336.run B336 [enc a0] (Iv)=(t_impl_DoubleI a0).opt:=by kernel_rfl
def zcg:Iv->Iv:=fun a0=>(t_impl_DoubleI a0).get
theorem u_impl_DoubleI (a0:Iv):(t_impl_DoubleI a0).opt=some (zcg a0):=Tr.zz (by kernel_rfl)
def E_impl_DoubleI:Ent Tryz.prog:= .of1 Tb336 B336 (fun _=>true) zcg fun a0 _=>(r_impl_DoubleI a0).trans (u_impl_DoubleI a0)
def B334:Bod Tryz.prog:=⟨334,Tryz.f334,Tryz.f334.body.getD .skip,Tryz.func334,by kernel_rfl,by kernel_rfl,zK.no _ _⟩
def Tb334:Tb Tryz.prog:= {T:= [Y2,Y30],mix:=mix,Es:= [E_impl_DoubleI,E_impl_ArcSeries,E_impl_halved],Bs:= [],d:=1}
def t_impl_fourfold (a0:Iv):Tr (Iv):=
 .leaf (zcg (zcg (F_impl_ArcSeries (F_impl_halved (F_impl_halved a0)))))
theorem r_impl_fourfold (a0:Iv):Tb334.run B334 [enc a0] (Iv)=(t_impl_fourfold a0).opt:=by kernel_rfl
def zdP:Iv->Iv:=fun a0=>(t_impl_fourfold a0).get
theorem u_impl_fourfold (a0:Iv):(t_impl_fourfold a0).opt=some (zdP a0):=Tr.zz (by kernel_rfl)
def E_impl_fourfold:Ent Tryz.prog:= .of1 Tb334 B334 (fun _=>true) zdP fun a0 _=>(r_impl_fourfold a0).trans (u_impl_fourfold a0)
def B271:Bod Tryz.prog:=⟨271,Tryz.f271,Tryz.f271.body.getD .skip,Tryz.func271,by kernel_rfl,by kernel_rfl,zK.no _ _⟩
def Tb271_p:Tb Tryz.prog:= {T:= [Y2,Y30],mix:=mix,Es:= [za7,zcK,zb9,zfY,E_impl_halfCircle,zd7,E_impl_isOpen,E_impl_fourfold],Bs:= [],d:=1}
def t_impl_AtanAt_p (a0:I64):Tr (Iv):=
 .br (!(F_impl_isOpen a0)) (.leaf zci) (.br (decide (a0.val<0)) (.bad) (.br (decide (a0.val>4294967296)) (.leaf (zaq (zaV ⟨1,rfl⟩) (zdP (zY (zl ⟨1,rfl⟩) (zbc a0))))) (.leaf (zdP (zbc a0)))))
theorem r_impl_AtanAt_p (a0:I64):Tb271_p.run B271 [enc a0] (Iv)=(t_impl_AtanAt_p a0).opt:=by kernel_rfl
def F_impl_AtanAt_p:I64->Iv:=fun a0=>(t_impl_AtanAt_p a0).get
def G_impl_AtanAt_p:I64->Bool:=fun a0=>(t_impl_AtanAt_p a0).opt.isSome
def E_impl_AtanAt_p:Ent Tryz.prog:= .of1 Tb271_p B271 G_impl_AtanAt_p F_impl_AtanAt_p fun a0 h=>(r_impl_AtanAt_p a0).trans (Tr.get_some h)
def Tb271:Tb Tryz.prog:= {T:= [Y2,Y30],mix:=mix,Es:= [za7,zcK,zb9,E_impl_NegI,zfY,E_impl_halfCircle,E_impl_AtanAt_p,zd7,E_impl_isOpen,E_impl_fourfold],Bs:= [],d:=1}
def t_impl_AtanAt (a0:I64):Tr (Iv):=
 .br (!(F_impl_isOpen a0)) (.leaf zci) (.br (decide (a0.val<0)) (let c3:=(Rng.w .i64 (0-a0.val));.br (G_impl_AtanAt_p c3) (.leaf (zdv (F_impl_AtanAt_p c3))) (.bad)) (.br (decide (a0.val>4294967296)) (.leaf (zaq (zaV ⟨1,rfl⟩) (zdP (zY (zl ⟨1,rfl⟩) (zbc a0))))) (.leaf (zdP (zbc a0)))))
theorem r_impl_AtanAt (a0:I64):Tb271.run B271 [enc a0] (Iv)=(t_impl_AtanAt a0).opt:=by kernel_rfl
def F_impl_AtanAt:I64->Iv:=fun a0=>(t_impl_AtanAt a0).get
def B320:Bod Tryz.prog:=⟨320,Tryz.f320,Tryz.f320.body.getD .skip,Tryz.func320,by kernel_rfl,by kernel_rfl,zK.no _ _⟩
def Tb320_p:Tb Tryz.prog:= {T:= [Y2,Y30],mix:=mix,Es:= [zbu,zS,zaJ,zfX],Bs:= [],d:=1}
def zcx (a0:I64):Tr (Iv):=
 .br (!(zaj a0 ⟨(-64),rfl⟩ ⟨64,rfl⟩)) (.leaf ze) (.br (decide (a0.val<0)) (.bad) (.leaf (zR (zav a0 ⟨1598288580650331957,rfl⟩ ⟨29,rfl⟩).a (Rng.w .i64 (0-(zav (Rng.w .i64 (0-a0.val)) ⟨1598288580650331958,rfl⟩ ⟨29,rfl⟩).a.val)))))
theorem r_spec_LogTwoI_p (a0:I64):Tb320_p.run B320 [enc a0] (Iv)=(zcx a0).opt:=by kernel_rfl
def F_spec_LogTwoI_p:I64->Iv:=fun a0=>(zcx a0).get
def zeT:I64->Bool:=fun a0=>(zcx a0).opt.isSome
def E_spec_LogTwoI_p:Ent Tryz.prog:= .of1 Tb320_p B320 zeT F_spec_LogTwoI_p fun a0 h=>(r_spec_LogTwoI_p a0).trans (Tr.get_some h)
def Tb320:Tb Tryz.prog:= {T:= [Y2,Y30],mix:=mix,Es:= [zbu,zS,zaJ,zfX,E_spec_NegI,E_spec_LogTwoI_p],Bs:= [],d:=1}
def zdz (a0:I64):Tr (Iv):=
 .br (!(zaj a0 ⟨(-64),rfl⟩ ⟨64,rfl⟩)) (.leaf ze) (.br (decide (a0.val<0)) (let c3:=(Rng.w .i64 (0-a0.val));.br (zeT c3) (.leaf (zaO (F_spec_LogTwoI_p c3))) (.bad)) (.leaf (zR (zav a0 ⟨1598288580650331957,rfl⟩ ⟨29,rfl⟩).a (Rng.w .i64 (0-(zav (Rng.w .i64 (0-a0.val)) ⟨1598288580650331958,rfl⟩ ⟨29,rfl⟩).a.val)))))
theorem r_spec_LogTwoI (a0:I64):Tb320.run B320 [enc a0] (Iv)=(zdz a0).opt:=by kernel_rfl
def zaI:I64->Iv:=fun a0=>(zdz a0).get
def B260:Bod Tryz.prog:=⟨260,Tryz.f260,Tryz.f260.body.getD .skip,Tryz.func260,by kernel_rfl,by kernel_rfl,zK.no _ _⟩
def Tb260_p:Tb Tryz.prog:= {T:= [Y2,Y30],mix:=mix,Es:= [za8,zaa,ET_impl_MulFloor],Bs:= [],d:=1}
def zeQ (a0:I64):Tr (Iv):=
 .br (!(zan a0 ⟨(-64),rfl⟩ ⟨64,rfl⟩)) (.leaf zq) (.br (decide (a0.val<0)) (.bad) (.leaf ⟨(zb7 a0 ⟨1598288580650331957,rfl⟩ ⟨29,rfl⟩).a,(Rng.w .i64 (0-(zb7 (Rng.w .i64 (0-a0.val)) ⟨1598288580650331958,rfl⟩ ⟨29,rfl⟩).a.val))⟩))
theorem r_impl_LogTwoI_p (a0:I64):Tb260_p.run B260 [enc a0] (Iv)=(zeQ a0).opt:=by kernel_rfl
def F_impl_LogTwoI_p:I64->Iv:=fun a0=>(zeQ a0).get
def G_impl_LogTwoI_p:I64->Bool:=fun a0=>(zeQ a0).opt.isSome
def E_impl_LogTwoI_p:Ent Tryz.prog:= .of1 Tb260_p B260 G_impl_LogTwoI_p F_impl_LogTwoI_p fun a0 h=>(r_impl_LogTwoI_p a0).trans (Tr.get_some h)
def Tb260:Tb Tryz.prog:= {T:= [Y2,Y30],mix:=mix,Es:= [za8,zaa,E_impl_NegI,E_impl_LogTwoI_p,ET_impl_MulFloor],Bs:= [],d:=1}
def zfi (a0:I64):Tr (Iv):=
 .br (!(zan a0 ⟨(-64),rfl⟩ ⟨64,rfl⟩)) (.leaf zq) (.br (decide (a0.val<0)) (let c3:=(Rng.w .i64 (0-a0.val));.br (G_impl_LogTwoI_p c3) (.leaf (zdv (F_impl_LogTwoI_p c3))) (.bad)) (.leaf ⟨(zb7 a0 ⟨1598288580650331957,rfl⟩ ⟨29,rfl⟩).a,(Rng.w .i64 (0-(zb7 (Rng.w .i64 (0-a0.val)) ⟨1598288580650331958,rfl⟩ ⟨29,rfl⟩).a.val))⟩))
theorem r_impl_LogTwoI (a0:I64):Tb260.run B260 [enc a0] (Iv)=(zfi a0).opt:=by kernel_rfl
def zek:I64->Iv:=fun a0=>(zfi a0).get
def B369:Bod Tryz.prog:=⟨369,Tryz.f369,Tryz.f369.body.getD .skip,Tryz.func369,by kernel_rfl,by kernel_rfl,zK.no _ _⟩
def Tb369:Tb Tryz.prog:= {T:= [Y2,Y153,Y171],mix:=mix,Es:= [E_spec_l02Mul],Bs:= [],d:=1}
def t_spec_WideMul (a0:I64) (a1:I64):Tr (Wide):=
 .leaf (ze9 a0 a1)
theorem r_spec_WideMul (a0:I64) (a1:I64):Tb369.run B369 [enc a0,enc a1] (Wide)=(t_spec_WideMul a0 a1).opt:=by kernel_rfl
def zcY:I64->I64->Wide:=fun a0 a1=>(t_spec_WideMul a0 a1).get
theorem u_spec_WideMul (a0:I64) (a1:I64):(t_spec_WideMul a0 a1).opt=some (zcY a0 a1):=Tr.zz (by kernel_rfl)
def E_spec_WideMul:Ent Tryz.prog:= .of2 Tb369 B369 (fun _ _=>true) zcY fun a0 a1 _=>(r_spec_WideMul a0 a1).trans (u_spec_WideMul a0 a1)
def B333:Bod Tryz.prog:=⟨333,Tryz.f333,Tryz.f333.body.getD .skip,Tryz.func333,by kernel_rfl,by kernel_rfl,zK.no _ _⟩
def Tb333:Tb Tryz.prog:= {T:= [Y2,Y30,Y153,Y171],mix:=mix,Es:= [zbu,zcs,ET_spec_SqrtFloor,E_spec_WideMul],Bs:= [],d:=1}
def t_spec_CircleAt (a0:I64):Tr (Iv):=
 .br (!(zaj a0 ⟨(-4294967296),rfl⟩ ⟨4294967296,rfl⟩)) (.leaf zaK) (let c3:=(Rng.w .i64 (4294967296-a0.val));let c4:=(Rng.w .i64 (4294967296+a0.val));let c5:=zdX c3 c4;let c6:=zcY c5.a c5.a;let c7:=zcY c3 c4;.br (!((c6.hi.val==c7.hi.val)&&((c6.lo.val==c7.lo.val)&&true))) (.leaf ⟨c5.a,(Rng.w .i64 (c5.a.val+1))⟩) (.leaf ⟨c5.a,c5.a⟩))
theorem r_spec_CircleAt (a0:I64):Tb333.run B333 [enc a0] (Iv)=(t_spec_CircleAt a0).opt:=by kernel_rfl
def zdf:I64->Iv:=fun a0=>(t_spec_CircleAt a0).get
theorem u_spec_CircleAt (a0:I64):(t_spec_CircleAt a0).opt=some (zdf a0):=Tr.zz (by kernel_rfl)
def E_spec_CircleAt:Ent Tryz.prog:= .of1 Tb333 B333 (fun _=>true) zdf fun a0 _=>(r_spec_CircleAt a0).trans (u_spec_CircleAt a0)
def B337:Bod Tryz.prog:=⟨337,Tryz.f337,Tryz.f337.body.getD .skip,Tryz.func337,by kernel_rfl,by kernel_rfl,zK.no _ _⟩
def Tb337:Tb Tryz.prog:= {T:= [Y2,Y30,Y153,Y171],mix:=mix,Es:= [za8,zaa,zfY,E_impl_WideMul,ET_impl_SqrtFloor],Bs:= [],d:=1}
def t_impl_CircleAt (a0:I64):Tr (Iv):=
 .br (!(zan a0 ⟨(-4294967296),rfl⟩ ⟨4294967296,rfl⟩)) (.leaf zq) (let c5:=zdY (Rng.w .i64 (4294967296-a0.val)) (Rng.w .i64 (4294967296+a0.val));let c6:=zce c5.a c5.a;let c9:=zce (Rng.w .i64 (4294967296-a0.val)) (Rng.w .i64 (4294967296+a0.val));.br ((c6.hi.val==c9.hi.val)&&((c6.lo.val==c9.lo.val)&&true)) (.leaf (zbc c5.a)) (.leaf ⟨c5.a,(Rng.w .i64 (c5.a.val+1))⟩))
theorem r_impl_CircleAt (a0:I64):Tb337.run B337 [enc a0] (Iv)=(t_impl_CircleAt a0).opt:=by kernel_rfl
def F_impl_CircleAt:I64->Iv:=fun a0=>(t_impl_CircleAt a0).get
theorem u_impl_CircleAt (a0:I64):(t_impl_CircleAt a0).opt=some (F_impl_CircleAt a0):=Tr.zz (by kernel_rfl)
def E_impl_CircleAt:Ent Tryz.prog:= .of1 Tb337 B337 (fun _=>true) F_impl_CircleAt fun a0 _=>(r_impl_CircleAt a0).trans (u_impl_CircleAt a0)
end
end Go.Proofs.YtkenfaengphiiaaGreat.Ev
namespace Go.Proofs.YtkenfaengphiiaaGreat.Ev
open Go
theorem quot_eq (a b:I64):zU a b=zQ a b:=(q_F_impl a b).trans (q_F_spec a b).symm
theorem radians_eq (n:I64):zeW n=zbp n:=by
 have h:=rad_eq n
 have h2:=tt_rad_spec n
 have h1:=tt_rad_impl n
 rw [h.1,h2] at h1
 exact (Option.some.inj h1).symm
theorem cosI_eq (x:Iv):zfr x=zbA x:=by simp only [zfr,t_impl_CosI,zbA,t_spec_CosI,Tr.get,over_eq]
theorem sinI_eq (x:Iv):zcm x=zad x:=by simp only [zcm,t_impl_SinI,zad,t_spec_SinI,Tr.get,over_eq]
theorem double_eq (a:Iv):zcg a=za6 a:=by
 simp only [zcg,t_impl_DoubleI,za6,zdA,Tr.get,add_eq,zk,zc2]
 cases za a
 ·rfl
 simp only [Bool.not_true,cond_false]
 have e1:a.lo.val+a.lo.val=2*a.lo.val:=by omega
 have e2:a.hi.val+a.hi.val=2*a.hi.val:=by omega
 rw [e1,e2]
theorem halve_eq (a:Iv):F_impl_halved a=zdd a:=by
 simp only [F_impl_halved,t_impl_halved,zdd,t_spec_l07Halve,Tr.get,add_eq,divI_F,zbH,sqrtI_eq,sqrI_F]
theorem arcs_eq (a:Iv):F_impl_ArcSeries a=zdp a:=by
 simp only [F_impl_ArcSeries,t_impl_ArcSeries,zdp,t_spec_ArcSeries,Tr.get,add_eq,sub_eq,mulI_F,sqrI_F,quot_eq,tiny_eq,inside_eq,zaS,zc5]
theorem core_eq (a:Iv):zdP a=zax a:=by
 simp only [zdP,t_impl_fourfold,zax,t_spec_l07Core,Tr.get,double_eq,arcs_eq,halve_eq]
theorem fix_eq (n:I64):F_impl_isOpen n=zb2 n:=rfl
theorem fix_iff (n:I64):zb2 n=true↔(-1152921504606846976<n.val/\n.val<1152921504606846976):=by
 simp only [zb2,t_spec_l07Fix,Tr.get]
 by_cases h1:(-1152921504606846976:Int)<n.val<;>simp [h1]
theorem turn_in {k:I64} (h: -4096<=k.val) (h':k.val<=4096):zcu k=true/\zW k=zbw k:=by
 obtain ⟨x,h1,h2,h3⟩:=turn_ok k h h'
 have g:zcu k=true:=by unfold zcu;rw [h1];rfl
 have hi:zaj k ⟨(-4096),rfl⟩ ⟨4096,rfl⟩=true:=by rw [zft];simpa using ⟨h,h'⟩
 exact ⟨g,by simp only [zW,t_spec_TurnI,Tr.get,hi,g,Bool.not_true,cond_false,cond_true]⟩
theorem half_eq:zci=zbV:=by
 obtain ⟨g,e⟩:=turn_in (k:=⟨1,rfl⟩) (by decide) (by decide)
 simp only [zci,t_impl_halfCircle,zbV,t_spec_l07Quarter,Tr.get,turnI_eq,e,g,cond_true]
theorem atanp_ok (n:I64) (h:¬n.val<0):(t_spec_AtanAt_p n).opt=some (zfQ n)/\(t_impl_AtanAt_p n).opt=some (zfQ n):=by
 have hn:decide (n.val<0)=false:=by simpa using h
 simp only [t_spec_AtanAt_p,t_impl_AtanAt_p,zfQ,Tr.opt,Tr.get,hn,cond_false,fix_eq,half_eq,sub_eq,turnI_eq,core_eq,divI_F,zbH,at_eq]
 cases zb2 n<;>cases decide (n.val>4294967296)<;>exact ⟨rfl,rfl⟩
theorem atan_ok (n:I64):∃x,(t_spec_AtanAt n).opt=some x/\(t_impl_AtanAt n).opt=some x:=by
 simp only [t_spec_AtanAt,t_impl_AtanAt,Tr.opt,fix_eq,half_eq,sub_eq,turnI_eq,core_eq,divI_F,zbH,at_eq]
 cases hf:zb2 n
 ·exact ⟨_,rfl,rfl⟩
 have hb:=(fix_iff n).1 hf
 by_cases hn:n.val<0
 ·have e1:(Rng.w .i64 (0-n.val)).val=0-n.val:=wi (by omega) (by omega)
  obtain ⟨a1,a2⟩:=atanp_ok (.w .i64 (0-n.val)) (by omega)
  have g1:G_spec_AtanAt_p (.w .i64 (0-n.val))=true:=by unfold G_spec_AtanAt_p;rw [a1];rfl
  have g2:G_impl_AtanAt_p (.w .i64 (0-n.val))=true:=by unfold G_impl_AtanAt_p;rw [a2];rfl
  have f2:F_impl_AtanAt_p (.w .i64 (0-n.val))=zfQ (.w .i64 (0-n.val)):=Tr.zae a2
  simp only [hn,decide_true,cond_true,g1,g2,f2,neg_eq,Bool.not_true,cond_false]
  exact ⟨_,rfl,rfl⟩
 ·simp only [hn,decide_false,cond_false,Bool.not_true]
  cases decide (n.val>4294967296)<;>exact ⟨_,rfl,rfl⟩
theorem atan_eq (n:I64):F_impl_AtanAt n=zdF n:=by
 obtain ⟨x,h1,h2⟩:=atan_ok n
 exact (Tr.zae h2).trans (Tr.zae h1).symm
theorem tt_atan_spec (n:I64):(t_spec_AtanAt n).opt=some (zdF n):=by obtain ⟨x,h1,_⟩:=atan_ok n;exact zc6 h1
theorem tt_atan_impl (n:I64):(t_impl_AtanAt n).opt=some (F_impl_AtanAt n):=by obtain ⟨x,_,h1⟩:=atan_ok n;exact zc6 h1
theorem log_lo {k:I64} (h:0<=k.val) (h':k.val<=64):zav k ⟨1598288580650331957,rfl⟩ ⟨29,rfl⟩=⟨.w .i64 (k.val*1598288580650331957/536870912),true⟩ /\
  zav (.w .i64 (0-k.val)) ⟨1598288580650331958,rfl⟩ ⟨29,rfl⟩=⟨.w .i64 ((0-k.val)*1598288580650331958/536870912),true⟩ /\
  0<=k.val*1598288580650331957/536870912/\k.val*1598288580650331957/536870912 <= -((0-k.val)*1598288580650331958/536870912) /\ -((0-k.val)*1598288580650331958/536870912)<=200000000000:=by
 have hb:0<=k.val*1598288580650331957/536870912/\k.val*1598288580650331957/536870912 <= -((0-k.val)*1598288580650331958/536870912) /\ -((0-k.val)*1598288580650331958/536870912)<=200000000000:=by omega
 have en:(Rng.w .i64 (0-k.val)).val=0-k.val:=wi (by omega) (by omega)
 refine ⟨?_,?_,hb⟩
 ·rw [mf29];exact narrow_ok (v:=k.val*1598288580650331957/536870912) (by omega) (by omega)
 ·rw [mf29,en];exact narrow_ok (v:=(0-k.val)*1598288580650331958/536870912) (by omega) (by omega)
theorem logp (k:I64) (h:0<=k.val) (h':k.val<=64):∃x:Iv,(zcx k).opt=some x/\(zeQ k).opt=some x/\za x=true:=by
 have hw:zan k ⟨(-64),rfl⟩ ⟨64,rfl⟩=true:=by rw [zb0];simp;omega
 have hi:zaj k ⟨(-64),rfl⟩ ⟨64,rfl⟩=true:=by rw [zft];simp;omega
 have hn:decide (k.val<0)=false:=by simp;omega
 obtain ⟨e1,e2,b1,b2,b3⟩:=log_lo h h'
 have v1:(Rng.w .i64 (k.val*1598288580650331957/536870912)).val=k.val*1598288580650331957/536870912:=wi (by omega) (by omega)
 have v2:(Rng.w .i64 ((0-k.val)*1598288580650331958/536870912)).val=(0-k.val)*1598288580650331958/536870912:=wi (by omega) (by omega)
 have v3:(Rng.w .i64 (0-(0-k.val)*1598288580650331958/536870912)).val=0-(0-k.val)*1598288580650331958/536870912:=wi (by omega) (by omega)
 have hok: -1152921504606846976<(Rng.w .i64 (k.val*1598288580650331957/536870912)).val/\(Rng.w .i64 (k.val*1598288580650331957/536870912)).val<=(Rng.w .i64 (0-(Rng.w .i64 ((0-k.val)*1598288580650331958/536870912)).val)).val/\(Rng.w .i64 (0-(Rng.w .i64 ((0-k.val)*1598288580650331958/536870912)).val)).val<1152921504606846976:=by
  rw [v1,v2,v3];omega
 refine ⟨⟨.w .i64 (k.val*1598288580650331957/536870912),.w .i64 (0-(Rng.w .i64 ((0-k.val)*1598288580650331958/536870912)).val)⟩,?_,?_,(zaN _).2 hok⟩
 ·simp only [zcx,Tr.opt,hi,hn,Bool.not_true,cond_false,e1,e2]
  rw [zbI hok]
 ·simp only [zeQ,Tr.opt,hw,hn,Bool.not_true,cond_false,mulfloor_F,e1,e2]
theorem logTwo_ok (k:I64):∃x:Iv,(zdz k).opt=some x/\(zfi k).opt=some x:=by
 by_cases h: -64<=k.val/\k.val<=64
 ·have hw:zan k ⟨(-64),rfl⟩ ⟨64,rfl⟩=true:=by rw [zb0];simpa using h
  have hi:zaj k ⟨(-64),rfl⟩ ⟨64,rfl⟩=true:=by rw [zft];simpa using h
  by_cases hn:k.val<0
  ·have e1:(Rng.w .i64 (0-k.val)).val=0-k.val:=wi (by omega) (by omega)
   obtain ⟨x,h1,h2,h3⟩:=logp (.w .i64 (0-k.val)) (by omega) (by omega)
   have g1:zeT (.w .i64 (0-k.val))=true:=by unfold zeT;rw [h1];rfl
   have g2:G_impl_LogTwoI_p (.w .i64 (0-k.val))=true:=by unfold G_impl_LogTwoI_p;rw [h2];rfl
   have f1:F_spec_LogTwoI_p (.w .i64 (0-k.val))=x:=Tr.zae h1
   have f2:F_impl_LogTwoI_p (.w .i64 (0-k.val))=x:=Tr.zae h2
   have hd:decide (k.val<0)=true:=by simpa using hn
   exact ⟨zaO x,by simp only [zdz,Tr.opt,hi,hd,g1,f1,cond_true,cond_false,Bool.not_true],by simp only [zfi,Tr.opt,hw,hd,g2,f2,cond_true,cond_false,Bool.not_true,neg_eq]⟩
  ·obtain ⟨x,h1,h2,h3⟩:=logp k (by omega) (by omega)
   have hd:decide (k.val<0)=false:=by simpa using hn
   refine ⟨x,?_,?_⟩
   ·simp only [zcx,Tr.opt,hd] at h1
    simp only [zdz,Tr.opt,hd]
    exact h1
   ·simp only [zeQ,Tr.opt,hd,hw] at h2
    simp only [zfi,Tr.opt,hd,hw]
    exact h2
 ·have hi:zaj k ⟨(-64),rfl⟩ ⟨64,rfl⟩=false:=by rw [zft];simpa using h
  have hw:zan k ⟨(-64),rfl⟩ ⟨64,rfl⟩=false:=by rw [zb0];simpa using h
  exact ⟨ze,by simp only [zdz,Tr.opt,hi,Bool.not_false,cond_true],by simp only [zfi,Tr.opt,hw,Bool.not_false,cond_true,zaS]⟩
theorem tt_log2_spec (k:I64):(zdz k).opt=some (zaI k):=by obtain ⟨x,h1,_⟩:=logTwo_ok k;exact zc6 h1
theorem tt_log2_impl (k:I64):(zfi k).opt=some (zek k):=by obtain ⟨x,_,h1⟩:=logTwo_ok k;exact zc6 h1
theorem log2_eq (k:I64):zek k=zaI k:=by
 obtain ⟨x,h1,h2⟩:=logTwo_ok k
 exact (Tr.zae h2).trans (Tr.zae h1).symm
end Go.Proofs.YtkenfaengphiiaaGreat.Ev
namespace Go.Proofs.YtkenfaengphiiaaGreat.Ev
open Go Go.RowKit
set_option maxRecDepth 100000
section
variable [Amb]
def ET_spec_AtanAt:Ent Tryz.prog:= .of1 Tb267 B267 (fun _=>true) zdF fun a0 _=>(r_spec_AtanAt a0).trans (tt_atan_spec a0)
def ET_impl_AtanAt:Ent Tryz.prog:= .of1 Tb271 B271 (fun _=>true) F_impl_AtanAt fun a0 _=>(r_impl_AtanAt a0).trans (tt_atan_impl a0)
def ET_spec_LogTwoI:Ent Tryz.prog:= .of1 Tb320 B320 (fun _=>true) zaI fun a0 _=>(r_spec_LogTwoI a0).trans (tt_log2_spec a0)
def ET_impl_LogTwoI:Ent Tryz.prog:= .of1 Tb260 B260 (fun _=>true) zek fun a0 _=>(r_impl_LogTwoI a0).trans (tt_log2_impl a0)
def B280:Bod Tryz.prog:=⟨280,Tryz.f280,Tryz.f280.body.getD .skip,Tryz.func280,by kernel_rfl,by kernel_rfl,zK.no _ _⟩
def Tb280:Tb Tryz.prog:= {T:= [Y2,Y30],mix:=mix,Es:= [zS,zaJ,zaA,E_spec_l04Ends],Bs:= [],d:=1}
def t_spec_AbsI (a0:Iv):Tr (Iv):=
 .br (!(za a0)) (.leaf ze) (let c3:=zN a0;.leaf (zR c3.a c3.b))
theorem r_spec_AbsI (a0:Iv):Tb280.run B280 [enc a0] (Iv)=(t_spec_AbsI a0).opt:=by kernel_rfl
def F_spec_AbsI:Iv->Iv:=fun a0=>(t_spec_AbsI a0).get
theorem u_spec_AbsI (a0:Iv):(t_spec_AbsI a0).opt=some (F_spec_AbsI a0):=Tr.zz (by kernel_rfl)
def E_spec_AbsI:Ent Tryz.prog:= .of1 Tb280 B280 (fun _=>true) F_spec_AbsI fun a0 _=>(r_spec_AbsI a0).trans (u_spec_AbsI a0)
def B127:Bod Tryz.prog:=⟨127,Tryz.f127,Tryz.f127.body.getD .skip,Tryz.func127,by kernel_rfl,by kernel_rfl,zK.no _ _⟩
def Tb127:Tb Tryz.prog:= {T:= [Y30],mix:=mix,Es:= [zaA],Bs:= [],d:=1}
def t_spec_IsWhole (a0:Iv):Tr (Bool):=
 .leaf (!(za a0))
theorem r_spec_IsWhole (a0:Iv):Tb127.run B127 [enc a0] (Bool)=(t_spec_IsWhole a0).opt:=by kernel_rfl
def zef:Iv->Bool:=fun a0=>(t_spec_IsWhole a0).get
theorem u_spec_IsWhole (a0:Iv):(t_spec_IsWhole a0).opt=some (zef a0):=Tr.zz (by kernel_rfl)
def E_spec_IsWhole:Ent Tryz.prog:= .of1 Tb127 B127 (fun _=>true) zef fun a0 _=>(r_spec_IsWhole a0).trans (u_spec_IsWhole a0)
def B163:Bod Tryz.prog:=⟨163,Tryz.f163,Tryz.f163.body.getD .skip,Tryz.func163,by kernel_rfl,by kernel_rfl,zK.no _ _⟩
def Tb163:Tb Tryz.prog:= {T:= [Y2,Y30],mix:=mix,Es:= [E_spec_IsWhole,E_spec_HullI,E_spec_l07Quarter,ET_spec_AtanAt],Bs:= [],d:=1}
def t_spec_AtanI (a0:Iv):Tr (Iv):=
 .br (zef a0) (.leaf zbV) (.leaf (zT (zdF a0.lo) (zdF a0.hi)))
theorem r_spec_AtanI (a0:Iv):Tb163.run B163 [enc a0] (Iv)=(t_spec_AtanI a0).opt:=by kernel_rfl
def zah:Iv->Iv:=fun a0=>(t_spec_AtanI a0).get
theorem u_spec_AtanI (a0:Iv):(t_spec_AtanI a0).opt=some (zah a0):=Tr.zz (by kernel_rfl)
def E_spec_AtanI:Ent Tryz.prog:= .of1 Tb163 B163 (fun _=>true) zah fun a0 _=>(r_spec_AtanI a0).trans (u_spec_AtanI a0)
def B167:Bod Tryz.prog:=⟨167,Tryz.f167,Tryz.f167.body.getD .skip,Tryz.func167,by kernel_rfl,by kernel_rfl,zK.no _ _⟩
def Tb167:Tb Tryz.prog:= {T:= [Y2,Y30],mix:=mix,Es:= [zaW,E_impl_HullI,E_impl_halfCircle,ET_impl_AtanAt],Bs:= [],d:=1}
def t_impl_AtanI (a0:Iv):Tr (Iv):=
 .br (zX a0) (.leaf zci) (.leaf (zay (F_impl_AtanAt a0.lo) (F_impl_AtanAt a0.hi)))
theorem r_impl_AtanI (a0:Iv):Tb167.run B167 [enc a0] (Iv)=(t_impl_AtanI a0).opt:=by kernel_rfl
def zcV:Iv->Iv:=fun a0=>(t_impl_AtanI a0).get
theorem u_impl_AtanI (a0:Iv):(t_impl_AtanI a0).opt=some (zcV a0):=Tr.zz (by kernel_rfl)
def E_impl_AtanI:Ent Tryz.prog:= .of1 Tb167 B167 (fun _=>true) zcV fun a0 _=>(r_impl_AtanI a0).trans (u_impl_AtanI a0)
def B19:Bod Tryz.prog:=⟨19,Tryz.f19,Tryz.f19.body.getD .skip,Tryz.func19,by kernel_rfl,by kernel_rfl,zK.no _ _⟩
def Tb19:Tb Tryz.prog:= {T:= [Y30],mix:=mix,Es:= [zaA,E_spec_l04Has],Bs:= [],d:=1}
def t_spec_HasI (a0:Iv) (a1:I64):Tr (Bool):=
 .br (!(za a0)) (.leaf true) (.leaf (za5 a0 a1))
theorem r_spec_HasI (a0:Iv) (a1:I64):Tb19.run B19 [enc a0,enc a1] (Bool)=(t_spec_HasI a0 a1).opt:=by kernel_rfl
def F_spec_HasI:Iv->I64->Bool:=fun a0 a1=>(t_spec_HasI a0 a1).get
theorem u_spec_HasI (a0:Iv) (a1:I64):(t_spec_HasI a0 a1).opt=some (F_spec_HasI a0 a1):=Tr.zz (by kernel_rfl)
def E_spec_HasI:Ent Tryz.prog:= .of2 Tb19 B19 (fun _ _=>true) F_spec_HasI fun a0 a1 _=>(r_spec_HasI a0 a1).trans (u_spec_HasI a0 a1)
def B226:Bod Tryz.prog:=⟨226,Tryz.f226,Tryz.f226.body.getD .skip,Tryz.func226,by kernel_rfl,by kernel_rfl,zK.no _ _⟩
def Tb226:Tb Tryz.prog:= {T:= [Y2,Y30],mix:=mix,Es:= [zcn,zbZ,zcs,zb8,E_spec_AtanI,ET_spec_TurnI,E_spec_l05At,E_spec_l07Fix],Bs:= [],d:=1}
def t_spec_DirectionAt (a0:I64) (a1:I64):Tr (Iv):=
 .br (!(zb2 a0)) (.leaf zaK) (.br (!(zb2 a1)) (.leaf zaK) (.br (a1.val==0) (.br (a0.val==0) (.leaf zaK) (.br (decide (a0.val<0)) (let c6:=(Rng.w .i64 (0-a0.val));.br (decide (c6.val>a1.val)) (.br (decide (c6.val>(Rng.w .i64 (0-a1.val)).val)) (.br (decide (a0.val<0)) (.leaf (zF (zW ⟨(-1),rfl⟩) (zah (zn (zA a1) (zA a0))))) (.leaf (zF (zW ⟨1,rfl⟩) (zah (zn (zA a1) (zA a0)))))) (.br (decide (a1.val>0)) (.leaf (zah (zn (zA a0) (zA a1)))) (.br (decide (a0.val<0)) (.leaf (zk (zah (zn (zA a0) (zA a1))) (zW ⟨(-2),rfl⟩))) (.leaf (zk (zah (zn (zA a0) (zA a1))) (zW ⟨2,rfl⟩)))))) (.br (decide (a1.val>0)) (.leaf (zah (zn (zA a0) (zA a1)))) (.br (decide (a0.val<0)) (.leaf (zk (zah (zn (zA a0) (zA a1))) (zW ⟨(-2),rfl⟩))) (.leaf (zk (zah (zn (zA a0) (zA a1))) (zW ⟨2,rfl⟩)))))) (.br (decide (a0.val>a1.val)) (.br (decide (a0.val>(Rng.w .i64 (0-a1.val)).val)) (.br (decide (a0.val<0)) (.leaf (zF (zW ⟨(-1),rfl⟩) (zah (zn (zA a1) (zA a0))))) (.leaf (zF (zW ⟨1,rfl⟩) (zah (zn (zA a1) (zA a0)))))) (.br (decide (a1.val>0)) (.leaf (zah (zn (zA a0) (zA a1)))) (.br (decide (a0.val<0)) (.leaf (zk (zah (zn (zA a0) (zA a1))) (zW ⟨(-2),rfl⟩))) (.leaf (zk (zah (zn (zA a0) (zA a1))) (zW ⟨2,rfl⟩)))))) (.br (decide (a1.val>0)) (.leaf (zah (zn (zA a0) (zA a1)))) (.br (decide (a0.val<0)) (.leaf (zk (zah (zn (zA a0) (zA a1))) (zW ⟨(-2),rfl⟩))) (.leaf (zk (zah (zn (zA a0) (zA a1))) (zW ⟨2,rfl⟩)))))))) (.br (decide (a0.val<0)) (let c101:=(Rng.w .i64 (0-a0.val));.br (decide (c101.val>a1.val)) (.br (decide (c101.val>(Rng.w .i64 (0-a1.val)).val)) (.br (decide (a0.val<0)) (.leaf (zF (zW ⟨(-1),rfl⟩) (zah (zn (zA a1) (zA a0))))) (.leaf (zF (zW ⟨1,rfl⟩) (zah (zn (zA a1) (zA a0)))))) (.br (decide (a1.val>0)) (.leaf (zah (zn (zA a0) (zA a1)))) (.br (decide (a0.val<0)) (.leaf (zk (zah (zn (zA a0) (zA a1))) (zW ⟨(-2),rfl⟩))) (.leaf (zk (zah (zn (zA a0) (zA a1))) (zW ⟨2,rfl⟩)))))) (.br (decide (a1.val>0)) (.leaf (zah (zn (zA a0) (zA a1)))) (.br (decide (a0.val<0)) (.leaf (zk (zah (zn (zA a0) (zA a1))) (zW ⟨(-2),rfl⟩))) (.leaf (zk (zah (zn (zA a0) (zA a1))) (zW ⟨2,rfl⟩)))))) (.br (decide (a0.val>a1.val)) (.br (decide (a0.val>(Rng.w .i64 (0-a1.val)).val)) (.br (decide (a0.val<0)) (.leaf (zF (zW ⟨(-1),rfl⟩) (zah (zn (zA a1) (zA a0))))) (.leaf (zF (zW ⟨1,rfl⟩) (zah (zn (zA a1) (zA a0)))))) (.br (decide (a1.val>0)) (.leaf (zah (zn (zA a0) (zA a1)))) (.br (decide (a0.val<0)) (.leaf (zk (zah (zn (zA a0) (zA a1))) (zW ⟨(-2),rfl⟩))) (.leaf (zk (zah (zn (zA a0) (zA a1))) (zW ⟨2,rfl⟩)))))) (.br (decide (a1.val>0)) (.leaf (zah (zn (zA a0) (zA a1)))) (.br (decide (a0.val<0)) (.leaf (zk (zah (zn (zA a0) (zA a1))) (zW ⟨(-2),rfl⟩))) (.leaf (zk (zah (zn (zA a0) (zA a1))) (zW ⟨2,rfl⟩)))))))))
theorem r_spec_DirectionAt (a0:I64) (a1:I64):Tb226.run B226 [enc a0,enc a1] (Iv)=(t_spec_DirectionAt a0 a1).opt:=by kernel_rfl
def zZ:I64->I64->Iv:=fun a0 a1=>(t_spec_DirectionAt a0 a1).get
theorem u_spec_DirectionAt (a0:I64) (a1:I64):(t_spec_DirectionAt a0 a1).opt=some (zZ a0 a1):=Tr.zz (by kernel_rfl)
def E_spec_DirectionAt:Ent Tryz.prog:= .of2 Tb226 B226 (fun _ _=>true) zZ fun a0 a1 _=>(r_spec_DirectionAt a0 a1).trans (u_spec_DirectionAt a0 a1)
def B128:Bod Tryz.prog:=⟨128,Tryz.f128,Tryz.f128.body.getD .skip,Tryz.func128,by kernel_rfl,by kernel_rfl,zK.no _ _⟩
def Tb128:Tb Tryz.prog:= {T:= [Y2,Y30],mix:=mix,Es:= [E_spec_HasI,E_spec_IsWhole,zcs,E_spec_HullI,E_spec_DirectionAt],Bs:= [],d:=1}
def t_spec_DirectionI (a0:Iv) (a1:Iv):Tr (Iv):=
 .br (zef a0) (.leaf zaK) (.br (zef a1) (.leaf zaK) (.br (F_spec_HasI a0 ⟨0,rfl⟩) (.br (F_spec_HasI a1 ⟨0,rfl⟩) (.leaf zaK) (.br (decide (a1.lo.val<0)) (.br (decide (a0.lo.val<0)) (.br (decide (a0.hi.val>=0)) (.leaf zaK) (.leaf (zT (zT (zZ a0.lo a1.lo) (zZ a0.lo a1.hi)) (zT (zZ a0.hi a1.lo) (zZ a0.hi a1.hi))))) (.leaf (zT (zT (zZ a0.lo a1.lo) (zZ a0.lo a1.hi)) (zT (zZ a0.hi a1.lo) (zZ a0.hi a1.hi))))) (.leaf (zT (zT (zZ a0.lo a1.lo) (zZ a0.lo a1.hi)) (zT (zZ a0.hi a1.lo) (zZ a0.hi a1.hi)))))) (.br (decide (a1.lo.val<0)) (.br (decide (a0.lo.val<0)) (.br (decide (a0.hi.val>=0)) (.leaf zaK) (.leaf (zT (zT (zZ a0.lo a1.lo) (zZ a0.lo a1.hi)) (zT (zZ a0.hi a1.lo) (zZ a0.hi a1.hi))))) (.leaf (zT (zT (zZ a0.lo a1.lo) (zZ a0.lo a1.hi)) (zT (zZ a0.hi a1.lo) (zZ a0.hi a1.hi))))) (.leaf (zT (zT (zZ a0.lo a1.lo) (zZ a0.lo a1.hi)) (zT (zZ a0.hi a1.lo) (zZ a0.hi a1.hi)))))))
theorem r_spec_DirectionI (a0:Iv) (a1:Iv):Tb128.run B128 [enc a0,enc a1] (Iv)=(t_spec_DirectionI a0 a1).opt:=by kernel_rfl
def zeu:Iv->Iv->Iv:=fun a0 a1=>(t_spec_DirectionI a0 a1).get
theorem u_spec_DirectionI (a0:Iv) (a1:Iv):(t_spec_DirectionI a0 a1).opt=some (zeu a0 a1):=Tr.zz (by kernel_rfl)
def E_spec_DirectionI:Ent Tryz.prog:= .of2 Tb128 B128 (fun _ _=>true) zeu fun a0 a1 _=>(r_spec_DirectionI a0 a1).trans (u_spec_DirectionI a0 a1)
def B190:Bod Tryz.prog:=⟨190,Tryz.f190,Tryz.f190.body.getD .skip,Tryz.func190,by kernel_rfl,by kernel_rfl,zK.no _ _⟩
def Tb190:Tb Tryz.prog:= {T:= [Y2,Y30],mix:=mix,Es:= [zca,zcK,zb9,E_impl_AtanI,zaa,E_impl_abs,zfY,zd7,E_impl_isOpen],Bs:= [],d:=1}
def t_impl_DirectionAt (a0:I64) (a1:I64):Tr (Iv):=
 .br (!(F_impl_isOpen a0)) (.leaf zq) (.br (!(F_impl_isOpen a1)) (.leaf zq) (.br (a0.val==0) (.br (a1.val==0) (.leaf zq) (.br (decide ((zct a0).val>(zct a1).val)) (.br (decide (a0.val<0)) (.leaf (zaq (zaV ⟨(-1),rfl⟩) (zcV (zY (zbc a1) (zbc a0))))) (.leaf (zaq (zaV ⟨1,rfl⟩) (zcV (zY (zbc a1) (zbc a0)))))) (let c24:=zcV (zY (zbc a0) (zbc a1));.br (decide (a1.val>0)) (.leaf c24) (.br (decide (a0.val<0)) (.leaf (zL c24 (zaV ⟨(-2),rfl⟩))) (.leaf (zL c24 (zaV ⟨2,rfl⟩))))))) (.br (decide ((zct a0).val>(zct a1).val)) (.br (decide (a0.val<0)) (.leaf (zaq (zaV ⟨(-1),rfl⟩) (zcV (zY (zbc a1) (zbc a0))))) (.leaf (zaq (zaV ⟨1,rfl⟩) (zcV (zY (zbc a1) (zbc a0)))))) (let c47:=zcV (zY (zbc a0) (zbc a1));.br (decide (a1.val>0)) (.leaf c47) (.br (decide (a0.val<0)) (.leaf (zL c47 (zaV ⟨(-2),rfl⟩))) (.leaf (zL c47 (zaV ⟨2,rfl⟩))))))))
theorem r_impl_DirectionAt (a0:I64) (a1:I64):Tb190.run B190 [enc a0,enc a1] (Iv)=(t_impl_DirectionAt a0 a1).opt:=by kernel_rfl
def z8:I64->I64->Iv:=fun a0 a1=>(t_impl_DirectionAt a0 a1).get
theorem u_impl_DirectionAt (a0:I64) (a1:I64):(t_impl_DirectionAt a0 a1).opt=some (z8 a0 a1):=Tr.zz (by kernel_rfl)
def E_impl_DirectionAt:Ent Tryz.prog:= .of2 Tb190 B190 (fun _ _=>true) z8 fun a0 a1 _=>(r_impl_DirectionAt a0 a1).trans (u_impl_DirectionAt a0 a1)
def B79:Bod Tryz.prog:=⟨79,Tryz.f79,Tryz.f79.body.getD .skip,Tryz.func79,by kernel_rfl,by kernel_rfl,zK.no _ _⟩
def Tb79:Tb Tryz.prog:= {T:= [Y2,Y30],mix:=mix,Es:= [za9,zaa,E_impl_HasI,E_impl_HullI,E_impl_DirectionAt],Bs:= [],d:=1}
def t_impl_DirectionI (a0:Iv) (a1:Iv):Tr (Iv):=
 .br (!(zaH a0 a1)) (.leaf zq) (.br (zfp a0 ⟨0,rfl⟩) (.br (zfp a1 ⟨0,rfl⟩) (.leaf zq) (.br (decide (a1.lo.val<0)) (.br (decide (a0.lo.val<0)) (.br (decide (a0.hi.val>=0)) (.leaf zq) (.leaf (zay (zay (z8 a0.lo a1.lo) (z8 a0.lo a1.hi)) (zay (z8 a0.hi a1.lo) (z8 a0.hi a1.hi))))) (.leaf (zay (zay (z8 a0.lo a1.lo) (z8 a0.lo a1.hi)) (zay (z8 a0.hi a1.lo) (z8 a0.hi a1.hi))))) (.leaf (zay (zay (z8 a0.lo a1.lo) (z8 a0.lo a1.hi)) (zay (z8 a0.hi a1.lo) (z8 a0.hi a1.hi)))))) (.br (decide (a1.lo.val<0)) (.br (decide (a0.lo.val<0)) (.br (decide (a0.hi.val>=0)) (.leaf zq) (.leaf (zay (zay (z8 a0.lo a1.lo) (z8 a0.lo a1.hi)) (zay (z8 a0.hi a1.lo) (z8 a0.hi a1.hi))))) (.leaf (zay (zay (z8 a0.lo a1.lo) (z8 a0.lo a1.hi)) (zay (z8 a0.hi a1.lo) (z8 a0.hi a1.hi))))) (.leaf (zay (zay (z8 a0.lo a1.lo) (z8 a0.lo a1.hi)) (zay (z8 a0.hi a1.lo) (z8 a0.hi a1.hi))))))
theorem r_impl_DirectionI (a0:Iv) (a1:Iv):Tb79.run B79 [enc a0,enc a1] (Iv)=(t_impl_DirectionI a0 a1).opt:=by kernel_rfl
def zex:Iv->Iv->Iv:=fun a0 a1=>(t_impl_DirectionI a0 a1).get
theorem u_impl_DirectionI (a0:Iv) (a1:Iv):(t_impl_DirectionI a0 a1).opt=some (zex a0 a1):=Tr.zz (by kernel_rfl)
def E_impl_DirectionI:Ent Tryz.prog:= .of2 Tb79 B79 (fun _ _=>true) zex fun a0 a1 _=>(r_impl_DirectionI a0 a1).trans (u_impl_DirectionI a0 a1)
def B318:Bod Tryz.prog:=⟨318,Tryz.f318,Tryz.f318.body.getD .skip,Tryz.func318,by kernel_rfl,by kernel_rfl,zK.no _ _⟩
def Tb318:Tb Tryz.prog:= {T:= [Y2,Y30],mix:=mix,Es:= [zaJ],Bs:= [],d:=1}
def t_spec_l08At (a0:I64):Tr (Iv):=
 .leaf (zR a0 a0)
theorem r_spec_l08At (a0:I64):Tb318.run B318 [enc a0] (Iv)=(t_spec_l08At a0).opt:=by kernel_rfl
def zaT:I64->Iv:=fun a0=>(t_spec_l08At a0).get
theorem u_spec_l08At (a0:I64):(t_spec_l08At a0).opt=some (zaT a0):=Tr.zz (by kernel_rfl)
def zfc:Ent Tryz.prog:= .of1 Tb318 B318 (fun _=>true) zaT fun a0 _=>(r_spec_l08At a0).trans (u_spec_l08At a0)
def B319:Bod Tryz.prog:=⟨319,Tryz.f319,Tryz.f319.body.getD .skip,Tryz.func319,by kernel_rfl,by kernel_rfl,zK.no _ _⟩
def Tb319:Tb Tryz.prog:= {T:= [Y2,Y30],mix:=mix,Es:= [zfc],Bs:= [],d:=1}
def t_spec_l08One:Tr (Iv):=
 .leaf (zaT ⟨4294967296,rfl⟩)
theorem r_spec_l08One:Tb319.run B319 [] (Iv)=(t_spec_l08One).opt:=by kernel_rfl
def zak:Iv:=(t_spec_l08One).get
theorem u_spec_l08One:(t_spec_l08One).opt=some (zak):=Tr.zz (by kernel_rfl)
def E_spec_l08One:Ent Tryz.prog:= .of0 Tb319 B319 zak (r_spec_l08One.trans u_spec_l08One)
def B362:Bod Tryz.prog:=⟨362,Tryz.f362,Tryz.f362.body.getD .skip,Tryz.func362,by kernel_rfl,by kernel_rfl,zK.no _ _⟩
def Tb362:Tb Tryz.prog:= {T:= [Y2,Y30],mix:=mix,Es:= [zS,zaJ,zaA],Bs:= [],d:=1}
def t_spec_l08Widen (a0:Iv) (a1:I64):Tr (Iv):=
 .br (!(za a0)) (.leaf ze) (.leaf (zR (Rng.w .i64 (a0.lo.val-a1.val)) (Rng.w .i64 (a0.hi.val+a1.val))))
theorem r_spec_l08Widen (a0:Iv) (a1:I64):Tb362.run B362 [enc a0,enc a1] (Iv)=(t_spec_l08Widen a0 a1).opt:=by kernel_rfl
def zbT:Iv->I64->Iv:=fun a0 a1=>(t_spec_l08Widen a0 a1).get
theorem u_spec_l08Widen (a0:Iv) (a1:I64):(t_spec_l08Widen a0 a1).opt=some (zbT a0 a1):=Tr.zz (by kernel_rfl)
def E_spec_l08Widen:Ent Tryz.prog:= .of2 Tb362 B362 (fun _ _=>true) zbT fun a0 a1 _=>(r_spec_l08Widen a0 a1).trans (u_spec_l08Widen a0 a1)
structure zec where
 x0:I64
 x1:I64
 x2:I64
 x3:I64
 x4:I64
 x5:I64
instance:Inhabited zec:=⟨⟨default,default,default,default,default,default⟩⟩
def st_spec_LogAt_5 (x:zec):St:=⟨[(0,.i64 x.x0),(2,.ptr 0 0),(3,.i64 x.x1),(4,.ptr 1 0)],79,⟨[(0,[.i64 x.x2,.i64 x.x3]),(1,[.i64 x.x4,.i64 x.x5])],2,0⟩⟩
def rd_spec_LogAt_5:St->Option zec:=fun s=>match s with
 | ⟨[(0,.i64 x0),(2,.ptr 0 0),(3,.i64 x1),(4,.ptr 1 0)],79,⟨[(0,[.i64 x2,.i64 x3]),(1,[.i64 x4,.i64 x5])],2,0⟩⟩=>some ⟨x0,x1,x2,x3,x4,x5⟩
 | _=>none
def zfk (x:zec):Tr (Lp zec):=
 .br (decide (x.x4.val>=6442450944)) (let c4:=(Rng.w .i64 (x.x1.val+1));.leaf (.again ⟨x.x0,c4,x.x2,x.x3,(Rng.w .i64 (x.x0.val.fdiv (2^min ((Rng.w .u64 (c4.val)).val).toNat 64))),(Rng.w .i64 (0-(Rng.w .i64 ((Rng.w .i64 (0-x.x0.val)).val.fdiv (2^min ((Rng.w .u64 (c4.val)).val).toNat 64))).val))⟩)) (.leaf (.out ⟨x.x0,x.x1,x.x2,x.x3,x.x4,x.x5⟩))
def G_spec_LogAt_5 (x:zec):Bool:=(Lf zfk 70 x).opt.isSome
def L_spec_LogAt_5 (x:zec):zec:=(Lf zfk 70 x).get
def TbL_spec_LogAt_5:Tb Tryz.prog:= {T:= [Y2,Y30,Y162],mix:=mix,Es:= [],Bs:= [],d:=1}
def P_spec_LogAt_5:LpF:=loopF [0,2,3,4] [0,1] 2 rd_spec_LogAt_5 st_spec_LogAt_5 (.exit 0) G_spec_LogAt_5 L_spec_LogAt_5
theorem lok_spec_LogAt_5:LoopOk Tryz.prog (loopAt (Tryz.f321.body.getD .skip) 0) P_spec_LogAt_5:=zfw (t:=TbL_spec_LogAt_5) (lt:=fun _=>none) (body:=zfk) (n:=70) (by intro h;cases h) (fun _ _ _ h=>by cases h)
 (by intro s x h;unfold rd_spec_LogAt_5 at h;split at h<;>cases h;rfl) (fun x b cs h=>lk_lt (l:=(st_spec_LogAt_5 x).mm.blks) (by kernel_rfl) h) (by intro x;kernel_rfl) (fun x h=>Tr.get_some h)
structure zeb where
 x0:I64
 x1:I64
 x2:I64
 x3:I64
 x4:I64
 x5:I64
instance:Inhabited zeb:=⟨⟨default,default,default,default,default,default⟩⟩
def st_spec_LogAt_8 (x:zeb):St:=⟨[(0,.i64 x.x0),(2,.ptr 0 0),(3,.i64 x.x1),(4,.ptr 1 0)],79,⟨[(0,[.i64 x.x2,.i64 x.x3]),(1,[.i64 x.x4,.i64 x.x5])],2,0⟩⟩
def rd_spec_LogAt_8:St->Option zeb:=fun s=>match s with
 | ⟨[(0,.i64 x0),(2,.ptr 0 0),(3,.i64 x1),(4,.ptr 1 0)],79,⟨[(0,[.i64 x2,.i64 x3]),(1,[.i64 x4,.i64 x5])],2,0⟩⟩=>some ⟨x0,x1,x2,x3,x4,x5⟩
 | _=>none
def zdC (x:zeb):Tr (Lp zeb):=
 .br (decide (x.x4.val<3221225472)) (let c11:=(Rng.w .i64 (x.x1.val-1));.leaf (.again ⟨x.x0,c11,x.x2,x.x3,(Rng.w .i64 (x.x0.val*(2^min ((Rng.w .u64 ((Rng.w .i64 (0-c11.val)).val)).val).toNat 64))),(Rng.w .i64 (x.x0.val*(2^min ((Rng.w .u64 ((Rng.w .i64 (0-c11.val)).val)).val).toNat 64)))⟩)) (.leaf (.out ⟨x.x0,x.x1,x.x2,x.x3,x.x4,x.x5⟩))
def G_spec_LogAt_8 (x:zeb):Bool:=(Lf zdC 70 x).opt.isSome
def L_spec_LogAt_8 (x:zeb):zeb:=(Lf zdC 70 x).get
def TbL_spec_LogAt_8:Tb Tryz.prog:= {T:= [Y2,Y30,Y162],mix:=mix,Es:= [],Bs:= [],d:=1}
def P_spec_LogAt_8:LpF:=loopF [0,2,3,4] [0,1] 2 rd_spec_LogAt_8 st_spec_LogAt_8 (.exit 2) G_spec_LogAt_8 L_spec_LogAt_8
theorem lok_spec_LogAt_8:LoopOk Tryz.prog (loopAt (Tryz.f321.body.getD .skip) 1) P_spec_LogAt_8:=zfw (t:=TbL_spec_LogAt_8) (lt:=fun _=>none) (body:=zdC) (n:=70) (by intro h;cases h) (fun _ _ _ h=>by cases h)
 (by intro s x h;unfold rd_spec_LogAt_8 at h;split at h<;>cases h;rfl) (fun x b cs h=>lk_lt (l:=(st_spec_LogAt_8 x).mm.blks) (by kernel_rfl) h) (by intro x;kernel_rfl) (fun x h=>Tr.get_some h)
def B321:Bod Tryz.prog:=⟨321,Tryz.f321,Tryz.f321.body.getD .skip,Tryz.func321,by kernel_rfl,by kernel_rfl,⟨ltOf [(5,P_spec_LogAt_5),(8,P_spec_LogAt_8)],zK.of (ks:= [5,8,15]) (by kernel_rfl) (by
 intro i k h f hf
 match i,h with
 | 0,h=>cases h;obtain rfl:P_spec_LogAt_5=f:=Option.some.inj hf;exact lok_spec_LogAt_5
 | 1,h=>cases h;obtain rfl:P_spec_LogAt_8=f:=Option.some.inj hf;exact lok_spec_LogAt_8
 | 2,h=>cases h;cases (show none=some f from hf)
 | n+3,h=>simp at h)⟩⟩
def Tb321:Tb Tryz.prog:= {T:= [Y2,Y30,Y162],mix:=mix,Es:= [zbl,zcJ,zcn,zbu,zS,zbZ,zeH,zcC,zb8,E_spec_l08One,ET_spec_LogTwoI,E_spec_l08Widen],Bs:= [],d:=1}
def t_spec_LogAt (a0:I64):Tr (Iv):=
 .br (!(zaj a0 ⟨1,rfl⟩ ⟨1152921504606846976,rfl⟩)) (.leaf ze) (.br (G_spec_LogAt_5 ⟨a0,⟨0,rfl⟩,⟨0,rfl⟩,⟨0,rfl⟩,a0,a0⟩) (let c9:=L_spec_LogAt_5 ⟨a0,⟨0,rfl⟩,⟨0,rfl⟩,⟨0,rfl⟩,a0,a0⟩;.br (G_spec_LogAt_8 ⟨c9.x0,c9.x1,c9.x2,c9.x3,c9.x4,c9.x5⟩) (let c16:=L_spec_LogAt_8 ⟨c9.x0,c9.x1,c9.x2,c9.x3,c9.x4,c9.x5⟩;let c21:=zn (zF ⟨c16.x4,c16.x5⟩ zak) (zk ⟨c16.x4,c16.x5⟩ zak);let c22:=zao c21;.leaf (zk (zaI c16.x1) (zbT (zf (zf (zb ⟨2,rfl⟩) c21) (zk (zQ ⟨1,rfl⟩ ⟨1,rfl⟩) (zf c22 (zk (zQ ⟨1,rfl⟩ ⟨3,rfl⟩) (zf c22 (zk (zQ ⟨1,rfl⟩ ⟨5,rfl⟩) (zf c22 (zk (zQ ⟨1,rfl⟩ ⟨7,rfl⟩) (zf c22 (zk (zQ ⟨1,rfl⟩ ⟨9,rfl⟩) (zf c22 (zQ ⟨1,rfl⟩ ⟨11,rfl⟩)))))))))))) ⟨1,rfl⟩))) (.bad)) (.bad))
theorem r_spec_LogAt (a0:I64):Tb321.run B321 [enc a0] (Iv)=(t_spec_LogAt a0).opt:=by kernel_rfl
def F_spec_LogAt:I64->Iv:=fun a0=>(t_spec_LogAt a0).get
structure zdL where
 x0:I64
 x1:I64
instance:Inhabited zdL:=⟨⟨default,default⟩⟩
def st_impl_twosOf_2 (x:zdL):St:=⟨[(0,.i64 x.x0),(3,.i64 x.x1)],22,⟨[],0,0⟩⟩
def rd_impl_twosOf_2:St->Option zdL:=fun s=>match s with
 | ⟨[(0,.i64 x0),(3,.i64 x1)],22,⟨[],0,0⟩⟩=>some ⟨x0,x1⟩
 | _=>none
def zeC (x:zdL):Tr (Lp zdL):=
 .br (decide (x.x1.val<0)) (.bad) (.br (decide ((Rng.w .i64 (x.x0.val.fdiv (2^min (x.x1.val).toNat 64))).val>=6442450944)) (.leaf (.again ⟨x.x0,(Rng.w .i64 (x.x1.val+1))⟩)) (.leaf (.out ⟨x.x0,x.x1⟩)))
def G_impl_twosOf_2 (x:zdL):Bool:=(Lf zeC 70 x).opt.isSome
def L_impl_twosOf_2 (x:zdL):zdL:=(Lf zeC 70 x).get
def TbL_impl_twosOf_2:Tb Tryz.prog:= {T:= [],mix:=mix,Es:= [],Bs:= [],d:=1}
def P_impl_twosOf_2:LpF:=loopF [0,3] [] 0 rd_impl_twosOf_2 st_impl_twosOf_2 (.exit 0) G_impl_twosOf_2 L_impl_twosOf_2
theorem lok_impl_twosOf_2:LoopOk Tryz.prog (loopAt (Tryz.f326.body.getD .skip) 0) P_impl_twosOf_2:=zfw (t:=TbL_impl_twosOf_2) (lt:=fun _=>none) (body:=zeC) (n:=70) (by intro h;cases h) (fun _ _ _ h=>by cases h)
 (by intro s x h;unfold rd_impl_twosOf_2 at h;split at h<;>cases h;rfl) (fun x b cs h=>lk_lt (l:=(st_impl_twosOf_2 x).mm.blks) (by kernel_rfl) h) (by intro x;kernel_rfl) (fun x h=>Tr.get_some h)
structure zdK where
 x0:I64
 x1:I64
instance:Inhabited zdK:=⟨⟨default,default⟩⟩
def st_impl_twosOf_4 (x:zdK):St:=⟨[(0,.i64 x.x0),(3,.i64 x.x1)],22,⟨[],0,0⟩⟩
def rd_impl_twosOf_4:St->Option zdK:=fun s=>match s with
 | ⟨[(0,.i64 x0),(3,.i64 x1)],22,⟨[],0,0⟩⟩=>some ⟨x0,x1⟩
 | _=>none
def zc9 (x:zdK):Tr (Lp zdK):=
 .br (decide (x.x1.val<=0)) (let c5:=(Rng.w .i64 (0-x.x1.val));.br (decide (c5.val<0)) (.bad) (.br (decide ((Rng.w .i64 (x.x0.val*(2^min (c5.val).toNat 64))).val<3221225472)) (.leaf (.again ⟨x.x0,(Rng.w .i64 (x.x1.val-1))⟩)) (.leaf (.out ⟨x.x0,x.x1⟩)))) (.leaf (.out ⟨x.x0,x.x1⟩))
def zfN (x:zdK):Bool:=(Lf zc9 70 x).opt.isSome
def L_impl_twosOf_4 (x:zdK):zdK:=(Lf zc9 70 x).get
def TbL_impl_twosOf_4:Tb Tryz.prog:= {T:= [],mix:=mix,Es:= [],Bs:= [],d:=1}
def P_impl_twosOf_4:LpF:=loopF [0,3] [] 0 rd_impl_twosOf_4 st_impl_twosOf_4 (.exit 2) zfN L_impl_twosOf_4
theorem lok_impl_twosOf_4:LoopOk Tryz.prog (loopAt (Tryz.f326.body.getD .skip) 1) P_impl_twosOf_4:=zfw (t:=TbL_impl_twosOf_4) (lt:=fun _=>none) (body:=zc9) (n:=70) (by intro h;cases h) (fun _ _ _ h=>by cases h)
 (by intro s x h;unfold rd_impl_twosOf_4 at h;split at h<;>cases h;rfl) (fun x b cs h=>lk_lt (l:=(st_impl_twosOf_4 x).mm.blks) (by kernel_rfl) h) (by intro x;kernel_rfl) (fun x h=>Tr.get_some h)
def B326:Bod Tryz.prog:=⟨326,Tryz.f326,Tryz.f326.body.getD .skip,Tryz.func326,by kernel_rfl,by kernel_rfl,⟨ltOf [(2,P_impl_twosOf_2),(4,P_impl_twosOf_4)],zK.of (ks:= [2,4]) (by kernel_rfl) (by
 intro i k h f hf
 match i,h with
 | 0,h=>cases h;obtain rfl:P_impl_twosOf_2=f:=Option.some.inj hf;exact lok_impl_twosOf_2
 | 1,h=>cases h;obtain rfl:P_impl_twosOf_4=f:=Option.some.inj hf;exact lok_impl_twosOf_4
 | n+2,h=>simp at h)⟩⟩
def Tb326:Tb Tryz.prog:= {T:= [],mix:=mix,Es:= [],Bs:= [],d:=1}
def t_impl_twosOf (a0:I64):Tr (I64):=
 .br (G_impl_twosOf_2 ⟨a0,⟨0,rfl⟩⟩) (let c4:=L_impl_twosOf_2 ⟨a0,⟨0,rfl⟩⟩;.br (zfN ⟨c4.x0,c4.x1⟩) (.leaf (L_impl_twosOf_4 ⟨c4.x0,c4.x1⟩).x1) (.bad)) (.bad)
theorem r_impl_twosOf (a0:I64):Tb326.run B326 [enc a0] (I64)=(t_impl_twosOf a0).opt:=by kernel_rfl
def F_impl_twosOf:I64->I64:=fun a0=>(t_impl_twosOf a0).get
def G_impl_twosOf:I64->Bool:=fun a0=>(t_impl_twosOf a0).opt.isSome
def E_impl_twosOf:Ent Tryz.prog:= .of1 Tb326 B326 G_impl_twosOf F_impl_twosOf fun a0 h=>(r_impl_twosOf a0).trans (Tr.get_some h)
def B327:Bod Tryz.prog:=⟨327,Tryz.f327,Tryz.f327.body.getD .skip,Tryz.func327,by kernel_rfl,by kernel_rfl,zK.no _ _⟩
def Tb327:Tb Tryz.prog:= {T:= [Y2,Y30],mix:=mix,Es:= [zbm,zd4],Bs:= [],d:=1}
def t_impl_widened (a0:Iv) (a1:I64):Tr (Iv):=
 .leaf (zaE (Rng.w .i64 (a0.lo.val-a1.val)) (Rng.w .i64 (a0.hi.val+a1.val)) (zby a0))
theorem r_impl_widened (a0:Iv) (a1:I64):Tb327.run B327 [enc a0,enc a1] (Iv)=(t_impl_widened a0 a1).opt:=by kernel_rfl
def zeg:Iv->I64->Iv:=fun a0 a1=>(t_impl_widened a0 a1).get
theorem u_impl_widened (a0:Iv) (a1:I64):(t_impl_widened a0 a1).opt=some (zeg a0 a1):=Tr.zz (by kernel_rfl)
def E_impl_widened:Ent Tryz.prog:= .of2 Tb327 B327 (fun _ _=>true) zeg fun a0 a1 _=>(r_impl_widened a0 a1).trans (u_impl_widened a0 a1)
def B261:Bod Tryz.prog:=⟨261,Tryz.f261,Tryz.f261.body.getD .skip,Tryz.func261,by kernel_rfl,by kernel_rfl,zK.no _ _⟩
def Tb261:Tb Tryz.prog:= {T:= [Y2,Y30],mix:=mix,Es:= [za7,zca,zbG,zcK,zb9,zel,zcD,zaa,zfY,ET_impl_LogTwoI,zdR,E_impl_twosOf,E_impl_widened],Bs:= [],d:=1}
def t_impl_LogAt (a0:I64):Tr (Iv):=
 .br (!(zaQ a0)) (.leaf zq) (.br (decide (a0.val<=0)) (.leaf zq) (.br (G_impl_twosOf a0) (let c4:=F_impl_twosOf a0;.br (decide (c4.val>0)) (.br (decide (c4.val<0)) (.bad) (let c6:=(Rng.w .i64 (a0.val.fdiv (2^min (c4.val).toNat 64)));.br (decide (c4.val<0)) (.bad) (let c9:=(Rng.w .i64 (0-(Rng.w .i64 ((Rng.w .i64 (0-a0.val)).val.fdiv (2^min (c4.val).toNat 64))).val));let c14:=zY (zaq ⟨c6,c9⟩ (zl ⟨1,rfl⟩)) (zL ⟨c6,c9⟩ (zl ⟨1,rfl⟩));let c15:=zcI c14;.leaf (zL (zek c4) (zeg (zt (zt (zl ⟨2,rfl⟩) c14) (zL (zU ⟨1,rfl⟩ ⟨1,rfl⟩) (zt c15 (zL (zU ⟨1,rfl⟩ ⟨3,rfl⟩) (zt c15 (zL (zU ⟨1,rfl⟩ ⟨5,rfl⟩) (zt c15 (zL (zU ⟨1,rfl⟩ ⟨7,rfl⟩) (zt c15 (zL (zU ⟨1,rfl⟩ ⟨9,rfl⟩) (zt c15 (zU ⟨1,rfl⟩ ⟨11,rfl⟩)))))))))))) ⟨1,rfl⟩))))) (let c38:=(Rng.w .i64 (0-c4.val));.br (decide (c38.val<0)) (.bad) (let c40:=zbc (Rng.w .i64 (a0.val*(2^min (c38.val).toNat 64)));let c45:=zY (zaq c40 (zl ⟨1,rfl⟩)) (zL c40 (zl ⟨1,rfl⟩));let c46:=zcI c45;.leaf (zL (zek c4) (zeg (zt (zt (zl ⟨2,rfl⟩) c45) (zL (zU ⟨1,rfl⟩ ⟨1,rfl⟩) (zt c46 (zL (zU ⟨1,rfl⟩ ⟨3,rfl⟩) (zt c46 (zL (zU ⟨1,rfl⟩ ⟨5,rfl⟩) (zt c46 (zL (zU ⟨1,rfl⟩ ⟨7,rfl⟩) (zt c46 (zL (zU ⟨1,rfl⟩ ⟨9,rfl⟩) (zt c46 (zU ⟨1,rfl⟩ ⟨11,rfl⟩)))))))))))) ⟨1,rfl⟩))))) (.bad)))
theorem r_impl_LogAt (a0:I64):Tb261.run B261 [enc a0] (Iv)=(t_impl_LogAt a0).opt:=by kernel_rfl
def F_impl_LogAt:I64->Iv:=fun a0=>(t_impl_LogAt a0).get
end
end Go.Proofs.YtkenfaengphiiaaGreat.Ev
namespace Go.Proofs.YtkenfaengphiiaaGreat.Ev
open Go
theorem ctr {α:Type} (a b:α):(bif true then a else b)=a:=by simp
theorem cfl {α:Type} (a b:α):(bif false then a else b)=b:=by simp
theorem siw_eq (a:Iv):zef a= !(za a):=by simp only [zef,t_spec_IsWhole,Tr.get]
theorem hasI_eq (a:Iv) (n:I64):zfp a n=F_spec_HasI a n:=by
 simp only [zfp,t_impl_HasI,F_spec_HasI,t_spec_HasI,za5,zcZ,Tr.get,isw_eq,zb0,zft]
theorem atanI_impl (a:Iv):zcV a=bif zX a then zci else zay (F_impl_AtanAt a.lo) (F_impl_AtanAt a.hi):=by
 simp only [zcV,t_impl_AtanI,Tr.get]
theorem atanI_spec (a:Iv):zah a=bif zef a then zbV else zT (zdF a.lo) (zdF a.hi):=by
 simp only [zah,t_spec_AtanI,Tr.get]
theorem atanI_eq (a:Iv):zcV a=zah a:=by
 rw [atanI_impl,atanI_spec,isw_eq,siw_eq,half_eq,atan_eq,atan_eq,hull_eq]
theorem dirAt_eq (y x:I64):z8 y x=zZ y x:=by
 simp only [z8,t_impl_DirectionAt,zZ,t_spec_DirectionAt,Tr.get]
 simp only [fix_eq,atanI_eq,divI_F,at_eq,sub_eq,add_eq,turnI_eq,zaS,zc5]
 cases hy:zb2 y
 ·rfl
 cases hx:zb2 x
 ·rfl
 have by':=(fix_iff y).1 hy
 have bx:=(fix_iff x).1 hx
 have ey:(Rng.w .i64 (0-y.val)).val= -y.val:=by rw [wi (by omega) (by omega)];omega
 have ex:(Rng.w .i64 (0-x.val)).val= -x.val:=by rw [wi (by omega) (by omega)];omega
 have ay:=abs_val y (by omega)
 have ax:=abs_val x (by omega)
 simp only [Bool.not_true,cond_false,ey,ex]
 by_cases hn:y.val<0
 ·have hA:decide ((zct y).val>(zct x).val)=(decide (-y.val>x.val)&&decide (-y.val > -x.val)):=by
   rw [ay,ax,if_pos hn,<- Bool.decide_and,decide_eq_decide]
   split<;>omega
  simp only [hn,decide_true,cond_true,hA]
  generalize decide (-y.val>x.val)=b1
  generalize decide (-y.val > -x.val)=b2
  generalize decide (x.val>0)=b3
  generalize (x.val==0)=b4
  generalize (y.val==0)=b5
  cases b1<;>cases b2<;>cases b3<;>cases b4<;>cases b5<;>simp only [ctr,cfl,Bool.and_self,Bool.and_false,Bool.and_true,Bool.false_and,Bool.true_and]
 ·have hA:decide ((zct y).val>(zct x).val)=(decide (y.val>x.val)&&decide (y.val > -x.val)):=by
   rw [ay,ax,if_neg hn,<- Bool.decide_and,decide_eq_decide]
   split<;>omega
  simp only [hn,decide_false,cond_false,hA]
  generalize decide (y.val>x.val)=b1
  generalize decide (y.val > -x.val)=b2
  generalize decide (x.val>0)=b3
  generalize (x.val==0)=b4
  generalize (y.val==0)=b5
  cases b1<;>cases b2<;>cases b3<;>cases b4<;>cases b5<;>simp only [ctr,cfl,Bool.and_self,Bool.and_false,Bool.and_true,Bool.false_and,Bool.true_and]
theorem dirI_eq (y x:Iv):zex y x=zeu y x:=by
 simp only [zex,t_impl_DirectionI,zeu,t_spec_DirectionI,Tr.get]
 simp only [areb_eq,siw_eq,hasI_eq,dirAt_eq,hull_eq,zaS,zc5]
 cases za y<;>cases za x<;>simp only [ctr,cfl,Bool.and_self,Bool.and_false,Bool.and_true,Bool.false_and,Bool.true_and,Bool.not_true,Bool.not_false]
theorem abs_ends {a:Iv} (h:za a=true):zeG a=⟨(zN a).a,(zN a).b⟩:=by
 simp only [zeG,t_impl_AbsI,zN,zff,Tr.get,isw_eq,h,Bool.not_true,cond_false,has_eq a _ h,max_eq,min_eq,zct,t_impl_abs]
 cases za5 a ⟨0,rfl⟩<;>rfl
theorem abs_make {a:Iv} (h:za a=true):F_spec_AbsI a=⟨(zN a).a,(zN a).b⟩:=by
 simp only [F_spec_AbsI,t_spec_AbsI,Tr.get,h,Bool.not_true,cond_false]
 obtain ⟨p,q,e,h1,h2,h3⟩:=ends_val h
 have:=(zaN a).1 h
 rw [e]
 exact zbI (by simp only;omega)
theorem abs_eq (a:Iv):zeG a=F_spec_AbsI a:=by
 cases h:za a
 ·simp only [zeG,t_impl_AbsI,F_spec_AbsI,t_spec_AbsI,Tr.get,isw_eq,h,Bool.not_false,cond_true,zaS]
 ·rw [abs_ends h,abs_make h]
end Go.Proofs.YtkenfaengphiiaaGreat.Ev
namespace Go.Proofs.YtkenfaengphiiaaGreat.Ev
open Go
def shr (n e:I64):I64:= .w .i64 (n.val.fdiv (2^min e.val.toNat 64))
def shl (n e:I64):I64:= .w .i64 (n.val*(2^min e.val.toNat 64))
theorem lshr_val {n e:I64} (h:0<=e.val) (h':e.val<=40):(shr n e).val=n.val/2^e.val.toNat:=by
 unfold shr
 rw [Nat.min_eq_left (by omega),fdpow]
 have hp:(0:Int)<2^e.val.toNat:=Int.pow_pos (by decide)
 have:=ediv_bd1 hp n.bd
 exact wi this.1 this.2
theorem log_up (n:I64) (hn:1<=n.val/\n.val<=1152921504606846976) (x2 x3:I64):∀(j:Nat) (m:Nat) (e:I64),e.val=32-(j:Int)->j<=32->
  ∃E:I64,e.val<=E.val/\E.val<=32/\(Lf zfk (j+1+m) ⟨n,e,x2,x3,shr n e,.w .i64 (0-(shr (.w .i64 (0-n.val)) e).val)⟩).opt=some ⟨n,E,x2,x3,shr n E,.w .i64 (0-(shr (.w .i64 (0-n.val)) E).val)⟩ /\
   (Lf zeC (j+1+m) ⟨n,e⟩).opt=some ⟨n,E⟩/\(shr n E).val<6442450944/\(E=e\/3221225472<=(shr n E).val):=by
 intro j
 induction j with
 | zero=>
  intro m e he _
  have hv:=lshr_val (n:=n) (e:=e) (by omega) (by omega)
  have hp:(2:Int)^e.val.toNat=4294967296:=by rw [show e.val.toNat=32 by omega];rfl
  have hlt:¬(shr n e).val>=6442450944:=by rw [hv,hp];omega
  have hlt':¬(Rng.w .i64 (n.val.fdiv (2^min e.val.toNat 64))).val>=6442450944:=hlt
  have hneg:decide (e.val<0)=false:=by simp;omega
  refine ⟨e,by omega,by omega,?_,?_,by omega,.inl rfl⟩
  ·simp only [Lf,zfk,hlt,decide_false,Tr.bind,Tr.opt,cond_false,Nat.zero_add,Nat.add_comm 1 m]
  ·simp only [Lf,zeC,hneg,hlt',decide_false,Tr.bind,Tr.opt,cond_false,Nat.zero_add,Nat.add_comm 1 m]
 | succ j ih=>
  intro m e he hj
  have hv:=lshr_val (n:=n) (e:=e) (by omega) (by omega)
  have hneg:decide (e.val<0)=false:=by simp;omega
  have ev:(Rng.w .i64 (e.val+1)).val=e.val+1:=wi (by omega) (by omega)
  have hfuel:j+1+1+m=(j+1+m)+1:=by omega
  by_cases hc:(shr n e).val>=6442450944
  ·have hc':(Rng.w .i64 (n.val.fdiv (2^min e.val.toNat 64))).val>=6442450944:=hc
   obtain ⟨E,h1,h2,h3,h4,h5,h6⟩:=ih m (.w .i64 (e.val+1)) (by rw [ev];omega) (by omega)
   have en:(Rng.w .u64 (Rng.w .i64 (e.val+1)).val).val=(Rng.w .i64 (e.val+1)).val:=by rw [ev];exact wu (by omega) (by omega)
   refine ⟨E,by omega,h2,?_,?_,h5,.inr ?_⟩
   ·rw [hfuel]
    simp only [Lf,zfk,hc,decide_true,Tr.bind,Tr.opt,cond_true,en]
    exact h3
   ·rw [hfuel]
    simp only [Lf,zeC,hneg,hc',decide_true,Tr.bind,Tr.opt,cond_true,cond_false]
    exact h4
   ·rcases h6 with h6|h6
    ·have hv2:=lshr_val (n:=n) (e:= .w .i64 (e.val+1)) (by rw [ev];omega) (by rw [ev];omega)
     rw [h6,hv2,ev,show (e.val+1).toNat=e.val.toNat+1 by omega,Int.pow_succ,<- Int.ediv_ediv_of_nonneg (Int.pow_nonneg (by decide)),<- hv]
     omega
    ·exact h6
  ·have hc':¬(Rng.w .i64 (n.val.fdiv (2^min e.val.toNat 64))).val>=6442450944:=hc
   refine ⟨e,by omega,by omega,?_,?_,by omega,.inl rfl⟩
   ·rw [hfuel]
    simp only [Lf,zfk,hc,decide_false,Tr.bind,Tr.opt,cond_false]
   ·rw [hfuel]
    simp only [Lf,zeC,hneg,hc',decide_false,Tr.bind,Tr.opt,cond_false]
def sl (n e:I64):I64:=shl n (.w .i64 (0-e.val))
theorem log_dn (n:I64) (hn:1<=n.val) (x2 x3:I64):∀(j:Nat) (m:Nat) (e:I64),e.val=(j:Int)-32->j<=32->n.val*2^(32-j)<6442450944->
  ∃E:I64,E.val<=e.val /\ -32<=E.val/\(Lf zdC (j+1+m) ⟨n,e,x2,x3,sl n e,sl n e⟩).opt=some ⟨n,E,x2,x3,sl n E,sl n E⟩ /\
   (Lf zc9 (j+1+m) ⟨n,e⟩).opt=some ⟨n,E⟩/\3221225472<=(sl n E).val/\(sl n E).val<6442450944/\∃k:Nat,E.val= -(k:Int)/\(sl n E).val=n.val*2^k:=by
 have slv:∀(k:Nat) (e:I64),e.val= -(k:Int)->k<=32->n.val*2^k<6442450944->(sl n e).val=n.val*2^k:=fun k e he hk hlt=>by
  have e1:(Rng.w .i64 (0-e.val)).val=(k:Int):=by rw [wi (by omega) (by omega)];omega
  have hnn:0<=n.val*2^k:=Int.mul_nonneg (by omega) (Int.pow_nonneg (by decide))
  unfold sl shl
  rw [e1,Int.toNat_natCast,Nat.min_eq_left (by omega)]
  exact wi (by omega) (by omega)
 intro j
 induction j with
 | zero=>
  intro m e he _ hb
  have hv:=slv 32 e (by omega) (by omega) hb
  have hp:(2:Int)^32=4294967296:=rfl
  have hge:¬(sl n e).val<3221225472:=by rw [hv,hp];omega
  have hge':¬(Rng.w .i64 (n.val*(2^min (Rng.w .i64 (0-e.val)).val.toNat 64))).val<3221225472:=hge
  have e1:(Rng.w .i64 (0-e.val)).val=0-e.val:=wi (by omega) (by omega)
  have hneg:decide ((Rng.w .i64 (0-e.val)).val<0)=false:=by rw [e1];simp;omega
  have hle:decide (e.val<=0)=true:=by simp;omega
  refine ⟨e,by omega,by omega,?_,?_,by omega,by omega,32,by omega,hv⟩
  ·simp only [Lf,zdC,hge,decide_false,Tr.bind,Tr.opt,cond_false,Nat.zero_add,Nat.add_comm 1 m]
  ·simp only [Lf,zc9,hle,hneg,hge',decide_false,Tr.bind,Tr.opt,cond_true,cond_false,Nat.zero_add,Nat.add_comm 1 m]
 | succ j ih=>
  intro m e he hj hb
  have hk:32-(j+1)+1=32-j:=by omega
  have hv:=slv (32-(j+1)) e (by omega) (by omega) hb
  have e1:(Rng.w .i64 (0-e.val)).val=0-e.val:=wi (by omega) (by omega)
  have hneg:decide ((Rng.w .i64 (0-e.val)).val<0)=false:=by rw [e1];simp;omega
  have hle:decide (e.val<=0)=true:=by simp;omega
  have ev:(Rng.w .i64 (e.val-1)).val=e.val-1:=wi (by omega) (by omega)
  have hfuel:j+1+1+m=(j+1+m)+1:=by omega
  by_cases hc:(sl n e).val<3221225472
  ·have hc':(Rng.w .i64 (n.val*(2^min (Rng.w .i64 (0-e.val)).val.toNat 64))).val<3221225472:=hc
   have e2:(Rng.w .i64 (0-(Rng.w .i64 (e.val-1)).val)).val=0-(e.val-1):=by rw [ev];exact wi (by omega) (by omega)
   have en:(Rng.w .u64 (Rng.w .i64 (0-(Rng.w .i64 (e.val-1)).val)).val).val=(Rng.w .i64 (0-(Rng.w .i64 (e.val-1)).val)).val:=by rw [e2];exact wu (by omega) (by omega)
   obtain ⟨E,h1,h2,h3,h4,h5⟩:=ih m (.w .i64 (e.val-1)) (by rw [ev];omega) (by omega) (by rw [<- hk,Int.pow_succ,<- Int.mul_assoc,<- hv];omega)
   refine ⟨E,by omega,h2,?_,?_,h5⟩
   ·rw [hfuel]
    simp only [Lf,zdC,hc,decide_true,Tr.bind,Tr.opt,cond_true,en]
    exact h3
   ·rw [hfuel]
    simp only [Lf,zc9,hle,hneg,hc',decide_true,Tr.bind,Tr.opt,cond_true,cond_false]
    exact h4
  ·have hc':¬(Rng.w .i64 (n.val*(2^min (Rng.w .i64 (0-e.val)).val.toNat 64))).val<3221225472:=hc
   refine ⟨e,by omega,by omega,?_,?_,by omega,by rw [hv];exact hb,32-(j+1),by omega,hv⟩
   ·rw [hfuel]
    simp only [Lf,zdC,hc,decide_false,Tr.bind,Tr.opt,cond_false]
   ·rw [hfuel]
    simp only [Lf,zc9,hle,hneg,hc',decide_false,Tr.bind,Tr.opt,cond_true,cond_false]
def logTail (m:Iv) (e:I64):Iv:=
 let z:=zn (zF m zak) (zk m zak)
 let q:=zao z
 zk (zaI e) (zbT (zf (zf (zb ⟨2,rfl⟩) z) (zk (zQ ⟨1,rfl⟩ ⟨1,rfl⟩) (zf q (zk (zQ ⟨1,rfl⟩ ⟨3,rfl⟩) (zf q (zk (zQ ⟨1,rfl⟩ ⟨5,rfl⟩) (zf q (zk (zQ ⟨1,rfl⟩ ⟨7,rfl⟩) (zf q (zk (zQ ⟨1,rfl⟩ ⟨9,rfl⟩) (zf q (zQ ⟨1,rfl⟩ ⟨11,rfl⟩)))))))))))) ⟨1,rfl⟩)
theorem one_eq:zb ⟨1,rfl⟩=zak:=by
 rw [int_val (by decide)]
 simp only [zak,t_spec_l08One,zaT,t_spec_l08At,Tr.get]
 exact (zbI (by decide)).symm
theorem widen_eq (a:Iv) (n:I64):zeg a n=zbT a n:=by
 simp only [zeg,t_impl_widened,zbT,t_spec_l08Widen,Tr.get,zcN,valid_eq]
 cases za a<;>simp [ctr,cfl]
theorem ediv_neg {a p:Int} (hp:0<p) (ha:a<=0):a<=a/p/\a/p<=0:=by
 constructor
 ·rw [Int.le_ediv_iff_mul_le hp]
  have h:=Int.mul_nonneg (show 0 <= -a by omega) (show 0<=p-1 by omega)
  rw [Int.neg_mul,Int.mul_sub] at h
  omega
 ·have:a/p<1:=(Int.ediv_lt_iff_lt_mul hp).2 (by omega)
  omega
def LogM (n:I64) (m:Iv) (E:I64):Prop:=
 ∃k:Nat,k<=32/\((E.val=(k:Int)/\m.lo.val=n.val/2^k/\m.hi.val= -(-n.val/2^k))\/(E.val= -(k:Int)/\m.lo=m.hi/\m.lo.val=n.val*2^k))/\3221225472<=m.lo.val/\m.lo.val<6442450944
theorem logAt_two (n:I64):∃y,(t_spec_LogAt n).opt=some y/\(t_impl_LogAt n).opt=some y/\((1<=n.val/\n.val<=1152921504606846976/\∃m E,LogM n m E/\y=logTail m E)\/(¬(1<=n.val/\n.val<=1152921504606846976)/\y=ze)):=by
 by_cases hn:1<=n.val/\n.val<=1152921504606846976
 ·have hi:zaj n ⟨1,rfl⟩ ⟨1152921504606846976,rfl⟩=true:=by rw [zft];simpa using hn
  have hv:zaQ n=true:=by rw [okfix_eq];exact ok3 (by omega)
  have hp:decide (n.val<=0)=false:=by simp;omega
  obtain ⟨E,a1,a2,a3,a4,a5,a6⟩:=log_up n hn ⟨0,rfl⟩ ⟨0,rfl⟩ 32 37 ⟨0,rfl⟩ rfl (by decide)
  have z1:shr n ⟨0,rfl⟩=n:=by
   unfold shr
   show Rng.w .i64 (n.val.fdiv (2^0))=n
   rw [show (2:Int)^0=1 by rfl,Int.fdiv_one];exact Rng.w_val _
  have z2:Rng.w .i64 (0-(shr (.w .i64 (0-n.val)) ⟨0,rfl⟩).val)=n:=by
   have:shr (.w .i64 (0-n.val)) ⟨0,rfl⟩= .w .i64 (0-n.val):=by
    unfold shr
    show Rng.w .i64 ((Rng.w .i64 (0-n.val)).val.fdiv (2^0))=_
    rw [show (2:Int)^0=1 by rfl,Int.fdiv_one];exact Rng.w_val _
   rw [this]
   exact rext (by rw [wi (n:=0-n.val) (by omega) (by omega),wi (by omega) (by omega)];omega)
  have hf:(32+1+37:Nat)=70:=rfl
  rw [hf,z1,z2] at a3
  rw [hf] at a4
  have g5:G_spec_LogAt_5 ⟨n,⟨0,rfl⟩,⟨0,rfl⟩,⟨0,rfl⟩,n,n⟩=true:=by unfold G_spec_LogAt_5;rw [a3];rfl
  have l5:L_spec_LogAt_5 ⟨n,⟨0,rfl⟩,⟨0,rfl⟩,⟨0,rfl⟩,n,n⟩=_:=Tr.zae a3
  have g2:G_impl_twosOf_2 ⟨n,⟨0,rfl⟩⟩=true:=by unfold G_impl_twosOf_2;rw [a4];rfl
  have l2:L_impl_twosOf_2 ⟨n,⟨0,rfl⟩⟩=_:=Tr.zae a4
  by_cases hE:E.val>0
  ·have hge:3221225472<=(shr n E).val:=by
    rcases a6 with h|h
    ·rw [h] at hE;exact absurd hE (by decide)
    ·exact h
   have hd:decide ((shr n E).val<3221225472)=false:=by simp;omega
   have hd2:decide (E.val<=0)=false:=by simp;omega
   have b3':∀k,(Lf zdC (k+1) ⟨n,E,⟨0,rfl⟩,⟨0,rfl⟩,shr n E,.w .i64 (0-(shr (.w .i64 (0-n.val)) E).val)⟩).opt=some ⟨n,E,⟨0,rfl⟩,⟨0,rfl⟩,shr n E,.w .i64 (0-(shr (.w .i64 (0-n.val)) E).val)⟩:=by
    intro k;simp only [Lf,zdC,hd,Tr.bind,Tr.opt,cond_false]
   have b4':∀k,(Lf zc9 (k+1) ⟨n,E⟩).opt=some ⟨n,E⟩:=by intro k;simp only [Lf,zc9,hd2,Tr.bind,Tr.opt,cond_false]
   have b3:=b3' 69
   have b4:=b4' 69
   have g8:G_spec_LogAt_8 ⟨n,E,⟨0,rfl⟩,⟨0,rfl⟩,shr n E,.w .i64 (0-(shr (.w .i64 (0-n.val)) E).val)⟩=true:=by unfold G_spec_LogAt_8;rw [b3];rfl
   have l8:L_spec_LogAt_8 ⟨n,E,⟨0,rfl⟩,⟨0,rfl⟩,shr n E,.w .i64 (0-(shr (.w .i64 (0-n.val)) E).val)⟩=_:=Tr.zae b3
   have g4:zfN ⟨n,E⟩=true:=by unfold zfN;rw [b4];rfl
   have l4:L_impl_twosOf_4 ⟨n,E⟩=_:=Tr.zae b4
   have tw:(t_impl_twosOf n).opt=some E:=by simp only [t_impl_twosOf,Tr.opt,g2,l2,g4,l4,cond_true]
   have gt:G_impl_twosOf n=true:=by unfold G_impl_twosOf;rw [tw];rfl
   have ft:F_impl_twosOf n=E:=Tr.zae tw
   have hpos:decide (E.val>0)=true:=by simpa using hE
   have hng:decide (E.val<0)=false:=by simp;omega
   have hb1:=lshr_val (n:=n) (e:=E) (by omega) (by omega)
   have hb2:=lshr_val (n:= .w .i64 (0-n.val)) (e:=E) (by omega) (by omega)
   rw [show (Rng.w .i64 (0-n.val)).val= -n.val from by rw [wi (by omega) (by omega)];omega] at hb2
   have hb3:=ediv_neg (a:= -n.val) (p:=2^E.val.toNat) (Int.pow_pos (by decide)) (by omega)
   refine ⟨logTail ⟨shr n E,.w .i64 (0-(shr (.w .i64 (0-n.val)) E).val)⟩ E,?_,?_,.inl ⟨hn.1,hn.2,_,_,⟨E.val.toNat,by omega,.inl ⟨by omega,hb1,?_⟩,hge,a5⟩,rfl⟩⟩
   ·simp only [t_spec_LogAt,Tr.opt,hi,g5,l5,g8,l8,Bool.not_true,cond_false,cond_true,logTail]
   ·simp only [t_impl_LogAt,Tr.opt,hv,hp,gt,ft,hpos,hng,Bool.not_true,cond_false,cond_true,divI_F,sub_eq,add_eq,zbH,one_eq,sqrI_F,mulI_F,quot_eq,widen_eq,log2_eq,logTail]
    rfl
   ·show (Rng.w .i64 (0-(shr (.w .i64 (0-n.val)) E).val)).val=_
    rw [hb2,wi (by omega) (by omega)];omega
  ·have hE0:E=⟨0,rfl⟩:=rext (by show E.val=0;have:(0:Int)<=E.val:=a1;omega)
   subst hE0
   rw [z1] at a5
   obtain ⟨E,b1,b2,b3,b4,b5,b6,k,b7,b8⟩:=log_dn n hn.1 ⟨0,rfl⟩ ⟨0,rfl⟩ 32 37 ⟨0,rfl⟩ rfl (by decide) (by show n.val*2^0<_;rw [show (2:Int)^0=1 by rfl,Int.mul_one];exact a5)
   have z3:sl n ⟨0,rfl⟩=n:=by
    unfold sl shl
    show Rng.w .i64 (n.val*2^0)=n
    rw [show (2:Int)^0=1 by rfl,Int.mul_one];exact Rng.w_val _
   rw [hf,z3] at b3
   rw [hf] at b4
   rw [z1,z2] at l5
   have g8:G_spec_LogAt_8 ⟨n,⟨0,rfl⟩,⟨0,rfl⟩,⟨0,rfl⟩,n,n⟩=true:=by unfold G_spec_LogAt_8;rw [b3];rfl
   have l8:L_spec_LogAt_8 ⟨n,⟨0,rfl⟩,⟨0,rfl⟩,⟨0,rfl⟩,n,n⟩=_:=Tr.zae b3
   have g4:zfN ⟨n,⟨0,rfl⟩⟩=true:=by unfold zfN;rw [b4];rfl
   have l4:L_impl_twosOf_4 ⟨n,⟨0,rfl⟩⟩=_:=Tr.zae b4
   have tw:(t_impl_twosOf n).opt=some E:=by simp only [t_impl_twosOf,Tr.opt,g2,l2,g4,l4,cond_true]
   have gt:G_impl_twosOf n=true:=by unfold G_impl_twosOf;rw [tw];rfl
   have ft:F_impl_twosOf n=E:=Tr.zae tw
   have hb1:E.val<=0:=b1
   have hpos:decide (E.val>0)=false:=by simp;omega
   have e1:(Rng.w .i64 (0-E.val)).val=0-E.val:=wi (by omega) (by omega)
   have hng:decide ((Rng.w .i64 (0-E.val)).val<0)=false:=by rw [e1];simp;omega
   refine ⟨logTail ⟨sl n E,sl n E⟩ E,?_,?_,.inl ⟨hn.1,hn.2,_,_,⟨k,by omega,.inr ⟨b7,rfl,b8⟩,b5,b6⟩,rfl⟩⟩
   ·simp only [t_spec_LogAt,Tr.opt,hi,g5,l5,g8,l8,Bool.not_true,cond_false,cond_true,logTail]
   ·simp only [t_impl_LogAt,Tr.opt,hv,hp,gt,ft,hpos,hng,Bool.not_true,cond_false,cond_true,divI_F,sub_eq,add_eq,zbH,one_eq,sqrI_F,mulI_F,quot_eq,widen_eq,log2_eq,logTail]
    rfl
 ·have hi:zaj n ⟨1,rfl⟩ ⟨1152921504606846976,rfl⟩=false:=by rw [zft];simpa using hn
  refine ⟨ze,by simp only [t_spec_LogAt,Tr.opt,hi,Bool.not_false,cond_true],?_,.inr ⟨hn,rfl⟩⟩
  simp only [t_impl_LogAt,Tr.opt,okfix_eq,zaS]
  cases hv:zD n
  ·simp only [Bool.not_false,cond_true]
  ·have:=ok_bd hv
   have hp:decide (n.val<=0)=true:=by simp;omega
   simp only [Bool.not_true,cond_false,hp,cond_true]
theorem logAt_ok (n:I64):∃y,(t_spec_LogAt n).opt=some y/\(t_impl_LogAt n).opt=some y:=by
 obtain ⟨y,h1,h2,_⟩:=logAt_two n;exact ⟨y,h1,h2⟩
theorem tt_logAt_spec (n:I64):(t_spec_LogAt n).opt=some (F_spec_LogAt n):=by obtain ⟨x,h1,_⟩:=logAt_ok n;exact zc6 h1
theorem tt_logAt_impl (n:I64):(t_impl_LogAt n).opt=some (F_impl_LogAt n):=by obtain ⟨x,_,h1⟩:=logAt_ok n;exact zc6 h1
theorem logAt_eq (n:I64):F_impl_LogAt n=F_spec_LogAt n:=by
 obtain ⟨x,h1,h2⟩:=logAt_ok n
 exact (Tr.zae h2).trans (Tr.zae h1).symm
end Go.Proofs.YtkenfaengphiiaaGreat.Ev
namespace Go.Proofs.YtkenfaengphiiaaGreat.Ev
open Go Go.RowKit
set_option maxRecDepth 100000
section
variable [Amb]
def ET_spec_LogAt:Ent Tryz.prog:= .of1 Tb321 B321 (fun _=>true) F_spec_LogAt fun a0 _=>(r_spec_LogAt a0).trans (tt_logAt_spec a0)
def ET_impl_LogAt:Ent Tryz.prog:= .of1 Tb261 B261 (fun _=>true) F_impl_LogAt fun a0 _=>(r_impl_LogAt a0).trans (tt_logAt_impl a0)
def Y57:TyE Tryz.prog:=⟨57,3,(.struct [(0,2,1),(1,2,1),(2,2,1)]),[.i64 ⟨0,rfl⟩,.i64 ⟨0,rfl⟩,.i64 ⟨0,rfl⟩],true,by kernel_rfl,by kernel_rfl,by kernel_rfl,by kernel_rfl,by kernel_rfl,by kernel_rfl⟩
def B173:Bod Tryz.prog:=⟨173,Tryz.f173,Tryz.f173.body.getD .skip,Tryz.func173,by kernel_rfl,by kernel_rfl,zK.no _ _⟩
def Tb173:Tb Tryz.prog:= {T:= [Y2,Y57],mix:=mix,Es:= [zbu],Bs:= [],d:=1}
def t_spec_l12Ok (a0:Ell):Tr (Bool):=
 .br (zaj a0.a ⟨1000,rfl⟩ ⟨100000000000,rfl⟩) (.br (zaj a0.den ⟨1,rfl⟩ ⟨1000000000000,rfl⟩) (.br (decide (a0.num.val>=0)) (.leaf (decide (a0.num.val<=(Rng.w .i64 (a0.den.val.tdiv 100)).val))) (.leaf false)) (.leaf false)) (.leaf false)
theorem r_spec_l12Ok (a0:Ell):Tb173.run B173 [enc a0] (Bool)=(t_spec_l12Ok a0).opt:=by kernel_rfl
def zbs:Ell->Bool:=fun a0=>(t_spec_l12Ok a0).get
theorem u_spec_l12Ok (a0:Ell):(t_spec_l12Ok a0).opt=some (zbs a0):=Tr.zz (by kernel_rfl)
def E_spec_l12Ok:Ent Tryz.prog:= .of1 Tb173 B173 (fun _=>true) zbs fun a0 _=>(r_spec_l12Ok a0).trans (u_spec_l12Ok a0)
def B126:Bod Tryz.prog:=⟨126,Tryz.f126,Tryz.f126.body.getD .skip,Tryz.func126,by kernel_rfl,by kernel_rfl,zK.no _ _⟩
def Tb126:Tb Tryz.prog:= {T:= [Y2,Y30,Y57],mix:=mix,Es:= [zS,zcC,E_spec_l12Ok],Bs:= [],d:=1}
def t_spec_MajorI (a0:Ell):Tr (Iv):=
 .br (!(zbs a0)) (.leaf ze) (.leaf (zQ a0.a ⟨1000,rfl⟩))
theorem r_spec_MajorI (a0:Ell):Tb126.run B126 [enc a0] (Iv)=(t_spec_MajorI a0).opt:=by kernel_rfl
def zcz:Ell->Iv:=fun a0=>(t_spec_MajorI a0).get
theorem u_spec_MajorI (a0:Ell):(t_spec_MajorI a0).opt=some (zcz a0):=Tr.zz (by kernel_rfl)
def E_spec_MajorI:Ent Tryz.prog:= .of1 Tb126 B126 (fun _=>true) zcz fun a0 _=>(r_spec_MajorI a0).trans (u_spec_MajorI a0)
def B224:Bod Tryz.prog:=⟨224,Tryz.f224,Tryz.f224.body.getD .skip,Tryz.func224,by kernel_rfl,by kernel_rfl,zK.no _ _⟩
def Tb224:Tb Tryz.prog:= {T:= [Y2,Y30,Y57],mix:=mix,Es:= [zS,zcC,E_spec_l12Ok],Bs:= [],d:=1}
def t_spec_FlatteningI (a0:Ell):Tr (Iv):=
 .br (!(zbs a0)) (.leaf ze) (.leaf (zQ a0.num a0.den))
theorem r_spec_FlatteningI (a0:Ell):Tb224.run B224 [enc a0] (Iv)=(t_spec_FlatteningI a0).opt:=by kernel_rfl
def zde:Ell->Iv:=fun a0=>(t_spec_FlatteningI a0).get
theorem u_spec_FlatteningI (a0:Ell):(t_spec_FlatteningI a0).opt=some (zde a0):=Tr.zz (by kernel_rfl)
def E_spec_FlatteningI:Ent Tryz.prog:= .of1 Tb224 B224 (fun _=>true) zde fun a0 _=>(r_spec_FlatteningI a0).trans (u_spec_FlatteningI a0)
def B123:Bod Tryz.prog:=⟨123,Tryz.f123,Tryz.f123.body.getD .skip,Tryz.func123,by kernel_rfl,by kernel_rfl,zK.no _ _⟩
def Tb123:Tb Tryz.prog:= {T:= [Y2,Y30,Y57],mix:=mix,Es:= [zbl,zcJ,zbZ,E_spec_FlatteningI],Bs:= [],d:=1}
def t_spec_EccI (a0:Ell):Tr (Iv):=
 let c1:=zde a0;.leaf (zf c1 (zF (zb ⟨2,rfl⟩) c1))
theorem r_spec_EccI (a0:Ell):Tb123.run B123 [enc a0] (Iv)=(t_spec_EccI a0).opt:=by kernel_rfl
def zb5:Ell->Iv:=fun a0=>(t_spec_EccI a0).get
theorem u_spec_EccI (a0:Ell):(t_spec_EccI a0).opt=some (zb5 a0):=Tr.zz (by kernel_rfl)
def E_spec_EccI:Ent Tryz.prog:= .of1 Tb123 B123 (fun _=>true) zb5 fun a0 _=>(r_spec_EccI a0).trans (u_spec_EccI a0)
def B176:Bod Tryz.prog:=⟨176,Tryz.f176,Tryz.f176.body.getD .skip,Tryz.func176,by kernel_rfl,by kernel_rfl,zK.no _ _⟩
def Tb176:Tb Tryz.prog:= {T:= [Y2,Y30],mix:=mix,Es:= [zaA],Bs:= [],d:=1}
def t_spec_l19Known (a0:Iv):Tr (T2 Iv I64):=
 .br (!(za a0)) (.leaf ⟨⟨⟨0,rfl⟩,⟨0,rfl⟩⟩,⟨9,rfl⟩⟩) (.leaf ⟨a0,⟨0,rfl⟩⟩)
theorem r_spec_l19Known (a0:Iv):Tb176.run B176 [enc a0] (T2 Iv I64)=(t_spec_l19Known a0).opt:=by kernel_rfl
def F_spec_l19Known:Iv->T2 Iv I64:=fun a0=>(t_spec_l19Known a0).get
theorem u_spec_l19Known (a0:Iv):(t_spec_l19Known a0).opt=some (F_spec_l19Known a0):=Tr.zz (by kernel_rfl)
def E_spec_l19Known:Ent Tryz.prog:= .of1 Tb176 B176 (fun _=>true) F_spec_l19Known fun a0 _=>(r_spec_l19Known a0).trans (u_spec_l19Known a0)
def B78:Bod Tryz.prog:=⟨78,Tryz.f78,Tryz.f78.body.getD .skip,Tryz.func78,by kernel_rfl,by kernel_rfl,zK.no _ _⟩
def Tb78:Tb Tryz.prog:= {T:= [Y2,Y30],mix:=mix,Es:= [zaW],Bs:= [],d:=1}
def t_impl_knownI (a0:Iv):Tr (T2 Iv I64):=
 .br (zX a0) (.leaf ⟨⟨⟨0,rfl⟩,⟨0,rfl⟩⟩,⟨9,rfl⟩⟩) (.leaf ⟨a0,⟨0,rfl⟩⟩)
theorem r_impl_knownI (a0:Iv):Tb78.run B78 [enc a0] (T2 Iv I64)=(t_impl_knownI a0).opt:=by kernel_rfl
def F_impl_knownI:Iv->T2 Iv I64:=fun a0=>(t_impl_knownI a0).get
theorem u_impl_knownI (a0:Iv):(t_impl_knownI a0).opt=some (F_impl_knownI a0):=Tr.zz (by kernel_rfl)
def E_impl_knownI:Ent Tryz.prog:= .of1 Tb78 B78 (fun _=>true) F_impl_knownI fun a0 _=>(r_impl_knownI a0).trans (u_impl_knownI a0)
def B208:Bod Tryz.prog:=⟨208,Tryz.f208,Tryz.f208.body.getD .skip,Tryz.func208,by kernel_rfl,by kernel_rfl,zK.no _ _⟩
def Tb208:Tb Tryz.prog:= {T:= [Y2,Y30],mix:=mix,Es:= [zd7],Bs:= [],d:=1}
def t_impl_quarter:Tr (I64):=
 .leaf (zaV ⟨1,rfl⟩).hi
theorem r_impl_quarter:Tb208.run B208 [] (I64)=(t_impl_quarter).opt:=by kernel_rfl
def F_impl_quarter:I64:=(t_impl_quarter).get
theorem u_impl_quarter:(t_impl_quarter).opt=some (F_impl_quarter):=Tr.zz (by kernel_rfl)
def E_impl_quarter:Ent Tryz.prog:= .of0 Tb208 B208 F_impl_quarter (r_impl_quarter.trans u_impl_quarter)
def B245:Bod Tryz.prog:=⟨245,Tryz.f245,Tryz.f245.body.getD .skip,Tryz.func245,by kernel_rfl,by kernel_rfl,zK.no _ _⟩
def Tb245:Tb Tryz.prog:= {T:= [Y2,Y30],mix:=mix,Es:= [E_spec_l06At],Bs:= [],d:=1}
def t_spec_SinAt (a0:I64):Tr (Iv):=
 .leaf (zai a0 ⟨0,rfl⟩)
theorem r_spec_SinAt (a0:I64):Tb245.run B245 [enc a0] (Iv)=(t_spec_SinAt a0).opt:=by kernel_rfl
def F_spec_SinAt:I64->Iv:=fun a0=>(t_spec_SinAt a0).get
theorem u_spec_SinAt (a0:I64):(t_spec_SinAt a0).opt=some (F_spec_SinAt a0):=Tr.zz (by kernel_rfl)
def E_spec_SinAt:Ent Tryz.prog:= .of1 Tb245 B245 (fun _=>true) F_spec_SinAt fun a0 _=>(r_spec_SinAt a0).trans (u_spec_SinAt a0)
def B246:Bod Tryz.prog:=⟨246,Tryz.f246,Tryz.f246.body.getD .skip,Tryz.func246,by kernel_rfl,by kernel_rfl,zK.no _ _⟩
def Tb246:Tb Tryz.prog:= {T:= [Y2,Y30],mix:=mix,Es:= [E_spec_l06At],Bs:= [],d:=1}
def t_spec_CosAt (a0:I64):Tr (Iv):=
 .leaf (zai a0 ⟨1,rfl⟩)
theorem r_spec_CosAt (a0:I64):Tb246.run B246 [enc a0] (Iv)=(t_spec_CosAt a0).opt:=by kernel_rfl
def F_spec_CosAt:I64->Iv:=fun a0=>(t_spec_CosAt a0).get
theorem u_spec_CosAt (a0:I64):(t_spec_CosAt a0).opt=some (F_spec_CosAt a0):=Tr.zz (by kernel_rfl)
def E_spec_CosAt:Ent Tryz.prog:= .of1 Tb246 B246 (fun _=>true) F_spec_CosAt fun a0 _=>(r_spec_CosAt a0).trans (u_spec_CosAt a0)
def B106:Bod Tryz.prog:=⟨106,Tryz.f106,Tryz.f106.body.getD .skip,Tryz.func106,by kernel_rfl,by kernel_rfl,zK.no _ _⟩
def Tb106:Tb Tryz.prog:= {T:= [Y2,Y57],mix:=mix,Es:= [za8],Bs:= [],d:=1}
def ze2 (a0:Ell):Tr (Bool):=
 .br (zan a0.a ⟨1000,rfl⟩ ⟨100000000000,rfl⟩) (.br (zan a0.den ⟨1,rfl⟩ ⟨1000000000000,rfl⟩) (.leaf (zan a0.num ⟨0,rfl⟩ (Rng.w .i64 (a0.den.val.tdiv 100)))) (.leaf false)) (.leaf false)
theorem r_impl_ValidEllipsoid (a0:Ell):Tb106.run B106 [enc a0] (Bool)=(ze2 a0).opt:=by kernel_rfl
def zaU:Ell->Bool:=fun a0=>(ze2 a0).get
theorem u_impl_ValidEllipsoid (a0:Ell):(ze2 a0).opt=some (zaU a0):=Tr.zz (by kernel_rfl)
def zbF:Ent Tryz.prog:= .of1 Tb106 B106 (fun _=>true) zaU fun a0 _=>(r_impl_ValidEllipsoid a0).trans (u_impl_ValidEllipsoid a0)
def B264:Bod Tryz.prog:=⟨264,Tryz.f264,Tryz.f264.body.getD .skip,Tryz.func264,by kernel_rfl,by kernel_rfl,zK.no _ _⟩
def Tb264:Tb Tryz.prog:= {T:= [Y2,Y30],mix:=mix,Es:= [E_impl_circleValue],Bs:= [],d:=1}
def t_impl_SinAt (a0:I64):Tr (Iv):=
 .leaf (zcr a0 ⟨0,rfl⟩)
theorem r_impl_SinAt (a0:I64):Tb264.run B264 [enc a0] (Iv)=(t_impl_SinAt a0).opt:=by kernel_rfl
def F_impl_SinAt:I64->Iv:=fun a0=>(t_impl_SinAt a0).get
theorem u_impl_SinAt (a0:I64):(t_impl_SinAt a0).opt=some (F_impl_SinAt a0):=Tr.zz (by kernel_rfl)
def E_impl_SinAt:Ent Tryz.prog:= .of1 Tb264 B264 (fun _=>true) F_impl_SinAt fun a0 _=>(r_impl_SinAt a0).trans (u_impl_SinAt a0)
def B265:Bod Tryz.prog:=⟨265,Tryz.f265,Tryz.f265.body.getD .skip,Tryz.func265,by kernel_rfl,by kernel_rfl,zK.no _ _⟩
def Tb265:Tb Tryz.prog:= {T:= [Y2,Y30],mix:=mix,Es:= [E_impl_circleValue],Bs:= [],d:=1}
def t_impl_CosAt (a0:I64):Tr (Iv):=
 .leaf (zcr a0 ⟨1,rfl⟩)
theorem r_impl_CosAt (a0:I64):Tb265.run B265 [enc a0] (Iv)=(t_impl_CosAt a0).opt:=by kernel_rfl
def F_impl_CosAt:I64->Iv:=fun a0=>(t_impl_CosAt a0).get
theorem u_impl_CosAt (a0:I64):(t_impl_CosAt a0).opt=some (F_impl_CosAt a0):=Tr.zz (by kernel_rfl)
def E_impl_CosAt:Ent Tryz.prog:= .of1 Tb265 B265 (fun _=>true) F_impl_CosAt fun a0 _=>(r_impl_CosAt a0).trans (u_impl_CosAt a0)
def B215:Bod Tryz.prog:=⟨215,Tryz.f215,Tryz.f215.body.getD .skip,Tryz.func215,by kernel_rfl,by kernel_rfl,zK.no _ _⟩
def B356:Bod Tryz.prog:=⟨356,Tryz.f356,Tryz.f356.body.getD .skip,Tryz.func356,by kernel_rfl,by kernel_rfl,zK.no _ _⟩
def B302:Bod Tryz.prog:=⟨302,Tryz.f302,Tryz.f302.body.getD .skip,Tryz.func302,by kernel_rfl,by kernel_rfl,zK.no _ _⟩
def Tb302:Tb Tryz.prog:= {T:= [Y2,Y30,Y57],mix:=mix,Es:= [zbF,zcD,zaa],Bs:= [B215,B356],d:=8}
def t_impl_FlatteningI (a0:Ell):Tr (Iv):=
 .br (!(zaU a0)) (.leaf zq) (.leaf (zU a0.num a0.den))
theorem r_impl_FlatteningI (a0:Ell):Tb302.run B302 [enc a0] (Iv)=(t_impl_FlatteningI a0).opt:=by kernel_rfl
def zdg:Ell->Iv:=fun a0=>(t_impl_FlatteningI a0).get
theorem u_impl_FlatteningI (a0:Ell):(t_impl_FlatteningI a0).opt=some (zdg a0):=Tr.zz (by kernel_rfl)
def E_impl_FlatteningI:Ent Tryz.prog:= .of1 Tb302 B302 (fun _=>true) zdg fun a0 _=>(r_impl_FlatteningI a0).trans (u_impl_FlatteningI a0)
def B206:Bod Tryz.prog:=⟨206,Tryz.f206,Tryz.f206.body.getD .skip,Tryz.func206,by kernel_rfl,by kernel_rfl,zK.no _ _⟩
def Tb206:Tb Tryz.prog:= {T:= [Y2,Y30,Y57],mix:=mix,Es:= [za7,zbG,zcK,E_impl_FlatteningI],Bs:= [],d:=1}
def t_impl_EccI (a0:Ell):Tr (Iv):=
 let c1:=zdg a0;.leaf (zt c1 (zaq (zl ⟨2,rfl⟩) c1))
theorem r_impl_EccI (a0:Ell):Tb206.run B206 [enc a0] (Iv)=(t_impl_EccI a0).opt:=by kernel_rfl
def zfq:Ell->Iv:=fun a0=>(t_impl_EccI a0).get
theorem u_impl_EccI (a0:Ell):(t_impl_EccI a0).opt=some (zfq a0):=Tr.zz (by kernel_rfl)
def E_impl_EccI:Ent Tryz.prog:= .of1 Tb206 B206 (fun _=>true) zfq fun a0 _=>(r_impl_EccI a0).trans (u_impl_EccI a0)
def B216:Bod Tryz.prog:=⟨216,Tryz.f216,Tryz.f216.body.getD .skip,Tryz.func216,by kernel_rfl,by kernel_rfl,zK.no _ _⟩
def B116:Bod Tryz.prog:=⟨116,Tryz.f116,Tryz.f116.body.getD .skip,Tryz.func116,by kernel_rfl,by kernel_rfl,zK.no _ _⟩
def Tb116:Tb Tryz.prog:= {T:= [Y2,Y30,Y57],mix:=mix,Es:= [zbF,zcD,zaa],Bs:= [B215,B216],d:=8}
def t_impl_MajorI (a0:Ell):Tr (Iv):=
 .br (!(zaU a0)) (.leaf zq) (.leaf (zU a0.a ⟨1000,rfl⟩))
theorem r_impl_MajorI (a0:Ell):Tb116.run B116 [enc a0] (Iv)=(t_impl_MajorI a0).opt:=by kernel_rfl
def zfb:Ell->Iv:=fun a0=>(t_impl_MajorI a0).get
theorem u_impl_MajorI (a0:Ell):(t_impl_MajorI a0).opt=some (zfb a0):=Tr.zz (by kernel_rfl)
def E_impl_MajorI:Ent Tryz.prog:= .of1 Tb116 B116 (fun _=>true) zfb fun a0 _=>(r_impl_MajorI a0).trans (u_impl_MajorI a0)
def B205:Bod Tryz.prog:=⟨205,Tryz.f205,Tryz.f205.body.getD .skip,Tryz.func205,by kernel_rfl,by kernel_rfl,zK.no _ _⟩
def Tb205:Tb Tryz.prog:= {T:= [Y2,Y30],mix:=mix,Es:= [za7,zcK],Bs:= [],d:=1}
def t_impl_oneLess (a0:Iv):Tr (Iv):=
 .leaf (zaq (zl ⟨1,rfl⟩) a0)
theorem r_impl_oneLess (a0:Iv):Tb205.run B205 [enc a0] (Iv)=(t_impl_oneLess a0).opt:=by kernel_rfl
def zbX:Iv->Iv:=fun a0=>(t_impl_oneLess a0).get
theorem u_impl_oneLess (a0:Iv):(t_impl_oneLess a0).opt=some (zbX a0):=Tr.zz (by kernel_rfl)
def E_impl_oneLess:Ent Tryz.prog:= .of1 Tb205 B205 (fun _=>true) zbX fun a0 _=>(r_impl_oneLess a0).trans (u_impl_oneLess a0)
def B118:Bod Tryz.prog:=⟨118,Tryz.f118,Tryz.f118.body.getD .skip,Tryz.func118,by kernel_rfl,by kernel_rfl,zK.no _ _⟩
def Tb118:Tb Tryz.prog:= {T:= [Y2,Y30,Y57],mix:=mix,Es:= [zbG,zel,E_impl_oneLess,E_impl_EccI],Bs:= [],d:=1}
def t_impl_weightOf (a0:Ell) (a1:Iv):Tr (Iv):=
 .leaf (zbX (zt (zfq a0) (zcI a1)))
theorem r_impl_weightOf (a0:Ell) (a1:Iv):Tb118.run B118 [enc a0,enc a1] (Iv)=(t_impl_weightOf a0 a1).opt:=by kernel_rfl
def F_impl_weightOf:Ell->Iv->Iv:=fun a0 a1=>(t_impl_weightOf a0 a1).get
theorem u_impl_weightOf (a0:Ell) (a1:Iv):(t_impl_weightOf a0 a1).opt=some (F_impl_weightOf a0 a1):=Tr.zz (by kernel_rfl)
def E_impl_weightOf:Ent Tryz.prog:= .of2 Tb118 B118 (fun _ _=>true) F_impl_weightOf fun a0 a1 _=>(r_impl_weightOf a0 a1).trans (u_impl_weightOf a0 a1)
def B139:Bod Tryz.prog:=⟨139,Tryz.f139,Tryz.f139.body.getD .skip,Tryz.func139,by kernel_rfl,by kernel_rfl,zK.no _ _⟩
def Tb139:Tb Tryz.prog:= {T:= [Y2,Y24,Y30],mix:=mix,Es:= [E_impl_ValidPoint,ET_impl_RadiansOf,zaa],Bs:= [],d:=1}
def t_impl_LatOf (a0:zbN):Tr (Iv):=
 .br (!(zcT a0)) (.leaf zq) (.leaf (zeW a0.lat))
theorem r_impl_LatOf (a0:zbN):Tb139.run B139 [enc a0] (Iv)=(t_impl_LatOf a0).opt:=by kernel_rfl
def F_impl_LatOf:zbN->Iv:=fun a0=>(t_impl_LatOf a0).get
theorem u_impl_LatOf (a0:zbN):(t_impl_LatOf a0).opt=some (F_impl_LatOf a0):=Tr.zz (by kernel_rfl)
def E_impl_LatOf:Ent Tryz.prog:= .of1 Tb139 B139 (fun _=>true) F_impl_LatOf fun a0 _=>(r_impl_LatOf a0).trans (u_impl_LatOf a0)
def B241:Bod Tryz.prog:=⟨241,Tryz.f241,Tryz.f241.body.getD .skip,Tryz.func241,by kernel_rfl,by kernel_rfl,zK.no _ _⟩
def B146:Bod Tryz.prog:=⟨146,Tryz.f146,Tryz.f146.body.getD .skip,Tryz.func146,by kernel_rfl,by kernel_rfl,zK.no _ _⟩
def Tb146:Tb Tryz.prog:= {T:= [Y2,Y30,Y57],mix:=mix,Es:= [zbF,zbG,E_impl_MajorI,zcD,zaa],Bs:= [B215,B241],d:=8}
def t_impl_MinorI (a0:Ell):Tr (Iv):=
 .br (!(zaU a0)) (.leaf zq) (.leaf (zt (zfb a0) (zU (Rng.w .i64 (a0.den.val-a0.num.val)) a0.den)))
theorem r_impl_MinorI (a0:Ell):Tb146.run B146 [enc a0] (Iv)=(t_impl_MinorI a0).opt:=by kernel_rfl
def F_impl_MinorI:Ell->Iv:=fun a0=>(t_impl_MinorI a0).get
theorem u_impl_MinorI (a0:Ell):(t_impl_MinorI a0).opt=some (F_impl_MinorI a0):=Tr.zz (by kernel_rfl)
def E_impl_MinorI:Ent Tryz.prog:= .of1 Tb146 B146 (fun _=>true) F_impl_MinorI fun a0 _=>(r_impl_MinorI a0).trans (u_impl_MinorI a0)
def Y101:TyE Tryz.prog:=⟨101,1,(.slice 24 2),[.nils],false,by kernel_rfl,by kernel_rfl,by kernel_rfl,by kernel_rfl,by kernel_rfl,by kernel_rfl⟩
def B82:Bod Tryz.prog:=⟨82,Tryz.f82,Tryz.f82.body.getD .skip,Tryz.func82,by kernel_rfl,by kernel_rfl,zK.no _ _⟩
def Tb82:Tb Tryz.prog:= {T:= [Y2,Y30],mix:=mix,Es:= [za7,zbG],Bs:= [],d:=1}
def t_impl_times (a0:I64) (a1:Iv):Tr (Iv):=
 .leaf (zt (zl a0) a1)
theorem r_impl_times (a0:I64) (a1:Iv):Tb82.run B82 [enc a0,enc a1] (Iv)=(t_impl_times a0 a1).opt:=by kernel_rfl
def zcQ:I64->Iv->Iv:=fun a0 a1=>(t_impl_times a0 a1).get
theorem u_impl_times (a0:I64) (a1:Iv):(t_impl_times a0 a1).opt=some (zcQ a0 a1):=Tr.zz (by kernel_rfl)
def E_impl_times:Ent Tryz.prog:= .of2 Tb82 B82 (fun _ _=>true) zcQ fun a0 a1 _=>(r_impl_times a0 a1).trans (u_impl_times a0 a1)
def B90:Bod Tryz.prog:=⟨90,Tryz.f90,Tryz.f90.body.getD .skip,Tryz.func90,by kernel_rfl,by kernel_rfl,zK.no _ _⟩
def Tb90:Tb Tryz.prog:= {T:= [Y24],mix:=mix,Es:= [E_impl_ValidPoint],Bs:= [],d:=1}
def t_impl_areValid (a0:zbN) (a1:zbN):Tr (Bool):=
 .br (zcT a0) (.leaf (zcT a1)) (.leaf false)
theorem r_impl_areValid (a0:zbN) (a1:zbN):Tb90.run B90 [enc a0,enc a1] (Bool)=(t_impl_areValid a0 a1).opt:=by kernel_rfl
def F_impl_areValid:zbN->zbN->Bool:=fun a0 a1=>(t_impl_areValid a0 a1).get
theorem u_impl_areValid (a0:zbN) (a1:zbN):(t_impl_areValid a0 a1).opt=some (F_impl_areValid a0 a1):=Tr.zz (by kernel_rfl)
def E_impl_areValid:Ent Tryz.prog:= .of2 Tb90 B90 (fun _ _=>true) F_impl_areValid fun a0 a1 _=>(r_impl_areValid a0 a1).trans (u_impl_areValid a0 a1)
def B129:Bod Tryz.prog:=⟨129,Tryz.f129,Tryz.f129.body.getD .skip,Tryz.func129,by kernel_rfl,by kernel_rfl,zK.no _ _⟩
def Tb129:Tb Tryz.prog:= {T:= [Y2,Y24,Y30],mix:=mix,Es:= [E_spec_l11Ok,ET_spec_RadiansOf,zcs],Bs:= [],d:=1}
def t_spec_LatOf (a0:zbN):Tr (Iv):=
 .br (!(zbb a0)) (.leaf zaK) (.leaf (zbp a0.lat))
theorem r_spec_LatOf (a0:zbN):Tb129.run B129 [enc a0] (Iv)=(t_spec_LatOf a0).opt:=by kernel_rfl
def F_spec_LatOf:zbN->Iv:=fun a0=>(t_spec_LatOf a0).get
theorem u_spec_LatOf (a0:zbN):(t_spec_LatOf a0).opt=some (F_spec_LatOf a0):=Tr.zz (by kernel_rfl)
def E_spec_LatOf:Ent Tryz.prog:= .of1 Tb129 B129 (fun _=>true) F_spec_LatOf fun a0 _=>(r_spec_LatOf a0).trans (u_spec_LatOf a0)
def B269:Bod Tryz.prog:=⟨269,Tryz.f269,Tryz.f269.body.getD .skip,Tryz.func269,by kernel_rfl,by kernel_rfl,zK.no _ _⟩
def Tb269:Tb Tryz.prog:= {T:= [Y2,Y30],mix:=mix,Es:= [zbl,zcn,zbu,E_spec_MeetI,zcs,zb8,E_spec_AtanI,E_spec_l07Quarter,E_spec_l05At,E_spec_DoubleI,E_spec_CircleAt],Bs:= [],d:=1}
def t_spec_AsinAt (a0:I64):Tr (Iv):=
 .br (!(zaj a0 ⟨(-4294967296),rfl⟩ ⟨4294967296,rfl⟩)) (.leaf zaK) (.leaf (zas (za6 (zah (zn (zA a0) (zk (zb ⟨1,rfl⟩) (zdf a0))))) zbV).a)
theorem r_spec_AsinAt (a0:I64):Tb269.run B269 [enc a0] (Iv)=(t_spec_AsinAt a0).opt:=by kernel_rfl
def zaL:I64->Iv:=fun a0=>(t_spec_AsinAt a0).get
theorem u_spec_AsinAt (a0:I64):(t_spec_AsinAt a0).opt=some (zaL a0):=Tr.zz (by kernel_rfl)
def E_spec_AsinAt:Ent Tryz.prog:= .of1 Tb269 B269 (fun _=>true) zaL fun a0 _=>(r_spec_AsinAt a0).trans (u_spec_AsinAt a0)
def B275:Bod Tryz.prog:=⟨275,Tryz.f275,Tryz.f275.body.getD .skip,Tryz.func275,by kernel_rfl,by kernel_rfl,zK.no _ _⟩
def Tb275:Tb Tryz.prog:= {T:= [Y2,Y30],mix:=mix,Es:= [za7,zca,zb9,E_impl_AtanI,za8,zaa,zfY,E_impl_halfCircle,E_impl_MeetI,E_impl_DoubleI,E_impl_CircleAt],Bs:= [],d:=1}
def t_impl_AsinAt (a0:I64):Tr (Iv):=
 .br (!(zan a0 ⟨(-4294967296),rfl⟩ ⟨4294967296,rfl⟩)) (.leaf zq) (.leaf (zcU (zcg (zcV (zY (zbc a0) (zL (zl ⟨1,rfl⟩) (F_impl_CircleAt a0))))) zci).a)
theorem r_impl_AsinAt (a0:I64):Tb275.run B275 [enc a0] (Iv)=(t_impl_AsinAt a0).opt:=by kernel_rfl
def F_impl_AsinAt:I64->Iv:=fun a0=>(t_impl_AsinAt a0).get
theorem u_impl_AsinAt (a0:I64):(t_impl_AsinAt a0).opt=some (F_impl_AsinAt a0):=Tr.zz (by kernel_rfl)
def E_impl_AsinAt:Ent Tryz.prog:= .of1 Tb275 B275 (fun _=>true) F_impl_AsinAt fun a0 _=>(r_impl_AsinAt a0).trans (u_impl_AsinAt a0)
def B166:Bod Tryz.prog:=⟨166,Tryz.f166,Tryz.f166.body.getD .skip,Tryz.func166,by kernel_rfl,by kernel_rfl,zK.no _ _⟩
def Tb166:Tb Tryz.prog:= {T:= [Y2,Y30],mix:=mix,Es:= [E_spec_MeetI,zcs,E_spec_l06Ring,E_spec_HullI,E_spec_AsinAt],Bs:= [],d:=1}
def t_spec_AsinI (a0:Iv):Tr (Iv):=
 let c2:=zas a0 zw;.br (!c2.b) (.leaf zaK) (.leaf (zT (zaL c2.a.lo) (zaL c2.a.hi)))
theorem r_spec_AsinI (a0:Iv):Tb166.run B166 [enc a0] (Iv)=(t_spec_AsinI a0).opt:=by kernel_rfl
def zdo:Iv->Iv:=fun a0=>(t_spec_AsinI a0).get
theorem u_spec_AsinI (a0:Iv):(t_spec_AsinI a0).opt=some (zdo a0):=Tr.zz (by kernel_rfl)
def E_spec_AsinI:Ent Tryz.prog:= .of1 Tb166 B166 (fun _=>true) zdo fun a0 _=>(r_spec_AsinI a0).trans (u_spec_AsinI a0)
def B171:Bod Tryz.prog:=⟨171,Tryz.f171,Tryz.f171.body.getD .skip,Tryz.func171,by kernel_rfl,by kernel_rfl,zK.no _ _⟩
def Tb171:Tb Tryz.prog:= {T:= [Y2,Y30],mix:=mix,Es:= [E_impl_ring,zaa,E_impl_HullI,E_impl_MeetI,E_impl_AsinAt],Bs:= [],d:=1}
def t_impl_AsinI (a0:Iv):Tr (Iv):=
 let c2:=zcU a0 zeF;.br (!c2.b) (.leaf zq) (.leaf (zay (F_impl_AsinAt c2.a.lo) (F_impl_AsinAt c2.a.hi)))
theorem r_impl_AsinI (a0:Iv):Tb171.run B171 [enc a0] (Iv)=(t_impl_AsinI a0).opt:=by kernel_rfl
def F_impl_AsinI:Iv->Iv:=fun a0=>(t_impl_AsinI a0).get
theorem u_impl_AsinI (a0:Iv):(t_impl_AsinI a0).opt=some (F_impl_AsinI a0):=Tr.zz (by kernel_rfl)
def E_impl_AsinI:Ent Tryz.prog:= .of1 Tb171 B171 (fun _=>true) F_impl_AsinI fun a0 _=>(r_impl_AsinI a0).trans (u_impl_AsinI a0)
def B348:Bod Tryz.prog:=⟨348,Tryz.f348,Tryz.f348.body.getD .skip,Tryz.func348,by kernel_rfl,by kernel_rfl,zK.no _ _⟩
def Tb348:Tb Tryz.prog:= {T:= [Y2,Y30],mix:=mix,Es:= [za7,zb9],Bs:= [],d:=1}
def t_impl_over (a0:Iv) (a1:I64):Tr (Iv):=
 .leaf (zY a0 (zl a1))
theorem r_impl_over (a0:Iv) (a1:I64):Tb348.run B348 [enc a0,enc a1] (Iv)=(t_impl_over a0 a1).opt:=by kernel_rfl
def zfm:Iv->I64->Iv:=fun a0 a1=>(t_impl_over a0 a1).get
theorem u_impl_over (a0:Iv) (a1:I64):(t_impl_over a0 a1).opt=some (zfm a0 a1):=Tr.zz (by kernel_rfl)
def E_impl_over:Ent Tryz.prog:= .of2 Tb348 B348 (fun _ _=>true) zfm fun a0 a1 _=>(r_impl_over a0 a1).trans (u_impl_over a0 a1)
def B220:Bod Tryz.prog:=⟨220,Tryz.f220,Tryz.f220.body.getD .skip,Tryz.func220,by kernel_rfl,by kernel_rfl,zK.no _ _⟩
def Tb220:Tb Tryz.prog:= {T:= [Y2,Y30],mix:=mix,Es:= [zS,zaJ,zaA],Bs:= [],d:=1}
def t_spec_HalfI (a0:Iv):Tr (Iv):=
 .br (!(za a0)) (.leaf ze) (.leaf (zR (Rng.w .i64 (a0.lo.val.fdiv 2)) (Rng.w .i64 ((Rng.w .i64 (a0.hi.val+1)).val.fdiv 2))))
theorem r_spec_HalfI (a0:Iv):Tb220.run B220 [enc a0] (Iv)=(t_spec_HalfI a0).opt:=by kernel_rfl
def zdO:Iv->Iv:=fun a0=>(t_spec_HalfI a0).get
theorem u_spec_HalfI (a0:Iv):(t_spec_HalfI a0).opt=some (zdO a0):=Tr.zz (by kernel_rfl)
def E_spec_HalfI:Ent Tryz.prog:= .of1 Tb220 B220 (fun _=>true) zdO fun a0 _=>(r_spec_HalfI a0).trans (u_spec_HalfI a0)
def B207:Bod Tryz.prog:=⟨207,Tryz.f207,Tryz.f207.body.getD .skip,Tryz.func207,by kernel_rfl,by kernel_rfl,zK.no _ _⟩
def Tb207:Tb Tryz.prog:= {T:= [Y2,Y30],mix:=mix,Es:= [zaW,zaa],Bs:= [],d:=1}
def t_impl_HalfI (a0:Iv):Tr (Iv):=
 .br (zX a0) (.leaf zq) (.leaf ⟨(Rng.w .i64 (a0.lo.val.fdiv 2)),(Rng.w .i64 ((Rng.w .i64 (a0.hi.val+1)).val.fdiv 2))⟩)
theorem r_impl_HalfI (a0:Iv):Tb207.run B207 [enc a0] (Iv)=(t_impl_HalfI a0).opt:=by kernel_rfl
def F_impl_HalfI:Iv->Iv:=fun a0=>(t_impl_HalfI a0).get
theorem u_impl_HalfI (a0:Iv):(t_impl_HalfI a0).opt=some (F_impl_HalfI a0):=Tr.zz (by kernel_rfl)
def E_impl_HalfI:Ent Tryz.prog:= .of1 Tb207 B207 (fun _=>true) F_impl_HalfI fun a0 _=>(r_impl_HalfI a0).trans (u_impl_HalfI a0)
def B143:Bod Tryz.prog:=⟨143,Tryz.f143,Tryz.f143.body.getD .skip,Tryz.func143,by kernel_rfl,by kernel_rfl,zK.no _ _⟩
def Tb143:Tb Tryz.prog:= {T:= [Y2,Y30,Y57],mix:=mix,Es:= [zcJ,zS,E_spec_MajorI,zcC,E_spec_l12Ok],Bs:= [],d:=1}
def t_spec_MinorI (a0:Ell):Tr (Iv):=
 .br (!(zbs a0)) (.leaf ze) (.leaf (zf (zcz a0) (zQ (Rng.w .i64 (a0.den.val-a0.num.val)) a0.den)))
theorem r_spec_MinorI (a0:Ell):Tb143.run B143 [enc a0] (Iv)=(t_spec_MinorI a0).opt:=by kernel_rfl
def F_spec_MinorI:Ell->Iv:=fun a0=>(t_spec_MinorI a0).get
theorem u_spec_MinorI (a0:Ell):(t_spec_MinorI a0).opt=some (F_spec_MinorI a0):=Tr.zz (by kernel_rfl)
def E_spec_MinorI:Ent Tryz.prog:= .of1 Tb143 B143 (fun _=>true) F_spec_MinorI fun a0 _=>(r_spec_MinorI a0).trans (u_spec_MinorI a0)
def B243:Bod Tryz.prog:=⟨243,Tryz.f243,Tryz.f243.body.getD .skip,Tryz.func243,by kernel_rfl,by kernel_rfl,zK.no _ _⟩
def Tb243:Tb Tryz.prog:= {T:= [Y2,Y30],mix:=mix,Es:= [zS,zaJ,zaA],Bs:= [],d:=1}
def zfd (a0:Iv) (a1:Iv):Tr (Iv):=
 .br (!(za a0)) (.leaf ze) (.br (!(za a1)) (.leaf ze) (.leaf (zR a0.lo a1.hi)))
theorem r_spec_l08Ends (a0:Iv) (a1:Iv):Tb243.run B243 [enc a0,enc a1] (Iv)=(zfd a0 a1).opt:=by kernel_rfl
def zbC:Iv->Iv->Iv:=fun a0 a1=>(zfd a0 a1).get
theorem u_spec_l08Ends (a0:Iv) (a1:Iv):(zfd a0 a1).opt=some (zbC a0 a1):=Tr.zz (by kernel_rfl)
def zfs:Ent Tryz.prog:= .of2 Tb243 B243 (fun _ _=>true) zbC fun a0 a1 _=>(r_spec_l08Ends a0 a1).trans (u_spec_l08Ends a0 a1)
def B317:Bod Tryz.prog:=⟨317,Tryz.f317,Tryz.f317.body.getD .skip,Tryz.func317,by kernel_rfl,by kernel_rfl,zK.no _ _⟩
def Tb317:Tb Tryz.prog:= {T:= [Y2,Y30],mix:=mix,Es:= [zS,zaA,zfs,ET_spec_LogAt],Bs:= [],d:=1}
def t_spec_LogI (a0:Iv):Tr (Iv):=
 .br (!(za a0)) (.leaf ze) (.leaf (zbC (F_spec_LogAt a0.lo) (F_spec_LogAt a0.hi)))
theorem r_spec_LogI (a0:Iv):Tb317.run B317 [enc a0] (Iv)=(t_spec_LogI a0).opt:=by kernel_rfl
def F_spec_LogI:Iv->Iv:=fun a0=>(t_spec_LogI a0).get
theorem u_spec_LogI (a0:Iv):(t_spec_LogI a0).opt=some (F_spec_LogI a0):=Tr.zz (by kernel_rfl)
def E_spec_LogI:Ent Tryz.prog:= .of1 Tb317 B317 (fun _=>true) F_spec_LogI fun a0 _=>(r_spec_LogI a0).trans (u_spec_LogI a0)
def B255:Bod Tryz.prog:=⟨255,Tryz.f255,Tryz.f255.body.getD .skip,Tryz.func255,by kernel_rfl,by kernel_rfl,zK.no _ _⟩
def B258:Bod Tryz.prog:=⟨258,Tryz.f258,Tryz.f258.body.getD .skip,Tryz.func258,by kernel_rfl,by kernel_rfl,zK.no _ _⟩
def Tb258:Tb Tryz.prog:= {T:= [Y2,Y30],mix:=mix,Es:= [zaW,za9,zaa,zbm,ET_impl_LogAt],Bs:= [B255],d:=8}
def t_impl_LogI (a0:Iv):Tr (Iv):=
 .br (zX a0) (.leaf zq) (let c3:=F_impl_LogAt a0.lo;let c4:=F_impl_LogAt a0.hi;.br (!(zaH c3 c4)) (.leaf zq) (.leaf (zaE c3.lo c4.hi true)))
theorem r_impl_LogI (a0:Iv):Tb258.run B258 [enc a0] (Iv)=(t_impl_LogI a0).opt:=by kernel_rfl
def F_impl_LogI:Iv->Iv:=fun a0=>(t_impl_LogI a0).get
theorem u_impl_LogI (a0:Iv):(t_impl_LogI a0).opt=some (F_impl_LogI a0):=Tr.zz (by kernel_rfl)
def E_impl_LogI:Ent Tryz.prog:= .of1 Tb258 B258 (fun _=>true) F_impl_LogI fun a0 _=>(r_impl_LogI a0).trans (u_impl_LogI a0)
end
end Go.Proofs.YtkenfaengphiiaaGreat.Ev
namespace Go.Proofs.YtkenfaengphiiaaGreat.Ev
open Go
theorem lat_eq {p:zbN} (h:zbb p=true):F_impl_LatOf p=zbp p.lat:=by
 simp only [F_impl_LatOf,t_impl_LatOf,Tr.get,point_eq,h,Bool.not_true,cfl,radians_eq]
theorem times_eq (n:I64) (x:Iv):zcQ n x=zf (zb n) x:=by
 simp only [zcQ,t_impl_times,Tr.get,mulI_F,zbH]
end Go.Proofs.YtkenfaengphiiaaGreat.Ev
namespace Go.Proofs.YtkenfaengphiiaaGreat.Ev
open Go
theorem ell_eq (e:Ell):zaU e=zbs e:=by
 simp only [zaU,ze2,zbs,t_spec_l12Ok,Tr.get,zb0,zft]
 cases decide (1000<=e.a.val/\e.a.val<=100000000000)
 ·simp [ctr,cfl]
 cases decide (1<=e.den.val/\e.den.val<=1000000000000)
 ·simp [ctr,cfl]
 simp only [ctr]
 by_cases h:e.num.val>=0
 ·by_cases h2:e.num.val<=(Rng.w .i64 (e.den.val.tdiv 100)).val<;>simp [h,h2]
 ·simp [h]
theorem flatI_eq (e:Ell):zdg e=zde e:=by
 simp only [zdg,t_impl_FlatteningI,zde,t_spec_FlatteningI,Tr.get,ell_eq,quot_eq,zaS]
theorem major_eq (e:Ell):zfb e=zcz e:=by
 simp only [zfb,t_impl_MajorI,zcz,t_spec_MajorI,Tr.get,ell_eq,quot_eq,zaS]
theorem minor_eq (e:Ell):F_impl_MinorI e=F_spec_MinorI e:=by
 simp only [F_impl_MinorI,t_impl_MinorI,F_spec_MinorI,t_spec_MinorI,Tr.get,ell_eq,quot_eq,zaS,mulI_F,major_eq]
theorem ecc_eq (e:Ell):zfq e=zb5 e:=by
 simp only [zfq,t_impl_EccI,zb5,t_spec_EccI,Tr.get,flatI_eq,mulI_F,sub_eq,zbH]
theorem oneLess_eq (x:Iv):zbX x=zF (zb ⟨1,rfl⟩) x:=by
 simp only [zbX,t_impl_oneLess,Tr.get,sub_eq,zbH]
theorem weight_eq (e:Ell) (s:Iv):F_impl_weightOf e s=zF (zb ⟨1,rfl⟩) (zf (zb5 e) (zao s)):=by
 simp only [F_impl_weightOf,t_impl_weightOf,Tr.get,oneLess_eq,ecc_eq,mulI_F,sqrI_F]
theorem sinAt_eq (n:I64):F_impl_SinAt n=F_spec_SinAt n:=by
 simp only [F_impl_SinAt,t_impl_SinAt,F_spec_SinAt,t_spec_SinAt,Tr.get,circle_eq]
theorem cosAt_eq (n:I64):F_impl_CosAt n=F_spec_CosAt n:=by
 simp only [F_impl_CosAt,t_impl_CosAt,F_spec_CosAt,t_spec_CosAt,Tr.get,circle_eq]
theorem halfI_eq (a:Iv):F_impl_HalfI a=zdO a:=by
 simp only [F_impl_HalfI,t_impl_HalfI,zdO,t_spec_HalfI,Tr.get,isw_eq,zaS]
 cases h:za a
 ·rfl
 have hb:=(zaN a).1 h
 simp only [Bool.not_true,cfl]
 have e1:(Rng.w .i64 (a.hi.val+1)).val=a.hi.val+1:=wi (by omega) (by omega)
 have d1:a.lo.val.fdiv 2=a.lo.val/2:=Int.fdiv_eq_ediv_of_nonneg _ (by decide)
 have d2:(a.hi.val+1).fdiv 2=(a.hi.val+1)/2:=Int.fdiv_eq_ediv_of_nonneg _ (by decide)
 refine (zbI ?_).symm
 rw [e1,d1,d2,wi (by omega) (by omega),wi (by omega) (by omega)]
 omega
theorem swm_eq (a b:I64):zcY a b=mkW (a.val*b.val):=by simp only [zcY,t_spec_WideMul,Tr.get,mul_spec]
theorem circleAt_eq (n:I64):F_impl_CircleAt n=zdf n:=by
 simp only [F_impl_CircleAt,t_impl_CircleAt,zdf,t_spec_CircleAt,Tr.get,zb0,zft,zaS,zc5,mul_impl,swm_eq,sf_G_impl,sf_G_spec,ctr]
 by_cases h: -4294967296<=n.val/\n.val<=4294967296
 ·have e1:(Rng.w .i64 (4294967296-n.val)).val=4294967296-n.val:=wi (by omega) (by omega)
  have e2:(Rng.w .i64 (4294967296+n.val)).val=4294967296+n.val:=wi (by omega) (by omega)
  obtain ⟨q,h1,h2,h3⟩:=sf_val (.w .i64 (4294967296-n.val)) (.w .i64 (4294967296+n.val)) (by omega) (by omega)
  have hd:decide (-4294967296<=n.val/\n.val<=4294967296)=true:=by simpa using h
  simp only [h1,h2,at_eq,hd,Bool.not_true,cfl]
  generalize ((mkW (q.val*q.val)).hi.val==(mkW ((Rng.w .i64 (4294967296-n.val)).val*(Rng.w .i64 (4294967296+n.val)).val)).hi.val&&((mkW (q.val*q.val)).lo.val==(mkW ((Rng.w .i64 (4294967296-n.val)).val*(Rng.w .i64 (4294967296+n.val)).val)).lo.val&&true))=c
  cases c<;>simp [zA,t_spec_l05At,Tr.get]
 ·have hd:decide (-4294967296<=n.val/\n.val<=4294967296)=false:=by simpa using h
  simp only [hd,Bool.not_false,ctr]
theorem asinAt_eq (n:I64):F_impl_AsinAt n=zaL n:=by
 simp only [F_impl_AsinAt,t_impl_AsinAt,zaL,t_spec_AsinAt,Tr.get,zb0,zft,zaS,zc5]
 rw [atanI_eq,double_eq,meet_eq,half_eq,divI_F,add_eq,zbH,circleAt_eq,at_eq]
theorem asinI_eq (x:Iv):F_impl_AsinI x=zdo x:=by
 simp only [F_impl_AsinI,t_impl_AsinI,zdo,t_spec_AsinI,Tr.get,meet_eq,ring_eq,zaS,zc5,asinAt_eq,hull_eq]
theorem slat_eq {p:zbN} (h:zbb p=true):F_spec_LatOf p=zbp p.lat:=by
 simp only [F_spec_LatOf,t_spec_LatOf,Tr.get,h,Bool.not_true,cfl]
end Go.Proofs.YtkenfaengphiiaaGreat.Ev
namespace Go.Proofs.YtkenfaengphiiaaGreat.Ev
open Go
def Sub (a b:Iv):Prop:=za b=true->za a=true/\b.lo.val<=a.lo.val/\a.hi.val<=b.hi.val
theorem Sub.refl (a:Iv):Sub a a:=fun h=>⟨h,Int.le_refl _,Int.le_refl _⟩
theorem sub_whole (a:Iv):Sub a ze:=fun h=>by rw [zcv] at h;cases h
theorem sub_ofno {a b:Iv} (h:za b=false):Sub a b:=fun k=>by rw [h] at k;cases k
theorem prod_lo {p q r s x y:Int} (hx:p<=x/\x<=q) (hy:r<=y/\y<=s):p*r<=x*y\/p*s<=x*y\/q*r<=x*y\/q*s<=x*y:=by
 by_cases h:0<=y
 ·have h1:=Int.mul_le_mul_of_nonneg_right hx.1 h
  by_cases hp:0<=p
  ·have:=Int.mul_le_mul_of_nonneg_left hy.1 hp;left;omega
  ·have:=Int.mul_le_mul_of_nonpos_left (show p<=0 by omega) hy.2;right;left;omega
 ·have h1:=Int.mul_le_mul_of_nonpos_right hx.2 (show y<=0 by omega)
  by_cases hq:0<=q
  ·have:=Int.mul_le_mul_of_nonneg_left hy.1 hq;right;right;left;omega
  ·have:=Int.mul_le_mul_of_nonpos_left (show q<=0 by omega) hy.2;right;right;right;omega
theorem prod_hi {p q r s x y:Int} (hx:p<=x/\x<=q) (hy:r<=y/\y<=s):x*y<=p*r\/x*y<=p*s\/x*y<=q*r\/x*y<=q*s:=by
 have:=prod_lo (p:= -q) (q:= -p) (x:= -x) (r:=r) (s:=s) (y:=y) (by omega) hy
 simp only [Int.neg_mul] at this
 omega
theorem muldown_true {x y:I64} (h:(zO x y).b=true):(zO x y).a.val=x.val*y.val/4294967296:=by
 simp only [zO,zcL,Tr.get,mf32] at h ⊢
 cases h1:zD x
 ·rw [h1] at h;simp [ctr] at h
 cases h2:zD y
 ·rw [h1,h2] at h;simp [ctr,cfl] at h
 rw [h1,h2] at h
 simp only [Bool.not_true,cfl] at h ⊢
 unfold narrow at h ⊢
 split at h
 ·rename_i hr
  rw [if_pos hr]
  rcases end_cases (.w .i64 (x.val*y.val/4294967296)) true with e|⟨e,_⟩
  ·rw [e] at h;cases h
  ·rw [e];exact wi hr.1 hr.2
 ·rename_i hr
  rcases end_cases (.w .i64 0) false with e|⟨e,_⟩
  ·rw [e] at h;cases h
  ·have:(zaG (.w .i64 0) false).b=false:=by simp only [zaG,zdy,Tr.get,Bool.not_false,ctr]
   rw [this] at h;cases h
theorem mulup_true {x y:I64} (h:(zaf x y).b=true):(zaf x y).a.val= -(-(x.val*y.val)/4294967296):=by
 simp only [zaf,zey,Tr.get] at h ⊢
 cases h1:zD x
 ·rw [h1] at h;simp [ctr] at h
 rw [h1] at h
 simp only [Bool.not_true,cfl] at h ⊢
 have hb:=ok_bd h1
 cases hd:(zO (.w .i64 (0-x.val)) y).b
 ·rw [hd] at h;simp [ctr] at h
 simp only [hd,Bool.not_true,cfl]
 have e:=muldown_true hd
 have en:(Rng.w .i64 (0-x.val)).val= -x.val:=by rw [wi (by omega) (by omega)];omega
 rw [en,Int.neg_mul] at e
 rcases muldown_cases (.w .i64 (0-x.val)) y with k|⟨c,k,kc⟩
 ·rw [k] at hd;cases hd
 ·have kb:=ok_bd kc
  rw [k] at e ⊢
  simp only at e ⊢
  rw [wi (by omega) (by omega)]
  omega
theorem mulI_corner {a b:Iv} (h:za (zf a b)=true):za a=true/\za b=true /\
  ∀x y:I64,(x=a.lo\/x=a.hi)->(y=b.lo\/y=b.hi)->(zf a b).lo.val<=x.val*y.val/4294967296 /\ -(-(x.val*y.val)/4294967296)<=(zf a b).hi.val:=by
 have nw:∀ {P:Prop},za ze=true->P:=fun h=>by rw [zcv] at h;cases h
 simp only [zf,t_spec_MulI,Tr.get] at h ⊢
 cases ha:za a
 ·rw [ha] at h;exact nw h
 cases hb:za b
 ·rw [ha,hb] at h;exact nw h
 simp only [ha,hb,Bool.not_true,cfl] at h ⊢
 cases h1:(zO a.lo b.lo).b
 ·rw [h1] at h;exact nw h
 cases h2:(zaf a.lo b.lo).b
 ·rw [h1,h2] at h;exact nw h
 cases h3:(zO a.lo b.hi).b
 ·rw [h1,h2,h3] at h;exact nw h
 cases h4:(zaf a.lo b.hi).b
 ·rw [h1,h2,h3,h4] at h;exact nw h
 cases h5:(zO a.hi b.lo).b
 ·rw [h1,h2,h3,h4,h5] at h;exact nw h
 cases h6:(zaf a.hi b.lo).b
 ·rw [h1,h2,h3,h4,h5,h6] at h;exact nw h
 cases h7:(zO a.hi b.hi).b
 ·rw [h1,h2,h3,h4,h5,h6,h7] at h;exact nw h
 cases h8:(zaf a.hi b.hi).b
 ·rw [h1,h2,h3,h4,h5,h6,h7,h8] at h;exact nw h
 simp only [h1,h2,h3,h4,h5,h6,h7,h8,Bool.not_true,cfl] at h ⊢
 refine ⟨trivial,trivial,?_⟩
 have v1:=muldown_true h1
 have v2:=mulup_true h2
 have v3:=muldown_true h3
 have v4:=mulup_true h4
 have v5:=muldown_true h5
 have v6:=mulup_true h6
 have v7:=muldown_true h7
 have v8:=mulup_true h8
 generalize (zO a.lo b.lo).a=d1 at *
 generalize (zO a.lo b.hi).a=d2 at *
 generalize (zO a.hi b.lo).a=d3 at *
 generalize (zO a.hi b.hi).a=d4 at *
 generalize (zaf a.lo b.lo).a=u1 at *
 generalize (zaf a.lo b.hi).a=u2 at *
 generalize (zaf a.hi b.lo).a=u3 at *
 generalize (zaf a.hi b.hi).a=u4 at *
 have m1:=min_l ⟨1152921504606846976,rfl⟩ d1
 have m2:=min_l (zC ⟨1152921504606846976,rfl⟩ d1) d2
 have m3:=min_l (zC (zC ⟨1152921504606846976,rfl⟩ d1) d2) d3
 have m4:=min_l (zC (zC (zC ⟨1152921504606846976,rfl⟩ d1) d2) d3) d4
 have n1:=max_l ⟨-1152921504606846976,rfl⟩ u1
 have n2:=max_l (zu ⟨-1152921504606846976,rfl⟩ u1) u2
 have n3:=max_l (zu (zu ⟨-1152921504606846976,rfl⟩ u1) u2) u3
 have n4:=max_l (zu (zu (zu ⟨-1152921504606846976,rfl⟩ u1) u2) u3) u4
 generalize zC (zC (zC (zC ⟨1152921504606846976,rfl⟩ d1) d2) d3) d4=lo at *
 generalize zu (zu (zu (zu ⟨-1152921504606846976,rfl⟩ u1) u2) u3) u4=hi at *
 by_cases hm: -1152921504606846976<lo.val/\lo.val<=hi.val/\hi.val<1152921504606846976
 ·rw [zbI hm]
  simp only
  rintro x y (rfl|rfl) (rfl|rfl)
  ·omega
  ·omega
  ·omega
  ·omega
 ·rw [make_no hm] at h;exact nw h
theorem Sub.mul {a a' b b':Iv} (ha:Sub a a') (hb:Sub b b'):Sub (zf a b) (zf a' b'):=fun h=>by
 obtain ⟨oa',ob',hc⟩:=mulI_corner h
 obtain ⟨oa,a1,a2⟩:=ha oa'
 obtain ⟨ob,b1,b2⟩:=hb ob'
 have hM:=(zaN _).1 h
 have ba:=(zaN _).1 oa
 have bb:=(zaN _).1 ob
 have c1:=hc a'.lo b'.lo (.inl rfl) (.inl rfl)
 have c2:=hc a'.lo b'.hi (.inl rfl) (.inr rfl)
 have c3:=hc a'.hi b'.lo (.inr rfl) (.inl rfl)
 have c4:=hc a'.hi b'.hi (.inr rfl) (.inr rfl)
 generalize zf a' b'=M at *
 obtain ⟨lo,hi,e,k1,k2,k3⟩:=mulI_in (L:=M.lo.val) (H:=M.hi.val) oa ob (by omega) (by omega) (fun x y hx hy=>by
  have hx':a'.lo.val<=x.val/\x.val<=a'.hi.val:=by rcases hx with rfl|rfl<;>omega
  have hy':b'.lo.val<=y.val/\y.val<=b'.hi.val:=by rcases hy with rfl|rfl<;>omega
  have ox:zD x=true:=ok3 (by rcases hx with rfl|rfl<;>omega)
  have oy:zD y=true:=ok3 (by rcases hy with rfl|rfl<;>omega)
  have fl:M.lo.val<=x.val*y.val/4294967296:=by
   rcases prod_lo hx' hy' with h|h|h|h<;>(have:=Int.ediv_le_ediv (c:=4294967296) (by decide) h;omega)
  have fh: -(-(x.val*y.val)/4294967296)<=M.hi.val:=by
   rcases prod_hi hx' hy' with h|h|h|h<;>(have:=Int.ediv_le_ediv (c:=4294967296) (by decide) (Int.neg_le_neg h);omega)
  have e1:=muldown_val (a:=x) (b:=y) ox oy (by omega)
  have e2:=mulup_val (a:=x) (b:=y) ox oy (by omega)
  refine ⟨_,_,e1,e2,?_,?_,?_⟩
  ·rw [wi (by omega) (by omega)];omega
  ·rw [wi (by omega) (by omega),wi (by omega) (by omega)];omega
  ·rw [wi (by omega) (by omega)];omega)
 rw [e]
 exact ⟨(zaN _).2 (by simp only;omega),k1,k3⟩
theorem addI_val {a b:Iv} (h:za (zk a b)=true):za a=true/\za b=true/\(zk a b).lo.val=a.lo.val+b.lo.val/\(zk a b).hi.val=a.hi.val+b.hi.val:=by
 simp only [zk,zc2,Tr.get] at h ⊢
 cases ha:za a
 ·rw [ha] at h;simp only [Bool.not_false,ctr,zcv] at h;cases h
 cases hb:za b
 ·rw [ha,hb] at h;simp only [Bool.not_false,Bool.not_true,ctr,cfl,zcv] at h;cases h
 simp only [ha,hb,Bool.not_true,cfl] at h ⊢
 have ba:=(zaN _).1 ha
 have bb:=(zaN _).1 hb
 have k1:(Rng.w .i64 (a.lo.val+b.lo.val)).val=a.lo.val+b.lo.val:=wi (by omega) (by omega)
 have k2:(Rng.w .i64 (a.hi.val+b.hi.val)).val=a.hi.val+b.hi.val:=wi (by omega) (by omega)
 by_cases hm: -1152921504606846976<(Rng.w .i64 (a.lo.val+b.lo.val)).val/\(Rng.w .i64 (a.lo.val+b.lo.val)).val<=(Rng.w .i64 (a.hi.val+b.hi.val)).val/\(Rng.w .i64 (a.hi.val+b.hi.val)).val<1152921504606846976
 ·rw [zbI hm];exact ⟨trivial,trivial,k1,k2⟩
 ·rw [make_no hm,zcv] at h;cases h
theorem addI_mk {a b:Iv} (ha:za a=true) (hb:za b=true) (h: -1152921504606846976<a.lo.val+b.lo.val/\a.hi.val+b.hi.val<1152921504606846976):zk a b=⟨.w .i64 (a.lo.val+b.lo.val),.w .i64 (a.hi.val+b.hi.val)⟩/\za (zk a b)=true:=by
 have ba:=(zaN _).1 ha
 have bb:=(zaN _).1 hb
 have k1:(Rng.w .i64 (a.lo.val+b.lo.val)).val=a.lo.val+b.lo.val:=wi (by omega) (by omega)
 have k2:(Rng.w .i64 (a.hi.val+b.hi.val)).val=a.hi.val+b.hi.val:=wi (by omega) (by omega)
 have e:zk a b=⟨.w .i64 (a.lo.val+b.lo.val),.w .i64 (a.hi.val+b.hi.val)⟩:=by
  simp only [zk,zc2,Tr.get,ha,hb,Bool.not_true,cfl]
  exact zbI (by rw [k1,k2];omega)
 exact ⟨e,by rw [e];exact (zaN _).2 (by simp only [k1,k2];omega)⟩
theorem Sub.add {a a' b b':Iv} (ha:Sub a a') (hb:Sub b b'):Sub (zk a b) (zk a' b'):=fun h=>by
 obtain ⟨oa',ob',e1,e2⟩:=addI_val h
 obtain ⟨oa,a1,a2⟩:=ha oa'
 obtain ⟨ob,b1,b2⟩:=hb ob'
 have hM:=(zaN _).1 h
 obtain ⟨_,k⟩:=addI_mk oa ob (by omega)
 obtain ⟨_,_,v1,v2⟩:=addI_val k
 exact ⟨k,by omega,by omega⟩
theorem subI_val {a b:Iv} (h:za (zF a b)=true):za a=true/\za b=true/\(zF a b).lo.val=a.lo.val-b.hi.val/\(zF a b).hi.val=a.hi.val-b.lo.val:=by
 simp only [zF,t_spec_SubI,Tr.get] at h ⊢
 cases ha:za a
 ·rw [ha] at h;simp only [Bool.not_false,ctr,zcv] at h;cases h
 cases hb:za b
 ·rw [ha,hb] at h;simp only [Bool.not_false,Bool.not_true,ctr,cfl,zcv] at h;cases h
 simp only [ha,hb,Bool.not_true,cfl] at h ⊢
 have ba:=(zaN _).1 ha
 have bb:=(zaN _).1 hb
 have k1:(Rng.w .i64 (a.lo.val-b.hi.val)).val=a.lo.val-b.hi.val:=wi (by omega) (by omega)
 have k2:(Rng.w .i64 (a.hi.val-b.lo.val)).val=a.hi.val-b.lo.val:=wi (by omega) (by omega)
 by_cases hm: -1152921504606846976<(Rng.w .i64 (a.lo.val-b.hi.val)).val/\(Rng.w .i64 (a.lo.val-b.hi.val)).val<=(Rng.w .i64 (a.hi.val-b.lo.val)).val/\(Rng.w .i64 (a.hi.val-b.lo.val)).val<1152921504606846976
 ·rw [zbI hm];exact ⟨trivial,trivial,k1,k2⟩
 ·rw [make_no hm,zcv] at h;cases h
theorem subI_mk {a b:Iv} (ha:za a=true) (hb:za b=true) (h: -1152921504606846976<a.lo.val-b.hi.val/\a.hi.val-b.lo.val<1152921504606846976):za (zF a b)=true:=by
 have ba:=(zaN _).1 ha
 have bb:=(zaN _).1 hb
 have k1:(Rng.w .i64 (a.lo.val-b.hi.val)).val=a.lo.val-b.hi.val:=wi (by omega) (by omega)
 have k2:(Rng.w .i64 (a.hi.val-b.lo.val)).val=a.hi.val-b.lo.val:=wi (by omega) (by omega)
 simp only [zF,t_spec_SubI,Tr.get,ha,hb,Bool.not_true,cfl]
 rw [zbI (by rw [k1,k2];omega)]
 exact (zaN _).2 (by simp only [k1,k2];omega)
theorem Sub.sub {a a' b b':Iv} (ha:Sub a a') (hb:Sub b b'):Sub (zF a b) (zF a' b'):=fun h=>by
 obtain ⟨oa',ob',e1,e2⟩:=subI_val h
 obtain ⟨oa,a1,a2⟩:=ha oa'
 obtain ⟨ob,b1,b2⟩:=hb ob'
 have hM:=(zaN _).1 h
 have k:=subI_mk oa ob (by omega)
 obtain ⟨_,_,v1,v2⟩:=subI_val k
 exact ⟨k,by omega,by omega⟩
theorem dblI_val {a:Iv} (h:za (za6 a)=true):za a=true/\(za6 a).lo.val=2*a.lo.val/\(za6 a).hi.val=2*a.hi.val:=by
 simp only [za6,zdA,Tr.get] at h ⊢
 cases ha:za a
 ·rw [ha] at h;simp only [Bool.not_false,ctr,zcv] at h;cases h
 simp only [ha,Bool.not_true,cfl] at h ⊢
 have ba:=(zaN _).1 ha
 have k1:(Rng.w .i64 (2*a.lo.val)).val=2*a.lo.val:=wi (by omega) (by omega)
 have k2:(Rng.w .i64 (2*a.hi.val)).val=2*a.hi.val:=wi (by omega) (by omega)
 by_cases hm: -1152921504606846976<(Rng.w .i64 (2*a.lo.val)).val/\(Rng.w .i64 (2*a.lo.val)).val<=(Rng.w .i64 (2*a.hi.val)).val/\(Rng.w .i64 (2*a.hi.val)).val<1152921504606846976
 ·rw [zbI hm];exact ⟨trivial,k1,k2⟩
 ·rw [make_no hm,zcv] at h;cases h
theorem Sub.dbl {a a':Iv} (ha:Sub a a'):Sub (za6 a) (za6 a'):=fun h=>by
 obtain ⟨oa',e1,e2⟩:=dblI_val h
 obtain ⟨oa,a1,a2⟩:=ha oa'
 have hM:=(zaN _).1 h
 have ba:=(zaN _).1 oa
 have k1:(Rng.w .i64 (2*a.lo.val)).val=2*a.lo.val:=wi (by omega) (by omega)
 have k2:(Rng.w .i64 (2*a.hi.val)).val=2*a.hi.val:=wi (by omega) (by omega)
 have k:za (za6 a)=true:=by
  simp only [za6,zdA,Tr.get,oa,Bool.not_true,cfl]
  rw [zbI (by rw [k1,k2];omega)]
  exact (zaN _).2 (by simp only [k1,k2];omega)
 obtain ⟨_,v1,v2⟩:=dblI_val k
 exact ⟨k,by omega,by omega⟩
theorem ends_lim {x x':Iv} (h:za x=true) (h':za x'=true) (h1:x'.lo.val<=x.lo.val) (h2:x.hi.val<=x'.hi.val):
  0<=(zN x').a.val/\(zN x').a.val<=(zN x).a.val/\(zN x).a.val<=(zN x).b.val/\(zN x).b.val<=(zN x').b.val:=by
 have hb:=(zaN x).1 h
 have hb':=(zaN x').1 h'
 have e1:(Rng.w .i64 (0-x.lo.val)).val=0-x.lo.val:=wi (by omega) (by omega)
 have e2:(Rng.w .i64 (0-x.hi.val)).val=0-x.hi.val:=wi (by omega) (by omega)
 have e1':(Rng.w .i64 (0-x'.lo.val)).val=0-x'.lo.val:=wi (by omega) (by omega)
 have e2':(Rng.w .i64 (0-x'.hi.val)).val=0-x'.hi.val:=wi (by omega) (by omega)
 have m1:=max_l x.lo (.w .i64 (0-x.lo.val))
 have m2:=max_l x.hi (.w .i64 (0-x.hi.val))
 have m3:=max_l (zu x.lo (.w .i64 (0-x.lo.val))) (zu x.hi (.w .i64 (0-x.hi.val)))
 have m4:=min_l (zu x.lo (.w .i64 (0-x.lo.val))) (zu x.hi (.w .i64 (0-x.hi.val)))
 have m1':=max_l x'.lo (.w .i64 (0-x'.lo.val))
 have m2':=max_l x'.hi (.w .i64 (0-x'.hi.val))
 have m3':=max_l (zu x'.lo (.w .i64 (0-x'.lo.val))) (zu x'.hi (.w .i64 (0-x'.hi.val)))
 have m4':=min_l (zu x'.lo (.w .i64 (0-x'.lo.val))) (zu x'.hi (.w .i64 (0-x'.hi.val)))
 rw [e1] at m1
 rw [e2] at m2
 rw [e1'] at m1'
 rw [e2'] at m2'
 simp only [zN,zff,Tr.get,za5,zcZ,zft]
 by_cases h0:x.lo.val<=0/\0<=x.hi.val
 ·have h0':x'.lo.val<=0/\0<=x'.hi.val:=by omega
  simp only [h0,h0',and_self,decide_true,cond_true]
  exact ⟨by simp,by simp,by omega,by omega⟩
 ·by_cases h0':x'.lo.val<=0/\0<=x'.hi.val
  ·simp only [h0,h0',and_self,decide_true,decide_false,cond_true,cond_false]
   exact ⟨by simp,by omega,by omega,by omega⟩
  ·simp only [h0,h0',decide_false,cond_false]
   exact ⟨by omega,by omega,by omega,by omega⟩
end Go.Proofs.YtkenfaengphiiaaGreat.Ev
namespace Go.Proofs.YtkenfaengphiiaaGreat.Ev
open Go
theorem sqrI_val {a:Iv} (h:za (zao a)=true):za a=true/\(zao a).lo.val=(zN a).a.val*(zN a).a.val/4294967296/\(zao a).hi.val= -(-((zN a).b.val*(zN a).b.val)/4294967296):=by
 have nw:∀ {P:Prop},za ze=true->P:=fun h=>by rw [zcv] at h;cases h
 simp only [zao,t_spec_SqrI,Tr.get] at h ⊢
 cases ha:za a
 ·rw [ha] at h;exact nw h
 simp only [ha,Bool.not_true,cfl] at h ⊢
 cases h1:(zO (zN a).a (zN a).a).b
 ·rw [h1] at h;exact nw h
 cases h2:(zaf (zN a).b (zN a).b).b
 ·rw [h1,h2] at h;exact nw h
 simp only [h1,h2,Bool.not_true,cfl] at h ⊢
 have v1:=muldown_true h1
 have v2:=mulup_true h2
 generalize (zO (zN a).a (zN a).a).a=lo at *
 generalize (zaf (zN a).b (zN a).b).a=hi at *
 by_cases hm: -1152921504606846976<lo.val/\lo.val<=hi.val/\hi.val<1152921504606846976
 ·rw [zbI hm];exact ⟨trivial,v1,v2⟩
 ·rw [make_no hm] at h;exact nw h
theorem sqrI_mk {a:Iv} {H:Int} (ha:za a=true) (hH:H<1152921504606846976) (h: -(-((zN a).b.val*(zN a).b.val)/4294967296)<=H):za (zao a)=true:=by
 have hl:=ends_lim ha ha (Int.le_refl _) (Int.le_refl _)
 have hba:=(zaN _).1 ha
 obtain ⟨p,q,e,h1,h2,h3⟩:=ends_val ha
 rw [e] at h hl
 simp only at h hl
 have hpq:p.val*p.val<=q.val*q.val:=Int.mul_le_mul h2 h2 h1 (by omega)
 have hpp:=Int.mul_nonneg h1 h1
 have c1:=muldown_val (a:=p) (b:=p) (ok3 (by omega)) (ok3 (by omega)) (by omega)
 have c2:=mulup_val (a:=q) (b:=q) (ok3 (by omega)) (ok3 (by omega)) (by omega)
 have w1:(Rng.w .i64 (p.val*p.val/4294967296)).val=p.val*p.val/4294967296:=wi (by omega) (by omega)
 have w2:(Rng.w .i64 (0 - -(q.val*q.val)/4294967296)).val=0 - -(q.val*q.val)/4294967296:=wi (by omega) (by omega)
 simp only [zao,t_spec_SqrI,Tr.get,ha,e,c1,c2,Bool.not_true,cfl]
 rw [zbI (by rw [w1,w2];omega)]
 exact (zaN _).2 (by simp only [w1,w2];omega)
theorem Sub.sqr {a a':Iv} (ha:Sub a a'):Sub (zao a) (zao a'):=fun h=>by
 obtain ⟨oa',e1,e2⟩:=sqrI_val h
 obtain ⟨oa,a1,a2⟩:=ha oa'
 have hM:=(zaN _).1 h
 have hl:=ends_lim oa oa' a1 a2
 have s1:(zN a').a.val*(zN a').a.val<=(zN a).a.val*(zN a).a.val:=Int.mul_le_mul hl.2.1 hl.2.1 hl.1 (by omega)
 have s2:(zN a).b.val*(zN a).b.val<=(zN a').b.val*(zN a').b.val:=Int.mul_le_mul hl.2.2.2 hl.2.2.2 (by omega) (by omega)
 have k:=sqrI_mk (H:=(zao a').hi.val) oa (by omega) (by omega)
 obtain ⟨_,v1,v2⟩:=sqrI_val k
 exact ⟨k,by omega,by omega⟩
theorem su_val2 (a:I64) (ha:0<=a.val/\a.val<=1152921504606846976):∃q p:I64,zcq a=⟨q,true⟩/\zcc a=⟨p,true⟩/\0<=q.val/\q.val<=70368744177664/\q.val*q.val<=a.val*4294967296/\a.val*4294967296<(q.val+1)*(q.val+1)/\q.val<=p.val/\p.val<=q.val+1/\a.val*4294967296<=p.val*p.val/\(q.val<p.val->q.val*q.val<a.val*4294967296):=by
 obtain ⟨q,h1,h2,h3,h4,h5,h6⟩:=sd_val a ha
 have e1:(Rng.w .i64 (q.val+1)).val=q.val+1:=wi (by omega) (by omega)
 have hqq:=Int.mul_nonneg h3 h3
 have hmf:zav q q ⟨32,rfl⟩=⟨.w .i64 (q.val*q.val/4294967296),true⟩:=by rw [mf32];exact narrow_ok (by omega) (by omega)
 have hmv:(Rng.w .i64 (q.val*q.val/4294967296)).val=q.val*q.val/4294967296:=wi (by omega) (by omega)
 have hmask:(Rng.w .i64 (zbJ .and .i64 (Rng.w .i64 (q.val*q.val)).val 4294967295)).val=q.val*q.val%4294967296:=by rw [and_mask_i,ws_val];omega
 by_cases hx:q.val*q.val=a.val*4294967296
 ·refine ⟨q,q,h1,?_,h3,h4,h5,h6,Int.le_refl _,by omega,by omega,fun h=>by omega⟩
  have k1:(q.val*q.val/4294967296 != a.val)=false:=by simp;omega
  have k2:(q.val*q.val%4294967296 != 0)=false:=by simp;omega
  simp only [zcc,zcw,Tr.get,sd_G_spec,h1,hmf,hmv,hmask,k1,k2,Bool.not_true,cond_false,cond_true]
 ·refine ⟨q,.w .i64 (q.val+1),h1,?_,h3,h4,h5,h6,by omega,by omega,by rw [e1];omega,fun h=>by omega⟩
  simp only [zcc,zcw,Tr.get,sd_G_spec,h1,hmf,hmv,hmask,Bool.not_true,cond_false,cond_true]
  by_cases k1:q.val*q.val/4294967296=a.val
  ·have k2:(q.val*q.val%4294967296 != 0)=true:=by simp;omega
   have k3:(q.val*q.val/4294967296 != a.val)=false:=by simp [k1]
   simp only [k2,k3,cond_true,cond_false]
  ·have k3:(q.val*q.val/4294967296 != a.val)=true:=by simp [k1]
   simp only [k3,cond_true]
theorem sqrtI_mk {a:Iv} (ha:za a=true) (h0:0<=a.lo.val):za (zar a)=true/\(zar a).lo=(zcq a.lo).a/\(zar a).hi=(zcc a.hi).a:=by
 have hb:=(zaN _).1 ha
 obtain ⟨q,p,e1,e2,h1,h2,h3,h4,h5,h6,h7,h8⟩:=su_val2 a.lo (by omega)
 obtain ⟨q',p',e1',e2',h1',h2',h3',h4',h5',h6',h7',h8'⟩:=su_val2 a.hi (by omega)
 have hle:q.val<=p'.val:=by
  refine sq_lt h1 (by omega) ?_
  omega
 have hd:decide (a.lo.val<0)=false:=by simp;omega
 have e:zar a=⟨q,p'⟩:=by
  simp only [zar,t_spec_SqrtI,Tr.get,ha,hd,sd_G_spec,su_G_spec,e1,e2',Bool.not_true,cfl,ctr]
  exact zbI (by omega)
 rw [e,e1,e2']
 exact ⟨(zaN _).2 (by simp only;omega),rfl,rfl⟩
theorem sqrtI_nn {a:Iv} (h:za (zar a)=true):za a=true/\0<=a.lo.val:=by
 have nw:∀ {P:Prop},za ze=true->P:=fun h=>by rw [zcv] at h;cases h
 simp only [zar,t_spec_SqrtI,Tr.get] at h
 cases ha:za a
 ·rw [ha] at h;exact nw h
 by_cases h0:a.lo.val<0
 ·rw [ha,show decide (a.lo.val<0)=true by simpa using h0] at h;exact nw h
 ·exact ⟨rfl,by omega⟩
theorem Sub.sqrt {a a':Iv} (ha:Sub a a'):Sub (zar a) (zar a'):=fun h=>by
 obtain ⟨oa',n'⟩:=sqrtI_nn h
 obtain ⟨oa,a1,a2⟩:=ha oa'
 have hb:=(zaN _).1 oa
 have hb':=(zaN _).1 oa'
 obtain ⟨_,v1',v2'⟩:=sqrtI_mk oa' n'
 obtain ⟨k,v1,v2⟩:=sqrtI_mk oa (by omega)
 rw [v1',v2',v1,v2]
 obtain ⟨q,p,e1,e2,h1,h2,h3,h4,h5,h6,h7,h8⟩:=su_val2 a.lo (by omega)
 obtain ⟨q',p',e1',e2',h1',h2',h3',h4',h5',h6',h7',h8'⟩:=su_val2 a'.lo (by omega)
 obtain ⟨r,s,f1,f2,g1,g2,g3,g4,g5,g6,g7,g8⟩:=su_val2 a.hi (by omega)
 obtain ⟨r',s',f1',f2',g1',g2',g3',g4',g5',g6',g7',g8'⟩:=su_val2 a'.hi (by omega)
 rw [e1,e1',f2,f2']
 refine ⟨k,?_,?_⟩
 ·-- q' <= q
  simp only
  by_cases hlt:q'.val<=q.val
  ·exact hlt
  ·have:(q.val+1)*(q.val+1)<=q'.val*q'.val:=Int.mul_le_mul (by omega) (by omega) (by omega) (by omega)
   omega
 ·simp only
  by_cases hlt:s.val<=s'.val
  ·exact hlt
  ·have hs:s'.val*s'.val<=r.val*r.val:=by
    by_cases hr:s'.val<=r.val
    ·exact Int.mul_le_mul hr hr (by omega) (by omega)
    ·omega
   by_cases hrs:r.val<s.val
   ·have:=g8 hrs;omega
   ·have:s=r:=Rng.ext (by omega)
    subst this
    have h9:(s'.val+1)*(s'.val+1)<=s.val*s.val:=Int.mul_le_mul (by omega) (by omega) (by omega) (by omega)
    have h10:(s'.val+1)*(s'.val+1)=s'.val*s'.val+2*s'.val+1:=by rw [Int.add_mul,Int.mul_add,Int.one_mul,Int.mul_one];omega
    omega
theorem div_anti {n y s:Int} (hn:0<=n) (hy:0<y) (h:y<=s):n/s<=n/y:=by
 rw [Int.le_ediv_iff_mul_le hy]
 have h1:=Int.ediv_nonneg hn (show 0<=s by omega)
 have h2:=Int.mul_le_mul_of_nonneg_left h h1
 have h3:=Int.ediv_mul_le n (show s≠0 by omega)
 omega
theorem div_mono_neg {n r y:Int} (hn:n<0) (hr:0<r) (h:r<=y):n/r<=n/y:=by
 rw [Int.le_ediv_iff_mul_le (show 0<y by omega)]
 have h1:n/r<=0:=by have:=Int.ediv_neg_of_neg_of_pos hn hr;omega
 have h2:=Int.mul_le_mul_of_nonpos_left h1 h
 have h3:=Int.ediv_mul_le n (show r≠0 by omega)
 omega
theorem quo_lo {p q r s x y:Int} (hx:p<=x/\x<=q) (hy:r<=y/\y<=s) (hr:0<r):p*4294967296/r<=x*4294967296/y\/p*4294967296/s<=x*4294967296/y:=by
 have h1:p*4294967296/y<=x*4294967296/y:=Int.ediv_le_ediv (by omega) (by omega)
 by_cases hp:0<=p
 ·have:=div_anti (n:=p*4294967296) (y:=y) (s:=s) (by omega) (by omega) hy.2;right;omega
 ·have:=div_mono_neg (n:=p*4294967296) (r:=r) (y:=y) (by omega) hr hy.1;left;omega
theorem divdown_true {x y:I64} (hy:0<y.val) (h:(zP x y).b=true):(zP x y).a.val=x.val*4294967296/y.val:=by
 have z0:(y.val==0)=false:=by simp;omega
 have z1:decide (y.val<0)=false:=by simp;omega
 simp only [zP,zbo,Tr.get,md_F_spec,z0,z1,cfl] at h ⊢
 cases h1:zD x
 ·rw [h1] at h;simp [ctr] at h
 cases h2:zD y
 ·rw [h1,h2] at h;simp [ctr,cfl] at h
 rw [h1,h2] at h
 simp only [Bool.not_true,cfl,MD,hy,if_true] at h ⊢
 unfold narrow at h ⊢
 split at h
 ·rename_i hr
  rw [if_pos hr]
  rcases end_cases (.w .i64 (x.val*4294967296/y.val)) true with e|⟨e,_⟩
  ·rw [e] at h;cases h
  ·rw [e];exact wi hr.1 hr.2
 ·have:(zaG (.w .i64 0) false).b=false:=by simp only [zaG,zdy,Tr.get,Bool.not_false,ctr]
  rw [this] at h;cases h
theorem divup_true {x y:I64} (hy:0<y.val) (h:(zal x y).b=true):(zal x y).a.val= -(-x.val*4294967296/y.val):=by
 simp only [zal,zc0,Tr.get] at h ⊢
 cases h1:zD x
 ·rw [h1] at h;simp [ctr] at h
 rw [h1] at h
 simp only [Bool.not_true,cfl] at h ⊢
 have hb:=ok_bd h1
 have e:=divdown_true hy h
 have en:(Rng.w .i64 (0-x.val)).val= -x.val:=by rw [wi (by omega) (by omega)];omega
 rw [en] at e
 rcases divdown_cases (.w .i64 (0-x.val)) y with k|⟨c,k,kc⟩
 ·rw [k] at h;cases h
 ·have kb:=ok_bd kc
  rw [k] at e ⊢
  simp only at e ⊢
  rw [wi (by omega) (by omega)]
  omega
theorem divdown_val {x y:I64} (hx:zD x=true) (hy:zD y=true) (h0:0<y.val) (h: -1152921504606846976<=x.val*4294967296/y.val/\x.val*4294967296/y.val<=1152921504606846976):
  zP x y=⟨.w .i64 (x.val*4294967296/y.val),true⟩:=by
 have z0:(y.val==0)=false:=by simp;omega
 have z1:decide (y.val<0)=false:=by simp;omega
 have m:narrow (x.val*4294967296/y.val)=⟨.w .i64 (x.val*4294967296/y.val),true⟩:=narrow_ok (by omega) (by omega)
 simp only [zP,zbo,Tr.get,md_F_spec,hx,hy,z0,z1,Bool.not_true,cfl,MD,h0,if_true,m]
 rw [end_ok (by rw [wi (by omega) (by omega)];exact h)]
theorem divup_val {x y:I64} (hx:zD x=true) (hy:zD y=true) (h0:0<y.val) (h: -1152921504606846976 <= -x.val*4294967296/y.val /\ -x.val*4294967296/y.val<=1152921504606846976):
  zal x y=⟨.w .i64 (0 - -x.val*4294967296/y.val),true⟩:=by
 have hb:=ok_bd hx
 have en:(Rng.w .i64 (0-x.val)).val= -x.val:=by rw [wi (by omega) (by omega)];omega
 have e:=divdown_val (x:= .w .i64 (0-x.val)) (ok3 (by rw [en];omega)) hy h0 (by rw [en];exact h)
 rw [en] at e
 simp only [zal,zc0,Tr.get,hx,e,Bool.not_true,cfl]
 rw [wi (n:= -x.val*4294967296/y.val) (by omega) (by omega)]
theorem divI_corner {a b:Iv} (h0:0<b.lo.val) (h:za (zn a b)=true):za a=true/\za b=true /\
  ∀x y:I64,(x=a.lo\/x=a.hi)->(y=b.lo\/y=b.hi)->(zn a b).lo.val<=x.val*4294967296/y.val /\ -(-x.val*4294967296/y.val)<=(zn a b).hi.val:=by
 have nw:∀ {P:Prop},za ze=true->P:=fun h=>by rw [zcv] at h;cases h
 simp only [zn,t_spec_DivI,Tr.get] at h ⊢
 cases ha:za a
 ·rw [ha] at h;exact nw h
 cases hb:za b
 ·rw [ha,hb] at h;exact nw h
 have bb:=(zaN _).1 hb
 have h0':0<b.hi.val:=by omega
 cases hz:za5 b ⟨0,rfl⟩
 case true=>rw [ha,hb,hz] at h;exact nw h
 simp only [ha,hb,hz,Bool.not_true,cfl] at h ⊢
 cases h1:(zP a.lo b.lo).b
 ·rw [h1] at h;exact nw h
 cases h2:(zal a.lo b.lo).b
 ·rw [h1,h2] at h;exact nw h
 cases h3:(zP a.lo b.hi).b
 ·rw [h1,h2,h3] at h;exact nw h
 cases h4:(zal a.lo b.hi).b
 ·rw [h1,h2,h3,h4] at h;exact nw h
 cases h5:(zP a.hi b.lo).b
 ·rw [h1,h2,h3,h4,h5] at h;exact nw h
 cases h6:(zal a.hi b.lo).b
 ·rw [h1,h2,h3,h4,h5,h6] at h;exact nw h
 cases h7:(zP a.hi b.hi).b
 ·rw [h1,h2,h3,h4,h5,h6,h7] at h;exact nw h
 cases h8:(zal a.hi b.hi).b
 ·rw [h1,h2,h3,h4,h5,h6,h7,h8] at h;exact nw h
 simp only [h1,h2,h3,h4,h5,h6,h7,h8,Bool.not_true,cfl] at h ⊢
 refine ⟨trivial,trivial,?_⟩
 have v1:=divdown_true h0 h1
 have v2:=divup_true h0 h2
 have v3:=divdown_true h0' h3
 have v4:=divup_true h0' h4
 have v5:=divdown_true h0 h5
 have v6:=divup_true h0 h6
 have v7:=divdown_true h0' h7
 have v8:=divup_true h0' h8
 generalize (zP a.lo b.lo).a=d1 at *
 generalize (zP a.lo b.hi).a=d2 at *
 generalize (zP a.hi b.lo).a=d3 at *
 generalize (zP a.hi b.hi).a=d4 at *
 generalize (zal a.lo b.lo).a=u1 at *
 generalize (zal a.lo b.hi).a=u2 at *
 generalize (zal a.hi b.lo).a=u3 at *
 generalize (zal a.hi b.hi).a=u4 at *
 have m1:=min_l ⟨1152921504606846976,rfl⟩ d1
 have m2:=min_l (zC ⟨1152921504606846976,rfl⟩ d1) d2
 have m3:=min_l (zC (zC ⟨1152921504606846976,rfl⟩ d1) d2) d3
 have m4:=min_l (zC (zC (zC ⟨1152921504606846976,rfl⟩ d1) d2) d3) d4
 have n1:=max_l ⟨-1152921504606846976,rfl⟩ u1
 have n2:=max_l (zu ⟨-1152921504606846976,rfl⟩ u1) u2
 have n3:=max_l (zu (zu ⟨-1152921504606846976,rfl⟩ u1) u2) u3
 have n4:=max_l (zu (zu (zu ⟨-1152921504606846976,rfl⟩ u1) u2) u3) u4
 generalize zC (zC (zC (zC ⟨1152921504606846976,rfl⟩ d1) d2) d3) d4=lo at *
 generalize zu (zu (zu (zu ⟨-1152921504606846976,rfl⟩ u1) u2) u3) u4=hi at *
 by_cases hm: -1152921504606846976<lo.val/\lo.val<=hi.val/\hi.val<1152921504606846976
 ·rw [zbI hm]
  simp only
  rintro x y (rfl|rfl) (rfl|rfl)
  ·omega
  ·omega
  ·omega
  ·omega
 ·rw [make_no hm] at h;exact nw h
theorem Sub.div {a a' b b':Iv} (ha:Sub a a') (hb:Sub b b') (h0:0<b'.lo.val):Sub (zn a b) (zn a' b'):=fun h=>by
 obtain ⟨oa',ob',hc⟩:=divI_corner h0 h
 obtain ⟨oa,a1,a2⟩:=ha oa'
 obtain ⟨ob,b1,b2⟩:=hb ob'
 have hM:=(zaN _).1 h
 have ba:=(zaN _).1 oa
 have bb:=(zaN _).1 ob
 have c1:=hc a'.lo b'.lo (.inl rfl) (.inl rfl)
 have c2:=hc a'.lo b'.hi (.inl rfl) (.inr rfl)
 have c3:=hc a'.hi b'.lo (.inr rfl) (.inl rfl)
 have c4:=hc a'.hi b'.hi (.inr rfl) (.inr rfl)
 generalize zn a' b'=M at *
 have hz:za5 b ⟨0,rfl⟩=false:=by
  simp only [za5,zcZ,Tr.get,zft];simp;omega
 obtain ⟨lo,hi,e,k1,k2,k3⟩:=divI_in (L:=M.lo.val) (H:=M.hi.val) oa ob hz (by omega) (by omega) (fun x y hx hy=>by
  have hx':a'.lo.val<=x.val/\x.val<=a'.hi.val:=by rcases hx with rfl|rfl<;>omega
  have hy':b'.lo.val<=y.val/\y.val<=b'.hi.val:=by rcases hy with rfl|rfl<;>omega
  have ox:zD x=true:=ok3 (by rcases hx with rfl|rfl<;>omega)
  have oy:zD y=true:=ok3 (by rcases hy with rfl|rfl<;>omega)
  have fl:M.lo.val<=x.val*4294967296/y.val:=by
   rcases quo_lo hx' hy' h0 with h|h<;>omega
  have fh: -(-x.val*4294967296/y.val)<=M.hi.val:=by
   rcases quo_lo (p:= -a'.hi.val) (q:= -a'.lo.val) (x:= -x.val) (by omega) hy' h0 with h|h<;>omega
  have fm:x.val*4294967296/y.val <= -(-x.val*4294967296/y.val):=by
   have e1:=Int.ediv_mul_le (x.val*4294967296) (show y.val≠0 by omega)
   have e2:=Int.ediv_mul_le (-x.val*4294967296) (show y.val≠0 by omega)
   have e3:(x.val*4294967296/y.val + -x.val*4294967296/y.val)*y.val<=0:=by rw [Int.add_mul];omega
   by_cases hh:x.val*4294967296/y.val + -x.val*4294967296/y.val<=0
   ·omega
   ·have:=Int.mul_pos (show 0<x.val*4294967296/y.val + -x.val*4294967296/y.val by omega) (show 0<y.val by omega)
    omega
  have e1:=divdown_val (x:=x) (y:=y) ox oy (by omega) (by omega)
  have e2:=divup_val (x:=x) (y:=y) ox oy (by omega) (by omega)
  refine ⟨_,_,e1,e2,?_,?_,?_⟩
  ·rw [wi (by omega) (by omega)];omega
  ·rw [wi (by omega) (by omega),wi (by omega) (by omega)];omega
  ·rw [wi (by omega) (by omega)];omega)
 rw [e]
 exact ⟨(zaN _).2 (by simp only;omega),k1,k3⟩
end Go.Proofs.YtkenfaengphiiaaGreat.Ev
