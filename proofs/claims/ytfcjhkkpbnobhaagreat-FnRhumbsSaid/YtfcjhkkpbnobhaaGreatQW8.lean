/- The law FnRhumbs gives true, whatever bytes come in. No conditions. (One of the texts of its proof, put together by a program of this session.) -/
import Derived.Test.YtfcjhkkpbnobhaaGreatQW5
import Derived.Test.YtfcjhkkpbnobhaaGreatQPT
import Derived.Test.YtfcjhkkpbnobhaaGreatQEC
set_option linter.unusedSectionVars false
set_option linter.unusedSimpArgs false
set_option linter.unusedVariables false
namespace Go.Proofs.YtfcjhkkpbnobhaaGreat.Ev
open Go Go.RowKit
set_option maxRecDepth 100000
section
variable [Amb]
noncomputable def B221:Bod Tryz.prog:=⟨221,Tryz.f221,Tryz.f221.body.getD .skip,Tryz.func221,by kernel_rfl,by kernel_rfl,zae.no _ _⟩
noncomputable def Tb221:Tb Tryz.prog:= {T:= [Y2,Y30],mix:=mix,Es:= [E_impl_DivI,zaD,E_impl_HalfI,E_impl_LogI,E_impl_at],Bs:= [],d:=1}
noncomputable def zdD (a0:I64):Tr (Iv):=
 .br (decide (a0.val>=4294967296)) (.leaf zH) (.leaf (F_impl_HalfI (F_impl_LogI (za5 (zbH (Rng.w .i64 (4294967296+a0.val))) (zbH (Rng.w .i64 (4294967296-a0.val)))))))
theorem r_impl_AtanhI_1 (a0:I64):Tb221.run B221 [enc a0] (Iv)=(zdD a0).opt:=by kernel_rfl
noncomputable def zbw:I64->Iv:=fun a0=>(zdD a0).get
theorem u_impl_AtanhI_1 (a0:I64):(zdD a0).opt=some (zbw a0):=Tr.zL (by kernel_rfl)
noncomputable def E_impl_AtanhI_1:Ent Tryz.prog:= .of1 Tb221 B221 (fun _=>true) zbw fun a0 _=>(r_impl_AtanhI_1 a0).trans (u_impl_AtanhI_1 a0)
noncomputable def Y33:TyE Tryz.prog:=⟨33,1,.func,[.nilf],false,by kernel_rfl,by kernel_rfl,by kernel_rfl,by kernel_rfl,by kernel_rfl,by kernel_rfl⟩
noncomputable def B286:Bod Tryz.prog:=⟨286,Tryz.f286,Tryz.f286.body.getD .skip,Tryz.func286,by kernel_rfl,by kernel_rfl,zae.no _ _⟩
noncomputable def Tb286_AtanhI:Tb Tryz.prog:= {T:= [Y2,Y30,Y33],mix:=mix,Es:= [E_impl_NegI,E_impl_AtanhI_1],Bs:= [],d:=1}
noncomputable def zb4 (a0:I64) (d0:FnTag 221):Tr (Iv):=
 .br (decide (a0.val<0)) (.leaf (zdb (zbw (Rng.w .i64 (0-a0.val))))) (.leaf (zbw a0))
theorem r_impl_odd_1_AtanhI (a0:I64) (d0:FnTag 221):capRun Tb286_AtanhI B286 [enc a0,.ptr 0 0] [(0,Cap.ec d0)] 1 (Iv)=(zb4 a0 d0).opt:=by kernel_rfl
noncomputable def zaG:I64->FnTag 221->Iv:=fun a0 d0=>(zb4 a0 d0).get
theorem u_impl_odd_1_AtanhI (a0:I64) (d0:FnTag 221):(zb4 a0 d0).opt=some (zaG a0 d0):=Tr.zL (by kernel_rfl)
noncomputable def E_impl_odd_1_AtanhI:Ent Tryz.prog:= .cap1 Tb286_AtanhI B286 (fun _ _=>true) zaG fun a0 d0 _=>(r_impl_odd_1_AtanhI a0 d0).trans (u_impl_odd_1_AtanhI a0 d0)
noncomputable def B220:Bod Tryz.prog:=⟨220,Tryz.f220,Tryz.f220.body.getD .skip,Tryz.func220,by kernel_rfl,by kernel_rfl,zae.no _ _⟩
noncomputable def B138:Bod Tryz.prog:=⟨138,Tryz.f138,Tryz.f138.body.getD .skip,Tryz.func138,by kernel_rfl,by kernel_rfl,zae.no _ _⟩
noncomputable def Tb138:Tb Tryz.prog:= {T:= [Y2,Y30],mix:=mix,Es:= [zbY,zcd,zaD,zcf,E_impl_odd_1_AtanhI],Bs:= [B148,B220],d:=8}
noncomputable def t_impl_AtanhI (a0:Iv):Tr (Iv):=
 .br (zal a0) (.leaf zH) (let c3:=zaG a0.lo ⟨⟩;let c4:=zaG a0.hi ⟨⟩;.br (!(za2 c3 c4)) (.leaf zH) (.leaf (zaN c3.lo c4.hi true)))
theorem r0_impl_AtanhI (a0:Iv):twoRun Tb138 B138 [enc a0] [0,1,2,3] (Iv)=(t_impl_AtanhI a0).opt:=by kernel_rfl
theorem r1_impl_AtanhI (a0:Iv):twoRun Tb138 B138 [enc a0] [1,0,2,3] (Iv)=(t_impl_AtanhI a0).opt:=by kernel_rfl
noncomputable def F_impl_AtanhI:Iv->Iv:=fun a0=>(t_impl_AtanhI a0).get
noncomputable def B288:Bod Tryz.prog:=⟨288,Tryz.f288,Tryz.f288.body.getD .skip,Tryz.func288,by kernel_rfl,by kernel_rfl,zae.no _ _⟩
noncomputable def Tb288_p:Tb Tryz.prog:= {T:= [Y2,Y30],mix:=mix,Es:= [zas,ze2,E_spec_HalfI,E_spec_l08At,E_spec_LogI],Bs:= [],d:=1}
noncomputable def zdu (a0:I64):Tr (Iv):=
 .br (decide (a0.val<0)) (.bad) (.br (decide (a0.val>=4294967296)) (.leaf zo) (.leaf (zd2 (zeU (zz (zdo (Rng.w .i64 (4294967296+a0.val))) (zdo (Rng.w .i64 (4294967296-a0.val))))))))
theorem r_spec_l08Atanh_p (a0:I64):Tb288_p.run B288 [enc a0] (Iv)=(zdu a0).opt:=by kernel_rfl
noncomputable def F_spec_l08Atanh_p:I64->Iv:=fun a0=>(zdu a0).get
noncomputable def G_spec_l08Atanh_p:I64->Bool:=fun a0=>(zdu a0).opt.isSome
noncomputable def E_spec_l08Atanh_p:Ent Tryz.prog:= .of1 Tb288_p B288 G_spec_l08Atanh_p F_spec_l08Atanh_p fun a0 h=>(r_spec_l08Atanh_p a0).trans (Tr.get_some h)
noncomputable def Tb288:Tb Tryz.prog:= {T:= [Y2,Y30],mix:=mix,Es:= [E_spec_NegI,zas,ze2,E_spec_HalfI,E_spec_l08At,E_spec_l08Atanh_p,E_spec_LogI],Bs:= [],d:=1}
noncomputable def zeq (a0:I64):Tr (Iv):=
 .br (decide (a0.val<0)) (let c1:=(Rng.w .i64 (0-a0.val));.br (G_spec_l08Atanh_p c1) (.leaf (zaM (F_spec_l08Atanh_p c1))) (.bad)) (.br (decide (a0.val>=4294967296)) (.leaf zo) (.leaf (zd2 (zeU (zz (zdo (Rng.w .i64 (4294967296+a0.val))) (zdo (Rng.w .i64 (4294967296-a0.val))))))))
theorem r_spec_l08Atanh (a0:I64):Tb288.run B288 [enc a0] (Iv)=(zeq a0).opt:=by kernel_rfl
noncomputable def zdF:I64->Iv:=fun a0=>(zeq a0).get
noncomputable def zbG:I64->Bool:=fun a0=>(zeq a0).opt.isSome
noncomputable def E_spec_l08Atanh:Ent Tryz.prog:= .of1 Tb288 B288 zbG zdF fun a0 h=>(r_spec_l08Atanh a0).trans (Tr.get_some h)
noncomputable def B226:Bod Tryz.prog:=⟨226,Tryz.f226,Tryz.f226.body.getD .skip,Tryz.func226,by kernel_rfl,by kernel_rfl,zae.no _ _⟩
noncomputable def Tb226:Tb Tryz.prog:= {T:= [Y2,Y30],mix:=mix,Es:= [zas,za6,E_spec_l08Ends,E_spec_l08Atanh],Bs:= [],d:=1}
noncomputable def t_spec_AtanhI (a0:Iv):Tr (Iv):=
 .br (!(za a0)) (.leaf zo) (.br (zbG a0.lo) (.br (zbG a0.hi) (.leaf (zce (zdF a0.lo) (zdF a0.hi))) (.bad)) (.bad))
theorem r_spec_AtanhI (a0:Iv):Tb226.run B226 [enc a0] (Iv)=(t_spec_AtanhI a0).opt:=by kernel_rfl
noncomputable def zdj:Iv->Iv:=fun a0=>(t_spec_AtanhI a0).get
structure S_impl_scaled_1 where
 x0:I64
 x1:I64
 x2:I64
 x3:I64
 x4:I64
instance:Inhabited S_impl_scaled_1:=⟨⟨default,default,default,default,default⟩⟩
structure S_spec_TanI_4 where
 x0:I64
 x1:I64
 x2:I64
 x3:I64
 x4:I64
instance:Inhabited S_spec_TanI_4:=⟨⟨default,default,default,default,default⟩⟩
end
end Go.Proofs.YtfcjhkkpbnobhaaGreat.Ev
namespace Go.Proofs.YtfcjhkkpbnobhaaGreat.Ev
open Go
theorem ends8 (a b:Iv):(bif !(za a&&za b) then zo else zai a.lo b.hi)=zce a b:=by
 simp only [zce,t_spec_l08Ends,Tr.get]
 cases za a<;>cases za b<;>simp [ctr,cfl]
theorem logI_eq (x:Iv):F_impl_LogI x=zeU x:=by
 simp only [F_impl_LogI,t_impl_LogI,zeU,t_spec_LogI,Tr.get,isw_eq,areb_eq,zbt,zex,logAt_eq,ctr,ends8]
theorem l08At_eq {n:I64} (h: -1152921504606846976<n.val/\n.val<1152921504606846976):zdo n=zq n:=by
 simp only [zdo,t_spec_l08At,zq,zfG,Tr.get]
 exact zcx (by omega)
theorem atanhp (n:I64) (h:0<=n.val):(zdu n).opt=some (zbw n):=by
 have hn:decide (n.val<0)=false:=by simp;omega
 simp only [zdu,Tr.opt,zbw,zdD,Tr.get,hn,cond_false,halfI_eq,logI_eq,divI_F,zbt]
 by_cases hU:n.val>=4294967296
 ·simp only [hU,decide_true,cond_true]
 ·have e1:(Rng.w .i64 (4294967296+n.val)).val=4294967296+n.val:=wi (by omega) (by omega)
  have e2:(Rng.w .i64 (4294967296-n.val)).val=4294967296-n.val:=wi (by omega) (by omega)
  simp only [hU,decide_false,cond_false]
  rw [l08At_eq (n:= .w .i64 (4294967296+n.val)) (by omega),l08At_eq (n:= .w .i64 (4294967296-n.val)) (by omega),at_eq,at_eq]
theorem atanh_n (n:I64) (h: -1152921504606846976<n.val/\n.val<1152921504606846976):(zeq n).opt=some (zaG n ⟨⟩):=by
 by_cases hn:n.val<0
 ·have e1:(Rng.w .i64 (0-n.val)).val=0-n.val:=wi (by omega) (by omega)
  have a1:=atanhp (.w .i64 (0-n.val)) (by omega)
  have g1:G_spec_l08Atanh_p (.w .i64 (0-n.val))=true:=by unfold G_spec_l08Atanh_p;rw [a1];rfl
  have f1:F_spec_l08Atanh_p (.w .i64 (0-n.val))=_:=Tr.zan a1
  have hd:decide (n.val<0)=true:=by simpa using hn
  simp only [zeq,Tr.opt,zaG,zb4,Tr.get,hd,cond_true,g1,f1,neg_eq]
 ·have a1:=atanhp n (by omega)
  have hd:decide (n.val<0)=false:=by simpa using hn
  simp only [zdu,Tr.opt,hd,cond_false] at a1
  simp only [zeq,Tr.opt,zaG,zb4,Tr.get,hd,cond_false]
  exact a1
theorem atanh_ok (x:Iv):∃y,(t_spec_AtanhI x).opt=some y/\(t_impl_AtanhI x).opt=some y:=by
 simp only [t_spec_AtanhI,t_impl_AtanhI,Tr.opt,isw_eq,areb_eq,zbt,zex]
 cases h:za x
 ·exact ⟨_,rfl,rfl⟩
 have hb:=(zbR x).1 h
 have a1:=atanh_n x.lo (by omega)
 have a2:=atanh_n x.hi (by omega)
 have g1:zbG x.lo=true:=by unfold zbG;rw [a1];rfl
 have g2:zbG x.hi=true:=by unfold zbG;rw [a2];rfl
 have f1:zdF x.lo=_:=Tr.zan a1
 have f2:zdF x.hi=_:=Tr.zan a2
 simp only [Bool.not_true,cond_false,cond_true,g1,g2,f1,f2,zce,t_spec_l08Ends,Tr.get]
 cases za (zaG x.lo ⟨⟩)<;>cases za (zaG x.hi ⟨⟩)<;>exact ⟨_,rfl,rfl⟩
theorem atanhI_eq (x:Iv):F_impl_AtanhI x=zdj x:=by
 obtain ⟨y,h1,h2⟩:=atanh_ok x
 exact (Tr.zan h2).trans (Tr.zan h1).symm
theorem tt_atanh_spec (x:Iv):(t_spec_AtanhI x).opt=some (zdj x):=by obtain ⟨y,h1,_⟩:=atanh_ok x;exact zdi h1
theorem tt_atanh_impl (x:Iv):(t_impl_AtanhI x).opt=some (F_impl_AtanhI x):=by obtain ⟨y,_,h1⟩:=atanh_ok x;exact zdi h1
end Go.Proofs.YtfcjhkkpbnobhaaGreat.Ev
namespace Go.Proofs.YtfcjhkkpbnobhaaGreat.Ev
open Go
end Go.Proofs.YtfcjhkkpbnobhaaGreat.Ev
namespace Go.Proofs.YtfcjhkkpbnobhaaGreat.Ev
open Go
noncomputable def dbl (x:Iv):Nat->Iv
 | 0=>x
 | n+1=>dbl (zef x) n
theorem fdiv_one (n:Int):n.fdiv 1=n:=by rw [Int.fdiv_eq_ediv_of_nonneg _ (by decide)];omega
end Go.Proofs.YtfcjhkkpbnobhaaGreat.Ev
namespace Go.Proofs.YtfcjhkkpbnobhaaGreat.Ev
open Go Go.RowKit
set_option maxRecDepth 100000
variable [Amb]
noncomputable def BN:Bod Tryz.prog:=⟨301,Tryz.f301,Tryz.f301.body.getD .skip,Tryz.func301,by kernel_rfl,by kernel_rfl,zae.no _ _⟩
noncomputable def N1:Code:=sL (sR BN.code)
section
variable {x:Iv} {wc:World} {L:List I64} {v:Value} {n i:I64} {ex:List (Nat×V)} {bl:List Nat} {tl:List (Nat×List V)} {LV:V} {ρ:Nat->Option Nat} {a:Act} {w:World}
end
end Go.Proofs.YtfcjhkkpbnobhaaGreat.Ev
namespace Go.Proofs.YtfcjhkkpbnobhaaGreat.Ev
open Go
end Go.Proofs.YtfcjhkkpbnobhaaGreat.Ev
namespace Go.Proofs.YtfcjhkkpbnobhaaGreat.Ev
open Go Go.RowKit
set_option maxRecDepth 100000
section
variable [Amb]
noncomputable def ET_spec_AtanhI:Ent Tryz.prog:= .of1 Tb226 B226 (fun _=>true) zdj fun a0 _=>(r_spec_AtanhI a0).trans (tt_atanh_spec a0)
noncomputable def ET_impl_AtanhI:Ent Tryz.prog:= .two1 Tb138 B138 (fun _=>true) F_impl_AtanhI 0 [1,2,3] 1 [0,2,3] (by unfold twoShape;kernel_rfl) (by kernel_rfl) (by kernel_rfl) (by kernel_rfl) (fun a0=>by kernel_rfl) (fun a0 _=>(r0_impl_AtanhI a0).trans (tt_atanh_impl a0)) (fun a0 _=>(r1_impl_AtanhI a0).trans (tt_atanh_impl a0))
end
end Go.Proofs.YtfcjhkkpbnobhaaGreat.Ev
namespace Go.Proofs.YtfcjhkkpbnobhaaGreat.Ev
open Go
end Go.Proofs.YtfcjhkkpbnobhaaGreat.Ev
namespace Go.Proofs.YtfcjhkkpbnobhaaGreat.Ev
open Go Go.RowKit
set_option maxRecDepth 100000
section
variable [Amb]
end
end Go.Proofs.YtfcjhkkpbnobhaaGreat.Ev
namespace Go.Proofs.YtfcjhkkpbnobhaaGreat.Ev
open Go Go.RowKit
set_option maxRecDepth 100000
section
variable [Amb]
noncomputable def B43:Bod Tryz.prog:=⟨43,Tryz.f43,Tryz.f43.body.getD .skip,Tryz.func43,by kernel_rfl,by kernel_rfl,zae.no _ _⟩
noncomputable def Tb43:Tb Tryz.prog:= {T:= [Y2,Y24,Y30],mix:=mix,Es:= [zeg,E_impl_DirectionI,E_impl_areValid,E_impl_SinI,ET_impl_MulI,E_impl_CosI,E_impl_SubI,E_impl_LatOf,E_impl_differenceOf,E_impl_AbsI,ET_impl_AtanhI,E_impl_DivI,zcd],Bs:= [],d:=1}
noncomputable def t_impl_RhumbTo (a0:zaL) (a1:zaL):Tr (T3 Iv Iv I64):=
 .br (!(zc0 a0 a1)) (.leaf ⟨⟨⟨0,rfl⟩,⟨0,rfl⟩⟩,⟨⟨0,rfl⟩,⟨0,rfl⟩⟩,⟨1,rfl⟩⟩) (let c2:=F_impl_LatOf a0;let c3:=F_impl_LatOf a1;let c4:=zdG a0 a1;.br (a0.lat.val==a1.lat.val) (let c7:=zcE c4 (zac ⟨0,rfl⟩);let c10:=zaf (zcq c4) (zeY c2);.br (!(za2 c7 c10)) (.leaf ⟨⟨⟨0,rfl⟩,⟨0,rfl⟩⟩,⟨⟨0,rfl⟩,⟨0,rfl⟩⟩,⟨9,rfl⟩⟩) (.leaf ⟨c7,c10,⟨0,rfl⟩⟩)) (let c17:=zcE c4 (zav (F_impl_AtanhI (F_impl_SinI c3)) (F_impl_AtanhI (F_impl_SinI c2)));let c21:=zcq (za5 (zav c3 c2) (zeY c17));.br (!(za2 c17 c21)) (.leaf ⟨⟨⟨0,rfl⟩,⟨0,rfl⟩⟩,⟨⟨0,rfl⟩,⟨0,rfl⟩⟩,⟨9,rfl⟩⟩) (.leaf ⟨c17,c21,⟨0,rfl⟩⟩)))
theorem r_impl_RhumbTo (a0:zaL) (a1:zaL):Tb43.run B43 [enc a0,enc a1] (T3 Iv Iv I64)=(t_impl_RhumbTo a0 a1).opt:=by kernel_rfl
noncomputable def F_impl_RhumbTo:zaL->zaL->T3 Iv Iv I64:=fun a0 a1=>(t_impl_RhumbTo a0 a1).get
theorem u_impl_RhumbTo (a0:zaL) (a1:zaL):(t_impl_RhumbTo a0 a1).opt=some (F_impl_RhumbTo a0 a1):=Tr.zL (by kernel_rfl)
noncomputable def E_impl_RhumbTo:Ent Tryz.prog:= .of2 Tb43 B43 (fun _ _=>true) F_impl_RhumbTo fun a0 a1 _=>(r_impl_RhumbTo a0 a1).trans (u_impl_RhumbTo a0 a1)
noncomputable def B141:Bod Tryz.prog:=⟨141,Tryz.f141,Tryz.f141.body.getD .skip,Tryz.func141,by kernel_rfl,by kernel_rfl,zae.no _ _⟩
noncomputable def Tb141:Tb Tryz.prog:= {T:= [Y2,Y30],mix:=mix,Es:= [E_spec_SinI,ET_spec_AtanhI],Bs:= [],d:=1}
noncomputable def zdz (a0:Iv):Tr (Iv):=
 .leaf (zdj (zb5 a0))
theorem r_spec_l15Stretched (a0:Iv):Tb141.run B141 [enc a0] (Iv)=(zdz a0).opt:=by kernel_rfl
noncomputable def zcD:Iv->Iv:=fun a0=>(zdz a0).get
theorem u_spec_l15Stretched (a0:Iv):(zdz a0).opt=some (zcD a0):=Tr.zL (by kernel_rfl)
noncomputable def E_spec_l15Stretched:Ent Tryz.prog:= .of1 Tb141 B141 (fun _=>true) zcD fun a0 _=>(r_spec_l15Stretched a0).trans (u_spec_l15Stretched a0)
noncomputable def B44:Bod Tryz.prog:=⟨44,Tryz.f44,Tryz.f44.body.getD .skip,Tryz.func44,by kernel_rfl,by kernel_rfl,zae.no _ _⟩
noncomputable def Tb44:Tb Tryz.prog:= {T:= [Y2,Y24,Y30],mix:=mix,Es:= [ze1,E_spec_CosI,ET_spec_RadiansOf,E_spec_AbsI,ze0,E_spec_l11Wrap,E_spec_l11Ok,E_spec_IsWhole,E_spec_DirectionI,E_spec_l15Stretched,ze2],Bs:= [],d:=1}
noncomputable def zff (a0:zaL) (a1:zaL):Tr (T3 Iv Iv I64):=
 .br (!(zab a0)) (.leaf ⟨⟨⟨0,rfl⟩,⟨0,rfl⟩⟩,⟨⟨0,rfl⟩,⟨0,rfl⟩⟩,⟨1,rfl⟩⟩) (.br (!(zab a1)) (.leaf ⟨⟨⟨0,rfl⟩,⟨0,rfl⟩⟩,⟨⟨0,rfl⟩,⟨0,rfl⟩⟩,⟨1,rfl⟩⟩) (let c3:=zaa a0.lat;let c4:=zaa a1.lat;let c7:=zaa (zcN (Rng.w .i64 (a1.lon.val-a0.lon.val)));let c11:=zaE c7 (zQ (zcD c4) (zcD c3));.br (a0.lat.val==a1.lat.val) (let c13:=zaE c7 ⟨⟨0,rfl⟩,⟨0,rfl⟩⟩;.br (za3 c13) (.leaf ⟨⟨⟨0,rfl⟩,⟨0,rfl⟩⟩,⟨⟨0,rfl⟩,⟨0,rfl⟩⟩,⟨9,rfl⟩⟩) (let c17:=zC (zbm c7) (zbD c3);.br (a0.lat.val != a1.lat.val) (let c22:=zbm (zz (zQ c4 c3) (zbD c13));.br (za3 c22) (.leaf ⟨⟨⟨0,rfl⟩,⟨0,rfl⟩⟩,⟨⟨0,rfl⟩,⟨0,rfl⟩⟩,⟨9,rfl⟩⟩) (.leaf ⟨c13,c22,⟨0,rfl⟩⟩)) (.br (za3 c17) (.leaf ⟨⟨⟨0,rfl⟩,⟨0,rfl⟩⟩,⟨⟨0,rfl⟩,⟨0,rfl⟩⟩,⟨9,rfl⟩⟩) (.leaf ⟨c13,c17,⟨0,rfl⟩⟩)))) (.br (za3 c11) (.leaf ⟨⟨⟨0,rfl⟩,⟨0,rfl⟩⟩,⟨⟨0,rfl⟩,⟨0,rfl⟩⟩,⟨9,rfl⟩⟩) (let c28:=zC (zbm c7) (zbD c3);.br (a0.lat.val != a1.lat.val) (let c33:=zbm (zz (zQ c4 c3) (zbD c11));.br (za3 c33) (.leaf ⟨⟨⟨0,rfl⟩,⟨0,rfl⟩⟩,⟨⟨0,rfl⟩,⟨0,rfl⟩⟩,⟨9,rfl⟩⟩) (.leaf ⟨c11,c33,⟨0,rfl⟩⟩)) (.br (za3 c28) (.leaf ⟨⟨⟨0,rfl⟩,⟨0,rfl⟩⟩,⟨⟨0,rfl⟩,⟨0,rfl⟩⟩,⟨9,rfl⟩⟩) (.leaf ⟨c11,c28,⟨0,rfl⟩⟩))))))
theorem r_spec_RhumbTo (a0:zaL) (a1:zaL):Tb44.run B44 [enc a0,enc a1] (T3 Iv Iv I64)=(zff a0 a1).opt:=by kernel_rfl
noncomputable def zau:zaL->zaL->T3 Iv Iv I64:=fun a0 a1=>(zff a0 a1).get
theorem u_spec_RhumbTo (a0:zaL) (a1:zaL):(zff a0 a1).opt=some (zau a0 a1):=Tr.zL (by kernel_rfl)
noncomputable def E_spec_RhumbTo:Ent Tryz.prog:= .of2 Tb44 B44 (fun _ _=>true) zau fun a0 a1 _=>(r_spec_RhumbTo a0 a1).trans (u_spec_RhumbTo a0 a1)
end
end Go.Proofs.YtfcjhkkpbnobhaaGreat.Ev
namespace Go.Proofs.YtfcjhkkpbnobhaaGreat.Ev
open Go
theorem int0_eq:zD ⟨0,rfl⟩=⟨⟨0,rfl⟩,⟨0,rfl⟩⟩:=by rw [int_val (by decide)];rfl
theorem valid2_eq (a b:zaL):zc0 a b=(zab a&&zab b):=by
 simp only [zc0,zfO,Tr.get,point_eq]
 cases zab a<;>simp only [ctr,cfl,Bool.true_and,Bool.false_and]
theorem rhumb_eq (p q:zaL):F_impl_RhumbTo p q=zau p q:=by
 simp only [F_impl_RhumbTo,t_impl_RhumbTo,zau,zff,zcD,zdz,Tr.get]
 rw [valid2_eq]
 cases h1:zab p
 ·simp only [ctr,cfl,Bool.not_false,Bool.false_and]
 cases h2:zab q
 ·simp only [ctr,cfl,Bool.not_false,Bool.not_true,Bool.and_false]
 simp only [ctr,cfl,Bool.not_true,Bool.and_self,lat_eq h1,lat_eq h2,diff_eq,areb_eq,siw_eq,integer_eq,int0_eq,cosI_eq,sinI_eq,mulI_F,sub_eq,divI_F,abs_eq,atanhI_eq,dirI_eq]
 cases h3:(p.lat.val==q.lat.val)
 ·have h4:(p.lat.val != q.lat.val)=true:=by simp only [bne,h3,Bool.not_false]
  simp only [h4,ctr,cfl]
  generalize zaE _ _=d
  generalize zbm (zz _ _)=s
  cases za d<;>cases za s<;>simp only [ctr,cfl,Bool.not_true,Bool.not_false,Bool.and_self,Bool.and_false,Bool.false_and,Bool.and_true]
 ·have h4:(p.lat.val != q.lat.val)=false:=by simp only [bne,h3,Bool.not_true]
  simp only [h4,ctr,cfl]
  generalize zaE _ ⟨⟨0,rfl⟩,⟨0,rfl⟩⟩=d
  generalize zC (zbm _) _=s
  cases za d<;>cases za s<;>simp only [ctr,cfl,Bool.not_true,Bool.not_false,Bool.and_self,Bool.and_false,Bool.false_and,Bool.and_true]
end Go.Proofs.YtfcjhkkpbnobhaaGreat.Ev
namespace Go.Proofs.YtfcjhkkpbnobhaaGreat.Ev
open Go Go.RowKit
set_option maxRecDepth 100000
section
variable [Amb]
noncomputable def Y22:TyE Tryz.prog:=⟨22,1,(.slice 5 1),[.nils],false,by kernel_rfl,by kernel_rfl,by kernel_rfl,by kernel_rfl,by kernel_rfl,by kernel_rfl⟩
noncomputable def B7:Bod Tryz.prog:=⟨7,Tryz.f7,Tryz.f7.body.getD .skip,Tryz.func7,by kernel_rfl,by kernel_rfl,zae.no _ _⟩
noncomputable def Tb7 (o0:T3 zaL zaL zaL) (h0:Orac Tryz.prog 12 [0] o0):Tb Tryz.prog:= {T:= [Y2,Y22,Y24,Y30],mix:=mix,Es:= [Ent.orac 12 [0] o0 h0,E_spec_LessI,ze1,E_spec_CosI,E_spec_OverlapI,E_spec_AngleBetween,E_impl_RhumbTo,E_spec_RhumbTo,ET_spec_RadiansOf],Bs:= [],d:=1}
noncomputable def t_laws_FnRhumbs (o0:T3 zaL zaL zaL):Tr Bool:=
 .br (decide ((lenA 0).val>1048576)) (.leaf true) (let c3:=F_impl_RhumbTo o0.a o0.b;.br (c3.c.val != 0) (.leaf (c3.c.val==(zau o0.a o0.b).c.val)) (let c7:=zbl o0.a o0.b;.br (za7 (zC c3.b (zbD c3.a)) (zaa (Rng.w .i64 (o0.b.lat.val-o0.a.lat.val)))) (.br (c7.b.val != 0) (.leaf true) (.leaf ((F_spec_LessI c3.b c7.a).val != 1))) (.leaf false)))
theorem r_laws_FnRhumbs (o0:T3 zaL zaL zaL) (h0:Orac Tryz.prog 12 [0] o0):(Tb7 o0 h0).run B7 [.arg 0] Bool=(t_laws_FnRhumbs o0).opt:=by kernel_rfl
end
end Go.Proofs.YtfcjhkkpbnobhaaGreat.Ev
