/- The law FnExactPathLength gives true, whatever comes in; each argument reads behind the call as it read before. No conditions. (One of the texts of its proof, put together by a program of this session.) -/
import Derived.Test.YtkenfaengphiiaaGreatZW8
set_option linter.unusedSectionVars false
set_option linter.unusedSimpArgs false
set_option linter.unusedVariables false
noncomputable section
namespace Go.Proofs.YtkenfaengphiiaaGreat.Ev
open Go Go.RowKit
set_option maxRecDepth 100000
section
variable [Amb]
instance:Inhabited Geo:=⟨⟨default,default,default,default,default⟩⟩
instance:Inhabited GeoS:=⟨⟨default,default,default,default,default,default,default⟩⟩
def B341:Bod Tryz.prog:=⟨341,Tryz.f341,Tryz.f341.body.getD .skip,Tryz.func341,by kernel_rfl,by kernel_rfl,zK.no _ _⟩
def Tb341:Tb Tryz.prog:= {T:= [Y2,Y30],mix:=mix,Es:= [zS,zaJ,zaA,E_spec_l00Min],Bs:= [],d:=1}
def t_spec_MinI (a0:Iv) (a1:Iv):Tr (Iv):=
 .br (!(za a0)) (.leaf ze) (.br (!(za a1)) (.leaf ze) (.leaf (zR (zC a0.lo a1.lo) (zC a0.hi a1.hi))))
theorem r_spec_MinI (a0:Iv) (a1:Iv):Tb341.run B341 [enc a0,enc a1] (Iv)=(t_spec_MinI a0 a1).opt:=by kernel_rfl
def F_spec_MinI:Iv->Iv->Iv:=fun a0 a1=>(t_spec_MinI a0 a1).get
theorem u_spec_MinI (a0:Iv) (a1:Iv):(t_spec_MinI a0 a1).opt=some (F_spec_MinI a0 a1):=Tr.zz (by kernel_rfl)
def E_spec_MinI:Ent Tryz.prog:= .of2 Tb341 B341 (fun _ _=>true) F_spec_MinI fun a0 a1 _=>(r_spec_MinI a0 a1).trans (u_spec_MinI a0 a1)
def B347:Bod Tryz.prog:=⟨347,Tryz.f347,Tryz.f347.body.getD .skip,Tryz.func347,by kernel_rfl,by kernel_rfl,zK.no _ _⟩
def Tb347:Tb Tryz.prog:= {T:= [Y2,Y30],mix:=mix,Es:= [za9,zaa],Bs:= [],d:=1}
def t_impl_MinI (a0:Iv) (a1:Iv):Tr (Iv):=
 .br (!(zaH a0 a1)) (.leaf zq) (.leaf ⟨(mn a0.lo a1.lo),(mn a0.hi a1.hi)⟩)
theorem r_impl_MinI (a0:Iv) (a1:Iv):Tb347.run B347 [enc a0,enc a1] (Iv)=(t_impl_MinI a0 a1).opt:=by kernel_rfl
def F_impl_MinI:Iv->Iv->Iv:=fun a0 a1=>(t_impl_MinI a0 a1).get
theorem u_impl_MinI (a0:Iv) (a1:Iv):(t_impl_MinI a0 a1).opt=some (F_impl_MinI a0 a1):=Tr.zz (by kernel_rfl)
def E_impl_MinI:Ent Tryz.prog:= .of2 Tb347 B347 (fun _ _=>true) F_impl_MinI fun a0 a1 _=>(r_impl_MinI a0 a1).trans (u_impl_MinI a0 a1)
def B375:Bod Tryz.prog:=⟨375,Tryz.f375,Tryz.f375.body.getD .skip,Tryz.func375,by kernel_rfl,by kernel_rfl,zK.no _ _⟩
def Tb375:Tb Tryz.prog:= {T:= [Y2,Y30],mix:=mix,Es:= [zS,zaJ,zaA,E_spec_l00Max],Bs:= [],d:=1}
def t_spec_MaxI (a0:Iv) (a1:Iv):Tr (Iv):=
 .br (!(za a0)) (.leaf ze) (.br (!(za a1)) (.leaf ze) (.leaf (zR (zu a0.lo a1.lo) (zu a0.hi a1.hi))))
theorem r_spec_MaxI (a0:Iv) (a1:Iv):Tb375.run B375 [enc a0,enc a1] (Iv)=(t_spec_MaxI a0 a1).opt:=by kernel_rfl
def F_spec_MaxI:Iv->Iv->Iv:=fun a0 a1=>(t_spec_MaxI a0 a1).get
theorem u_spec_MaxI (a0:Iv) (a1:Iv):(t_spec_MaxI a0 a1).opt=some (F_spec_MaxI a0 a1):=Tr.zz (by kernel_rfl)
def E_spec_MaxI:Ent Tryz.prog:= .of2 Tb375 B375 (fun _ _=>true) F_spec_MaxI fun a0 a1 _=>(r_spec_MaxI a0 a1).trans (u_spec_MaxI a0 a1)
def B380:Bod Tryz.prog:=⟨380,Tryz.f380,Tryz.f380.body.getD .skip,Tryz.func380,by kernel_rfl,by kernel_rfl,zK.no _ _⟩
def Tb380:Tb Tryz.prog:= {T:= [Y2,Y30],mix:=mix,Es:= [za9,zaa],Bs:= [],d:=1}
def t_impl_MaxI (a0:Iv) (a1:Iv):Tr (Iv):=
 .br (!(zaH a0 a1)) (.leaf zq) (.leaf ⟨(mx a0.lo a1.lo),(mx a0.hi a1.hi)⟩)
theorem r_impl_MaxI (a0:Iv) (a1:Iv):Tb380.run B380 [enc a0,enc a1] (Iv)=(t_impl_MaxI a0 a1).opt:=by kernel_rfl
def F_impl_MaxI:Iv->Iv->Iv:=fun a0 a1=>(t_impl_MaxI a0 a1).get
theorem u_impl_MaxI (a0:Iv) (a1:Iv):(t_impl_MaxI a0 a1).opt=some (F_impl_MaxI a0 a1):=Tr.zz (by kernel_rfl)
def E_impl_MaxI:Ent Tryz.prog:= .of2 Tb380 B380 (fun _ _=>true) F_impl_MaxI fun a0 a1 _=>(r_impl_MaxI a0 a1).trans (u_impl_MaxI a0 a1)
def Y147:TyE Tryz.prog:=⟨147,14,(.struct [(0,57,3),(3,30,2),(5,30,2),(7,30,2),(9,2,1),(10,30,2),(12,30,2)]),[.i64 ⟨0,rfl⟩,.i64 ⟨0,rfl⟩,.i64 ⟨0,rfl⟩,.i64 ⟨0,rfl⟩,.i64 ⟨0,rfl⟩,.i64 ⟨0,rfl⟩,.i64 ⟨0,rfl⟩,.i64 ⟨0,rfl⟩,.i64 ⟨0,rfl⟩,.i64 ⟨0,rfl⟩,.i64 ⟨0,rfl⟩,.i64 ⟨0,rfl⟩,.i64 ⟨0,rfl⟩,.i64 ⟨0,rfl⟩],false,by kernel_rfl,by kernel_rfl,by kernel_rfl,by kernel_rfl,by kernel_rfl,by kernel_rfl⟩
def B339:Bod Tryz.prog:=⟨339,Tryz.f339,Tryz.f339.body.getD .skip,Tryz.func339,by kernel_rfl,by kernel_rfl,zK.no _ _⟩
def Tb339:Tb Tryz.prog:= {T:= [Y2,Y30,Y57,Y147],mix:=mix,Es:= [zbl,zcJ,E_spec_CosI,E_spec_SinI,zcn,zbZ,ET_spec_SqrtI,zeH,E_spec_AsinI,E_spec_HalfI,E_spec_MaxI],Bs:= [],d:=1}
def t_spec_l16S_angle (d0:GeoS) (a0:Iv):Tr (Iv):=
 .leaf (zf (zb ⟨2,rfl⟩) (zdo (zar (F_spec_MaxI (zb ⟨0,rfl⟩) (zk (zao (zad (zdO (zF d0.v d0.u)))) (zf (zf (zbA d0.u) (zbA d0.v)) (zao (zad (zdO a0)))))))))
theorem r_spec_l16S_angle (d0:GeoS) (a0:Iv):capRun Tb339 B339 [.ptr 0 0,enc a0] [(0,Cap.ec d0)] 1 (Iv)=(t_spec_l16S_angle d0 a0).opt:=by kernel_rfl
def zes:GeoS->Iv->Iv:=fun d0 a0=>(t_spec_l16S_angle d0 a0).get
theorem u_spec_l16S_angle (d0:GeoS) (a0:Iv):(t_spec_l16S_angle d0 a0).opt=some (zes d0 a0):=Tr.zz (by kernel_rfl)
def E_spec_l16S_angle:Ent Tryz.prog:= .p2 Tb339 B339 (fun _ _=>true) zes fun d0 a0 _=>(r_spec_l16S_angle d0 a0).trans (u_spec_l16S_angle d0 a0)
def B281:Bod Tryz.prog:=⟨281,Tryz.f281,Tryz.f281.body.getD .skip,Tryz.func281,by kernel_rfl,by kernel_rfl,zK.no _ _⟩
def Tb281:Tb Tryz.prog:= {T:= [Y2,Y30,Y57,Y147],mix:=mix,Es:= [zcJ,E_spec_MinorI,zfs,E_spec_l16S_angle],Bs:= [],d:=1}
def t_spec_l16S_bounds (d0:GeoS):Tr (Iv):=
 let c1:=zes d0 d0.l;.leaf (zbC (zf (F_spec_MinorI d0.e) c1) (zf d0.major c1))
theorem r_spec_l16S_bounds (d0:GeoS):capRun Tb281 B281 [.ptr 0 0] [(0,Cap.ec d0)] 1 (Iv)=(t_spec_l16S_bounds d0).opt:=by kernel_rfl
def zbB:GeoS->Iv:=fun d0=>(t_spec_l16S_bounds d0).get
theorem u_spec_l16S_bounds (d0:GeoS):(t_spec_l16S_bounds d0).opt=some (zbB d0):=Tr.zz (by kernel_rfl)
def E_spec_l16S_bounds:Ent Tryz.prog:= .p1 Tb281 B281 (fun _=>true) zbB fun d0 _=>(r_spec_l16S_bounds d0).trans (u_spec_l16S_bounds d0)
def B340:Bod Tryz.prog:=⟨340,Tryz.f340,Tryz.f340.body.getD .skip,Tryz.func340,by kernel_rfl,by kernel_rfl,zK.no _ _⟩
def Tb340:Tb Tryz.prog:= {T:= [Y2,Y30,Y57,Y147],mix:=mix,Es:= [zbl,zbZ,zb8,E_spec_HullI,E_spec_FlatteningI],Bs:= [],d:=1}
def zfC (d0:GeoS):Tr (Iv):=
 .leaf (zT d0.l (zn d0.l (zF (zb ⟨1,rfl⟩) (zde d0.e))))
theorem r_spec_l16S_start (d0:GeoS):capRun Tb340 B340 [.ptr 0 0] [(0,Cap.ec d0)] 1 (Iv)=(zfC d0).opt:=by kernel_rfl
def zcP:GeoS->Iv:=fun d0=>(zfC d0).get
theorem u_spec_l16S_start (d0:GeoS):(zfC d0).opt=some (zcP d0):=Tr.zz (by kernel_rfl)
def E_spec_l16S_start:Ent Tryz.prog:= .p1 Tb340 B340 (fun _=>true) zcP fun d0 _=>(r_spec_l16S_start d0).trans (u_spec_l16S_start d0)
def Y184:TyE Tryz.prog:=⟨184,10,(.struct [(0,57,3),(3,30,2),(5,30,2),(7,30,2),(9,4,1)]),[.i64 ⟨0,rfl⟩,.i64 ⟨0,rfl⟩,.i64 ⟨0,rfl⟩,.i64 ⟨0,rfl⟩,.i64 ⟨0,rfl⟩,.i64 ⟨0,rfl⟩,.i64 ⟨0,rfl⟩,.i64 ⟨0,rfl⟩,.i64 ⟨0,rfl⟩,.bool false],false,by kernel_rfl,by kernel_rfl,by kernel_rfl,by kernel_rfl,by kernel_rfl,by kernel_rfl⟩
def B345:Bod Tryz.prog:=⟨345,Tryz.f345,Tryz.f345.body.getD .skip,Tryz.func345,by kernel_rfl,by kernel_rfl,zK.no _ _⟩
def Tb345:Tb Tryz.prog:= {T:= [Y2,Y4,Y30,Y57,Y184],mix:=mix,Es:= [za7,zca,E_impl_times,E_impl_SinI,zbG,E_impl_CosI,zcK,ET_impl_SqrtI,zel,E_impl_AsinI,E_impl_HalfI,E_impl_MaxI],Bs:= [],d:=1}
def zd6 (d0:Geo) (a0:Iv):Tr (Iv):=
 .leaf (zcQ ⟨2,rfl⟩ (F_impl_AsinI (zei (F_impl_MaxI (zl ⟨0,rfl⟩) (zL (zcI (zcm (F_impl_HalfI (zaq d0.v d0.u)))) (zt (zt (zfr d0.u) (zfr d0.v)) (zcI (zcm (F_impl_HalfI a0)))))))))
theorem r_impl_geodesic_reduced (d0:Geo) (a0:Iv):capRun Tb345 B345 [.ptr 0 0,enc a0] [(0,Cap.ec d0)] 1 (Iv)=(zd6 d0 a0).opt:=by kernel_rfl
def zcj:Geo->Iv->Iv:=fun d0 a0=>(zd6 d0 a0).get
theorem u_impl_geodesic_reduced (d0:Geo) (a0:Iv):(zd6 d0 a0).opt=some (zcj d0 a0):=Tr.zz (by kernel_rfl)
def E_impl_geodesic_reduced:Ent Tryz.prog:= .p2 Tb345 B345 (fun _ _=>true) zcj fun d0 a0 _=>(r_impl_geodesic_reduced d0 a0).trans (u_impl_geodesic_reduced d0 a0)
def B287:Bod Tryz.prog:=⟨287,Tryz.f287,Tryz.f287.body.getD .skip,Tryz.func287,by kernel_rfl,by kernel_rfl,zK.no _ _⟩
def Tb287:Tb Tryz.prog:= {T:= [Y2,Y30,Y57,Y184],mix:=mix,Es:= [zbG,E_impl_MajorI,E_impl_MinorI,za9,zbm,E_impl_geodesic_reduced],Bs:= [],d:=1}
def zeI (d0:Geo):Tr (Iv):=
 let c1:=zcj d0 d0.lon;let c3:=zt (F_impl_MinorI d0.e) c1;let c5:=zt (zfb d0.e) c1;.leaf (zaE c3.lo c5.hi (zaH c3 c5))
theorem r_impl_geodesic_bounds (d0:Geo):capRun Tb287 B287 [.ptr 0 0] [(0,Cap.ec d0)] 1 (Iv)=(zeI d0).opt:=by kernel_rfl
def zds:Geo->Iv:=fun d0=>(zeI d0).get
theorem u_impl_geodesic_bounds (d0:Geo):(zeI d0).opt=some (zds d0):=Tr.zz (by kernel_rfl)
def E_impl_geodesic_bounds:Ent Tryz.prog:= .p1 Tb287 B287 (fun _=>true) zds fun d0 _=>(r_impl_geodesic_bounds d0).trans (u_impl_geodesic_bounds d0)
def B346:Bod Tryz.prog:=⟨346,Tryz.f346,Tryz.f346.body.getD .skip,Tryz.func346,by kernel_rfl,by kernel_rfl,zK.no _ _⟩
def Tb346:Tb Tryz.prog:= {T:= [Y2,Y30,Y57,Y184],mix:=mix,Es:= [zb9,E_impl_HullI,E_impl_oneLess,E_impl_FlatteningI],Bs:= [],d:=1}
def ze1 (d0:Geo):Tr (Iv):=
 .leaf (zay d0.lon (zY d0.lon (zbX (zdg d0.e))))
theorem r_impl_geodesic_start (d0:Geo):capRun Tb346 B346 [.ptr 0 0] [(0,Cap.ec d0)] 1 (Iv)=(ze1 d0).opt:=by kernel_rfl
def zcR:Geo->Iv:=fun d0=>(ze1 d0).get
theorem u_impl_geodesic_start (d0:Geo):(ze1 d0).opt=some (zcR d0):=Tr.zz (by kernel_rfl)
def E_impl_geodesic_start:Ent Tryz.prog:= .p1 Tb346 B346 (fun _=>true) zcR fun d0 _=>(r_impl_geodesic_start d0).trans (u_impl_geodesic_start d0)
def B174:Bod Tryz.prog:=⟨174,Tryz.f174,Tryz.f174.body.getD .skip,Tryz.func174,by kernel_rfl,by kernel_rfl,zK.no _ _⟩
def Tb174:Tb Tryz.prog:= {T:= [Y2,Y24,Y30,Y57,Y147],mix:=mix,Es:= [E_spec_l11Wrap,E_spec_EccI,E_spec_MajorI,E_spec_LatOf,ET_spec_RadiansOf,E_spec_LatitudeI,E_spec_AbsI],Bs:= [],d:=1}
def t_spec_l16Make (a0:Ell) (a1:zbN) (a2:zbN):Tr (GeoS):=
 let c2:=F_spec_l11Wrap (Rng.w .i64 (a2.lon.val-a1.lon.val));.leaf ⟨a0,(zcd ⟨1,rfl⟩ a0 (F_spec_LatOf a1)),(zcd ⟨1,rfl⟩ a0 (F_spec_LatOf a2)),(F_spec_AbsI (zbp c2)),c2,(zb5 a0),(zcz a0)⟩
theorem r_spec_l16Make (a0:Ell) (a1:zbN) (a2:zbN):Tb174.run B174 [enc a0,enc a1,enc a2] (GeoS)=(t_spec_l16Make a0 a1 a2).opt:=by kernel_rfl
def F_spec_l16Make:Ell->zbN->zbN->GeoS:=fun a0 a1 a2=>(t_spec_l16Make a0 a1 a2).get
theorem u_spec_l16Make (a0:Ell) (a1:zbN) (a2:zbN):(t_spec_l16Make a0 a1 a2).opt=some (F_spec_l16Make a0 a1 a2):=Tr.zz (by kernel_rfl)
def E_spec_l16Make:Ent Tryz.prog:= .of3 Tb174 B174 (fun _ _ _=>true) F_spec_l16Make fun a0 a1 a2 _=>(r_spec_l16Make a0 a1 a2).trans (u_spec_l16Make a0 a1 a2)
end
end Go.Proofs.YtkenfaengphiiaaGreat.Ev
namespace Go.Proofs.YtkenfaengphiiaaGreat.Ev
open Go
theorem maxI_eq (a b:Iv):F_impl_MaxI a b=F_spec_MaxI a b:=by
 simp only [F_impl_MaxI,t_impl_MaxI,F_spec_MaxI,t_spec_MaxI,Tr.get,areb_eq,zaS]
 cases ha:za a
 ·rfl
 cases hb:za b
 ·rfl
 have h1:=(zaN a).1 ha
 have h2:=(zaN b).1 hb
 simp only [Bool.and_self,Bool.not_true,cond_false,<- min_eq,<- max_eq]
 refine (zbI ?_).symm
 rw [mx_val,mx_val]
 split<;>split<;>omega
theorem minI_eq (a b:Iv):F_impl_MinI a b=F_spec_MinI a b:=by
 simp only [F_impl_MinI,t_impl_MinI,F_spec_MinI,t_spec_MinI,Tr.get,areb_eq,zaS]
 cases ha:za a
 ·rfl
 cases hb:za b
 ·rfl
 have h1:=(zaN a).1 ha
 have h2:=(zaN b).1 hb
 simp only [Bool.and_self,Bool.not_true,cond_false,<- min_eq,<- max_eq]
 refine (zbI ?_).symm
 rw [mn_val,mn_val]
 split<;>split<;>omega
theorem known_F (x:Iv):F_impl_knownI x=F_spec_l19Known x:=by
 simp only [F_impl_knownI,t_impl_knownI,F_spec_l19Known,t_spec_l19Known,Tr.get,isw_eq]
def ang (u v x:Iv):Iv:=zf (zb ⟨2,rfl⟩) (zdo (zar (F_spec_MaxI (zb ⟨0,rfl⟩) (zk (zao (zad (zdO (zF v u)))) (zf (zf (zbA u) (zbA v)) (zao (zad (zdO x))))))))
theorem ang_spec (g:GeoS) (x:Iv):zes g x=ang g.u g.v x:=by simp only [zes,t_spec_l16S_angle,Tr.get,ang]
theorem ang_impl (g:Geo) (x:Iv):zcj g x=ang g.u g.v x:=by
 simp only [zcj,zd6,Tr.get,ang,times_F,asinI_eq,sqrtI_eq,maxI_eq,zbH,add_eq,sqrI_F,sinI_eq,cosI_eq,halfI_eq,sub_eq,mulI_F]
theorem bounds_eq (g:Geo) (h:GeoS) (h1:g.e=h.e) (h2:g.u=h.u) (h3:g.v=h.v) (h4:g.lon=h.l) (h5:h.major=zcz h.e):zds g=zbB h:=by
 simp only [zds,zeI,zbB,t_spec_l16S_bounds,Tr.get,ang_spec,ang_impl,h1,h2,h3,h4,h5,minor_eq,major_eq,mulI_F,zcN,areb_eq,zbC,zfd]
 generalize zf (F_spec_MinorI h.e) _=a
 generalize zf (zcz h.e) _=b
 cases za a<;>cases za b<;>simp [ctr,cfl]
theorem start_eq (g:Geo) (h:GeoS) (h1:g.e=h.e) (h4:g.lon=h.l):zcR g=zcP h:=by
 simp only [zcR,ze1,zcP,zfC,Tr.get,h1,h4,hull_eq,divI_F,oneLess_eq,flatI_eq]
end Go.Proofs.YtkenfaengphiiaaGreat.Ev
namespace Go.Proofs.YtkenfaengphiiaaGreat.Ev
open Go Go.RowKit
set_option maxRecDepth 100000
section
variable [Amb]
def B342:Bod Tryz.prog:=⟨342,Tryz.f342,Tryz.f342.body.getD .skip,Tryz.func342,by kernel_rfl,by kernel_rfl,zK.no _ _⟩
def Tb342:Tb Tryz.prog:= {T:= [Y2,Y30],mix:=mix,Es:= [zS,zaJ,zaA],Bs:= [],d:=1}
def t_spec_l16Both (a0:Iv):Tr (Iv):=
 .br (!(za a0)) (.leaf ze) (.leaf (zR (Rng.w .i64 (0-a0.hi.val)) a0.hi))
theorem r_spec_l16Both (a0:Iv):Tb342.run B342 [enc a0] (Iv)=(t_spec_l16Both a0).opt:=by kernel_rfl
def zed:Iv->Iv:=fun a0=>(t_spec_l16Both a0).get
theorem u_spec_l16Both (a0:Iv):(t_spec_l16Both a0).opt=some (zed a0):=Tr.zz (by kernel_rfl)
def E_spec_l16Both:Ent Tryz.prog:= .of1 Tb342 B342 (fun _=>true) zed fun a0 _=>(r_spec_l16Both a0).trans (u_spec_l16Both a0)
structure zb3 where
 x0:I64
 x1:I64
 x2:I64
 x3:I64
 x4:I64
 x5:I64
 x6:I64
 x7:I64
 x8:I64
 x9:I64
 x10:I64
 x11:I64
 x12:I64
 x13:I64
 x14:I64
 x15:I64
 x16:I64
 x17:I64
 x18:I64
 x19:I64
 x20:I64
 x21:I64
 x22:I64
 x23:I64
 x24:I64
 x25:I64
 x26:I64
 x27:I64
 x28:I64
 x29:I64
 x30:I64
 x31:I64
instance:Inhabited zb3:=⟨⟨default,default,default,default,default,default,default,default,default,default,default,default,default,default,default,default,default,default,default,default,default,default,default,default,default,default,default,default,default,default,default,default⟩⟩
def st_spec_l16S_next_11 (x:zb3):St:=⟨[(0,.ptr 0 0),(2,.i64 x.x0),(6,.ptr 2 0),(7,.ptr 3 0),(8,.ptr 4 0),(10,.ptr 6 0),(11,.ptr 7 0),(12,.ptr 8 0),(13,.ptr 9 0),(14,.ptr 10 0),(15,.i64 x.x1)],190,⟨[(0,[.i64 x.x2,.i64 x.x3,.i64 x.x4,.i64 x.x5,.i64 x.x6,.i64 x.x7,.i64 x.x8,.i64 x.x9,.i64 x.x10,.i64 x.x11,.i64 x.x12,.i64 x.x13,.i64 x.x14,.i64 x.x15]),(2,[.i64 x.x16,.i64 x.x17]),(3,[.i64 x.x18,.i64 x.x19]),(4,[.i64 x.x20,.i64 x.x21]),(6,[.i64 x.x22,.i64 x.x23]),(7,[.i64 x.x24,.i64 x.x25]),(8,[.i64 x.x26,.i64 x.x27]),(9,[.i64 x.x28,.i64 x.x29]),(10,[.i64 x.x30,.i64 x.x31])],11,1⟩⟩
def rd_spec_l16S_next_11:St->Option zb3:=fun s=>match s with
 | ⟨[(0,.ptr 0 0),(2,.i64 x0),(6,.ptr 2 0),(7,.ptr 3 0),(8,.ptr 4 0),(10,.ptr 6 0),(11,.ptr 7 0),(12,.ptr 8 0),(13,.ptr 9 0),(14,.ptr 10 0),(15,.i64 x1)],190,⟨[(0,[.i64 x2,.i64 x3,.i64 x4,.i64 x5,.i64 x6,.i64 x7,.i64 x8,.i64 x9,.i64 x10,.i64 x11,.i64 x12,.i64 x13,.i64 x14,.i64 x15]),(2,[.i64 x16,.i64 x17]),(3,[.i64 x18,.i64 x19]),(4,[.i64 x20,.i64 x21]),(6,[.i64 x22,.i64 x23]),(7,[.i64 x24,.i64 x25]),(8,[.i64 x26,.i64 x27]),(9,[.i64 x28,.i64 x29]),(10,[.i64 x30,.i64 x31])],11,1⟩⟩=>some ⟨x0,x1,x2,x3,x4,x5,x6,x7,x8,x9,x10,x11,x12,x13,x14,x15,x16,x17,x18,x19,x20,x21,x22,x23,x24,x25,x26,x27,x28,x29,x30,x31⟩
 | _=>none
def zcF (x:zb3):Tr (Lp zb3):=
 .br (decide (x.x1.val<x.x0.val)) (let c29:=zf ⟨x.x20,x.x21⟩ (zQ (Rng.w .i64 ((Rng.w .i64 (2*x.x1.val)).val+1)) (Rng.w .i64 (2*x.x0.val)));let c41:=zar (zF ⟨x.x26,x.x27⟩ (zf ⟨x.x12,x.x13⟩ (zF ⟨x.x26,x.x27⟩ (F_spec_MinI (zao (zk (zf (zad ⟨x.x5,x.x6⟩) (zbA c29)) (zf ⟨x.x24,x.x25⟩ (zad c29)))) ⟨x.x26,x.x27⟩))));let c42:=zk ⟨x.x28,x.x29⟩ c41;let c45:=zk ⟨x.x30,x.x31⟩ (zn ⟨x.x12,x.x13⟩ (zk ⟨x.x26,x.x27⟩ c41));.leaf (.again ⟨x.x0,(Rng.w .i64 (x.x1.val+1)),x.x2,x.x3,x.x4,x.x5,x.x6,x.x7,x.x8,x.x9,x.x10,x.x11,x.x12,x.x13,x.x14,x.x15,x.x16,x.x17,x.x18,x.x19,x.x20,x.x21,x.x22,x.x23,x.x24,x.x25,x.x26,x.x27,c42.lo,c42.hi,c45.lo,c45.hi⟩)) (.leaf (.out ⟨x.x0,x.x1,x.x2,x.x3,x.x4,x.x5,x.x6,x.x7,x.x8,x.x9,x.x10,x.x11,x.x12,x.x13,x.x14,x.x15,x.x16,x.x17,x.x18,x.x19,x.x20,x.x21,x.x22,x.x23,x.x24,x.x25,x.x26,x.x27,x.x28,x.x29,x.x30,x.x31⟩))
def G_spec_l16S_next_11 (x:zb3):Bool:=(Lf zcF 70 x).opt.isSome
def L_spec_l16S_next_11 (x:zb3):zb3:=(Lf zcF 70 x).get
def TbL_spec_l16S_next_11:Tb Tryz.prog:= {T:= [Y2,Y30,Y147],mix:=mix,Es:= [zcJ,E_spec_CosI,E_spec_SinI,zcn,zbZ,ET_spec_SqrtI,zeH,zcC,zb8,E_spec_MinI],Bs:= [],d:=1}
def P_spec_l16S_next_11:LpF:=loopF [0,2,6,7,8,10,11,12,13,14,15] [0,2,3,4,6,7,8,9,10] 11 rd_spec_l16S_next_11 st_spec_l16S_next_11 (.exit 0) G_spec_l16S_next_11 L_spec_l16S_next_11
theorem lok_spec_l16S_next_11:LoopOk Tryz.prog (loopAt (Tryz.f284.body.getD .skip) 0) P_spec_l16S_next_11:=zfw (t:=TbL_spec_l16S_next_11) (lt:=fun _=>none) (body:=zcF) (n:=70) (by intro h;cases h) (fun _ _ _ h=>by cases h)
 (by intro s x h;unfold rd_spec_l16S_next_11 at h;split at h<;>cases h;rfl) (fun x b cs h=>lk_lt (l:=(st_spec_l16S_next_11 x).mm.blks) (by kernel_rfl) h) (by intro x;kernel_rfl) (fun x h=>Tr.get_some h)
def B284:Bod Tryz.prog:=⟨284,Tryz.f284,Tryz.f284.body.getD .skip,Tryz.func284,by kernel_rfl,by kernel_rfl,⟨ltOf [(11,P_spec_l16S_next_11)],zK.of (ks:= [11]) (by kernel_rfl) (by
 intro i k h f hf
 match i,h with
 | 0,h=>cases h;obtain rfl:P_spec_l16S_next_11=f:=Option.some.inj hf;exact lok_spec_l16S_next_11
 | n+1,h=>simp at h)⟩⟩
def Tb284:Tb Tryz.prog:= {T:= [Y2,Y30,Y147],mix:=mix,Es:= [zbl,zcJ,E_spec_CosI,E_spec_SinI,zcn,zS,zaA,zbZ,zcC,zb8,E_spec_l16S_angle,E_spec_l16Both],Bs:= [],d:=1}
def t_spec_l16S_next (d0:GeoS) (a0:Iv) (a1:I64):Tr (T2 Iv Iv):=
 let c1:=zes d0 a0;let c2:=zad c1;let c8:=zn (zf (zf (zbA d0.u) (zbA d0.v)) (zad a0)) c2;let c14:=zn (zF (zad d0.v) (zf (zad d0.u) (zbA c1))) c2;.br (!(za c8)) (.leaf ⟨ze,ze⟩) (.br (!(za c14)) (.leaf ⟨ze,ze⟩) (let c21:=zb ⟨1,rfl⟩;let c22:=zb ⟨0,rfl⟩;let c23:=zb ⟨0,rfl⟩;.br (G_spec_l16S_next_11 ⟨a1,⟨0,rfl⟩,d0.e.a,d0.e.num,d0.e.den,d0.u.lo,d0.u.hi,d0.v.lo,d0.v.hi,d0.l.lo,d0.l.hi,d0.d,d0.ecc.lo,d0.ecc.hi,d0.major.lo,d0.major.hi,⟨0,rfl⟩,⟨0,rfl⟩,⟨0,rfl⟩,⟨0,rfl⟩,c1.lo,c1.hi,c8.lo,c8.hi,c14.lo,c14.hi,c21.lo,c21.hi,c22.lo,c22.hi,c23.lo,c23.hi⟩) (let c47:=L_spec_l16S_next_11 ⟨a1,⟨0,rfl⟩,d0.e.a,d0.e.num,d0.e.den,d0.u.lo,d0.u.hi,d0.v.lo,d0.v.hi,d0.l.lo,d0.l.hi,d0.d,d0.ecc.lo,d0.ecc.hi,d0.major.lo,d0.major.hi,⟨0,rfl⟩,⟨0,rfl⟩,⟨0,rfl⟩,⟨0,rfl⟩,c1.lo,c1.hi,c8.lo,c8.hi,c14.lo,c14.hi,c21.lo,c21.hi,c22.lo,c22.hi,c23.lo,c23.hi⟩;let c53:=zn (zf (zf ⟨c47.x20,c47.x21⟩ ⟨c47.x20,c47.x21⟩) ⟨c47.x20,c47.x21⟩) (zb (Rng.w .i64 ((Rng.w .i64 (24*c47.x0.val)).val*c47.x0.val)));let c62:=zn ⟨c47.x20,c47.x21⟩ (zb c47.x0);.leaf ⟨(zk ⟨c47.x9,c47.x10⟩ (zf ⟨c47.x22,c47.x23⟩ (zk (zf c62 ⟨c47.x30,c47.x31⟩) (zed (zf (zf (zf (zQ ⟨3,rfl⟩ ⟨10,rfl⟩) ⟨c47.x12,c47.x13⟩) ⟨c47.x12,c47.x13⟩) c53))))),(zf ⟨c47.x14,c47.x15⟩ (zk (zf c62 ⟨c47.x28,c47.x29⟩) (zed (zf (zf (zQ ⟨21,rfl⟩ ⟨20,rfl⟩) ⟨c47.x12,c47.x13⟩) c53))))⟩) (.bad)))
theorem r_spec_l16S_next (d0:GeoS) (a0:Iv) (a1:I64):capRun Tb284 B284 [.ptr 0 0,enc a0,enc a1] [(0,Cap.ec d0)] 1 (T2 Iv Iv)=(t_spec_l16S_next d0 a0 a1).opt:=by kernel_rfl
def zdW:GeoS->Iv->I64->T2 Iv Iv:=fun d0 a0 a1=>(t_spec_l16S_next d0 a0 a1).get
def zdn:GeoS->Iv->I64->Bool:=fun d0 a0 a1=>(t_spec_l16S_next d0 a0 a1).opt.isSome
def E_spec_l16S_next:Ent Tryz.prog:= .p3 Tb284 B284 zdn zdW fun d0 a0 a1 h=>(r_spec_l16S_next d0 a0 a1).trans (Tr.get_some h)
structure zbr where
 x0:I64
 x1:I64
 x2:I64
 x3:I64
 x4:I64
 x5:I64
 x6:I64
 x7:I64
 x8:I64
 x9:I64
 x10:I64
 x11:I64
 x12:Bool
 x13:I64
 x14:I64
 x15:I64
 x16:I64
 x17:I64
 x18:I64
 x19:I64
 x20:I64
 x21:I64
 x22:I64
 x23:I64
 x24:I64
 x25:I64
 x26:I64
 x27:I64
 x28:I64
instance:Inhabited zbr:=⟨⟨default,default,default,default,default,default,default,default,default,default,default,default,default,default,default,default,default,default,default,default,default,default,default,default,default,default,default,default,default⟩⟩
def st_impl_geodesic_solve_7 (x:zbr):St:=⟨[(0,.ptr 0 0),(2,.i64 x.x0),(6,.ptr 2 0),(7,.ptr 3 0),(8,.ptr 4 0),(10,.ptr 6 0),(11,.ptr 7 0),(12,.ptr 8 0),(13,.ptr 9 0),(14,.ptr 10 0),(68,.i64 x.x1),(69,.i64 x.x2)],164,⟨[(0,[.i64 x.x3,.i64 x.x4,.i64 x.x5,.i64 x.x6,.i64 x.x7,.i64 x.x8,.i64 x.x9,.i64 x.x10,.i64 x.x11,.bool x.x12]),(2,[.i64 x.x13,.i64 x.x14]),(3,[.i64 x.x15,.i64 x.x16]),(4,[.i64 x.x17,.i64 x.x18]),(6,[.i64 x.x19,.i64 x.x20]),(7,[.i64 x.x21,.i64 x.x22]),(8,[.i64 x.x23,.i64 x.x24]),(9,[.i64 x.x25,.i64 x.x26]),(10,[.i64 x.x27,.i64 x.x28])],11,1⟩⟩
def rd_impl_geodesic_solve_7:St->Option zbr:=fun s=>match s with
 | ⟨[(0,.ptr 0 0),(2,.i64 x0),(6,.ptr 2 0),(7,.ptr 3 0),(8,.ptr 4 0),(10,.ptr 6 0),(11,.ptr 7 0),(12,.ptr 8 0),(13,.ptr 9 0),(14,.ptr 10 0),(68,.i64 x1),(69,.i64 x2)],164,⟨[(0,[.i64 x3,.i64 x4,.i64 x5,.i64 x6,.i64 x7,.i64 x8,.i64 x9,.i64 x10,.i64 x11,.bool x12]),(2,[.i64 x13,.i64 x14]),(3,[.i64 x15,.i64 x16]),(4,[.i64 x17,.i64 x18]),(6,[.i64 x19,.i64 x20]),(7,[.i64 x21,.i64 x22]),(8,[.i64 x23,.i64 x24]),(9,[.i64 x25,.i64 x26]),(10,[.i64 x27,.i64 x28])],11,1⟩⟩=>some ⟨x0,x1,x2,x3,x4,x5,x6,x7,x8,x9,x10,x11,x12,x13,x14,x15,x16,x17,x18,x19,x20,x21,x22,x23,x24,x25,x26,x27,x28⟩
 | _=>none
def zbK (x:zbr):Tr (Lp zbr):=
 .br (decide (x.x2.val<x.x1.val)) (let c23:=zt ⟨x.x17,x.x18⟩ (zU (Rng.w .i64 ((Rng.w .i64 (2*x.x2.val)).val+1)) (Rng.w .i64 (2*x.x0.val)));let c36:=zei (zbX (zt ⟨x.x19,x.x20⟩ (zbX (F_impl_MinI (zcI (zL (zt (zcm ⟨x.x6,x.x7⟩) (zfr c23)) (zt ⟨x.x23,x.x24⟩ (zcm c23)))) (zl ⟨1,rfl⟩)))));let c37:=zL ⟨x.x25,x.x26⟩ c36;let c41:=zL ⟨x.x27,x.x28⟩ (zY ⟨x.x19,x.x20⟩ (zL (zl ⟨1,rfl⟩) c36));.leaf (.again ⟨x.x0,x.x1,(Rng.w .i64 (x.x2.val+1)),x.x3,x.x4,x.x5,x.x6,x.x7,x.x8,x.x9,x.x10,x.x11,x.x12,x.x13,x.x14,x.x15,x.x16,x.x17,x.x18,x.x19,x.x20,x.x21,x.x22,x.x23,x.x24,c37.lo,c37.hi,c41.lo,c41.hi⟩)) (.leaf (.out ⟨x.x0,x.x1,x.x2,x.x3,x.x4,x.x5,x.x6,x.x7,x.x8,x.x9,x.x10,x.x11,x.x12,x.x13,x.x14,x.x15,x.x16,x.x17,x.x18,x.x19,x.x20,x.x21,x.x22,x.x23,x.x24,x.x25,x.x26,x.x27,x.x28⟩))
def G_impl_geodesic_solve_7 (x:zbr):Bool:=(Lf zbK 70 x).opt.isSome
def L_impl_geodesic_solve_7 (x:zbr):zbr:=(Lf zbK 70 x).get
def TbL_impl_geodesic_solve_7:Tb Tryz.prog:= {T:= [Y2,Y30,Y184],mix:=mix,Es:= [za7,zca,E_impl_SinI,zbG,E_impl_CosI,ET_impl_SqrtI,zb9,zel,zcD,E_impl_oneLess,E_impl_MinI],Bs:= [],d:=1}
def P_impl_geodesic_solve_7:LpF:=loopF [0,2,6,7,8,10,11,12,13,14,68,69] [0,2,3,4,6,7,8,9,10] 11 rd_impl_geodesic_solve_7 st_impl_geodesic_solve_7 (.exit 0) G_impl_geodesic_solve_7 L_impl_geodesic_solve_7
theorem lok_impl_geodesic_solve_7:LoopOk Tryz.prog (loopAt (Tryz.f289.body.getD .skip) 0) P_impl_geodesic_solve_7:=zfw (t:=TbL_impl_geodesic_solve_7) (lt:=fun _=>none) (body:=zbK) (n:=70) (by intro h;cases h) (fun _ _ _ h=>by cases h)
 (by intro s x h;unfold rd_impl_geodesic_solve_7 at h;split at h<;>cases h;rfl) (fun x b cs h=>lk_lt (l:=(st_impl_geodesic_solve_7 x).mm.blks) (by kernel_rfl) h) (by intro x;kernel_rfl) (fun x h=>Tr.get_some h)
def B289:Bod Tryz.prog:=⟨289,Tryz.f289,Tryz.f289.body.getD .skip,Tryz.func289,by kernel_rfl,by kernel_rfl,⟨ltOf [(7,P_impl_geodesic_solve_7)],zK.of (ks:= [7]) (by kernel_rfl) (by
 intro i k h f hf
 match i,h with
 | 0,h=>cases h;obtain rfl:P_impl_geodesic_solve_7=f:=Option.some.inj hf;exact lok_impl_geodesic_solve_7
 | n+1,h=>simp at h)⟩⟩
def Tb289:Tb Tryz.prog:= {T:= [Y2,Y30,Y57,Y184],mix:=mix,Es:= [za7,zca,E_impl_SinI,zbG,E_impl_CosI,zcK,E_impl_MajorI,zb9,zcD,E_impl_EccI,E_impl_geodesic_reduced,E_impl_over,E_impl_symmetric],Bs:= [],d:=1}
def zdH (d0:Geo) (a0:Iv) (a1:I64):Tr (T2 Iv Iv):=
 let c1:=zcj d0 a0;let c2:=zcm c1;let c3:=zfq d0.e;let c9:=zY (zt (zt (zfr d0.u) (zfr d0.v)) (zcm a0)) c2;let c15:=zY (zaq (zcm d0.v) (zt (zcm d0.u) (zfr c1))) c2;let c16:=zl ⟨0,rfl⟩;let c17:=zl ⟨0,rfl⟩;.br (G_impl_geodesic_solve_7 ⟨a1,a1,⟨0,rfl⟩,d0.e.a,d0.e.num,d0.e.den,d0.u.lo,d0.u.hi,d0.v.lo,d0.v.hi,d0.lon.lo,d0.lon.hi,d0.back,⟨0,rfl⟩,⟨0,rfl⟩,⟨0,rfl⟩,⟨0,rfl⟩,c1.lo,c1.hi,c3.lo,c3.hi,c9.lo,c9.hi,c15.lo,c15.hi,c16.lo,c16.hi,c17.lo,c17.hi⟩) (let c43:=L_impl_geodesic_solve_7 ⟨a1,a1,⟨0,rfl⟩,d0.e.a,d0.e.num,d0.e.den,d0.u.lo,d0.u.hi,d0.v.lo,d0.v.hi,d0.lon.lo,d0.lon.hi,d0.back,⟨0,rfl⟩,⟨0,rfl⟩,⟨0,rfl⟩,⟨0,rfl⟩,c1.lo,c1.hi,c3.lo,c3.hi,c9.lo,c9.hi,c15.lo,c15.hi,c16.lo,c16.hi,c17.lo,c17.hi⟩;let c48:=zfm (zt (zt ⟨c43.x17,c43.x18⟩ ⟨c43.x17,c43.x18⟩) ⟨c43.x17,c43.x18⟩) (Rng.w .i64 ((Rng.w .i64 (24*c43.x0.val)).val*c43.x0.val));let c56:=zfm ⟨c43.x17,c43.x18⟩ c43.x0;.leaf ⟨(zL ⟨c43.x10,c43.x11⟩ (zt ⟨c43.x21,c43.x22⟩ (zL (zt c56 ⟨c43.x27,c43.x28⟩) (zcA (zt (zt (zt (zU ⟨3,rfl⟩ ⟨10,rfl⟩) ⟨c43.x19,c43.x20⟩) ⟨c43.x19,c43.x20⟩) c48))))),(zt (zfb ⟨c43.x3,c43.x4,c43.x5⟩) (zL (zt c56 ⟨c43.x25,c43.x26⟩) (zcA (zt (zt (zU ⟨21,rfl⟩ ⟨20,rfl⟩) ⟨c43.x19,c43.x20⟩) c48))))⟩) (.bad)
theorem r_impl_geodesic_solve (d0:Geo) (a0:Iv) (a1:I64):capRun Tb289 B289 [.ptr 0 0,enc a0,enc a1] [(0,Cap.ec d0)] 1 (T2 Iv Iv)=(zdH d0 a0 a1).opt:=by kernel_rfl
def zb6:Geo->Iv->I64->T2 Iv Iv:=fun d0 a0 a1=>(zdH d0 a0 a1).get
def zbE:Geo->Iv->I64->Bool:=fun d0 a0 a1=>(zdH d0 a0 a1).opt.isSome
def E_impl_geodesic_solve:Ent Tryz.prog:= .p3 Tb289 B289 zbE zb6 fun d0 a0 a1 h=>(r_impl_geodesic_solve d0 a0 a1).trans (Tr.get_some h)
end
end Go.Proofs.YtkenfaengphiiaaGreat.Ev
namespace Go.Proofs.YtkenfaengphiiaaGreat.Ev
open Go
def No (a:Iv):Prop:=za a=false
theorem no_whole:No ze:=zcv
theorem mul_no {a b:Iv} (h:No a\/No b):No (zf a b):=by
 unfold No at h
 simp only [zf,t_spec_MulI,Tr.get]
 rcases h with h|h
 ·simp only [h,Bool.not_false,ctr];exact no_whole
 ·cases za a
  ·simp only [Bool.not_false,ctr];exact no_whole
  ·simp only [h,Bool.not_false,Bool.not_true,ctr,cfl];exact no_whole
theorem add_no {a b:Iv} (h:No a\/No b):No (zk a b):=by
 unfold No at h
 simp only [zk,zc2,Tr.get]
 rcases h with h|h
 ·simp only [h,Bool.not_false,ctr];exact no_whole
 ·cases za a
  ·simp only [Bool.not_false,ctr];exact no_whole
  ·simp only [h,Bool.not_false,Bool.not_true,ctr,cfl];exact no_whole
theorem sub_no {a b:Iv} (h:No a\/No b):No (zF a b):=by
 unfold No at h
 simp only [zF,t_spec_SubI,Tr.get]
 rcases h with h|h
 ·simp only [h,Bool.not_false,ctr];exact no_whole
 ·cases za a
  ·simp only [Bool.not_false,ctr];exact no_whole
  ·simp only [h,Bool.not_false,Bool.not_true,ctr,cfl];exact no_whole
theorem min_no {a b:Iv} (h:No a):No (F_spec_MinI a b):=by
 unfold No at h
 simp only [F_spec_MinI,t_spec_MinI,Tr.get,h,Bool.not_false,ctr];exact no_whole
theorem sqr_no {a:Iv} (h:No a):No (zao a):=by
 unfold No at h
 simp only [zao,t_spec_SqrI,Tr.get,h,Bool.not_false,ctr];exact no_whole
theorem sqrt_no {a:Iv} (h:No a):No (zar a):=by
 unfold No at h
 simp only [zar,t_spec_SqrtI,Tr.get,h,Bool.not_false,ctr];exact no_whole
theorem div_no {a b:Iv} (h:No b):No (zn a b):=by
 unfold No at h
 simp only [zn,t_spec_DivI,Tr.get]
 cases za a
 ·simp only [Bool.not_false,ctr];exact no_whole
 ·simp only [h,Bool.not_false,Bool.not_true,ctr,cfl];exact no_whole
theorem Norm.whole {a:Iv} (h:Norm a) (hn:No a):a=ze:=by
 unfold No at hn
 rcases h with h|h
 ·rw [hn] at h;cases h
 ·exact h
def iterS {A:Type} (step:I64->A->A):Nat->I64->A->A
 | 0,_,a=>a
 | n+1,k,a=>iterS step n (.w .i64 (k.val+1)) (step k a)
theorem sum_loop {S A:Type} (b:S->Tr (Lp S)) (emb:I64->A->S) (N:I64) (step:I64->A->A) (hN:N.val<=64)
  (hb:∀(k:I64) (a:A),0<=k.val->(b (emb k a)).opt=some (bif decide (k.val<N.val) then .again (emb (.w .i64 (k.val+1)) (step k a)) else .out (emb k a))):
  ∀(n m:Nat) (k:I64) (a:A),0<=k.val->k.val+n=N.val->∃k',(Lf b (n+1+m) (emb k a)).opt=some (emb k' (iterS step n k a)):=by
 intro n
 induction n with
 | zero=>
  intro m k a h0 hk
  have hd:decide (k.val<N.val)=false:=by simp;omega
  rw [show 0+1+m=m+1 by omega]
  refine ⟨k,?_⟩
  simp only [Lf,Tr.opt_bind,hb k a h0,hd,cond_false,Tr.opt,iterS]
 | succ n ih=>
  intro m k a h0 hk
  have hd:decide (k.val<N.val)=true:=by simp;omega
  have e1:(Rng.w .i64 (k.val+1)).val=k.val+1:=wi (by omega) (by omega)
  rw [show n+1+1+m=(n+1+m)+1 by omega]
  obtain ⟨k',h⟩:=ih m (.w .i64 (k.val+1)) (step k a) (by omega) (by omega)
  refine ⟨k',?_⟩
  simp only [Lf,Tr.opt_bind,hb k a h0,hd,cond_true,iterS]
  exact h
end Go.Proofs.YtkenfaengphiiaaGreat.Ev
namespace Go.Proofs.YtkenfaengphiiaaGreat.Ev
open Go
def gLon (p q:zbN):I64:=F_spec_l11Wrap (.w .i64 (q.lon.val-p.lon.val))
def mkG (e:Ell) (p q:zbN):Geo:=⟨e,zcd ⟨1,rfl⟩ e (zbp p.lat),zcd ⟨1,rfl⟩ e (zbp q.lat),F_spec_AbsI (zbp (gLon p q)),decide ((gLon p q).val<0)⟩
def mkS (e:Ell) (p q:zbN):GeoS:=⟨e,zcd ⟨1,rfl⟩ e (zbp p.lat),zcd ⟨1,rfl⟩ e (zbp q.lat),F_spec_AbsI (zbp (gLon p q)),gLon p q,zb5 e,zcz e⟩
theorem make16 {e:Ell} {p q:zbN} (hp:zbb p=true) (hq:zbb q=true):F_spec_l16Make e p q=mkS e p q:=by
 simp only [F_spec_l16Make,t_spec_l16Make,Tr.get,mkS,gLon,slat_eq hp,slat_eq hq]
theorem geo_make {e:Ell} {p q:zbN} (hp:zbb p=true) (hq:zbb q=true):(⟨e,zdq ⟨1,rfl⟩ e (F_impl_LatOf p),zdq ⟨1,rfl⟩ e (F_impl_LatOf q),zeG (zeW (zfn (.w .i64 (q.lon.val-p.lon.val)))),decide ((zfn (.w .i64 (q.lon.val-p.lon.val))).val<0)⟩:Geo)=mkG e p q:=by
 simp only [mkG,gLon,latI_eq,lat_eq hp,lat_eq hq,abs_eq,radians_eq,wrap_eq]
 rfl
theorem areV_eq (a b:zbN):F_impl_areValid a b=(zbb a&&zbb b):=by
 simp only [F_impl_areValid,t_impl_areValid,Tr.get,point_eq]
 cases zbb a<;>simp only [ctr,cfl,Bool.true_and,Bool.false_and]
end Go.Proofs.YtkenfaengphiiaaGreat.Ev
namespace Go.Proofs.YtkenfaengphiiaaGreat.Ev
open Go
def one1:Iv:=zb ⟨1,rfl⟩
def int0:Iv:=zb ⟨0,rfl⟩
def rS (s u m ecc:Iv) (p k:I64):Iv:=
 zar (zF one1 (zf ecc (zF one1 (F_spec_MinI (zao (zk (zf (zad u) (zbA (zf s (zQ (.w .i64 ((Rng.w .i64 (2*k.val)).val+1)) (.w .i64 (2*p.val)))))) (zf m (zad (zf s (zQ (.w .i64 ((Rng.w .i64 (2*k.val)).val+1)) (.w .i64 (2*p.val)))))))) one1))))
structure Two where
 w:Iv
 v:Iv
def stS (s u m ecc:Iv) (p k:I64) (a:Two):Two:=⟨zk a.w (rS s u m ecc p k),zk a.v (zn ecc (zk one1 (rS s u m ecc p k)))⟩
def sumsS (s u m ecc:Iv) (p:I64):Two:=iterS (stS s u m ecc p) p.val.toNat ⟨0,rfl⟩ ⟨int0,int0⟩
def cS (s:Iv) (p:I64):Iv:=zn (zf (zf s s) s) (zb (.w .i64 ((Rng.w .i64 (24*p.val)).val*p.val)))
def nextC (l ecc s n:Iv) (p:I64) (S:Two):Iv:=
 zk l (zf n (zk (zf (zn s (zb p)) S.v) (zed (zf (zf (zf (zQ ⟨3,rfl⟩ ⟨10,rfl⟩) ecc) ecc) (cS s p)))))
def lenC (major ecc s:Iv) (p:I64) (S:Two):Iv:=
 zf major (zk (zf (zn s (zb p)) S.w) (zed (zf (zf (zQ ⟨21,rfl⟩ ⟨20,rfl⟩) ecc) (cS s p))))
def nN (u v x s:Iv):Iv:=zn (zf (zf (zbA u) (zbA v)) (zad x)) (zad s)
def mM (u v s:Iv):Iv:=zn (zF (zad v) (zf (zad u) (zbA s))) (zad s)
theorem both_eq (a:Iv):zcA a=zed a:=by
 simp only [zcA,t_impl_symmetric,zed,t_spec_l16Both,Tr.get,isw_eq,zaS,zcN,ctr]
theorem loopS (h:GeoS) (s n m:Iv) (z1 z2 z3 z4:I64) {p:I64} (hp:1<=p.val/\p.val<=64):
  ∃k',(Lf zcF 70 ⟨p,⟨0,rfl⟩,h.e.a,h.e.num,h.e.den,h.u.lo,h.u.hi,h.v.lo,h.v.hi,h.l.lo,h.l.hi,h.d,h.ecc.lo,h.ecc.hi,h.major.lo,h.major.hi,z1,z2,z3,z4,s.lo,s.hi,n.lo,n.hi,m.lo,m.hi,one1.lo,one1.hi,int0.lo,int0.hi,int0.lo,int0.hi⟩).opt=
   some ⟨p,k',h.e.a,h.e.num,h.e.den,h.u.lo,h.u.hi,h.v.lo,h.v.hi,h.l.lo,h.l.hi,h.d,h.ecc.lo,h.ecc.hi,h.major.lo,h.major.hi,z1,z2,z3,z4,s.lo,s.hi,n.lo,n.hi,m.lo,m.hi,one1.lo,one1.hi,(sumsS s h.u m h.ecc p).w.lo,(sumsS s h.u m h.ecc p).w.hi,(sumsS s h.u m h.ecc p).v.lo,(sumsS s h.u m h.ecc p).v.hi⟩:=by
 have:=sum_loop zcF (fun k a=>⟨p,k,h.e.a,h.e.num,h.e.den,h.u.lo,h.u.hi,h.v.lo,h.v.hi,h.l.lo,h.l.hi,h.d,h.ecc.lo,h.ecc.hi,h.major.lo,h.major.hi,z1,z2,z3,z4,s.lo,s.hi,n.lo,n.hi,m.lo,m.hi,one1.lo,one1.hi,a.w.lo,a.w.hi,a.v.lo,a.v.hi⟩) p (stS s h.u m h.ecc p) hp.2 (fun k a _=>by
  simp only [zcF,Tr.opt]
  cases decide (k.val<p.val)<;>rfl) p.val.toNat (69-p.val.toNat) ⟨0,rfl⟩ ⟨int0,int0⟩ (by decide) (by show (0:Int)+_=_;omega)
 rw [show p.val.toNat+1+(69-p.val.toNat)=70 by omega] at this
 exact this
theorem loopI (g:Geo) (s n m ecc:Iv) (z1 z2 z3 z4:I64) {p:I64} (hp:1<=p.val/\p.val<=64):
  ∃k',(Lf zbK 70 ⟨p,p,⟨0,rfl⟩,g.e.a,g.e.num,g.e.den,g.u.lo,g.u.hi,g.v.lo,g.v.hi,g.lon.lo,g.lon.hi,g.back,z1,z2,z3,z4,s.lo,s.hi,ecc.lo,ecc.hi,n.lo,n.hi,m.lo,m.hi,int0.lo,int0.hi,int0.lo,int0.hi⟩).opt=
   some ⟨p,p,k',g.e.a,g.e.num,g.e.den,g.u.lo,g.u.hi,g.v.lo,g.v.hi,g.lon.lo,g.lon.hi,g.back,z1,z2,z3,z4,s.lo,s.hi,ecc.lo,ecc.hi,n.lo,n.hi,m.lo,m.hi,(sumsS s g.u m ecc p).w.lo,(sumsS s g.u m ecc p).w.hi,(sumsS s g.u m ecc p).v.lo,(sumsS s g.u m ecc p).v.hi⟩:=by
 have:=sum_loop zbK (fun k a=>⟨p,p,k,g.e.a,g.e.num,g.e.den,g.u.lo,g.u.hi,g.v.lo,g.v.hi,g.lon.lo,g.lon.hi,g.back,z1,z2,z3,z4,s.lo,s.hi,ecc.lo,ecc.hi,n.lo,n.hi,m.lo,m.hi,a.w.lo,a.w.hi,a.v.lo,a.v.hi⟩) p (stS s g.u m ecc p) hp.2 (fun k a _=>by
  simp only [zbK,Tr.opt,mulI_F,quot_eq,sqrtI_eq,oneLess_eq,minI_eq,sqrI_F,add_eq,sinI_eq,cosI_eq,zbH,divI_F]
  cases decide (k.val<p.val)<;>rfl) p.val.toNat (69-p.val.toNat) ⟨0,rfl⟩ ⟨int0,int0⟩ (by decide) (by show (0:Int)+_=_;omega)
 rw [show p.val.toNat+1+(69-p.val.toNat)=70 by omega] at this
 exact this
def spA (h:GeoS) (x:Iv) (p:I64):T2 Iv Iv:=
 bif !(za (nN h.u h.v x (ang h.u h.v x))) then ⟨ze,ze⟩ else bif !(za (mM h.u h.v (ang h.u h.v x))) then ⟨ze,ze⟩ else
  ⟨nextC h.l h.ecc (ang h.u h.v x) (nN h.u h.v x (ang h.u h.v x)) p (sumsS (ang h.u h.v x) h.u (mM h.u h.v (ang h.u h.v x)) h.ecc p),lenC h.major h.ecc (ang h.u h.v x) p (sumsS (ang h.u h.v x) h.u (mM h.u h.v (ang h.u h.v x)) h.ecc p)⟩
def imA (g:Geo) (x:Iv) (p:I64):T2 Iv Iv:=
 ⟨nextC g.lon (zb5 g.e) (ang g.u g.v x) (nN g.u g.v x (ang g.u g.v x)) p (sumsS (ang g.u g.v x) g.u (mM g.u g.v (ang g.u g.v x)) (zb5 g.e) p),lenC (zcz g.e) (zb5 g.e) (ang g.u g.v x) p (sumsS (ang g.u g.v x) g.u (mM g.u g.v (ang g.u g.v x)) (zb5 g.e) p)⟩
theorem sp_ok (h:GeoS) (x:Iv) {p:I64} (hp:1<=p.val/\p.val<=64):(t_spec_l16S_next h x p).opt=some (spA h x p):=by
 obtain ⟨k',hl⟩:=loopS h (ang h.u h.v x) (nN h.u h.v x (ang h.u h.v x)) (mM h.u h.v (ang h.u h.v x)) ⟨0,rfl⟩ ⟨0,rfl⟩ ⟨0,rfl⟩ ⟨0,rfl⟩ hp
 have hg:G_spec_l16S_next_11 _=true:=show (Lf zcF 70 _).opt.isSome=true by rw [hl];rfl
 have hv:L_spec_l16S_next_11 _=_:=Tr.zae hl
 simp only [t_spec_l16S_next,Tr.opt,ang_spec,spA]
 show (bif !(za (nN h.u h.v x (ang h.u h.v x))) then _ else _)=_
 cases h1:za (nN h.u h.v x (ang h.u h.v x))
 ·simp only [Bool.not_false,ctr]
 simp only [Bool.not_true,cfl]
 show (bif !(za (mM h.u h.v (ang h.u h.v x))) then _ else _)=_
 cases h2:za (mM h.u h.v (ang h.u h.v x))
 ·simp only [Bool.not_false,ctr]
 simp only [Bool.not_true,cfl]
 simp only [one1,int0,nN,mM] at hg hv
 rw [hg]
 simp only [ctr]
 rw [hv]
 rfl
theorem im_ok (g:Geo) (x:Iv) {p:I64} (hp:1<=p.val/\p.val<=64):(zdH g x p).opt=some (imA g x p):=by
 obtain ⟨k',hl⟩:=loopI g (ang g.u g.v x) (nN g.u g.v x (ang g.u g.v x)) (mM g.u g.v (ang g.u g.v x)) (zb5 g.e) ⟨0,rfl⟩ ⟨0,rfl⟩ ⟨0,rfl⟩ ⟨0,rfl⟩ hp
 have hg:G_impl_geodesic_solve_7 _=true:=show (Lf zbK 70 _).opt.isSome=true by rw [hl];rfl
 have hv:L_impl_geodesic_solve_7 _=_:=Tr.zae hl
 simp only [zdH,Tr.opt,ang_impl,sinI_eq,cosI_eq,divI_F,mulI_F,sub_eq,ecc_eq,zbH,imA]
 simp only [one1,int0,nN,mM] at hg hv
 rw [hg]
 simp only [ctr]
 rw [hv]
 simp only [over_F,mulI_F,add_eq,quot_eq,both_eq,major_eq]
 rfl
theorem iterS_no {step:I64->Two->Two} (hs:∀k a,No (step k a).w/\No (step k a).v):∀(n:Nat) (k:I64) (a:Two),1<=n->No (iterS step n k a).w/\No (iterS step n k a).v
 | 0,k,a,h=>by omega
 | 1,k,a,_=>hs k a
 | n+2,k,a,_=>iterS_no hs (n+1) _ _ (by omega)
theorem rS_no {s u m ecc:Iv} {p k:I64} (h:No m):No (rS s u m ecc p k):=by
 unfold rS
 exact sqrt_no (sub_no (.inr (mul_no (.inr (sub_no (.inr (min_no (sqr_no (add_no (.inr (mul_no (.inl h))))))))))))
theorem sums_no {s u m ecc:Iv} {p:I64} (hp:1<=p.val) (h:No m):No (sumsS s u m ecc p).w/\No (sumsS s u m ecc p).v:=by
 unfold sumsS
 exact iterS_no (fun k a=>⟨add_no (.inr (rS_no h)),add_no (.inr (div_no (add_no (.inr (rS_no h)))))⟩) _ _ _ (by omega)
theorem nextC_no {l ecc s n:Iv} {p:I64} {S:Two} (h:No n\/No S.v):nextC l ecc s n p S=ze:=by
 unfold nextC
 refine (norm_add _ _).whole (add_no (.inr (mul_no ?_)))
 rcases h with h|h
 ·exact .inl h
 ·exact .inr (add_no (.inl (mul_no (.inr h))))
theorem lenC_no {major ecc s:Iv} {p:I64} {S:Two} (h:No S.w):lenC major ecc s p S=ze:=by
 unfold lenC
 exact (norm_mul _ _).whole (mul_no (.inr (add_no (.inl (mul_no (.inr h))))))
theorem next_same (e:Ell) (p q:zbN) (x:Iv) {n:I64} (hn:1<=n.val/\n.val<=64):(imA (mkG e p q) x n).a=(spA (mkS e p q) x n).a:=by
 unfold spA imA
 cases h1:za (nN (mkS e p q).u (mkS e p q).v x (ang (mkS e p q).u (mkS e p q).v x))
 ·simp only [Bool.not_false,ctr]
  exact nextC_no (.inl h1)
 cases h2:za (mM (mkS e p q).u (mkS e p q).v (ang (mkS e p q).u (mkS e p q).v x))
 ·simp only [Bool.not_false,Bool.not_true,ctr,cfl]
  exact nextC_no (.inr (sums_no hn.1 h2).2)
 simp only [Bool.not_true,cfl]
 rfl
theorem len_same (e:Ell) (p q:zbN) (x:Iv) {n:I64} (hn:1<=n.val/\n.val<=64) (h:za (nN (mkS e p q).u (mkS e p q).v x (ang (mkS e p q).u (mkS e p q).v x))=true\/No (mM (mkS e p q).u (mkS e p q).v (ang (mkS e p q).u (mkS e p q).v x))):
  (imA (mkG e p q) x n).b=(spA (mkS e p q) x n).b:=by
 unfold spA imA
 cases h2:za (mM (mkS e p q).u (mkS e p q).v (ang (mkS e p q).u (mkS e p q).v x))
 ·have:=lenC_no (major:=zcz e) (ecc:=zb5 e) (s:=ang (mkS e p q).u (mkS e p q).v x) (p:=n) (S:=sumsS (ang (mkS e p q).u (mkS e p q).v x) (mkS e p q).u (mM (mkS e p q).u (mkS e p q).v (ang (mkS e p q).u (mkS e p q).v x)) (zb5 e) n) (sums_no hn.1 h2).1
  cases h1:za (nN (mkS e p q).u (mkS e p q).v x (ang (mkS e p q).u (mkS e p q).v x))
  ·simp only [Bool.not_false,ctr];exact this
  ·simp only [Bool.not_false,Bool.not_true,ctr,cfl];exact this
 ·rcases h with h|h
  ·rw [h]
   simp only [Bool.not_true,cfl]
   rfl
  ·unfold No at h;rw [h] at h2;cases h2
theorem sp_F (h:GeoS) (x:Iv) {p:I64} (hp:1<=p.val/\p.val<=64):zdW h x p=spA h x p:=Tr.zae (sp_ok h x hp)
theorem sp_G (h:GeoS) (x:Iv) {p:I64} (hp:1<=p.val/\p.val<=64):zdn h x p=true:=by unfold zdn;rw [sp_ok h x hp];rfl
theorem im_F (g:Geo) (x:Iv) {p:I64} (hp:1<=p.val/\p.val<=64):zb6 g x p=imA g x p:=Tr.zae (im_ok g x hp)
theorem im_G (g:Geo) (x:Iv) {p:I64} (hp:1<=p.val/\p.val<=64):zbE g x p=true:=by unfold zbE;rw [im_ok g x hp];rfl
end Go.Proofs.YtkenfaengphiiaaGreat.Ev
namespace Go.Proofs.YtkenfaengphiiaaGreat.Ev
open Go Go.RowKit
set_option maxRecDepth 100000
section
variable [Amb]
def B282:Bod Tryz.prog:=⟨282,Tryz.f282,Tryz.f282.body.getD .skip,Tryz.func282,by kernel_rfl,by kernel_rfl,zK.no _ _⟩
def Tb282:Tb Tryz.prog:= {T:= [Y2,Y30],mix:=mix,Es:= [zaA,E_spec_MeetI,E_spec_l16S_next,E_spec_l16S_start],Bs:= [],d:=1}
def zfD (d0:GeoS) (a0:I64):Tr (Iv):=
 let c1:=zcP d0;.br (zdn d0 c1 a0) (let c2:=zdW d0 c1 a0;let c3:=zas c1 c2.a;.br (!(za c2.a)) (.leaf c1) (.br (!c3.b) (.leaf c1) (.br (zdn d0 c3.a a0) (let c5:=zdW d0 c3.a a0;let c6:=zas c3.a c5.a;.br (!(za c5.a)) (.leaf c3.a) (.br (!c6.b) (.leaf c3.a) (.br (zdn d0 c6.a a0) (let c8:=zdW d0 c6.a a0;let c9:=zas c6.a c8.a;.br (!(za c8.a)) (.leaf c6.a) (.br (!c9.b) (.leaf c6.a) (.br (zdn d0 c9.a a0) (let c11:=zdW d0 c9.a a0;let c12:=zas c9.a c11.a;.br (!(za c11.a)) (.leaf c9.a) (.br (!c12.b) (.leaf c9.a) (.leaf c12.a))) (.bad)))) (.bad)))) (.bad)))) (.bad)
theorem r_spec_l16S_omega (d0:GeoS) (a0:I64):capRun Tb282 B282 [.ptr 0 0,enc a0] [(0,Cap.ec d0)] 1 (Iv)=(zfD d0 a0).opt:=by kernel_rfl
def F_spec_l16S_omega:GeoS->I64->Iv:=fun d0 a0=>(zfD d0 a0).get
def G_spec_l16S_omega:GeoS->I64->Bool:=fun d0 a0=>(zfD d0 a0).opt.isSome
def E_spec_l16S_omega:Ent Tryz.prog:= .p2 Tb282 B282 G_spec_l16S_omega F_spec_l16S_omega fun d0 a0 h=>(r_spec_l16S_omega d0 a0).trans (Tr.get_some h)
def B288:Bod Tryz.prog:=⟨288,Tryz.f288,Tryz.f288.body.getD .skip,Tryz.func288,by kernel_rfl,by kernel_rfl,zK.no _ _⟩
def Tb288:Tb Tryz.prog:= {T:= [Y2,Y30],mix:=mix,Es:= [zaW,E_impl_MeetI,E_impl_geodesic_solve,E_impl_geodesic_start],Bs:= [],d:=1}
def zdI (d0:Geo) (a0:I64):Tr (Iv):=
 let c1:=zcR d0;.br (zbE d0 c1 a0) (let c2:=zb6 d0 c1 a0;let c3:=zcU c1 c2.a;.br (zX c2.a) (.leaf c1) (.br (!c3.b) (.leaf c1) (.br (zbE d0 c3.a a0) (let c5:=zb6 d0 c3.a a0;let c6:=zcU c3.a c5.a;.br (zX c5.a) (.leaf c3.a) (.br (!c6.b) (.leaf c3.a) (.br (zbE d0 c6.a a0) (let c8:=zb6 d0 c6.a a0;let c9:=zcU c6.a c8.a;.br (zX c8.a) (.leaf c6.a) (.br (!c9.b) (.leaf c6.a) (.br (zbE d0 c9.a a0) (let c11:=zb6 d0 c9.a a0;let c12:=zcU c9.a c11.a;.br (zX c11.a) (.leaf c9.a) (.br (!c12.b) (.leaf c9.a) (.leaf c12.a))) (.bad)))) (.bad)))) (.bad)))) (.bad)
theorem r_impl_geodesic_omega (d0:Geo) (a0:I64):capRun Tb288 B288 [.ptr 0 0,enc a0] [(0,Cap.ec d0)] 1 (Iv)=(zdI d0 a0).opt:=by kernel_rfl
def zfa:Geo->I64->Iv:=fun d0 a0=>(zdI d0 a0).get
def ze8:Geo->I64->Bool:=fun d0 a0=>(zdI d0 a0).opt.isSome
def E_impl_geodesic_omega:Ent Tryz.prog:= .p2 Tb288 B288 ze8 zfa fun d0 a0 h=>(r_impl_geodesic_omega d0 a0).trans (Tr.get_some h)
def B283:Bod Tryz.prog:=⟨283,Tryz.f283,Tryz.f283.body.getD .skip,Tryz.func283,by kernel_rfl,by kernel_rfl,zK.no _ _⟩
def Tb283:Tb Tryz.prog:= {T:= [Y2,Y30],mix:=mix,Es:= [zaA,E_spec_l05Turn],Bs:= [],d:=1}
def t_spec_l16Short (a0:Iv):Tr (Bool):=
 .br (za a0) (.br (zcu ⟨2,rfl⟩) (.leaf (decide (a0.hi.val<(zbw ⟨2,rfl⟩).lo.val))) (.bad)) (.leaf false)
theorem r_spec_l16Short (a0:Iv):Tb283.run B283 [enc a0] (Bool)=(t_spec_l16Short a0).opt:=by kernel_rfl
def F_spec_l16Short:Iv->Bool:=fun a0=>(t_spec_l16Short a0).get
def G_spec_l16Short:Iv->Bool:=fun a0=>(t_spec_l16Short a0).opt.isSome
def E_spec_l16Short:Ent Tryz.prog:= .of1 Tb283 B283 G_spec_l16Short F_spec_l16Short fun a0 h=>(r_spec_l16Short a0).trans (Tr.get_some h)
def B175:Bod Tryz.prog:=⟨175,Tryz.f175,Tryz.f175.body.getD .skip,Tryz.func175,by kernel_rfl,by kernel_rfl,zK.no _ _⟩
def Tb175:Tb Tryz.prog:= {T:= [Y2,Y30],mix:=mix,Es:= [zaA,E_spec_MeetI,E_spec_l16S_bounds,E_spec_l16S_omega,E_spec_l16Short,E_spec_l16S_next],Bs:= [],d:=1}
def zeY (d0:GeoS) (a0:I64):Tr (Iv):=
 let c1:=zbB d0;.br (G_spec_l16S_omega d0 a0) (let c2:=F_spec_l16S_omega d0 a0;.br (G_spec_l16Short c2) (.br (!(F_spec_l16Short c2)) (.leaf c1) (.br (zdn d0 c2 a0) (let c4:=zdW d0 c2 a0;let c5:=zas c1 c4.b;.br (!(za c4.b)) (.leaf c1) (.br (!c5.b) (.leaf c1) (.leaf c5.a))) (.bad))) (.bad)) (.bad)
theorem r_spec_l16S_length (d0:GeoS) (a0:I64):capRun Tb175 B175 [.ptr 0 0,enc a0] [(0,Cap.ec d0)] 1 (Iv)=(zeY d0 a0).opt:=by kernel_rfl
def F_spec_l16S_length:GeoS->I64->Iv:=fun d0 a0=>(zeY d0 a0).get
def G_spec_l16S_length:GeoS->I64->Bool:=fun d0 a0=>(zeY d0 a0).opt.isSome
def E_spec_l16S_length:Ent Tryz.prog:= .p2 Tb175 B175 G_spec_l16S_length F_spec_l16S_length fun d0 a0 h=>(r_spec_l16S_length d0 a0).trans (Tr.get_some h)
def B181:Bod Tryz.prog:=⟨181,Tryz.f181,Tryz.f181.body.getD .skip,Tryz.func181,by kernel_rfl,by kernel_rfl,zK.no _ _⟩
def Tb181:Tb Tryz.prog:= {T:= [Y2,Y30],mix:=mix,Es:= [zaW,E_impl_MeetI,zd7,E_impl_geodesic_bounds,E_impl_geodesic_omega,E_impl_geodesic_solve],Bs:= [],d:=1}
def zd0 (d0:Geo) (a0:I64):Tr (Iv):=
 let c1:=zds d0;.br (ze8 d0 a0) (let c2:=zfa d0 a0;.br (zbE d0 c2 a0) (let c3:=zb6 d0 c2 a0;let c4:=zcU c1 c3.b;.br (decide (c2.hi.val>=(zaV ⟨2,rfl⟩).lo.val)) (.leaf c1) (.br (zX c3.b) (.leaf c1) (.br (!c4.b) (.leaf c1) (.leaf c4.a)))) (.bad)) (.bad)
theorem r_impl_geodesic_size (d0:Geo) (a0:I64):capRun Tb181 B181 [.ptr 0 0,enc a0] [(0,Cap.ec d0)] 1 (Iv)=(zd0 d0 a0).opt:=by kernel_rfl
def F_impl_geodesic_size:Geo->I64->Iv:=fun d0 a0=>(zd0 d0 a0).get
def zfB:Geo->I64->Bool:=fun d0 a0=>(zd0 d0 a0).opt.isSome
def E_impl_geodesic_size:Ent Tryz.prog:= .p2 Tb181 B181 zfB F_impl_geodesic_size fun d0 a0 h=>(r_impl_geodesic_size d0 a0).trans (Tr.get_some h)
end
end Go.Proofs.YtkenfaengphiiaaGreat.Ev
namespace Go.Proofs.YtkenfaengphiiaaGreat.Ev
open Go
theorem some_bif {γ:Type} (c:Bool) (a b:γ):(bif c then some a else some b)=some (bif c then a else b):=by cases c<;>rfl
def omStep (f:Iv->Iv):Nat->Iv->Iv
 | 0,x=>x
 | n+1,x=>bif !(za (f x)) then x else bif !((zas x (f x)).b) then x else omStep f n (zas x (f x)).a
theorem om_spec (h:GeoS) {p:I64} (hp:1<=p.val/\p.val<=64):(zfD h p).opt=some (omStep (fun x=>(spA h x p).a) 4 (zcP h)):=by
 simp only [zfD,Tr.opt,sp_G _ _ hp,sp_F _ _ hp,ctr,some_bif,omStep]
theorem om_impl (g:Geo) {p:I64} (hp:1<=p.val/\p.val<=64):(zdI g p).opt=some (omStep (fun x=>(imA g x p).a) 4 (zcR g)):=by
 simp only [zdI,Tr.opt,im_G _ _ hp,im_F _ _ hp,ctr,some_bif,omStep,isw_eq,meet_eq]
def omA (e:Ell) (p q:zbN) (n:I64):Iv:=omStep (fun x=>(spA (mkS e p q) x n).a) 4 (zcP (mkS e p q))
theorem om_F_spec (e:Ell) (p q:zbN) {n:I64} (hn:1<=n.val/\n.val<=64):F_spec_l16S_omega (mkS e p q) n=omA e p q n:=Tr.zae (om_spec (mkS e p q) hn)
theorem om_G_spec (e:Ell) (p q:zbN) {n:I64} (hn:1<=n.val/\n.val<=64):G_spec_l16S_omega (mkS e p q) n=true:=by unfold G_spec_l16S_omega;rw [om_spec (mkS e p q) hn];rfl
theorem om_F_impl (e:Ell) (p q:zbN) {n:I64} (hn:1<=n.val/\n.val<=64):zfa (mkG e p q) n=omA e p q n:=by
 have h:zfa (mkG e p q) n=_:=Tr.zae (om_impl (mkG e p q) hn)
 rw [h,start_eq (mkG e p q) (mkS e p q) rfl rfl]
 simp only [next_same e p q _ hn]
 rfl
theorem om_G_impl (e:Ell) (p q:zbN) {n:I64} (hn:1<=n.val/\n.val<=64):ze8 (mkG e p q) n=true:=by unfold ze8;rw [om_impl (mkG e p q) hn];rfl
theorem norm_meet {a b:Iv} (ha:Norm a) (hb:za b=true) (h:(zas a b).b=true):Norm (zas a b).a:=by
 rcases ha with ha|ha
 ·left
  have h1:=(zaN a).1 ha
  have h2:=(zaN b).1 hb
  simp only [zas,zcM,Tr.get,ha,hb,Bool.not_true,cfl] at h ⊢
  have m1:=max_l a.lo b.lo
  have m2:=min_l a.hi b.hi
  by_cases hlt:(zu a.lo b.lo).val>(zC a.hi b.hi).val
  ·simp only [hlt,decide_true,ctr] at h;cases h
  ·simp only [hlt,decide_false,cfl]
   refine (zaN _).2 ?_
   simp only
   omega
 ·left
  rw [ha] at h ⊢
  simp only [zas,zcM,Tr.get,zcv,hb,Bool.not_false,Bool.not_true,ctr,cfl] at h ⊢
theorem norm_omStep {f:Iv->Iv}:∀(n:Nat) (x:Iv),Norm x->Norm (omStep f n x)
 | 0,x,h=>h
 | n+1,x,h=>by
  simp only [omStep]
  cases h1:za (f x)
  ·simp only [Bool.not_false,ctr];exact h
  cases h2:(zas x (f x)).b
  ·simp only [Bool.not_false,Bool.not_true,ctr,cfl];exact h
  simp only [Bool.not_true,cfl]
  exact norm_omStep n _ (norm_meet h h1 h2)
theorem norm_omA (e:Ell) (p q:zbN) (n:I64):Norm (omA e p q n):=by
 refine norm_omStep 4 _ ?_
 simp only [zcP,zfC,Tr.get]
 exact norm_hull _ _
theorem q2_val:(zbw ⟨2,rfl⟩).lo.val=13493037704:=by kernel_rfl
theorem short_G (x:Iv):G_spec_l16Short x=true:=by
 obtain ⟨g2,_⟩:=turn_in (k:=⟨2,rfl⟩) (by decide) (by decide)
 unfold G_spec_l16Short
 simp only [t_spec_l16Short,Tr.opt,g2,ctr]
 cases za x<;>rfl
theorem short_eq {x:Iv} (h:Norm x):decide (x.hi.val>=(zaV ⟨2,rfl⟩).lo.val)= !(F_spec_l16Short x):=by
 obtain ⟨g2,e2⟩:=turn_in (k:=⟨2,rfl⟩) (by decide) (by decide)
 simp only [F_spec_l16Short,t_spec_l16Short,Tr.get,turnI_eq,e2,g2,q2_val,ctr]
 rcases h with h|h
 ·simp only [h,ctr]
  by_cases hl:x.hi.val<13493037704
  ·simp [hl]
  ·simp [hl];omega
 ·rw [h,zcv]
  simp only [cfl]
  decide +kernel
end Go.Proofs.YtkenfaengphiiaaGreat.Ev
