/- The law FnLocal gives true, whatever bytes come in, where the listed tables hold what the program's text lays. The card: the tables tied to the text. No other conditions. (One of the texts of its proof, put together by a program of this session.) -/
import Derived.Test.YtlolpmmloolieaaGreatDoorZVL
import Derived.Test.YtlolpmmloolieaaGreatDoorZB
import Derived.Test.YtlolpmmloolieaaGreatDoorZD
set_option linter.unusedSectionVars false
set_option linter.unusedSimpArgs false
set_option linter.unusedVariables false
noncomputable section
namespace Go.Proofs.YtlolpmmloolieaaGreatDoor.Pure
open Go Go.RowKit Go.Proofs.YtlolpmmloolieaaGreatDoor.PFnLocal Go.Proofs.YtlolpmmloolieaaGreatDoor.DFnLocal Go.Proofs.YtlolpmmloolieaaGreatDoorW.PrintWords Go.Proofs.YtlolpmmloolieaaGreatDoorW.PrintLast Go.Proofs.YtlolpmmloolieaaGreatDoorW.PrintMore
open Go.Proofs.YtlolpmmloolieaaGreatDoor.Ev hiding mn zfG neg_eq sq_lt sub_eq
set_option maxRecDepth 100000
theorem tree_ok [Amb] {e:Ell} {p q:Ev.Place} (h1:zak e=true) (h2:za1 p.pt=true) (h3:zV p.h ⟨-20000000,rfl⟩ ⟨20000000000,rfl⟩=true) (h4:0<=p.h.val)
  (h5:za1 q.pt=true) (h6:zV q.h ⟨-20000000,rfl⟩ ⟨20000000000,rfl⟩=true) (b:Bool):(t_laws_FnLocal b e p q).opt=some true:=by
 cases b
 case true=>rfl
 have hv:zac p=true:=by rw [plc_eq,h2,h3];rfl
 have hp:=Nc.InV.place h1 p
 have hq:=Nc.InV.place h1 q
 have e1:zba e p q=⟨za3 (zeh (toC e q) (toC e p)),⟨0,rfl⟩⟩:=by
  simp only [zba,zcv,Tr.get,diffP_eq,h1,h2,h3,h5,h6,Bool.and_self,Bool.not_true,cfl,norm_eq]
  simp [cfl]
 have e2:zba e q p=⟨za3 (zeh (toC e p) (toC e q)),⟨0,rfl⟩⟩:=by
  simp only [zba,zcv,Tr.get,diffP_eq,h1,h2,h3,h5,h6,Bool.and_self,Bool.not_true,cfl,norm_eq]
  simp [cfl]
 have hs:∀a b:Vec,zeh a b=⟨zO a.x b.x,zO a.y b.y,zO a.z b.z⟩:=fun a b=>by simp only [zeh,t_spec_SubV,Tr.get]
 have e4:zcR e p=⟨toC e p,⟨0,rfl⟩⟩:=by
  simp only [zcR,zd0,Tr.get,ell_eq,h1,hv,Bool.not_true,toC_eq h2 h3];rfl
 have o1:=Nc.chord_ov hp hq
 have d:=hq.minus hp
 have o2:=Nc.local_ov d (Nc.In.rad (n:=p.pt.lat)) (Nc.In.rad (n:=p.pt.lon))
 have o3:=Nc.inside_no h1 h4
 generalize hdv:zeh (toC e q) (toC e p)=dv at *
 have hd:dv=⟨zO (toC e q).x (toC e p).x,zO (toC e q).y (toC e p).y,zO (toC e q).z (toC e p).z⟩:=by rw [<- hdv,hs]
 rw [<- hd] at o1 o2
 rw [<- hs] at o1
 have e3:ze1 e p q=⟨⟨zO (zM dv.y (zbi (zX p.pt.lon))) (zM dv.x (za9 (zX p.pt.lon))),
   zO (zM dv.z (zbi (zX p.pt.lat))) (zM (zaE (zM dv.x (zbi (zX p.pt.lon))) (zM dv.y (za9 (zX p.pt.lon)))) (za9 (zX p.pt.lat))),
   zaE (zM dv.z (za9 (zX p.pt.lat))) (zM (zaE (zM dv.x (zbi (zX p.pt.lon))) (zM dv.y (za9 (zX p.pt.lon)))) (zbi (zX p.pt.lat)))⟩,⟨0,rfl⟩⟩:=by
  simp only [ze1,t_impl_LocalTo,Tr.get,diffP_eq,h1,h2,h3,h5,h6,Bool.and_self,Bool.not_true,ctr,cfl,hdv,lat_eq h2,lon_eq h2,mulI_F,Ev.sub_eq,add_eq,cosI_eq,sinI_eq]
  simp [cfl]
 have e5:zdm e (toC e p)=⟨zcP (zaE (zaD (zU (zch (toC e p)) (zbT e))) (zaD (zU (toC e p).z (zcO e)))) (zA ⟨1,rfl⟩),⟨0,rfl⟩⟩:=by
  rw [insideOf_eq]
  simp only [F_spec_InsideOf,t_spec_InsideOf,Tr.get,sell_eq,h1,Bool.not_true,ctr,cfl]
 have hpt:=Tx.pl_text hv
 have g1:G_impl_PlaceText p=true:=hv
 have g2:G_impl_ReadPlace (zfg p)=true:=decide_eq_true (Nat.le_trans hpt.2 (by decide))
 have e6:F_impl_ReadPlace (zfg p)=⟨p,true⟩:=Tx.read_text hv
 have n3:∀x:I64,¬x.val=1->(x.val != 1)=true:=fun x h=>by simpa using h
 have n3':=n3 _ o3
 generalize zcP (zaE (zaD (zU (zch (toC e p)) (zbT e))) (zaD (zU (toC e p).z (zcO e)))) (zA ⟨1,rfl⟩)=li at *
 simp only [t_laws_FnLocal,g1,g2,e1,e2,e3,e4,e5,e6,o1,o2,n3']
 simp [Tr.opt]
theorem pt_ok {a b:Int} (h:VP a b):∃p:zdz,p.lat.val=a/\p.lon.val=b/\za1 p=true:=by
 obtain ⟨h1,h2,h3,h4⟩:=h
 refine ⟨⟨.w .i64 a,.w .i64 b⟩,wi (by omega) (by omega),wi (by omega) (by omega),Nc.ok_iff.2 ?_⟩
 simp only
 rw [wi (n:=a) (by omega) (by omega),wi (n:=b) (by omega) (by omega)]
 omega
theorem ell_of {a n d:Int} (h:EP a n d):∃e:Ell,e.a.val=a/\e.num.val=n/\e.den.val=d/\zak e=true:=by
 obtain ⟨⟨a1,a2⟩,⟨d1,d2⟩,n1,n2⟩:=h
 refine ⟨⟨.w .i64 a,.w .i64 n,.w .i64 d⟩,wi (by omega) (by omega),wi (by omega) (by omega),wi (by omega) (by omega),?_⟩
 have ea:=wi (n:=a) (by omega) (by omega)
 have en:=wi (n:=n) (by omega) (by omega)
 have ed:=wi (n:=d) (by omega) (by omega)
 have t:Int.tdiv d 100=d/100:=Int.tdiv_eq_ediv_of_nonneg (by omega)
 have eq:=wi (n:=d/100) (by omega) (by omega)
 have c:n<=d/100:=by omega
 simp only [zak,t_spec_l12Ok,Tr.get,zed,ea,en,ed,t,eq]
 simp [a1,a2,d1,d2,n1,c]
theorem hgt_of {h:Int} (k1:0<=h) (k2:h<=20000000):∃x:I64,x.val=h/\zV x ⟨-20000000,rfl⟩ ⟨20000000000,rfl⟩=true:=by
 refine ⟨.w .i64 h,wi (by omega) (by omega),?_⟩
 rw [zed,wi (n:=h) (by omega) (by omega)]
 simp only [decide_eq_true_eq];omega
def B5 [Amb]:Bod Tryz.prog:=⟨5,Tryz.f5,Tryz.f5.body.getD .skip,Tryz.func5,by kernel_rfl,by kernel_rfl,zai.no _ _⟩
def B6 [Amb]:Bod Tryz.prog:=⟨6,Tryz.f6,Tryz.f6.body.getD .skip,Tryz.func6,by kernel_rfl,by kernel_rfl,zai.no _ _⟩
def B4 [Amb]:Bod Tryz.prog:=⟨4,Tryz.f4,Tryz.f4.body.getD .skip,Tryz.func4,by kernel_rfl,by kernel_rfl,zai.no _ _⟩
theorem FnLocal_walk (a0:Option Addr) (len0 cap0:Nat) (z0:List Int) (a1:Option Addr) (len1 cap1:Nat) (z1:List Int) (w:World) (hI:∀A:Amb,@Ev.Inv0 A w) (w0:(a0=none/\len0=0/\cap0=0/\z0= [])\/∃x,a0=some x/\len0<=cap0/\cap0<=maxLen/\z0.length=cap0/\(∀i,i<z0.length->w.cell? (x.add i)=some (.int .u8 (z0.getD i 0)))/\∀n∈z0,(Lit.int .u8 n).wf=true) (y0:len0*1<=140737488351232) (w1:(a1=none/\len1=0/\cap1=0/\z1= [])\/∃x,a1=some x/\len1<=cap1/\cap1<=maxLen/\z1.length=cap1/\(∀i,i<z1.length->w.cell? (x.add i)=some (.int .u8 (z1.getD i 0)))/\∀n∈z1,(Lit.int .u8 n).wf=true) (y1:len1*1<=140737488351232):
  Calls Tryz.prog 3 #[.slice a0 len0 cap0,.slice a1 len1 cap1] w fun e w'=>e= .returned (.bool true)/\Below w.heap.size w w':=by
 obtain ⟨l0,rfl,hr0,hm0,hw0,hc0⟩:=ReadsInt.ofRowC w0
 obtain ⟨l1,rfl,hr1,hm1,hw1,hc1⟩:=ReadsInt.ofRowC w1
 replace hr0:=Kd.C_of_reads (d:=(0:Int)) (h1:=fun _=>rfl) hr0
 replace hr1:=Kd.C_of_reads (d:=(0:Int)) (h1:=fun _=>rfl) hr1
 obtain ⟨a,b,c,e0,v1,k1,k2⟩:=place_ok (bytes_of hw0) (k:=20) (by decide)
 obtain ⟨a',b',c',e0',v1',k1',k2'⟩:=place_ok (bytes_of hw1) (k:=20) (by decide)
 obtain ⟨x,n,d,e1,v2⟩:=ell_ok (bytes_of hw1)
 obtain ⟨q,rfl,rfl,hq⟩:=pt_ok v1
 obtain ⟨q',rfl,rfl,hq'⟩:=pt_ok v1'
 obtain ⟨e,rfl,rfl,rfl,he⟩:=ell_of v2
 obtain ⟨h,rfl,hh⟩:=hgt_of k1 k2
 obtain ⟨h',rfl,hh'⟩:=hgt_of k1' k2'
 obtain ⟨y,ey⟩:∃y,laws_d8Long.f l0 l1=some y:=by
  unfold laws_d8Long.f
  by_cases h:(l0.length:Int)>1048576
  ·rw [if_pos h];exact ⟨_,rfl⟩
  ·rw [if_neg h];exact ⟨_,rfl⟩
 letI A:Amb:=⟨fun k=>if k=0 then a0 else a1,fun k=>if k=0 then l0.length else l1.length,fun k=>if k=0 then cap0 else cap1,fun w'=>Below w.heap.size w w',fun k=>by
  show inB .i64 (((if k=0 then l0.length else l1.length:Nat)):Int)=true
  have:=hlb l0.length y0;have:=hlb l1.length y1
  split<;>assumption⟩
 have h0:Orac Tryz.prog 4 [0,1] y:=fun w' hb=>does_of B4 ((laws_d8Long.calls a0 cap0 l0 a1 cap1 l1 y w' (Kd.C_below hr0 hb) hc0 (Kd.C_below hr1 hb) hc1 ey).mono fun e w'' ⟨he,nd,hd⟩=>⟨_,he,fun ρ=> .bool _,by subst hd;exact zf (Below.refl _ _) nd⟩)
 have h1:Orac Tryz.prog 5 [1] e:=fun w' hb=>does_of B5 ((zdG.calls a1 cap1 l1 _ _ _ w' (Kd.C_below hr1 hb) hc1 e1).mono fun e' w'' ⟨he,hd⟩=>⟨_,he,fun ρ=> .agg (.cons (.i64 _) (.cons (.i64 _) (.cons (.i64 _) .nil))),hd⟩)
 have h2:Orac Tryz.prog 6 [0] (⟨q,h⟩:Ev.Place):=fun w' hb=>does_of B6 ((zfo.calls 20 a0 cap0 l0 _ _ _ w' (Kd.C_below hr0 hb) hc0 e0).mono fun e' w'' ⟨he,hd⟩=>⟨_,he,fun ρ=> .agg (.cons (.i64 _) (.cons (.i64 _) (.cons (.i64 _) .nil))),hd⟩)
 have h3:Orac Tryz.prog 6 [1] (⟨q',h'⟩:Ev.Place):=fun w' hb=>does_of B6 ((zfo.calls 20 a1 cap1 l1 _ _ _ w' (Kd.C_below hr1 hb) hc1 e0').mono fun e' w'' ⟨he,hd⟩=>⟨_,he,fun ρ=> .agg (.cons (.i64 _) (.cons (.i64 _) (.cons (.i64 _) .nil))),hd⟩)
 have ha:Am w:=fun w' hb=>⟨hb,Inv0.below (hI A) hb (Nat.le_refl _)⟩
 have run:(Tb3 y e ⟨q,h⟩ ⟨q',h'⟩ h0 h1 h2 h3).run B3 [.arg 0,.arg 1] Bool=some true:=(r_laws_FnLocal y e ⟨q,h⟩ ⟨q',h'⟩ h0 h1 h2 h3).trans (tree_ok he hq hh k1 hq' hh' y)
 generalize Tb3 y e ⟨q,h⟩ ⟨q',h'⟩ h0 h1 h2 h3=tb at run
 exact law_calls (b:=B3) (ks:=([0,1]:List Nat)) run ha
end Go.Proofs.YtlolpmmloolieaaGreatDoor.Pure
