/- The law FnCartesian gives true, whatever bytes come in. No conditions. (One of the texts of its proof, put together by a program of this session.) -/
import Derived.Test.YtfcjhkkpbnobhaaGreatZW5
import Derived.Test.YtfcjhkkpbnobhaaGreatZB
import Derived.Test.YtfcjhkkpbnobhaaGreatZX2
import Derived.Test.YtfcjhkkpbnobhaaGreatZD
set_option linter.unusedSectionVars false
set_option linter.unusedSimpArgs false
set_option linter.unusedVariables false
noncomputable section
namespace Go.Proofs.YtfcjhkkpbnobhaaGreat.Pure
open Go Go.RowKit Go.Proofs.YtfcjhkkpbnobhaaGreat.PFnCartesian Go.Proofs.YtfcjhkkpbnobhaaGreat.DFnCartesian Go.Proofs.YtfcjhkkpbnobhaaGreatW.PrintWords Go.Proofs.YtfcjhkkpbnobhaaGreatW.PrintLast Go.Proofs.YtfcjhkkpbnobhaaGreatW.PrintMore
open Go.Proofs.YtfcjhkkpbnobhaaGreat.Ev hiding mn zfw neg_eq sq_lt sub_eq
open Nc (from_law)
set_option maxRecDepth 100000
theorem hgt_G {h:I64}:G_spec_HeightI h=true:=by
 unfold G_spec_HeightI
 simp only [zdc,q_G_spec]
 cases zar h ⟨-20000000,rfl⟩ ⟨20000000000,rfl⟩<;>rfl
theorem side_at {e:Ell} (h:zah e=true) (v:Vec) (n:I64):zbd e v n=zaa e (zab v) v.z n:=by
 simp only [zbd,t_impl_SideAt,zaa,zdV,Tr.get,ell_eq,h,Bool.not_true,cfl,flat_eq,sinAt_eq,cosAt_eq,radN_eq,ecc_eq,mulI_F,Ev.sub_eq,zbK,t_impl_at,zo,zfE]
theorem lat_same {e:Ell} (h:zah e=true) (v:Vec):zez e v=zaW e v:=by
 have h1:zez e v=_:=Tr.zaB (lat_impl e v)
 have h2:zaW e v=_:=Tr.zaB (lat_spec e v)
 rw [h1,h2]
 simp only [side_at h]
theorem fromCartesian_eq (e:Ell) (v:Vec):zda e v=zaS e v:=by
 simp only [zda,zed,zaS,zc3,Tr.get]
 rw [far_eq]
 by_cases h:(zcE e v).val=0
 ·simp only [lat_same (far_ok h),isw_eq,siw_eq,flat_eq,weight_eq,major_eq,sqrtI_eq,mulI_F,Ev.sub_eq,add_eq,cosI_eq,sinI_eq,dirI_eq]
 ·have hb:((zcE e v).val != 0)=true:=by simpa using h
  simp only [hb,ctr]
theorem tree_ok {e:Ell} {p:Ev.Place} (h1:zah e=true) (h2:zaC p.pt=true) (h3:zar p.h ⟨-20000000,rfl⟩ ⟨20000000000,rfl⟩=true) (h4:0<=p.h.val) (b:Bool):(t_laws_FnCartesian b e p).opt=some true:=by
 have L:=from_law h1 h2 h3 h4
 have hv:zdq p=true:=by rw [plc_eq,h2,h3];rfl
 have e1:zdT e p=⟨toC e p,⟨0,rfl⟩⟩:=by
  simp only [zdT,zft,Tr.get,ell_eq,h1,hv,Bool.not_true,toC_eq h2 h3];rfl
 cases b
 ·simp only [t_laws_FnCartesian,e1,fromCartesian_eq,hgt_G]
  generalize zaS e (toC e p)=y at *
  by_cases c:y.d.val=0
  ·obtain ⟨a1,a2,a3⟩:=L c
   have cb:(y.d.val != 0)=false:=by simp [c]
   rw [cb,a1,a2,a3];rfl
  ·have cb:(y.d.val != 0)=true:=by simp [c]
   rw [cb]
   show some (y.d.val==y.d.val)=some true
   simp
 ·rfl
theorem pt_ok {a b:Int} (h:VP a b):∃p:zdn,p.lat.val=a/\p.lon.val=b/\zaC p=true:=by
 obtain ⟨h1,h2,h3,h4⟩:=h
 refine ⟨⟨.w .i64 a,.w .i64 b⟩,wi (by omega) (by omega),wi (by omega) (by omega),Nc.ok_iff.2 ?_⟩
 simp only
 rw [wi (n:=a) (by omega) (by omega),wi (n:=b) (by omega) (by omega)]
 omega
theorem ell_of {a n d:Int} (h:EP a n d):∃e:Ell,e.a.val=a/\e.num.val=n/\e.den.val=d/\zah e=true:=by
 obtain ⟨⟨a1,a2⟩,⟨d1,d2⟩,n1,n2⟩:=h
 refine ⟨⟨.w .i64 a,.w .i64 n,.w .i64 d⟩,wi (by omega) (by omega),wi (by omega) (by omega),wi (by omega) (by omega),?_⟩
 have ea:=wi (n:=a) (by omega) (by omega)
 have en:=wi (n:=n) (by omega) (by omega)
 have ed:=wi (n:=d) (by omega) (by omega)
 have t:Int.tdiv d 100=d/100:=Int.tdiv_eq_ediv_of_nonneg (by omega)
 have eq:=wi (n:=d/100) (by omega) (by omega)
 have c:n<=d/100:=by omega
 simp only [zah,t_spec_l12Ok,Tr.get,ze5,ea,en,ed,t,eq]
 simp [a1,a2,d1,d2,n1,c]
theorem hgt_of {h:Int} (k1:0<=h) (k2:h<=20000000):∃x:I64,x.val=h/\zar x ⟨-20000000,rfl⟩ ⟨20000000000,rfl⟩=true:=by
 refine ⟨.w .i64 h,wi (by omega) (by omega),?_⟩
 rw [ze5,wi (n:=h) (by omega) (by omega)]
 simp only [decide_eq_true_eq];omega
def B36 [Amb]:Bod Tryz.prog:=⟨36,Tryz.f36,Tryz.f36.body.getD .skip,Tryz.func36,by kernel_rfl,by kernel_rfl,z8.no _ _⟩
def B37 [Amb]:Bod Tryz.prog:=⟨37,Tryz.f37,Tryz.f37.body.getD .skip,Tryz.func37,by kernel_rfl,by kernel_rfl,z8.no _ _⟩
def B19 [Amb]:Bod Tryz.prog:=⟨19,Tryz.f19,Tryz.f19.body.getD .skip,Tryz.func19,by kernel_rfl,by kernel_rfl,z8.no _ _⟩
theorem FnCartesian_walk (a0:Option Addr) (len0 cap0:Nat) (z0:List Int) (a1:Option Addr) (len1 cap1:Nat) (z1:List Int) (w:World) (w0:(a0=none/\len0=0/\cap0=0/\z0= [])\/∃x,a0=some x/\len0<=cap0/\cap0<=maxLen/\z0.length=cap0/\(∀i,i<z0.length->w.cell? (x.add i)=some (.int .u8 (z0.getD i 0)))/\∀n∈z0,(Lit.int .u8 n).wf=true) (y0:len0*1<=140737488351232) (w1:(a1=none/\len1=0/\cap1=0/\z1= [])\/∃x,a1=some x/\len1<=cap1/\cap1<=maxLen/\z1.length=cap1/\(∀i,i<z1.length->w.cell? (x.add i)=some (.int .u8 (z1.getD i 0)))/\∀n∈z1,(Lit.int .u8 n).wf=true) (y1:len1*1<=140737488351232):
  Calls Tryz.prog 6 #[.slice a0 len0 cap0,.slice a1 len1 cap1] w fun e w'=>e= .returned (.bool true)/\Below w.heap.size w w':=by
 obtain ⟨l0,rfl,hr0,hm0,hw0,hc0⟩:=ReadsInt.ofRowC w0
 obtain ⟨l1,rfl,hr1,hm1,hw1,hc1⟩:=ReadsInt.ofRowC w1
 replace hr0:=Kd.C_of_reads (d:=(0:Int)) (h1:=fun _=>rfl) hr0
 replace hr1:=Kd.C_of_reads (d:=(0:Int)) (h1:=fun _=>rfl) hr1
 obtain ⟨a,b,c,e0,v1,k1,k2⟩:=place_ok (bytes_of hw0) (k:=20) (by decide)
 obtain ⟨x,n,d,e1,v2⟩:=ell_ok (bytes_of hw1)
 obtain ⟨q,rfl,rfl,hq⟩:=pt_ok v1
 obtain ⟨e,rfl,rfl,rfl,he⟩:=ell_of v2
 obtain ⟨h,rfl,hh⟩:=hgt_of k1 k2
 obtain ⟨y,ey⟩:∃y,laws_d8Long.f l0 l1=some y:=by
  unfold laws_d8Long.f
  by_cases h:(l0.length:Int)>1048576
  ·rw [if_pos h];exact ⟨_,rfl⟩
  ·rw [if_neg h];exact ⟨_,rfl⟩
 letI A:Amb:=⟨fun k=>if k=0 then a0 else a1,fun k=>if k=0 then l0.length else l1.length,fun k=>if k=0 then cap0 else cap1,fun w'=>Below w.heap.size w w',fun k=>by
  show inB .i64 (((if k=0 then l0.length else l1.length:Nat)):Int)=true
  have:=hlb l0.length y0;have:=hlb l1.length y1
  split<;>assumption⟩
 have h0:Orac Tryz.prog 19 [0,1] y:=fun w' hb=>does_of B19 ((laws_d8Long.calls a0 cap0 l0 a1 cap1 l1 y w' (Kd.C_below hr0 hb) hc0 (Kd.C_below hr1 hb) hc1 ey).mono fun e w'' ⟨he,nd,hd⟩=>⟨_,he,fun ρ=> .bool _,by subst hd;exact zf (Below.refl _ _) nd⟩)
 have h1:Orac Tryz.prog 36 [1] e:=fun w' hb=>does_of B36 ((ze2.calls a1 cap1 l1 _ _ _ w' (Kd.C_below hr1 hb) hc1 e1).mono fun e' w'' ⟨he,hd⟩=>⟨_,he,fun ρ=> .agg (.cons (.i64 _) (.cons (.i64 _) (.cons (.i64 _) .nil))),hd⟩)
 have h2:Orac Tryz.prog 37 [0] (⟨q,h⟩:Ev.Place):=fun w' hb=>does_of B37 ((spec_E8Place.calls 20 a0 cap0 l0 _ _ _ w' (Kd.C_below hr0 hb) hc0 e0).mono fun e' w'' ⟨he,hd⟩=>⟨_,he,fun ρ=> .agg (.cons (.i64 _) (.cons (.i64 _) (.cons (.i64 _) .nil))),hd⟩)
 have run:(Tb6 y e ⟨q,h⟩ h0 h1 h2).run B6 [.arg 0,.arg 1] Bool=some true:=(r_laws_FnCartesian y e ⟨q,h⟩ h0 h1 h2).trans (tree_ok he hq hh k1 y)
 generalize Tb6 y e ⟨q,h⟩ h0 h1 h2=tb at run
 exact law_calls (b:=B6) (ks:=([0,1]:List Nat)) run (fun w' hb=>hb)
end Go.Proofs.YtfcjhkkpbnobhaaGreat.Pure
