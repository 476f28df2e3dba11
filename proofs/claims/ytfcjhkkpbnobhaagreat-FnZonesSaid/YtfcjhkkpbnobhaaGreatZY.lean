/- The law FnZones gives true, whatever bytes come in. No conditions. (One of the texts of its proof, put together by a program of this session.) -/
import Derived.Test.YtfcjhkkpbnobhaaGreatZW8
import Derived.Test.YtfcjhkkpbnobhaaGreatZB
import Derived.Test.YtfcjhkkpbnobhaaGreatZX2
import Derived.Test.YtfcjhkkpbnobhaaGreatZD
set_option linter.unusedSectionVars false
set_option linter.unusedSimpArgs false
set_option linter.unusedVariables false
noncomputable section
namespace Go.Proofs.YtfcjhkkpbnobhaaGreat.Pure
open Go Go.RowKit Go.Proofs.YtfcjhkkpbnobhaaGreat.PFnZones Go.Proofs.YtfcjhkkpbnobhaaGreat.DFnZones Go.Proofs.YtfcjhkkpbnobhaaGreatW.PrintWords Go.Proofs.YtfcjhkkpbnobhaaGreatW.PrintLast Go.Proofs.YtfcjhkkpbnobhaaGreatW.PrintMore
open Go.Proofs.YtfcjhkkpbnobhaaGreat.Ev hiding mn mul_bd neg_eq sq_lt sub_eq
open Nc (zones_law)
set_option maxRecDepth 100000
theorem tree_ok {e:Ell} {p q r:Point} (h:zaB e=true) (h1:zcG p=true) (h2:zcG q=true) (b:Bool):(t_laws_FnZones b e ⟨p,q,r⟩).opt=some true:=by
 obtain ⟨L1,L2,L3,L4⟩:=zones_law h h1 h2
 cases b
 ·simp only [t_laws_FnZones,latI_eq,L2,L3,Bool.not_true]
  by_cases c:p.lat.val<q.lat.val
  ·rw [L1 c]
   simp only [c,decide_true]
   by_cases d:e.num.val>0
   ·simp only [d,decide_true];rfl
   ·simp only [d,decide_false,L4 d];rfl
  ·simp only [c,decide_false]
   by_cases d:e.num.val>0
   ·simp only [d,decide_true];rfl
   ·simp only [d,decide_false,L4 d];rfl
 ·rfl
theorem pt_ok {a b:Int} (h:VP a b):∃p:Point,p.lat.val=a/\p.lon.val=b/\zcG p=true:=by
 obtain ⟨h1,h2,h3,h4⟩:=h
 refine ⟨⟨.w .i64 a,.w .i64 b⟩,wi (by omega) (by omega),wi (by omega) (by omega),Nc.ok_iff.2 ?_⟩
 simp only
 rw [wi (n:=a) (by omega) (by omega),wi (n:=b) (by omega) (by omega)]
 omega
theorem pt_vr (p:Point) (ρ:Nat->Option Nat) [Amb]:VR ρ (enc p) (.agg #[.int .i64 p.lat.val,.int .i64 p.lon.val]):= .agg (.cons (.i64 _) (.cons (.i64 _) .nil))
theorem ell_of {a n d:Int} (h:EP a n d):∃e:Ell,e.a.val=a/\e.num.val=n/\e.den.val=d/\zaB e=true:=by
 obtain ⟨⟨a1,a2⟩,⟨d1,d2⟩,n1,n2⟩:=h
 refine ⟨⟨.w .i64 a,.w .i64 n,.w .i64 d⟩,wi (by omega) (by omega),wi (by omega) (by omega),wi (by omega) (by omega),?_⟩
 have ea:=wi (n:=a) (by omega) (by omega)
 have en:=wi (n:=n) (by omega) (by omega)
 have ed:=wi (n:=d) (by omega) (by omega)
 have t:Int.tdiv d 100=d/100:=Int.tdiv_eq_ediv_of_nonneg (by omega)
 have eq:=wi (n:=d/100) (by omega) (by omega)
 have c:n<=d/100:=by omega
 simp only [zaB,t_spec_l12Ok,Tr.get,zdg,ea,en,ed,t,eq]
 simp [a1,a2,d1,d2,n1,c]
def B46 [Amb]:Bod Tryz.prog:=⟨46,Tryz.f46,Tryz.f46.body.getD .skip,Tryz.func46,by kernel_rfl,by kernel_rfl,zan.no _ _⟩
def B47 [Amb]:Bod Tryz.prog:=⟨47,Tryz.f47,Tryz.f47.body.getD .skip,Tryz.func47,by kernel_rfl,by kernel_rfl,zan.no _ _⟩
def B48 [Amb]:Bod Tryz.prog:=⟨48,Tryz.f48,Tryz.f48.body.getD .skip,Tryz.func48,by kernel_rfl,by kernel_rfl,zan.no _ _⟩
theorem FnZones_walk (a0:Option Addr) (len0 cap0:Nat) (z0:List Int) (a1:Option Addr) (len1 cap1:Nat) (z1:List Int) (w:World) (w0:(a0=none/\len0=0/\cap0=0/\z0= [])\/∃x,a0=some x/\len0<=cap0/\cap0<=maxLen/\z0.length=cap0/\(∀i,i<z0.length->w.cell? (x.add i)=some (.int .u8 (z0.getD i 0)))/\∀n∈z0,(Lit.int .u8 n).wf=true) (y0:len0*1<=140737488351232) (w1:(a1=none/\len1=0/\cap1=0/\z1= [])\/∃x,a1=some x/\len1<=cap1/\cap1<=maxLen/\z1.length=cap1/\(∀i,i<z1.length->w.cell? (x.add i)=some (.int .u8 (z1.getD i 0)))/\∀n∈z1,(Lit.int .u8 n).wf=true) (y1:len1*1<=140737488351232):
  Calls Tryz.prog 8 #[.slice a0 len0 cap0,.slice a1 len1 cap1] w fun e w'=>e= .returned (.bool true)/\Below w.heap.size w w':=by
 obtain ⟨l0,rfl,hr0,hm0,hw0,hc0⟩:=ReadsInt.ofRowC w0
 obtain ⟨l1,rfl,hr1,hm1,hw1,hc1⟩:=ReadsInt.ofRowC w1
 replace hr0:=Kd.C_of_reads (d:=(0:Int)) (h1:=fun _=>rfl) hr0
 replace hr1:=Kd.C_of_reads (d:=(0:Int)) (h1:=fun _=>rfl) hr1
 obtain ⟨x,n,d,e1,v2⟩:=ell_ok (bytes_of hw0)
 obtain ⟨a,b,c,d',e',f',e0,v1,v3,v4⟩:=pts_ok (bytes_of hw1) (k:=20) (by decide)
 obtain ⟨p,rfl,rfl,hp⟩:=pt_ok v1
 obtain ⟨q,rfl,rfl,hq⟩:=pt_ok v3
 obtain ⟨r,rfl,rfl,hr⟩:=pt_ok v4
 obtain ⟨e,rfl,rfl,rfl,he⟩:=ell_of v2
 obtain ⟨y,ey⟩:∃y,laws_a2Long.f l0 l1=some y:=by
  unfold laws_a2Long.f
  by_cases h:(l0.length:Int)>3000
  ·rw [if_pos h];exact ⟨_,rfl⟩
  ·rw [if_neg h];exact ⟨_,rfl⟩
 letI A:Amb:=⟨fun k=>if k=0 then a0 else a1,fun k=>if k=0 then l0.length else l1.length,fun k=>if k=0 then cap0 else cap1,fun w'=>Below w.heap.size w w',fun k=>by
  show inB .i64 (((if k=0 then l0.length else l1.length:Nat)):Int)=true
  have:=hlb l0.length y0;have:=hlb l1.length y1
  split<;>assumption⟩
 have h0:Orac Tryz.prog 46 [0,1] y:=fun w' hb=>does_of B46 ((laws_a2Long.calls a0 cap0 l0 a1 cap1 l1 y w' (Kd.C_below hr0 hb) hc0 (Kd.C_below hr1 hb) hc1 ey).mono fun e w'' ⟨he,nd,hd⟩=>⟨_,he,fun ρ=> .bool _,by subst hd;exact zl (Below.refl _ _) nd⟩)
 have h1:Orac Tryz.prog 47 [0] e:=fun w' hb=>does_of B47 ((zfj.calls a0 cap0 l0 _ _ _ w' (Kd.C_below hr0 hb) hc0 e1).mono fun e' w'' ⟨he,hd⟩=>⟨_,he,fun ρ=> .agg (.cons (.i64 _) (.cons (.i64 _) (.cons (.i64 _) .nil))),hd⟩)
 have h2:Orac Tryz.prog 48 [1] (⟨p,q,r⟩:T3 Point Point Point):=fun w' hb=>does_of B48 ((spec_A2Points.calls 20 a1 cap1 l1 _ _ _ _ _ _ w' (Kd.C_below hr1 hb) hc1 e0).mono fun e w'' ⟨he,hd⟩=>⟨_,he,fun ρ=> .tup (.cons (pt_vr p ρ) (.cons (pt_vr q ρ) (.cons (pt_vr r ρ) .nil))),hd⟩)
 have run:(Tb8 y e ⟨p,q,r⟩ h0 h1 h2).run B8 [.arg 0,.arg 1] Bool=some true:=(r_laws_FnZones y e ⟨p,q,r⟩ h0 h1 h2).trans (tree_ok he hp hq y)
 generalize Tb8 y e ⟨p,q,r⟩ h0 h1 h2=tb at run
 exact law_calls (b:=B8) (ks:=([0,1]:List Nat)) run (fun w' hb=>hb)
end Go.Proofs.YtfcjhkkpbnobhaaGreat.Pure
