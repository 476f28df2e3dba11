/- The law FnMidway gives true, whatever bytes come in. No conditions. (One of the texts of its proof, put together by a program of this session.) -/
import Derived.Test.YtfcjhkkpbnobhaaGreatZW5
import Derived.Test.YtfcjhkkpbnobhaaGreatZB
import Derived.Test.YtfcjhkkpbnobhaaGreatZX3
import Derived.Test.YtfcjhkkpbnobhaaGreatZD
set_option linter.unusedSectionVars false
set_option linter.unusedSimpArgs false
set_option linter.unusedVariables false
noncomputable section
namespace Go.Proofs.YtfcjhkkpbnobhaaGreat.Pure
open Go Go.RowKit Go.Proofs.YtfcjhkkpbnobhaaGreat.PFnMidway Go.Proofs.YtfcjhkkpbnobhaaGreat.DFnMidway Go.Proofs.YtfcjhkkpbnobhaaGreatW.PrintWords Go.Proofs.YtfcjhkkpbnobhaaGreatW.PrintLast Go.Proofs.YtfcjhkkpbnobhaaGreatW.PrintMore
open Go.Proofs.YtfcjhkkpbnobhaaGreat.Ev hiding mn mul_bd neg_eq sq_lt sub_eq
open Nc (Vt mid_law crossing_law)
set_option maxRecDepth 100000
theorem cross_part {p q r s:za1} (h1:zai p=true) (h2:zai q=true) (h3:zai r=true) (h4:zai s=true):
  (Tr.br ((zaf p q r s).c.val==0) (.br (zaU (zaf p q r s).b) (.br (zaT (zbk (zbd (zam p).a (zam q).a) (Vt (zaf p q r s).a (zaf p q r s).b)) ⟨0,rfl⟩)
   (.leaf (zaT (zbk (zbd (zam r).a (zam s).a) (Vt (zaf p q r s).a (zaf p q r s).b)) ⟨0,rfl⟩)) (.leaf false)) (.leaf true)) (.leaf true):Tr Bool).opt=some true:=by
 by_cases c:(zaf p q r s).c.val=0
 ·obtain ⟨e1,e2⟩:=crossing_law h1 h2 h3 h4 c
  have cb:((zaf p q r s).c.val==0)=true:=by simp [c]
  rw [cb,e1,e2]
  cases zaU (zaf p q r s).b<;>rfl
 ·have cb:((zaf p q r s).c.val==0)=false:=by simp [c]
  rw [cb];rfl
theorem tree_ok {p q r s:za1} (h1:zai p=true) (h2:zai q=true) (h3:zai r=true) (h4:zai s=true) (b:Bool):(t_laws_FnMidway b ⟨p,q,r⟩ s).opt=some true:=by
 have X:=cross_part h1 h2 h3 h4
 unfold Vt at X
 have M:=mid_law h1 h2
 unfold Vt at M
 cases b
 ·by_cases c:(zaX p q).c.val=0
  ·obtain ⟨e1,e2⟩:=M c
   have cb:((zaX p q).c.val==0)=true:=by simp [c]
   simp only [t_laws_FnMidway,cb,e1,e2,Bool.not_true]
   cases zaU (zaX p q).b
   ·exact X
   ·exact X
  ·have cb:((zaX p q).c.val==0)=false:=by simp [c]
   simp only [t_laws_FnMidway,cb]
   exact X
 ·rfl
theorem pt_ok {a b:Int} (h:VP a b):∃p:za1,p.lat.val=a/\p.lon.val=b/\zai p=true:=by
 obtain ⟨h1,h2,h3,h4⟩:=h
 refine ⟨⟨.w .i64 a,.w .i64 b⟩,wi (by omega) (by omega),wi (by omega) (by omega),Nc.ok_iff.2 ?_⟩
 simp only
 rw [wi (n:=a) (by omega) (by omega),wi (n:=b) (by omega) (by omega)]
 omega
theorem pt_vr (p:za1) (ρ:Nat->Option Nat) [Amb]:VR ρ (enc p) (.agg #[.int .i64 p.lat.val,.int .i64 p.lon.val]):= .agg (.cons (.i64 _) (.cons (.i64 _) .nil))
def B12 [Amb]:Bod Tryz.prog:=⟨12,Tryz.f12,Tryz.f12.body.getD .skip,Tryz.func12,by kernel_rfl,by kernel_rfl,zae.no _ _⟩
def B20 [Amb]:Bod Tryz.prog:=⟨20,Tryz.f20,Tryz.f20.body.getD .skip,Tryz.func20,by kernel_rfl,by kernel_rfl,zae.no _ _⟩
def B19 [Amb]:Bod Tryz.prog:=⟨19,Tryz.f19,Tryz.f19.body.getD .skip,Tryz.func19,by kernel_rfl,by kernel_rfl,zae.no _ _⟩
theorem FnMidway_walk (a0:Option Addr) (len0 cap0:Nat) (z0:List Int) (a1:Option Addr) (len1 cap1:Nat) (z1:List Int) (w:World) (w0:(a0=none/\len0=0/\cap0=0/\z0= [])\/∃x,a0=some x/\len0<=cap0/\cap0<=maxLen/\z0.length=cap0/\(∀i,i<z0.length->w.cell? (x.add i)=some (.int .u8 (z0.getD i 0)))/\∀n∈z0,(Lit.int .u8 n).wf=true) (y0:len0*1<=140737488351232) (w1:(a1=none/\len1=0/\cap1=0/\z1= [])\/∃x,a1=some x/\len1<=cap1/\cap1<=maxLen/\z1.length=cap1/\(∀i,i<z1.length->w.cell? (x.add i)=some (.int .u8 (z1.getD i 0)))/\∀n∈z1,(Lit.int .u8 n).wf=true) (y1:len1*1<=140737488351232):
  Calls Tryz.prog 4 #[.slice a0 len0 cap0,.slice a1 len1 cap1] w fun e w'=>e= .returned (.bool true)/\Below w.heap.size w w':=by
 obtain ⟨l0,rfl,hr0,hm0,hw0,hc0⟩:=ReadsInt.ofRowC w0
 obtain ⟨l1,rfl,hr1,hm1,hw1,hc1⟩:=ReadsInt.ofRowC w1
 replace hr0:=Kd.C_of_reads (d:=(0:Int)) (h1:=fun _=>rfl) hr0
 replace hr1:=Kd.C_of_reads (d:=(0:Int)) (h1:=fun _=>rfl) hr1
 obtain ⟨a,b,c,d,e,f,e0,v1,v2,v3⟩:=points_ok (bytes_of hw0) (k:=20) (by decide)
 obtain ⟨g,h,e1,v4⟩:=point_ok (bytes_of hw1) (k:=20) (by decide)
 obtain ⟨p,rfl,rfl,hp⟩:=pt_ok v1
 obtain ⟨q,rfl,rfl,hq⟩:=pt_ok v2
 obtain ⟨r,rfl,rfl,hr⟩:=pt_ok v3
 obtain ⟨s,rfl,rfl,hs⟩:=pt_ok v4
 obtain ⟨y,ey⟩:∃y,laws_d8Long.f l0 l1=some y:=by
  unfold laws_d8Long.f
  by_cases h:(l0.length:Int)>1048576
  ·rw [if_pos h];exact ⟨_,rfl⟩
  ·rw [if_neg h];exact ⟨_,rfl⟩
 letI A:Amb:=⟨fun k=>if k=0 then a0 else a1,fun k=>if k=0 then l0.length else l1.length,fun k=>if k=0 then cap0 else cap1,fun w'=>Below w.heap.size w w'⟩
 have h0:Orac Tryz.prog 19 [0,1] y:=fun w' hb=>does_of B19 ((laws_d8Long.calls a0 cap0 l0 a1 cap1 l1 y w' (Kd.C_below hr0 hb) hc0 (Kd.C_below hr1 hb) hc1 ey).mono fun e w'' ⟨he,nd,hd⟩=>⟨_,he,fun ρ=> .bool _,by subst hd;exact zn (Below.refl _ _) nd⟩)
 have h1:Orac Tryz.prog 12 [0] (⟨p,q,r⟩:T3 za1 za1 za1):=fun w' hb=>does_of B12 ((zau.calls 20 a0 cap0 l0 _ _ _ _ _ _ w' (Kd.C_below hr0 hb) hc0 e0).mono fun e w'' ⟨he,hd⟩=>⟨_,he,fun ρ=> .tup (.cons (pt_vr p ρ) (.cons (pt_vr q ρ) (.cons (pt_vr r ρ) .nil))),hd⟩)
 have h2:Orac Tryz.prog 20 [1] s:=fun w' hb=>does_of B20 ((spec_E8Point.calls 20 a1 cap1 l1 _ _ w' (Kd.C_below hr1 hb) hc1 e1).mono fun e w'' ⟨he,hd⟩=>⟨_,he,fun ρ=>pt_vr s ρ,hd⟩)
 have run:(Tb4 y ⟨p,q,r⟩ s h0 h1 h2).run B4 [.arg 0,.arg 1] Bool=some true:=(r_laws_FnMidway y ⟨p,q,r⟩ s h0 h1 h2).trans (tree_ok hp hq hr hs y)
 generalize Tb4 y ⟨p,q,r⟩ s h0 h1 h2=tb at run
 exact law_calls (b:=B4) (ks:=([0,1]:List Nat)) run (fun w' hb=>hb)
end Go.Proofs.YtfcjhkkpbnobhaaGreat.Pure
