/- The law FnRhumbs gives true, whatever bytes come in. No conditions. (One of the texts of its proof, put together by a program of this session.) -/
import Derived.Test.YtfcjhkkpbnobhaaGreatQW8
import Derived.Test.YtfcjhkkpbnobhaaGreatQB
import Derived.Test.YtfcjhkkpbnobhaaGreatQX2
import Derived.Test.YtfcjhkkpbnobhaaGreatQD
set_option linter.unusedSectionVars false
set_option linter.unusedSimpArgs false
set_option linter.unusedVariables false
noncomputable section
namespace Go.Proofs.YtfcjhkkpbnobhaaGreat.Pure
open Go Go.RowKit Go.Proofs.YtfcjhkkpbnobhaaGreat.PFnRhumbs Go.Proofs.YtfcjhkkpbnobhaaGreat.DFnRhumbs Go.Proofs.YtfcjhkkpbnobhaaGreatW.PrintWords Go.Proofs.YtfcjhkkpbnobhaaGreatW.PrintLast Go.Proofs.YtfcjhkkpbnobhaaGreatW.PrintMore
open Go.Proofs.YtfcjhkkpbnobhaaGreat.Ev hiding mn mul_bd neg_eq sq_lt sub_eq
open Nc (rhumb_law)
set_option maxRecDepth 100000
theorem tree_ok [Amb] {p q r:zaL} (h1:zab p=true) (h2:zab q=true):(t_laws_FnRhumbs ⟨p,q,r⟩).opt=some true:=by
 by_cases hl:(lenA 0).val>1048576
 ·have hd:decide ((lenA 0).val>1048576)=true:=by simpa using hl
  simp only [t_laws_FnRhumbs,hd];rfl
 ·have hd:decide ((lenA 0).val>1048576)=false:=by simpa using hl
  simp only [t_laws_FnRhumbs,hd,rhumb_eq]
  by_cases c:(zau p q).c.val=0
  ·obtain ⟨L1,L2⟩:=rhumb_law h1 h2 c
   have cb:((zau p q).c.val != 0)=false:=by simp [c]
   rw [cb,L1]
   by_cases d:(zbl p q).b.val=0
   ·have db:((zbl p q).b.val != 0)=false:=by simp [d]
    rw [db,L2 d];rfl
   ·have db:((zbl p q).b.val != 0)=true:=by simpa using d
    rw [db];rfl
  ·have cb:((zau p q).c.val != 0)=true:=by simpa using c
   rw [cb]
   show some ((zau p q).c.val==(zau p q).c.val)=some true
   simp
theorem pt_ok {a b:Int} (h:VP a b):∃p:zaL,p.lat.val=a/\p.lon.val=b/\zab p=true:=by
 obtain ⟨h1,h2,h3,h4⟩:=h
 refine ⟨⟨.w .i64 a,.w .i64 b⟩,wi (by omega) (by omega),wi (by omega) (by omega),Nc.ok_iff.2 ?_⟩
 simp only
 rw [wi (n:=a) (by omega) (by omega),wi (n:=b) (by omega) (by omega)]
 omega
theorem pt_vr (p:zaL) (ρ:Nat->Option Nat) [Amb]:VR ρ (enc p) (.agg #[.int .i64 p.lat.val,.int .i64 p.lon.val]):= .agg (.cons (.i64 _) (.cons (.i64 _) .nil))
def B12 [Amb]:Bod Tryz.prog:=⟨12,Tryz.f12,Tryz.f12.body.getD .skip,Tryz.func12,by kernel_rfl,by kernel_rfl,zae.no _ _⟩
theorem FnRhumbs_walk (a0:Option Addr) (len0 cap0:Nat) (z0:List Int) (w:World) (w0:(a0=none/\len0=0/\cap0=0/\z0= [])\/∃x,a0=some x/\len0<=cap0/\cap0<=maxLen/\z0.length=cap0/\(∀i,i<z0.length->w.cell? (x.add i)=some (.int .u8 (z0.getD i 0)))/\∀n∈z0,(Lit.int .u8 n).wf=true) (y0:len0*1<=140737488351232):
  Calls Tryz.prog 7 #[.slice a0 len0 cap0] w fun e w'=>e= .returned (.bool true)/\Below w.heap.size w w':=by
 obtain ⟨l0,rfl,hr0,hm0,hw0,hc0⟩:=ReadsInt.ofRowC w0
 replace hr0:=Kd.C_of_reads (d:=(0:Int)) (h1:=fun _=>rfl) hr0
 obtain ⟨a,b,c,d,e,f,e0,v1,v2,v3⟩:=points_ok (bytes_of hw0) (k:=20) (by decide)
 obtain ⟨p,rfl,rfl,hp⟩:=pt_ok v1
 obtain ⟨q,rfl,rfl,hq⟩:=pt_ok v2
 obtain ⟨r,rfl,rfl,hr⟩:=pt_ok v3
 letI A:Amb:=⟨fun _=>a0,fun _=>l0.length,fun _=>cap0,fun w'=>Below w.heap.size w w',fun k=>hlb l0.length y0⟩
 have h0:Orac Tryz.prog 12 [0] (⟨p,q,r⟩:T3 zaL zaL zaL):=fun w' hb=>does_of B12 ((zaC.calls 20 a0 cap0 l0 _ _ _ _ _ _ w' (Kd.C_below hr0 hb) hc0 e0).mono fun e w'' ⟨he,hd⟩=>⟨_,he,fun ρ=> .tup (.cons (pt_vr p ρ) (.cons (pt_vr q ρ) (.cons (pt_vr r ρ) .nil))),hd⟩)
 have run:(Tb7 ⟨p,q,r⟩ h0).run B7 [.arg 0] Bool=some true:=(r_laws_FnRhumbs ⟨p,q,r⟩ h0).trans (tree_ok hp hq)
 generalize Tb7 ⟨p,q,r⟩ h0=tb at run
 exact law_calls (b:=B7) (ks:=([0]:List Nat)) run (fun w' hb=>hb)
end Go.Proofs.YtfcjhkkpbnobhaaGreat.Pure
