/- The law FnOmega gives true, whatever comes in; each argument reads behind the call as it read before. No conditions. (One of the texts of its proof, put together by a program of this session.) -/
import Derived.Test.YtaoakfodkoifoaaGreatZVO
import Derived.Test.YtaoakfodkoifoaaGreatZB
import Derived.Test.YtaoakfodkoifoaaGreatZX2
import Derived.Test.YtaoakfodkoifoaaGreatZD
set_option linter.unusedSectionVars false
set_option linter.unusedSimpArgs false
set_option linter.unusedVariables false
noncomputable section
namespace Go.Proofs.YtaoakfodkoifoaaGreat.Pure
open Go Go.RowKit Go.Proofs.YtaoakfodkoifoaaGreat.PFnOmega Go.Proofs.YtaoakfodkoifoaaGreat.DFnOmega Go.Proofs.YtaoakfodkoifoaaGreatW.PrintWords Go.Proofs.YtaoakfodkoifoaaGreatW.PrintLast Go.Proofs.YtaoakfodkoifoaaGreatW.PrintMore
open Go.Proofs.YtaoakfodkoifoaaGreat.Ev hiding mn zgA neg_eq znV sub_eq
open Nc (zx2 zLY zyY zoC zur zGe zGf zKv vLen vLon zM8 In)
set_option maxRecDepth 100000
theorem zLl {e:Ell} {p q r:zaA} (h:zae e=true) (h1:zT p=true) (h2:zT q=true) (b:Bool):(zny b e ⟨p,q,r⟩).opt=some true:=by
 cases b
 ·obtain ⟨w,wl,i3,i5,in3⟩:=zx2 h h1 h2
  have n3:1<=(⟨3,rfl⟩:I64).val/\(⟨3,rfl⟩:I64).val<=64:=by decide
  have n5:1<=(⟨5,rfl⟩:I64).val/\(⟨5,rfl⟩:I64).val<=64:=by decide
  have s0:=zyY h p q
  obtain ⟨o3,ins⟩:=zLY h p q ⟨3,rfl⟩
  obtain ⟨o5,_⟩:=zLY h q p ⟨5,rfl⟩
  have E1:=zGe h h1 h2
  rw [zoC s0] at E1
  have E2:=zGf h h1 h2 n3
  have E3:=zGf h h2 h1 n5
  have E4:=zKv h h1 h2 n3 (omA e p q ⟨3,rfl⟩)
  have E5:=vLen h h1 h2 n3
  have E6:=zM8 h h1 h2 n3
  rw [zoC o3] at E2
  rw [zoC o5] at E3
  have g2:zcB e p q ⟨3,rfl⟩=true:=by unfold zcB;rw [E2];rfl
  have g3:zcB e q p ⟨5,rfl⟩=true:=by unfold zcB;rw [E3];rfl
  have g4:ze4 e p q (omA e p q ⟨3,rfl⟩) ⟨3,rfl⟩=true:=by unfold ze4;rw [E4];rfl
  have g5:zbj e p q ⟨3,rfl⟩=true:=by unfold zbj;rw [E5];rfl
  have f2:zeg e p q ⟨3,rfl⟩=_:=Tr.zai E2
  have f3:zeg e q p ⟨5,rfl⟩=_:=Tr.zai E3
  have f4:zgG e p q (omA e p q ⟨3,rfl⟩) ⟨3,rfl⟩=_:=Tr.zai E4
  have f5:zbs e p q ⟨3,rfl⟩=_:=Tr.zai E5
  have ov:zaR (omA e p q ⟨3,rfl⟩) (omA e q p ⟨5,rfl⟩)=true:=Nc.In.overlap i3 i5
  have nl:((zgd (omA e p q ⟨3,rfl⟩) (zcC (zaq (gLon p q)))).val==1)=false:=by
   have k:=Nc.zJv i3 (Nc.In.gl p q) wl
   simpa using k
  have on:za (spA (mkS e p q) (omA e p q ⟨3,rfl⟩) ⟨3,rfl⟩).a=true->zaR (spA (mkS e p q) (omA e p q ⟨3,rfl⟩) ⟨3,rfl⟩).a (omA e p q ⟨3,rfl⟩)=true:=fun _=>Nc.In.overlap in3 i3
  simp only [zny,Tr.opt,E1,g2,g3,f2,f3,g4,f4,g5,f5,E6,vLon h1 h2,ins,ov,nl,ctr,cfl,bne_self_eq_false,beq_self_eq_true,Bool.not_true,Bool.not_false,Bool.and_self]
  generalize zbn (lenQ e p q ⟨3,rfl⟩)=K
  have fin:(bif K.b.val != 0 then some true else some true)=some true:=by cases (K.b.val != 0)<;>rfl
  cases hn:za (spA (mkS e p q) (omA e p q ⟨3,rfl⟩) ⟨3,rfl⟩).a
  ·rw [zur hn]
   simp only [show (((⟨9,rfl⟩:I64)).val==0)=false from rfl,cfl,fin]
   cases decide ((omA e p q ⟨3,rfl⟩).hi.val<(zP ⟨2,rfl⟩).lo.val)<;>cases decide ((omA e q p ⟨5,rfl⟩).hi.val<(zP ⟨2,rfl⟩).lo.val)<;>rfl
  ·rw [zoC hn]
   simp only [on hn,show (((⟨0,rfl⟩:I64)).val==0)=true from rfl,ctr,Bool.not_true,cfl,fin]
   cases decide ((omA e p q ⟨3,rfl⟩).hi.val<(zP ⟨2,rfl⟩).lo.val)<;>cases decide ((omA e q p ⟨5,rfl⟩).hi.val<(zP ⟨2,rfl⟩).lo.val)<;>rfl
 ·rfl
theorem zLN {a b:Int} (h:VP a b):∃p:zaA,p.lat.val=a/\p.lon.val=b/\zT p=true:=by
 obtain ⟨h1,h2,h3,h4⟩:=h
 refine ⟨⟨.w .i64 a,.w .i64 b⟩,wi (by omega) (by omega),wi (by omega) (by omega),Nc.zEb.2 ?_⟩
 simp only
 rw [wi (n:=a) (by omega) (by omega),wi (n:=b) (by omega) (by omega)]
 omega
theorem zLM (p:zaA) (ρ:Nat->Option Nat) [Amb]:VR ρ (enc p) (.agg #[.int .i64 p.lat.val,.int .i64 p.lon.val]):= .agg (.cons (.i64 _) (.cons (.i64 _) .nil))
theorem zN6 {a n d:Int} (h:EP a n d):∃e:Ell,e.a.val=a/\e.num.val=n/\e.den.val=d/\zae e=true:=by
 obtain ⟨⟨a1,a2⟩,⟨d1,d2⟩,n1,n2⟩:=h
 refine ⟨⟨.w .i64 a,.w .i64 n,.w .i64 d⟩,wi (by omega) (by omega),wi (by omega) (by omega),wi (by omega) (by omega),?_⟩
 have ea:=wi (n:=a) (by omega) (by omega)
 have en:=wi (n:=n) (by omega) (by omega)
 have ed:=wi (n:=d) (by omega) (by omega)
 have t:Int.tdiv d 100=d/100:=Int.tdiv_eq_ediv_of_nonneg (by omega)
 have eq:=wi (n:=d/100) (by omega) (by omega)
 have c:n<=d/100:=by omega
 simp only [zae,zmZ,Tr.get,zdp,ea,en,ed,t,eq]
 simp [a1,a2,d1,d2,n1,c]
def B11 [Amb]:Bod Tryz.prog:=⟨11,Tryz.f11,Tryz.f11.body.getD .skip,Tryz.func11,by kernel_rfl,by kernel_rfl,zar.no _ _⟩
def B12 [Amb]:Bod Tryz.prog:=⟨12,Tryz.f12,Tryz.f12.body.getD .skip,Tryz.func12,by kernel_rfl,by kernel_rfl,zar.no _ _⟩
def B13 [Amb]:Bod Tryz.prog:=⟨13,Tryz.f13,Tryz.f13.body.getD .skip,Tryz.func13,by kernel_rfl,by kernel_rfl,zar.no _ _⟩
theorem zBV (a0:Option Addr) (len0 cap0:Nat) (z0:List Int) (a1:Option Addr) (len1 cap1:Nat) (z1:List Int) (w:World) (w0:(a0=none/\len0=0/\cap0=0/\z0= [])\/∃x,a0=some x/\len0<=cap0/\cap0<=maxLen/\z0.length=cap0/\(∀i,i<z0.length->w.cell? (x.add i)=some (.int .u8 (z0.getD i 0)))/\∀n∈z0,(Lit.int .u8 n).wf=true) (y0:len0*1<=140737488351232) (w1:(a1=none/\len1=0/\cap1=0/\z1= [])\/∃x,a1=some x/\len1<=cap1/\cap1<=maxLen/\z1.length=cap1/\(∀i,i<z1.length->w.cell? (x.add i)=some (.int .u8 (z1.getD i 0)))/\∀n∈z1,(Lit.int .u8 n).wf=true) (y1:len1*1<=140737488351232):
  Calls Tryz.prog 3 #[.slice a0 len0 cap0,.slice a1 len1 cap1] w fun e w'=>e= .returned (.bool true)/\Below w.heap.size w w':=by
 obtain ⟨l0,rfl,hr0,hm0,hw0,hc0⟩:=zk7.ofRowC w0
 obtain ⟨l1,rfl,hr1,hm1,hw1,hc1⟩:=zk7.ofRowC w1
 replace hr0:=Kd.zyq (d:=(0:Int)) (h1:=fun _=>rfl) hr0
 replace hr1:=Kd.zyq (d:=(0:Int)) (h1:=fun _=>rfl) hr1
 obtain ⟨x,n,d,e1,v2⟩:=zN5 (zE1 hw0)
 obtain ⟨a,b,c,d',e',f',e0,v1,v3,v4⟩:=zNv (zE1 hw1) (k:=20) (by decide)
 obtain ⟨p,rfl,rfl,hp⟩:=zLN v1
 obtain ⟨q,rfl,rfl,hq⟩:=zLN v3
 obtain ⟨r,rfl,rfl,hr⟩:=zLN v4
 obtain ⟨e,rfl,rfl,rfl,he⟩:=zN6 v2
 obtain ⟨y,ey⟩:∃y,zmB.f l0 l1=some y:=by
  unfold zmB.f
  by_cases h:(l0.length:Int)>3000
  ·rw [if_pos h];exact ⟨_,rfl⟩
  ·rw [if_neg h];exact ⟨_,rfl⟩
 letI A:Amb:=
  {A:=fun k=>if k=0 then a0 else a1,len:=fun k=>if k=0 then l0.length else l1.length,cap:=fun k=>if k=0 then cap0 else cap1,I:=fun w'=>Below w.heap.size w w'
   hlen:=fun k=>by
    show inB .i64 (((if k=0 then l0.length else l1.length:Nat)):Int)=true
    have:=hlb l0.length y0;have:=hlb l1.length y1
    split<;>assumption
   pl:=fun _=>0
   hpl:=fun _=>Nat.zero_le _
   el:=fun _ _=>(⟨0,rfl⟩,⟨0,rfl⟩)
   hel:=fun k j h0 h1=>absurd h1 (by simp;omega)}
 have h0:Orac Tryz.prog 11 [0,1] y:=fun w' hb=>zDu B11 ((zmB.calls a0 cap0 l0 a1 cap1 l1 y w' (Kd.zp0 hr0 hb) hc0 (Kd.zp0 hr1 hb) hc1 ey).mono fun e w'' ⟨he,nd,hd⟩=>⟨_,he,fun ρ=> .bool _,by subst hd;exact zm (Below.refl _ _) nd⟩)
 have h1:Orac Tryz.prog 12 [0] e:=fun w' hb=>zDu B12 ((zgz.calls a0 cap0 l0 _ _ _ w' (Kd.zp0 hr0 hb) hc0 e1).mono fun e' w'' ⟨he,hd⟩=>⟨_,he,fun ρ=> .agg (.cons (.i64 _) (.cons (.i64 _) (.cons (.i64 _) .nil))),hd⟩)
 have h2:Orac Tryz.prog 13 [1] (⟨p,q,r⟩:T3 zaA zaA zaA):=fun w' hb=>zDu B13 ((zjM.calls 20 a1 cap1 l1 _ _ _ _ _ _ w' (Kd.zp0 hr1 hb) hc1 e0).mono fun e w'' ⟨he,hd⟩=>⟨_,he,fun ρ=> .tup (.cons (zLM p ρ) (.cons (zLM q ρ) (.cons (zLM r ρ) .nil))),hd⟩)
 have run:(Tb3 y e ⟨p,q,r⟩ h0 h1 h2).run B3 [.arg 0,.arg 1] Bool=some true:=(zw8 y e ⟨p,q,r⟩ h0 h1 h2).trans (zLl he hp hq y)
 generalize Tb3 y e ⟨p,q,r⟩ h0 h1 h2=tb at run
 exact zHy (b:=B3) (ks:=([0,1]:List Nat)) run (fun w' hb=>⟨hb,zKT w'⟩)
end Go.Proofs.YtaoakfodkoifoaaGreat.Pure
