/- The law FnCylinders gives true, whatever bytes come in, where the listed tables hold what the program's text lays. The card: the tables tied to the text. No other conditions. (One of the texts of its proof, put together by a program of this session.) -/
import Derived.Test.YtkenfaengphiiaaGreatDoorZVK
import Derived.Test.YtkenfaengphiiaaGreatDoorZB
import Derived.Test.YtkenfaengphiiaaGreatDoorZW8
import Derived.Test.YtkenfaengphiiaaGreatDoorZD
set_option linter.unusedSectionVars false
set_option linter.unusedSimpArgs false
set_option linter.unusedVariables false
noncomputable section
namespace Go.Proofs.YtkenfaengphiiaaGreatDoor.Pure
open Go Go.RowKit Go.Proofs.YtkenfaengphiiaaGreatDoor.PFnCylinders Go.Proofs.YtkenfaengphiiaaGreatDoor.DFnCylinders Go.Proofs.YtkenfaengphiiaaGreatDoorW.PrintWords Go.Proofs.YtkenfaengphiiaaGreatDoorW.PrintLast Go.Proofs.YtkenfaengphiiaaGreatDoorW.PrintMore
open Go.Proofs.YtkenfaengphiiaaGreatDoor.Ev hiding mn zfC neg_eq zmJ sub_eq
set_option maxRecDepth 100000
theorem zGH [Amb] {p:Proj} {q:zbk} (hc:zaH p=true) (hq:zay q=true) (b:Bool):(zhG b ⟨p,q⟩).opt=some true:=by
 cases b
 case true=>rfl
 have hv:zZ p=true:=by
  rw [zom]
  simp only [zaH,zc9,Tr.get] at hc
  cases h:zb8 p
  ·rw [h] at hc;cases hc
  ·rfl
 obtain ⟨r1,r2⟩:=Tx.zA9 hv
 have g1:zf0 p=true:=rfl
 have g2:zfZ (zeg p)=true:=r1
 have e1:zf3 (zeg p)=⟨p,true⟩:=r2
 obtain ⟨_,_,l1,l2⟩:=Nc.zrE hc
 have h0:zay ⟨⟨0,rfl⟩,p.lon0⟩=true:=Nc.zlm.2 ⟨⟨show (-900000000:Int)<=0 by decide,show (0:Int)<=900000000 by decide⟩,l1,l2⟩
 have lb:zct ⟨⟨0,rfl⟩,p.lon0⟩ q=⟨Nc.lonC p q,⟨0,rfl⟩⟩:=by
  simp only [zct,zgb,Tr.get,h0,hq,Bool.not_true,cfl];rfl
 have tw:(⟨q.lat,zdu (Rng.w .i64 ((Rng.w .i64 (2*q.lon.val)).val-p.lon0.val))⟩:zbk)=Nc.twin p q:=by
  simp only [zdu,ziy,Tr.get];rfl
 have mi:(⟨Rng.w .i64 (0-q.lat.val),q.lon⟩:zbk)=Nc.mirr q:=rfl
 have law:=Nc.zHZ hc hq
 simp only [zhG,g1,g2,e1,zH1,zH0,lb,tw,mi]
 clear g1 g2 e1 r1 r2 hv tw mi lb h0 hc
 generalize zP p q=A at *
 generalize zaK p A.a=I at *
 generalize zP p (Nc.twin p q)=W at *
 generalize zP p (Nc.mirr q)=M at *
 generalize (Nc.lonC p q).val=l at *
 rcases law with ⟨a,h⟩|a|⟨a,i,t,m⟩
 ·rcases h with h|h<;>simp [Tr.opt,a,h]
 ·by_cases h:q.lat.val=900000000
  ·simp [Tr.opt,a,h]
  ·by_cases h':q.lat.val= -900000000<;>simp [Tr.opt,a,h,h']
 ·rcases t with t|⟨t,k⟩
  ·rcases i with i|⟨i,j⟩
   ·simp [Tr.opt,a,i,t]
   ·simp [Tr.opt,a,i,j,t]
  ·by_cases c1: -900000000<l
   ·by_cases c2:l<900000000
    ·have k':=k c1 c2
     rcases m with m|⟨m,n,o⟩
     ·rcases i with i|⟨i,j⟩
      ·cases hO:zo M.a.y (zW A.a.y)<;>simp [Tr.opt,a,i,t,c1,c2,k',m,hO]
      ·cases hO:zo M.a.y (zW A.a.y)<;>simp [Tr.opt,a,i,j,t,c1,c2,k',m,hO]
     ·rcases i with i|⟨i,j⟩
      ·simp [Tr.opt,a,i,t,c1,c2,k',m,n,o]
      ·simp [Tr.opt,a,i,j,t,c1,c2,k',m,n,o]
    ·rcases m with m|⟨m,n,o⟩
     ·rcases i with i|⟨i,j⟩
      ·simp [Tr.opt,a,i,t,c1,c2,m]
      ·simp [Tr.opt,a,i,j,t,c1,c2,m]
     ·rcases i with i|⟨i,j⟩
      ·simp [Tr.opt,a,i,t,c1,c2,m,n,o]
      ·simp [Tr.opt,a,i,j,t,c1,c2,m,n,o]
   ·rcases m with m|⟨m,n,o⟩
    ·rcases i with i|⟨i,j⟩
     ·simp [Tr.opt,a,i,t,c1,m]
     ·simp [Tr.opt,a,i,j,t,c1,m]
    ·rcases i with i|⟨i,j⟩
     ·simp [Tr.opt,a,i,t,c1,m,n,o]
     ·simp [Tr.opt,a,i,j,t,c1,m,n,o]
theorem zK0 {a b:Int} (h:VP a b):∃p:zbk,p.lat.val=a/\p.lon.val=b/\zay p=true:=by
 obtain ⟨h1,h2,h3,h4⟩:=h
 refine ⟨⟨.w .i64 a,.w .i64 b⟩,wi (by omega) (by omega),wi (by omega) (by omega),Nc.zlm.2 ?_⟩
 simp only
 rw [wi (n:=a) (by omega) (by omega),wi (n:=b) (by omega) (by omega)]
 omega
theorem zK2 {k a b c d:Int} (h:PJ k a b c d):∃p:Proj,p.kind.val=k/\p.lat0.val=a/\p.lon0.val=b/\p.lat1.val=c/\p.lat2.val=d/\zaH p=true:=by
 obtain ⟨⟨h1,h1'⟩,h2,⟨h3,h3'⟩,⟨h4,h4'⟩,h5,h6⟩:=h
 subst h2;subst h5
 refine ⟨⟨.w .i64 k,⟨0,rfl⟩,.w .i64 b,.w .i64 c,⟨0,rfl⟩⟩,wi (by omega) (by omega),rfl,wi (by omega) (by omega),wi (by omega) (by omega),rfl,?_⟩
 have ek:(Rng.w .i64 k).val=k:=wi (by omega) (by omega)
 have eb:(Rng.w .i64 b).val=b:=wi (by omega) (by omega)
 have ec:(Rng.w .i64 c).val=c:=wi (by omega) (by omega)
 have o1:zay ⟨⟨0,rfl⟩,.w .i64 b⟩=true:=Nc.zlm.2 ⟨⟨show (-900000000:Int)<=0 by decide,show (0:Int)<=900000000 by decide⟩,by simp only [eb];omega⟩
 have o2:zb7 (.w .i64 c)=true:=by simp only [zb7,zd4,Tr.get,zcO,ec];simp;omega
 have o3:zb7 ⟨0,rfl⟩=true:=by simp only [zb7,zd4,Tr.get,zcO];rfl
 have hk:zX (.w .i64 k) ⟨1,rfl⟩ ⟨4,rfl⟩=true:=by rw [zcO,ek];simp;omega
 have ok:zb8 ⟨.w .i64 k,⟨0,rfl⟩,.w .i64 b,.w .i64 c,⟨0,rfl⟩⟩=true:=by
  simp only [zb8,zkt,Tr.get,o1,o2,o3,Bool.not_true,cfl,ek,ec]
  have:k=1\/k=2\/k=3\/k=4:=by omega
  rcases this with rfl|rfl|rfl|rfl
  ·rfl
  ·simp [h6 (.inl rfl)]
  ·rfl
  ·simp [h6 (.inr rfl)]
 simp only [zaH,zc9,Tr.get,ok,hk,ctr]
def B5 [Amb]:Bod Tryz.prog:=⟨5,Tryz.f5,Tryz.f5.body.getD .skip,Tryz.func5,by kernel_rfl,by kernel_rfl,zav.no _ _⟩
def B4 [Amb]:Bod Tryz.prog:=⟨4,Tryz.f4,Tryz.f4.body.getD .skip,Tryz.func4,by kernel_rfl,by kernel_rfl,zav.no _ _⟩
theorem zqu (a0:Option Addr) (len0 cap0:Nat) (z0:List Int) (a1:Option Addr) (len1 cap1:Nat) (z1:List Int) (w:World) (hI:∀A:Amb,@Ev.Inv0 A w) (w0:(a0=none/\len0=0/\cap0=0/\z0= [])\/∃x,a0=some x/\len0<=cap0/\cap0<=maxLen/\z0.length=cap0/\(∀i,i<z0.length->w.cell? (x.add i)=some (.int .u8 (z0.getD i 0)))/\∀n∈z0,(Lit.int .u8 n).wf=true) (y0:len0*1<=140737488351232) (w1:(a1=none/\len1=0/\cap1=0/\z1= [])\/∃x,a1=some x/\len1<=cap1/\cap1<=maxLen/\z1.length=cap1/\(∀i,i<z1.length->w.cell? (x.add i)=some (.int .u8 (z1.getD i 0)))/\∀n∈z1,(Lit.int .u8 n).wf=true) (y1:len1*1<=140737488351232):
  Calls Tryz.prog 3 #[.slice a0 len0 cap0,.slice a1 len1 cap1] w fun e w'=>e= .returned (.bool true)/\Below w.heap.size w w':=by
 obtain ⟨l0,rfl,hr0,hm0,hw0,hc0⟩:=ziO.ofRowC w0
 obtain ⟨l1,rfl,hr1,hm1,hw1,hc1⟩:=ziO.ofRowC w1
 replace hr0:=Kd.zuy (d:=(0:Int)) (h1:=fun _=>rfl) hr0
 replace hr1:=Kd.zuy (d:=(0:Int)) (h1:=fun _=>rfl) hr1
 obtain ⟨k,a,b,c,d,x,z,e0,v1,v2⟩:=zG2 (zFA hw0) (k:=24) (by decide)
 obtain ⟨q,rfl,rfl,hq⟩:=zK0 v2
 obtain ⟨p,rfl,rfl,rfl,rfl,rfl,hp⟩:=zK2 v1
 obtain ⟨y,ey⟩:∃y,zj5.f l0 l1=some y:=by
  unfold zj5.f
  by_cases h:(l0.length:Int)>3000
  ·rw [if_pos h];exact ⟨_,rfl⟩
  ·rw [if_neg h];exact ⟨_,rfl⟩
 letI A:Amb:=⟨fun k=>if k=0 then a0 else a1,fun k=>if k=0 then l0.length else l1.length,fun k=>if k=0 then cap0 else cap1,fun w'=>Below w.heap.size w w',fun k=>by
  show inB .i64 (((if k=0 then l0.length else l1.length:Nat)):Int)=true
  have:=hlb l0.length y0;have:=hlb l1.length y1
  split<;>assumption⟩
 have h0:Orac Tryz.prog 4 [0,1] y:=fun w' hb=>zDH B4 ((zj5.calls a0 cap0 l0 a1 cap1 l1 y w' (Kd.zn1 hr0 hb) hc0 (Kd.zn1 hr1 hb) hc1 ey).mono fun e w'' ⟨he,nd,hd⟩=>⟨_,he,fun ρ=> .bool _,by subst hd;exact zk (Below.refl _ _) nd⟩)
 have h1:zFO Tryz.prog 5 0 [1,4] (⟨p,q⟩:T2 Proj zbk):=fun w' hb=>zDH B5 ((zam.calls 24 a0 cap0 l0 1 4 _ _ _ _ _ _ _ w' (Kd.zn1 hr0 hb) hc0 e0).mono fun e' w'' ⟨he,hd⟩=>⟨_,he,fun ρ=> .tup (.cons (.agg (.cons (.i64 _) (.cons (.i64 _) (.cons (.i64 _) (.cons (.i64 _) (.cons (.i64 _) .nil)))))) (.cons (.agg (.cons (.i64 _) (.cons (.i64 _) .nil))) .nil)),hd⟩)
 have ha:Am w:=fun w' hb=>⟨hb,Inv0.below (hI A) hb (Nat.le_refl _)⟩
 have run:(Tb3 y ⟨p,q⟩ h0 h1).run B3 [.arg 0,.arg 1] Bool=some true:=(zoh y ⟨p,q⟩ h0 h1).trans (zGH hp hq y)
 generalize Tb3 y ⟨p,q⟩ h0 h1=tb at run
 exact zC4 (b:=B3) (ks:=([0,1]:List Nat)) run ha
end Go.Proofs.YtkenfaengphiiaaGreatDoor.Pure
