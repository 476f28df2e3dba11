/- The law FnOmega gives true, whatever comes in; each argument reads behind the call as it read before. No conditions. (One of the texts of its proof, put together by a program of this session.) -/
import Derived.Test.YtaoakfodkoifoaaGreatZW5
import Derived.Test.YtaoakfodkoifoaaGreatZWI
set_option linter.unusedSectionVars false
set_option linter.unusedSimpArgs false
set_option linter.unusedVariables false
noncomputable section
namespace Go.Proofs.YtaoakfodkoifoaaGreat.Ev
open Go
def Box (L H:Int) (a:Iv):Prop:=za a=true/\L<=a.lo.val/\a.hi.val<=H
def inBx (L H:Int) (a:Iv):Bool:=za a&&(decide (L<=a.lo.val)&&decide (a.hi.val<=H))
theorem zqB {L H:Int} {a:Iv} (h:inBx L H a=true):Box L H a:=by
 simp only [inBx,Bool.and_eq_true,decide_eq_true_eq] at h
 exact ⟨h.1,h.2.1,h.2.2⟩
theorem Sub.box {a b:Iv} {L H:Int} (h:Sub a b) (k:Box L H b):Box L H a:=by
 obtain ⟨h1,h2,h3⟩:=h k.1
 exact ⟨h1,by have:=k.2.1;omega,by have:=k.2.2;omega⟩
theorem Box.sub {a b:Iv} (h:Box b.lo.val b.hi.val a):Sub a b:=fun _=>⟨h.1,h.2.1,h.2.2⟩
theorem zBT {x p q:I64} (h1:p.val<=x.val) (h2:x.val<=q.val) (h3: -1152921504606846976<p.val) (h4:q.val<1152921504606846976):Sub ⟨x,x⟩ ⟨p,q⟩:=fun _=>⟨(zaB _).2 (by simp only;omega),h1,h2⟩
theorem Sub.halve {a a':Iv} (h:Sub a a'):Sub (zdi a) (zdi a'):=by
 simp only [zdi,zjz,Tr.get]
 cases hb:za (zq (zf ⟨1,rfl⟩) (zaD (zq (zf ⟨1,rfl⟩) (zay a'))))
 ·exact zI3 (zK2 hb)
 ·have hv:=zr1 hb
  have hs:=zui hv.2.1
  have hk:=zry hs.1 hs.2
  have hin:=(zaB _).1 hs.1
  obtain ⟨q,p,e1,e2,h1,h2,h3,h4,h5,h6,h7,h8⟩:=zms _ (show 0<=(zq (zf ⟨1,rfl⟩) (zay a')).lo.val/\(zq (zf ⟨1,rfl⟩) (zay a')).lo.val<=1152921504606846976 by omega)
  have ho:(zf ⟨1,rfl⟩).lo.val=4294967296:=by rw [zjP (by decide)];rfl
  refine Sub.div h (Sub.add (Sub.refl _) (Sub.sqrt (Sub.add (Sub.refl _) h.sqr))) ?_
  rw [hv.2.2.1,hk.2.1,e1,ho]
  simp only
  omega
theorem zHC {x:Iv}:zal x ⟨⟨(-1073741824),rfl⟩,⟨1073741824,rfl⟩⟩=(za x&&(decide (-1073741824<=x.lo.val)&&decide (x.hi.val<=1073741824))):=by
 have h2:za ⟨⟨-1073741824,rfl⟩,⟨1073741824,rfl⟩⟩=true:=(zaB _).2 (by decide)
 simp only [zal,zde,Tr.get,h2,Bool.not_true,cond_false]
 cases za x<;>cases decide (-1073741824<=x.lo.val)<;>simp [ctr,cfl]
theorem Sub.arc {a a':Iv} (h:Sub a a'):Sub (zdt a) (zdt a'):=by
 simp only [zdt,ziS,Tr.get,zbU]
 cases hi:zal a' ⟨⟨(-1073741824),rfl⟩,⟨1073741824,rfl⟩⟩
 ·exact zuY _
 ·have hi':=hi
  rw [zHC] at hi'
  simp only [Bool.and_eq_true,decide_eq_true_eq] at hi'
  obtain ⟨k1,k2,k3⟩:=h hi'.1
  have hj:zal a ⟨⟨(-1073741824),rfl⟩,⟨1073741824,rfl⟩⟩=true:=by
   rw [zHC]
   simp only [Bool.and_eq_true,decide_eq_true_eq]
   exact ⟨k1,by omega,by omega⟩
  simp only [hj,Bool.not_true,cfl]
  refine Sub.add (Sub.mul h ?_) (Sub.refl _)
  have hy:=h.sqr
  generalize zay a=y,zay a'=y' at hy
  repeat' (first|with_reducible exact Sub.refl _|with_reducible refine Sub.sub (Sub.refl _) (Sub.mul hy ?_))
theorem Sub.core {a a':Iv} (h:Sub a a'):Sub (zaC a) (zaC a'):=by
 simp only [zaC,zkQ,Tr.get]
 exact h.halve.halve.arc.dbl.dbl
theorem ziZ {x p q:I64} {L H:Int} (h1:p.val<=x.val) (h2:x.val<=q.val) (h3: -1152921504606846976<p.val) (h4:q.val<1152921504606846976) (hk:inBx L H (zaC ⟨p,q⟩)=true):Box L H (zaC ⟨x,x⟩):=
 (zBT h1 h2 h3 h4).core.box (zqB hk)
theorem zIy {x:I64} (h:0<=x.val/\x.val<=4294967296):zcR x=zaC ⟨x,x⟩:=by
 have hf:zbK x=true:=(zq3 x).2 (by omega)
 have hn:decide (x.val<0)=false:=by simp;omega
 have hg:decide (x.val>4294967296)=false:=by simp;omega
 have e:zcR x=zaC (zB x):=Tr.zai (by simp only [zhT,Tr.opt,hf,hn,hg,Bool.not_true,cfl])
 rw [e]
 simp only [zB,zhf,Tr.get]
theorem k_lo:inBx 25088 4294967300 (zaC ⟨⟨32767,rfl⟩,⟨4294967296,rfl⟩⟩)=true:=by kernel_rfl
theorem k_1:inBx (-8) 3373259176 (zaC ⟨⟨0,rfl⟩,⟨2623393355,rfl⟩⟩)=true:=by kernel_rfl
theorem k_2:inBx (-8) 3373259176 (zaC ⟨⟨2623393355,rfl⟩,⟨3744528541,rfl⟩⟩)=true:=by kernel_rfl
theorem k_3:inBx (-8) 3373259176 (zaC ⟨⟨3744528541,rfl⟩,⟨4092898073,rfl⟩⟩)=true:=by kernel_rfl
theorem k_4:inBx (-8) 3373259176 (zaC ⟨⟨4092898073,rfl⟩,⟨4218663241,rfl⟩⟩)=true:=by kernel_rfl
theorem k_5:inBx (-8) 3373259176 (zaC ⟨⟨4218663241,rfl⟩,⟨4265874415,rfl⟩⟩)=true:=by kernel_rfl
theorem k_6:inBx (-8) 3373259176 (zaC ⟨⟨4265874415,rfl⟩,⟨4283835239,rfl⟩⟩)=true:=by kernel_rfl
theorem k_7:inBx (-8) 3373259176 (zaC ⟨⟨4283835239,rfl⟩,⟨4290701832,rfl⟩⟩)=true:=by kernel_rfl
theorem k_8:inBx (-8) 3373259176 (zaC ⟨⟨4290701832,rfl⟩,⟨4293331870,rfl⟩⟩)=true:=by kernel_rfl
theorem k_9:inBx (-8) 3373259176 (zaC ⟨⟨4293331870,rfl⟩,⟨4294339936,rfl⟩⟩)=true:=by kernel_rfl
theorem k_10:inBx (-8) 3373259176 (zaC ⟨⟨4294339936,rfl⟩,⟨4294726423,rfl⟩⟩)=true:=by kernel_rfl
theorem k_11:inBx (-8) 3373259176 (zaC ⟨⟨4294726423,rfl⟩,⟨4294874616,rfl⟩⟩)=true:=by kernel_rfl
theorem zE5 {x:I64} (h:32767<=x.val/\x.val<=4294874616):Box 25088 3373259176 (zcR x):=by
 rw [zIy (by omega)]
 have lo:=ziZ (x:=x) (p:=⟨32767,rfl⟩) (q:=⟨4294967296,rfl⟩) h.1 (by simp only;omega) (by decide) (by decide) k_lo
 have hi:Box (-8) 3373259176 (zaC ⟨x,x⟩):=by
  by_cases c1:x.val<=2623393355
  ·exact ziZ (by simp only;omega) c1 (by decide) (by decide) k_1
  by_cases c2:x.val<=3744528541
  ·exact ziZ (by simp only;omega) c2 (by decide) (by decide) k_2
  by_cases c3:x.val<=4092898073
  ·exact ziZ (by simp only;omega) c3 (by decide) (by decide) k_3
  by_cases c4:x.val<=4218663241
  ·exact ziZ (by simp only;omega) c4 (by decide) (by decide) k_4
  by_cases c5:x.val<=4265874415
  ·exact ziZ (by simp only;omega) c5 (by decide) (by decide) k_5
  by_cases c6:x.val<=4283835239
  ·exact ziZ (by simp only;omega) c6 (by decide) (by decide) k_6
  by_cases c7:x.val<=4290701832
  ·exact ziZ (by simp only;omega) c7 (by decide) (by decide) k_7
  by_cases c8:x.val<=4293331870
  ·exact ziZ (by simp only;omega) c8 (by decide) (by decide) k_8
  by_cases c9:x.val<=4294339936
  ·exact ziZ (by simp only;omega) c9 (by decide) (by decide) k_9
  by_cases c10:x.val<=4294726423
  ·exact ziZ (by simp only;omega) c10 (by decide) (by decide) k_10
  ·exact ziZ (by simp only;omega) (by simp only;omega) (by decide) (by decide) k_11
 exact ⟨lo.1,lo.2.1,hi.2.2⟩
theorem zzL {a b:Iv} {L H:Int} (ha:Box L H a) (hb:Box L H b):Box L H (zN a b):=by
 have oa:=(zaB _).1 ha.1
 have ob:=(zaB _).1 hb.1
 have m1:=zf7 a.lo b.lo
 have m2:=zeB a.hi b.hi
 have a1:=ha.2
 have b1:=hb.2
 simp only [zN,zhn,Tr.get,ha.1,hb.1,Bool.not_true,cfl]
 rw [zbq (by omega)]
 exact ⟨(zaB _).2 (by simp only;omega),by simp only;omega,by simp only;omega⟩
theorem zIz {a:Iv} (h:Box 32767 4294874616 a):Box 25088 3373259176 (zak a):=by
 have h1:=(zaB _).1 h.1
 have h2:=h.2
 rw [zsZ,zAN,h.1]
 simp only [Bool.not_true,cfl]
 exact zzL (zE5 (by omega)) (zE5 (by omega))
theorem zFZ {k:I64} (h:65536<=k.val/\k.val<=4294967295):Box 92681 4294967296 (zcM k):=by
 have e1:(Rng.w .i64 (4294967296-k.val)).val=4294967296-k.val:=wi (by omega) (by omega)
 have e2:(Rng.w .i64 (4294967296+k.val)).val=4294967296+k.val:=wi (by omega) (by omega)
 have hi:zaf k ⟨(-4294967296),rfl⟩ ⟨4294967296,rfl⟩=true:=by rw [zdp];simp;omega
 obtain ⟨q,f1,f2,f3,f4,f5⟩:=zDZ (.w .i64 (4294967296-k.val)) (.w .i64 (4294967296+k.val)) (by omega) (by omega)
 rw [e1,e2] at f4 f5
 have hq:q.val+1<=4294967296:=by
  by_cases hh:q.val+1<=4294967296
  ·exact hh
  ·have h1:(4294967296:Int)*4294967296<=q.val*q.val:=Int.mul_le_mul (by omega) (by omega) (by decide) (by omega)
   have h2:(4294967296-k.val)*(4294967296+k.val)=4294967296*4294967296-k.val*k.val:=by
    rw [Int.sub_mul,Int.mul_add,Int.mul_add,Int.mul_comm k.val 4294967296];omega
   have h3:=Int.mul_pos (show 0<k.val by omega) (show 0<k.val by omega)
   omega
 have hl:92681<=q.val:=by
  by_cases hh:92681<=q.val
  ·exact hh
  ·have h1:(q.val+1)*(q.val+1)<=92681*92681:=Int.mul_le_mul (by omega) (by omega) (by omega) (by decide)
   have h2:1*(4294967296+4294967295)<=(4294967296-k.val)*(4294967296+k.val):=by
    have e:(4294967296-k.val)*(4294967296+k.val)=4294967296*4294967296-k.val*k.val:=by
     rw [Int.sub_mul,Int.mul_add,Int.mul_add,Int.mul_comm k.val 4294967296];omega
    have h3:k.val*k.val<=4294967295*4294967295:=Int.mul_le_mul h.2 h.2 (by omega) (by decide)
    omega
   omega
 have e3:(Rng.w .i64 (q.val+1)).val=q.val+1:=wi (by omega) (by omega)
 simp only [zcM,zjC,Tr.get,hi,f1,Bool.not_true,cfl]
 generalize (!((zcn q q).hi.val==(zcn (Rng.w .i64 (4294967296-k.val)) (Rng.w .i64 (4294967296+k.val))).hi.val&&((zcn q q).lo.val==(zcn (Rng.w .i64 (4294967296-k.val)) (Rng.w .i64 (4294967296+k.val))).lo.val&&true)))=c
 cases c
 ·exact ⟨(zaB _).2 (by simp only [cfl];omega),by simp only [cfl];omega,by simp only [cfl];omega⟩
 ·exact ⟨(zaB _).2 (by simp only [ctr,e3];omega),by simp only [ctr];omega,by simp only [ctr,e3];omega⟩
theorem zQR:inBx 32767 4294874616 (zo ⟨⟨65536,rfl⟩,⟨4294967295,rfl⟩⟩ (zq (zf ⟨1,rfl⟩) ⟨⟨92681,rfl⟩,⟨4294967296,rfl⟩⟩))=true:=by kernel_rfl
theorem zQS:(zq (zf ⟨1,rfl⟩) ⟨⟨92681,rfl⟩,⟨4294967296,rfl⟩⟩).lo.val=4295059977:=by kernel_rfl
theorem zFz:zbt=⟨⟨-6746518853,rfl⟩,⟨6746518853,rfl⟩⟩:=by kernel_rfl
theorem zKn {k:I64} (h:65536<=k.val/\k.val<=4294967295):Box 50176 6746518352 (zaP k):=by
 have hi:zaf k ⟨(-4294967296),rfl⟩ ⟨4294967296,rfl⟩=true:=by rw [zdp];simp;omega
 have hc:=zFZ h
 have hq:Box 32767 4294874616 (zo (zB k) (zq (zf ⟨1,rfl⟩) (zcM k))):=by
  refine Sub.box (Sub.div (zBT (p:=⟨65536,rfl⟩) (q:=⟨4294967295,rfl⟩) h.1 h.2 (by decide) (by decide)) (Sub.add (Sub.refl _) (Box.sub (b:=⟨⟨92681,rfl⟩,⟨4294967296,rfl⟩⟩) hc)) ?_) (zqB zQR)
  rw [zQS];decide
 have ha:=zIz hq
 simp only [zaP,zlP,Tr.get,hi,Bool.not_true,cfl]
 generalize zak (zo (zB k) (zq (zf ⟨1,rfl⟩) (zcM k)))=a at ha
 have ba:=(zaB _).1 ha.1
 have b1:=ha.2
 have k1:(Rng.w .i64 (2*a.lo.val)).val=2*a.lo.val:=wi (by omega) (by omega)
 have k2:(Rng.w .i64 (2*a.hi.val)).val=2*a.hi.val:=wi (by omega) (by omega)
 have hd:zbh a=⟨.w .i64 (2*a.lo.val),.w .i64 (2*a.hi.val)⟩:=by
  simp only [zbh,zfr,Tr.get,ha.1,Bool.not_true,cfl]
  exact zbq (by rw [k1,k2];omega)
 have o1:za ⟨.w .i64 (2*a.lo.val),.w .i64 (2*a.hi.val)⟩=true:=(zaB _).2 (by simp only [k1,k2];omega)
 have o2:za ⟨⟨-6746518853,rfl⟩,⟨6746518853,rfl⟩⟩=true:=(zaB _).2 (by decide)
 have m1:=zeB (.w .i64 (2*a.lo.val)) ⟨-6746518853,rfl⟩
 have m2:=zf7 (.w .i64 (2*a.hi.val)) ⟨6746518853,rfl⟩
 rw [k1] at m1
 rw [k2] at m2
 simp only at m1 m2
 have hlt:decide ((zt (.w .i64 (2*a.lo.val)) ⟨-6746518853,rfl⟩).val>(zC (.w .i64 (2*a.hi.val)) ⟨6746518853,rfl⟩).val)=false:=by simp;omega
 rw [hd,zFz]
 simp only [zZ,zbJ,Tr.get,o1,o2,hlt,Bool.not_true,cfl]
 exact ⟨(zaB _).2 (by simp only;omega),by simp only;omega,by simp only;omega⟩
theorem zOj:zaP ⟨0,rfl⟩=⟨⟨-8,rfl⟩,⟨8,rfl⟩⟩:=by kernel_rfl
theorem zIF:zaP ⟨4294967296,rfl⟩=⟨⟨6746518832,rfl⟩,⟨6746518853,rfl⟩⟩:=by kernel_rfl
theorem Sub.zu7 {y y':Iv} (h:Sub y y'):Sub (zaT y ⟨0,rfl⟩) (zaT y' ⟨0,rfl⟩):=by
 simp only [zaT,zdq,Tr.get]
 have hp:∀n:I64,1<=n.val->n.val<=268435455->0<(zf n).lo.val:=fun n h1 h2=>by
  rw [zjP (by omega)]
  simp only
  rw [wi (by omega) (by omega)]
  omega
 repeat' (first|with_reducible exact Sub.refl _|with_reducible refine Sub.sub (Sub.refl _) (Sub.mul (Sub.div h (Sub.refl _) (hp _ (by decide) (by decide))) ?_))
theorem Sub.zu6 {y y':Iv} (h:Sub y y'):Sub (zaT y ⟨-1,rfl⟩) (zaT y' ⟨-1,rfl⟩):=by
 simp only [zaT,zdq,Tr.get]
 have hp:∀n:I64,1<=n.val->n.val<=268435455->0<(zf n).lo.val:=fun n h1 h2=>by
  rw [zjP (by omega)]
  simp only
  rw [wi (by omega) (by omega)]
  omega
 repeat' (first|with_reducible exact Sub.refl _|with_reducible refine Sub.sub (Sub.refl _) (Sub.mul (Sub.div h (Sub.refl _) (hp _ (by decide) (by decide))) ?_))
theorem zAR {a a':Iv} (h:Sub a a') (hr:zal a' zu=true):zal a zu=true:=by
 have h1:=(zuk _).1 hr
 obtain ⟨k1,k2,k3⟩:=h ((zaB _).2 (by omega))
 have:=(zaB _).1 k1
 exact (zuk _).2 (by omega)
theorem Sub.sinS {a a':Iv} (h:Sub a a'):Sub (zaH a) (zaH a'):=by
 simp only [zaH,zeX,Tr.get,zbU]
 cases hr:zal a' zu
 ·exact zuY _
 ·simp only [zAR h hr,Bool.not_true,cfl]
  exact Sub.add (Sub.mul h h.sqr.zu7) (Sub.refl _)
theorem Sub.cosS {a a':Iv} (h:Sub a a'):Sub (zaM a) (zaM a'):=by
 simp only [zaM,zeY,Tr.get,zbU]
 cases hr:zal a' zu
 ·exact zuY _
 ·simp only [zAR h hr,Bool.not_true,cfl]
  exact Sub.add h.sqr.zu6 (Sub.refl _)
theorem Sub.neg {a a':Iv} (h:Sub a a'):Sub (zaK a) (zaK a'):=fun hk=>by
 rw [zp5] at hk
 obtain ⟨k1,k2,k3⟩:=h hk
 have b1:=(zaB _).1 k1
 have b2:=(zaB _).1 hk
 rw [zjj k1,zjj hk]
 have e1:(Rng.w .i64 (0-a.hi.val)).val=0-a.hi.val:=wi (by omega) (by omega)
 have e2:(Rng.w .i64 (0-a.lo.val)).val=0-a.lo.val:=wi (by omega) (by omega)
 have e3:(Rng.w .i64 (0-a'.hi.val)).val=0-a'.hi.val:=wi (by omega) (by omega)
 have e4:(Rng.w .i64 (0-a'.lo.val)).val=0-a'.lo.val:=wi (by omega) (by omega)
 refine ⟨(zaB _).2 (by simp only [e1,e2];omega),?_,?_⟩
 ·simp only [e1,e3];omega
 ·simp only [e2,e4];omega
theorem zow:Box (-4294967296) 4294967296 zu:=zqB (by kernel_rfl)
theorem zLm:decide (zbA.lo.val<zbA.hi.val)=true:=by kernel_rfl
theorem zAk {x:Iv} (h:za (zq x zbA)=true):(zq x zbA).lo.val<(zq x zbA).hi.val:=by
 have hv:=zr1 h
 have hx:=(zaB _).1 hv.1
 have ht:=of_decide_eq_true zLm
 omega
theorem zAP {y:Iv} (h:za (zaH y)=true):(zaH y).lo.val<(zaH y).hi.val:=by
 simp only [zaH,zeX,Tr.get,zbU] at h ⊢
 cases hr:zal y zu
 ·rw [hr] at h;simp only [Bool.not_false,ctr,zbD] at h;cases h
 ·simp only [hr,Bool.not_true,cfl] at h ⊢
  exact zAk h
theorem zIj {y:Iv} (h:za (zaM y)=true):(zaM y).lo.val<(zaM y).hi.val:=by
 simp only [zaM,zeY,Tr.get,zbU] at h ⊢
 cases hr:zal y zu
 ·rw [hr] at h;simp only [Bool.not_false,ctr,zbD] at h;cases h
 ·simp only [hr,Bool.not_true,cfl] at h ⊢
  exact zAk h
theorem zJy {y:Iv} (hk:za y=true) (h:y.lo.val<y.hi.val):(zaK y).lo.val<(zaK y).hi.val:=by
 have b1:=(zaB _).1 hk
 rw [zjj hk]
 have e1:(Rng.w .i64 (0-y.hi.val)).val=0-y.hi.val:=wi (by omega) (by omega)
 have e2:(Rng.w .i64 (0-y.lo.val)).val=0-y.lo.val:=wi (by omega) (by omega)
 simp only [e1,e2]
 omega
theorem zzE {a:Iv} {L:Int} (h:Box L 4294967297 a) (hw:a.lo.val<a.hi.val) (hL: -4294967296<=L) (hL':L<=4294967296):Box L 4294967296 (zav a):=by
 have o:=zow.1
 have e1:zu.lo.val= -4294967296:=rfl
 have e2:zu.hi.val=4294967296:=rfl
 have ba:=(zaB _).1 h.1
 have hb:=h.2
 have m1:=zeB a.lo zu.lo
 have m2:=zf7 a.hi zu.hi
 rw [e1] at m1
 rw [e2] at m2
 simp only [zav,zgJ,zZ,zbJ,Tr.get,h.1,o,Bool.not_true,cfl]
 by_cases hlt:(zt a.lo zu.lo).val>(zC a.hi zu.hi).val
 ·simp only [hlt,decide_true,ctr,Bool.not_false]
  exfalso;omega
 ·simp only [hlt,decide_false,cfl,Bool.not_true]
  exact ⟨(zaB _).2 (by simp only;omega),by simp only;omega,by simp only;omega⟩
theorem k_s0:inBx 17 4294967297 (zaH (zG ⟨⟨100352,rfl⟩,⟨3373259426,rfl⟩⟩ (zP ⟨0,rfl⟩)))=true:=by kernel_rfl
theorem k_s1:inBx 17 4294967297 (zaM (zG ⟨⟨3373259426,rfl⟩,⟨10119778278,rfl⟩⟩ (zP ⟨1,rfl⟩)))=true:=by kernel_rfl
theorem k_s2:inBx 17 4294967297 (zaK (zaH (zG ⟨⟨10119778278,rfl⟩,⟨13493036704,rfl⟩⟩ (zP ⟨2,rfl⟩))))=true:=by kernel_rfl
theorem zCV {n:I64} (h:0<=n.val/\n.val<=13493036704):(zY n).val=(n.val+3373259426)/6746518852:=by
 have ha:za9 n=true:=(zn6 n).2 (by omega)
 have e1:(Rng.w .i64 (n.val+3373259426)).val=n.val+3373259426:=wi (by omega) (by omega)
 have t1:=Int.tdiv_eq_ediv (a:=n.val+3373259426) (b:=6746518852)
 rw [if_pos (.inl (by omega))] at t1
 have q1:(Rng.w .i64 ((n.val+3373259426).tdiv 6746518852)).val=(n.val+3373259426).tdiv 6746518852:=wi (by omega) (by omega)
 have q2:(Rng.w .i64 ((n.val+3373259426).tdiv 6746518852*6746518852)).val=(n.val+3373259426).tdiv 6746518852*6746518852:=wi (by omega) (by omega)
 have hd:decide ((n.val+3373259426).tdiv 6746518852*6746518852>n.val+3373259426)=false:=by simp;omega
 rw [<- zgM]
 simp only [zcq,ze0,Tr.get,zrZ,ha,e1,q1,q2,hd,Bool.not_true,cfl]
 omega
theorem zy4 {t:I64} (h:100352<=t.val/\t.val<=13493036704):Box 17 4294967296 (zaj t ⟨0,rfl⟩):=by
 have ha:za9 t=true:=(zn6 t).2 (by omega)
 have hq:=zCV (n:=t) (by omega)
 have hat:zB t=⟨t,t⟩:=rfl
 have hc:(zY t).val=0\/(zY t).val=1\/(zY t).val=2:=by omega
 simp only [zaj,zje,Tr.get,ha,hat,Bool.not_true,cfl]
 rcases hc with hc|hc|hc
 ·have e:zY t=⟨0,rfl⟩:=Rng.ext hc
  rw [e]
  show Box 17 4294967296 (zav (zaH (zG ⟨t,t⟩ (zP ⟨0,rfl⟩))))
  have hx:=((Sub.sub (zBT (x:=t) (p:=⟨100352,rfl⟩) (q:=⟨3373259426,rfl⟩) h.1 (by simp only;omega) (by decide) (by decide)) (Sub.refl (zP ⟨0,rfl⟩))).sinS.box (zqB k_s0))
  exact zzE hx (zAP hx.1) (by decide) (by decide)
 ·have e:zY t=⟨1,rfl⟩:=Rng.ext hc
  rw [e]
  show Box 17 4294967296 (zav (zaM (zG ⟨t,t⟩ (zP ⟨1,rfl⟩))))
  have hx:=((Sub.sub (zBT (x:=t) (p:=⟨3373259426,rfl⟩) (q:=⟨10119778278,rfl⟩) (by simp only;omega) (by simp only;omega) (by decide) (by decide)) (Sub.refl (zP ⟨1,rfl⟩))).cosS.box (zqB k_s1))
  exact zzE hx (zIj hx.1) (by decide) (by decide)
 ·have e:zY t=⟨2,rfl⟩:=Rng.ext hc
  rw [e]
  show Box 17 4294967296 (zav (zaK (zaH (zG ⟨t,t⟩ (zP ⟨2,rfl⟩)))))
  have hx:=((Sub.sub (zBT (x:=t) (p:=⟨10119778278,rfl⟩) (q:=⟨13493036704,rfl⟩) (by simp only;omega) h.2 (by decide) (by decide)) (Sub.refl (zP ⟨2,rfl⟩))).sinS.neg.box (zqB k_s2))
  exact zzE hx (zJy (by rw [<- zp5];exact hx.1) (zAP (by rw [<- zp5];exact hx.1))) (by decide) (by decide)
end Go.Proofs.YtaoakfodkoifoaaGreat.Ev
namespace Go.Proofs.YtaoakfodkoifoaaGreat.Ev
open Go
theorem zyj {a b:Iv} (h:za (zo a b)=true):za a=true/\za b=true/\¬(b.lo.val<=0/\0<=b.hi.val):=by
 have nw:∀ {P:Prop},za zh=true->P:=fun h=>by rw [zbD] at h;cases h
 simp only [zo,zho,Tr.get] at h
 cases ha:za a
 ·rw [ha] at h;exact nw h
 cases hb:za b
 ·rw [ha,hb] at h;exact nw h
 have hz:zaO b ⟨0,rfl⟩=decide (b.lo.val<=0/\0<=b.hi.val):=by simp only [zaO,zcc,Tr.get,zdp]
 cases hd:decide (b.lo.val<=0/\0<=b.hi.val)
 ·exact ⟨rfl,rfl,by simpa using hd⟩
 ·rw [ha,hb,hz,hd] at h;exact nw h
theorem zHm (a:Iv):Box (-4294967296) 4294967296 (zav a):=by
 have o:=zow.1
 have e1:zu.lo.val= -4294967296:=rfl
 have e2:zu.hi.val=4294967296:=rfl
 simp only [zav,zgJ,zZ,zbJ,Tr.get,o,Bool.not_true,cfl]
 cases ha:za a
 ·simp only [Bool.not_false,Bool.not_true,ctr,cfl];exact zow
 have ba:=(zaB _).1 ha
 have m1:=zeB a.lo zu.lo
 have m2:=zf7 a.hi zu.hi
 rw [e1] at m1
 rw [e2] at m2
 simp only [Bool.not_true,cfl]
 by_cases hlt:(zt a.lo zu.lo).val>(zC a.hi zu.hi).val
 ·simp only [hlt,decide_true,ctr,Bool.not_false];exact zow
 ·simp only [hlt,decide_false,cfl,Bool.not_true]
  exact ⟨(zaB _).2 (by simp only;omega),by simp only;omega,by simp only;omega⟩
theorem zwh (n t:I64):Box (-4294967296) 4294967296 (zaj n t):=by
 simp only [zaj,zje,Tr.get]
 cases za9 n
 ·exact zow
 simp only [Bool.not_true,cfl]
 generalize ((Rng.w .i64 (zbI .and .i64 (Rng.w .i64 ((zY n).val+t.val)).val 3)).val==0)=c0
 generalize ((Rng.w .i64 (zbI .and .i64 (Rng.w .i64 ((zY n).val+t.val)).val 3)).val==1)=c1
 generalize ((Rng.w .i64 (zbI .and .i64 (Rng.w .i64 ((zY n).val+t.val)).val 3)).val==2)=c2
 cases c0<;>cases c1<;>cases c2<;>exact zHm _
theorem zrQ {a b:Iv} (ha:za a=true) (hb:za b=true):za (zN a b)=true/\(zN a b).lo.val<=a.lo.val/\(zN a b).lo.val<=b.lo.val/\((zN a b).lo.val=a.lo.val\/(zN a b).lo.val=b.lo.val)/\a.hi.val<=(zN a b).hi.val/\b.hi.val<=(zN a b).hi.val/\((zN a b).hi.val=a.hi.val\/(zN a b).hi.val=b.hi.val):=by
 have oa:=(zaB _).1 ha
 have ob:=(zaB _).1 hb
 have m1:=zf7 a.lo b.lo
 have m2:=zeB a.hi b.hi
 simp only [zN,zhn,Tr.get,ha,hb,Bool.not_true,cfl]
 rw [zbq (by omega)]
 exact ⟨(zaB _).2 (by simp only;omega),by simp only;omega,by simp only;omega,by simp only;omega,by simp only;omega,by simp only;omega,by simp only;omega⟩
theorem zNT:zf ⟨1,rfl⟩=⟨⟨4294967296,rfl⟩,⟨4294967296,rfl⟩⟩:=by rw [zjP (by decide)];rfl
theorem zKV:zf ⟨-1,rfl⟩=⟨⟨-4294967296,rfl⟩,⟨-4294967296,rfl⟩⟩:=by rw [zjP (by decide)];rfl
theorem zpH (t:I64):∀(L:List I64) (o:Iv),Box (-4294967296) 4294967296 o->Box (-4294967296) 4294967296 (znD t L o)/\(znD t L o).lo.val<=o.lo.val/\o.hi.val<=(znD t L o).hi.val/\((znD t L o).lo.val=o.lo.val\/(znD t L o).lo.val= -4294967296)
 | [],o,h=>⟨h,Int.le_refl _,Int.le_refl _,.inl rfl⟩
 | k::L,o,h=>by
  simp only [znD,zlC,zbP]
  have o1:za (zf ⟨1,rfl⟩)=true:=by rw [zNT];exact (zaB _).2 (by decide)
  have o2:za (zf ⟨-1,rfl⟩)=true:=by rw [zKV];exact (zaB _).2 (by decide)
  have l1:(zf ⟨1,rfl⟩).lo.val=4294967296/\(zf ⟨1,rfl⟩).hi.val=4294967296:=by rw [zNT];exact ⟨rfl,rfl⟩
  have l2:(zf ⟨-1,rfl⟩).lo.val= -4294967296/\(zf ⟨-1,rfl⟩).hi.val= -4294967296:=by rw [zKV];exact ⟨rfl,rfl⟩
  have ho:=(zaB _).1 h.1
  have hb:=h.2
  cases ((znu t k).val==1)
  ·cases ((znu t k).val==3)
   ·exact zpH t L o h
   ·simp only [cond_true,cond_false]
    have hv:=zrQ h.1 o2
    obtain ⟨i1,i2,i3,i4⟩:=zpH t L (zN o (zf ⟨-1,rfl⟩)) ⟨hv.1,by omega,by omega⟩
    exact ⟨i1,by omega,by omega,by omega⟩
  ·simp only [cond_true]
   have hv:=zrQ h.1 o1
   obtain ⟨i1,i2,i3,i4⟩:=zpH t L (zN o (zf ⟨1,rfl⟩)) ⟨hv.1,by omega,by omega⟩
   exact ⟨i1,by omega,by omega,by omega⟩
theorem zrI (x:Iv) (t:I64):Box (-4294967296) 4294967296 (zgP x t):=by
 rw [<- zsK]
 unfold zaZ
 cases zb5 x
 ·rw [zpr];exact zow
 ·simp only [Bool.not_true,cfl]
  refine (zpH t _ _ ?_).1
  unfold o0
  rw [zlC,ziI,ziI]
  exact zzL (zwh _ _) (zwh _ _)
theorem zI6 {s:Iv} (hf:zb7 s=true):(zan s).lo.val<=(zaj s.lo ⟨0,rfl⟩).lo.val/\(zan s).lo.val<=(zaj s.hi ⟨0,rfl⟩).lo.val/\(zaj s.lo ⟨0,rfl⟩).hi.val<=(zan s).hi.val/\(zaj s.hi ⟨0,rfl⟩).hi.val<=(zan s).hi.val /\
  ((zan s).lo.val=(zaj s.lo ⟨0,rfl⟩).lo.val\/(zan s).lo.val=(zaj s.hi ⟨0,rfl⟩).lo.val\/(zan s).lo.val= -4294967296):=by
 have e:zan s=znD ⟨0,rfl⟩ (ziG s 1000 (k0 s)) (o0 s ⟨0,rfl⟩):=by
  simp only [zan,zi7,Tr.get]
  rw [<- zsK]
  unfold zaZ
  rw [zv0,hf]
  simp only [Bool.not_true,cfl]
 have h1:=zwh s.lo ⟨0,rfl⟩
 have h2:=zwh s.hi ⟨0,rfl⟩
 have hv:=zrQ h1.1 h2.1
 have ho:o0 s ⟨0,rfl⟩=zN (zaj s.lo ⟨0,rfl⟩) (zaj s.hi ⟨0,rfl⟩):=by unfold o0;rw [zlC,ziI,ziI]
 obtain ⟨_,i2,i3,i4⟩:=zpH ⟨0,rfl⟩ (ziG s 1000 (k0 s)) (o0 s ⟨0,rfl⟩) (by rw [ho];exact zzL h1 h2)
 rw [e]
 rw [ho] at i2 i3 i4 ⊢
 exact ⟨by omega,by omega,by omega,by omega,by omega⟩
theorem dbl2 {a:Iv} (h:za a=true) (hb: -20000000000<=a.lo.val/\a.hi.val<=20000000000):zk (zf ⟨2,rfl⟩) a=⟨.w .i64 (2*a.lo.val),.w .i64 (2*a.hi.val)⟩:=by
 have ha:=(zaB _).1 h
 have e2:zf ⟨2,rfl⟩=⟨⟨8589934592,rfl⟩,⟨8589934592,rfl⟩⟩:=by rw [zjP (by decide)];rfl
 have o2:za ⟨⟨8589934592,rfl⟩,⟨8589934592,rfl⟩⟩=true:=(zaB _).2 (by decide)
 obtain ⟨lo,hi,e,k1,k2,k3⟩:=zvH (a:=⟨⟨8589934592,rfl⟩,⟨8589934592,rfl⟩⟩) (b:=a) (L:=2*a.lo.val) (H:=2*a.hi.val) o2 h (by omega) (by omega) (fun x y hx hy=>by
  have hx':x.val=8589934592:=by rcases hx with rfl|rfl<;>rfl
  have hp:x.val*y.val/4294967296=2*y.val:=by rw [hx'];omega
  have hn: -(x.val*y.val)/4294967296= -(2*y.val):=by rw [hx'];omega
  have hy':a.lo.val<=y.val/\y.val<=a.hi.val:=by rcases hy with rfl|rfl<;>omega
  have e1:=zhv (a:=x) (b:=y) (ok3 (by omega)) (ok3 (by omega)) (by omega)
  have e3:=zpC (a:=x) (b:=y) (ok3 (by omega)) (ok3 (by omega)) (by omega)
  rw [hp] at e1
  rw [hn] at e3
  refine ⟨_,_,e1,e3,?_,?_,?_⟩
  ·rw [wi (by omega) (by omega)];omega
  ·rw [wi (by omega) (by omega),wi (by omega) (by omega)];omega
  ·rw [wi (by omega) (by omega)];omega)
 rw [e2]
 -- both ends are met
 have c:=zq0 (a:=⟨⟨8589934592,rfl⟩,⟨8589934592,rfl⟩⟩) (b:=a) (by rw [e];exact (zaB _).2 (by simp only;omega))
 have c1:=(c.2.2 ⟨8589934592,rfl⟩ a.lo (.inl rfl) (.inl rfl)).1
 have c2:=(c.2.2 ⟨8589934592,rfl⟩ a.hi (.inl rfl) (.inr rfl)).2
 rw [e] at c1 c2 ⊢
 simp only at c1 c2
 have w1:(Rng.w .i64 (2*a.lo.val)).val=2*a.lo.val:=wi (by omega) (by omega)
 have w2:(Rng.w .i64 (2*a.hi.val)).val=2*a.hi.val:=wi (by omega) (by omega)
 have f1:lo= .w .i64 (2*a.lo.val):=Rng.ext (by rw [w1];omega)
 have f2:hi= .w .i64 (2*a.hi.val):=Rng.ext (by rw [w2];omega)
 rw [f1,f2]
def Kd3 (k:I64):Prop:=k.val=0\/(65536<=k.val/\k.val<=4294967295)\/k.val=4294967296
theorem zLs {a:Iv} (h:za (zaD a)=true):((zaD a).lo.val=0\/65536<=(zaD a).lo.val)/\((zaD a).hi.val=0\/65536<=(zaD a).hi.val):=by
 have hn:=zui h
 have hb:=(zaB _).1 hn.1
 obtain ⟨_,v1,v2⟩:=zry hn.1 hn.2
 obtain ⟨q,p,e1,e2,h1,h2,h3,h4,h5,h6,h7,h8⟩:=zms a.lo (by omega)
 obtain ⟨r,s,f1,f2,g1,g2,g3,g4,g5,g6,g7,g8⟩:=zms a.hi (by omega)
 rw [v1,v2,e1,f2]
 have key:∀z n:Int,0<=z->1<=n->n*4294967296<(z+1)*(z+1)->65536<=z:=fun z n hz hn h=>by
  by_cases hh:65536<=z
  ·exact hh
  ·have:(z+1)*(z+1)<=65536*65536:=Int.mul_le_mul (by omega) (by omega) (by omega) (by decide)
   omega
 constructor
 ·by_cases h0:a.lo.val=0
  ·left
   simp only
   have:q.val*q.val<=0*0:=by omega
   have:=znV h1 (by decide) this
   omega
  ·right;exact key _ _ h1 (by omega) h4
 ·by_cases h0:a.hi.val=0
  ·left
   simp only
   have:r.val*r.val<=0*0:=by omega
   have hr:=znV g1 (by decide) this
   have hr0:r.val=0:=by omega
   by_cases hs:r.val<s.val
   ·have:=g8 hs;rw [hr0] at this;omega
   ·omega
  ·right
   have:=key _ _ g1 (by omega) g4
   simp only;omega
theorem zKS {k:I64} (h:k.val=0\/65536<=k.val) (h':k.val<=4294967296):Kd3 k:=by unfold Kd3;omega
theorem zIE {k:I64} (h:Kd3 k):za (zaP k)=true/\((k.val=0/\(zaP k).lo.val= -8/\(zaP k).hi.val=8)\/((65536<=k.val/\k.val<=4294967295)/\50176<=(zaP k).lo.val/\(zaP k).hi.val<=6746518352)\/(k.val=4294967296/\(zaP k).lo.val=6746518832/\(zaP k).hi.val=6746518853)):=by
 rcases h with h|h|h
 ·have e:k=⟨0,rfl⟩:=Rng.ext h
  rw [e,zOj]
  exact ⟨(zaB _).2 (by decide),.inl ⟨rfl,rfl,rfl⟩⟩
 ·have hb:=zKn h
  exact ⟨hb.1,.inr (.inl ⟨h,hb.2⟩)⟩
 ·have e:k=⟨4294967296,rfl⟩:=Rng.ext h
  rw [e,zIF]
  exact ⟨(zaB _).2 (by decide),.inr (.inr ⟨rfl,rfl,rfl⟩)⟩
theorem zQs:inBx (-17) (-1) (zaj ⟨-16,rfl⟩ ⟨0,rfl⟩)=true:=by kernel_rfl
theorem zQr:inBx 1 17 (zaj ⟨16,rfl⟩ ⟨0,rfl⟩)=true:=by kernel_rfl
theorem zQq:decide ((zaj ⟨13493037706,rfl⟩ ⟨0,rfl⟩).lo.val<=0)=true:=by kernel_rfl
theorem zQt:inBx 0 100 (zaj ⟨13493037664,rfl⟩ ⟨0,rfl⟩)=true:=by kernel_rfl
theorem zQu:decide ((zan ⟨⟨-16,rfl⟩,⟨13493037706,rfl⟩⟩).lo.val<=0)&&decide (0<=(zan ⟨⟨-16,rfl⟩,⟨13493037706,rfl⟩⟩).hi.val)=true:=by kernel_rfl
theorem zAl:decide ((zan (zk (zf ⟨2,rfl⟩) (zN (zaP zu.lo) (zaP zu.hi)))).lo.val<=0)&&decide (0<=(zan (zk (zf ⟨2,rfl⟩) (zN (zaP zu.lo) (zaP zu.hi)))).hi.val)=true:=by kernel_rfl
theorem zJ2 {s:Iv} (h:za s=true) (hb: -100000000000<=s.lo.val/\s.hi.val<=100000000000):zb7 s=true:=by
 have hs:=(zaB _).1 h
 have h1:zed s=true:=by simp only [zed,zfD,Tr.get,h]
 simp only [zb7,ziA,Tr.get,h1,ctr,(zn6 s.lo).2 (by omega)]
 exact (zn6 s.hi).2 (by omega)
theorem zy1 {s:Iv} (h:za s=false):(zan s).lo.val<=0/\0<=(zan s).hi.val:=by
 have hf:zb7 s=false:=by
  simp only [zb7,ziA,zed,zfD,Tr.get,h,cfl]
 simp only [zan,zi7,Tr.get]
 rw [<- zsK]
 unfold zaZ
 rw [zv0,hf,zpr]
 simp only [Bool.not_false,ctr]
 exact ⟨by decide +kernel,by decide +kernel⟩
end Go.Proofs.YtaoakfodkoifoaaGreat.Ev
namespace Go.Proofs.YtaoakfodkoifoaaGreat.Ev
open Go
set_option maxHeartbeats 2000000 in
theorem zMS (a:Iv) (hz:¬((zan (zk (zf ⟨2,rfl⟩) (zc6 (zaD a)))).lo.val<=0/\0<=(zan (zk (zf ⟨2,rfl⟩) (zc6 (zaD a)))).hi.val)):
  17<=(zan (zk (zf ⟨2,rfl⟩) (zc6 (zaD a)))).lo.val:=by
 have o:=zow.1
 have e1:zu.lo.val= -4294967296:=rfl
 have e2:zu.hi.val=4294967296:=rfl
 have hasin:∀q:Iv,zc6 q=bif !(zZ q zu).b then zh else zN (zaP (zZ q zu).a.lo) (zaP (zZ q zu).a.hi):=fun q=>by
  simp only [zc6,zm5,Tr.get,zbU]
 cases hq:za (zaD a)
 ·exfalso
  have hm:zZ (zaD a) zu=⟨zu,true⟩:=by
   simp only [zZ,zbJ,Tr.get,hq,o,Bool.not_false,Bool.not_true,ctr,cfl]
  rw [hasin,hm] at hz
  simp only [Bool.not_true,cfl] at hz
  have hw:=zAl
  simp only [Bool.and_eq_true,decide_eq_true_eq] at hw
  exact hz hw
 have hse:=zLs hq
 have hqb:=(zaB _).1 hq
 generalize zaD a=r at *
 have m1:=zeB r.lo zu.lo
 have m2:=zf7 r.hi zu.hi
 rw [e1] at m1
 rw [e2] at m2
 by_cases hlt:(zt r.lo zu.lo).val>(zC r.hi zu.hi).val
 ·exfalso
  have hm:(zZ r zu).b=false:=by
   simp only [zZ,zbJ,Tr.get,hq,o,hlt,decide_true,Bool.not_true,ctr,cfl]
  rw [hasin,hm] at hz
  simp only [Bool.not_false,ctr] at hz
  exact hz (zy1 (zvG (.inr zbD)))
 have hm:zZ r zu=⟨⟨zt r.lo zu.lo,zC r.hi zu.hi⟩,true⟩:=by
  simp only [zZ,zbJ,Tr.get,hq,o,hlt,decide_false,Bool.not_true,cfl]
 rw [hasin,hm] at hz ⊢
 simp only [Bool.not_true,cfl] at hz ⊢
 have kA:Kd3 (zt r.lo zu.lo):=zKS (by omega) (by omega)
 have kB:Kd3 (zC r.hi zu.hi):=zKS (by omega) (by omega)
 have hle:(zt r.lo zu.lo).val<=(zC r.hi zu.hi).val:=by omega
 generalize zt r.lo zu.lo=ka at *
 generalize zC r.hi zu.hi=kb at *
 obtain ⟨oa,ca⟩:=zIE kA
 obtain ⟨ob,cb⟩:=zIE kB
 generalize zaP ka=A at *
 generalize zaP kb=B at *
 have bA:=(zaB _).1 oa
 have bB:=(zaB _).1 ob
 have hv:=zrQ oa ob
 generalize zN A B=H at *
 rw [dbl2 hv.1 (by omega)] at hz ⊢
 have w1:(Rng.w .i64 (2*H.lo.val)).val=2*H.lo.val:=wi (by omega) (by omega)
 have w2:(Rng.w .i64 (2*H.hi.val)).val=2*H.hi.val:=wi (by omega) (by omega)
 have hf:=zJ2 (s:=⟨.w .i64 (2*H.lo.val),.w .i64 (2*H.hi.val)⟩) ((zaB _).2 (by simp only [w1,w2];omega)) (by simp only [w1,w2];omega)
 obtain ⟨s1,s2,s3,s4,s5⟩:=zI6 hf
 simp only at s1 s2 s3 s4 s5
 have t16:=(zqB zQs).2
 have p16:=(zqB zQr).2
 have ttop:=of_decide_eq_true zQq
 have tlow:=(zqB zQt).2
 have oks:∀n t,(zaj n t).lo.val<=(zaj n t).hi.val:=fun n t=>((zaB _).1 (zwh n t).1).2.1
 have ok1:=oks ⟨-16,rfl⟩ ⟨0,rfl⟩
 have ok2:=oks ⟨16,rfl⟩ ⟨0,rfl⟩
 have ok3':=oks ⟨13493037706,rfl⟩ ⟨0,rfl⟩
 have ok4:=oks ⟨13493037664,rfl⟩ ⟨0,rfl⟩
 rcases ca with ⟨ca,ca1,ca2⟩|⟨ca,ca1,ca2⟩|⟨ca,ca1,ca2⟩<;>rcases cb with ⟨cb,cb1,cb2⟩|⟨cb,cb1,cb2⟩|⟨cb,cb1,cb2⟩
 ·-- 0, 0
  exfalso
  have f1:Rng.w .i64 (2*H.lo.val)=⟨-16,rfl⟩:=Rng.ext (by rw [w1];simp only;omega)
  have f2:Rng.w .i64 (2*H.hi.val)=⟨16,rfl⟩:=Rng.ext (by rw [w2];simp only;omega)
  rw [show zaj (.w .i64 (2*H.lo.val)) ⟨0,rfl⟩=zaj ⟨-16,rfl⟩ ⟨0,rfl⟩ by rw [f1]] at s1
  rw [show zaj (.w .i64 (2*H.hi.val)) ⟨0,rfl⟩=zaj ⟨16,rfl⟩ ⟨0,rfl⟩ by rw [f2]] at s4
  omega
 ·exfalso
  have f1:Rng.w .i64 (2*H.lo.val)=⟨-16,rfl⟩:=Rng.ext (by rw [w1];simp only;omega)
  have hb:=zy4 (t:= .w .i64 (2*H.hi.val)) (by rw [w2];omega)
  have hb2:=hb.2
  have ok5:=oks (.w .i64 (2*H.hi.val)) ⟨0,rfl⟩
  rw [show zaj (.w .i64 (2*H.lo.val)) ⟨0,rfl⟩=zaj ⟨-16,rfl⟩ ⟨0,rfl⟩ by rw [f1]] at s1
  omega
 ·exfalso
  have f1:Rng.w .i64 (2*H.lo.val)=⟨-16,rfl⟩:=Rng.ext (by rw [w1];simp only;omega)
  have f2:Rng.w .i64 (2*H.hi.val)=⟨13493037706,rfl⟩:=Rng.ext (by rw [w2];simp only;omega)
  rw [f1,f2] at hz
  have hw:=zQu
  simp only [Bool.and_eq_true,decide_eq_true_eq] at hw
  exact hz hw
 ·exfalso;omega
 ·-- both between
  have hb1:=zy4 (t:= .w .i64 (2*H.lo.val)) (by rw [w1];omega)
  have hb2:=zy4 (t:= .w .i64 (2*H.hi.val)) (by rw [w2];omega)
  have c1:=hb1.2
  have c2:=hb2.2
  have ok5:=oks (.w .i64 (2*H.hi.val)) ⟨0,rfl⟩
  omega
 ·exfalso
  have f2:Rng.w .i64 (2*H.hi.val)=⟨13493037706,rfl⟩:=Rng.ext (by rw [w2];simp only;omega)
  have hb1:=zy4 (t:= .w .i64 (2*H.lo.val)) (by rw [w1];omega)
  have c1:=hb1.2
  have ok5:=oks (.w .i64 (2*H.lo.val)) ⟨0,rfl⟩
  rw [show zaj (.w .i64 (2*H.hi.val)) ⟨0,rfl⟩=zaj ⟨13493037706,rfl⟩ ⟨0,rfl⟩ by rw [f2]] at s2
  omega
 ·exfalso;omega
 ·exfalso;omega
 ·exfalso
  have f1:Rng.w .i64 (2*H.lo.val)=⟨13493037664,rfl⟩:=Rng.ext (by rw [w1];simp only;omega)
  have f2:Rng.w .i64 (2*H.hi.val)=⟨13493037706,rfl⟩:=Rng.ext (by rw [w2];simp only;omega)
  rw [show zaj (.w .i64 (2*H.lo.val)) ⟨0,rfl⟩=zaj ⟨13493037664,rfl⟩ ⟨0,rfl⟩ by rw [f1]] at s3
  rw [show zaj (.w .i64 (2*H.hi.val)) ⟨0,rfl⟩=zaj ⟨13493037706,rfl⟩ ⟨0,rfl⟩ by rw [f2]] at s2
  omega
theorem zMh:inBx (-4294967296) 4294967296 (zk zu zu)=true:=by kernel_rfl
theorem zJO:za (zo zu ⟨⟨17,rfl⟩,⟨4294967296,rfl⟩⟩)=true:=by kernel_rfl
theorem zEm {a b:Iv} (ha:Box (-4294967296) 4294967296 a) (hb:Box (-4294967296) 4294967296 b):Box (-4294967296) 4294967296 (zk a b):=
 (Sub.mul (Box.sub (b:=zu) ha) (Box.sub (b:=zu) hb)).box (zqB zMh)
theorem n_ok (u v x:Iv) (h:za (mM u v (ang u v x))=true):za (nN u v x (ang u v x))=true:=by
 unfold mM at h
 have hp:=zyj h
 have hs:=zMS _ hp.2.2
 have hy:=zrI (ang u v x) ⟨0,rfl⟩
 have hye:zan (ang u v x)=zgP (ang u v x) ⟨0,rfl⟩:=by simp only [zan,zi7,Tr.get]
 have hbox:Box 17 4294967296 (zan (ang u v x)):=⟨hp.2.1,hs,by rw [hye];exact hy.2.2⟩
 have r1:Box (-4294967296) 4294967296 (zbR u):=by simp only [zbR,zmo,Tr.get];exact zrI _ _
 have r2:Box (-4294967296) 4294967296 (zbR v):=by simp only [zbR,zmo,Tr.get];exact zrI _ _
 have r3:Box (-4294967296) 4294967296 (zan x):=by simp only [zan,zi7,Tr.get];exact zrI _ _
 unfold nN
 exact (Sub.div (Box.sub (b:=zu) (zEm (zEm r1 r2) r3)) (Box.sub (b:=⟨⟨17,rfl⟩,⟨4294967296,rfl⟩⟩) hbox) (by decide) zJO).1
theorem zMd (e:Ell) (p q:zaA) (x:Iv) {n:I64} (hn:1<=n.val/\n.val<=64):(imA (mkG e p q) x n).b=(spA (mkS e p q) x n).b:=by
 refine zJK e p q x hn ?_
 cases h:za (mM (mkS e p q).u (mkS e p q).v (ang (mkS e p q).u (mkS e p q).v x))
 ·exact .inr h
 ·exact .inl (n_ok _ _ _ h)
def lenQ (e:Ell) (p q:zaA) (n:I64):Iv:=
 bif !(zj4 (omA e p q n)) then zcH (mkS e p q) else bif !(za (spA (mkS e p q) (omA e p q n) n).b) then zcH (mkS e p q) else bif !((zZ (zcH (mkS e p q)) (spA (mkS e p q) (omA e p q n) n).b).b) then zcH (mkS e p q) else (zZ (zcH (mkS e p q)) (spA (mkS e p q) (omA e p q n) n).b).a
theorem zEx (e:Ell) (p q:zaA) {n:I64} (hn:1<=n.val/\n.val<=64):(zg1 (mkS e p q) n).opt=some (lenQ e p q n):=by
 simp only [zg1,Tr.opt,zG3 _ _ _ hn,zG4 _ _ _ hn,zLw,sp_G _ _ hn,sp_F _ _ hn,ctr,zuj,lenQ]
theorem zEy (e:Ell) (p q:zaA) {n:I64} (hn:1<=n.val/\n.val<=64):(zd7 (mkG e p q) n).opt=some (lenQ e p q n):=by
 simp only [zd7,Tr.opt,zBn _ _ _ hn,zBo _ _ _ hn,im_G _ _ hn,im_F _ _ hn,ctr,ziH,zsP,zIq (mkG e p q) (mkS e p q) rfl rfl rfl rfl rfl,zMd e p q _ hn,zI8 (zJw e p q n),zuj,lenQ]
theorem zx9 (e:Ell) (p q:zaA) {n:I64} (hn:1<=n.val/\n.val<=64):znr (mkS e p q) n=lenQ e p q n:=Tr.zai (zEx e p q hn)
theorem zx7 (e:Ell) (p q:zaA) {n:I64} (hn:1<=n.val/\n.val<=64):zjX (mkS e p q) n=true:=by unfold zjX;rw [zEx e p q hn];rfl
theorem zya (e:Ell) (p q:zaA) {n:I64} (hn:1<=n.val/\n.val<=64):zfH (mkG e p q) n=lenQ e p q n:=Tr.zai (zEy e p q hn)
theorem zx8 (e:Ell) (p q:zaA) {n:I64} (hn:1<=n.val/\n.val<=64):zec (mkG e p q) n=true:=by unfold zec;rw [zEy e p q hn];rfl
end Go.Proofs.YtaoakfodkoifoaaGreat.Ev
