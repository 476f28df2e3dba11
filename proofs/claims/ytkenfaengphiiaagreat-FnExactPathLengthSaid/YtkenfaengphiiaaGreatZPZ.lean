/- The law FnExactPathLength gives true, whatever comes in; each argument reads behind the call as it read before. No conditions. (One of the texts of its proof, put together by a program of this session.) -/
import Derived.Test.YtkenfaengphiiaaGreatZW5
import Derived.Test.YtkenfaengphiiaaGreatZWI
set_option linter.unusedSectionVars false
set_option linter.unusedSimpArgs false
set_option linter.unusedVariables false
noncomputable section
namespace Go.Proofs.YtkenfaengphiiaaGreat.Ev
open Go
def Box (L H:Int) (a:Iv):Prop:=za a=true/\L<=a.lo.val/\a.hi.val<=H
def inBx (L H:Int) (a:Iv):Bool:=za a&&(decide (L<=a.lo.val)&&decide (a.hi.val<=H))
theorem box_of {L H:Int} {a:Iv} (h:inBx L H a=true):Box L H a:=by
 simp only [inBx,Bool.and_eq_true,decide_eq_true_eq] at h
 exact ⟨h.1,h.2.1,h.2.2⟩
theorem Sub.box {a b:Iv} {L H:Int} (h:Sub a b) (k:Box L H b):Box L H a:=by
 obtain ⟨h1,h2,h3⟩:=h k.1
 exact ⟨h1,by have:=k.2.1;omega,by have:=k.2.2;omega⟩
theorem Box.sub {a b:Iv} (h:Box b.lo.val b.hi.val a):Sub a b:=fun _=>⟨h.1,h.2.1,h.2.2⟩
theorem at_sub {x p q:I64} (h1:p.val<=x.val) (h2:x.val<=q.val) (h3: -1152921504606846976<p.val) (h4:q.val<1152921504606846976):Sub ⟨x,x⟩ ⟨p,q⟩:=fun _=>⟨(zaN _).2 (by simp only;omega),h1,h2⟩
theorem Sub.halve {a a':Iv} (h:Sub a a'):Sub (zdd a) (zdd a'):=by
 simp only [zdd,t_spec_l07Halve,Tr.get]
 cases hb:za (zk (zb ⟨1,rfl⟩) (zar (zk (zb ⟨1,rfl⟩) (zao a'))))
 ·exact sub_ofno (div_no hb)
 ·have hv:=addI_val hb
  have hs:=sqrtI_nn hv.2.1
  have hk:=sqrtI_mk hs.1 hs.2
  have hin:=(zaN _).1 hs.1
  obtain ⟨q,p,e1,e2,h1,h2,h3,h4,h5,h6,h7,h8⟩:=su_val2 _ (show 0<=(zk (zb ⟨1,rfl⟩) (zao a')).lo.val/\(zk (zb ⟨1,rfl⟩) (zao a')).lo.val<=1152921504606846976 by omega)
  have ho:(zb ⟨1,rfl⟩).lo.val=4294967296:=by rw [int_val (by decide)];rfl
  refine Sub.div h (Sub.add (Sub.refl _) (Sub.sqrt (Sub.add (Sub.refl _) h.sqr))) ?_
  rw [hv.2.2.1,hk.2.1,e1,ho]
  simp only
  omega
theorem inside4 {x:Iv}:zaC x ⟨⟨(-1073741824),rfl⟩,⟨1073741824,rfl⟩⟩=(za x&&(decide (-1073741824<=x.lo.val)&&decide (x.hi.val<=1073741824))):=by
 have h2:za ⟨⟨-1073741824,rfl⟩,⟨1073741824,rfl⟩⟩=true:=(zaN _).2 (by decide)
 simp only [zaC,zfg,Tr.get,h2,Bool.not_true,cond_false]
 cases za x<;>cases decide (-1073741824<=x.lo.val)<;>simp [ctr,cfl]
theorem Sub.arc {a a':Iv} (h:Sub a a'):Sub (zdp a) (zdp a'):=by
 simp only [zdp,t_spec_ArcSeries,Tr.get,zc5]
 cases hi:zaC a' ⟨⟨(-1073741824),rfl⟩,⟨1073741824,rfl⟩⟩
 ·exact sub_whole _
 ·have hi':=hi
  rw [inside4] at hi'
  simp only [Bool.and_eq_true,decide_eq_true_eq] at hi'
  obtain ⟨k1,k2,k3⟩:=h hi'.1
  have hj:zaC a ⟨⟨(-1073741824),rfl⟩,⟨1073741824,rfl⟩⟩=true:=by
   rw [inside4]
   simp only [Bool.and_eq_true,decide_eq_true_eq]
   exact ⟨k1,by omega,by omega⟩
  simp only [hj,Bool.not_true,cfl]
  refine Sub.add (Sub.mul h ?_) (Sub.refl _)
  have hy:=h.sqr
  generalize zao a=y,zao a'=y' at hy
  repeat' (first|with_reducible exact Sub.refl _|with_reducible refine Sub.sub (Sub.refl _) (Sub.mul hy ?_))
theorem Sub.core {a a':Iv} (h:Sub a a'):Sub (zax a) (zax a'):=by
 simp only [zax,t_spec_l07Core,Tr.get]
 exact h.halve.halve.arc.dbl.dbl
theorem core_box {x p q:I64} {L H:Int} (h1:p.val<=x.val) (h2:x.val<=q.val) (h3: -1152921504606846976<p.val) (h4:q.val<1152921504606846976) (hk:inBx L H (zax ⟨p,q⟩)=true):Box L H (zax ⟨x,x⟩):=
 (at_sub h1 h2 h3 h4).core.box (box_of hk)
theorem atan_core {x:I64} (h:0<=x.val/\x.val<=4294967296):zdF x=zax ⟨x,x⟩:=by
 have hf:zb2 x=true:=(fix_iff x).2 (by omega)
 have hn:decide (x.val<0)=false:=by simp;omega
 have hg:decide (x.val>4294967296)=false:=by simp;omega
 have e:zdF x=zax (zA x):=Tr.zae (by simp only [t_spec_AtanAt,Tr.opt,hf,hn,hg,Bool.not_true,cfl])
 rw [e]
 simp only [zA,t_spec_l05At,Tr.get]
theorem k_lo:inBx 25088 4294967300 (zax ⟨⟨32767,rfl⟩,⟨4294967296,rfl⟩⟩)=true:=by kernel_rfl
theorem k_1:inBx (-8) 3373259176 (zax ⟨⟨0,rfl⟩,⟨2623393355,rfl⟩⟩)=true:=by kernel_rfl
theorem k_2:inBx (-8) 3373259176 (zax ⟨⟨2623393355,rfl⟩,⟨3744528541,rfl⟩⟩)=true:=by kernel_rfl
theorem k_3:inBx (-8) 3373259176 (zax ⟨⟨3744528541,rfl⟩,⟨4092898073,rfl⟩⟩)=true:=by kernel_rfl
theorem k_4:inBx (-8) 3373259176 (zax ⟨⟨4092898073,rfl⟩,⟨4218663241,rfl⟩⟩)=true:=by kernel_rfl
theorem k_5:inBx (-8) 3373259176 (zax ⟨⟨4218663241,rfl⟩,⟨4265874415,rfl⟩⟩)=true:=by kernel_rfl
theorem k_6:inBx (-8) 3373259176 (zax ⟨⟨4265874415,rfl⟩,⟨4283835239,rfl⟩⟩)=true:=by kernel_rfl
theorem k_7:inBx (-8) 3373259176 (zax ⟨⟨4283835239,rfl⟩,⟨4290701832,rfl⟩⟩)=true:=by kernel_rfl
theorem k_8:inBx (-8) 3373259176 (zax ⟨⟨4290701832,rfl⟩,⟨4293331870,rfl⟩⟩)=true:=by kernel_rfl
theorem k_9:inBx (-8) 3373259176 (zax ⟨⟨4293331870,rfl⟩,⟨4294339936,rfl⟩⟩)=true:=by kernel_rfl
theorem k_10:inBx (-8) 3373259176 (zax ⟨⟨4294339936,rfl⟩,⟨4294726423,rfl⟩⟩)=true:=by kernel_rfl
theorem k_11:inBx (-8) 3373259176 (zax ⟨⟨4294726423,rfl⟩,⟨4294874616,rfl⟩⟩)=true:=by kernel_rfl
theorem atan_box {x:I64} (h:32767<=x.val/\x.val<=4294874616):Box 25088 3373259176 (zdF x):=by
 rw [atan_core (by omega)]
 have lo:=core_box (x:=x) (p:=⟨32767,rfl⟩) (q:=⟨4294967296,rfl⟩) h.1 (by simp only;omega) (by decide) (by decide) k_lo
 have hi:Box (-8) 3373259176 (zax ⟨x,x⟩):=by
  by_cases c1:x.val<=2623393355
  ·exact core_box (by simp only;omega) c1 (by decide) (by decide) k_1
  by_cases c2:x.val<=3744528541
  ·exact core_box (by simp only;omega) c2 (by decide) (by decide) k_2
  by_cases c3:x.val<=4092898073
  ·exact core_box (by simp only;omega) c3 (by decide) (by decide) k_3
  by_cases c4:x.val<=4218663241
  ·exact core_box (by simp only;omega) c4 (by decide) (by decide) k_4
  by_cases c5:x.val<=4265874415
  ·exact core_box (by simp only;omega) c5 (by decide) (by decide) k_5
  by_cases c6:x.val<=4283835239
  ·exact core_box (by simp only;omega) c6 (by decide) (by decide) k_6
  by_cases c7:x.val<=4290701832
  ·exact core_box (by simp only;omega) c7 (by decide) (by decide) k_7
  by_cases c8:x.val<=4293331870
  ·exact core_box (by simp only;omega) c8 (by decide) (by decide) k_8
  by_cases c9:x.val<=4294339936
  ·exact core_box (by simp only;omega) c9 (by decide) (by decide) k_9
  by_cases c10:x.val<=4294726423
  ·exact core_box (by simp only;omega) c10 (by decide) (by decide) k_10
  ·exact core_box (by simp only;omega) (by simp only;omega) (by decide) (by decide) k_11
 exact ⟨lo.1,lo.2.1,hi.2.2⟩
theorem hull_box {a b:Iv} {L H:Int} (ha:Box L H a) (hb:Box L H b):Box L H (zT a b):=by
 have oa:=(zaN _).1 ha.1
 have ob:=(zaN _).1 hb.1
 have m1:=min_l a.lo b.lo
 have m2:=max_l a.hi b.hi
 have a1:=ha.2
 have b1:=hb.2
 simp only [zT,t_spec_HullI,Tr.get,ha.1,hb.1,Bool.not_true,cfl]
 rw [zbI (by omega)]
 exact ⟨(zaN _).2 (by simp only;omega),by simp only;omega,by simp only;omega⟩
theorem atanI_box {a:Iv} (h:Box 32767 4294874616 a):Box 25088 3373259176 (zah a):=by
 have h1:=(zaN _).1 h.1
 have h2:=h.2
 rw [atanI_spec,siw_eq,h.1]
 simp only [Bool.not_true,cfl]
 exact hull_box (atan_box (by omega)) (atan_box (by omega))
theorem circle_box {k:I64} (h:65536<=k.val/\k.val<=4294967295):Box 92681 4294967296 (zdf k):=by
 have e1:(Rng.w .i64 (4294967296-k.val)).val=4294967296-k.val:=wi (by omega) (by omega)
 have e2:(Rng.w .i64 (4294967296+k.val)).val=4294967296+k.val:=wi (by omega) (by omega)
 have hi:zaj k ⟨(-4294967296),rfl⟩ ⟨4294967296,rfl⟩=true:=by rw [zft];simp;omega
 obtain ⟨q,f1,f2,f3,f4,f5⟩:=sf_val (.w .i64 (4294967296-k.val)) (.w .i64 (4294967296+k.val)) (by omega) (by omega)
 rw [e1,e2] at f4 f5
 have hq:q.val+1<=4294967296:=by
  by_cases hh:q.val+1<=4294967296
  ·exact hh
  ·have h1:(4294967296:Int)*4294967296<=q.val*q.val:=Int.mul_le_mul (by omega) (by omega) (by decide) (by omega)
   have h2:(4294967296-k.val)*(4294967296+k.val)=4294967296*4294967296-k.val*k.val:=by
    rw [Int.sub_mul,Int.mul_add,Int.mul_add,Int.mul_comm k.val 4294967296];omega
   have h3:=Int.mul_pos (show 0<k.val by omega) (show 0<k.val by omega)
   omega
 have hl:92681<=q.val:=by
  by_cases hh:92681<=q.val
  ·exact hh
  ·have h1:(q.val+1)*(q.val+1)<=92681*92681:=Int.mul_le_mul (by omega) (by omega) (by omega) (by decide)
   have h2:1*(4294967296+4294967295)<=(4294967296-k.val)*(4294967296+k.val):=by
    have e:(4294967296-k.val)*(4294967296+k.val)=4294967296*4294967296-k.val*k.val:=by
     rw [Int.sub_mul,Int.mul_add,Int.mul_add,Int.mul_comm k.val 4294967296];omega
    have h3:k.val*k.val<=4294967295*4294967295:=Int.mul_le_mul h.2 h.2 (by omega) (by decide)
    omega
   omega
 have e3:(Rng.w .i64 (q.val+1)).val=q.val+1:=wi (by omega) (by omega)
 simp only [zdf,t_spec_CircleAt,Tr.get,hi,f1,Bool.not_true,cfl]
 generalize (!((zcY q q).hi.val==(zcY (Rng.w .i64 (4294967296-k.val)) (Rng.w .i64 (4294967296+k.val))).hi.val&&((zcY q q).lo.val==(zcY (Rng.w .i64 (4294967296-k.val)) (Rng.w .i64 (4294967296+k.val))).lo.val&&true)))=c
 cases c
 ·exact ⟨(zaN _).2 (by simp only [cfl];omega),by simp only [cfl];omega,by simp only [cfl];omega⟩
 ·exact ⟨(zaN _).2 (by simp only [ctr,e3];omega),by simp only [ctr];omega,by simp only [ctr,e3];omega⟩
theorem k_quo:inBx 32767 4294874616 (zn ⟨⟨65536,rfl⟩,⟨4294967295,rfl⟩⟩ (zk (zb ⟨1,rfl⟩) ⟨⟨92681,rfl⟩,⟨4294967296,rfl⟩⟩))=true:=by kernel_rfl
theorem k_pos:(zk (zb ⟨1,rfl⟩) ⟨⟨92681,rfl⟩,⟨4294967296,rfl⟩⟩).lo.val=4295059977:=by kernel_rfl
theorem quarter_iv:zbV=⟨⟨-6746518853,rfl⟩,⟨6746518853,rfl⟩⟩:=by kernel_rfl
theorem asin_mid {k:I64} (h:65536<=k.val/\k.val<=4294967295):Box 50176 6746518352 (zaL k):=by
 have hi:zaj k ⟨(-4294967296),rfl⟩ ⟨4294967296,rfl⟩=true:=by rw [zft];simp;omega
 have hc:=circle_box h
 have hq:Box 32767 4294874616 (zn (zA k) (zk (zb ⟨1,rfl⟩) (zdf k))):=by
  refine Sub.box (Sub.div (at_sub (p:=⟨65536,rfl⟩) (q:=⟨4294967295,rfl⟩) h.1 h.2 (by decide) (by decide)) (Sub.add (Sub.refl _) (Box.sub (b:=⟨⟨92681,rfl⟩,⟨4294967296,rfl⟩⟩) hc)) ?_) (box_of k_quo)
  rw [k_pos];decide
 have ha:=atanI_box hq
 simp only [zaL,t_spec_AsinAt,Tr.get,hi,Bool.not_true,cfl]
 generalize zah (zn (zA k) (zk (zb ⟨1,rfl⟩) (zdf k)))=a at ha
 have ba:=(zaN _).1 ha.1
 have b1:=ha.2
 have k1:(Rng.w .i64 (2*a.lo.val)).val=2*a.lo.val:=wi (by omega) (by omega)
 have k2:(Rng.w .i64 (2*a.hi.val)).val=2*a.hi.val:=wi (by omega) (by omega)
 have hd:za6 a=⟨.w .i64 (2*a.lo.val),.w .i64 (2*a.hi.val)⟩:=by
  simp only [za6,zdA,Tr.get,ha.1,Bool.not_true,cfl]
  exact zbI (by rw [k1,k2];omega)
 have o1:za ⟨.w .i64 (2*a.lo.val),.w .i64 (2*a.hi.val)⟩=true:=(zaN _).2 (by simp only [k1,k2];omega)
 have o2:za ⟨⟨-6746518853,rfl⟩,⟨6746518853,rfl⟩⟩=true:=(zaN _).2 (by decide)
 have m1:=max_l (.w .i64 (2*a.lo.val)) ⟨-6746518853,rfl⟩
 have m2:=min_l (.w .i64 (2*a.hi.val)) ⟨6746518853,rfl⟩
 rw [k1] at m1
 rw [k2] at m2
 simp only at m1 m2
 have hlt:decide ((zu (.w .i64 (2*a.lo.val)) ⟨-6746518853,rfl⟩).val>(zC (.w .i64 (2*a.hi.val)) ⟨6746518853,rfl⟩).val)=false:=by simp;omega
 rw [hd,quarter_iv]
 simp only [zas,zcM,Tr.get,o1,o2,hlt,Bool.not_true,cfl]
 exact ⟨(zaN _).2 (by simp only;omega),by simp only;omega,by simp only;omega⟩
theorem asin_0:zaL ⟨0,rfl⟩=⟨⟨-8,rfl⟩,⟨8,rfl⟩⟩:=by kernel_rfl
theorem asin_1:zaL ⟨4294967296,rfl⟩=⟨⟨6746518832,rfl⟩,⟨6746518853,rfl⟩⟩:=by kernel_rfl
theorem Sub.series0 {y y':Iv} (h:Sub y y'):Sub (zaP y ⟨0,rfl⟩) (zaP y' ⟨0,rfl⟩):=by
 simp only [zaP,zdk,Tr.get]
 have hp:∀n:I64,1<=n.val->n.val<=268435455->0<(zb n).lo.val:=fun n h1 h2=>by
  rw [int_val (by omega)]
  simp only
  rw [wi (by omega) (by omega)]
  omega
 repeat' (first|with_reducible exact Sub.refl _|with_reducible refine Sub.sub (Sub.refl _) (Sub.mul (Sub.div h (Sub.refl _) (hp _ (by decide) (by decide))) ?_))
theorem Sub.series1 {y y':Iv} (h:Sub y y'):Sub (zaP y ⟨-1,rfl⟩) (zaP y' ⟨-1,rfl⟩):=by
 simp only [zaP,zdk,Tr.get]
 have hp:∀n:I64,1<=n.val->n.val<=268435455->0<(zb n).lo.val:=fun n h1 h2=>by
  rw [int_val (by omega)]
  simp only
  rw [wi (by omega) (by omega)]
  omega
 repeat' (first|with_reducible exact Sub.refl _|with_reducible refine Sub.sub (Sub.refl _) (Sub.mul (Sub.div h (Sub.refl _) (hp _ (by decide) (by decide))) ?_))
theorem ring_mono {a a':Iv} (h:Sub a a') (hr:zaC a' zw=true):zaC a zw=true:=by
 have h1:=(ring_iff _).1 hr
 obtain ⟨k1,k2,k3⟩:=h ((zaN _).2 (by omega))
 have:=(zaN _).1 k1
 exact (ring_iff _).2 (by omega)
theorem Sub.sinS {a a':Iv} (h:Sub a a'):Sub (zaz a) (zaz a'):=by
 simp only [zaz,zdU,Tr.get,zc5]
 cases hr:zaC a' zw
 ·exact sub_whole _
 ·simp only [ring_mono h hr,Bool.not_true,cfl]
  exact Sub.add (Sub.mul h h.sqr.series0) (Sub.refl _)
theorem Sub.cosS {a a':Iv} (h:Sub a a'):Sub (zaD a) (zaD a'):=by
 simp only [zaD,zdV,Tr.get,zc5]
 cases hr:zaC a' zw
 ·exact sub_whole _
 ·simp only [ring_mono h hr,Bool.not_true,cfl]
  exact Sub.add h.sqr.series1 (Sub.refl _)
theorem Sub.neg {a a':Iv} (h:Sub a a'):Sub (zaO a) (zaO a'):=fun hk=>by
 rw [neg_isok] at hk
 obtain ⟨k1,k2,k3⟩:=h hk
 have b1:=(zaN _).1 k1
 have b2:=(zaN _).1 hk
 rw [neg_ok_val k1,neg_ok_val hk]
 have e1:(Rng.w .i64 (0-a.hi.val)).val=0-a.hi.val:=wi (by omega) (by omega)
 have e2:(Rng.w .i64 (0-a.lo.val)).val=0-a.lo.val:=wi (by omega) (by omega)
 have e3:(Rng.w .i64 (0-a'.hi.val)).val=0-a'.hi.val:=wi (by omega) (by omega)
 have e4:(Rng.w .i64 (0-a'.lo.val)).val=0-a'.lo.val:=wi (by omega) (by omega)
 refine ⟨(zaN _).2 (by simp only [e1,e2];omega),?_,?_⟩
 ·simp only [e1,e3];omega
 ·simp only [e2,e4];omega
theorem ring_box:Box (-4294967296) 4294967296 zw:=box_of (by kernel_rfl)
theorem tiny_lt:decide (zbv.lo.val<zbv.hi.val)=true:=by kernel_rfl
theorem wide_tiny {x:Iv} (h:za (zk x zbv)=true):(zk x zbv).lo.val<(zk x zbv).hi.val:=by
 have hv:=addI_val h
 have hx:=(zaN _).1 hv.1
 have ht:=of_decide_eq_true tiny_lt
 omega
theorem sinS_wide {y:Iv} (h:za (zaz y)=true):(zaz y).lo.val<(zaz y).hi.val:=by
 simp only [zaz,zdU,Tr.get,zc5] at h ⊢
 cases hr:zaC y zw
 ·rw [hr] at h;simp only [Bool.not_false,ctr,zcv] at h;cases h
 ·simp only [hr,Bool.not_true,cfl] at h ⊢
  exact wide_tiny h
theorem cosS_wide {y:Iv} (h:za (zaD y)=true):(zaD y).lo.val<(zaD y).hi.val:=by
 simp only [zaD,zdV,Tr.get,zc5] at h ⊢
 cases hr:zaC y zw
 ·rw [hr] at h;simp only [Bool.not_false,ctr,zcv] at h;cases h
 ·simp only [hr,Bool.not_true,cfl] at h ⊢
  exact wide_tiny h
theorem neg_wide {y:Iv} (hk:za y=true) (h:y.lo.val<y.hi.val):(zaO y).lo.val<(zaO y).hi.val:=by
 have b1:=(zaN _).1 hk
 rw [neg_ok_val hk]
 have e1:(Rng.w .i64 (0-y.hi.val)).val=0-y.hi.val:=wi (by omega) (by omega)
 have e2:(Rng.w .i64 (0-y.lo.val)).val=0-y.lo.val:=wi (by omega) (by omega)
 simp only [e1,e2]
 omega
theorem meet_box {a:Iv} {L:Int} (h:Box L 4294967297 a) (hw:a.lo.val<a.hi.val) (hL: -4294967296<=L) (hL':L<=4294967296):Box L 4294967296 (za4 a):=by
 have o:=ring_box.1
 have e1:zw.lo.val= -4294967296:=rfl
 have e2:zw.hi.val=4294967296:=rfl
 have ba:=(zaN _).1 h.1
 have hb:=h.2
 have m1:=max_l a.lo zw.lo
 have m2:=min_l a.hi zw.hi
 rw [e1] at m1
 rw [e2] at m2
 simp only [za4,t_spec_l06Meet,zas,zcM,Tr.get,h.1,o,Bool.not_true,cfl]
 by_cases hlt:(zu a.lo zw.lo).val>(zC a.hi zw.hi).val
 ·simp only [hlt,decide_true,ctr,Bool.not_false]
  exfalso;omega
 ·simp only [hlt,decide_false,cfl,Bool.not_true]
  exact ⟨(zaN _).2 (by simp only;omega),by simp only;omega,by simp only;omega⟩
theorem k_s0:inBx 17 4294967297 (zaz (zF ⟨⟨100352,rfl⟩,⟨3373259426,rfl⟩⟩ (zW ⟨0,rfl⟩)))=true:=by kernel_rfl
theorem k_s1:inBx 17 4294967297 (zaD (zF ⟨⟨3373259426,rfl⟩,⟨10119778278,rfl⟩⟩ (zW ⟨1,rfl⟩)))=true:=by kernel_rfl
theorem k_s2:inBx 17 4294967297 (zaO (zaz (zF ⟨⟨10119778278,rfl⟩,⟨13493036704,rfl⟩⟩ (zW ⟨2,rfl⟩))))=true:=by kernel_rfl
theorem quarter_val {n:I64} (h:0<=n.val/\n.val<=13493036704):(zau n).val=(n.val+3373259426)/6746518852:=by
 have ha:zbh n=true:=(angle_iff n).2 (by omega)
 have e1:(Rng.w .i64 (n.val+3373259426)).val=n.val+3373259426:=wi (by omega) (by omega)
 have t1:=Int.tdiv_eq_ediv (a:=n.val+3373259426) (b:=6746518852)
 rw [if_pos (.inl (by omega))] at t1
 have q1:(Rng.w .i64 ((n.val+3373259426).tdiv 6746518852)).val=(n.val+3373259426).tdiv 6746518852:=wi (by omega) (by omega)
 have q2:(Rng.w .i64 ((n.val+3373259426).tdiv 6746518852*6746518852)).val=(n.val+3373259426).tdiv 6746518852*6746518852:=wi (by omega) (by omega)
 have hd:decide ((n.val+3373259426).tdiv 6746518852*6746518852>n.val+3373259426)=false:=by simp;omega
 rw [<- quarter_eq]
 simp only [zcf,zeP,Tr.get,angle_eq,ha,e1,q1,q2,hd,Bool.not_true,cfl]
 omega
theorem sin_box {t:I64} (h:100352<=t.val/\t.val<=13493036704):Box 17 4294967296 (zai t ⟨0,rfl⟩):=by
 have ha:zbh t=true:=(angle_iff t).2 (by omega)
 have hq:=quarter_val (n:=t) (by omega)
 have hat:zA t=⟨t,t⟩:=rfl
 have hc:(zau t).val=0\/(zau t).val=1\/(zau t).val=2:=by omega
 simp only [zai,t_spec_l06At,Tr.get,ha,hat,Bool.not_true,cfl]
 rcases hc with hc|hc|hc
 ·have e:zau t=⟨0,rfl⟩:=Rng.ext hc
  rw [e]
  show Box 17 4294967296 (za4 (zaz (zF ⟨t,t⟩ (zW ⟨0,rfl⟩))))
  have hx:=((Sub.sub (at_sub (x:=t) (p:=⟨100352,rfl⟩) (q:=⟨3373259426,rfl⟩) h.1 (by simp only;omega) (by decide) (by decide)) (Sub.refl (zW ⟨0,rfl⟩))).sinS.box (box_of k_s0))
  exact meet_box hx (sinS_wide hx.1) (by decide) (by decide)
 ·have e:zau t=⟨1,rfl⟩:=Rng.ext hc
  rw [e]
  show Box 17 4294967296 (za4 (zaD (zF ⟨t,t⟩ (zW ⟨1,rfl⟩))))
  have hx:=((Sub.sub (at_sub (x:=t) (p:=⟨3373259426,rfl⟩) (q:=⟨10119778278,rfl⟩) (by simp only;omega) (by simp only;omega) (by decide) (by decide)) (Sub.refl (zW ⟨1,rfl⟩))).cosS.box (box_of k_s1))
  exact meet_box hx (cosS_wide hx.1) (by decide) (by decide)
 ·have e:zau t=⟨2,rfl⟩:=Rng.ext hc
  rw [e]
  show Box 17 4294967296 (za4 (zaO (zaz (zF ⟨t,t⟩ (zW ⟨2,rfl⟩)))))
  have hx:=((Sub.sub (at_sub (x:=t) (p:=⟨10119778278,rfl⟩) (q:=⟨13493036704,rfl⟩) (by simp only;omega) h.2 (by decide) (by decide)) (Sub.refl (zW ⟨2,rfl⟩))).sinS.neg.box (box_of k_s2))
  exact meet_box hx (neg_wide (by rw [<- neg_isok];exact hx.1) (sinS_wide (by rw [<- neg_isok];exact hx.1))) (by decide) (by decide)
end Go.Proofs.YtkenfaengphiiaaGreat.Ev
namespace Go.Proofs.YtkenfaengphiiaaGreat.Ev
open Go
theorem divI_parts {a b:Iv} (h:za (zn a b)=true):za a=true/\za b=true/\¬(b.lo.val<=0/\0<=b.hi.val):=by
 have nw:∀ {P:Prop},za ze=true->P:=fun h=>by rw [zcv] at h;cases h
 simp only [zn,t_spec_DivI,Tr.get] at h
 cases ha:za a
 ·rw [ha] at h;exact nw h
 cases hb:za b
 ·rw [ha,hb] at h;exact nw h
 have hz:za5 b ⟨0,rfl⟩=decide (b.lo.val<=0/\0<=b.hi.val):=by simp only [za5,zcZ,Tr.get,zft]
 cases hd:decide (b.lo.val<=0/\0<=b.hi.val)
 ·exact ⟨rfl,rfl,by simpa using hd⟩
 ·rw [ha,hb,hz,hd] at h;exact nw h
theorem meet_ring (a:Iv):Box (-4294967296) 4294967296 (za4 a):=by
 have o:=ring_box.1
 have e1:zw.lo.val= -4294967296:=rfl
 have e2:zw.hi.val=4294967296:=rfl
 simp only [za4,t_spec_l06Meet,zas,zcM,Tr.get,o,Bool.not_true,cfl]
 cases ha:za a
 ·simp only [Bool.not_false,Bool.not_true,ctr,cfl];exact ring_box
 have ba:=(zaN _).1 ha
 have m1:=max_l a.lo zw.lo
 have m2:=min_l a.hi zw.hi
 rw [e1] at m1
 rw [e2] at m2
 simp only [Bool.not_true,cfl]
 by_cases hlt:(zu a.lo zw.lo).val>(zC a.hi zw.hi).val
 ·simp only [hlt,decide_true,ctr,Bool.not_false];exact ring_box
 ·simp only [hlt,decide_false,cfl,Bool.not_true]
  exact ⟨(zaN _).2 (by simp only;omega),by simp only;omega,by simp only;omega⟩
theorem at_ring (n t:I64):Box (-4294967296) 4294967296 (zai n t):=by
 simp only [zai,t_spec_l06At,Tr.get]
 cases zbh n
 ·exact ring_box
 simp only [Bool.not_true,cfl]
 generalize ((Rng.w .i64 (zbJ .and .i64 (Rng.w .i64 ((zau n).val+t.val)).val 3)).val==0)=c0
 generalize ((Rng.w .i64 (zbJ .and .i64 (Rng.w .i64 ((zau n).val+t.val)).val 3)).val==1)=c1
 generalize ((Rng.w .i64 (zbJ .and .i64 (Rng.w .i64 ((zau n).val+t.val)).val 3)).val==2)=c2
 cases c0<;>cases c1<;>cases c2<;>exact meet_ring _
theorem hull_vals {a b:Iv} (ha:za a=true) (hb:za b=true):za (zT a b)=true/\(zT a b).lo.val<=a.lo.val/\(zT a b).lo.val<=b.lo.val/\((zT a b).lo.val=a.lo.val\/(zT a b).lo.val=b.lo.val)/\a.hi.val<=(zT a b).hi.val/\b.hi.val<=(zT a b).hi.val/\((zT a b).hi.val=a.hi.val\/(zT a b).hi.val=b.hi.val):=by
 have oa:=(zaN _).1 ha
 have ob:=(zaN _).1 hb
 have m1:=min_l a.lo b.lo
 have m2:=max_l a.hi b.hi
 simp only [zT,t_spec_HullI,Tr.get,ha,hb,Bool.not_true,cfl]
 rw [zbI (by omega)]
 exact ⟨(zaN _).2 (by simp only;omega),by simp only;omega,by simp only;omega,by simp only;omega,by simp only;omega,by simp only;omega,by simp only;omega⟩
theorem int_1:zb ⟨1,rfl⟩=⟨⟨4294967296,rfl⟩,⟨4294967296,rfl⟩⟩:=by rw [int_val (by decide)];rfl
theorem int_m1:zb ⟨-1,rfl⟩=⟨⟨-4294967296,rfl⟩,⟨-4294967296,rfl⟩⟩:=by rw [int_val (by decide)];rfl
theorem hullF_lim (t:I64):∀(L:List I64) (o:Iv),Box (-4294967296) 4294967296 o->Box (-4294967296) 4294967296 (hullF t L o)/\(hullF t L o).lo.val<=o.lo.val/\o.hi.val<=(hullF t L o).hi.val/\((hullF t L o).lo.val=o.lo.val\/(hullF t L o).lo.val= -4294967296)
 | [],o,h=>⟨h,Int.le_refl _,Int.le_refl _,.inl rfl⟩
 | k::L,o,h=>by
  simp only [hullF,hull_eq,zbH]
  have o1:za (zb ⟨1,rfl⟩)=true:=by rw [int_1];exact (zaN _).2 (by decide)
  have o2:za (zb ⟨-1,rfl⟩)=true:=by rw [int_m1];exact (zaN _).2 (by decide)
  have l1:(zb ⟨1,rfl⟩).lo.val=4294967296/\(zb ⟨1,rfl⟩).hi.val=4294967296:=by rw [int_1];exact ⟨rfl,rfl⟩
  have l2:(zb ⟨-1,rfl⟩).lo.val= -4294967296/\(zb ⟨-1,rfl⟩).hi.val= -4294967296:=by rw [int_m1];exact ⟨rfl,rfl⟩
  have ho:=(zaN _).1 h.1
  have hb:=h.2
  cases ((turn4 t k).val==1)
  ·cases ((turn4 t k).val==3)
   ·exact hullF_lim t L o h
   ·simp only [cond_true,cond_false]
    have hv:=hull_vals h.1 o2
    obtain ⟨i1,i2,i3,i4⟩:=hullF_lim t L (zT o (zb ⟨-1,rfl⟩)) ⟨hv.1,by omega,by omega⟩
    exact ⟨i1,by omega,by omega,by omega⟩
  ·simp only [cond_true]
   have hv:=hull_vals h.1 o1
   obtain ⟨i1,i2,i3,i4⟩:=hullF_lim t L (zT o (zb ⟨1,rfl⟩)) ⟨hv.1,by omega,by omega⟩
   exact ⟨i1,by omega,by omega,by omega⟩
theorem over_ring (x:Iv) (t:I64):Box (-4294967296) 4294967296 (zfl x t):=by
 rw [<- over_eq]
 unfold zaR
 cases zbU x
 ·rw [ring_eq];exact ring_box
 ·simp only [Bool.not_true,cfl]
  refine (hullF_lim t _ _ ?_).1
  unfold o0
  rw [hull_eq,circle_eq,circle_eq]
  exact hull_box (at_ring _ _) (at_ring _ _)
theorem sin_ends {s:Iv} (hf:zbW s=true):(zad s).lo.val<=(zai s.lo ⟨0,rfl⟩).lo.val/\(zad s).lo.val<=(zai s.hi ⟨0,rfl⟩).lo.val/\(zai s.lo ⟨0,rfl⟩).hi.val<=(zad s).hi.val/\(zai s.hi ⟨0,rfl⟩).hi.val<=(zad s).hi.val /\
  ((zad s).lo.val=(zai s.lo ⟨0,rfl⟩).lo.val\/(zad s).lo.val=(zai s.hi ⟨0,rfl⟩).lo.val\/(zad s).lo.val= -4294967296):=by
 have e:zad s=hullF ⟨0,rfl⟩ (keepF s 1000 (k0 s)) (o0 s ⟨0,rfl⟩):=by
  simp only [zad,t_spec_SinI,Tr.get]
  rw [<- over_eq]
  unfold zaR
  rw [fits_eq,hf]
  simp only [Bool.not_true,cfl]
 have h1:=at_ring s.lo ⟨0,rfl⟩
 have h2:=at_ring s.hi ⟨0,rfl⟩
 have hv:=hull_vals h1.1 h2.1
 have ho:o0 s ⟨0,rfl⟩=zT (zai s.lo ⟨0,rfl⟩) (zai s.hi ⟨0,rfl⟩):=by unfold o0;rw [hull_eq,circle_eq,circle_eq]
 obtain ⟨_,i2,i3,i4⟩:=hullF_lim ⟨0,rfl⟩ (keepF s 1000 (k0 s)) (o0 s ⟨0,rfl⟩) (by rw [ho];exact hull_box h1 h2)
 rw [e]
 rw [ho] at i2 i3 i4 ⊢
 exact ⟨by omega,by omega,by omega,by omega,by omega⟩
theorem dbl2 {a:Iv} (h:za a=true) (hb: -20000000000<=a.lo.val/\a.hi.val<=20000000000):zf (zb ⟨2,rfl⟩) a=⟨.w .i64 (2*a.lo.val),.w .i64 (2*a.hi.val)⟩:=by
 have ha:=(zaN _).1 h
 have e2:zb ⟨2,rfl⟩=⟨⟨8589934592,rfl⟩,⟨8589934592,rfl⟩⟩:=by rw [int_val (by decide)];rfl
 have o2:za ⟨⟨8589934592,rfl⟩,⟨8589934592,rfl⟩⟩=true:=(zaN _).2 (by decide)
 obtain ⟨lo,hi,e,k1,k2,k3⟩:=mulI_in (a:=⟨⟨8589934592,rfl⟩,⟨8589934592,rfl⟩⟩) (b:=a) (L:=2*a.lo.val) (H:=2*a.hi.val) o2 h (by omega) (by omega) (fun x y hx hy=>by
  have hx':x.val=8589934592:=by rcases hx with rfl|rfl<;>rfl
  have hp:x.val*y.val/4294967296=2*y.val:=by rw [hx'];omega
  have hn: -(x.val*y.val)/4294967296= -(2*y.val):=by rw [hx'];omega
  have hy':a.lo.val<=y.val/\y.val<=a.hi.val:=by rcases hy with rfl|rfl<;>omega
  have e1:=muldown_val (a:=x) (b:=y) (ok3 (by omega)) (ok3 (by omega)) (by omega)
  have e3:=mulup_val (a:=x) (b:=y) (ok3 (by omega)) (ok3 (by omega)) (by omega)
  rw [hp] at e1
  rw [hn] at e3
  refine ⟨_,_,e1,e3,?_,?_,?_⟩
  ·rw [wi (by omega) (by omega)];omega
  ·rw [wi (by omega) (by omega),wi (by omega) (by omega)];omega
  ·rw [wi (by omega) (by omega)];omega)
 rw [e2]
 -- both ends are met
 have c:=mulI_corner (a:=⟨⟨8589934592,rfl⟩,⟨8589934592,rfl⟩⟩) (b:=a) (by rw [e];exact (zaN _).2 (by simp only;omega))
 have c1:=(c.2.2 ⟨8589934592,rfl⟩ a.lo (.inl rfl) (.inl rfl)).1
 have c2:=(c.2.2 ⟨8589934592,rfl⟩ a.hi (.inl rfl) (.inr rfl)).2
 rw [e] at c1 c2 ⊢
 simp only at c1 c2
 have w1:(Rng.w .i64 (2*a.lo.val)).val=2*a.lo.val:=wi (by omega) (by omega)
 have w2:(Rng.w .i64 (2*a.hi.val)).val=2*a.hi.val:=wi (by omega) (by omega)
 have f1:lo= .w .i64 (2*a.lo.val):=Rng.ext (by rw [w1];omega)
 have f2:hi= .w .i64 (2*a.hi.val):=Rng.ext (by rw [w2];omega)
 rw [f1,f2]
def Kd3 (k:I64):Prop:=k.val=0\/(65536<=k.val/\k.val<=4294967295)\/k.val=4294967296
theorem sq_ends {a:Iv} (h:za (zar a)=true):((zar a).lo.val=0\/65536<=(zar a).lo.val)/\((zar a).hi.val=0\/65536<=(zar a).hi.val):=by
 have hn:=sqrtI_nn h
 have hb:=(zaN _).1 hn.1
 obtain ⟨_,v1,v2⟩:=sqrtI_mk hn.1 hn.2
 obtain ⟨q,p,e1,e2,h1,h2,h3,h4,h5,h6,h7,h8⟩:=su_val2 a.lo (by omega)
 obtain ⟨r,s,f1,f2,g1,g2,g3,g4,g5,g6,g7,g8⟩:=su_val2 a.hi (by omega)
 rw [v1,v2,e1,f2]
 have key:∀z n:Int,0<=z->1<=n->n*4294967296<(z+1)*(z+1)->65536<=z:=fun z n hz hn h=>by
  by_cases hh:65536<=z
  ·exact hh
  ·have:(z+1)*(z+1)<=65536*65536:=Int.mul_le_mul (by omega) (by omega) (by omega) (by decide)
   omega
 constructor
 ·by_cases h0:a.lo.val=0
  ·left
   simp only
   have:q.val*q.val<=0*0:=by omega
   have:=sq_lt h1 (by decide) this
   omega
  ·right;exact key _ _ h1 (by omega) h4
 ·by_cases h0:a.hi.val=0
  ·left
   simp only
   have:r.val*r.val<=0*0:=by omega
   have hr:=sq_lt g1 (by decide) this
   have hr0:r.val=0:=by omega
   by_cases hs:r.val<s.val
   ·have:=g8 hs;rw [hr0] at this;omega
   ·omega
  ·right
   have:=key _ _ g1 (by omega) g4
   simp only;omega
theorem kd3_of {k:I64} (h:k.val=0\/65536<=k.val) (h':k.val<=4294967296):Kd3 k:=by unfold Kd3;omega
theorem asin_kd {k:I64} (h:Kd3 k):za (zaL k)=true/\((k.val=0/\(zaL k).lo.val= -8/\(zaL k).hi.val=8)\/((65536<=k.val/\k.val<=4294967295)/\50176<=(zaL k).lo.val/\(zaL k).hi.val<=6746518352)\/(k.val=4294967296/\(zaL k).lo.val=6746518832/\(zaL k).hi.val=6746518853)):=by
 rcases h with h|h|h
 ·have e:k=⟨0,rfl⟩:=Rng.ext h
  rw [e,asin_0]
  exact ⟨(zaN _).2 (by decide),.inl ⟨rfl,rfl,rfl⟩⟩
 ·have hb:=asin_mid h
  exact ⟨hb.1,.inr (.inl ⟨h,hb.2⟩)⟩
 ·have e:k=⟨4294967296,rfl⟩:=Rng.ext h
  rw [e,asin_1]
  exact ⟨(zaN _).2 (by decide),.inr (.inr ⟨rfl,rfl,rfl⟩)⟩
theorem w_m16:inBx (-17) (-1) (zai ⟨-16,rfl⟩ ⟨0,rfl⟩)=true:=by kernel_rfl
theorem w_p16:inBx 1 17 (zai ⟨16,rfl⟩ ⟨0,rfl⟩)=true:=by kernel_rfl
theorem w_top:decide ((zai ⟨13493037706,rfl⟩ ⟨0,rfl⟩).lo.val<=0)=true:=by kernel_rfl
theorem w_low:inBx 0 100 (zai ⟨13493037664,rfl⟩ ⟨0,rfl⟩)=true:=by kernel_rfl
theorem w_all:decide ((zad ⟨⟨-16,rfl⟩,⟨13493037706,rfl⟩⟩).lo.val<=0)&&decide (0<=(zad ⟨⟨-16,rfl⟩,⟨13493037706,rfl⟩⟩).hi.val)=true:=by kernel_rfl
theorem w_asin_whole:decide ((zad (zf (zb ⟨2,rfl⟩) (zT (zaL zw.lo) (zaL zw.hi)))).lo.val<=0)&&decide (0<=(zad (zf (zb ⟨2,rfl⟩) (zT (zaL zw.lo) (zaL zw.hi)))).hi.val)=true:=by kernel_rfl
theorem fits_box {s:Iv} (h:za s=true) (hb: -100000000000<=s.lo.val/\s.hi.val<=100000000000):zbW s=true:=by
 have hs:=(zaN _).1 h
 have h1:zdj s=true:=by simp only [zdj,zdZ,Tr.get,h]
 simp only [zbW,t_spec_l06Fits,Tr.get,h1,ctr,(angle_iff s.lo).2 (by omega)]
 exact (angle_iff s.hi).2 (by omega)
theorem sin_whole_has {s:Iv} (h:za s=false):(zad s).lo.val<=0/\0<=(zad s).hi.val:=by
 have hf:zbW s=false:=by
  simp only [zbW,t_spec_l06Fits,zdj,zdZ,Tr.get,h,cfl]
 simp only [zad,t_spec_SinI,Tr.get]
 rw [<- over_eq]
 unfold zaR
 rw [fits_eq,hf,ring_eq]
 simp only [Bool.not_false,ctr]
 exact ⟨by decide +kernel,by decide +kernel⟩
end Go.Proofs.YtkenfaengphiiaaGreat.Ev
namespace Go.Proofs.YtkenfaengphiiaaGreat.Ev
open Go
set_option maxHeartbeats 2000000 in
theorem ang_sin (a:Iv) (hz:¬((zad (zf (zb ⟨2,rfl⟩) (zdo (zar a)))).lo.val<=0/\0<=(zad (zf (zb ⟨2,rfl⟩) (zdo (zar a)))).hi.val)):
  17<=(zad (zf (zb ⟨2,rfl⟩) (zdo (zar a)))).lo.val:=by
 have o:=ring_box.1
 have e1:zw.lo.val= -4294967296:=rfl
 have e2:zw.hi.val=4294967296:=rfl
 have hasin:∀q:Iv,zdo q=bif !(zas q zw).b then ze else zT (zaL (zas q zw).a.lo) (zaL (zas q zw).a.hi):=fun q=>by
  simp only [zdo,t_spec_AsinI,Tr.get,zc5]
 cases hq:za (zar a)
 ·exfalso
  have hm:zas (zar a) zw=⟨zw,true⟩:=by
   simp only [zas,zcM,Tr.get,hq,o,Bool.not_false,Bool.not_true,ctr,cfl]
  rw [hasin,hm] at hz
  simp only [Bool.not_true,cfl] at hz
  have hw:=w_asin_whole
  simp only [Bool.and_eq_true,decide_eq_true_eq] at hw
  exact hz hw
 have hse:=sq_ends hq
 have hqb:=(zaN _).1 hq
 generalize zar a=r at *
 have m1:=max_l r.lo zw.lo
 have m2:=min_l r.hi zw.hi
 rw [e1] at m1
 rw [e2] at m2
 by_cases hlt:(zu r.lo zw.lo).val>(zC r.hi zw.hi).val
 ·exfalso
  have hm:(zas r zw).b=false:=by
   simp only [zas,zcM,Tr.get,hq,o,hlt,decide_true,Bool.not_true,ctr,cfl]
  rw [hasin,hm] at hz
  simp only [Bool.not_false,ctr] at hz
  exact hz (sin_whole_has (mul_no (.inr zcv)))
 have hm:zas r zw=⟨⟨zu r.lo zw.lo,zC r.hi zw.hi⟩,true⟩:=by
  simp only [zas,zcM,Tr.get,hq,o,hlt,decide_false,Bool.not_true,cfl]
 rw [hasin,hm] at hz ⊢
 simp only [Bool.not_true,cfl] at hz ⊢
 have kA:Kd3 (zu r.lo zw.lo):=kd3_of (by omega) (by omega)
 have kB:Kd3 (zC r.hi zw.hi):=kd3_of (by omega) (by omega)
 have hle:(zu r.lo zw.lo).val<=(zC r.hi zw.hi).val:=by omega
 generalize zu r.lo zw.lo=ka at *
 generalize zC r.hi zw.hi=kb at *
 obtain ⟨oa,ca⟩:=asin_kd kA
 obtain ⟨ob,cb⟩:=asin_kd kB
 generalize zaL ka=A at *
 generalize zaL kb=B at *
 have bA:=(zaN _).1 oa
 have bB:=(zaN _).1 ob
 have hv:=hull_vals oa ob
 generalize zT A B=H at *
 rw [dbl2 hv.1 (by omega)] at hz ⊢
 have w1:(Rng.w .i64 (2*H.lo.val)).val=2*H.lo.val:=wi (by omega) (by omega)
 have w2:(Rng.w .i64 (2*H.hi.val)).val=2*H.hi.val:=wi (by omega) (by omega)
 have hf:=fits_box (s:=⟨.w .i64 (2*H.lo.val),.w .i64 (2*H.hi.val)⟩) ((zaN _).2 (by simp only [w1,w2];omega)) (by simp only [w1,w2];omega)
 obtain ⟨s1,s2,s3,s4,s5⟩:=sin_ends hf
 simp only at s1 s2 s3 s4 s5
 have t16:=(box_of w_m16).2
 have p16:=(box_of w_p16).2
 have ttop:=of_decide_eq_true w_top
 have tlow:=(box_of w_low).2
 have oks:∀n t,(zai n t).lo.val<=(zai n t).hi.val:=fun n t=>((zaN _).1 (at_ring n t).1).2.1
 have ok1:=oks ⟨-16,rfl⟩ ⟨0,rfl⟩
 have ok2:=oks ⟨16,rfl⟩ ⟨0,rfl⟩
 have ok3':=oks ⟨13493037706,rfl⟩ ⟨0,rfl⟩
 have ok4:=oks ⟨13493037664,rfl⟩ ⟨0,rfl⟩
 rcases ca with ⟨ca,ca1,ca2⟩|⟨ca,ca1,ca2⟩|⟨ca,ca1,ca2⟩<;>rcases cb with ⟨cb,cb1,cb2⟩|⟨cb,cb1,cb2⟩|⟨cb,cb1,cb2⟩
 ·-- 0, 0
  exfalso
  have f1:Rng.w .i64 (2*H.lo.val)=⟨-16,rfl⟩:=Rng.ext (by rw [w1];simp only;omega)
  have f2:Rng.w .i64 (2*H.hi.val)=⟨16,rfl⟩:=Rng.ext (by rw [w2];simp only;omega)
  rw [show zai (.w .i64 (2*H.lo.val)) ⟨0,rfl⟩=zai ⟨-16,rfl⟩ ⟨0,rfl⟩ by rw [f1]] at s1
  rw [show zai (.w .i64 (2*H.hi.val)) ⟨0,rfl⟩=zai ⟨16,rfl⟩ ⟨0,rfl⟩ by rw [f2]] at s4
  omega
 ·exfalso
  have f1:Rng.w .i64 (2*H.lo.val)=⟨-16,rfl⟩:=Rng.ext (by rw [w1];simp only;omega)
  have hb:=sin_box (t:= .w .i64 (2*H.hi.val)) (by rw [w2];omega)
  have hb2:=hb.2
  have ok5:=oks (.w .i64 (2*H.hi.val)) ⟨0,rfl⟩
  rw [show zai (.w .i64 (2*H.lo.val)) ⟨0,rfl⟩=zai ⟨-16,rfl⟩ ⟨0,rfl⟩ by rw [f1]] at s1
  omega
 ·exfalso
  have f1:Rng.w .i64 (2*H.lo.val)=⟨-16,rfl⟩:=Rng.ext (by rw [w1];simp only;omega)
  have f2:Rng.w .i64 (2*H.hi.val)=⟨13493037706,rfl⟩:=Rng.ext (by rw [w2];simp only;omega)
  rw [f1,f2] at hz
  have hw:=w_all
  simp only [Bool.and_eq_true,decide_eq_true_eq] at hw
  exact hz hw
 ·exfalso;omega
 ·-- both between
  have hb1:=sin_box (t:= .w .i64 (2*H.lo.val)) (by rw [w1];omega)
  have hb2:=sin_box (t:= .w .i64 (2*H.hi.val)) (by rw [w2];omega)
  have c1:=hb1.2
  have c2:=hb2.2
  have ok5:=oks (.w .i64 (2*H.hi.val)) ⟨0,rfl⟩
  omega
 ·exfalso
  have f2:Rng.w .i64 (2*H.hi.val)=⟨13493037706,rfl⟩:=Rng.ext (by rw [w2];simp only;omega)
  have hb1:=sin_box (t:= .w .i64 (2*H.lo.val)) (by rw [w1];omega)
  have c1:=hb1.2
  have ok5:=oks (.w .i64 (2*H.lo.val)) ⟨0,rfl⟩
  rw [show zai (.w .i64 (2*H.hi.val)) ⟨0,rfl⟩=zai ⟨13493037706,rfl⟩ ⟨0,rfl⟩ by rw [f2]] at s2
  omega
 ·exfalso;omega
 ·exfalso;omega
 ·exfalso
  have f1:Rng.w .i64 (2*H.lo.val)=⟨13493037664,rfl⟩:=Rng.ext (by rw [w1];simp only;omega)
  have f2:Rng.w .i64 (2*H.hi.val)=⟨13493037706,rfl⟩:=Rng.ext (by rw [w2];simp only;omega)
  rw [show zai (.w .i64 (2*H.lo.val)) ⟨0,rfl⟩=zai ⟨13493037664,rfl⟩ ⟨0,rfl⟩ by rw [f1]] at s3
  rw [show zai (.w .i64 (2*H.hi.val)) ⟨0,rfl⟩=zai ⟨13493037706,rfl⟩ ⟨0,rfl⟩ by rw [f2]] at s2
  omega
theorem k_ring2:inBx (-4294967296) 4294967296 (zf zw zw)=true:=by kernel_rfl
theorem k_ring17:za (zn zw ⟨⟨17,rfl⟩,⟨4294967296,rfl⟩⟩)=true:=by kernel_rfl
theorem mul_ring {a b:Iv} (ha:Box (-4294967296) 4294967296 a) (hb:Box (-4294967296) 4294967296 b):Box (-4294967296) 4294967296 (zf a b):=
 (Sub.mul (Box.sub (b:=zw) ha) (Box.sub (b:=zw) hb)).box (box_of k_ring2)
theorem n_ok (u v x:Iv) (h:za (mM u v (ang u v x))=true):za (nN u v x (ang u v x))=true:=by
 unfold mM at h
 have hp:=divI_parts h
 have hs:=ang_sin _ hp.2.2
 have hy:=over_ring (ang u v x) ⟨0,rfl⟩
 have hye:zad (ang u v x)=zfl (ang u v x) ⟨0,rfl⟩:=by simp only [zad,t_spec_SinI,Tr.get]
 have hbox:Box 17 4294967296 (zad (ang u v x)):=⟨hp.2.1,hs,by rw [hye];exact hy.2.2⟩
 have r1:Box (-4294967296) 4294967296 (zbA u):=by simp only [zbA,t_spec_CosI,Tr.get];exact over_ring _ _
 have r2:Box (-4294967296) 4294967296 (zbA v):=by simp only [zbA,t_spec_CosI,Tr.get];exact over_ring _ _
 have r3:Box (-4294967296) 4294967296 (zad x):=by simp only [zad,t_spec_SinI,Tr.get];exact over_ring _ _
 unfold nN
 exact (Sub.div (Box.sub (b:=zw) (mul_ring (mul_ring r1 r2) r3)) (Box.sub (b:=⟨⟨17,rfl⟩,⟨4294967296,rfl⟩⟩) hbox) (by decide) k_ring17).1
theorem len_all (e:Ell) (p q:zbN) (x:Iv) {n:I64} (hn:1<=n.val/\n.val<=64):(imA (mkG e p q) x n).b=(spA (mkS e p q) x n).b:=by
 refine len_same e p q x hn ?_
 cases h:za (mM (mkS e p q).u (mkS e p q).v (ang (mkS e p q).u (mkS e p q).v x))
 ·exact .inr h
 ·exact .inl (n_ok _ _ _ h)
def lenQ (e:Ell) (p q:zbN) (n:I64):Iv:=
 bif !(F_spec_l16Short (omA e p q n)) then zbB (mkS e p q) else bif !(za (spA (mkS e p q) (omA e p q n) n).b) then zbB (mkS e p q) else bif !((zas (zbB (mkS e p q)) (spA (mkS e p q) (omA e p q n) n).b).b) then zbB (mkS e p q) else (zas (zbB (mkS e p q)) (spA (mkS e p q) (omA e p q n) n).b).a
theorem len_spec (e:Ell) (p q:zbN) {n:I64} (hn:1<=n.val/\n.val<=64):(zeY (mkS e p q) n).opt=some (lenQ e p q n):=by
 simp only [zeY,Tr.opt,om_G_spec _ _ _ hn,om_F_spec _ _ _ hn,short_G,sp_G _ _ hn,sp_F _ _ hn,ctr,some_bif,lenQ]
theorem len_impl (e:Ell) (p q:zbN) {n:I64} (hn:1<=n.val/\n.val<=64):(zd0 (mkG e p q) n).opt=some (lenQ e p q n):=by
 simp only [zd0,Tr.opt,om_G_impl _ _ _ hn,om_F_impl _ _ _ hn,im_G _ _ hn,im_F _ _ hn,ctr,isw_eq,meet_eq,bounds_eq (mkG e p q) (mkS e p q) rfl rfl rfl rfl rfl,len_all e p q _ hn,short_eq (norm_omA e p q n),some_bif,lenQ]
theorem len_F_spec (e:Ell) (p q:zbN) {n:I64} (hn:1<=n.val/\n.val<=64):F_spec_l16S_length (mkS e p q) n=lenQ e p q n:=Tr.zae (len_spec e p q hn)
theorem len_G_spec (e:Ell) (p q:zbN) {n:I64} (hn:1<=n.val/\n.val<=64):G_spec_l16S_length (mkS e p q) n=true:=by unfold G_spec_l16S_length;rw [len_spec e p q hn];rfl
theorem len_F_impl (e:Ell) (p q:zbN) {n:I64} (hn:1<=n.val/\n.val<=64):F_impl_geodesic_size (mkG e p q) n=lenQ e p q n:=Tr.zae (len_impl e p q hn)
theorem len_G_impl (e:Ell) (p q:zbN) {n:I64} (hn:1<=n.val/\n.val<=64):zfB (mkG e p q) n=true:=by unfold zfB;rw [len_impl e p q hn];rfl
end Go.Proofs.YtkenfaengphiiaaGreat.Ev
