/- The law FnExactPathLength gives true, whatever comes in; each argument reads behind the call as it read before. No conditions. (One of the texts of its proof, put together by a program of this session.) -/
import Derived.Test.YtkenfaengphiiaaGreatZW2
set_option linter.unusedSectionVars false
set_option linter.unusedSimpArgs false
set_option linter.unusedVariables false
namespace Go.Proofs.YtkenfaengphiiaaGreat.Ev
open Go
theorem min_l (a b:I64):(zC a b).val<=a.val/\(zC a b).val<=b.val/\((zC a b).val=a.val\/(zC a b).val=b.val):=by
 rw [<- min_eq,mn_val];split<;>omega
theorem max_l (a b:I64):a.val<=(zu a b).val/\b.val<=(zu a b).val/\((zu a b).val=a.val\/(zu a b).val=b.val):=by
 rw [<- max_eq,mx_val];split<;>omega
theorem mulI_in {a b:Iv} {L H:Int} (ha:za a=true) (hb:za b=true) (hL: -1152921504606846976<L) (hH:H<1152921504606846976)
  (h:∀x y:I64,(x=a.lo\/x=a.hi)->(y=b.lo\/y=b.hi)->∃d u,zO x y=⟨d,true⟩/\zaf x y=⟨u,true⟩/\L<=d.val/\d.val<=u.val/\u.val<=H):
  ∃lo hi,zf a b=⟨lo,hi⟩/\L<=lo.val/\lo.val<=hi.val/\hi.val<=H:=by
 obtain ⟨d1,u1,e1,f1,g1⟩:=h a.lo b.lo (.inl rfl) (.inl rfl)
 obtain ⟨d2,u2,e2,f2,g2⟩:=h a.lo b.hi (.inl rfl) (.inr rfl)
 obtain ⟨d3,u3,e3,f3,g3⟩:=h a.hi b.lo (.inr rfl) (.inl rfl)
 obtain ⟨d4,u4,e4,f4,g4⟩:=h a.hi b.hi (.inr rfl) (.inr rfl)
 simp only [zf,t_spec_MulI,Tr.get,ha,hb,e1,e2,e3,e4,f1,f2,f3,f4,Bool.not_true,cond_false]
 have m1:=min_l ⟨1152921504606846976,rfl⟩ d1
 have m2:=min_l (zC ⟨1152921504606846976,rfl⟩ d1) d2
 have m3:=min_l (zC (zC ⟨1152921504606846976,rfl⟩ d1) d2) d3
 have m4:=min_l (zC (zC (zC ⟨1152921504606846976,rfl⟩ d1) d2) d3) d4
 have n1:=max_l ⟨-1152921504606846976,rfl⟩ u1
 have n2:=max_l (zu ⟨-1152921504606846976,rfl⟩ u1) u2
 have n3:=max_l (zu (zu ⟨-1152921504606846976,rfl⟩ u1) u2) u3
 have n4:=max_l (zu (zu (zu ⟨-1152921504606846976,rfl⟩ u1) u2) u3) u4
 simp only at m1 n1
 refine ⟨_,_,zbI ?_,?_,?_,?_⟩<;>omega
theorem divI_in {a b:Iv} {L H:Int} (ha:za a=true) (hb:za b=true) (hz:za5 b ⟨0,rfl⟩=false) (hL: -1152921504606846976<L) (hH:H<1152921504606846976)
  (h:∀x y:I64,(x=a.lo\/x=a.hi)->(y=b.lo\/y=b.hi)->∃d u,zP x y=⟨d,true⟩/\zal x y=⟨u,true⟩/\L<=d.val/\d.val<=u.val/\u.val<=H):
  ∃lo hi,zn a b=⟨lo,hi⟩/\L<=lo.val/\lo.val<=hi.val/\hi.val<=H:=by
 obtain ⟨d1,u1,e1,f1,g1⟩:=h a.lo b.lo (.inl rfl) (.inl rfl)
 obtain ⟨d2,u2,e2,f2,g2⟩:=h a.lo b.hi (.inl rfl) (.inr rfl)
 obtain ⟨d3,u3,e3,f3,g3⟩:=h a.hi b.lo (.inr rfl) (.inl rfl)
 obtain ⟨d4,u4,e4,f4,g4⟩:=h a.hi b.hi (.inr rfl) (.inr rfl)
 simp only [zn,t_spec_DivI,Tr.get,ha,hb,hz,e1,e2,e3,e4,f1,f2,f3,f4,Bool.not_true,cond_false]
 have m1:=min_l ⟨1152921504606846976,rfl⟩ d1
 have m2:=min_l (zC ⟨1152921504606846976,rfl⟩ d1) d2
 have m3:=min_l (zC (zC ⟨1152921504606846976,rfl⟩ d1) d2) d3
 have m4:=min_l (zC (zC (zC ⟨1152921504606846976,rfl⟩ d1) d2) d3) d4
 have n1:=max_l ⟨-1152921504606846976,rfl⟩ u1
 have n2:=max_l (zu ⟨-1152921504606846976,rfl⟩ u1) u2
 have n3:=max_l (zu (zu ⟨-1152921504606846976,rfl⟩ u1) u2) u3
 have n4:=max_l (zu (zu (zu ⟨-1152921504606846976,rfl⟩ u1) u2) u3) u4
 simp only at m1 n1
 refine ⟨_,_,zbI ?_,?_,?_,?_⟩<;>omega
theorem ok3 {n:I64} (h: -1152921504606846976<=n.val/\n.val<=1152921504606846976):zD n=true:=by
 simp only [zD,zeZ,Tr.get,zft];simpa using h
theorem end_ok {n:I64} (h: -1152921504606846976<=n.val/\n.val<=1152921504606846976):zaG n true=⟨n,true⟩:=by
 simp only [zaG,zdy,Tr.get,ok3 h,Bool.not_true,cond_false]
theorem muldown_val {a b:I64} (ha:zD a=true) (hb:zD b=true) (h: -1152921504606846976<=a.val*b.val/4294967296/\a.val*b.val/4294967296<=1152921504606846976):
  zO a b=⟨.w .i64 (a.val*b.val/4294967296),true⟩:=by
 have e:zav a b ⟨32,rfl⟩=⟨.w .i64 (a.val*b.val/4294967296),true⟩:=by rw [mf32];exact narrow_ok (by omega) (by omega)
 simp only [zO,zcL,Tr.get,ha,hb,Bool.not_true,cond_false,e]
 rw [end_ok (by rw [wi (by omega) (by omega)];exact h)]
theorem mulup_val {a b:I64} (ha:zD a=true) (hb:zD b=true) (h: -1152921504606846976 <= -(a.val*b.val)/4294967296 /\ -(a.val*b.val)/4294967296<=1152921504606846976):
  zaf a b=⟨.w .i64 (0 - -(a.val*b.val)/4294967296),true⟩:=by
 have hbd:=ok_bd ha
 have en:(Rng.w .i64 (0-a.val)).val=0-a.val:=wi (by omega) (by omega)
 have ep:(Rng.w .i64 (0-a.val)).val*b.val= -(a.val*b.val):=by rw [en,Int.zero_sub,Int.neg_mul]
 have e:=muldown_val (ok_neg ha) hb (by rw [ep];exact h)
 rw [ep] at e
 simp only [zaf,zey,Tr.get,ha,e,Bool.not_true,cond_false]
 rw [wi (n:= -(a.val*b.val)/4294967296) (by omega) (by omega)]
theorem md_box {x y:I64} (hx: -4294967296<=x.val/\x.val<=4294967296) (hy:0<=y.val/\y.val<=4294967296):
  ∃d u,zO x y=⟨d,true⟩/\zaf x y=⟨u,true⟩/\(if 0<=x.val then 0 else -4294967296)<=d.val/\d.val<=u.val/\u.val<=4294967296:=by
 have h1:x.val*y.val<=4294967296*4294967296:=by
  by_cases h:0<=x.val
  ·exact Int.mul_le_mul hx.2 hy.2 hy.1 (by decide)
  ·have:=Int.mul_nonneg (show 0 <= -x.val by omega) hy.1
   rw [Int.neg_mul] at this;omega
 have h2: -(4294967296*4294967296)<=x.val*y.val:=by
  by_cases h:0<=x.val
  ·have:=Int.mul_nonneg h hy.1;omega
  ·have:=Int.mul_le_mul (a:= -x.val) (b:=y.val) (c:=4294967296) (d:=4294967296) (by omega) hy.2 hy.1 (by decide)
   rw [Int.neg_mul] at this;omega
 have h3:0<=x.val->0<=x.val*y.val:=fun h=>Int.mul_nonneg h hy.1
 have e1:=muldown_val (a:=x) (b:=y) (ok3 (by omega)) (ok3 (by omega)) (by omega)
 have e2:=mulup_val (a:=x) (b:=y) (ok3 (by omega)) (ok3 (by omega)) (by omega)
 refine ⟨_,_,e1,e2,?_,?_,?_⟩
 ·rw [wi (by omega) (by omega)]
  split
  ·rename_i h;have:=h3 h;omega
  ·omega
 ·rw [wi (by omega) (by omega),wi (by omega) (by omega)];omega
 ·rw [wi (by omega) (by omega)];omega
def In01 (a:Iv):Prop:=0<=a.lo.val/\a.lo.val<=a.hi.val/\a.hi.val<=4294967296
theorem In01.ok {a:Iv} (h:In01 a):za a=true:=(zaN a).2 (by unfold In01 at h;omega)
theorem mul01 {a b:Iv} (ha:In01 a) (hb:In01 b):In01 (zf a b):=by
 have h1:=ha;have h2:=hb
 unfold In01 at h1 h2
 obtain ⟨lo,hi,e,h⟩:=mulI_in (L:=0) (H:=4294967296) ha.ok hb.ok (by decide) (by decide) (fun x y hx hy=>by
  obtain ⟨d,u,k1,k2,k3,k4,k5⟩:=md_box (x:=x) (y:=y) (by rcases hx with rfl|rfl<;>omega) (by rcases hy with rfl|rfl<;>omega)
  rw [if_pos (by rcases hx with rfl|rfl<;>omega)] at k3
  exact ⟨d,u,k1,k2,k3,k4,k5⟩)
 rw [e];exact h
theorem mulring {a b:Iv} (ha: -4294967296<=a.lo.val/\a.lo.val<=a.hi.val/\a.hi.val<=4294967296) (hb:In01 b):
  ∃lo hi,zf a b=⟨lo,hi⟩ /\ -4294967296<=lo.val/\lo.val<=hi.val/\hi.val<=4294967296:=by
 have h2:=hb
 unfold In01 at h2
 refine mulI_in ((zaN a).2 (by omega)) hb.ok (by decide) (by decide) (fun x y hx hy=>?_)
 obtain ⟨d,u,k1,k2,k3,k4,k5⟩:=md_box (x:=x) (y:=y) (by rcases hx with rfl|rfl<;>omega) (by rcases hy with rfl|rfl<;>omega)
 exact ⟨d,u,k1,k2,by split at k3<;>omega,k4,k5⟩
theorem int_val {n:I64} (h: -268435455<=n.val/\n.val<=268435455):zb n=⟨.w .i64 (n.val*4294967296),.w .i64 (n.val*4294967296)⟩:=by
 simp only [zb,t_spec_Integer,Tr.get,zft]
 rw [show decide (-268435455<=n.val/\n.val<=268435455)=true by simpa using h]
 simp only [Bool.not_true,cond_false]
 refine zbI ?_
 rw [wi (by omega) (by omega)];omega
theorem quo01 {x m:Int} (hx:0<=x/\x<=4294967296) (hm:1<=m):0<=x*4294967296/(m*4294967296)/\x*4294967296/(m*4294967296)<=4294967296 /\ -4294967296 <= -x*4294967296/(m*4294967296) /\ -x*4294967296/(m*4294967296)<=0 /\
  x*4294967296/(m*4294967296) <= -(-x*4294967296/(m*4294967296)):=by
 rw [Int.mul_ediv_mul_of_pos_left _ _ (by decide),Int.mul_ediv_mul_of_pos_left _ _ (by decide)]
 have h1:=Int.ediv_nonneg hx.1 (show 0<=m by omega)
 have h2:=Int.ediv_le_self m hx.1
 have h3:=ediv_bd (M:=4294967296) (N:= -x) (d:=m) (by omega) (by omega) (by omega)
 have h4: -x/m <= -(x/m):=by
  have e1:=Int.mul_ediv_add_emod x m
  have e2:=Int.emod_nonneg x (show m≠0 by omega)
  refine Int.le_of_sub_nonneg ?_
  have: -x/m <= -(x/m):=by
   have hh: -x<=m * -(x/m):=by rw [Int.mul_neg];omega
   calc -x/m<=(m * -(x/m))/m:=Int.ediv_le_ediv (by omega) hh
    _= -(x/m):=Int.mul_ediv_cancel_left _ (by omega)
  omega
 omega
theorem div01 {y:Iv} {n:I64} (hy:In01 y) (hn:1<=n.val/\n.val<=1000000):In01 (zn y (zb n)):=by
 have h1:=hy
 unfold In01 at h1
 rw [int_val (by omega)]
 have ev:(Rng.w .i64 (n.val*4294967296)).val=n.val*4294967296:=wi (by omega) (by omega)
 obtain ⟨lo,hi,e,h⟩:=divI_in (a:=y) (b:=⟨.w .i64 (n.val*4294967296),.w .i64 (n.val*4294967296)⟩) (L:=0) (H:=4294967296) hy.ok ((zaN _).2 (by simp only [ev];omega))
  (by simp only [za5,zcZ,Tr.get,zft,ev];simp;omega) (by decide) (by decide) (fun x z hx hz=>by
   have hz':z= .w .i64 (n.val*4294967296):=by rcases hz with h|h<;>exact h
   subst hz'
   have hx1:0<=x.val/\x.val<=4294967296:=by rcases hx with rfl|rfl<;>omega
   obtain ⟨q1,q2,q3,q4,q5⟩:=quo01 hx1 hn.1
   have en:(Rng.w .i64 (0-x.val)).val= -x.val:=by rw [wi (by omega) (by omega)];omega
   have m1:MD x ⟨4294967296,rfl⟩ (.w .i64 (n.val*4294967296))=⟨.w .i64 (x.val*4294967296/(n.val*4294967296)),true⟩:=by
    unfold MD;rw [if_pos (by rw [ev];omega),ev];exact narrow_ok (v:=x.val*4294967296/(n.val*4294967296)) (by omega) (by omega)
   have m2:MD (.w .i64 (0-x.val)) ⟨4294967296,rfl⟩ (.w .i64 (n.val*4294967296))=⟨.w .i64 (-x.val*4294967296/(n.val*4294967296)),true⟩:=by
    unfold MD;rw [if_pos (by rw [ev];omega),ev,en];exact narrow_ok (v:= -x.val*4294967296/(n.val*4294967296)) (by omega) (by omega)
   have o1:zD x=true:=ok3 (by omega)
   have o2:zD (.w .i64 (0-x.val))=true:=ok3 (by rw [en];omega)
   have o3:zD (.w .i64 (n.val*4294967296))=true:=ok3 (by rw [ev];omega)
   have z0:((Rng.w .i64 (n.val*4294967296)).val==0)=false:=by rw [ev];simp;omega
   have z1:decide ((Rng.w .i64 (n.val*4294967296)).val<0)=false:=by rw [ev];simp;omega
   have d1:zP x (.w .i64 (n.val*4294967296))=⟨.w .i64 (x.val*4294967296/(n.val*4294967296)),true⟩:=by
    simp only [zP,zbo,Tr.get,o1,o3,z0,z1,Bool.not_true,cond_false,md_F_spec,m1]
    rw [end_ok (by rw [wi (by omega) (by omega)];omega)]
   have d2:zP (.w .i64 (0-x.val)) (.w .i64 (n.val*4294967296))=⟨.w .i64 (-x.val*4294967296/(n.val*4294967296)),true⟩:=by
    simp only [zP,zbo,Tr.get,o2,o3,z0,z1,Bool.not_true,cond_false,md_F_spec,m2]
    rw [end_ok (by rw [wi (by omega) (by omega)];omega)]
   have d3:zal x (.w .i64 (n.val*4294967296))=⟨.w .i64 (0 - -x.val*4294967296/(n.val*4294967296)),true⟩:=by
    simp only [zal,zc0,Tr.get,o1,d2,Bool.not_true,cond_false]
    rw [wi (n:= -x.val*4294967296/(n.val*4294967296)) (by omega) (by omega)]
   refine ⟨_,_,d1,d3,?_,?_,?_⟩
   ·rw [wi (by omega) (by omega)];omega
   ·rw [wi (by omega) (by omega),wi (by omega) (by omega)];omega
   ·rw [wi (by omega) (by omega)];omega)
 rw [e];exact h
theorem sub01 {a:Iv} (ha:In01 a):In01 (zF (zb ⟨1,rfl⟩) a):=by
 have h1:=ha
 unfold In01 at h1
 have e1:zb ⟨1,rfl⟩=⟨⟨4294967296,rfl⟩,⟨4294967296,rfl⟩⟩:=by rw [int_val (by decide)];rfl
 have o1:za ⟨⟨4294967296,rfl⟩,⟨4294967296,rfl⟩⟩=true:=(zaN _).2 (by decide)
 simp only [zF,t_spec_SubI,Tr.get,e1,o1,ha.ok,Bool.not_true,cond_false]
 have k1:(Rng.w .i64 (4294967296-a.hi.val)).val=4294967296-a.hi.val:=wi (by omega) (by omega)
 have k2:(Rng.w .i64 (4294967296-a.lo.val)).val=4294967296-a.lo.val:=wi (by omega) (by omega)
 rw [zbI (by rw [k1,k2];omega)]
 unfold In01
 simp only [k1,k2]
 omega
theorem step01 {y s:Iv} {n:I64} (hy:In01 y) (hn:1<=n.val/\n.val<=1000000) (hs:In01 s):In01 (zF (zb ⟨1,rfl⟩) (zf (zn y (zb n)) s)):=
 sub01 (mul01 (div01 hy hn) hs)
theorem one01:In01 (zb ⟨1,rfl⟩):=by
 have e1:zb ⟨1,rfl⟩=⟨⟨4294967296,rfl⟩,⟨4294967296,rfl⟩⟩:=by rw [int_val (by decide)];rfl
 rw [e1];unfold In01;decide
theorem series0 {y:Iv} (hy:In01 y):In01 (zaP y ⟨0,rfl⟩):=by
 simp only [zaP,zdk,Tr.get]
 repeat' (first|exact one01|refine step01 hy (by decide) ?_)
theorem series1 {y:Iv} (hy:In01 y):In01 (zaP y ⟨-1,rfl⟩):=by
 simp only [zaP,zdk,Tr.get]
 repeat' (first|exact one01|refine step01 hy (by decide) ?_)
theorem series_eq (y:Iv) (a b:I64) (h:a.val=b.val+2):F_impl_series y a=zaP y b:=by
 have h1:a.val+14=16+b.val:=by omega
 have h2:a.val+12=14+b.val:=by omega
 have h3:a.val+10=12+b.val:=by omega
 have h4:a.val+8=10+b.val:=by omega
 have h5:a.val+6=8+b.val:=by omega
 have h6:a.val+4=6+b.val:=by omega
 have h7:a.val+2=4+b.val:=by omega
 have h8:a.val+0=2+b.val:=by omega
 simp only [F_impl_series,t_impl_series,zaP,zdk,Tr.get,sub_eq,zbH,mulI_F,divI_F,h1,h2,h3,h4,h5,h6,h7,h8]
theorem ring_iff (x:Iv):zaC x zw=true↔(-4294967296<=x.lo.val/\x.lo.val<=x.hi.val/\x.hi.val<=4294967296):=by
 have o:za zw=true:=by decide +kernel
 have e1:zw.lo.val= -4294967296:=rfl
 have e2:zw.hi.val=4294967296:=rfl
 simp only [zaC,zfg,Tr.get,o,Bool.not_true,cond_false,e1,e2]
 cases h:za x
 ·have:=(okno x).1 h
  simp;omega
 ·have:=(zaN x).1 h
  simp only [cond_true]
  by_cases h1: -4294967296<=x.lo.val<;>by_cases h2:x.hi.val<=4294967296<;>simp [h1,h2]<;>omega
theorem ends_val {x:Iv} (h:za x=true):∃p q:I64,zN x=⟨p,q⟩/\0<=p.val/\p.val<=q.val/\(q.val<=x.hi.val\/q.val <= -x.lo.val):=by
 have hb:=(zaN x).1 h
 have e1:(Rng.w .i64 (0-x.lo.val)).val=0-x.lo.val:=wi (by omega) (by omega)
 have e2:(Rng.w .i64 (0-x.hi.val)).val=0-x.hi.val:=wi (by omega) (by omega)
 have m1:=max_l x.lo (.w .i64 (0-x.lo.val))
 have m2:=max_l x.hi (.w .i64 (0-x.hi.val))
 have m3:=max_l (zu x.lo (.w .i64 (0-x.lo.val))) (zu x.hi (.w .i64 (0-x.hi.val)))
 have m4:=min_l (zu x.lo (.w .i64 (0-x.lo.val))) (zu x.hi (.w .i64 (0-x.hi.val)))
 rw [e1] at m1
 rw [e2] at m2
 simp only [zN,zff,Tr.get,za5,zcZ,zft]
 by_cases h0:x.lo.val<=0/\0<=x.hi.val
 ·simp only [h0,and_self,decide_true,cond_true]
  exact ⟨_,_,rfl,by simp,by simp only;omega,by omega⟩
 ·simp only [h0,decide_false,cond_false]
  exact ⟨_,_,rfl,by omega,by omega,by omega⟩
theorem sqr01 {x:Iv} (h:zaC x zw=true):In01 (zao x):=by
 have hb:=(ring_iff x).1 h
 have ho:za x=true:=(zaN x).2 (by omega)
 obtain ⟨p,q,e,h1,h2,h3⟩:=ends_val ho
 obtain ⟨d1,u1,a1,a2,a3,a4,a5⟩:=md_box (x:=p) (y:=p) (by omega) (by omega)
 obtain ⟨d2,u2,b1,b2,b3,b4,b5⟩:=md_box (x:=q) (y:=q) (by omega) (by omega)
 have hpq:p.val*p.val<=q.val*q.val:=Int.mul_le_mul h2 h2 h1 (by omega)
 have hqq:q.val*q.val<=4294967296*4294967296:=Int.mul_le_mul (by omega) (by omega) (by omega) (by decide)
 have hpp:=Int.mul_nonneg h1 h1
 have c1:=muldown_val (a:=p) (b:=p) (ok3 (by omega)) (ok3 (by omega)) (by omega)
 have c2:=muldown_val (a:=q) (b:=q) (ok3 (by omega)) (ok3 (by omega)) (by omega)
 rw [c1] at a1;cases a1
 rw [c2] at b1;cases b1
 rw [wi (by omega) (by omega)] at a3
 rw [wi (by omega) (by omega)] at b4
 rw [if_pos h1] at a3
 simp only [zao,t_spec_SqrI,Tr.get,ho,e,c1,b2,Bool.not_true,cond_false]
 have hw:(Rng.w .i64 (p.val*p.val/4294967296)).val=p.val*p.val/4294967296:=wi (by omega) (by omega)
 rw [zbI (by rw [hw];omega)]
 unfold In01
 simp only [hw]
 omega
def Near (a:Iv):Prop:=za a=false\/(a.lo.val<=4294967296 /\ -4294967296<=a.hi.val)
theorem Near.neg {a:Iv} (h:Near a):Near (zaO a):=by
 cases ho:za a
 ·exact .inl (by rw [neg_isok,ho])
 ·rcases h with h|h
  ·rw [ho] at h;cases h
  ·have:=(zaN a).1 ho
   rw [neg_ok_val ho]
   refine .inr ?_
   simp only
   rw [wi (by omega) (by omega),wi (by omega) (by omega)]
   omega
theorem Near.meet {a:Iv} (h:Near a):zcB a=za4 a:=by
 have o:za zw=true:=by decide +kernel
 have e1:zw.lo.val= -4294967296:=rfl
 have e2:zw.hi.val=4294967296:=rfl
 have hb:(zas a zw).b=true:=by
  simp only [zas,zcM,Tr.get,o,Bool.not_true,cond_false]
  rcases h with h|h
  ·simp only [h,Bool.not_false,cond_true]
  ·cases ho:za a
   ·simp only [Bool.not_false,cond_true]
   ·have:=(zaN a).1 ho
    have m1:=max_l a.lo zw.lo
    have m2:=min_l a.hi zw.hi
    rw [e1] at m1
    rw [e2] at m2
    have hd:decide ((zu a.lo zw.lo).val>(zC a.hi zw.hi).val)=false:=by simp;omega
    simp only [Bool.not_true,cond_false,hd]
 simp only [zcB,t_impl_inRing,za4,t_spec_l06Meet,Tr.get,meet_eq,ring_eq,hb,Bool.not_true,cond_false]
theorem near_whole:Near ze:= .inl zcv
theorem near_tiny {lo hi:I64} (h: -4294967296<=lo.val/\lo.val<=hi.val/\hi.val<=4294967296):Near (zk ⟨lo,hi⟩ zbv):=by
 have o:za zbv=true:=by decide +kernel
 have o2:za ⟨lo,hi⟩=true:=(zaN _).2 (by simp only;omega)
 have e1:zbv.lo.val= -1:=rfl
 have e2:zbv.hi.val=1:=rfl
 simp only [zk,zc2,Tr.get,o,o2,Bool.not_true,cond_false,e1,e2]
 have k1:(Rng.w .i64 (lo.val + -1)).val=lo.val + -1:=wi (by omega) (by omega)
 have k2:(Rng.w .i64 (hi.val+1)).val=hi.val+1:=wi (by omega) (by omega)
 rw [zbI (by rw [k1,k2];omega)]
 refine .inr ?_
 simp only [k1,k2]
 omega
theorem near_sin (x:Iv):Near (zaz x):=by
 simp only [zaz,zdU,Tr.get,zc5]
 cases h:zaC x zw
 ·exact near_whole
 ·simp only [Bool.not_true,cond_false]
  obtain ⟨lo,hi,e,k⟩:=mulring ((ring_iff x).1 h) (series0 (sqr01 h))
  rw [e];exact near_tiny k
theorem near_cos (x:Iv):Near (zaD x):=by
 simp only [zaD,zdV,Tr.get,zc5]
 cases h:zaC x zw
 ·exact near_whole
 ·simp only [Bool.not_true,cond_false]
  have:=series1 (sqr01 h)
  unfold In01 at this
  exact near_tiny (lo:=(zaP (zao x) ⟨-1,rfl⟩).lo) (hi:=(zaP (zao x) ⟨-1,rfl⟩).hi) (by omega)
theorem sin_eq (x:Iv):zeV x=zaz x:=by
 simp only [zeV,t_impl_SinSeries,zaz,zdU,Tr.get,inside_eq,ring_eq,tiny_eq,zaS,zc5,add_eq,mulI_F,sqrI_F,series_eq _ ⟨2,rfl⟩ ⟨0,rfl⟩ rfl]
theorem cos_eq (x:Iv):zeX x=zaD x:=by
 simp only [zeX,t_impl_CosSeries,zaD,zdV,Tr.get,inside_eq,ring_eq,tiny_eq,zaS,zc5,add_eq,sqrI_F,series_eq _ ⟨1,rfl⟩ ⟨-1,rfl⟩ rfl]
theorem root_law (hi:I64) (lo:U64) (V:Int) (hV:V=hi.val*18446744073709551616+lo.val) (h0:0<=hi.val):∀(k m:Nat) (r:U64) (i:I64),k<=64->i.val=(k:Int)-1->(∃r1:Nat,r.val=2^k*(r1:Int))->r.val*r.val<=V->V<(r.val+2^k)*(r.val+2^k)->r.val+2^k<=18446744073709551616->
  ∃q:U64,(Lf zcb (k+1+m) ⟨r,i,hi,lo⟩).opt=some ⟨q,.w .i64 (-1),hi,lo⟩/\q.val*q.val<=V/\V<(q.val+1)*(q.val+1):=by
 intro k
 induction k with
 | zero=>
  intro m r i _ hi' _ h1 h2 _
  have h0:decide (i.val>=0)=false:=by simp;omega
  have e:i= .w .i64 (-1):=rext (by rw [wi (by omega) (by omega)];omega)
  refine ⟨r,?_,h1,by simpa using h2⟩
  simp only [Lf,zcb,h0,Tr.bind,Tr.opt,cond_false,Nat.zero_add,Nat.add_comm 1 m,<- e]
 | succ k ih=>
  intro m r i hk hi' ⟨r1,hr1⟩ h1 h2 h3
  have hge:decide (i.val>=0)=true:=by simp;omega
  have en:(Rng.w .u64 i.val).val=i.val:=wu (by omega) (by omega)
  have e1:(Rng.w .i64 (i.val-1)).val=(k:Int)-1:=by rw [wi (by omega) (by omega)];omega
  have hfuel:k+1+1+m=(k+1+m)+1:=by omega
  have hp2:(2:Int)^(k+1)=2^k*2:=Int.pow_succ ..
  have hpos:(0:Int)<2^k:=Int.pow_pos (by decide)
  have hmin:min i.val.toNat 64=k:=by omega
  have hrb:=r.ubd
  have hbit:(Rng.w .u64 (1*(2^min i.val.toNat 64))).val=2^k:=by rw [hmin,Int.one_mul];exact wu (by omega) (by omega)
  have hor:zbJ .or .u64 r.val (2^k)=r.val+2^k:=or_add (k+1) r1 hr1 (by omega) (by omega) (by omega)
  have hc:(Rng.w .u64 (zbJ .or .u64 r.val (Rng.w .u64 (1*(2^min i.val.toNat 64))).val)).val=r.val+2^k:=by rw [hbit,hor];exact wu (by omega) (by omega)
  generalize hcc:Rng.w .u64 (zbJ .or .u64 r.val (Rng.w .u64 (1*(2^min i.val.toNat 64))).val)=c at hc
  have hbc:=c.ubd
  have hmb:=prod_parts c.val c.val hbc.1 hbc.2 hbc.1 hbc.2
  have hnn:0<=c.val*c.val:=Int.mul_nonneg hbc.1 hbc.1
  have hle:c.val*c.val<=18446744073709551615*18446744073709551615:=Int.mul_le_mul hbc.2 hbc.2 hbc.1 (by decide)
  have wa:(Rng.w .u64 (c.val*c.val/18446744073709551616)).val=c.val*c.val/18446744073709551616:=wu (by omega) (by omega)
  have wb:(Rng.w .u64 (c.val*c.val)).val=c.val*c.val%18446744073709551616:=zbn _
  have bh:=hi.bd
  have bl:=lo.ubd
  have wh:(Rng.w .u64 hi.val).val=hi.val:=wu h0 (by omega)
  have hsq:(r.val+2^(k+1))*(r.val+2^(k+1))=(c.val+2^k)*(c.val+2^k):=by rw [hc,hp2];congr 1<;>omega
  rw [hfuel]
  by_cases hcv:c.val*c.val<=V
  ·obtain ⟨q,a1,a2,a3⟩:=ih m c (.w .i64 (i.val-1)) (by omega) e1 ⟨2*r1+1,by rw [hc,hr1,hp2,Int.mul_assoc];simp only [Int.natCast_add,Int.natCast_mul];rw [Int.mul_add];simp⟩ hcv (by rw [<- hsq];exact h2) (by rw [hc];omega)
   refine ⟨q,?_,a2,a3⟩
   simp only [Lf,zcb,hge,en,hcc,times_spec,wa,wb,wh,Tr.bind,Tr.opt,cond_true]
   by_cases k1:c.val*c.val/18446744073709551616<hi.val
   ·simp only [k1,decide_true,cond_true];exact a1
   ·have k2:c.val*c.val/18446744073709551616=hi.val:=by omega
    have k3:c.val*c.val%18446744073709551616<=lo.val:=by omega
    simp only [k2,Int.lt_irrefl,k3,decide_true,decide_false,cond_true,cond_false,beq_self_eq_true];exact a1
  ·obtain ⟨q,a1,a2,a3⟩:=ih m r (.w .i64 (i.val-1)) (by omega) e1 ⟨2*r1,by rw [hr1,hp2,Int.mul_assoc];simp⟩ h1 (by rw [<- hc];omega) (by omega)
   refine ⟨q,?_,a2,a3⟩
   simp only [Lf,zcb,hge,en,hcc,times_spec,wa,wb,wh,Tr.bind,Tr.opt,cond_true]
   have k1:¬c.val*c.val/18446744073709551616<hi.val:=by omega
   by_cases k2:c.val*c.val/18446744073709551616=hi.val
   ·have k3:¬c.val*c.val%18446744073709551616<=lo.val:=by omega
    simp only [k2,Int.lt_irrefl,k3,decide_false,cond_true,cond_false,beq_self_eq_true];exact a1
   ·have k4:(c.val*c.val/18446744073709551616==hi.val)=false:=by simpa using k2
    simp only [k1,k4,decide_false,cond_false];exact a1
theorem root_val (w:Wide) (h:0<=w.hi.val):0<=(zbk w).val/\(zbk w).val*(zbk w).val<=wv w/\wv w<((zbk w).val+1)*((zbk w).val+1):=by
 have bh:=w.hi.bd
 have bl:=w.lo.ubd
 obtain ⟨q,h1,h2,h3⟩:=root_law w.hi w.lo (wv w) rfl h 64 1 ⟨0,rfl⟩ ⟨63,rfl⟩ (by omega) (by rfl) ⟨0,by simp⟩ (by simp only [wv];omega) (by simp only [wv];omega) (by decide)
 have hf:(64+1+1:Nat)=66:=rfl
 rw [hf] at h1
 have g1:zeS ⟨⟨0,rfl⟩,⟨63,rfl⟩,w.hi,w.lo⟩=true:=by unfold zeS;rw [h1];rfl
 have l1:L_spec_l02Root_3 ⟨⟨0,rfl⟩,⟨63,rfl⟩,w.hi,w.lo⟩=_:=Tr.zae h1
 have k1:(zd8 w).opt=some q:=by simp only [zd8,Tr.opt,g1,l1,cond_true]
 have k2:zbk w=q:=Tr.zae k1
 rw [k2]
 exact ⟨q.ubd.1,h2,h3⟩
theorem sq_lt {a b:Int} (ha:0<=a) (hb:0<=b) (h:a*a<=b*b):a<=b:=by
 by_cases hab:a<=b
 ·exact hab
 ·have:(b+1)*(b+1)<=a*a:=Int.mul_le_mul (by omega) (by omega) (by omega) ha
  have:(b+1)*(b+1)=b*b+2*b+1:=by rw [Int.add_mul,Int.mul_add,Int.one_mul,Int.mul_one];omega
  omega
theorem wsqrt_eq (w:Wide) (h:0<=w.hi.val):F_impl_WideSqrt w=⟨zbk w,true⟩:=by
 have e:F_impl_WideSqrt w=_:=Tr.zae (root_ok w).2
 rw [e,show decide (w.hi.val<0)=false by simp;omega];rfl
theorem sf_val (a b:I64) (ha:0<=a.val) (hb:0<=b.val):∃q:I64,zdX a b=⟨q,true⟩/\zdY a b=⟨q,true⟩/\0<=q.val/\q.val*q.val<=a.val*b.val/\a.val*b.val<(q.val+1)*(q.val+1):=by
 have hm:=mul_bd a.bd b.bd
 have hnn:=Int.mul_nonneg ha hb
 have d1:decide (a.val<0)=false:=by simp;omega
 have d2:decide (b.val<0)=false:=by simp;omega
 have hwv:=wv_mkW (v:=a.val*b.val) (by omega) (by omega)
 have hhi:0<=(mkW (a.val*b.val)).hi.val:=by simp only [mkW];rw [wi (by omega) (by omega)];omega
 obtain ⟨r0,r1,r2⟩:=root_val (mkW (a.val*b.val)) hhi
 rw [hwv] at r1 r2
 have hr:(zbk (mkW (a.val*b.val))).val<=9223372036854775807:=by
  refine sq_lt r0 (by decide) ?_
  have:=Int.mul_le_mul a.bd.2 b.bd.2 hb (by decide)
  omega
 have hw:(Rng.w .i64 (zbk (mkW (a.val*b.val))).val).val=(zbk (mkW (a.val*b.val))).val:=wi (by omega) hr
 refine ⟨.w .i64 (zbk (mkW (a.val*b.val))).val,?_,?_,by rw [hw];exact r0,by rw [hw];exact r1,by rw [hw];exact r2⟩
 ·simp only [zdX,zeM,Tr.get,d1,d2,mul_spec,root_G,cond_false,cond_true]
 ·simp only [zdY,zeO,Tr.get,d1,d2,mul_impl,wsqrt_G,wsqrt_eq _ hhi,cond_false,cond_true]
theorem sd_val (a:I64) (ha:0<=a.val/\a.val<=1152921504606846976):∃q:I64,zcq a=⟨q,true⟩/\zfT a=⟨q,true⟩/\0<=q.val/\q.val<=70368744177664/\q.val*q.val<=a.val*4294967296/\a.val*4294967296<(q.val+1)*(q.val+1):=by
 obtain ⟨q,h1,h2,h3,h4,h5⟩:=sf_val a ⟨4294967296,rfl⟩ ha.1 (by decide)
 have hq:q.val<=70368744177664:=sq_lt h3 (by decide) (by simp only at h4;omega)
 have i1:zaj a ⟨0,rfl⟩ ⟨1152921504606846976,rfl⟩=true:=by rw [zft];simpa using ha
 have o1:zD a=true:=ok3 (by omega)
 refine ⟨q,?_,?_,h3,hq,h4,h5⟩
 ·simp only [zcq,zdS,Tr.get,i1,sf_G_spec,h1,Bool.not_true,cond_false,cond_true]
 ·simp only [zfT,zfI,Tr.get,okfix_eq,o1,sf_G_impl,h2,Bool.not_true,cond_false,cond_true,end_eq]
  rw [end_ok (by omega)]
theorem and_mask_i (x:I64):(Rng.w .i64 (zbJ .and .i64 x.val 4294967295)).val=x.val%4294967296:=by
 have bx:=x.bd
 have e2:(BitVec.ofInt 64 x.val &&& BitVec.ofInt 64 4294967295).toNat=(BitVec.ofInt 64 x.val).toNat%4294967296:=by
  rw [BitVec.toNat_and,show (BitVec.ofInt 64 4294967295).toNat=2^32-1 by decide,Nat.and_two_pow_sub_one_eq_mod]
 have e3:((BitVec.ofInt 64 x.val).toNat:Int)=x.val%18446744073709551616:=by
  rw [BitVec.toNat_ofInt];simp;omega
 have e:zbJ .and .i64 x.val 4294967295=x.val%4294967296:=by
  show ((BitVec.ofInt 64 x.val &&& BitVec.ofInt 64 4294967295).toNat:Int)=_
  rw [e2,Int.natCast_emod,e3];omega
 rw [e]
 exact wi (by omega) (by omega)
theorem su_val (a:I64) (ha:0<=a.val/\a.val<=1152921504606846976):∃q:I64,zcc a=⟨q,true⟩/\F_impl_SqrtUp a=⟨q,true⟩:=by
 obtain ⟨q,h1,h2,h3,h4,h5,h6⟩:=sd_val a ha
 have e1:(Rng.w .i64 (q.val+1)).val=q.val+1:=wi (by omega) (by omega)
 have hqq:=Int.mul_nonneg h3 h3
 have hmf:zav q q ⟨32,rfl⟩=⟨.w .i64 (q.val*q.val/4294967296),true⟩:=by rw [mf32];exact narrow_ok (by omega) (by omega)
 have hmv:(Rng.w .i64 (q.val*q.val/4294967296)).val=q.val*q.val/4294967296:=wi (by omega) (by omega)
 have hmask:(Rng.w .i64 (zbJ .and .i64 (Rng.w .i64 (q.val*q.val)).val 4294967295)).val=q.val*q.val%4294967296:=by rw [and_mask_i,ws_val];omega
 have hb1: -170141183460469231731687303715884105728<=q.val*q.val/\q.val*q.val<170141183460469231731687303715884105728:=by omega
 have hb2: -170141183460469231731687303715884105728<=a.val*4294967296/\a.val*4294967296<170141183460469231731687303715884105728:=by omega
 by_cases hx:q.val*q.val=a.val*4294967296
 ·refine ⟨q,?_,?_⟩
  ·have k1:(q.val*q.val/4294967296 != a.val)=false:=by simp;omega
   have k2:(q.val*q.val%4294967296 != 0)=false:=by simp;omega
   simp only [zcc,zcw,Tr.get,sd_G_spec,h1,hmf,hmv,hmask,k1,k2,Bool.not_true,cond_false,cond_true]
  ·simp only [F_impl_SqrtUp,t_impl_SqrtUp,Tr.get,sd_G_impl,h2,mul_impl,hx,beq_self_eq_true,Bool.and_self,Bool.not_true,cond_false,cond_true,end_eq]
   rw [end_ok (by omega)]
 ·refine ⟨.w .i64 (q.val+1),?_,?_⟩
  ·simp only [zcc,zcw,Tr.get,sd_G_spec,h1,hmf,hmv,hmask,Bool.not_true,cond_false,cond_true]
   by_cases k1:q.val*q.val/4294967296=a.val
   ·have k2:(q.val*q.val%4294967296 != 0)=true:=by simp;omega
    have k3:(q.val*q.val/4294967296 != a.val)=false:=by simp [k1]
    simp only [k2,k3,cond_true,cond_false]
   ·have k3:(q.val*q.val/4294967296 != a.val)=true:=by simp [k1]
    simp only [k3,cond_true]
  ·have hne:((mkW (q.val*q.val)).hi.val==(mkW (a.val*4294967296)).hi.val&&((mkW (q.val*q.val)).lo.val==(mkW (a.val*4294967296)).lo.val&&true))=false:=by
    rw [Bool.eq_false_iff]
    intro h
    simp only [Bool.and_true,Bool.and_eq_true,beq_iff_eq] at h
    have:wv (mkW (q.val*q.val))=wv (mkW (a.val*4294967296)):=by simp only [wv,h.1,h.2]
    rw [wv_mkW hb1.1 hb1.2,wv_mkW hb2.1 hb2.2] at this
    exact hx this
   simp only [F_impl_SqrtUp,t_impl_SqrtUp,Tr.get,sd_G_impl,h2,mul_impl,hne,Bool.not_false,cond_false,cond_true,end_eq]
   rw [end_ok (by rw [e1];omega)]
theorem sqrtI_eq (a:Iv):zei a=zar a:=by
 simp only [zei,t_impl_SqrtI,zar,t_spec_SqrtI,Tr.get,isw_eq,zaS,zcN,sd_G_impl,sd_G_spec,su_G_impl,su_G_spec,cond_true]
 cases h:za a
 ·rfl
 have hb:=(zaN a).1 h
 by_cases h0:a.lo.val<0
 ·simp only [h0,decide_true,cond_true,Bool.not_true,cond_false]
 ·obtain ⟨q,e1,e2,_⟩:=sd_val a.lo (by omega)
  obtain ⟨p,e3,e4⟩:=su_val a.hi (by omega)
  simp only [h0,decide_false,cond_false,Bool.not_true,e1,e2,e3,e4,cond_true]
end Go.Proofs.YtkenfaengphiiaaGreat.Ev
