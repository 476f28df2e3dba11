/- The law FnOmega gives true, whatever comes in; each argument reads behind the call as it read before. No conditions. (One of the texts of its proof, put together by a program of this session.) -/
import Derived.Test.YtaoakfodkoifoaaGreatZW2
set_option linter.unusedSectionVars false
set_option linter.unusedSimpArgs false
set_option linter.unusedVariables false
namespace Go.Proofs.YtaoakfodkoifoaaGreat.Ev
open Go
theorem zf7 (a b:I64):(zC a b).val<=a.val/\(zC a b).val<=b.val/\((zC a b).val=a.val\/(zC a b).val=b.val):=by
 rw [<- min_eq,zEp];split<;>omega
theorem zeB (a b:I64):a.val<=(zt a b).val/\b.val<=(zt a b).val/\((zt a b).val=a.val\/(zt a b).val=b.val):=by
 rw [<- max_eq,zEk];split<;>omega
theorem zvH {a b:Iv} {L H:Int} (ha:za a=true) (hb:za b=true) (hL: -1152921504606846976<L) (hH:H<1152921504606846976)
  (h:∀x y:I64,(x=a.lo\/x=a.hi)->(y=b.lo\/y=b.hi)->∃d u,zW x y=⟨d,true⟩/\zau x y=⟨u,true⟩/\L<=d.val/\d.val<=u.val/\u.val<=H):
  ∃lo hi,zk a b=⟨lo,hi⟩/\L<=lo.val/\lo.val<=hi.val/\hi.val<=H:=by
 obtain ⟨d1,u1,e1,f1,g1⟩:=h a.lo b.lo (.inl rfl) (.inl rfl)
 obtain ⟨d2,u2,e2,f2,g2⟩:=h a.lo b.hi (.inl rfl) (.inr rfl)
 obtain ⟨d3,u3,e3,f3,g3⟩:=h a.hi b.lo (.inr rfl) (.inl rfl)
 obtain ⟨d4,u4,e4,f4,g4⟩:=h a.hi b.hi (.inr rfl) (.inr rfl)
 simp only [zk,zkr,Tr.get,ha,hb,e1,e2,e3,e4,f1,f2,f3,f4,Bool.not_true,cond_false]
 have m1:=zf7 ⟨1152921504606846976,rfl⟩ d1
 have m2:=zf7 (zC ⟨1152921504606846976,rfl⟩ d1) d2
 have m3:=zf7 (zC (zC ⟨1152921504606846976,rfl⟩ d1) d2) d3
 have m4:=zf7 (zC (zC (zC ⟨1152921504606846976,rfl⟩ d1) d2) d3) d4
 have n1:=zeB ⟨-1152921504606846976,rfl⟩ u1
 have n2:=zeB (zt ⟨-1152921504606846976,rfl⟩ u1) u2
 have n3:=zeB (zt (zt ⟨-1152921504606846976,rfl⟩ u1) u2) u3
 have n4:=zeB (zt (zt (zt ⟨-1152921504606846976,rfl⟩ u1) u2) u3) u4
 simp only at m1 n1
 refine ⟨_,_,zbq ?_,?_,?_,?_⟩<;>omega
theorem zDy {a b:Iv} {L H:Int} (ha:za a=true) (hb:za b=true) (hz:zaO b ⟨0,rfl⟩=false) (hL: -1152921504606846976<L) (hH:H<1152921504606846976)
  (h:∀x y:I64,(x=a.lo\/x=a.hi)->(y=b.lo\/y=b.hi)->∃d u,zO x y=⟨d,true⟩/\z8 x y=⟨u,true⟩/\L<=d.val/\d.val<=u.val/\u.val<=H):
  ∃lo hi,zo a b=⟨lo,hi⟩/\L<=lo.val/\lo.val<=hi.val/\hi.val<=H:=by
 obtain ⟨d1,u1,e1,f1,g1⟩:=h a.lo b.lo (.inl rfl) (.inl rfl)
 obtain ⟨d2,u2,e2,f2,g2⟩:=h a.lo b.hi (.inl rfl) (.inr rfl)
 obtain ⟨d3,u3,e3,f3,g3⟩:=h a.hi b.lo (.inr rfl) (.inl rfl)
 obtain ⟨d4,u4,e4,f4,g4⟩:=h a.hi b.hi (.inr rfl) (.inr rfl)
 simp only [zo,zho,Tr.get,ha,hb,hz,e1,e2,e3,e4,f1,f2,f3,f4,Bool.not_true,cond_false]
 have m1:=zf7 ⟨1152921504606846976,rfl⟩ d1
 have m2:=zf7 (zC ⟨1152921504606846976,rfl⟩ d1) d2
 have m3:=zf7 (zC (zC ⟨1152921504606846976,rfl⟩ d1) d2) d3
 have m4:=zf7 (zC (zC (zC ⟨1152921504606846976,rfl⟩ d1) d2) d3) d4
 have n1:=zeB ⟨-1152921504606846976,rfl⟩ u1
 have n2:=zeB (zt ⟨-1152921504606846976,rfl⟩ u1) u2
 have n3:=zeB (zt (zt ⟨-1152921504606846976,rfl⟩ u1) u2) u3
 have n4:=zeB (zt (zt (zt ⟨-1152921504606846976,rfl⟩ u1) u2) u3) u4
 simp only at m1 n1
 refine ⟨_,_,zbq ?_,?_,?_,?_⟩<;>omega
theorem ok3 {n:I64} (h: -1152921504606846976<=n.val/\n.val<=1152921504606846976):zJ n=true:=by
 simp only [zJ,zhg,Tr.get,zdp];simpa using h
theorem zpI {n:I64} (h: -1152921504606846976<=n.val/\n.val<=1152921504606846976):zaJ n true=⟨n,true⟩:=by
 simp only [zaJ,zei,Tr.get,ok3 h,Bool.not_true,cond_false]
theorem zhv {a b:I64} (ha:zJ a=true) (hb:zJ b=true) (h: -1152921504606846976<=a.val*b.val/4294967296/\a.val*b.val/4294967296<=1152921504606846976):
  zW a b=⟨.w .i64 (a.val*b.val/4294967296),true⟩:=by
 have e:zaE a b ⟨32,rfl⟩=⟨.w .i64 (a.val*b.val/4294967296),true⟩:=by rw [mf32];exact zfj (by omega) (by omega)
 simp only [zW,zez,Tr.get,ha,hb,Bool.not_true,cond_false,e]
 rw [zpI (by rw [wi (by omega) (by omega)];exact h)]
theorem zpC {a b:I64} (ha:zJ a=true) (hb:zJ b=true) (h: -1152921504606846976 <= -(a.val*b.val)/4294967296 /\ -(a.val*b.val)/4294967296<=1152921504606846976):
  zau a b=⟨.w .i64 (0 - -(a.val*b.val)/4294967296),true⟩:=by
 have hbd:=zqY ha
 have en:(Rng.w .i64 (0-a.val)).val=0-a.val:=wi (by omega) (by omega)
 have ep:(Rng.w .i64 (0-a.val)).val*b.val= -(a.val*b.val):=by rw [en,Int.zero_sub,Int.neg_mul]
 have e:=zhv (zG5 ha) hb (by rw [ep];exact h)
 rw [ep] at e
 simp only [zau,zhh,Tr.get,ha,e,Bool.not_true,cond_false]
 rw [wi (n:= -(a.val*b.val)/4294967296) (by omega) (by omega)]
theorem zEs {x y:I64} (hx: -4294967296<=x.val/\x.val<=4294967296) (hy:0<=y.val/\y.val<=4294967296):
  ∃d u,zW x y=⟨d,true⟩/\zau x y=⟨u,true⟩/\(if 0<=x.val then 0 else -4294967296)<=d.val/\d.val<=u.val/\u.val<=4294967296:=by
 have h1:x.val*y.val<=4294967296*4294967296:=by
  by_cases h:0<=x.val
  ·exact Int.mul_le_mul hx.2 hy.2 hy.1 (by decide)
  ·have:=Int.mul_nonneg (show 0 <= -x.val by omega) hy.1
   rw [Int.neg_mul] at this;omega
 have h2: -(4294967296*4294967296)<=x.val*y.val:=by
  by_cases h:0<=x.val
  ·have:=Int.mul_nonneg h hy.1;omega
  ·have:=Int.mul_le_mul (a:= -x.val) (b:=y.val) (c:=4294967296) (d:=4294967296) (by omega) hy.2 hy.1 (by decide)
   rw [Int.neg_mul] at this;omega
 have h3:0<=x.val->0<=x.val*y.val:=fun h=>Int.mul_nonneg h hy.1
 have e1:=zhv (a:=x) (b:=y) (ok3 (by omega)) (ok3 (by omega)) (by omega)
 have e2:=zpC (a:=x) (b:=y) (ok3 (by omega)) (ok3 (by omega)) (by omega)
 refine ⟨_,_,e1,e2,?_,?_,?_⟩
 ·rw [wi (by omega) (by omega)]
  split
  ·rename_i h;have:=h3 h;omega
  ·omega
 ·rw [wi (by omega) (by omega),wi (by omega) (by omega)];omega
 ·rw [wi (by omega) (by omega)];omega
def In01 (a:Iv):Prop:=0<=a.lo.val/\a.lo.val<=a.hi.val/\a.hi.val<=4294967296
theorem In01.ok {a:Iv} (h:In01 a):za a=true:=(zaB a).2 (by unfold In01 at h;omega)
theorem zQK {a b:Iv} (ha:In01 a) (hb:In01 b):In01 (zk a b):=by
 have h1:=ha;have h2:=hb
 unfold In01 at h1 h2
 obtain ⟨lo,hi,e,h⟩:=zvH (L:=0) (H:=4294967296) ha.ok hb.ok (by decide) (by decide) (fun x y hx hy=>by
  obtain ⟨d,u,k1,k2,k3,k4,k5⟩:=zEs (x:=x) (y:=y) (by rcases hx with rfl|rfl<;>omega) (by rcases hy with rfl|rfl<;>omega)
  rw [if_pos (by rcases hx with rfl|rfl<;>omega)] at k3
  exact ⟨d,u,k1,k2,k3,k4,k5⟩)
 rw [e];exact h
theorem zL3 {a b:Iv} (ha: -4294967296<=a.lo.val/\a.lo.val<=a.hi.val/\a.hi.val<=4294967296) (hb:In01 b):
  ∃lo hi,zk a b=⟨lo,hi⟩ /\ -4294967296<=lo.val/\lo.val<=hi.val/\hi.val<=4294967296:=by
 have h2:=hb
 unfold In01 at h2
 refine zvH ((zaB a).2 (by omega)) hb.ok (by decide) (by decide) (fun x y hx hy=>?_)
 obtain ⟨d,u,k1,k2,k3,k4,k5⟩:=zEs (x:=x) (y:=y) (by rcases hx with rfl|rfl<;>omega) (by rcases hy with rfl|rfl<;>omega)
 exact ⟨d,u,k1,k2,by split at k3<;>omega,k4,k5⟩
theorem zjP {n:I64} (h: -268435455<=n.val/\n.val<=268435455):zf n=⟨.w .i64 (n.val*4294967296),.w .i64 (n.val*4294967296)⟩:=by
 simp only [zf,znx,Tr.get,zdp]
 rw [show decide (-268435455<=n.val/\n.val<=268435455)=true by simpa using h]
 simp only [Bool.not_true,cond_false]
 refine zbq ?_
 rw [wi (by omega) (by omega)];omega
theorem zQD {x m:Int} (hx:0<=x/\x<=4294967296) (hm:1<=m):0<=x*4294967296/(m*4294967296)/\x*4294967296/(m*4294967296)<=4294967296 /\ -4294967296 <= -x*4294967296/(m*4294967296) /\ -x*4294967296/(m*4294967296)<=0 /\
  x*4294967296/(m*4294967296) <= -(-x*4294967296/(m*4294967296)):=by
 rw [Int.mul_ediv_mul_of_pos_left _ _ (by decide),Int.mul_ediv_mul_of_pos_left _ _ (by decide)]
 have h1:=Int.ediv_nonneg hx.1 (show 0<=m by omega)
 have h2:=Int.ediv_le_self m hx.1
 have h3:=zq4 (M:=4294967296) (N:= -x) (d:=m) (by omega) (by omega) (by omega)
 have h4: -x/m <= -(x/m):=by
  have e1:=Int.mul_ediv_add_emod x m
  have e2:=Int.emod_nonneg x (show m≠0 by omega)
  refine Int.le_of_sub_nonneg ?_
  have: -x/m <= -(x/m):=by
   have hh: -x<=m * -(x/m):=by rw [Int.mul_neg];omega
   calc -x/m<=(m * -(x/m))/m:=Int.ediv_le_ediv (by omega) hh
    _= -(x/m):=Int.mul_ediv_cancel_left _ (by omega)
  omega
 omega
theorem zQ3 {y:Iv} {n:I64} (hy:In01 y) (hn:1<=n.val/\n.val<=1000000):In01 (zo y (zf n)):=by
 have h1:=hy
 unfold In01 at h1
 rw [zjP (by omega)]
 have ev:(Rng.w .i64 (n.val*4294967296)).val=n.val*4294967296:=wi (by omega) (by omega)
 obtain ⟨lo,hi,e,h⟩:=zDy (a:=y) (b:=⟨.w .i64 (n.val*4294967296),.w .i64 (n.val*4294967296)⟩) (L:=0) (H:=4294967296) hy.ok ((zaB _).2 (by simp only [ev];omega))
  (by simp only [zaO,zcc,Tr.get,zdp,ev];simp;omega) (by decide) (by decide) (fun x z hx hz=>by
   have hz':z= .w .i64 (n.val*4294967296):=by rcases hz with h|h<;>exact h
   subst hz'
   have hx1:0<=x.val/\x.val<=4294967296:=by rcases hx with rfl|rfl<;>omega
   obtain ⟨q1,q2,q3,q4,q5⟩:=zQD hx1 hn.1
   have en:(Rng.w .i64 (0-x.val)).val= -x.val:=by rw [wi (by omega) (by omega)];omega
   have m1:MD x ⟨4294967296,rfl⟩ (.w .i64 (n.val*4294967296))=⟨.w .i64 (x.val*4294967296/(n.val*4294967296)),true⟩:=by
    unfold MD;rw [if_pos (by rw [ev];omega),ev];exact zfj (v:=x.val*4294967296/(n.val*4294967296)) (by omega) (by omega)
   have m2:MD (.w .i64 (0-x.val)) ⟨4294967296,rfl⟩ (.w .i64 (n.val*4294967296))=⟨.w .i64 (-x.val*4294967296/(n.val*4294967296)),true⟩:=by
    unfold MD;rw [if_pos (by rw [ev];omega),ev,en];exact zfj (v:= -x.val*4294967296/(n.val*4294967296)) (by omega) (by omega)
   have o1:zJ x=true:=ok3 (by omega)
   have o2:zJ (.w .i64 (0-x.val))=true:=ok3 (by rw [en];omega)
   have o3:zJ (.w .i64 (n.val*4294967296))=true:=ok3 (by rw [ev];omega)
   have z0:((Rng.w .i64 (n.val*4294967296)).val==0)=false:=by rw [ev];simp;omega
   have z1:decide ((Rng.w .i64 (n.val*4294967296)).val<0)=false:=by rw [ev];simp;omega
   have d1:zO x (.w .i64 (n.val*4294967296))=⟨.w .i64 (x.val*4294967296/(n.val*4294967296)),true⟩:=by
    simp only [zO,zbO,Tr.get,o1,o3,z0,z1,Bool.not_true,cond_false,zeL,m1]
    rw [zpI (by rw [wi (by omega) (by omega)];omega)]
   have d2:zO (.w .i64 (0-x.val)) (.w .i64 (n.val*4294967296))=⟨.w .i64 (-x.val*4294967296/(n.val*4294967296)),true⟩:=by
    simp only [zO,zbO,Tr.get,o2,o3,z0,z1,Bool.not_true,cond_false,zeL,m2]
    rw [zpI (by rw [wi (by omega) (by omega)];omega)]
   have d3:z8 x (.w .i64 (n.val*4294967296))=⟨.w .i64 (0 - -x.val*4294967296/(n.val*4294967296)),true⟩:=by
    simp only [z8,zdK,Tr.get,o1,d2,Bool.not_true,cond_false]
    rw [wi (n:= -x.val*4294967296/(n.val*4294967296)) (by omega) (by omega)]
   refine ⟨_,_,d1,d3,?_,?_,?_⟩
   ·rw [wi (by omega) (by omega)];omega
   ·rw [wi (by omega) (by omega),wi (by omega) (by omega)];omega
   ·rw [wi (by omega) (by omega)];omega)
 rw [e];exact h
theorem zQv {a:Iv} (ha:In01 a):In01 (zG (zf ⟨1,rfl⟩) a):=by
 have h1:=ha
 unfold In01 at h1
 have e1:zf ⟨1,rfl⟩=⟨⟨4294967296,rfl⟩,⟨4294967296,rfl⟩⟩:=by rw [zjP (by decide)];rfl
 have o1:za ⟨⟨4294967296,rfl⟩,⟨4294967296,rfl⟩⟩=true:=(zaB _).2 (by decide)
 simp only [zG,zi6,Tr.get,e1,o1,ha.ok,Bool.not_true,cond_false]
 have k1:(Rng.w .i64 (4294967296-a.hi.val)).val=4294967296-a.hi.val:=wi (by omega) (by omega)
 have k2:(Rng.w .i64 (4294967296-a.lo.val)).val=4294967296-a.lo.val:=wi (by omega) (by omega)
 rw [zbq (by rw [k1,k2];omega)]
 unfold In01
 simp only [k1,k2]
 omega
theorem zKx {y s:Iv} {n:I64} (hy:In01 y) (hn:1<=n.val/\n.val<=1000000) (hs:In01 s):In01 (zG (zf ⟨1,rfl⟩) (zk (zo y (zf n)) s)):=
 zQv (zQK (zQ3 hy hn) hs)
theorem zNA:In01 (zf ⟨1,rfl⟩):=by
 have e1:zf ⟨1,rfl⟩=⟨⟨4294967296,rfl⟩,⟨4294967296,rfl⟩⟩:=by rw [zjP (by decide)];rfl
 rw [e1];unfold In01;decide
theorem zu7 {y:Iv} (hy:In01 y):In01 (zaT y ⟨0,rfl⟩):=by
 simp only [zaT,zdq,Tr.get]
 repeat' (first|exact zNA|refine zKx hy (by decide) ?_)
theorem zu6 {y:Iv} (hy:In01 y):In01 (zaT y ⟨-1,rfl⟩):=by
 simp only [zaT,zdq,Tr.get]
 repeat' (first|exact zNA|refine zKx hy (by decide) ?_)
theorem zAQ (y:Iv) (a b:I64) (h:a.val=b.val+2):zif y a=zaT y b:=by
 have h1:a.val+14=16+b.val:=by omega
 have h2:a.val+12=14+b.val:=by omega
 have h3:a.val+10=12+b.val:=by omega
 have h4:a.val+8=10+b.val:=by omega
 have h5:a.val+6=8+b.val:=by omega
 have h6:a.val+4=6+b.val:=by omega
 have h7:a.val+2=4+b.val:=by omega
 have h8:a.val+0=2+b.val:=by omega
 simp only [zif,zlR,zaT,zdq,Tr.get,sub_eq,zbP,zjm,zjQ,h1,h2,h3,h4,h5,h6,h7,h8]
theorem zuk (x:Iv):zal x zu=true↔(-4294967296<=x.lo.val/\x.lo.val<=x.hi.val/\x.hi.val<=4294967296):=by
 have o:za zu=true:=by decide +kernel
 have e1:zu.lo.val= -4294967296:=rfl
 have e2:zu.hi.val=4294967296:=rfl
 simp only [zal,zde,Tr.get,o,Bool.not_true,cond_false,e1,e2]
 cases h:za x
 ·have:=(okno x).1 h
  simp;omega
 ·have:=(zaB x).1 h
  simp only [cond_true]
  by_cases h1: -4294967296<=x.lo.val<;>by_cases h2:x.hi.val<=4294967296<;>simp [h1,h2]<;>omega
theorem zl5 {x:Iv} (h:za x=true):∃p q:I64,zK x=⟨p,q⟩/\0<=p.val/\p.val<=q.val/\(q.val<=x.hi.val\/q.val <= -x.lo.val):=by
 have hb:=(zaB x).1 h
 have e1:(Rng.w .i64 (0-x.lo.val)).val=0-x.lo.val:=wi (by omega) (by omega)
 have e2:(Rng.w .i64 (0-x.hi.val)).val=0-x.hi.val:=wi (by omega) (by omega)
 have m1:=zeB x.lo (.w .i64 (0-x.lo.val))
 have m2:=zeB x.hi (.w .i64 (0-x.hi.val))
 have m3:=zeB (zt x.lo (.w .i64 (0-x.lo.val))) (zt x.hi (.w .i64 (0-x.hi.val)))
 have m4:=zf7 (zt x.lo (.w .i64 (0-x.lo.val))) (zt x.hi (.w .i64 (0-x.hi.val)))
 rw [e1] at m1
 rw [e2] at m2
 simp only [zK,zen,Tr.get,zaO,zcc,zdp]
 by_cases h0:x.lo.val<=0/\0<=x.hi.val
 ·simp only [h0,and_self,decide_true,cond_true]
  exact ⟨_,_,rfl,by simp,by simp only;omega,by omega⟩
 ·simp only [h0,decide_false,cond_false]
  exact ⟨_,_,rfl,by omega,by omega,by omega⟩
theorem zNf {x:Iv} (h:zal x zu=true):In01 (zay x):=by
 have hb:=(zuk x).1 h
 have ho:za x=true:=(zaB x).2 (by omega)
 obtain ⟨p,q,e,h1,h2,h3⟩:=zl5 ho
 obtain ⟨d1,u1,a1,a2,a3,a4,a5⟩:=zEs (x:=p) (y:=p) (by omega) (by omega)
 obtain ⟨d2,u2,b1,b2,b3,b4,b5⟩:=zEs (x:=q) (y:=q) (by omega) (by omega)
 have hpq:p.val*p.val<=q.val*q.val:=Int.mul_le_mul h2 h2 h1 (by omega)
 have hqq:q.val*q.val<=4294967296*4294967296:=Int.mul_le_mul (by omega) (by omega) (by omega) (by decide)
 have hpp:=Int.mul_nonneg h1 h1
 have c1:=zhv (a:=p) (b:=p) (ok3 (by omega)) (ok3 (by omega)) (by omega)
 have c2:=zhv (a:=q) (b:=q) (ok3 (by omega)) (ok3 (by omega)) (by omega)
 rw [c1] at a1;cases a1
 rw [c2] at b1;cases b1
 rw [wi (by omega) (by omega)] at a3
 rw [wi (by omega) (by omega)] at b4
 rw [if_pos h1] at a3
 simp only [zay,zkq,Tr.get,ho,e,c1,b2,Bool.not_true,cond_false]
 have hw:(Rng.w .i64 (p.val*p.val/4294967296)).val=p.val*p.val/4294967296:=wi (by omega) (by omega)
 rw [zbq (by rw [hw];omega)]
 unfold In01
 simp only [hw]
 omega
def Near (a:Iv):Prop:=za a=false\/(a.lo.val<=4294967296 /\ -4294967296<=a.hi.val)
theorem Near.neg {a:Iv} (h:Near a):Near (zaK a):=by
 cases ho:za a
 ·exact .inl (by rw [zp5,ho])
 ·rcases h with h|h
  ·rw [ho] at h;cases h
  ·have:=(zaB a).1 ho
   rw [zjj ho]
   refine .inr ?_
   simp only
   rw [wi (by omega) (by omega),wi (by omega) (by omega)]
   omega
theorem Near.meet {a:Iv} (h:Near a):zcT a=zav a:=by
 have o:za zu=true:=by decide +kernel
 have e1:zu.lo.val= -4294967296:=rfl
 have e2:zu.hi.val=4294967296:=rfl
 have hb:(zZ a zu).b=true:=by
  simp only [zZ,zbJ,Tr.get,o,Bool.not_true,cond_false]
  rcases h with h|h
  ·simp only [h,Bool.not_false,cond_true]
  ·cases ho:za a
   ·simp only [Bool.not_false,cond_true]
   ·have:=(zaB a).1 ho
    have m1:=zeB a.lo zu.lo
    have m2:=zf7 a.hi zu.hi
    rw [e1] at m1
    rw [e2] at m2
    have hd:decide ((zt a.lo zu.lo).val>(zC a.hi zu.hi).val)=false:=by simp;omega
    simp only [Bool.not_true,cond_false,hd]
 simp only [zcT,zlT,zav,zgJ,Tr.get,zsP,zpr,hb,Bool.not_true,cond_false]
theorem zx4:Near zh:= .inl zbD
theorem zBt {lo hi:I64} (h: -4294967296<=lo.val/\lo.val<=hi.val/\hi.val<=4294967296):Near (zq ⟨lo,hi⟩ zbA):=by
 have o:za zbA=true:=by decide +kernel
 have o2:za ⟨lo,hi⟩=true:=(zaB _).2 (by simp only;omega)
 have e1:zbA.lo.val= -1:=rfl
 have e2:zbA.hi.val=1:=rfl
 simp only [zq,zd3,Tr.get,o,o2,Bool.not_true,cond_false,e1,e2]
 have k1:(Rng.w .i64 (lo.val + -1)).val=lo.val + -1:=wi (by omega) (by omega)
 have k2:(Rng.w .i64 (hi.val+1)).val=hi.val+1:=wi (by omega) (by omega)
 rw [zbq (by rw [k1,k2];omega)]
 refine .inr ?_
 simp only [k1,k2]
 omega
theorem zEg (x:Iv):Near (zaH x):=by
 simp only [zaH,zeX,Tr.get,zbU]
 cases h:zal x zu
 ·exact zx4
 ·simp only [Bool.not_true,cond_false]
  obtain ⟨lo,hi,e,k⟩:=zL3 ((zuk x).1 h) (zu7 (zNf h))
  rw [e];exact zBt k
theorem zEh (x:Iv):Near (zaM x):=by
 simp only [zaM,zeY,Tr.get,zbU]
 cases h:zal x zu
 ·exact zx4
 ·simp only [Bool.not_true,cond_false]
  have:=zu6 (zNf h)
  unfold In01 at this
  exact zBt (lo:=(zaT (zay x) ⟨-1,rfl⟩).lo) (hi:=(zaT (zay x) ⟨-1,rfl⟩).hi) (by omega)
theorem zNk (x:Iv):ze7 x=zaH x:=by
 simp only [ze7,ziV,zaH,zeX,Tr.get,zvU,zpr,zCu,za1,zbU,add_eq,zjm,zpn,zAQ _ ⟨2,rfl⟩ ⟨0,rfl⟩ rfl]
theorem zOc (x:Iv):ze8 x=zaM x:=by
 simp only [ze8,ziX,zaM,zeY,Tr.get,zvU,zpr,zCu,za1,zbU,add_eq,zpn,zAQ _ ⟨1,rfl⟩ ⟨-1,rfl⟩ rfl]
theorem zJd (hi:I64) (lo:U64) (V:Int) (hV:V=hi.val*18446744073709551616+lo.val) (h0:0<=hi.val):∀(k m:Nat) (r:U64) (i:I64),k<=64->i.val=(k:Int)-1->(∃r1:Nat,r.val=2^k*(r1:Int))->r.val*r.val<=V->V<(r.val+2^k)*(r.val+2^k)->r.val+2^k<=18446744073709551616->
  ∃q:U64,(Lf zcO (k+1+m) ⟨r,i,hi,lo⟩).opt=some ⟨q,.w .i64 (-1),hi,lo⟩/\q.val*q.val<=V/\V<(q.val+1)*(q.val+1):=by
 intro k
 induction k with
 | zero=>
  intro m r i _ hi' _ h1 h2 _
  have h0:decide (i.val>=0)=false:=by simp;omega
  have e:i= .w .i64 (-1):=rext (by rw [wi (by omega) (by omega)];omega)
  refine ⟨r,?_,h1,by simpa using h2⟩
  simp only [Lf,zcO,h0,Tr.bind,Tr.opt,cond_false,Nat.zero_add,Nat.add_comm 1 m,<- e]
 | succ k ih=>
  intro m r i hk hi' ⟨r1,hr1⟩ h1 h2 h3
  have hge:decide (i.val>=0)=true:=by simp;omega
  have en:(Rng.w .u64 i.val).val=i.val:=wu (by omega) (by omega)
  have e1:(Rng.w .i64 (i.val-1)).val=(k:Int)-1:=by rw [wi (by omega) (by omega)];omega
  have hfuel:k+1+1+m=(k+1+m)+1:=by omega
  have hp2:(2:Int)^(k+1)=2^k*2:=Int.pow_succ ..
  have hpos:(0:Int)<2^k:=Int.pow_pos (by decide)
  have hmin:min i.val.toNat 64=k:=by omega
  have hrb:=r.ubd
  have hbit:(Rng.w .u64 (1*(2^min i.val.toNat 64))).val=2^k:=by rw [hmin,Int.one_mul];exact wu (by omega) (by omega)
  have hor:zbI .or .u64 r.val (2^k)=r.val+2^k:=zx1 (k+1) r1 hr1 (by omega) (by omega) (by omega)
  have hc:(Rng.w .u64 (zbI .or .u64 r.val (Rng.w .u64 (1*(2^min i.val.toNat 64))).val)).val=r.val+2^k:=by rw [hbit,hor];exact wu (by omega) (by omega)
  generalize hcc:Rng.w .u64 (zbI .or .u64 r.val (Rng.w .u64 (1*(2^min i.val.toNat 64))).val)=c at hc
  have hbc:=c.ubd
  have hmb:=zsH c.val c.val hbc.1 hbc.2 hbc.1 hbc.2
  have hnn:0<=c.val*c.val:=Int.mul_nonneg hbc.1 hbc.1
  have hle:c.val*c.val<=18446744073709551615*18446744073709551615:=Int.mul_le_mul hbc.2 hbc.2 hbc.1 (by decide)
  have wa:(Rng.w .u64 (c.val*c.val/18446744073709551616)).val=c.val*c.val/18446744073709551616:=wu (by omega) (by omega)
  have wb:(Rng.w .u64 (c.val*c.val)).val=c.val*c.val%18446744073709551616:=zbC _
  have bh:=hi.bd
  have bl:=lo.ubd
  have wh:(Rng.w .u64 hi.val).val=hi.val:=wu h0 (by omega)
  have hsq:(r.val+2^(k+1))*(r.val+2^(k+1))=(c.val+2^k)*(c.val+2^k):=by rw [hc,hp2];congr 1<;>omega
  rw [hfuel]
  by_cases hcv:c.val*c.val<=V
  ·obtain ⟨q,a1,a2,a3⟩:=ih m c (.w .i64 (i.val-1)) (by omega) e1 ⟨2*r1+1,by rw [hc,hr1,hp2,Int.mul_assoc];simp only [Int.natCast_add,Int.natCast_mul];rw [Int.mul_add];simp⟩ hcv (by rw [<- hsq];exact h2) (by rw [hc];omega)
   refine ⟨q,?_,a2,a3⟩
   simp only [Lf,zcO,hge,en,hcc,zp1,wa,wb,wh,Tr.bind,Tr.opt,cond_true]
   by_cases k1:c.val*c.val/18446744073709551616<hi.val
   ·simp only [k1,decide_true,cond_true];exact a1
   ·have k2:c.val*c.val/18446744073709551616=hi.val:=by omega
    have k3:c.val*c.val%18446744073709551616<=lo.val:=by omega
    simp only [k2,Int.lt_irrefl,k3,decide_true,decide_false,cond_true,cond_false,beq_self_eq_true];exact a1
  ·obtain ⟨q,a1,a2,a3⟩:=ih m r (.w .i64 (i.val-1)) (by omega) e1 ⟨2*r1,by rw [hr1,hp2,Int.mul_assoc];simp⟩ h1 (by rw [<- hc];omega) (by omega)
   refine ⟨q,?_,a2,a3⟩
   simp only [Lf,zcO,hge,en,hcc,zp1,wa,wb,wh,Tr.bind,Tr.opt,cond_true]
   have k1:¬c.val*c.val/18446744073709551616<hi.val:=by omega
   by_cases k2:c.val*c.val/18446744073709551616=hi.val
   ·have k3:¬c.val*c.val%18446744073709551616<=lo.val:=by omega
    simp only [k2,Int.lt_irrefl,k3,decide_false,cond_true,cond_false,beq_self_eq_true];exact a1
   ·have k4:(c.val*c.val/18446744073709551616==hi.val)=false:=by simpa using k2
    simp only [k1,k4,decide_false,cond_false];exact a1
theorem zJc (w:Wide) (h:0<=w.hi.val):0<=(zbH w).val/\(zbH w).val*(zbH w).val<=wv w/\wv w<((zbH w).val+1)*((zbH w).val+1):=by
 have bh:=w.hi.bd
 have bl:=w.lo.ubd
 obtain ⟨q,h1,h2,h3⟩:=zJd w.hi w.lo (wv w) rfl h 64 1 ⟨0,rfl⟩ ⟨63,rfl⟩ (by omega) (by rfl) ⟨0,by simp⟩ (by simp only [wv];omega) (by simp only [wv];omega) (by decide)
 have hf:(64+1+1:Nat)=66:=rfl
 rw [hf] at h1
 have g1:zgC ⟨⟨0,rfl⟩,⟨63,rfl⟩,w.hi,w.lo⟩=true:=by unfold zgC;rw [h1];rfl
 have l1:zlD ⟨⟨0,rfl⟩,⟨63,rfl⟩,w.hi,w.lo⟩=_:=Tr.zai h1
 have k1:(zfp w).opt=some q:=by simp only [zfp,Tr.opt,g1,l1,cond_true]
 have k2:zbH w=q:=Tr.zai k1
 rw [k2]
 exact ⟨q.ubd.1,h2,h3⟩
theorem znV {a b:Int} (ha:0<=a) (hb:0<=b) (h:a*a<=b*b):a<=b:=by
 by_cases hab:a<=b
 ·exact hab
 ·have:(b+1)*(b+1)<=a*a:=Int.mul_le_mul (by omega) (by omega) (by omega) ha
  have:(b+1)*(b+1)=b*b+2*b+1:=by rw [Int.add_mul,Int.mul_add,Int.one_mul,Int.mul_one];omega
  omega
theorem zIS (w:Wide) (h:0<=w.hi.val):zj9 w=⟨zbH w,true⟩:=by
 have e:zj9 w=_:=Tr.zai (zCx w).2
 rw [e,show decide (w.hi.val<0)=false by simp;omega];rfl
theorem zDZ (a b:I64) (ha:0<=a.val) (hb:0<=b.val):∃q:I64,zgF a b=⟨q,true⟩/\zd6 a b=⟨q,true⟩/\0<=q.val/\q.val*q.val<=a.val*b.val/\a.val*b.val<(q.val+1)*(q.val+1):=by
 have hm:=zgA a.bd b.bd
 have hnn:=Int.mul_nonneg ha hb
 have d1:decide (a.val<0)=false:=by simp;omega
 have d2:decide (b.val<0)=false:=by simp;omega
 have hwv:=zmj (v:=a.val*b.val) (by omega) (by omega)
 have hhi:0<=(mkW (a.val*b.val)).hi.val:=by simp only [mkW];rw [wi (by omega) (by omega)];omega
 obtain ⟨r0,r1,r2⟩:=zJc (mkW (a.val*b.val)) hhi
 rw [hwv] at r1 r2
 have hr:(zbH (mkW (a.val*b.val))).val<=9223372036854775807:=by
  refine znV r0 (by decide) ?_
  have:=Int.mul_le_mul a.bd.2 b.bd.2 hb (by decide)
  omega
 have hw:(Rng.w .i64 (zbH (mkW (a.val*b.val))).val).val=(zbH (mkW (a.val*b.val))).val:=wi (by omega) hr
 refine ⟨.w .i64 (zbH (mkW (a.val*b.val))).val,?_,?_,by rw [hw];exact r0,by rw [hw];exact r1,by rw [hw];exact r2⟩
 ·simp only [zgF,zgu,Tr.get,d1,d2,zrL,zKC,cond_false,cond_true]
 ·simp only [zd6,zeZ,Tr.get,d1,d2,zl3,zGa,zIS _ hhi,cond_false,cond_true]
theorem zGD (a:I64) (ha:0<=a.val/\a.val<=1152921504606846976):∃q:I64,zdj a=⟨q,true⟩/\zf1 a=⟨q,true⟩/\0<=q.val/\q.val<=70368744177664/\q.val*q.val<=a.val*4294967296/\a.val*4294967296<(q.val+1)*(q.val+1):=by
 obtain ⟨q,h1,h2,h3,h4,h5⟩:=zDZ a ⟨4294967296,rfl⟩ ha.1 (by decide)
 have hq:q.val<=70368744177664:=znV h3 (by decide) (by simp only at h4;omega)
 have i1:zaf a ⟨0,rfl⟩ ⟨1152921504606846976,rfl⟩=true:=by rw [zdp];simpa using ha
 have o1:zJ a=true:=ok3 (by omega)
 refine ⟨q,?_,?_,h3,hq,h4,h5⟩
 ·simp only [zdj,zfa,Tr.get,i1,zu4,h1,Bool.not_true,cond_false,cond_true]
 ·simp only [zf1,zfN,Tr.get,znp,o1,zu5,h2,Bool.not_true,cond_false,cond_true,ztw]
  rw [zpI (by omega)]
theorem zyn (x:I64):(Rng.w .i64 (zbI .and .i64 x.val 4294967295)).val=x.val%4294967296:=by
 have bx:=x.bd
 have e2:(BitVec.ofInt 64 x.val &&& BitVec.ofInt 64 4294967295).toNat=(BitVec.ofInt 64 x.val).toNat%4294967296:=by
  rw [BitVec.toNat_and,show (BitVec.ofInt 64 4294967295).toNat=2^32-1 by decide,Nat.and_two_pow_sub_one_eq_mod]
 have e3:((BitVec.ofInt 64 x.val).toNat:Int)=x.val%18446744073709551616:=by
  rw [BitVec.toNat_ofInt];simp;omega
 have e:zbI .and .i64 x.val 4294967295=x.val%4294967296:=by
  show ((BitVec.ofInt 64 x.val &&& BitVec.ofInt 64 4294967295).toNat:Int)=_
  rw [e2,Int.natCast_emod,e3];omega
 rw [e]
 exact wi (by omega) (by omega)
theorem zNc (a:I64) (ha:0<=a.val/\a.val<=1152921504606846976):∃q:I64,zcP a=⟨q,true⟩/\zik a=⟨q,true⟩:=by
 obtain ⟨q,h1,h2,h3,h4,h5,h6⟩:=zGD a ha
 have e1:(Rng.w .i64 (q.val+1)).val=q.val+1:=wi (by omega) (by omega)
 have hqq:=Int.mul_nonneg h3 h3
 have hmf:zaE q q ⟨32,rfl⟩=⟨.w .i64 (q.val*q.val/4294967296),true⟩:=by rw [mf32];exact zfj (by omega) (by omega)
 have hmv:(Rng.w .i64 (q.val*q.val/4294967296)).val=q.val*q.val/4294967296:=wi (by omega) (by omega)
 have hmask:(Rng.w .i64 (zbI .and .i64 (Rng.w .i64 (q.val*q.val)).val 4294967295)).val=q.val*q.val%4294967296:=by rw [zyn,zg0];omega
 have hb1: -170141183460469231731687303715884105728<=q.val*q.val/\q.val*q.val<170141183460469231731687303715884105728:=by omega
 have hb2: -170141183460469231731687303715884105728<=a.val*4294967296/\a.val*4294967296<170141183460469231731687303715884105728:=by omega
 by_cases hx:q.val*q.val=a.val*4294967296
 ·refine ⟨q,?_,?_⟩
  ·have k1:(q.val*q.val/4294967296 != a.val)=false:=by simp;omega
   have k2:(q.val*q.val%4294967296 != 0)=false:=by simp;omega
   simp only [zcP,zdr,Tr.get,zmw,h1,hmf,hmv,hmask,k1,k2,Bool.not_true,cond_false,cond_true]
  ·simp only [zik,zgi,Tr.get,zpq,h2,zl3,hx,beq_self_eq_true,Bool.and_self,Bool.not_true,cond_false,cond_true,ztw]
   rw [zpI (by omega)]
 ·refine ⟨.w .i64 (q.val+1),?_,?_⟩
  ·simp only [zcP,zdr,Tr.get,zmw,h1,hmf,hmv,hmask,Bool.not_true,cond_false,cond_true]
   by_cases k1:q.val*q.val/4294967296=a.val
   ·have k2:(q.val*q.val%4294967296 != 0)=true:=by simp;omega
    have k3:(q.val*q.val/4294967296 != a.val)=false:=by simp [k1]
    simp only [k2,k3,cond_true,cond_false]
   ·have k3:(q.val*q.val/4294967296 != a.val)=true:=by simp [k1]
    simp only [k3,cond_true]
  ·have hne:((mkW (q.val*q.val)).hi.val==(mkW (a.val*4294967296)).hi.val&&((mkW (q.val*q.val)).lo.val==(mkW (a.val*4294967296)).lo.val&&true))=false:=by
    rw [Bool.eq_false_iff]
    intro h
    simp only [Bool.and_true,Bool.and_eq_true,beq_iff_eq] at h
    have:wv (mkW (q.val*q.val))=wv (mkW (a.val*4294967296)):=by simp only [wv,h.1,h.2]
    rw [zmj hb1.1 hb1.2,zmj hb2.1 hb2.2] at this
    exact hx this
   simp only [zik,zgi,Tr.get,zpq,h2,zl3,hne,Bool.not_false,cond_false,cond_true,ztw]
   rw [zpI (by rw [e1];omega)]
theorem zp2 (a:Iv):zev a=zaD a:=by
 simp only [zev,zlf,zaD,zld,Tr.get,ziH,za1,zc2,zpq,zmw,zAK,zAJ,cond_true]
 cases h:za a
 ·rfl
 have hb:=(zaB a).1 h
 by_cases h0:a.lo.val<0
 ·simp only [h0,decide_true,cond_true,Bool.not_true,cond_false]
 ·obtain ⟨q,e1,e2,_⟩:=zGD a.lo (by omega)
  obtain ⟨p,e3,e4⟩:=zNc a.hi (by omega)
  simp only [h0,decide_false,cond_false,Bool.not_true,e1,e2,e3,e4,cond_true]
end Go.Proofs.YtaoakfodkoifoaaGreat.Ev
