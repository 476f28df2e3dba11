/- The law FnCylinders gives true, whatever bytes come in, where the listed tables hold what the program's text lays. The card: the tables tied to the text. No other conditions. (One of the texts of its proof, put together by a program of this session.) -/
import Derived.Test.YtkenfaengphiiaaGreatDoorZW2
set_option linter.unusedSectionVars false
set_option linter.unusedSimpArgs false
set_option linter.unusedVariables false
namespace Go.Proofs.YtkenfaengphiiaaGreatDoor.Ev
open Go
theorem zia (a b:I64):(zC a b).val<=a.val/\(zC a b).val<=b.val/\((zC a b).val=a.val\/(zC a b).val=b.val):=by
 rw [<- min_eq,zGa];split<;>omega
theorem zgM (a b:I64):a.val<=(zA a b).val/\b.val<=(zA a b).val/\((zA a b).val=a.val\/(zA a b).val=b.val):=by
 rw [<- max_eq,zF9];split<;>omega
theorem zyS {a b:Iv} {L H:Int} (ha:ze a=true) (hb:ze b=true) (hL: -1152921504606846976<L) (hH:H<1152921504606846976)
  (h:∀x y:I64,(x=a.lo\/x=a.hi)->(y=b.lo\/y=b.hi)->∃d u,zT x y=⟨d,true⟩/\zaf x y=⟨u,true⟩/\L<=d.val/\d.val<=u.val/\u.val<=H):
  ∃lo hi,zz a b=⟨lo,hi⟩/\L<=lo.val/\lo.val<=hi.val/\hi.val<=H:=by
 obtain ⟨d1,u1,e1,f1,g1⟩:=h a.lo b.lo (.inl rfl) (.inl rfl)
 obtain ⟨d2,u2,e2,f2,g2⟩:=h a.lo b.hi (.inl rfl) (.inr rfl)
 obtain ⟨d3,u3,e3,f3,g3⟩:=h a.hi b.lo (.inr rfl) (.inl rfl)
 obtain ⟨d4,u4,e4,f4,g4⟩:=h a.hi b.hi (.inr rfl) (.inr rfl)
 simp only [zz,zid,Tr.get,ha,hb,e1,e2,e3,e4,f1,f2,f3,f4,Bool.not_true,cond_false]
 have m1:=zia ⟨1152921504606846976,rfl⟩ d1
 have m2:=zia (zC ⟨1152921504606846976,rfl⟩ d1) d2
 have m3:=zia (zC (zC ⟨1152921504606846976,rfl⟩ d1) d2) d3
 have m4:=zia (zC (zC (zC ⟨1152921504606846976,rfl⟩ d1) d2) d3) d4
 have n1:=zgM ⟨-1152921504606846976,rfl⟩ u1
 have n2:=zgM (zA ⟨-1152921504606846976,rfl⟩ u1) u2
 have n3:=zgM (zA (zA ⟨-1152921504606846976,rfl⟩ u1) u2) u3
 have n4:=zgM (zA (zA (zA ⟨-1152921504606846976,rfl⟩ u1) u2) u3) u4
 simp only at m1 n1
 refine ⟨_,_,zb3 ?_,?_,?_,?_⟩<;>omega
theorem zDI {a b:Iv} {L H:Int} (ha:ze a=true) (hb:ze b=true) (hz:zbr b ⟨0,rfl⟩=false) (hL: -1152921504606846976<L) (hH:H<1152921504606846976)
  (h:∀x y:I64,(x=a.lo\/x=a.hi)->(y=b.lo\/y=b.hi)->∃d u,zM x y=⟨d,true⟩/\zY x y=⟨u,true⟩/\L<=d.val/\d.val<=u.val/\u.val<=H):
  ∃lo hi,zO a b=⟨lo,hi⟩/\L<=lo.val/\lo.val<=hi.val/\hi.val<=H:=by
 obtain ⟨d1,u1,e1,f1,g1⟩:=h a.lo b.lo (.inl rfl) (.inl rfl)
 obtain ⟨d2,u2,e2,f2,g2⟩:=h a.lo b.hi (.inl rfl) (.inr rfl)
 obtain ⟨d3,u3,e3,f3,g3⟩:=h a.hi b.lo (.inr rfl) (.inl rfl)
 obtain ⟨d4,u4,e4,f4,g4⟩:=h a.hi b.hi (.inr rfl) (.inr rfl)
 simp only [zO,zie,Tr.get,ha,hb,hz,e1,e2,e3,e4,f1,f2,f3,f4,Bool.not_true,cond_false]
 have m1:=zia ⟨1152921504606846976,rfl⟩ d1
 have m2:=zia (zC ⟨1152921504606846976,rfl⟩ d1) d2
 have m3:=zia (zC (zC ⟨1152921504606846976,rfl⟩ d1) d2) d3
 have m4:=zia (zC (zC (zC ⟨1152921504606846976,rfl⟩ d1) d2) d3) d4
 have n1:=zgM ⟨-1152921504606846976,rfl⟩ u1
 have n2:=zgM (zA ⟨-1152921504606846976,rfl⟩ u1) u2
 have n3:=zgM (zA (zA ⟨-1152921504606846976,rfl⟩ u1) u2) u3
 have n4:=zgM (zA (zA (zA ⟨-1152921504606846976,rfl⟩ u1) u2) u3) u4
 simp only at m1 n1
 refine ⟨_,_,zb3 ?_,?_,?_,?_⟩<;>omega
theorem ok3 {n:I64} (h: -1152921504606846976<=n.val/\n.val<=1152921504606846976):zG n=true:=by
 simp only [zG,zd6,Tr.get,zcO];simpa using h
theorem zp6 {n:I64} (h: -1152921504606846976<=n.val/\n.val<=1152921504606846976):zaB n true=⟨n,true⟩:=by
 simp only [zaB,zcy,Tr.get,ok3 h,Bool.not_true,cond_false]
theorem zj2 {a b:I64} (ha:zG a=true) (hb:zG b=true) (h: -1152921504606846976<=a.val*b.val/4294967296/\a.val*b.val/4294967296<=1152921504606846976):
  zT a b=⟨.w .i64 (a.val*b.val/4294967296),true⟩:=by
 have e:zaz a b ⟨32,rfl⟩=⟨.w .i64 (a.val*b.val/4294967296),true⟩:=by rw [mf32];exact zfd (by omega) (by omega)
 simp only [zT,zcq,Tr.get,ha,hb,Bool.not_true,cond_false,e]
 rw [zp6 (by rw [wi (by omega) (by omega)];exact h)]
theorem zxj {a b:I64} (ha:zG a=true) (hb:zG b=true) (h: -1152921504606846976 <= -(a.val*b.val)/4294967296 /\ -(a.val*b.val)/4294967296<=1152921504606846976):
  zaf a b=⟨.w .i64 (0 - -(a.val*b.val)/4294967296),true⟩:=by
 have hbd:=zno ha
 have en:(Rng.w .i64 (0-a.val)).val=0-a.val:=wi (by omega) (by omega)
 have ep:(Rng.w .i64 (0-a.val)).val*b.val= -(a.val*b.val):=by rw [en,Int.zero_sub,Int.neg_mul]
 have e:=zj2 (zCz ha) hb (by rw [ep];exact h)
 rw [ep] at e
 simp only [zaf,zdI,Tr.get,ha,e,Bool.not_true,cond_false]
 rw [wi (n:= -(a.val*b.val)/4294967296) (by omega) (by omega)]
theorem zAf {x y:I64} (hx: -4294967296<=x.val/\x.val<=4294967296) (hy:0<=y.val/\y.val<=4294967296):
  ∃d u,zT x y=⟨d,true⟩/\zaf x y=⟨u,true⟩/\(if 0<=x.val then 0 else -4294967296)<=d.val/\d.val<=u.val/\u.val<=4294967296:=by
 have h1:x.val*y.val<=4294967296*4294967296:=by
  by_cases h:0<=x.val
  ·exact Int.mul_le_mul hx.2 hy.2 hy.1 (by decide)
  ·have:=Int.mul_nonneg (show 0 <= -x.val by omega) hy.1
   rw [Int.neg_mul] at this;omega
 have h2: -(4294967296*4294967296)<=x.val*y.val:=by
  by_cases h:0<=x.val
  ·have:=Int.mul_nonneg h hy.1;omega
  ·have:=Int.mul_le_mul (a:= -x.val) (b:=y.val) (c:=4294967296) (d:=4294967296) (by omega) hy.2 hy.1 (by decide)
   rw [Int.neg_mul] at this;omega
 have h3:0<=x.val->0<=x.val*y.val:=fun h=>Int.mul_nonneg h hy.1
 have e1:=zj2 (a:=x) (b:=y) (ok3 (by omega)) (ok3 (by omega)) (by omega)
 have e2:=zxj (a:=x) (b:=y) (ok3 (by omega)) (ok3 (by omega)) (by omega)
 refine ⟨_,_,e1,e2,?_,?_,?_⟩
 ·rw [wi (by omega) (by omega)]
  split
  ·rename_i h;have:=h3 h;omega
  ·omega
 ·rw [wi (by omega) (by omega),wi (by omega) (by omega)];omega
 ·rw [wi (by omega) (by omega)];omega
def In01 (a:Iv):Prop:=0<=a.lo.val/\a.lo.val<=a.hi.val/\a.hi.val<=4294967296
theorem In01.ok {a:Iv} (h:In01 a):ze a=true:=(zbC a).2 (by unfold In01 at h;omega)
theorem zK6 {a b:Iv} (ha:In01 a) (hb:In01 b):In01 (zz a b):=by
 have h1:=ha;have h2:=hb
 unfold In01 at h1 h2
 obtain ⟨lo,hi,e,h⟩:=zyS (L:=0) (H:=4294967296) ha.ok hb.ok (by decide) (by decide) (fun x y hx hy=>by
  obtain ⟨d,u,k1,k2,k3,k4,k5⟩:=zAf (x:=x) (y:=y) (by rcases hx with rfl|rfl<;>omega) (by rcases hy with rfl|rfl<;>omega)
  rw [if_pos (by rcases hx with rfl|rfl<;>omega)] at k3
  exact ⟨d,u,k1,k2,k3,k4,k5⟩)
 rw [e];exact h
theorem zHj {a b:Iv} (ha: -4294967296<=a.lo.val/\a.lo.val<=a.hi.val/\a.hi.val<=4294967296) (hb:In01 b):
  ∃lo hi,zz a b=⟨lo,hi⟩ /\ -4294967296<=lo.val/\lo.val<=hi.val/\hi.val<=4294967296:=by
 have h2:=hb
 unfold In01 at h2
 refine zyS ((zbC a).2 (by omega)) hb.ok (by decide) (by decide) (fun x y hx hy=>?_)
 obtain ⟨d,u,k1,k2,k3,k4,k5⟩:=zAf (x:=x) (y:=y) (by rcases hx with rfl|rfl<;>omega) (by rcases hy with rfl|rfl<;>omega)
 exact ⟨d,u,k1,k2,by split at k3<;>omega,k4,k5⟩
theorem zmR {n:I64} (h: -268435455<=n.val/\n.val<=268435455):zy n=⟨.w .i64 (n.val*4294967296),.w .i64 (n.val*4294967296)⟩:=by
 simp only [zy,zgH,Tr.get,zcO]
 rw [show decide (-268435455<=n.val/\n.val<=268435455)=true by simpa using h]
 simp only [Bool.not_true,cond_false]
 refine zb3 ?_
 rw [wi (by omega) (by omega)];omega
theorem zKZ {x m:Int} (hx:0<=x/\x<=4294967296) (hm:1<=m):0<=x*4294967296/(m*4294967296)/\x*4294967296/(m*4294967296)<=4294967296 /\ -4294967296 <= -x*4294967296/(m*4294967296) /\ -x*4294967296/(m*4294967296)<=0 /\
  x*4294967296/(m*4294967296) <= -(-x*4294967296/(m*4294967296)):=by
 rw [Int.mul_ediv_mul_of_pos_left _ _ (by decide),Int.mul_ediv_mul_of_pos_left _ _ (by decide)]
 have h1:=Int.ediv_nonneg hx.1 (show 0<=m by omega)
 have h2:=Int.ediv_le_self m hx.1
 have h3:=zlX (M:=4294967296) (N:= -x) (d:=m) (by omega) (by omega) (by omega)
 have h4: -x/m <= -(x/m):=by
  have e1:=Int.mul_ediv_add_emod x m
  have e2:=Int.emod_nonneg x (show m≠0 by omega)
  refine Int.le_of_sub_nonneg ?_
  have: -x/m <= -(x/m):=by
   have hh: -x<=m * -(x/m):=by rw [Int.mul_neg];omega
   calc -x/m<=(m * -(x/m))/m:=Int.ediv_le_ediv (by omega) hh
    _= -(x/m):=Int.mul_ediv_cancel_left _ (by omega)
  omega
 omega
theorem zLg {y:Iv} {n:I64} (hy:In01 y) (hn:1<=n.val/\n.val<=1000000):In01 (zO y (zy n)):=by
 have h1:=hy
 unfold In01 at h1
 rw [zmR (by omega)]
 have ev:(Rng.w .i64 (n.val*4294967296)).val=n.val*4294967296:=wi (by omega) (by omega)
 obtain ⟨lo,hi,e,h⟩:=zDI (a:=y) (b:=⟨.w .i64 (n.val*4294967296),.w .i64 (n.val*4294967296)⟩) (L:=0) (H:=4294967296) hy.ok ((zbC _).2 (by simp only [ev];omega))
  (by simp only [zbr,zeZ,Tr.get,zcO,ev];simp;omega) (by decide) (by decide) (fun x z hx hz=>by
   have hz':z= .w .i64 (n.val*4294967296):=by rcases hz with h|h<;>exact h
   subst hz'
   have hx1:0<=x.val/\x.val<=4294967296:=by rcases hx with rfl|rfl<;>omega
   obtain ⟨q1,q2,q3,q4,q5⟩:=zKZ hx1 hn.1
   have en:(Rng.w .i64 (0-x.val)).val= -x.val:=by rw [wi (by omega) (by omega)];omega
   have m1:MD x ⟨4294967296,rfl⟩ (.w .i64 (n.val*4294967296))=⟨.w .i64 (x.val*4294967296/(n.val*4294967296)),true⟩:=by
    unfold MD;rw [if_pos (by rw [ev];omega),ev];exact zfd (v:=x.val*4294967296/(n.val*4294967296)) (by omega) (by omega)
   have m2:MD (.w .i64 (0-x.val)) ⟨4294967296,rfl⟩ (.w .i64 (n.val*4294967296))=⟨.w .i64 (-x.val*4294967296/(n.val*4294967296)),true⟩:=by
    unfold MD;rw [if_pos (by rw [ev];omega),ev,en];exact zfd (v:= -x.val*4294967296/(n.val*4294967296)) (by omega) (by omega)
   have o1:zG x=true:=ok3 (by omega)
   have o2:zG (.w .i64 (0-x.val))=true:=ok3 (by rw [en];omega)
   have o3:zG (.w .i64 (n.val*4294967296))=true:=ok3 (by rw [ev];omega)
   have z0:((Rng.w .i64 (n.val*4294967296)).val==0)=false:=by rw [ev];simp;omega
   have z1:decide ((Rng.w .i64 (n.val*4294967296)).val<0)=false:=by rw [ev];simp;omega
   have d1:zM x (.w .i64 (n.val*4294967296))=⟨.w .i64 (x.val*4294967296/(n.val*4294967296)),true⟩:=by
    simp only [zM,zbF,Tr.get,o1,o3,z0,z1,Bool.not_true,cond_false,zd9,m1]
    rw [zp6 (by rw [wi (by omega) (by omega)];omega)]
   have d2:zM (.w .i64 (0-x.val)) (.w .i64 (n.val*4294967296))=⟨.w .i64 (-x.val*4294967296/(n.val*4294967296)),true⟩:=by
    simp only [zM,zbF,Tr.get,o2,o3,z0,z1,Bool.not_true,cond_false,zd9,m2]
    rw [zp6 (by rw [wi (by omega) (by omega)];omega)]
   have d3:zY x (.w .i64 (n.val*4294967296))=⟨.w .i64 (0 - -x.val*4294967296/(n.val*4294967296)),true⟩:=by
    simp only [zY,zdJ,Tr.get,o1,d2,Bool.not_true,cond_false]
    rw [wi (n:= -x.val*4294967296/(n.val*4294967296)) (by omega) (by omega)]
   refine ⟨_,_,d1,d3,?_,?_,?_⟩
   ·rw [wi (by omega) (by omega)];omega
   ·rw [wi (by omega) (by omega),wi (by omega) (by omega)];omega
   ·rw [wi (by omega) (by omega)];omega)
 rw [e];exact h
theorem zKR {a:Iv} (ha:In01 a):In01 (zac (zy ⟨1,rfl⟩) a):=by
 have h1:=ha
 unfold In01 at h1
 have e1:zy ⟨1,rfl⟩=⟨⟨4294967296,rfl⟩,⟨4294967296,rfl⟩⟩:=by rw [zmR (by decide)];rfl
 have o1:ze ⟨⟨4294967296,rfl⟩,⟨4294967296,rfl⟩⟩=true:=(zbC _).2 (by decide)
 simp only [zac,zjQ,Tr.get,e1,o1,ha.ok,Bool.not_true,cond_false]
 have k1:(Rng.w .i64 (4294967296-a.hi.val)).val=4294967296-a.hi.val:=wi (by omega) (by omega)
 have k2:(Rng.w .i64 (4294967296-a.lo.val)).val=4294967296-a.lo.val:=wi (by omega) (by omega)
 rw [zb3 (by rw [k1,k2];omega)]
 unfold In01
 simp only [k1,k2]
 omega
theorem zFT {y s:Iv} {n:I64} (hy:In01 y) (hn:1<=n.val/\n.val<=1000000) (hs:In01 s):In01 (zac (zy ⟨1,rfl⟩) (zz (zO y (zy n)) s)):=
 zKR (zK6 (zLg hy hn) hs)
theorem zIM:In01 (zy ⟨1,rfl⟩):=by
 have e1:zy ⟨1,rfl⟩=⟨⟨4294967296,rfl⟩,⟨4294967296,rfl⟩⟩:=by rw [zmR (by decide)];rfl
 rw [e1];unfold In01;decide
theorem zyr {y:Iv} (hy:In01 y):In01 (zba y ⟨0,rfl⟩):=by
 simp only [zba,zdV,Tr.get]
 repeat' (first|exact zIM|refine zFT hy (by decide) ?_)
theorem zyq {y:Iv} (hy:In01 y):In01 (zba y ⟨-1,rfl⟩):=by
 simp only [zba,zdV,Tr.get]
 repeat' (first|exact zIM|refine zFT hy (by decide) ?_)
theorem zwD (y:Iv) (a b:I64) (h:a.val=b.val+2):zgo y a=zba y b:=by
 have h1:a.val+14=16+b.val:=by omega
 have h2:a.val+12=14+b.val:=by omega
 have h3:a.val+10=12+b.val:=by omega
 have h4:a.val+8=10+b.val:=by omega
 have h5:a.val+6=8+b.val:=by omega
 have h6:a.val+4=6+b.val:=by omega
 have h7:a.val+2=4+b.val:=by omega
 have h8:a.val+0=2+b.val:=by omega
 simp only [zgo,zjw,zba,zdV,Tr.get,sub_eq,zdZ,zp3,zmi,h1,h2,h3,h4,h5,h6,h7,h8]
theorem zzQ (x:Iv):za7 x zR=true↔(-4294967296<=x.lo.val/\x.lo.val<=x.hi.val/\x.hi.val<=4294967296):=by
 have o:ze zR=true:=by decide +kernel
 have e1:zR.lo.val= -4294967296:=rfl
 have e2:zR.hi.val=4294967296:=rfl
 simp only [za7,zgI,Tr.get,o,Bool.not_true,cond_false,e1,e2]
 cases h:ze x
 ·have:=(okno x).1 h
  simp;omega
 ·have:=(zbC x).1 h
  simp only [cond_true]
  by_cases h1: -4294967296<=x.lo.val<;>by_cases h2:x.hi.val<=4294967296<;>simp [h1,h2]<;>omega
theorem zqJ {x:Iv} (h:ze x=true):∃p q:I64,zai x=⟨p,q⟩/\0<=p.val/\p.val<=q.val/\(q.val<=x.hi.val\/q.val <= -x.lo.val):=by
 have hb:=(zbC x).1 h
 have e1:(Rng.w .i64 (0-x.lo.val)).val=0-x.lo.val:=wi (by omega) (by omega)
 have e2:(Rng.w .i64 (0-x.hi.val)).val=0-x.hi.val:=wi (by omega) (by omega)
 have m1:=zgM x.lo (.w .i64 (0-x.lo.val))
 have m2:=zgM x.hi (.w .i64 (0-x.hi.val))
 have m3:=zgM (zA x.lo (.w .i64 (0-x.lo.val))) (zA x.hi (.w .i64 (0-x.hi.val)))
 have m4:=zia (zA x.lo (.w .i64 (0-x.lo.val))) (zA x.hi (.w .i64 (0-x.hi.val)))
 rw [e1] at m1
 rw [e2] at m2
 simp only [zai,ziw,Tr.get,zbr,zeZ,zcO]
 by_cases h0:x.lo.val<=0/\0<=x.hi.val
 ·simp only [h0,and_self,decide_true,cond_true]
  exact ⟨_,_,rfl,by simp,by simp only;omega,by omega⟩
 ·simp only [h0,decide_false,cond_false]
  exact ⟨_,_,rfl,by omega,by omega,by omega⟩
theorem zIv {x:Iv} (h:za7 x zR=true):In01 (zbg x):=by
 have hb:=(zzQ x).1 h
 have ho:ze x=true:=(zbC x).2 (by omega)
 obtain ⟨p,q,e,h1,h2,h3⟩:=zqJ ho
 obtain ⟨d1,u1,a1,a2,a3,a4,a5⟩:=zAf (x:=p) (y:=p) (by omega) (by omega)
 obtain ⟨d2,u2,b1,b2,b3,b4,b5⟩:=zAf (x:=q) (y:=q) (by omega) (by omega)
 have hpq:p.val*p.val<=q.val*q.val:=Int.mul_le_mul h2 h2 h1 (by omega)
 have hqq:q.val*q.val<=4294967296*4294967296:=Int.mul_le_mul (by omega) (by omega) (by omega) (by decide)
 have hpp:=Int.mul_nonneg h1 h1
 have c1:=zj2 (a:=p) (b:=p) (ok3 (by omega)) (ok3 (by omega)) (by omega)
 have c2:=zj2 (a:=q) (b:=q) (ok3 (by omega)) (ok3 (by omega)) (by omega)
 rw [c1] at a1;cases a1
 rw [c2] at b1;cases b1
 rw [wi (by omega) (by omega)] at a3
 rw [wi (by omega) (by omega)] at b4
 rw [if_pos h1] at a3
 simp only [zbg,zlD,Tr.get,ho,e,c1,b2,Bool.not_true,cond_false]
 have hw:(Rng.w .i64 (p.val*p.val/4294967296)).val=p.val*p.val/4294967296:=wi (by omega) (by omega)
 rw [zb3 (by rw [hw];omega)]
 unfold In01
 simp only [hw]
 omega
def Near (a:Iv):Prop:=ze a=false\/(a.lo.val<=4294967296 /\ -4294967296<=a.hi.val)
theorem Near.neg {a:Iv} (h:Near a):Near (zW a):=by
 cases ho:ze a
 ·exact .inl (by rw [zvw,ho])
 ·rcases h with h|h
  ·rw [ho] at h;cases h
  ·have:=(zbC a).1 ho
   rw [zln ho]
   refine .inr ?_
   simp only
   rw [wi (by omega) (by omega),wi (by omega) (by omega)]
   omega
theorem Near.meet {a:Iv} (h:Near a):zcm a=zaG a:=by
 have o:ze zR=true:=by decide +kernel
 have e1:zR.lo.val= -4294967296:=rfl
 have e2:zR.hi.val=4294967296:=rfl
 have hb:(za4 a zR).b=true:=by
  simp only [za4,zdp,Tr.get,o,Bool.not_true,cond_false]
  rcases h with h|h
  ·simp only [h,Bool.not_false,cond_true]
  ·cases ho:ze a
   ·simp only [Bool.not_false,cond_true]
   ·have:=(zbC a).1 ho
    have m1:=zgM a.lo zR.lo
    have m2:=zia a.hi zR.hi
    rw [e1] at m1
    rw [e2] at m2
    have hd:decide ((zA a.lo zR.lo).val>(zC a.hi zR.hi).val)=false:=by simp;omega
    simp only [Bool.not_true,cond_false,hd]
 simp only [zcm,zjz,zaG,ziu,Tr.get,zvz,znO,hb,Bool.not_true,cond_false]
theorem zua:Near zt:= .inl zch
theorem zxh {lo hi:I64} (h: -4294967296<=lo.val/\lo.val<=hi.val/\hi.val<=4294967296):Near (zH ⟨lo,hi⟩ zce):=by
 have o:ze zce=true:=by decide +kernel
 have o2:ze ⟨lo,hi⟩=true:=(zbC _).2 (by simp only;omega)
 have e1:zce.lo.val= -1:=rfl
 have e2:zce.hi.val=1:=rfl
 simp only [zH,ze0,Tr.get,o,o2,Bool.not_true,cond_false,e1,e2]
 have k1:(Rng.w .i64 (lo.val + -1)).val=lo.val + -1:=wi (by omega) (by omega)
 have k2:(Rng.w .i64 (hi.val+1)).val=hi.val+1:=wi (by omega) (by omega)
 rw [zb3 (by rw [k1,k2];omega)]
 refine .inr ?_
 simp only [k1,k2]
 omega
theorem zz6 (x:Iv):Near (zbt x):=by
 simp only [zbt,zgY,Tr.get,zdi]
 cases h:za7 x zR
 ·exact zua
 ·simp only [Bool.not_true,cond_false]
  obtain ⟨lo,hi,e,k⟩:=zHj ((zzQ x).1 h) (zyr (zIv h))
  rw [e];exact zxh k
theorem zz7 (x:Iv):Near (zbu x):=by
 simp only [zbu,zg0,Tr.get,zdi]
 cases h:za7 x zR
 ·exact zua
 ·simp only [Bool.not_true,cond_false]
  have:=zyq (zIv h)
  unfold In01 at this
  exact zxh (lo:=(zba (zbg x) ⟨-1,rfl⟩).lo) (hi:=(zba (zbg x) ⟨-1,rfl⟩).hi) (by omega)
theorem zIC (x:Iv):zd2 x=zbt x:=by
 simp only [zd2,zg2,zbt,zgY,Tr.get,zrV,znO,zyh,zbB,zdi,add_eq,zp3,zpZ,zwD _ ⟨2,rfl⟩ ⟨0,rfl⟩ rfl]
theorem zJf (x:Iv):zd3 x=zbu x:=by
 simp only [zd3,zg3,zbu,zg0,Tr.get,zrV,znO,zyh,zbB,zdi,add_eq,zpZ,zwD _ ⟨1,rfl⟩ ⟨-1,rfl⟩ rfl]
theorem zEG (hi:I64) (lo:U64) (V:Int) (hV:V=hi.val*18446744073709551616+lo.val) (h0:0<=hi.val):∀(k m:Nat) (r:U64) (i:I64),k<=64->i.val=(k:Int)-1->(∃r1:Nat,r.val=2^k*(r1:Int))->r.val*r.val<=V->V<(r.val+2^k)*(r.val+2^k)->r.val+2^k<=18446744073709551616->
  ∃q:U64,(Lf zci (k+1+m) ⟨r,i,hi,lo⟩).opt=some ⟨q,.w .i64 (-1),hi,lo⟩/\q.val*q.val<=V/\V<(q.val+1)*(q.val+1):=by
 intro k
 induction k with
 | zero=>
  intro m r i _ hi' _ h1 h2 _
  have h0:decide (i.val>=0)=false:=by simp;omega
  have e:i= .w .i64 (-1):=rext (by rw [wi (by omega) (by omega)];omega)
  refine ⟨r,?_,h1,by simpa using h2⟩
  simp only [Lf,zci,h0,Tr.bind,Tr.opt,cond_false,Nat.zero_add,Nat.add_comm 1 m,<- e]
 | succ k ih=>
  intro m r i hk hi' ⟨r1,hr1⟩ h1 h2 h3
  have hge:decide (i.val>=0)=true:=by simp;omega
  have en:(Rng.w .u64 i.val).val=i.val:=wu (by omega) (by omega)
  have e1:(Rng.w .i64 (i.val-1)).val=(k:Int)-1:=by rw [wi (by omega) (by omega)];omega
  have hfuel:k+1+1+m=(k+1+m)+1:=by omega
  have hp2:(2:Int)^(k+1)=2^k*2:=Int.pow_succ ..
  have hpos:(0:Int)<2^k:=Int.pow_pos (by decide)
  have hmin:min i.val.toNat 64=k:=by omega
  have hrb:=r.ubd
  have hbit:(Rng.w .u64 (1*(2^min i.val.toNat 64))).val=2^k:=by rw [hmin,Int.one_mul];exact wu (by omega) (by omega)
  have hor:zbv .or .u64 r.val (2^k)=r.val+2^k:=zt8 (k+1) r1 hr1 (by omega) (by omega) (by omega)
  have hc:(Rng.w .u64 (zbv .or .u64 r.val (Rng.w .u64 (1*(2^min i.val.toNat 64))).val)).val=r.val+2^k:=by rw [hbit,hor];exact wu (by omega) (by omega)
  generalize hcc:Rng.w .u64 (zbv .or .u64 r.val (Rng.w .u64 (1*(2^min i.val.toNat 64))).val)=c at hc
  have hbc:=c.ubd
  have hmb:=zpn c.val c.val hbc.1 hbc.2 hbc.1 hbc.2
  have hnn:0<=c.val*c.val:=Int.mul_nonneg hbc.1 hbc.1
  have hle:c.val*c.val<=18446744073709551615*18446744073709551615:=Int.mul_le_mul hbc.2 hbc.2 hbc.1 (by decide)
  have wa:(Rng.w .u64 (c.val*c.val/18446744073709551616)).val=c.val*c.val/18446744073709551616:=wu (by omega) (by omega)
  have wb:(Rng.w .u64 (c.val*c.val)).val=c.val*c.val%18446744073709551616:=zbf _
  have bh:=hi.bd
  have bl:=lo.ubd
  have wh:(Rng.w .u64 hi.val).val=hi.val:=wu h0 (by omega)
  have hsq:(r.val+2^(k+1))*(r.val+2^(k+1))=(c.val+2^k)*(c.val+2^k):=by rw [hc,hp2];congr 1<;>omega
  rw [hfuel]
  by_cases hcv:c.val*c.val<=V
  ·obtain ⟨q,a1,a2,a3⟩:=ih m c (.w .i64 (i.val-1)) (by omega) e1 ⟨2*r1+1,by rw [hc,hr1,hp2,Int.mul_assoc];simp only [Int.natCast_add,Int.natCast_mul];rw [Int.mul_add];simp⟩ hcv (by rw [<- hsq];exact h2) (by rw [hc];omega)
   refine ⟨q,?_,a2,a3⟩
   simp only [Lf,zci,hge,en,hcc,zm9,wa,wb,wh,Tr.bind,Tr.opt,cond_true]
   by_cases k1:c.val*c.val/18446744073709551616<hi.val
   ·simp only [k1,decide_true,cond_true];exact a1
   ·have k2:c.val*c.val/18446744073709551616=hi.val:=by omega
    have k3:c.val*c.val%18446744073709551616<=lo.val:=by omega
    simp only [k2,Int.lt_irrefl,k3,decide_true,decide_false,cond_true,cond_false,beq_self_eq_true];exact a1
  ·obtain ⟨q,a1,a2,a3⟩:=ih m r (.w .i64 (i.val-1)) (by omega) e1 ⟨2*r1,by rw [hr1,hp2,Int.mul_assoc];simp⟩ h1 (by rw [<- hc];omega) (by omega)
   refine ⟨q,?_,a2,a3⟩
   simp only [Lf,zci,hge,en,hcc,zm9,wa,wb,wh,Tr.bind,Tr.opt,cond_true]
   have k1:¬c.val*c.val/18446744073709551616<hi.val:=by omega
   by_cases k2:c.val*c.val/18446744073709551616=hi.val
   ·have k3:¬c.val*c.val%18446744073709551616<=lo.val:=by omega
    simp only [k2,Int.lt_irrefl,k3,decide_false,cond_true,cond_false,beq_self_eq_true];exact a1
   ·have k4:(c.val*c.val/18446744073709551616==hi.val)=false:=by simpa using k2
    simp only [k1,k4,decide_false,cond_false];exact a1
theorem zEF (w:Wide) (h:0<=w.hi.val):0<=(zbo w).val/\(zbo w).val*(zbo w).val<=wv w/\wv w<((zbo w).val+1)*((zbo w).val+1):=by
 have bh:=w.hi.bd
 have bl:=w.lo.ubd
 obtain ⟨q,h1,h2,h3⟩:=zEG w.hi w.lo (wv w) rfl h 64 1 ⟨0,rfl⟩ ⟨63,rfl⟩ (by omega) (by rfl) ⟨0,by simp⟩ (by simp only [wv];omega) (by simp only [wv];omega) (by decide)
 have hf:(64+1+1:Nat)=66:=rfl
 rw [hf] at h1
 have g1:zfg ⟨⟨0,rfl⟩,⟨63,rfl⟩,w.hi,w.lo⟩=true:=by unfold zfg;rw [h1];rfl
 have l1:zjj ⟨⟨0,rfl⟩,⟨63,rfl⟩,w.hi,w.lo⟩=_:=Tr.zao h1
 have k1:(zej w).opt=some q:=by simp only [zej,Tr.opt,g1,l1,cond_true]
 have k2:zbo w=q:=Tr.zao k1
 rw [k2]
 exact ⟨q.ubd.1,h2,h3⟩
theorem zmJ {a b:Int} (ha:0<=a) (hb:0<=b) (h:a*a<=b*b):a<=b:=by
 by_cases hab:a<=b
 ·exact hab
 ·have:(b+1)*(b+1)<=a*a:=Int.mul_le_mul (by omega) (by omega) (by omega) ha
  have:(b+1)*(b+1)=b*b+2*b+1:=by rw [Int.add_mul,Int.mul_add,Int.one_mul,Int.mul_one];omega
  omega
theorem zEk (w:Wide) (h:0<=w.hi.val):zh4 w=⟨zbo w,true⟩:=by
 have e:zh4 w=_:=Tr.zao (zyt w).2
 rw [e,show decide (w.hi.val<0)=false by simp;omega];rfl
theorem zCd (a b:I64) (ha:0<=a.val) (hb:0<=b.val):∃q:I64,zfi a b=⟨q,true⟩/\zde a b=⟨q,true⟩/\0<=q.val/\q.val*q.val<=a.val*b.val/\a.val*b.val<(q.val+1)*(q.val+1):=by
 have hm:=zfC a.bd b.bd
 have hnn:=Int.mul_nonneg ha hb
 have d1:decide (a.val<0)=false:=by simp;omega
 have d2:decide (b.val<0)=false:=by simp;omega
 have hwv:=zjN (v:=a.val*b.val) (by omega) (by omega)
 have hhi:0<=(mkW (a.val*b.val)).hi.val:=by simp only [mkW];rw [wi (by omega) (by omega)];omega
 obtain ⟨r0,r1,r2⟩:=zEF (mkW (a.val*b.val)) hhi
 rw [hwv] at r1 r2
 have hr:(zbo (mkW (a.val*b.val))).val<=9223372036854775807:=by
  refine zmJ r0 (by decide) ?_
  have:=Int.mul_le_mul a.bd.2 b.bd.2 hb (by decide)
  omega
 have hw:(Rng.w .i64 (zbo (mkW (a.val*b.val))).val).val=(zbo (mkW (a.val*b.val))).val:=wi (by omega) hr
 refine ⟨.w .i64 (zbo (mkW (a.val*b.val))).val,?_,?_,by rw [hw];exact r0,by rw [hw];exact r1,by rw [hw];exact r2⟩
 ·simp only [zfi,ze9,Tr.get,d1,d2,zot,zF0,cond_false,cond_true]
 ·simp only [zde,zdX,Tr.get,d1,d2,zjE,zBG,zEk _ hhi,cond_false,cond_true]
theorem zCf (a:I64) (ha:0<=a.val/\a.val<=1152921504606846976):∃q:I64,zcC a=⟨q,true⟩/\zeL a=⟨q,true⟩/\0<=q.val/\q.val<=70368744177664/\q.val*q.val<=a.val*4294967296/\a.val*4294967296<(q.val+1)*(q.val+1):=by
 obtain ⟨q,h1,h2,h3,h4,h5⟩:=zCd a ⟨4294967296,rfl⟩ ha.1 (by decide)
 have hq:q.val<=70368744177664:=zmJ h3 (by decide) (by simp only at h4;omega)
 have i1:zX a ⟨0,rfl⟩ ⟨1152921504606846976,rfl⟩=true:=by rw [zcO];simpa using ha
 have o1:zG a=true:=ok3 (by omega)
 refine ⟨q,?_,?_,h3,hq,h4,h5⟩
 ·simp only [zcC,zd5,Tr.get,i1,zrf,h1,Bool.not_true,cond_false,cond_true]
 ·simp only [zeL,zey,Tr.get,zkR,o1,zrg,h2,Bool.not_true,cond_false,cond_true,zp7]
  rw [zp6 (by omega)]
theorem zuw (x:I64):(Rng.w .i64 (zbv .and .i64 x.val 4294967295)).val=x.val%4294967296:=by
 have bx:=x.bd
 have e2:(BitVec.ofInt 64 x.val &&& BitVec.ofInt 64 4294967295).toNat=(BitVec.ofInt 64 x.val).toNat%4294967296:=by
  rw [BitVec.toNat_and,show (BitVec.ofInt 64 4294967295).toNat=2^32-1 by decide,Nat.and_two_pow_sub_one_eq_mod]
 have e3:((BitVec.ofInt 64 x.val).toNat:Int)=x.val%18446744073709551616:=by
  rw [BitVec.toNat_ofInt];simp;omega
 have e:zbv .and .i64 x.val 4294967295=x.val%4294967296:=by
  show ((BitVec.ofInt 64 x.val &&& BitVec.ofInt 64 4294967295).toNat:Int)=_
  rw [e2,Int.natCast_emod,e3];omega
 rw [e]
 exact wi (by omega) (by omega)
theorem zIt (a:I64) (ha:0<=a.val/\a.val<=1152921504606846976):∃q:I64,zck a=⟨q,true⟩/\zgs a=⟨q,true⟩:=by
 obtain ⟨q,h1,h2,h3,h4,h5,h6⟩:=zCf a ha
 have e1:(Rng.w .i64 (q.val+1)).val=q.val+1:=wi (by omega) (by omega)
 have hqq:=Int.mul_nonneg h3 h3
 have hmf:zaz q q ⟨32,rfl⟩=⟨.w .i64 (q.val*q.val/4294967296),true⟩:=by rw [mf32];exact zfd (by omega) (by omega)
 have hmv:(Rng.w .i64 (q.val*q.val/4294967296)).val=q.val*q.val/4294967296:=wi (by omega) (by omega)
 have hmask:(Rng.w .i64 (zbv .and .i64 (Rng.w .i64 (q.val*q.val)).val 4294967295)).val=q.val*q.val%4294967296:=by rw [zuw,zfy];omega
 have hb1: -170141183460469231731687303715884105728<=q.val*q.val/\q.val*q.val<170141183460469231731687303715884105728:=by omega
 have hb2: -170141183460469231731687303715884105728<=a.val*4294967296/\a.val*4294967296<170141183460469231731687303715884105728:=by omega
 by_cases hx:q.val*q.val=a.val*4294967296
 ·refine ⟨q,?_,?_⟩
  ·have k1:(q.val*q.val/4294967296 != a.val)=false:=by simp;omega
   have k2:(q.val*q.val%4294967296 != 0)=false:=by simp;omega
   simp only [zck,zcG,Tr.get,zjY,h1,hmf,hmv,hmask,k1,k2,Bool.not_true,cond_false,cond_true]
  ·simp only [zgs,ze2,Tr.get,zmL,h2,zjE,hx,beq_self_eq_true,Bool.and_self,Bool.not_true,cond_false,cond_true,zp7]
   rw [zp6 (by omega)]
 ·refine ⟨.w .i64 (q.val+1),?_,?_⟩
  ·simp only [zck,zcG,Tr.get,zjY,h1,hmf,hmv,hmask,Bool.not_true,cond_false,cond_true]
   by_cases k1:q.val*q.val/4294967296=a.val
   ·have k2:(q.val*q.val%4294967296 != 0)=true:=by simp;omega
    have k3:(q.val*q.val/4294967296 != a.val)=false:=by simp [k1]
    simp only [k2,k3,cond_true,cond_false]
   ·have k3:(q.val*q.val/4294967296 != a.val)=true:=by simp [k1]
    simp only [k3,cond_true]
  ·have hne:((mkW (q.val*q.val)).hi.val==(mkW (a.val*4294967296)).hi.val&&((mkW (q.val*q.val)).lo.val==(mkW (a.val*4294967296)).lo.val&&true))=false:=by
    rw [Bool.eq_false_iff]
    intro h
    simp only [Bool.and_true,Bool.and_eq_true,beq_iff_eq] at h
    have:wv (mkW (q.val*q.val))=wv (mkW (a.val*4294967296)):=by simp only [wv,h.1,h.2]
    rw [zjN hb1.1 hb1.2,zjN hb2.1 hb2.2] at this
    exact hx this
   simp only [zgs,ze2,Tr.get,zmL,h2,zjE,hne,Bool.not_false,cond_false,cond_true,zp7]
   rw [zp6 (by rw [e1];omega)]
theorem zu1 (a:Iv):zht a=zcs a:=by
 simp only [zht,ziX,zcs,zky,Tr.get,znw,zbB,zeC,zmL,zjY,zwz,zwy,cond_true]
 cases h:ze a
 ·rfl
 have hb:=(zbC a).1 h
 by_cases h0:a.lo.val<0
 ·simp only [h0,decide_true,cond_true,Bool.not_true,cond_false]
 ·obtain ⟨q,e1,e2,_⟩:=zCf a.lo (by omega)
  obtain ⟨p,e3,e4⟩:=zIt a.hi (by omega)
  simp only [h0,decide_false,cond_false,Bool.not_true,e1,e2,e3,e4,cond_true]
end Go.Proofs.YtkenfaengphiiaaGreatDoor.Ev
