/- The law FnOmega gives true, whatever comes in; each argument reads behind the call as it read before. No conditions. (One of the texts of its proof, put together by a program of this session.) -/
import Derived.Test.YtaoakfodkoifoaaGreatZW1
set_option linter.unusedSectionVars false
set_option linter.unusedSimpArgs false
set_option linter.unusedVariables false
noncomputable section
namespace Go.Proofs.YtaoakfodkoifoaaGreat.Ev
open Go
theorem zg0 (n:Int):(Rng.w .i64 n).val=(n+9223372036854775808)%18446744073709551616-9223372036854775808:=by
 show IntKind.i64.wrap n=_
 simp only [IntKind.wrap,IntKind.bits,IntKind.signed]
 simp
 split<;>omega
theorem fd32 (x:Int):x.fdiv 4294967296=x/4294967296:=Int.fdiv_eq_ediv_of_nonneg x (by decide)
theorem fd63 (x:Int):x.fdiv 9223372036854775808=x/9223372036854775808:=Int.fdiv_eq_ediv_of_nonneg x (by decide)
theorem rext {k:IntKind} {a b:Rng k} (h:a.val=b.val):a=b:=Rng.ext h
theorem zqd {x:Int} (h0:0<=x) (h1:x<=18446744073709551615):(BitVec.ofInt 64 x).toNat=x.toNat:=by
 rw [BitVec.toNat_ofInt]
 have:((2^64:Nat):Int)=18446744073709551616:=by decide
 rw [this]
 omega
theorem zqe (x:U64):(Rng.w .u64 (zbI .and .u64 x.val 4294967295)).val=x.val%4294967296:=by
 have b:=x.ubd
 have e:zbI .and .u64 x.val 4294967295=x.val%4294967296:=by
  show ((BitVec.ofInt 64 x.val &&& BitVec.ofInt 64 4294967295).toNat:Int)=_
  rw [BitVec.toNat_and,zqd b.1 b.2,zqd (by decide) (by decide)]
  have:=Nat.and_two_pow_sub_one_eq_mod x.val.toNat 32
  simp only [show (4294967295:Int).toNat=2^32-1 by decide]
  rw [this]
  omega
 rw [e,wu (by omega) (by omega)]
theorem and_one (x:U64):(Rng.w .u64 (zbI .and .u64 x.val 1)).val=x.val%2:=by
 have b:=x.ubd
 have e:zbI .and .u64 x.val 1=x.val%2:=by
  show ((BitVec.ofInt 64 x.val &&& BitVec.ofInt 64 1).toNat:Int)=_
  rw [BitVec.toNat_and,zqd b.1 b.2,zqd (by decide) (by decide)]
  have:=Nat.and_two_pow_sub_one_eq_mod x.val.toNat 1
  simp only [show (1:Int).toNat=2^1-1 by decide]
  rw [this]
  omega
 rw [e,wu (by omega) (by omega)]
theorem zx1 {a b:Int} (k a1:Nat) (ha:a=2^k*(a1:Int)) (hb:0<=b) (hb':b<2^k) (hs:a+b<=18446744073709551615):zbI .or .u64 a b=a+b:=by
 have ha0:0<=a:=by rw [ha];exact Int.mul_nonneg (Int.pow_nonneg (by decide)) (Int.natCast_nonneg _)
 obtain ⟨bn,rfl⟩:=Int.eq_ofNat_of_zero_le hb
 have ha':a=((2^k*a1:Nat):Int):=by rw [ha];simp
 have hbn:bn<2^k:=by
  have:((bn:Nat):Int)<((2^k:Nat):Int):=by simpa using hb'
  exact Int.ofNat_lt.1 this
 show ((BitVec.ofInt 64 a ||| BitVec.ofInt 64 (bn:Int)).toNat:Int)=_
 rw [BitVec.toNat_or,zqd ha0 (by omega),zqd (by omega) (by omega)]
 have:=Nat.two_pow_add_eq_or_of_lt hbn a1
 rw [ha']
 simp only [Int.toNat_natCast]
 rw [<- this]
 simp
theorem xor_not (x:I64):(Rng.w .i64 (zbI .xor .i64 (-1) x.val)).val= -1-x.val:=by
 have b:=x.bd
 have e:zbI .xor .i64 (-1) x.val=18446744073709551615-x.val%18446744073709551616:=by
  show ((BitVec.ofInt 64 (-1) ^^^ BitVec.ofInt 64 x.val).toNat:Int)=_
  have h1:BitVec.ofInt 64 (-1)=BitVec.allOnes 64:=by decide
  rw [h1,BitVec.allOnes_xor,BitVec.toNat_not,BitVec.toNat_ofInt]
  have:((2^64:Nat):Int)=18446744073709551616:=by decide
  rw [this]
  omega
 rw [e,zg0]
 omega
def wv (w:Wide):Int:=w.hi.val*18446744073709551616+w.lo.val
def mkW (v:Int):Wide:=⟨.w .i64 (v/18446744073709551616),.w .u64 v⟩
theorem zDR {a b:Wide} (h:wv a=wv b):a=b:=by
 have h1:=a.lo.ubd;have h2:=b.lo.ubd
 unfold wv at h
 cases a with
 | mk ah al=>cases b with
  | mk bh bl=>
   simp only at h h1 h2
   rw [rext (a:=ah) (b:=bh) (by omega),rext (a:=al) (b:=bl) (by omega)]
theorem zLd (w:Wide): -170141183460469231731687303715884105728<=wv w/\wv w<170141183460469231731687303715884105728:=by
 have h1:=w.lo.ubd;have h2:=w.hi.bd
 unfold wv;omega
theorem zmj {v:Int} (h: -170141183460469231731687303715884105728<=v) (h':v<170141183460469231731687303715884105728):wv (mkW v)=v:=by
 unfold wv mkW
 simp only
 rw [wi (by omega) (by omega),zbC]
 omega
theorem zEq {w:Wide} {v:Int} (h:wv w=v):w=mkW v:=by
 have:=zLd w
 exact zDR (by rw [zmj (by omega) (by omega),h])
theorem zG6 (n:I64):zer n=mkW n.val:=by
 have b:=n.bd
 apply zEq
 simp only [zer,zm1,Tr.get]
 by_cases h:n.val<0
 ·simp only [h,decide_true,cond_true,wv,zbC];omega
 ·simp only [h,decide_false,cond_false,wv,zbC];omega
theorem zL0 (n:I64):zij n=mkW n.val:=by
 have b:=n.bd
 apply zEq
 simp only [zij,zlV,Tr.get,wv,zbC,fd63]
 rw [wi (by omega) (by omega)]
 omega
def narrow (v:Int):T2 I64 Bool:=if -9223372036854775808<=v/\v<=9223372036854775807 then ⟨.w .i64 v,true⟩ else ⟨.w .i64 0,false⟩
theorem zBu {w:Wide} (f:I64->Wide) (hf:∀n,f n=mkW n.val):
  (Tr.get (let c1:=f (Rng.w .i64 (w.lo.val));Tr.br (!((c1.hi.val==w.hi.val)&&((c1.lo.val==w.lo.val)&&true))) (.leaf (⟨⟨0,rfl⟩,false⟩:T2 I64 Bool)) (.leaf ⟨(Rng.w .i64 (w.lo.val)),true⟩)))=narrow (wv w):=by
 have b1:=w.lo.ubd;have b2:=w.hi.bd
 simp only [hf,Tr.get,narrow,mkW]
 by_cases h: -9223372036854775808<=wv w/\wv w<=9223372036854775807
 ·rw [if_pos h]
  unfold wv at h
  have e1:(Rng.w .i64 w.lo.val).val=wv w:=by rw [zg0];unfold wv;omega
  have e2:(Rng.w .i64 (wv w/18446744073709551616)).val=w.hi.val:=by rw [zg0];unfold wv;omega
  have e3:(Rng.w .u64 (wv w)).val=w.lo.val:=by rw [zbC];unfold wv;omega
  rw [e1,e2,e3]
  simp only [BEq.rfl,Bool.true_and,Bool.not_true,cond_false]
  congr 1
  exact rext (by rw [e1,<- e1];rw [e1];unfold wv;rw [zg0];omega)
 ·rw [if_neg h]
  unfold wv at h
  have ne:¬((Rng.w .i64 ((Rng.w .i64 w.lo.val).val/18446744073709551616)).val=w.hi.val/\(Rng.w .u64 (Rng.w .i64 w.lo.val).val).val=w.lo.val):=by
   rintro ⟨k1,k2⟩
   rw [zg0,zg0] at k1
   omega
  have:(!(((Rng.w .i64 ((Rng.w .i64 w.lo.val).val/18446744073709551616)).val==w.hi.val)&&(((Rng.w .u64 (Rng.w .i64 w.lo.val).val).val==w.lo.val)&&true)))=true:=by
   simp only [Bool.and_true,Bool.not_eq_true',Bool.and_eq_false_iff,beq_eq_false_iff_ne]
   by_cases k:(Rng.w .i64 ((Rng.w .i64 w.lo.val).val/18446744073709551616)).val=w.hi.val
   ·right;exact fun k2=>ne ⟨k,k2⟩
   ·left;exact k
  rw [this,cond_true]
  rfl
theorem zzJ (w:Wide):zj7 w=narrow (wv w):=zBu zer zG6
theorem zzK (w:Wide):zgT w=narrow (wv w):=zBu zij zL0
theorem zp6 (w:Wide) (h:wv w ≠ -170141183460469231731687303715884105728):zba w=mkW (- wv w):=by
 have b1:=w.lo.ubd;have b2:=w.hi.bd
 apply zEq
 unfold wv at h
 simp only [zba,zeI,Tr.get]
 by_cases hl:w.lo.val=0
 ·simp only [hl,BEq.rfl,cond_true,wv,zbC]
  rw [wi (by omega) (by omega)];omega
 ·have:(w.lo.val==0)=false:=by simp [hl]
  simp only [this,cond_false,wv,zbC,xor_not];omega
theorem zKK (w:Wide):(zd8 w).opt=some (zba w):=by
 have b1:=w.lo.ubd;have b2:=w.hi.bd
 simp only [zd8,Tr.opt,zba,zeI,Tr.get,zfZ,zs8]
 by_cases hl:w.lo.val=0
 ·have c:(Rng.w .u64 (if (0:Int)<w.lo.val+0 then 1 else 0)).val=0:=by rw [if_neg (by omega),wu (by omega) (by omega)]
  have e:(w.lo.val==0)=true:=by simp [hl]
  simp only [c,e,cond_true,show decide ((0:Int)<=1)=true from rfl,Option.some.injEq]
  rw [Wide.mk.injEq]
  exact ⟨rext (by simp only [zg0,zbC];omega),rext (by simp only [zbC];omega)⟩
 ·have c:(Rng.w .u64 (if (0:Int)<w.lo.val+0 then 1 else 0)).val=1:=by rw [if_pos (by omega),wu (by omega) (by omega)]
  have e:(w.lo.val==0)=false:=by simp [hl]
  simp only [c,e,cond_false,cond_true,show decide ((1:Int)<=1)=true from rfl,Option.some.injEq]
  rw [Wide.mk.injEq]
  exact ⟨rext (by rw [xor_not];simp only [zg0,zbC];omega),rext (by simp only [zbC];omega)⟩
theorem zJz (w:Wide):zee w=zba w:=Tr.zai (zKK w)
theorem zQJ (w:Wide):zdn w=true:=by simp [zdn,zKK]
theorem zsH (a b:Int) (ha:0<=a) (ha':a<=18446744073709551615) (hb:0<=b) (hb':b<=18446744073709551615):
  ∃p00 p01 p10 p11:Int,(a%4294967296)*(b%4294967296)=p00/\(a%4294967296)*(b/4294967296)=p01/\(a/4294967296)*(b%4294967296)=p10/\(a/4294967296)*(b/4294967296)=p11 /\
   0<=p00/\p00<=18446744065119617025/\0<=p01/\p01<=18446744065119617025/\0<=p10/\p10<=18446744065119617025/\0<=p11/\p11<=18446744065119617025 /\
   a*b=p11*18446744073709551616+(p10+p01)*4294967296+p00:=by
 have bound:∀x y:Int,0<=x->x<=4294967295->0<=y->y<=4294967295->0<=x*y/\x*y<=18446744065119617025:=by
  intro x y hx hx' hy hy'
  refine ⟨Int.mul_nonneg hx hy,?_⟩
  have:=Int.mul_le_mul hx' hy' hy (by omega)
  omega
 obtain ⟨k1,k2⟩:=bound (a%4294967296) (b%4294967296) (by omega) (by omega) (by omega) (by omega)
 obtain ⟨k3,k4⟩:=bound (a%4294967296) (b/4294967296) (by omega) (by omega) (by omega) (by omega)
 obtain ⟨k5,k6⟩:=bound (a/4294967296) (b%4294967296) (by omega) (by omega) (by omega) (by omega)
 obtain ⟨k7,k8⟩:=bound (a/4294967296) (b/4294967296) (by omega) (by omega) (by omega) (by omega)
 refine ⟨_,_,_,_,rfl,rfl,rfl,rfl,k1,k2,k3,k4,k5,k6,k7,k8,?_⟩
 have e1:a=a/4294967296*4294967296+a%4294967296:=by omega
 have e2:b=b/4294967296*4294967296+b%4294967296:=by omega
 generalize a/4294967296=a1 at *
 generalize a%4294967296=a0 at *
 generalize b/4294967296=b1 at *
 generalize b%4294967296=b0 at *
 subst e1;subst e2
 grind
theorem zp1 (a b:U64):zfX a b=⟨.w .u64 (a.val*b.val/18446744073709551616),.w .u64 (a.val*b.val)⟩:=by
 have ha:=a.ubd;have hb:=b.ubd
 obtain ⟨p00,p01,p10,p11,h1,h2,h3,h4,k1,k2,k3,k4,k5,k6,k7,k8,e⟩:=zsH a.val b.val ha.1 ha.2 hb.1 hb.2
 have a1:(Rng.w .u64 (a.val/4294967296)).val=a.val/4294967296:=wu (by omega) (by omega)
 have b1:(Rng.w .u64 (b.val/4294967296)).val=b.val/4294967296:=wu (by omega) (by omega)
 simp only [zfX,zjB,Tr.get,zqe,fd32,a1,b1,h1,h2,h3,h4]
 rw [T2.mk.injEq]
 refine ⟨rext ?_,rfl⟩
 rw [e]
 simp only [zbC]
 omega
theorem zxS (a b:U64):zeE a b=⟨.w .u64 (a.val*b.val/18446744073709551616),.w .u64 (a.val*b.val)⟩:=by
 have ha:=a.ubd;have hb:=b.ubd
 obtain ⟨p00,p01,p10,p11,h1,h2,h3,h4,k1,k2,k3,k4,k5,k6,k7,k8,e⟩:=zsH a.val b.val ha.1 ha.2 hb.1 hb.2
 have a1:(Rng.w .u64 (a.val/4294967296)).val=a.val/4294967296:=wu (by omega) (by omega)
 have b1:(Rng.w .u64 (b.val/4294967296)).val=b.val/4294967296:=wu (by omega) (by omega)
 simp only [zeE,zhU,Tr.get,zqe,fd32,a1,b1,h1,h2,h3,h4]
 rw [T2.mk.injEq]
 refine ⟨rext ?_,rfl⟩
 rw [e]
 simp only [zbC]
 omega
theorem zAM (a:I64):(zbS a).val=if a.val<0 then -a.val else a.val:=by
 have b:=a.bd
 simp only [zbS,zkR,Tr.get]
 by_cases h:a.val<0
 ·simp only [h,decide_true,cond_true,if_true,zbC];omega
 ·simp only [h,decide_false,cond_false,if_false,zbC];omega
theorem zgA {a b:Int} (ha: -9223372036854775808<=a/\a<=9223372036854775807) (hb: -9223372036854775808<=b/\b<=9223372036854775807):
  -85070591730234615865843651857942052864<=a*b/\a*b<=85070591730234615865843651857942052864:=by
 have h:(a*b).natAbs<=9223372036854775808*9223372036854775808:=by
  rw [Int.natAbs_mul]
  exact Nat.mul_le_mul (by omega) (by omega)
 omega
theorem zrL (a b:I64):zfm a b=mkW (a.val*b.val):=by
 have ha:=a.bd;have hb:=b.bd
 have hm:=zgA ha hb
 have pos:∀u v:U64,0<=u.val*v.val->u.val*v.val<=85070591730234615865843651857942052864->(⟨Rng.w .i64 (Rng.w .u64 (u.val*v.val/18446744073709551616)).val,Rng.w .u64 (u.val*v.val)⟩:Wide)=mkW (u.val*v.val):=by
  intro u v h h'
  unfold mkW
  rw [wu (n:=u.val*v.val/18446744073709551616) (by omega) (by omega)]
 simp only [zfm,zlO,Tr.get,zp1]
 have sa:=zAM a;have sb:=zAM b
 by_cases h1:a.val<0<;>by_cases h2:b.val<0
 ·have e:(zbS a).val*(zbS b).val=a.val*b.val:=by rw [sa,sb,if_pos h1,if_pos h2,Int.neg_mul_neg]
  have hp:0<=a.val*b.val:=by have:=Int.mul_nonneg (a:= -a.val) (b:= -b.val) (by omega) (by omega);rwa [Int.neg_mul_neg] at this
  rw [pos _ _ (by rw [e];exact hp) (by rw [e];omega),e]
  simp [h1,h2]
 ·have e:(zbS a).val*(zbS b).val= -(a.val*b.val):=by rw [sa,sb,if_pos h1,if_neg h2,Int.neg_mul]
  have hp:0 <= -(a.val*b.val):=by have:=Int.mul_nonneg (a:= -a.val) (b:=b.val) (by omega) (by omega);rwa [Int.neg_mul] at this
  rw [pos _ _ (by rw [e];exact hp) (by rw [e];omega),e]
  simp only [h1,h2,decide_true,decide_false]
  rw [show (!(true==false))=true by rfl,cond_true,zp6 _ (by rw [zmj (by omega) (by omega)];omega),zmj (by omega) (by omega)]
  rw [Int.neg_neg]
 ·have e:(zbS a).val*(zbS b).val= -(a.val*b.val):=by rw [sa,sb,if_neg h1,if_pos h2,Int.mul_neg]
  have hp:0 <= -(a.val*b.val):=by have:=Int.mul_nonneg (a:=a.val) (b:= -b.val) (by omega) (by omega);rwa [Int.mul_neg] at this
  rw [pos _ _ (by rw [e];exact hp) (by rw [e];omega),e]
  simp only [h1,h2,decide_true,decide_false]
  rw [show (!(false==true))=true by rfl,cond_true,zp6 _ (by rw [zmj (by omega) (by omega)];omega),zmj (by omega) (by omega)]
  rw [Int.neg_neg]
 ·have e:(zbS a).val*(zbS b).val=a.val*b.val:=by rw [sa,sb,if_neg h1,if_neg h2]
  have hp:0<=a.val*b.val:=Int.mul_nonneg (by omega) (by omega)
  rw [pos _ _ (by rw [e];exact hp) (by rw [e];omega),e]
  simp [h1,h2]
theorem zl3 (a b:I64):zco a b=mkW (a.val*b.val):=by
 have ha:=a.bd;have hb:=b.bd
 have hm:=zgA ha hb
 simp only [zco,zkY,Tr.get,zxS]
 by_cases h1:a.val<0<;>by_cases h2:b.val<0
 ·have ea:(Rng.w .u64 a.val).val=a.val+18446744073709551616:=by rw [zbC];omega
  have eb:(Rng.w .u64 b.val).val=b.val+18446744073709551616:=by rw [zbC];omega
  have e:(a.val+18446744073709551616)*(b.val+18446744073709551616)=a.val*b.val+(a.val+b.val+18446744073709551616)*18446744073709551616:=by grind
  simp only [h1,h2,decide_true,cond_true,ea,eb,e,mkW]
  rw [Wide.mk.injEq]
  exact ⟨rext (by simp only [zg0,zbC];omega),rext (by simp only [zbC];omega)⟩
 ·have ea:(Rng.w .u64 a.val).val=a.val+18446744073709551616:=by rw [zbC];omega
  have eb:(Rng.w .u64 b.val).val=b.val:=by rw [zbC];omega
  have e:(a.val+18446744073709551616)*b.val=a.val*b.val+b.val*18446744073709551616:=by grind
  simp only [h1,h2,decide_true,decide_false,cond_true,cond_false,ea,eb,e,mkW]
  rw [Wide.mk.injEq]
  exact ⟨rext (by simp only [zg0,zbC];omega),rext (by simp only [zbC];omega)⟩
 ·have ea:(Rng.w .u64 a.val).val=a.val:=by rw [zbC];omega
  have eb:(Rng.w .u64 b.val).val=b.val+18446744073709551616:=by rw [zbC];omega
  have e:a.val*(b.val+18446744073709551616)=a.val*b.val+a.val*18446744073709551616:=by grind
  simp only [h1,h2,decide_true,decide_false,cond_true,cond_false,ea,eb,e,mkW]
  rw [Wide.mk.injEq]
  exact ⟨rext (by simp only [zg0,zbC];omega),rext (by simp only [zbC];omega)⟩
 ·have ea:(Rng.w .u64 a.val).val=a.val:=by rw [zbC];omega
  have eb:(Rng.w .u64 b.val).val=b.val:=by rw [zbC];omega
  simp only [h1,h2,decide_false,cond_false,ea,eb,mkW]
  rw [Wide.mk.injEq]
  exact ⟨rext (by simp only [zg0,zbC];omega),rfl⟩
end Go.Proofs.YtaoakfodkoifoaaGreat.Ev
/-
 Plain laws: the quotient of a number of two halves by one: bit by bit,and by Knuth's digits.
-/
namespace Go.Proofs.YtaoakfodkoifoaaGreat.Ev
open Go
theorem zMv (x:Int) (k:Nat):x.fdiv (2^k)=x/2^k:=Int.fdiv_eq_ediv_of_nonneg x (Int.pow_nonneg (by decide))
theorem zD5 {k:Nat} (h:k<=63):(2:Int)^k<=9223372036854775808:=by
 have:=Nat.pow_le_pow_of_le (a:=2) (by decide) h
 have h2:((2^k:Nat):Int)<=((2^63:Nat):Int):=Int.ofNat_le.2 this
 have e:((2^63:Nat):Int)=9223372036854775808:=by decide
 rw [e] at h2
 simpa using h2
theorem zOf {lo:Int} (K:Int) (hK:0<K):lo%(K*2)=lo/K%2*K+lo%K:=by
 have h1:=Int.emod_emod_of_dvd lo (Int.dvd_mul_right K 2)
 have h2:=Int.mul_ediv_add_emod (lo%(K*2)) K
 rw [h1] at h2
 have h3:lo%(K*2)/K=lo/K%2:=by
  rw [Int.emod_def lo (K*2),Int.emod_def (lo/K) 2,<- Int.ediv_ediv_of_nonneg (Int.le_of_lt hK)]
  have:lo-K*2*(lo/K/2)=lo+K*(-(2*(lo/K/2))):=by grind
  rw [this,Int.add_mul_ediv_left _ _ (by omega)]
  omega
 rw [h3] at h2
 rw [Int.mul_comm] at h2
 omega
theorem zzT {d r t K L:Int} (hd:0<d):((r-d*t)*K+L)%d=(r*K+L)%d/\((r-d*t)*K+L)/d+t*K=(r*K+L)/d:=by
 have e:r*K+L=(r-d*t)*K+L+t*K*d:=by grind
 rw [e]
 exact ⟨(Int.add_mul_emod_self_right _ _ _).symm,(Int.add_mul_ediv_right _ _ (by omega)).symm⟩
theorem zDv (d lo qh:U64) (hd:0<d.val):∀(k:Nat) (m:Nat) (rest q:U64) (i:I64),k<=64->i.val=(k:Int)-1->rest.val<d.val->q.val<2^(64-k)->
  (Lf zdg (k+1+m) ⟨lo,d,qh,rest,q,i⟩).opt=
   some ⟨lo,d,qh,.w .u64 ((rest.val*2^k+lo.val%2^k)%d.val),.w .u64 (q.val*2^k+(rest.val*2^k+lo.val%2^k)/d.val),.w .i64 (-1)⟩:=by
 intro k
 induction k with
 | zero=>
  intro m rest q i _ hi hr hq
  have br:=rest.ubd
  have hi':¬(i.val>=0):=by omega
  simp only [Lf,zdg,hi',decide_false,Tr.bind,Tr.opt,cond_false,Nat.zero_add,Nat.add_comm 1 m]
  have e1:(rest.val*2^0+lo.val%2^0)=rest.val:=by simp
  rw [e1,Int.emod_eq_of_lt (by omega) hr,Int.ediv_eq_zero_of_lt (by omega) hr]
  simp
  exact rext (by rw [wi (by omega) (by omega)];omega)
 | succ k ih=>
  intro m rest q i hk hi hr hq
  have br:=rest.ubd;have bq:=q.ubd;have bl:=lo.ubd;have bd:=d.ubd
  have hi':i.val>=0:=by omega
  have hK:(0:Int)<2^k:=Int.pow_pos (by decide)
  have hshift:(2:Int)^min ((Rng.w .u64 i.val).val).toNat 64=2^k:=by
   rw [wu (by omega) (by omega)];congr 1;omega
  have hbit:(Rng.w .u64 (lo.val.fdiv (2^k))).val=lo.val/2^k:=by
   rw [zMv]
   have h1:0<=lo.val/2^k:=Int.ediv_nonneg bl.1 (Int.le_of_lt hK)
   have h2:lo.val/2^k<=lo.val:=Int.ediv_le_self _ bl.1
   exact wu h1 (by omega)
  have hc7:(Rng.w .u64 (zbI .or .u64 (Rng.w .u64 (rest.val*2)).val (Rng.w .u64 (zbI .and .u64 (Rng.w .u64 (lo.val.fdiv (2^k))).val 1)).val)).val=
    (rest.val*2)%18446744073709551616+lo.val/2^k%2:=by
   rw [and_one,hbit,zbC (rest.val*2)]
   rw [zx1 1 ((rest.val*2%18446744073709551616/2).toNat) (by omega) (by omega) (by omega) (by omega)]
   exact wu (by omega) (by omega)
  have hc8:(Rng.w .u64 (q.val*2)).val=q.val*2:=by
   have:=zD5 (show 64-(k+1)<=63 by omega)
   exact wu (by omega) (by omega)
  have hq8:(Rng.w .u64 (zbI .or .u64 (Rng.w .u64 (q.val*2)).val 1)).val=q.val*2+1:=by
   have:=zD5 (show 64-(k+1)<=63 by omega)
   rw [hc8,zx1 1 q.val.toNat (by omega) (by omega) (by omega) (by omega)]
   exact wu (by omega) (by omega)
  have hi1:(Rng.w .i64 (i.val-1)).val=(k:Int)-1:=by rw [wi (by omega) (by omega)];omega
  have hp:(2:Int)^(64-k)=2^(64-(k+1))*2:=by
   rw [<- Int.pow_succ];congr 1;omega
  have hp1:(2:Int)^(k+1)=2^k*2:=Int.pow_succ 2 k
  have hV:lo.val%2^(k+1)=lo.val/2^k%2*2^k+lo.val%2^k:=by rw [hp1];exact zOf _ hK
  generalize hbb:lo.val/2^k%2=bb at *
  have hbb01:bb=0\/bb=1:=by omega
  have goal_of:∀(t:Int) (rest' q':U64),rest'.val=rest.val*2+bb-d.val*t->q'.val=q.val*2+t->(rest'.val<d.val)->(t=0\/t=1)->
    (Lf zdg (k+1+m) ⟨lo,d,qh,rest',q',.w .i64 (i.val-1)⟩).opt=
    some ⟨lo,d,qh,.w .u64 ((rest.val*2^(k+1)+lo.val%2^(k+1))%d.val),.w .u64 (q.val*2^(k+1)+(rest.val*2^(k+1)+lo.val%2^(k+1))/d.val),.w .i64 (-1)⟩:=by
   intro t rest' q' h1 h2 h3 h4
   rw [ih m rest' q' _ (by omega) hi1 h3 (by rw [hp];omega)]
   have e:rest.val*2^(k+1)+lo.val%2^(k+1)=(rest.val*2+bb)*2^k+lo.val%2^k:=by rw [hV,hp1];grind
   rw [e,h1,h2]
   obtain ⟨s1,s2⟩:=zzT (r:=rest.val*2+bb) (t:=t) (K:=2^k) (L:=lo.val%2^k) hd
   rw [s1,<- s2]
   have e2:(q.val*2+t)*2^k+((rest.val*2+bb-d.val*t)*2^k+lo.val%2^k)/d.val=q.val*2^(k+1)+(((rest.val*2+bb-d.val*t)*2^k+lo.val%2^k)/d.val+t*2^k):=by
    rw [hp1];grind
   rw [e2]
  have hfuel:k+1+1+m=(k+1+m)+1:=by omega
  rw [hfuel]
  simp only [Lf,zdg,hi',decide_true,Tr.bind,cond_true,Tr.opt,hshift]
  by_cases ht:rest.val>=9223372036854775808
  ·have htop:((Rng.w .u64 (rest.val.fdiv 9223372036854775808)).val==1)=true:=by
    rw [fd63,wu (by omega) (by omega)];simp;omega
   simp only [htop,cond_true]
   refine goal_of 1 _ _ ?_ hq8 ?_ (.inr rfl)
   ·rw [zbC,hc7];omega
   ·rw [zbC,hc7];omega
  ·have htop:((Rng.w .u64 (rest.val.fdiv 9223372036854775808)).val==1)=false:=by
    rw [fd63,wu (by omega) (by omega)];simp;omega
   simp only [htop,cond_false]
   by_cases hge:(rest.val*2)%18446744073709551616+bb>=d.val
   ·have hge':decide ((Rng.w .u64 (zbI .or .u64 (Rng.w .u64 (rest.val*2)).val (Rng.w .u64 (zbI .and .u64 (Rng.w .u64 (lo.val.fdiv (2^k))).val 1)).val)).val>=d.val)=true:=by
     rw [hc7];simpa using hge
    simp only [hge',cond_true]
    refine goal_of 1 _ _ ?_ hq8 ?_ (.inr rfl)
    ·rw [zbC,hc7];omega
    ·rw [zbC,hc7];omega
   ·have hge':decide ((Rng.w .u64 (zbI .or .u64 (Rng.w .u64 (rest.val*2)).val (Rng.w .u64 (zbI .and .u64 (Rng.w .u64 (lo.val.fdiv (2^k))).val 1)).val)).val>=d.val)=false:=by
     rw [hc7];simpa using hge
    simp only [hge',cond_false]
    refine goal_of 0 _ _ ?_ (by rw [hc8];omega) ?_ (.inl rfl)
    ·rw [hc7];omega
    ·rw [hc7];omega
def two (hi lo:Int):Int:=hi*18446744073709551616+lo
theorem zLh {hi lo d:Int} (hd:0<d):(hi%d*18446744073709551616+lo)%d=two hi lo%d/\(hi%d*18446744073709551616+lo)/d+hi/d*18446744073709551616=two hi lo/d:=by
 have:=zzT (d:=d) (r:=hi) (t:=hi/d) (K:=18446744073709551616) (L:=lo) hd
 rw [<- Int.emod_def] at this
 exact this
theorem zM9 {r lo d:Int} (hd:0<d) (hr:0<=r) (hr':r<d) (hl:0<=lo) (hl':lo<=18446744073709551615):0<=two r lo/\two r lo/d<=18446744073709551615/\0<=two r lo/d:=by
 have h0:0<=two r lo:=by unfold two;omega
 refine ⟨h0,?_,Int.ediv_nonneg h0 (Int.le_of_lt hd)⟩
 have:two r lo<18446744073709551616*d:=by unfold two;omega
 have:=Int.ediv_lt_of_lt_mul hd this
 omega
theorem zBI (hi lo d:U64) (hd:0<d.val):(zgt hi lo d).opt=some ⟨.w .u64 (hi.val/d.val),.w .u64 (two (hi.val%d.val) lo.val/d.val),.w .u64 (two (hi.val%d.val) lo.val%d.val)⟩:=by
 have b1:=hi.ubd;have b2:=lo.ubd;have b3:=d.ubd
 have h0:(d.val==0)=false:=by simp;omega
 have e1:hi.val.tdiv d.val=hi.val/d.val:=Int.tdiv_eq_ediv_of_nonneg b1.1
 have e2:hi.val.tmod d.val=hi.val%d.val:=Int.tmod_eq_emod_of_nonneg b1.1
 have m1:=Int.emod_nonneg hi.val (b:=d.val) (by omega)
 have m2:=Int.emod_lt_of_pos hi.val hd
 have er:(Rng.w .u64 (hi.val%d.val)).val=hi.val%d.val:=wu m1 (by omega)
 have hl:=zDv d lo (Rng.w .u64 (hi.val/d.val)) hd 64 1 (Rng.w .u64 (hi.val%d.val)) ⟨0,rfl⟩ ⟨63,rfl⟩ (by omega) (by rfl) (by rw [er];exact m2) (by decide)
 have hfuel:(64+1+1:Nat)=66:=rfl
 rw [hfuel] at hl
 have hG:zg7 ⟨lo,d,Rng.w .u64 (hi.val/d.val),Rng.w .u64 (hi.val%d.val),⟨0,rfl⟩,⟨63,rfl⟩⟩=true:=by unfold zg7;rw [hl];rfl
 have hL:zjU ⟨lo,d,Rng.w .u64 (hi.val/d.val),Rng.w .u64 (hi.val%d.val),⟨0,rfl⟩,⟨63,rfl⟩⟩=_:=Tr.zai hl
 simp only [zgt,h0,Tr.opt,cond_false,e1,e2,hG,cond_true,hL]
 rw [er]
 have hlo:lo.val%2^64=lo.val:=Int.emod_eq_of_lt b2.1 (by omega)
 rw [hlo]
 have:(2:Int)^64=18446744073709551616:=by decide
 rw [this]
 simp only [two,Int.zero_mul,Int.zero_add]
theorem zBJ (hi lo d:U64) (hd:0<d.val):zcQ hi lo d=⟨.w .u64 (hi.val/d.val),.w .u64 (two (hi.val%d.val) lo.val/d.val),.w .u64 (two (hi.val%d.val) lo.val%d.val)⟩:=Tr.zai (zBI hi lo d hd)
theorem zuv (hi lo d:U64) (hd:0<d.val):zgD hi lo d=true:=by unfold zgD;rw [zBI hi lo d hd];rfl
theorem len8:(List.range 256).all (fun n=>decide (n<(zjv 0).size)&&decide (n<2^(zmt (zjv 0) n).val.toNat)&&(decide (n=0)||decide (2^((zmt (zjv 0) n).val.toNat-1)<=n)) &&
  decide ((zmt (zjv 0) n).val.toNat<=8)&&(decide (n=0)||decide (1<=(zmt (zjv 0) n).val.toNat)))=true:=by kernel_rfl
theorem zMf {n:Nat} (h:n<256):n<(zjv 0).size/\n<2^(zmt (zjv 0) n).val.toNat/\(n=0\/2^((zmt (zjv 0) n).val.toNat-1)<=n) /\
  (zmt (zjv 0) n).val.toNat<=8/\(n=0\/1<=(zmt (zjv 0) n).val.toNat):=by
 have:=List.all_eq_true.1 len8 n (List.mem_range.2 h)
 simp only [Bool.and_eq_true,Bool.or_eq_true,decide_eq_true_eq] at this
 obtain ⟨⟨⟨⟨h1,h2⟩,h3⟩,h4⟩,h5⟩:=this
 exact ⟨h1,h2,h3,h4,h5⟩
def zQp (x:Int) (l:Int):Prop:=∃n:Nat,l=n/\1<=n/\n<=64/\x<2^n/\2^(n-1)<=x
theorem znq (c:U64) (hc:0<c.val) (hc':c.val<256) (k:Nat) (hk:k<=56) (x:Int) (hx:c.val=x/2^k):
  Nat.blt ((Rng.w .u8 (c.val)).val.toNat) (zjv 0).size=true/\zQp x (Rng.w .i64 (k+(Rng.w .i64 ((zmt (zjv 0) ((Rng.w .u8 (c.val)).val.toNat)).val)).val)).val:=by
 have e8:(Rng.w .u8 c.val).val=c.val:=ze9 (k:= .u8) (by simp [inB];omega)
 rw [e8]
 obtain ⟨h1,h2,h3,h4,h5⟩:=zMf (n:=c.val.toNat) (by omega)
 refine ⟨by simpa using h1,?_⟩
 have hb:=(zmt (zjv 0) c.val.toNat).bbd
 generalize (zmt (zjv 0) c.val.toNat).val=l at *
 obtain ⟨n,rfl⟩:=Int.eq_ofNat_of_zero_le hb.1
 simp only [Int.toNat_natCast] at h1 h2 h3 h4 h5
 rw [wi (n:=(n:Int)) (by omega) (by omega),wi (by omega) (by omega)]
 have hK:(0:Int)<2^k:=Int.pow_pos (by decide)
 have h2':c.val<2^n:=by
  have:((c.val.toNat:Nat):Int)<((2^n:Nat):Int):=Int.ofNat_lt.2 h2
  simp at this;omega
 have h3':2^(n-1)<=c.val:=by
  rcases h3 with h3|h3
  ·omega
  ·have:((2^(n-1):Nat):Int)<=((c.val.toNat:Nat):Int):=Int.ofNat_le.2 h3
   simp at this;omega
 refine ⟨k+n,by simp,by omega,by omega,?_,?_⟩
 ·rw [Int.pow_add]
  have:x<2^k*(x/2^k+1):=by
   have:=Int.mul_ediv_add_emod x (2^k);have:=Int.emod_lt_of_pos x hK;grind
  have:=Int.mul_le_mul_of_nonneg_left (show x/2^k+1<=2^n by omega) (Int.le_of_lt hK)
  omega
 ·rw [show k+n-1=k+(n-1) by omega,Int.pow_add]
  have:=Int.mul_le_mul_of_nonneg_left (show (2:Int)^(n-1)<=x/2^k by omega) (Int.le_of_lt hK)
  have:=Int.mul_ediv_add_emod x (2^k);have:=Int.emod_nonneg x (b:=2^k) (by omega)
  omega
theorem zmv (x:U64) (m:Int) (hm:0<m):(Rng.w .u64 (x.val.fdiv m)).val=x.val/m:=by
 have b:=x.ubd
 rw [Int.fdiv_eq_ediv_of_nonneg x.val (Int.le_of_lt hm)]
 have h1:0<=x.val/m:=Int.ediv_nonneg b.1 (Int.le_of_lt hm)
 have h2:x.val/m<=x.val:=Int.ediv_le_self _ b.1
 exact wu h1 (by omega)
theorem zNQ (x:U64) (hx:0<x.val):∃l,(zfM x).opt=some l/\zQp x.val l.val:=by
 have b:=x.ubd
 have p8:(2:Int)^8=256:=by decide
 have p16:(2:Int)^16=65536:=by decide
 have p24:(2:Int)^24=16777216:=by decide
 have p32:(2:Int)^32=4294967296:=by decide
 have p40:(2:Int)^40=1099511627776:=by decide
 have p48:(2:Int)^48=281474976710656:=by decide
 have p56:(2:Int)^56=72057594037927936:=by decide
 have p0:(2:Int)^0=1:=by decide
 simp only [zfM,Tr.opt]
 by_cases h1:x.val>=4294967296
 ·simp only [h1,decide_true,cond_true]
  have e1:=zmv x 4294967296 (by decide)
  generalize Rng.w .u64 (x.val.fdiv 4294967296)=c at *
  by_cases h2:c.val>=65536
  ·simp only [h2,decide_true,cond_true]
   have e2:=zmv c 65536 (by decide)
   generalize Rng.w .u64 (c.val.fdiv 65536)=c2 at *
   by_cases h3:c2.val>=256
   ·simp only [h3,decide_true,cond_true]
    have e3:=zmv c2 256 (by decide)
    generalize Rng.w .u64 (c2.val.fdiv 256)=c3 at *
    obtain ⟨g1,g2⟩:=znq c3 (by omega) (by omega) 56 (by omega) x.val (by rw [p56];omega)
    simp only [g1,cond_true];exact ⟨_,rfl,g2⟩
   ·simp only [h3,decide_false,cond_false]
    obtain ⟨g1,g2⟩:=znq c2 (by omega) (by omega) 48 (by omega) x.val (by rw [p48];omega)
    simp only [g1,cond_true];exact ⟨_,rfl,g2⟩
  ·simp only [h2,decide_false,cond_false]
   by_cases h3:c.val>=256
   ·simp only [h3,decide_true,cond_true]
    have e3:=zmv c 256 (by decide)
    generalize Rng.w .u64 (c.val.fdiv 256)=c3 at *
    obtain ⟨g1,g2⟩:=znq c3 (by omega) (by omega) 40 (by omega) x.val (by rw [p40];omega)
    simp only [g1,cond_true];exact ⟨_,rfl,g2⟩
   ·simp only [h3,decide_false,cond_false]
    obtain ⟨g1,g2⟩:=znq c (by omega) (by omega) 32 (by omega) x.val (by rw [p32];omega)
    simp only [g1,cond_true];exact ⟨_,rfl,g2⟩
 ·simp only [h1,decide_false,cond_false]
  by_cases h2:x.val>=65536
  ·simp only [h2,decide_true,cond_true]
   have e2:=zmv x 65536 (by decide)
   generalize Rng.w .u64 (x.val.fdiv 65536)=c2 at *
   by_cases h3:c2.val>=256
   ·simp only [h3,decide_true,cond_true]
    have e3:=zmv c2 256 (by decide)
    generalize Rng.w .u64 (c2.val.fdiv 256)=c3 at *
    obtain ⟨g1,g2⟩:=znq c3 (by omega) (by omega) 24 (by omega) x.val (by rw [p24];omega)
    simp only [g1,cond_true];exact ⟨_,rfl,g2⟩
   ·simp only [h3,decide_false,cond_false]
    obtain ⟨g1,g2⟩:=znq c2 (by omega) (by omega) 16 (by omega) x.val (by rw [p16];omega)
    simp only [g1,cond_true];exact ⟨_,rfl,g2⟩
  ·simp only [h2,decide_false,cond_false]
   by_cases h3:x.val>=256
   ·simp only [h3,decide_true,cond_true]
    have e3:=zmv x 256 (by decide)
    generalize Rng.w .u64 (x.val.fdiv 256)=c3 at *
    obtain ⟨g1,g2⟩:=znq c3 (by omega) (by omega) 8 (by omega) x.val (by rw [p8];omega)
    simp only [g1,cond_true];exact ⟨_,rfl,g2⟩
   ·simp only [h3,decide_false,cond_false]
    obtain ⟨g1,g2⟩:=znq x (by omega) (by omega) 0 (by omega) x.val (by rw [p0];omega)
    simp only [g1,cond_true];exact ⟨_,rfl,g2⟩
theorem zQN (x:U64) (hx:0<x.val):∃s:Nat,s<=63/\(zcx x).opt=some (.w .i64 s)/\x.val*2^s<18446744073709551616/\9223372036854775808<=x.val*2^s:=by
 obtain ⟨l,h1,n,hl,hn1,hn2,hlt,hge⟩:=zNQ x hx
 have hG:zia x=true:=by unfold zia;rw [h1];rfl
 have hF:zkH x=l:=Tr.zai h1
 have hp:(0:Int)<2^(64-n):=Int.pow_pos (by decide)
 have e1:(2:Int)^n*2^(64-n)=18446744073709551616:=by rw [<- Int.pow_add,show n+(64-n)=64 by omega];decide
 have e2:(2:Int)^(n-1)*2^(64-n)=9223372036854775808:=by rw [<- Int.pow_add,show n-1+(64-n)=63 by omega];decide
 refine ⟨64-n,by omega,?_,?_,?_⟩
 ·simp only [zcx,Tr.opt,hG,hF,cond_true]
  congr 2
  omega
 ·have:=Int.mul_lt_mul_of_pos_right hlt hp
  omega
 ·have:=Int.mul_le_mul_of_nonneg_right hge (Int.le_of_lt hp)
  omega
theorem zHB {v1 v0 u2 u1 q r:Int} (hY:0<v1*4294967296+v0) (inv:q*v1+r=u2):
  (u2*4294967296+u1)/(v1*4294967296+v0)<q↔4294967296*r+u1<q*v0:=by
 rw [Int.ediv_lt_iff_lt_mul hY]
 have e:q*(v1*4294967296+v0)=q*v1*4294967296+q*v0:=by grind
 rw [e]
 omega
theorem zsU {v1 v0 u2 u1:Int} (h1:2147483648<=v1) (h3:0<=v0) (h5:0<=u1) (h6:u1<4294967296) (h7:0<=u2) (h8:u2<v1*4294967296+v0):
  0<=(u2*4294967296+u1)/(v1*4294967296+v0)/\(u2*4294967296+u1)/(v1*4294967296+v0)<4294967296:=by
 refine ⟨Int.ediv_nonneg (by omega) (by omega),?_⟩
 exact Int.ediv_lt_of_lt_mul (by omega) (by omega)
theorem zMi {v1 v0 u2 u1:Int} (h1:2147483648<=v1) (h2:v1<4294967296) (h3:0<=v0) (h4:v0<4294967296) (h5:0<=u1) (h6:u1<4294967296) (h7:0<=u2) (h8:u2<v1*4294967296+v0):
  (u2*4294967296+u1)/(v1*4294967296+v0)<=u2/v1/\u2/v1<=4294967297:=by
 have hm:=Int.mul_ediv_add_emod u2 v1
 have m1:=Int.emod_nonneg u2 (b:=v1) (by omega)
 have m2:=Int.emod_lt_of_pos u2 (b:=v1) (by omega)
 have hq0:0<=u2/v1:=Int.ediv_nonneg h7 (by omega)
 constructor
 ·refine Int.not_lt.1 fun hlt=>?_
  -- then one more than the guess is at most the digit
  have h:=(Int.le_ediv_iff_mul_le (c:=v1*4294967296+v0) (by omega)).1 (show u2/v1+1<=(u2*4294967296+u1)/(v1*4294967296+v0) by omega)
  have e:(u2/v1+1)*(v1*4294967296+v0)=(v1*(u2/v1))*4294967296+v1*4294967296+(u2/v1+1)*v0:=by grind
  have:0<=(u2/v1+1)*v0:=Int.mul_nonneg (by omega) h3
  omega
 ·have:u2/v1<4294967298:=Int.ediv_lt_of_lt_mul (by omega) (by omega)
  omega
theorem zNR {v1 v0 u2 u1 q r:Int} (h1:2147483648<=v1) (h3:0<=v0) (h4:v0<4294967296) (h5:0<=u1) (inv:q*v1+r=u2) (hq0:0<=q) (hq:q<=4294967296) (hr:4294967296<=r):
  q<=(u2*4294967296+u1)/(v1*4294967296+v0):=by
 refine Int.not_lt.1 fun hlt=>?_
 have:=(zHB (u1:=u1) (by omega) inv).1 hlt
 have h:=Int.mul_le_mul hq (show v0<=4294967295 by omega) h3 (by omega)
 omega
end Go.Proofs.YtaoakfodkoifoaaGreat.Ev
/-
 Plain laws: Knuth's digits give the quotient;the quotient of a wide number;the quotients of fixed numbers.
-/
namespace Go.Proofs.YtaoakfodkoifoaaGreat.Ev
open Go
structure KInv (v1 v0 u2 u1 q r:Int):Prop where
 h1:2147483648<=v1
 h2:v1<4294967296
 h3:0<=v0
 h4:v0<4294967296
 h5:0<=u1
 h6:u1<4294967296
 h7:0<=u2
 h8:u2<v1*4294967296+v0
 inv:q*v1+r=u2
 hr:0<=r
 hr':r<4294967296
 hq:(u2*4294967296+u1)/(v1*4294967296+v0)<=q
 hq':q<=4294967297
theorem KInv.pos {v1 v0 u2 u1 q r:Int} (h:KInv v1 v0 u2 u1 q r):0<=q:=by
 have:=zsU h.h1 h.h3 h.h5 h.h6 h.h7 h.h8
 have:=h.hq
 omega
theorem KInv.next {v1 v0 u2 u1 q r:Int} (h:KInv v1 v0 u2 u1 q r) (hlt:(u2*4294967296+u1)/(v1*4294967296+v0)<q) (hr:r+v1<4294967296):KInv v1 v0 u2 u1 (q-1) (r+v1):=by
 refine ⟨h.h1,h.h2,h.h3,h.h4,h.h5,h.h6,h.h7,h.h8,?_,?_,hr,by omega,?_⟩
 ·have:=h.inv;have e:(q-1)*v1=q*v1-v1:=by grind
  omega
 ·have:=h.hr;have:=h.h1;omega
 ·have:=h.hq';omega
theorem KInv.last {v1 v0 u2 u1 q r : Int} (h : KInv v1 v0 u2 u1 q r) (hlt : (u2 * 4294967296 + u1) / (v1 * 4294967296 + v0) < q) (hr : 4294967296 <= r + v1) :
    q - 1 = (u2 * 4294967296 + u1) / (v1 * 4294967296 + v0) := by
  have hp := zsU h.h1 h.h3 h.h5 h.h6 h.h7 h.h8
  have hq' := h.hq'
  have e : (q - 1) * v1 + (r + v1) = u2 := by have := h.inv;have e : (q - 1) * v1 = q * v1 - v1 := by grind
                                              omega
  have := zNR (u1 := u1) h.h1 h.h3 h.h4 h.h5 e (by omega) (by omega) hr
  omega
theorem KInv.look {v1 v0 u2 u1 q r:Int} (h:KInv v1 v0 u2 u1 q r) (hq:q<4294967296):0<=q*v0/\q*v0<=18446744065119617025:=by
 have h0:=h.pos
 refine ⟨Int.mul_nonneg h0 h.h3,?_⟩
 have:=Int.mul_le_mul (show q<=4294967295 by omega) (show v0<=4294967295 by have:=h.h4;omega) h.h3 (by omega)
 omega
theorem zEB (x:zbf) {u2:Int} (h:KInv x.x2.val x.x3.val u2 x.x5.val x.x7.val x.x8.val):
  (∃y,(zbd x).opt=some (.out ⟨x.x0,x.x1,x.x2,x.x3,x.x4,x.x5,x.x6,.w .u64 ((u2*4294967296+x.x5.val)/(x.x2.val*4294967296+x.x3.val)),y⟩)) \/
  (∃q r,(zbd x).opt=some (.again ⟨x.x0,x.x1,x.x2,x.x3,x.x4,x.x5,x.x6,q,r⟩)/\KInv x.x2.val x.x3.val u2 x.x5.val q.val r.val/\r.val=x.x8.val+x.x2.val):=by
 have b7:=x.x7.ubd;have b8:=x.x8.ubd
 have hr:=h.hr;have hr':=h.hr';have h1:=h.h1;have h2:=h.h2;have h5:=h.h5;have h6:=h.h6;have hq:=h.hq
 have hc:=zHB (v1:=x.x2.val) (v0:=x.x3.val) (u1:=x.x5.val) (by have:=h.h3;omega) h.inv
 have hdig:=zsU h.h1 h.h3 h.h5 h.h6 h.h7 h.h8
 have eq7:∀hq0:0<x.x7.val,(Rng.w .u64 (x.x7.val-1)).val=x.x7.val-1:=fun hq0=>wu (by omega) (by omega)
 have eq8:(Rng.w .u64 (x.x8.val+x.x2.val)).val=x.x8.val+x.x2.val:=wu (by omega) (by omega)
 have esum:(Rng.w .u64 ((Rng.w .u64 (4294967296*x.x8.val)).val+x.x5.val)).val=4294967296*x.x8.val+x.x5.val:=by
  rw [wu (n:=4294967296*x.x8.val) (by omega) (by omega)];exact wu (by omega) (by omega)
 -- what is done where the guess is above
 have down:(u2*4294967296+x.x5.val)/(x.x2.val*4294967296+x.x3.val)<x.x7.val->
   (bif decide ((Rng.w .u64 (x.x8.val+x.x2.val)).val>=4294967296) then some (Lp.out (⟨x.x0,x.x1,x.x2,x.x3,x.x4,x.x5,x.x6,Rng.w .u64 (x.x7.val-1),Rng.w .u64 (x.x8.val+x.x2.val)⟩:zbf))
    else some (.again ⟨x.x0,x.x1,x.x2,x.x3,x.x4,x.x5,x.x6,Rng.w .u64 (x.x7.val-1),Rng.w .u64 (x.x8.val+x.x2.val)⟩))=(zbd x).opt->
   (∃y,(zbd x).opt=some (.out ⟨x.x0,x.x1,x.x2,x.x3,x.x4,x.x5,x.x6,.w .u64 ((u2*4294967296+x.x5.val)/(x.x2.val*4294967296+x.x3.val)),y⟩)) \/
   (∃q r,(zbd x).opt=some (.again ⟨x.x0,x.x1,x.x2,x.x3,x.x4,x.x5,x.x6,q,r⟩)/\KInv x.x2.val x.x3.val u2 x.x5.val q.val r.val/\r.val=x.x8.val+x.x2.val):=by
  intro hlt he
  by_cases hbig:x.x8.val+x.x2.val>=4294967296
  ·left
   have hl:=h.last hlt hbig
   refine ⟨Rng.w .u64 (x.x8.val+x.x2.val),?_⟩
   rw [<- he,eq8]
   simp only [hbig,decide_true,cond_true]
   rw [hl]
  ·right
   refine ⟨Rng.w .u64 (x.x7.val-1),Rng.w .u64 (x.x8.val+x.x2.val),?_,?_,eq8⟩
   ·rw [<- he,eq8]
    simp only [hbig,decide_false,cond_false]
   ·rw [eq7 (by omega),eq8]
    exact h.next hlt (by omega)
 by_cases hbig:x.x7.val>=4294967296
 ·refine down (by omega) ?_
  simp only [zbd,hbig,decide_true,Tr.opt,cond_true]
 ·have hlook:=h.look (by omega)
  have ep:(Rng.w .u64 (x.x7.val*x.x3.val)).val=x.x7.val*x.x3.val:=wu hlook.1 (by omega)
  by_cases hgt:x.x7.val*x.x3.val>4294967296*x.x8.val+x.x5.val
  ·refine down (hc.2 hgt) ?_
   simp only [zbd,hbig,decide_false,Tr.opt,cond_false,ep,esum,hgt,decide_true,cond_true]
  ·left
   have:¬(u2*4294967296+x.x5.val)/(x.x2.val*4294967296+x.x3.val)<x.x7.val:=fun hh=>hgt (hc.1 hh)
   have e:(u2*4294967296+x.x5.val)/(x.x2.val*4294967296+x.x3.val)=x.x7.val:=by omega
   refine ⟨x.x8,?_⟩
   simp only [zbd,hbig,decide_false,Tr.opt,cond_false,ep,esum,hgt,e,Rng.w_val]
theorem k17 (x:zbf) {u2:Int} (h:KInv x.x2.val x.x3.val u2 x.x5.val x.x7.val x.x8.val):
  ∃y,(Lf zbd 4 x).opt=some ⟨x.x0,x.x1,x.x2,x.x3,x.x4,x.x5,x.x6,.w .u64 ((u2*4294967296+x.x5.val)/(x.x2.val*4294967296+x.x3.val)),y⟩:=by
 have h1:=h.h1;have hr:=h.hr
 simp only [Lf,Tr.zno]
 rcases zEB x h with ⟨y,hy⟩|⟨q,r,hy,hi,he⟩
 ·rw [hy];exact ⟨y,rfl⟩
 ·rw [hy]
  simp only [Tr.zno]
  rcases zEB (⟨x.x0,x.x1,x.x2,x.x3,x.x4,x.x5,x.x6,q,r⟩:zbf) (u2:=u2) hi with ⟨y,hy⟩|⟨q',r',hy,hi',he'⟩
  ·rw [hy];exact ⟨y,rfl⟩
  ·exfalso
   have:=hi'.hr'
   simp only at he'
   omega
theorem zEA (x:zbe) {u2:Int} (h:KInv x.x2.val x.x3.val u2 x.x4.val x.x8.val x.x6.val):
  (∃y,(zbc x).opt=some (.out ⟨x.x0,x.x1,x.x2,x.x3,x.x4,x.x5,y,x.x7,.w .u64 ((u2*4294967296+x.x4.val)/(x.x2.val*4294967296+x.x3.val))⟩)) \/
  (∃q r,(zbc x).opt=some (.again ⟨x.x0,x.x1,x.x2,x.x3,x.x4,x.x5,r,x.x7,q⟩)/\KInv x.x2.val x.x3.val u2 x.x4.val q.val r.val/\r.val=x.x6.val+x.x2.val):=by
 have b7:=x.x8.ubd;have b8:=x.x6.ubd
 have hr:=h.hr;have hr':=h.hr';have h1:=h.h1;have h2:=h.h2;have h5:=h.h5;have h6:=h.h6;have hq:=h.hq
 have hc:=zHB (v1:=x.x2.val) (v0:=x.x3.val) (u1:=x.x4.val) (by have:=h.h3;omega) h.inv
 have hdig:=zsU h.h1 h.h3 h.h5 h.h6 h.h7 h.h8
 have eq7:∀hq0:0<x.x8.val,(Rng.w .u64 (x.x8.val-1)).val=x.x8.val-1:=fun hq0=>wu (by omega) (by omega)
 have eq8:(Rng.w .u64 (x.x6.val+x.x2.val)).val=x.x6.val+x.x2.val:=wu (by omega) (by omega)
 have esum:(Rng.w .u64 ((Rng.w .u64 (4294967296*x.x6.val)).val+x.x4.val)).val=4294967296*x.x6.val+x.x4.val:=by
  rw [wu (n:=4294967296*x.x6.val) (by omega) (by omega)];exact wu (by omega) (by omega)
 have down:(u2*4294967296+x.x4.val)/(x.x2.val*4294967296+x.x3.val)<x.x8.val->
   (bif decide ((Rng.w .u64 (x.x6.val+x.x2.val)).val>=4294967296) then some (Lp.out (⟨x.x0,x.x1,x.x2,x.x3,x.x4,x.x5,Rng.w .u64 (x.x6.val+x.x2.val),x.x7,Rng.w .u64 (x.x8.val-1)⟩:zbe))
    else some (.again ⟨x.x0,x.x1,x.x2,x.x3,x.x4,x.x5,Rng.w .u64 (x.x6.val+x.x2.val),x.x7,Rng.w .u64 (x.x8.val-1)⟩))=(zbc x).opt->
   (∃y,(zbc x).opt=some (.out ⟨x.x0,x.x1,x.x2,x.x3,x.x4,x.x5,y,x.x7,.w .u64 ((u2*4294967296+x.x4.val)/(x.x2.val*4294967296+x.x3.val))⟩)) \/
   (∃q r,(zbc x).opt=some (.again ⟨x.x0,x.x1,x.x2,x.x3,x.x4,x.x5,r,x.x7,q⟩)/\KInv x.x2.val x.x3.val u2 x.x4.val q.val r.val/\r.val=x.x6.val+x.x2.val):=by
  intro hlt he
  by_cases hbig:x.x6.val+x.x2.val>=4294967296
  ·left
   have hl:=h.last hlt hbig
   refine ⟨Rng.w .u64 (x.x6.val+x.x2.val),?_⟩
   rw [<- he,eq8]
   simp only [hbig,decide_true,cond_true]
   rw [hl]
  ·right
   refine ⟨Rng.w .u64 (x.x8.val-1),Rng.w .u64 (x.x6.val+x.x2.val),?_,?_,eq8⟩
   ·rw [<- he,eq8]
    simp only [hbig,decide_false,cond_false]
   ·rw [eq7 (by omega),eq8]
    exact h.next hlt (by omega)
 by_cases hbig:x.x8.val>=4294967296
 ·refine down (by omega) ?_
  simp only [zbc,hbig,decide_true,Tr.opt,cond_true]
 ·have hlook:=h.look (by omega)
  have ep:(Rng.w .u64 (x.x8.val*x.x3.val)).val=x.x8.val*x.x3.val:=wu hlook.1 (by omega)
  by_cases hgt:x.x8.val*x.x3.val>4294967296*x.x6.val+x.x4.val
  ·refine down (hc.2 hgt) ?_
   simp only [zbc,hbig,decide_false,Tr.opt,cond_false,ep,esum,hgt,decide_true,cond_true]
  ·left
   have:¬(u2*4294967296+x.x4.val)/(x.x2.val*4294967296+x.x3.val)<x.x8.val:=fun hh=>hgt (hc.1 hh)
   have e:(u2*4294967296+x.x4.val)/(x.x2.val*4294967296+x.x3.val)=x.x8.val:=by omega
   refine ⟨x.x6,?_⟩
   simp only [zbc,hbig,decide_false,Tr.opt,cond_false,ep,esum,hgt,e,Rng.w_val]
theorem k24 (x:zbe) {u2:Int} (h:KInv x.x2.val x.x3.val u2 x.x4.val x.x8.val x.x6.val):
  ∃y,(Lf zbc 4 x).opt=some ⟨x.x0,x.x1,x.x2,x.x3,x.x4,x.x5,y,x.x7,.w .u64 ((u2*4294967296+x.x4.val)/(x.x2.val*4294967296+x.x3.val))⟩:=by
 have h1:=h.h1;have hr:=h.hr
 simp only [Lf,Tr.zno]
 rcases zEA x h with ⟨y,hy⟩|⟨q,r,hy,hi,he⟩
 ·rw [hy];exact ⟨y,rfl⟩
 ·rw [hy]
  simp only [Tr.zno]
  rcases zEA (⟨x.x0,x.x1,x.x2,x.x3,x.x4,x.x5,r,x.x7,q⟩:zbe) (u2:=u2) hi with ⟨y,hy⟩|⟨q',r',hy,hi',he'⟩
  ·rw [hy];exact ⟨y,rfl⟩
  ·exfalso
   have:=hi'.hr'
   simp only at he'
   omega
theorem zzH {Y u2 u1:Int} (hY:9223372036854775808<=Y) (hY':Y<18446744073709551616) (h7:0<=u2) (h8:u2<Y) (h5:0<=u1) (h6:u1<4294967296):
  KInv (Y/4294967296) (Y%4294967296) u2 u1 (u2/(Y/4294967296)) (u2%(Y/4294967296)):=by
 have e:Y/4294967296*4294967296+Y%4294967296=Y:=by omega
 have hf:=zMi (v1:=Y/4294967296) (v0:=Y%4294967296) (u2:=u2) (u1:=u1) (by omega) (by omega) (by omega) (by omega) h5 h6 h7 (by omega)
 have m1:=Int.emod_nonneg u2 (b:=Y/4294967296) (by omega)
 have m2:=Int.emod_lt_of_pos u2 (b:=Y/4294967296) (by omega)
 have m3:=Int.mul_ediv_add_emod u2 (Y/4294967296)
 exact ⟨by omega,by omega,by omega,by omega,h5,h6,h7,by omega,by rw [Int.mul_comm];exact m3,m1,by omega,hf.1,hf.2⟩
theorem zrx {N Y q:Int} (hY:0<Y) (hY':Y<18446744073709551616) (hq:q=N/Y) (n:Int) (hn:n%18446744073709551616=N%18446744073709551616):(Rng.w .u64 (n-(Rng.w .u64 (q*Y)).val)).val=N%Y:=by
 have m1:=Int.emod_nonneg N (b:=Y) (by omega)
 have m2:=Int.emod_lt_of_pos N hY
 have m3:=Int.mul_ediv_add_emod N Y
 subst hq
 rw [Int.mul_comm] at m3
 simp only [zbC]
 omega
theorem zKh (hi lo y:U64) (hy:hi.val<y.val):(zeA hi lo y).opt=some ⟨.w .u64 (two hi.val lo.val/y.val),.w .u64 (two hi.val lo.val%y.val)⟩:=by
 have b1:=hi.ubd;have b2:=lo.ubd;have b3:=y.ubd
 have h0:(y.val==0)=false:=by simp;omega
 have hle:decide (y.val<=hi.val)=false:=by simp;omega
 by_cases hz:hi.val=0
 ·have e1:lo.val.tdiv y.val=lo.val/y.val:=Int.tdiv_eq_ediv_of_nonneg b2.1
  have e2:lo.val.tmod y.val=lo.val%y.val:=Int.tmod_eq_emod_of_nonneg b2.1
  have hz':(hi.val==0)=true:=by simp [hz]
  simp only [zeA,Tr.opt,h0,hle,hz',cond_true,cond_false,e1,e2]
  unfold two
  rw [hz]
  simp only [Int.zero_mul,Int.zero_add]
 ·have hz':(hi.val==0)=false:=by simp [hz]
  obtain ⟨s,hs,hlz,hlt,hge⟩:=zQN y (by omega)
  have hG:zdu y=true:=by unfold zdu;rw [hlz];rfl
  have hF:zeW y= .w .i64 s:=Tr.zai hlz
  have hP:(0:Int)<2^s:=Int.pow_pos (by decide)
  have hQ:(0:Int)<2^(64-s):=Int.pow_pos (by decide)
  have hPQ:(2:Int)^(64-s)*2^s=18446744073709551616:=by rw [<- Int.pow_add,show 64-s+s=64 by omega];decide
  have es:(Rng.w .u64 ((Rng.w .i64 (s:Int)).val)).val=s:=by rw [wi (by omega) (by omega)];exact wu (by omega) (by omega)
  have esn:min ((s:Int).toNat) 64=s:=by simp;omega
  have e64:(Rng.w .u64 (64-(s:Int))).val=64-s:=wu (by omega) (by omega)
  have e64n:min (((64:Int)-s).toNat) 64=64-s:=by omega
  -- the pieces
  have hU2a:0<=lo.val/2^(64-s):=Int.ediv_nonneg b2.1 (Int.le_of_lt hQ)
  have hU2b:lo.val/2^(64-s)<2^s:=Int.ediv_lt_of_lt_mul hQ (by rw [Int.mul_comm,hPQ];omega)
  have hhi:(hi.val+1)*2^s<=y.val*2^s:=Int.mul_le_mul_of_nonneg_right (by omega) (Int.le_of_lt hP)
  have hhi':(hi.val+1)*2^s=hi.val*2^s+2^s:=by grind
  have hhi0:0<=hi.val*2^s:=Int.mul_nonneg b1.1 (Int.le_of_lt hP)
  have c5:(Rng.w .u64 (y.val*2^s)).val=y.val*2^s:=wu (by omega) (by omega)
  have c11:(Rng.w .u64 (zbI .or .u64 (Rng.w .u64 (hi.val*2^s)).val (Rng.w .u64 (lo.val.fdiv (2^(64-s)))).val)).val=hi.val*2^s+lo.val/2^(64-s):=by
   rw [wu (n:=hi.val*2^s) (by omega) (by omega),zmv lo _ hQ]
   rw [zx1 s hi.val.toNat (by rw [Int.mul_comm];congr 1;omega) hU2a hU2b (by omega)]
   exact wu (by omega) (by omega)
  have hlo:lo.val*2^s=lo.val/2^(64-s)*18446744073709551616+lo.val*2^s%18446744073709551616:=by
   have h1:=Int.mul_ediv_add_emod (lo.val*2^s) 18446744073709551616
   have h2:lo.val*2^s/18446744073709551616=lo.val/2^(64-s):=by
    rw [<- hPQ];exact Int.mul_ediv_mul_of_pos_left _ _ hP
   rw [h2] at h1
   omega
  have c12:(Rng.w .u64 (lo.val*2^s)).val=lo.val*2^s%18446744073709551616:=zbC _
  have hN:two hi.val lo.val*2^s=(hi.val*2^s+lo.val/2^(64-s))*18446744073709551616+lo.val*2^s%18446744073709551616:=by
   unfold two
   have:(hi.val*18446744073709551616+lo.val)*2^s=hi.val*2^s*18446744073709551616+lo.val*2^s:=by grind
   rw [this,hlo]
   omega
  have c15:∀u v:U64,u.val.tdiv v.val=u.val/v.val:=fun u v=>Int.tdiv_eq_ediv_of_nonneg u.ubd.1
  have hdiv:two hi.val lo.val*2^s/(y.val*2^s)=two hi.val lo.val/y.val:=Int.mul_ediv_mul_of_pos_left _ _ hP
  have hmod:two hi.val lo.val*2^s%(y.val*2^s)=two hi.val lo.val%y.val*2^s:=by
   rw [Int.mul_comm _ (2^s),Int.mul_comm y.val (2^s),Int.mul_emod_mul_of_pos _ _ hP,Int.mul_comm]
  simp only [zeA,Tr.opt,h0,hle,hz',cond_false,hG,hF,cond_true,es,esn,e64,e64n,c15]
  generalize hY:y.val*2^s=Y at *
  have hcY:=c5
  generalize hwY:Rng.w .u64 Y=wY at *
  generalize hwU2:Rng.w .u64 (zbI .or .u64 (Rng.w .u64 (hi.val*2^s)).val (Rng.w .u64 (lo.val.fdiv (2^(64-s)))).val)=wU2 at *
  generalize hwU:Rng.w .u64 (lo.val*2^s)=wU at *
  generalize hU2:hi.val*2^s+lo.val/2^(64-s)=U2 at *
  generalize hU:lo.val*2^s%18446744073709551616=U at *
  have bU:0<=U/\U<18446744073709551616:=by have:=wU.ubd;omega
  have v1:(Rng.w .u64 (wY.val.fdiv 4294967296)).val=Y/4294967296:=by rw [zmv _ _ (by decide),c5]
  have v0:(Rng.w .u64 (zbI .and .u64 wY.val 4294967295)).val=Y%4294967296:=by rw [zqe,c5]
  have u1:(Rng.w .u64 (wU.val.fdiv 4294967296)).val=U/4294967296:=by rw [zmv _ _ (by decide),c12]
  have u0:(Rng.w .u64 (zbI .and .u64 wU.val 4294967295)).val=U%4294967296:=by rw [zqe,c12]
  generalize Rng.w .u64 (wY.val.fdiv 4294967296)=wv1 at *
  generalize Rng.w .u64 (zbI .and .u64 wY.val 4294967295)=wv0 at *
  generalize Rng.w .u64 (wU.val.fdiv 4294967296)=wu1 at *
  generalize Rng.w .u64 (zbI .and .u64 wU.val 4294967295)=wu0 at *
  have hv10:(wv1.val==0)=false:=by rw [v1];simp;omega
  simp only [hv10,cond_false]
  -- the first digit
  have m1:=Int.emod_nonneg U2 (b:=Y/4294967296) (by omega)
  have m2:=Int.emod_lt_of_pos U2 (b:=Y/4294967296) (by omega)
  have q1:(Rng.w .u64 (wU2.val/wv1.val)).val=U2/(Y/4294967296):=by
   rw [c11,v1]
   have h1:0<=U2/(Y/4294967296):=Int.ediv_nonneg (by omega) (by omega)
   have h2:U2/(Y/4294967296)<=U2:=Int.ediv_le_self _ (by omega)
   exact wu h1 (by omega)
  have r1:(Rng.w .u64 (wU2.val-(Rng.w .u64 ((Rng.w .u64 (wU2.val/wv1.val)).val*wv1.val)).val)).val=U2%(Y/4294967296):=by
   rw [q1,v1,c11]
   exact zrx (by omega) (by omega) rfl _ rfl
  generalize Rng.w .u64 (wU2.val-(Rng.w .u64 ((Rng.w .u64 (wU2.val/wv1.val)).val*wv1.val)).val)=wr1 at *
  generalize Rng.w .u64 (wU2.val/wv1.val)=wq1 at *
  have K1:=zzH (Y:=Y) (u2:=U2) (u1:=U/4294967296) hge hlt (by omega) (by omega) (by omega) (by omega)
  have eY:Y/4294967296*4294967296+Y%4294967296=Y:=by omega
  obtain ⟨y1,hL1⟩:=k17 ⟨wY,Rng.w .u64 ((Rng.w .i64 (s:Int)).val),wv1,wv0,wU2,wu1,wu0,wq1,wr1⟩ (u2:=U2) (by
   simp only;rw [r1,q1,v1,v0,u1];exact K1)
  simp only at hL1
  rw [v1,v0,u1,eY] at hL1
  have G1:=show zfG _=true from (by unfold zfG;rw [hL1];rfl)
  have L1:=show ziw _=_ from Tr.zai hL1
  simp only [G1,L1,cond_true,hv10,cond_false]
  -- the second digit
  have d1:=zsU K1.h1 K1.h3 K1.h5 K1.h6 K1.h7 K1.h8
  rw [eY] at d1
  have hq1:(Rng.w .u64 ((U2*4294967296+U/4294967296)/Y)).val=(U2*4294967296+U/4294967296)/Y:=wu d1.1 (by omega)
  have hR1:(Rng.w .u64 ((Rng.w .u64 ((Rng.w .u64 (wU2.val*4294967296)).val+wu1.val)).val-(Rng.w .u64 ((Rng.w .u64 ((U2*4294967296+U/4294967296)/Y)).val*wY.val)).val)).val=(U2*4294967296+U/4294967296)%Y:=by
   rw [hq1,c5,c11,u1]
   exact zrx (by omega) hlt rfl _ (by simp only [zbC];omega)
  generalize hN1:(U2*4294967296+U/4294967296)=N1 at *
  generalize hwR1:Rng.w .u64 ((Rng.w .u64 ((Rng.w .u64 (wU2.val*4294967296)).val+wu1.val)).val-(Rng.w .u64 ((Rng.w .u64 (N1/Y)).val*wY.val)).val)=wR1 at *
  have n1:=Int.emod_nonneg N1 (b:=Y) (by omega)
  have n2:=Int.emod_lt_of_pos N1 (b:=Y) (by omega)
  have q0:(Rng.w .u64 (wR1.val/wv1.val)).val=N1%Y/(Y/4294967296):=by
   rw [hR1,v1]
   have h1:0<=N1%Y/(Y/4294967296):=Int.ediv_nonneg n1 (by omega)
   have h2:N1%Y/(Y/4294967296)<=N1%Y:=Int.ediv_le_self _ n1
   exact wu h1 (by omega)
  have r0:(Rng.w .u64 (wR1.val-(Rng.w .u64 ((Rng.w .u64 (wR1.val/wv1.val)).val*wv1.val)).val)).val=N1%Y%(Y/4294967296):=by
   rw [q0,v1,hR1]
   exact zrx (by omega) (by omega) rfl _ rfl
  generalize Rng.w .u64 (wR1.val-(Rng.w .u64 ((Rng.w .u64 (wR1.val/wv1.val)).val*wv1.val)).val)=wr0 at *
  generalize Rng.w .u64 (wR1.val/wv1.val)=wq0 at *
  have K0:=zzH (Y:=Y) (u2:=N1%Y) (u1:=U%4294967296) hge hlt n1 n2 (by omega) (by omega)
  obtain ⟨y0,hL0⟩:=k24 ⟨wY,Rng.w .u64 ((Rng.w .i64 (s:Int)).val),wv1,wv0,wu0,Rng.w .u64 (N1/Y),wr0,wR1,wq0⟩ (u2:=N1%Y) (by
   simp only;rw [r0,q0,v1,v0,u0];exact K0)
  simp only at hL0
  rw [v1,v0,u0,eY] at hL0
  have G0:=show zfF _=true from (by unfold zfF;rw [hL0];rfl)
  have L0:=show ziv _=_ from Tr.zai hL0
  simp only [G0,L0,cond_true]
  have d0:=zsU K0.h1 K0.h3 K0.h5 K0.h6 K0.h7 K0.h8
  rw [eY] at d0
  have hq0:(Rng.w .u64 ((N1%Y*4294967296+U%4294967296)/Y)).val=(N1%Y*4294967296+U%4294967296)/Y:=wu d0.1 (by omega)
  -- the end
  obtain ⟨t1,t2⟩:=zzT (d:=Y) (r:=N1) (t:=N1/Y) (K:=4294967296) (L:=U%4294967296) (by omega)
  rw [<- Int.emod_def] at t1 t2
  have eN:N1*4294967296+U%4294967296=two hi.val lo.val*2^s:=by rw [hN,<- hN1];omega
  rw [eN] at t1 t2
  rw [hdiv] at t2
  rw [hmod] at t1
  congr 1
  rw [T2.mk.injEq]
  constructor
  ·apply rext
   rw [hq1,hq0,wu (n:=N1/Y*4294967296) (by omega) (by omega)]
   rw [<- t2]
   congr 2
   omega
  ·apply rext
   have hR0:(Rng.w .u64 ((Rng.w .u64 ((Rng.w .u64 (wR1.val*4294967296)).val+wu0.val)).val-(Rng.w .u64 ((Rng.w .u64 ((N1%Y*4294967296+U%4294967296)/Y)).val*wY.val)).val)).val=(N1%Y*4294967296+U%4294967296)%Y:=by
    rw [hq0,c5,hR1,u0]
    exact zrx (by omega) hlt rfl _ (by simp only [zbC];omega)
   rw [es,esn,zmv _ _ hP,hR0,t1,Int.mul_ediv_cancel _ (by omega)]
   have h1:=Int.emod_nonneg (two hi.val lo.val) (b:=y.val) (by omega)
   have h2:=Int.emod_lt_of_pos (two hi.val lo.val) (b:=y.val) (by omega)
   exact (wu h1 (by omega)).symm
end Go.Proofs.YtaoakfodkoifoaaGreat.Ev
/-
 Plain laws: the quotient of a wide number;the quotients of fixed numbers;heights and longitudes in radians.
-/
namespace Go.Proofs.YtaoakfodkoifoaaGreat.Ev
open Go
theorem zyf (hi lo d:U64) (hd:0<d.val):(ziD hi lo d).opt=some ⟨.w .u64 (hi.val/d.val),.w .u64 (two (hi.val%d.val) lo.val/d.val),.w .u64 (two (hi.val%d.val) lo.val%d.val)⟩:=by
 have b1:=hi.ubd;have b3:=d.ubd
 have h0:(d.val==0)=false:=by simp;omega
 have e1:hi.val.tdiv d.val=hi.val/d.val:=Int.tdiv_eq_ediv_of_nonneg b1.1
 have e2:hi.val.tmod d.val=hi.val%d.val:=Int.tmod_eq_emod_of_nonneg b1.1
 have m1:=Int.emod_nonneg hi.val (b:=d.val) (by omega)
 have m2:=Int.emod_lt_of_pos hi.val hd
 have er:(Rng.w .u64 (hi.val%d.val)).val=hi.val%d.val:=wu m1 (by omega)
 have hk:=zKh (Rng.w .u64 (hi.val%d.val)) lo d (by rw [er];exact m2)
 rw [er] at hk
 have hG:zib (Rng.w .u64 (hi.val%d.val)) lo d=true:=by unfold zib;rw [hk];rfl
 have hF:zkI (Rng.w .u64 (hi.val%d.val)) lo d=_:=Tr.zai hk
 simp only [ziD,Tr.opt,h0,cond_false,e1,e2,hG,hF,cond_true]
theorem zyg (hi lo d:U64) (hd:0<d.val):zla hi lo d=zcQ hi lo d:=by rw [zBJ hi lo d hd];exact Tr.zai (zyf hi lo d hd)
theorem zBH (hi lo d:U64) (hd:0<d.val):ziK hi lo d=true:=by unfold ziK;rw [zyf hi lo d hd];rfl
theorem zyh (N:Int) (hN:0<=N) (hN':N<=170141183460469231731687303715884105728) (d:U64) (hd:0<d.val) (hd':d.val<=9223372036854775807):
  zcQ (.w .u64 (N/18446744073709551616)) (.w .u64 N) d=⟨.w .u64 (N/d.val/18446744073709551616),.w .u64 (N/d.val),.w .u64 (N%d.val)⟩:=by
 have e1:(Rng.w .u64 (N/18446744073709551616)).val=N/18446744073709551616:=wu (by omega) (by omega)
 have e2:(Rng.w .u64 N).val=N%18446744073709551616:=zbC N
 obtain ⟨t1,t2⟩:=zLh (hi:=N/18446744073709551616) (lo:=N%18446744073709551616) hd
 have eN:two (N/18446744073709551616) (N%18446744073709551616)=N:=by unfold two;omega
 rw [eN] at t1 t2
 have m1:=Int.emod_nonneg (N/18446744073709551616) (b:=d.val) (by omega)
 have m2:=Int.emod_lt_of_pos (N/18446744073709551616) hd
 obtain ⟨k1,k2,k3⟩:=zM9 (lo:=N%18446744073709551616) hd m1 m2 (by omega) (by omega)
 unfold two at k1 k2 k3
 rw [zBJ _ _ _ hd,e1,e2]
 unfold two
 rw [t1]
 have h1:N/d.val/18446744073709551616=N/18446744073709551616/d.val:=by omega
 have h2:(Rng.w .u64 ((N/18446744073709551616%d.val*18446744073709551616+N%18446744073709551616)/d.val))=Rng.w .u64 (N/d.val):=rext (by simp only [zbC];omega)
 rw [h1,h2]
theorem zFg (w:Wide) (h:0<=wv w):Rng.w .u64 w.hi.val= .w .u64 (wv w/18446744073709551616)/\w.lo= .w .u64 (wv w):=by
 have b1:=w.lo.ubd;have b2:=w.hi.bd
 unfold wv at *
 exact ⟨by congr 1;omega,rext (by rw [zbC];omega)⟩
theorem zKF {N d:Int} (h:0<=N) (h':N<=170141183460469231731687303715884105728) (hd:0<d):0<=N/d/\N/d<=N/\0<=N%d/\N%d<d:=
 ⟨Int.ediv_nonneg h (Int.le_of_lt hd),Int.ediv_le_self _ h,Int.emod_nonneg _ (by omega),Int.emod_lt_of_pos _ hd⟩
theorem zNH {N:Int} (h:0<=N) (h':N<170141183460469231731687303715884105728):(⟨.w .i64 (Rng.w .u64 (N/18446744073709551616)).val,.w .u64 N⟩:Wide)=mkW N:=by
 unfold mkW;rw [wu (n:=N/18446744073709551616) (by omega) (by omega)]
theorem zL1 {N d:Int} (hd:0<d) (hN:N<0):(-N%d=0->N/d= -(-N/d)/\N%d=0)/\(-N%d≠0->N/d= -(-N/d)-1/\N%d=d - -N%d):=by
 have m1:=Int.emod_nonneg (-N) (b:=d) (by omega)
 have m2:=Int.emod_lt_of_pos (-N) hd
 have m3:=Int.mul_ediv_add_emod (-N) d
 constructor
 ·intro h
  have e:N=d*(-(-N/d)):=by grind
  have h1:d*(-(-N/d))/d= -(-N/d):=Int.mul_ediv_cancel_left _ (by omega)
  have h2:d*(-(-N/d))%d=0:=Int.mul_emod_right _ _
  rw [<- e] at h1 h2
  exact ⟨h1,h2⟩
 ·intro h
  have e:N=(d - -N%d)+d*(-(-N/d)-1):=by grind
  have h1:((d - -N%d)+d*(-(-N/d)-1))/d= -(-N/d)-1:=by
   rw [Int.add_mul_ediv_left _ _ (by omega),Int.ediv_eq_zero_of_lt (by omega) (by omega)];omega
  have h2:((d - -N%d)+d*(-(-N/d)-1))%d=d - -N%d:=by
   rw [Int.add_mul_emod_self_left,Int.emod_eq_of_lt (by omega) (by omega)]
  rw [<- e] at h1 h2
  exact ⟨h1,h2⟩
theorem zq5 (w:Wide) (d:I64) (hd:0<d.val):(zhO w d).opt=some ⟨mkW (wv w/d.val),.w .i64 (wv w%d.val)⟩:=by
 have b:=w.hi.bd;have bd:=d.bd;have bl:=w.lo.ubd;have bw:=zLd w
 have ed:(Rng.w .u64 d.val).val=d.val:=wu (by omega) (by omega)
 simp only [zhO,Tr.opt]
 by_cases h:w.hi.val>=0
 ·have hw:0<=wv w:=by unfold wv;omega
  obtain ⟨p1,p2⟩:=zFg w hw
  obtain ⟨q1,q2,q3,q4⟩:=zKF hw (by omega) hd
  simp only [h,decide_true,cond_true]
  rw [zuv _ _ _ (by rw [ed];exact hd),cond_true,p1]
  rw [show zcQ (Rng.w .u64 (wv w/18446744073709551616)) w.lo (Rng.w .u64 d.val)=zcQ (Rng.w .u64 (wv w/18446744073709551616)) (.w .u64 (wv w)) (Rng.w .u64 d.val) by rw [<- p2]]
  rw [zyh (wv w) hw (by omega) _ (by rw [ed];exact hd) (by rw [ed];omega),ed]
  simp only
  rw [zNH q1 (by omega),wu (n:=wv w%d.val) (by omega) (by omega)]
 ·have hw:wv w<0:=by unfold wv;omega
  simp only [h,decide_false,cond_false]
  -- the opposite number's halves
  have hm:Rng.w .u64 (zba w).hi.val= .w .u64 (- wv w/18446744073709551616)/\(zba w).lo= .w .u64 (- wv w):=by
   by_cases hx:wv w= -170141183460469231731687303715884105728
   ·have e1:w.hi.val= -9223372036854775808:=by unfold wv at hx;omega
    have e2:w.lo.val=0:=by unfold wv at hx;omega
    simp only [zba,zeI,Tr.get,e1,e2,BEq.rfl,cond_true,hx]
    exact ⟨by rfl,by rfl⟩
   ·rw [zp6 w hx]
    unfold mkW
    refine ⟨?_,rfl⟩
    rw [wi (by omega) (by omega)]
  obtain ⟨p1,p2⟩:=hm
  obtain ⟨q1,q2,q3,q4⟩:=zKF (N:= - wv w) (by omega) (by omega) hd
  rw [zuv _ _ _ (by rw [ed];exact hd),cond_true,p1,p2]
  rw [zyh (- wv w) (by omega) (by omega) _ (by rw [ed];exact hd) (by rw [ed];omega),ed]
  simp only
  have er:(Rng.w .u64 (-wv w%d.val)).val= -wv w%d.val:=wu (by omega) (by omega)
  obtain ⟨n1,n2⟩:=zL1 hd hw
  -- minus the quotient
  have hq:zba ⟨.w .i64 (Rng.w .u64 (-wv w/d.val/18446744073709551616)).val,.w .u64 (-wv w/d.val)⟩=mkW (-(-wv w/d.val)):=by
   by_cases hx: -wv w/d.val=170141183460469231731687303715884105728
   ·rw [hx];rfl
   ·rw [zNH q1 (by omega),zp6 _ (by rw [zmj (by omega) (by omega)];omega),zmj (by omega) (by omega)]
  rw [hq,er]
  by_cases hz: -wv w%d.val=0
  ·obtain ⟨e1,e2⟩:=n1 hz
   simp only [hz,BEq.rfl,cond_true,e1,e2]
   rfl
  ·obtain ⟨e1,e2⟩:=n2 hz
   have hz':(-wv w%d.val==0)=false:=by simp [hz]
   simp only [hz',cond_false,e1,e2]
   have hp:zgQ (mkW (-(-wv w/d.val))) (zer ⟨-1,rfl⟩)=mkW (-(-wv w/d.val)-1):=by
    rw [zG6]
    have o1:(mkW (-1)).hi.val= -1:=by rfl
    have o2:(mkW (-1)).lo.val=18446744073709551615:=by rfl
    apply zEq
    have hx2: -wv w/d.val≠170141183460469231731687303715884105728:=by
     intro hx
     have:=Int.mul_ediv_add_emod (-wv w) d.val
     rw [hx] at this
     have:d.val=1:=by omega
     omega
    have a1:(mkW (-(-wv w/d.val))).hi.val= -(-wv w/d.val)/18446744073709551616:=wi (by omega) (by omega)
    have a2:(mkW (-(-wv w/d.val))).lo.val= -(-wv w/d.val)%18446744073709551616:=zbC _
    simp only [zgQ,ziC,Tr.get,o1,o2,a1,a2]
    generalize hQ: -(-wv w/d.val)=Q at *
    by_cases hc:(Rng.w .u64 (Q%18446744073709551616+18446744073709551615)).val<Q%18446744073709551616
    ·simp only [hc,decide_true,cond_true,wv]
     rw [zbC] at hc
     simp only [zg0,zbC]
     omega
    ·simp only [hc,decide_false,cond_false,wv]
     rw [zbC] at hc
     simp only [zg0,zbC]
     omega
   rw [hp,wi (n:= -wv w%d.val) (by omega) (by omega)]
theorem zKd (w:Wide) (d:I64) (hd:0<d.val):zoO w d=⟨mkW (wv w/d.val),.w .i64 (wv w%d.val)⟩:=Tr.zai (zq5 w d hd)
theorem zFV (w:Wide) (d:I64) (hd:0<d.val):zl6 w d=true:=by unfold zl6;rw [zq5 w d hd];rfl
theorem zv9 (w:Wide) (d:I64) (hd:0<d.val):(zfs w d).opt=some ⟨mkW (wv w/d.val),.w .i64 (wv w%d.val),true⟩:=by
 have b:=w.hi.bd;have bd:=d.bd;have bl:=w.lo.ubd;have bw:=zLd w
 have ed:(Rng.w .u64 d.val).val=d.val:=wu (by omega) (by omega)
 have hd0:decide (d.val<=0)=false:=by simp;omega
 have hk:=zq5 w d hd
 simp only [zhO,Tr.opt] at hk
 simp only [zfs,Tr.opt,hd0,cond_false]
 by_cases h:w.hi.val>=0
 ·simp only [h,decide_true,cond_true,zBH _ _ _ (show 0<(Rng.w .u64 d.val).val by rw [ed];exact hd),zyg _ _ _ (show 0<(Rng.w .u64 d.val).val by rw [ed];exact hd),zuv _ _ _ (show 0<(Rng.w .u64 d.val).val by rw [ed];exact hd)] at hk ⊢
  simp only [Option.some.injEq,T2.mk.injEq] at hk
  rw [hk.1,hk.2]
 ·simp only [h,decide_false,cond_false,cond_true,zQJ,zJz,zBH _ _ _ (show 0<(Rng.w .u64 d.val).val by rw [ed];exact hd),zyg _ _ _ (show 0<(Rng.w .u64 d.val).val by rw [ed];exact hd),zuv _ _ _ (show 0<(Rng.w .u64 d.val).val by rw [ed];exact hd)] at hk ⊢
  generalize hc:zcQ (Rng.w .u64 (zba w).hi.val) (zba w).lo (Rng.w .u64 d.val)=c at *
  by_cases hz:c.c.val=0
  ·have hz':(c.c.val==0)=true:=by simp [hz]
   simp only [hz',cond_true,Option.some.injEq,T2.mk.injEq] at hk ⊢
   rw [hk.1,<- hk.2]
  ·have hz':(c.c.val==0)=false:=by simp [hz]
   simp only [hz',cond_false,Option.some.injEq,T2.mk.injEq] at hk ⊢
   have:zba ⟨Rng.w .i64 (Rng.w .u64 (c.a.val+(zeF c.b ⟨1,rfl⟩ ⟨0,rfl⟩).b.val)).val,(zeF c.b ⟨1,rfl⟩ ⟨0,rfl⟩).a⟩=mkW (wv w/d.val):=by
    rw [<- hk.1]
    have u1:=c.a.ubd;have u2:=c.b.ubd
    have o1:(zer ⟨-1,rfl⟩).hi.val= -1:=by rfl
    have o2:(zer ⟨-1,rfl⟩).lo.val=18446744073709551615:=by rfl
    simp only [zgQ,ziC,Tr.get,o1,o2,zeF]
    simp only [zba,zeI,Tr.get]
    have ea:(Rng.w .u64 (c.b.val+1+0)).val=(c.b.val+1)%18446744073709551616:=by rw [zbC];omega
    have eb:(Rng.w .u64 ((c.b.val+1+0)/18446744073709551616)).val=(c.b.val+1)/18446744073709551616:=by rw [zbC];omega
    rw [ea,eb]
    by_cases k1:c.b.val=0
    ·have s1:((c.b.val+1)%18446744073709551616==0)=false:=by simp;omega
     have s2:(c.b.val==0)=true:=by simp [k1]
     have s3:decide ((Rng.w .u64 ((Rng.w .u64 (0-c.b.val)).val+18446744073709551615)).val<(Rng.w .u64 (0-c.b.val)).val)=false:=by simp only [zbC,decide_eq_false_iff_not];omega
     simp only [s1,s2,cond_true,cond_false,s3]
     rw [Wide.mk.injEq]
     exact ⟨rext (by rw [xor_not];simp only [zg0,zbC];omega),rext (by simp only [zbC];omega)⟩
    ·have s2:(c.b.val==0)=false:=by simp [k1]
     have s3:decide ((Rng.w .u64 ((Rng.w .u64 (0-c.b.val)).val+18446744073709551615)).val<(Rng.w .u64 (0-c.b.val)).val)=true:=by simp only [zbC,decide_eq_true_eq];omega
     by_cases k2:c.b.val=18446744073709551615
     ·have s1:((c.b.val+1)%18446744073709551616==0)=true:=by simp;omega
      simp only [s1,s2,cond_true,cond_false,s3]
      rw [Wide.mk.injEq]
      exact ⟨rext (by rw [zg0 (_+1),zg0 (_ + -1),xor_not];simp only [zg0,zbC];omega),rext (by simp only [zbC];omega)⟩
     ·have s1:((c.b.val+1)%18446744073709551616==0)=false:=by simp;omega
      simp only [s1,s2,cond_true,cond_false,s3]
      rw [Wide.mk.injEq]
      exact ⟨rext (by rw [xor_not,zg0 (_+1),zg0 (_ + -1),xor_not];simp only [zg0,zbC];omega),rext (by simp only [zbC];omega)⟩
   rw [this,<- hk.2]
theorem zEQ (w:Wide) (d:I64) (hd:0<d.val):zgU w d=⟨mkW (wv w/d.val),.w .i64 (wv w%d.val),true⟩:=Tr.zai (zv9 w d hd)
theorem zyi (w:Wide) (d:I64) (hd:0<d.val):zdG w d=true:=by unfold zdG;rw [zv9 w d hd];rfl
theorem zwa (w:Wide) (d:I64) (hd:¬0<d.val):(zfs w d).opt=some ⟨⟨⟨0,rfl⟩,⟨0,rfl⟩⟩,⟨0,rfl⟩,false⟩:=by
 have hd0:decide (d.val<=0)=true:=by simp;omega
 simp only [zfs,Tr.opt,hd0,cond_true]
end Go.Proofs.YtaoakfodkoifoaaGreat.Ev
/-
 Plain laws: the quotients of fixed numbers;heights and longitudes in radians.
-/
namespace Go.Proofs.YtaoakfodkoifoaaGreat.Ev
open Go
theorem zq4 {N M d:Int} (hd:0<d) (h: -M<=N) (h':N<=M): -M<=N/d/\N/d<=M:=by
 by_cases h0:0<=N
 ·have h1:=Int.ediv_nonneg h0 (Int.le_of_lt hd)
  have h2:=Int.ediv_le_self d h0
  omega
 ·have h1:N/d<0:=Int.ediv_neg_of_neg_of_pos (by omega) hd
  have h2:N<=N/d:=by
   refine (Int.le_ediv_iff_mul_le hd).2 ?_
   have:=Int.mul_le_mul_of_nonpos_left (a:=N) (b:=d) (c:=1) (by omega) (by omega)
   omega
  omega
def MD (a b d:I64):T2 I64 Bool:=if 0<d.val then narrow (a.val*b.val/d.val) else ⟨⟨0,rfl⟩,false⟩
theorem zF9 {a b d:I64} (hd:0<d.val):wv (mkW (a.val*b.val))=a.val*b.val/\wv (mkW (a.val*b.val/d.val))=a.val*b.val/d.val:=by
 have hm:=zgA a.bd b.bd
 have:=zq4 (M:=85070591730234615865843651857942052864) hd hm.1 hm.2
 exact ⟨zmj (by omega) (by omega),zmj (by omega) (by omega)⟩
theorem zHp (a b d:I64):(zd1 a b d).opt=some (MD a b d):=by
 unfold MD
 by_cases hd:0<d.val
 ·have h0:decide (d.val<=0)=false:=by simp;omega
  obtain ⟨w1,w2⟩:=zF9 (a:=a) (b:=b) hd
  simp only [zd1,Tr.opt,h0,cond_false,zrL,zFV _ _ hd,zKd _ _ hd,cond_true,zzJ,w1,w2,hd,if_true]
 ·have h0:decide (d.val<=0)=true:=by simp;omega
  simp only [zd1,Tr.opt,h0,cond_true,hd,if_false]
theorem zC0 (a b d:I64):(zdf a b d).opt=some (MD a b d):=by
 unfold MD
 by_cases hd:0<d.val
 ·obtain ⟨w1,w2⟩:=zF9 (a:=a) (b:=b) hd
  simp only [zdf,Tr.opt,zl3,zyi _ _ hd,zEQ _ _ hd,cond_true,cond_false,zzK,w1,w2,hd,if_true,Bool.not_true]
 ·have hk:=zwa (mkW (a.val*b.val)) d hd
  have hG:zdG (mkW (a.val*b.val)) d=true:=by unfold zdG;rw [hk];rfl
  have hF:zgU (mkW (a.val*b.val)) d=_:=Tr.zai hk
  simp only [zdf,Tr.opt,zl3,hG,hF,cond_true,Bool.not_false,hd,if_false]
theorem zeL (a b d:I64):zbv a b d=MD a b d:=Tr.zai (zHp a b d)
theorem zrN (a b d:I64):zbG a b d=MD a b d:=Tr.zai (zC0 a b d)
theorem zmz (a b d:I64):zcd a b d=true:=by unfold zcd;rw [zHp];rfl
theorem zvJ (a b d:I64):zcG a b d=true:=by unfold zcG;rw [zC0];rfl
theorem ztw (a:I64) (b:Bool):zc8 a b=zaJ a b:=by
 simp only [zc8,zm6,zaJ,zei,Tr.get,za2,zhr,zJ,zhg,zbN,zdp]
theorem zye (a:I64):zaJ a false=⟨⟨0,rfl⟩,false⟩:=by simp [zaJ,zei,Tr.get]
theorem zMz (a:I64) (h:a.val= -9223372036854775808):zaJ a true=⟨⟨0,rfl⟩,false⟩:=by
 simp [zaJ,zei,Tr.get,zJ,zhg,zdp,h]
def FF (a b:I64):T2 I64 Bool:=zaJ (MD a ⟨4294967296,rfl⟩ b).a (MD a ⟨4294967296,rfl⟩ b).b
theorem zHO (a b:I64):(zht a b).opt=some (FF a b):=by
 simp only [zht,Tr.opt,zvJ,zrN,ztw,cond_true,FF]
theorem zHN (a b:I64):(zhi a b).opt=some (FF a b):=by
 by_cases hd:0<b.val
 ·have h0:decide (b.val<=0)=false:=by simp;omega
  simp only [zhi,Tr.opt,h0,cond_false,zmz,zeL,cond_true,FF]
 ·have h0:decide (b.val<=0)=true:=by simp;omega
  simp only [zhi,Tr.opt,h0,cond_true,FF,MD,hd,if_false,zye]
def FC (a b:I64):T2 I64 Bool:=if 0<b.val then
  (if (narrow (a.val*4294967296/b.val)).b then
   (if a.val*4294967296%b.val=0 then zaJ (narrow (a.val*4294967296/b.val)).a true else zaJ (.w .i64 ((narrow (a.val*4294967296/b.val)).a.val+1)) true)
   else ⟨⟨0,rfl⟩,false⟩)
 else ⟨⟨0,rfl⟩,false⟩
theorem zFH {v:Int} (h:(narrow v).b=true):(narrow v).a.val=v /\ -9223372036854775808<=v/\v<=9223372036854775807:=by
 unfold narrow at *
 split at h
 ·rename_i hv
  rw [if_pos hv]
  exact ⟨wi hv.1 hv.2,hv⟩
 ·cases h
theorem zHU (a b:I64):(zgL a b).opt=some (FC a b):=by
 have hlit:((⟨4294967296,rfl⟩:I64)).val=4294967296:=rfl
 unfold FC
 by_cases hd:0<b.val
 ·obtain ⟨w1,w2⟩:=zF9 (a:=a) (b:=⟨4294967296,rfl⟩) hd
  have m1:=Int.emod_nonneg (a.val*4294967296) (b:=b.val) (by omega)
  have m2:=Int.emod_lt_of_pos (a.val*4294967296) hd
  have bb:=b.bd
  rw [hlit] at w1 w2
  have er:(Rng.w .i64 (a.val*4294967296%b.val)).val=a.val*4294967296%b.val:=wi (by omega) (by omega)
  have hk:(zdw a ⟨4294967296,rfl⟩ b).opt=some (if (narrow (a.val*4294967296/b.val)).b then
    (if a.val*4294967296%b.val=0 then ⟨(narrow (a.val*4294967296/b.val)).a,true⟩ else if (narrow (a.val*4294967296/b.val)).a.val=9223372036854775807 then ⟨⟨0,rfl⟩,false⟩ else
     ⟨.w .i64 ((narrow (a.val*4294967296/b.val)).a.val+1),true⟩) else ⟨⟨0,rfl⟩,false⟩):=by
   simp only [zdw,Tr.opt,zl3,hlit,zyi _ _ hd,zEQ _ _ hd,cond_true,cond_false,zzK,w1,w2,Bool.not_true,er]
   cases hn:(narrow (a.val*4294967296/b.val)).b
   ·simp
   ·simp only [Bool.not_true,cond_false,if_true]
    by_cases hz:a.val*4294967296%b.val=0
    ·have:decide (a.val*4294967296%b.val>0)=false:=by simp;omega
     simp only [this,cond_false]
     rw [if_pos hz]
    ·have:decide (a.val*4294967296%b.val>0)=true:=by simp;omega
     simp only [this,cond_true,hz,if_false]
     by_cases hx:(narrow (a.val*4294967296/b.val)).a.val=9223372036854775807
     ·simp [hx]
     ·have:((narrow (a.val*4294967296/b.val)).a.val==9223372036854775807)=false:=by simp [hx]
      simp only [this,cond_false,hx,if_false]
  have hG:zeD a ⟨4294967296,rfl⟩ b=true:=by unfold zeD;rw [hk];rfl
  have hF:zih a ⟨4294967296,rfl⟩ b=_:=Tr.zai hk
  simp only [zgL,Tr.opt,hG,hF,cond_true,ztw,hd,if_true]
  congr 1
  cases hn:(narrow (a.val*4294967296/b.val)).b
  ·simp [zye]
  ·simp only [if_true]
   by_cases hz:a.val*4294967296%b.val=0
   ·simp only [hz,if_true]
   ·simp only [hz,if_false]
    by_cases hx:(narrow (a.val*4294967296/b.val)).a.val=9223372036854775807
    ·simp only [hx,if_true,zye]
     exact (zMz _ (by rfl)).symm
    ·simp only [hx,if_false]
 ·have hk1:=zwa (mkW (a.val*4294967296)) b hd
  have hG1:zdG (mkW (a.val*4294967296)) b=true:=by unfold zdG;rw [hk1];rfl
  have hF1:zgU (mkW (a.val*4294967296)) b=_:=Tr.zai hk1
  have hk:(zdw a ⟨4294967296,rfl⟩ b).opt=some ⟨⟨0,rfl⟩,false⟩:=by
   simp only [zdw,Tr.opt,zl3,hlit,hG1,hF1,cond_true,Bool.not_false]
  have hG:zeD a ⟨4294967296,rfl⟩ b=true:=by unfold zeD;rw [hk];rfl
  have hF:zih a ⟨4294967296,rfl⟩ b=_:=Tr.zai hk
  simp only [zgL,Tr.opt,hG,hF,cond_true,ztw,hd,if_false,zye]
theorem zHT (a b:I64):(ziB a b).opt=some (FC a b):=by
 have hlit:((⟨4294967296,rfl⟩:I64)).val=4294967296:=rfl
 unfold FC
 by_cases hd:0<b.val
 ·have h0:decide (b.val<=0)=false:=by simp;omega
  have m1:=Int.emod_nonneg (a.val*4294967296) (b:=b.val) (by omega)
  have m2:=Int.emod_lt_of_pos (a.val*4294967296) hd
  have m3:=Int.mul_ediv_add_emod (a.val*4294967296) b.val
  have bb:=b.bd
  simp only [ziB,Tr.opt,h0,cond_false,zmz,zeL,cond_true,MD,hlit,hd,if_true]
  cases hn:(narrow (a.val*4294967296/b.val)).b
  ·simp
  ·obtain ⟨e,r1,r2⟩:=zFH hn
   simp only [Bool.not_true,cond_false,if_true,e]
   have hp:a.val*4294967296/b.val*b.val=b.val*(a.val*4294967296/b.val):=Int.mul_comm _ _
   by_cases hz:a.val*4294967296%b.val=0
   ·have:((Rng.w .i64 (a.val*4294967296/b.val*b.val)).val != (Rng.w .i64 (a.val*4294967296)).val)=false:=by
     simp only [bne_eq_false_iff_eq];congr 2;omega
    simp only [this,cond_false,hz,if_true]
   ·have:((Rng.w .i64 (a.val*4294967296/b.val*b.val)).val != (Rng.w .i64 (a.val*4294967296)).val)=true:=by
     simp only [bne_iff_ne,ne_eq,zg0];omega
    simp only [this,cond_true,hz,if_false]
 ·have h0:decide (b.val<=0)=true:=by simp;omega
  simp only [ziB,Tr.opt,h0,cond_true,hd,if_false]
theorem zHS (a b:I64):zkd a b=FF a b:=Tr.zai (zHO a b)
theorem zHR (a b:I64):zmP a b=FF a b:=Tr.zai (zHN a b)
theorem zHQ (a b:I64):zhC a b=true:=by unfold zhC;rw [zHO];rfl
theorem zHP (a b:I64):zjY a b=true:=by unfold zjY;rw [zHN];rfl
theorem zHY (a b:I64):zlb a b=FC a b:=Tr.zai (zHU a b)
theorem zHX (a b:I64):znL a b=FC a b:=Tr.zai (zHT a b)
theorem zHW (a b:I64):ziL a b=true:=by unfold ziL;rw [zHU];rfl
theorem zHV (a b:I64):zk8 a b=true:=by unfold zk8;rw [zHT];rfl
theorem za1:zD=zh:=rfl
theorem valid_eq (a:Iv):zbL a=za a:=rfl
theorem zc2 (lo hi:I64) (b:Bool):zaN lo hi b=bif b then zU lo hi else zh:=by
 simp only [zaN,zkW,zU,zfo,Tr.get,za1,valid_eq]
 cases b<;>cases za ⟨lo,hi⟩<;>rfl
def QU (a b:I64):Iv:=bif (FF a b).b then (bif (FC a b).b then zU (FF a b).a (FC a b).a else zh) else zh
def QQ (a b:I64):Iv:=if b.val<0 then (if a.val= -9223372036854775808\/b.val= -9223372036854775808 then zh else QU (.w .i64 (0-a.val)) (.w .i64 (0-b.val))) else QU a b
theorem zKG (a b:I64):(zhs a b).opt=some (QQ a b):=by
 have ba:=a.bd;have bb:=b.bd
 unfold QQ
 simp only [zhs,Tr.opt,zHQ,zHW,zHS,zHY,cond_true,zc2,cond_false,za1]
 by_cases hb:b.val<0
 ·simp only [hb,decide_true,cond_true,if_true]
  by_cases h1:b.val= -9223372036854775808
  ·have:decide ((Rng.w .i64 (0-b.val)).val<0)=true:=by rw [h1];rfl
   simp only [this,cond_true]
   rw [if_pos (Or.inr h1)]
  ·have:decide ((Rng.w .i64 (0-b.val)).val<0)=false:=by rw [wi (by omega) (by omega)];simp;omega
   simp only [this,cond_false]
   by_cases h2:a.val= -9223372036854775808
   ·have:((Rng.w .i64 (0-a.val)).val==(-9223372036854775808))=true:=by rw [h2];rfl
    simp only [this,cond_true]
    rw [if_pos (Or.inl h2)]
   ·have:((Rng.w .i64 (0-a.val)).val==(-9223372036854775808))=false:=by rw [wi (by omega) (by omega)];simp;omega
    simp only [this,cond_false,h1,h2,or_self,if_false,QU]
    cases (FF (.w .i64 (0-a.val)) (.w .i64 (0-b.val))).b<;>rfl
 ·simp only [hb,decide_false,cond_false,if_false,QU]
  cases (FF a b).b<;>rfl
theorem zNt (a b:I64):(zmn a b).opt=some (QQ a b):=by
 have ba:=a.bd;have bb:=b.bd
 unfold QQ
 simp only [zmn,Tr.opt,zHP,zHV,zHR,zHX,cond_true,cond_false]
 by_cases hb:b.val<0
 ·simp only [hb,decide_true,cond_true,if_true]
  by_cases h2:a.val= -9223372036854775808
  ·simp [h2]
  ·have:(a.val==(-9223372036854775808))=false:=by simp [h2]
   simp only [this,cond_false]
   by_cases h1:b.val= -9223372036854775808
   ·simp [h1]
   ·have:(b.val==(-9223372036854775808))=false:=by simp [h1]
    simp only [this,cond_false,h1,h2,or_self,if_false,QU]
    cases (FF (.w .i64 (0-a.val)) (.w .i64 (0-b.val))).b<;>cases (FC (.w .i64 (0-a.val)) (.w .i64 (0-b.val))).b<;>rfl
 ·simp only [hb,decide_false,cond_false,if_false,QU]
  cases (FF a b).b<;>cases (FC a b).b<;>rfl
theorem zJi (a b:I64):zaa a b=QQ a b:=Tr.zai (zKG a b)
theorem zzw (a b:I64):zQ a b=QQ a b:=Tr.zai (zNt a b)
theorem neg_eq (a:Iv):zdB a=zaK a:=by
 have b1:=a.lo.bd;have b2:=a.hi.bd
 simp only [zdB,zom,zaK,zhl,Tr.get,zab,zeo,valid_eq,za1]
 cases h:za a
 ·rfl
 ·simp only [Bool.not_true,cond_false]
  have:(-1152921504606846976<a.lo.val)/\a.lo.val<=a.hi.val/\a.hi.val<1152921504606846976:=by
   simp only [za,zjf,Tr.get,Bool.cond_eq_ite] at h
   split at h
   ·split at h
    ·simp at h;rename_i k1 k2;simp at k1 k2;exact ⟨k1,k2,h⟩
    ·cases h
   ·cases h
  have e1:(Rng.w .i64 (0-a.hi.val)).val= -a.hi.val:=by rw [wi (by omega) (by omega)];omega
  have e2:(Rng.w .i64 (0-a.lo.val)).val= -a.lo.val:=by rw [wi (by omega) (by omega)];omega
  have:za ⟨.w .i64 (0-a.hi.val),.w .i64 (0-a.lo.val)⟩=true:=by
   simp only [za,zjf,Tr.get,e1,e2]
   have k1:decide (-1152921504606846976 < -a.hi.val)=true:=by simp;omega
   have k2:decide (-a.hi.val <= -a.lo.val)=true:=by simp;omega
   have k3:decide (-a.lo.val<1152921504606846976)=true:=by simp;omega
   rw [k1,k2,k3];rfl
  simp only [zU,zfo,Tr.get,this,Bool.not_true,cond_false]
theorem zQB (n:I64) (h:0<=n.val):(zfe n).opt=(zcE n).opt/\(zcE n).opt.isSome=true:=by
 have hn:decide (n.val<0)=false:=by simp;omega
 simp only [zfe,zcE,Tr.opt,zbN,zdp,zvJ,zmz,zrN,zeL,cond_true,hn,cond_false,za1]
 have:zaW=zh:=rfl
 rw [this]
 refine ⟨rfl,?_⟩
 simp only [Bool.cond_eq_ite]
 split
 ·rfl
 ·split<;>rfl
theorem zGM (n:I64):(zgx n).opt=(zbM n).opt/\(zbM n).opt.isSome=true:=by
 have b:=n.bd
 simp only [zgx,zbM,Tr.opt,zbN,zdp,zvJ,zmz,zrN,zeL,cond_true,za1]
 have:zaW=zh:=rfl
 rw [this]
 by_cases hr: -36000000000<=n.val/\n.val<=36000000000
 ·by_cases hn:n.val<0
  ·have hz:(n.val==0)=false:=by simp;omega
   have e:(Rng.w .i64 (0-n.val)).val= -n.val:=by rw [wi (by omega) (by omega)];omega
   obtain ⟨h1,h2⟩:=zQB (.w .i64 (0-n.val)) (by omega)
   have g1:zfl (.w .i64 (0-n.val))=true:=h2
   have g2:zg9 (.w .i64 (0-n.val))=true:=by unfold zg9;rw [h1];exact h2
   have f:zkb (.w .i64 (0-n.val))=zcI (.w .i64 (0-n.val)):=Tr.zai (h1.trans (Tr.get_some h2))
   simp only [hr,hn,hz,g1,g2,f,neg_eq,decide_true,cond_true,cond_false,Bool.not_true,and_self,Option.isSome_some]
  ·simp only [hr,hn,decide_true,decide_false,cond_false,and_self,Bool.not_true,true_and]
   generalize (n.val==0)=d
   cases d<;>rfl
 ·simp [hr]
theorem zLf (n:I64):zcN n=zcK n:=by
 have b:=n.bd
 have m1:=Int.tmod_lt_of_pos n.val (b:=3600000000) (by decide)
 have m2: -3600000000<n.val.tmod 3600000000:=by
  have:=Int.lt_tmod_of_pos n.val (b:=3600000000) (by decide);omega
 simp only [zcN,zkX,zcK,ziy,Tr.get]
 have e:(Rng.w .i64 (n.val.tmod 3600000000)).val=n.val.tmod 3600000000:=wi (by omega) (by omega)
 rw [e]
 by_cases h1:n.val.tmod 3600000000>1800000000
 ·have e2:(Rng.w .i64 (n.val.tmod 3600000000-3600000000)).val=n.val.tmod 3600000000-3600000000:=wi (by omega) (by omega)
  have h2:decide ((Rng.w .i64 (n.val.tmod 3600000000-3600000000)).val <= -1800000000)=false:=by rw [e2];simp;omega
  simp only [h1,decide_true,cond_true,h2,cond_false]
 ·simp only [h1,decide_false,cond_false]
end Go.Proofs.YtaoakfodkoifoaaGreat.Ev
/-
 Plain laws: what never fails.
-/
namespace Go.Proofs.YtaoakfodkoifoaaGreat.Ev
open Go
theorem zh4 {γ:Type} [Inhabited γ] {t:Tr γ} {x:γ} (h:t.opt=some x):t.opt=some t.get:=h.trans (congrArg some (Tr.zai h).symm)
theorem zjO {γ:Type} [Inhabited γ] {t:Tr γ} (h:t.opt.isSome=true):t.opt=some t.get:=Tr.get_some h
theorem zFn (a b d:I64):(zdf a b d).opt=some (zbG a b d):=zh4 (zC0 a b d)
theorem zGo (a b:I64):(zhs a b).opt=some (zaa a b):=zh4 (zKG a b)
theorem zuS (n:I64):(zbM n).opt=some (zaq n):=zjO (zGM n).2
theorem zuT (n:I64):(zgx n).opt=some (zcp n):=by
 obtain ⟨h1,h2⟩:=zGM n
 exact zjO (by rw [h1];exact h2)
end Go.Proofs.YtaoakfodkoifoaaGreat.Ev
