/- The law FnOmega gives true, whatever comes in; each argument reads behind the call as it read before. No conditions. (One of the texts of its proof, put together by a program of this session.) -/
import Derived.Test.YtaoakfodkoifoaaGreatZA
import Derived.Test.YtaoakfodkoifoaaGreatZW5
import Derived.Test.YtaoakfodkoifoaaGreatZW8
import Derived.Test.YtaoakfodkoifoaaGreatZWI
import Derived.Test.YtaoakfodkoifoaaGreatZPZ
import Derived.Test.YtaoakfodkoifoaaGreatZQ
set_option linter.unusedSectionVars false
set_option linter.unusedSimpArgs false
set_option linter.unusedVariables false
noncomputable section
namespace Go.Proofs.YtaoakfodkoifoaaGreat.Nc
open Go Go.Proofs.YtaoakfodkoifoaaGreat.An
open Go.Proofs.YtaoakfodkoifoaaGreat.Ev hiding mn zgA neg_eq znV sub_eq
def fx (n:Int):Re:=zi n*rat (1/4294967296)
def In (x:Re) (a:Iv):Prop:=za a=true->fx a.lo.val<=x/\x<=fx a.hi.val
theorem In.no {x:Re} {a:Iv} (h:za a=false):In x a:=fun k=>by rw [h] at k;cases k
theorem In.whole (x:Re):In x zh:=In.no zbD
theorem zfu {a b:Int}:fx a<=fx b↔a<=b:=by
 unfold fx
 constructor
 ·intro h;exact zqf.1 (zfR (qp (1/4294967296)) h)
 ·intro h;have:=zqf.2 h;generalize zi a=x at *;generalize zi b=y at *;exact zH [x,y] (mn (sn this) (qn (1/4294967296)))
theorem zJZ {a b:Int}:fx a<fx b↔a<b:=by
 rw [<- An.not_le,zfu];omega
theorem zvZ (a b:Int):fx (a+b)=fx a+fx b:=by unfold fx;rw [zAj,An.add_mul]
theorem zio (a:Int):fx (-a)= - fx a:=by unfold fx;rw [zAi,An.neg_mul]
theorem zKX (a b:Int):fx (a-b)=fx a-fx b:=by rw [Int.sub_eq_add_neg,zvZ,zio];rfl
theorem fx_0:fx 0=0:=An.zero_mul _
theorem zHJ (a:Int):fx (a*4294967296)=zi a:=by
 unfold fx;rw [zhb];generalize zi a=x
 show x*rat (4294967296:Int)*_=x
 exact ring [x]
theorem fx_1:fx 4294967296=1:=zHJ 1
theorem zC6 {a:Int} (h:0<=a):0<=fx a:=by rw [<- fx_0];exact zfu.2 h
theorem fx_p {a:Int} (h:0<a):0<fx a:=by rw [<- fx_0];exact zJZ.2 h
theorem zvW {a:Int} (h:a<0):fx a<0:=by rw [<- fx_0];exact zJZ.2 h
theorem In.point {n:I64}:In (fx n.val) ⟨n,n⟩:=fun _=>⟨le_refl _,le_refl _⟩
theorem In.add {x y:Re} {a b:Iv} (h:In x a) (k:In y b):In (x+y) (zq a b):=fun ok=>by
 obtain ⟨o1,o2,e1,e2⟩:=zr1 ok
 obtain ⟨h1,h2⟩:=h o1
 obtain ⟨k1,k2⟩:=k o2
 rw [e1,e2,zvZ,zvZ]
 exact ⟨zc3 h1 k1,zc3 h2 k2⟩
theorem In.sub {x y:Re} {a b:Iv} (h:In x a) (k:In y b):In (x-y) (zG a b):=fun ok=>by
 obtain ⟨o1,o2,e1,e2⟩:=zyU ok
 obtain ⟨h1,h2⟩:=h o1
 obtain ⟨k1,k2⟩:=k o2
 rw [e1,e2,zKX,zKX]
 generalize fx a.lo.val=p at *;generalize fx a.hi.val=q at *;generalize fx b.lo.val=r at *;generalize fx b.hi.val=s at *
 exact ⟨zH [x,y,p,q,r,s] (pn (sn h1) (sn k2)),zH [x,y,p,q,r,s] (pn (sn h2) (sn k1))⟩
theorem In.dbl {x:Re} {a:Iv} (h:In x a):In (2*x) (zbh a):=fun ok=>by
 obtain ⟨o1,e1,e2⟩:=zzU ok
 obtain ⟨h1,h2⟩:=h o1
 rw [e1,e2,show 2*a.lo.val=a.lo.val+a.lo.val by omega,show 2*a.hi.val=a.hi.val+a.hi.val by omega,zvZ,zvZ]
 generalize fx a.lo.val=p at *;generalize fx a.hi.val=q at *
 exact ⟨zH [x,p,q] (kn 2 (sn h1)),zH [x,p,q] (kn 2 (sn h2))⟩
theorem zJA {a:Iv} (h:za (zaK a)=true):za a=true/\(zaK a).lo.val= -a.hi.val/\(zaK a).hi.val= -a.lo.val:=by
 simp only [zaK,zhl,Tr.get] at h ⊢
 cases ha:za a
 ·rw [ha] at h;simp only [Bool.not_false,ctr] at h;rw [zbD] at h;cases h
 have b:=(zaB _).1 ha
 have e1:(Rng.w .i64 (0-a.hi.val)).val= -a.hi.val:=by rw [wi (by omega) (by omega)];omega
 have e2:(Rng.w .i64 (0-a.lo.val)).val= -a.lo.val:=by rw [wi (by omega) (by omega)];omega
 simp only [ha,Bool.not_true,cfl] at h ⊢
 rw [zbq (by rw [e1,e2];omega)]
 exact ⟨trivial,e1,e2⟩
theorem In.neg {x:Re} {a:Iv} (h:In x a):In (-x) (zaK a):=fun ok=>by
 obtain ⟨o1,e1,e2⟩:=zJA ok
 obtain ⟨h1,h2⟩:=h o1
 rw [e1,e2,zio,zio]
 generalize fx a.lo.val=p at *;generalize fx a.hi.val=q at *
 exact ⟨zH [x,q] (sn h2),zH [x,p] (sn h1)⟩
theorem zzO {p d:Int} (hd:0<d):zi (p/d)*zi d<=zi p:=by
 rw [<- zhb,zqf]
 have:=Int.ediv_mul_le p (show d≠0 by omega)
 omega
theorem zvX (x y:Int):fx (x*y/4294967296)<=fx x*fx y:=by
 have:=zzO (p:=x*y) (d:=4294967296) (by decide)
 rw [zhb x y] at this
 unfold fx
 generalize zi (x*y/4294967296)=q at *;generalize zi x=a at *;generalize zi y=b at *
 rw [show zi 4294967296=rat 4294967296 from rfl] at this
 exact zH [q,a,b] (kn (1/18446744073709551616) (sn this))
theorem zBA (x y:Int):fx x*fx y<=fx (-(-(x*y)/4294967296)):=by
 have:=zvX (-x) y
 rw [show -x*y= -(x*y) from Int.neg_mul x y,zio x] at this
 rw [zio]
 generalize fx (-(x*y)/4294967296)=q at *;generalize fx x=a at *;generalize fx y=b at *
 exact zH [q,a,b] (sn this)
theorem zy9 {p q r s x y L:Re} (hx:p<=x) (hx':x<=q) (hy:r<=y) (hy':y<=s) (h1:L<=p*r) (h2:L<=p*s) (h3:L<=q*r) (h4:L<=q*s):L<=x*y:=by
 have a:∀u,L<=u*r->L<=u*s->L<=u*y:=fun u k1 k2=>by
  rcases le_total 0 u with m|m
  ·exact le_trans k1 (zH [u,r,y] (mn m (sn hy)))
  ·exact le_trans k2 (zH [u,s,y] (mn (zlM m) (sn hy')))
 have b1:=a p h1 h2
 have b2:=a q h3 h4
 rcases le_total 0 y with m|m
 ·exact le_trans b1 (zH [p,x,y] (mn (sn hx) m))
 ·exact le_trans b2 (zH [q,x,y] (mn (sn hx') (zlM m)))
theorem zCy {p q r s x y L:Re} (hx:p<=x) (hx':x<=q) (hy:r<=y) (hy':y<=s) (h1:p*r<=L) (h2:p*s<=L) (h3:q*r<=L) (h4:q*s<=L):x*y<=L:=by
 have:=zy9 (L:= -L) (p:= -q) (q:= -p) (x:= -x) (zH [q,x] (sn hx')) (zH [p,x] (sn hx)) hy hy'
  (zH [q,r,L] (sn h3)) (zH [q,s,L] (sn h4)) (zH [p,r,L] (sn h1)) (zH [p,s,L] (sn h2))
 exact zH [x,y,L] (sn this)
theorem In.mul {x y:Re} {a b:Iv} (h:In x a) (k:In y b):In (x*y) (zk a b):=fun ok=>by
 obtain ⟨o1,o2,hc⟩:=zq0 ok
 obtain ⟨h1,h2⟩:=h o1
 obtain ⟨k1,k2⟩:=k o2
 have lo:∀u v:I64,(u=a.lo\/u=a.hi)->(v=b.lo\/v=b.hi)->fx (zk a b).lo.val<=fx u.val*fx v.val:=fun u v hu hv=>le_trans (zfu.2 (hc u v hu hv).1) (zvX _ _)
 have hi:∀u v:I64,(u=a.lo\/u=a.hi)->(v=b.lo\/v=b.hi)->fx u.val*fx v.val<=fx (zk a b).hi.val:=fun u v hu hv=>le_trans (zBA _ _) (zfu.2 (hc u v hu hv).2)
 exact ⟨zy9 h1 h2 k1 k2 (lo _ _ (.inl rfl) (.inl rfl)) (lo _ _ (.inl rfl) (.inr rfl)) (lo _ _ (.inr rfl) (.inl rfl)) (lo _ _ (.inr rfl) (.inr rfl)),
  zCy h1 h2 k1 k2 (hi _ _ (.inl rfl) (.inl rfl)) (hi _ _ (.inl rfl) (.inr rfl)) (hi _ _ (.inr rfl) (.inl rfl)) (hi _ _ (.inr rfl) (.inr rfl))⟩
theorem zl5 {a:Iv} (h:za a=true):0<=(zK a).a.val/\((a.lo.val<=0/\0<=a.hi.val/\(zK a).a.val=0)\/(0<a.lo.val/\(zK a).a.val=a.lo.val)\/(a.hi.val<0/\(zK a).a.val= -a.hi.val)) /\
  a.hi.val<=(zK a).b.val /\ -a.lo.val<=(zK a).b.val/\(zK a).b.val<1152921504606846976/\(zK a).a.val<=(zK a).b.val:=by
 have b:=(zaB _).1 h
 have n1:(Rng.w .i64 (0-a.lo.val)).val= -a.lo.val:=by rw [wi (by omega) (by omega)];omega
 have n2:(Rng.w .i64 (0-a.hi.val)).val= -a.hi.val:=by rw [wi (by omega) (by omega)];omega
 have m1:=zeB a.lo (.w .i64 (0-a.lo.val))
 have m2:=zeB a.hi (.w .i64 (0-a.hi.val))
 have m3:=zeB (zt a.lo (.w .i64 (0-a.lo.val))) (zt a.hi (.w .i64 (0-a.hi.val)))
 have m4:=zf7 (zt a.lo (.w .i64 (0-a.lo.val))) (zt a.hi (.w .i64 (0-a.hi.val)))
 rw [n1] at m1
 rw [n2] at m2
 have hh:zaO a ⟨0,rfl⟩=decide (a.lo.val<=0/\0<=a.hi.val):=by simp only [zaO,zcc,Tr.get,zdp]
 simp only [zK,zen,Tr.get,hh]
 by_cases c:a.lo.val<=0/\0<=a.hi.val
 ·simp only [c,and_self,decide_true,ctr]
  exact ⟨by decide,by first|exact .inl trivial|simp [c.1,c.2],by omega,by omega,by omega,by omega⟩
 ·simp only [c,decide_false,cfl]
  exact ⟨by omega,by omega,by omega,by omega,by omega,by omega⟩
theorem In.ends {x:Re} {a:Iv} (h:In x a) (o:za a=true):fx (zK a).a.val<=An.abs x/\An.abs x<=fx (zK a).b.val:=by
 obtain ⟨h1,h2⟩:=h o
 obtain ⟨e0,e1,e2,e3,e4,e5⟩:=zl5 o
 constructor
 ·rcases e1 with ⟨_,_,e⟩|⟨k,e⟩|⟨k,e⟩
  ·rw [e,fx_0];exact zcs x
  ·rw [e];exact le_trans h1 (zqz x)
  ·rw [e,zio]
   have:=zjk x
   generalize fx a.hi.val=q at *;generalize An.abs x=u at *
   exact zH [x,q,u] (pn (sn this) (sn h2))
 ·refine zeU ?_ (le_trans h2 (zfu.2 e2))
  refine le_trans ?_ h1
  rw [<- zio];exact zfu.2 (by omega)
theorem In.sqr {x:Re} {a:Iv} (h:In x a):In (x*x) (zay a):=fun ok=>by
 obtain ⟨o1,e1,e2⟩:=zy0 ok
 obtain ⟨h1,h2⟩:=h.ends o1
 have e0:=(zl5 o1).1
 rw [e1,e2,<- zr2]
 exact ⟨le_trans (zvX _ _) (zpD (zC6 e0) h1 (zC6 e0) h1),le_trans (zpD (zcs x) h2 (zcs x) h2) (zBA _ _)⟩
theorem In.abs {x:Re} {a:Iv} (h:In x a):In (An.abs x) (zcC a):=fun ok=>by
 simp only [zcC,zi8,Tr.get] at ok ⊢
 cases ha:za a
 ·rw [ha] at ok;simp only [Bool.not_false,ctr] at ok;rw [zbD] at ok;cases ok
 have e:=zl5 ha
 simp only [ha,Bool.not_true,cfl]
 rw [zbq (by omega)]
 exact h.ends ha
theorem zF8 {a:Int} (h:0<=a):0<=zi a:=by rw [<- zi_0];exact zqf.2 h
theorem zHK (a:Int):fx a*fx a=zi (a*a)*rat (1/18446744073709551616):=by
 unfold fx;rw [zhb];generalize zi a=x;exact ring [x]
theorem zNZ (a:Int):fx a=zi (a*4294967296)*rat (1/18446744073709551616):=by
 unfold fx;rw [zhb];generalize zi a=x;show _=x*rat (4294967296:Int)*_;exact ring [x]
theorem zIR {a b:Int} (h:a<=b):zi a*rat (1/18446744073709551616)<=zi b*rat (1/18446744073709551616):=by
 have:=zqf.2 h;generalize zi a=x at *;generalize zi b=y at *;exact zH [x,y] (mn (sn this) (qn (1/18446744073709551616)))
theorem In.sqrt {x:Re} {a:Iv} (h:In x a):In (An.sqrt x) (zaD a):=fun ok=>by
 obtain ⟨o1,o2⟩:=zui ok
 obtain ⟨_,e1,e2⟩:=zry o1 o2
 have b:=(zaB _).1 o1
 obtain ⟨h1,h2⟩:=h o1
 have x0:=le_trans (zC6 o2) h1
 rw [e1,e2]
 obtain ⟨q,p,s1,s2,t0,t1,t2,t3,t4,t5,t6,t7⟩:=zms a.lo (by omega)
 obtain ⟨q',p',s1',s2',t0',t1',t2',t3',t4',t5',t6',t7'⟩:=zms a.hi (by omega)
 rw [s1,s2']
 simp only
 constructor
 ·refine zl0 (An.zgX x) ?_
  rw [An.zgj x0,zHK]
  refine le_trans ?_ h1
  rw [zNZ];exact zIR t2
 ·refine zl0 (zC6 (by omega)) ?_
  rw [An.zgj x0,zHK]
  refine le_trans h2 ?_
  rw [zNZ];exact zIR t6'
theorem zvY {x y:Int} (hy:0<y):fx (x*4294967296/y)<=fx x/fx y:=by
 rw [ztu (fx_p hy)]
 have:=zzO (p:=x*4294967296) hy
 unfold fx
 rw [zhb x] at this
 generalize zi (x*4294967296/y)=q at *;generalize zi x=a at *;generalize zi y=b at *
 rw [show zi 4294967296=rat 4294967296 from rfl] at this
 exact zH [q,a,b] (kn (1/18446744073709551616) (sn this))
theorem zL2 (x y:Re): -x/y= -(x/y):=by rw [div_eq,div_eq,An.neg_mul]
theorem zBB {x y:Int} (hy:0<y):fx x/fx y<=fx (-(-x*4294967296/y)):=by
 have:=zvY (x:= -x) hy
 rw [zio,zL2] at this
 rw [zio]
 generalize fx (-x*4294967296/y)=q at *;generalize fx x/fx y=a at *
 exact zH [q,a] (sn this)
theorem zED {y s:Re} (h0:0<y) (h:y<=s):s⁻¹<=y⁻¹:=by
 have hs:=lt_of_lt_of_le h0 h
 have e1:=zpE (ne_of_gt h0)
 have e2:=zpE (ne_of_gt hs)
 refine zfR (mp h0 hs) ?_
 generalize y⁻¹=a at *;generalize s⁻¹=b at *
 rw [show b*(y*s)=y*(s*b) from ring [b,y,s],show a*(y*s)=s*(y*a) from ring [a,y,s],e1,e2]
 exact zH [y,s] (sn h)
theorem In.div_pos {x y:Re} {a b:Iv} (h:In x a) (k:In y b) (h0:0<b.lo.val):In (x/y) (zo a b):=fun ok=>by
 obtain ⟨o1,o2,hc⟩:=zwc h0 ok
 obtain ⟨h1,h2⟩:=h o1
 obtain ⟨k1,k2⟩:=k o2
 have b':=(zaB _).1 o2
 have y0:=lt_of_lt_of_le (fx_p h0) k1
 have i1:=zED y0 k2
 have i2:=zED (fx_p h0) k1
 have p0:∀v:I64,(v=b.lo\/v=b.hi)->0<v.val:=by rintro v (rfl|rfl)<;>omega
 have lo:∀u v:I64,(u=a.lo\/u=a.hi)->(v=b.lo\/v=b.hi)->fx (zo a b).lo.val<=fx u.val*(fx v.val)⁻¹:=fun u v hu hv=>le_trans (zfu.2 (hc u v hu hv).1) (zvY (p0 v hv))
 have hi:∀u v:I64,(u=a.lo\/u=a.hi)->(v=b.lo\/v=b.hi)->fx u.val*(fx v.val)⁻¹<=fx (zo a b).hi.val:=fun u v hu hv=>le_trans (zBB (p0 v hv)) (zfu.2 (hc u v hu hv).2)
 exact ⟨zy9 h1 h2 i1 i2 (lo _ _ (.inl rfl) (.inr rfl)) (lo _ _ (.inl rfl) (.inl rfl)) (lo _ _ (.inr rfl) (.inr rfl)) (lo _ _ (.inr rfl) (.inl rfl)),
  zCy h1 h2 i1 i2 (hi _ _ (.inl rfl) (.inr rfl)) (hi _ _ (.inl rfl) (.inl rfl)) (hi _ _ (.inr rfl) (.inr rfl)) (hi _ _ (.inr rfl) (.inl rfl))⟩
end Go.Proofs.YtaoakfodkoifoaaGreat.Nc
namespace Go.Proofs.YtaoakfodkoifoaaGreat.Nc
open Go Go.Proofs.YtaoakfodkoifoaaGreat.An
open Go.Proofs.YtaoakfodkoifoaaGreat.Ev hiding mn zgA neg_eq znV sub_eq
theorem zsV {a b:Iv} (ha:za a=true) (hb:za b=true):za (zN a b)=true/\(zN a b).lo.val<=a.lo.val/\(zN a b).lo.val<=b.lo.val/\a.hi.val<=(zN a b).hi.val/\b.hi.val<=(zN a b).hi.val/\((zN a b).lo.val=a.lo.val\/(zN a b).lo.val=b.lo.val)/\((zN a b).hi.val=a.hi.val\/(zN a b).hi.val=b.hi.val):=by
 have oa:=(zaB _).1 ha
 have ob:=(zaB _).1 hb
 have m1:=zf7 a.lo b.lo
 have m2:=zeB a.hi b.hi
 simp only [zN,zhn,Tr.get,ha,hb,Bool.not_true,cfl]
 rw [zbq (by omega)]
 exact ⟨(zaB _).2 (by simp only;omega),by simp only;omega,by simp only;omega,by simp only;omega,by simp only;omega,by simp only;omega,by simp only;omega⟩
theorem zHF {a b:Iv} (h:za (zN a b)=true):za a=true/\za b=true:=by
 simp only [zN,zhn,Tr.get] at h
 cases ha:za a
 ·rw [ha] at h;simp only [Bool.not_false,ctr] at h;rw [zbD] at h;cases h
 cases hb:za b
 ·rw [ha,hb] at h;simp only [Bool.not_false,Bool.not_true,ctr,cfl] at h;rw [zbD] at h;cases h
 exact ⟨rfl,rfl⟩
theorem In.hull_l {x:Re} {a b:Iv} (h:In x a):In x (zN a b):=fun ok=>by
 obtain ⟨oa,ob⟩:=zHF ok
 have hv:=zsV oa ob
 obtain ⟨h1,h2⟩:=h oa
 exact ⟨le_trans (zfu.2 hv.2.1) h1,le_trans h2 (zfu.2 hv.2.2.2.1)⟩
theorem In.hull_r {x:Re} {a b:Iv} (h:In x b):In x (zN a b):=fun ok=>by
 obtain ⟨oa,ob⟩:=zHF ok
 have hv:=zsV oa ob
 obtain ⟨h1,h2⟩:=h ob
 exact ⟨le_trans (zfu.2 hv.2.2.1) h1,le_trans h2 (zfu.2 hv.2.2.2.2.1)⟩
theorem In.between {x y z:Re} {a:Iv} (h:In x a) (k:In y a) (h1:x<=z) (h2:z<=y):In z a:=fun ok=>⟨le_trans (h ok).1 h1,le_trans h2 (k ok).2⟩
theorem In.int {n:I64} (h: -268435455<=n.val/\n.val<=268435455):In (zi n.val) (zf n):=fun _=>by
 have e:(Rng.w .i64 (n.val*4294967296)).val=n.val*4294967296:=wi (by omega) (by omega)
 rw [zjP h]
 simp only [e,zHJ]
 exact ⟨le_refl _,le_refl _⟩
theorem In.one:In 1 (zf ⟨1,rfl⟩):=In.int (n:=⟨1,rfl⟩) (by decide)
theorem zEE {n:I64} (h: -268435455<=n.val/\n.val<=268435455):za (zf n)=true/\(zf n).lo.val=n.val*4294967296/\(zf n).hi.val=n.val*4294967296:=by
 have e:(Rng.w .i64 (n.val*4294967296)).val=n.val*4294967296:=wi (by omega) (by omega)
 rw [zjP h]
 exact ⟨(zaB _).2 (by simp only [e];omega),e,e⟩
theorem In.over {x:Re} {a:Iv} (h:In x a) {n:I64} (q:Nat) (hn:n.val=((q+1:Nat):Int)) (hq:q<=268435454):In (x*rat (1/((q+1:Nat):Rat))) (zo a (zf n)):=by
 have hb: -268435455<=n.val/\n.val<=268435455:=by omega
 have:=h.div_pos (In.int hb) (by rw [(zEE hb).2.1];omega)
 have e:x/zi n.val=x*rat (1/((q+1:Nat):Rat)):=by
  rw [hn,zDQ]
  have i:=zzI q
  have p:0<rat ((q+1:Nat):Rat):=zHd (Nat.succ_pos q)
  refine zfk (ne_of_gt p) ?_
  rw [div_mul (ne_of_gt p)]
  generalize rat ((q+1:Nat):Rat)=u at *;generalize rat (1/((q+1:Nat):Rat))=v at *
  exact zkl [x,u,v] (congrArg (fun t=>x * -t) i:x * -(u*v)=x * -1)
 rwa [e] at this
theorem zqU:za zu=true/\zu.lo.val= -4294967296/\zu.hi.val=4294967296:=⟨(zaB _).2 (by decide +kernel),rfl,rfl⟩
theorem zFM:fx (-4294967296)= -1:=by rw [zio,fx_1]
theorem In.ring {x:Re} (h1: -1<=x) (h2:x<=1):In x zu:=fun _=>by
 rw [zqU.2.1,zqU.2.2,zFM,fx_1];exact ⟨h1,h2⟩
theorem In.tiny {x:Re} (h:An.abs x<=rat (1/4294967296)):In x zbA:=fun _=>by
 obtain ⟨a,b⟩:=zeT h
 have e1:zbA.lo.val= -1:=rfl
 have e2:zbA.hi.val=1:=rfl
 have e3:fx 1=rat (1/4294967296):=one_mul _
 rw [e1,e2,zio,e3];exact ⟨a,b⟩
theorem zvI (a:Iv):za (zav a)=true /\ -4294967296<=(zav a).lo.val/\(zav a).hi.val<=4294967296 /\
  ((zav a).lo.val= -4294967296\/(za a=true/\(zav a).lo.val=a.lo.val))/\((zav a).hi.val=4294967296\/(za a=true/\(zav a).hi.val=a.hi.val)):=by
 have o:=zqU.1
 have e1:zu.lo.val= -4294967296:=rfl
 have e2:zu.hi.val=4294967296:=rfl
 simp only [zav,zgJ,zZ,zbJ,Tr.get,o,Bool.not_true,cfl]
 cases ha:za a
 ·simp only [Bool.not_false,Bool.not_true,ctr,cfl];exact ⟨o,by omega,by omega,.inl e1,.inl e2⟩
 have ba:=(zaB _).1 ha
 have m1:=zeB a.lo zu.lo
 have m2:=zf7 a.hi zu.hi
 rw [e1] at m1
 rw [e2] at m2
 simp only [Bool.not_true,cfl]
 by_cases hlt:(zt a.lo zu.lo).val>(zC a.hi zu.hi).val
 ·simp only [hlt,decide_true,ctr,Bool.not_false];exact ⟨o,by omega,by omega,.inl e1,.inl e2⟩
 ·simp only [hlt,decide_false,cfl,Bool.not_true]
  refine ⟨(zaB _).2 (by first|omega|(simp only;omega)),by first|omega|(simp only;omega),by first|omega|(simp only;omega),?_,?_⟩
  ·simp only [true_and];omega
  ·simp only [true_and];omega
theorem In.meet {x:Re} {a:Iv} (h:In x a) (h1: -1<=x) (h2:x<=1):In x (zav a):=fun ok=>by
 obtain ⟨_,_,_,m1,m2⟩:=zvI a
 constructor
 ·rcases m1 with e|⟨o,e⟩
  ·rw [e,zFM];exact h1
  ·rw [e];exact (h o).1
 ·rcases m2 with e|⟨o,e⟩
  ·rw [e,fx_1];exact h2
  ·rw [e];exact (h o).2
def chk (n:Int):Bool:=decide ((n*7244019458077122842)%1073741824+n<=1073741824)
def zKi:Nat->Bool
 | 0=>true
 | n+1=>chk ((n+1:Nat):Int)&&zKi n
theorem zMK:zKi 4096=true:=by kernel_rfl
theorem zOe {n:Nat} (h:zKi n=true) {m:Int} (h1:0<m) (h2:m<=(n:Int)):(m*7244019458077122842)%1073741824+m<=1073741824:=by
 induction n with
 | zero=>exact absurd h1 (by omega)
 | succ n ih=>
  simp only [zKi,Bool.and_eq_true] at h
  by_cases k:m=((n+1:Nat):Int)
  ·rw [k];exact of_decide_eq_true h.1
  ·exact ih h.2 (by omega)
theorem zDU {k:I64} (h:0<k.val) (h':k.val<=4096):(zaS k).lo.val=k.val*7244019458077122842/1073741824/\(zaS k).hi.val=k.val*7244019458077122842/1073741824+1 /\
  (zcm k).lo.val=k.val*7244019458077122842/1073741824/\(zcm k).hi.val=k.val*7244019458077122842/1073741824+1:=by
 obtain ⟨e,b1,b2⟩:=zGn h h'
 have e0:(k.val==0)=false:=by simp;omega
 have hd:decide (k.val<0)=false:=by simp;omega
 simp only [zaS,zdD,zcm,zd2,Tr.get,e0,hd,e,cfl]
 have e1:(Rng.w .i64 (k.val*7244019458077122842/1073741824)).val=k.val*7244019458077122842/1073741824:=wi (by omega) (by omega)
 rw [e1]
 have e2:(Rng.w .i64 (k.val*7244019458077122842/1073741824+1)).val=k.val*7244019458077122842/1073741824+1:=wi (by omega) (by omega)
 exact ⟨rfl,e2,rfl,e2⟩
theorem zuR {k:Int} (h:0<k) (h':k<=4096):fx (k*7244019458077122842/1073741824)<=qt k/\qt k<=fx (k*7244019458077122842/1073741824+1):=by
 have hk2:=zOe zMK (m:=k) h (by omega)
 have f1:(k*7244019458077122842/1073741824)*1073741824<=k*7244019458077122842:=by omega
 have f2:k*7244019458077122843<=(k*7244019458077122842/1073741824+1)*1073741824:=by omega
 have g1:=zqf.2 f1
 have g2:=zqf.2 f2
 rw [zhb,zhb] at g1 g2
 have z0:=zF8 (show 0<=k by omega)
 have p1:=zJW
 have p2:=zMr
 unfold fx qt
 generalize zi (k*7244019458077122842/1073741824)=q at *;generalize zi (k*7244019458077122842/1073741824+1)=q' at *;generalize zi k=z at *
 rw [show zi 1073741824=rat 1073741824 from rfl] at g1 g2
 rw [show zi 7244019458077122842=rat 7244019458077122842 from rfl] at g1
 rw [show zi 7244019458077122843=rat 7244019458077122843 from rfl] at g2
 generalize hp=p at *
 exact ⟨zH [q,z,p] (pn (kn (1/4611686018427387904) (sn g1)) (mn z0 (sn p1))),zH [q',z,p] (pn (kn (1/4611686018427387904) (sn g2)) (mn z0 (sn p2)))⟩
theorem In.turn {k:I64} (h: -4096<=k.val) (h':k.val<=4096):za (zP k)=true/\fx (zP k).lo.val<=qt k.val/\qt k.val<=fx (zP k).hi.val:=by
 obtain ⟨g,e⟩:=zsr h h'
 rw [e]
 by_cases k0:k.val=0
 ·have e0:(k.val==0)=true:=by simp [k0]
  have ev:zaS k=⟨⟨0,rfl⟩,⟨0,rfl⟩⟩:=by simp only [zaS,zdD,Tr.get,e0,ctr]
  rw [ev,k0]
  refine ⟨(zaB _).2 (by decide),?_,?_⟩
  ·show fx 0<=qt 0;rw [fx_0,qt_0];exact le_refl _
  ·show qt 0<=fx 0;rw [fx_0,qt_0];exact le_refl _
 by_cases kp:0<k.val
 ·obtain ⟨v1,v2,_,_⟩:=zDU kp h'
  obtain ⟨r1,r2⟩:=zuR kp h'
  refine ⟨(zaB _).2 ?_,by rw [v1];exact r1,by rw [v2];exact r2⟩
  rw [v1,v2];omega
 ·have en:(Rng.w .i64 (0-k.val)).val= -k.val:=by rw [wi (by omega) (by omega)];omega
  obtain ⟨_,_,v1,v2⟩:=zDU (k:= .w .i64 (0-k.val)) (by rw [en];omega) (by rw [en];omega)
  obtain ⟨r1,r2⟩:=zuR (k:= -k.val) (by omega) (by omega)
  rw [en] at v1 v2
  have e0:(k.val==0)=false:=by simp [k0]
  have hd:decide (k.val<0)=true:=by simp;omega
  obtain ⟨x,h1,h2,h3⟩:=zGl (.w .i64 (0-k.val)) (by rw [en];omega) (by rw [en];omega)
  have g1:ze3 (.w .i64 (0-k.val))=true:=by unfold ze3;rw [h1];rfl
  have w1:(Rng.w .i64 (0-(zcm (.w .i64 (0-k.val))).hi.val)).val= -(-k.val*7244019458077122842/1073741824+1):=by rw [v2,wi (by omega) (by omega)];omega
  have w2:(Rng.w .i64 (0-(zcm (.w .i64 (0-k.val))).lo.val)).val= -(-k.val*7244019458077122842/1073741824):=by rw [v1,wi (by omega) (by omega)];omega
  have ev:zaS k=⟨.w .i64 (0-(zcm (.w .i64 (0-k.val))).hi.val),.w .i64 (0-(zcm (.w .i64 (0-k.val))).lo.val)⟩:=by
   simp only [zaS,zdD,Tr.get,e0,hd,g1,ctr,cfl]
  rw [ev]
  simp only [w1,w2]
  have qn':=zx0 k.val
  rw [qn'] at r1 r2
  refine ⟨(zaB _).2 (by simp only [w1,w2];omega),?_,?_⟩
  ·rw [zio];generalize fx (-k.val*7244019458077122842/1073741824+1)=u at *;generalize qt k.val=v at *;exact zH [u,v] (sn r2)
  ·rw [zio];generalize fx (-k.val*7244019458077122842/1073741824)=u at *;generalize qt k.val=v at *;exact zH [u,v] (sn r1)
theorem In.turn' {k:I64} (h: -4096<=k.val) (h':k.val<=4096):In (qt k.val) (zP k):=fun _=>(In.turn h h').2
def rad (n:Int):Re:=zi n*(hp*rat (1/900000000))
theorem zza (n:Int):rad (-n)= - rad n:=by unfold rad;rw [zAi,An.neg_mul]
theorem zQC:rad 0=0:=An.zero_mul _
theorem zD4 {n:Int} (h:0<n):fx (n*7244019458077122842/966367641600000000)<=rad n/\rad n<=fx (n*7244019458077122843/966367641600000000+1):=by
 have f1:(n*7244019458077122842/966367641600000000)*966367641600000000<=n*7244019458077122842:=by omega
 have f2:n*7244019458077122843<=(n*7244019458077122843/966367641600000000+1)*966367641600000000:=by omega
 have g1:=zqf.2 f1
 have g2:=zqf.2 f2
 rw [zhb,zhb] at g1 g2
 have z0:=zF8 (show 0<=n by omega)
 have p1:=zJW
 have p2:=zMr
 unfold fx rad
 generalize zi (n*7244019458077122842/966367641600000000)=q at *;generalize zi (n*7244019458077122843/966367641600000000+1)=q' at *;generalize zi n=z at *
 rw [show zi 966367641600000000=rat 966367641600000000 from rfl] at g1 g2
 rw [show zi 7244019458077122842=rat 7244019458077122842 from rfl] at g1
 rw [show zi 7244019458077122843=rat 7244019458077122843 from rfl] at g2
 generalize hp=p at *
 exact ⟨zH [q,z,p] (pn (kn (1/4150517416584649113600000000) (sn g1)) (kn (1/900000000) (mn z0 (sn p1)))),zH [q',z,p] (pn (kn (1/4150517416584649113600000000) (sn g2)) (kn (1/900000000) (mn z0 (sn p2))))⟩
theorem zva {n:I64} (h:0<n.val) (h':n.val<=36000000000):((zaq n).lo.val=n.val*7244019458077122842/966367641600000000/\(zaq n).hi.val=n.val*7244019458077122843/966367641600000000+1) /\
  ((zcI n).lo.val=n.val*7244019458077122842/966367641600000000/\(zcI n).hi.val=n.val*7244019458077122843/966367641600000000+1)/\zfl n=true:=by
 have e0:(n.val==0)=false:=by simp;omega
 have hd:decide (n.val<0)=false:=by simp;omega
 have hi:zaf n ⟨(-36000000000),rfl⟩ ⟨36000000000,rfl⟩=true:=by rw [zdp];simp;omega
 have m1:zbv n ⟨7244019458077122842,rfl⟩ ⟨966367641600000000,rfl⟩=⟨.w .i64 (n.val*7244019458077122842/966367641600000000),true⟩:=by
  rw [zeL,MD,if_pos (by decide)];exact zfj (by simp only;omega) (by simp only;omega)
 have m2:zbv n ⟨7244019458077122843,rfl⟩ ⟨966367641600000000,rfl⟩=⟨.w .i64 (n.val*7244019458077122843/966367641600000000),true⟩:=by
  rw [zeL,MD,if_pos (by decide)];exact zfj (by simp only;omega) (by simp only;omega)
 have w1:(Rng.w .i64 (n.val*7244019458077122842/966367641600000000)).val=n.val*7244019458077122842/966367641600000000:=wi (by omega) (by omega)
 have w2:(Rng.w .i64 (n.val*7244019458077122843/966367641600000000)).val=n.val*7244019458077122843/966367641600000000:=wi (by omega) (by omega)
 have w3:(Rng.w .i64 (n.val*7244019458077122843/966367641600000000+1)).val=n.val*7244019458077122843/966367641600000000+1:=wi (by omega) (by omega)
 refine ⟨?_,?_,?_⟩
 ·simp only [zaq,zbM,Tr.get,hi,e0,hd,m1,m2,zmz,ctr,cfl,Bool.not_true,w1,w2,w3,and_self]
 ·simp only [zcI,zcE,Tr.get,hi,e0,hd,m1,m2,zmz,ctr,cfl,Bool.not_true,w1,w2,w3,and_self]
 ·simp only [zfl,zcE,Tr.opt,hi,e0,hd,m1,m2,zmz,ctr,cfl,Bool.not_true,Option.isSome]
theorem In.rad {n:I64}:In (rad n.val) (zaq n):=by
 by_cases hr: -36000000000<=n.val/\n.val<=36000000000
 ·have hi:zaf n ⟨(-36000000000),rfl⟩ ⟨36000000000,rfl⟩=true:=by rw [zdp];simpa using hr
  by_cases k0:n.val=0
  ·have e0:(n.val==0)=true:=by simp [k0]
   have ev:zaq n=⟨⟨0,rfl⟩,⟨0,rfl⟩⟩:=by simp only [zaq,zbM,Tr.get,hi,e0,ctr,cfl,Bool.not_true]
   rw [ev,k0]
   intro _
   show fx 0<=Nc.rad 0/\Nc.rad 0<=fx 0
   rw [fx_0,zQC];exact ⟨le_refl _,le_refl _⟩
  by_cases kp:0<n.val
  ·intro _
   rw [(zva kp hr.2).1.1,(zva kp hr.2).1.2]
   exact zD4 kp
  ·have en:(Rng.w .i64 (0-n.val)).val= -n.val:=by rw [wi (by omega) (by omega)];omega
   obtain ⟨_,⟨v1,v2⟩,g⟩:=zva (n:= .w .i64 (0-n.val)) (by rw [en];omega) (by rw [en];omega)
   have e0:(n.val==0)=false:=by simp [k0]
   have hd:decide (n.val<0)=true:=by simp;omega
   simp only [zaq,zbM,Tr.get,hi,e0,hd,g,ctr,cfl,Bool.not_true]
   have:In (Nc.rad (-n.val)) (zcI (.w .i64 (0-n.val))):=fun _=>by
    rw [v1,v2,en];exact zD4 (by omega)
   have:=this.neg
   rw [zza] at this
   rwa [show - - Nc.rad n.val=Nc.rad n.val from by generalize Nc.rad n.val=u;exact An.ring [u]] at this
 ·have hi:zaf n ⟨(-36000000000),rfl⟩ ⟨36000000000,rfl⟩=false:=by rw [zdp];simpa using hr
  simp only [zaq,zbM,Tr.get,hi,Bool.not_false,ctr,zbU]
  exact In.whole _
end Go.Proofs.YtaoakfodkoifoaaGreat.Nc
namespace Go.Proofs.YtaoakfodkoifoaaGreat.Nc
open Go Go.Proofs.YtaoakfodkoifoaaGreat.An
open Go.Proofs.YtaoakfodkoifoaaGreat.Ev hiding mn zgA neg_eq znV sub_eq
theorem In.over' {x:Re} {a:Iv} (h:In x a) {n:I64} (q:Nat) (r:Rat) (hn:n.val=((q+1:Nat):Int):=by kernel_rfl) (hq:decide (q<=268435454)=true:=by kernel_rfl) (hr:1/((q+1:Nat):Rat)=r:=by kernel_rfl):In (x*rat r) (zo a (zf n)):=by
 rw [<- hr];exact h.over q hn (of_decide_eq_true hq)
theorem In.zu7 {y:Re} {a:Iv} (h:In y a):In (1-y*rat (1/6)*(1-y*rat (1/20)*(1-y*rat (1/42)*(1-y*rat (1/72)*(1-y*rat (1/110)*(1-y*rat (1/156)*(1-y*rat (1/210)*(1-y*rat (1/272)*1)))))))) (zaT a ⟨0,rfl⟩):=by
 simp only [zaT,zdq,Tr.get]
 exact (In.sub In.one (In.mul (h.over' 5 (1/6)) (In.sub In.one (In.mul (h.over' 19 (1/20)) (In.sub In.one (In.mul (h.over' 41 (1/42)) (In.sub In.one (In.mul (h.over' 71 (1/72)) (In.sub In.one (In.mul (h.over' 109 (1/110)) (In.sub In.one (In.mul (h.over' 155 (1/156)) (In.sub In.one (In.mul (h.over' 209 (1/210)) (In.sub In.one (In.mul (h.over' 271 (1/272)) In.one))))))))))))))))
theorem In.zu6 {y:Re} {a:Iv} (h:In y a):In (1-y*rat (1/2)*(1-y*rat (1/12)*(1-y*rat (1/30)*(1-y*rat (1/56)*(1-y*rat (1/90)*(1-y*rat (1/132)*(1-y*rat (1/182)*(1-y*rat (1/240)*1)))))))) (zaT a ⟨-1,rfl⟩):=by
 simp only [zaT,zdq,Tr.get]
 exact (In.sub In.one (In.mul (h.over' 1 (1/2)) (In.sub In.one (In.mul (h.over' 11 (1/12)) (In.sub In.one (In.mul (h.over' 29 (1/30)) (In.sub In.one (In.mul (h.over' 55 (1/56)) (In.sub In.one (In.mul (h.over' 89 (1/90)) (In.sub In.one (In.mul (h.over' 131 (1/132)) (In.sub In.one (In.mul (h.over' 181 (1/182)) (In.sub In.one (In.mul (h.over' 239 (1/240)) In.one))))))))))))))))
theorem zLC {a:Iv} (h:zal a zu=true):za a=true /\ -4294967296<=a.lo.val/\a.hi.val<=4294967296:=by
 have e1:zu.lo.val= -4294967296:=rfl
 have e2:zu.hi.val=4294967296:=rfl
 simp only [zal,zde,Tr.get,zqU.1,Bool.not_true,cfl,e1,e2] at h
 revert h
 cases za a<;>by_cases h1: -4294967296<=a.lo.val<;>simp [h1,ctr,cfl]
theorem In.abs1 {x:Re} {a:Iv} (h:In x a) (k:zal a zu=true):An.abs x<=1:=by
 obtain ⟨o,k1,k2⟩:=zLC k
 obtain ⟨h1,h2⟩:=h o
 have l1:=zfu.2 k1
 have l2:=zfu.2 k2
 rw [zFM] at l1
 rw [fx_1] at l2
 exact zeU (le_trans l1 h1) (le_trans h2 l2)
theorem In.sinS {x:Re} {a:Iv} (h:In x a):In (sin x) (zaH a):=by
 simp only [zaH,zeX,Tr.get,zbU]
 cases hi:zal a zu
 ·exact In.whole _
 simp only [Bool.not_true,cfl]
 have e:=le_trans (zFq (h.abs1 hi)) (zo1 _ (1/4294967296))
 have:=(h.mul h.sqr.zu7).add (In.tiny e)
 generalize x*(1-(x*x)*rat (1/6)*(1-(x*x)*rat (1/20)*(1-(x*x)*rat (1/42)*(1-(x*x)*rat (1/72)*(1-(x*x)*rat (1/110)*(1-(x*x)*rat (1/156)*(1-(x*x)*rat (1/210)*(1-(x*x)*rat (1/272)*1))))))))=u at *;generalize sin x=s at *
 rwa [show u+(s-u)=s from An.ring [u,s]] at this
theorem In.cosS {x:Re} {a:Iv} (h:In x a):In (cos x) (zaM a):=by
 simp only [zaM,zeY,Tr.get,zbU]
 cases hi:zal a zu
 ·exact In.whole _
 simp only [Bool.not_true,cfl]
 have e:=le_trans (zFX (h.abs1 hi)) (zo1 _ (1/4294967296))
 have:=h.sqr.zu6.add (In.tiny e)
 generalize (1-(x*x)*rat (1/2)*(1-(x*x)*rat (1/12)*(1-(x*x)*rat (1/30)*(1-(x*x)*rat (1/56)*(1-(x*x)*rat (1/90)*(1-(x*x)*rat (1/132)*(1-(x*x)*rat (1/182)*(1-(x*x)*rat (1/240)*1))))))))=u at *;generalize cos x=s at *
 rwa [show u+(s-u)=s from An.ring [u,s]] at this
def and4 (x:Int):Bool:=(Rng.w .i64 (zbI .and .i64 (Rng.w .i64 x).val 3)).val==x%4
def zFb:Nat->Bool
 | 0=>and4 0
 | n+1=>and4 (n+1:Nat)&&(and4 (-((n+1:Nat):Int))&&zFb n)
theorem zKr:zFb 600=true:=by kernel_rfl
theorem zMT {n:Nat} (h:zFb n=true) {m:Int} (h1: -(n:Int)<=m) (h2:m<=n):(Rng.w .i64 (zbI .and .i64 (Rng.w .i64 m).val 3)).val=m%4:=by
 induction n with
 | zero=>
  have:m=0:=by omega
  subst this
  exact eq_of_beq h
 | succ n ih=>
  simp only [zFb,Bool.and_eq_true] at h
  by_cases k1:m=((n+1:Nat):Int)
  ·have:=h.1
   rw [<- k1] at this
   exact eq_of_beq this
  by_cases k2:m= -((n+1:Nat):Int)
  ·have:=h.2.1
   rw [<- k2] at this
   exact eq_of_beq this
  exact ih h.2.2 (by omega) (by omega)
theorem zIH {m:Int} (h1: -600<=m) (h2:m<=600):(Rng.w .i64 (zbI .and .i64 (Rng.w .i64 m).val 3)).val=m%4:=zMT zKr h1 h2
theorem zKy (x:Re): -1<=sin x/\sin x<=1:=⟨znl x,zpp x⟩
theorem In.at {n t:I64} (ht:0<=t.val/\t.val<=3):In (sin (fx n.val+qt t.val)) (zaj n t):=by
 have hs:=zKy (fx n.val+qt t.val)
 simp only [zaj,zje,Tr.get]
 cases za9 n
 ·exact In.ring hs.1 hs.2
 have hb:=znY n
 have h4:=zIH (m:=(zY n).val+t.val) (by omega) (by omega)
 have hk:In (fx n.val-qt (zY n).val) (zG (zB n) (zP (zY n))):=by
  refine In.sub ?_ (In.turn' (by omega) (by omega))
  simp only [zB,zhf,Tr.get]
  exact In.point
 simp only [Bool.not_true,cfl,h4]
 generalize zG (zB n) (zP (zY n))=c at hk
 have e:fx n.val+qt t.val=(fx n.val-qt (zY n).val)+qt ((zY n).val+t.val):=by
  rw [zBl];generalize fx n.val=u;generalize qt (zY n).val=v;generalize qt t.val=w;exact An.ring [u,v,w]
 rw [e] at hs ⊢
 generalize fx n.val-qt (zY n).val=r at *
 generalize (zY n).val+t.val=k at *
 have hk4:k%4=0\/k%4=1\/k%4=2\/k%4=3:=by omega
 rcases hk4 with h|h|h|h
 ·have e0:(k%4==0)=true:=by simp [h]
  simp only [e0,ctr]
  rw [zGA r h] at hs ⊢
  exact hk.sinS.meet hs.1 hs.2
 ·have e0:(k%4==0)=false:=by simp [h]
  have e1:(k%4==1)=true:=by simp [h]
  simp only [e0,e1,ctr,cfl]
  rw [zGz r h] at hs ⊢
  exact hk.cosS.meet hs.1 hs.2
 ·have e0:(k%4==0)=false:=by simp [h]
  have e1:(k%4==1)=false:=by simp [h]
  have e2:(k%4==2)=true:=by simp [h]
  simp only [e0,e1,e2,ctr,cfl]
  rw [zGy r h] at hs ⊢
  exact hk.sinS.neg.meet hs.1 hs.2
 ·have e0:(k%4==0)=false:=by simp [h]
  have e1:(k%4==1)=false:=by simp [h]
  have e2:(k%4==2)=false:=by simp [h]
  simp only [e0,e1,e2,cfl]
  rw [zNj r h] at hs ⊢
  exact hk.cosS.neg.meet hs.1 hs.2
theorem zLD:za zu=true /\ -4294967296<=zu.lo.val/\zu.hi.val<=4294967296:=⟨zqU.1,by rw [zqU.2.1];decide,by rw [zqU.2.2];decide⟩
theorem zOi (n t:I64):za (zaj n t)=true /\ -4294967296<=(zaj n t).lo.val/\(zaj n t).hi.val<=4294967296:=by
 have m:∀a,za (zav a)=true /\ -4294967296<=(zav a).lo.val/\(zav a).hi.val<=4294967296:=fun a=>⟨(zvI a).1,(zvI a).2.1,(zvI a).2.2.1⟩
 simp only [zaj,zje,Tr.get]
 cases za9 n
 ·exact zLD
 simp only [Bool.not_true,cfl]
 generalize ((Rng.w .i64 (zbI .and .i64 (Rng.w .i64 ((zY n).val+t.val)).val 3)).val==0)=c0
 generalize ((Rng.w .i64 (zbI .and .i64 (Rng.w .i64 ((zY n).val+t.val)).val 3)).val==1)=c1
 generalize ((Rng.w .i64 (zbI .and .i64 (Rng.w .i64 ((zY n).val+t.val)).val 3)).val==2)=c2
 cases c0<;>cases c1<;>cases c2<;>exact m _
theorem zvv {n:I64} (h: -1099511627776<=n.val/\n.val<=1099511627776):(zY n).val=(n.val+3373259426)/6746518852:=by
 have ha:za9 n=true:=by simp only [za9,zhe,Tr.get,zdp];simpa using h
 have hb:=h
 have e1:(Rng.w .i64 (n.val+3373259426)).val=n.val+3373259426:=wi (by omega) (by omega)
 have hs:Int.sign 6746518852=1:=rfl
 have ht:=Int.tdiv_eq_ediv (a:=n.val+3373259426) (b:=6746518852)
 have q1:(Rng.w .i64 ((n.val+3373259426).tdiv 6746518852)).val=(n.val+3373259426).tdiv 6746518852:=by
  refine wi ?_ ?_<;>(split at ht<;>omega)
 have hm:=Int.mul_tdiv_add_tmod (n.val+3373259426) 6746518852
 have m1:(Rng.w .i64 ((n.val+3373259426).tmod 6746518852)).val=(n.val+3373259426).tmod 6746518852:=by
  refine wi ?_ ?_<;>(split at ht<;>omega)
 have z:((6746518852:Int)==0)=false:=rfl
 simp only [zY,ziR,Tr.get,ha,Bool.not_true,cfl,zmN,zmO,zjA,Tr.opt,Tr.get,e1,q1,m1,z]
 by_cases hc:(n.val+3373259426).tmod 6746518852<0
 ·have w1:(Rng.w .i64 ((n.val+3373259426).tdiv 6746518852-1)).val=(n.val+3373259426).tdiv 6746518852-1:=by
   refine wi ?_ ?_<;>(split at ht<;>omega)
  simp only [hc,decide_true,ctr,Option.isSome_some,w1]
  split at ht<;>omega
 ·simp only [hc,decide_false,cfl,ctr,Option.isSome_some,q1]
  split at ht<;>omega
theorem zFE {a b:Iv} (ha:za a=true) (hb:za b=true) (h1:a.lo.val<=b.hi.val) (h2:b.lo.val<=a.hi.val):zaR a b=true:=by
 have oa:=(zaB _).1 ha
 have ob:=(zaB _).1 hb
 have m1:=zeB a.lo b.lo
 have m2:=zf7 a.hi b.hi
 have hn:¬(zt a.lo b.lo).val>(zC a.hi b.hi).val:=by omega
 simp only [zaR,zfL,zZ,zbJ,Tr.get,ha,hb,Bool.not_true,cfl,hn,decide_false]
theorem zHA (x:Iv) (k':I64) (h1:k'.val<=(k1 x).val) (h2:zaR (zP k') x=true) (h3:(k1 x).val<=1000):
  ∀(n:Nat) (k:I64),-1000<=k.val->k.val<=k'.val->k'.val-k.val<n->k'∈ziG x n k:=by
 intro n
 induction n with
 | zero=>intro k _ _ h;omega
 | succ n ih=>
  intro k hl hk hn
  have hd:decide (k.val<=(k1 x).val)=true:=by simp;omega
  have en:(Rng.w .i64 (k.val+1)).val=k.val+1:=wi (by omega) (by omega)
  simp only [ziG,hd,ctr,zsJ,ziP]
  by_cases e:k.val=k'.val
  ·have e':k=k':=Rng.ext e
   subst e'
   simp only [h2,ctr]
   exact List.mem_cons_self ..
  ·have:=ih (.w .i64 (k.val+1)) (by omega) (by omega) (by omega)
   cases zaR (zP k) x
   ·exact this
   ·exact List.mem_cons_of_mem _ this
theorem zCW:za (zf ⟨1,rfl⟩)=true/\(zf ⟨1,rfl⟩).lo.val=4294967296/\(zf ⟨1,rfl⟩).hi.val=4294967296:=zEE (n:=⟨1,rfl⟩) (by decide)
theorem zEn:za (zf ⟨-1,rfl⟩)=true/\(zf ⟨-1,rfl⟩).lo.val= -4294967296/\(zf ⟨-1,rfl⟩).hi.val= -4294967296:=zEE (n:=⟨-1,rfl⟩) (by decide)
theorem zJV (t:I64):∀(L:List I64) (o:Iv),za o=true->za (znD t L o)=true/\(znD t L o).lo.val<=o.lo.val/\o.hi.val<=(znD t L o).hi.val /\
  (∀k∈L,(znu t k).val=1->4294967296<=(znD t L o).hi.val)/\(∀k∈L,(znu t k).val=3->(znD t L o).lo.val <= -4294967296):=by
 intro L
 induction L with
 | nil=>intro o ho;exact ⟨ho,Int.le_refl _,Int.le_refl _,(fun k h=>by cases h),(fun k h=>by cases h)⟩
 | cons k L ih=>
  intro o ho
  simp only [znD,zlC,zbP]
  by_cases c1:(znu t k).val=1
  ·have e1:((znu t k).val==1)=true:=by simp [c1]
   simp only [e1,ctr]
   have hv:=zsV ho zCW.1
   obtain ⟨i1,i2,i3,i4,i5⟩:=ih _ hv.1
   have o1:=zCW.2.2
   refine ⟨i1,by omega,by omega,fun j hj h=>?_,fun j hj h=>?_⟩
   ·rcases List.mem_cons.1 hj with rfl|hj
    ·omega
    ·exact i4 j hj h
   ·rcases List.mem_cons.1 hj with rfl|hj
    ·omega
    ·exact i5 j hj h
  ·have e1:((znu t k).val==1)=false:=by simp [c1]
   simp only [e1,cfl]
   by_cases c3:(znu t k).val=3
   ·have e3:((znu t k).val==3)=true:=by simp [c3]
    simp only [e3,ctr]
    have hv:=zsV ho zEn.1
    obtain ⟨i1,i2,i3,i4,i5⟩:=ih _ hv.1
    have o1:=zEn.2.1
    refine ⟨i1,by omega,by omega,fun j hj h=>?_,fun j hj h=>?_⟩
    ·rcases List.mem_cons.1 hj with rfl|hj
     ·omega
     ·exact i4 j hj h
    ·rcases List.mem_cons.1 hj with rfl|hj
     ·omega
     ·exact i5 j hj h
   ·have e3:((znu t k).val==3)=false:=by simp [c3]
    simp only [e3,cfl]
    obtain ⟨i1,i2,i3,i4,i5⟩:=ih _ ho
    refine ⟨i1,by omega,by omega,fun j hj h=>?_,fun j hj h=>?_⟩
    ·rcases List.mem_cons.1 hj with rfl|hj
     ·omega
     ·exact i4 j hj h
    ·rcases List.mem_cons.1 hj with rfl|hj
     ·omega
     ·exact i5 j hj h
theorem zNs {k a:Int} (h:fx a<=qt k):(0<=k/\a*1073741824<=k*7244019458077122843)\/(k<0/\a*1073741824<=k*7244019458077122842):=by
 have p1:=zJW
 have p2:=zMr
 by_cases hk:0<=k
 ·left;refine ⟨hk,zqf.1 ?_⟩
  have z0:=zF8 hk
  rw [zhb,zhb,show zi 1073741824=rat 1073741824 from rfl,show zi 7244019458077122843=rat 7244019458077122843 from rfl]
  unfold fx qt at h
  generalize zi k=z at *;generalize zi a=u at *;generalize hp=p at *
  exact zH [u,z,p] (pn (kn 4611686018427387904 (sn h)) (kn 4611686018427387904 (mn z0 (sn p2))))
 ·right;refine ⟨by omega,zqf.1 ?_⟩
  have z0:=zqf.2 (show k<=0 by omega)
  rw [zi_0] at z0
  rw [zhb,zhb,show zi 1073741824=rat 1073741824 from rfl,show zi 7244019458077122842=rat 7244019458077122842 from rfl]
  unfold fx qt at h
  generalize zi k=z at *;generalize zi a=u at *;generalize hp=p at *
  exact zH [u,z,p] (pn (kn 4611686018427387904 (sn h)) (kn 4611686018427387904 (mn (zlM z0) (sn p1))))
theorem zQE {k b:Int} (h:qt k<=fx b):(0<=k/\k*7244019458077122842<=b*1073741824)\/(k<0/\k*7244019458077122843<=b*1073741824):=by
 have e:fx (-b)<=qt (-k):=by rw [zio,zx0];generalize fx b=u at *;generalize qt k=v at *;exact zH [u,v] (sn h)
 have:=zNs e
 omega
theorem In.over06 {x:Re} {a:Iv} (h:In x a) {t:I64} (ht:0<=t.val/\t.val<=3):In (sin (x+qt t.val)) (zgP a t):=by
 have hs:=zKy (x+qt t.val)
 rw [<- zsK]
 unfold zaZ
 rw [zv0,zpr]
 cases hf:zb7 a
 ·exact In.ring hs.1 hs.2
 simp only [Bool.not_true,cfl]
 have hfit:za a=true/\(-1099511627776<=a.lo.val/\a.lo.val<=1099511627776)/\(-1099511627776<=a.hi.val/\a.hi.val<=1099511627776):=by
  simp only [zb7,ziA,Tr.get,zed,zfD,za9,zhe,zdp] at hf
  revert hf
  cases za a<;>by_cases c1: -1099511627776<=a.lo.val/\a.lo.val<=1099511627776<;>by_cases c2: -1099511627776<=a.hi.val/\a.hi.val<=1099511627776<;>simp [c1,c2,ctr,cfl]
 obtain ⟨oa,⟨l1,l2⟩,⟨u1,u2⟩⟩:=hfit
 obtain ⟨h1,h2⟩:=h oa
 have ho:o0 a t=zN (zaj a.lo t) (zaj a.hi t):=by unfold o0;rw [zlC,ziI,ziI]
 have v1:=zOi a.lo t
 have v2:=zOi a.hi t
 have hv:=zsV v1.1 v2.1
 rw [ho]
 obtain ⟨i1,i2,i3,i4,i5⟩:=zJV t (ziG a 1000 (k0 a)) _ hv.1
 have a1:=In.at (n:=a.lo) ht v1.1
 have a2:=In.at (n:=a.hi) ht v2.1
 have kb:=k_bd a
 have q0:(k0 a).val=(a.lo.val+3373259426)/6746518852-1:=by
  have qb:=znY a.lo
  unfold k0;rw [zgM,wi (by omega) (by omega),zvv ⟨l1,l2⟩]
 have q1:(k1 a).val=(a.hi.val+3373259426)/6746518852+1:=by
  have qb:=znY a.hi
  unfold k1;rw [zgM,wi (by omega) (by omega),zvv ⟨u1,u2⟩]
 have mem:∀j:Int,fx a.lo.val<=qt j->qt j<=fx a.hi.val->∃k:I64,k.val=j/\k∈ziG a 1000 (k0 a)/\(znu t k).val=(j+t.val)%4:=fun j j1 j2=>by
  have g1:=zNs j1
  have g2:=zQE j2
  have jb: -200<=j/\j<=200:=by omega
  have ek:(Rng.w .i64 j).val=j:=wi (by omega) (by omega)
  refine ⟨.w .i64 j,ek,?_,?_⟩
  ·obtain ⟨t1,t2,t3⟩:=In.turn (k:= .w .i64 j) (by omega) (by omega)
   rw [ek] at t2 t3
   refine zHA a _ (by omega) (zFE t1 oa (zfu.1 (le_trans t2 j2)) (zfu.1 (le_trans j1 t3))) (by omega) 1000 (k0 a) (by omega) (by omega) (by omega)
  ·unfold znu;rw [ek];exact zIH (by omega) (by omega)
 intro _
 have mv:∀ {p q:Re},p<=q->∀j:Int,p+qt t.val<=qt j->p<=qt (j-t.val):=fun {p q} _ j hj=>by
  have e:=zBl (j-t.val) t.val
  rw [show j-t.val+t.val=j by omega] at e
  rw [e] at hj
  generalize qt (j-t.val)=u at *;generalize qt t.val=v at *
  exact zH [p,u,v] (sn hj)
 have mv':∀ {p:Re},∀j:Int,qt j<=p+qt t.val->qt (j-t.val)<=p:=fun {p} j hj=>by
  have e:=zBl (j-t.val) t.val
  rw [show j-t.val+t.val=j by omega] at e
  rw [e] at hj
  generalize qt (j-t.val)=u at *;generalize qt t.val=v at *
  exact zH [p,u,v] (sn hj)
 constructor
 ·rcases zFr (zc3 h1 (le_refl (qt t.val))) (zc3 h2 (le_refl (qt t.val))) with c|c|⟨j,j4,j1,j2⟩
  ·exact le_trans (le_trans (zfu.2 (Int.le_trans i2 hv.2.1)) a1.1) c
  ·exact le_trans (le_trans (zfu.2 (Int.le_trans i2 hv.2.2.1)) a2.1) c
  ·obtain ⟨k,k1',k2,k3⟩:=mem (j-t.val) (mv (le_refl (fx a.lo.val)) j j1) (mv' j j2)
   have:=i5 k k2 (by omega)
   refine le_trans ?_ hs.1
   rw [<- zFM];exact zfu.2 this
 ·rcases zGw (zc3 h1 (le_refl (qt t.val))) (zc3 h2 (le_refl (qt t.val))) with c|c|⟨j,j4,j1,j2⟩
  ·exact le_trans c (le_trans a1.2 (zfu.2 (Int.le_trans hv.2.2.2.1 i3)))
  ·exact le_trans c (le_trans a2.2 (zfu.2 (Int.le_trans hv.2.2.2.2.1 i3)))
  ·obtain ⟨k,k1',k2,k3⟩:=mem (j-t.val) (mv (le_refl (fx a.lo.val)) j j1) (mv' j j2)
   have:=i4 k k2 (by omega)
   refine le_trans hs.2 ?_
   rw [<- fx_1];exact zfu.2 this
theorem In.sin {x:Re} {a:Iv} (h:In x a):In (An.sin x) (zan a):=by
 have:=h.over06 (t:=⟨0,rfl⟩) (by decide)
 rw [show ((⟨0,rfl⟩:I64).val)=0 from rfl,qt_0,An.add_zero] at this
 simp only [zan,zi7,Tr.get]
 exact this
theorem In.cos {x:Re} {a:Iv} (h:In x a):In (An.cos x) (zbR a):=by
 have:=h.over06 (t:=⟨1,rfl⟩) (by decide)
 rw [show ((⟨1,rfl⟩:I64).val)=1 from rfl,zGz x (by decide)] at this
 simp only [zbR,zmo,Tr.get]
 exact this
end Go.Proofs.YtaoakfodkoifoaaGreat.Nc
namespace Go.Proofs.YtaoakfodkoifoaaGreat.Nc
open Go Go.Proofs.YtaoakfodkoifoaaGreat.An
open Go.Proofs.YtaoakfodkoifoaaGreat.Ev hiding mn zgA neg_eq znV sub_eq
theorem zmC {x y:I64} (hy:y.val<0) (h:(zO x y).b=true):(zO x y).a.val= -x.val*4294967296 / -y.val:=by
 have z0:(y.val==0)=false:=by simp;omega
 have z1:decide (y.val<0)=true:=by simpa using hy
 simp only [zO,zbO,Tr.get,zeL,z0,z1,ctr,cfl] at h ⊢
 cases h1:zJ x
 ·rw [h1] at h;simp [ctr] at h
 cases h2:zJ y
 ·rw [h1,h2] at h;simp [ctr,cfl] at h
 have bx:=zqY h1
 have by':=zqY h2
 have ex:(Rng.w .i64 (0-x.val)).val= -x.val:=by rw [wi (by omega) (by omega)];omega
 have ey:(Rng.w .i64 (0-y.val)).val= -y.val:=by rw [wi (by omega) (by omega)];omega
 rw [h1,h2] at h
 have hp:0 < -y.val:=by omega
 simp only [Bool.not_true,cfl,MD,ex,ey,hp,if_true] at h ⊢
 unfold narrow at h ⊢
 split at h
 ·rename_i hr
  rw [if_pos hr]
  rcases zlp (.w .i64 (-x.val*4294967296 / -y.val)) true with e|⟨e,_⟩
  ·rw [e] at h;cases h
  ·rw [e];exact wi hr.1 hr.2
 ·have:(zaJ (.w .i64 0) false).b=false:=by simp only [zaJ,zei,Tr.get,Bool.not_false,ctr]
  rw [this] at h;cases h
theorem zrT {x y:I64} (hy:y.val<0) (h:(z8 x y).b=true):(z8 x y).a.val= -(x.val*4294967296 / -y.val):=by
 simp only [z8,zdK,Tr.get] at h ⊢
 cases h1:zJ x
 ·rw [h1] at h;simp [ctr] at h
 rw [h1] at h
 simp only [Bool.not_true,cfl] at h ⊢
 have hb:=zqY h1
 have e:=zmC hy h
 have en:(Rng.w .i64 (0-x.val)).val= -x.val:=by rw [wi (by omega) (by omega)];omega
 rw [en,Int.neg_neg] at e
 rcases zgm (.w .i64 (0-x.val)) y with k|⟨c,k,kc⟩
 ·rw [k] at h;cases h
 ·have kb:=zqY kc
  rw [k] at e ⊢
  simp only at e ⊢
  rw [wi (by omega) (by omega)]
  omega
theorem zwb {a b:Iv} (h0:b.hi.val<0) (h:za (zo a b)=true):za a=true/\za b=true /\
  ∀x y:I64,(x=a.lo\/x=a.hi)->(y=b.lo\/y=b.hi)->(zo a b).lo.val <= -x.val*4294967296 / -y.val /\ -(x.val*4294967296 / -y.val)<=(zo a b).hi.val:=by
 have nw:∀ {P:Prop},za zh=true->P:=fun h=>by rw [zbD] at h;cases h
 simp only [zo,zho,Tr.get] at h ⊢
 cases ha:za a
 ·rw [ha] at h;exact nw h
 cases hb:za b
 ·rw [ha,hb] at h;exact nw h
 have bb:=(zaB _).1 hb
 have h0':b.lo.val<0:=by omega
 cases hz:zaO b ⟨0,rfl⟩
 case true=>rw [ha,hb,hz] at h;exact nw h
 simp only [ha,hb,hz,Bool.not_true,cfl] at h ⊢
 cases h1:(zO a.lo b.lo).b
 ·rw [h1] at h;exact nw h
 cases h2:(z8 a.lo b.lo).b
 ·rw [h1,h2] at h;exact nw h
 cases h3:(zO a.lo b.hi).b
 ·rw [h1,h2,h3] at h;exact nw h
 cases h4:(z8 a.lo b.hi).b
 ·rw [h1,h2,h3,h4] at h;exact nw h
 cases h5:(zO a.hi b.lo).b
 ·rw [h1,h2,h3,h4,h5] at h;exact nw h
 cases h6:(z8 a.hi b.lo).b
 ·rw [h1,h2,h3,h4,h5,h6] at h;exact nw h
 cases h7:(zO a.hi b.hi).b
 ·rw [h1,h2,h3,h4,h5,h6,h7] at h;exact nw h
 cases h8:(z8 a.hi b.hi).b
 ·rw [h1,h2,h3,h4,h5,h6,h7,h8] at h;exact nw h
 simp only [h1,h2,h3,h4,h5,h6,h7,h8,Bool.not_true,cfl] at h ⊢
 refine ⟨trivial,trivial,?_⟩
 have v1:=zmC h0' h1
 have v2:=zrT h0' h2
 have v3:=zmC h0 h3
 have v4:=zrT h0 h4
 have v5:=zmC h0' h5
 have v6:=zrT h0' h6
 have v7:=zmC h0 h7
 have v8:=zrT h0 h8
 generalize (zO a.lo b.lo).a=d1 at *
 generalize (zO a.lo b.hi).a=d2 at *
 generalize (zO a.hi b.lo).a=d3 at *
 generalize (zO a.hi b.hi).a=d4 at *
 generalize (z8 a.lo b.lo).a=u1 at *
 generalize (z8 a.lo b.hi).a=u2 at *
 generalize (z8 a.hi b.lo).a=u3 at *
 generalize (z8 a.hi b.hi).a=u4 at *
 have m1:=zf7 ⟨1152921504606846976,rfl⟩ d1
 have m2:=zf7 (zC ⟨1152921504606846976,rfl⟩ d1) d2
 have m3:=zf7 (zC (zC ⟨1152921504606846976,rfl⟩ d1) d2) d3
 have m4:=zf7 (zC (zC (zC ⟨1152921504606846976,rfl⟩ d1) d2) d3) d4
 have n1:=zeB ⟨-1152921504606846976,rfl⟩ u1
 have n2:=zeB (zt ⟨-1152921504606846976,rfl⟩ u1) u2
 have n3:=zeB (zt (zt ⟨-1152921504606846976,rfl⟩ u1) u2) u3
 have n4:=zeB (zt (zt (zt ⟨-1152921504606846976,rfl⟩ u1) u2) u3) u4
 generalize zC (zC (zC (zC ⟨1152921504606846976,rfl⟩ d1) d2) d3) d4=lo at *
 generalize zt (zt (zt (zt ⟨-1152921504606846976,rfl⟩ u1) u2) u3) u4=hi at *
 by_cases hm: -1152921504606846976<lo.val/\lo.val<=hi.val/\hi.val<1152921504606846976
 ·rw [zbq hm]
  simp only
  rintro x y (rfl|rfl) (rfl|rfl)
  ·omega
  ·omega
  ·omega
  ·omega
 ·rw [zi9 hm] at h;exact nw h
theorem zKg {a b:Iv} (h:za (zo a b)=true):0<b.lo.val\/b.hi.val<0:=by
 have nw:∀ {P:Prop},za zh=true->P:=fun h=>by rw [zbD] at h;cases h
 simp only [zo,zho,Tr.get] at h
 cases ha:za a
 ·rw [ha] at h;exact nw h
 cases hb:za b
 ·rw [ha,hb] at h;exact nw h
 have ob:=(zaB _).1 hb
 have hz:zaO b ⟨0,rfl⟩=decide (b.lo.val<=0/\0<=b.hi.val):=by simp only [zaO,zcc,Tr.get,zdp]
 by_cases hd:b.lo.val<=0/\0<=b.hi.val
 ·rw [ha,hb,hz,decide_eq_true hd] at h;exact nw h
 ·omega
theorem In.div {x y:Re} {a b:Iv} (h:In x a) (k:In y b):In (x/y) (zo a b):=fun ok=>by
 rcases zKg ok with h0|h0
 ·exact h.div_pos k h0 ok
 obtain ⟨o1,o2,hc⟩:=zwb h0 ok
 obtain ⟨h1,h2⟩:=h o1
 obtain ⟨k1,k2⟩:=k o2
 have b':=(zaB _).1 o2
 have y0:=lt_of_le_of_lt k2 (zvW h0)
 have n1: -x<=fx (-a.lo.val):=by rw [zio];generalize fx a.lo.val=u at *;exact zH [x,u] (sn h1)
 have n2:fx (-a.hi.val) <= -x:=by rw [zio];generalize fx a.hi.val=u at *;exact zH [x,u] (sn h2)
 have m1: -y<=fx (-b.lo.val):=by rw [zio];generalize fx b.lo.val=u at *;exact zH [y,u] (sn k1)
 have m2:fx (-b.hi.val) <= -y:=by rw [zio];generalize fx b.hi.val=u at *;exact zH [y,u] (sn k2)
 have i1:=zED (zvD y0) m1
 have i2:=zED (fx_p (show 0 < -b.hi.val by omega)) m2
 have p0:∀v:I64,(v=b.lo\/v=b.hi)->0 < -v.val:=by rintro v (rfl|rfl)<;>omega
 have lo:∀u v:I64,(u=a.lo\/u=a.hi)->(v=b.lo\/v=b.hi)->fx (zo a b).lo.val<=fx (-u.val)*(fx (-v.val))⁻¹:=fun u v hu hv=>le_trans (zfu.2 (hc u v hu hv).1) (zvY (p0 v hv))
 have hi:∀u v:I64,(u=a.lo\/u=a.hi)->(v=b.lo\/v=b.hi)->fx (-u.val)*(fx (-v.val))⁻¹<=fx (zo a b).hi.val:=fun u v hu hv=>by
  have:=zBB (x:= -u.val) (p0 v hv)
  rw [Int.neg_neg] at this
  exact le_trans this (zfu.2 (hc u v hu hv).2)
 rw [<- zv8 x y (ne_of_lt y0)]
 exact ⟨zy9 n2 n1 i1 i2 (lo _ _ (.inr rfl) (.inl rfl)) (lo _ _ (.inr rfl) (.inr rfl)) (lo _ _ (.inl rfl) (.inl rfl)) (lo _ _ (.inl rfl) (.inr rfl)),
  zCy n2 n1 i1 i2 (hi _ _ (.inr rfl) (.inl rfl)) (hi _ _ (.inr rfl) (.inr rfl)) (hi _ _ (.inl rfl) (.inl rfl)) (hi _ _ (.inl rfl) (.inr rfl))⟩
theorem zEj {v:Int} (h:(narrow v).b=true):(narrow v).a.val=v /\ -9223372036854775808<=v/\v<=9223372036854775807:=by
 unfold narrow at h ⊢
 split at h
 ·rename_i hr;rw [if_pos hr];exact ⟨wi hr.1 hr.2,hr⟩
 ·cases h
theorem zLJ {a b:Int} (hb:0<b):fx (a*4294967296/b)<=zi a/zi b:=by
 have zb:0<zi b:=by rw [<- zi_0];exact zFe.2 hb
 rw [ztu zb]
 have:=zzO (p:=a*4294967296) hb
 unfold fx
 rw [zhb a] at this
 generalize zi (a*4294967296/b)=q at *;generalize zi a=u at *;generalize zi b=v at *
 rw [show zi 4294967296=rat 4294967296 from rfl] at this
 exact zH [q,u,v] (kn (1/4294967296) (sn this))
theorem zLK {a b:Int} (hb:0<b):zi a/zi b<=fx (a*4294967296/b+1):=by
 have zb:0<zi b:=by rw [<- zi_0];exact zFe.2 hb
 rw [zBM zb]
 have h1:a*4294967296<=(a*4294967296/b+1)*b:=by have:=Int.lt_ediv_add_one_mul_self (a*4294967296) hb;omega
 have:=zqf.2 h1
 unfold fx
 rw [zhb a,zhb _ b] at this
 generalize zi (a*4294967296/b+1)=q at *;generalize zi a=u at *;generalize zi b=v at *
 rw [show zi 4294967296=rat 4294967296 from rfl] at this
 exact zH [q,u,v] (kn (1/4294967296) (sn this))
theorem zLL {a b:Int} (hb:0<b) (h:a*4294967296%b=0):zi a/zi b<=fx (a*4294967296/b):=by
 have zb:0<zi b:=by rw [<- zi_0];exact zFe.2 hb
 rw [zBM zb]
 have h1:a*4294967296<=(a*4294967296/b)*b:=by
  have:=Int.mul_ediv_add_emod (a*4294967296) b
  rw [h,Int.mul_comm] at this;omega
 have:=zqf.2 h1
 unfold fx
 rw [zhb a,zhb _ b] at this
 generalize zi (a*4294967296/b)=q at *;generalize zi a=u at *;generalize zi b=v at *
 rw [show zi 4294967296=rat 4294967296 from rfl] at this
 exact zH [q,u,v] (kn (1/4294967296) (sn this))
theorem zMA {a:I64} {c:Bool} (h:(zaJ a c).b=true):c=true/\zaJ a c=⟨a,true⟩/\zJ a=true:=by
 rcases zlp a c with e|⟨e,k⟩
 ·rw [e] at h;cases h
 ·refine ⟨?_,e,k⟩
  cases c
  ·rw [zye] at e;cases e
  ·rfl
theorem In.quotient {a b:I64} (hb:0<b.val):In (zi a.val/zi b.val) (zQ a b):=by
 rw [zzw]
 have hn:¬b.val<0:=by omega
 unfold QQ
 rw [if_neg hn]
 unfold QU
 cases h1:(FF a b).b
 ·exact In.whole _
 cases h2:(FC a b).b
 ·exact In.whole _
 simp only [cond_true]
 have f1:fx (FF a b).a.val<=zi a.val/zi b.val:=by
  unfold FF at h1 ⊢
  obtain ⟨e1,e2,e3⟩:=zMA h1
  rw [e2]
  simp only [MD,hb,if_true] at e1 ⊢
  have:=zEj e1
  rw [this.1]
  exact zLJ hb
 have f2:zi a.val/zi b.val<=fx (FC a b).a.val:=by
  unfold FC at h2 ⊢
  simp only [hb,if_true] at h2 ⊢
  cases hq:(narrow (a.val*4294967296/b.val)).b
  ·rw [hq] at h2;simp at h2
  have nb:=zEj hq
  simp only [hq,if_true] at h2 ⊢
  by_cases hz:a.val*4294967296%b.val=0
  ·simp only [hz,if_true] at h2 ⊢
   obtain ⟨e1,e2,e3⟩:=zMA h2
   rw [e2,nb.1]
   exact zLL hb hz
  ·simp only [hz,if_false] at h2 ⊢
   obtain ⟨e1,e2,e3⟩:=zMA h2
   rw [e2]
   have ob:=zqY e3
   rw [nb.1] at ob ⊢
   by_cases hx:a.val*4294967296/b.val=9223372036854775807
   ·rw [hx] at ob;exact absurd ob (by decide)
   ·rw [wi (by omega) (by omega)]
    exact zLK hb
 intro ok
 by_cases hm: -1152921504606846976<(FF a b).a.val/\(FF a b).a.val<=(FC a b).a.val/\(FC a b).a.val<1152921504606846976
 ·rw [zbq hm];exact ⟨f1,f2⟩
 ·rw [zi9 hm,zbD] at ok;cases ok
theorem In.quot {n:I64} (q:Nat) (r:Rat) (hn:n.val=((q+1:Nat):Int):=by kernel_rfl) (hr:1/((q+1:Nat):Rat)=r:=by kernel_rfl):In (rat r) (zQ ⟨1,rfl⟩ n):=by
 have:=In.quotient (a:=⟨1,rfl⟩) (b:=n) (by omega)
 rw [hn,zDQ,show zi ((⟨1,rfl⟩:I64)).val=1 from rfl] at this
 have e:(1:Re)/rat ((q+1:Nat):Rat)=rat r:=by
  rw [<- hr]
  have i:=zzI q
  have p:0<rat ((q+1:Nat):Rat):=zHd (Nat.succ_pos q)
  refine zfk (ne_of_gt p) ?_
  rw [div_mul (ne_of_gt p),An.mul_comm,i]
 rwa [e] at this
theorem In.halve {x:Re} {a:Iv} (h:In x a):In (x/(1+An.sqrt (1+x*x))) (zdi a):=by
 simp only [zdi,zjz,Tr.get]
 exact h.div (In.add In.one (In.sqrt (In.add In.one h.sqr)))
theorem In.arcS {x:Re} {a:Iv} (h:In x a):In (atan x) (zdt a):=by
 simp only [zdt,ziS,Tr.get,zbU]
 cases hi:zal a ⟨⟨(-1073741824),rfl⟩,⟨1073741824,rfl⟩⟩
 ·exact In.whole _
 simp only [Bool.not_true,cfl]
 have hin:za a=true /\ -1073741824<=a.lo.val/\a.hi.val<=1073741824:=by
  have h2:za ⟨⟨-1073741824,rfl⟩,⟨1073741824,rfl⟩⟩=true:=(zaB _).2 (by decide)
  simp only [zal,zde,Tr.get,h2,Bool.not_true,cfl] at hi
  revert hi
  cases za a<;>by_cases h1: -1073741824<=a.lo.val<;>simp [h1,ctr,cfl]
 obtain ⟨o,k1,k2⟩:=hin
 have hx:An.abs x<=rat (1/4):=by
  obtain ⟨h1,h2⟩:=h o
  have l1:=zfu.2 k1
  have l2:=zfu.2 k2
  have e:fx 1073741824=rat (1/4):=(show rat ((1073741824:Int):Rat)*rat (1/4294967296)=rat (1/4) from An.ring [])
  rw [zio,e] at l1
  rw [e] at l2
  exact zeU (le_trans l1 h1) (le_trans h2 l2)
 have e:=zDE hx
 have:=(h.mul (In.sub (In.quot (n:=⟨1,rfl⟩) 0 (1/1)) (In.mul h.sqr (In.sub (In.quot (n:=⟨3,rfl⟩) 2 (1/3)) (In.mul h.sqr (In.sub (In.quot (n:=⟨5,rfl⟩) 4 (1/5)) (In.mul h.sqr (In.sub (In.quot (n:=⟨7,rfl⟩) 6 (1/7)) (In.mul h.sqr (In.sub (In.quot (n:=⟨9,rfl⟩) 8 (1/9)) (In.mul h.sqr (In.sub (In.quot (n:=⟨11,rfl⟩) 10 (1/11)) (In.mul h.sqr (In.sub (In.quot (n:=⟨13,rfl⟩) 12 (1/13)) (In.mul h.sqr (In.sub (In.quot (n:=⟨15,rfl⟩) 14 (1/15)) (In.mul h.sqr (In.sub (In.quot (n:=⟨17,rfl⟩) 16 (1/17)) (In.mul h.sqr (In.sub (In.quot (n:=⟨19,rfl⟩) 18 (1/19)) (In.mul h.sqr (In.quot (n:=⟨21,rfl⟩) 20 (1/21))))))))))))))))))))))).add (In.tiny e)
 generalize x*(rat (1/1)-x*x*(rat (1/3)-x*x*(rat (1/5)-x*x*(rat (1/7)-x*x*(rat (1/9)-x*x*(rat (1/11)-x*x*(rat (1/13)-x*x*(rat (1/15)-x*x*(rat (1/17)-x*x*(rat (1/19)-x*x*rat (1/21)))))))))))=u at *;generalize atan x=s at *
 rwa [show u+(s-u)=s from An.ring [u,s]] at this
theorem In.core {x:Re} {a:Iv} (h:In x a):In (atan x) (zaC a):=by
 simp only [zaC,zkQ,Tr.get]
 have:=h.halve.halve.arcS.dbl.dbl
 rwa [<- zBS,<- zBS] at this
theorem zKm {x:Re} (h:0<x):atan x=hp-atan (1/x):=by
 have c:=zk5 (1/x)
 have hq:0<1/x:=zv7 (qp 1) h
 have p0:0<atan (1/x):=by
  have h2:=zea (le_of_lt hq)
  rw [zhw] at h2
  rcases le_iff.1 h2 with h3|h3
  ·exact h3
  ·have:=zky (1/x)
   rw [<- h3,zgk,zk4,An.mul_one] at this
   exact absurd (this▸hq) (lt_irrefl _)
 have p1:=zhx (1/x)
 refine (zmF ?_ ?_ ?_).symm
 ·generalize atan (1/x)=a at *;exact zdo [a,hp] (ppn (sp p1) (le_of_lt hp_p))
 ·generalize atan (1/x)=a at *;exact zdo [a,hp] p0
 ·rw [znW,zmh,zky]
  have e:=div_mul (x:=1) (ne_of_gt h)
  generalize cos (atan (1/x))=d at *;generalize 1/x=q at *
  exact zkl [x,q,d] (congrArg (fun t=> -(d*t)) e: -(d*(q*x))= -(d*1))
theorem zts:zbt.lo.val= -6746518853/\zbt.hi.val=6746518853/\za zbt=true:=by
 have e:zbt=⟨⟨-6746518853,rfl⟩,⟨6746518853,rfl⟩⟩:=by kernel_rfl
 rw [e];exact ⟨rfl,rfl,(zaB _).2 (by decide)⟩
theorem zQW:hp<=fx 6746518853:=by
 have:=(zuR (k:=1) (by decide) (by decide)).2
 rw [qt_1] at this
 exact this
theorem In.quarter {x:Re} (h1: -hp<=x) (h2:x<=hp):In x zbt:=fun _=>by
 rw [zts.1,zts.2.1,zio]
 have:=zQW
 generalize fx 6746518853=u at *
 exact ⟨zH [x,u,hp] (pn (sn this) (sn h1)),le_trans h2 this⟩
theorem zsY (x:Re): -hp<=atan x/\atan x<=hp:=⟨le_of_lt (zhy x),le_of_lt (zhx x)⟩
theorem In.atan_pos {n:I64} (h:0<=n.val):In (atan (fx n.val)) (zcR n)/\In (atan (fx n.val)) (zeQ n)/\zhA n=true:=by
 have hn:decide (n.val<0)=false:=by simp;omega
 have q:=In.quarter (zsY (fx n.val)).1 (zsY (fx n.val)).2
 simp only [zcR,zhT,zeQ,zhp,zhA,Tr.get,Tr.opt,hn,cfl]
 cases zbK n
 ·exact ⟨q,q,rfl⟩
 simp only [Bool.not_true,cfl]
 by_cases hg:n.val>4294967296
 ·simp only [hg,decide_true,ctr]
  have:In (atan (fx n.val)) (zG (zP ⟨1,rfl⟩) (zaC (zo (zf ⟨1,rfl⟩) (zB n)))):=by
   rw [zKm (fx_p (show 0<n.val by omega))]
   have t:=In.turn' (k:=⟨1,rfl⟩) (by decide) (by decide)
   rw [show ((⟨1,rfl⟩:I64)).val=1 from rfl,qt_1] at t
   exact t.sub (In.one.div In.point).core
  exact ⟨this,this,rfl⟩
 ·simp only [hg,decide_false,cfl]
  exact ⟨In.point.core,In.point.core,rfl⟩
theorem In.atanAt {n:I64}:In (atan (fx n.val)) (zcR n):=by
 by_cases h:0<=n.val
 ·exact (In.atan_pos h).1
 have hn:decide (n.val<0)=true:=by simp;omega
 have q:=In.quarter (zsY (fx n.val)).1 (zsY (fx n.val)).2
 simp only [zcR,zhT,Tr.get,hn,ctr]
 cases hf:zbK n
 ·exact q
 have hb:=(zq3 n).1 hf
 have en:(Rng.w .i64 (0-n.val)).val= -n.val:=by rw [wi (by omega) (by omega)];omega
 obtain ⟨_,h2,h3⟩:=In.atan_pos (n:= .w .i64 (0-n.val)) (by rw [en];omega)
 rw [en,zio,zrX] at h2
 simp only [Bool.not_true,cfl,h3,ctr]
 have:=h2.neg
 rwa [show - - atan (fx n.val)=atan (fx n.val) from by generalize atan (fx n.val)=u;exact An.ring [u]] at this
theorem In.atan {x:Re} {a:Iv} (h:In x a):In (An.atan x) (zak a):=by
 rw [zsZ,zAN]
 cases ha:za a
 ·exact In.quarter (zsY x).1 (zsY x).2
 simp only [Bool.not_true,cfl]
 obtain ⟨h1,h2⟩:=h ha
 exact In.between (In.atanAt.hull_l) (In.atanAt.hull_r) (zea h1) (zea h2)
theorem In.dirAt {y x:I64}:In (dir (fx y.val) (fx x.val)) (zS y x):=by
 rw [<- zEU]
 simp only [zac,zff,Tr.get,fix_eq,zux,zjQ,at_eq,Ev.sub_eq,add_eq,ziP,za1,zbU]
 cases hy:zbK y
 ·exact In.whole _
 cases hx:zbK x
 ·exact In.whole _
 have by':=(zq3 y).1 hy
 have bx:=(zq3 x).1 hx
 have ay:=zz2 y (by omega)
 have ax:=zz2 x (by omega)
 have p:∀n:I64,In (fx n.val) (zB n):=fun n=>by simp only [zB,zhf,Tr.get];exact In.point
 have t1:=In.turn' (k:=⟨1,rfl⟩) (by decide) (by decide)
 have tm1:=In.turn' (k:=⟨-1,rfl⟩) (by decide) (by decide)
 have t2:=In.turn' (k:=⟨2,rfl⟩) (by decide) (by decide)
 have tm2:=In.turn' (k:=⟨-2,rfl⟩) (by decide) (by decide)
 rw [show ((⟨1,rfl⟩:I64)).val=1 from rfl,qt_1] at t1
 rw [show ((⟨-1,rfl⟩:I64)).val= -1 from rfl,zx0,qt_1] at tm1
 rw [show ((⟨2,rfl⟩:I64)).val=2 from rfl,show qt 2=pi from rfl] at t2
 have q2:qt (-2)= -pi:=zx0 2
 rw [show ((⟨-2,rfl⟩:I64)).val= -2 from rfl,q2] at tm2
 have key:¬(y.val=0/\x.val=0)->In (dir (fx y.val) (fx x.val)) (bif decide ((zbX y).val>(zbX x).val) then (bif decide (y.val<0) then zG (zP ⟨-1,rfl⟩) (zak (zo (zB x) (zB y))) else zG (zP ⟨1,rfl⟩) (zak (zo (zB x) (zB y))))
   else (bif decide (x.val>0) then zak (zo (zB y) (zB x)) else (bif decide (y.val<0) then zq (zak (zo (zB y) (zB x))) (zP ⟨-2,rfl⟩) else zq (zak (zo (zB y) (zB x))) (zP ⟨2,rfl⟩)))):=fun hz=>by
  by_cases c:(zbX y).val>(zbX x).val
  ·simp only [c,decide_true,ctr]
   rw [ax,ay] at c
   by_cases n:y.val<0
   ·simp only [n,decide_true,ctr]
    rw [zrU (zvW n)]
    exact tm1.sub ((p x).div (p y)).atan
   ·simp only [n,decide_false,cfl]
    rw [zBN (fx_p (show 0<y.val by split at c<;>omega))]
    exact t1.sub ((p x).div (p y)).atan
  ·simp only [c,decide_false,cfl]
   rw [ax,ay] at c
   by_cases px:x.val>0
   ·simp only [px,decide_true,ctr]
    rw [zpJ (fx_p px)]
    exact ((p y).div (p x)).atan
   ·simp only [px,decide_false,cfl]
    have nx:x.val<0:=by split at c<;>split at c<;>omega
    by_cases n:y.val<0
    ·simp only [n,decide_true,ctr]
     rw [zIf (zvW nx) (zvW n)]
     exact ((p y).div (p x)).atan.add tm2
    ·simp only [n,decide_false,cfl]
     rw [zES (zvW nx) (zC6 (by omega))]
     exact ((p y).div (p x)).atan.add t2
 simp only [Bool.not_true,cfl]
 by_cases y0:y.val=0
 ·have ey:(y.val==0)=true:=by simp [y0]
  by_cases x0:x.val=0
  ·have ex:(x.val==0)=true:=by simp [x0]
   simp only [ey,ex,ctr];exact In.whole _
  ·have ex:(x.val==0)=false:=by simp [x0]
   simp only [ey,ex,ctr,cfl]
   exact key (by omega)
 ·have ey:(y.val==0)=false:=by simp [y0]
  simp only [ey,cfl]
  exact key (by omega)
theorem In.dir {y x:Re} {b a:Iv} (h:In y b) (k:In x a):In (An.dir y x) (zcu b a):=by
 simp only [zcu,zkt,Tr.get,zAN,zbU]
 cases hb:za b
 ·exact In.whole _
 cases ha:za a
 ·exact In.whole _
 have ob:=(zaB _).1 hb
 have oa:=(zaB _).1 ha
 obtain ⟨h1,h2⟩:=h hb
 obtain ⟨k1,k2⟩:=k ha
 have hz:∀c:Iv,za c=true->zkG c ⟨0,rfl⟩=decide (c.lo.val<=0/\0<=c.hi.val):=fun c hc=>by
  simp only [zkG,zqO,zaO,zcc,Tr.get,zdp,hc,Bool.not_true,cfl]
 simp only [Bool.not_true,cfl,hz b hb,hz a ha]
 have key:¬(b.lo.val<=0/\0<=b.hi.val/\a.lo.val<=0/\0<=a.hi.val)->¬(a.lo.val<0/\b.lo.val<0/\0<=b.hi.val)->
   In (An.dir y x) (zN (zN (zS b.lo a.lo) (zS b.lo a.hi)) (zN (zS b.hi a.lo) (zS b.hi a.hi))):=fun c1 c2=>by
  have cz:∀n:Int,(fx n<=0↔n<=0)/\(0<=fx n↔0<=n)/\(fx n<0↔n<0):=fun n=>by
   have e:=fx_0
   refine ⟨?_,?_,?_⟩<;>rw [<- e]
   ·exact zfu
   ·exact zfu
   ·exact zJZ
  obtain ⟨_,⟨u,v,hu,hv,e1⟩,⟨u',v',hu',hv',e2⟩⟩:=zMG k1 k2 h1 h2
   (fun c=>c1 ⟨(cz _).1.1 c.1,(cz _).2.1.1 c.2.1,(cz _).1.1 c.2.2.1,(cz _).2.1.1 c.2.2.2⟩)
   (fun c=>c2 ⟨(cz _).2.2.1 c.1,(cz _).2.2.1 c.2.1,(cz _).2.1.1 c.2.2⟩)
  have mem:∀u v,(u=fx a.lo.val\/u=fx a.hi.val)->(v=fx b.lo.val\/v=fx b.hi.val)->In (An.dir v u) (zN (zN (zS b.lo a.lo) (zS b.lo a.hi)) (zN (zS b.hi a.lo) (zS b.hi a.hi))):=by
   rintro u v (rfl|rfl) (rfl|rfl)
   ·exact In.dirAt.hull_l.hull_l
   ·exact In.dirAt.hull_l.hull_r
   ·exact In.dirAt.hull_r.hull_l
   ·exact In.dirAt.hull_r.hull_r
  exact In.between (mem u' v' hu' hv') (mem u v hu hv) e2 e1
 by_cases b0:b.lo.val<=0/\0<=b.hi.val
 ·simp only [b0,and_self,decide_true,ctr]
  by_cases a0:a.lo.val<=0/\0<=a.hi.val
  ·simp only [a0,and_self,decide_true,ctr];exact In.whole _
  ·simp only [a0,decide_false,cfl]
   by_cases c1:a.lo.val<0
   ·simp only [c1,decide_true,ctr]
    by_cases c2:b.lo.val<0
    ·have c3:b.hi.val>=0:=b0.2
     simp only [c2,c3,decide_true,ctr];exact In.whole _
    ·simp only [c2,decide_false,cfl];exact key (by omega) (by omega)
   ·simp only [c1,decide_false,cfl];exact key (by omega) (by omega)
 ·simp only [b0,decide_false,cfl]
  by_cases c1:a.lo.val<0
  ·simp only [c1,decide_true,ctr]
   by_cases c2:b.lo.val<0
   ·by_cases c3:b.hi.val>=0
    ·simp only [c2,c3,decide_true,ctr];exact In.whole _
    ·simp only [c2,c3,decide_true,decide_false,ctr,cfl];exact key (by omega) (by omega)
   ·simp only [c2,decide_false,cfl];exact key (by omega) (by omega)
  ·simp only [c1,decide_false,cfl];exact key (by omega) (by omega)
end Go.Proofs.YtaoakfodkoifoaaGreat.Nc
namespace Go.Proofs.YtaoakfodkoifoaaGreat.Nc
open Go Go.Proofs.YtaoakfodkoifoaaGreat.An
open Go.Proofs.YtaoakfodkoifoaaGreat.Ev hiding mn zgA neg_eq znV sub_eq
structure Rv where
 x:Re
 y:Re
 z:Re
def Rv.dot (a b:Rv):Re:=a.x*b.x+a.y*b.y+a.z*b.z
def Rv.cross (a b:Rv):Rv:=⟨a.y*b.z-a.z*b.y,a.z*b.x-a.x*b.z,a.x*b.y-a.y*b.x⟩
theorem zyt:za (zf ⟨0,rfl⟩)=true/\(zf ⟨0,rfl⟩).lo.val=0/\(zf ⟨0,rfl⟩).hi.val=0:=zEE (n:=⟨0,rfl⟩) (by decide)
theorem zNP {a b:Iv} (h:(zgd a b).val=1):za a=true/\za b=true/\a.hi.val<b.lo.val:=by
 simp only [zgd,zm3,Tr.get] at h
 cases ha:za a
 ·rw [ha] at h;cases h
 cases hb:za b
 ·rw [ha,hb] at h;cases h
 rw [ha,hb] at h
 simp only [Bool.not_true,cfl] at h
 by_cases c:a.hi.val<b.lo.val
 ·exact ⟨rfl,rfl,c⟩
 ·by_cases d:a.lo.val>=b.hi.val
  ·simp only [c,d,decide_true,decide_false,ctr,cfl] at h;cases h
  ·simp only [c,d,decide_false,cfl] at h;cases h
theorem zJv {x y:Re} {a b:Iv} (h:In x a) (k:In y b) (l:y<=x):¬(zgd a b).val=1:=fun e=>by
 obtain ⟨oa,ob,c⟩:=zNP e
 have h1:=(h oa).2
 have h2:=(k ob).1
 exact absurd (le_trans h2 (le_trans l h1)) (An.not_le.2 (zJZ.2 c))
theorem In.zero:In 0 (zf ⟨0,rfl⟩):=fun _=>by rw [zyt.2.1,zyt.2.2,fx_0];exact ⟨le_refl _,le_refl _⟩
def Two (a:Iv):Prop:=∃x y,In x a/\In y a/\¬x=y
theorem zIe {y x:Re} (h:0<y):0<An.dir y x:=by rw [zBN h];exact sp (zhx _)
theorem zER {y x:Re} (h:y<=0) (k:0<=x):An.dir y x<=0:=by
 rcases le_iff.1 h with l|l
 ·rw [zrU l]
  have:=zhy (x/y)
  generalize An.atan (x/y)=a at *
  exact zH [a,hp] (le_of_lt (sp this))
 ·subst l
  rcases le_iff.1 k with m|m
  ·rw [zpJ m,div_eq,An.zero_mul,zhw];exact le_refl _
  ·subst m
   rw [An.dir,dif_neg (fun e=>e ⟨rfl,rfl⟩)];exact le_refl _
end Go.Proofs.YtaoakfodkoifoaaGreat.Nc
namespace Go.Proofs.YtaoakfodkoifoaaGreat.Nc
open Go Go.Proofs.YtaoakfodkoifoaaGreat.An
open Go.Proofs.YtaoakfodkoifoaaGreat.Ev hiding mn zgA neg_eq znV sub_eq
theorem three (a b c:Rv):a.dot b*c.dot c=a.dot c*c.dot b-(a.cross c).dot (c.cross b):=by
 obtain ⟨a1,a2,a3⟩:=a;obtain ⟨b1,b2,b3⟩:=b;obtain ⟨c1,c2,c3⟩:=c
 simp only [Rv.dot,Rv.cross]
 exact An.ring [a1,a2,a3,b1,b2,b3,c1,c2,c3]
theorem In.overlap {x:Re} {a b:Iv} (h:In x a) (k:In x b):zaR a b=true:=by
 simp only [zaR,zfL,zZ,zbJ,Tr.get]
 cases ha:za a
 ·cases hb:za b<;>rfl
 cases hb:za b
 ·rfl
 obtain ⟨h1,h2⟩:=h ha
 obtain ⟨k1,k2⟩:=k hb
 have l1:=zfu.1 (le_trans h1 k2)
 have l2:=zfu.1 (le_trans k1 h2)
 have b1:=(zaB _).1 ha
 have b2:=(zaB _).1 hb
 have m1:=zeB a.lo b.lo
 have m2:=zf7 a.hi b.hi
 have n:¬(zt a.lo b.lo).val>(zC a.hi b.hi).val:=by omega
 simp only [Bool.not_true,cfl,n,decide_false]
end Go.Proofs.YtaoakfodkoifoaaGreat.Nc
namespace Go.Proofs.YtaoakfodkoifoaaGreat.Nc
open Go Go.Proofs.YtaoakfodkoifoaaGreat.An
open Go.Proofs.YtaoakfodkoifoaaGreat.Ev hiding mn zgA neg_eq znV sub_eq
theorem zEb {p:zaA}:zT p=true↔(-900000000<=p.lat.val/\p.lat.val<=900000000)/\(-1799999999<=p.lon.val/\p.lon.val<=1800000000):=by
 simp only [zT,zlc,Tr.get,zdp]
 by_cases h: -900000000<=p.lat.val/\p.lat.val<=900000000
 ·simp [h]
 ·simp only [h,decide_false,cfl,false_and,Bool.false_eq_true]
end Go.Proofs.YtaoakfodkoifoaaGreat.Nc
namespace Go.Proofs.YtaoakfodkoifoaaGreat.Nc
open Go Go.Proofs.YtaoakfodkoifoaaGreat.An
open Go.Proofs.YtaoakfodkoifoaaGreat.Ev hiding mn zgA neg_eq znV sub_eq
def ea (e:Ell):Re:=zi e.a.val/zi 1000
def ef (e:Ell):Re:=zi e.num.val/zi e.den.val
def ee (e:Ell):Re:=ef e*(zi 2-ef e)
theorem zH6 {e:Ell} (h:zae e=true):(1000<=e.a.val/\e.a.val<=100000000000)/\(1<=e.den.val/\e.den.val<=1000000000000)/\0<=e.num.val/\e.num.val*100<=e.den.val:=by
 simp only [zae,zmZ,Tr.get,zdp] at h
 by_cases c1:1000<=e.a.val/\e.a.val<=100000000000
 ·by_cases c2:1<=e.den.val/\e.den.val<=1000000000000
  ·by_cases c3:e.num.val>=0
   ·simp only [c1,c2,c3,and_self,decide_true,ctr] at h
    have t:Int.tdiv e.den.val 100=e.den.val/100:=Int.tdiv_eq_ediv_of_nonneg (by omega)
    rw [t] at h
    have b:(Rng.w .i64 (e.den.val/100)).val=e.den.val/100:=wi (by omega) (by omega)
    rw [b] at h
    have:=of_decide_eq_true h
    omega
   ·simp only [c1,c2,c3,and_self,decide_true,decide_false,ctr,cfl] at h;cases h
  ·simp only [c1,c2,and_self,decide_true,decide_false,ctr,cfl] at h;cases h
 ·simp only [c1,decide_false,cfl] at h;cases h
theorem In.flat {e:Ell} (h:zae e=true):In (ef e) (zbw e):=by
 simp only [zbw,zg2,Tr.get,h,Bool.not_true,cfl]
 exact In.quotient (by have:=(zH6 h).2.1.1;omega)
theorem In.ecc {e:Ell} (h:zae e=true):In (ee e) (zcg e):=by
 simp only [zcg,zqP,Tr.get]
 exact (In.flat h).mul ((In.int (n:=⟨2,rfl⟩) (by decide)).sub (In.flat h))
theorem zMD {e:Ell} (h:zae e=true):0<=ef e/\ef e<=rat (1/100):=by
 obtain ⟨_,⟨d1,_⟩,n0,n1⟩:=zH6 h
 have p:(0:Re)<zi e.den.val:=zFe.2 (show (0:Int)<e.den.val by omega)
 refine ⟨zFW (zF8 n0) p,(zBM p).2 ?_⟩
 have:=zqf.2 n1
 rw [zhb] at this
 rw [show zi 100=rat 100 from rfl] at this
 generalize zi e.num.val=x at *;generalize zi e.den.val=y at *
 exact zH [x,y] (kn (1/100) (sn this))
theorem zKa {e:Ell} (h:zae e=true):0<=ee e/\ee e<=rat (1/50):=by
 obtain ⟨f0,f1⟩:=zMD h
 unfold ee
 rw [show zi 2=rat 2 from rfl]
 generalize ef e=f at *
 have g:0<=rat 2-f:=zH [f] (pn (sn f1) (qn (199/100)))
 refine ⟨An.mn f0 g,?_⟩
 exact zH [f] (pn (kn 2 (sn f1)) (sqn f))
def ew (e:Ell) (t:Re):Re:=1-ee e*(An.sin t*An.sin t)
def en (e:Ell) (t:Re):Re:=ea e/An.sqrt (ew e t)
def ph (p:Ev.Place):Re:=zi p.h.val/zi 1000
def cr (e:Ell) (p:Ev.Place):Re:=(en e (Nc.rad p.pt.lat.val)+ph p)*An.cos (Nc.rad p.pt.lat.val)
def cz (e:Ell) (p:Ev.Place):Re:=(en e (Nc.rad p.pt.lat.val)*(1-ee e)+ph p)*An.sin (Nc.rad p.pt.lat.val)
def cv (e:Ell) (p:Ev.Place):Rv:=⟨cr e p*An.cos (Nc.rad p.pt.lon.val),cr e p*An.sin (Nc.rad p.pt.lon.val),cz e p⟩
def sd (e:Ell) (r z t:Re):Re:=r*An.sin t-z*An.cos t-ee e*en e t*An.sin t*An.cos t
theorem In.sinAt {n:I64}:In (An.sin (fx n.val)) (zdV n):=by
 simp only [zdV,zpj,Tr.get]
 have:=In.at (n:=n) (t:=⟨0,rfl⟩) (by decide)
 rwa [show qt (⟨0,rfl⟩:I64).val=0 from qt_0,An.add_zero] at this
theorem In.cosAt {n:I64}:In (An.cos (fx n.val)) (zes n):=by
 simp only [zes,zpl,Tr.get]
 have:=In.at (n:=n) (t:=⟨1,rfl⟩) (by decide)
 rwa [show qt (⟨1,rfl⟩:I64).val=hp from qt_1,znX] at this
end Go.Proofs.YtaoakfodkoifoaaGreat.Nc
namespace Go.Proofs.YtaoakfodkoifoaaGreat.Nc
open Go Go.Proofs.YtaoakfodkoifoaaGreat.An
open Go.Proofs.YtaoakfodkoifoaaGreat.Ev hiding mn zgA neg_eq znV sub_eq
theorem zNp:Nc.rad 900000000=hp:=by
 show rat ((900000000:Int):Rat)*(hp*rat (1/900000000))=hp
 rw [show ((900000000:Int):Rat)=900000000 from rfl];exact An.ring [hp]
theorem zD3 {a b:Int} (h:a<=b):Nc.rad a<=Nc.rad b:=by
 unfold Nc.rad
 have k:=zqf.2 h
 have p:=hp_p
 generalize zi a=x at *;generalize zi b=y at *
 exact zH [x,y,hp] (An.mn (sn k) (kn (1/900000000) (le_of_lt p)))
theorem zJL {p:zaA} (h:zT p=true): -hp<=Nc.rad p.lat.val/\Nc.rad p.lat.val<=hp:=by
 obtain ⟨⟨a,b⟩,_⟩:=zEb.1 h
 have h1:=zD3 a
 have h2:=zD3 b
 rw [zNp] at h2
 rw [zza,zNp] at h1
 exact ⟨h1,h2⟩
theorem In.make {x:Re} {a b:I64} (h:fx a.val<=x/\x<=fx b.val):In x (zU a b):=fun ok=>by
 by_cases k: -1152921504606846976<a.val/\a.val<=b.val/\b.val<1152921504606846976
 ·rw [zbq k];exact h
 ·rw [zi9 k] at ok;exact absurd ok (by rw [zbD];decide)
theorem In.zDs {x:Re} {a b:Iv} (h1:za a=true->za b=true->fx a.lo.val<=x/\x<=fx b.hi.val):In x (zb6 a b):=by
 rw [<- Ev.zDs]
 cases ha:za a
 ·exact In.whole x
 ·cases hb:za b
  ·exact In.whole x
  ·exact In.make (h1 ha hb)
theorem In.hlf {x:Re} {a:Iv} (h:In x a):In (x*rat (1/2)) (zdW a):=by
 simp only [zdW,zpk,Tr.get]
 cases ha:za a
 ·exact In.whole _
 ·simp only [Bool.not_true,cfl]
  have b:=(zaB a).1 ha
  obtain ⟨h1,h2⟩:=h ha
  have f1:a.lo.val.fdiv 2=a.lo.val/2:=Int.fdiv_eq_ediv_of_nonneg _ (by decide)
  have e1:(Rng.w .i64 (a.hi.val+1)).val=a.hi.val+1:=wi (by omega) (by omega)
  refine In.make ?_
  rw [e1]
  have f2:(a.hi.val+1).fdiv 2=(a.hi.val+1)/2:=Int.fdiv_eq_ediv_of_nonneg _ (by decide)
  rw [f1,f2,wi (n:=a.lo.val/2) (by omega) (by omega),wi (n:=(a.hi.val+1)/2) (by omega) (by omega)]
  have g1:fx (2*(a.lo.val/2))<=fx a.lo.val:=zfu.2 (by omega)
  have g2:fx a.hi.val<=fx (2*((a.hi.val+1)/2)):=zfu.2 (by omega)
  rw [show 2*(a.lo.val/2)=a.lo.val/2+a.lo.val/2 by omega,zvZ] at g1
  rw [show 2*((a.hi.val+1)/2)=(a.hi.val+1)/2+(a.hi.val+1)/2 by omega,zvZ] at g2
  generalize fx (a.lo.val/2)=p at *;generalize fx ((a.hi.val+1)/2)=q at *
  have k1:=le_trans g1 h1
  have k2:=le_trans h2 g2
  exact ⟨zH [p,x] (kn (1/2) (sn k1)),zH [q,x] (kn (1/2) (sn k2))⟩
theorem In.meetI {x:Re} {a b:Iv} (h:In x a) (k:In x b):In x (zZ a b).a/\(zZ a b).b=true:=by
 simp only [zZ,zbJ,Tr.get]
 cases ha:za a
 ·cases hb:za b
  ·simp only [Bool.not_false,Bool.and_self,Bool.and_true,Bool.true_and,ctr];exact ⟨In.whole x,trivial⟩
  ·simp only [Bool.not_false,Bool.not_true,Bool.and_false,cfl,ctr];exact ⟨k,trivial⟩
 ·cases hb:za b
  ·simp only [Bool.not_false,Bool.not_true,Bool.false_and,cfl,ctr];exact ⟨h,trivial⟩
  ·obtain ⟨h1,h2⟩:=h ha
   obtain ⟨k1,k2⟩:=k hb
   have m1:=zeB a.lo b.lo
   have m2:=zf7 a.hi b.hi
   have l1:fx (zt a.lo b.lo).val<=x:=by
    rcases Int.le_total a.lo.val b.lo.val with c|c
    ·rw [show (zt a.lo b.lo).val=b.lo.val by omega];exact k1
    ·rw [show (zt a.lo b.lo).val=a.lo.val by omega];exact h1
   have l2:x<=fx (zC a.hi b.hi).val:=by
    rcases Int.le_total a.hi.val b.hi.val with c|c
    ·rw [show (zC a.hi b.hi).val=a.hi.val by omega];exact h2
    ·rw [show (zC a.hi b.hi).val=b.hi.val by omega];exact k2
   have hlt:¬(zt a.lo b.lo).val>(zC a.hi b.hi).val:=by
    have:=zfu.1 (le_trans l1 l2);omega
   simp only [hlt,decide_false,Bool.not_true,Bool.and_self,Bool.false_and,cfl]
   exact ⟨fun _=>⟨l1,l2⟩,trivial⟩
theorem In.circle {n:I64} (h1: -4294967296<=n.val) (h2:n.val<=4294967296):In (An.sqrt (1-fx n.val*fx n.val)) (zcM n):=by
 have e1:(Rng.w .i64 (4294967296-n.val)).val=4294967296-n.val:=wi (by omega) (by omega)
 have e2:(Rng.w .i64 (4294967296+n.val)).val=4294967296+n.val:=wi (by omega) (by omega)
 have hi:zaf n ⟨(-4294967296),rfl⟩ ⟨4294967296,rfl⟩=true:=by rw [zdp];simp;omega
 obtain ⟨q,f1,f2,f3,f4,f5⟩:=zDZ (.w .i64 (4294967296-n.val)) (.w .i64 (4294967296+n.val)) (by omega) (by omega)
 rw [e1,e2] at f4 f5
 have key:1-fx n.val*fx n.val=zi ((4294967296-n.val)*(4294967296+n.val))*rat (1/18446744073709551616):=by
  rw [zhb,zF7,zAj];unfold fx
  rw [show zi 4294967296=rat 4294967296 from rfl]
  generalize zi n.val=a
  exact An.ring [a]
 have hn:0<=1-fx n.val*fx n.val:=by
  rw [key]
  have:=zF8 (Int.mul_nonneg (show 0<=4294967296-n.val by omega) (show 0<=4294967296+n.val by omega))
  exact mn this (qn _)
 have hs:=zgj hn
 have hS:=An.zgX (1-fx n.val*fx n.val)
 rw [key] at hs hS ⊢
 generalize An.sqrt _=S at *
 have l1:fx q.val<=S:=zl0 hS (by rw [hs,zHK];exact zIR f4)
 have l2:S<=fx (q.val+1):=zl0 (zC6 (by omega)) (by rw [hs,zHK];exact zIR (Int.le_of_lt f5))
 have hm:=Ev.zgA (Rng.w .i64 (4294967296-n.val)).bd (Rng.w .i64 (4294967296+n.val)).bd
 have hm2:=Ev.zgA q.bd q.bd
 simp only [zcM,zjC,Tr.get,hi,f1,Bool.not_true,cfl]
 generalize hc:(!((zcn q q).hi.val==(zcn (Rng.w .i64 (4294967296-n.val)) (Rng.w .i64 (4294967296+n.val))).hi.val&&((zcn q q).lo.val==(zcn (Rng.w .i64 (4294967296-n.val)) (Rng.w .i64 (4294967296+n.val))).lo.val&&true)))=c
 cases c
 ·rw [zGr,zGr] at hc
  simp only [Bool.not_eq_false',Bool.and_eq_true,beq_iff_eq,and_true] at hc
  have w1:=zmj (v:=q.val*q.val) (by omega) (by omega)
  have w2:=zmj (v:=(Rng.w .i64 (4294967296-n.val)).val*(Rng.w .i64 (4294967296+n.val)).val) (by omega) (by omega)
  have hq:q.val*q.val=(4294967296-n.val)*(4294967296+n.val):=by
   rw [<- w1,<- e1,<- e2,<- w2];unfold wv;rw [hc.1,hc.2]
  have l3:S<=fx q.val:=zl0 (zC6 f3) (by rw [hs,zHK,hq];exact le_refl _)
  exact fun _=>⟨l1,l3⟩
 ·simp only [ctr]
  refine fun ok=>⟨l1,?_⟩
  have hq:q.val+1<=9223372036854775807:=by
   by_cases hh:q.val+1<=9223372036854775807
   ·exact hh
   ·have h3:(4294967296:Int)*4294967296<=q.val*q.val:=Int.mul_le_mul (by omega) (by omega) (by decide) (by omega)
    have h4:(9223372036854775807:Int)*9223372036854775807<=q.val*q.val:=Int.mul_le_mul (by omega) (by omega) (by decide) (by omega)
    have h5:(4294967296-n.val)*(4294967296+n.val)=4294967296*4294967296-n.val*n.val:=by
     rw [Int.sub_mul,Int.mul_add,Int.mul_add,Int.mul_comm n.val 4294967296];omega
    have h6:0<=n.val*n.val:=by
     rcases Int.le_total 0 n.val with k|k
     ·exact Int.mul_nonneg k k
     ·exact Int.mul_nonneg_of_nonpos_of_nonpos k k
    omega
  show S<=fx (Rng.w .i64 (q.val+1)).val
  rw [wi (n:=q.val+1) (by omega) hq];exact l2
theorem In.asinAt {n:I64} (h1: -4294967296<=n.val) (h2:n.val<=4294967296):In (An.asin (fx n.val)) (zaP n):=by
 have hi:zaf n ⟨(-4294967296),rfl⟩ ⟨4294967296,rfl⟩=true:=by rw [zdp];simp;omega
 simp only [zaP,zlP,Tr.get,hi,Bool.not_true,cfl]
 have b1: -1<=fx n.val:=by rw [<- zFM];exact zfu.2 h1
 have b2:fx n.val<=1:=by rw [<- fx_1];exact zfu.2 h2
 have p:In (fx n.val) (zB n):=by simp only [zB,zhf,Tr.get];exact In.point
 have q:In (An.asin (fx n.val)) (zbh (zak (zo (zB n) (zq (zf ⟨1,rfl⟩) (zcM n))))):=(p.div (In.one.add (In.circle h1 h2))).atan.dbl
 have bd:=zwi b1 b2
 exact (In.meetI q (In.quarter bd.1 bd.2)).1
theorem In.asin {x:Re} {a:Iv} (h:In x a) (h1: -1<=x) (h2:x<=1):In (An.asin x) (zc6 a):=by
 obtain ⟨m1,m2⟩:=In.meetI h (In.ring h1 h2)
 have e:zav a=(zZ a zu).a:=by
  simp only [zav,zgJ,Tr.get,m2,Bool.not_true,cfl]
 have hasin:zc6 a=bif !(zZ a zu).b then zh else zN (zaP (zZ a zu).a.lo) (zaP (zZ a zu).a.hi):=by
  simp only [zc6,zm5,Tr.get,zbU]
 obtain ⟨o,r1,r2,_,_⟩:=zvI a
 rw [e] at o r1 r2
 rw [hasin,m2]
 simp only [Bool.not_true,cfl]
 generalize (zZ a zu).a=M at *
 have b:=(zaB M).1 o
 obtain ⟨l1,l2⟩:=m1 o
 have c1: -1<=fx M.lo.val:=by rw [<- zFM];exact zfu.2 r1
 have c2:fx M.hi.val<=1:=by rw [<- fx_1];exact zfu.2 r2
 exact In.between (In.hull_l (In.asinAt (n:=M.lo) (by omega) (by omega))) (In.hull_r (In.asinAt (n:=M.hi) (by omega) (by omega))) (zpL c1 l1 h2) (zpL h1 l2 c2)
end Go.Proofs.YtaoakfodkoifoaaGreat.Nc
namespace Go.Proofs.YtaoakfodkoifoaaGreat.An
def SD (K:Re) (g:Re->Re):Prop:=∀c d,abs (g (c+d)+g (c-d)-2*g c)<=K*(d*d)
def m3 (g:Re->Re) (s:Re):Re:=g (s*rat (1/6))+g (s*rat (3/6))+g (s*rat (5/6))
def m5 (g:Re->Re) (s:Re):Re:=g (s*rat (1/10))+g (s*rat (3/10))+g (s*rat (5/10))+g (s*rat (7/10))+g (s*rat (9/10))
def m15 (g:Re->Re) (s:Re):Re:=
 g (s*rat (1/30))+g (s*rat (3/30))+g (s*rat (5/30))+g (s*rat (7/30))+g (s*rat (9/30))+g (s*rat (11/30))+g (s*rat (13/30))+g (s*rat (15/30)) +
 g (s*rat (17/30))+g (s*rat (19/30))+g (s*rat (21/30))+g (s*rat (23/30))+g (s*rat (25/30))+g (s*rat (27/30))+g (s*rat (29/30))
theorem SD.at' {K:Re} {g:Re->Re} (h:SD K g) (s:Re) (a d u v:Rat) (e1:s*rat a+s*rat d=s*rat u) (e2:s*rat a-s*rat d=s*rat v):
  -(K*(s*s)*(rat d*rat d))<=g (s*rat u)+g (s*rat v)-2*g (s*rat a)/\g (s*rat u)+g (s*rat v)-2*g (s*rat a)<=K*(s*s)*(rat d*rat d):=by
 have k:=h (s*rat a) (s*rat d)
 rw [e1,e2,show K*(s*rat d*(s*rat d))=K*(s*s)*(rat d*rat d) from by generalize rat d=D;exact ring [K,s,D]] at k
 exact zeT k
theorem sum5 {K:Re} {g:Re->Re} (h:SD K g) (s:Re):abs (m15 g s-3*m5 g s)<=K*(s*s)*rat (1/45):=by
 obtain ⟨a1,b1⟩:=h.at' s (3/30) (2/30) (5/30) (1/30) (ring [s]) (ring [s])
 obtain ⟨a2,b2⟩:=h.at' s (9/30) (2/30) (11/30) (7/30) (ring [s]) (ring [s])
 obtain ⟨a3,b3⟩:=h.at' s (15/30) (2/30) (17/30) (13/30) (ring [s]) (ring [s])
 obtain ⟨a4,b4⟩:=h.at' s (21/30) (2/30) (23/30) (19/30) (ring [s]) (ring [s])
 obtain ⟨a5,b5⟩:=h.at' s (27/30) (2/30) (29/30) (25/30) (ring [s]) (ring [s])
 unfold m15 m5
 rw [show s*rat (1/10)=s*rat (3/30) from ring [s],show s*rat (3/10)=s*rat (9/30) from ring [s],show s*rat (5/10)=s*rat (15/30) from ring [s],show s*rat (7/10)=s*rat (21/30) from ring [s],show s*rat (9/10)=s*rat (27/30) from ring [s]]
 generalize g (s*rat (1/30))=v1 at *;generalize g (s*rat (3/30))=v3 at *;generalize g (s*rat (5/30))=v5 at *;generalize g (s*rat (7/30))=v7 at *;generalize g (s*rat (9/30))=v9 at *
 generalize g (s*rat (11/30))=v11 at *;generalize g (s*rat (13/30))=v13 at *;generalize g (s*rat (15/30))=v15 at *;generalize g (s*rat (17/30))=v17 at *;generalize g (s*rat (19/30))=v19 at *
 generalize g (s*rat (21/30))=v21 at *;generalize g (s*rat (23/30))=v23 at *;generalize g (s*rat (25/30))=v25 at *;generalize g (s*rat (27/30))=v27 at *;generalize g (s*rat (29/30))=v29 at *
 generalize K*(s*s)=k at *
 refine zeU ?_ ?_
 ·exact zH [v1,v3,v5,v7,v9,v11,v13,v15,v17,v19,v21,v23,v25,v27,v29,k] (pn (sn a1) (pn (sn a2) (pn (sn a3) (pn (sn a4) (sn a5)))))
 ·exact zH [v1,v3,v5,v7,v9,v11,v13,v15,v17,v19,v21,v23,v25,v27,v29,k] (pn (sn b1) (pn (sn b2) (pn (sn b3) (pn (sn b4) (sn b5)))))
theorem sum3 {K:Re} {g:Re->Re} (h:SD K g) (s:Re):abs (m15 g s-5*m3 g s)<=K*(s*s)*rat (1/15):=by
 obtain ⟨a1,b1⟩:=h.at' s (5/30) (2/30) (7/30) (3/30) (ring [s]) (ring [s])
 obtain ⟨a2,b2⟩:=h.at' s (5/30) (4/30) (9/30) (1/30) (ring [s]) (ring [s])
 obtain ⟨a3,b3⟩:=h.at' s (15/30) (2/30) (17/30) (13/30) (ring [s]) (ring [s])
 obtain ⟨a4,b4⟩:=h.at' s (15/30) (4/30) (19/30) (11/30) (ring [s]) (ring [s])
 obtain ⟨a5,b5⟩:=h.at' s (25/30) (2/30) (27/30) (23/30) (ring [s]) (ring [s])
 obtain ⟨a6,b6⟩:=h.at' s (25/30) (4/30) (29/30) (21/30) (ring [s]) (ring [s])
 unfold m15 m3
 rw [show s*rat (1/6)=s*rat (5/30) from ring [s],show s*rat (3/6)=s*rat (15/30) from ring [s],show s*rat (5/6)=s*rat (25/30) from ring [s]]
 generalize g (s*rat (1/30))=v1 at *;generalize g (s*rat (3/30))=v3 at *;generalize g (s*rat (5/30))=v5 at *;generalize g (s*rat (7/30))=v7 at *;generalize g (s*rat (9/30))=v9 at *
 generalize g (s*rat (11/30))=v11 at *;generalize g (s*rat (13/30))=v13 at *;generalize g (s*rat (15/30))=v15 at *;generalize g (s*rat (17/30))=v17 at *;generalize g (s*rat (19/30))=v19 at *
 generalize g (s*rat (21/30))=v21 at *;generalize g (s*rat (23/30))=v23 at *;generalize g (s*rat (25/30))=v25 at *;generalize g (s*rat (27/30))=v27 at *;generalize g (s*rat (29/30))=v29 at *
 generalize K*(s*s)=k at *
 refine zeU ?_ ?_
 ·exact zH [v1,v3,v5,v7,v9,v11,v13,v15,v17,v19,v21,v23,v25,v27,v29,k] (pn (sn a1) (pn (sn a2) (pn (sn a3) (pn (sn a4) (pn (sn a5) (sn a6))))))
 ·exact zH [v1,v3,v5,v7,v9,v11,v13,v15,v17,v19,v21,v23,v25,v27,v29,k] (pn (sn b1) (pn (sn b2) (pn (sn b3) (pn (sn b4) (pn (sn b5) (sn b6))))))
def gq (e q:Re):Re:=e/(1+sqrt (1-e*(1-q)))
theorem zJb {e q:Re} (e0:0<=e) (e1:e<=rat (1/50)) (q0:0<=q) (q1:q<=1):
  sqrt (1-e*(1-q))*sqrt (1-e*(1-q))=1-e*(1-q)/\rat (989/1000)<=sqrt (1-e*(1-q))/\sqrt (1-e*(1-q))<=1:=by
 have hb:rat (98/100)<=1-e*(1-q):=zH [e,q] (pn (sn e1) (mn e0 q0))
 have hn:0<=1-e*(1-q):=le_trans (qn (98/100)) hb
 have hs:=zgj hn
 refine ⟨hs,zl0 (zgX _) ?_,zl0 (qn 1) ?_⟩
 ·rw [hs];exact le_trans (zH [] (qn (98/100-989/1000*(989/1000)))) hb
 ·rw [hs];exact zH [e,q] (mn e0 (sn q1))
theorem invx {y:Re} (h:0<y):∃t,t*y=1/\0<=t:=⟨1/y,div_mul (ne_of_gt h),le_of_lt (zv7 (qp 1) h)⟩
theorem zMp {t y:Re} (ht:t*y=1) (t0:0<=t) (hy:rat (1978/1000)<=y):t<=rat (506/1000):=by
 have k:t*rat (1978/1000)<=1:=by rw [<- ht];exact zH [t,y] (mn t0 (sn hy))
 exact zH [t] (pn (kn (1000/1978) (sn k)) (qn (506/1000-1000/1978)))
theorem zMq {t y:Re} (ht:t*y=1) (t0:0<=t) (hy:rat (1989/1000)<=y):t<=rat (503/1000):=by
 have k:t*rat (1989/1000)<=1:=by rw [<- ht];exact zH [t,y] (mn t0 (sn hy))
 exact zH [t] (pn (kn (1000/1989) (sn k)) (qn (503/1000-1000/1989)))
theorem zQX {e q0 q1 q2 d:Re} (e0:0<=e) (e1:e<=rat (1/50)) (a0:0<=q0/\q0<=1) (a1:0<=q1/\q1<=1) (a2:0<=q2/\q2<=1) (d0:0<=d)
  (h1:abs (q1-q0)<=d) (h2:abs (q2-q0)<=d) (h3:abs (q1+q2-2*q0)<=2*(d*d)):abs (gq e q1+gq e q2-2*gq e q0)<=rat (3/10)*(e*e)*(d*d):=by
 obtain ⟨s0,l0,u0⟩:=zJb e0 e1 a0.1 a0.2
 obtain ⟨s1,l1,u1⟩:=zJb e0 e1 a1.1 a1.2
 obtain ⟨s2,l2,u2⟩:=zJb e0 e1 a2.1 a2.2
 unfold gq
 generalize sqrt (1-e*(1-q0))=r0 at *
 generalize sqrt (1-e*(1-q1))=r1 at *
 generalize sqrt (1-e*(1-q2))=r2 at *
 have y0:rat (1989/1000)<=1+r0:=zH [r0] (sn l0)
 have y1:rat (1989/1000)<=1+r1:=zH [r1] (sn l1)
 have y2:rat (1989/1000)<=1+r2:=zH [r2] (sn l2)
 have z1:rat (1978/1000)<=r0+r1:=zH [r0,r1] (pn (sn l0) (sn l1))
 have z2:rat (1978/1000)<=r0+r2:=zH [r0,r2] (pn (sn l0) (sn l2))
 have z3:rat (1978/1000)<=r1+r2:=zH [r1,r2] (pn (sn l1) (sn l2))
 have pos:∀ {c:Rat} {y:Re},0<rat c->rat c<=y->0<y:=fun h k=>lt_of_lt_of_le h k
 obtain ⟨t0,it0,n0⟩:=invx (pos (qp _) y0)
 obtain ⟨t1,it1,n1⟩:=invx (pos (qp _) y1)
 obtain ⟨t2,it2,n2⟩:=invx (pos (qp _) y2)
 obtain ⟨p1,ip1,m1⟩:=invx (pos (qp _) z1)
 obtain ⟨p2,ip2,m2⟩:=invx (pos (qp _) z2)
 obtain ⟨p3,ip3,m3⟩:=invx (pos (qp _) z3)
 have ge:∀ {t r:Re},t*(1+r)=1->0<1+r->e/(1+r)=e*t:=fun {t r} h hp=>zfk (ne_of_gt hp) (by
  rw [div_mul (ne_of_gt hp),show e*t*(1+r)=e*(t*(1+r)) from ring [e,t,r],h];exact ring [e])
 rw [ge it0 (pos (qp _) y0),ge it1 (pos (qp _) y1),ge it2 (pos (qp _) y2)]
 have T0:=zMq it0 n0 y0
 have T1:=zMq it1 n1 y1
 have T2:=zMq it2 n2 y2
 have P1:=zMp ip1 m1 z1
 have P2:=zMp ip2 m2 z2
 have P3:=zMp ip3 m3 z3
 -- differences of the roots
 have rd:∀ {a b x y p:Re},a*a=1-e*(1-x)->b*b=1-e*(1-y)->p*(a+b)=1->b-a=e*(y-x)*p:=fun {a b x y p} ha hb hp=>by
  have:(b-a)*(p*(a+b))=(b*b-a*a)*p:=ring [a,b,p]
  rw [hp,ha,hb] at this
  rw [show b-a=(b-a)*1 from ring [a,b],this];exact ring [e,x,y,p]
 have D1:=rd s0 s1 ip1
 have D2:=rd s0 s2 ip2
 have D3:=rd s1 s2 ip3
 -- differences of the inverses
 have td:∀ {a b t u:Re},t*a=1->u*b=1->u-t=t*u*(a-b):=fun {a b t u} ha hb=>by
  have e1:t*u*(a-b)=u*(t*a)-t*(u*b):=ring [t,u,a,b]
  rw [e1,ha,hb];exact ring [t,u]
 have A1:t1-t0= -(e*(q1-q0)*(p1*t0*t1)):=by
  rw [td it0 it1,show t0*t1*(1+r0-(1+r1))= -(t0*t1*(r1-r0)) from ring [t0,t1,r0,r1],D1];exact ring [t0,t1,e,q1,q0,p1]
 have A2:t2-t0= -(e*(q2-q0)*(p2*t0*t2)):=by
  rw [td it0 it2,show t0*t2*(1+r0-(1+r2))= -(t0*t2*(r2-r0)) from ring [t0,t2,r0,r2],D2];exact ring [t0,t2,e,q2,q0,p2]
 have A3:p2*t2-p1*t1= -((p2*t1*t2+t1*p1*p2)*(e*(q2-q1)*p3)):=by
  have k1:t2-t1= -(t1*t2*(e*(q2-q1)*p3)):=by
   rw [td it1 it2,show t1*t2*(1+r1-(1+r2))= -(t1*t2*(r2-r1)) from ring [t1,t2,r1,r2],D3]
  have k2:p2-p1= -(p1*p2*(e*(q2-q1)*p3)):=by
   rw [td ip1 ip2,show p1*p2*(r0+r1-(r0+r2))= -(p1*p2*(r2-r1)) from ring [p1,p2,r0,r1,r2],D3]
  rw [show p2*t2-p1*t1=p2*(t2-t1)+t1*(p2-p1) from ring [p1,p2,t1,t2],k1,k2]
  generalize e*(q2-q1)*p3=w
  exact ring [p1,p2,t1,t2,w]
 have B1:p1*t0*t1<=rat (129/1000):=le_trans (zpD (mn m1 n0) (zpD m1 P1 n0 T0) n1 T1) (zH [] (qn (129/1000-506/1000*(503/1000)*(503/1000))))
 have B2:p2*t1*t2<=rat (129/1000):=le_trans (zpD (mn m2 n1) (zpD m2 P2 n1 T1) n2 T2) (zH [] (qn (129/1000-506/1000*(503/1000)*(503/1000))))
 have B3:t1*p1*p2<=rat (129/1000):=le_trans (zpD (mn n1 m1) (zpD n1 T1 m1 P1) m2 P2) (zH [] (qn (129/1000-503/1000*(506/1000)*(506/1000))))
 have N1:=mn (mn m1 n0) n1
 have N2:=mn (mn m2 n1) n2
 have N3:=mn (mn n1 m1) m2
 have h4:abs (q2-q1)<=2*d:=by
  have k:=zDG q2 q0 q1
  rw [zk6 q0 q1] at k
  exact le_trans k (zH [abs (q2-q0),abs (q1-q0),d] (pn (sn h2) (sn h1)))
 have W:abs (e*(q2-q1)*p3)<=rat (1/50)*(2*d)*rat (506/1000):=zbp (zbp (by rw [zbm e0];exact e1) h4) (by rw [zbm m3];exact P3)
 have CW:abs (-(t0*((p2*t1*t2+t1*p1*p2)*(e*(q2-q1)*p3))))<=rat (503/1000)*((rat (129/1000)+rat (129/1000))*(rat (1/50)*(2*d)*rat (506/1000))):=by
  rw [abs_neg]
  refine zbp (by rw [zbm n0];exact T0) (zbp ?_ W)
  rw [zbm (pn N2 N3)];exact zc3 B2 B3
 have X1:abs ((q1+q2-2*q0)*(p1*t0*t1))<=2*(d*d)*rat (129/1000):=zbp h3 (by rw [zbm N1];exact B1)
 have X2:=zbp h2 CW
 have key:e*t1+e*t2-2*(e*t0)=(e*e) * -((q1+q2-2*q0)*(p1*t0*t1)+(q2-q0) * -(t0*((p2*t1*t2+t1*p1*p2)*(e*(q2-q1)*p3)))):=by
  rw [show e*t1+e*t2-2*(e*t0)=e*((t1-t0)+(t2-t0)) from ring [e,t0,t1,t2],A1,A2,
   show (p2*t1*t2+t1*p1*p2)*(e*(q2-q1)*p3)= -(p2*t2-p1*t1) from by rw [A3];exact ring [p1,p2,t1,t2,e,q1,q2,p3]]
  exact ring [e,q0,q1,q2,p1,p2,t0,t1,t2]
 rw [key]
 have X:=le_trans (zir _ _) (zc3 X1 X2)
 rw [<- abs_neg] at X
 have E:abs (e*e)<=e*e:=le_of_eq (zbm (mn e0 e0))
 refine le_trans (zbp E X) ?_
 generalize e*e=k at *
 have kk:0<=k:=le_trans (zcs _) E
 exact zH [k,d] (mn (mn kk (sqn d)) (qn (3/10-258/1000-503/1000*(258/1000)*(2/50)*(506/1000))))
theorem zMU (d:Re):abs (sin d)<=abs d:=by
 have pos:∀ {x:Re},0<=x->abs (sin x)<=x:=fun {x} h=>by
  refine zeU ?_ (zDX h)
  rcases lt_or_le x 1 with k|k
  ·have g:=zAO h
   refine le_trans ?_ g
   have x1:x*x<=1:=zH [x] (mn (sn (le_of_lt k)) (pn h (qn 1)))
   generalize hq:x*x=q at *
   rw [show x*q=q*x from ring [x,q]]
   exact zH [x,q] (pn (kn (1/6) (mn h (sn x1))) (kn (11/6) h))
  ·exact le_trans (zH [x] (sn k)) (znl x)
 rcases le_total 0 d with h|h
 ·rw [zbm h];exact pos h
 ·have k:=pos (zlM h)
  rw [zov,abs_neg] at k
  rw [zh8 h];exact k
theorem abs1 {w:Re} (h:w*w<=1):abs w<=1:=zl0 (qn 1) (by rw [zr2];exact le_trans h (zH [] (qn 0)))
theorem zOk {e a m:Re} (e0:0<=e) (e1:e<=rat (1/50)) (h:a*a+m*m<=1):SD (rat (3/10)*(e*e)) fun t=>gq e ((a*cos t+m*sin t)*(a*cos t+m*sin t)):=fun c d=>by
 have sc:=zl2 c
 have sd:=zl2 d
 have S:=zMU d
 simp only [zq7,zu3,zoF,zjN]
 generalize cos c=x at *;generalize sin c=y at *;generalize cos d=C at *;generalize sin d=T at *
 have eZ:a*(x*C-y*T)+m*(y*C+x*T)=(a*x+m*y)*C+(m*x-a*y)*T:=ring [a,m,x,y,C,T]
 have eY:a*(x*C+y*T)+m*(y*C-x*T)=(a*x+m*y)*C-(m*x-a*y)*T:=ring [a,m,x,y,C,T]
 have eN:(a*x+m*y)*(a*x+m*y)+(m*x-a*y)*(m*x-a*y)<=1:=by
  rw [show (a*x+m*y)*(a*x+m*y)+(m*x-a*y)*(m*x-a*y)=(a*a+m*m)*(y*y+x*x) from ring [a,m,x,y],sc]
  exact le_trans (le_of_eq (ring [a,m])) h
 rw [eZ,eY]
 generalize a*x+m*y=Z at *;generalize m*x-a*y=Y at *
 have zz:=sqn Z
 have yy:=sqn Y
 have r1:(Z*C+Y*T)*(Z*C+Y*T)+(Z*T-Y*C)*(Z*T-Y*C)=Z*Z+Y*Y:=by
  rw [show (Z*C+Y*T)*(Z*C+Y*T)+(Z*T-Y*C)*(Z*T-Y*C)=(Z*Z+Y*Y)*(T*T+C*C) from ring [Z,Y,C,T],sd];exact ring [Z,Y]
 have r2:(Z*C-Y*T)*(Z*C-Y*T)+(Z*T+Y*C)*(Z*T+Y*C)=Z*Z+Y*Y:=by
  rw [show (Z*C-Y*T)*(Z*C-Y*T)+(Z*T+Y*C)*(Z*T+Y*C)=(Z*Z+Y*Y)*(T*T+C*C) from ring [Z,Y,C,T],sd];exact ring [Z,Y]
 have b0:Z*Z<=1:=le_trans (zH [Z,Y] yy) eN
 have b1:(Z*C+Y*T)*(Z*C+Y*T)<=1:=by
  refine le_trans ?_ (le_trans (le_of_eq r1) eN);generalize Z*C+Y*T=p;generalize hq:Z*T-Y*C=q;exact zH [p,q] (sqn q)
 have b2:(Z*C-Y*T)*(Z*C-Y*T)<=1:=by
  refine le_trans ?_ (le_trans (le_of_eq r2) eN);generalize Z*C-Y*T=p;generalize hq:Z*T+Y*C=q;exact zH [p,q] (sqn q)
 have sq1:(Z*Z+Y*Y)*(Z*Z+Y*Y)<=1:=by
  have k:=pn zz yy
  generalize Z*Z+Y*Y=n at *
  exact zH [n] (mn (sn eN) (pn k (qn 1)))
 have w1:abs (T*(Y*Y-Z*Z)+2*(Z*Y*C))<=1:=abs1 (by
  refine le_trans ?_ sq1
  have:(T*(Y*Y-Z*Z)+2*(Z*Y*C))*(T*(Y*Y-Z*Z)+2*(Z*Y*C))+(C*(Y*Y-Z*Z)-2*(Z*Y*T))*(C*(Y*Y-Z*Z)-2*(Z*Y*T))=(Z*Z+Y*Y)*(Z*Z+Y*Y):=by
   rw [show (T*(Y*Y-Z*Z)+2*(Z*Y*C))*(T*(Y*Y-Z*Z)+2*(Z*Y*C))+(C*(Y*Y-Z*Z)-2*(Z*Y*T))*(C*(Y*Y-Z*Z)-2*(Z*Y*T))=(Z*Z+Y*Y)*(Z*Z+Y*Y)*(T*T+C*C) from ring [Z,Y,C,T],sd];exact ring [Z,Y]
  rw [<- this]
  generalize C*(Y*Y-Z*Z)-2*(Z*Y*T)=q;generalize T*(Y*Y-Z*Z)+2*(Z*Y*C)=p
  exact zH [p,q] (sqn q))
 have w2:abs (T*(Y*Y-Z*Z)-2*(Z*Y*C))<=1:=abs1 (by
  refine le_trans ?_ sq1
  have:(T*(Y*Y-Z*Z)-2*(Z*Y*C))*(T*(Y*Y-Z*Z)-2*(Z*Y*C))+(C*(Y*Y-Z*Z)+2*(Z*Y*T))*(C*(Y*Y-Z*Z)+2*(Z*Y*T))=(Z*Z+Y*Y)*(Z*Z+Y*Y):=by
   rw [show (T*(Y*Y-Z*Z)-2*(Z*Y*C))*(T*(Y*Y-Z*Z)-2*(Z*Y*C))+(C*(Y*Y-Z*Z)+2*(Z*Y*T))*(C*(Y*Y-Z*Z)+2*(Z*Y*T))=(Z*Z+Y*Y)*(Z*Z+Y*Y)*(T*T+C*C) from ring [Z,Y,C,T],sd];exact ring [Z,Y]
  rw [<- this]
  generalize C*(Y*Y-Z*Z)+2*(Z*Y*T)=q;generalize T*(Y*Y-Z*Z)-2*(Z*Y*C)=p
  exact zH [p,q] (sqn q))
 have CC:C*C=1-T*T:=by rw [<- sd];exact ring [C,T]
 have k1:abs ((Z*C+Y*T)*(Z*C+Y*T)-Z*Z)<=abs d:=by
  rw [show (Z*C+Y*T)*(Z*C+Y*T)-Z*Z=Z*Z*(C*C)+2*(Z*Y*C)*T+Y*Y*(T*T)-Z*Z from ring [Z,Y,C,T],CC,
   show Z*Z*(1-T*T)+2*(Z*Y*C)*T+Y*Y*(T*T)-Z*Z=T*(T*(Y*Y-Z*Z)+2*(Z*Y*C)) from ring [Z,Y,C,T]]
  exact le_trans (zbp S w1) (le_of_eq (by generalize abs d=D;exact ring [D]))
 have k2:abs ((Z*C-Y*T)*(Z*C-Y*T)-Z*Z)<=abs d:=by
  rw [show (Z*C-Y*T)*(Z*C-Y*T)-Z*Z=Z*Z*(C*C)-2*(Z*Y*C)*T+Y*Y*(T*T)-Z*Z from ring [Z,Y,C,T],CC,
   show Z*Z*(1-T*T)-2*(Z*Y*C)*T+Y*Y*(T*T)-Z*Z=T*(T*(Y*Y-Z*Z)-2*(Z*Y*C)) from ring [Z,Y,C,T]]
  exact le_trans (zbp S w2) (le_of_eq (by generalize abs d=D;exact ring [D]))
 have k3:abs ((Z*C+Y*T)*(Z*C+Y*T)+(Z*C-Y*T)*(Z*C-Y*T)-2*(Z*Z))<=2*(abs d*abs d):=by
  rw [show (Z*C+Y*T)*(Z*C+Y*T)+(Z*C-Y*T)*(Z*C-Y*T)-2*(Z*Z)=2*(Z*Z)*(C*C)+2*(Y*Y)*(T*T)-2*(Z*Z) from ring [Z,Y,C,T],CC,
   show 2*(Z*Z)*(1-T*T)+2*(Y*Y)*(T*T)-2*(Z*Z)=T*(T*(2*(Y*Y-Z*Z))) from ring [Z,Y,T]]
  have d1:abs (2*(Y*Y-Z*Z))<=2:=by
   refine zeU ?_ ?_
   ·generalize Y*Y=p at *;generalize Z*Z=q at *;exact zH [p,q] (pn (kn 2 (sn b0)) (kn 2 yy))
   ·generalize Y*Y=p at *;generalize Z*Z=q at *;exact zH [p,q] (pn (kn 2 (sn eN)) (kn 4 zz))
  refine le_trans (zbp S (zbp S d1)) (le_of_eq ?_)
  generalize abs d=D;exact ring [D]
 have fin:=zQX e0 e1 ⟨zz,b0⟩ ⟨sqn _,b1⟩ ⟨sqn _,b2⟩ (zcs d) k1 k2 k3
 rw [zr2] at fin
 exact fin
end Go.Proofs.YtaoakfodkoifoaaGreat.An
namespace Go.Proofs.YtaoakfodkoifoaaGreat.An
def Lp (a b:Re) (f:Re->Re):Prop:=∃K,0<=K/\(∀x y,a<=x->x<=b->a<=y->y<=b->abs (f x-f y)<=K*abs (x-y))/\∀x,a<=x->x<=b->abs (f x)<=K
theorem Lp.const {a b:Re} (c:Re):Lp a b fun _=>c:=⟨abs c,zcs c,fun x y _ _ _ _=>by
 show abs (c-c)<=_
 rw [show c-c=0 from ring [c],abs_zero];exact mn (zcs c) (zcs _),fun _ _ _=>le_refl _⟩
theorem Lp.id {a b:Re}:Lp a b fun x=>x:=⟨1+(abs a+abs b),pn (qn 1) (pn (zcs a) (zcs b)),fun x y _ _ _ _=>by
 have k:=zcs (x-y);have p:=pn (zcs a) (zcs b)
 generalize abs (x-y)=d at *;generalize abs a+abs b=q at *
 exact zH [d,q] (mn p k),fun x h1 h2=>by
 have k1:=zjk a;have k2:=zqz b;have p1:=zcs a;have p2:=zcs b
 generalize abs a=A at *;generalize abs b=B at *
 exact zeU (zH [x,a,A,B] (pn (sn h1) (pn (sn k1) (pn p2 (qn 1))))) (zH [x,b,A,B] (pn (sn h2) (pn (sn k2) (pn p1 (qn 1)))))⟩
theorem Lp.add {a b:Re} {f g:Re->Re} (h:Lp a b f) (k:Lp a b g):Lp a b fun x=>f x+g x:=by
 obtain ⟨K,K0,h1,h2⟩:=h
 obtain ⟨L,L0,k1,k2⟩:=k
 refine ⟨K+L,pn K0 L0,fun x y a1 a2 b1 b2=>?_,fun x a1 a2=>le_trans (zir _ _) (zc3 (h2 x a1 a2) (k2 x a1 a2))⟩
 have e:f x+g x-(f y+g y)=(f x-f y)+(g x-g y):=by
  generalize f x=p;generalize f y=q;generalize g x=r;generalize g y=s;exact ring [p,q,r,s]
 show abs (f x+g x-(f y+g y))<=_
 rw [e]
 refine le_trans (zir _ _) (le_trans (zc3 (h1 x y a1 a2 b1 b2) (k1 x y a1 a2 b1 b2)) (le_of_eq ?_))
 generalize abs (x-y)=d;exact ring [K,L,d]
theorem Lp.neg {a b:Re} {f:Re->Re} (h:Lp a b f):Lp a b fun x=> - f x:=by
 obtain ⟨K,K0,h1,h2⟩:=h
 refine ⟨K,K0,fun x y a1 a2 b1 b2=>?_,fun x a1 a2=>by show abs (- f x)<=K;rw [abs_neg];exact h2 x a1 a2⟩
 show abs (- f x - - f y)<=_
 rw [show-f x - - f y= -(f x-f y) from by generalize f x=p;generalize f y=q;exact ring [p,q],abs_neg]
 exact h1 x y a1 a2 b1 b2
theorem Lp.mul {a b:Re} {f g:Re->Re} (h:Lp a b f) (k:Lp a b g):Lp a b fun x=>f x*g x:=by
 obtain ⟨K,K0,h1,h2⟩:=h
 obtain ⟨L,L0,k1,k2⟩:=k
 refine ⟨2*(K*L),mn (qn 2) (mn K0 L0),fun x y a1 a2 b1 b2=>?_,fun x a1 a2=>le_trans (zbp (h2 x a1 a2) (k2 x a1 a2)) ?_⟩
 ·have e:f x*g x-f y*g y=(f x-f y)*g x+f y*(g x-g y):=by
   generalize f x=p;generalize f y=q;generalize g x=r;generalize g y=s;exact ring [p,q,r,s]
  show abs (f x*g x-f y*g y)<=_
  rw [e]
  refine le_trans (zir _ _) (le_trans (zc3 (zbp (h1 x y a1 a2 b1 b2) (k2 x a1 a2)) (zbp (h2 y b1 b2) (k1 x y a1 a2 b1 b2))) (le_of_eq ?_))
  generalize abs (x-y)=d;exact ring [K,L,d]
 ·exact zH [K,L] (mn K0 L0)
theorem Lp.comp {a b c d:Re} {f g:Re->Re} (h:Lp a b f) (k:Lp c d g) (hr:∀x,a<=x->x<=b->c<=f x/\f x<=d):Lp a b fun x=>g (f x):=by
 obtain ⟨K,K0,h1,h2⟩:=h
 obtain ⟨L,L0,k1,k2⟩:=k
 refine ⟨L*K+L,pn (mn L0 K0) L0,fun x y a1 a2 b1 b2=>?_,fun x a1 a2=>?_⟩
 ·obtain ⟨c1,c2⟩:=hr x a1 a2
  obtain ⟨d1,d2⟩:=hr y b1 b2
  refine le_trans (k1 _ _ c1 c2 d1 d2) (le_trans (zuo L0 (h1 x y a1 a2 b1 b2)) ?_)
  have q:=zcs (x-y)
  generalize abs (x-y)=d at *
  exact zH [K,L,d] (mn L0 q)
 ·obtain ⟨c1,c2⟩:=hr x a1 a2
  exact le_trans (k2 _ c1 c2) (zH [K,L] (mn L0 K0))
theorem Lp.sub' {a b:Re} {f g:Re->Re} (h:Lp a b f) (k:Lp a b g):Lp a b fun x=>f x-g x:=by
 obtain ⟨K,h1,h2,h3⟩:=h.add k.neg
 refine ⟨K,h1,fun x y a1 a2 b1 b2=>?_,fun x a1 a2=>?_⟩
 ·have:=h2 x y a1 a2 b1 b2
  show abs (f x-g x-(f y-g y))<=_
  rw [show f x-g x-(f y-g y)=f x + - g x-(f y + - g y) from by generalize f x=p;generalize f y=q;generalize g x=r;generalize g y=s;exact ring [p,q,r,s]]
  exact this
 ·have:=h3 x a1 a2
  show abs (f x-g x)<=_
  rw [show f x-g x=f x + - g x from by generalize f x=p;generalize g x=r;exact ring [p,r]]
  exact this
theorem zKQ {f:Re->Re} (h:∀x y,x<=y->abs (f y-f x)<=y-x) (x y:Re):abs (f x-f y)<=1*abs (x-y):=by
 rcases le_total x y with k|k
 ·rw [zk6,zk6 x y,zbm (sn k)];exact le_trans (h x y k) (le_of_eq (ring [x,y]))
 ·rw [zbm (sn k)];exact le_trans (h y x k) (le_of_eq (ring [x,y]))
theorem Lp.cos' {a b:Re}:Lp a b cos:=⟨1,qn 1,fun x y _ _ _ _=>zKQ (fun x y h=>zzX h) x y,fun x _ _=>zeU (by have k:=znl (x+hp);rwa [znX] at k) (zkx x)⟩
theorem zLu {x y:Re} (h:x<=y):abs (sin y-sin x)<=y-x:=by
 have k:=zzX (x:=x-hp) (y:=y-hp) (by generalize hp=p;exact zH [x,y,p] (sn h))
 have e:∀z:Re,cos (z-hp)=sin z:=fun z=>by rw [show z-hp= -(hp-z) from by generalize hp=p;exact ring [z,p],zmD,zmh]
 rw [e,e] at k
 exact le_trans k (le_of_eq (by generalize hp=p;exact ring [x,y,p]))
theorem Lp.sin' {a b:Re}:Lp a b sin:=⟨1,qn 1,fun x y _ _ _ _=>zKQ (fun x y h=>zLu h) x y,fun x _ _=>zeU (znl x) (zpp x)⟩
theorem Lp.sin {a b:Re} {f:Re->Re} (h:Lp a b f):Lp a b fun x=>An.sin (f x):=by
 have h0:=h
 obtain ⟨K,K0,h1,h2⟩:=h0
 exact h.comp (c:= -K) (d:=K) Lp.sin' fun x a1 a2=>zeT (h2 x a1 a2)
theorem Lp.cos {a b:Re} {f:Re->Re} (h:Lp a b f):Lp a b fun x=>An.cos (f x):=by
 have h0:=h
 obtain ⟨K,K0,h1,h2⟩:=h0
 exact h.comp (c:= -K) (d:=K) Lp.cos' fun x a1 a2=>zeT (h2 x a1 a2)
theorem Lp.inv' {a b:Re} (h:0<a):Lp a b fun x=>1/x:=by
 have ap:∀x,a<=x->0<x:=fun x k=>lt_of_lt_of_le h k
 have ia:1/a*a=1:=div_mul (ne_of_gt h)
 have i0:0<=1/a:=le_of_lt (zv7 (qp 1) h)
 have bd:∀x,a<=x->0<=1/x/\1/x<=1/a/\1/x*x=1:=fun x k=>by
  have p:=ap x k
  have ix:1/x*x=1:=div_mul (ne_of_gt p)
  have x0:0<=1/x:=le_of_lt (zv7 (qp 1) p)
  refine ⟨x0,?_,ix⟩
  generalize 1/x=u at *;generalize 1/a=v at *
  -- u = u * (v * a) <= v * (u * x) = v
  have e1:u=u*(v*a):=by rw [ia];exact ring [u]
  have e2:v=v*(u*x):=by rw [ix];exact ring [v]
  rw [e1]
  conv=>rhs;rw [e2]
  exact zH [u,v,a,x] (mn (mn x0 i0) (sn k))
 refine ⟨1/a*(1/a)+1/a,pn (mn i0 i0) i0,fun x y a1 a2 b1 b2=>?_,fun x a1 a2=>?_⟩
 ·obtain ⟨x0,x1,x2⟩:=bd x a1
  obtain ⟨y0,y1,y2⟩:=bd y b1
  show abs (1/x-1/y)<=_
  generalize 1/x=u at *;generalize 1/y=v at *;generalize 1/a=w at *
  have e:u-v=u*v*(y-x):=by
   rw [show u*v*(y-x)=u*(v*y)-v*(u*x) from ring [u,v,x,y],x2,y2];exact ring [u,v]
  rw [e,zk6 x y]
  have k:abs (u*v)<=w*w:=by rw [zbm (mn x0 y0)];exact zpD x0 x1 y0 y1
  refine le_trans (zbp k (le_refl _)) ?_
  have q:=zcs (y-x)
  generalize abs (y-x)=d at *
  exact zH [w,d] (mn i0 q)
 ·obtain ⟨x0,x1,x2⟩:=bd x a1
  show abs (1/x)<=_
  rw [zbm x0]
  generalize 1/x=u at *;generalize 1/a=w at *
  exact zH [u,w] (pn (sn x1) (mn i0 i0))
theorem Lp.inv {a b c:Re} {f:Re->Re} (h:Lp a b f) (hc:0<c) (hf:∀x,a<=x->x<=b->c<=f x):Lp a b fun x=>1/f x:=by
 have h0:=h
 obtain ⟨K,K0,h1,h2⟩:=h0
 exact h.comp (c:=c) (d:=K) (Lp.inv' hc) fun x a1 a2=>⟨hf x a1 a2,(zeT (h2 x a1 a2)).2⟩
theorem Lp.sqrt' {a b:Re} (h:0<a):Lp a b An.sqrt:=by
 have sa:=zyZ h
 have i0:0<=1/An.sqrt a:=le_of_lt (zv7 (qp 1) sa)
 have ia:1/An.sqrt a*An.sqrt a=1:=div_mul (ne_of_gt sa)
 refine ⟨1/An.sqrt a+(abs b+1),pn i0 (pn (zcs b) (qn 1)),fun x y a1 a2 b1 b2=>?_,fun x a1 a2=>?_⟩
 ·have x0:=le_trans (le_of_lt h) a1
  have y0:=le_trans (le_of_lt h) b1
  have sx:=zgj x0;have sy:=zgj y0
  have lx:=sqrt_le (le_of_lt h) a1;have ly:=sqrt_le (le_of_lt h) b1
  have e:x-y=(An.sqrt x-An.sqrt y)*(An.sqrt x+An.sqrt y):=by
   rw [show (An.sqrt x-An.sqrt y)*(An.sqrt x+An.sqrt y)=An.sqrt x*An.sqrt x-An.sqrt y*An.sqrt y from by generalize An.sqrt x=p;generalize An.sqrt y=q;exact ring [p,q],sx,sy]
  rw [e,znE]
  have q:=zcs (An.sqrt x-An.sqrt y)
  have nb:=zcs b
  have p0:=le_of_lt sa
  rw [zbm (pn (zgX x) (zgX y))]
  generalize abs (An.sqrt x-An.sqrt y)=d at *
  generalize An.sqrt x=p at *;generalize An.sqrt y=r at *;generalize An.sqrt a=s at *;generalize 1/s=i at *;generalize abs b=B at *
  -- d = d * (i * s) <= i * (d * (p + r))
  have e1:d=d*(i*s):=by rw [ia];exact ring [d]
  conv=>lhs;rw [e1]
  exact zH [d,i,s,p,r,B] (pn (mn (mn i0 q) (pn (sn lx) (pn (sn ly) p0))) (mn (mn (pn nb (qn 1)) q) (pn (pn (sn lx) p0) (pn (sn ly) p0))))
 ·have x0:=le_trans (le_of_lt h) a1
  rw [zbm (zgX x)]
  have k:An.sqrt x<=abs b+1:=by
   refine zl0 (pn (zcs b) (qn 1)) ?_
   rw [zgj x0]
   have k1:=le_trans a2 (zqz b)
   have nb:=zcs b
   generalize abs b=B at *
   exact zH [x,B] (pn (sn k1) (pn (mn nb nb) (pn nb (qn 1))))
  refine le_trans k ?_
  generalize abs b+1=B;generalize 1/An.sqrt a=i at *
  exact zH [B,i] i0
theorem Lp.sqrt {a b c:Re} {f:Re->Re} (h:Lp a b f) (hc:0<c) (hf:∀x,a<=x->x<=b->c<=f x):Lp a b fun x=>An.sqrt (f x):=by
 have h0:=h
 obtain ⟨K,K0,h1,h2⟩:=h0
 exact h.comp (c:=c) (d:=K) (Lp.sqrt' hc) fun x a1 a2=>⟨hf x a1 a2,(zeT (h2 x a1 a2)).2⟩
theorem zKo {c x y:Re} (c0:0<c) (c1:c<hp) (x0:0<=x) (hxy:x<=y) (hy:y<=An.sin c):(asin y-asin x)*An.cos c<=y-x:=by
 have s1:An.sin c<=1:=zpp c
 have y1:y<=1:=le_trans hy s1
 have x1:x<=1:=le_trans hxy y1
 have m1:(-1:Re)<=0:=zH [] (qn 1)
 have n0: -hp<=0:=by have:=hp_p;generalize hp=p at *;exact zH [p] (le_of_lt this)
 have e1:=zrz (le_trans m1 x0) x1
 have e2:=zrz (le_trans m1 (le_trans x0 hxy)) y1
 have up:=zpL (le_trans m1 x0) hxy y1
 have ac:asin (An.sin c)=c:=zrY (le_trans n0 (le_of_lt c0)) (le_of_lt c1)
 have bc:asin y<=c:=by rw [<- ac];exact zpL (le_trans m1 (le_trans x0 hxy)) hy s1
 have a0:asin 0=0:=by have k:=zrY n0 (le_of_lt hp_p);rwa [zgk] at k
 have b0:0<=asin x:=by rw [<- a0];exact zpL m1 x0 x1
 generalize asin x=A at *;generalize asin y=B at *
 rw [<- e1,<- e2]
 have d:=((Der.id A B).smul (An.cos c)).le (zqS A B) up (fun z z1 z2=>by
  show An.cos c*1<=An.cos z
  rw [show An.cos c*1=An.cos c from by generalize An.cos c=p;exact ring [p]]
  exact zzY (le_trans b0 z1) (le_trans z2 bc) (le_trans (le_of_lt c1) (by unfold pi;have:=hp_p;generalize hp=p at *;exact zH [p] (le_of_lt this))))
 refine le_trans (le_of_eq ?_) d
 generalize An.cos c=p;exact ring [p,A,B]
theorem Lp.asin' {c:Re} (c0:0<c) (c1:c<hp):Lp 0 (An.sin c) asin:=by
 have n0: -hp<c:=lt_of_lt_of_le (by have:=hp_p;generalize hp=p at *;exact zdo [p] this) (le_of_lt c0)
 have cp:=zzW n0 c1
 have i0:0<=1/An.cos c:=le_of_lt (zv7 (qp 1) cp)
 have ic:1/An.cos c*An.cos c=1:=div_mul (ne_of_gt cp)
 have s1:An.sin c<=1:=zpp c
 have m1:(-1:Re)<=0:=zH [] (qn 1)
 have hp0:=le_of_lt hp_p
 refine ⟨1/An.cos c+hp,pn i0 hp0,fun x y a1 a2 b1 b2=>?_,fun x a1 a2=>?_⟩
 ·have go:∀x y:Re,0<=x->x<=y->y<=An.sin c->abs (asin y-asin x)<=(1/An.cos c+hp)*(y-x):=fun x y x0 xy y1=>by
   have l:=zKo c0 c1 x0 xy y1
   have up:=zpL (le_trans m1 x0) xy (le_trans y1 s1)
   rw [zbm (sn up)]
   generalize asin y-asin x=d at *
   generalize 1/An.cos c=i at *;generalize An.cos c=k at *
   have e1:d=d*(i*k):=by rw [ic];exact ring [d]
   rw [e1]
   generalize hp=h at *
   exact zH [d,i,k,x,y,h] (pn (mn i0 (sn l)) (mn hp0 (sn xy)))
  rcases le_total x y with k|k
  ·rw [zk6,zk6 x y,zbm (sn k)];exact go x y a1 k b2
  ·rw [zbm (sn k)];exact go y x b1 k a2
 ·obtain ⟨k1,k2⟩:=zwi (le_trans m1 a1) (le_trans a2 s1)
  generalize 1/An.cos c=i at *;generalize asin x=d at *;generalize hp=h at *
  exact zeU (zH [d,i,h] (pn (sn k1) i0)) (zH [d,i,h] (pn (sn k2) i0))
theorem Lp.asin {a b c:Re} {f:Re->Re} (h:Lp a b f) (c0:0<c) (c1:c<hp) (hf:∀x,a<=x->x<=b->0<=f x/\f x<=An.sin c):Lp a b fun x=>An.asin (f x):=h.comp (Lp.asin' c0 c1) hf
theorem Lp.zero {a b:Re} {f:Re->Re} (h:Lp a b f) (hab:a<=b) (ha:f a<=0) (hb:0<=f b):∃x,a<=x/\x<=b/\f x=0:=by
 obtain ⟨K,K0,h1,_⟩:=h
 exact zuz hab K0 h1 ha hb
theorem Lp.congr {a b:Re} {f g:Re->Re} (h:Lp a b f) (e:∀x,f x=g x):Lp a b g:=by rwa [<- show f=g from funext e]
theorem zxV {a:Re} (h:0<=a) (k:a<=pi):a*cos a<=sin a:=by
 have d:=(((zqS 0 a).add (((Der.id 0 a).mul (zq6 0 a) h).neg))).mono (fun x x0 x1=>by
  show 0<=cos x + -(1*cos x+x * -sin x)
  have s:=mn x0 (zqx x0 (le_trans x1 k))
  generalize sin x=p at *;generalize cos x=q at *
  exact zH [x,p,q] s) h
 have d':sin 0 + -(0*cos 0)<=sin a + -(a*cos a):=d
 rw [zgk] at d'
 generalize sin a=p at *;generalize cos a=q at *;generalize cos 0=r at *
 exact zH [a,p,q,r] (sn d')
theorem zGx {a b:Re} (h:0<=a) (hab:a<=b) (k:b<=pi):sin b*a<=sin a*b:=by
 have g:=zxV h (le_trans hab k)
 have d:=(((Der.id a b).smul (sin a)).add (((zqS a b).smul a).neg)).mono (fun t t0 t1=>by
  show 0<=sin a*1 + -(a*cos t)
  have c:=zzY h t0 (le_trans t1 k)
  generalize sin a=p at *;generalize cos t=q at *;generalize cos a=r at *
  exact zH [a,p,q,r] (pn (sn g) (mn h (sn c)))) hab
 have d':sin a*a + -(a*sin a)<=sin a*b + -(a*sin b):=d
 generalize sin a=p at *;generalize sin b=q at *
 exact zH [a,b,p,q] (sn d')
theorem zIi {a b:Re} (h:0<=b) (hab:b<=a) (k:a<=hp):a*cos a*sin b<=b*cos b*sin a:=by
 have hpi:hp<=pi:=by unfold pi;have:=hp_p;generalize hp=p at *;exact zH [p] (le_of_lt this)
 have nh: -hp<=0:=by have:=hp_p;generalize hp=p at *;exact zH [p] (le_of_lt this)
 have d:=(((zqS b a).smul (b*cos b)).add ((((Der.id b a).mul (zq6 b a) hab).smul (sin b)).neg)).mono (fun t t0 t1=>by
  show 0<=b*cos b*cos t + -(sin b*(1*cos t+t * -sin t))
  have t00:=le_trans h t0
  have th:=le_trans t1 k
  have c1:=zzY h t0 (le_trans th hpi)
  have s1:=znj (le_trans nh h) t0 th
  have cb:=zpK (le_trans nh h) (le_trans t0 th)
  have ct:=zpK (le_trans nh t00) th
  have sb:=zqx h (le_trans (le_trans t0 th) hpi)
  have g:=zxV h (le_trans (le_trans t0 th) hpi)
  have sl:=zDX h
  have cl:=zkx b
  have one:=zl2 b
  generalize sin t=S at *;generalize cos t=C at *;generalize sin b=p at *;generalize cos b=q at *
  -- t S p >= b p p ;C (p - b q) <= q (p - b q)
  have e1:=mn (mn h sb) (sn s1)
  have e2:=mn (mn (sn t0) sb) (le_trans sb s1)
  have e3:=mn (sn c1) (sn g)
  have e4:0<=b-p*q:=zH [b,p,q] (pn (sn sl) (mn sb (sn cl)))
  have e5:b*(p*p+q*q)=b:=by rw [one];exact ring [b]
  have e6:0<=b*(p*p+q*q)-p*q:=by rw [e5];exact e4
  exact zH [b,t,p,q,S,C] (pn e1 (pn e2 (pn e3 e6)))) hab
 have d':b*cos b*sin b + -(sin b*(b*cos b))<=b*cos b*sin a + -(sin b*(a*cos a)):=d
 generalize sin a=p at *;generalize cos a=q at *;generalize sin b=r at *;generalize cos b=t at *
 exact zH [a,b,p,q,r,t] (sn d')
end Go.Proofs.YtaoakfodkoifoaaGreat.An
namespace Go.Proofs.YtaoakfodkoifoaaGreat.An
def hv (u v w:Re):Re:=sin ((v-u)*rat (1/2))*sin ((v-u)*rat (1/2))+cos u*cos v*(sin (w*rat (1/2))*sin (w*rat (1/2)))
def ss (u v w:Re):Re:=2*asin (sqrt (hv u v w))
theorem zHH (x:Re):sin (x*rat (1/2))*sin (x*rat (1/2))=(1-cos x)*rat (1/2):=by
 have k:=zwe (x*rat (1/2))
 rw [show 2*(x*rat (1/2))=x from ring [x]] at k
 rw [k]
 generalize sin (x*rat (1/2))=s;exact ring [s]
theorem zHE (u v w:Re):hv u v w=(1-(sin u*sin v+cos u*cos v*cos w))*rat (1/2):=by
 unfold hv
 rw [zHH,zHH,zoF]
 generalize sin u=a;generalize cos u=b;generalize sin v=c;generalize cos v=d;generalize cos w=t
 exact ring [a,b,c,d,t]
theorem zNV (u v w:Re):hv v u w=hv u v w:=by
 rw [zHE,zHE]
 generalize sin u=a;generalize cos u=b;generalize sin v=c;generalize cos v=d;generalize cos w=t
 exact ring [a,b,c,d,t]
theorem zJU {u v:Re} (hu:0<=cos u) (hv':0<=cos v) (w:Re):0<=hv u v w/\hv u v w<=1:=by
 constructor
 ·unfold hv;exact pn (sqn _) (mn (mn hu hv') (sqn _))
 ·rw [zHE]
  have k1:=zkx (u+v)
  rw [zq7] at k1
  have k2: -1<=cos w:=by have k:=znl (w+hp);rwa [znX] at k
  generalize sin u=a at *;generalize cos u=b at *;generalize sin v=c at *;generalize cos v=d at *;generalize cos w=t at *
  exact zH [a,b,c,d,t] (pn (kn (1/2) (sn k1)) (kn (1/2) (mn (mn hu hv') (sn k2))))
theorem zuZ {u v:Re} (hu:0<=cos u) (hv':0<=cos v) (w:Re):0<=ss u v w/\ss u v w<=pi/\cos (ss u v w)=sin u*sin v+cos u*cos v*cos w/\0<=sin (ss u v w):=by
 obtain ⟨h0,h1⟩:=zJU hu hv' w
 have s0:=zgX (hv u v w)
 have s1:sqrt (hv u v w)<=1:=zl0 (qn 1) (by rw [zgj h0];exact le_trans h1 (zH [] (qn 0)))
 have m1:(-1:Re)<=0:=zH [] (qn 1)
 have n0: -hp<=0:=by have:=hp_p;generalize hp=p at *;exact zH [p] (le_of_lt this)
 have a0:asin 0=0:=by have k:=zrY n0 (le_of_lt hp_p);rwa [zgk] at k
 have b0:0<=asin (sqrt (hv u v w)):=by rw [<- a0];exact zpL m1 s0 s1
 have b1:=(zwi (le_trans m1 s0) s1).2
 have e:=zrz (le_trans m1 s0) s1
 have c0:0<=ss u v w:=mn (qn 2) b0
 have c1:ss u v w<=pi:=by unfold ss pi;generalize asin (sqrt (hv u v w))=x at *;generalize hp=p at *;exact zH [x,p] (kn 2 (sn b1))
 refine ⟨c0,c1,?_,zqx c0 c1⟩
 unfold ss
 rw [zwe,e,zgj h0,zHE]
 generalize sin u*sin v+cos u*cos v*cos w=K;exact ring [K]
theorem zxT (u v w:Re):ss v u w=ss u v w:=by unfold ss;rw [zNV]
def nn (u v w:Re):Re:=cos u*cos v*sin w/sin (ss u v w)
def mm (u v w:Re):Re:=(sin v-sin u*cos (ss u v w))/sin (ss u v w)
theorem zNF {u v w:Re} (hu:0<=cos u) (hv':0<=cos v) (hS:sin (ss u v w)≠0):sin u*sin u+mm u v w*mm u v w<=1:=by
 obtain ⟨_,_,hK,hs⟩:=zuZ hu hv' w
 have hm:mm u v w*sin (ss u v w)=sin v-sin u*cos (ss u v w):=div_mul hS
 have one:=zl2 (ss u v w)
 have ou:=zl2 u;have ov:=zl2 v;have ow:=zl2 w
 have sT:0<sin (ss u v w)*sin (ss u v w):=by
  rcases lt_or_le 0 (sin (ss u v w)) with k|k
  ·exact mp k k
  ·exact absurd (le_antisymm k hs) hS
 have c2:cos u*cos u=1-sin u*sin u:=by rw [<- ou];generalize sin u=a;generalize cos u=b;exact ring [a,b]
 have d2:cos v*cos v=1-sin v*sin v:=by rw [<- ov];generalize sin v=a;generalize cos v=b;exact ring [a,b]
 have w2:cos w*cos w=1-sin w*sin w:=by rw [<- ow];generalize sin w=a;generalize cos w=b;exact ring [a,b]
 have t2:sin (ss u v w)*sin (ss u v w)=1-cos (ss u v w)*cos (ss u v w):=by rw [<- one];generalize sin (ss u v w)=a;generalize cos (ss u v w)=b;exact ring [a,b]
 have key:(1-(sin u*sin u+mm u v w*mm u v w))*(sin (ss u v w)*sin (ss u v w))=cos u*cos u*(cos v*cos v)*(sin w*sin w):=by
  have e1:(1-(sin u*sin u+mm u v w*mm u v w))*(sin (ss u v w)*sin (ss u v w))=(1-sin u*sin u)*(sin (ss u v w)*sin (ss u v w))-(mm u v w*sin (ss u v w))*(mm u v w*sin (ss u v w)):=by
   generalize sin u=a;generalize mm u v w=m;generalize sin (ss u v w)=S;exact ring [a,m,S]
  rw [e1,hm,t2,<- c2]
  have e2:cos u*cos u*(1-cos (ss u v w)*cos (ss u v w))-(sin v-sin u*cos (ss u v w))*(sin v-sin u*cos (ss u v w))=
    cos u*cos u-(cos u*cos u+sin u*sin u)*(cos (ss u v w)*cos (ss u v w))-sin v*sin v+2*(sin u*sin v)*cos (ss u v w):=by
   generalize sin u=a;generalize cos u=b;generalize sin v=c;generalize cos (ss u v w)=K;exact ring [a,b,c,K]
  rw [e2,show cos u*cos u+sin u*sin u=1 from by rw [<- ou];generalize sin u=a;generalize cos u=b;exact ring [a,b],hK]
  have e3:cos u*cos u-1*((sin u*sin v+cos u*cos v*cos w)*(sin u*sin v+cos u*cos v*cos w))-sin v*sin v+2*(sin u*sin v)*(sin u*sin v+cos u*cos v*cos w)
    = cos u*cos u-sin v*sin v*(1-sin u*sin u)-cos u*cos u*(cos v*cos v)*(cos w*cos w):=by
   generalize sin u=a;generalize cos u=b;generalize sin v=c;generalize cos v=d;generalize cos w=t;exact ring [a,b,c,d,t]
  rw [e3,<- c2,w2]
  have e4:cos u*cos u-sin v*sin v*(cos u*cos u)=cos u*cos u*(1-sin v*sin v):=by generalize cos u=b;generalize sin v=c;exact ring [b,c]
  rw [e4,<- d2]
  generalize cos u*cos u=b;generalize cos v*cos v=d;generalize sin w*sin w=t;exact ring [b,d,t]
 have r0:0<=cos u*cos u*(cos v*cos v)*(sin w*sin w):=mn (mn (sqn _) (sqn _)) (sqn _)
 rw [<- key] at r0
 generalize sin u*sin u+mm u v w*mm u v w=X at *;generalize sin (ss u v w)*sin (ss u v w)=T at *
 rcases lt_or_le 1 X with k|k
 ·exfalso
  have:=mp (sp k) sT
  have e:(1-X)*T= -((X-1)*T):=ring [X,T]
  rw [e] at r0
  generalize (X-1)*T=y at *
  exact absurd r0 (fun h=>lt_irrefl _ (lt_of_lt_of_le (zdo [y] this) h))
 ·exact k
def zz (u v w t:Re):Re:=sin u*cos t+mm u v w*sin t
theorem zM7 {u v w:Re} (hu:0<=cos u) (hv':0<=cos v) (hS:sin (ss u v w)≠0) (t:Re):zz v u w t=zz u v w (ss u v w-t):=by
 have hm:mm u v w*sin (ss u v w)=sin v-sin u*cos (ss u v w):=div_mul hS
 have hm':mm v u w*sin (ss u v w)=sin u-sin v*cos (ss u v w):=by unfold mm;rw [zxT];exact div_mul hS
 have one:=zl2 (ss u v w)
 unfold zz
 rw [zoF,zjN]
 refine zfk hS ?_
 generalize mm u v w=m at *;generalize mm v u w=m' at *;generalize sin (ss u v w)=S at *;generalize cos (ss u v w)=K at *;generalize sin u=a at *;generalize sin v=c at *;generalize cos t=C;generalize sin t=T
 have e1:(c*C+m'*T)*S=c*C*S+(m'*S)*T:=ring [c,C,m',T,S]
 have e2:(a*(K*C+S*T)+m*(S*C-K*T))*S=C*S*(a*K+m*S)+T*(a*(S*S)-K*(m*S)):=ring [a,K,C,S,T,m]
 rw [e1,e2,hm,hm']
 have e3:S*S=1-K*K:=by rw [<- one];exact ring [S,K]
 rw [e3];exact ring [a,K,C,S,T,c]
def gg (e u v w t:Re):Re:=gq e (zz u v w t*zz u v w t)
theorem zMb {g h:Re->Re} {s:Re} (k:∀t,h t=g (s-t)):m15 h s=m15 g s:=by
 unfold m15
 simp only [k]
 rw [show s-s*rat (1/30)=s*rat (29/30) from ring [s],show s-s*rat (3/30)=s*rat (27/30) from ring [s],show s-s*rat (5/30)=s*rat (25/30) from ring [s],show s-s*rat (7/30)=s*rat (23/30) from ring [s],
  show s-s*rat (9/30)=s*rat (21/30) from ring [s],show s-s*rat (11/30)=s*rat (19/30) from ring [s],show s-s*rat (13/30)=s*rat (17/30) from ring [s],show s-s*rat (15/30)=s*rat (15/30) from ring [s],
  show s-s*rat (17/30)=s*rat (13/30) from ring [s],show s-s*rat (19/30)=s*rat (11/30) from ring [s],show s-s*rat (21/30)=s*rat (9/30) from ring [s],show s-s*rat (23/30)=s*rat (7/30) from ring [s],
  show s-s*rat (25/30)=s*rat (5/30) from ring [s],show s-s*rat (27/30)=s*rat (3/30) from ring [s],show s-s*rat (29/30)=s*rat (1/30) from ring [s]]
 generalize g (s*rat (1/30))=v1;generalize g (s*rat (3/30))=v3;generalize g (s*rat (5/30))=v5;generalize g (s*rat (7/30))=v7;generalize g (s*rat (9/30))=v9
 generalize g (s*rat (11/30))=v11;generalize g (s*rat (13/30))=v13;generalize g (s*rat (15/30))=v15;generalize g (s*rat (17/30))=v17;generalize g (s*rat (19/30))=v19
 generalize g (s*rat (21/30))=v21;generalize g (s*rat (23/30))=v23;generalize g (s*rat (25/30))=v25;generalize g (s*rat (27/30))=v27;generalize g (s*rat (29/30))=v29
 exact ring [v1,v3,v5,v7,v9,v11,v13,v15,v17,v19,v21,v23,v25,v27,v29]
def ph (e u v l w:Re):Re:=l+nn u v w*(ss u v w*rat (1/15)*m15 (gg e u v w) (ss u v w))
theorem zNx {e u v l w:Re} (hu:0<=cos u) (hv':0<=cos v) (hS:sin (ss u v w)≠0):ph e v u l w=ph e u v l w:=by
 have n:nn v u w=nn u v w:=by
  unfold nn;rw [zxT];congr 1;generalize cos u=a;generalize cos v=b;generalize sin w=c;exact ring [a,b,c]
 have m:m15 (gg e v u w) (ss v u w)=m15 (gg e u v w) (ss u v w):=by
  rw [zxT]
  exact zMb fun t=>by unfold gg;rw [zM7 hu hv' hS]
 unfold ph
 rw [n,m,zxT]
theorem zQY {e f q:Re} (f0:0<=f) (f1:f<=rat (1/100)) (he:e=f*(2-f)) (q0:0<=q) (q1:q<=1):0<=gq e q/\gq e q<=f:=by
 have e0:0<=e:=by rw [he];exact mn f0 (zH [f] (pn (sn f1) (qn (2-1/100))))
 have e1:e<=rat (1/50):=by rw [he];exact zH [f] (pn (kn 2 (sn f1)) (sqn f))
 obtain ⟨s,l,_⟩:=zJb e0 e1 q0 q1
 have lo:1-f<=sqrt (1-e*(1-q)):=by
  refine zl0 (zgX _) ?_
  rw [s,he]
  rw [he] at e0
  exact zH [f,q] (mn e0 q0)
 unfold gq
 generalize sqrt (1-e*(1-q))=r at *
 have rp:0<1+r:=ppn (qp 1) (le_trans (qn (989/1000)) l)
 refine ⟨?_,?_⟩
 ·rw [ztu rp];exact le_trans (le_of_eq (ring [r])) e0
 ·rw [zBM rp,he];exact zH [f,r] (mn f0 (sn lo))
theorem zIQ {u v w:Re} (hu:0<=cos u) (hv':0<=cos v) (hS:sin (ss u v w)≠0) (t:Re):0<=zz u v w t*zz u v w t/\zz u v w t*zz u v w t<=1:=by
 refine ⟨sqn _,?_⟩
 have k:=zNF hu hv' hS
 have one:=zl2 t
 unfold zz
 generalize sin u=a at *;generalize mm u v w=m at *;generalize cos t=C at *;generalize sin t=T at *
 have e:(a*C+m*T)*(a*C+m*T)+(a*T-m*C)*(a*T-m*C)=a*a+m*m:=by
  rw [show (a*C+m*T)*(a*C+m*T)+(a*T-m*C)*(a*T-m*C)=(a*a+m*m)*(T*T+C*C) from ring [a,m,C,T],one];exact ring [a,m]
 refine le_trans ?_ (le_trans (le_of_eq e) k)
 generalize a*C+m*T=p;generalize a*T-m*C=q
 exact zH [p,q] (sqn q)
theorem zNK {g:Re->Re} {f s:Re} (h:∀t,0<=g t/\g t<=f):0<=m15 g s/\m15 g s<=15*f:=by
 unfold m15
 have k:=fun q=>h (s*rat q)
 refine ⟨?_,?_⟩
 ·exact pn (pn (pn (pn (pn (pn (pn (pn (pn (pn (pn (pn (pn (pn (k _).1 (k _).1) (k _).1) (k _).1) (k _).1) (k _).1) (k _).1) (k _).1) (k _).1) (k _).1) (k _).1) (k _).1) (k _).1) (k _).1) (k _).1
 ·refine le_trans (zc3 (zc3 (zc3 (zc3 (zc3 (zc3 (zc3 (zc3 (zc3 (zc3 (zc3 (zc3 (zc3 (zc3 (k _).2 (k _).2) (k _).2) (k _).2) (k _).2) (k _).2) (k _).2) (k _).2) (k _).2) (k _).2) (k _).2) (k _).2) (k _).2) (k _).2) (k _).2) (le_of_eq ?_)
  exact ring [f]
theorem zEZ {u v w:Re} (hu:0<=cos u) (hv':0<=cos v) (w0:0<=w) (w1:w<=pi) (hS:sin (ss u v w)≠0):0<=nn u v w/\nn u v w*ss u v w<=w:=by
 obtain ⟨s0,s1,hK,hs⟩:=zuZ hu hv' w
 have Sp:0<sin (ss u v w):=by
  rcases lt_or_le 0 (sin (ss u v w)) with k|k
  ·exact k
  ·exact absurd (le_antisymm k hs) hS
 have cn:=mn hu hv'
 have sw:=zqx w0 w1
 refine ⟨by unfold nn;rw [ztu Sp];exact le_trans (le_of_eq (by generalize sin (ss u v w)=S;exact ring [S])) (mn cn sw),?_⟩
 have hn:nn u v w*sin (ss u v w)=cos u*cos v*sin w:=div_mul hS
 -- half angles
 have k1:=zkx (u+v)
 have k2:=zkx (u-v)
 rw [zq7] at k1
 rw [zoF] at k2
 have hP:=zwe (ss u v w*rat (1/2))
 have hQ:=zwe (w*rat (1/2))
 have sP:=zy3 (ss u v w*rat (1/2))
 have sQ:=zy3 (w*rat (1/2))
 rw [show 2*(ss u v w*rat (1/2))=ss u v w from by generalize ss u v w=x;exact ring [x]] at hP sP
 rw [show 2*(w*rat (1/2))=w from ring [w]] at hQ sQ
 have oP:=zl2 (ss u v w*rat (1/2));have oQ:=zl2 (w*rat (1/2))
 have a0:0<=ss u v w*rat (1/2):=kn (1/2) s0 |> fun h=>le_trans h (le_of_eq (by generalize ss u v w=x;exact ring [x]))
 have b0:0<=w*rat (1/2):=kn (1/2) w0 |> fun h=>le_trans h (le_of_eq (ring [w]))
 have a1:ss u v w*rat (1/2)<=hp:=by unfold pi at s1;generalize ss u v w=x at *;generalize hp=p at *;exact zH [x,p] (kn (1/2) (sn s1))
 have b1:w*rat (1/2)<=hp:=by unfold pi at w1;generalize hp=p at *;exact zH [w,p] (kn (1/2) (sn w1))
 have hpi:hp<=pi:=by unfold pi;have:=hp_p;generalize hp=p at *;exact zH [p] (le_of_lt this)
 have nh: -hp<=0:=by have:=hp_p;generalize hp=p at *;exact zH [p] (le_of_lt this)
 have P0:=zpK (le_trans nh a0) a1
 have Q0:=zpK (le_trans nh b0) b1
 have p0:=zqx a0 (le_trans a1 hpi)
 have q0:=zqx b0 (le_trans b1 hpi)
 have cQ:cos u*cos v*(cos (w*rat (1/2))*cos (w*rat (1/2)))<=cos (ss u v w*rat (1/2))*cos (ss u v w*rat (1/2)):=by
  have e1:cos (ss u v w*rat (1/2))*cos (ss u v w*rat (1/2))=(1+cos (ss u v w))*rat (1/2):=by
   rw [hP];have:cos (ss u v w*rat (1/2))*cos (ss u v w*rat (1/2))=1-sin (ss u v w*rat (1/2))*sin (ss u v w*rat (1/2)):=by
    rw [<- oP];generalize sin (ss u v w*rat (1/2))=x;generalize cos (ss u v w*rat (1/2))=y;exact ring [x,y]
   rw [this];generalize sin (ss u v w*rat (1/2))=x;exact ring [x]
  have e2:cos (w*rat (1/2))*cos (w*rat (1/2))=(1+cos w)*rat (1/2):=by
   rw [hQ];have:cos (w*rat (1/2))*cos (w*rat (1/2))=1-sin (w*rat (1/2))*sin (w*rat (1/2)):=by
    rw [<- oQ];generalize sin (w*rat (1/2))=x;generalize cos (w*rat (1/2))=y;exact ring [x,y]
   rw [this];generalize sin (w*rat (1/2))=x;exact ring [x]
  rw [e1,e2,hK]
  generalize sin u=a at *;generalize cos u=b at *;generalize sin v=c at *;generalize cos v=d at *;generalize cos w=t at *
  exact zH [a,b,c,d,t] (kn (1/2) (sn k1))
 have c1:cos u*cos v<=1:=by
  have x1:=zkx u;have x2:=zkx v
  generalize cos u=b at *;generalize cos v=d at *
  exact zH [b,d] (pn (sn x1) (mn hu (sn x2)))
 -- wanted: c * q * Q * a <= b * p * P
 have main:cos u*cos v*(sin (w*rat (1/2))*cos (w*rat (1/2)))*(ss u v w*rat (1/2))<=(w*rat (1/2))*(sin (ss u v w*rat (1/2))*cos (ss u v w*rat (1/2))):=by
  have sr:=@zGx (ss u v w*rat (1/2)) (w*rat (1/2))
  have cr:=@zIi (ss u v w*rat (1/2)) (w*rat (1/2))
  generalize ss u v w*rat (1/2)=a at *;generalize w*rat (1/2)=b at *
  generalize cos u*cos v=c at *
  rcases le_total a b with ab|ba
  ·-- sin x / x: q a <= p b, and c Q <= P
   have r:=sr a0 ab (le_trans b1 hpi)
   have cq:c*cos b<=cos a:=zl0 P0 (by
    refine le_trans ?_ cQ
    generalize cos b=Q at *
    exact zH [c,Q] (mn (mn cn (sqn Q)) (sn c1)))
   generalize sin a=p at *;generalize cos a=P at *;generalize sin b=q at *;generalize cos b=Q at *
   exact zH [a,b,c,p,P,q,Q] (pn (mn (mn q0 a0) (sn cq)) (mn P0 (sn r)))
  ·have r:=cr b0 ba a1
   rcases lt_or_le 0 (cos b) with Qp|Qn
   ·generalize sin a=p at *;generalize cos a=P at *;generalize sin b=q at *;generalize cos b=Q at *
    -- times Q: c q Q Q a <= P P q a <= P b Q p
    have t:0<=(b*(p*P)-c*(q*Q)*a)*Q:=zH [a,b,c,p,P,q,Q] (pn (mn P0 (sn r)) (mn (mn q0 a0) (sn cQ)))
    rcases lt_or_le (b*(p*P)) (c*(q*Q)*a) with k|k
    ·exfalso
     have m:=mp (sp k) Qp
     generalize b*(p*P)=x at *;generalize c*(q*Q)*a=y at *
     have e:(x-y)*Q= -((y-x)*Q):=ring [x,y,Q]
     rw [e] at t
     generalize (y-x)*Q=z at *
     exact absurd t (fun h=>lt_irrefl _ (lt_of_lt_of_le (zdo [z] m) h))
    ·exact k
   ·have Qz:cos b=0:=le_antisymm Qn Q0
    rw [Qz]
    have z:=mn b0 (mn p0 P0)
    generalize sin a=p at *;generalize cos a=P at *;generalize sin b=q at *
    exact le_trans (le_of_eq (ring [a,c,q])) z
 have fin:nn u v w*ss u v w*sin (ss u v w)<=w*sin (ss u v w):=by
  rw [show nn u v w*ss u v w*sin (ss u v w)=(nn u v w*sin (ss u v w))*ss u v w from by generalize nn u v w=x;generalize ss u v w=y;generalize sin y=z;exact ring [x,y,z],hn,sQ]
  rw [sP]
  generalize ss u v w=s at *;generalize sin (s*rat (1/2))=p at *;generalize cos (s*rat (1/2))=P at *;generalize sin (w*rat (1/2))=q at *;generalize cos (w*rat (1/2))=Q at *;generalize cos u*cos v=c at *
  exact zH [s,w,p,P,q,Q,c] (kn 4 (sn main))
 generalize nn u v w*ss u v w=x at *;generalize sin (ss u v w)=S at *
 rcases lt_or_le w x with k|k
 ·exfalso
  have m:=mp (sp k) Sp
  exact absurd fin (fun h=>lt_irrefl _ (lt_of_lt_of_le (zdo [w,x,S] m) h))
 ·exact k
end Go.Proofs.YtaoakfodkoifoaaGreat.An
namespace Go.Proofs.YtaoakfodkoifoaaGreat.An
theorem zHD {u v w x:Re} (hu:0<=cos u) (hv':0<=cos v) (w0:0<=w) (h:w<=x) (x1:x<=pi):hv u v w<=hv u v x:=by
 have nh: -hp<=0:=by have:=hp_p;generalize hp=p at *;exact zH [p] (le_of_lt this)
 have b0:0<=w*rat (1/2):=mn w0 (qn (1/2))
 have b1:w*rat (1/2)<=x*rat (1/2):=zH [w,x] (kn (1/2) (sn h))
 have b2:x*rat (1/2)<=hp:=by unfold pi at x1;generalize hp=p at *;exact zH [x,p] (kn (1/2) (sn x1))
 have s:=znj (le_trans nh b0) b1 b2
 have hpi:hp<=pi:=by unfold pi;have:=hp_p;generalize hp=p at *;exact zH [p] (le_of_lt this)
 have s0:=zqx b0 (le_trans b1 (le_trans b2 hpi))
 unfold hv
 have cn:=mn hu hv'
 generalize sin ((v-u)*rat (1/2))*sin ((v-u)*rat (1/2))=k;generalize cos u*cos v=c at *
 generalize sin (w*rat (1/2))=p at *;generalize sin (x*rat (1/2))=q at *
 exact zH [k,c,p,q] (mn cn (pn (mn s0 (sn s)) (mn (le_trans s0 s) (sn s))))
theorem zK8:asin 0=0:=by
 have n0: -hp<=0:=by have:=hp_p;generalize hp=p at *;exact zH [p] (le_of_lt this)
 have k:=zrY n0 (le_of_lt hp_p);rwa [zgk] at k
theorem zIF:asin 1=hp:=by
 have n0: -hp<=hp:=by have:=hp_p;generalize hp=p at *;exact zH [p] (kn 2 (le_of_lt this))
 have k:=zrY n0 (le_refl hp);rwa [znk] at k
theorem zNW {u v w:Re} (hu:0<=cos u) (hv':0<=cos v) (hS:sin (ss u v w)≠0):0<hv u v w/\hv u v w<1:=by
 obtain ⟨h0,h1⟩:=zJU hu hv' w
 constructor
 ·rcases lt_or_le 0 (hv u v w) with k|k
  ·exact k
  ·exfalso
   apply hS
   unfold ss
   rw [le_antisymm k h0,zGt (le_refl 0) (show (0:Re)*0=0 from ring []),zK8,show (2:Re)*0=0 from ring [],zgk]
 ·rcases lt_or_le (hv u v w) 1 with k|k
  ·exact k
  ·exfalso
   apply hS
   unfold ss
   rw [le_antisymm h1 k,show sqrt (1:Re)=1 from zGt (qn 1) (show (1:Re)*1=1 from ring []),zIF]
   exact zu1
theorem div_one (x y:Re) (h:y≠0):x/y=x*(1/y):=by
 refine zfk h ?_
 rw [div_mul h,show x*(1/y)*y=x*(1/y*y) from by generalize 1/y=i;exact ring [x,y,i],div_mul h];exact ring [x]
theorem zLX {y:Re} (h:0<=y):rat 1<=1+y:=zH [y] h
theorem zN1 {e f u v l:Re} (hu:0<=cos u) (hv':0<=cos v) (f0:0<=f) (f1:f<=rat (1/100)) (he:e=f*(2-f)) (l0:0<=l) (l1:l<=pi)
  (hS:∀w,l<=w->w*(1-f)<=l->w<=pi->sin (ss u v w)≠0):∃w,l<=w/\w*(1-f)<=l/\w<=pi/\ph e u v l w=w:=by
 have e0:0<=e:=by rw [he];exact mn f0 (zH [f] (pn (sn f1) (qn (2-1/100))))
 have e1:e<=rat (1/50):=by rw [he];exact zH [f] (pn (kn 2 (sn f1)) (sqn f))
 have fp:0<1-f:=zdo [f] (ppn (qp (99/100)) (sn f1))
 -- the upper end
 obtain ⟨b,hlb,hbf,hbp,hend⟩:∃b,l<=b/\b*(1-f)<=l/\b<=pi/\(b=pi\/b*(1-f)=l):=by
  have d:=div_mul (x:=l) (ne_of_gt fp)
  have hl:l<=l/(1-f):=by rw [ztu fp];exact zH [l,f] (mn l0 f0)
  rcases le_total (l/(1-f)) pi with k|k
  ·exact ⟨l/(1-f),hl,le_of_eq d,k,.inr d⟩
  ·refine ⟨pi,l1,?_,le_refl _,.inl rfl⟩
   rw [<- d]
   generalize l/(1-f)=x at *;generalize pi=p at *
   exact zH [x,p,f] (mn (sn k) (le_of_lt fp))
 have inr:∀w,l<=w->w<=b->w*(1-f)<=l/\w<=pi:=fun w h1 h2=>⟨le_trans (zH [w,b,f] (mn (sn h2) (le_of_lt fp))) hbf,le_trans h2 hbp⟩
 have S:∀w,l<=w->w<=b->sin (ss u v w)≠0:=fun w h1 h2=>hS w h1 (inr w h1 h2).1 (inr w h1 h2).2
 obtain ⟨hl0,hl1⟩:=zNW hu hv' (S l (le_refl l) hlb)
 obtain ⟨hb0,hb1⟩:=zNW hu hv' (S b hlb (le_refl b))
 have mono:∀w,l<=w->w<=b->hv u v l<=hv u v w/\hv u v w<=hv u v b:=fun w h1 h2=>⟨zHD hu hv' l0 h1 (le_trans h2 hbp),zHD hu hv' (le_trans l0 h1) h2 hbp⟩
 have m1:(-1:Re)<=0:=zH [] (qn 1)
 have sb0:=zgX (hv u v b)
 have sb1:sqrt (hv u v b)<=1:=zl0 (qn 1) (by rw [zgj (le_of_lt hb0)];exact le_trans (le_of_lt hb1) (zH [] (qn 0)))
 have ec:=zrz (le_trans m1 sb0) sb1
 have c0:0<asin (sqrt (hv u v b)):=by
  rcases lt_or_le 0 (asin (sqrt (hv u v b))) with k|k
  ·exact k
  ·exfalso
   have up:=zpL m1 sb0 sb1
   rw [zK8] at up
   have z:=le_antisymm k up
   rw [z,zgk] at ec
   exact absurd (zyZ hb0) (by rw [<- ec];exact lt_irrefl _)
 have c1:asin (sqrt (hv u v b))<hp:=by
  rcases lt_or_le (asin (sqrt (hv u v b))) hp with k|k
  ·exact k
  ·exfalso
   have z:=le_antisymm (zwi (le_trans m1 sb0) sb1).2 k
   rw [z,znk] at ec
   have q:=zgj (le_of_lt hb0)
   rw [<- ec] at q
   rw [<- q] at hb1
   exact absurd hb1 (by rw [show (1:Re)*1=1 from ring []];exact lt_irrefl _)
 -- all of it changes no faster than w
 have Lw:Lp l b fun w=>w:=Lp.id
 have Lh:Lp l b fun w=>hv u v w:=by
  have k:=((Lw.mul (Lp.const (rat (1/2)))).sin)
  exact ((Lp.const (sin ((v-u)*rat (1/2))*sin ((v-u)*rat (1/2)))).add ((Lp.const (cos u*cos v)).mul (k.mul k))).congr fun w=>rfl
 have Lr:Lp l b fun w=>sqrt (hv u v w):=Lh.sqrt hl0 fun w h1 h2=>(mono w h1 h2).1
 have Ls:Lp l b fun w=>ss u v w:=by
  have k:=Lr.asin c0 c1 fun w h1 h2=>⟨zgX _,by rw [ec];exact sqrt_le (zJU hu hv' w).1 (mono w h1 h2).2⟩
  exact ((Lp.const 2).mul k).congr fun w=>rfl
 have LS:Lp l b fun w=>sin (ss u v w):=Ls.sin
 have LK:Lp l b fun w=>cos (ss u v w):=Ls.cos
 have ep:0<sqrt (4*(hv u v l*(1-hv u v b))):=zyZ (mp (qp 4) (mp hl0 (sp hb1)))
 have Slo:∀w,l<=w->w<=b->sqrt (4*(hv u v l*(1-hv u v b)))<=sin (ss u v w):=fun w h1 h2=>by
  obtain ⟨_,_,hK,hs⟩:=zuZ hu hv' w
  refine zl0 hs ?_
  have pz:0<4*(hv u v l*(1-hv u v b)):=mp (qp 4) (mp hl0 (sp hb1))
  rw [zgj (le_of_lt pz)]
  have one:=zl2 (ss u v w)
  have t2:sin (ss u v w)*sin (ss u v w)=1-cos (ss u v w)*cos (ss u v w):=by rw [<- one];generalize sin (ss u v w)=a;generalize cos (ss u v w)=b;exact ring [a,b]
  have kv:cos (ss u v w)=1-2*hv u v w:=by rw [hK,zHE];generalize sin u*sin v+cos u*cos v*cos w=k;exact ring [k]
  rw [t2,kv]
  obtain ⟨n1,n2⟩:=mono w h1 h2
  generalize hv u v l=p at *;generalize hv u v b=q at *;generalize hv u v w=r at *
  exact zH [p,q,r] (kn 4 (pn (mn (sn n1) (sn (le_of_lt hb1))) (mn (le_trans (le_of_lt hl0) n1) (sn n2))))
 have Li:Lp l b fun w=>1/sin (ss u v w):=LS.inv ep Slo
 -- within the range, quotients are products
 obtain ⟨Kn,Kn0,Kn1,Kn2⟩:=(((Lp.const (cos u*cos v)).mul Lw.sin).mul Li)
 have cong:∀ {F G:Re->Re},Lp l b F->(∀w,l<=w->w<=b->F w=G w)->Lp l b G:=fun {F G} h k=>by
  obtain ⟨K,K0,h1,h2⟩:=h
  exact ⟨K,K0,fun x y a1 a2 b1 b2=>by rw [<- k x a1 a2,<- k y b1 b2];exact h1 x y a1 a2 b1 b2,fun x a1 a2=>by rw [<- k x a1 a2];exact h2 x a1 a2⟩
 have Ln:Lp l b fun w=>nn u v w:=cong (((Lp.const (cos u*cos v)).mul Lw.sin).mul Li) fun w h1 h2=>(div_one _ _ (S w h1 h2)).symm
 have Lm:Lp l b fun w=>mm u v w:=cong (((Lp.const (sin v)).sub' ((Lp.const (sin u)).mul LK)).mul Li) fun w h1 h2=>(div_one _ _ (S w h1 h2)).symm
 have Lg:∀q:Rat,Lp l b fun w=>gg e u v w (ss u v w*rat q):=fun q=>by
  have La:Lp l b fun w=>ss u v w*rat q:=Ls.mul (Lp.const (rat q))
  have Lz:Lp l b fun w=>zz u v w (ss u v w*rat q):=(((Lp.const (sin u)).mul La.cos).add (Lm.mul La.sin)).congr fun w=>rfl
  have Lq:=Lz.mul Lz
  have Lr2:Lp l b fun w=>1-e*(1-zz u v w (ss u v w*rat q)*zz u v w (ss u v w*rat q)):=((Lp.const 1).sub' ((Lp.const e).mul ((Lp.const 1).sub' Lq))).congr fun w=>rfl
  have lo:∀w,l<=w->w<=b->rat (98/100)<=1-e*(1-zz u v w (ss u v w*rat q)*zz u v w (ss u v w*rat q)):=fun w h1 h2=>by
   have k:=(zIQ hu hv' (S w h1 h2) (ss u v w*rat q)).1
   generalize zz u v w (ss u v w*rat q)*zz u v w (ss u v w*rat q)=y at *
   exact zH [e,y] (pn (sn e1) (mn e0 k))
  have Lt:=Lr2.sqrt (qp (98/100)) lo
  have Lu:Lp l b fun w=>1/(1+sqrt (1-e*(1-zz u v w (ss u v w*rat q)*zz u v w (ss u v w*rat q)))):=((Lp.const 1).add Lt).inv (qp 1) fun w _ _=>by
   exact zLX (zgX _)
  exact ((Lp.const e).mul Lu).congr fun w=>(div_one _ _ (ne_of_gt (by
   have k:=zgX (1-e*(1-zz u v w (ss u v w*rat q)*zz u v w (ss u v w*rat q)))
   exact ppn (qp 1) k))).symm
 have LM:Lp l b fun w=>m15 (gg e u v w) (ss u v w):=
  (((((((((((((((Lg (1/30)).add (Lg (3/30))).add (Lg (5/30))).add (Lg (7/30))).add (Lg (9/30))).add (Lg (11/30))).add (Lg (13/30))).add (Lg (15/30))).add (Lg (17/30))).add (Lg (19/30))).add (Lg (21/30))).add (Lg (23/30))).add (Lg (25/30))).add (Lg (27/30))).add (Lg (29/30))).congr fun w=>rfl
 have LF:Lp l b fun w=>w-ph e u v l w:=(Lw.sub' ((Lp.const l).add (Ln.mul ((Ls.mul (Lp.const (rat (1/15)))).mul LM)))).congr fun w=>rfl
 -- the signs at the ends
 have gb:∀w,l<=w->w<=b->0<=m15 (gg e u v w) (ss u v w)/\m15 (gg e u v w) (ss u v w)<=15*f:=fun w h1 h2=>zNK fun t=>by
  obtain ⟨k1,k2⟩:=zIQ hu hv' (S w h1 h2) t
  exact zQY f0 f1 he k1 k2
 obtain ⟨w,w1,w2,w3⟩:=LF.zero hlb (by
  obtain ⟨n0,_⟩:=zEZ hu hv' l0 l1 (S l (le_refl l) hlb)
  have s0:=(zuZ hu hv' l).1
  have g0:=(gb l (le_refl l) hlb).1
  show l-(l+nn u v l*(ss u v l*rat (1/15)*m15 (gg e u v l) (ss u v l)))<=0
  generalize m15 (gg e u v l) (ss u v l)=M at *
  generalize nn u v l=n at *;generalize ss u v l=s at *
  exact zH [l,n,s,M] (mn n0 (mn (mn s0 (qn (1/15))) g0))) (by
  obtain ⟨n0,ncl⟩:=zEZ hu hv' (le_trans l0 hlb) hbp (S b hlb (le_refl b))
  have s0:=(zuZ hu hv' b).1
  obtain ⟨g0,g1⟩:=gb b hlb (le_refl b)
  show 0<=b-(l+nn u v b*(ss u v b*rat (1/15)*m15 (gg e u v b) (ss u v b)))
  rcases hend with hb|hb
  ·have nz:nn u v b=0:=by
    unfold nn
    rw [hb,zu1]
    refine zfk (z:=sin (ss u v pi)) (by rw [<- hb];exact S b hlb (le_refl b)) ?_
    rw [div_mul (by rw [<- hb];exact S b hlb (le_refl b))]
    generalize cos u=p;generalize cos v=q;generalize sin (ss u v pi)=r;exact ring [p,q,r]
   rw [nz]
   generalize m15 (gg e u v b) (ss u v b)=M at *;generalize ss u v b=s at *
   exact le_trans (sn hlb) (le_of_eq (ring [b,l,s,M]))
  ·have e2:l=b*(1-f):=hb.symm
   rw [e2]
   generalize m15 (gg e u v b) (ss u v b)=M at *;generalize nn u v b=n at *;generalize ss u v b=s at *
   exact zH [b,f,n,s,M] (pn (mn f0 (sn ncl)) (kn (1/15) (mn (mn n0 s0) (sn g1)))))
 obtain ⟨r1,r2⟩:=inr w w1 w2
 refine ⟨w,w1,r1,r2,?_⟩
 have w3':w-ph e u v l w=0:=w3
 generalize ph e u v l w=y at *
 rw [show y=w-(w-y) from ring [w,y],w3'];exact ring [w]
end Go.Proofs.YtaoakfodkoifoaaGreat.An
namespace Go.Proofs.YtaoakfodkoifoaaGreat.Nc
open Go Go.Proofs.YtaoakfodkoifoaaGreat.An
open Go.Proofs.YtaoakfodkoifoaaGreat.Ev hiding mn zgA neg_eq znV sub_eq
theorem In.mx {h:Re} {H:Iv} (k:In h H) (h0:0<=h):In h (zkE (zf ⟨0,rfl⟩) H):=by
 simp only [zkE,zqN,Tr.get]
 have z:=zyt
 rw [z.1]
 cases hH:za H
 ·exact In.whole _
 ·obtain ⟨k1,k2⟩:=k hH
  have m1:=zeB (zf ⟨0,rfl⟩).lo H.lo
  have m2:=zeB (zf ⟨0,rfl⟩).hi H.hi
  rw [z.2.1] at m1
  rw [z.2.2] at m2
  refine In.make ⟨?_,?_⟩
  ·rcases Int.le_total 0 H.lo.val with c|c
   ·rw [show (zt (zf ⟨0,rfl⟩).lo H.lo).val=H.lo.val by omega];exact k1
   ·rw [show (zt (zf ⟨0,rfl⟩).lo H.lo).val=0 by omega,fx_0];exact h0
  ·refine le_trans k2 (zfu.2 (by omega))
theorem In.mn1 {q:Re} {Q:Iv} (k:In q Q) (h1:q<=1):In q (zhD Q (zf ⟨1,rfl⟩)):=by
 simp only [zhD,zoe,Tr.get]
 cases hQ:za Q
 ·exact In.whole _
 ·have o:=zCW
  have oo:za (zf ⟨1,rfl⟩)=true:=o.1
  rw [oo]
  obtain ⟨k1,k2⟩:=k hQ
  have m1:=zf7 Q.lo (zf ⟨1,rfl⟩).lo
  have m2:=zf7 Q.hi (zf ⟨1,rfl⟩).hi
  have o2:(zf ⟨1,rfl⟩).lo.val=4294967296:=o.2.1
  have o3:(zf ⟨1,rfl⟩).hi.val=4294967296:=o.2.2
  refine In.make ⟨le_trans (zfu.2 (by omega)) k1,?_⟩
  rcases Int.le_total Q.hi.val 4294967296 with c|c
  ·rw [show (zC Q.hi (zf ⟨1,rfl⟩).hi).val=Q.hi.val by omega];exact k2
  ·rw [show (zC Q.hi (zf ⟨1,rfl⟩).hi).val=4294967296 by omega,fx_1];exact h1
theorem In.both {r i:Re} {I:Iv} (k:In i I) (h:An.abs r<=i):In r (zeq I):=by
 simp only [zeq,znv,Tr.get]
 cases hI:za I
 ·exact In.whole _
 ·obtain ⟨k1,k2⟩:=k hI
  have b:=(zaB I).1 hI
  obtain ⟨h1,h2⟩:=zeT h
  refine In.make ⟨?_,le_trans h2 k2⟩
  rw [wi (n:=0-I.hi.val) (by omega) (by omega),show 0-I.hi.val= -I.hi.val by omega,zio]
  generalize fx I.hi.val=c at *
  exact zH [c,i,r] (pn (sn h1) (sn k2))
theorem In.angS {u v w:Re} {U V X:Iv} (hu:0<=An.cos u) (hv':0<=An.cos v) (iu:In u U) (iv:In v V) (iw:In w X):In (ss u v w) (Ev.ang U V X):=by
 obtain ⟨h0,h1⟩:=zJU hu hv' w
 have m1:(-1:Re)<=0:=zH [] (qn 1)
 have s0:=An.zgX (hv u v w)
 have s1:An.sqrt (hv u v w)<=1:=zl0 (qn 1) (by rw [zgj h0];exact le_trans h1 (zH [] (qn 0)))
 have k:In (hv u v w) _:=((iv.sub iu).hlf.sin.sqr).add ((iu.cos.mul iv.cos).mul (iw.hlf.sin.sqr))
 have r:=(k.mx h0).sqrt.asin (le_trans m1 s0) s1
 have t:=(In.int (n:=⟨2,rfl⟩) (by decide)).mul r
 unfold ss Ev.ang
 exact t
theorem In.nn {u v w:Re} {U V X S:Iv} (iu:In u U) (iv:In v V) (iw:In w X) (is:In (ss u v w) S):In (An.nn u v w) (nN U V X S):=by
 unfold An.nn nN
 exact ((iu.cos.mul iv.cos).mul iw.sin).div is.sin
theorem In.mm {u v w:Re} {U V S:Iv} (iu:In u U) (iv:In v V) (is:In (ss u v w) S):In (An.mm u v w) (mM U V S):=by
 unfold An.mm mM
 exact (iv.sin.sub (iu.sin.mul is.cos)).div is.sin
theorem In.pieceG {u v w e t:Re} {U M E S:Iv} {p k:I64} (hz:zz u v w t*zz u v w t<=1) (iu:In u U) (im:In (An.mm u v w) M) (ie:In e E)
  (it:In t (zk S (zQ (.w .i64 ((Rng.w .i64 (2*k.val)).val+1)) (.w .i64 (2*p.val))))):In (gg e u v w t) (zo E (zq one1 (rS S U M E p k))):=by
 have z:In (zz u v w t) _:=(iu.sin.mul it.cos).add (im.mul it.sin)
 have q:=z.sqr.mn1 hz
 have r:=(In.one.sub (ie.mul (In.one.sub q))).sqrt
 unfold gg gq rS one1
 exact ie.div (In.one.add r)
theorem In.quo {a b:I64} {x y:Int} {q:Rat} (ha:a.val=x) (hb:b.val=y) (hy:0<y) (h:zi x=rat q*zi y):In (rat q) (zQ a b):=by
 have k:=In.quotient (a:=a) (b:=b) (by omega)
 rw [ha,hb] at k
 have e:zi x/zi y=rat q:=by
  have yn:zi y≠0:=ne_of_gt (zFe.2 hy)
  refine zfk yn ?_
  rw [div_mul yn,h]
 rwa [e] at k
theorem In.sums3 {u v w e:Re} {U M E S:Iv} (hu:0<=An.cos u) (hv':0<=An.cos v) (hS:An.sin (ss u v w)≠0) (iu:In u U) (im:In (An.mm u v w) M) (ie:In e E) (is:In (ss u v w) S):
  In (m3 (gg e u v w) (ss u v w)) (znU S U M E ⟨3,rfl⟩).v:=by
 have P:∀(k:I64) (q:Rat),In (rat q) (zQ (.w .i64 ((Rng.w .i64 (2*k.val)).val+1)) (.w .i64 (2*(⟨3,rfl⟩:I64).val)))->In (gg e u v w (ss u v w*rat q)) (zo E (zq one1 (rS S U M E ⟨3,rfl⟩ k))):=
  fun k q hq=>In.pieceG (zIQ hu hv' hS _).2 iu im ie (is.mul hq)
 have Q0:=P ⟨0,rfl⟩ (1/6) (In.quo (x:=1) (y:=6) (by decide +kernel) (by decide +kernel) (by decide) (show rat 1=rat (1/6)*rat 6 from An.ring []))
 have Q1:=P (.w .i64 ((⟨0,rfl⟩:I64).val+1)) (3/6) (In.quo (x:=3) (y:=6) (by decide +kernel) (by decide +kernel) (by decide) (show rat 3=rat (3/6)*rat 6 from An.ring []))
 have Q2:=P (.w .i64 ((Rng.w .i64 ((⟨0,rfl⟩:I64).val+1)).val+1)) (5/6) (In.quo (x:=5) (y:=6) (by decide +kernel) (by decide +kernel) (by decide) (show rat 5=rat (5/6)*rat 6 from An.ring []))
 have r:=(In.zero.add Q0).add Q1 |>.add Q2
 have e3:m3 (gg e u v w) (ss u v w)=0+gg e u v w (ss u v w*rat (1/6))+gg e u v w (ss u v w*rat (3/6))+gg e u v w (ss u v w*rat (5/6)):=by
  unfold m3
  generalize gg e u v w (ss u v w*rat (1/6))=a;generalize gg e u v w (ss u v w*rat (3/6))=b;generalize gg e u v w (ss u v w*rat (5/6))=c
  exact An.ring [a,b,c]
 rw [e3]
 exact r
theorem In.sums5 {u v w e:Re} {U M E S:Iv} (hu:0<=An.cos u) (hv':0<=An.cos v) (hS:An.sin (ss u v w)≠0) (iu:In u U) (im:In (An.mm u v w) M) (ie:In e E) (is:In (ss u v w) S):
  In (m5 (gg e u v w) (ss u v w)) (znU S U M E ⟨5,rfl⟩).v:=by
 have P:∀(k:I64) (q:Rat),In (rat q) (zQ (.w .i64 ((Rng.w .i64 (2*k.val)).val+1)) (.w .i64 (2*(⟨5,rfl⟩:I64).val)))->In (gg e u v w (ss u v w*rat q)) (zo E (zq one1 (rS S U M E ⟨5,rfl⟩ k))):=
  fun k q hq=>In.pieceG (zIQ hu hv' hS _).2 iu im ie (is.mul hq)
 have Q0:=P ⟨0,rfl⟩ (1/10) (In.quo (x:=1) (y:=10) (by decide +kernel) (by decide +kernel) (by decide) (show rat 1=rat (1/10)*rat 10 from An.ring []))
 have Q1:=P (.w .i64 ((⟨0,rfl⟩:I64).val+1)) (3/10) (In.quo (x:=3) (y:=10) (by decide +kernel) (by decide +kernel) (by decide) (show rat 3=rat (3/10)*rat 10 from An.ring []))
 have Q2:=P (.w .i64 ((Rng.w .i64 ((⟨0,rfl⟩:I64).val+1)).val+1)) (5/10) (In.quo (x:=5) (y:=10) (by decide +kernel) (by decide +kernel) (by decide) (show rat 5=rat (5/10)*rat 10 from An.ring []))
 have Q3:=P (.w .i64 ((Rng.w .i64 ((Rng.w .i64 ((⟨0,rfl⟩:I64).val+1)).val+1)).val+1)) (7/10) (In.quo (x:=7) (y:=10) (by decide +kernel) (by decide +kernel) (by decide) (show rat 7=rat (7/10)*rat 10 from An.ring []))
 have Q4:=P (.w .i64 ((Rng.w .i64 ((Rng.w .i64 ((Rng.w .i64 ((⟨0,rfl⟩:I64).val+1)).val+1)).val+1)).val+1)) (9/10) (In.quo (x:=9) (y:=10) (by decide +kernel) (by decide +kernel) (by decide) (show rat 9=rat (9/10)*rat 10 from An.ring []))
 have r:=(In.zero.add Q0).add Q1 |>.add Q2 |>.add Q3 |>.add Q4
 have e5:m5 (gg e u v w) (ss u v w)=0+gg e u v w (ss u v w*rat (1/10))+gg e u v w (ss u v w*rat (3/10))+gg e u v w (ss u v w*rat (5/10))+gg e u v w (ss u v w*rat (7/10))+gg e u v w (ss u v w*rat (9/10)):=by
  unfold m5
  generalize gg e u v w (ss u v w*rat (1/10))=a;generalize gg e u v w (ss u v w*rat (3/10))=b;generalize gg e u v w (ss u v w*rat (5/10))=c;generalize gg e u v w (ss u v w*rat (7/10))=d;generalize gg e u v w (ss u v w*rat (9/10))=f
  exact An.ring [a,b,c,d,f]
 rw [e5]
 exact r
theorem zNY {u v w e:Re} (hu:0<=An.cos u) (hv':0<=An.cos v) (hS:An.sin (ss u v w)≠0) (e0:0<=e) (e1:e<=rat (1/50)):SD (rat (3/10)*(e*e)) (gg e u v w):=zOk e0 e1 (zNF hu hv' hS)
theorem In.three {q:Re}:In (rat (3/10)) (zQ ⟨3,rfl⟩ ⟨10,rfl⟩):=In.quo (x:=3) (y:=10) rfl rfl (by decide) (show rat 3=rat (3/10)*rat 10 from An.ring [])
theorem zKe {x:Re} {n:Int} {q:Rat} (hn:0<n) (h:rat q*zi n=1):x/zi n=x*rat q:=by
 have yn:zi n≠0:=ne_of_gt (zFe.2 hn)
 refine zfk yn ?_
 rw [div_mul yn,show x*rat q*zi n=x*(rat q*zi n) from by generalize rat q=r;generalize zi n=z;exact An.ring [x,r,z],h]
 exact An.ring [x]
theorem In.next3 {u v w e l:Re} {U V X E L:Iv} (hu:0<=An.cos u) (hv':0<=An.cos v) (hS:An.sin (ss u v w)≠0) (e0:0<=e) (e1:e<=rat (1/50))
  (iu:In u U) (iv:In v V) (iw:In w X) (ie:In e E) (il:In l L):
  In (An.ph e u v l w) (zFG L E (Ev.ang U V X) (nN U V X (Ev.ang U V X)) ⟨3,rfl⟩ (znU (Ev.ang U V X) U (mM U V (Ev.ang U V X)) E ⟨3,rfl⟩)):=by
 have is:=In.angS hu hv' iu iv iw
 have inn:=In.nn iu iv iw is
 have imm:=In.mm iu iv is
 have sv:=In.sums3 hu hv' hS iu imm ie is
 have s0:=(zuZ hu hv' w).1
 have d:=sum3 (zNY hu hv' hS e0 e1) (ss u v w)
 generalize hS':Ev.ang U V X=S at *
 have c:In (ss u v w*ss u v w*ss u v w/zi 216) (cS S ⟨3,rfl⟩):=((is.mul is).mul is).div (In.int (n:=⟨216,rfl⟩) (by decide))
 rw [zKe (n:=216) (q:=1/216) (by decide) (show rat (1/216)*rat 216=1 from An.ring [])] at c
 have bound:In (rat (3/10)*e*e*(ss u v w*ss u v w*ss u v w*rat (1/216))) _:=(((In.three (q:=e)).mul ie).mul ie).mul c
 have err:=In.both (r:=ss u v w*rat (1/15)*(m15 (gg e u v w) (ss u v w)-5*m3 (gg e u v w) (ss u v w))) bound (by
  have k:=zbp (show An.abs (ss u v w*rat (1/15))<=ss u v w*rat (1/15) from le_of_eq (zbm (An.mn s0 (qn _)))) d
  refine le_trans k ?_
  generalize ss u v w=s at *
  exact zH [e,s] (An.mn (An.mn (An.mn e0 e0) (An.mn s0 (An.mn s0 s0))) (qn (3/10*(1/216)-3/10*(1/225)))))
 have h3:=is.div (In.int (n:=⟨3,rfl⟩) (by decide))
 rw [show zi (⟨3,rfl⟩:I64).val=zi 3 from rfl,zKe (n:=3) (q:=1/3) (by decide) (show rat (1/3)*rat 3=1 from An.ring [])] at h3
 have fin:=il.add (inn.mul ((h3.mul sv).add err))
 have e3:An.ph e u v l w=l+An.nn u v w*(ss u v w*rat (1/3)*m3 (gg e u v w) (ss u v w)+ss u v w*rat (1/15)*(m15 (gg e u v w) (ss u v w)-5*m3 (gg e u v w) (ss u v w))):=by
  unfold An.ph
  generalize m15 (gg e u v w) (ss u v w)=a;generalize m3 (gg e u v w) (ss u v w)=b;generalize An.nn u v w=n;generalize ss u v w=s
  exact An.ring [l,n,s,a,b]
 rw [e3]
 exact fin
theorem In.next5 {u v w e l:Re} {U V X E L:Iv} (hu:0<=An.cos u) (hv':0<=An.cos v) (hS:An.sin (ss u v w)≠0) (e0:0<=e) (e1:e<=rat (1/50))
  (iu:In u U) (iv:In v V) (iw:In w X) (ie:In e E) (il:In l L):
  In (An.ph e u v l w) (zFG L E (Ev.ang U V X) (nN U V X (Ev.ang U V X)) ⟨5,rfl⟩ (znU (Ev.ang U V X) U (mM U V (Ev.ang U V X)) E ⟨5,rfl⟩)):=by
 have is:=In.angS hu hv' iu iv iw
 have inn:=In.nn iu iv iw is
 have imm:=In.mm iu iv is
 have sv:=In.sums5 hu hv' hS iu imm ie is
 have s0:=(zuZ hu hv' w).1
 have d:=sum5 (zNY hu hv' hS e0 e1) (ss u v w)
 generalize hS':Ev.ang U V X=S at *
 have c:In (ss u v w*ss u v w*ss u v w/zi 600) (cS S ⟨5,rfl⟩):=((is.mul is).mul is).div (In.int (n:=⟨600,rfl⟩) (by decide))
 rw [zKe (n:=600) (q:=1/600) (by decide) (show rat (1/600)*rat 600=1 from An.ring [])] at c
 have bound:In (rat (3/10)*e*e*(ss u v w*ss u v w*ss u v w*rat (1/600))) _:=(((In.three (q:=e)).mul ie).mul ie).mul c
 have err:=In.both (r:=ss u v w*rat (1/15)*(m15 (gg e u v w) (ss u v w)-3*m5 (gg e u v w) (ss u v w))) bound (by
  have k:=zbp (show An.abs (ss u v w*rat (1/15))<=ss u v w*rat (1/15) from le_of_eq (zbm (An.mn s0 (qn _)))) d
  refine le_trans k ?_
  generalize ss u v w=s at *
  exact zH [e,s] (An.mn (An.mn (An.mn e0 e0) (An.mn s0 (An.mn s0 s0))) (qn (3/10*(1/600)-3/10*(1/675)))))
 have h5:=is.div (In.int (n:=⟨5,rfl⟩) (by decide))
 rw [show zi (⟨5,rfl⟩:I64).val=zi 5 from rfl,zKe (n:=5) (q:=1/5) (by decide) (show rat (1/5)*rat 5=1 from An.ring [])] at h5
 have fin:=il.add (inn.mul ((h5.mul sv).add err))
 have e5:An.ph e u v l w=l+An.nn u v w*(ss u v w*rat (1/5)*m5 (gg e u v w) (ss u v w)+ss u v w*rat (1/15)*(m15 (gg e u v w) (ss u v w)-3*m5 (gg e u v w) (ss u v w))):=by
  unfold An.ph
  generalize m15 (gg e u v w) (ss u v w)=a;generalize m5 (gg e u v w) (ss u v w)=b;generalize An.nn u v w=n;generalize ss u v w=s
  exact An.ring [l,n,s,a,b]
 rw [e5]
 exact fin
end Go.Proofs.YtaoakfodkoifoaaGreat.Nc
namespace Go.Proofs.YtaoakfodkoifoaaGreat.Nc
open Go Go.Proofs.YtaoakfodkoifoaaGreat.An
open Go.Proofs.YtaoakfodkoifoaaGreat.Ev hiding mn zgA neg_eq znV sub_eq
theorem zN8 {y x:Re} (h:0<=x) (k:¬(y=0/\x=0)): -hp<=An.dir y x/\An.dir y x<=hp:=by
 have p:=hp_p
 rcases lt_or_le 0 y with c|c
 ·have d:=le_of_lt (zIe (x:=x) c)
  refine ⟨le_trans (zH [hp] (le_of_lt p)) d,?_⟩
  rw [zBN c]
  have m:=zea (s:=0) (t:=x/y) (zFW h c)
  rw [zhw] at m
  generalize An.atan (x/y)=a at *
  exact zH [a,hp] m
 ·have d:=zER c h
  refine ⟨?_,le_trans d (le_of_lt p)⟩
  rcases le_iff.1 c with c'|c'
  ·rw [zrU c']
   have e:x/y= -(x / -y):=by
    rw [div_eq,div_eq]
    have n1:(-y:Re)≠0:=ne_of_gt (zdo [y] (sp c'))
    have n2:y≠0:=fun z=>n1 (by rw [z];exact An.ring [])
    have i1:=zpE n1
    have i2:=zpE n2
    refine zfk n2 ?_
    rw [show x*y⁻¹*y=x*(y*y⁻¹) from by generalize y⁻¹=j;exact An.ring [x,y,j],i2,show -(x*(-y)⁻¹)*y=x*(-y*(-y)⁻¹) from by generalize (-y)⁻¹=j;exact An.ring [x,y,j],i1]
   have m:=zea (s:=0) (t:=x / -y) (zFW h (zdo [y] (sp c')))
   rw [zhw] at m
   rw [e,zrX]
   generalize An.atan (x / -y)=a at *
   exact zH [a,hp] m
  ·subst c'
   have e:An.dir 0 x=0:=by
    rcases le_iff.1 h with m|m
    ·rw [zpJ m,div_eq,An.zero_mul,zhw]
    ·exact absurd ⟨rfl,m.symm⟩ k
   rw [e]
   exact zH [hp] (le_of_lt p)
def red (f t:Re):Re:=An.dir ((1-f)*An.sin t) (An.cos t)
theorem zGJ {f:Re} (fp:0<1-f) (t:Re):¬((1-f)*An.sin t=0/\An.cos t=0):=fun ⟨a,b⟩=>by
 have s:=zl2 t
 have a':An.sin t=0:=zfk (ne_of_gt fp) (by rw [An.mul_comm,a];exact (An.zero_mul _).symm)
 rw [a',b] at s
 have:(0:Re)<0:=by
  have p:(0:Re)<1:=qp 1
  rw [<- s] at p
  exact lt_of_lt_of_le p (zH [] (qn 0))
 exact lt_irrefl _ this
theorem zxX {f t:Re} (fp:0<1-f) (h: -hp<=t) (k:t<=hp): -hp<=red f t/\red f t<=hp:=zN8 (zpK h k) (zGJ fp t)
theorem zLF {f t:Re} (fp:0<1-f) (h: -hp<=t) (k:t<=hp):0<=An.cos (red f t):=zpK (zxX fp h k).1 (zxX fp h k).2
theorem zD0 {f a b:Re} (fp:0<1-f) (h: -hp<=a) (hab:a<=b) (k:b<=hp):red f a<=red f b:=by
 have p:=hp_p
 have ra:=zxX fp h (le_trans hab k)
 have rb:=zxX fp (le_trans h hab) k
 refine zDz (zGJ fp a) (zGJ fp b) ?_ ?_
 ·rcases lt_or_le 0 (An.sin b) with c|c
  ·have d:=zIe (x:=An.cos b) (mp fp c)
   have r2:=ra.2
   unfold red at r2
   unfold An.pi
   generalize An.dir ((1-f)*An.sin a) (An.cos a)=A at *;generalize An.dir ((1-f)*An.sin b) (An.cos b)=B at *
   exact zdo [A,B,hp] (ppn (ppn p (sn r2)) (le_of_lt d))
  ·have sm:=znj h hab k
   have d:=zER (y:=(1-f)*An.sin a) (x:=An.cos a) (by
    generalize An.sin a=s at *;generalize An.sin b=t at *
    exact zH [f,s,t] (An.mn (le_of_lt fp) (pn (sn sm) (sn c)))) (zpK h (le_trans hab k))
   have r1:=rb.1
   unfold red at r1
   unfold An.pi
   generalize An.dir ((1-f)*An.sin a) (An.cos a)=A at *;generalize An.dir ((1-f)*An.sin b) (An.cos b)=B at *
   exact zdo [A,B,hp] (ppn (ppn p (sn r1)) (sn d))
 ·have s:=zqx (x:=b-a) (sn hab) (by unfold An.pi;exact zH [a,b,hp] (pn (sn k) (sn h)))
  rw [zjN] at s
  generalize An.sin a=sa at *;generalize An.sin b=sb at *;generalize An.cos a=ca at *;generalize An.cos b=cb at *
  exact zH [f,sa,sb,ca,cb] (An.mn (le_of_lt fp) s)
theorem zNn {f a b:Re} (fp:0<1-f) (h: -An.pi<a) (hab:a<=b) (h2: -hp<=b) (k:b<=hp):red f a<=red f b:=by
 rcases le_total (-hp) a with c|c
 ·exact zD0 fp c hab k
 ·refine le_trans ?_ (zxX fp h2 k).1
  have p:=hp_p
  have s:=zpo (x:= -a) (by exact zdo [a,hp] (ppn p (sn c))) (by exact zdo [a,An.pi] (sp h))
  rw [An.zov] at s
  have cc:An.cos a<=0:=by
   have k1:=zqx (x:= -a-hp) (by exact zH [a,hp] (sn c)) (by have:=le_of_lt (sp h);unfold An.pi at *;exact zH [a,hp] (pn this (le_of_lt p)))
   rw [zjN,zkn,znk,zmD] at k1
   generalize An.cos a=ca at *;generalize An.sin (-a)=sa at *
   exact zH [ca,sa] k1
  have y0:(1-f)*An.sin a<0:=by
   have:=mp fp s
   generalize An.sin a=sa at *
   exact zdo [f,sa] this
  unfold red
  rw [zrU y0]
  generalize (1-f)*An.sin a=y at *
  generalize An.cos a=x at *
  have e:x/y= -x / -y:=by
   have n1:(-y:Re)≠0:=ne_of_gt (zdo [y] (sp y0))
   have n2:y≠0:=fun z=>n1 (by rw [z];exact An.ring [])
   refine zfk n2 ?_
   rw [div_mul n2]
   have d:=div_mul (x:= -x) n1
   generalize -x / -y=q at *
   exact zkl [x,y,q] (congrArg (fun t=> -t) d.symm: - -x= -(q * -y))
  have m:=zea (s:=0) (t:=x/y) (by rw [e];exact zFW (by exact zH [x] (sn cc)) (zdo [y] (sp y0)))
  rw [zhw] at m
  generalize An.atan (x/y)=t at *
  exact zH [t,hp] m
theorem zNo {f a b:Re} (fp:0<1-f) (h:b<An.pi) (hab:a<=b) (h2: -hp<=a) (k:a<=hp):red f a<=red f b:=by
 rcases le_total b hp with c|c
 ·exact zD0 fp h2 hab c
 ·refine le_trans (zxX fp h2 k).2 ?_
  have p:=hp_p
  have s:=zpo (x:=b) (lt_of_lt_of_le p c) h
  have cc:An.cos b<=0:=by
   have k1:=zqx (x:=b-hp) (sn c) (by have:=le_of_lt (sp h);unfold An.pi at *;exact zH [b,hp] (pn this (le_of_lt p)))
   rw [zjN,zkn,znk] at k1
   generalize An.cos b=ca at *;generalize An.sin b=sa at *
   exact zH [ca,sa] k1
  have y0:=mp fp s
  unfold red
  rw [zBN y0]
  generalize (1-f)*An.sin b=y at *
  generalize An.cos b=x at *
  have m:=zea (s:=x/y) (t:=0) (by rw [zBM y0,An.zero_mul];exact cc)
  rw [zhw] at m
  generalize An.atan (x/y)=t at *
  exact zH [t,hp] (sn m)
theorem In.latR {e:Ell} (h:zae e=true) {n:I64}:In (red (ef e) (fx n.val)) (zcu (zk (zG (zf ⟨1,rfl⟩) (zbw e)) (zdV n)) (zes n)):=
 ((In.one.sub (In.flat h)).mul In.sinAt).dir In.cosAt
theorem zEz {e:Ell} (h:zae e=true) {n:I64} (ok:za (zc5 ⟨1,rfl⟩ e n)=true):(-6746518853<=n.val/\n.val<=6746518853)/\zc5 ⟨1,rfl⟩ e n=zcu (zk (zG (zf ⟨1,rfl⟩) (zbw e)) (zdV n)) (zes n):=by
 have hq:=q_val
 have en:(Rng.w .i64 (0-(zaS ⟨1,rfl⟩).hi.val)).val= -6746518853:=by rw [hq];exact wi (by omega) (by omega)
 have hk:ziM ⟨1,rfl⟩=true:=by kernel_rfl
 have e0:zc5 ⟨1,rfl⟩ e n=bif !(decide (-6746518853<=n.val/\n.val<=6746518853)) then zh else zcu (zk (zG (zf ⟨1,rfl⟩) (zbw e)) (zdV n)) (zes n):=by
  simp only [zc5,zks,Tr.get,hk,h,zN4,zdp,Bool.not_true,cfl,zpO,zph]
  rw [en,hq]
  rfl
 by_cases hn: -6746518853<=n.val/\n.val<=6746518853
 ·refine ⟨hn,?_⟩
  rw [e0]
  simp only [hn,and_self,decide_true,Bool.not_true,cfl]
 ·exfalso
  rw [e0] at ok
  simp only [hn,decide_false,Bool.not_false,ctr,zbD] at ok
  cases ok
theorem zJ0 {e:Ell} (h:zae e=true):0<1-ef e:=by
 obtain ⟨f0,f1⟩:=zMD h
 generalize ef e=f at *
 exact zdo [f] (ppn (qp (99/100)) (sn f1))
theorem zN3:fx 6746518853<An.pi /\ -An.pi<fx (-6746518853):=by
 have lo:=zJW
 have e1:fx 6746518853=rat (6746518853/4294967296):=by
  show rat 6746518853*rat (1/4294967296)=_
  exact An.ring []
 have e2:fx (-6746518853)=rat (-6746518853/4294967296):=by
  show rat (-6746518853)*rat (1/4294967296)=_
  exact An.ring []
 rw [e1,e2]
 unfold An.pi
 exact ⟨zdo [hp] (ppn (qp (2*(7244019458077122842/4611686018427387904)-6746518853/4294967296)) (kn 2 (sn lo))),zdo [hp] (ppn (qp (2*(7244019458077122842/4611686018427387904)-6746518853/4294967296)) (kn 2 (sn lo)))⟩
theorem In.redI {e:Ell} (h:zae e=true) {t:Re} (t1: -hp<=t) (t2:t<=hp) {x:Iv} (k:In t x):In (red (ef e) t) (zb4 ⟨1,rfl⟩ e x):=by
 simp only [zb4,zlB,Tr.get]
 cases hx:za x
 ·exact In.whole _
 ·simp only [Bool.not_true,cfl]
  obtain ⟨k1,k2⟩:=k hx
  refine In.zDs fun o1 o2=>?_
  obtain ⟨b1,v1⟩:=zEz h o1
  obtain ⟨b2,v2⟩:=zEz h o2
  have i1:=In.latR h (n:=x.lo)
  have i2:=In.latR h (n:=x.hi)
  have fp:=zJ0 h
  obtain ⟨p1,p2⟩:=zN3
  rw [v1] at o1 ⊢
  rw [v2] at o2 ⊢
  exact ⟨le_trans (i1 o1).1 (zNn fp (lt_of_lt_of_le p2 (zfu.2 b1.1)) k1 t1 t2),le_trans (zNo fp (lt_of_le_of_lt (zfu.2 b2.2) p1) k2 t1 t2) (i2 o2).2⟩
end Go.Proofs.YtaoakfodkoifoaaGreat.Nc
namespace Go.Proofs.YtaoakfodkoifoaaGreat.Nc
open Go Go.Proofs.YtaoakfodkoifoaaGreat.An
open Go.Proofs.YtaoakfodkoifoaaGreat.Ev hiding mn zgA neg_eq znV sub_eq
theorem zB4 (n:I64):(∃j:Int,n.val=(zcK n).val+3600000000*j) /\ -1799999999<=(zcK n).val/\(zcK n).val<=1800000000:=by
 simp only [zcK,ziy,Tr.get]
 have hq:=Int.mul_tdiv_add_tmod n.val 3600000000
 generalize hT:Int.tmod n.val 3600000000=r at *
 generalize Int.tdiv n.val 3600000000=q at *
 have hr: -3600000000<r/\r<3600000000:=by
  rw [<- hT]
  exact ⟨by have:=Int.lt_tmod_of_pos n.val (show (0:Int)<3600000000 by decide);omega,Int.tmod_lt_of_pos n.val (by decide)⟩
 have e1:(Rng.w .i64 r).val=r:=wi (by omega) (by omega)
 simp only [e1]
 by_cases c:r>1800000000
 ·have e2:(Rng.w .i64 (r-3600000000)).val=r-3600000000:=wi (by omega) (by omega)
  have d:¬r-3600000000 <= -1800000000:=by omega
  simp only [e2,c,d,decide_true,decide_false,ctr,cfl]
  exact ⟨⟨q+1,by omega⟩,by omega,by omega⟩
 ·by_cases d:r <= -1800000000
  ·have e2:(Rng.w .i64 (r+3600000000)).val=r+3600000000:=wi (by omega) (by omega)
   simp only [c,d,decide_true,decide_false,ctr,cfl,e2]
   exact ⟨⟨q-1,by omega⟩,by omega,by omega⟩
  ·simp only [c,d,decide_false,cfl,e1]
   exact ⟨⟨q,by omega⟩,by omega,by omega⟩
theorem zGL:Nc.rad 1800000000=An.pi:=by
 show rat ((1800000000:Int):Rat)*(hp*rat (1/900000000))=2*hp
 rw [show ((1800000000:Int):Rat)=1800000000 from rfl];exact An.ring [hp]
def gu (e:Ell) (p:zaA):Re:=red (ef e) (Nc.rad p.lat.val)
def gl (p q:zaA):Re:=An.abs (Nc.rad (gLon p q).val)
theorem In.gu {e:Ell} {p:zaA} (h:zae e=true) (hp':zT p=true):In (Nc.gu e p) (zb4 ⟨1,rfl⟩ e (zaq p.lat)):=In.redI h (zJL hp').1 (zJL hp').2 In.rad
theorem ztv {e:Ell} {p:zaA} (h:zae e=true) (hp':zT p=true):0<=An.cos (Nc.gu e p):=zLF (zJ0 h) (zJL hp').1 (zJL hp').2
theorem In.gl (p q:zaA):In (Nc.gl p q) (zcC (zaq (gLon p q))):=In.rad.abs
theorem zHI (p q:zaA): -1799999999<=(gLon p q).val/\(gLon p q).val<=1800000000:=(zB4 _).2
theorem zQ0 (p q:zaA):0<=Nc.gl p q/\Nc.gl p q<=An.pi:=by
 obtain ⟨b1,b2⟩:=zHI p q
 have a:=zD3 b2
 have b:=zD3 (show -1800000000<=(gLon p q).val by omega)
 rw [zGL] at a
 rw [zza,zGL] at b
 exact ⟨An.zcs _,zeU b a⟩
theorem zNX {p q:zaA} (h1:zT p=true) (h2:zT q=true):Nc.gl q p=Nc.gl p q:=by
 obtain ⟨_,a1,a2⟩:=zEb.1 h1
 obtain ⟨_,b1,b2⟩:=zEb.1 h2
 obtain ⟨⟨i,hi⟩,c1,c2⟩:=zB4 (.w .i64 (q.lon.val-p.lon.val))
 obtain ⟨⟨j,hj⟩,d1,d2⟩:=zB4 (.w .i64 (p.lon.val-q.lon.val))
 have e1:(Rng.w .i64 (q.lon.val-p.lon.val)).val=q.lon.val-p.lon.val:=wi (by omega) (by omega)
 have e2:(Rng.w .i64 (p.lon.val-q.lon.val)).val=p.lon.val-q.lon.val:=wi (by omega) (by omega)
 have k:(gLon q p).val= -(gLon p q).val\/(gLon q p).val=(gLon p q).val:=by
  unfold gLon
  rw [e1] at hi
  rw [e2] at hj
  omega
 unfold Nc.gl
 rcases k with k|k
 ·rw [k,zza,abs_neg]
 ·rw [k]
theorem zkv {e:Ell} {p q:zaA} (h:zae e=true) {w:Re} (h1:Nc.gl p q<=w) (h2:w*(1-ef e)<=Nc.gl p q):In w (zbb (mkS e p q)):=by
 have fp:=zJ0 h
 have B:=(In.gl p q).div (In.one.sub (In.flat h))
 simp only [zbb,zfI,Tr.get]
 exact In.between (In.hull_l (In.gl p q)) (In.hull_r B) h1 ((ztu fp).2 h2)
theorem zDx {A B:Iv} (h:In 0 B):za (zo A B)=false:=by
 cases k:za (zo A B)
 ·rfl
 ·obtain ⟨_,ob,n⟩:=zyj k
  obtain ⟨a,b⟩:=h ob
  rw [<- fx_0] at a b
  exact absurd ⟨zfu.1 a,zfu.1 b⟩ n
theorem zHa {e:Ell} {p q:zaA} (h:zae e=true) (h1:zT p=true) (h2:zT q=true) {w:Re} {X:Iv} (n:I64) (iw:In w X) (hz:An.sin (ss (Nc.gu e p) (Nc.gu e q) w)=0):za (spA (mkS e p q) X n).a=false:=by
 have s:=(In.angS (ztv h h1) (ztv h h2) (In.gu h h1) (In.gu h h2) iw).sin
 rw [hz] at s
 have k:za (nN (mkS e p q).u (mkS e p q).v X (Ev.ang (mkS e p q).u (mkS e p q).v X))=false:=zDx s
 unfold spA
 rw [k]
 simp only [Bool.not_false,ctr]
 exact zbD
theorem zNC {e:Ell} {p q:zaA} (h:zae e=true) (h1:zT p=true) (h2:zT q=true) {w:Re} {X:Iv} (iw:In w X) (hS:An.sin (ss (Nc.gu e p) (Nc.gu e q) w)≠0):In (An.ph (ee e) (Nc.gu e p) (Nc.gu e q) (Nc.gl p q) w) (spA (mkS e p q) X ⟨3,rfl⟩).a:=by
 unfold spA
 cases za (nN (mkS e p q).u (mkS e p q).v X (Ev.ang (mkS e p q).u (mkS e p q).v X))
 ·exact In.whole _
 cases za (mM (mkS e p q).u (mkS e p q).v (Ev.ang (mkS e p q).u (mkS e p q).v X))
 ·exact In.whole _
 exact In.next3 (ztv h h1) (ztv h h2) hS (zKa h).1 (zKa h).2 (In.gu h h1) (In.gu h h2) iw (In.ecc h) (In.gl p q)
theorem zNB {e:Ell} {p q:zaA} (h:zae e=true) (h1:zT p=true) (h2:zT q=true) {w:Re} {X:Iv} (iw:In w X) (hS:An.sin (ss (Nc.gu e p) (Nc.gu e q) w)≠0):In (An.ph (ee e) (Nc.gu e p) (Nc.gu e q) (Nc.gl p q) w) (spA (mkS e p q) X ⟨5,rfl⟩).a:=by
 unfold spA
 cases za (nN (mkS e p q).u (mkS e p q).v X (Ev.ang (mkS e p q).u (mkS e p q).v X))
 ·exact In.whole _
 cases za (mM (mkS e p q).u (mkS e p q).v (Ev.ang (mkS e p q).u (mkS e p q).v X))
 ·exact In.whole _
 exact In.next5 (ztv h h1) (ztv h h2) hS (zKa h).1 (zKa h).2 (In.gu h h1) (In.gu h h2) iw (In.ecc h) (In.gl p q)
theorem zLZ {f:Iv->Iv} {w:Re} (hf:∀X,In w X->In w (f X)):∀(n:Nat) (X:Iv),In w X->In w (zln f n X)
 | 0,X,h=>h
 | n+1,X,h=>by
  have m:=In.meetI h (hf X h)
  simp only [zln]
  cases za (f X)
  ·exact h
  ·rw [m.2];exact zLZ hf n _ m.1
theorem zG0 {f:Iv->Iv} {X:Iv} (h:za (f X)=false) (n:Nat):zln f n X=X:=by
 cases n
 ·rfl
 ·simp only [zln,h,Bool.not_false,ctr]
theorem zKJ {f:Iv->Iv}:∀(n:Nat) (X:Iv),za X=true->za (zln f n X)=true/\X.lo.val<=(zln f n X).lo.val/\(zln f n X).hi.val<=X.hi.val
 | 0,X,h=>⟨h,Int.le_refl _,Int.le_refl _⟩
 | n+1,X,h=>by
  simp only [zln]
  cases h1:za (f X)
  ·exact ⟨h,Int.le_refl _,Int.le_refl _⟩
  cases h2:(zZ X (f X)).b
  ·exact ⟨h,Int.le_refl _,Int.le_refl _⟩
  simp only [Bool.not_true,cfl]
  obtain ⟨k0,k1,k2⟩:za (zZ X (f X)).a=true/\X.lo.val<=(zZ X (f X)).a.lo.val/\(zZ X (f X)).a.hi.val<=X.hi.val:=by
   have b1:=(zaB X).1 h
   have b2:=(zaB (f X)).1 h1
   simp only [zZ,zbJ,Tr.get,h,h1,Bool.not_true,cfl] at h2 ⊢
   have m1:=zeB X.lo (f X).lo
   have m2:=zf7 X.hi (f X).hi
   by_cases hlt:(zt X.lo (f X).lo).val>(zC X.hi (f X).hi).val
   ·simp only [hlt,decide_true,ctr] at h2;cases h2
   ·simp only [hlt,decide_false,cfl]
    exact ⟨(zaB _).2 (by simp only;omega),by omega,by omega⟩
  obtain ⟨r0,r1,r2⟩:=zKJ n _ k0
  exact ⟨r0,Int.le_trans k1 r1,Int.le_trans r2 k2⟩
theorem zx2 {e:Ell} {p q:zaA} (h:zae e=true) (h1:zT p=true) (h2:zT q=true):
  ∃w,Nc.gl p q<=w/\In w (omA e p q ⟨3,rfl⟩)/\In w (omA e q p ⟨5,rfl⟩)/\In w (spA (mkS e p q) (omA e p q ⟨3,rfl⟩) ⟨3,rfl⟩).a:=by
 have f:=zMD h
 have c1:=ztv h h1
 have c2:=ztv h h2
 have lb:=zQ0 p q
 have ls:=zNX h1 h2
 have he:ee e=ef e*(2-ef e):=rfl
 by_cases hS:∀w,Nc.gl p q<=w->w*(1-ef e)<=Nc.gl p q->w<=An.pi->An.sin (ss (Nc.gu e p) (Nc.gu e q) w)≠0
 ·obtain ⟨w,w1,w2,w3,w4⟩:=zN1 c1 c2 f.1 f.2 he lb.1 lb.2 hS
  have s:=hS w w1 w2 w3
  have s':An.sin (ss (Nc.gu e q) (Nc.gu e p) w)≠0:=by rw [zxT];exact s
  have k3:∀X,In w X->In w (spA (mkS e p q) X ⟨3,rfl⟩).a:=fun X hX=>by
   have:=zNC h h1 h2 hX s
   rwa [w4] at this
  have k5:∀X,In w X->In w (spA (mkS e q p) X ⟨5,rfl⟩).a:=fun X hX=>by
   have:=zNB h h2 h1 hX s'
   rwa [ls,zNx c1 c2 s,w4] at this
  have i3:In w (omA e p q ⟨3,rfl⟩):=zLZ k3 4 _ (zkv h w1 w2)
  exact ⟨w,w1,i3,zLZ k5 4 _ (zkv h (by rw [ls];exact w1) (by rw [ls];exact w2)),k3 _ i3⟩
 ·have fp:=zJ0 h
  have ⟨w,hw⟩:=Classical.not_forall.1 hS
  have ⟨w1,hw⟩:=Classical.not_forall.1 hw
  have ⟨w2,hw⟩:=Classical.not_forall.1 hw
  have ⟨w3,hw⟩:=Classical.not_forall.1 hw
  have z:=Classical.not_not.1 hw
  have l1:Nc.gl p q*(1-ef e)<=Nc.gl p q:=by
   generalize Nc.gl p q=l at *;generalize ef e=g at *
   exact zH [l,g] (An.mn lb.1 f.1)
  have n3:=zHa h h1 h2 ⟨3,rfl⟩ (zkv h w1 w2) z
  have n5:=zHa h h2 h1 ⟨5,rfl⟩ (zkv (p:=q) (q:=p) h (by rw [ls];exact w1) (by rw [ls];exact w2)) (by rw [zxT];exact z)
  have e3:omA e p q ⟨3,rfl⟩=zbb (mkS e p q):=zG0 (f:=fun x=>(spA (mkS e p q) x ⟨3,rfl⟩).a) n3 4
  have e5:omA e q p ⟨5,rfl⟩=zbb (mkS e q p):=zG0 (f:=fun x=>(spA (mkS e q p) x ⟨5,rfl⟩).a) n5 4
  refine ⟨Nc.gl p q,le_refl _,?_,?_,?_⟩
  ·rw [e3];exact zkv h (le_refl _) l1
  ·rw [e5];exact zkv h (by rw [ls];exact le_refl _) (by rw [ls];exact l1)
  ·rw [e3];exact In.no n3
theorem zJh {a b:I64} (hb:0<b.val) (ha:0<=a.val) (hab:a.val*100<=b.val):Box 0 42949673 (zQ a b):=by
 rw [zzw]
 unfold QQ
 rw [if_neg (show ¬b.val<0 by omega)]
 unfold QU FF FC MD
 rw [if_pos hb,if_pos hb]
 have q0:0<=a.val*4294967296/b.val:=Int.ediv_nonneg (by omega) (by omega)
 have q1:a.val*4294967296/b.val<=42949672:=by
  have:a.val*4294967296/b.val<42949673:=(Int.ediv_lt_iff_lt_mul hb).2 (by omega)
  omega
 show Box 0 42949673 (bif (zaJ (narrow (a.val*4294967296/b.val)).a (narrow (a.val*4294967296/b.val)).b).b then _ else _)
 generalize a.val*4294967296/b.val=v at *
 have w1:(Rng.w .i64 v).val=v:=wi (by omega) (by omega)
 have w2:(Rng.w .i64 (v+1)).val=v+1:=wi (by omega) (by omega)
 rw [zfj (by omega) (by omega)]
 simp only [w1,if_true]
 rw [zpI (by rw [w1];omega)]
 simp only [ctr]
 by_cases hz:a.val*4294967296%b.val=0
 ·rw [if_pos hz]
  simp only [ctr]
  rw [zbq (by rw [w1];omega)]
  exact ⟨(zaB _).2 (by simp only [w1];omega),by simp only [w1];omega,by simp only [w1];omega⟩
 ·rw [if_neg hz,zpI (by rw [w2];omega)]
  simp only [ctr]
  rw [zbq (by rw [w1,w2];omega)]
  exact ⟨(zaB _).2 (by simp only [w1,w2];omega),by simp only [w1];omega,by simp only [w2];omega⟩
theorem zLI {n:I64} (h1: -1800000000<=n.val) (h2:n.val<=1800000000):Box (-13493037706) 13493037706 (zaq n):=by
 have hi:zaf n ⟨(-36000000000),rfl⟩ ⟨36000000000,rfl⟩=true:=by rw [zdp];simp;omega
 by_cases k0:n.val=0
 ·have e0:(n.val==0)=true:=by simp [k0]
  have ev:zaq n=⟨⟨0,rfl⟩,⟨0,rfl⟩⟩:=by simp only [zaq,zbM,Tr.get,hi,e0,ctr,cfl,Bool.not_true]
  rw [ev]
  exact ⟨(zaB _).2 (by simp only;omega),by simp only;omega,by simp only;omega⟩
 by_cases kp:0<n.val
 ·have v:=(zva kp (by omega)).1
  exact ⟨(zaB _).2 (by rw [v.1,v.2];omega),by rw [v.1];omega,by rw [v.2];omega⟩
 ·have en:(Rng.w .i64 (0-n.val)).val= -n.val:=by rw [wi (by omega) (by omega)];omega
  obtain ⟨_,⟨v1,v2⟩,g⟩:=zva (n:= .w .i64 (0-n.val)) (by rw [en];omega) (by rw [en];omega)
  have e0:(n.val==0)=false:=by simp [k0]
  have hd:decide (n.val<0)=true:=by simp;omega
  simp only [zaq,zbM,Tr.get,hi,e0,hd,g,ctr,cfl,Bool.not_true]
  rw [en] at v1 v2
  generalize zcI (.w .i64 (0-n.val))=x at *
  have ok:za x=true:=(zaB _).2 (by rw [v1,v2];omega)
  have w1:(Rng.w .i64 (0-x.hi.val)).val= -x.hi.val:=by rw [wi (by omega) (by omega)];omega
  have w2:(Rng.w .i64 (0-x.lo.val)).val= -x.lo.val:=by rw [wi (by omega) (by omega)];omega
  simp only [zaK,zhl,Tr.get,ok,Bool.not_true,cfl]
  rw [zbq (by rw [w1,w2];omega)]
  exact ⟨(zaB _).2 (by simp only [w1,w2];omega),by simp only [w1];omega,by simp only [w2];omega⟩
theorem zMV {a:Iv} (h:Box (-13493037706) 13493037706 a):Box 0 13493037706 (zcC a):=by
 obtain ⟨ha,h1,h2⟩:=h
 obtain ⟨e1,e2,e3,e4,e5,e6⟩:=Nc.zl5 ha
 have e7:(zK a).b.val<=13493037706:=by
  obtain ⟨p,q,k,k1,k2,k3⟩:=Ev.zl5 ha
  rw [k]
  simp only
  omega
 simp only [zcC,zi8,Tr.get,ha,Bool.not_true,cfl]
 rw [zbq (by omega)]
 exact ⟨(zaB _).2 (by simp only;omega),by simp only;omega,by simp only;omega⟩
theorem zzH:za (zo ⟨⟨0,rfl⟩,⟨13493037706,rfl⟩⟩ (zG (zf ⟨1,rfl⟩) ⟨⟨0,rfl⟩,⟨42949673,rfl⟩⟩))=true:=by kernel_rfl
theorem zJN:0<(zG (zf ⟨1,rfl⟩) ⟨⟨0,rfl⟩,⟨42949673,rfl⟩⟩).lo.val:=by
 have:(zG (zf ⟨1,rfl⟩) ⟨⟨0,rfl⟩,⟨42949673,rfl⟩⟩).lo.val=4252017623:=by kernel_rfl
 rw [this];decide
theorem zyY {e:Ell} (h:zae e=true) (p q:zaA):za (zbb (mkS e p q))=true:=by
 have b:=zH6 h
 have g:=zHI p q
 have l:=zMV (zLI (n:=gLon p q) (by omega) (by omega))
 have fb:Box 0 42949673 (zbw e):=by
  simp only [zbw,zg2,Tr.get,h,Bool.not_true,cfl]
  exact zJh (by omega) b.2.2.1 b.2.2.2
 have d:=Ev.Sub.div (Box.sub (b:=⟨⟨0,rfl⟩,⟨13493037706,rfl⟩⟩) l) (Ev.Sub.sub (Ev.Sub.refl (zf ⟨1,rfl⟩)) (Box.sub (b:=⟨⟨0,rfl⟩,⟨42949673,rfl⟩⟩) fb)) zJN zzH
 simp only [zbb,zfI,Tr.get]
 exact (zsV l.1 d.1).1
theorem zLY {e:Ell} (h:zae e=true) (p q:zaA) (n:I64):za (omA e p q n)=true/\zal (omA e p q n) (zbb (mkS e p q))=true:=by
 have s:=zyY h p q
 obtain ⟨o,o1,o2⟩:=zKJ (f:=fun x=>(spA (mkS e p q) x n).a) 4 _ s
 refine ⟨o,?_⟩
 show zal (zln (fun x=>(spA (mkS e p q) x n).a) 4 (zbb (mkS e p q))) _=true
 simp only [zal,zde,Tr.get,s,o,Bool.not_true,cfl,ctr,o1,o2,decide_true]
end Go.Proofs.YtaoakfodkoifoaaGreat.Nc
namespace Go.Proofs.YtaoakfodkoifoaaGreat.Nc
open Go Go.Proofs.YtaoakfodkoifoaaGreat.An
open Go.Proofs.YtaoakfodkoifoaaGreat.Ev hiding mn zgA neg_eq znV sub_eq
set_option maxRecDepth 100000
theorem zoC {x:Iv} (h:za x=true):zbn x=⟨x,⟨0,rfl⟩⟩:=by
 simp only [zbn,zjx,Tr.get,h,Bool.not_true,cfl]
theorem zur {x:Iv} (h:za x=false):zbn x=⟨⟨⟨0,rfl⟩,⟨0,rfl⟩⟩,⟨9,rfl⟩⟩:=by
 simp only [zbn,zjx,Tr.get,h,Bool.not_false,ctr]
theorem zGe {e:Ell} {p q:zaA} (h:zae e=true) (h1:zT p=true) (h2:zT q=true):zf2 e p q=zbn (zbb (mkS e p q)):=by
 simp only [zf2,zhZ,Tr.get,zn4,zs1,h,h1,h2,Bool.and_self,Bool.not_true,cfl]
 rw [zrR h1 h2,zvQ,Ev.start_eq (mkG e p q) (mkS e p q) rfl rfl]
theorem zug {n:I64} (hn:1<=n.val/\n.val<=64):zaf n ⟨1,rfl⟩ ⟨64,rfl⟩=true:=by
 rw [zdp];simpa using hn
theorem zGf {e:Ell} {p q:zaA} (h:zae e=true) (h1:zT p=true) (h2:zT q=true) {n:I64} (hn:1<=n.val/\n.val<=64):(zd9 e p q n).opt=some (zbn (omA e p q n)):=by
 have hd:decide (1<=n.val/\n.val<=64)=true:=decide_eq_true hn
 simp only [zd9,Tr.opt,zn4,zs1,zbN,zug hn,hd,h,h1,h2,Bool.and_self,Bool.not_true,cfl]
 rw [zrR h1 h2,zBn _ _ _ hn,zBo _ _ _ hn,zvQ]
 rfl
theorem zKv {e:Ell} {p q:zaA} (h:zae e=true) (h1:zT p=true) (h2:zT q=true) {n:I64} (hn:1<=n.val/\n.val<=64) (x:Iv):(zgy e p q x n).opt=some (zbn (spA (mkS e p q) x n).a):=by
 have hd:decide (1<=n.val/\n.val<=64)=true:=decide_eq_true hn
 simp only [zgy,Tr.opt,zn4,zs1,zbN,zug hn,hd,h,h1,h2,Bool.and_self,Bool.not_true,cfl]
 rw [zrR h1 h2,im_G _ _ hn,im_F _ _ hn,zBs e p q x hn,zvQ]
 rfl
theorem vLen {e:Ell} {p q:zaA} (h:zae e=true) (h1:zT p=true) (h2:zT q=true) {n:I64} (hn:1<=n.val/\n.val<=64):(zdN e p q n).opt=some (zbn (lenQ e p q n)):=by
 have hd:decide (1<=n.val/\n.val<=64)=true:=decide_eq_true hn
 simp only [zdN,Tr.opt,zn4,zs1,zbN,zug hn,hd,h,h1,h2,Bool.and_self,Bool.not_true,cfl]
 rw [zrR h1 h2,zx8 _ _ _ hn,zya _ _ _ hn,zvQ]
 rfl
theorem vLon {p q:zaA} (h1:zT p=true) (h2:zT q=true):(zfY p q).a=gLon p q:=by
 simp only [zfY,zhS,Tr.get,h1,h2,Bool.not_true,cfl]
 rfl
theorem zFB {e:Ell} {p q:zaA} (h:zae e=true) (h1:zT p=true) (h2:zT q=true) {n:I64} (hn:1<=n.val/\n.val<=64):
  (@zhR (ambP p q) e n).opt=some (zbn (zq (zf ⟨0,rfl⟩) (lenQ e p q n))):=by
 letI A:Amb:=ambP p q
 obtain ⟨y,k1,k2,k3,k4,k5,k6,k7,k8⟩:=zJG rfl (Amb.len 0) 0 1048580 ⟨n,zae e,⟨0,rfl⟩,e.a,e.num,e.den,⟨0,rfl⟩,⟨0,rfl⟩⟩ rfl (by omega) (by show 2<1048580;omega) (by show 0<9000000000000000000-2;omega)
 have hG:zeO ⟨n,zae e,⟨0,rfl⟩,e.a,e.num,e.den,⟨0,rfl⟩,⟨0,rfl⟩⟩=true:=by unfold zeO;rw [k1];rfl
 have hL:zjc ⟨n,zae e,⟨0,rfl⟩,e.a,e.num,e.den,⟨0,rfl⟩,⟨0,rfl⟩⟩=y:=Tr.zai k1
 simp only at k2 k3 k4 k5 k6 k7 k8
 have a0:ptA 0=p:=rfl
 have a1:ptA 1=q:=rfl
 have hv:okUp (Amb.len 0) 0=true:=by
  show (zT (ptA 0)&&(zT (ptA 1)&&true))=true
  rw [a0,a1,h1,h2];rfl
 have hl:decide ((lenA 0).val>24)=false:=rfl
 have s1:(Lf zcz 100 ⟨n,⟨1,rfl⟩,e.a,e.num,e.den,⟨0,rfl⟩,⟨0,rfl⟩,(zf ⟨0,rfl⟩).lo,(zf ⟨0,rfl⟩).hi⟩).opt=
   some ⟨n,Rng.w .i64 (1+1),e.a,e.num,e.den,⟨0,rfl⟩,⟨0,rfl⟩,(zq (zf ⟨0,rfl⟩) (lenQ e p q n)).lo,(zq (zf ⟨0,rfl⟩) (lenQ e p q n)).hi⟩:=by
  have c1:decide (((⟨1,rfl⟩:I64)).val<(lenA 0).val)=true:=rfl
  have c2:decide ((Rng.w .i64 (1+1)).val<(lenA 0).val)=false:=by kernel_rfl
  have g1:(decide (0<=((⟨1,rfl⟩:I64)).val)&&decide (((⟨1,rfl⟩:I64)).val<(Amb.pl 0:Int))&&Nat.beq 2 2)=true:=rfl
  have g2:(decide (0<=(Rng.w .i64 (((⟨1,rfl⟩:I64)).val-1)).val)&&decide ((Rng.w .i64 (((⟨1,rfl⟩:I64)).val-1)).val<(Amb.pl 0:Int))&&Nat.beq 2 2)=true:=by kernel_rfl
  have b1:(⟨(Amb.el 0 ((⟨1,rfl⟩:I64)).val).1,(Amb.el 0 ((⟨1,rfl⟩:I64)).val).2⟩:zaA)=q:=rfl
  have z0:(Rng.w .i64 (((⟨1,rfl⟩:I64)).val-1)).val=0:=by kernel_rfl
  have b2:(⟨(Amb.el 0 (Rng.w .i64 (((⟨1,rfl⟩:I64)).val-1)).val).1,(Amb.el 0 (Rng.w .i64 (((⟨1,rfl⟩:I64)).val-1)).val).2⟩:zaA)=p:=by rw [z0];rfl
  obtain ⟨f,hf⟩:∃f:Nat,100=f+1+1:=⟨98,rfl⟩
  rw [hf]
  simp only [Lf,zcz,Tr.bind,Tr.opt,c1,c2,g1,g2,b1,b2,zKL h1 h2,zx7 _ _ _ hn,zx9 _ _ _ hn,ctr,cfl]
 have gG:zeb ⟨n,⟨1,rfl⟩,e.a,e.num,e.den,⟨0,rfl⟩,⟨0,rfl⟩,(zf ⟨0,rfl⟩).lo,(zf ⟨0,rfl⟩).hi⟩=true:=by unfold zeb;rw [s1];rfl
 have gL:ziu ⟨n,⟨1,rfl⟩,e.a,e.num,e.den,⟨0,rfl⟩,⟨0,rfl⟩,(zf ⟨0,rfl⟩).lo,(zf ⟨0,rfl⟩).hi⟩=_:=Tr.zai s1
 simp only [zhR,Tr.opt,hG,hL,k2,k3,k4,k5,k6,k7,k8]
 simp only [h,hv,hl,zug hn,gG,gL,Bool.and_self,Bool.not_true,ctr,cfl]
theorem add0 (L:Iv):zbn (zq (zf ⟨0,rfl⟩) L)=zbn L:=by
 cases hL:za L
 ·rw [zur hL,zur (ztx (.inr hL))]
 ·have z:=zyt
  have b:=(zaB L).1 hL
  obtain ⟨e1,e2⟩:=zII z.1 hL (by rw [z.2.1,z.2.2];omega)
  rw [zoC e2,zoC hL,e1,z.2.1,z.2.2,Int.zero_add,Int.zero_add]
  obtain ⟨⟨a,ha⟩,⟨c,hc⟩⟩:=L
  have wa:(Rng.w .i64 a)=⟨a,ha⟩:=rext (ze9 ha)
  have wc:(Rng.w .i64 c)=⟨c,hc⟩:=rext (ze9 hc)
  rw [wa,wc]
theorem zM8 {e:Ell} {p q:zaA} (h:zae e=true) (h1:zT p=true) (h2:zT q=true) {n:I64} (hn:1<=n.val/\n.val<=64):zix e p q n=zbn (lenQ e p q n):=by
 obtain ⟨r,e1,e2⟩:=@zD8 (ambP p q) rfl (by show 2<=1048576;omega) e n
 have k:=zFB h h1 h2 hn
 rw [e1] at k
 have hF:zix e p q n=r:=Tr.zai e2
 rw [hF,<- add0]
 exact Option.some.inj k
end Go.Proofs.YtaoakfodkoifoaaGreat.Nc
